import PyProof.Rows.All
import Wide.All
import OpenK.AllK
import Wide.FinOn
import KE.KSuper
import KE.DataMinMax
import KE.GoesEnum
import HandS.ForMost
import HandS.More
import HandS.Star
import HandS.ClsMeth
import HandS.Nested
import HandS.IsInst
import HandS.Conv
import HandS.Strs
import HandS.SetFor
import HandS.Style
import HandS.Walk
import HandS.SortKw
import HandS.Defaults
import HandS.HeadNt
import KE.KStateDown
import HandS.Head0
import HandS.Head1
import HandS.Head2
import HandS.HeadEnd
import PySem.Challenge.RW_anyseven_k53_whole_all_sums_between_boun
set_option Elab.async false
set_option linter.all false
set_option maxRecDepth 100000
set_option maxHeartbeats 4000000
/-! The plain law, part 1: rules as steps (moves), the rounds of relaxing, and what they end in. No program in sight. -/
namespace K53
/-- a rule: its length, its low, its high -/
structure Ru where
  len : Nat
  low : Option Int
  high : Option Int
/-- a move: from a to b at cost c; by the rule num, forth (1) or back (-1) -/
structure Mv where
  a : Nat
  b : Nat
  c : Int
  num : Nat
  sg : Int
def mvAt (num : Nat) (r : Ru) (p : Nat) : List Mv :=
  (match r.high with | some h => [⟨p, p + r.len, h, num, 1⟩] | none => []) ++ (match r.low with | some l => [⟨p + r.len, p, -l, num, -1⟩] | none => [])
def mvRule (n num : Nat) (r : Ru) : List Mv := (List.range (n + 1 - r.len)).flatMap (mvAt num r)
def mvAll (n : Nat) : Nat → List Ru → List Mv
  | _, [] => []
  | k, r :: rs => mvRule n k r ++ mvAll n (k + 1) rs

/-- heights that keep the moves -/
def Feas (ms : List Mv) (h : Nat → Int) : Prop := ∀ m ∈ ms, h m.b ≤ h m.a + m.c

/-- the heights h keep the rule r on n days -/
def HKeeps (n : Nat) (h : Nat → Int) (r : Ru) : Prop :=
  ∀ p, p + r.len ≤ n → (∀ l, r.low = some l → l ≤ h (p + r.len) - h p) ∧ (∀ u, r.high = some u → h (p + r.len) - h p ≤ u)

theorem mem_mvAt {num : Nat} {r : Ru} {p : Nat} {m : Mv} : m ∈ mvAt num r p ↔ (∃ u, r.high = some u ∧ m = ⟨p, p + r.len, u, num, 1⟩) ∨ (∃ l, r.low = some l ∧ m = ⟨p + r.len, p, -l, num, -1⟩) := by
  unfold mvAt
  rw [List.mem_append]
  cases r.high <;> cases r.low <;> simp
theorem mem_mvRule {n num : Nat} {r : Ru} {m : Mv} : m ∈ mvRule n num r ↔ ∃ p, p < n + 1 - r.len ∧ m ∈ mvAt num r p := by
  unfold mvRule
  rw [List.mem_flatMap]
  simp [List.mem_range]
theorem mem_mvAll {n : Nat} {m : Mv} : ∀ {rs : List Ru} {k : Nat}, m ∈ mvAll n k rs ↔ ∃ i r, rs[i]? = some r ∧ m ∈ mvRule n (k + i) r
  | [], k => by simp [mvAll]
  | r :: rs, k => by
    show m ∈ mvRule n k r ++ mvAll n (k + 1) rs ↔ _
    rw [List.mem_append, mem_mvAll (rs := rs) (k := k + 1)]
    constructor
    · rintro (h | ⟨i, r', h, h'⟩)
      · exact ⟨0, r, rfl, h⟩
      · exact ⟨i + 1, r', by simpa using h, by rw [show k + (i + 1) = k + 1 + i by omega]; exact h'⟩
    · rintro ⟨i, r', h, h'⟩
      cases i with
      | zero =>
        have e : r = r' := by simpa using h
        subst e
        exact .inl h'
      | succ i => exact .inr ⟨i, r', by simpa using h, by rw [show k + 1 + i = k + (i + 1) by omega]; exact h'⟩
/-- the places of moves -/
theorem mvAll_le {n k : Nat} {rs : List Ru} {m : Mv} (h : m ∈ mvAll n k rs) : m.a ≤ n ∧ m.b ≤ n := by
  obtain ⟨i, r, _, h⟩ := mem_mvAll.mp h
  obtain ⟨p, hp, h⟩ := mem_mvRule.mp h
  rcases mem_mvAt.mp h with ⟨u, _, rfl⟩ | ⟨u, _, rfl⟩
  · exact ⟨show p ≤ n by omega, show p + r.len ≤ n by omega⟩
  · exact ⟨show p + r.len ≤ n by omega, show p ≤ n by omega⟩
/-- moves are kept exactly if the rules are -/
theorem feas_iff {n k : Nat} {rs : List Ru} {h : Nat → Int} : Feas (mvAll n k rs) h ↔ ∀ r ∈ rs, HKeeps n h r := by
  constructor
  · intro f r hr p hp
    obtain ⟨i, hi⟩ := List.getElem?_of_mem hr
    refine ⟨fun l hl => ?_, fun u hu => ?_⟩
    · have := f ⟨p + r.len, p, -l, k + i, -1⟩ (mem_mvAll.mpr ⟨i, r, hi, mem_mvRule.mpr ⟨p, by omega, mem_mvAt.mpr (.inr ⟨l, hl, rfl⟩)⟩⟩)
      simp only at this
      omega
    · have := f ⟨p, p + r.len, u, k + i, 1⟩ (mem_mvAll.mpr ⟨i, r, hi, mem_mvRule.mpr ⟨p, by omega, mem_mvAt.mpr (.inl ⟨u, hu, rfl⟩)⟩⟩)
      simp only at this
      omega
  · intro f m hm
    obtain ⟨i, r, hr, h'⟩ := mem_mvAll.mp hm
    obtain ⟨p, hp, h'⟩ := mem_mvRule.mp h'
    have g := f r (List.mem_of_getElem? hr) p (by omega)
    rcases mem_mvAt.mp h' with ⟨u, e, rfl⟩ | ⟨l, e, rfl⟩
    · have := g.2 u e
      show h (p + r.len) ≤ h p + u
      omega
    · have := g.1 l e
      show h p ≤ h (p + r.len) + -l
      omega

/-! ### relaxing -/
abbrev Cs := List (Option Int)
abbrev Bs := List (Option Mv)
def cAt (C : Cs) (v : Nat) : Option Int := C.getD v none
def bAt (B : Bs) (v : Nat) : Option Mv := B.getD v none
structure WS where
  C : Cs
  B : Bs
  f : Option Nat
/-- does the move m make its end cheaper? -/
def low (C : Cs) (m : Mv) : Bool :=
  match cAt C m.a, cAt C m.b with
  | none, _ => false
  | some _, none => true
  | some d, some e => decide (d + m.c < e)
def newc (C : Cs) (m : Mv) : Int := (cAt C m.a).getD 0 + m.c
def relax (s : WS) (m : Mv) : WS := if low s.C m = true then ⟨s.C.set m.b (some (newc s.C m)), s.B.set m.b (some m), some m.b⟩ else s
def once (ms : List Mv) (C : Cs) (B : Bs) : WS := ms.foldl relax ⟨C, B, none⟩
/-- at most k rounds, ended by one that finds nothing -/
def rounds (ms : List Mv) : Nat → WS → WS
  | 0, s => s
  | k + 1, s => let t := once ms s.C s.B; if t.f = none then t else rounds ms k t

theorem getD_set {α : Type} (l : List (Option α)) (i j : Nat) (x : Option α) (h : i < l.length) : (l.set i x).getD j none = if j = i then x else l.getD j none := by
  simp only [List.getD_eq_getElem?_getD]
  by_cases e : j = i
  · subst e
    rw [if_pos rfl, List.getElem?_set_self h]
    rfl
  · rw [if_neg e, List.getElem?_set_ne (fun z => e z.symm)]

theorem low_some {C : Cs} {m : Mv} (h : low C m = true) : ∃ d, cAt C m.a = some d ∧ ∀ e, cAt C m.b = some e → d + m.c < e := by
  unfold low at h
  split at h
  · cases h
  · rename_i d h1 h2
    exact ⟨d, h1, fun e z => by rw [h2] at z; cases z⟩
  · rename_i d e h1 h2
    refine ⟨d, h1, fun e' z => ?_⟩
    rw [h2] at z
    cases z
    exact of_decide_eq_true h
theorem sat_iff {C : Cs} {m : Mv} : low C m = false ↔ ∀ d, cAt C m.a = some d → ∃ e, cAt C m.b = some e ∧ e ≤ d + m.c := by
  unfold low
  constructor
  · intro h d hd
    rw [hd] at h
    cases e : cAt C m.b with
    | none => rw [e] at h; cases h
    | some x =>
      rw [e] at h
      have := of_decide_eq_false h
      exact ⟨x, rfl, by omega⟩
  · intro h
    cases hd : cAt C m.a with
    | none => rfl
    | some d =>
      obtain ⟨e, he, hle⟩ := h d hd
      rw [he]
      exact decide_eq_false (by omega)

/-- the way back from v by the moves noted, told by its places -/
inductive Chain (B : Bs) : Nat → List Nat → Prop
  | nil {v : Nat} (h : bAt B v = none) : Chain B v []
  | cons {v : Nat} {m : Mv} {p : List Nat} (h : bAt B v = some m) (r : Chain B m.a p) : Chain B v (m.a :: p)
theorem Chain.det {B : Bs} {v : Nat} {p : List Nat} (h : Chain B v p) : ∀ {q}, Chain B v q → p = q := by
  induction h with
  | nil h =>
    intro q hq
    cases hq with
    | nil _ => rfl
    | cons h' _ => rw [h] at h'; cases h'
  | cons h r ih =>
    intro q hq
    cases hq with
    | nil h' => rw [h] at h'; cases h'
    | cons h' r' =>
      rw [h] at h'
      cases h'
      rw [ih r']
theorem Chain.sub {B : Bs} {v : Nat} {p : List Nat} (h : Chain B v p) : ∀ {w}, w ∈ p → ∃ q, Chain B w q ∧ q.length < p.length := by
  induction h with
  | nil h => intro w hw; simp at hw
  | cons h r ih =>
    rename_i v m p
    intro w hw
    rcases List.mem_cons.mp hw with e | hw
    · exact ⟨p, by rw [e]; exact r, by simp⟩
    · obtain ⟨q, hq, hl⟩ := ih hw
      exact ⟨q, hq, by rw [List.length_cons]; omega⟩
theorem Chain.nodup {B : Bs} {v : Nat} {p : List Nat} (h : Chain B v p) : (v :: p).Nodup := by
  induction h with
  | nil h => simp
  | cons h r ih =>
    rename_i v m p
    refine List.nodup_cons.mpr ⟨fun hv => ?_, ih⟩
    obtain ⟨q, hq, hl⟩ := (Chain.cons h r).sub hv
    have := (Chain.cons h r).det hq
    rw [← this] at hl
    omega
/-- unlike numbers up to n are n + 1 at most -/
theorem nodup_le : ∀ (n : Nat) (l : List Nat), l.Nodup → (∀ x ∈ l, x < n) → l.length ≤ n
  | 0, l, _, h => by
    cases l with
    | nil => simp
    | cons x l => exact absurd (h x (by simp)) (by omega)
  | n + 1, l, nd, h => by
    have h1 := nodup_le n (l.erase n) (nd.erase n) (fun x hx => by
      have a := h x (List.mem_of_mem_erase hx)
      have b : x ≠ n := fun e => by
        subst e
        exact (nd.not_mem_erase) hx
      omega)
    have h2 : l.length ≤ (l.erase n).length + 1 := by
      by_cases m : n ∈ l
      · rw [List.length_erase_of_mem m]
        omega
      · rw [List.erase_of_not_mem m]
        omega
    omega

/-- what holds within round r, pre done, post to do -/
structure RI (n : Nat) (ms : List Mv) (h : Nat → Int) (r : Nat) (pre post : List Mv) (s : WS) (last : Nat → Nat) : Prop where
  lc : s.C.length = n + 1
  lb : s.B.length = n + 1
  le : ∀ v, last v ≤ r
  byS : ∀ v m, bAt s.B v = some m → m ∈ ms ∧ m.b = v ∧ ∃ d e, cAt s.C m.a = some d ∧ cAt s.C v = some e ∧ d + m.c ≤ e
  chain : ∀ v d, cAt s.C v = some d → ∃ p, Chain s.B v p ∧ last v ≤ p.length
  sPre : ∀ m ∈ pre, last m.a < r → low s.C m = false
  sPost : ∀ m ∈ post, last m.a + 1 < r → low s.C m = false
  fS : ∀ b, s.f = some b → last b = r ∧ ∃ d, cAt s.C b = some d
  fN : s.f = none → ∀ m ∈ pre, low s.C m = false

/-- along the way back: costs less heights do not grow; all have costs -/
theorem back {n : Nat} {ms : List Mv} {h : Nat → Int} {r : Nat} {pre post : List Mv} {s : WS} {last : Nat → Nat} (F : Feas ms h) (I : RI n ms h r pre post s last) {v : Nat} {p : List Nat} (c : Chain s.B v p) :
    ∀ {d}, cAt s.C v = some d → ∀ w ∈ p, ∃ e, cAt s.C w = some e ∧ e - h w ≤ d - h v := by
  induction c with
  | nil _ => intro d _ w hw; simp at hw
  | cons hb r ih =>
    rename_i v m p
    intro d hd w hw
    obtain ⟨hm, e1, x, y, hx, hy, hle⟩ := I.byS v m hb
    rw [hd] at hy
    cases hy
    have f := F m hm
    rw [e1] at f
    rcases List.mem_cons.mp hw with e | hw
    · rw [e]
      exact ⟨x, hx, by omega⟩
    · obtain ⟨z, hz, hle'⟩ := ih hx w hw
      exact ⟨z, hz, by omega⟩
theorem chain_le {n : Nat} {ms : List Mv} {h : Nat → Int} {r : Nat} {pre post : List Mv} {s : WS} {last : Nat → Nat} (I : RI n ms h r pre post s last) {v : Nat} {p : List Nat} (c : Chain s.B v p) (hd : ∃ d, cAt s.C v = some d) : p.length ≤ n := by
  have at_lt : ∀ w, (∃ d, cAt s.C w = some d) → w < n + 1 := fun w ⟨d, e⟩ => by
    unfold cAt at e
    rw [List.getD_eq_getElem?_getD] at e
    by_cases q : w < s.C.length
    · have := I.lc; omega
    · rw [List.getElem?_eq_none (by omega)] at e
      cases e
  have all : ∀ {v p}, Chain s.B v p → (∃ d, cAt s.C v = some d) → ∀ w ∈ v :: p, w < n + 1 := by
    intro v p c
    induction c with
    | nil _ =>
      intro hd w hw
      rcases List.mem_cons.mp hw with e | hw
      · rw [e]; exact at_lt _ hd
      · simp at hw
    | cons hb r ih =>
      intro hd w hw
      rcases List.mem_cons.mp hw with e | hw
      · rw [e]; exact at_lt _ hd
      · obtain ⟨_, _, x, _, hx, _⟩ := I.byS _ _ hb
        exact ih ⟨x, hx⟩ w hw
  have := nodup_le (n + 1) (v :: p) c.nodup (all c hd)
  rw [List.length_cons] at this
  omega

theorem RI.step {n : Nat} {ms : List Mv} {h : Nat → Int} {r : Nat} {pre post : List Mv} {s : WS} {last : Nat → Nat} {m : Mv} (F : Feas ms h) (hle : ∀ m ∈ ms, m.a ≤ n ∧ m.b ≤ n) (hm : m ∈ ms)
    (I : RI n ms h r pre (m :: post) s last) : ∃ last', RI n ms h r (pre ++ [m]) post (relax s m) last' := by
  unfold relax
  by_cases hl : low s.C m = true
  · rw [if_pos hl]
    obtain ⟨d, hd, hlt⟩ := low_some hl
    have nc : newc s.C m = d + m.c := by unfold newc; rw [hd]; rfl
    rw [nc]
    have fm := F m hm
    have hr : r ≤ last m.a + 1 := by
      refine Nat.le_of_not_lt fun z => ?_
      have := I.sPost m (by simp) z
      rw [hl] at this
      cases this
    have hb : m.b < n + 1 := by have := (hle m hm).2; omega
    have cS : ∀ v, cAt (s.C.set m.b (some (d + m.c))) v = if v = m.b then some (d + m.c) else cAt s.C v := fun v => getD_set _ _ _ _ (by rw [I.lc]; exact hb)
    have bS : ∀ v, bAt (s.B.set m.b (some m)) v = if v = m.b then some m else bAt s.B v := fun v => getD_set _ _ _ _ (by rw [I.lb]; exact hb)
    have nab : m.a ≠ m.b := fun e => by
      have := hlt d (by rw [← e]; exact hd)
      rw [e] at fm
      omega
    obtain ⟨pa, ca, hpa⟩ := I.chain m.a d hd
    have nin : m.b ∉ pa := fun z => by
      obtain ⟨e, he, hle'⟩ := back F I ca hd m.b z
      have := hlt e he
      omega
    -- a chain that does not come to m.b stays
    have stay : ∀ {v p}, Chain s.B v p → v ≠ m.b → m.b ∉ p → Chain (s.B.set m.b (some m)) v p := by
      intro v p c
      induction c with
      | nil hn => intro hv _; exact .nil (by rw [bS, if_neg hv]; exact hn)
      | cons hn r ih =>
        intro hv hp
        have h1 : m.b ≠ _ := fun e => hp (List.mem_cons.mpr (.inl e))
        exact .cons (by rw [bS, if_neg hv]; exact hn) (ih (fun e => h1 e.symm) fun z => hp (List.mem_cons.mpr (.inr z)))
    have cb : Chain (s.B.set m.b (some m)) m.b (m.a :: pa) := .cons (by rw [bS, if_pos rfl]) (stay ca nab nin)
    -- any chain becomes one; if it came to m.b it is r + 1 long at least
    have over : ∀ {v p}, Chain s.B v p → v ≠ m.b → ∃ q, Chain (s.B.set m.b (some m)) v q ∧ (q.length = p.length ∨ r ≤ q.length) := by
      intro v p c
      induction c with
      | nil hn => intro hv; exact ⟨[], .nil (by rw [bS, if_neg hv]; exact hn), .inl rfl⟩
      | cons hn r' ih =>
        rename_i v m' p
        intro hv
        by_cases e : m'.a = m.b
        · refine ⟨m'.a :: (m.a :: pa), .cons (by rw [bS, if_neg hv]; exact hn) (by rw [e]; exact cb), .inr ?_⟩
          simp only [List.length_cons]
          omega
        · obtain ⟨q, cq, hq⟩ := ih e
          refine ⟨m'.a :: q, .cons (by rw [bS, if_neg hv]; exact hn) cq, ?_⟩
          simp only [List.length_cons]
          omega
    have satK : ∀ m', (m'.a ≠ m.b) → low s.C m' = false → low (s.C.set m.b (some (d + m.c))) m' = false := fun m' h1 h2 => by
      rw [sat_iff] at h2 ⊢
      intro x hx
      rw [cS, if_neg h1] at hx
      obtain ⟨e, he, hle'⟩ := h2 x hx
      by_cases q : m'.b = m.b
      · refine ⟨d + m.c, by rw [cS, if_pos q], ?_⟩
        have := hlt e (by rw [← q]; exact he)
        omega
      · exact ⟨e, by rw [cS, if_neg q]; exact he, hle'⟩
    refine ⟨fun v => if v = m.b then r else last v, ⟨?_, ?_, fun v => ?_, fun v m' hv => ?_, fun v x hv => ?_, fun m' hm' hl' => ?_, fun m' hm' hl' => ?_, fun b hb' => ?_, fun z => by simp at z⟩⟩
    · simp [I.lc]
    · simp [I.lb]
    · by_cases e : v = m.b
      · simp [e]
      · simp only [if_neg e]; exact I.le v
    · rw [show (WS.mk (s.C.set m.b (some (d + m.c))) (s.B.set m.b (some m)) (some m.b)).B = s.B.set m.b (some m) from rfl, bS] at hv
      show m' ∈ ms ∧ m'.b = v ∧ ∃ x y, cAt (s.C.set m.b (some (d + m.c))) m'.a = some x ∧ cAt (s.C.set m.b (some (d + m.c))) v = some y ∧ x + m'.c ≤ y
      by_cases e : v = m.b
      · rw [if_pos e] at hv
        cases hv
        exact ⟨hm, e.symm, d, d + m.c, by rw [cS, if_neg nab]; exact hd, by rw [cS, if_pos e], Int.le_refl _⟩
      · rw [if_neg e] at hv
        obtain ⟨h1, h2, x, y, hx, hy, hxy⟩ := I.byS v m' hv
        by_cases q : m'.a = m.b
        · have := hlt x (by rw [← q]; exact hx)
          exact ⟨h1, h2, d + m.c, y, by rw [cS, if_pos q], by rw [cS, if_neg e]; exact hy, by omega⟩
        · exact ⟨h1, h2, x, y, by rw [cS, if_neg q]; exact hx, by rw [cS, if_neg e]; exact hy, hxy⟩
    · show ∃ p, Chain (s.B.set m.b (some m)) v p ∧ _
      have hv' : (if v = m.b then some (d + m.c) else cAt s.C v) = some x := by rw [← cS]; exact hv
      by_cases e : v = m.b
      · refine ⟨m.a :: pa, by rw [e]; exact cb, ?_⟩
        simp only [if_pos e, List.length_cons]
        omega
      · rw [if_neg e] at hv'
        obtain ⟨p, cp, hp⟩ := I.chain v x hv'
        obtain ⟨q, cq, hq⟩ := over cp e
        refine ⟨q, cq, ?_⟩
        simp only [if_neg e]
        have := I.le v
        omega
    · show low (s.C.set m.b (some (d + m.c))) m' = false
      have hl2 : (if m'.a = m.b then r else last m'.a) < r := hl'
      by_cases q : m'.a = m.b
      · rw [if_pos q] at hl2
        exact absurd hl2 (Nat.lt_irrefl _)
      · rw [if_neg q] at hl2
        rcases List.mem_append.mp hm' with hm' | hm'
        · exact satK m' q (I.sPre m' hm' hl2)
        · have e : m' = m := by simpa using hm'
          subst e
          rw [sat_iff]
          intro x hx
          rw [cS, if_neg nab, hd] at hx
          cases hx
          exact ⟨d + m'.c, by rw [cS, if_pos rfl], Int.le_refl _⟩
    · show low (s.C.set m.b (some (d + m.c))) m' = false
      have hl2 : (if m'.a = m.b then r else last m'.a) + 1 < r := hl'
      by_cases q : m'.a = m.b
      · rw [if_pos q] at hl2
        omega
      · rw [if_neg q] at hl2
        exact satK m' q (I.sPost m' (List.mem_cons_of_mem _ hm') hl2)
    · have e : m.b = b := Option.some.inj hb'
      subst e
      exact ⟨by simp, d + m.c, by show cAt (s.C.set m.b (some (d + m.c))) m.b = _; rw [cS, if_pos rfl]⟩
  · rw [if_neg hl]
    have hl : low s.C m = false := by
      cases q : low s.C m
      · rfl
      · exact absurd q hl
    refine ⟨last, ⟨I.lc, I.lb, I.le, I.byS, I.chain, fun m' hm' hl' => ?_, fun m' hm' => I.sPost m' (List.mem_cons_of_mem _ hm'), I.fS, fun hf m' hm' => ?_⟩⟩
    · rcases List.mem_append.mp hm' with hm' | hm'
      · exact I.sPre m' hm' hl'
      · have e : m' = m := by simpa using hm'
        rw [e]; exact hl
    · rcases List.mem_append.mp hm' with hm' | hm'
      · exact I.fN hf m' hm'
      · have e : m' = m := by simpa using hm'
        rw [e]; exact hl
theorem RI.fold {n : Nat} {ms : List Mv} {h : Nat → Int} {r : Nat} (F : Feas ms h) (hle : ∀ m ∈ ms, m.a ≤ n ∧ m.b ≤ n) : ∀ {post pre : List Mv} {s : WS} {last : Nat → Nat}, (∀ m ∈ post, m ∈ ms) → RI n ms h r pre post s last →
    ∃ last', RI n ms h r (pre ++ post) [] (post.foldl relax s) last'
  | [], pre, s, last, _, I => ⟨last, by rw [List.append_nil]; exact I⟩
  | m :: post, pre, s, last, hs, I => by
    obtain ⟨last', I'⟩ := I.step F hle (hs m (by simp))
    obtain ⟨l2, I2⟩ := RI.fold F hle (post := post) (fun m' hm' => hs m' (List.mem_cons_of_mem _ hm')) I'
    exact ⟨l2, by rw [List.append_assoc] at I2; exact I2⟩
/-- what holds between two rounds, r of them behind -/
structure RB (n : Nat) (ms : List Mv) (r : Nat) (s : WS) (last : Nat → Nat) : Prop where
  lc : s.C.length = n + 1
  lb : s.B.length = n + 1
  le : ∀ v, last v ≤ r
  byS : ∀ v m, bAt s.B v = some m → m ∈ ms ∧ m.b = v ∧ ∃ d e, cAt s.C m.a = some d ∧ cAt s.C v = some e ∧ d + m.c ≤ e
  chain : ∀ v d, cAt s.C v = some d → ∃ p, Chain s.B v p ∧ last v ≤ p.length
  sat : ∀ m ∈ ms, last m.a < r → low s.C m = false
theorem RI.rb {n : Nat} {ms : List Mv} {h : Nat → Int} {r : Nat} {s : WS} {last : Nat → Nat} (I : RI n ms h r ms [] s last) : RB n ms r s last := ⟨I.lc, I.lb, I.le, I.byS, I.chain, I.sPre⟩
/-- a round: from behind round r to behind round r + 1 -/
theorem RB.round {n : Nat} {ms : List Mv} {h : Nat → Int} {r : Nat} {s : WS} {last : Nat → Nat} (F : Feas ms h) (hle : ∀ m ∈ ms, m.a ≤ n ∧ m.b ≤ n) (I : RB n ms r s last) :
    ∃ last', RI n ms h (r + 1) ms [] (once ms s.C s.B) last' := by
  have J : RI n ms h (r + 1) [] ms ⟨s.C, s.B, none⟩ last := ⟨I.lc, I.lb, fun v => Nat.le_succ_of_le (I.le v), I.byS, I.chain, (fun m hm => by simp at hm), (fun m hm hl => I.sat m hm (by omega)), (fun b hb => by simp at hb), (fun _ m hm => by simp at hm)⟩
  exact J.fold F hle (fun _ z => z)
/-- behind the rounds nothing is left to relax -/
theorem rounds_end {n : Nat} {ms : List Mv} {h : Nat → Int} (F : Feas ms h) (hle : ∀ m ∈ ms, m.a ≤ n ∧ m.b ≤ n) : ∀ (k r : Nat) (s : WS) (last : Nat → Nat), RB n ms r s last → n + 1 ≤ k + r → 0 < k →
    ∃ r' last', RI n ms h r' ms [] (rounds ms k s) last' ∧ (rounds ms k s).f = none
  | 0, r, s, last, _, _, h0 => absurd h0 (Nat.lt_irrefl _)
  | k + 1, r, s, last, I, hk, _ => by
    obtain ⟨l1, I1⟩ := I.round F hle
    show ∃ r' last', RI n ms h r' ms [] (if (once ms s.C s.B).f = none then once ms s.C s.B else rounds ms k (once ms s.C s.B)) last' ∧ (if (once ms s.C s.B).f = none then once ms s.C s.B else rounds ms k (once ms s.C s.B)).f = none
    by_cases hf : (once ms s.C s.B).f = none
    · rw [if_pos hf]
      exact ⟨r + 1, l1, I1, hf⟩
    · rw [if_neg hf]
      -- a change in this round: a chain of r + 1 places
      obtain ⟨b, hb⟩ : ∃ b, (once ms s.C s.B).f = some b := by
        cases q : (once ms s.C s.B).f with
        | none => exact absurd q hf
        | some b => exact ⟨b, rfl⟩
      obtain ⟨hl, hd⟩ := I1.fS b hb
      obtain ⟨d, hd'⟩ := hd
      obtain ⟨p, c, hp⟩ := I1.chain b d hd'
      have := chain_le I1 c ⟨d, hd'⟩
      exact rounds_end F hle k (r + 1) _ l1 I1.rb (by omega) (by omega)

theorem bAt_none (n v : Nat) : bAt (List.replicate n (none : Option Mv)) v = none := by
  unfold bAt
  rw [List.getD_eq_getElem?_getD]
  cases q : (List.replicate n (none : Option Mv))[v]? with
  | none => rfl
  | some x =>
    have := List.mem_of_getElem? q
    rw [List.mem_replicate] at this
    rw [this.2]; rfl
/-- the start: no move noted -/
theorem RB.start {n : Nat} {ms : List Mv} {C : Cs} {f : Option Nat} (hc : C.length = n + 1) : RB n ms 0 ⟨C, List.replicate (n + 1) none, f⟩ (fun _ => 0) :=
  ⟨hc, by simp, fun _ => Nat.le_refl _, (fun v m hv => by rw [bAt_none] at hv; cases hv), fun v d _ => ⟨[], .nil (bAt_none _ v), Nat.le_refl _⟩, fun m _ z => absurd z (Nat.not_lt_zero _)⟩

/-! ### what else the rounds keep -/
/-- heights below the costs stay below -/
def Under (p : Nat → Int) (C : Cs) : Prop := ∀ v d, cAt C v = some d → p v ≤ d
/-- what has a cost keeps one -/
def Grown (C C' : Cs) : Prop := ∀ v d, cAt C v = some d → ∃ e, cAt C' v = some e ∧ e ≤ d
theorem Grown.refl (C : Cs) : Grown C C := fun v d h => ⟨d, h, Int.le_refl _⟩
theorem Grown.trans {C C' C'' : Cs} (a : Grown C C') (b : Grown C' C'') : Grown C C'' := fun v d h => by
  obtain ⟨e, he, hl⟩ := a v d h
  obtain ⟨e', he', hl'⟩ := b v e he
  exact ⟨e', he', by omega⟩
theorem relax_under {ms : List Mv} {p : Nat → Int} (F : Feas ms p) {s : WS} {m : Mv} (hm : m ∈ ms) (hb : m.b < s.C.length) (U : Under p s.C) : Under p (relax s m).C ∧ Grown s.C (relax s m).C ∧ (relax s m).C.length = s.C.length ∧ (relax s m).B.length = s.B.length := by
  unfold relax
  by_cases hl : low s.C m = true
  · rw [if_pos hl]
    obtain ⟨d, hd, hlt⟩ := low_some hl
    have nc : newc s.C m = d + m.c := by unfold newc; rw [hd]; rfl
    rw [nc]
    have cS : ∀ v, cAt (s.C.set m.b (some (d + m.c))) v = if v = m.b then some (d + m.c) else cAt s.C v := fun v => getD_set _ _ _ _ hb
    refine ⟨fun v x hx => ?_, fun v x hx => ?_, by simp, by simp⟩
    · rw [show (WS.mk (s.C.set m.b (some (d + m.c))) (s.B.set m.b (some m)) (some m.b)).C = s.C.set m.b (some (d + m.c)) from rfl, cS] at hx
      by_cases e : v = m.b
      · rw [if_pos e] at hx
        cases hx
        have := F m hm
        have := U _ _ hd
        rw [e]; omega
      · rw [if_neg e] at hx
        exact U v x hx
    · show ∃ e, cAt (s.C.set m.b (some (d + m.c))) v = some e ∧ e ≤ x
      rw [cS]
      by_cases e : v = m.b
      · rw [if_pos e]
        have := hlt x (by rw [← e]; exact hx)
        exact ⟨_, rfl, by omega⟩
      · rw [if_neg e]
        exact ⟨x, hx, Int.le_refl _⟩
  · rw [if_neg hl]
    exact ⟨U, Grown.refl _, rfl, rfl⟩
theorem fold_under {ms : List Mv} {p : Nat → Int} (F : Feas ms p) {N : Nat} (hle : ∀ m ∈ ms, m.b < N) : ∀ {l : List Mv} {s : WS}, (∀ m ∈ l, m ∈ ms) → s.C.length = N → Under p s.C → Under p (l.foldl relax s).C ∧ Grown s.C (l.foldl relax s).C ∧ (l.foldl relax s).C.length = N ∧ (l.foldl relax s).B.length = s.B.length
  | [], s, _, hn, U => ⟨U, Grown.refl _, hn, rfl⟩
  | m :: l, s, hs, hn, U => by
    obtain ⟨u1, g1, n1, b1⟩ := relax_under F (s := s) (hs m (by simp)) (by rw [hn]; exact hle m (hs m (by simp))) U
    obtain ⟨u2, g2, n2, b2⟩ := fold_under F hle (l := l) (s := relax s m) (fun m' hm' => hs m' (List.mem_cons_of_mem _ hm')) (n1.trans hn) u1
    exact ⟨u2, g1.trans g2, n2, b2.trans b1⟩
theorem rounds_under {ms : List Mv} {p : Nat → Int} (F : Feas ms p) {N : Nat} (hle : ∀ m ∈ ms, m.b < N) : ∀ {k : Nat} {s : WS}, s.C.length = N → Under p s.C → Under p (rounds ms k s).C ∧ Grown s.C (rounds ms k s).C ∧ (rounds ms k s).C.length = N ∧ (rounds ms k s).B.length = s.B.length
  | 0, s, hn, U => ⟨U, Grown.refl _, hn, rfl⟩
  | k + 1, s, hn, U => by
    obtain ⟨u1, g1, n1, b1⟩ := fold_under F hle (l := ms) (s := ⟨s.C, s.B, none⟩) (fun _ z => z) hn U
    show Under p (if (once ms s.C s.B).f = none then once ms s.C s.B else rounds ms k (once ms s.C s.B)).C ∧ Grown s.C (if (once ms s.C s.B).f = none then once ms s.C s.B else rounds ms k (once ms s.C s.B)).C ∧ (if (once ms s.C s.B).f = none then once ms s.C s.B else rounds ms k (once ms s.C s.B)).C.length = N ∧ (if (once ms s.C s.B).f = none then once ms s.C s.B else rounds ms k (once ms s.C s.B)).B.length = s.B.length
    by_cases hf : (once ms s.C s.B).f = none
    · rw [if_pos hf]
      exact ⟨u1, g1, n1, b1⟩
    · rw [if_neg hf]
      obtain ⟨u2, g2, n2, b2⟩ := rounds_under F hle (k := k) (s := once ms s.C s.B) n1 u1
      exact ⟨u2, g1.trans g2, n2, b2.trans b1⟩

/-! ### what the ways end in -/
/-- the end of the ways from costs C0: nothing to relax, all chains end -/
structure Done (n : Nat) (ms : List Mv) (C0 : Cs) (s : WS) : Prop where
  f : s.f = none
  lc : s.C.length = n + 1
  lb : s.B.length = n + 1
  sat : ∀ m ∈ ms, low s.C m = false
  chain : ∀ v d, cAt s.C v = some d → ∃ p, Chain s.B v p ∧ p.length ≤ n
  byS : ∀ v m, bAt s.B v = some m → m ∈ ms ∧ ∃ d, cAt s.C m.a = some d
  under : ∀ p, Feas ms p → Under p C0 → Under p s.C
  grown : Grown C0 s.C
def ways (n : Nat) (ms : List Mv) (C0 : Cs) : WS := rounds ms (n + 1) ⟨C0, List.replicate (n + 1) none, none⟩
/-- a shift of heights below costs -/
theorem feas_shift {ms : List Mv} {h : Nat → Int} (F : Feas ms h) (k : Int) : Feas ms (fun v => h v + k) := fun m hm => by
  have := F m hm
  show h m.b + k ≤ h m.a + k + m.c
  omega
theorem under_shift (h : Nat → Int) : ∀ (N : Nat) (C : Cs), C.length ≤ N → ∃ k : Int, Under (fun v => h v + k) C := fun N C hN => by
  -- go down to the least of d - h v
  have go : ∀ n : Nat, ∃ k : Int, ∀ v, v < n → ∀ d, cAt C v = some d → h v + k ≤ d := by
    intro n
    induction n with
    | zero => exact ⟨0, fun v hv => absurd hv (Nat.not_lt_zero _)⟩
    | succ n ih =>
      obtain ⟨k, hk⟩ := ih
      cases q : cAt C n with
      | none =>
        refine ⟨k, fun v hv d hd => ?_⟩
        by_cases e : v = n
        · rw [e, q] at hd; cases hd
        · exact hk v (by omega) d hd
      | some x =>
        refine ⟨min k (x - h n), fun v hv d hd => ?_⟩
        by_cases e : v = n
        · rw [e, q] at hd
          cases hd
          rw [e]; omega
        · have := hk v (by omega) d hd
          omega
  obtain ⟨k, hk⟩ := go N
  refine ⟨k, fun v d hd => ?_⟩
  refine hk v ?_ d hd
  refine Nat.lt_of_not_le fun z => ?_
  unfold cAt at hd
  rw [List.getD_eq_getElem?_getD, List.getElem?_eq_none (by omega)] at hd
  cases hd
theorem ways_done {n : Nat} {ms : List Mv} {h : Nat → Int} {C0 : Cs} (F : Feas ms h) (hle : ∀ m ∈ ms, m.a ≤ n ∧ m.b ≤ n) (hc : C0.length = n + 1) : Done n ms C0 (ways n ms C0) := by
  obtain ⟨r, last, I, hf⟩ := rounds_end F hle (n + 1) 0 ⟨C0, List.replicate (n + 1) none, none⟩ _ (RB.start hc) (by omega) (by omega)
  have ug : ∀ p, Feas ms p → Under p C0 → _ := fun p Fp U => rounds_under Fp (N := n + 1) (fun m hm => by have := (hle m hm).2; omega) (k := n + 1) (s := ⟨C0, List.replicate (n + 1) none, none⟩) hc U
  obtain ⟨k, hk⟩ := under_shift h (n + 1) C0 (by omega)
  refine ⟨hf, I.lc, I.lb, I.fN hf, fun v d hd => ?_, fun v m hv => ?_, fun p Fp U => (ug p Fp U).1, (ug _ (feas_shift F k) hk).2.1⟩
  · obtain ⟨p, c, _⟩ := I.chain v d hd
    exact ⟨p, c, chain_le I c ⟨d, hd⟩⟩
  · obtain ⟨h1, _, d, _, hd, _⟩ := I.byS v m hv
    exact ⟨h1, d, hd⟩

/-! ### from all places, from one place -/
def C0all (n : Nat) : Cs := List.replicate (n + 1) (some 0)
def C0one (n i : Nat) : Cs := (List.range (n + 1)).map fun p => if p = i then some 0 else none
theorem cAt_all {n v : Nat} (h : v ≤ n) : cAt (C0all n) v = some 0 := by
  unfold cAt C0all
  rw [List.getD_eq_getElem?_getD, List.getElem?_replicate, if_pos (by omega)]
  rfl
theorem cAt_one {n i v : Nat} (h : v ≤ n) : cAt (C0one n i) v = if v = i then some 0 else none := by
  unfold cAt C0one
  rw [List.getD_eq_getElem?_getD, List.getElem?_map, List.getElem?_range (by omega)]
  rfl
theorem cAt_oneS {n i v : Nat} {d : Int} (h : cAt (C0one n i) v = some d) : v = i ∧ d = 0 := by
  by_cases hv : v ≤ n
  · rw [cAt_one hv] at h
    by_cases e : v = i
    · rw [if_pos e] at h; cases h; exact ⟨e, rfl⟩
    · rw [if_neg e] at h; cases h
  · unfold cAt C0one at h
    rw [List.getD_eq_getElem?_getD, List.getElem?_eq_none (by simp; omega)] at h
    cases h
/-- from all places: all have costs, and the costs keep the moves -/
theorem all_costs {n : Nat} {ms : List Mv} {s : WS} (D : Done n ms (C0all n) s) : ∀ v, v ≤ n → ∃ d, cAt s.C v = some d := fun v hv => by
  obtain ⟨e, he, _⟩ := D.grown v 0 (cAt_all hv)
  exact ⟨e, he⟩
theorem costs_feas {n : Nat} {ms : List Mv} {C0 : Cs} {s : WS} (D : Done n ms C0 s) (hle : ∀ m ∈ ms, m.a ≤ n ∧ m.b ≤ n) (ha : ∀ v, v ≤ n → ∃ d, cAt s.C v = some d) : Feas ms (fun v => (cAt s.C v).getD 0) := fun m hm => by
  obtain ⟨d, hd⟩ := ha m.a (hle m hm).1
  obtain ⟨e, he, hl⟩ := sat_iff.mp (D.sat m hm) d hd
  show (cAt s.C m.b).getD 0 ≤ (cAt s.C m.a).getD 0 + m.c
  rw [hd, he]
  exact hl
/-- from one place: its cost is 0 -/
theorem one_zero {n i : Nat} {ms : List Mv} {h : Nat → Int} {s : WS} (F : Feas ms h) (hi : i ≤ n) (D : Done n ms (C0one n i) s) : cAt s.C i = some 0 := by
  have F' := feas_shift F (-(h i))
  have U : Under (fun v => h v + -(h i)) (C0one n i) := fun v d hd => by
    obtain ⟨e, e'⟩ := cAt_oneS hd
    rw [e, e']
    show h i + -(h i) ≤ 0
    omega
  obtain ⟨e, he, hle⟩ := D.grown i 0 (by rw [cAt_one hi, if_pos rfl])
  have := D.under _ F' U i e he
  have e0 : e = 0 := by
    have t : h i + -(h i) ≤ e := this
    omega
  rw [he, e0]
/-- no row has more -/
theorem one_most {n i v : Nat} {ms : List Mv} {s : WS} {d : Int} (D : Done n ms (C0one n i) s) (hd : cAt s.C v = some d) {p : Nat → Int} (F : Feas ms p) : p v - p i ≤ d := by
  have F' := feas_shift F (-(p i))
  have U : Under (fun v => p v + -(p i)) (C0one n i) := fun v d hd => by
    obtain ⟨e, e'⟩ := cAt_oneS hd
    rw [e, e']
    show p i + -(p i) ≤ 0
    omega
  have t : p v + -(p i) ≤ d := D.under _ F' U v d hd
  omega
/-- the places that ways come to are left by no move -/
theorem closed {n : Nat} {ms : List Mv} {C0 : Cs} {s : WS} (D : Done n ms C0 s) {m : Mv} (hm : m ∈ ms) (h : (cAt s.C m.a).isSome = true) : (cAt s.C m.b).isSome = true := by
  cases q : cAt s.C m.a with
  | none => rw [q] at h; cases h
  | some d =>
    obtain ⟨e, he, _⟩ := sat_iff.mp (D.sat m hm) d q
    rw [he]; rfl
/-- all other places raised: the moves are kept -/
theorem raised_feas {n : Nat} {ms : List Mv} {C0 : Cs} {s : WS} {h : Nat → Int} (F : Feas ms h) (D : Done n ms C0 s) {k : Int} (hk : 0 ≤ k) : Feas ms (fun v => h v + (if (cAt s.C v).isSome = true then 0 else k)) := fun m hm => by
  have f := F m hm
  have c := closed D hm
  show h m.b + (if (cAt s.C m.b).isSome = true then 0 else k) ≤ h m.a + (if (cAt s.C m.a).isSome = true then 0 else k) + m.c
  by_cases a : (cAt s.C m.a).isSome = true
  · rw [if_pos a, if_pos (c a)]
    omega
  · rw [if_neg a]
    by_cases b : (cAt s.C m.b).isSome = true
    · rw [if_pos b]; omega
    · rw [if_neg b]; omega
/-- the lesser of two heights at each place -/
theorem min_feas {ms : List Mv} {p q : Nat → Int} (F : Feas ms p) (G : Feas ms q) : Feas ms (fun v => min (p v) (q v)) := fun m hm => by
  have f := F m hm
  have g := G m hm
  show min (p m.b) (q m.b) ≤ min (p m.a) (q m.a) + m.c
  omega
/-- all sums between the least and the greatest -/
theorem between {n i j : Nat} {ms : List Mv} {C D : WS} {h : Nat → Int} {G L : Int} (F : Feas ms h) (hle : ∀ m ∈ ms, m.a ≤ n ∧ m.b ≤ n) (hi : i ≤ n) (hj : j ≤ n) (DC : Done n ms (C0one n i) C) (DD : Done n ms (C0one n j) D)
    (aC : ∀ v, v ≤ n → ∃ d, cAt C.C v = some d) (aD : ∀ v, v ≤ n → ∃ d, cAt D.C v = some d) (hG : cAt C.C j = some G) (hL : cAt D.C i = some L) (x : Int) :
    (∃ p, Feas ms p ∧ p j - p i = x) ↔ -L ≤ x ∧ x ≤ G := by
  constructor
  · rintro ⟨p, Fp, e⟩
    have a := one_most DC hG Fp
    have b := one_most DD hL Fp
    omega
  · rintro ⟨h1, h2⟩
    have F1 := costs_feas DC hle aC
    have F2 := feas_shift (costs_feas DD hle aD) (x)
    have zi := one_zero F hi DC
    have zj := one_zero F hj DD
    refine ⟨_, min_feas F1 F2, ?_⟩
    show min ((cAt C.C j).getD 0) ((cAt D.C j).getD 0 + x) - min ((cAt C.C i).getD 0) ((cAt D.C i).getD 0 + x) = x
    rw [hG, hL, zi, zj]
    show min G (0 + x) - min 0 (L + x) = x
    omega
end K53
/-! The plain law, part 2: rows as lists of gains; what the listing finds; the drawn rules. -/
namespace K53
/-- the height behind v days -/
def HT (gs : List Int) (v : Nat) : Int := (gs.take v).sum
theorem sum_app (a b : List Int) : (a ++ b).sum = a.sum + b.sum := List.sum_append
theorem take_split (gs : List Int) (p l : Nat) : gs.take (p + l) = gs.take p ++ (gs.drop p).take l := List.take_add
theorem cut_sum (gs : List Int) (p l : Nat) : ((gs.drop p).take l).sum = HT gs (p + l) - HT gs p := by
  unfold HT
  rw [take_split, sum_app]
  omega
/-- the sums of l days on end -/
def sumsL (gs : List Int) (l : Nat) : List Int := (List.range (gs.length + 1 - l)).map fun p => ((gs.drop p).take l).sum
theorem mem_sums {gs : List Int} {l : Nat} {x : Int} : x ∈ sumsL gs l ↔ ∃ p, p < gs.length + 1 - l ∧ x = HT gs (p + l) - HT gs p := by
  unfold sumsL
  rw [List.mem_map]
  constructor
  · rintro ⟨p, hp, e⟩
    exact ⟨p, List.mem_range.mp hp, by rw [← e, cut_sum]⟩
  · rintro ⟨p, hp, e⟩
    exact ⟨p, List.mem_range.mpr hp, by rw [e, cut_sum]⟩
/-- the gains keep the rule -/
def GKeeps (gs : List Int) (r : Ru) : Prop := ∀ x ∈ sumsL gs r.len, (∀ l, r.low = some l → l ≤ x) ∧ (∀ u, r.high = some u → x ≤ u)
theorem gkeeps_iff {gs : List Int} {r : Ru} {n : Nat} (h1 : 1 ≤ r.len) (hn : gs.length = n) : GKeeps gs r ↔ HKeeps n (HT gs) r := by
  subst hn
  constructor
  · intro g p hp
    exact g _ (mem_sums.mpr ⟨p, by omega, rfl⟩)
  · intro k x hx
    obtain ⟨p, hp, rfl⟩ := mem_sums.mp hx
    exact k p (by omega)
theorem keeps_feas {gs : List Int} {rs : List Ru} {n : Nat} (h1 : ∀ r ∈ rs, 1 ≤ r.len) (hn : gs.length = n) : (∀ r ∈ rs, GKeeps gs r) ↔ Feas (mvAll n 0 rs) (HT gs) := by
  rw [feas_iff]
  exact ⟨fun h r hr => (gkeeps_iff (h1 r hr) hn).mp (h r hr), fun h r hr => (gkeeps_iff (h1 r hr) hn).mpr (h r hr)⟩
/-- gains from heights -/
def gainsOf (p : Nat → Int) (n : Nat) : List Int := (List.range n).map fun k => p (k + 1) - p k
theorem gainsOf_len (p : Nat → Int) (n : Nat) : (gainsOf p n).length = n := by unfold gainsOf; simp
theorem gainsOf_HT (p : Nat → Int) (n : Nat) : ∀ v, v ≤ n → HT (gainsOf p n) v = p v - p 0
  | 0, _ => by simp [HT]
  | v + 1, h => by
    have ih := gainsOf_HT p n v (by omega)
    unfold HT at ih ⊢
    have e : (gainsOf p n)[v]? = some (p (v + 1) - p v) := by
      unfold gainsOf
      rw [List.getElem?_map, List.getElem?_range (by omega)]
      rfl
    rw [List.take_add_one, e, sum_app, ih]
    simp
    omega
/-- moves see the differences only -/
theorem feas_gains {n : Nat} {rs : List Ru} {p : Nat → Int} (F : Feas (mvAll n 0 rs) p) : Feas (mvAll n 0 rs) (HT (gainsOf p n)) := fun m hm => by
  have h := mvAll_le hm
  have f := F m hm
  rw [gainsOf_HT p n _ h.1, gainsOf_HT p n _ h.2]
  omega
/-- the box: gains within low, high -/
def InBox (low high : Int) (gs : List Int) : Prop := ∀ g ∈ gs, low ≤ g ∧ g ≤ high
theorem box_of {n : Nat} {rs : List Ru} {low high : Int} {p : Nat → Int} (hr : (⟨1, some low, some high⟩ : Ru) ∈ rs) (F : Feas (mvAll n 0 rs) p) : InBox low high (gainsOf p n) := fun g hg => by
  unfold gainsOf at hg
  obtain ⟨k, hk, e⟩ := List.mem_map.mp hg
  have hk := List.mem_range.mp hk
  have h := feas_iff.mp F _ hr k (show k + 1 ≤ n by omega)
  have a : low ≤ p (k + 1) - p k := h.1 low rfl
  have b : p (k + 1) - p k ≤ high := h.2 high rfl
  omega
/-- with a rule of one day and both bounds all places are come to -/
theorem all_reached {n i : Nat} {rs : List Ru} {low high : Int} {s : WS} (hr : (⟨1, some low, some high⟩ : Ru) ∈ rs) (hi : i ≤ n) (D : Done n (mvAll n 0 rs) (C0one n i) s) : ∀ v, v ≤ n → ∃ d, cAt s.C v = some d := by
  obtain ⟨j, hj⟩ := List.getElem?_of_mem hr
  have fwd : ∀ k, k + 1 ≤ n → (cAt s.C k).isSome = true → (cAt s.C (k + 1)).isSome = true := fun k hk h => by
    have hm : (⟨k, k + 1, high, 0 + j, 1⟩ : Mv) ∈ mvAll n 0 rs := mem_mvAll.mpr ⟨j, _, hj, mem_mvRule.mpr ⟨k, by show k < n + 1 - 1; omega, mem_mvAt.mpr (.inl ⟨high, rfl, rfl⟩)⟩⟩
    exact closed D hm h
  have bwd : ∀ k, k + 1 ≤ n → (cAt s.C (k + 1)).isSome = true → (cAt s.C k).isSome = true := fun k hk h => by
    have hm : (⟨k + 1, k, -low, 0 + j, -1⟩ : Mv) ∈ mvAll n 0 rs := mem_mvAll.mpr ⟨j, _, hj, mem_mvRule.mpr ⟨k, by show k < n + 1 - 1; omega, mem_mvAt.mpr (.inr ⟨low, rfl, rfl⟩)⟩⟩
    exact closed D hm h
  have h0 : (cAt s.C i).isSome = true := by
    obtain ⟨e, he, _⟩ := D.grown i 0 (by rw [cAt_one hi, if_pos rfl])
    rw [he]
    rfl
  have up : ∀ q, i + q ≤ n → (cAt s.C (i + q)).isSome = true := fun q => by
    induction q with
    | zero => exact fun _ => h0
    | succ q ih => exact fun h => fwd (i + q) h (ih (by omega))
  have dn : ∀ q, q ≤ i → (cAt s.C (i - q)).isSome = true := fun q => by
    induction q with
    | zero => exact fun _ => h0
    | succ q ih =>
      intro h
      have := ih (by omega)
      rw [show i - q = i - (q + 1) + 1 by omega] at this
      exact bwd _ (by omega) this
  intro v hv
  refine Option.isSome_iff_exists.mp ?_
  rcases Nat.le_total i v with h | h
  · have := up (v - i) (by omega)
    rwa [show i + (v - i) = v by omega] at this
  · have := dn (i - v) (by omega)
    rwa [show i - (i - v) = v by omega] at this
/-- the sums had by the rows of the box are all between the two bounds -/
theorem sums_had {n i l : Nat} {rs : List Ru} {low high : Int} {h : Nat → Int} {C D : WS} {G L : Int} (h1 : ∀ r ∈ rs, 1 ≤ r.len) (hr : (⟨1, some low, some high⟩ : Ru) ∈ rs) (hl : i + l ≤ n) (F : Feas (mvAll n 0 rs) h)
    (DC : Done n (mvAll n 0 rs) (C0one n i) C) (DD : Done n (mvAll n 0 rs) (C0one n (i + l)) D) (hG : cAt C.C (i + l) = some G) (hL : cAt D.C i = some L) (x : Int) :
    (∃ gs : List Int, gs.length = n ∧ InBox low high gs ∧ (∀ r ∈ rs, GKeeps gs r) ∧ ((gs.drop i).take l).sum = x) ↔ -L ≤ x ∧ x ≤ G := by
  rw [← between F (fun m hm => mvAll_le hm) (show i ≤ n by omega) hl DC DD (all_reached hr (by omega) DC) (all_reached hr hl DD) hG hL x]
  constructor
  · rintro ⟨gs, hn, _, hk, e⟩
    exact ⟨HT gs, (keeps_feas h1 hn).mp hk, by rw [← cut_sum]; exact e⟩
  · rintro ⟨p, Fp, e⟩
    refine ⟨gainsOf p n, gainsOf_len p n, box_of hr Fp, (keeps_feas h1 (gainsOf_len p n)).mpr (feas_gains Fp), ?_⟩
    rw [cut_sum, gainsOf_HT p n _ hl, gainsOf_HT p n _ (by omega)]
    omega
/-- all lists of the box -/
def allL : Nat → Int → Nat → List (List Int)
  | 0, _, _ => [[]]
  | n + 1, low, k => (allL n low k).flatMap fun g => (List.range k).map fun j : Nat => g ++ [low + (j : Int)]
theorem mem_allL {low : Int} {k : Nat} : ∀ {n : Nat} {gs : List Int}, gs ∈ allL n low k ↔ gs.length = n ∧ InBox low (low + k - 1) gs
  | 0, gs => by
    unfold allL
    constructor
    · intro h
      have e := List.mem_singleton.mp h
      subst e
      exact ⟨rfl, fun g hg => by cases hg⟩
    · rintro ⟨h, _⟩
      rw [List.length_eq_zero_iff.mp h]
      simp
  | n + 1, gs => by
    unfold allL
    rw [List.mem_flatMap]
    constructor
    · rintro ⟨g, hg, h⟩
      obtain ⟨j, hj, rfl⟩ := List.mem_map.mp h
      have hj := List.mem_range.mp hj
      obtain ⟨hl, hb⟩ := mem_allL.mp hg
      refine ⟨by simp [hl], fun y hy => ?_⟩
      rcases List.mem_append.mp hy with hy | hy
      · exact hb y hy
      · rw [List.mem_singleton.mp hy]
        omega
    · rintro ⟨hl, hb⟩
      have hne : gs ≠ [] := fun e => by rw [e] at hl; cases hl
      refine ⟨gs.dropLast, mem_allL.mpr ⟨by simp [hl], fun y hy => hb y (List.dropLast_subset _ hy)⟩, ?_⟩
      have hx := hb _ (List.getLast_mem hne)
      refine List.mem_map.mpr ⟨(gs.getLast hne - low).toNat, List.mem_range.mpr (by omega), ?_⟩
      rw [show low + ((gs.getLast hne - low).toNat : Int) = gs.getLast hne by omega]
      exact List.dropLast_concat_getLast hne
theorem allL_len (low : Int) (k : Nat) : ∀ n, (allL n low k).length = k ^ n
  | 0 => rfl
  | n + 1 => by
    unfold allL
    rw [List.length_flatMap]
    simp only [List.length_map, List.length_range]
    rw [List.map_const', List.sum_replicate_nat, allL_len low k n, Nat.pow_succ]
/-- a sum of the box -/
theorem box_sum {low high : Int} : ∀ {gs : List Int}, InBox low high gs → (gs.length : Int) * low ≤ gs.sum ∧ gs.sum ≤ (gs.length : Int) * high
  | [], _ => by simp
  | g :: gs, h => by
    have ih := box_sum (gs := gs) fun y hy => h y (List.mem_cons_of_mem _ hy)
    have hg := h g (by simp)
    rw [List.sum_cons, List.length_cons]
    have e1 : ((gs.length + 1 : Nat) : Int) * low = gs.length * low + low := by rw [Int.natCast_add, Int.add_mul]; simp
    have e2 : ((gs.length + 1 : Nat) : Int) * high = gs.length * high + high := by rw [Int.natCast_add, Int.add_mul]; simp
    omega
/-- unlike numbers of a stretch -/
theorem nodup_int {B : Nat} {ms : List Int} (nd : ms.Nodup) (h : ∀ x ∈ ms, -(B : Int) ≤ x ∧ x ≤ B) : ms.length ≤ 2 * B + 1 := by
  have q := nodup_le (2 * B + 1) (ms.map fun x : Int => (x + (B : Int)).toNat) ?_ ?_
  · rw [List.length_map] at q; exact q
  · have nd' : ms.Pairwise (· ≠ ·) := nd
    refine List.pairwise_map.mpr (nd'.imp_of_mem fun ha hb hne e => ?_)
    have h1 := h _ ha
    have h2 := h _ hb
    omega
  · intro x hx
    obtain ⟨y, hy, rfl⟩ := List.mem_map.mp hx
    have := h y hy
    omega
/-- two rising lists of the same numbers -/
theorem rise_eq : ∀ {a b : List Int}, a.Pairwise (· < ·) → b.Pairwise (· < ·) → (∀ x, x ∈ a ↔ x ∈ b) → a = b
  | [], [], _, _, _ => rfl
  | [], y :: b, _, _, h => absurd ((h y).mpr (by simp)) (by simp)
  | x :: a, [], _, _, h => absurd ((h x).mp (by simp)) (by simp)
  | x :: a, y :: b, ha, hb, h => by
    have pa := List.pairwise_cons.mp ha
    have pb := List.pairwise_cons.mp hb
    have e : x = y := by
      rcases List.mem_cons.mp ((h x).mp (by simp)) with e | e
      · exact e
      · rcases List.mem_cons.mp ((h y).mpr (by simp)) with e' | e'
        · exact e'.symm
        · have := pb.1 x e
          have := pa.1 y e'
          omega
    subst e
    refine congrArg _ (rise_eq pa.2 pb.2 fun z => ⟨fun hz => ?_, fun hz => ?_⟩)
    · rcases List.mem_cons.mp ((h z).mp (List.mem_cons_of_mem _ hz)) with e | e
      · have := pa.1 z hz
        omega
      · exact e
    · rcases List.mem_cons.mp ((h z).mpr (List.mem_cons_of_mem _ hz)) with e | e
      · have := pb.1 z hz
        omega
      · exact e
theorem range_rise (a : Int) (n : Nat) : ((List.range n).map fun k : Nat => a + (k : Int)).Pairwise (· < ·) := by
  refine List.pairwise_map.mpr (List.pairwise_lt_range.imp fun h => ?_)
  omega
/-- the raised gains -/
def raisedG (gs : List Int) (up : Nat → Bool) (k : Int) : List Int := gainsOf (fun v => HT gs v + (if up v = true then 0 else k)) gs.length
end K53
/-! The plain law, part 3: the listing, the raised row. -/
namespace K53
theorem box_cut {low high : Int} {gs : List Int} (h : InBox low high gs) (i l : Nat) : InBox low high ((gs.drop i).take l) := fun g hg => h g (List.drop_subset _ _ (List.take_subset _ _ hg))
/-- a sum of at most five gains from -3 to 3 -/
theorem small_sum {low high : Int} {gs : List Int} {i l : Nat} (h : InBox low high gs) (hl : -3 ≤ low) (hh : high ≤ 3) (h5 : l ≤ 5) : -15 ≤ ((gs.drop i).take l).sum ∧ ((gs.drop i).take l).sum ≤ 15 := by
  have b := box_sum (low := -3) (high := 3) (gs := (gs.drop i).take l) fun g hg => by
    have := box_cut h i l g hg
    omega
  have hn : ((gs.drop i).take l).length ≤ 5 := by
    rw [List.length_take]
    omega
  have h1 : (((gs.drop i).take l).length : Int) ≤ 5 := by omega
  omega
/-- the greatest and the least sum are had -/
theorem ends_had {n i l : Nat} {rs : List Ru} {low high : Int} {h : Nat → Int} {C D : WS} {G L : Int} (h1 : ∀ r ∈ rs, 1 ≤ r.len) (hr : (⟨1, some low, some high⟩ : Ru) ∈ rs) (hl : i + l ≤ n) (F : Feas (mvAll n 0 rs) h)
    (DC : Done n (mvAll n 0 rs) (C0one n i) C) (DD : Done n (mvAll n 0 rs) (C0one n (i + l)) D) (hG : cAt C.C (i + l) = some G) (hL : cAt D.C i = some L) (hlo : -3 ≤ low) (hhi : high ≤ 3) (h5 : l ≤ 5) : -L ≤ G ∧ -15 ≤ -L ∧ G ≤ 15 := by
  have a := one_most DC hG F
  have b := one_most DD hL F
  obtain ⟨g1, _, e2, _, e4⟩ := (sums_had h1 hr hl F DC DD hG hL G).mpr ⟨by omega, by omega⟩
  obtain ⟨g2, _, e5, _, e6⟩ := (sums_had h1 hr hl F DC DD hG hL (-L)).mpr ⟨by omega, by omega⟩
  have c := small_sum (i := i) (l := l) e2 hlo hhi h5
  have d := small_sum (i := i) (l := l) e5 hlo hhi h5
  omega
/-- the sums had, rising, are the integers between -/
theorem listed {n i l : Nat} {rs : List Ru} {low high : Int} {h : Nat → Int} {C D : WS} {G L : Int} {gss : List (List Int)} {ns : List Int} (h1 : ∀ r ∈ rs, 1 ≤ r.len) (hr : (⟨1, some low, some high⟩ : Ru) ∈ rs) (hl : i + l ≤ n) (F : Feas (mvAll n 0 rs) h)
    (DC : Done n (mvAll n 0 rs) (C0one n i) C) (DD : Done n (mvAll n 0 rs) (C0one n (i + l)) D) (hG : cAt C.C (i + l) = some G) (hL : cAt D.C i = some L) (hg : ∀ g, g ∈ gss ↔ (g.length = n ∧ InBox low high g) ∧ ∀ r ∈ rs, GKeeps g r) (pw : ns.Pairwise (· < ·)) (hm : ∀ x, x ∈ ns ↔ x ∈ gss.map fun g => ((g.drop i).take l).sum) :
    ns = (List.range (G + 1 - -L).toNat).map fun k : Nat => -L + (k : Int) := by
  refine rise_eq pw (range_rise _ _) fun x => ?_
  rw [hm x, List.mem_map]
  have key := sums_had h1 hr hl F DC DD hG hL x
  constructor
  · rintro ⟨g, hgm, e⟩
    obtain ⟨⟨a1, a2⟩, a3⟩ := (hg g).mp hgm
    obtain ⟨b1, b2⟩ := key.mp ⟨g, a1, a2, a3, e⟩
    exact List.mem_map.mpr ⟨(x - -L).toNat, List.mem_range.mpr (by omega), by omega⟩
  · intro hx
    obtain ⟨k, hk, e⟩ := List.mem_map.mp hx
    have hk := List.mem_range.mp hk
    obtain ⟨g, a1, a2, a3, e4⟩ := key.mpr ⟨by omega, by omega⟩
    exact ⟨g, (hg g).mpr ⟨⟨a1, a2⟩, a3⟩, e4⟩
/-- few unlike sums -/
theorem few {i l : Nat} {low high : Int} {gss : List (List Int)} {ms : List Int} (hlo : -3 ≤ low) (hhi : high ≤ 3) (h5 : l ≤ 5) (hb : ∀ g ∈ gss, InBox low high g) (nd : ms.Nodup) (hm : ∀ x, x ∈ ms ↔ x ∈ gss.map fun g => ((g.drop i).take l).sum) : ms.length < 64 := by
  have := nodup_int (B := 15) nd fun x hx => by
    obtain ⟨g, hg, e⟩ := List.mem_map.mp ((hm x).mp hx)
    have := small_sum (i := i) (l := l) (hb g hg) hlo hhi h5
    omega
  omega
/-! ### raised -/
theorem cAt_out {C : Cs} {v : Nat} (h : C.length ≤ v) : cAt C v = none := by
  unfold cAt
  rw [List.getD_eq_getElem?_getD, List.getElem?_eq_none h]
  rfl
/-- the raised row keeps the rules, and its sum -/
theorem raised_ok {n i : Nat} {rs : List Ru} {gs : List Int} {s : WS} {up : Nat → Bool} {k : Int} (h1 : ∀ r ∈ rs, 1 ≤ r.len) (hn : gs.length = n) (hk : ∀ r ∈ rs, GKeeps gs r) (D : Done n (mvAll n 0 rs) (C0one n i) s) (hu : ∀ v, up v = (cAt s.C v).isSome) (k0 : 0 ≤ k) :
    (∀ r ∈ rs, GKeeps (raisedG gs up k) r) ∧ ∀ b l : Nat, b + l ≤ n → (((raisedG gs up k).drop b).take l).sum = ((gs.drop b).take l).sum + ((if up (b + l) = true then 0 else k) - (if up b = true then 0 else k)) := by
  have e : up = fun v => (cAt s.C v).isSome := funext hu
  have F := raised_feas ((keeps_feas h1 hn).mp hk) D k0
  have F2 := feas_gains F
  have er : raisedG gs up k = gainsOf (fun v => HT gs v + (if (cAt s.C v).isSome = true then 0 else k)) n := by
    unfold raisedG
    rw [e, hn]
  refine ⟨?_, fun b l hbl => ?_⟩
  · rw [er]
    exact (keeps_feas h1 (gainsOf_len _ _)).mpr F2
  · rw [er, cut_sum, gainsOf_HT _ _ _ hbl, gainsOf_HT _ _ _ (by omega), cut_sum, e]
    simp only
    omega
end K53
/-! Rules of one's own over the hand layer: promises without the binding, a static method, attributes as targets, truth by an own method, max(.., default=d), enumerate of a tuple. -/
namespace K53
open PySem PySem.Spec PyProof.Rows L2
/-- a def that raises nothing, its binding put aside -/
structure FR (P : Program) (w : World) (K : PySem.W.Frag) (mg : Str → Option Value) (base : Heap) (k : Nat) (f : Addr) (sp : Sp) : Prop where
  ex : ∃ (fd : FuncData) (ps : List Str), FnOk P w K mg base CX0 k f fd ps sp ∧ Binds K fd ps []
  kp : PySem.W.keepIn K (.ref f) = true
section
variable {P : Program} {w : World} {K : PySem.W.Frag} {mg : Str → Option Value} {base : Heap} {j k : Nat} {f : Addr} {sp sp' : Sp}
theorem FR.mono (F : FR P w K mg base j f sp) (h : j ≤ k) : FR P w K mg base k f sp := let ⟨fd, ps, G, b⟩ := F.ex; ⟨⟨fd, ps, G.mono h, b⟩, F.kp⟩
theorem FR.imp (F : FR P w K mg base k f sp) (h : ∀ vs H Q E, sp' vs H Q E → sp vs H Q E) : FR P w K mg base k f sp' := let ⟨fd, ps, G, b⟩ := F.ex; ⟨⟨fd, ps, G.imp h, b⟩, F.kp⟩
theorem FR.raw (F : FR P w K mg base k f sp) : FnR P w K mg base CX0 k f sp := by
  obtain ⟨fd, ps, G, b⟩ := F.ex
  exact (G.raw b .nil).imp fun vs H Q E h => by rw [List.append_nil]; exact h
/-- the same reading, said weaker -/
theorem PE.to {X : Cx} {e : Expr} {t t' : TE} (h : PE X e t) (i : ∀ σ H Q, t' σ H Q → t σ H Q) : PE X e t' := ⟨fun pins s σ H Q I q => h.run pins s σ H Q I (i σ H Q q)⟩
end
/-- readings of calls -/
def tFn (sp : Sp) (t : TA) : TE := fun σ H Q => t σ H fun vs H1 => sp vs H1 Q E0
def tMt (C : Addr) (m : Str) (sp : Sp) (ta : TE) (t : TA) : TE := fun σ H Q => ta σ H fun x H1 => ∃ a dx fs, x = .ref a ∧ H1 a = some (.ins C dx fs) ∧ fs.lookup m = none ∧ t σ H1 fun vs H2 => sp (x :: vs) H2 Q E0
/-- C.m(e, ..): C a class of the module, m a static method of it, its def at g, the record at p -/
structure SMet (K : PySem.W.Frag) (C : Addr) (m : Str) (p g : Addr) : Prop where
  rd : PySem.W.readsIn K C (.type "type") = true
  ga : PySem.W.specialIn K (.ref C) "__getattribute__" = some (some (.builtin "type.__getattribute__"))
  fnd : PySem.W.findCls K (.ref C) (.type "type") m = some (.get (.builtin "staticmethod.__get__") (.ref p) .none (.ref C))
  rcd : ∃ rest, PySem.W.recIn K p "staticmethod" = some (.ref g :: rest)
theorem pe_sm {X : Cx} {k : Nat} {C p g : Addr} {sp : Sp} {x m : Str} {q pos apos : Pos} {e : Expr} {es : List Expr} {t : TA} {pl : Sem Bool}
    (c : SMet X.K C m p g) (F : FR X.prog X.w X.K X.mg X.base k g sp) (hr : Room k X.A) (hg : Gl X x) (hm : X.mg x = some (.ref C)) (ha : PA X (e :: es) t) (hd : (x == ("__debug__" : Str)) = false := by decide)
    (h1 : starEach (e :: es) X.env = (false, eval e X.env) :: starEach es X.env := by rfl) (h2 : (backTo pos (starEach es X.env)).any (·.1) = false := by rfl)
    (h3 : eval (.Call (.Attribute (.Name x q) m apos) (e :: es) [] pos) X.env = (eval (.Name x q) X.env >>= fun ov => standAt apos.atName >>= fun _ => holding [ov] (getMethod ov m pl) >>= fun fx => callWith pos fx.1 fx.2 (backTo pos (starEach (e :: es) X.env)) (backToKw pos (keywordEach [] X.env))) := by rfl) :
    PE X (.Call (.Attribute (.Name x q) m apos) (e :: es) [] pos) (tFn sp t) := by
  refine ⟨fun pins s σ H Q I h => ?_⟩
  obtain ⟨rest, hp⟩ := c.rcd
  refine PySem.W.methodCall_KW (pl := pl) (ld_glob I hg hm ?_ hd) h3
  refine PySem.W.method_cls I.kIn c.ga (PySem.W.cls_bind I.kIn c.rd c.fnd ?_)
  refine wpAny_call (PySem.W.sm_get (s := { s with toks := s.toks + 1 }) I.kIn hp (PySem.W.handed_on rfl ?_))
  refine PySem.W.callWith_K (first := []) (h₀ := X.base) I.ok.mod.kin F.kp (thn (ha.run pos pins _ σ H _ (I.tok (s.toks + 1)) h) fun us s2 ⟨vs, H2, I2, r, q2⟩ => ⟨I2.kIn, ?_⟩) h1 h2
  exact wpAny_call (run_fnR F.raw hr pass0 I2 r q2)
section
variable {X : Cx} {k : Nat} {f C : Addr} {sp : Sp} {x m : Str} {q pos apos : Pos} {e o : Expr} {es : List Expr} {ta : TE} {t : TA} {pl : Sem Bool}
theorem pe_fn (F : FR X.prog X.w X.K X.mg X.base k f sp) (hr : Room k X.A) (hg : Gl X x) (hm : X.mg x = some (.ref f)) (ha : PA X (e :: es) t) (hd : (x == ("__debug__" : Str)) = false := by decide)
    (h1 : starEach (e :: es) X.env = (false, eval e X.env) :: starEach es X.env := by rfl) (h2 : (backTo pos (starEach es X.env)).any (·.1) = false := by rfl) : PE X (.Call (.Name x q) (e :: es) [] pos) (tFn sp t) := by
  obtain ⟨fd, ps, G, b⟩ := F.ex
  refine PE.to (pe_call G hr hg hm F.kp b .nil pass0 ha hd h1 h2) fun σ H Q z => ?_
  unfold tCall
  simp only [List.append_nil]
  exact z
/-- what getMethod's tree is, for o.m(..) -/
def MtTree (X : Cx) (o : Expr) (m : Str) (es : List Expr) (apos pos : Pos) (pl : Sem Bool) : Prop :=
  eval (.Call (.Attribute o m apos) es [] pos) X.env = (eval o X.env >>= fun ov => standAt apos.atName >>= fun _ => holding [ov] (getMethod ov m pl) >>= fun fx => callWith pos fx.1 fx.2 (backTo pos (starEach es X.env)) (backToKw pos (keywordEach [] X.env)))
theorem pe_mt (he : PE X o ta) (c : Cls X.K C) (hm : Meth X.K C m f) (F : FR X.prog X.w X.K X.mg X.base k f sp) (hr : Room k X.A) (ha : PA X (e :: es) t)
    (h1 : starEach (e :: es) X.env = (false, eval e X.env) :: starEach es X.env := by rfl) (h2 : (backTo pos (starEach es X.env)).any (·.1) = false := by rfl) (h3 : MtTree X o m (e :: es) apos pos pl := by rfl) :
    PE X (.Call (.Attribute o m apos) (e :: es) [] pos) (tMt C m sp ta t) := by
  obtain ⟨fd, ps, G, b⟩ := F.ex
  refine PE.to (pe_meth he c hm G hr b .nil pass0 ha h1 h2 h3) fun σ H Q z => ?_
  unfold tMeth
  simp only [List.append_nil]
  exact z
theorem pe_mt0 (he : PE X o ta) (c : Cls X.K C) (hm : Meth X.K C m f) (F : FR X.prog X.w X.K X.mg X.base k f sp) (hr : Room k X.A) (h3 : MtTree X o m [] apos pos pl := by rfl) :
    PE X (.Call (.Attribute o m apos) [] [] pos) (tMt C m sp ta tNil) := by
  obtain ⟨fd, ps, G, b⟩ := F.ex
  refine PE.to (pe_meth0 he c hm G hr b .nil pass0 h3) fun σ H Q z => ?_
  unfold tMeth
  simp only [List.append_nil]
  exact z
/-- C(e, ..) -/
def tMk (C : Addr) (sp : Sp) (t : TA) : TE := fun σ H Q => t σ H fun vs H1 => ∀ a d, H1 a = Option.none → H1 d = Option.none → d ≠ a → sp (V.ref a :: vs) (upd (upd H1 d (.own a)) a (.ins C d [])) (fun v H2 => v = .non ∧ Q (.ref a) H2) E0
theorem pe_mk (M : Mk X.K C f) (F : FnR X.prog X.w X.K X.mg X.base CX0 k f sp) (hr : Room (k + 1) X.A) (hg : Gl X x) (hm : X.mg x = some (.ref C)) (ha : PA X (e :: es) t) (hd : (x == ("__debug__" : Str)) = false := by decide)
    (h1 : starEach (e :: es) X.env = (false, eval e X.env) :: starEach es X.env := by rfl) (h2 : (backTo pos (starEach es X.env)).any (·.1) = false := by rfl) : PE X (.Call (.Name x q) (e :: es) [] pos) (tMk C sp t) :=
  StX.pe_makeR M F hr hg hm pass0 ha hd h1 h2
end
/-! ### an attribute as a target -/
def gFld (K : PySem.W.Frag) (ta : TE) (f : Str) : TG := fun v σ H Q => ta σ H fun x H1 => ∃ a C dx fs, x = .ref a ∧ H1 a = some (.ins C dx fs) ∧ Cls K C ∧ NoAttr K C f ∧ fs.length < 1000 ∧ Q σ (upd H1 a (.ins C dx (putF f v fs)))
theorem pg_fld {X : Cx} {o : Expr} {f : Str} {pos : Pos} {ta : TE} (ha : PE X o ta) : PG X (.Attribute o f pos) (gFld X.K ta f) := by
  refine ⟨fun pins s σ H v u Q I r h => ?_⟩
  rw [assign_Attribute]
  refine wpAny_bind (wpAny_holding (thn (ha.run pins s σ H _ I h) fun ov s1 ⟨x, H1, I1, rx, a, C, dx, fs, ex, ea, c, n, l, q⟩ => ?_))
  subst ex
  obtain rfl : ov = Value.ref a := rx
  refine wpAny_bind (wpAny_standAt (wpAny_bind (wpAny_holding (setattr_ok I1 ea c n l r fun s2 I2 => ?_))))
  exact wpAny_release ⟨σ, _, I2, q⟩
/-! ### truth by an own method -/
section
variable {X : Cx} {k : Nat} {f C : Addr} {sp : Sp} {o : Expr} {ta : TE}
def tTruO (C : Addr) (sp : Sp) (ta : TE) : TT := fun σ H Q => ta σ H fun x H1 => ∃ a dx fs, x = .ref a ∧ H1 a = some (.ins C dx fs) ∧ sp [x] H1 (fun v H2 => ∃ b, v = .bl b ∧ Q b H2) E0
theorem pt_own (ha : PE X o ta) (hm : Meth X.K C "__bool__" f) (F : FR X.prog X.w X.K X.mg X.base k f sp) (hr : Room k X.A) (he : ∀ whole, isTrue o X.env whole = (whole >>= fun v => standAt o.pos >>= fun _ => holding [v] (truthy v)) := by intro _; rfl) : PT X o (tTruO C sp ta) := by
  refine ⟨fun pins s σ H Q I h => ?_⟩
  refine isTrue_plain (thn (ha.run pins s σ H _ I h) fun v s1 ⟨x, H1, I1, r1, a, dx, fs, ex, ea, q⟩ => ?_) (he _)
  subst ex
  obtain rfl : v = Value.ref a := r1
  obtain ⟨mA, O, _⟩ := ins_get I1.hok ea
  obtain ⟨od, J, _⟩ := O.look
  obtain ⟨m, Fr1⟩ := I1.fr
  refine PySem.W.truthy_K Fr1 I1.ok.mod.kin J hm.at_ hm.fn (wpAny_call (codeAny_mono (run_fnR (us := [.ref a]) (vs := [.ref a]) F.raw hr pass0 I1 (.cons rfl .nil) q) fun r s2 hr2 => ?_))
  rcases r with e | fl
  · exact hr2
  · cases fl <;> first
      | exact False.elim hr2
      | (obtain ⟨v2, H2, I2, r2, b, ev, q2⟩ := hr2
         subst ev
         cases r2
         exact ⟨H2, I2, q2⟩)
end
/-! ### max(xs, default=d): some int -/
def rMaxD (K : PySem.W.Frag) : List V → List V → Hp → VK → Prop := fun xs zs H Q => ∃ (a : Addr) (ns : List Int) (d : Int), xs = [.ref a] ∧ zs = [.int d] ∧ SqL K H a (ns.map V.int) ∧ ∀ m : Int, Q (.int m) H
theorem dpAll_ints {K : PySem.W.Frag} {H : Hp} : ∀ ns : List Int, DpAll K H (ns.map V.int) (ns.map PyData.int)
  | [] => .nil
  | n :: ns => .cons (.int n) (dpAll_ints ns)
theorem depth_ints : ∀ ns : List Int, PyData.depthAll (ns.map PyData.int) ≤ 1
  | [] => by decide
  | n :: ns => by
    have ih := depth_ints ns
    show max (PyData.depth (.int n)) (PyData.depthAll (ns.map PyData.int)) ≤ 1
    have : PyData.depth (.int n) ≤ 1 := by unfold PyData.depth; omega
    omega
theorem alike_ints (ns : List Int) : PySem.W.AlikeAll (ns.map PyData.int) := by
  refine ⟨fun x hx y hy => ?_, fun x hx e => ?_⟩
  · obtain ⟨i, _, rfl⟩ := List.mem_map.mp hx
    obtain ⟨j, _, rfl⟩ := List.mem_map.mp hy
    rfl
  · obtain ⟨i, _, rfl⟩ := List.mem_map.mp hx
    cases e
theorem foldl_int : ∀ (ys : List PyData) (x : PyData), (∃ i : Int, x = .int i) → (∀ y ∈ ys, ∃ i : Int, y = .int i) → ∃ i : Int, ys.foldl (fun a y => if PySem.W.dataLt a y then y else a) x = .int i
  | [], x, hx, _ => hx
  | y :: ys, x, hx, h => by
    rw [List.foldl_cons]
    refine foldl_int ys _ ?_ fun z hz => h z (List.mem_cons_of_mem _ hz)
    split
    · exact h y (by simp)
    · exact hx
theorem cr_maxD {X : Cx} (hc : X.calm = true) (hu : X.A.units + 64 < cLine) : CallRK X (.builtin "max") ["default"] (rMaxD X.K) := by
  intro pins s σ H xs zs us ws Q I r1 r2 h
  obtain ⟨a, ns, d, rfl, rfl, hS, q⟩ := h
  obtain ⟨u, rfl, rz⟩ := vals1 r2
  rw [Vals.ref1 r1]
  obtain ⟨its, rv, pl, hz⟩ := I.list hS
  obtain ⟨as, hr⟩ := Dp.readsAll I _ _ _ (dpAll_ints ns) rv
  have hd := depth_ints ns
  refine PySem.W.max_list_default (I.ok.hd hc) pl.isList hr (alike_ints ns) (by omega) (fun _ h' tk k => ⟨.int d, H, I.kept k, rz, q d⟩) fun y ys i v h' tk bs e _ rd k => ?_
  obtain ⟨j, hj⟩ : ∃ j : Int, PySem.W.maxD y ys = .int j := by
    refine foldl_int ys y ?_ fun z hz => ?_
    · have : y ∈ ns.map PyData.int := by rw [e]; simp
      obtain ⟨i, _, e'⟩ := List.mem_map.mp this
      exact ⟨i, e'.symm⟩
    · have : z ∈ ns.map PyData.int := by rw [e]; exact List.mem_cons_of_mem _ hz
      obtain ⟨i, _, e'⟩ := List.mem_map.mp this
      exact ⟨i, e'.symm⟩
  rw [hj] at rd
  cases rd
  exact ⟨.int j, H, I.kept k, ⟨_, rfl⟩, q j⟩
open AutoSeq1 (wpAny_loadPart')
/-! ### enumerate of a tuple -/
/-- the new tuple iterator, the new enumerate object -/
abbrev tIt (l : Addr) : Obj := { cls := .type "tuple_iterator", data := .fields #[.ref l, .int 0 0] }
abbrev eOb (it : Addr) : Obj := { cls := .type "enumerate", data := .fields #[.none, .bool false, .ref it, rawInt 0, .none, .none] }
theorem meets_enumT (l : Addr) (items : Array Value) (n : Nat) (dd : Option Addr) (sl : Array (Option Value)) :
    Meets (Builtin.«enumerate.__new__» ⟨[.type "enumerate", .ref l], []⟩) (fun _ R s => s.heap.get? l = some { cls := .type "tuple", dict := dd, data := .seq items n, slots := sl } ∧
      R (.ok (.ret (.ref (s.heap.push (tIt l)).objs.size))) { s with heap := (s.heap.push (tIt l)).push (eOb s.heap.objs.size) }) :=
  .of_wp fun prog w A R s h => by
    obtain ⟨hp, g, d, tk, os⟩ := s
    obtain ⟨hl, h⟩ := h
    have hsub := sub_enumerate
    have hT : Heap.IsTuple (Shared.heap ⟨hp, g, d, tk, os⟩) l items := ⟨_, hl, rfl, n, rfl⟩
    wp_walk using wpAny_loadPart' hl
    refine wpAny_stack_any fun st => wpAny_pure ?_
    split
    · rename_i c _ _ _ _ _
      cases (c == Value.type "enumerate") <;> (wp_walk using wpAny_loadPart' hl, wpAny_pyIter_tuple hT) <;> exact ⟨_, rfl, h⟩
    · (wp_walk using wpAny_loadPart' hl, wpAny_pyIter_tuple hT) <;> exact ⟨_, rfl, h⟩
theorem call_enumT {prog : Program} {w : World} {A : Around} {E : Value → Shared → Prop} {s : Shared} {l : Addr} {items : Array Value} {Q : Value → Shared → Prop} (hT : s.heap.IsTuple l items)
    (h : ∀ h', IsEnum h' (s.heap.objs.size + 1) s.heap.objs.size 0 .none → h'.IsTupleIter s.heap.objs.size l 0 → (∀ b o, s.heap.get? b = some o → h'.get? b = some o) → Q (.ref (s.heap.objs.size + 1)) { s with heap := h' }) :
    wpAny (model prog w) A (call (.type "enumerate") [.ref l]) Q E s := by
  obtain ⟨⟨c, dct, dt, sl⟩, hl, hc, n, hd⟩ := hT
  cases (show c = .type "tuple" from hc)
  cases (show dt = .seq items n from hd)
  refine callType_new F.called_enumerate (by decide) (F.typeCall_enumerate_1 _) (F.newCall_enumerate_1 _) (fun obj => F.args_object_init_2 obj _) F.entry_enumerate_new (meets_enumT l items n dct sl) ⟨hl, ?_⟩
  have z : (s.heap.push (tIt l)).objs.size = s.heap.objs.size + 1 := Heap.size_push ..
  have e : ((s.heap.push (tIt l)).push (eOb s.heap.objs.size)).get? (s.heap.objs.size + 1) = some (eOb s.heap.objs.size) := by
    rw [← z]
    exact Heap.get?_push_size (s.heap.push (tIt l)) rfl
  show _ ∧ _
  rw [z]
  exact ⟨⟨_, e, rfl⟩, h _ e ⟨_, Heap.get?_push_of_some _ (Heap.get?_push_size _ rfl), rfl, rfl⟩ fun b o x => Heap.get?_push_of_some _ (Heap.get?_push_of_some _ x)⟩
/-- the tuple at a, its items in new pairs with their places -/
def ItE (K : PySem.W.Frag) (a : Addr) : It :=
  ⟨fun i H => ∃ (xs : List V) (x : V), SqT K H a xs ∧ xs[i]? = some x,
   fun i H v H' => ∃ p x, v = .ref p ∧ H p = none ∧ H' = upd H p (.tup [.int (i : Nat), x]) ∧ ∀ xs, SqT K H a xs → xs[i]? = some x,
   fun i H => ∃ xs : List V, SqT K H a xs ∧ xs.length = i⟩
theorem turn_enumT {P : Program} {w : World} {K : PySem.W.Frag} {elts : List Expr} {kk : Nat} {tpos : Pos} (a e it : Addr) :
    Turn P w K (.Tuple elts kk tpos) (ItE K a) [e, it] e (fun i h => (∃ old, IsEnum h e it ((i : Nat) : Int) old) ∧ h.IsTupleIter it a i ∧ e ≠ it ∧ a ≠ it ∧ e ≠ a) where
  mem := by simp
  obj := fun i h ⟨⟨old, he⟩, ⟨o, ho, hc, hd⟩, _⟩ b hb => by
    rcases List.mem_cons.mp hb with z | z
    · rw [z]
      exact ⟨_, he, fun v q => nomatch q⟩
    · rw [List.mem_singleton.mp z]
      exact ⟨o, ho, fun v q => by rw [hd] at q; cases q⟩
  keep := fun i h h' ⟨⟨old, he⟩, hi, r⟩ k => ⟨⟨old, k e (by simp) _ he⟩, hi.at fun o q => k it (by simp) o q, r⟩
  item := by
    intro X hP hw hK hc i pins s σ H E I hf st hg
    subst hP hw hK
    obtain ⟨⟨old, he⟩, hit, hne, hai, hea⟩ := st
    obtain ⟨xs, x, hq, hx⟩ := hg
    obtain ⟨its, rv, p, hz⟩ := I.tuple hq
    have hpt : s.heap.IsTuple a its.toArray := p
    have hlt : i < its.toArray.size := by
      have := (List.getElem?_eq_some_iff.mp hx).1
      simp only [List.size_toArray, ← rv.length]
      exact this
    have hel : e < s.heap.objs.size := Heap.lt_size he
    have hil : it < s.heap.objs.size := by obtain ⟨_, q, _⟩ := hit; exact Heap.lt_size q
    have D := Draws.tuple (prog := X.prog) (w := X.w) (A := X.A.in1) (I.ok.hd hc) it a hai its.toArray
    refine wpAny_pyNext_enum_itemC D he ⟨hit, hpt⟩ hlt hne (by simp [hne, hea]) fun u h' tk hu ho hst' hT hsz hk => ?_
    obtain ⟨u', hu', ru⟩ := rv.get hx
    have eu : u = u' := by
      have q : its.toArray[i]? = some u := hu
      rw [List.getElem?_toArray, hu'] at q
      exact (Option.some.inj q).symm
    subst eu
    refine ⟨_, rfl, wpAny_letOwnedTupleGo_enum (s := { s with heap := h', toks := tk + 1 }) ho fun h'' he' sb => ?_⟩
    have hT2 : h''.get? s.heap.objs.size = some { cls := .type "tuple", data := .seq #[.int ((i : Nat) : Int) tk, u] } := (sb.2 _ (Nat.ne_of_gt hel)).trans hT
    have new : ObjOk X.prog X.w (upd H s.heap.objs.size (.tup [.int (i : Nat), x])) h'' s.heap.objs.size (.tup [.int (i : Nat), x]) :=
      ⟨by show 2 ≤ sizeLine; decide, [.int ((i : Nat) : Int) tk, u], .cons ⟨_, rfl⟩ (.cons ru .nil), ⟨_, hT2, rfl, _, rfl⟩⟩
    have nin : ∀ b, b ∉ [e, it] → b ≠ e ∧ b ≠ it := fun b hb => ⟨fun z => hb (by simp [z]), fun z => hb (by simp [z])⟩
    have I1 : Inv X pins σ (upd H s.heap.objs.size (.tup [.int (i : Nat), x])) { s with heap := h'', toks := tk + 1 } :=
      I.turnedNew (ch := [e, it]) (fun b ob hb q => (sb.2 b (nin b hb).1).trans (hk b ob (nin b hb).1 (nin b hb).2 q)) hf (Nat.le_refl _) new
    refine ⟨.ref s.heap.objs.size, _, I1, rfl, ⟨_, x, rfl, I.hok.fresh (Nat.le_refl _), rfl, fun ys hy => by rw [I.tuple_inj hy hq]; exact hx⟩, ⟨⟨u, ?_⟩, hst'.1.at fun o q => (sb.2 it (Ne.symm hne)).trans q, hne, hai, hea⟩, fun b hb => ?_⟩
    · rw [show ((i + 1 : Nat) : Int) = (i : Int) + 1 by omega]
      exact he'
    · have hb' : b < s.heap.objs.size := by
        rcases List.mem_cons.mp hb with z | z
        · rw [z]; exact hel
        · rw [List.mem_singleton.mp z]; exact hil
      rw [upd_ne (Nat.ne_of_lt hb')]
      exact (hf b hb).1
  done := by
    intro X hP hw hK hc i pins s σ H E I hf st hg
    subst hP hw hK
    obtain ⟨⟨old, he⟩, hit, hne, hai, hea⟩ := st
    obtain ⟨xs, hq, hx⟩ := hg
    obtain ⟨its, rv, p, hz⟩ := I.tuple hq
    have hpt : s.heap.IsTuple a its.toArray := p
    have en : i = its.toArray.size := by
      have hl := rv.length
      simp only [List.size_toArray]
      omega
    obtain ⟨f0, f1, f2, f3, f4, f5⟩ := hf it (by simp)
    have D := Draws.tuple (prog := X.prog) (w := X.w) (A := X.A.in1) (I.ok.hd hc) it a hai its.toArray
    exact wpAny_pyNext_enum_endD D he (by rw [← en]; exact ⟨hit, hpt⟩) fun h' eb => ⟨rfl, I.turned (t' := s.toks) (fun b o hb q => eb b o hb q) f0 f1 f3 f4 f5⟩
  self := fun A i s Q E ⟨⟨_, he⟩, _⟩ h => wpAny_pyIter_enum he h
def iEnumT (K : PySem.W.Frag) (ta : TA) : TI := fun σ H R => ta σ H fun vs H1 => ∃ a xs, vs = [.ref a] ∧ SqT K H1 a xs ∧ R (ItE K a) H1
theorem pi_enumT {X : Cx} {e : Expr} {ta : TA} {p pos tpos : Pos} {elts : List Expr} {kk : Nat} (hg : Gl X "enumerate") (hm : X.mg "enumerate" = none) (ha : PA X [e] ta) (hs : starEach [e] X.env = [(false, eval e X.env)] := by rfl) :
    PI X (.Tuple elts kk tpos) (.Call (.Name "enumerate" p) [e] [] pos) (iEnumT X.K ta) := by
  refine ⟨fun pins s σ H R I h => ?_⟩
  refine Call_ (ld_blt I hg hm boot_enumerate (PyProof.Rows.callWith_type1 (thn (ha.run pos pins s σ H _ I h) fun us s1 ⟨vs, H1, I1, r1, q1⟩ => ?_) hs rfl))
  obtain ⟨a, xs, ex, hq, q⟩ := q1
  subst ex
  rw [Vals.ref1 r1]
  obtain ⟨its, rv, p', hz⟩ := I1.tuple hq
  have hpt : s1.heap.IsTuple a its.toArray := p'
  have hal : a < s1.heap.objs.size := by obtain ⟨_, z, _⟩ := hpt; exact Heap.lt_size z
  refine call_enumT hpt fun h' he hit hk => wpAny_pyIter_enum he ?_
  refine ⟨s1.heap.objs.size + 1, [s1.heap.objs.size + 1, s1.heap.objs.size], _, _, H1, rfl, I1.kept (t' := s1.toks) hk, turn_enumT a (s1.heap.objs.size + 1) s1.heap.objs.size, ⟨⟨.none, he⟩, hit, Nat.succ_ne_self _, Nat.ne_of_lt hal, Nat.ne_of_gt (Nat.lt_succ_of_lt hal)⟩, fun b hb => ?_, q⟩
  have hle : s1.heap.objs.size ≤ b := by
    rcases List.mem_cons.mp hb with z | z
    · rw [z]; exact Nat.le_succ _
    · rw [List.mem_singleton.mp z]; exact Nat.le_refl _
  exact I1.fpOk hle (I1.hok.fresh hle)
theorem walk_enumT {K : PySem.W.Frag} {a : Addr} {xs : List V} : Walk (ItE K a) xs.length (fun H => SqT K H a xs) (YPair (fun i => some (.int (i : Nat))) (fun i => xs[i]?)) := by
  refine ⟨fun i _ hi q => ⟨xs, xs[i], q, by simp [hi]⟩, fun _ q => ⟨xs, q, rfl⟩, fun i H v H' _ q y => ?_⟩
  obtain ⟨p, x, h1, h2, h3, h4⟩ := y
  exact ⟨p, .int (i : Nat), x, h1, h2, h3, rfl, h4 xs q⟩
/-! ### set of a list of ints, as sorted wants it -/
abbrev sOb (w : World) : Obj := { cls := .type "set", dict := none, data := .set #[] 0 (.fresh 0 0 (!w.params.followText "set-order")) }
abbrev lIt (l : Addr) : Obj := { cls := .type "list_iterator", data := .fields #[.ref l, .int 0 0] }
section
variable {P : Program} {w : World} {A : Around} {E : Value → Shared → Prop} {s : Shared} {l : Addr} {items : Array Value} {ns : List Int}
/-- the set behind its __init__ -/
def SetDone (w : World) (h0 : Heap) (ns : List Int) (s0 : Shared) (s2 : Shared) : Prop :=
  ∃ h' tk c, s2 = { s0 with heap := h', toks := tk } ∧ SetR w h' h0.objs.size (fun j => decide (j ∈ ns)) c ∧ c ≤ ns.length ∧ ∀ b o, h0.get? b = some o → h'.get? b = some o
set_option maxHeartbeats 8000000 in
theorem init_setL (hh : A.handled = none) (hl : s.heap.IsList l items) (hit : IntsAre items.toList ns) (hb : ns.length + 1 < scanBound) :
    codeAny (model P w) A (.call (.builtin "set.__init__") ⟨[.ref s.heap.objs.size, .ref l], []⟩) (wants (fun r s2 => r = .none ∧ SetDone w s.heap ns s s2) E) { s with heap := s.heap.push (sOb w) } := by
  have many : items.size = ns.length := (Array.length_toList (xs := items)).symm.trans (IntsAre.length hit)
  have new : (s.heap.push (sOb w)).get? s.heap.objs.size = some (sOb w) := Heap.get?_push_size _ rfl
  refine codeAny_call_builtin F.called_set.init.plain F.entry_set_init (check_set_init_1 (s := { s with heap := s.heap.push (sOb w) }) ⟨_, new, rfl⟩ ?_)
  obtain ⟨⟨c0, d0, dt0, sl0⟩, at0, hc0, n0, hd0⟩ := hl
  cases (show c0 = .type "list" from hc0)
  cases (show dt0 = .seq items n0 from hd0)
  have at1 : (s.heap.push (sOb w)).get? l = some { cls := .type "list", dict := d0, data := .seq items n0, slots := sl0 } := Heap.get?_push_of_some _ at0
  have k1 := F.sub_list_set
  have k2 := F.sub_list_frozenset
  have k3 : (Value.type "list" == Value.type "dict") = false := by decide
  have il : (s.heap.push (sOb w)).IsList l items := ⟨_, at1, rfl, n0, rfl⟩
  have lt : l < s.heap.objs.size := Heap.lt_size at0
  have sz : (s.heap.push (sOb w)).objs.size = s.heap.objs.size + 1 := Heap.size_push ..
  unfold Builtin.«set.__init__» noKeywords Builtin.Frozenset.updateFrom
  generalize hPI : pyIter = PI
  wp_walk
  subst hPI
  refine wpAny_pyIter_list il (wpAny_bind (wpAny_runValue ?_))
  have noh : A.in1.in1.handled = none := by simp [hh]
  have ne1 : l ≠ (s.heap.push (sOb w)).objs.size := by rw [sz]; exact Nat.ne_of_lt (Nat.lt_succ_of_lt lt)
  have out : s.heap.objs.size ∉ [(s.heap.push (sOb w)).objs.size, l] := fun z => by
    rcases List.mem_cons.mp z with z | z
    · rw [sz] at z; exact Nat.ne_of_lt (Nat.lt_succ_self _) z
    · exact Nat.ne_of_gt lt (List.mem_singleton.mp z)
  have vals : ∀ (i : Nat) (v : Value), items[i]? = some v → ∃ k t, ns[i]? = some k ∧ v = .int k t := fun i v hv => by
    have hi : i < ns.length := by rw [← many]; exact (Array.getElem?_eq_some_iff.mp hv).1
    obtain ⟨t, e⟩ := PyProof.Rows.IntsAre.int_at hit i v (by rw [Array.getElem?_toList]; exact hv)
    exact ⟨ns[i], t, List.getElem?_eq_getElem hi, by rw [e]; simp [List.getD_eq_getElem?_getD, hi]⟩
  refine set_update_ints (Walks.list noh _ l ne1 items).toS s.heap.objs.size out ns many hb vals (items.size - 0) 0 _ rfl (Nat.zero_le _) ⟨⟨_, Heap.get?_push_size _ rfl, rfl, rfl⟩, il.push _⟩ ⟨0, Nat.le_refl 0, setR_new_at (Heap.get?_push_of_some _ new)⟩ ?_
  rintro ⟨h2, g2, d2, t2, o2⟩ c2 hm hc2 hS2
  cases (show g2 = s.gens from hm.gens)
  cases (show d2 = s.drawn from hm.drawn)
  cases (show o2 = s.os from hm.os)
  show wpAny _ _ _ _ _ _
  refine wpAny_pure ?_
  show wpAny _ _ (ret Value.none) _ _ _
  refine wpAny_pure ⟨rfl, h2, t2, c2, rfl, hS2, by rw [← many]; exact hc2, fun b o e => ?_⟩
  have hb0 : b < s.heap.objs.size := Heap.lt_size e
  refine hm.heap b o (fun z => ?_) (Heap.get?_push_of_some _ (Heap.get?_push_of_some _ e))
  rcases List.mem_cons.mp z with z | z
  · exact Nat.ne_of_lt hb0 z
  · rw [List.mem_singleton.mp z, sz] at hb0
    exact absurd hb0 (Nat.not_lt.mpr (Nat.le_succ _))
set_option maxHeartbeats 8000000 in
theorem call_setL {Q : Value → Shared → Prop} (hh : A.handled = none) (hl : s.heap.IsList l items) (hit : IntsAre items.toList ns) (hb : ns.length + 1 < scanBound) (h : ∀ s2, SetDone w s.heap ns s s2 → Q (.ref s.heap.objs.size) s2) :
    wpAny (model P w) A (call (.type "set") [.ref l]) Q E s := by
  obtain ⟨c, tl, m1⟩ := F.called_set.mro
  have m2 := F.called_set.made
  have m3 := F.called_set.sub
  have m4 := F.called_set.notType
  have m5 := F.called_set.canCreate
  have m6 := F.typeCall_set_1 (.ref l)
  refine wpAny_call (codeAny_of_tree ?_)
  show wpAny _ _ (callAny (.type "set") _) _ _ _
  refine wpAny_pure ⟨Code.quiet_builtin _ (by decide +kernel), codeAny_builtin F.entry_type_call ?_⟩
  rw [Around.under_plain (weight_type_call_type "set" [.ref l] []) rfl]
  repeat (any_goals (first | assumption | wp_step))
  refine codeAny_mono (code_set_led1 (.ref l) (E := E) (Q₁ := fun obj s1 => obj = .ref s.heap.objs.size ∧ s1 = { s with heap := s.heap.push (sOb w) }) ⟨rfl, rfl⟩) fun r s1 hr => ?_
  rcases r with e | fl
  · exact hr
  cases fl with
  | ret obj =>
    obtain ⟨rfl, rfl⟩ := hr
    have tyS : Shared.TypeIs { s with heap := s.heap.push (sOb w) } (.ref s.heap.objs.size) "set" := ⟨_, Heap.get?_push_size _ rfl, rfl⟩
    have n1 := F.called_set.init.lookup
    have n2 := F.called_set.init.bind (.ref s.heap.objs.size)
    repeat (any_goals (first | assumption | wp_step))
    refine codeAny_mono (init_setL (E := E) (by simp [hh]) hl hit hb) fun r2 s2 hr2 => ?_
    rcases r2 with e | fl2
    · exact hr2
    cases fl2 with
    | ret r =>
      obtain ⟨rfl, hd⟩ := hr2
      repeat (any_goals (first | assumption | wp_step))
      exact h _ hd
    | _ => exact hr2.elim
  | _ => exact hr.elim
end
/-- set(xs), xs a list of ints -/
def rSetL (K : PySem.W.Frag) (w : World) : List V → Hp → VK → Prop := fun xs H Q => ∃ (a : Addr) (ns : List Int), xs = [.ref a] ∧ SqL K H a (ns.map V.int) ∧ ns.length ≤ 1000 ∧
  ∀ p (ms : List Int), H p = Option.none → ms.Nodup → (∀ k, k ∈ ms ↔ k ∈ ns) → Q (.ref p) (upd H p (SetO w p (fun j => decide (j ∈ ns)) ms.length))
theorem cr_setL {X : Cx} (hc : X.calm = true) : CallR X (.type "set") (rSetL X.K X.w) := by
  intro pins s σ H xs us Q I r h
  obtain ⟨a, ns, rfl, hS, hn, q⟩ := h
  rw [Vals.ref1 r]
  obtain ⟨its, rv, pl, hz⟩ := I.list hS
  refine call_setL (I.ok.hd hc) pl.isList (Vals.ints rv) (by unfold scanBound; omega) fun s2 hd => ?_
  obtain ⟨h', tk, c, rfl, R, hcn, k⟩ := hd
  obtain ⟨ms, nd, hm, hc⟩ : ∃ ms : List Int, ms.Nodup ∧ (∀ k, k ∈ ms ↔ k ∈ ns) ∧ ms.length = c := by
    obtain ⟨_, es, _, _, _, _, _, _, nd, hm, _, _, hn, _⟩ := R
    exact ⟨_, nd, fun k => by rw [← hm k, decide_eq_true_iff], by rw [List.length_map, Array.length_toList]; exact hn⟩
  subst hc
  refine ⟨.ref s.heap.objs.size, upd H s.heap.objs.size (SetO X.w s.heap.objs.size (fun j => decide (j ∈ ns)) ms.length), I.laid (t' := tk) k (Nat.le_refl _) (setO_new R), rfl, q _ ms (I.hok.fresh (Nat.le_refl _)) nd hm⟩
open NdefX
/-! ### an __init__ that begins with super().__init__(..) -/
/-- what of the text such an __init__ wants: its def at f (its class at D, its cell at cc, its code at F.c), the __init__ above it at g -/
structure SupF (K : PySem.W.Frag) (P : Program) (F : NF) (f g D cc : Addr) : Prop where
  lk : ∃ (oc : Value) (od : Option Addr) (kV doc pm ct : Value) (an : Option Addr) (osl : Array (Option Value)), K.lookup f = some ⟨oc, od, .func (PySem.W.fnX F.name F.qual F.params F.body F.scope F.cl .none kV doc pm an (.ref F.c) ct), osl⟩
  cl : F.cl = [(("__class__" : Str), cc)]
  code : PySem.W.codeIn K (.ref F.c) F.qual = true
  file : ∃ (oc : Value) (od : Option Addr) (vs : Array Value) (osl : Array (Option Value)) (z : Str) (t : Tok), K.lookup F.c = some ⟨oc, od, .fields vs, osl⟩ ∧ vs[2]? = some (.str z t) ∧ ((P.main.file : Str) == z) = true
  cell : ∃ (oc : Value) (od : Option Addr) (osl : Array (Option Value)), K.lookup cc = some ⟨oc, od, .cell (some (.ref D)), osl⟩
  cls : ∃ cd, PySem.W.clsIn K D = some cd ∧ PySem.W.alongIn K "__init__" ((cd.mro.dropWhile (· != .ref D)).drop 1) = some (some (.ref g))
  self : PySem.W.mroIn K D (.ref D) = some true
  ofn : PySem.W.typeIn K (.ref g) = some (.type "function")
  stat : PySem.W.nsIn K cStatics "thirdparty.any" = some none
  fn : PySem.W.fnIn K g = true
  top : (P.main.scope.names.lookup ("super" : Str)).isSome = false
/-- such a def's body, its first row taken apart -/
abbrev supRow (es : List Expr) (p0 p1 p2 p3 p4 : Pos) : Stmt := .Expr (.Call (.Attribute (.Call (.Name "super" p0) [] [] p1) "__init__" p2) es [] p3) p4
section
variable {P : Program} {w : World} {K : PySem.W.Frag} {mg : Str → Option Value} {base : Heap} {F : NF} {f g D cc : Addr} {N ps : List Str} {k : Nat} {sp spI : Sp} {es : List Expr} {e0 : Expr} {rest : List Stmt} {p0 p1 p2 p3 p4 : Pos} {a1 : Arg}
theorem super_init (T : SupF K P F f g D cc) (hmg : mg "super" = none) (S : NScope N ps ["__class__"] F.scope) (eb : F.body = supRow (e0 :: es) p0 p1 p2 p3 p4 :: rest) (h0 : (F.params.posonlyargs ++ F.params.args).head? = some a1) (h1 : ps[0]? = some a1.arg)
    (ks : F.scope.names.lookup ("super" : Str) = some .globalImplicit)
    (hb : ∀ (kV doc pm ct : Value) (an : Option Addr) (us : List Value), us.length = ps.length → bindArgs (PySem.W.fnX F.name F.qual F.params F.body F.scope F.cl .none kV doc pm an (.ref F.c) ct) ⟨us, []⟩ = pure (ps.zip us))
    {pl : Addr → Sem Bool} (ht : ∀ L : Addr, eval (.Call (.Attribute (.Call (.Name "super" p0) [] [] p1) "__init__" p2) (e0 :: es) [] p3) (envF F f L) = (attributeBase (.Call (.Name "super" p0) [] [] p1) "__init__" (envF F f L) (eval (.Call (.Name "super" p0) [] [] p1) (envF F f L)) >>= fun ov =>
      standAt p2.atName >>= fun _ => holding [ov] (getMethod ov "__init__" (pl L)) >>= fun fx => callWith p3 fx.1 fx.2 (backTo p3 (starEach (e0 :: es) (envF F f L))) []))
    (hst : ∀ L : Addr, starEach (e0 :: es) (envF F f L) = (false, eval e0 (envF F f L)) :: starEach es (envF F f L)) (hpl : ∀ L : Addr, (backTo p3 (starEach es (envF F f L))).any (·.1) = false)
    (G : FnR P w K mg base CX0 k g spI) (len : ∀ vs H Q E, sp vs H Q E → vs.length = ps.length)
    (hbody : ∀ (A : Around) (outer : List Env) (s : Shared) (H : Hp) (vs : List V) (Q : VK) (E : XK), Room k (A.deeper (envF F f s.heap.objs.size)) → sp vs H Q E →
      ∃ (x dx : Addr) (fs : List (Str × V)) (t : TA) (tr : TS), vs[0]? = some (.ref x) ∧ H x = some (.ins D dx fs) ∧ PA (ncx CX0 P w K mg base N F f A outer s H E).nox (e0 :: es) t ∧ PSs (ncx CX0 P w K mg base N F f A outer s H E).nox rest tr ∧
        t (startF N vs [some (.ref D)]) H fun ws H1 => spI (.ref x :: ws) H1 (fun _ H2 => tr { nx := fun _ H' => Q .non H', rt := Q } (startF N vs [some (.ref D)]) H2) E0) :
    FnR P w K mg base CX0 (k + 1) f sp := by
  intro A outer s H us vs Q E hr e r hsp
  have hl := len _ _ _ _ hsp
  have KX : K.In s.heap := e.mod.kin.keeps fun b o z => (e.bs b o z).1
  have lim : s.heap.NoLimit := e.mod.nolimit.keeps fun b o z => (e.bs b o z).1
  obtain ⟨oc, od, kV, doc, pm, ct, an, osl, lk⟩ := T.lk
  obtain ⟨cco, ccd, ccs, lc⟩ := T.cell
  have hcb := e.mod.kin _ _ lc
  have C : CellsAt F.cl ["__class__"] [some (.ref D)] s.heap H := by
    rw [T.cl]
    refine ⟨rfl, fun y c hy => ?_, fun x y c hx hy => ?_, fun i y hi => ?_⟩
    · have ec : c = cc := by
        simp only [List.lookup] at hy
        split at hy
        · exact (Option.some.inj hy).symm
        · cases hy
      subst ec
      exact ⟨(e.bs _ _ hcb).2, _, ⟨_, (e.bs _ _ hcb).1, rfl⟩⟩
    · simp only [List.lookup] at hx hy
      split at hx
      · rename_i q1
        split at hy
        · rename_i q2
          exact (beq_iff_eq.mp q1).trans (beq_iff_eq.mp q2).symm
        · cases hy
      · cases hx
    · cases i with
      | zero =>
        have ey : y = "__class__" := (Option.some.inj hi).symm
        subst ey
        refine ⟨cc, by simp [List.lookup], fun v hv => ?_⟩
        have ev : v = V.ref D := (Option.some.inj (Option.some.inj hv)).symm
        subst ev
        exact ⟨.ref D, rfl, ⟨_, (e.bs _ _ hcb).1, rfl⟩⟩
      | succ i => simp at hi
  refine codeAny_call_function hr.depth (KX _ _ lk) rfl S.co S.gen rfl (PySem.W.codeRec_of KX T.code) ?_
  rw [hb kV doc pm ct an us (by rw [← r.length]; exact hl)]
  refine wpAny_pure (wpAny_newFunctionEnv S.nocell (fun ⟨n, _⟩ hy => S.par n (List.of_mem_zip hy).1) (fun h₁ hns hsb => ⟨lim.fresh _ hsb, ?_⟩) S.kind)
  show codeAny _ _ (.func F.body (envF F f s.heap.objs.size)) _ _
  have kp : ∀ b o, s.heap.get? b = some o → h₁.get? b = some o := fun b o z => hsb.extBut b o (Nat.ne_of_lt (Heap.lt_size z)) (Heap.get?_push_of_some _ z)
  obtain ⟨x, dx, fs, t, tr, hx0, hx, ha, hrst, hq⟩ := hbody A outer s H vs Q E (hr.deeper _) hsp
  have I0 : Inv (ncx CX0 P w K mg base N F f A outer s H E) [] (startF N vs [some (.ref D)]) H { s with heap := h₁, toks := s.toks + (ps.zip us).length } := inv_startN S hr.hd e hl r C hns kp
  have I := I0.wish (fun _ _ => False)
  refine PySem.ks_codeAny_funcAt ?_
  rw [eb]
  -- from here the body's own frame
  have fin : ∀ {σ' : L2.St} {H' : Hp} {v : V} {u : Value} {s' : Shared}, Inv (ncx CX0 P w K mg base N F f A outer s H E) [] σ' H' s' → L2.RelV v u → Q v H' → CE outer P w H s Q u s' :=
    fun {σ' H' v u s'} J rv q => ⟨v, H', J.os, J.bare, J.base, J.hok, rv, q⟩
  refine PySem.ks_wpAt_mono (Q := fun fl s' => SP (ncx CX0 P w K mg base N F f A outer s H E).nox [] { nx := fun _ H' => Q .non H', rt := Q } fl s') (E := fun _ _ => False) ?_ (fun fl s' hs => ?_) fun _ _ z => z.elim
  · refine PySem.ks_wpAt_execs_cons (PySem.ks_wpAt_Expr_any (PySem.ks_wpAt_MethodCall (pl := pl s.heap.objs.size) ?_ (ht _)) I.quiet ?_)
    case refine_2 => rfl
    obtain ⟨kc, kD, vs2, ks2, z, tz, lkc, hv2, hfile⟩ := T.file
    obtain ⟨cd, hcd, hal⟩ := T.cls
    obtain ⟨oD, hD, hDd⟩ : ∃ oD, K.lookup D = some oD ∧ oD.data = .cls cd := by
      unfold PySem.W.clsIn at hcd
      split at hcd
      · rename_i q
        cases hcd
        exact ⟨_, q, rfl⟩
      · cases hcd
    have XI : K.In h₁ := I.kIn
    refine PySem.ks_wpAt_super_base (body := supRow (e0 :: es) p0 p1 p2 p3 p4 :: rest) (env := envF F f s.heap.objs.size) ks (S.frk _ (by simp)) (by decide) rfl (XI _ _ lk) rfl h0 rfl (XI _ _ lkc) rfl hv2 hfile T.top ?_
    refine PySem.W.ks_loadName_global S.kind ks ?_
    obtain ⟨mb, b1, b2⟩ := I.mod.blt
    refine Calls.loadGlobal_builtin (I.mod.glob.keeps I.bk) hmg (b1.keeps I.bk) ((b2 _ (by decide)).trans (show bootBuiltins "super" = some (.type "super") by decide +kernel)) ⟨rfl, ?_⟩
    refine wpAny_loadName_free S.kind (S.frk _ (by simp)) (by rw [show (envF F f s.heap.objs.size).cells = F.cl from rfl, T.cl]; simp [List.lookup]) ⟨_, XI _ _ lc, rfl⟩ ?_
    obtain ⟨m, hnm, hlm⟩ := id I.loc
    have hpl0 : N[0]? = some a1.arg := by
      have q := S.pre
      have q0 : (ps ++ [("__class__" : Str)])[0]? = some a1.arg := by
        rw [List.getElem?_append_left (by rw [← hl]; exact (List.getElem?_eq_some_iff.mp hx0).1)]
        exact h1
      rw [← q, List.getElem?_take_of_lt (by have := (List.getElem?_eq_some_iff.mp h1).1; omega)] at q0
      exact q0
    have hs0 : (startF N vs [some (.ref D)])[0]? = some (some (.ref x)) := by
      unfold startF
      rw [List.getElem?_append_left (by rw [List.length_map]; exact (List.getElem?_eq_some_iff.mp hx0).1), List.getElem?_map, hx0] <;> rfl
    have hk0 : F.scope.names.lookup a1.arg = some .local := S.par _ (List.mem_of_getElem? h1)
    obtain ⟨u0, ru0, lk0⟩ := hlm 0 _ _ hpl0 hs0 (.inl hk0)
    obtain rfl : u0 = Value.ref x := ru0
    have hm0 : m a1.arg = some (.ref x) := by
      rcases lk0 with ⟨_, z⟩ | ⟨z, _⟩
      · exact z
      · have z : F.scope.names.lookup a1.arg = some .cell ∨ F.scope.names.lookup a1.arg = some .free := z
        rw [hk0] at z
        rcases z with z | z <;> cases z
    refine wpAny_loadName_local S.kind hk0 hnm hm0 ?_
    refine PySem.ks_wpAny_isType_cls (XI _ _ hD) hDd ⟨rfl, ?_⟩
    obtain ⟨mA, O, _⟩ := ins_get I.hok hx
    refine PySem.ks_wpAny_call_super (XI _ _ hD) hDd O.obj rfl (fun c z => by cases z) (PySem.W.looks_mroIn XI T.self) fun h2 eso k2 => ?_
    have I2 := ClX.pin_new (o := PySem.W.ks_superObj D x D) (t' := s.toks + (ps.zip us).length) I k2 (Nat.le_refl _) eso (fun v z => by cases z)
    obtain ⟨og, hog, hogc⟩ : ∃ og, K.lookup g = some og ∧ og.cls = .type "function" := by
      have z : (K.lookup g).map (·.cls) = some (.type "function") := T.ofn
      cases q : K.lookup g with
      | none => rw [q] at z; cases z
      | some o => rw [q] at z; exact ⟨o, rfl, Option.some.inj z⟩
    have X2 : K.In h2 := I2.kIn
    have xD : x ≠ D := fun z => by
      have q1 := O.obj
      have q2 := XI _ _ hD
      rw [z, q2] at q1
      have q3 : oD.data = (PySem.W.instObj D dx).data := congrArg Obj.data (Option.some.inj q1)
      rw [hDd] at q3
      cases q3
    refine PySem.ks_wpAny_getMethod_super (h := h2) (D := D) (x := x) (C := D) eso (PySem.W.looks_opaque X2 T.stat) (l₀ := cd.mro) (fun A Q E s k q => wpAny_bind ((PySem.W.looks_clsIn X2 hcd) A _ E s k (wpAny_pure q))) rfl X2 hal (X2 _ _ hog) hogc xD (by decide) ?_
    have I3 := ClX.pin_new (o := PySem.W.methodObj (.ref g) (.ref x)) (t' := s.toks + (ps.zip us).length + 1) I2 (fun b o q => Heap.get?_push_of_some _ q) (Nat.le_refl _) (Heap.get?_push_size h2 rfl) (fun v z => by cases z)
    refine ClX.callwith_cm I3 (ClX.base_none I2 (Nat.le_refl _)) T.fn (thn (ha.run p3 _ _ _ H _ I3 hq) fun us2 s3 ⟨ws, H3, I4, rv, q3⟩ => ⟨⟨ClX.pin_at I4, I4.kIn⟩, ?_⟩) (hst _) (hpl _)
    refine thn (ClX.run_cm (E := E0) G (hr.deeper _) pass0 I4 rv q3) fun v s4 hv => ?_
    obtain ⟨v', H4, I5, _, q4⟩ := hv
    exact wpAt_of_wpAny (hrst.run [] s4 _ H4 _ (ClX.unpin I5) q4)
  · have hs := hs.unwish
    cases fl with
    | ret u =>
      obtain ⟨v, σ', H', J, rv, q⟩ := hs
      exact fin J rv q
    | next =>
      obtain ⟨σ', H', J, q⟩ := hs
      exact fin (v := V.non) (u := Value.none) J rfl q
    | brk =>
      obtain ⟨_, _, _, q⟩ := hs
      exact q.elim
    | cont =>
      obtain ⟨_, _, _, q⟩ := hs
      exact q.elim
end
end K53
/-! Printed by gen_txt.py: the text by places, the facts that the head must find. -/
namespace K53
open PySem PySem.Spec PyProof.Rows L2 NdefX

abbrev Pg : Program := PySem.Challenge.pw_anyseven_k53_whole_all_sums_between_boun
def top (i : Nat) : Stmt := Pg.main.body.getD i (.Pass ⟨0, 0, 0, 0⟩)
abbrev s_is_integer : Stmt := top 16
abbrev s_is_within : Stmt := top 17
abbrev s_are_integers : Stmt := top 18
abbrev s_need_number : Stmt := top 20
abbrev s_fixed : Stmt := top 23
abbrev s_heights_of : Stmt := top 35
abbrev s_need_bound : Stmt := top 40
abbrev s_are_bounds : Stmt := top 41
abbrev s_need_book : Stmt := top 53
abbrev s_are_rules : Stmt := top 54
abbrev s_moves_of : Stmt := top 62
abbrev s_ways_from_all : Stmt := top 64
abbrev s_ways_from : Stmt := top 65
abbrev s_row_by : Stmt := top 69
abbrev s_kept_of : Stmt := top 70
abbrev s_kept_heights : Stmt := top 76
abbrev s_places_of : Stmt := top 77
abbrev s_lift_of : Stmt := top 78
abbrev s_raised_row : Stmt := top 79
abbrev s_bound_of : Stmt := top 80
abbrev s_greatest : Stmt := top 81
abbrev s_least : Stmt := top 82
abbrev s_law_bag : Stmt := top 84
abbrev s_law_dip : Stmt := top 85
abbrev s_law_one : Stmt := top 86
abbrev s_law_gains : Stmt := top 87
abbrev s_law_sums : Stmt := top 88
abbrev s_law_rules : Stmt := top 89
abbrev s_law_book : Stmt := top 90
abbrev s_law_keeps : Stmt := top 91
abbrev s_law_lists : Stmt := top 92
abbrev s_law_listed_right : Stmt := top 93
abbrev s_law_raised : Stmt := top 94
abbrev s_law_free_right : Stmt := top 95
abbrev s_law : Stmt := top 96
abbrev s_need_stretch : Stmt := top 74
abbrev s_Paper_init : Stmt := inClass (top 24) 0
abbrev s_Paper_bool : Stmt := inClass (top 24) 1
abbrev s_Row_init : Stmt := inClass (top 36) 0
abbrev s_Row_of : Stmt := inClass (top 36) 1
abbrev s_Rule_init : Stmt := inClass (top 45) 0
abbrev s_Book_init : Stmt := inClass (top 60) 0
abbrev s_Ways_init : Stmt := inClass (top 63) 0
abbrev s_Ways_once : Stmt := inClass (top 63) 1
abbrev s_Ways_ring : Stmt := inClass (top 63) 2
abbrev s_Ways_way_to : Stmt := inClass (top 63) 3
abbrev s_Kept_init : Stmt := inClass (top 67) 0
abbrev s_Bound_init : Stmt := inClass (top 72) 0
abbrev s_Unbound_init : Stmt := inClass (top 73) 0
abbrev N_is_integer : List Str := ["value"]
theorem sc_is_integer : FnScope N_is_integer ["value"] (defScope s_is_integer) := ⟨rfl, rfl, rfl, by decide +kernel, rfl, by decide +kernel, by decide +kernel⟩
abbrev N_is_within : List Str := ["value", "least", "most"]
theorem sc_is_within : FnScope N_is_within ["value", "least", "most"] (defScope s_is_within) := ⟨rfl, rfl, rfl, by decide +kernel, rfl, by decide +kernel, by decide +kernel⟩
abbrev N_are_integers : List Str := ["value", "each"]
theorem sc_are_integers : FnScope N_are_integers ["value"] (defScope s_are_integers) := ⟨rfl, rfl, rfl, by decide +kernel, rfl, by decide +kernel, by decide +kernel⟩
abbrev N_need_number : List Str := ["value", "part", "least", "most"]
theorem sc_need_number : FnScope N_need_number ["value", "part", "least", "most"] (defScope s_need_number) := ⟨rfl, rfl, rfl, by decide +kernel, rfl, by decide +kernel, by decide +kernel⟩
abbrev N_fixed : List Str := ["value", "part"]
theorem sc_fixed : FnScope N_fixed ["value"] (defScope s_fixed) := ⟨rfl, rfl, rfl, by decide +kernel, rfl, by decide +kernel, by decide +kernel⟩
abbrev N_heights_of : List Str := ["gains", "found", "gain"]
theorem sc_heights_of : FnScope N_heights_of ["gains"] (defScope s_heights_of) := ⟨rfl, rfl, rfl, by decide +kernel, rfl, by decide +kernel, by decide +kernel⟩
abbrev N_need_bound : List Str := ["value", "part"]
theorem sc_need_bound : FnScope N_need_bound ["value", "part"] (defScope s_need_bound) := ⟨rfl, rfl, rfl, by decide +kernel, rfl, by decide +kernel, by decide +kernel⟩
abbrev N_are_bounds : List Str := ["low", "high"]
theorem sc_are_bounds : FnScope N_are_bounds ["low", "high"] (defScope s_are_bounds) := ⟨rfl, rfl, rfl, by decide +kernel, rfl, by decide +kernel, by decide +kernel⟩
abbrev N_need_book : List Str := ["value", "part"]
theorem sc_need_book : FnScope N_need_book ["value", "part"] (defScope s_need_book) := ⟨rfl, rfl, rfl, by decide +kernel, rfl, by decide +kernel, by decide +kernel⟩
abbrev N_are_rules : List Str := ["value", "rule"]
theorem sc_are_rules : FnScope N_are_rules ["value"] (defScope s_are_rules) := ⟨rfl, rfl, rfl, by decide +kernel, rfl, by decide +kernel, by decide +kernel⟩
abbrev N_moves_of : List Str := ["days", "rules", "found", "number", "rule", "place", "behind"]
theorem sc_moves_of : FnScope N_moves_of ["days", "rules"] (defScope s_moves_of) := ⟨rfl, rfl, rfl, by decide +kernel, rfl, by decide +kernel, by decide +kernel⟩
abbrev N_ways_from_all : List Str := ["book"]
theorem sc_ways_from_all : FnScope N_ways_from_all ["book"] (defScope s_ways_from_all) := ⟨rfl, rfl, rfl, by decide +kernel, rfl, by decide +kernel, by decide +kernel⟩
abbrev N_ways_from : List Str := ["book", "begin", "place"]
theorem sc_ways_from : FnScope N_ways_from ["book", "begin"] (defScope s_ways_from) := ⟨rfl, rfl, rfl, by decide +kernel, rfl, by decide +kernel, by decide +kernel⟩
abbrev N_row_by : List Str := ["costs", "one", "other"]
theorem sc_row_by : FnScope N_row_by ["costs"] (defScope s_row_by) := ⟨rfl, rfl, rfl, by decide +kernel, rfl, by decide +kernel, by decide +kernel⟩
abbrev N_kept_of : List Str := ["book", "ways", "ring"]
theorem sc_kept_of : FnScope N_kept_of ["book"] (defScope s_kept_of) := ⟨rfl, rfl, rfl, by decide +kernel, rfl, by decide +kernel, by decide +kernel⟩
abbrev N_kept_heights : List Str := ["book", "paper"]
theorem sc_kept_heights : FnScope N_kept_heights ["book"] (defScope s_kept_heights) := ⟨rfl, rfl, rfl, by decide +kernel, rfl, by decide +kernel, by decide +kernel⟩
abbrev N_places_of : List Str := ["ways", "place", "cost"]
theorem sc_places_of : FnScope N_places_of ["ways"] (defScope s_places_of) := ⟨rfl, rfl, rfl, by decide +kernel, rfl, by decide +kernel, by decide +kernel⟩
abbrev N_lift_of : List Str := ["book", "costs", "base", "moves", "move", "ahead", "behind", "cost", "_"]
theorem sc_lift_of : FnScope N_lift_of ["book", "costs", "base"] (defScope s_lift_of) := ⟨rfl, rfl, rfl, by decide +kernel, rfl, by decide +kernel, by decide +kernel⟩
abbrev N_raised_row : List Str := ["book", "costs", "base", "place", "at_least", "lift", "heights", "at", "cost", "height"]
theorem sc_raised_row : FnScope N_raised_row ["book", "costs", "base", "place", "at_least"] (defScope s_raised_row) := ⟨rfl, rfl, rfl, by decide +kernel, rfl, by decide +kernel, by decide +kernel⟩
abbrev N_bound_of : List Str := ["book", "first", "last", "sign", "base", "ways"]
theorem sc_bound_of : FnScope N_bound_of ["book", "first", "last", "sign"] (defScope s_bound_of) := ⟨rfl, rfl, rfl, by decide +kernel, rfl, by decide +kernel, by decide +kernel⟩
abbrev N_greatest : List Str := ["book", "begin", "length"]
theorem sc_greatest : FnScope N_greatest ["book", "begin", "length"] (defScope s_greatest) := ⟨rfl, rfl, rfl, by decide +kernel, rfl, by decide +kernel, by decide +kernel⟩
abbrev N_least : List Str := ["book", "begin", "length"]
theorem sc_least : FnScope N_least ["book", "begin", "length"] (defScope s_least) := ⟨rfl, rfl, rfl, by decide +kernel, rfl, by decide +kernel, by decide +kernel⟩
abbrev N_law_bag : List Str := ["_law_script", "_law_cell"]
theorem sc_law_bag : FnScope N_law_bag ["_law_script"] (defScope s_law_bag) := ⟨rfl, rfl, rfl, by decide +kernel, rfl, by decide +kernel, by decide +kernel⟩
abbrev N_law_dip : List Str := ["_law_bag_here", "_law_many", "_law_rest", "_law_at", "_law_cell", "_law_mixed"]
theorem sc_law_dip : FnScope N_law_dip ["_law_bag_here", "_law_many"] (defScope s_law_dip) := ⟨rfl, rfl, rfl, by decide +kernel, rfl, by decide +kernel, by decide +kernel⟩
abbrev N_law_one : List Str := ["_law_bag_here", "_law_some"]
theorem sc_law_one : FnScope N_law_one ["_law_bag_here", "_law_some"] (defScope s_law_one) := ⟨rfl, rfl, rfl, by decide +kernel, rfl, by decide +kernel, by decide +kernel⟩
abbrev N_law_gains : List Str := ["_law_bag_here", "_law_days", "_law_wide", "_law_day"]
theorem sc_law_gains : FnScope N_law_gains ["_law_bag_here", "_law_days", "_law_wide"] (defScope s_law_gains) := ⟨rfl, rfl, rfl, by decide +kernel, rfl, by decide +kernel, by decide +kernel⟩
abbrev N_law_sums : List Str := ["_law_gains_here", "_law_length", "_law_begin"]
theorem sc_law_sums : FnScope N_law_sums ["_law_gains_here", "_law_length"] (defScope s_law_sums) := ⟨rfl, rfl, rfl, by decide +kernel, rfl, by decide +kernel, by decide +kernel⟩
abbrev N_law_rules : List Str := ["_law_bag_here", "_law_gains_here", "_law_many", "_law_found", "_law_days", "_law_turn", "_law_length", "_law_way", "_law_sums_here", "_law_low", "_law_high"]
theorem sc_law_rules : FnScope N_law_rules ["_law_bag_here", "_law_gains_here", "_law_many"] (defScope s_law_rules) := ⟨rfl, rfl, rfl, by decide +kernel, rfl, by decide +kernel, by decide +kernel⟩
abbrev N_law_book : List Str := ["_law_days", "_law_rules_here", "_law_length", "_law_low", "_law_high"]
theorem sc_law_book : FnScope N_law_book ["_law_days", "_law_rules_here"] (defScope s_law_book) := ⟨rfl, rfl, rfl, by decide +kernel, rfl, by decide +kernel, by decide +kernel⟩
abbrev N_law_keeps : List Str := ["_law_gains_here", "_law_rules_here", "_law_length", "_law_low", "_law_high", "_law_total"]
theorem sc_law_keeps : FnScope N_law_keeps ["_law_gains_here", "_law_rules_here"] (defScope s_law_keeps) := ⟨rfl, rfl, rfl, by decide +kernel, rfl, by decide +kernel, by decide +kernel⟩
abbrev N_law_lists : List Str := ["_law_days", "_law_low", "_law_high", "_law_found", "_law_day", "_law_longer", "_law_gains_here", "_law_gain"]
theorem sc_law_lists : FnScope N_law_lists ["_law_days", "_law_low", "_law_high"] (defScope s_law_lists) := ⟨rfl, rfl, rfl, by decide +kernel, rfl, by decide +kernel, by decide +kernel⟩
abbrev N_law_listed_right : List Str := ["_law_days", "_law_rules_here", "_law_low", "_law_high", "_law_book_here", "_law_rows", "_law_gains_here", "_law_begin", "_law_length", "_law_up", "_law_down"]
theorem sc_law_listed_right : FnScope N_law_listed_right ["_law_days", "_law_rules_here", "_law_low", "_law_high"] (defScope s_law_listed_right) := ⟨rfl, rfl, rfl, by decide +kernel, rfl, by decide +kernel, by decide +kernel⟩
abbrev N_law_raised : List Str := ["_law_gains_here", "_law_places", "_law_by", "_law_heights", "_law_place", "_law_day"]
theorem sc_law_raised : FnScope N_law_raised ["_law_gains_here", "_law_places", "_law_by"] (defScope s_law_raised) := ⟨rfl, rfl, rfl, by decide +kernel, rfl, by decide +kernel, by decide +kernel⟩
abbrev N_law_free_right : List Str := ["_law_bag_here", "_law_gains_here", "_law_rules_here", "_law_days", "_law_book_here", "_law_begin", "_law_length", "_law_sign", "_law_paper", "_law_by", "_law_raised_here"]
theorem sc_law_free_right : FnScope N_law_free_right ["_law_bag_here", "_law_gains_here", "_law_rules_here"] (defScope s_law_free_right) := ⟨rfl, rfl, rfl, by decide +kernel, rfl, by decide +kernel, by decide +kernel⟩
abbrev N_law : List Str := ["_law_script", "_law_bag_here", "_law_days", "_law_low", "_law_high", "_law_gains_here", "_law_day", "_law_rules_here", "_law_at"]
theorem sc_law : FnScope N_law ["_law_script"] (defScope s_law) := ⟨rfl, rfl, rfl, by decide +kernel, rfl, by decide +kernel, by decide +kernel⟩
abbrev N_need_stretch : List Str := ["book", "begin", "length"]
theorem sc_need_stretch : FnScope N_need_stretch ["book", "begin", "length"] (defScope s_need_stretch) := ⟨rfl, rfl, rfl, by decide +kernel, rfl, by decide +kernel, by decide +kernel⟩
abbrev N_Paper_init : List Str := ["self", "word", "parts"]
theorem sc_Paper_init : FnScope N_Paper_init ["self", "word", "parts"] (defScope s_Paper_init) := ⟨rfl, rfl, rfl, by decide +kernel, rfl, by decide +kernel, by decide +kernel⟩
abbrev N_Paper_bool : List Str := ["self"]
theorem sc_Paper_bool : FnScope N_Paper_bool ["self"] (defScope s_Paper_bool) := ⟨rfl, rfl, rfl, by decide +kernel, rfl, by decide +kernel, by decide +kernel⟩
abbrev N_Row_init : List Str := ["self", "gains"]
theorem sc_Row_init : FnScope N_Row_init ["self", "gains"] (defScope s_Row_init) := ⟨rfl, rfl, rfl, by decide +kernel, rfl, by decide +kernel, by decide +kernel⟩
abbrev N_Row_of : List Str := ["heights", "ahead", "behind"]
theorem sc_Row_of : FnScope N_Row_of ["heights"] (defScope s_Row_of) := ⟨rfl, rfl, rfl, by decide +kernel, rfl, by decide +kernel, by decide +kernel⟩
abbrev N_Rule_init : List Str := ["self", "length", "low", "high"]
theorem sc_Rule_init : FnScope N_Rule_init ["self", "length", "low", "high"] (defScope s_Rule_init) := ⟨rfl, rfl, rfl, by decide +kernel, rfl, by decide +kernel, by decide +kernel⟩
abbrev N_Book_init : List Str := ["self", "days", "rules"]
theorem sc_Book_init : FnScope N_Book_init ["self", "days", "rules"] (defScope s_Book_init) := ⟨rfl, rfl, rfl, by decide +kernel, rfl, by decide +kernel, by decide +kernel⟩
abbrev N_Ways_init : List Str := ["self", "days", "rules", "costs", "place", "_"]
theorem sc_Ways_init : FnScope N_Ways_init ["self", "days", "rules", "costs"] (defScope s_Ways_init) := ⟨rfl, rfl, rfl, by decide +kernel, rfl, by decide +kernel, by decide +kernel⟩
abbrev N_Ways_once : List Str := ["self", "found", "move", "ahead", "behind"]
theorem sc_Ways_once : FnScope N_Ways_once ["self"] (defScope s_Ways_once) := ⟨rfl, rfl, rfl, by decide +kernel, rfl, by decide +kernel, by decide +kernel⟩
abbrev N_Ways_ring : List Str := ["self", "place", "_", "steps", "home"]
theorem sc_Ways_ring : FnScope N_Ways_ring ["self"] (defScope s_Ways_ring) := ⟨rfl, rfl, rfl, by decide +kernel, rfl, by decide +kernel, by decide +kernel⟩
abbrev N_Ways_way_to : List Str := ["self", "place", "steps"]
theorem sc_Ways_way_to : FnScope N_Ways_way_to ["self", "place"] (defScope s_Ways_way_to) := ⟨rfl, rfl, rfl, by decide +kernel, rfl, by decide +kernel, by decide +kernel⟩
abbrev N_Kept_init : List Str := ["self", "row", "__class__"]
theorem sc_Kept_init : NScope N_Kept_init ["self", "row"] ["__class__"] (defScope s_Kept_init) := nscope_by (by decide +kernel)
abbrev N_Bound_init : List Str := ["self", "number", "way", "row", "__class__"]
theorem sc_Bound_init : NScope N_Bound_init ["self", "number", "way", "row"] ["__class__"] (defScope s_Bound_init) := nscope_by (by decide +kernel)
abbrev N_Unbound_init : List Str := ["self", "places", "__class__"]
theorem sc_Unbound_init : NScope N_Unbound_init ["self", "places"] ["__class__"] (defScope s_Unbound_init) := nscope_by (by decide +kernel)

/-! ### the defs as data -/
def d_is_integer : He5.DefA := ⟨(fun K => He.ga K "is_integer"), "is_integer", "is_integer", defArgs s_is_integer, defBody s_is_integer, defScope s_is_integer, [], []⟩
def d_is_within : He5.DefA := ⟨(fun K => He.ga K "is_within"), "is_within", "is_within", defArgs s_is_within, defBody s_is_within, defScope s_is_within, [], []⟩
def d_are_integers : He5.DefA := ⟨(fun K => He.ga K "are_integers"), "are_integers", "are_integers", defArgs s_are_integers, defBody s_are_integers, defScope s_are_integers, [], []⟩
def d_need_number : He5.DefA := ⟨(fun K => He.ga K "need_number"), "need_number", "need_number", defArgs s_need_number, defBody s_need_number, defScope s_need_number, [], []⟩
def d_fixed : He5.DefA := ⟨(fun K => He.ga K "fixed"), "fixed", "fixed", defArgs s_fixed, defBody s_fixed, defScope s_fixed, [], []⟩
def d_heights_of : He5.DefA := ⟨(fun K => He.ga K "heights_of"), "heights_of", "heights_of", defArgs s_heights_of, defBody s_heights_of, defScope s_heights_of, [], []⟩
def d_need_bound : He5.DefA := ⟨(fun K => He.ga K "need_bound"), "need_bound", "need_bound", defArgs s_need_bound, defBody s_need_bound, defScope s_need_bound, [], []⟩
def d_are_bounds : He5.DefA := ⟨(fun K => He.ga K "are_bounds"), "are_bounds", "are_bounds", defArgs s_are_bounds, defBody s_are_bounds, defScope s_are_bounds, [], []⟩
def d_need_book : He5.DefA := ⟨(fun K => He.ga K "need_book"), "need_book", "need_book", defArgs s_need_book, defBody s_need_book, defScope s_need_book, [], []⟩
def d_are_rules : He5.DefA := ⟨(fun K => He.ga K "are_rules"), "are_rules", "are_rules", defArgs s_are_rules, defBody s_are_rules, defScope s_are_rules, [], []⟩
def d_moves_of : He5.DefA := ⟨(fun K => He.ga K "moves_of"), "moves_of", "moves_of", defArgs s_moves_of, defBody s_moves_of, defScope s_moves_of, [], []⟩
def d_ways_from_all : He5.DefA := ⟨(fun K => He.ga K "ways_from_all"), "ways_from_all", "ways_from_all", defArgs s_ways_from_all, defBody s_ways_from_all, defScope s_ways_from_all, [], []⟩
def d_ways_from : He5.DefA := ⟨(fun K => He.ga K "ways_from"), "ways_from", "ways_from", defArgs s_ways_from, defBody s_ways_from, defScope s_ways_from, [], []⟩
def d_row_by : He5.DefA := ⟨(fun K => He.ga K "row_by"), "row_by", "row_by", defArgs s_row_by, defBody s_row_by, defScope s_row_by, [], []⟩
def d_kept_of : He5.DefA := ⟨(fun K => He.ga K "kept_of"), "kept_of", "kept_of", defArgs s_kept_of, defBody s_kept_of, defScope s_kept_of, [], []⟩
def d_kept_heights : He5.DefA := ⟨(fun K => He.ga K "kept_heights"), "kept_heights", "kept_heights", defArgs s_kept_heights, defBody s_kept_heights, defScope s_kept_heights, [], []⟩
def d_places_of : He5.DefA := ⟨(fun K => He.ga K "places_of"), "places_of", "places_of", defArgs s_places_of, defBody s_places_of, defScope s_places_of, [], []⟩
def d_lift_of : He5.DefA := ⟨(fun K => He.ga K "lift_of"), "lift_of", "lift_of", defArgs s_lift_of, defBody s_lift_of, defScope s_lift_of, [], []⟩
def d_raised_row : He5.DefA := ⟨(fun K => He.ga K "raised_row"), "raised_row", "raised_row", defArgs s_raised_row, defBody s_raised_row, defScope s_raised_row, [.int 0, .int 0], []⟩
def d_bound_of : He5.DefA := ⟨(fun K => He.ga K "bound_of"), "bound_of", "bound_of", defArgs s_bound_of, defBody s_bound_of, defScope s_bound_of, [], []⟩
def d_greatest : He5.DefA := ⟨(fun K => He.ga K "greatest"), "greatest", "greatest", defArgs s_greatest, defBody s_greatest, defScope s_greatest, [], []⟩
def d_least : He5.DefA := ⟨(fun K => He.ga K "least"), "least", "least", defArgs s_least, defBody s_least, defScope s_least, [], []⟩
def d_law_bag : He5.DefA := ⟨(fun K => He.ga K "_law_bag"), "_law_bag", "_law_bag", defArgs s_law_bag, defBody s_law_bag, defScope s_law_bag, [], []⟩
def d_law_dip : He5.DefA := ⟨(fun K => He.ga K "_law_dip"), "_law_dip", "_law_dip", defArgs s_law_dip, defBody s_law_dip, defScope s_law_dip, [], []⟩
def d_law_one : He5.DefA := ⟨(fun K => He.ga K "_law_one"), "_law_one", "_law_one", defArgs s_law_one, defBody s_law_one, defScope s_law_one, [], []⟩
def d_law_gains : He5.DefA := ⟨(fun K => He.ga K "_law_gains"), "_law_gains", "_law_gains", defArgs s_law_gains, defBody s_law_gains, defScope s_law_gains, [], []⟩
def d_law_sums : He5.DefA := ⟨(fun K => He.ga K "_law_sums"), "_law_sums", "_law_sums", defArgs s_law_sums, defBody s_law_sums, defScope s_law_sums, [], []⟩
def d_law_rules : He5.DefA := ⟨(fun K => He.ga K "_law_rules"), "_law_rules", "_law_rules", defArgs s_law_rules, defBody s_law_rules, defScope s_law_rules, [], []⟩
def d_law_book : He5.DefA := ⟨(fun K => He.ga K "_law_book"), "_law_book", "_law_book", defArgs s_law_book, defBody s_law_book, defScope s_law_book, [], []⟩
def d_law_keeps : He5.DefA := ⟨(fun K => He.ga K "_law_keeps"), "_law_keeps", "_law_keeps", defArgs s_law_keeps, defBody s_law_keeps, defScope s_law_keeps, [], []⟩
def d_law_lists : He5.DefA := ⟨(fun K => He.ga K "_law_lists"), "_law_lists", "_law_lists", defArgs s_law_lists, defBody s_law_lists, defScope s_law_lists, [], []⟩
def d_law_listed_right : He5.DefA := ⟨(fun K => He.ga K "_law_listed_right"), "_law_listed_right", "_law_listed_right", defArgs s_law_listed_right, defBody s_law_listed_right, defScope s_law_listed_right, [], []⟩
def d_law_raised : He5.DefA := ⟨(fun K => He.ga K "_law_raised"), "_law_raised", "_law_raised", defArgs s_law_raised, defBody s_law_raised, defScope s_law_raised, [], []⟩
def d_law_free_right : He5.DefA := ⟨(fun K => He.ga K "_law_free_right"), "_law_free_right", "_law_free_right", defArgs s_law_free_right, defBody s_law_free_right, defScope s_law_free_right, [], []⟩
def d_law : He5.DefA := ⟨(fun K => He.ga K "law"), "law", "law", defArgs s_law, defBody s_law, defScope s_law, [], []⟩
def d_need_stretch : He5.DefA := ⟨(fun K => He.ga K "need_stretch_bounds"), "need_stretch", "need_stretch", defArgs s_need_stretch, defBody s_need_stretch, defScope s_need_stretch, [], []⟩
def d_Paper_init : He5.DefA := ⟨(fun K => He.ma K (He.ga K "Paper") "__init__"), "__init__", "Paper.__init__", defArgs s_Paper_init, defBody s_Paper_init, defScope s_Paper_init, [], []⟩
def d_Paper_bool : He5.DefA := ⟨(fun K => He.ma K (He.ga K "Kept") "__bool__"), "__bool__", "Paper.__bool__", defArgs s_Paper_bool, defBody s_Paper_bool, defScope s_Paper_bool, [], []⟩
def d_Row_init : He5.DefA := ⟨(fun K => He.ma K (He.ga K "Row") "__init__"), "__init__", "Row.__init__", defArgs s_Row_init, defBody s_Row_init, defScope s_Row_init, [], []⟩
def d_Row_of : He5.DefA := ⟨(fun K => He5.wf K (He.ga K "Row") "staticmethod" "of"), "of", "Row.of", defArgs s_Row_of, defBody s_Row_of, defScope s_Row_of, [], []⟩
def d_Rule_init : He5.DefA := ⟨(fun K => He.ma K (He.ga K "Rule") "__init__"), "__init__", "Rule.__init__", defArgs s_Rule_init, defBody s_Rule_init, defScope s_Rule_init, [.non, .non], []⟩
def d_Book_init : He5.DefA := ⟨(fun K => He.ma K (He.ga K "Book") "__init__"), "__init__", "Book.__init__", defArgs s_Book_init, defBody s_Book_init, defScope s_Book_init, [], []⟩
def d_Ways_init : He5.DefA := ⟨(fun K => He.ma K (He.ga K "Ways") "__init__"), "__init__", "Ways.__init__", defArgs s_Ways_init, defBody s_Ways_init, defScope s_Ways_init, [], []⟩
def d_Ways_once : He5.DefA := ⟨(fun K => He.ma K (He.ga K "Ways") "once"), "once", "Ways.once", defArgs s_Ways_once, defBody s_Ways_once, defScope s_Ways_once, [], []⟩
def d_Ways_ring : He5.DefA := ⟨(fun K => He.ma K (He.ga K "Ways") "ring"), "ring", "Ways.ring", defArgs s_Ways_ring, defBody s_Ways_ring, defScope s_Ways_ring, [], []⟩
def d_Ways_way_to : He5.DefA := ⟨(fun K => He.ma K (He.ga K "Ways") "way_to"), "way_to", "Ways.way_to", defArgs s_Ways_way_to, defBody s_Ways_way_to, defScope s_Ways_way_to, [], []⟩
def fns : List He5.DefA := [d_is_integer, d_is_within, d_are_integers, d_need_number, d_fixed, d_heights_of, d_need_bound, d_are_bounds, d_need_book, d_are_rules, d_moves_of, d_ways_from_all, d_ways_from, d_row_by, d_kept_of, d_kept_heights, d_places_of, d_lift_of, d_raised_row, d_bound_of, d_greatest, d_least, d_law_bag, d_law_dip, d_law_one, d_law_gains, d_law_sums, d_law_rules, d_law_book, d_law_keeps, d_law_lists, d_law_listed_right, d_law_raised, d_law_free_right, d_law, d_need_stretch, d_Paper_init, d_Paper_bool, d_Row_init, d_Row_of, d_Rule_init, d_Book_init, d_Ways_init, d_Ways_once, d_Ways_ring, d_Ways_way_to]
def fa0 : List He.Fa := [.free "isinstance", .free "int", .free "bool", .free "list", .free "tuple", .free "all", .free "len", .free "range", .free "enumerate", .free "zip", .free "max", .free "min", .free "sum", .free "abs", .free "set", .free "sorted", .free "super", .glo "is_integer", .glo "is_within", .glo "are_integers", .glo "need_number", .glo "fixed", .glo "heights_of", .glo "need_bound", .glo "are_bounds", .glo "need_book", .glo "are_rules", .glo "moves_of", .glo "ways_from_all", .glo "ways_from"]
def fa1 : List He.Fa := [.glo "row_by", .glo "kept_of", .glo "kept_heights", .glo "places_of", .glo "lift_of", .glo "raised_row", .glo "bound_of", .glo "greatest", .glo "least", .glo "_law_bag", .glo "_law_dip", .glo "_law_one", .glo "_law_gains", .glo "_law_sums", .glo "_law_rules", .glo "_law_book", .glo "_law_keeps", .glo "_law_lists", .glo "_law_listed_right", .glo "_law_raised", .glo "_law_free_right", .glo "law", .glo "need_stretch_bounds", .glo "Row", .glo "Rule", .glo "Book", .glo "Ways", .glo "Kept", .glo "Bound", .glo "Unbound"]
def fa2 : List He.Fa := [.int "MOST_LENGTH" 48, .int "MOST_DAYS_books" 48, .int "MOST_RULES" 8, .int "MOST_DAYS_rows" 48, .cls "Row", .cls "Rule", .cls "Book", .cls "Ways", .cls "Kept", .cls "Bound", .cls "Unbound", .noat "Row" "gains", .noat "Row" "heights", .noat "Row" "days", .noat "Row" "total", .noat "Rule" "length", .noat "Rule" "low", .noat "Rule" "high", .noat "Book" "days", .noat "Book" "rules", .noat "Ways" "moves", .noat "Ways" "costs", .noat "Ways" "by", .noat "Ways" "restless", .noat "Kept" "word", .noat "Kept" "parts", .noat "Kept" "row", .noat "Bound" "word", .noat "Bound" "parts", .noat "Bound" "number"]
def fa3 : List He.Fa := [.noat "Bound" "way", .noat "Bound" "row", .noat "Unbound" "word", .noat "Unbound" "parts", .noat "Unbound" "places", .meth "Ways" "once", .meth "Ways" "ring", .meth "Ways" "way_to", .meth "Kept" "__bool__", .mkr "Row", .mkr "Rule", .mkr "Book", .mkr "Ways", .mkr "Kept", .mkr "Bound", .mkr "Unbound"]
def fas : List He.Fa := fa0 ++ fa1 ++ fa2 ++ fa3

/-! ### more facts, by tests of one's own -/
/-- what isinstance asks of an own class's instance -/
def tyB (K : PySem.W.Frag) (C : Addr) : Bool := He.eqO (PySem.W.findIn K (.ref C) "__class__") (some (some (.builtin "object.__class__"))) && (He.eqO (PySem.W.specialIn K (.builtin "object.__class__") "__get__") (some (some (.builtin "getset_descriptor.__get__"))) &&
  (decide (PySem.W.takesIn K (.builtin "object.__class__") = some true) && decide (PySem.W.mroIn K C (.type "object") = some true)))
theorem tyB_ok {K : PySem.W.Frag} {C : Addr} (h : tyB K C = true) (cl : Cls K C) {H : Hp} {a dx : Addr} {fs : List (Str × V)} (e : H a = some (.ins C dx fs)) : TyX K H (.ref a) (.ref C) := by
  obtain ⟨h1, h⟩ := He.ba h
  obtain ⟨h2, h⟩ := He.ba h
  obtain ⟨h3, h4⟩ := He.ba h
  exact .base (.ins e cl (He.eqO_ok h1) (He.eqO_ok h2) (of_decide_eq_true h3) (of_decide_eq_true h4))
/-- isinstance of an instance of C, asked for D -/
def isB (K : PySem.W.Frag) (C D : Addr) (b : Bool) : Bool := decide (PySem.W.kitOne K (.ref C) (.ref D) = some b)
def seqB (K : PySem.W.Frag) (C : Addr) : Bool := decide (PySem.W.kitAny K (.ref C) [.type "list", .type "tuple"] = some false)
/-- a static method -/
def smB (K : PySem.W.Frag) (C : Addr) (m : Str) : Bool := PySem.W.readsIn K C (.type "type") && (He.eqO (PySem.W.specialIn K (.ref C) "__getattribute__") (some (some (.builtin "type.__getattribute__"))) && He5.wrapB K C "staticmethod" "staticmethod.__get__" m)
theorem smB_ok {K : PySem.W.Frag} {C : Addr} {m : Str} (h : smB K C m = true) : SMet K C m (He.ma K C m) (He5.wf K C "staticmethod" m) := by
  obtain ⟨h1, h⟩ := He.ba h
  obtain ⟨h2, h3⟩ := He.ba h
  obtain ⟨h4, h5⟩ := He5.wrapB_ok h3
  exact ⟨h1, He.eqO_ok h2, h4, h5⟩
/-- the cell, the code of an __init__ that says super() -/
def ccOf (K : PySem.W.Frag) (f : Addr) : Addr := match K.lookup f with
  | some ⟨_, _, .func fd, _⟩ => (match fd.closure with
    | (_, c) :: _ => c
    | _ => 0)
  | _ => 0
def cdOf (K : PySem.W.Frag) (f : Addr) : Addr := match K.lookup f with
  | some ⟨_, _, .func fd, _⟩ => (match fd.code with
    | .ref c => c
    | _ => 0)
  | _ => 0
def supNF (K : PySem.W.Frag) (f : Addr) (qual : Str) (st : Stmt) : NF := ⟨"__init__", qual, defArgs st, defBody st, defScope st, [("__class__", ccOf K f)], cdOf K f⟩
abbrev FnS : Type := Option (Str × Str × Arguments × FuncBody × Scope × Addr × Addr)
def fnS (K : PySem.W.Frag) (f : Addr) : FnS := match K.lookup f with
  | some ⟨_, _, .func fd, _⟩ => some (fd.name, fd.qualname, fd.params, fd.body, fd.scope, fd.globals, fd.builtins)
  | _ => none
def supV (qual : Str) (st : Stmt) : FnS := some ("__init__", qual, defArgs st, .stmts (defBody st), defScope st, mainGlobals, builtinsNs)
def supB (K : PySem.W.Frag) (P : Program) (f D g : Addr) (qual : Str) : Bool :=
  (match K.lookup f with
    | some ⟨_, _, .func fd, _⟩ => decide (fd.closure = [(("__class__" : Str), ccOf K f)]) && (decide (fd.code = .ref (cdOf K f)) && decide (fd.defaults = .none))
    | _ => false) && (PySem.W.codeIn K (.ref (cdOf K f)) qual && ((match K.lookup (cdOf K f) with
    | some ⟨_, _, .fields vs, _⟩ => (match (vs[2]? : Option Value) with
      | some (Value.str z _) => (P.main.file : Str) == z
      | _ => false)
    | _ => false) && ((match K.lookup (ccOf K f) with
    | some ⟨_, _, .cell (some (.ref E)), _⟩ => decide (E = D)
    | _ => false) && ((match PySem.W.clsIn K D with
    | some cd => He.eqO (PySem.W.alongIn K "__init__" ((cd.mro.dropWhile (· != .ref D)).drop 1)) (some (some (.ref g)))
    | _ => false) && (decide (PySem.W.mroIn K D (.ref D) = some true) && (decide (PySem.W.typeIn K (.ref g) = some (.type "function")) && (He.eqO (PySem.W.nsIn K cStatics "thirdparty.any") (some none) && (PySem.W.fnIn K g && !(P.main.scope.names.lookup ("super" : Str)).isSome))))))))
theorem sup_ok {K : PySem.W.Frag} {P : Program} {f D g : Addr} {qual : Str} {st : Stmt} (e : fnS K f = supV qual st) (h : supB K P f D g qual = true) : SupF K P (supNF K f qual st) f g D (ccOf K f) := by
  obtain ⟨h1, h⟩ := He.ba h
  obtain ⟨h2, h⟩ := He.ba h
  obtain ⟨h3, h⟩ := He.ba h
  obtain ⟨h4, h⟩ := He.ba h
  obtain ⟨h5, h⟩ := He.ba h
  obtain ⟨h6, h⟩ := He.ba h
  obtain ⟨h7, h⟩ := He.ba h
  obtain ⟨h8, h⟩ := He.ba h
  obtain ⟨h9, h10⟩ := He.ba h
  refine ⟨?_, rfl, h2, ?_, ?_, ?_, of_decide_eq_true h6, of_decide_eq_true h7, He.eqO_ok h8, h9, ?_⟩
  · clear h2 h3 h4 h5
    unfold fnS at e
    cases q : K.lookup f with
    | none => rw [q] at h1; cases h1
    | some o =>
      obtain ⟨oc, od, dt, osl⟩ := o
      rw [q] at h1 e
      cases dt with
      | func fd =>
        obtain ⟨n1, n2, n3, n4, n5, n6, n7, n8, n9, n10, n11, n12, n13, n14, n15⟩ := fd
        obtain ⟨k1, k⟩ := He.ba h1
        obtain ⟨k2, k3⟩ := He.ba k
        have k1 := of_decide_eq_true k1
        have k2 := of_decide_eq_true k2
        have k3 := of_decide_eq_true k3
        have e2 : (some (n1, n2, n3, n4, n5, n6, n15) : FnS) = some (("__init__" : Str), qual, defArgs st, FuncBody.stmts (defBody st), defScope st, mainGlobals, builtinsNs) := e
        simp only [Option.some.injEq, Prod.mk.injEq] at e2
        obtain ⟨a1, a2, a3, a4, a5, a6, a7⟩ := e2
        simp only at k1 k2 k3
        refine ⟨oc, od, n9, n10, n11, n14, n12, osl, ?_⟩
        rw [a1, a2, a3, a4, a5, a6, a7, k1, k2, k3]
        rfl
      | _ => cases h1
  · cases q : K.lookup (cdOf K f) with
    | none => rw [q] at h3; cases h3
    | some o =>
      obtain ⟨oc, od, dt, osl⟩ := o
      rw [q] at h3
      cases dt with
      | fields vs =>
        have h3 : (match (vs[2]? : Option Value) with
          | some (Value.str z _) => (P.main.file : Str) == z
          | _ => false) = true := h3
        cases r : vs[2]? with
        | none => rw [r] at h3; cases h3
        | some u =>
          rw [r] at h3
          cases u with
          | str z t => exact ⟨oc, od, vs, osl, z, t, q, r, h3⟩
          | _ => cases h3
      | _ => cases h3
  · cases q : K.lookup (ccOf K f) with
    | none => rw [q] at h4; cases h4
    | some o =>
      obtain ⟨oc, od, dt, osl⟩ := o
      rw [q] at h4
      cases dt with
      | cell v =>
        cases v with
        | none => cases h4
        | some u =>
          cases u with
          | ref E =>
            have ee : E = D := of_decide_eq_true h4
            subst ee
            exact ⟨oc, od, osl, rfl⟩
          | _ => cases h4
      | _ => cases h4
  · cases q : PySem.W.clsIn K D with
    | none => rw [q] at h5; cases h5
    | some cd =>
      rw [q] at h5
      exact ⟨cd, rfl, He.eqO_ok h5⟩
  · cases q : (P.main.scope.names.lookup ("super" : Str)).isSome with
    | false => rfl
    | true => rw [q] at h10; cases h10

def exs (K : PySem.W.Frag) : List Bool := [tyB K (He.ga K "Row"),
  tyB K (He.ga K "Rule"),
  tyB K (He.ga K "Book"),
  tyB K (He.ga K "Bound"),
  tyB K (He.ga K "Unbound"),
  isB K (He.ga K "Rule") (He.ga K "Rule") true,
  isB K (He.ga K "Book") (He.ga K "Book") true,
  isB K (He.ga K "Bound") (He.ga K "Bound") true,
  isB K (He.ga K "Unbound") (He.ga K "Bound") false,
  isB K (He.ga K "Unbound") (He.ga K "Unbound") true,
  seqB K (He.ga K "Row"),
  smB K (He.ga K "Row") "of",
  PySem.W.keepIn K (.ref (He5.wf K (He.ga K "Row") "staticmethod" "of")),
  supB K Pg (He.ma K (He.ga K "Kept") "__init__") (He.ga K "Kept") (He.ma K (He.ga K "Paper") "__init__") "Kept.__init__",
  supB K Pg (He.ma K (He.ga K "Bound") "__init__") (He.ga K "Bound") (He.ma K (He.ga K "Paper") "__init__") "Bound.__init__",
  supB K Pg (He.ma K (He.ga K "Unbound") "__init__") (He.ga K "Unbound") (He.ma K (He.ga K "Paper") "__init__") "Unbound.__init__"]
def supsO (K : PySem.W.Frag) : List FnS := [fnS K (He.ma K (He.ga K "Kept") "__init__"), fnS K (He.ma K (He.ga K "Bound") "__init__"), fnS K (He.ma K (He.ga K "Unbound") "__init__")]
def supsV : List FnS := [supV "Kept.__init__" s_Kept_init, supV "Bound.__init__" s_Bound_init, supV "Unbound.__init__" s_Unbound_init]

/-! ### the Hook -/
abbrev Al : Type := He.AlD × (Bool × List FnS)
def obsK (K : PySem.W.Frag) : Al := (He5.obsA fas fns K, (exs K).all id, supsO K)
def valK : Al := (He5.valA fns, true, supsV)
/-- what an object leads to: a dict's values, a class's names, a def's code, defaults and cells, a static method's def -/
def refsK (o : Obj) : List Addr := match o.data with
  | .dict es _ => es.toList.flatMap fun e => He.refV e.val
  | .func fd => He.refV fd.code ++ (He.refV fd.defaults ++ fd.closure.map (·.2))
  | .cls cd => [cd.ns]
  | .fields vs => (match o.cls with
    | .type n => (match n == "staticmethod" with
      | true => vs.toList.flatMap He.refV
      | false => [])
    | _ => [])
  | _ => []
def nextK (g : Addr → Option Obj) (as : List Addr) : List Addr := as.flatMap fun a => match g a with
  | some o => refsK o
  | none => []
/-- n steps on from some addresses, none looked at twice -/
def levK (g : Addr → Option Obj) : Nat → List Addr → List Addr
  | 0, as => as
  | n + 1, as => as ++ levK g n (nextK g as)
def obsG (n : Nat) (g : Addr → Option Obj) : Al := obsK (He.frG g (levK g n [mainGlobals] ++ [cStatics]))
def hookK (n : Nat) : PySem.W.Hook where
  α := Al
  obs := fun s => obsG n s.heap.get?
  val := fun _ => valK
  says := fun _ h => ∃ K : PySem.W.Frag, K.In h ∧ obsK K = valK
  of := fun _ _ e => ⟨_, He.frG_in, e⟩
  keeps := fun _ _ _ ⟨K, hK, c⟩ k => ⟨K, PySem.W.Frag.In.keeps hK k, c⟩
theorem obsG_eq {n : Nat} {g : Addr → Option Obj} {s : Shared} (h : ∀ a, g a = s.heap.get? a) : obsG n g = (hookK n).obs s := by
  have e : g = s.heap.get? := funext h
  rw [e] <;> rfl
/-! ### what the defs lean on -/
structure Txt (K : PySem.W.Frag) (mg : Str → Option Value) : Prop where
  at_ : ∃ h : Heap, K.In h ∧ h.Ns mainGlobals mg
  says : obsK K = valK
section
variable {K : PySem.W.Frag} {mg : Str → Option Value}
theorem Txt.c (T : Txt K mg) : He5.SaysA fas fns K := congrArg (fun z : Al => z.1) T.says
theorem Txt.fact (T : Txt K mg) (i : Nat) {f : He.Fa} (h : fas[i]? = some f) : f.ok K = true := T.c.fact i h
theorem Txt.ex (T : Txt K mg) (i : Nat) {b : Bool} (h : (exs K)[i]? = some b) : b = true := by
  have e : (exs K).all id = true := congrArg (fun z : Al => z.2.1) T.says
  exact List.all_eq_true.mp e b (List.mem_of_getElem? h)
theorem Txt.su (T : Txt K mg) : supsO K = supsV := congrArg (fun z : Al => z.2.2) T.says
/-- a def without defaults -/
theorem Txt.fn (T : Txt K mg) (i : Nat) {d : He5.DefA} (h : fns[i]? = some d) (hd : d.dfl = []) {x qual : Str} {st : Stmt} (e : d = ⟨d.at_, x, qual, defArgs st, defBody st, defScope st, [], d.kwd⟩) : ∃ fd, Fun K x qual st (d.at_ K) fd := by
  obtain ⟨fd, F⟩ := T.c.def_ i h
  rw [e] at F
  exact ⟨fd, He5.fun_of F⟩

theorem Txt.free_isinstance (T : Txt K mg) : mg "isinstance" = none := by obtain ⟨h, X, G⟩ := T.at_; exact He.free_ok X G (T.fact 0 (f := .free "isinstance") rfl)
theorem Txt.free_int (T : Txt K mg) : mg "int" = none := by obtain ⟨h, X, G⟩ := T.at_; exact He.free_ok X G (T.fact 1 (f := .free "int") rfl)
theorem Txt.free_bool (T : Txt K mg) : mg "bool" = none := by obtain ⟨h, X, G⟩ := T.at_; exact He.free_ok X G (T.fact 2 (f := .free "bool") rfl)
theorem Txt.free_list (T : Txt K mg) : mg "list" = none := by obtain ⟨h, X, G⟩ := T.at_; exact He.free_ok X G (T.fact 3 (f := .free "list") rfl)
theorem Txt.free_tuple (T : Txt K mg) : mg "tuple" = none := by obtain ⟨h, X, G⟩ := T.at_; exact He.free_ok X G (T.fact 4 (f := .free "tuple") rfl)
theorem Txt.free_all (T : Txt K mg) : mg "all" = none := by obtain ⟨h, X, G⟩ := T.at_; exact He.free_ok X G (T.fact 5 (f := .free "all") rfl)
theorem Txt.free_len (T : Txt K mg) : mg "len" = none := by obtain ⟨h, X, G⟩ := T.at_; exact He.free_ok X G (T.fact 6 (f := .free "len") rfl)
theorem Txt.free_range (T : Txt K mg) : mg "range" = none := by obtain ⟨h, X, G⟩ := T.at_; exact He.free_ok X G (T.fact 7 (f := .free "range") rfl)
theorem Txt.free_enumerate (T : Txt K mg) : mg "enumerate" = none := by obtain ⟨h, X, G⟩ := T.at_; exact He.free_ok X G (T.fact 8 (f := .free "enumerate") rfl)
theorem Txt.free_zip (T : Txt K mg) : mg "zip" = none := by obtain ⟨h, X, G⟩ := T.at_; exact He.free_ok X G (T.fact 9 (f := .free "zip") rfl)
theorem Txt.free_max (T : Txt K mg) : mg "max" = none := by obtain ⟨h, X, G⟩ := T.at_; exact He.free_ok X G (T.fact 10 (f := .free "max") rfl)
theorem Txt.free_min (T : Txt K mg) : mg "min" = none := by obtain ⟨h, X, G⟩ := T.at_; exact He.free_ok X G (T.fact 11 (f := .free "min") rfl)
theorem Txt.free_sum (T : Txt K mg) : mg "sum" = none := by obtain ⟨h, X, G⟩ := T.at_; exact He.free_ok X G (T.fact 12 (f := .free "sum") rfl)
theorem Txt.free_abs (T : Txt K mg) : mg "abs" = none := by obtain ⟨h, X, G⟩ := T.at_; exact He.free_ok X G (T.fact 13 (f := .free "abs") rfl)
theorem Txt.free_set (T : Txt K mg) : mg "set" = none := by obtain ⟨h, X, G⟩ := T.at_; exact He.free_ok X G (T.fact 14 (f := .free "set") rfl)
theorem Txt.free_sorted (T : Txt K mg) : mg "sorted" = none := by obtain ⟨h, X, G⟩ := T.at_; exact He.free_ok X G (T.fact 15 (f := .free "sorted") rfl)
theorem Txt.free_super (T : Txt K mg) : mg "super" = none := by obtain ⟨h, X, G⟩ := T.at_; exact He.free_ok X G (T.fact 16 (f := .free "super") rfl)
theorem Txt.glo_is_integer (T : Txt K mg) : mg "is_integer" = some (.ref (He.ga K "is_integer")) := by obtain ⟨h, X, G⟩ := T.at_; exact He.glo_ok X G (T.fact 17 (f := .glo "is_integer") rfl)
theorem Txt.glo_is_within (T : Txt K mg) : mg "is_within" = some (.ref (He.ga K "is_within")) := by obtain ⟨h, X, G⟩ := T.at_; exact He.glo_ok X G (T.fact 18 (f := .glo "is_within") rfl)
theorem Txt.glo_are_integers (T : Txt K mg) : mg "are_integers" = some (.ref (He.ga K "are_integers")) := by obtain ⟨h, X, G⟩ := T.at_; exact He.glo_ok X G (T.fact 19 (f := .glo "are_integers") rfl)
theorem Txt.glo_need_number (T : Txt K mg) : mg "need_number" = some (.ref (He.ga K "need_number")) := by obtain ⟨h, X, G⟩ := T.at_; exact He.glo_ok X G (T.fact 20 (f := .glo "need_number") rfl)
theorem Txt.glo_fixed (T : Txt K mg) : mg "fixed" = some (.ref (He.ga K "fixed")) := by obtain ⟨h, X, G⟩ := T.at_; exact He.glo_ok X G (T.fact 21 (f := .glo "fixed") rfl)
theorem Txt.glo_heights_of (T : Txt K mg) : mg "heights_of" = some (.ref (He.ga K "heights_of")) := by obtain ⟨h, X, G⟩ := T.at_; exact He.glo_ok X G (T.fact 22 (f := .glo "heights_of") rfl)
theorem Txt.glo_need_bound (T : Txt K mg) : mg "need_bound" = some (.ref (He.ga K "need_bound")) := by obtain ⟨h, X, G⟩ := T.at_; exact He.glo_ok X G (T.fact 23 (f := .glo "need_bound") rfl)
theorem Txt.glo_are_bounds (T : Txt K mg) : mg "are_bounds" = some (.ref (He.ga K "are_bounds")) := by obtain ⟨h, X, G⟩ := T.at_; exact He.glo_ok X G (T.fact 24 (f := .glo "are_bounds") rfl)
theorem Txt.glo_need_book (T : Txt K mg) : mg "need_book" = some (.ref (He.ga K "need_book")) := by obtain ⟨h, X, G⟩ := T.at_; exact He.glo_ok X G (T.fact 25 (f := .glo "need_book") rfl)
theorem Txt.glo_are_rules (T : Txt K mg) : mg "are_rules" = some (.ref (He.ga K "are_rules")) := by obtain ⟨h, X, G⟩ := T.at_; exact He.glo_ok X G (T.fact 26 (f := .glo "are_rules") rfl)
theorem Txt.glo_moves_of (T : Txt K mg) : mg "moves_of" = some (.ref (He.ga K "moves_of")) := by obtain ⟨h, X, G⟩ := T.at_; exact He.glo_ok X G (T.fact 27 (f := .glo "moves_of") rfl)
theorem Txt.glo_ways_from_all (T : Txt K mg) : mg "ways_from_all" = some (.ref (He.ga K "ways_from_all")) := by obtain ⟨h, X, G⟩ := T.at_; exact He.glo_ok X G (T.fact 28 (f := .glo "ways_from_all") rfl)
theorem Txt.glo_ways_from (T : Txt K mg) : mg "ways_from" = some (.ref (He.ga K "ways_from")) := by obtain ⟨h, X, G⟩ := T.at_; exact He.glo_ok X G (T.fact 29 (f := .glo "ways_from") rfl)
theorem Txt.glo_row_by (T : Txt K mg) : mg "row_by" = some (.ref (He.ga K "row_by")) := by obtain ⟨h, X, G⟩ := T.at_; exact He.glo_ok X G (T.fact 30 (f := .glo "row_by") rfl)
theorem Txt.glo_kept_of (T : Txt K mg) : mg "kept_of" = some (.ref (He.ga K "kept_of")) := by obtain ⟨h, X, G⟩ := T.at_; exact He.glo_ok X G (T.fact 31 (f := .glo "kept_of") rfl)
theorem Txt.glo_kept_heights (T : Txt K mg) : mg "kept_heights" = some (.ref (He.ga K "kept_heights")) := by obtain ⟨h, X, G⟩ := T.at_; exact He.glo_ok X G (T.fact 32 (f := .glo "kept_heights") rfl)
theorem Txt.glo_places_of (T : Txt K mg) : mg "places_of" = some (.ref (He.ga K "places_of")) := by obtain ⟨h, X, G⟩ := T.at_; exact He.glo_ok X G (T.fact 33 (f := .glo "places_of") rfl)
theorem Txt.glo_lift_of (T : Txt K mg) : mg "lift_of" = some (.ref (He.ga K "lift_of")) := by obtain ⟨h, X, G⟩ := T.at_; exact He.glo_ok X G (T.fact 34 (f := .glo "lift_of") rfl)
theorem Txt.glo_raised_row (T : Txt K mg) : mg "raised_row" = some (.ref (He.ga K "raised_row")) := by obtain ⟨h, X, G⟩ := T.at_; exact He.glo_ok X G (T.fact 35 (f := .glo "raised_row") rfl)
theorem Txt.glo_bound_of (T : Txt K mg) : mg "bound_of" = some (.ref (He.ga K "bound_of")) := by obtain ⟨h, X, G⟩ := T.at_; exact He.glo_ok X G (T.fact 36 (f := .glo "bound_of") rfl)
theorem Txt.glo_greatest (T : Txt K mg) : mg "greatest" = some (.ref (He.ga K "greatest")) := by obtain ⟨h, X, G⟩ := T.at_; exact He.glo_ok X G (T.fact 37 (f := .glo "greatest") rfl)
theorem Txt.glo_least (T : Txt K mg) : mg "least" = some (.ref (He.ga K "least")) := by obtain ⟨h, X, G⟩ := T.at_; exact He.glo_ok X G (T.fact 38 (f := .glo "least") rfl)
theorem Txt.glo_law_bag (T : Txt K mg) : mg "_law_bag" = some (.ref (He.ga K "_law_bag")) := by obtain ⟨h, X, G⟩ := T.at_; exact He.glo_ok X G (T.fact 39 (f := .glo "_law_bag") rfl)
theorem Txt.glo_law_dip (T : Txt K mg) : mg "_law_dip" = some (.ref (He.ga K "_law_dip")) := by obtain ⟨h, X, G⟩ := T.at_; exact He.glo_ok X G (T.fact 40 (f := .glo "_law_dip") rfl)
theorem Txt.glo_law_one (T : Txt K mg) : mg "_law_one" = some (.ref (He.ga K "_law_one")) := by obtain ⟨h, X, G⟩ := T.at_; exact He.glo_ok X G (T.fact 41 (f := .glo "_law_one") rfl)
theorem Txt.glo_law_gains (T : Txt K mg) : mg "_law_gains" = some (.ref (He.ga K "_law_gains")) := by obtain ⟨h, X, G⟩ := T.at_; exact He.glo_ok X G (T.fact 42 (f := .glo "_law_gains") rfl)
theorem Txt.glo_law_sums (T : Txt K mg) : mg "_law_sums" = some (.ref (He.ga K "_law_sums")) := by obtain ⟨h, X, G⟩ := T.at_; exact He.glo_ok X G (T.fact 43 (f := .glo "_law_sums") rfl)
theorem Txt.glo_law_rules (T : Txt K mg) : mg "_law_rules" = some (.ref (He.ga K "_law_rules")) := by obtain ⟨h, X, G⟩ := T.at_; exact He.glo_ok X G (T.fact 44 (f := .glo "_law_rules") rfl)
theorem Txt.glo_law_book (T : Txt K mg) : mg "_law_book" = some (.ref (He.ga K "_law_book")) := by obtain ⟨h, X, G⟩ := T.at_; exact He.glo_ok X G (T.fact 45 (f := .glo "_law_book") rfl)
theorem Txt.glo_law_keeps (T : Txt K mg) : mg "_law_keeps" = some (.ref (He.ga K "_law_keeps")) := by obtain ⟨h, X, G⟩ := T.at_; exact He.glo_ok X G (T.fact 46 (f := .glo "_law_keeps") rfl)
theorem Txt.glo_law_lists (T : Txt K mg) : mg "_law_lists" = some (.ref (He.ga K "_law_lists")) := by obtain ⟨h, X, G⟩ := T.at_; exact He.glo_ok X G (T.fact 47 (f := .glo "_law_lists") rfl)
theorem Txt.glo_law_listed_right (T : Txt K mg) : mg "_law_listed_right" = some (.ref (He.ga K "_law_listed_right")) := by obtain ⟨h, X, G⟩ := T.at_; exact He.glo_ok X G (T.fact 48 (f := .glo "_law_listed_right") rfl)
theorem Txt.glo_law_raised (T : Txt K mg) : mg "_law_raised" = some (.ref (He.ga K "_law_raised")) := by obtain ⟨h, X, G⟩ := T.at_; exact He.glo_ok X G (T.fact 49 (f := .glo "_law_raised") rfl)
theorem Txt.glo_law_free_right (T : Txt K mg) : mg "_law_free_right" = some (.ref (He.ga K "_law_free_right")) := by obtain ⟨h, X, G⟩ := T.at_; exact He.glo_ok X G (T.fact 50 (f := .glo "_law_free_right") rfl)
theorem Txt.glo_law (T : Txt K mg) : mg "law" = some (.ref (He.ga K "law")) := by obtain ⟨h, X, G⟩ := T.at_; exact He.glo_ok X G (T.fact 51 (f := .glo "law") rfl)
theorem Txt.glo_need_stretch_bounds (T : Txt K mg) : mg "need_stretch_bounds" = some (.ref (He.ga K "need_stretch_bounds")) := by obtain ⟨h, X, G⟩ := T.at_; exact He.glo_ok X G (T.fact 52 (f := .glo "need_stretch_bounds") rfl)
theorem Txt.glo_Row (T : Txt K mg) : mg "Row" = some (.ref (He.ga K "Row")) := by obtain ⟨h, X, G⟩ := T.at_; exact He.glo_ok X G (T.fact 53 (f := .glo "Row") rfl)
theorem Txt.glo_Rule (T : Txt K mg) : mg "Rule" = some (.ref (He.ga K "Rule")) := by obtain ⟨h, X, G⟩ := T.at_; exact He.glo_ok X G (T.fact 54 (f := .glo "Rule") rfl)
theorem Txt.glo_Book (T : Txt K mg) : mg "Book" = some (.ref (He.ga K "Book")) := by obtain ⟨h, X, G⟩ := T.at_; exact He.glo_ok X G (T.fact 55 (f := .glo "Book") rfl)
theorem Txt.glo_Ways (T : Txt K mg) : mg "Ways" = some (.ref (He.ga K "Ways")) := by obtain ⟨h, X, G⟩ := T.at_; exact He.glo_ok X G (T.fact 56 (f := .glo "Ways") rfl)
theorem Txt.glo_Kept (T : Txt K mg) : mg "Kept" = some (.ref (He.ga K "Kept")) := by obtain ⟨h, X, G⟩ := T.at_; exact He.glo_ok X G (T.fact 57 (f := .glo "Kept") rfl)
theorem Txt.glo_Bound (T : Txt K mg) : mg "Bound" = some (.ref (He.ga K "Bound")) := by obtain ⟨h, X, G⟩ := T.at_; exact He.glo_ok X G (T.fact 58 (f := .glo "Bound") rfl)
theorem Txt.glo_Unbound (T : Txt K mg) : mg "Unbound" = some (.ref (He.ga K "Unbound")) := by obtain ⟨h, X, G⟩ := T.at_; exact He.glo_ok X G (T.fact 59 (f := .glo "Unbound") rfl)
theorem Txt.int_MOST_LENGTH (T : Txt K mg) : ∃ t, mg "MOST_LENGTH" = some (.int 48 t) := by obtain ⟨h, X, G⟩ := T.at_; exact He.int_ok X G (T.fact 60 (f := .int "MOST_LENGTH" 48) rfl)
theorem Txt.int_MOST_DAYS_books (T : Txt K mg) : ∃ t, mg "MOST_DAYS_books" = some (.int 48 t) := by obtain ⟨h, X, G⟩ := T.at_; exact He.int_ok X G (T.fact 61 (f := .int "MOST_DAYS_books" 48) rfl)
theorem Txt.int_MOST_RULES (T : Txt K mg) : ∃ t, mg "MOST_RULES" = some (.int 8 t) := by obtain ⟨h, X, G⟩ := T.at_; exact He.int_ok X G (T.fact 62 (f := .int "MOST_RULES" 8) rfl)
theorem Txt.int_MOST_DAYS_rows (T : Txt K mg) : ∃ t, mg "MOST_DAYS_rows" = some (.int 48 t) := by obtain ⟨h, X, G⟩ := T.at_; exact He.int_ok X G (T.fact 63 (f := .int "MOST_DAYS_rows" 48) rfl)
theorem Txt.cls_Row (T : Txt K mg) : Cls K (He.ga K "Row") := He.cls_ok (T.fact 64 (f := .cls "Row") rfl)
theorem Txt.cls_Rule (T : Txt K mg) : Cls K (He.ga K "Rule") := He.cls_ok (T.fact 65 (f := .cls "Rule") rfl)
theorem Txt.cls_Book (T : Txt K mg) : Cls K (He.ga K "Book") := He.cls_ok (T.fact 66 (f := .cls "Book") rfl)
theorem Txt.cls_Ways (T : Txt K mg) : Cls K (He.ga K "Ways") := He.cls_ok (T.fact 67 (f := .cls "Ways") rfl)
theorem Txt.cls_Kept (T : Txt K mg) : Cls K (He.ga K "Kept") := He.cls_ok (T.fact 68 (f := .cls "Kept") rfl)
theorem Txt.cls_Bound (T : Txt K mg) : Cls K (He.ga K "Bound") := He.cls_ok (T.fact 69 (f := .cls "Bound") rfl)
theorem Txt.cls_Unbound (T : Txt K mg) : Cls K (He.ga K "Unbound") := He.cls_ok (T.fact 70 (f := .cls "Unbound") rfl)
theorem Txt.no_Row_gains (T : Txt K mg) : NoAttr K (He.ga K "Row") "gains" := He.noat_ok (T.fact 71 (f := .noat "Row" "gains") rfl)
theorem Txt.no_Row_heights (T : Txt K mg) : NoAttr K (He.ga K "Row") "heights" := He.noat_ok (T.fact 72 (f := .noat "Row" "heights") rfl)
theorem Txt.no_Row_days (T : Txt K mg) : NoAttr K (He.ga K "Row") "days" := He.noat_ok (T.fact 73 (f := .noat "Row" "days") rfl)
theorem Txt.no_Row_total (T : Txt K mg) : NoAttr K (He.ga K "Row") "total" := He.noat_ok (T.fact 74 (f := .noat "Row" "total") rfl)
theorem Txt.no_Rule_length (T : Txt K mg) : NoAttr K (He.ga K "Rule") "length" := He.noat_ok (T.fact 75 (f := .noat "Rule" "length") rfl)
theorem Txt.no_Rule_low (T : Txt K mg) : NoAttr K (He.ga K "Rule") "low" := He.noat_ok (T.fact 76 (f := .noat "Rule" "low") rfl)
theorem Txt.no_Rule_high (T : Txt K mg) : NoAttr K (He.ga K "Rule") "high" := He.noat_ok (T.fact 77 (f := .noat "Rule" "high") rfl)
theorem Txt.no_Book_days (T : Txt K mg) : NoAttr K (He.ga K "Book") "days" := He.noat_ok (T.fact 78 (f := .noat "Book" "days") rfl)
theorem Txt.no_Book_rules (T : Txt K mg) : NoAttr K (He.ga K "Book") "rules" := He.noat_ok (T.fact 79 (f := .noat "Book" "rules") rfl)
theorem Txt.no_Ways_moves (T : Txt K mg) : NoAttr K (He.ga K "Ways") "moves" := He.noat_ok (T.fact 80 (f := .noat "Ways" "moves") rfl)
theorem Txt.no_Ways_costs (T : Txt K mg) : NoAttr K (He.ga K "Ways") "costs" := He.noat_ok (T.fact 81 (f := .noat "Ways" "costs") rfl)
theorem Txt.no_Ways_by (T : Txt K mg) : NoAttr K (He.ga K "Ways") "by" := He.noat_ok (T.fact 82 (f := .noat "Ways" "by") rfl)
theorem Txt.no_Ways_restless (T : Txt K mg) : NoAttr K (He.ga K "Ways") "restless" := He.noat_ok (T.fact 83 (f := .noat "Ways" "restless") rfl)
theorem Txt.no_Kept_word (T : Txt K mg) : NoAttr K (He.ga K "Kept") "word" := He.noat_ok (T.fact 84 (f := .noat "Kept" "word") rfl)
theorem Txt.no_Kept_parts (T : Txt K mg) : NoAttr K (He.ga K "Kept") "parts" := He.noat_ok (T.fact 85 (f := .noat "Kept" "parts") rfl)
theorem Txt.no_Kept_row (T : Txt K mg) : NoAttr K (He.ga K "Kept") "row" := He.noat_ok (T.fact 86 (f := .noat "Kept" "row") rfl)
theorem Txt.no_Bound_word (T : Txt K mg) : NoAttr K (He.ga K "Bound") "word" := He.noat_ok (T.fact 87 (f := .noat "Bound" "word") rfl)
theorem Txt.no_Bound_parts (T : Txt K mg) : NoAttr K (He.ga K "Bound") "parts" := He.noat_ok (T.fact 88 (f := .noat "Bound" "parts") rfl)
theorem Txt.no_Bound_number (T : Txt K mg) : NoAttr K (He.ga K "Bound") "number" := He.noat_ok (T.fact 89 (f := .noat "Bound" "number") rfl)
theorem Txt.no_Bound_way (T : Txt K mg) : NoAttr K (He.ga K "Bound") "way" := He.noat_ok (T.fact 90 (f := .noat "Bound" "way") rfl)
theorem Txt.no_Bound_row (T : Txt K mg) : NoAttr K (He.ga K "Bound") "row" := He.noat_ok (T.fact 91 (f := .noat "Bound" "row") rfl)
theorem Txt.no_Unbound_word (T : Txt K mg) : NoAttr K (He.ga K "Unbound") "word" := He.noat_ok (T.fact 92 (f := .noat "Unbound" "word") rfl)
theorem Txt.no_Unbound_parts (T : Txt K mg) : NoAttr K (He.ga K "Unbound") "parts" := He.noat_ok (T.fact 93 (f := .noat "Unbound" "parts") rfl)
theorem Txt.no_Unbound_places (T : Txt K mg) : NoAttr K (He.ga K "Unbound") "places" := He.noat_ok (T.fact 94 (f := .noat "Unbound" "places") rfl)
theorem Txt.me_Ways_once (T : Txt K mg) : Meth K (He.ga K "Ways") "once" (He.ma K (He.ga K "Ways") "once") := He.meth_ok (T.fact 95 (f := .meth "Ways" "once") rfl)
theorem Txt.me_Ways_ring (T : Txt K mg) : Meth K (He.ga K "Ways") "ring" (He.ma K (He.ga K "Ways") "ring") := He.meth_ok (T.fact 96 (f := .meth "Ways" "ring") rfl)
theorem Txt.me_Ways_way_to (T : Txt K mg) : Meth K (He.ga K "Ways") "way_to" (He.ma K (He.ga K "Ways") "way_to") := He.meth_ok (T.fact 97 (f := .meth "Ways" "way_to") rfl)
theorem Txt.me_Kept_bool (T : Txt K mg) : Meth K (He.ga K "Kept") "__bool__" (He.ma K (He.ga K "Kept") "__bool__") := He.meth_ok (T.fact 98 (f := .meth "Kept" "__bool__") rfl)
theorem Txt.mk_Row (T : Txt K mg) : Mk K (He.ga K "Row") (He.ma K (He.ga K "Row") "__init__") := He.mkr_ok (T.fact 99 (f := .mkr "Row") rfl)
theorem Txt.mk_Rule (T : Txt K mg) : Mk K (He.ga K "Rule") (He.ma K (He.ga K "Rule") "__init__") := He.mkr_ok (T.fact 100 (f := .mkr "Rule") rfl)
theorem Txt.mk_Book (T : Txt K mg) : Mk K (He.ga K "Book") (He.ma K (He.ga K "Book") "__init__") := He.mkr_ok (T.fact 101 (f := .mkr "Book") rfl)
theorem Txt.mk_Ways (T : Txt K mg) : Mk K (He.ga K "Ways") (He.ma K (He.ga K "Ways") "__init__") := He.mkr_ok (T.fact 102 (f := .mkr "Ways") rfl)
theorem Txt.mk_Kept (T : Txt K mg) : Mk K (He.ga K "Kept") (He.ma K (He.ga K "Kept") "__init__") := He.mkr_ok (T.fact 103 (f := .mkr "Kept") rfl)
theorem Txt.mk_Bound (T : Txt K mg) : Mk K (He.ga K "Bound") (He.ma K (He.ga K "Bound") "__init__") := He.mkr_ok (T.fact 104 (f := .mkr "Bound") rfl)
theorem Txt.mk_Unbound (T : Txt K mg) : Mk K (He.ga K "Unbound") (He.ma K (He.ga K "Unbound") "__init__") := He.mkr_ok (T.fact 105 (f := .mkr "Unbound") rfl)
theorem Txt.ty_Row (T : Txt K mg) : tyB K (He.ga K "Row") = true := T.ex 0 rfl
theorem Txt.ty_Rule (T : Txt K mg) : tyB K (He.ga K "Rule") = true := T.ex 1 rfl
theorem Txt.ty_Book (T : Txt K mg) : tyB K (He.ga K "Book") = true := T.ex 2 rfl
theorem Txt.ty_Bound (T : Txt K mg) : tyB K (He.ga K "Bound") = true := T.ex 3 rfl
theorem Txt.ty_Unbound (T : Txt K mg) : tyB K (He.ga K "Unbound") = true := T.ex 4 rfl
theorem Txt.is_Rule_Rule (T : Txt K mg) : isB K (He.ga K "Rule") (He.ga K "Rule") true = true := T.ex 5 rfl
theorem Txt.is_Book_Book (T : Txt K mg) : isB K (He.ga K "Book") (He.ga K "Book") true = true := T.ex 6 rfl
theorem Txt.is_Bound_Bound (T : Txt K mg) : isB K (He.ga K "Bound") (He.ga K "Bound") true = true := T.ex 7 rfl
theorem Txt.is_Unbound_Bound (T : Txt K mg) : isB K (He.ga K "Unbound") (He.ga K "Bound") false = true := T.ex 8 rfl
theorem Txt.is_Unbound_Unbound (T : Txt K mg) : isB K (He.ga K "Unbound") (He.ga K "Unbound") true = true := T.ex 9 rfl
theorem Txt.seq_Row (T : Txt K mg) : seqB K (He.ga K "Row") = true := T.ex 10 rfl
theorem Txt.sm_Row_of (T : Txt K mg) : smB K (He.ga K "Row") "of" = true := T.ex 11 rfl
theorem Txt.kp_Row_of (T : Txt K mg) : PySem.W.keepIn K (.ref (He5.wf K (He.ga K "Row") "staticmethod" "of")) = true := T.ex 12 rfl
theorem Txt.sup_Kept (T : Txt K mg) : supB K Pg (He.ma K (He.ga K "Kept") "__init__") (He.ga K "Kept") (He.ma K (He.ga K "Paper") "__init__") "Kept.__init__" = true := T.ex 13 rfl
theorem Txt.sup_Bound (T : Txt K mg) : supB K Pg (He.ma K (He.ga K "Bound") "__init__") (He.ga K "Bound") (He.ma K (He.ga K "Paper") "__init__") "Bound.__init__" = true := T.ex 14 rfl
theorem Txt.sup_Unbound (T : Txt K mg) : supB K Pg (He.ma K (He.ga K "Unbound") "__init__") (He.ga K "Unbound") (He.ma K (He.ga K "Paper") "__init__") "Unbound.__init__" = true := T.ex 15 rfl
theorem Txt.f_is_integer (T : Txt K mg) : ∃ fd, Fun K "is_integer" "is_integer" s_is_integer ((fun K => He.ga K "is_integer") K) fd := T.fn 0 (d := d_is_integer) rfl rfl rfl
theorem Txt.f_is_within (T : Txt K mg) : ∃ fd, Fun K "is_within" "is_within" s_is_within ((fun K => He.ga K "is_within") K) fd := T.fn 1 (d := d_is_within) rfl rfl rfl
theorem Txt.f_are_integers (T : Txt K mg) : ∃ fd, Fun K "are_integers" "are_integers" s_are_integers ((fun K => He.ga K "are_integers") K) fd := T.fn 2 (d := d_are_integers) rfl rfl rfl
theorem Txt.f_need_number (T : Txt K mg) : ∃ fd, Fun K "need_number" "need_number" s_need_number ((fun K => He.ga K "need_number") K) fd := T.fn 3 (d := d_need_number) rfl rfl rfl
theorem Txt.f_fixed (T : Txt K mg) : ∃ fd, Fun K "fixed" "fixed" s_fixed ((fun K => He.ga K "fixed") K) fd := T.fn 4 (d := d_fixed) rfl rfl rfl
theorem Txt.f_heights_of (T : Txt K mg) : ∃ fd, Fun K "heights_of" "heights_of" s_heights_of ((fun K => He.ga K "heights_of") K) fd := T.fn 5 (d := d_heights_of) rfl rfl rfl
theorem Txt.f_need_bound (T : Txt K mg) : ∃ fd, Fun K "need_bound" "need_bound" s_need_bound ((fun K => He.ga K "need_bound") K) fd := T.fn 6 (d := d_need_bound) rfl rfl rfl
theorem Txt.f_are_bounds (T : Txt K mg) : ∃ fd, Fun K "are_bounds" "are_bounds" s_are_bounds ((fun K => He.ga K "are_bounds") K) fd := T.fn 7 (d := d_are_bounds) rfl rfl rfl
theorem Txt.f_need_book (T : Txt K mg) : ∃ fd, Fun K "need_book" "need_book" s_need_book ((fun K => He.ga K "need_book") K) fd := T.fn 8 (d := d_need_book) rfl rfl rfl
theorem Txt.f_are_rules (T : Txt K mg) : ∃ fd, Fun K "are_rules" "are_rules" s_are_rules ((fun K => He.ga K "are_rules") K) fd := T.fn 9 (d := d_are_rules) rfl rfl rfl
theorem Txt.f_moves_of (T : Txt K mg) : ∃ fd, Fun K "moves_of" "moves_of" s_moves_of ((fun K => He.ga K "moves_of") K) fd := T.fn 10 (d := d_moves_of) rfl rfl rfl
theorem Txt.f_ways_from_all (T : Txt K mg) : ∃ fd, Fun K "ways_from_all" "ways_from_all" s_ways_from_all ((fun K => He.ga K "ways_from_all") K) fd := T.fn 11 (d := d_ways_from_all) rfl rfl rfl
theorem Txt.f_ways_from (T : Txt K mg) : ∃ fd, Fun K "ways_from" "ways_from" s_ways_from ((fun K => He.ga K "ways_from") K) fd := T.fn 12 (d := d_ways_from) rfl rfl rfl
theorem Txt.f_row_by (T : Txt K mg) : ∃ fd, Fun K "row_by" "row_by" s_row_by ((fun K => He.ga K "row_by") K) fd := T.fn 13 (d := d_row_by) rfl rfl rfl
theorem Txt.f_kept_of (T : Txt K mg) : ∃ fd, Fun K "kept_of" "kept_of" s_kept_of ((fun K => He.ga K "kept_of") K) fd := T.fn 14 (d := d_kept_of) rfl rfl rfl
theorem Txt.f_kept_heights (T : Txt K mg) : ∃ fd, Fun K "kept_heights" "kept_heights" s_kept_heights ((fun K => He.ga K "kept_heights") K) fd := T.fn 15 (d := d_kept_heights) rfl rfl rfl
theorem Txt.f_places_of (T : Txt K mg) : ∃ fd, Fun K "places_of" "places_of" s_places_of ((fun K => He.ga K "places_of") K) fd := T.fn 16 (d := d_places_of) rfl rfl rfl
theorem Txt.f_lift_of (T : Txt K mg) : ∃ fd, Fun K "lift_of" "lift_of" s_lift_of ((fun K => He.ga K "lift_of") K) fd := T.fn 17 (d := d_lift_of) rfl rfl rfl
theorem Txt.f_raised_row (T : Txt K mg) : ∃ fd, FunD K "raised_row" "raised_row" (defArgs s_raised_row) (defBody s_raised_row) (defScope s_raised_row) (d_raised_row.dvs K) [] ((fun K => He.ga K "raised_row") K) fd := T.c.def_ 18 rfl
theorem Txt.f_bound_of (T : Txt K mg) : ∃ fd, Fun K "bound_of" "bound_of" s_bound_of ((fun K => He.ga K "bound_of") K) fd := T.fn 19 (d := d_bound_of) rfl rfl rfl
theorem Txt.f_greatest (T : Txt K mg) : ∃ fd, Fun K "greatest" "greatest" s_greatest ((fun K => He.ga K "greatest") K) fd := T.fn 20 (d := d_greatest) rfl rfl rfl
theorem Txt.f_least (T : Txt K mg) : ∃ fd, Fun K "least" "least" s_least ((fun K => He.ga K "least") K) fd := T.fn 21 (d := d_least) rfl rfl rfl
theorem Txt.f_law_bag (T : Txt K mg) : ∃ fd, Fun K "_law_bag" "_law_bag" s_law_bag ((fun K => He.ga K "_law_bag") K) fd := T.fn 22 (d := d_law_bag) rfl rfl rfl
theorem Txt.f_law_dip (T : Txt K mg) : ∃ fd, Fun K "_law_dip" "_law_dip" s_law_dip ((fun K => He.ga K "_law_dip") K) fd := T.fn 23 (d := d_law_dip) rfl rfl rfl
theorem Txt.f_law_one (T : Txt K mg) : ∃ fd, Fun K "_law_one" "_law_one" s_law_one ((fun K => He.ga K "_law_one") K) fd := T.fn 24 (d := d_law_one) rfl rfl rfl
theorem Txt.f_law_gains (T : Txt K mg) : ∃ fd, Fun K "_law_gains" "_law_gains" s_law_gains ((fun K => He.ga K "_law_gains") K) fd := T.fn 25 (d := d_law_gains) rfl rfl rfl
theorem Txt.f_law_sums (T : Txt K mg) : ∃ fd, Fun K "_law_sums" "_law_sums" s_law_sums ((fun K => He.ga K "_law_sums") K) fd := T.fn 26 (d := d_law_sums) rfl rfl rfl
theorem Txt.f_law_rules (T : Txt K mg) : ∃ fd, Fun K "_law_rules" "_law_rules" s_law_rules ((fun K => He.ga K "_law_rules") K) fd := T.fn 27 (d := d_law_rules) rfl rfl rfl
theorem Txt.f_law_book (T : Txt K mg) : ∃ fd, Fun K "_law_book" "_law_book" s_law_book ((fun K => He.ga K "_law_book") K) fd := T.fn 28 (d := d_law_book) rfl rfl rfl
theorem Txt.f_law_keeps (T : Txt K mg) : ∃ fd, Fun K "_law_keeps" "_law_keeps" s_law_keeps ((fun K => He.ga K "_law_keeps") K) fd := T.fn 29 (d := d_law_keeps) rfl rfl rfl
theorem Txt.f_law_lists (T : Txt K mg) : ∃ fd, Fun K "_law_lists" "_law_lists" s_law_lists ((fun K => He.ga K "_law_lists") K) fd := T.fn 30 (d := d_law_lists) rfl rfl rfl
theorem Txt.f_law_listed_right (T : Txt K mg) : ∃ fd, Fun K "_law_listed_right" "_law_listed_right" s_law_listed_right ((fun K => He.ga K "_law_listed_right") K) fd := T.fn 31 (d := d_law_listed_right) rfl rfl rfl
theorem Txt.f_law_raised (T : Txt K mg) : ∃ fd, Fun K "_law_raised" "_law_raised" s_law_raised ((fun K => He.ga K "_law_raised") K) fd := T.fn 32 (d := d_law_raised) rfl rfl rfl
theorem Txt.f_law_free_right (T : Txt K mg) : ∃ fd, Fun K "_law_free_right" "_law_free_right" s_law_free_right ((fun K => He.ga K "_law_free_right") K) fd := T.fn 33 (d := d_law_free_right) rfl rfl rfl
theorem Txt.f_law (T : Txt K mg) : ∃ fd, Fun K "law" "law" s_law ((fun K => He.ga K "law") K) fd := T.fn 34 (d := d_law) rfl rfl rfl
theorem Txt.f_need_stretch (T : Txt K mg) : ∃ fd, Fun K "need_stretch" "need_stretch" s_need_stretch ((fun K => He.ga K "need_stretch_bounds") K) fd := T.fn 35 (d := d_need_stretch) rfl rfl rfl
theorem Txt.f_Paper_init (T : Txt K mg) : ∃ fd, Fun K "__init__" "Paper.__init__" s_Paper_init ((fun K => He.ma K (He.ga K "Paper") "__init__") K) fd := T.fn 36 (d := d_Paper_init) rfl rfl rfl
theorem Txt.f_Paper_bool (T : Txt K mg) : ∃ fd, Fun K "__bool__" "Paper.__bool__" s_Paper_bool ((fun K => He.ma K (He.ga K "Kept") "__bool__") K) fd := T.fn 37 (d := d_Paper_bool) rfl rfl rfl
theorem Txt.f_Row_init (T : Txt K mg) : ∃ fd, Fun K "__init__" "Row.__init__" s_Row_init ((fun K => He.ma K (He.ga K "Row") "__init__") K) fd := T.fn 38 (d := d_Row_init) rfl rfl rfl
theorem Txt.f_Row_of (T : Txt K mg) : ∃ fd, Fun K "of" "Row.of" s_Row_of ((fun K => He5.wf K (He.ga K "Row") "staticmethod" "of") K) fd := T.fn 39 (d := d_Row_of) rfl rfl rfl
theorem Txt.f_Rule_init (T : Txt K mg) : ∃ fd, FunD K "__init__" "Rule.__init__" (defArgs s_Rule_init) (defBody s_Rule_init) (defScope s_Rule_init) (d_Rule_init.dvs K) [] ((fun K => He.ma K (He.ga K "Rule") "__init__") K) fd := T.c.def_ 40 rfl
theorem Txt.f_Book_init (T : Txt K mg) : ∃ fd, Fun K "__init__" "Book.__init__" s_Book_init ((fun K => He.ma K (He.ga K "Book") "__init__") K) fd := T.fn 41 (d := d_Book_init) rfl rfl rfl
theorem Txt.f_Ways_init (T : Txt K mg) : ∃ fd, Fun K "__init__" "Ways.__init__" s_Ways_init ((fun K => He.ma K (He.ga K "Ways") "__init__") K) fd := T.fn 42 (d := d_Ways_init) rfl rfl rfl
theorem Txt.f_Ways_once (T : Txt K mg) : ∃ fd, Fun K "once" "Ways.once" s_Ways_once ((fun K => He.ma K (He.ga K "Ways") "once") K) fd := T.fn 43 (d := d_Ways_once) rfl rfl rfl
theorem Txt.f_Ways_ring (T : Txt K mg) : ∃ fd, Fun K "ring" "Ways.ring" s_Ways_ring ((fun K => He.ma K (He.ga K "Ways") "ring") K) fd := T.fn 44 (d := d_Ways_ring) rfl rfl rfl
theorem Txt.f_Ways_way_to (T : Txt K mg) : ∃ fd, Fun K "way_to" "Ways.way_to" s_Ways_way_to ((fun K => He.ma K (He.ga K "Ways") "way_to") K) fd := T.fn 45 (d := d_Ways_way_to) rfl rfl rfl
theorem Txt.s_Kept_init (T : Txt K mg) : SupF K Pg (supNF K (He.ma K (He.ga K "Kept") "__init__") "Kept.__init__" s_Kept_init) (He.ma K (He.ga K "Kept") "__init__") (He.ma K (He.ga K "Paper") "__init__") (He.ga K "Kept") (ccOf K (He.ma K (He.ga K "Kept") "__init__")) := by
  have e := congrArg (fun l : List FnS => l[0]?) T.su
  exact sup_ok (Option.some.inj e) T.sup_Kept
theorem Txt.s_Bound_init (T : Txt K mg) : SupF K Pg (supNF K (He.ma K (He.ga K "Bound") "__init__") "Bound.__init__" s_Bound_init) (He.ma K (He.ga K "Bound") "__init__") (He.ma K (He.ga K "Paper") "__init__") (He.ga K "Bound") (ccOf K (He.ma K (He.ga K "Bound") "__init__")) := by
  have e := congrArg (fun l : List FnS => l[1]?) T.su
  exact sup_ok (Option.some.inj e) T.sup_Bound
theorem Txt.s_Unbound_init (T : Txt K mg) : SupF K Pg (supNF K (He.ma K (He.ga K "Unbound") "__init__") "Unbound.__init__" s_Unbound_init) (He.ma K (He.ga K "Unbound") "__init__") (He.ma K (He.ga K "Paper") "__init__") (He.ga K "Unbound") (ccOf K (He.ma K (He.ga K "Unbound") "__init__")) := by
  have e := congrArg (fun l : List FnS => l[2]?) T.su
  exact sup_ok (Option.some.inj e) T.sup_Unbound
end
end K53
/-! What the objects hold: rows, rules, books, moves, ways, over the abstract heap. -/
namespace K53
open PySem PySem.Spec PyProof.Rows L2

/-! ### attributes -/
theorem lk_hit (f : Str) (v : V) (fs : List (Str × V)) : (putF f v fs).lookup f = some v := by rw [lookup_putF, if_pos rfl]
theorem lk_miss {f g : Str} (v : V) (fs : List (Str × V)) (h : ¬ g = f) : (putF f v fs).lookup g = fs.lookup g := by rw [lookup_putF, if_neg h]
theorem lk_nil (g : Str) : ([] : List (Str × V)).lookup g = none := rfl
theorem len_put {f : Str} {v : V} {fs : List (Str × V)} {n : Nat} (h : fs.length ≤ n) : (putF f v fs).length ≤ n + 1 := Nat.le_trans (length_putF f v fs) (Nat.succ_le_succ h)

/-! ### lists of values in step -/
theorem Paired.get {α β : Type} {F : α → β → Prop} : ∀ {l : List α} {r : List β}, Paired F l r → ∀ {i : Nat} {b : β}, r[i]? = some b → ∃ a, l[i]? = some a ∧ F a b
  | _, _, .nil, _, _, e => by simp at e
  | _, _, .cons h t, 0, b, e => by
    simp at e
    exact ⟨_, rfl, e ▸ h⟩
  | _, _, .cons h t, i + 1, b, e => by
    obtain ⟨a, h1, h2⟩ := Paired.get t (i := i) (b := b) (by simpa using e)
    exact ⟨a, by simpa using h1, h2⟩
theorem Paired.getL {α β : Type} {F : α → β → Prop} : ∀ {l : List α} {r : List β}, Paired F l r → ∀ {i : Nat} {a : α}, l[i]? = some a → ∃ b, r[i]? = some b ∧ F a b
  | _, _, .nil, _, _, e => by simp at e
  | _, _, .cons h t, 0, b, e => by
    simp at e
    exact ⟨_, rfl, e ▸ h⟩
  | _, _, .cons h t, i + 1, b, e => by
    obtain ⟨a, h1, h2⟩ := Paired.getL t (i := i) (a := b) (by simpa using e)
    exact ⟨a, by simpa using h1, h2⟩
theorem Paired.imp {α β : Type} {F G : α → β → Prop} (i : ∀ a b, F a b → G a b) : ∀ {l : List α} {r : List β}, Paired F l r → Paired G l r
  | _, _, .nil => .nil
  | _, _, .cons h t => .cons (i _ _ h) (Paired.imp i t)
theorem Paired.app {α β : Type} {F : α → β → Prop} : ∀ {l : List α} {r : List β} {l' : List α} {r' : List β}, Paired F l r → Paired F l' r' → Paired F (l ++ l') (r ++ r')
  | _, _, _, _, .nil, s => s
  | _, _, _, _, .cons h t, s => .cons h (Paired.app t s)
theorem Paired.set {α β : Type} {F : α → β → Prop} {a : α} {b : β} (h : F a b) : ∀ {l : List α} {r : List β} (i : Nat), Paired F l r → Paired F (l.set i a) (r.set i b)
  | _, _, _, .nil => .nil
  | _, _, 0, .cons _ t => .cons h t
  | _, _, i + 1, .cons q t => .cons q (Paired.set h i t)

/-! ### tuples stay, whatever is written -/
def Tk (H H' : Hp) : Prop := ∀ b xs, H b = some (.tup xs) → H' b = some (.tup xs)
theorem Tk.refl (H : Hp) : Tk H H := fun _ _ h => h
theorem Tk.trans {H H1 H2 : Hp} (a : Tk H H1) (b : Tk H1 H2) : Tk H H2 := fun c xs h => b c xs (a c xs h)
theorem Same.tk {H H' : Hp} (s : Same H H') : Tk H H' := fun b xs h => s b _ h
theorem Tk.new {H : Hp} {p : Addr} {o : HO} (h : H p = none) : Tk H (upd H p o) := fun b xs e => by rw [upd_ne (ne_of_none e h)]; exact e
theorem Tk.put {H : Hp} {p : Addr} {o o' : HO} (h : H p = some o) (nt : ∀ xs, o ≠ .tup xs) : Tk H (upd H p o') := fun b xs e => by
  rw [upd_ne (fun z => by rw [z, h] at e; exact nt xs (Option.some.inj e))]
  exact e
theorem Same.new {H : Hp} {p : Addr} {o : HO} (h : H p = none) : Same H (upd H p o) := fun b u e => by rw [upd_ne (ne_of_none e h)]; exact e
/-- an object that H does not know may change -/
theorem Same.mut {H H' : Hp} {p : Addr} {o : HO} (e : Same H H') (h : H p = none) : Same H (upd H' p o) := fun a u ha => by
  rw [upd_ne (ne_of_none ha h)]
  exact e a u ha
/-- a new instance, before its __init__ -/
theorem Same.inst {H : Hp} {a d C : Addr} (h1 : H a = none) (h2 : H d = none) : Same H (upd (upd H d (.own a)) a (.ins C d [])) := fun b o e => by
  rw [upd_ne (ne_of_none e h1), upd_ne (ne_of_none e h2)]
  exact e
/-- all but x stays -/
def But (x : Addr) (H H' : Hp) : Prop := ∀ b o, H b = some o → b ≠ x → H' b = some o
theorem But.same {x d C : Addr} {H H' : Hp} (h1 : H x = none) (h2 : H d = none) (k : But x (upd (upd H d (.own x)) x (.ins C d [])) H') : Same H H' := fun b o e => k b o (Same.inst h1 h2 b o e) (ne_of_none e h1)

theorem iteF' {b : Bool} {A B : Prop} (e : b = false) (h : B) : if b = true then A else B := by rw [e]; exact iteF h
theorem iteT' {b : Bool} {A B : Prop} (e : b = true) (h : A) : if b = true then A else B := by rw [e]; exact iteT h
theorem But.refl (x : Addr) (H : Hp) : But x H H := fun _ _ h _ => h
theorem But.of {x : Addr} {H H' : Hp} (s : Same H H') : But x H H' := fun b o h _ => s b o h
theorem But.trans {x : Addr} {H H1 H2 : Hp} (a : But x H H1) (b : But x H1 H2) : But x H H2 := fun c o h n => b c o (a c o h n) n
theorem But.put {x : Addr} {H H1 : Hp} {o : HO} (a : But x H H1) : But x H (upd H1 x o) := fun c u h n => by rw [upd_ne n]; exact a c u h n
theorem But.new {x p : Addr} {H H1 : Hp} {o : HO} (a : But x H H1) (h : H1 p = none) : But x H (upd H1 p o) := a.trans (But.of (Same.new h))

/-! ### cuts -/
/-! ### ints and perhaps-iVs -/
abbrev iVs (ns : List Int) : List V := ns.map V.int
def optV : Option Int → V
  | none => .non
  | some i => .int i
def optN : Option Nat → V
  | none => .non
  | some i => .int (i : Int)
theorem fl1 {f : Str} {v : V} : (putF f v []).length < 1000 := Nat.lt_of_le_of_lt (len_put (Nat.le_refl 0)) (by decide)
theorem fl2 {f g : Str} {v u : V} : (putF f v (putF g u [])).length < 1000 := Nat.lt_of_le_of_lt (len_put (len_put (Nat.le_refl 0))) (by decide)
theorem fl3 {f g h : Str} {v u z : V} : (putF f v (putF g u (putF h z []))).length < 1000 := Nat.lt_of_le_of_lt (len_put (len_put (len_put (Nat.le_refl 0)))) (by decide)
theorem fl4 {f g h i : Str} {v u z y : V} : (putF f v (putF g u (putF h z (putF i y [])))).length < 1000 := Nat.lt_of_le_of_lt (len_put (len_put (len_put (len_put (Nat.le_refl 0))))) (by decide)
theorem drop_min {α : Type} (xs : List α) (n : Nat) : xs.drop (min n xs.length) = xs.drop n := by
  by_cases h : n ≤ xs.length
  · rw [Nat.min_eq_left h]
  · rw [Nat.min_eq_right (by omega), List.drop_of_length_le (Nat.le_refl _), List.drop_of_length_le (by omega)]
theorem cut_from (xs : List V) (n : Nat) : cutV xs (some (n : Int)) none = xs.drop n := by
  unfold cutV
  rw [HT.sIx_nat, HT.sIx_none, drop_min, List.take_of_length_le]
  rw [List.length_drop]
  omega
theorem cut_mid (xs : List V) (i j : Nat) : cutV xs (some (i : Int)) (some (j : Int)) = (xs.drop i).take (j - i) := by
  unfold cutV
  rw [HT.sIx_nat, HT.sIx_nat, drop_min]
  apply List.ext_getElem?
  intro k
  rw [List.getElem?_take, List.getElem?_take, List.getElem?_drop]
  by_cases h : i + k < xs.length
  · by_cases h2 : k < j - i
    · rw [if_pos (by omega), if_pos h2]
    · rw [if_neg (by omega), if_neg h2]
  · rw [List.getElem?_eq_none (by omega)]
    split <;> split <;> rfl
theorem cut_to (xs : List V) (j : Nat) : cutV xs none (some (j : Int)) = xs.take j := by
  have h := cut_mid xs 0 j
  rw [List.drop_zero, Nat.sub_zero] at h
  rw [← h]
  unfold cutV
  rw [HT.sIx_nat, HT.sIx_none, HT.sIx_nat, Nat.zero_min]
theorem iVs_drop (ns : List Int) (n : Nat) : (iVs ns).drop n = iVs (ns.drop n) := List.map_drop.symm
theorem iVs_take (ns : List Int) (n : Nat) : (iVs ns).take n = iVs (ns.take n) := List.map_take.symm
theorem len_iVs (ns : List Int) : (iVs ns).length = ns.length := List.length_map _
/-- len, of a list or a tuple -/
def lenR (K : PySem.W.Frag) : List V → Hp → VK → Prop := fun us H Q => ∃ a zs, us = [.ref a] ∧ (SqL K H a zs ∨ SqT K H a zs) ∧ Q (.int zs.length) H
/-- objects of two kinds lie apart -/
theorem apart {H : Hp} {a b : Addr} {o u : HO} (h1 : H a = some o) (h2 : H b = some u) (n : o ≠ u) : a ≠ b := fun e => by rw [e, h2] at h1; exact n (Option.some.inj h1).symm

/-! ### moves -/
def MvAt (H : Hp) (v : V) (m : Mv) : Prop := ∃ p q, v = .ref p ∧ H p = some (.tup [.int (m.a : Int), .int (m.b : Int), .int m.c, .ref q]) ∧ H q = some (.tup [.int (m.a : Int), .int (m.num : Int), .int m.sg])
theorem MvAt.tk {H H' : Hp} {v : V} {m : Mv} (t : Tk H H') (h : MvAt H v m) : MvAt H' v m := let ⟨p, q, e, h1, h2⟩ := h; ⟨p, q, e, t _ _ h1, t _ _ h2⟩
abbrev MvsAt (H : Hp) (ys : List V) (ms : List Mv) : Prop := Paired (MvAt H) ys ms
theorem MvsAt.tk {H H' : Hp} {ys : List V} {ms : List Mv} (t : Tk H H') (h : MvsAt H ys ms) : MvsAt H' ys ms := Paired.imp (fun _ _ z => MvAt.tk t z) h
def ByAt (H : Hp) (v : V) : Option Mv → Prop
  | none => v = .non
  | some m => MvAt H v m
theorem ByAt.tk {H H' : Hp} {v : V} {o : Option Mv} (t : Tk H H') (h : ByAt H v o) : ByAt H' v o := by
  cases o with
  | none => exact h
  | some m => exact MvAt.tk t h

/-! ### rules, books -/
section
variable (K : PySem.W.Frag)
abbrev CRule : Addr := He.ga K "Rule"
abbrev CBook : Addr := He.ga K "Book"
abbrev CRow : Addr := He.ga K "Row"
abbrev CWays : Addr := He.ga K "Ways"
def RuAt (H : Hp) (v : V) (r : Ru) : Prop := ∃ a dx fs, v = .ref a ∧ H a = some (.ins (CRule K) dx fs) ∧ fs.lookup ("length" : Str) = some (.int (r.len : Int)) ∧ fs.lookup ("low" : Str) = some (optV r.low) ∧ fs.lookup ("high" : Str) = some (optV r.high) ∧ r.len ≤ 48
def RusAt (H : Hp) (t : Addr) (rs : List Ru) : Prop := ∃ xs, H t = some (.tup xs) ∧ Paired (RuAt K H) xs rs
def BkAt (H : Hp) (b : Addr) (n : Nat) (rs : List Ru) : Prop := ∃ dx fs t, H b = some (.ins (CBook K) dx fs) ∧ fs.lookup ("days" : Str) = some (.int (n : Int)) ∧ fs.lookup ("rules" : Str) = some (.ref t) ∧ RusAt K H t rs
/-- a row by its heights -/
def RwAt (H : Hp) (a : Addr) (hs : List Int) : Prop := ∃ dx fs t, H a = some (.ins (CRow K) dx fs) ∧ fs.lookup ("heights" : Str) = some (.ref t) ∧ H t = some (.tup (iVs hs))
variable {K}
theorem RuAt.same {H H' : Hp} {v : V} {r : Ru} (s : Same H H') (h : RuAt K H v r) : RuAt K H' v r := let ⟨a, dx, fs, e, h1, h2⟩ := h; ⟨a, dx, fs, e, s _ _ h1, h2⟩
theorem RusAt.same {H H' : Hp} {t : Addr} {rs : List Ru} (s : Same H H') (h : RusAt K H t rs) : RusAt K H' t rs := let ⟨xs, h1, h2⟩ := h; ⟨xs, s _ _ h1, Paired.imp (fun _ _ z => RuAt.same s z) h2⟩
theorem BkAt.same {H H' : Hp} {b : Addr} {n : Nat} {rs : List Ru} (s : Same H H') (h : BkAt K H b n rs) : BkAt K H' b n rs := let ⟨dx, fs, t, h1, h2, h3, h4⟩ := h; ⟨dx, fs, t, s _ _ h1, h2, h3, h4.same s⟩
theorem RwAt.same {H H' : Hp} {a : Addr} {hs : List Int} (s : Same H H') (h : RwAt K H a hs) : RwAt K H' a hs := let ⟨dx, fs, t, h1, h2, h3⟩ := h; ⟨dx, fs, t, s _ _ h1, h2, s _ _ h3⟩
end
/-- a bound of what stands below the line -/
theorem line_le {n : Nat} (h : n ≤ 100000) : n ≤ sizeLine := Nat.le_trans h (by decide)
theorem line_lt {n : Nat} (h : n ≤ 100000) : n < sizeLine := Nat.lt_of_le_of_lt h (by decide)
theorem int_get {ns : List Int} {i : Nat} {x : V} (h : (iVs ns)[i]? = some x) : ∃ n, ns[i]? = some n ∧ x = .int n := by
  rw [List.getElem?_map] at h
  cases e : ns[i]? with
  | none => rw [e] at h; cases h
  | some n => rw [e] at h; exact ⟨n, rfl, (Option.some.inj h).symm⟩
/-- a def of the text by its body: from Fun -/
theorem FR.of {P : Program} {w : World} {K : PySem.W.Frag} {mg : Str → Option Value} {base : Heap} {x qual : Str} {st : Stmt} {f : Addr} {fd : FuncData} {N ps : List Str} {k : Nat} {sp : Sp} (F : Fun K x qual st f fd) (S : FnScope N ps (defScope st))
    (hb : ∀ (kV doc pm : Value) (an : Option Addr) (cdv ct : Value) (us : List Value), us.length = ps.length → bindArgs (PySem.W.fnOf x qual (defArgs st) (defBody st) (defScope st) .none kV doc pm an cdv ct) ⟨us, []⟩ = pure (ps.zip us))
    (len : ∀ vs H Q E, sp vs H Q E → vs.length = ps.length)
    (body : ∀ (cdv : Value) (A : Around) (outer : List Env) (s : Shared) (H : Hp) (vs : List V) (Q : VK) (E : XK), Room k (A.deeper (envOfC qual (defScope st) s.heap.objs.size f cdv)) → sp vs H Q E →
      ∃ t, PSs (cxOf CX0 P w K mg base N qual (defScope st) f cdv A outer s H E).nox (defBody st) t ∧ t { nx := fun _ H' => Q .non H', rt := Q } (start N vs) H) : FR P w K mg base (k + 1) f sp :=
  ⟨⟨fd, ps, F.ok S len body, F.binds hb⟩, F.kp⟩
/-- an expression that is not come to -/
theorem pe_never {X : Cx} {e : Expr} : PE X e (fun _ _ _ => False) := ⟨fun _ _ _ _ _ _ h => h.elim⟩
/-- a def whose last arguments have defaults, called without them -/
structure FRd (P : Program) (w : World) (K : PySem.W.Frag) (mg : Str → Option Value) (base : Heap) (k : Nat) (f : Addr) (dvs : List V) (sp : Sp) : Prop where
  ex : ∃ (fd : FuncData) (ps : List Str) (ds : List Value), FnOk P w K mg base CX0 k f fd ps sp ∧ Binds K fd ps ds ∧ Vals dvs ds
  kp : PySem.W.keepIn K (.ref f) = true
theorem pe_fnD {X : Cx} {k : Nat} {f : Addr} {dvs : List V} {sp : Sp} {x : Str} {q pos : Pos} {e : Expr} {es : List Expr} {t : TA} (F : FRd X.prog X.w X.K X.mg X.base k f dvs sp) (hr : Room k X.A) (hg : Gl X x) (hm : X.mg x = some (.ref f)) (ha : PA X (e :: es) t) (hd : (x == ("__debug__" : Str)) = false := by decide)
    (h1 : starEach (e :: es) X.env = (false, eval e X.env) :: starEach es X.env := by rfl) (h2 : (backTo pos (starEach es X.env)).any (·.1) = false := by rfl) : PE X (.Call (.Name x q) (e :: es) [] pos) (tFn (fun vs H Q E => sp (vs ++ dvs) H Q E) t) := by
  obtain ⟨fd, ps, ds, G, b, v⟩ := F.ex
  exact PE.to (pe_call G hr hg hm F.kp b v pass0 ha hd h1 h2) fun σ H Q z => z
end K53
namespace K53
open PySem PySem.Spec PyProof.Rows L2
section
variable {P : Program} {w : World} {K : PySem.W.Frag} {mg : Str → Option Value} {base : Heap}
/-! ### is_integer, is_within, need_number: of ints alone -/
def spIsInt : Sp := fun vs H Q _ => ∃ i : Int, vs = [.int i] ∧ Q (.bl true) H
theorem ok_is_integer (T : Txt K mg) : FR P w K mg base 1 (He.ga K "is_integer") spIsInt := by
  obtain ⟨fd, F⟩ := T.f_is_integer
  refine FR.of F sc_is_integer (fun _ _ _ _ _ _ us hl => match us, hl with | [_], _ => rfl) (fun vs H Q E h => ?_) (fun cdv A outer s H vs Q E hr h => ?_)
  · obtain ⟨i, rfl, _⟩ := h
    rfl
  · obtain ⟨i, rfl, k⟩ := h
    refine ⟨_, (pss_one (ps_ret (pe_and (pe_callB call_isi (by rfl) T.free_isinstance (by decide +kernel) (pa_cons (pv 0) (pa_cons (pe_bltn (v := .ty "int") rfl T.free_int (by decide +kernel) rfl) pa_nil))) (pe_one (pe_not (pe_callB call_isi (by rfl) T.free_isinstance (by decide +kernel) (pa_cons (pv 0) (pa_cons (pe_bltn (v := .ty "bool") rfl T.free_bool (by decide +kernel) rfl) pa_nil)))))))), ?_⟩
    refine ⟨_, rfl, .int i, .ty "int", .type "int", .type "int", true, rfl, .ty _, .base (.int i), kit_ty (by decide +kernel), true, rfl, ?_⟩
    refine iteT ⟨_, rfl, .int i, .ty "bool", .type "int", .type "bool", false, rfl, .ty _, .base (.int i), kit_ty (by decide +kernel), false, rfl, k⟩
def spWithin : Sp := fun vs H Q _ => ∃ i lo hi : Int, vs = [.int i, .int lo, .int hi] ∧ lo ≤ i ∧ i ≤ hi ∧ Q (.bl true) H
theorem ok_is_within (T : Txt K mg) : FR P w K mg base 2 (He.ga K "is_within") spWithin := by
  obtain ⟨fd, F⟩ := T.f_is_within
  have G_is_integer : FR P w K mg base 1 _ spIsInt := ok_is_integer T
  refine FR.of F sc_is_within (fun _ _ _ _ _ _ us hl => match us, hl with | [_, _, _], _ => rfl) (fun vs H Q E h => ?_) (fun cdv A outer s H vs Q E hr h => ?_)
  · obtain ⟨i, lo, hi, rfl, _⟩ := h
    rfl
  · obtain ⟨i, lo, hi, rfl, h1, h2, k⟩ := h
    refine ⟨_, (pss_cons (ps_if (pt_not (pt_val (pe_fn G_is_integer (hr.mono (by decide)) rfl T.glo_is_integer (pa_cons (pv 0) pa_nil)))) (pss_one (ps_ret pe_bl)) pss_nil)
  (pss_one (ps_ret (pe_and (pe_or (pe_cmpR op_isN (pv 1) pe_non (nomark _)) (pe_one (pe_cmpR op_le (pv 1) (pv 0) (nomark _)))) (pe_one (pe_or (pe_cmpR op_isN (pv 2) pe_non (nomark _)) (pe_one (pe_cmpR op_le (pv 0) (pv 2) (nomark _))))))))), ?_⟩
    refine ⟨_, rfl, i, rfl, true, rfl, iteF ?_⟩
    refine ⟨_, rfl, rfl, false, rfl, iteF ⟨_, rfl, _, rfl, _, _, rfl, rfl, _, rfl, ?_⟩⟩
    rw [if_pos (decide_eq_true h1)]
    refine ⟨_, rfl, rfl, false, rfl, iteF ⟨_, rfl, _, rfl, _, _, rfl, rfl, ?_⟩⟩
    show Q (V.bl (decide (i ≤ hi))) H
    rw [decide_eq_true h2]
    exact k
def spNeed : Sp := fun vs H Q _ => ∃ (i lo hi : Int) (p : Str), vs = [.int i, .str p, .int lo, .int hi] ∧ lo ≤ i ∧ i ≤ hi ∧ Q .non H
theorem ok_need_number (T : Txt K mg) : FR P w K mg base 3 (He.ga K "need_number") spNeed := by
  obtain ⟨fd, F⟩ := T.f_need_number
  have G_is_within : FR P w K mg base 2 _ spWithin := ok_is_within T
  refine FR.of F sc_need_number (fun _ _ _ _ _ _ us hl => match us, hl with | [_, _, _, _], _ => rfl) (fun vs H Q E h => ?_) (fun cdv A outer s H vs Q E hr h => ?_)
  · obtain ⟨i, lo, hi, p, rfl, _⟩ := h
    rfl
  · obtain ⟨i, lo, hi, p, rfl, h1, h2, k⟩ := h
    refine ⟨_, (pss_one (ps_if (pt_not (pt_val (pe_fn G_is_within (hr.mono (by decide)) rfl T.glo_is_within (pa_cons (pv 0) (pa_cons (pv 2) (pa_cons (pv 3) pa_nil)))))) (pss_one ps_never) pss_nil)), ?_⟩
    exact ⟨_, rfl, _, rfl, _, rfl, i, lo, hi, rfl, h1, h2, true, rfl, iteF k⟩
/-! ### are_integers, of a list of iVs -/
def spAreInts : Sp := fun vs H Q _ => ∃ (a : Addr) (ns : List Int), vs = [.ref a] ∧ H a = some (.lst (iVs ns)) ∧ ns.length ≤ 1000 ∧ ∀ H', Same H H' → Q (.bl true) H'
theorem ok_are_integers (T : Txt K mg) : FR P w K mg base 2 (He.ga K "are_integers") spAreInts := by
  obtain ⟨fd, F⟩ := T.f_are_integers
  have G_is_integer : FR P w K mg base 1 _ spIsInt := ok_is_integer T
  refine FR.of F sc_are_integers (fun _ _ _ _ _ _ us hl => match us, hl with | [_], _ => rfl) (fun vs H Q E h => ?_) (fun cdv A outer s H vs Q E hr h => ?_)
  · obtain ⟨a, ns, rfl, _⟩ := h
    rfl
  · obtain ⟨a, ns, rfl, ha, hn, k⟩ := h
    refine ⟨_, (pss_one (ps_ret (pe_and (pe_callB call_isiT (by rfl) T.free_isinstance (by decide +kernel) (pa_cons (pv 0) (pa_cons (pe_tup (pa_cons (pe_bltn (v := .ty "list") rfl T.free_list (by decide +kernel) rfl) (pa_cons (pe_bltn (v := .ty "tuple") rfl T.free_tuple (by decide +kernel) rfl) pa_nil))) pa_nil))) (pe_one (pe_callB (cr_all rfl) (by rfl) T.free_all (by decide +kernel) (pa_cons (pe_lc (own := [("each", 1)]) (g := gName 1) (tt := tYes) (by rfl) sc_are_integers.nd (pi_list (pv 0)) (blkOk_by (own := [("each", 1)]) (N := N_are_integers) (sc := defScope s_are_integers) (by decide +kernel)) (fun _ _ _ _ _ => (pg_name (i := 1) sc_are_integers.nd rfl (Or.inl rfl))) (fun _ _ _ _ _ => pts_nil) (fun _ _ _ _ _ => (pe_fn G_is_integer (hr.mono (by decide)) rfl T.glo_is_integer (pa_cons (pv 1) pa_nil)))) pa_nil)))))), ?_⟩
    refine ⟨_, rfl, line_le (by decide), fun p hp => ?_⟩
    have s1 := Same.new (o := .tup [.ty "list", .ty "tuple"]) hp
    refine ⟨.ref a, p, _, .type "list", [.type "list", .type "tuple"], true, rfl, upd_same, .cons (.ty _) (.cons (.ty _) .nil), .base (.lst (s1 _ _ ha)), kitAny_cons (b := true) (kit_ty (by decide +kernel)) (fun h => by cases h) (fun _ => rfl), true, rfl, ?_⟩
    refine iteT ⟨_, rfl, a, rfl, ⟨_, SqL.of (s1 _ _ ha)⟩, fun D hD => ?_⟩
    refine lc_list (K := K) (a := a) (xs := iVs ns) (fun i H' => Same H H' ∧ H D = none ∧ H' D = some (.lst (List.replicate i (.bl true)))) ⟨(s1.trans (Same.new hD)), s1.free hD, upd_same⟩ (fun i H' _ ⟨s2, _⟩ => SqL.of (s2 _ _ ha)) ?_ ?_
    · rintro i x H' hi ⟨s2, n2, d2⟩
      obtain ⟨n, hn', rfl⟩ := int_get hi
      have hil : i < ns.length := (List.getElem?_eq_some_iff.mp hn').1
      refine ⟨rfl, ⟨_, rfl, n, rfl, _, d2, line_lt (by rw [List.length_replicate]; omega), Same.mut s2 n2, n2, ?_⟩⟩
      rw [upd_same, List.replicate_succ']
    · rintro H' ⟨s2, n2, d2⟩
      refine ⟨D, List.replicate (iVs ns).length true, rfl, SqL.of (by rw [List.map_replicate]; exact d2), ?_⟩
      rw [show (List.replicate (iVs ns).length true).all id = true by rw [List.all_replicate]; split <;> simp]
      exact k _ s2
end
end K53
namespace K53
open PySem PySem.Spec PyProof.Rows L2
/-! ### plain words on heights -/
def hts (x : Int) : List Int → List Int
  | [] => [x]
  | g :: gs => x :: hts (x + g) gs
theorem hts_len (x : Int) (l : List Int) : (hts x l).length = l.length + 1 := by
  induction l generalizing x with
  | nil => rfl
  | cons g l ih => exact congrArg Nat.succ (ih _)
theorem hts_app (x g : Int) (l : List Int) : ∃ l0 y, hts x l = l0 ++ [y] ∧ hts x (l ++ [g]) = l0 ++ [y] ++ [y + g] := by
  induction l generalizing x with
  | nil => exact ⟨[], x, rfl, rfl⟩
  | cons h l ih =>
    obtain ⟨l0, y, e1, e2⟩ := ih (x + h)
    exact ⟨x :: l0, y, by show x :: hts (x + h) l = _; rw [e1]; rfl, by show x :: hts (x + h) (l ++ [g]) = _; rw [e2]; rfl⟩
theorem take_get {α : Type} {l : List α} {i : Nat} {x : α} (h : l[i]? = some x) : l.take (i + 1) = l.take i ++ [x] := by rw [List.take_add_one, h]; rfl
theorem iVs_app (l : List Int) (x : Int) : iVs (l ++ [x]) = iVs l ++ [.int x] := by simp [iVs]
/-- the steps of heights -/
def difs : List Int → List Int
  | x :: y :: r => (y - x) :: difs (y :: r)
  | _ => []
theorem difs_len : ∀ l : List Int, (difs l).length = l.length - 1
  | [] => rfl
  | [_] => rfl
  | x :: y :: r => by
    show (difs (y :: r)).length + 1 = _
    rw [difs_len (y :: r)]
    simp
theorem hts_difs (c x : Int) : ∀ r : List Int, hts c (difs (x :: r)) = (x :: r).map (· - x + c)
  | [] => by simp [difs, hts]
  | y :: r => by
    have h := hts_difs (c + (y - x)) y r
    show c :: hts (c + (y - x)) (difs (y :: r)) = _
    rw [h]
    simp only [List.map_cons, List.cons.injEq]
    refine ⟨by omega, by omega, List.map_congr_left fun z _ => by omega⟩
theorem difs_get : ∀ (l : List Int) (i : Nat) (x y : Int), l[i]? = some x → l[i + 1]? = some y → (difs l)[i]? = some (y - x)
  | [], i, x, y, h, _ => by simp at h
  | [_], i, x, y, _, h => by simp at h
  | a :: b :: r, 0, x, y, h, h2 => by
    simp at h h2
    subst h h2
    rfl
  | a :: b :: r, i + 1, x, y, h, h2 => by
    have := difs_get (b :: r) i x y (by simpa using h) (by simpa using h2)
    simpa [difs] using this
section
variable {P : Program} {w : World} {K : PySem.W.Frag} {mg : Str → Option Value} {base : Heap}
/-! ### heights_of -/
def spHeights : Sp := fun vs H Q _ => ∃ (a : Addr) (ns : List Int), vs = [.ref a] ∧ H a = some (.lst (iVs ns)) ∧ ns.length ≤ 1000 ∧ ∀ t H', Same H H' → H' t = some (.tup (iVs (hts 0 ns))) → Q (.ref t) H'
theorem ok_heights_of (T : Txt K mg) : FR P w K mg base 1 (He.ga K "heights_of") spHeights := by
  obtain ⟨fd, F⟩ := T.f_heights_of
  refine FR.of F sc_heights_of (fun _ _ _ _ _ _ us hl => match us, hl with | [_], _ => rfl) (fun vs H Q E h => ?_) (fun cdv A outer s H vs Q E hr h => ?_)
  · obtain ⟨a, ns, rfl, _⟩ := h
    rfl
  · obtain ⟨a, ns, rfl, ha, hn, k⟩ := h
    refine ⟨_, ((pss_cons (ps_set (i := 1) sc_heights_of.nd rfl (by first | exact Or.inl rfl | exact Or.inr rfl) (pe_lst (pa_cons pe_int pa_nil)))
  (pss_cons (ps_for PassesOwn.never rfl (pi_list (pv 0)) (pg_name (i := 2) sc_heights_of.nd rfl (by first | exact Or.inl rfl | exact Or.inr rfl) (by first | exact Or.inl rfl | exact Or.inr rfl))
    (pss_one (ps_expr (pe_bm PySem.F.plainAttrs_list PySem.F.slot_list_append PySem.F.type_list_append mt_append (pv 1) (pa_cons (pe_op op_add (pe_ix (r := rIxL K) ix_list (pv 1) (pe_un un_neg pe_int) (fun _ _ => rfl)) (pv 2)) pa_nil)))))
  (pss_one (ps_ret (pe_callTy (T := "tuple") call_tuple_of (by rfl) T.free_tuple (by decide +kernel) (pa_cons (pv 1) pa_nil))))))), ?_⟩
    refine ⟨line_le (by decide), fun D hD => ?_⟩
    have s1 := Same.new (o := .lst [.int 0]) hD
    refine ⟨_, rfl, a, rfl, ⟨_, SqL.of (s1 _ _ ha)⟩, ?_⟩
    refine for_list (fun i σ H' => (∃ v, σ = [some (.ref a), some (.ref D), v]) ∧ Same H H' ∧ H' D = some (.lst (iVs (hts 0 (ns.take i))))) ⟨⟨_, rfl⟩, s1, upd_same⟩ (fun i σ H' _ ⟨_, s2, _⟩ => SqL.of (s2 _ _ ha)) ?_ ?_
    · rintro i x σ H' hi ⟨⟨v, rfl⟩, s2, d2⟩
      obtain ⟨n, hn', rfl⟩ := int_get hi
      obtain ⟨l0, y, e1, e2⟩ := hts_app 0 n (ns.take i)
      refine ⟨_, rfl, .inl ⟨rfl, _, SqL.of d2⟩, _, rfl, 1, rfl, D, _, -1, .int y, rfl, rfl, SqL.of d2, by rw [e1, iVs_app]; exact atI_last _ _, _, rfl, y, n, rfl, rfl, ?_⟩
      refine ⟨D, _, _, rfl, rfl, d2, line_lt (by rw [List.length_map, hts_len, List.length_take]; omega), ⟨_, rfl⟩, Same.mut s2 hD, ?_⟩
      rw [upd_same, take_get hn', e2, iVs_app, e1]
    · rintro σ H' ⟨⟨v, rfl⟩, s2, d2⟩
      rw [List.length_map, List.take_length] at d2
      exact ⟨_, rfl, D, _, rfl, .inl ⟨SqL.of d2, fun t ht => k t _ (s2.trans (Same.new ht)) upd_same⟩⟩
end
end K53
namespace K53
open PySem PySem.Spec PyProof.Rows L2
section
variable {P : Program} {w : World} {K : PySem.W.Frag} {mg : Str → Option Value} {base : Heap}
/-! ### Row -/
def spRowInit : Sp := fun vs H Q _ => ∃ (x dx a : Addr) (ns : List Int), vs = [.ref x, .ref a] ∧ H x = some (.ins (CRow K) dx []) ∧ H a = some (.lst (iVs ns)) ∧ 0 < ns.length ∧ ns.length ≤ 48 ∧
  ∀ H', But x H H' → RwAt K H' x (hts 0 ns) → Q .non H'
theorem ok_Row_init (T : Txt K mg) : FR P w K mg base 3 (He.ma K (CRow K) "__init__") (spRowInit (K := K)) := by
  obtain ⟨t, hMOST_DAYS_rows⟩ := T.int_MOST_DAYS_rows
  have G_are_integers : FR P w K mg base 2 _ spAreInts := ok_are_integers T
  have G_heights_of : FR P w K mg base 1 _ spHeights := ok_heights_of T
  obtain ⟨fd, F⟩ := T.f_Row_init
  refine FR.of F sc_Row_init (fun _ _ _ _ _ _ us hl => match us, hl with | [_, _], _ => rfl) (fun vs H Q E h => ?_) (fun cdv A outer s H vs Q E hr h => ?_)
  · obtain ⟨x, dx, a, ns, rfl, _⟩ := h
    rfl
  · obtain ⟨x, dx, a, ns, rfl, hx, ha, h0, h48, k⟩ := h
    refine ⟨_, ((pss_cons (ps_if (PW.pt (pw_or (pt_not (pt_val (pe_fn G_are_integers (hr.mono (by decide)) rfl T.glo_are_integers (pa_cons (pv 1) pa_nil)))) (pw_or1 (pt_cmpR op_eq (pe_callB (id := "len") (r := lenR K) call_len_seq (by rfl) T.free_len (by decide +kernel) (pa_cons (pv 1) pa_nil)) pe_int (nomark _))))) (pss_one ps_never) pss_nil)
  (pss_cons (ps_if (pt_cmpR op_gt (pe_callB (id := "len") (r := lenR K) call_len_seq (by rfl) T.free_len (by decide +kernel) (pa_cons (pv 1) pa_nil)) (pe_glob (v := .int 48) rfl hMOST_DAYS_rows ⟨_, rfl⟩) (nomark _)) (pss_one ps_never) pss_nil)
  (pss_cons (ps_fld (pv 0) (pe_callTy (T := "tuple") call_tuple_of (by rfl) T.free_tuple (by decide +kernel) (pa_cons (pv 1) pa_nil)) rfl)
  (pss_cons (ps_fld (pv 0) (pe_fn G_heights_of (hr.mono (by decide)) rfl T.glo_heights_of (pa_cons (pv 1) pa_nil)) rfl)
  (pss_cons (ps_fld (pv 0) (pe_callB (id := "len") (r := lenR K) call_len_seq (by rfl) T.free_len (by decide +kernel) (pa_cons (pv 1) pa_nil)) rfl)
  (pss_one (ps_fld (pv 0) (pe_ix (r := rIxT K) ix_tup (pe_fld (pv 0) rfl) (pe_un un_neg pe_int) (fun _ _ => rfl)) rfl)))))))), ?_⟩
    refine ⟨_, rfl, a, ns, rfl, ha, by omega, fun H1 s1 => ⟨true, rfl, iteF ?_⟩⟩
    refine ⟨_, rfl, a, _, rfl, .inl (SqL.of (s1 _ _ ha)), rfl, _, rfl, ?_⟩
    rw [dec_int]
    refine iteF' (by rw [beq_eq_false_iff_ne, len_iVs]; omega) ?_
    refine ⟨_, rfl, a, _, rfl, .inl (SqL.of (s1 _ _ ha)), _, _, rfl, rfl, _, rfl, iteF' (by rw [len_iVs]; simp; omega) ?_⟩
    refine ⟨_, rfl, a, _, rfl, .inl ⟨SqL.of (s1 _ _ ha), fun t1 ht1 => ?_⟩⟩
    have s2 := s1.trans (Same.new (o := .tup (iVs ns)) ht1)
    refine ⟨_, rfl, x, _, dx, _, rfl, s2 _ _ hx, T.cls_Row, T.no_Row_gains, (by decide), ?_⟩
    have xa : a ≠ x := apart ha hx (by simp)
    have b2 := (But.of (x := x) s2).put (o := .ins (CRow K) dx (putF "gains" (.ref t1) []))
    refine ⟨_, rfl, a, ns, rfl, b2 _ _ ha xa, by omega, fun t2 H3 s3 h3 => ?_⟩
    have b3 := b2.trans (But.of s3)
    refine ⟨_, rfl, x, _, dx, _, rfl, s3 _ _ upd_same, T.cls_Row, T.no_Row_heights, fl1, ?_⟩
    have b4 := b3.put (o := .ins (CRow K) dx (putF "heights" (.ref t2) (putF "gains" (.ref t1) [])))
    have tx : t2 ≠ x := apart h3 (s3 _ _ upd_same) (by simp)
    refine ⟨_, rfl, a, _, rfl, .inl (SqL.of (b4 _ _ ha xa)), _, rfl, x, _, dx, _, rfl, upd_same, T.cls_Row, T.no_Row_days, fl2, ?_⟩
    obtain ⟨l0, y, e⟩ : ∃ l0 y, hts 0 ns = l0 ++ [y] := ⟨_, _, (List.dropLast_concat_getLast (l := hts 0 ns) (by intro z; have := hts_len 0 ns; rw [z] at this; cases this)).symm⟩
    refine ⟨_, rfl, x, _, dx, _, .ref t2, rfl, upd_same, T.cls_Row, T.no_Row_heights, (by rw [lk_miss _ _ (by decide +kernel), lk_hit]), 1, rfl, t2, _, -1, _, rfl, rfl, SqT.of (by rw [upd_ne tx, upd_ne tx]; exact h3), by rw [e, iVs_app]; exact atI_last _ _, ?_⟩
    refine ⟨_, rfl, x, _, dx, _, rfl, upd_same, T.cls_Row, T.no_Row_total, fl3, ?_⟩
    refine k _ b4.put.put ⟨dx, _, t2, upd_same, (by rw [lk_miss _ _ (by decide +kernel), lk_miss _ _ (by decide +kernel), lk_hit]), ?_⟩
    rw [upd_ne tx, upd_ne tx, upd_ne tx]
    exact h3
/-! ### the steps between neighbours -/
theorem lc_dif {H : Hp} {a : Addr} {ns : List Int} {u v : Option V} {Q : VK} (ha : H a = some (.lst (iVs ns))) (hn : ns.length ≤ 1000) (k : ∀ D H', Same H H' → H' D = some (.lst (iVs (difs ns))) → Q (.ref D) H') :
    tLc (iZip K (tCons (tVar 0) (tCons (tSl (rSlL K) (tVar 0) (tPart (tC (.int 1))) tNoPart) tNil))) (gTup K 2 (gCons (gName 1) (gCons (gName 2) gNil))) tYes (tOp (rI0 fun i j => .int (i - j)) (tVar 2) (tVar 1)) [1, 2] [some (.ref a), u, v] H Q := by
  refine ⟨_, rfl, _, rfl, 1, rfl, a, _, rfl, SqL.of ha, fun b hb => ?_⟩
  rw [show cutV (iVs ns) (some 1) none = iVs (ns.drop 1) from (cut_from _ 1).trans (iVs_drop ns 1)]
  have s1 := Same.new (o := .lst (iVs (ns.drop 1))) hb
  refine ⟨a, b, _, _, rfl, SqL.of (s1 _ _ ha), SqL.of upd_same, fun D hD => ?_⟩
  refine lc_it (walk_zip (K := K) (a := a) (b := b) (xs := iVs ns) (ys := iVs (ns.drop 1)) (n := ns.length - 1) (by rw [len_iVs, len_iVs, List.length_drop]; omega)) (fun i H' => Same H H' ∧ H' b = some (.lst (iVs (ns.drop 1))) ∧ H' D = some (.lst (iVs ((difs ns).take i))))
    ⟨s1.trans (Same.new hD), by rw [upd_ne (ne_of_none upd_same hD)]; exact upd_same, upd_same⟩ (fun i H' _ ⟨s2, b2, _⟩ => ⟨SqL.of (s2 _ _ ha), SqL.of b2⟩) ?_ ?_
  · rintro i v H' H'' hi ⟨s2, b2, d2⟩ ⟨p, x, y, rfl, hp, rfl, hx, hy⟩
    obtain ⟨m, hm, rfl⟩ := int_get hx
    obtain ⟨q, hq, rfl⟩ := int_get hy
    rw [List.getElem?_drop, Nat.add_comm] at hq
    refine ⟨p, _, rfl, SqT.of upd_same, rfl, _, _, rfl, _, _, rfl, rfl, rfl, _, rfl, _, rfl, q, m, rfl, rfl, _, (by rw [upd_ne (ne_of_none d2 hp)]; exact d2), line_lt (by rw [len_iVs, List.length_take]; omega), ?_, ?_, ?_⟩
    · exact Same.mut (s2.trans (Same.new hp)) (s1.free hD)
    · rw [upd_ne (ne_of_none upd_same hD), upd_ne (ne_of_none b2 hp)]
      exact b2
    · rw [upd_same, take_get (difs_get ns i m q hm hq), iVs_app]
  · rintro H' ⟨s2, b2, d2⟩
    refine k D H' s2 ?_
    rw [d2, ← difs_len ns, List.take_length]
/-! ### row_by -/
def spRowBy : Sp := fun vs H Q _ => ∃ (a : Addr) (ns : List Int), vs = [.ref a] ∧ H a = some (.lst (iVs ns)) ∧ 2 ≤ ns.length ∧ ns.length ≤ 49 ∧ ∀ r H', Same H H' → RwAt K H' r (hts 0 (difs ns)) → Q (.ref r) H'
theorem mk_row {H : Hp} {ns : List Int} {D : Addr} {Q : VK} (hd : H D = some (.lst (iVs ns))) (h1 : 0 < ns.length) (h2 : ns.length ≤ 48) (k : ∀ r H', Same H H' → RwAt K H' r (hts 0 ns) → Q (.ref r) H') :
    ∀ a d, H a = Option.none → H d = Option.none → d ≠ a → spRowInit (K := K) [V.ref a, .ref D] (upd (upd H d (.own a)) a (.ins (CRow K) d [])) (fun v H2 => v = .non ∧ Q (.ref a) H2) E0 := fun x dx hx hdx ne =>
  ⟨x, dx, D, ns, rfl, upd_same, Same.inst hx hdx _ _ hd, h1, h2, fun H' b r => ⟨rfl, k x H' (But.same hx hdx b) r⟩⟩
theorem ok_row_by (T : Txt K mg) : FR P w K mg base 5 (He.ga K "row_by") (spRowBy (K := K)) := by
  have G_Row : FnR P w K mg base CX0 3 _ (spRowInit (K := K)) := (ok_Row_init T).raw
  obtain ⟨fd, F⟩ := T.f_row_by
  refine FR.of F sc_row_by (fun _ _ _ _ _ _ us hl => match us, hl with | [_], _ => rfl) (fun vs H Q E h => ?_) (fun cdv A outer s H vs Q E hr h => ?_)
  · obtain ⟨a, ns, rfl, _⟩ := h
    rfl
  · obtain ⟨a, ns, rfl, ha, h2, h49, k⟩ := h
    refine ⟨_, ((pss_one (ps_ret (pe_mk T.mk_Row G_Row (hr.mono (by decide)) rfl T.glo_Row (pa_cons (pe_lc (own := [("one", 1), ("other", 2)]) (g := gTup K 2 (gCons (gName 1) (gCons (gName 2) gNil))) (tt := tYes) (by rfl) sc_row_by.nd (pi_zip (by rfl) T.free_zip (pa_cons (pv 0) (pa_cons (pe_slice (r := rSlL K) sl_list (pv 0) (po_some pe_int) po_none) pa_nil))) (blkOk_by (own := [("one", 1), ("other", 2)]) (N := N_row_by) (sc := defScope s_row_by) (by decide +kernel)) (fun _ _ _ _ _ => (pg_tup rfl (pgs_cons (pg_name (i := 1) sc_row_by.nd rfl (by first | exact Or.inl rfl | exact Or.inr rfl) (by first | exact Or.inl rfl | exact Or.inr rfl)) (pgs_cons (pg_name (i := 2) sc_row_by.nd rfl (by first | exact Or.inl rfl | exact Or.inr rfl) (by first | exact Or.inl rfl | exact Or.inr rfl)) pgs_nil)))) (fun _ _ _ _ _ => pts_nil) (fun _ _ _ _ _ => (pe_op op_sub (pv 2) (pv 1)))) pa_nil))))), ?_⟩
    unfold tRet tMk tCons
    refine lc_dif ha (by omega) fun D H1 s1 d1 => ?_
    exact mk_row d1 (by rw [difs_len]; omega) (by rw [difs_len]; omega) fun r H2 s2 hr2 => k r H2 (s1.trans s2) hr2
/-! ### Row.of -/
def spRowOf : Sp := fun vs H Q _ => ∃ (a : Addr) (x : Int) (hs : List Int), vs = [.ref a] ∧ H a = some (.lst (iVs (0 :: x :: hs))) ∧ hs.length ≤ 47 ∧ ∀ r H', Same H H' → RwAt K H' r (0 :: x :: hs) → Q (.ref r) H'
theorem ok_Row_of (T : Txt K mg) : FR P w K mg base 5 (He5.wf K (CRow K) "staticmethod" "of") (spRowOf (K := K)) := by
  have G_Row : FnR P w K mg base CX0 3 _ (spRowInit (K := K)) := (ok_Row_init T).raw
  have G_are_integers : FR P w K mg base 2 _ spAreInts := ok_are_integers T
  obtain ⟨fd, F⟩ := T.f_Row_of
  refine FR.of F sc_Row_of (fun _ _ _ _ _ _ us hl => match us, hl with | [_], _ => rfl) (fun vs H Q E h => ?_) (fun cdv A outer s H vs Q E hr h => ?_)
  · obtain ⟨a, x, hs, rfl, _⟩ := h
    rfl
  · obtain ⟨a, x, hs, rfl, ha, h47, k⟩ := h
    refine ⟨_, ((pss_cons (ps_if (PW.pt (pw_or (pt_not (pt_val (pe_fn G_are_integers (hr.mono (by decide)) rfl T.glo_are_integers (pa_cons (pv 0) pa_nil)))) (pw_or (pt_cmpR op_lt (pe_callB (id := "len") (r := lenR K) call_len_seq (by rfl) T.free_len (by decide +kernel) (pa_cons (pv 0) pa_nil)) pe_int (nomark _)) (pw_or1 (pt_cmpR op_ne (pe_ix (r := rIxL K) ix_list (pv 0) pe_int (fun _ _ => rfl)) pe_int (nomark _)))))) (pss_one ps_never) pss_nil)
  (pss_one (ps_ret (pe_mk T.mk_Row G_Row (hr.mono (by decide)) rfl T.glo_Row (pa_cons (pe_lc (own := [("ahead", 1), ("behind", 2)]) (g := gTup K 2 (gCons (gName 1) (gCons (gName 2) gNil))) (tt := tYes) (by rfl) sc_Row_of.nd (pi_zip (by rfl) T.free_zip (pa_cons (pv 0) (pa_cons (pe_slice (r := rSlL K) sl_list (pv 0) (po_some pe_int) po_none) pa_nil))) (blkOk_by (own := [("ahead", 1), ("behind", 2)]) (N := N_Row_of) (sc := defScope s_Row_of) (by decide +kernel)) (fun _ _ _ _ _ => (pg_tup rfl (pgs_cons (pg_name (i := 1) sc_Row_of.nd rfl (by first | exact Or.inl rfl | exact Or.inr rfl) (by first | exact Or.inl rfl | exact Or.inr rfl)) (pgs_cons (pg_name (i := 2) sc_Row_of.nd rfl (by first | exact Or.inl rfl | exact Or.inr rfl) (by first | exact Or.inl rfl | exact Or.inr rfl)) pgs_nil)))) (fun _ _ _ _ _ => pts_nil) (fun _ _ _ _ _ => (pe_op op_sub (pv 2) (pv 1)))) pa_nil)))))), ?_⟩
    refine ⟨_, rfl, a, _, rfl, ha, by simp; omega, fun H1 s1 => ⟨true, rfl, iteF ?_⟩⟩
    refine ⟨_, rfl, a, _, rfl, .inl (SqL.of (s1 _ _ ha)), _, _, rfl, rfl, _, rfl, iteF' (by simp; omega) ?_⟩
    refine ⟨_, rfl, a, _, 0, .int 0, rfl, rfl, SqL.of (s1 _ _ ha), atI_nat (j := 0) rfl, rfl, _, rfl, iteF' rfl ?_⟩
    unfold tNext tRet tMk tCons
    dsimp only
    refine lc_dif (s1 _ _ ha) (by simp; omega) fun D H2 s2 d2 => ?_
    refine mk_row d2 (by rw [difs_len]; simp) (by rw [difs_len]; simp; omega) fun r H3 s3 hr3 => k r H3 ((s1.trans s2).trans s3) ?_
    rw [hts_difs] at hr3
    simpa using hr3
end
end K53
namespace K53
open PySem PySem.Spec PyProof.Rows L2
section
variable {P : Program} {w : World} {K : PySem.W.Frag} {mg : Str → Option Value} {base : Heap}
/-! ### fixed: lists and tuples, by their depth -/
def Lf (K : PySem.W.Frag) (H : Hp) (v : V) : Prop := (∃ i, v = .int i) ∨ ∃ a dx fs, v = .ref a ∧ H a = some (.ins (CRow K) dx fs)
def FxA (K : PySem.W.Frag) : Nat → Hp → V → Prop
  | 0, H, v => Lf K H v
  | n + 1, H, v => Lf K H v ∨ ∃ a xs, v = .ref a ∧ (H a = some (.lst xs) ∨ H a = some (.tup xs)) ∧ xs.length ≤ 1000 ∧ ∀ (i : Nat) x, xs[i]? = some x → FxA K n H x
def FxB (K : PySem.W.Frag) : Nat → Hp → V → Hp → V → Prop
  | 0, H, v, _, u => Lf K H v ∧ u = v
  | n + 1, H, v, H', u => (Lf K H v ∧ u = v) ∨ ∃ a xs t ys, v = .ref a ∧ (H a = some (.lst xs) ∨ H a = some (.tup xs)) ∧ u = .ref t ∧ H' t = some (.tup ys) ∧ Paired (fun x y => FxB K n H x H' y) xs ys
theorem FxB.tk {H H' H'' : Hp} (s : Tk H' H'') : ∀ {n : Nat} {v u : V}, FxB K n H v H' u → FxB K n H v H'' u
  | 0, _, _, h => h
  | n + 1, _, _, .inl h => .inl h
  | n + 1, _, _, .inr ⟨a, xs, t, ys, h1, h2, h3, h4, h5⟩ => .inr ⟨a, xs, t, ys, h1, h2, h3, s _ _ h4, Paired.imp (fun _ _ z => FxB.tk s z) h5⟩
def spFixed (K : PySem.W.Frag) (n : Nat) : Sp := fun vs H Q _ => ∃ v H0, vs = [v] ∧ Same H0 H ∧ FxA K n H0 v ∧ ∀ u H', Same H H' → FxB K n H0 v H' u → Q u H'
theorem leaf_kit (T : Txt K mg) {H0 H : Hp} {v : V} (s : Same H0 H) (h : Lf K H0 v) : ∃ t, TyX K H v t ∧ PySem.W.kitAny K t [.type "list", .type "tuple"] = some false := by
  rcases h with ⟨i, rfl⟩ | ⟨a, dx, fs, rfl, e⟩
  · exact ⟨_, .base (.int i), kitAny_cons (b := false) (kit_ty (by decide +kernel)) (fun _ => kitAny_cons (b := false) (kit_ty (by decide +kernel)) (fun _ => kitAny_nil) (fun z => by cases z)) (fun z => by cases z)⟩
  · exact ⟨_, tyB_ok T.ty_Row T.cls_Row (s _ _ e), of_decide_eq_true T.seq_Row⟩
theorem fixed0 (T : Txt K mg) : FR P w K mg base 1 (He.ga K "fixed") (spFixed K 0) := by
  obtain ⟨fd, F⟩ := T.f_fixed
  refine FR.of F sc_fixed (fun _ _ _ _ _ _ us hl => match us, hl with | [_], _ => rfl) (fun vs H Q E h => ?_) (fun cdv A outer s H vs Q E hr h => ?_)
  · obtain ⟨v, H0, rfl, _⟩ := h
    rfl
  · obtain ⟨v, H0, rfl, s0, hl, k⟩ := h
    refine ⟨_, (pss_cons (ps_if (pt_not (pt_val (pe_callB call_isiT (by rfl) T.free_isinstance (by decide +kernel) (pa_cons (pv 0) (pa_cons (pe_tup (pa_cons (pe_bltn (v := .ty "list") rfl T.free_list (by decide +kernel) rfl) (pa_cons (pe_bltn (v := .ty "tuple") rfl T.free_tuple (by decide +kernel) rfl) pa_nil))) pa_nil))))) (pss_one (ps_ret (pv 0))) pss_nil) pss_never), ?_⟩
    refine ⟨_, rfl, line_le (by decide), fun p hp => ?_⟩
    have s1 := Same.new (o := .tup [.ty "list", .ty "tuple"]) hp
    obtain ⟨t, ht, hk⟩ := leaf_kit T (s0.trans s1) hl
    refine ⟨v, p, _, t, _, false, rfl, upd_same, .cons (.ty _) (.cons (.ty _) .nil), ht, hk, false, rfl, iteT ?_⟩
    exact ⟨_, rfl, k _ _ s1 ⟨hl, rfl⟩⟩
theorem fixed_step (T : Txt K mg) {k n : Nat} (G_fixed : FR P w K mg base k (He.ga K "fixed") (spFixed K n)) : FR P w K mg base (k + 1) (He.ga K "fixed") (spFixed K (n + 1)) := by
  obtain ⟨fd, F⟩ := T.f_fixed
  refine FR.of F sc_fixed (fun _ _ _ _ _ _ us hl => match us, hl with | [_], _ => rfl) (fun vs H Q E h => ?_) (fun cdv A outer s H vs Q E hr h => ?_)
  · obtain ⟨v, H0, rfl, _⟩ := h
    rfl
  · obtain ⟨v, H0, rfl, s0, hl, k⟩ := h
    rcases hl with hl | ⟨a, xs, rfl, ha, hz, hx⟩
    · refine ⟨_, ((pss_cons (ps_if (pt_not (pt_val (pe_callB (id := "isinstance") (r := rIsiT K) call_isiT (by rfl) T.free_isinstance (by decide +kernel) (pa_cons (pv 0) (pa_cons (pe_tup (pa_cons (pe_bltn (v := .ty "list") rfl T.free_list (by decide +kernel) rfl) (pa_cons (pe_bltn (v := .ty "tuple") rfl T.free_tuple (by decide +kernel) rfl) pa_nil))) pa_nil))))) (pss_one (ps_ret (pv 0))) pss_nil)
  (pss_one (ps_ret (pe_callTy (T := "tuple") call_tuple_of (by rfl) T.free_tuple (by decide +kernel) (pa_cons (pe_lc (own := [("part", 1)]) (g := gName 1) (tt := tYes) (by rfl) sc_fixed.nd (pi_tup (pv 0)) (blkOk_by (own := [("part", 1)]) (N := N_fixed) (sc := defScope s_fixed) (by decide +kernel)) (fun _ _ _ _ _ => (pg_name (i := 1) sc_fixed.nd rfl (by first | exact Or.inl rfl | exact Or.inr rfl) (by first | exact Or.inl rfl | exact Or.inr rfl))) (fun _ _ _ _ _ => pts_nil) (fun _ _ _ _ _ => (pe_fn G_fixed (hr.mono (Nat.le_refl _)) rfl T.glo_fixed (pa_cons (pv 1) pa_nil)))) pa_nil)))))), ?_⟩
      refine ⟨_, rfl, line_le (by decide), fun p hp => ?_⟩
      have s1 := Same.new (o := .tup [.ty "list", .ty "tuple"]) hp
      obtain ⟨t, ht, hk⟩ := leaf_kit T (s0.trans s1) hl
      refine ⟨v, p, _, t, _, false, rfl, upd_same, .cons (.ty _) (.cons (.ty _) .nil), ht, hk, false, rfl, iteT ?_⟩
      exact ⟨_, rfl, k _ _ s1 (.inl ⟨hl, rfl⟩)⟩
    · rcases ha with ha | ha
      · refine ⟨_, ((pss_cons (ps_if (pt_not (pt_val (pe_callB (id := "isinstance") (r := rIsiT K) call_isiT (by rfl) T.free_isinstance (by decide +kernel) (pa_cons (pv 0) (pa_cons (pe_tup (pa_cons (pe_bltn (v := .ty "list") rfl T.free_list (by decide +kernel) rfl) (pa_cons (pe_bltn (v := .ty "tuple") rfl T.free_tuple (by decide +kernel) rfl) pa_nil))) pa_nil))))) (pss_one (ps_ret (pv 0))) pss_nil)
  (pss_one (ps_ret (pe_callTy (T := "tuple") call_tuple_of (by rfl) T.free_tuple (by decide +kernel) (pa_cons (pe_lc (own := [("part", 1)]) (g := gName 1) (tt := tYes) (by rfl) sc_fixed.nd (pi_list (pv 0)) (blkOk_by (own := [("part", 1)]) (N := N_fixed) (sc := defScope s_fixed) (by decide +kernel)) (fun _ _ _ _ _ => (pg_name (i := 1) sc_fixed.nd rfl (by first | exact Or.inl rfl | exact Or.inr rfl) (by first | exact Or.inl rfl | exact Or.inr rfl))) (fun _ _ _ _ _ => pts_nil) (fun _ _ _ _ _ => (pe_fn G_fixed (hr.mono (Nat.le_refl _)) rfl T.glo_fixed (pa_cons (pv 1) pa_nil)))) pa_nil)))))), ?_⟩
        refine ⟨_, rfl, line_le (by decide), fun p hp => ?_⟩
        have s1 := Same.new (o := .tup [.ty "list", .ty "tuple"]) hp
        refine ⟨.ref a, p, _, .type "list", [.type "list", .type "tuple"], true, rfl, upd_same, .cons (.ty _) (.cons (.ty _) .nil), .base (.lst (s1 _ _ (s0 _ _ ha))), kitAny_cons (b := true) (kit_ty (by decide +kernel)) (fun h => by cases h) (fun _ => rfl), true, rfl, iteF ?_⟩
        refine ⟨_, rfl, a, rfl, ⟨_, SqL.of (s1 _ _ (s0 _ _ ha))⟩, fun D hD => ?_⟩
        refine lc_list (K := K) (a := a) (xs := xs) (fun i H' => Same H H' ∧ ∃ acc, H' D = some (.lst acc) ∧ Paired (fun x y => FxB K n H0 x H' y) (xs.take i) acc) ⟨s1.trans (Same.new hD), _, upd_same, .nil⟩ (fun i H' _ ⟨s2, _⟩ => SqL.of (s2 _ _ (s0 _ _ ha))) ?_ ?_
        · rintro i x H' hi ⟨s2, acc, d2, pr⟩
          have hlen := (Paired.length pr)
          rw [List.length_take] at hlen
          refine ⟨rfl, _, rfl, x, H0, rfl, s0.trans s2, hx i x hi, fun u H3 s3 hu => ⟨acc, s3 _ _ d2, line_lt (by omega), (Same.mut (s2.trans s3) (s1.free hD)), _, upd_same, ?_⟩⟩
          rw [take_get hi]
          have s4 : ∀ x y, FxB K n H0 x H3 y → FxB K n H0 x (upd H3 D (.lst (acc ++ [u]))) y := fun x y z => FxB.tk (Tk.put (s3 _ _ d2) (fun _ z => by cases z)) z
          exact Paired.app (Paired.imp (fun x y z => s4 x y (FxB.tk (Same.tk s3) z)) pr) (.cons (s4 _ _ hu) .nil)
        · rintro H' ⟨s2, acc, d2, pr⟩
          rw [List.take_length] at pr
          refine ⟨D, _, rfl, .inl ⟨SqL.of d2, fun t ht => ?_⟩⟩
          exact k _ _ (s2.trans (Same.new ht)) (.inr ⟨a, xs, t, acc, rfl, .inl ha, rfl, upd_same, Paired.imp (fun _ _ z => FxB.tk (Same.tk (Same.new ht)) z) pr⟩)
      · refine ⟨_, ((pss_cons (ps_if (pt_not (pt_val (pe_callB (id := "isinstance") (r := rIsiT K) call_isiT (by rfl) T.free_isinstance (by decide +kernel) (pa_cons (pv 0) (pa_cons (pe_tup (pa_cons (pe_bltn (v := .ty "list") rfl T.free_list (by decide +kernel) rfl) (pa_cons (pe_bltn (v := .ty "tuple") rfl T.free_tuple (by decide +kernel) rfl) pa_nil))) pa_nil))))) (pss_one (ps_ret (pv 0))) pss_nil)
  (pss_one (ps_ret (pe_callTy (T := "tuple") call_tuple_of (by rfl) T.free_tuple (by decide +kernel) (pa_cons (pe_lc (own := [("part", 1)]) (g := gName 1) (tt := tYes) (by rfl) sc_fixed.nd (pi_tup (pv 0)) (blkOk_by (own := [("part", 1)]) (N := N_fixed) (sc := defScope s_fixed) (by decide +kernel)) (fun _ _ _ _ _ => (pg_name (i := 1) sc_fixed.nd rfl (by first | exact Or.inl rfl | exact Or.inr rfl) (by first | exact Or.inl rfl | exact Or.inr rfl))) (fun _ _ _ _ _ => pts_nil) (fun _ _ _ _ _ => (pe_fn G_fixed (hr.mono (Nat.le_refl _)) rfl T.glo_fixed (pa_cons (pv 1) pa_nil)))) pa_nil)))))), ?_⟩
        refine ⟨_, rfl, line_le (by decide), fun p hp => ?_⟩
        have s1 := Same.new (o := .tup [.ty "list", .ty "tuple"]) hp
        refine ⟨.ref a, p, _, .type "tuple", [.type "list", .type "tuple"], true, rfl, upd_same, .cons (.ty _) (.cons (.ty _) .nil), .base (.tup (s1 _ _ (s0 _ _ ha))), kitAny_cons (b := false) (kit_ty (by decide +kernel)) (fun _ => kitAny_cons (b := true) (kit_ty (by decide +kernel)) (fun h => by cases h) (fun _ => rfl)) (fun h => by cases h), true, rfl, iteF ?_⟩
        refine ⟨_, rfl, a, rfl, ⟨_, SqT.of (s1 _ _ (s0 _ _ ha))⟩, fun D hD => ?_⟩
        refine lc_tup (K := K) (a := a) (xs := xs) (fun i H' => Same H H' ∧ ∃ acc, H' D = some (.lst acc) ∧ Paired (fun x y => FxB K n H0 x H' y) (xs.take i) acc) ⟨s1.trans (Same.new hD), _, upd_same, .nil⟩ (fun i H' _ ⟨s2, _⟩ => SqT.of (s2 _ _ (s0 _ _ ha))) ?_ ?_
        · rintro i x H' hi ⟨s2, acc, d2, pr⟩
          have hlen := (Paired.length pr)
          rw [List.length_take] at hlen
          refine ⟨rfl, _, rfl, x, H0, rfl, s0.trans s2, hx i x hi, fun u H3 s3 hu => ⟨acc, s3 _ _ d2, line_lt (by omega), (Same.mut (s2.trans s3) (s1.free hD)), _, upd_same, ?_⟩⟩
          rw [take_get hi]
          have s4 : ∀ x y, FxB K n H0 x H3 y → FxB K n H0 x (upd H3 D (.lst (acc ++ [u]))) y := fun x y z => FxB.tk (Tk.put (s3 _ _ d2) (fun _ z => by cases z)) z
          exact Paired.app (Paired.imp (fun x y z => s4 x y (FxB.tk (Same.tk s3) z)) pr) (.cons (s4 _ _ hu) .nil)
        · rintro H' ⟨s2, acc, d2, pr⟩
          rw [List.take_length] at pr
          refine ⟨D, _, rfl, .inl ⟨SqL.of d2, fun t ht => ?_⟩⟩
          exact k _ _ (s2.trans (Same.new ht)) (.inr ⟨a, xs, t, acc, rfl, .inr ha, rfl, upd_same, Paired.imp (fun _ _ z => FxB.tk (Same.tk (Same.new ht)) z) pr⟩)
/-! ### Paper -/
theorem ok_fixed (T : Txt K mg) : FR P w K mg base 4 (He.ga K "fixed") (spFixed K 3) := fixed_step T (fixed_step T (fixed_step T (fixed0 T)))
theorem FxA.same {H H' : Hp} (s : Same H H') : ∀ {n : Nat} {v : V}, FxA K n H v → FxA K n H' v
  | 0, _, .inl h => .inl h
  | 0, _, .inr ⟨a, dx, fs, h1, h2⟩ => .inr ⟨a, dx, fs, h1, s _ _ h2⟩
  | n + 1, _, .inl (.inl h) => .inl (.inl h)
  | n + 1, _, .inl (.inr ⟨a, dx, fs, h1, h2⟩) => .inl (.inr ⟨a, dx, fs, h1, s _ _ h2⟩)
  | n + 1, _, .inr ⟨a, xs, h1, h2, h3, h4⟩ => .inr ⟨a, xs, h1, h2.imp (s _ _) (s _ _), h3, fun i x hx => FxA.same s (h4 i x hx)⟩
theorem FxB.leaf {H H' : Hp} {v u : V} : ∀ {n : Nat}, Lf K H v → FxB K n H v H' u → u = v
  | 0, _, h => h.2
  | n + 1, _, .inl h => h.2
  | n + 1, .inl ⟨i, e⟩, .inr ⟨a, xs, t, ys, e2, _⟩ => by rw [e] at e2; cases e2
  | n + 1, .inr ⟨b, dx, fs, e, hb⟩, .inr ⟨a, xs, t, ys, e2, ha, _⟩ => by
    rw [e] at e2
    cases e2
    rcases ha with ha | ha
    · rw [hb] at ha
      cases ha
    · rw [hb] at ha
      cases ha
/-- the parts of a paper, made fast -/
def spPaper (K : PySem.W.Frag) (C : Addr) : Sp := fun vs H Q _ => ∃ (x dx : Addr) (z : Str) (ps : List V) (H0 : Hp), vs = .ref x :: .str z :: ps ∧ H x = some (.ins C dx []) ∧ Same H0 H ∧ H0 x = none ∧ ps.length ≤ 10 ∧ (∀ (i : Nat) v, ps[i]? = some v → FxA K 2 H0 v) ∧
  ∀ t ys H0' H', But x H H' → H' x = some (.ins C dx (putF "parts" (.ref t) (putF "word" (.str z) []))) → H' t = some (.tup ys) → Same H0 H0' → Paired (fun v u => FxB K 2 H0' v H' u) ps ys → Q .non H'
theorem ok_Paper_init (T : Txt K mg) {C : Addr} (c : Cls K C) (n1 : NoAttr K C "word") (n2 : NoAttr K C "parts") : FnR P w K mg base CX0 5 (He.ma K (He.ga K "Paper") "__init__") (spPaper K C) := by
  have G_fixed : FR P w K mg base 4 _ (spFixed K 3) := ok_fixed T
  obtain ⟨fd, ⟨oc, od, kV, doc, pm, an, cdv, ct, osl, rfl, lk, hcd⟩, kp⟩ := T.f_Paper_init
  refine FnR.imp (StX.fn_star (pv := "parts") (ps := ["self", "word"]) (k := 4) (sp := fun vs H Q _ => ∃ (x dx p : Addr) (z : Str) (ps : List V) (H0 : Hp), vs = [.ref x, .str z, .ref p] ∧ H x = some (.ins C dx []) ∧ Same H0 H ∧ H0 x = none ∧ H0 p = some (.tup ps) ∧ ps.length ≤ 10 ∧ (∀ (i : Nat) v, ps[i]? = some v → FxA K 2 H0 v) ∧
    ∀ t ys H', But x H H' → H' x = some (.ins C dx (putF "parts" (.ref t) (putF "word" (.str z) []))) → H' t = some (.tup ys) → Paired (fun v u => FxB K 2 H0 v H' u) ps ys → Q .non H') lk hcd sc_Paper_init StX.cxUp_none (fun us rest hl => match us, rest, hl with | [_, _], [], _ => rfl | [_, _], _ :: _, _ => rfl) ?_) ?_
  · rintro A outer s H vs Q E hr ⟨x, dx, p, z, ps, H0, rfl, hx, s0, h0, hp, hz, hf, k⟩
    refine ⟨_, PSs.nox ((pss_cons (ps_fld (pv 0) (pv 1) rfl)
  (pss_one (ps_fld (pv 0) (pe_fn G_fixed (hr.mono (by decide)) rfl T.glo_fixed (pa_cons (pv 2) pa_nil)) rfl)))), ?_⟩
    refine ⟨_, rfl, _, rfl, x, C, dx, _, rfl, hx, c, n1, by decide, ?_⟩
    have b1 := (But.refl x H).put (o := .ins C dx (putF "word" (.str z) []))
    have s1 : Same H0 (upd H x (.ins C dx (putF "word" (.str z) []))) := fun b o e => b1 b o (s0 _ _ e) (ne_of_none e h0)
    refine ⟨_, rfl, .ref p, H0, rfl, s1, .inr ⟨p, ps, rfl, .inr hp, by omega, hf⟩, fun u H2 s2 hu => ?_⟩
    refine ⟨_, rfl, x, C, dx, _, rfl, s2 _ _ upd_same, c, n2, fl1, ?_⟩
    rcases hu with ⟨⟨i, e⟩ | ⟨a, d, fs, e, e2⟩, _⟩ | ⟨a, xs, t, ys, e, ha, rfl, ht, pr⟩
    · cases e
    · cases e
      rw [hp] at e2
      cases e2
    · cases e
      have exs : xs = ps := by
        rcases ha with e | e
        · rw [hp] at e
          cases e
        · rw [hp] at e
          cases e
          rfl
      subst exs
      have tx : t ≠ x := apart ht (s2 _ _ upd_same) (by simp)
      refine k t ys _ ((b1.trans (But.of s2)).put) upd_same (by rw [upd_ne tx]; exact ht) (Paired.imp (fun v u z => FxB.tk (Tk.put (s2 _ _ upd_same) (fun _ z => by cases z)) z) pr)
  · rintro vs H Q E ⟨x, dx, z, ps, H0, rfl, hx, s0, h0, hz, hf, k⟩
    refine ⟨[.ref x, .str z], ps, rfl, rfl, line_le (by omega), fun p hp => ?_⟩
    have p0 : H0 p = none := s0.free hp
    have sp := Same.new (o := .tup ps) p0
    refine ⟨x, dx, p, z, ps, upd H0 p (.tup ps), rfl, ?_, ?_, ?_, upd_same, hz, fun i v hv => FxA.same sp (hf i v hv), ?_⟩
    · rw [upd_ne (ne_of_none hx hp)]
      exact hx
    · intro b o e
      by_cases q : b = p
      · subst q
        rw [upd_same] at e ⊢
        exact e
      · rw [upd_ne q] at e ⊢
        exact s0 _ _ e
    · rw [upd_ne (ne_of_none hx hp)]
      exact h0
    · intro t ys H' b hx' ht pr
      exact k t ys _ H' ((But.of (Same.new hp)).trans b) hx' ht sp pr
end
end K53
namespace K53
open PySem PySem.Spec PyProof.Rows L2 NdefX
section
variable {w : World} {K : PySem.W.Frag} {mg : Str → Option Value} {base : Heap}
abbrev CKept (K : PySem.W.Frag) : Addr := He.ga K "Kept"
abbrev CBound (K : PySem.W.Frag) : Addr := He.ga K "Bound"
abbrev CUnb (K : PySem.W.Frag) : Addr := He.ga K "Unbound"
/-! ### the papers' own __init__ -/
def spKeptI (K : PySem.W.Frag) : Sp := fun vs H Q _ => ∃ (x dx r dr : Addr) (fr : List (Str × V)) (H0 : Hp), vs = [.ref x, .ref r] ∧ H x = some (.ins (CKept K) dx []) ∧ Same H0 H ∧ H0 x = none ∧ H0 r = some (.ins (CRow K) dr fr) ∧
  ∀ fs H', But x H H' → H' x = some (.ins (CKept K) dx fs) → fs.lookup ("row" : Str) = some (.ref r) → Q .non H'
theorem ok_Kept_init (T : Txt K mg) : FnR Pg w K mg base CX0 6 (He.ma K (CKept K) "__init__") (spKeptI K) := by
  refine super_init T.s_Kept_init T.free_super sc_Kept_init rfl rfl rfl rfl (fun _ _ _ _ _ us hl => match us, hl with | [_, _], _ => rfl) (fun _ => rfl) (fun _ => rfl) (fun _ => rfl) (ok_Paper_init T T.cls_Kept T.no_Kept_word T.no_Kept_parts) (fun vs H Q E h => ?_) (fun A outer s H vs Q E hr h => ?_)
  · obtain ⟨x, dx, r, dr, fr, H0, rfl, _⟩ := h
    rfl
  · obtain ⟨x, dx, r, dr, fr, H0, rfl, hx, s0, h0, hr0, k⟩ := h
    refine ⟨x, dx, [], _, _, rfl, hx, (pa_cons pe_str (pa_cons (pv 1) pa_nil)), ((pss_one (ps_fld (pv 0) (pe_ix (r := rIxT K) ix_tup (pe_fld (pv 0) rfl) pe_int (fun _ _ => rfl)) rfl))), ?_⟩
    refine ⟨_, rfl, x, dx, _, [.ref r], H0, rfl, hx, s0, h0, by simp, fun i v hv => ?_, fun t ys H0' H' b hx' ht s1 pr => ?_⟩
    · cases i with
      | zero =>
        cases hv
        exact .inl (.inr ⟨r, dr, fr, rfl, hr0⟩)
      | succ i => cases hv
    · cases pr with
      | cons hu pt =>
        cases pt
        have e := FxB.leaf (n := 2) (.inr ⟨r, dr, fr, rfl, s1 _ _ hr0⟩) hu
        subst e
        refine ⟨_, rfl, x, CKept K, dx, _, .ref t, rfl, hx', T.cls_Kept, T.no_Kept_parts, lk_hit _ _ _, t, _, 0, _, rfl, rfl, SqT.of ht, atI_nat (j := 0) rfl, _, rfl, x, CKept K, dx, _, rfl, hx', T.cls_Kept, T.no_Kept_row, fl2, ?_⟩
        exact k _ _ b.put upd_same (lk_hit _ _ _)
def spBoundI (K : PySem.W.Frag) : Sp := fun vs H Q _ => ∃ (x dx r dr wy : Addr) (n : Int) (fr : List (Str × V)) (H0 : Hp), vs = [.ref x, .int n, .ref wy, .ref r] ∧ H x = some (.ins (CBound K) dx []) ∧ Same H0 H ∧ H0 x = none ∧ H0 r = some (.ins (CRow K) dr fr) ∧ FxA K 2 H0 (.ref wy) ∧
  ∀ fs H', But x H H' → H' x = some (.ins (CBound K) dx fs) → fs.lookup ("number" : Str) = some (.int n) → Q .non H'
theorem ok_Bound_init (T : Txt K mg) : FnR Pg w K mg base CX0 6 (He.ma K (CBound K) "__init__") (spBoundI K) := by
  refine super_init T.s_Bound_init T.free_super sc_Bound_init rfl rfl rfl rfl (fun _ _ _ _ _ us hl => match us, hl with | [_, _, _, _], _ => rfl) (fun _ => rfl) (fun _ => rfl) (fun _ => rfl) (ok_Paper_init T T.cls_Bound T.no_Bound_word T.no_Bound_parts) (fun vs H Q E h => ?_) (fun A outer s H vs Q E hr h => ?_)
  · obtain ⟨x, dx, r, dr, wy, n, fr, H0, rfl, _⟩ := h
    rfl
  · obtain ⟨x, dx, r, dr, wy, n, fr, H0, rfl, hx, s0, h0, hr0, hw, k⟩ := h
    refine ⟨x, dx, [], _, _, rfl, hx, (pa_cons pe_str (pa_cons (pv 1) (pa_cons (pv 2) (pa_cons (pv 3) pa_nil)))), ((pss_one (ps_asg (pe_fld (pv 0) rfl) (pg_tup rfl (pgs_cons (pg_fld (pv 0)) (pgs_cons (pg_fld (pv 0)) (pgs_cons (pg_fld (pv 0)) pgs_nil))))))), ?_⟩
    refine ⟨_, rfl, _, rfl, _, rfl, x, dx, _, [.int n, .ref wy, .ref r], H0, rfl, hx, s0, h0, by simp, fun i v hv => ?_, fun t ys H0' H' b hx' ht s1 pr => ?_⟩
    · match i, hv with
      | 0, hv =>
        cases hv
        exact .inl (.inl ⟨n, rfl⟩)
      | 1, hv =>
        cases hv
        exact hw
      | 2, hv =>
        cases hv
        exact .inl (.inr ⟨r, dr, fr, rfl, hr0⟩)
    · cases pr with
      | cons hu pt =>
        cases pt with
        | cons hu2 pt =>
          cases pt with
          | cons hu3 pt =>
            cases pt
            have e := FxB.leaf (n := 2) (.inl ⟨n, rfl⟩) hu
            subst e
            refine ⟨_, rfl, x, CBound K, dx, _, .ref t, rfl, hx', T.cls_Bound, T.no_Bound_parts, lk_hit _ _ _, t, _, rfl, SqT.of ht, rfl, ?_⟩
            refine ⟨_, _, rfl, _, rfl, x, CBound K, dx, _, rfl, hx', T.cls_Bound, T.no_Bound_number, fl2, ?_⟩
            refine ⟨_, _, rfl, _, rfl, x, CBound K, dx, _, rfl, upd_same, T.cls_Bound, T.no_Bound_way, fl3, ?_⟩
            refine ⟨_, _, rfl, _, rfl, x, CBound K, dx, _, rfl, upd_same, T.cls_Bound, T.no_Bound_row, fl4, ?_⟩
            refine ⟨rfl, k _ _ b.put.put.put upd_same (by rw [lk_miss _ _ (by decide +kernel), lk_miss _ _ (by decide +kernel), lk_hit])⟩
def spUnbI (K : PySem.W.Frag) : Sp := fun vs H Q _ => ∃ (x dx pl : Addr) (ns : List Int) (H0 : Hp), vs = [.ref x, .ref pl] ∧ H x = some (.ins (CUnb K) dx []) ∧ Same H0 H ∧ H0 x = none ∧ H0 pl = some (.lst (iVs ns)) ∧ ns.length ≤ 1000 ∧
  ∀ fs t H', But x H H' → H' x = some (.ins (CUnb K) dx fs) → fs.lookup ("places" : Str) = some (.ref t) → H' t = some (.tup (iVs ns)) → Q .non H'
theorem FxB.ints {H H' : Hp} {n : Nat} : ∀ {ns : List Int} {ys : List V}, Paired (fun x y => FxB K n H x H' y) (iVs ns) ys → ys = iVs ns
  | [], _, .nil => rfl
  | m :: ns, _, .cons h t => by rw [FxB.leaf (.inl ⟨m, rfl⟩) h, FxB.ints t] <;> rfl
theorem ok_Unb_init (T : Txt K mg) : FnR Pg w K mg base CX0 6 (He.ma K (CUnb K) "__init__") (spUnbI K) := by
  refine super_init T.s_Unbound_init T.free_super sc_Unbound_init rfl rfl rfl rfl (fun _ _ _ _ _ us hl => match us, hl with | [_, _], _ => rfl) (fun _ => rfl) (fun _ => rfl) (fun _ => rfl) (ok_Paper_init T T.cls_Unbound T.no_Unbound_word T.no_Unbound_parts) (fun vs H Q E h => ?_) (fun A outer s H vs Q E hr h => ?_)
  · obtain ⟨x, dx, pl, ns, H0, rfl, _⟩ := h
    rfl
  · obtain ⟨x, dx, pl, ns, H0, rfl, hx, s0, h0, hp, hz, k⟩ := h
    refine ⟨x, dx, [], _, _, rfl, hx, (pa_cons pe_str (pa_cons (pv 1) pa_nil)), ((pss_one (ps_fld (pv 0) (pe_ix (r := rIxT K) ix_tup (pe_fld (pv 0) rfl) pe_int (fun _ _ => rfl)) rfl))), ?_⟩
    refine ⟨_, rfl, x, dx, _, [.ref pl], H0, rfl, hx, s0, h0, by simp, fun i v hv => ?_, fun t ys H0' H' b hx' ht s1 pr => ?_⟩
    · cases i with
      | zero =>
        cases hv
        refine .inr ⟨pl, _, rfl, .inl hp, by rw [len_iVs]; exact hz, fun i v hv => ?_⟩
        obtain ⟨m, _, rfl⟩ := int_get hv
        exact .inl (.inl ⟨m, rfl⟩)
      | succ i => cases hv
    · cases pr with
      | cons hu pt =>
        cases pt
        rcases hu with ⟨⟨i, e⟩ | ⟨a, d, fs, e, e2⟩, _⟩ | ⟨a, xs, t2, ys2, e, ha, rfl, ht2, pr2⟩
        · cases e
        · cases e
          rw [s1 _ _ hp] at e2
          cases e2
        · cases e
          have exs : xs = iVs ns := by
            rcases ha with e | e
            · rw [s1 _ _ hp] at e
              cases e
              rfl
            · rw [s1 _ _ hp] at e
              cases e
          subst exs
          have e3 := FxB.ints pr2
          subst e3
          refine ⟨_, rfl, x, CUnb K, dx, _, .ref t, rfl, hx', T.cls_Unbound, T.no_Unbound_parts, lk_hit _ _ _, t, _, 0, _, rfl, rfl, SqT.of ht, atI_nat (j := 0) rfl, _, rfl, x, CUnb K, dx, _, rfl, hx', T.cls_Unbound, T.no_Unbound_places, fl2, ?_⟩
          have tx : t2 ≠ x := apart ht2 hx' (by simp)
          exact k _ _ _ b.put upd_same (lk_hit _ _ _) (by rw [upd_ne tx]; exact ht2)
/-! ### made papers -/
theorem mk_kept {H : Hp} {r : Addr} {hs : List Int} {Q : VK} (h : RwAt K H r hs) (k : ∀ a dx fs H', Same H H' → H' a = some (.ins (CKept K) dx fs) → fs.lookup ("row" : Str) = some (.ref r) → Q (.ref a) H') :
    ∀ a d, H a = Option.none → H d = Option.none → d ≠ a → spKeptI K [V.ref a, .ref r] (upd (upd H d (.own a)) a (.ins (CKept K) d [])) (fun v H2 => v = .non ∧ Q (.ref a) H2) E0 := fun a d ha hd _ =>
  let ⟨dr, fr, _, h1, _, _⟩ := h
  ⟨a, d, r, dr, fr, H, rfl, upd_same, Same.inst ha hd, ha, h1, fun fs H' b e l => ⟨rfl, k a d fs H' (But.same ha hd b) e l⟩⟩
theorem mk_bound {H : Hp} {r wy : Addr} {n : Int} {hs : List Int} {Q : VK} (h : RwAt K H r hs) (hw : FxA K 2 H (.ref wy)) (k : ∀ a dx fs H', Same H H' → H' a = some (.ins (CBound K) dx fs) → fs.lookup ("number" : Str) = some (.int n) → Q (.ref a) H') :
    ∀ a d, H a = Option.none → H d = Option.none → d ≠ a → spBoundI K [V.ref a, .int n, .ref wy, .ref r] (upd (upd H d (.own a)) a (.ins (CBound K) d [])) (fun v H2 => v = .non ∧ Q (.ref a) H2) E0 := fun a d ha hd _ =>
  let ⟨dr, fr, _, h1, _, _⟩ := h
  ⟨a, d, r, dr, wy, n, fr, H, rfl, upd_same, Same.inst ha hd, ha, h1, hw, fun fs H' b e l => ⟨rfl, k a d fs H' (But.same ha hd b) e l⟩⟩
theorem mk_unb {H : Hp} {pl : Addr} {ns : List Int} {Q : VK} (h : H pl = some (.lst (iVs ns))) (hz : ns.length ≤ 1000) (k : ∀ a dx fs t H', Same H H' → H' a = some (.ins (CUnb K) dx fs) → fs.lookup ("places" : Str) = some (.ref t) → H' t = some (.tup (iVs ns)) → Q (.ref a) H') :
    ∀ a d, H a = Option.none → H d = Option.none → d ≠ a → spUnbI K [V.ref a, .ref pl] (upd (upd H d (.own a)) a (.ins (CUnb K) d [])) (fun v H2 => v = .non ∧ Q (.ref a) H2) E0 := fun a d ha hd _ =>
  ⟨a, d, pl, ns, H, rfl, upd_same, Same.inst ha hd, ha, h, hz, fun fs t H' b e l e2 => ⟨rfl, k a d fs t H' (But.same ha hd b) e l e2⟩⟩
/-! ### Kept's truth -/
def spTruth : Sp := fun vs H Q _ => ∃ a, vs = [.ref a] ∧ Q (.bl true) H
theorem ok_Paper_bool (T : Txt K mg) : FR Pg w K mg base 1 (He.ma K (CKept K) "__bool__") spTruth := by
  obtain ⟨fd, F⟩ := T.f_Paper_bool
  refine FR.of F sc_Paper_bool (fun _ _ _ _ _ _ us hl => match us, hl with | [_], _ => rfl) (fun vs H Q E h => ?_) (fun cdv A outer s H vs Q E hr h => ?_)
  · obtain ⟨a, rfl, _⟩ := h
    rfl
  · obtain ⟨a, rfl, k⟩ := h
    exact ⟨_, ((pss_one (ps_ret pe_bl))), k⟩
end
end K53
namespace K53
open PySem PySem.Spec PyProof.Rows L2
section
variable {P : Program} {w : World} {K : PySem.W.Frag} {mg : Str → Option Value} {base : Heap}
/-! ### bounds -/
def OkB : Option Int → Option Int → Prop
  | none, none => False
  | some a, some b => a ≤ b
  | _, _ => True
def spNeedB : Sp := fun vs H Q _ => ∃ o z, vs = [optV o, .str z] ∧ Q .non H
theorem ok_need_bound (T : Txt K mg) : FR P w K mg base 2 (He.ga K "need_bound") spNeedB := by
  have G_is_integer : FR P w K mg base 1 _ spIsInt := ok_is_integer T
  obtain ⟨fd, F⟩ := T.f_need_bound
  refine FR.of F sc_need_bound (fun _ _ _ _ _ _ us hl => match us, hl with | [_, _], _ => rfl) (fun vs H Q E h => ?_) (fun cdv A outer s H vs Q E hr h => ?_)
  · obtain ⟨o, z, rfl, _⟩ := h
    rfl
  · obtain ⟨o, z, rfl, k⟩ := h
    refine ⟨_, ((pss_one (ps_if (PW.pt (pw_and (pt_cmpR op_notN (pv 0) pe_non (nomark _)) (pw_and1 (pt_not (pt_val (pe_fn G_is_integer (hr.mono (by decide)) rfl T.glo_is_integer (pa_cons (pv 0) pa_nil))))))) (pss_one ps_never) pss_nil))), ?_⟩
    cases o with
    | none => exact ⟨_, rfl, rfl, false, rfl, iteF (iteF k)⟩
    | some i => exact ⟨_, rfl, rfl, true, rfl, iteT ⟨_, rfl, i, rfl, true, rfl, iteF k⟩⟩
def spAreB : Sp := fun vs H Q _ => ∃ lo hi, vs = [optV lo, optV hi] ∧ OkB lo hi ∧ Q (.bl true) H
theorem ok_are_bounds (T : Txt K mg) : FR P w K mg base 1 (He.ga K "are_bounds") spAreB := by
  obtain ⟨fd, F⟩ := T.f_are_bounds
  refine FR.of F sc_are_bounds (fun _ _ _ _ _ _ us hl => match us, hl with | [_, _], _ => rfl) (fun vs H Q E h => ?_) (fun cdv A outer s H vs Q E hr h => ?_)
  · obtain ⟨lo, hi, rfl, _⟩ := h
    rfl
  · obtain ⟨lo, hi, rfl, ok, k⟩ := h
    refine ⟨_, ((pss_cons (ps_if (PW.pt (pw_or (pt_cmpR op_isN (pv 0) pe_non (nomark _)) (pw_or1 (pt_cmpR op_isN (pv 1) pe_non (nomark _))))) (pss_one (ps_ret (pe_or (pe_cmpR op_notN (pv 0) pe_non (nomark _)) (pe_one (pe_cmpR op_notN (pv 1) pe_non (nomark _)))))) pss_nil)
  (pss_one (ps_ret (pe_cmpR op_le (pv 0) (pv 1) (nomark _)))))), ?_⟩
    cases lo with
    | none =>
      cases hi with
      | none => exact ok.elim
      | some j => exact ⟨_, rfl, rfl, true, rfl, iteT (iteT ⟨_, rfl, rfl, false, rfl, iteF ⟨_, rfl, rfl, k⟩⟩)⟩
    | some i =>
      cases hi with
      | none => exact ⟨_, rfl, rfl, false, rfl, iteF ⟨_, rfl, rfl, true, rfl, iteT ⟨_, rfl, rfl, true, rfl, iteT k⟩⟩⟩
      | some j =>
        refine ⟨_, rfl, rfl, false, rfl, iteF ⟨_, rfl, rfl, false, rfl, iteF ⟨_, rfl, _, rfl, i, j, rfl, rfl, ?_⟩⟩⟩
        show Q (V.bl (decide (i ≤ j))) H
        rw [decide_eq_true (show i ≤ j from ok)]
        exact k
/-! ### Rule -/
theorem FR.ofD {x qual : Str} {st : Stmt} {dvs : List V} {f : Addr} {fd : FuncData} {N ps : List Str} {k : Nat} {sp : Sp} (F : FunD K x qual (defArgs st) (defBody st) (defScope st) dvs [] f fd) (S : FnScope N ps (defScope st)) (hd : dvs ≠ [])
    (hb : ∀ (T : Addr) (kV doc pm : Value) (an : Option Addr) (cdv ct : Value) (us its : List Value), us.length = ps.length → its.length = dvs.length →
      ∃ k, bindArgs (PySem.W.fnOf x qual (defArgs st) (defBody st) (defScope st) (.ref T) kV doc pm an cdv ct) ⟨us, []⟩ = seqItems? (.ref T) >>= k ∧ k (some its.toArray) = pure (ps.zip (us ++ its.drop dvs.length)))
    (len : ∀ vs H Q E, sp vs H Q E → vs.length = ps.length)
    (body : ∀ (cdv : Value) (A : Around) (outer : List Env) (s : Shared) (H : Hp) (vs : List V) (Q : VK) (E : XK), Room k (A.deeper (envOfC qual (defScope st) s.heap.objs.size f cdv)) → sp vs H Q E →
      ∃ t, PSs (cxOf CX0 P w K mg base N qual (defScope st) f cdv A outer s H E).nox (defBody st) t ∧ t { nx := fun _ H' => Q .non H', rt := Q } (start N vs) H) : FR P w K mg base (k + 1) f sp := by
  obtain ⟨ds, hv, hbi⟩ := F.binds1 ps.length dvs.length hd (by omega) hb
  rw [List.drop_length] at hv
  cases hv
  refine ⟨⟨fd, ps, F.ok S len fun cdv A outer s H vs Q E hr h => ?_, hbi⟩, F.kp⟩
  obtain ⟨t, h1, h2⟩ := body cdv A outer s H vs Q E hr h
  exact ⟨t, h1.nox, h2⟩
def spRuleI (K : PySem.W.Frag) : Sp := fun vs H Q _ => ∃ (x dx : Addr) (n : Nat) (lo hi : Option Int), vs = [.ref x, .int (n : Int), optV lo, optV hi] ∧ H x = some (.ins (CRule K) dx []) ∧ 1 ≤ n ∧ n ≤ 48 ∧ OkB lo hi ∧ ∀ H', But x H H' → RuAt K H' (.ref x) ⟨n, lo, hi⟩ → Q .non H'
theorem ok_Rule_init (T : Txt K mg) : FR P w K mg base 4 (He.ma K (CRule K) "__init__") (spRuleI K) := by
  obtain ⟨t, hMOST_LENGTH⟩ := T.int_MOST_LENGTH
  have G_need_number : FR P w K mg base 3 _ spNeed := ok_need_number T
  have G_need_bound : FR P w K mg base 2 _ spNeedB := ok_need_bound T
  have G_are_bounds : FR P w K mg base 1 _ spAreB := ok_are_bounds T
  obtain ⟨fd, F⟩ := T.f_Rule_init
  refine FR.ofD F sc_Rule_init (List.cons_ne_nil _ _) (fun T kV doc pm an cdv ct us its hu hi => match us, its, hu, hi with | [_, _, _, _], [_, _], _, _ => ⟨_, rfl, rfl⟩) (fun vs H Q E h => ?_) (fun cdv A outer s H vs Q E hr h => ?_)
  · obtain ⟨x, dx, n, lo, hi, rfl, _⟩ := h
    rfl
  · obtain ⟨x, dx, n, lo, hi, rfl, hx, h1, h48, ok, k⟩ := h
    refine ⟨_, ((pss_cons (ps_expr (pe_fn G_need_number (hr.mono (by decide)) rfl T.glo_need_number (pa_cons (pv 1) (pa_cons pe_str (pa_cons pe_int (pa_cons (pe_glob (v := .int 48) rfl hMOST_LENGTH ⟨_, rfl⟩) pa_nil))))))
  (pss_cons (ps_expr (pe_fn G_need_bound (hr.mono (by decide)) rfl T.glo_need_bound (pa_cons (pv 2) (pa_cons pe_str pa_nil))))
  (pss_cons (ps_expr (pe_fn G_need_bound (hr.mono (by decide)) rfl T.glo_need_bound (pa_cons (pv 3) (pa_cons pe_str pa_nil))))
  (pss_cons (ps_if (pt_not (pt_val (pe_fn G_are_bounds (hr.mono (by decide)) rfl T.glo_are_bounds (pa_cons (pv 2) (pa_cons (pv 3) pa_nil))))) (pss_one ps_never) pss_nil)
  (pss_cons (ps_fld (pv 0) (pv 1) rfl)
  (pss_cons (ps_fld (pv 0) (pv 2) rfl)
  (pss_one (ps_fld (pv 0) (pv 3) rfl))))))))), ?_⟩
    refine ⟨_, rfl, n, 1, 48, _, rfl, by omega, by omega, ?_⟩
    refine ⟨_, rfl, lo, _, rfl, ?_⟩
    refine ⟨_, rfl, hi, _, rfl, ?_⟩
    refine ⟨_, rfl, _, rfl, lo, hi, rfl, ok, true, rfl, iteF ?_⟩
    refine ⟨_, rfl, _, rfl, x, CRule K, dx, _, rfl, hx, T.cls_Rule, T.no_Rule_length, by decide, ?_⟩
    refine ⟨_, rfl, _, rfl, x, CRule K, dx, _, rfl, upd_same, T.cls_Rule, T.no_Rule_low, fl1, ?_⟩
    refine ⟨_, rfl, _, rfl, x, CRule K, dx, _, rfl, upd_same, T.cls_Rule, T.no_Rule_high, fl2, ?_⟩
    exact k _ (But.refl x H).put.put.put ⟨x, dx, _, rfl, upd_same, by rw [lk_miss _ _ (by decide +kernel), lk_miss _ _ (by decide +kernel), lk_hit], by rw [lk_miss _ _ (by decide +kernel), lk_hit], lk_hit _ _ _, h48⟩
theorem mk_rule {H : Hp} {n : Nat} {lo hi : Option Int} {Q : VK} (h1 : 1 ≤ n) (h48 : n ≤ 48) (ok : OkB lo hi) (k : ∀ a H', Same H H' → RuAt K H' (.ref a) ⟨n, lo, hi⟩ → Q (.ref a) H') :
    ∀ a d, H a = Option.none → H d = Option.none → d ≠ a → spRuleI K [V.ref a, .int (n : Int), optV lo, optV hi] (upd (upd H d (.own a)) a (.ins (CRule K) d [])) (fun v H2 => v = .non ∧ Q (.ref a) H2) E0 := fun a d ha hd _ =>
  ⟨a, d, n, lo, hi, rfl, upd_same, h1, h48, ok, fun H' b r => ⟨rfl, k a H' (But.same ha hd b) r⟩⟩
/-! ### are_rules, Book -/
def spAreR (K : PySem.W.Frag) : Sp := fun vs H Q _ => ∃ (a : Addr) (xs : List V) (rs : List Ru), vs = [.ref a] ∧ H a = some (.lst xs) ∧ Paired (RuAt K H) xs rs ∧ xs.length ≤ 1000 ∧ ∀ H', Same H H' → Q (.bl true) H'
theorem ok_are_rules (T : Txt K mg) : FR P w K mg base 1 (He.ga K "are_rules") (spAreR K) := by
  obtain ⟨fd, F⟩ := T.f_are_rules
  refine FR.of F sc_are_rules (fun _ _ _ _ _ _ us hl => match us, hl with | [_], _ => rfl) (fun vs H Q E h => ?_) (fun cdv A outer s H vs Q E hr h => ?_)
  · obtain ⟨a, xs, rs, rfl, _⟩ := h
    rfl
  · obtain ⟨a, xs, rs, rfl, ha, pr, hz, k⟩ := h
    refine ⟨_, ((pss_one (ps_ret (pe_and (pe_callB (id := "isinstance") (r := rIsiT K) call_isiT (by rfl) T.free_isinstance (by decide +kernel) (pa_cons (pv 0) (pa_cons (pe_tup (pa_cons (pe_bltn (v := .ty "list") rfl T.free_list (by decide +kernel) rfl) (pa_cons (pe_bltn (v := .ty "tuple") rfl T.free_tuple (by decide +kernel) rfl) pa_nil))) pa_nil))) (pe_one (pe_callB (id := "all") (cr_all rfl) (by rfl) T.free_all (by decide +kernel) (pa_cons (pe_lc (own := [("rule", 1)]) (g := gName 1) (tt := tYes) (by rfl) sc_are_rules.nd (pi_list (pv 0)) (blkOk_by (own := [("rule", 1)]) (N := N_are_rules) (sc := defScope s_are_rules) (by decide +kernel)) (fun _ _ _ _ _ => (pg_name (i := 1) sc_are_rules.nd rfl (by first | exact Or.inl rfl | exact Or.inr rfl) (by first | exact Or.inl rfl | exact Or.inr rfl))) (fun _ _ _ _ _ => pts_nil) (fun _ _ _ _ _ => (pe_callB (id := "isinstance") (r := rIsi K) call_isi (by rfl) T.free_isinstance (by decide +kernel) (pa_cons (pv 1) (pa_cons (pe_glob (v := .ref _) rfl T.glo_Rule rfl) pa_nil))))) pa_nil))))))), ?_⟩
    refine ⟨_, rfl, line_le (by decide), fun p hp => ?_⟩
    have s1 := Same.new (o := .tup [.ty "list", .ty "tuple"]) hp
    refine ⟨.ref a, p, _, .type "list", [.type "list", .type "tuple"], true, rfl, upd_same, .cons (.ty _) (.cons (.ty _) .nil), .base (.lst (s1 _ _ ha)), kitAny_cons (b := true) (kit_ty (by decide +kernel)) (fun h => by cases h) (fun _ => rfl), true, rfl, ?_⟩
    refine iteT ⟨_, rfl, a, rfl, ⟨_, SqL.of (s1 _ _ ha)⟩, fun D hD => ?_⟩
    refine lc_list (K := K) (a := a) (xs := xs) (fun i H' => Same H H' ∧ H' D = some (.lst (List.replicate i (.bl true)))) ⟨(s1.trans (Same.new hD)), upd_same⟩ (fun i H' _ ⟨s2, _⟩ => SqL.of (s2 _ _ ha)) ?_ ?_
    · rintro i x H' hi ⟨s2, d2⟩
      have hil : i < xs.length := (List.getElem?_eq_some_iff.mp hi).1
      obtain ⟨r, _, b, dx, fs, rfl, hb, _⟩ := Paired.getL pr hi
      refine ⟨rfl, ⟨_, rfl, .ref b, .ref (CRule K), .ref (CRule K), .ref (CRule K), true, rfl, .own _, tyB_ok T.ty_Rule T.cls_Rule (s2 _ _ hb), of_decide_eq_true T.is_Rule_Rule, _, d2, line_lt (by rw [List.length_replicate]; omega), Same.mut s2 (s1.free hD), ?_⟩⟩
      rw [upd_same, List.replicate_succ']
    · rintro H' ⟨s2, d2⟩
      refine ⟨D, List.replicate xs.length true, rfl, SqL.of (by rw [List.map_replicate]; exact d2), ?_⟩
      rw [show (List.replicate xs.length true).all id = true by rw [List.all_replicate]; split <;> simp]
      exact k _ s2
def spBookI (K : PySem.W.Frag) : Sp := fun vs H Q _ => ∃ (x dx a : Addr) (n : Nat) (xs : List V) (rs : List Ru) (H0 : Hp), vs = [.ref x, .int (n : Int), .ref a] ∧ H x = some (.ins (CBook K) dx []) ∧ Same H0 H ∧ H0 x = none ∧ 1 ≤ n ∧ n ≤ 48 ∧ H0 a = some (.lst xs) ∧ Paired (RuAt K H0) xs rs ∧ rs.length ≤ 8 ∧
  ∀ H', But x H H' → BkAt K H' x n rs → Q .non H'
theorem rules_same {H H' : Hp} {xs : List V} {rs : List Ru} (s : Same H H') (p : Paired (RuAt K H) xs rs) : Paired (RuAt K H') xs rs := Paired.imp (fun _ _ z => RuAt.same s z) p
theorem ok_Book_init (T : Txt K mg) : FR P w K mg base 4 (He.ma K (CBook K) "__init__") (spBookI K) := by
  obtain ⟨t, hMOST_DAYS_books⟩ := T.int_MOST_DAYS_books
  obtain ⟨t8, hMOST_RULES⟩ := T.int_MOST_RULES
  have G_need_number : FR P w K mg base 3 _ spNeed := ok_need_number T
  have G_are_rules : FR P w K mg base 1 _ (spAreR K) := ok_are_rules T
  obtain ⟨fd, F⟩ := T.f_Book_init
  refine FR.of F sc_Book_init (fun _ _ _ _ _ _ us hl => match us, hl with | [_, _, _], _ => rfl) (fun vs H Q E h => ?_) (fun cdv A outer s H vs Q E hr h => ?_)
  · obtain ⟨x, dx, a, n, xs, rs, H0, rfl, _⟩ := h
    rfl
  · obtain ⟨x, dx, a, n, xs, rs, H0, rfl, hx, s0, h0, h1, h48, ha, pr, hz, k⟩ := h
    have hl : xs.length = rs.length := Paired.length pr
    refine ⟨_, ((pss_cons (ps_expr (pe_fn G_need_number (hr.mono (by decide)) rfl T.glo_need_number (pa_cons (pv 1) (pa_cons pe_str (pa_cons pe_int (pa_cons (pe_glob (v := .int 48) rfl hMOST_DAYS_books ⟨_, rfl⟩) pa_nil))))))
  (pss_cons (ps_if (pt_not (pt_val (pe_fn G_are_rules (hr.mono (by decide)) rfl T.glo_are_rules (pa_cons (pv 2) pa_nil)))) (pss_one ps_never) pss_nil)
  (pss_cons (ps_if (pt_cmpR op_gt (pe_callB (id := "len") (r := lenR K) call_len_seq (by rfl) T.free_len (by decide +kernel) (pa_cons (pv 2) pa_nil)) (pe_glob (v := .int 8) rfl hMOST_RULES ⟨_, rfl⟩) (nomark _)) (pss_one ps_never) pss_nil)
  (pss_cons (ps_fld (pv 0) (pv 1) rfl)
  (pss_one (ps_fld (pv 0) (pe_callTy (T := "tuple") call_tuple_of (by rfl) T.free_tuple (by decide +kernel) (pa_cons (pv 2) pa_nil)) rfl))))))), ?_⟩
    refine ⟨_, rfl, n, 1, 48, _, rfl, by omega, by omega, ?_⟩
    refine ⟨_, rfl, a, xs, rs, rfl, s0 _ _ ha, rules_same s0 pr, by omega, fun H1 s1 => ⟨true, rfl, iteF ?_⟩⟩
    have s01 := s0.trans s1
    refine ⟨_, rfl, a, _, rfl, .inl (SqL.of (s01 _ _ ha)), _, _, rfl, rfl, _, rfl, iteF' (by simp; omega) ?_⟩
    refine ⟨_, rfl, _, rfl, x, CBook K, dx, _, rfl, s1 _ _ hx, T.cls_Book, T.no_Book_days, by decide, ?_⟩
    have b1 := (But.of (x := x) s1).put (o := .ins (CBook K) dx (putF "days" (.int (n : Int)) []))
    refine ⟨_, rfl, a, _, rfl, .inl ⟨SqL.of (b1 _ _ (s0 _ _ ha) (ne_of_none ha h0)), fun t ht => ?_⟩⟩
    have tx : t ≠ x := fun e => by rw [e, upd_same] at ht; cases ht
    refine ⟨_, rfl, x, CBook K, dx, _, rfl, by rw [upd_ne (Ne.symm tx)]; exact upd_same, T.cls_Book, T.no_Book_rules, fl1, ?_⟩
    have b2 := (b1.new (o := .tup xs) ht).put (o := .ins (CBook K) dx (putF "rules" (.ref t) (putF "days" (.int (n : Int)) [])))
    refine k _ b2 ⟨dx, _, t, upd_same, by rw [lk_miss _ _ (by decide +kernel), lk_hit], lk_hit _ _ _, xs, by rw [upd_ne tx]; exact upd_same, rules_same (fun b o e => b2 _ _ (s0 _ _ e) (ne_of_none e h0)) pr⟩
theorem mk_book {H : Hp} {a : Addr} {n : Nat} {xs : List V} {rs : List Ru} {Q : VK} (h1 : 1 ≤ n) (h48 : n ≤ 48) (ha : H a = some (.lst xs)) (pr : Paired (RuAt K H) xs rs) (hz : rs.length ≤ 8) (k : ∀ b H', Same H H' → BkAt K H' b n rs → Q (.ref b) H') :
    ∀ x d, H x = Option.none → H d = Option.none → d ≠ x → spBookI K [V.ref x, .int (n : Int), .ref a] (upd (upd H d (.own x)) x (.ins (CBook K) d [])) (fun v H2 => v = .non ∧ Q (.ref x) H2) E0 := fun x d hx hd _ =>
  ⟨x, d, a, n, xs, rs, H, rfl, upd_same, Same.inst hx hd, hx, h1, h48, ha, pr, hz, fun H' b r => ⟨rfl, k x H' (But.same hx hd b) r⟩⟩
/-! ### need_book, need_stretch -/
def spNeedBook (K : PySem.W.Frag) : Sp := fun vs H Q _ => ∃ (b : Addr) (z : Str) (n : Nat) (rs : List Ru), vs = [.ref b, .str z] ∧ BkAt K H b n rs ∧ Q .non H
theorem ok_need_book (T : Txt K mg) : FR P w K mg base 1 (He.ga K "need_book") (spNeedBook K) := by
  obtain ⟨fd, F⟩ := T.f_need_book
  refine FR.of F sc_need_book (fun _ _ _ _ _ _ us hl => match us, hl with | [_, _], _ => rfl) (fun vs H Q E h => ?_) (fun cdv A outer s H vs Q E hr h => ?_)
  · obtain ⟨b, z, n, rs, rfl, _⟩ := h
    rfl
  · obtain ⟨b, z, n, rs, rfl, ⟨dx, fs, t, hb, _⟩, k⟩ := h
    refine ⟨_, ((pss_one (ps_if (pt_not (pt_val (pe_callB (id := "isinstance") (r := rIsi K) call_isi (by rfl) T.free_isinstance (by decide +kernel) (pa_cons (pv 0) (pa_cons (pe_glob (v := .ref _) rfl T.glo_Book rfl) pa_nil))))) (pss_one ps_never) pss_nil))), ?_⟩
    exact ⟨_, rfl, .ref b, .ref (CBook K), .ref (CBook K), .ref (CBook K), true, rfl, .own _, tyB_ok T.ty_Book T.cls_Book hb, of_decide_eq_true T.is_Book_Book, true, rfl, iteF k⟩
def spStretch (K : PySem.W.Frag) : Sp := fun vs H Q _ => ∃ (b : Addr) (i l : Int) (n : Nat) (rs : List Ru), vs = [.ref b, .int i, .int l] ∧ BkAt K H b n rs ∧ 0 ≤ i ∧ 1 ≤ l ∧ i + l ≤ n ∧ Q .non H
theorem ok_need_stretch (T : Txt K mg) : FR P w K mg base 4 (He.ga K "need_stretch_bounds") (spStretch K) := by
  have G_need_book : FR P w K mg base 1 _ (spNeedBook K) := ok_need_book T
  have G_need_number : FR P w K mg base 3 _ spNeed := ok_need_number T
  obtain ⟨fd, F⟩ := T.f_need_stretch
  refine FR.of F sc_need_stretch (fun _ _ _ _ _ _ us hl => match us, hl with | [_, _, _], _ => rfl) (fun vs H Q E h => ?_) (fun cdv A outer s H vs Q E hr h => ?_)
  · obtain ⟨b, i, l, n, rs, rfl, _⟩ := h
    rfl
  · obtain ⟨b, i, l, n, rs, rfl, hb, h0, h1, hn, k⟩ := h
    have hb' := hb
    obtain ⟨dx, fs, t, e1, e2, _⟩ := hb'
    refine ⟨_, ((pss_cons (ps_expr (pe_fn G_need_book (hr.mono (by decide)) rfl T.glo_need_book (pa_cons (pv 0) (pa_cons pe_str pa_nil))))
  (pss_cons (ps_expr (pe_fn G_need_number (hr.mono (by decide)) rfl T.glo_need_number (pa_cons (pv 1) (pa_cons pe_str (pa_cons pe_int (pa_cons (pe_op op_sub (pe_fld (pv 0) rfl) pe_int) pa_nil))))))
  (pss_one (ps_expr (pe_fn G_need_number (hr.mono (by decide)) rfl T.glo_need_number (pa_cons (pv 2) (pa_cons pe_str (pa_cons pe_int (pa_cons (pe_op op_sub (pe_fld (pv 0) rfl) (pv 1)) pa_nil)))))))))), ?_⟩
    refine ⟨_, rfl, b, _, n, rs, rfl, hb, ?_⟩
    refine ⟨_, rfl, _, rfl, b, CBook K, dx, fs, _, rfl, e1, T.cls_Book, T.no_Book_days, e2, _, _, rfl, rfl, i, 0, _, _, rfl, h0, by omega, ?_⟩
    exact ⟨_, rfl, _, rfl, b, CBook K, dx, fs, _, rfl, e1, T.cls_Book, T.no_Book_days, e2, _, rfl, _, _, rfl, rfl, l, 1, _, _, rfl, h1, by omega, k⟩
end
end K53
namespace K53
open PySem PySem.Spec PyProof.Rows L2
/-! ### how many moves -/
theorem mvAt_len (k : Nat) (r : Ru) (p : Nat) : (mvAt k r p).length ≤ 2 := by
  unfold mvAt
  cases r.high <;> cases r.low <;> simp
theorem flat_len (k : Nat) (r : Ru) : ∀ q, ((List.range q).flatMap (mvAt k r)).length ≤ 2 * q
  | 0 => by simp
  | q + 1 => by
    rw [List.range_succ, List.flatMap_append, List.length_append]
    have h1 := flat_len k r q
    have h2 := mvAt_len k r q
    simp only [List.flatMap_cons, List.flatMap_nil, List.append_nil]
    omega
theorem flat_succ (k : Nat) (r : Ru) (q : Nat) : (List.range (q + 1)).flatMap (mvAt k r) = (List.range q).flatMap (mvAt k r) ++ mvAt k r q := by
  rw [List.range_succ, List.flatMap_append]
  simp
theorem mvAll_len (n : Nat) : ∀ (rs : List Ru) (k : Nat), (mvAll n k rs).length ≤ rs.length * (2 * (n + 1))
  | [], _ => by simp [mvAll]
  | r :: rs, k => by
    show (mvRule n k r ++ mvAll n (k + 1) rs).length ≤ _
    rw [List.length_append, List.length_cons, Nat.add_mul]
    have h1 := mvAll_len n rs (k + 1)
    have h2 : (mvRule n k r).length ≤ 2 * (n + 1 - r.len) := flat_len k r _
    have h3 : 2 * (n + 1 - r.len) ≤ 2 * (n + 1) := by omega
    omega
theorem mvAll_app (n : Nat) (r : Ru) : ∀ (rs : List Ru) (k : Nat), mvAll n k (rs ++ [r]) = mvAll n k rs ++ mvRule n (k + rs.length) r
  | [], k => by simp [mvAll]
  | s :: rs, k => by
    show mvRule n k s ++ mvAll n (k + 1) (rs ++ [r]) = mvRule n k s ++ mvAll n (k + 1) rs ++ _
    rw [mvAll_app n r rs (k + 1), List.append_assoc, show k + 1 + rs.length = k + (s :: rs).length by simp; omega]
theorem Paired.get' {α β : Type} {F : α → β → Prop} {l : List α} {r : List β} (p : Paired F l r) {i : Nat} {a : α} (h : l[i]? = some a) : ∃ b, r[i]? = some b ∧ F a b := Paired.getL p h
section
variable {P : Program} {w : World} {K : PySem.W.Frag} {mg : Str → Option Value} {base : Heap}
/-! ### moves_of -/
def spMoves (K : PySem.W.Frag) : Sp := fun vs H Q _ => ∃ (n : Nat) (t : Addr) (rs : List Ru), vs = [.int (n : Int), .ref t] ∧ RusAt K H t rs ∧ n ≤ 48 ∧ rs.length ≤ 8 ∧ ∀ a ys H', Same H H' → H' a = some (.lst ys) → MvsAt H' ys (mvAll n 0 rs) → Q (.ref a) H'
/-- a new move laid behind the others -/
theorem add_move {H H1 : Hp} {D q p : Addr} {ys : List V} {ms : List Mv} {m : Mv} (hD : H D = none) (s : Same H H1) (d : H1 D = some (.lst ys)) (pr : MvsAt H1 ys ms) (hq : H1 q = none) (hp : upd H1 q (.tup [.int (m.a : Int), .int (m.num : Int), .int m.sg]) p = none) :
    let H2 := upd (upd H1 q (.tup [.int (m.a : Int), .int (m.num : Int), .int m.sg])) p (.tup [.int (m.a : Int), .int (m.b : Int), .int m.c, .ref q])
    H2 D = some (.lst ys) ∧ Same H (upd H2 D (.lst (ys ++ [.ref p]))) ∧ MvsAt (upd H2 D (.lst (ys ++ [.ref p]))) (ys ++ [.ref p]) (ms ++ [m]) ∧ ∀ b o, H1 b = some o → b ≠ D → upd H2 D (.lst (ys ++ [.ref p])) b = some o := by
  intro H2
  have s1 := Same.new (o := .tup [.int (m.a : Int), .int (m.num : Int), .int m.sg]) hq
  have s2 := Same.new (o := .tup [.int (m.a : Int), .int (m.b : Int), .int m.c, .ref q]) hp
  have s12 : Same H1 H2 := s1.trans s2
  have d2 : H2 D = some (.lst ys) := s12 _ _ d
  have tk : Tk H2 (upd H2 D (.lst (ys ++ [.ref p]))) := Tk.put d2 fun _ z => by cases z
  exact ⟨d2, Same.mut (s.trans s12) hD, Paired.app (MvsAt.tk (Tk.trans (Same.tk s12) tk) pr) (.cons ⟨p, q, rfl, tk _ _ upd_same, tk _ _ (s2 _ _ upd_same)⟩ .nil), fun b o e n => by rw [upd_ne n]; exact s12 _ _ e⟩
theorem ok_moves_of (T : Txt K mg) : FR P w K mg base 1 (He.ga K "moves_of") (spMoves K) := by
  obtain ⟨fd, F⟩ := T.f_moves_of
  refine FR.of F sc_moves_of (fun _ _ _ _ _ _ us hl => match us, hl with | [_, _], _ => rfl) (fun vs H Q E h => ?_) (fun cdv A outer s H vs Q E hr h => ?_)
  · obtain ⟨n, t, rs, rfl, _⟩ := h
    rfl
  · obtain ⟨n, t, rs, rfl, ⟨xs, hx, pr⟩, hn, h8, k⟩ := h
    have hl : xs.length = rs.length := Paired.length pr
    refine ⟨_, ((pss_cons (ps_set (i := 2) sc_moves_of.nd rfl (by first | exact Or.inl rfl | exact Or.inr rfl) (pe_lst pa_nil))
  (pss_cons (ps_for PassesOwn.never rfl (pi_enumT rfl T.free_enumerate (pa_cons (pv 1) pa_nil)) (pg_tup rfl (pgs_cons (pg_name (i := 3) sc_moves_of.nd rfl (by first | exact Or.inl rfl | exact Or.inr rfl) (by first | exact Or.inl rfl | exact Or.inr rfl)) (pgs_cons (pg_name (i := 4) sc_moves_of.nd rfl (by first | exact Or.inl rfl | exact Or.inr rfl) (by first | exact Or.inl rfl | exact Or.inr rfl)) pgs_nil)))
    (pss_one (ps_for PassesOwn.never rfl (pi_range1 rfl T.free_range (pa_cons (pe_op op_add (pe_op op_sub (pv 0) (pe_fld (pv 4) rfl)) pe_int) pa_nil)) (pg_name (i := 5) sc_moves_of.nd rfl (by first | exact Or.inl rfl | exact Or.inr rfl) (by first | exact Or.inl rfl | exact Or.inr rfl))
    (pss_cons (ps_set (i := 6) sc_moves_of.nd rfl (by first | exact Or.inl rfl | exact Or.inr rfl) (pe_op op_add (pv 5) (pe_fld (pv 4) rfl)))
  (pss_cons (ps_if (pt_cmpR op_notN (pe_fld (pv 4) rfl) pe_non (nomark _)) (pss_one (ps_expr (pe_bm PySem.F.plainAttrs_list PySem.F.slot_list_append PySem.F.type_list_append mt_append (pv 2) (pa_cons (pe_tup (pa_cons (pv 5) (pa_cons (pv 6) (pa_cons (pe_fld (pv 4) rfl) (pa_cons (pe_tup (pa_cons (pv 5) (pa_cons (pv 3) (pa_cons pe_int pa_nil)))) pa_nil))))) pa_nil)))) pss_nil)
  (pss_one (ps_if (pt_cmpR op_notN (pe_fld (pv 4) rfl) pe_non (nomark _)) (pss_one (ps_expr (pe_bm PySem.F.plainAttrs_list PySem.F.slot_list_append PySem.F.type_list_append mt_append (pv 2) (pa_cons (pe_tup (pa_cons (pv 6) (pa_cons (pv 5) (pa_cons (pe_un un_neg (pe_fld (pv 4) rfl)) (pa_cons (pe_tup (pa_cons (pv 6) (pa_cons (pv 3) (pa_cons (pe_un un_neg pe_int) pa_nil)))) pa_nil))))) pa_nil)))) pss_nil)))))))
  (pss_one (ps_ret (pv 2)))))), ?_⟩
    refine ⟨line_le (by decide), fun D hD => ?_⟩
    have s0 := Same.new (o := .lst []) hD
    refine ⟨_, rfl, t, xs, rfl, SqT.of (s0 _ _ hx), ?_⟩
    refine for_it walk_enumT (fun i σ H' => (∃ u1 u2 u3 u4, σ = [some (.int (n : Int)), some (.ref t), some (.ref D), u1, u2, u3, u4]) ∧ Same H H' ∧ ∃ ys, H' D = some (.lst ys) ∧ MvsAt H' ys (mvAll n 0 (rs.take i)))
      ⟨⟨_, _, _, _, rfl⟩, s0, [], upd_same, .nil⟩ (fun i σ H' _ ⟨_, s1, _⟩ => SqT.of (s1 _ _ hx)) ?_ ?_
    · rintro i v σ H1 H2 hi ⟨⟨u1, u2, u3, u4, rfl⟩, s1, ys, d1, pm⟩ ⟨p, a, b, rfl, hp, rfl, ea, eb⟩
      cases ea
      obtain ⟨r, hr', ra⟩ := Paired.getL pr eb
      have ra1 := RuAt.same s1 ra
      obtain ⟨ad, dx, fs, rfl, e0, e1, e2, e3, e48⟩ := ra1
      have sp := Same.new (o := .tup [.int (i : Int), .ref ad]) hp
      refine ⟨p, _, rfl, SqT.of upd_same, rfl, _, _, rfl, _, _, rfl, rfl, ?_⟩
      refine ⟨_, rfl, _, rfl, ad, CRule K, dx, fs, _, rfl, sp _ _ e0, T.cls_Rule, T.no_Rule_length, e1, _, _, rfl, rfl, _, _, rfl, rfl, _, rfl, by omega, by omega, ?_⟩
      rw [show ((n : Int) - (r.len : Int) + 1).toNat = n + 1 - r.len by omega]
      refine for_range (lo := 0) (n := n + 1 - r.len) (fun j σ H' => (∃ u3 u4, σ = [some (.int (n : Int)), some (.ref t), some (.ref D), some (.int (i : Int)), some (.ref ad), u3, u4]) ∧ Same H H' ∧ H' ad = some (.ins (CRule K) dx fs) ∧ ∃ ys, H' D = some (.lst ys) ∧ MvsAt H' ys (mvAll n 0 (rs.take i) ++ (List.range j).flatMap (mvAt i r)))
        ⟨⟨_, _, rfl⟩, s1.trans sp, sp _ _ e0, ys, sp _ _ d1, by rw [List.range_zero, List.flatMap_nil, List.append_nil]; exact MvsAt.tk (Same.tk sp) pm⟩ ?_ ?_
      · rintro j σ H3 hj ⟨⟨u3, u4, rfl⟩, s3, e3', ys3, d3, pm3⟩
        simp only [Int.zero_add]
        have hlen : ((mvAll n 0 (rs.take i) ++ (List.range j).flatMap (mvAt i r))).length ≤ 2000 := by
          rw [List.length_append]
          have q1 := mvAll_len n (rs.take i) 0
          have q2 := flat_len i r j
          have q3 : (rs.take i).length * (2 * (n + 1)) ≤ 8 * (2 * (n + 1)) := Nat.mul_le_mul_right _ (by rw [List.length_take]; omega)
          omega
        refine ⟨_, rfl, _, rfl, ad, CRule K, dx, fs, _, rfl, e3', T.cls_Rule, T.no_Rule_length, e1, _, _, rfl, rfl, ?_⟩
        cases hhi : r.high with
        | none =>
          rw [hhi] at e3
          refine ⟨_, rfl, ad, CRule K, dx, fs, _, rfl, e3', T.cls_Rule, T.no_Rule_high, e3, rfl, false, rfl, iteF ?_⟩
          have s4 := s3
          have e4 := e3'
          have d4 := d3
          have pm4 := pm3
          cases hlo : r.low with
          | none =>
            rw [hlo] at e2
            refine ⟨_, rfl, ad, CRule K, dx, fs, _, rfl, e4, T.cls_Rule, T.no_Rule_low, e2, rfl, false, rfl, iteF ?_⟩
            refine ⟨⟨_, _, rfl⟩, s4, e4, _, d4, ?_⟩
            rw [flat_succ, show mvAt i r j = [] by unfold mvAt; rw [hhi, hlo]; first | done | rfl, List.append_nil]
            exact pm4
          | some l =>
            rw [hlo] at e2
            refine ⟨_, rfl, ad, CRule K, dx, fs, _, rfl, e4, T.cls_Rule, T.no_Rule_low, e2, rfl, true, rfl, iteT ?_⟩
            refine ⟨_, rfl, .inl ⟨rfl, _, SqL.of d4⟩, _, rfl, _, rfl, _, rfl, ad, CRule K, dx, fs, _, rfl, e4, T.cls_Rule, T.no_Rule_low, e2, l, rfl, _, rfl, _, rfl, 1, rfl, line_le (by simp), fun q hq => ⟨line_le (by simp), fun p2 hp2 => ?_⟩⟩
            obtain ⟨d5, s5, pm5, kp5⟩ := add_move (m := ⟨j + r.len, j, -l, i, -1⟩) hD s4 d4 pm4 hq hp2
            refine ⟨D, _, _, rfl, rfl, d5, line_lt (by have q := Paired.length pm4; omega), ⟨_, _, rfl⟩, s5, ?_, _, upd_same, ?_⟩
            · exact kp5 _ _ e4 (apart e4 d4 (by simp))
            · rw [flat_succ, show mvAt i r j = [⟨j + r.len, j, -l, i, -1⟩] by unfold mvAt; rw [hhi, hlo]; first | done | rfl, ← List.append_assoc]
              exact pm5
        | some u =>
          rw [hhi] at e3
          refine ⟨_, rfl, ad, CRule K, dx, fs, _, rfl, e3', T.cls_Rule, T.no_Rule_high, e3, rfl, true, rfl, iteT ?_⟩
          refine ⟨_, rfl, .inl ⟨rfl, _, SqL.of d3⟩, _, rfl, _, rfl, _, rfl, ad, CRule K, dx, fs, _, rfl, e3', T.cls_Rule, T.no_Rule_high, e3, _, rfl, _, rfl, line_le (by simp), fun q hq => ⟨line_le (by simp), fun p hp => ?_⟩⟩
          obtain ⟨d3b, s4, pm4, kp4⟩ := add_move (m := ⟨j, j + r.len, u, i, 1⟩) hD s3 d3 pm3 hq hp
          refine ⟨D, _, _, rfl, rfl, d3b, line_lt (by have := Paired.length pm3; omega), ?_⟩
          have e4 := kp4 _ _ e3' (apart e3' d3 (by simp))
          have d4 : upd (upd (upd H3 q (.tup [.int (j : Int), .int (i : Int), .int 1])) p (.tup [.int (j : Int), .int ((j : Int) + (r.len : Int)), .int u, .ref q])) D (.lst (ys3 ++ [.ref p])) D = _ := upd_same
          cases hlo : r.low with
          | none =>
            rw [hlo] at e2
            refine ⟨_, rfl, ad, CRule K, dx, fs, _, rfl, e4, T.cls_Rule, T.no_Rule_low, e2, rfl, false, rfl, iteF ?_⟩
            refine ⟨⟨_, _, rfl⟩, s4, e4, _, d4, ?_⟩
            rw [flat_succ, show mvAt i r j = [⟨j, j + r.len, u, i, 1⟩] by unfold mvAt; rw [hhi, hlo]; first | done | rfl, ← List.append_assoc]
            exact pm4
          | some l =>
            rw [hlo] at e2
            refine ⟨_, rfl, ad, CRule K, dx, fs, _, rfl, e4, T.cls_Rule, T.no_Rule_low, e2, rfl, true, rfl, iteT ?_⟩
            refine ⟨_, rfl, .inl ⟨rfl, _, SqL.of d4⟩, _, rfl, _, rfl, _, rfl, ad, CRule K, dx, fs, _, rfl, e4, T.cls_Rule, T.no_Rule_low, e2, l, rfl, _, rfl, _, rfl, 1, rfl, line_le (by simp), fun q hq => ⟨line_le (by simp), fun p2 hp2 => ?_⟩⟩
            obtain ⟨d5, s5, pm5, kp5⟩ := add_move (m := ⟨j + r.len, j, -l, i, -1⟩) hD s4 d4 pm4 hq hp2
            refine ⟨D, _, _, rfl, rfl, d5, line_lt (by have q := Paired.length pm4; simp only [List.length_append, List.length_singleton] at q hlen ⊢; omega), ⟨_, _, rfl⟩, s5, ?_, _, upd_same, ?_⟩
            · exact kp5 _ _ e4 (apart e4 d4 (by simp))
            · rw [flat_succ, show mvAt i r j = [⟨j, j + r.len, u, i, 1⟩] ++ [⟨j + r.len, j, -l, i, -1⟩] by unfold mvAt; rw [hhi, hlo]; first | done | rfl, ← List.append_assoc, ← List.append_assoc]
              exact pm5
      · rintro σ H3 ⟨⟨u3, u4, rfl⟩, s3, e3', ys3, d3, pm3⟩
        refine ⟨⟨_, _, _, _, rfl⟩, s3, ys3, d3, ?_⟩
        rw [take_get hr', mvAll_app]
        have hli : i < rs.length := (List.getElem?_eq_some_iff.mp hr').1
        rw [List.length_take, Nat.min_eq_left (by omega), Nat.zero_add]
        exact pm3
    · rintro σ H1 ⟨⟨u1, u2, u3, u4, rfl⟩, s1, ys, d1, pm⟩
      rw [hl, List.take_length] at pm
      exact ⟨_, rfl, k D ys H1 s1 d1 pm⟩
end
end K53
namespace K53
open PySem PySem.Spec PyProof.Rows L2
theorem ixN_of {n j : Nat} (h : j < n) : ixN n (j : Int) = some j := by
  unfold ixN
  rw [if_pos (by omega), if_pos (by omega)]
  simp
theorem get_cAt {C : Cs} {v : Nat} {o : Option Int} (h : v < C.length) (e : cAt C v = o) : (C.map optV)[v]? = some (optV o) := by
  rw [List.getElem?_map, List.getElem?_eq_getElem h, ← e]
  unfold cAt
  rw [List.getD_eq_getElem?_getD, List.getElem?_eq_getElem h]
  rfl
/-- all but two objects stay -/
def But2 (c b : Addr) (H H' : Hp) : Prop := ∀ a o, H a = some o → a ≠ c → a ≠ b → H' a = some o
section
variable {P : Program} {w : World} {K : PySem.W.Frag} {mg : Str → Option Value} {base : Heap}
/-! ### Ways.once -/
def spOnce (K : PySem.W.Frag) : Sp := fun vs H Q _ => ∃ (x dx mL cL bL : Addr) (fs : List (Str × V)) (ys bs : List V) (ms : List Mv) (C : Cs) (B : Bs), vs = [.ref x] ∧ H x = some (.ins (CWays K) dx fs) ∧
  fs.lookup ("moves" : Str) = some (.ref mL) ∧ fs.lookup ("costs" : Str) = some (.ref cL) ∧ fs.lookup ("by" : Str) = some (.ref bL) ∧ H mL = some (.lst ys) ∧ MvsAt H ys ms ∧ H cL = some (.lst (C.map optV)) ∧ H bL = some (.lst bs) ∧ Paired (ByAt H) bs B ∧
  B.length = C.length ∧ cL ≠ bL ∧ mL ≠ cL ∧ mL ≠ bL ∧ (∀ m ∈ ms, m.a < C.length ∧ m.b < C.length) ∧
  ∀ bs' H', But2 cL bL H H' → H' cL = some (.lst ((once ms C B).C.map optV)) → H' bL = some (.lst bs') → Paired (ByAt H') bs' (once ms C B).B → Q (optN (once ms C B).f) H'
theorem ok_once (T : Txt K mg) : FR P w K mg base 1 (He.ma K (CWays K) "once") (spOnce K) := by
  obtain ⟨fd, F⟩ := T.f_Ways_once
  refine FR.of F sc_Ways_once (fun _ _ _ _ _ _ us hl => match us, hl with | [_], _ => rfl) (fun vs H Q E h => ?_) (fun cdv A outer s H vs Q E hr h => ?_)
  · obtain ⟨x, dx, mL, cL, bL, fs, ys, bs, ms, C, B, rfl, _⟩ := h
    rfl
  · obtain ⟨x, dx, mL, cL, bL, fs, ys, bs, ms, C, B, rfl, hx, l1, l2, l3, hm, pm, hc, hb, pb, lBC, cb, mc, mb, hle, k⟩ := h
    refine ⟨_, ((pss_cons (ps_set (i := 1) sc_Ways_once.nd rfl (by first | exact Or.inl rfl | exact Or.inr rfl) pe_non)
  (pss_cons (ps_for PassesOwn.never rfl (pi_list (pe_fld (pv 0) rfl)) (pg_name (i := 2) sc_Ways_once.nd rfl (by first | exact Or.inl rfl | exact Or.inr rfl) (by first | exact Or.inl rfl | exact Or.inr rfl))
    (pss_cons (ps_par (i := 3) (j := 4) rfl sc_Ways_once.nd rfl rfl (by decide) rfl rfl (pa_cons (pe_ix (r := rIxL K) ix_list (pe_fld (pv 0) rfl) (pe_ix (r := rIxT K) ix_tup (pv 2) pe_int (fun _ _ => rfl)) (fun _ _ => rfl)) (pa_cons (pe_ix (r := rIxL K) ix_list (pe_fld (pv 0) rfl) (pe_ix (r := rIxT K) ix_tup (pv 2) pe_int (fun _ _ => rfl)) (fun _ _ => rfl)) pa_nil)) rfl)
  (pss_one (ps_if (PW.pt (pw_and (pt_cmpR op_notN (pv 3) pe_non (nomark _)) (pw_and1 (PW.pt (pw_or (pt_cmpR op_isN (pv 4) pe_non (nomark _)) (pw_or1 (pt_cmpR op_lt (pe_op op_add (pv 3) (pe_ix (r := rIxT K) ix_tup (pv 2) pe_int (fun _ _ => rfl))) (pv 4) (nomark _)))))))) (pss_cons (ps_asg (pe_op op_add (pv 3) (pe_ix (r := rIxT K) ix_tup (pv 2) pe_int (fun _ _ => rfl))) (pg_sub (pe_fld (pv 0) rfl) (pe_ix (r := rIxT K) ix_tup (pv 2) pe_int (fun _ _ => rfl)) set_list))
  (pss_cons (ps_asg (pv 2) (pg_sub (pe_fld (pv 0) rfl) (pe_ix (r := rIxT K) ix_tup (pv 2) pe_int (fun _ _ => rfl)) set_list))
  (pss_one (ps_set (i := 1) sc_Ways_once.nd rfl (by first | exact Or.inl rfl | exact Or.inr rfl) (pe_ix (r := rIxT K) ix_tup (pv 2) pe_int (fun _ _ => rfl)))))) pss_nil))))
  (pss_one (ps_ret (pv 1)))))), ?_⟩
    refine ⟨_, rfl, x, CWays K, dx, fs, _, rfl, hx, T.cls_Ways, T.no_Ways_moves, l1, mL, rfl, ⟨_, SqL.of hm⟩, ?_⟩
    refine for_list (fun i σ H' => (∃ v2 v3 v4, σ = [some (.ref x), some (optN ((ms.take i).foldl relax ⟨C, B, none⟩).f), v2, v3, v4]) ∧ But2 cL bL H H' ∧ H' cL = some (.lst (((ms.take i).foldl relax ⟨C, B, none⟩).C.map optV)) ∧ (∃ bs', H' bL = some (.lst bs') ∧ Paired (ByAt H') bs' ((ms.take i).foldl relax ⟨C, B, none⟩).B) ∧
        ((ms.take i).foldl relax ⟨C, B, none⟩).C.length = C.length ∧ ((ms.take i).foldl relax ⟨C, B, none⟩).B.length = C.length)
      ⟨⟨_, _, _, rfl⟩, fun _ _ e _ _ => e, hc, ⟨bs, hb, pb⟩, rfl, lBC⟩ (fun i σ H' _ ⟨_, kp, _⟩ => SqL.of (kp _ _ hm mc mb)) ?_ ?_
    · rintro i v σ H1 hi ⟨⟨v2, v3, v4, rfl⟩, kp, d1, ⟨bs1, b1, pb⟩, lc, lb⟩
      obtain ⟨m, hm', hmA⟩ := Paired.getL pm hi
      rw [take_get hm', List.foldl_append, List.foldl_cons, List.foldl_nil]
      generalize (ms.take i).foldl relax ⟨C, B, none⟩ = s at *
      obtain ⟨hma, hmb⟩ := hle m (List.mem_of_getElem? hm')
      obtain ⟨p, q, rfl, hp0, hq0⟩ := hmA
      have hp := kp _ _ hp0 (apart hp0 hc (by simp)) (apart hp0 hb (by simp))
      have hq := kp _ _ hq0 (apart hq0 hc (by simp)) (apart hq0 hb (by simp))
      have hm : MvAt H1 (.ref p) m := ⟨p, q, rfl, hp, hq⟩
      have hx1 := kp _ _ hx (apart hx hc (by simp)) (apart hx hb (by simp))
      refine ⟨_, rfl, x, CWays K, dx, fs, _, rfl, hx1, T.cls_Ways, T.no_Ways_costs, l2, _, rfl, p, _, 0, .int (m.a : Int), rfl, rfl, SqT.of hp, rfl, cL, _, (m.a : Int), _, rfl, rfl, SqL.of d1, atI_nat (get_cAt (by omega) rfl), ?_⟩
      refine ⟨_, rfl, x, CWays K, dx, fs, _, rfl, hx1, T.cls_Ways, T.no_Ways_costs, l2, _, rfl, p, _, 1, .int (m.b : Int), rfl, rfl, SqT.of hp, rfl, cL, _, (m.b : Int), _, rfl, rfl, SqL.of d1, atI_nat (get_cAt (by omega) rfl), _, _, rfl, ?_⟩
      cases hca : cAt s.C m.a with
      | none =>
        have hlow : low s.C m = false := by
          unfold low
          rw [hca]
        refine ⟨_, rfl, rfl, false, rfl, iteF (iteF ?_)⟩
        have er : relax s m = s := by
          unfold relax
          rw [if_neg (by rw [hlow]; decide)]
        refine ⟨⟨_, _, _, by rw [er]; rfl⟩, kp, by rw [er]; exact d1, ⟨bs1, b1, by rw [er]; exact pb⟩, by rw [er]; exact lc, by rw [er]; exact lb⟩
      | some d =>
        refine ⟨_, rfl, rfl, true, rfl, iteT ?_⟩
        cases hcb : cAt s.C m.b with
        | none =>
          have hlow : low s.C m = true := by
            unfold low
            rw [hca, hcb]
          refine ⟨_, rfl, rfl, true, rfl, iteT (iteT ?_)⟩
          have er : relax s m = ⟨s.C.set m.b (some (d + m.c)), s.B.set m.b (some m), some m.b⟩ := by
            unfold relax newc
            rw [if_pos hlow, hca]
            rfl
          refine ⟨_, rfl, _, rfl, p, _, 2, .int m.c, rfl, rfl, SqT.of hp, rfl, d, m.c, rfl, rfl, ?_⟩
          refine ⟨_, rfl, x, CWays K, dx, fs, _, rfl, hx1, T.cls_Ways, T.no_Ways_costs, l2, _, rfl, p, _, 1, .int (m.b : Int), rfl, rfl, SqT.of hp, rfl, cL, _, (m.b : Int), m.b, rfl, rfl, d1, ixN_of (by rw [List.length_map]; omega), ?_⟩
          have hx2 := (upd_ne (H := H1) (o := .lst ((s.C.map optV).set m.b (.int (d + m.c)))) (apart hx1 d1 (by simp))).trans hx1
          have hp2 := (upd_ne (H := H1) (o := .lst ((s.C.map optV).set m.b (.int (d + m.c)))) (apart hp d1 (by simp))).trans hp
          have b2 := (upd_ne (H := H1) (o := .lst ((s.C.map optV).set m.b (.int (d + m.c)))) (Ne.symm cb)).trans b1
          refine ⟨_, rfl, _, rfl, x, CWays K, dx, fs, _, rfl, hx2, T.cls_Ways, T.no_Ways_by, l3, _, rfl, p, _, 1, .int (m.b : Int), rfl, rfl, SqT.of hp2, rfl, bL, _, (m.b : Int), m.b, rfl, rfl, b2, ixN_of (by have := Paired.length pb; omega), ?_⟩
          have hp3 := (upd_ne (H := upd H1 cL (.lst ((s.C.map optV).set m.b (.int (d + m.c))))) (o := .lst (bs1.set m.b (.ref p))) (apart hp2 b2 (by simp))).trans hp2
          refine ⟨_, rfl, p, _, 1, .int (m.b : Int), rfl, rfl, SqT.of hp3, rfl, ?_⟩
          have tk : Tk H1 (upd (upd H1 cL (.lst ((s.C.map optV).set m.b (.int (d + m.c))))) bL (.lst (bs1.set m.b (.ref p)))) := Tk.trans (Tk.put d1 (fun _ z => by cases z)) (Tk.put b2 (fun _ z => by cases z))
          refine ⟨⟨_, _, _, by rw [er]; rfl⟩, fun b o e n1 n2 => by rw [upd_ne n2, upd_ne n1]; exact kp b o e n1 n2, ?_, ⟨bs1.set m.b (.ref p), upd_same, ?_⟩, ?_, ?_⟩
          · rw [upd_ne cb, upd_same, er, List.map_set] <;> rfl
          · rw [er]
            exact Paired.set (F := ByAt _) (b := some m) (MvAt.tk tk hm) m.b (Paired.imp (fun _ _ z => ByAt.tk tk z) pb)
          · rw [er, List.length_set]
            exact lc
          · rw [er, List.length_set]
            exact lb
        | some e =>
          refine ⟨_, rfl, rfl, false, rfl, iteF ⟨_, rfl, _, rfl, p, _, 2, .int m.c, rfl, rfl, SqT.of hp, rfl, d, m.c, rfl, rfl, _, rfl, d + m.c, e, rfl, rfl, _, rfl, ?_⟩⟩
          have hl : low s.C m = decide (d + m.c < e) := by
            unfold low
            rw [hca, hcb]
          cases hlow : decide (d + m.c < e) with
          | true =>
            rw [hlow] at hl
            have hlow := hl
            refine iteT ?_
            have er : relax s m = ⟨s.C.set m.b (some (d + m.c)), s.B.set m.b (some m), some m.b⟩ := by
              unfold relax newc
              rw [if_pos hlow, hca]
              rfl
            refine ⟨_, rfl, _, rfl, p, _, 2, .int m.c, rfl, rfl, SqT.of hp, rfl, d, m.c, rfl, rfl, ?_⟩
            refine ⟨_, rfl, x, CWays K, dx, fs, _, rfl, hx1, T.cls_Ways, T.no_Ways_costs, l2, _, rfl, p, _, 1, .int (m.b : Int), rfl, rfl, SqT.of hp, rfl, cL, _, (m.b : Int), m.b, rfl, rfl, d1, ixN_of (by rw [List.length_map]; omega), ?_⟩
            have hx2 := (upd_ne (H := H1) (o := .lst ((s.C.map optV).set m.b (.int (d + m.c)))) (apart hx1 d1 (by simp))).trans hx1
            have hp2 := (upd_ne (H := H1) (o := .lst ((s.C.map optV).set m.b (.int (d + m.c)))) (apart hp d1 (by simp))).trans hp
            have b2 := (upd_ne (H := H1) (o := .lst ((s.C.map optV).set m.b (.int (d + m.c)))) (Ne.symm cb)).trans b1
            refine ⟨_, rfl, _, rfl, x, CWays K, dx, fs, _, rfl, hx2, T.cls_Ways, T.no_Ways_by, l3, _, rfl, p, _, 1, .int (m.b : Int), rfl, rfl, SqT.of hp2, rfl, bL, _, (m.b : Int), m.b, rfl, rfl, b2, ixN_of (by have := Paired.length pb; omega), ?_⟩
            have hp3 := (upd_ne (H := upd H1 cL (.lst ((s.C.map optV).set m.b (.int (d + m.c))))) (o := .lst (bs1.set m.b (.ref p))) (apart hp2 b2 (by simp))).trans hp2
            refine ⟨_, rfl, p, _, 1, .int (m.b : Int), rfl, rfl, SqT.of hp3, rfl, ?_⟩
            have tk : Tk H1 (upd (upd H1 cL (.lst ((s.C.map optV).set m.b (.int (d + m.c))))) bL (.lst (bs1.set m.b (.ref p)))) := Tk.trans (Tk.put d1 (fun _ z => by cases z)) (Tk.put b2 (fun _ z => by cases z))
            refine ⟨⟨_, _, _, by rw [er]; rfl⟩, fun b o e n1 n2 => by rw [upd_ne n2, upd_ne n1]; exact kp b o e n1 n2, ?_, ⟨bs1.set m.b (.ref p), upd_same, ?_⟩, ?_, ?_⟩
            · rw [upd_ne cb, upd_same, er, List.map_set] <;> rfl
            · rw [er]
              exact Paired.set (F := ByAt _) (b := some m) (MvAt.tk tk hm) m.b (Paired.imp (fun _ _ z => ByAt.tk tk z) pb)
            · rw [er, List.length_set]
              exact lc
            · rw [er, List.length_set]
              exact lb
          | false =>
            rw [hlow] at hl
            have hlow := hl
            refine iteF ?_
            have er : relax s m = s := by
              unfold relax
              rw [if_neg (by rw [hlow]; decide)]
            refine ⟨⟨_, _, _, by rw [er]; rfl⟩, kp, by rw [er]; exact d1, ⟨bs1, b1, by rw [er]; exact pb⟩, by rw [er]; exact lc, by rw [er]; exact lb⟩
    · rintro σ H1 ⟨⟨v2, v3, v4, rfl⟩, kp, d1, ⟨bs1, b1, pb⟩, lc, lb⟩
      rw [show ys.length = ms.length from Paired.length pm, List.take_length] at *
      exact ⟨_, rfl, k bs1 H1 kp d1 b1 pb⟩
end
end K53
namespace K53
open PySem PySem.Spec PyProof.Rows L2
theorem optN_non {f : Option Nat} : (decide (optN f = V.non)) = f.isNone := by cases f <;> rfl
theorem fold_len : ∀ (ms : List Mv) (s : WS), (ms.foldl relax s).C.length = s.C.length ∧ (ms.foldl relax s).B.length = s.B.length
  | [], _ => ⟨rfl, rfl⟩
  | m :: ms, s => by
    rw [List.foldl_cons]
    have h := fold_len ms (relax s m)
    have e : (relax s m).C.length = s.C.length ∧ (relax s m).B.length = s.B.length := by
      unfold relax
      split <;> simp
    exact ⟨h.1.trans e.1, h.2.trans e.2⟩
section
variable {P : Program} {w : World} {K : PySem.W.Frag} {mg : Str → Option Value} {base : Heap}
/-- a Ways object, by the state it ends in -/
def WyAt (K : PySem.W.Frag) (H : Hp) (x : Addr) (s : WS) : Prop := ∃ (dx cL bL : Addr) (fs : List (Str × V)) (bs : List V), H x = some (.ins (CWays K) dx fs) ∧ fs.lookup ("costs" : Str) = some (.ref cL) ∧ fs.lookup ("by" : Str) = some (.ref bL) ∧ fs.lookup ("restless" : Str) = some (optN s.f) ∧ (fs.lookup ("ring" : Str) = none ∧ fs.lookup ("way_to" : Str) = none) ∧
  H cL = some (.lst (s.C.map optV)) ∧ H bL = some (.lst bs) ∧ Paired (ByAt H) bs s.B
theorem WyAt.same {H H' : Hp} {x : Addr} {s : WS} (e : Same H H') : WyAt K H x s → WyAt K H' x s := fun ⟨dx, cL, bL, fs, bs, h1, h2, h3, h4, h45, h5, h6, h7⟩ => ⟨dx, cL, bL, fs, bs, e _ _ h1, h2, h3, h4, h45, e _ _ h5, e _ _ h6, Paired.imp (fun _ _ z => ByAt.tk (Same.tk e) z) h7⟩
def spWaysI (K : PySem.W.Frag) : Sp := fun vs H Q _ => ∃ (x dx t cI : Addr) (n : Nat) (rs : List Ru) (C0 : Cs) (H0 : Hp), vs = [.ref x, .int (n : Int), .ref t, .ref cI] ∧ H x = some (.ins (CWays K) dx []) ∧ Same H0 H ∧ H0 x = none ∧ RusAt K H0 t rs ∧ n ≤ 48 ∧ rs.length ≤ 8 ∧ H0 cI = some (.lst (C0.map optV)) ∧ C0.length = n + 1 ∧
  ∀ H', But x H H' → WyAt K H' x (ways n (mvAll n 0 rs) C0) → Q .non H'
theorem ok_Ways_init (T : Txt K mg) : FR P w K mg base 2 (He.ma K (CWays K) "__init__") (spWaysI K) := by
  have G_moves_of : FR P w K mg base 1 _ (spMoves K) := ok_moves_of T
  have G_Ways_once : FR P w K mg base 1 _ (spOnce K) := ok_once T
  obtain ⟨fd, F⟩ := T.f_Ways_init
  refine FR.of F sc_Ways_init (fun _ _ _ _ _ _ us hl => match us, hl with | [_, _, _, _], _ => rfl) (fun vs H Q E h => ?_) (fun cdv A outer s H vs Q E hr h => ?_)
  · obtain ⟨x, dx, t, cI, n, rs, C0, H0, rfl, _⟩ := h
    rfl
  · obtain ⟨x, dx, t, cI, n, rs, C0, H0, rfl, hx, s0, h0, hrs, hn, h8, hci, hC, k⟩ := h
    refine ⟨_, ((pss_cons (ps_fld (pv 0) (pe_fn G_moves_of (hr.mono (by decide)) rfl T.glo_moves_of (pa_cons (pv 1) (pa_cons (pv 2) pa_nil))) rfl)
  (pss_cons (ps_fld (pv 0) (pe_callTy (T := "list") call_list_of (by rfl) T.free_list (by decide +kernel) (pa_cons (pv 3) pa_nil)) rfl)
  (pss_cons (ps_fld (pv 0) (pe_lc (own := [("place", 4)]) (g := gName 4) (tt := tYes) (by rfl) sc_Ways_init.nd (pi_list (pv 3)) (blkOk_by (own := [("place", 4)]) (N := N_Ways_init) (sc := defScope s_Ways_init) (by decide +kernel)) (fun _ _ _ _ _ => (pg_name (i := 4) sc_Ways_init.nd rfl (by first | exact Or.inl rfl | exact Or.inr rfl) (by first | exact Or.inl rfl | exact Or.inr rfl))) (fun _ _ _ _ _ => pts_nil) (fun _ _ _ _ _ => pe_non)) rfl)
  (pss_cons (ps_fld (pv 0) pe_non rfl)
  (pss_one (ps_for PassesOwn.never rfl (pi_list (pv 3)) (pg_name (i := 5) sc_Ways_init.nd rfl (by first | exact Or.inl rfl | exact Or.inr rfl) (by first | exact Or.inl rfl | exact Or.inr rfl))
    (pss_cons (ps_fld (pv 0) (pe_mt0 (pv 0) T.cls_Ways T.me_Ways_once G_Ways_once (hr.mono (by decide))) rfl)
  (pss_one (ps_if (pt_cmpR op_isN (pe_fld (pv 0) rfl) pe_non (nomark _)) (pss_one ps_break) pss_nil)))))))))), ?_⟩
    refine ⟨_, rfl, _, rfl, n, t, rs, rfl, hrs.same s0, hn, h8, fun mL ys H1 s1 hm pm => ?_⟩
    refine ⟨_, rfl, x, CWays K, dx, _, rfl, s1 _ _ hx, T.cls_Ways, T.no_Ways_moves, by decide, ?_⟩
    have b1 := (But.of (x := x) s1).put (o := .ins (CWays K) dx (putF "moves" (.ref mL) []))
    have cx : cI ≠ x := ne_of_none hci h0
    have mx : mL ≠ x := apart hm (s1 _ _ hx) (by simp)
    have hci1 := b1 _ _ (s0 _ _ hci) cx
    have tk1 : Tk H1 (upd H1 x (.ins (CWays K) dx (putF "moves" (.ref mL) []))) := Tk.put (s1 _ _ hx) fun _ z => by cases z
    refine ⟨_, rfl, cI, _, rfl, .inl (SqL.of hci1), fun cL hcL => ?_⟩
    have xc : x ≠ cL := ne_of_none upd_same hcL
    have mc : mL ≠ cL := ne_of_none (by rw [upd_ne mx]; exact hm) hcL
    have hcH : H cL = none := s1.free (by rw [upd_ne (Ne.symm xc)] at hcL; exact hcL)
    have s2 := Same.new (o := .lst (C0.map optV)) hcL
    refine ⟨_, rfl, x, CWays K, dx, _, rfl, s2 _ _ upd_same, T.cls_Ways, T.no_Ways_costs, fl1, ?_⟩
    have b2 := (b1.trans (But.of s2)).put (o := .ins (CWays K) dx (putF "costs" (.ref cL) (putF "moves" (.ref mL) [])))
    have tk2 := Tk.trans (Tk.trans tk1 (Same.tk s2)) (Tk.put (o' := .ins (CWays K) dx (putF "costs" (.ref cL) (putF "moves" (.ref mL) []))) (s2 _ _ upd_same) fun _ z => by cases z)
    have hci2 := b2 _ _ (s0 _ _ hci) cx
    have hm2 : upd (upd (upd H1 x (.ins (CWays K) dx (putF "moves" (.ref mL) []))) cL (.lst (C0.map optV))) x (.ins (CWays K) dx (putF "costs" (.ref cL) (putF "moves" (.ref mL) []))) mL = some (.lst ys) := by rw [upd_ne mx, upd_ne mc, upd_ne mx]; exact hm
    have hc2 : upd (upd (upd H1 x (.ins (CWays K) dx (putF "moves" (.ref mL) []))) cL (.lst (C0.map optV))) x (.ins (CWays K) dx (putF "costs" (.ref cL) (putF "moves" (.ref mL) []))) cL = some (.lst (C0.map optV)) := by rw [upd_ne (Ne.symm xc)]; exact upd_same
    have pm2 := MvsAt.tk tk2 pm
    have hx2 : upd (upd (upd H1 x (.ins (CWays K) dx (putF "moves" (.ref mL) []))) cL (.lst (C0.map optV))) x (.ins (CWays K) dx (putF "costs" (.ref cL) (putF "moves" (.ref mL) []))) x = _ := upd_same
    generalize upd (upd (upd H1 x (.ins (CWays K) dx (putF "moves" (.ref mL) []))) cL (.lst (C0.map optV))) x (.ins (CWays K) dx (putF "costs" (.ref cL) (putF "moves" (.ref mL) []))) = H2 at *
    refine ⟨_, rfl, cI, rfl, ⟨_, SqL.of hci2⟩, fun bL hbL => ?_⟩
    have s3 := Same.new (o := .lst []) hbL
    refine lc_list (K := K) (a := cI) (xs := C0.map optV) (fun i H' => Same H2 H' ∧ H' bL = some (.lst (List.replicate i .non))) ⟨s3, upd_same⟩ (fun i H' _ ⟨s4, _⟩ => SqL.of (s4 _ _ hci2)) ?_ ?_
    · rintro i v H' hi ⟨s4, d4⟩
      have hil := (List.getElem?_eq_some_iff.mp hi).1
      rw [List.length_map] at hil
      exact ⟨rfl, _, d4, line_lt (by rw [List.length_replicate]; omega), Same.mut s4 hbL, by rw [upd_same, List.replicate_succ']⟩
    rintro H4 ⟨s4, d4⟩
    rw [List.length_map, hC] at d4
    have xb : x ≠ bL := ne_of_none hx2 hbL
    have mb : mL ≠ bL := ne_of_none hm2 hbL
    have cb : cL ≠ bL := ne_of_none hc2 hbL
    have hbH : H bL = none := by
      cases e : H bL with
      | none => rfl
      | some o =>
        have := b2 _ _ e (Ne.symm xb)
        rw [hbL] at this
        cases this
    refine ⟨_, rfl, x, CWays K, dx, _, rfl, s4 _ _ hx2, T.cls_Ways, T.no_Ways_by, fl2, ?_⟩
    have b5 := (b2.trans (But.of s4)).put (o := .ins (CWays K) dx (putF "by" (.ref bL) (putF "costs" (.ref cL) (putF "moves" (.ref mL) []))))
    refine ⟨_, rfl, x, CWays K, dx, _, rfl, upd_same, T.cls_Ways, T.no_Ways_restless, fl3, ?_⟩
    rw [upd_upd]
    have b6 := (b2.trans (But.of s4)).put (o := .ins (CWays K) dx (putF "restless" .non (putF "by" (.ref bL) (putF "costs" (.ref cL) (putF "moves" (.ref mL) [])))))
    have tk6 := Tk.trans (Same.tk s4) (Tk.put (o' := .ins (CWays K) dx (putF "restless" .non (putF "by" (.ref bL) (putF "costs" (.ref cL) (putF "moves" (.ref mL) []))))) (s4 _ _ hx2) fun _ z => by cases z)
    have pm6 := MvsAt.tk tk6 pm2
    have hle : ∀ m ∈ mvAll n 0 rs, m.a < n + 1 ∧ m.b < n + 1 := fun m hm => by
      have := mvAll_le hm
      omega
    refine ⟨_, rfl, cI, rfl, ⟨_, SqL.of (b6 _ _ (s0 _ _ hci) cx)⟩, ?_⟩
    refine for_list (fun i σ H' => (∃ u1 u2, σ = [some (.ref x), some (.int (n : Int)), some (.ref t), some (.ref cI), u1, u2]) ∧ But x H H' ∧ ∃ (s : WS) (fs : List (Str × V)) (bs : List V), rounds (mvAll n 0 rs) (n + 1) ⟨C0, List.replicate (n + 1) none, none⟩ = rounds (mvAll n 0 rs) (n + 1 - i) s ∧ s.C.length = n + 1 ∧ s.B.length = n + 1 ∧
        H' x = some (.ins (CWays K) dx fs) ∧ fs.length ≤ 4 + i ∧ fs.lookup ("moves" : Str) = some (.ref mL) ∧ fs.lookup ("costs" : Str) = some (.ref cL) ∧ fs.lookup ("by" : Str) = some (.ref bL) ∧ fs.lookup ("restless" : Str) = some (optN s.f) ∧ (fs.lookup ("once" : Str) = none ∧ fs.lookup ("ring" : Str) = none ∧ fs.lookup ("way_to" : Str) = none) ∧
        H' mL = some (.lst ys) ∧ MvsAt H' ys (mvAll n 0 rs) ∧ H' cL = some (.lst (s.C.map optV)) ∧ H' bL = some (.lst bs) ∧ Paired (ByAt H') bs s.B) ?_ (fun i σ H' _ ⟨_, b, _⟩ => SqL.of (b _ _ (s0 _ _ hci) cx)) ?_ ?_
    · refine ⟨⟨_, _, rfl⟩, b6, ⟨C0, List.replicate (n + 1) none, none⟩, _, List.replicate (n + 1) .non, rfl, hC, List.length_replicate, upd_same, ?_, ?_, ?_, ?_, lk_hit _ _ _, ⟨by rw [lk_miss _ _ (by decide +kernel), lk_miss _ _ (by decide +kernel), lk_miss _ _ (by decide +kernel), lk_miss _ _ (by decide +kernel)]; rfl, by rw [lk_miss _ _ (by decide +kernel), lk_miss _ _ (by decide +kernel), lk_miss _ _ (by decide +kernel), lk_miss _ _ (by decide +kernel)]; rfl, by rw [lk_miss _ _ (by decide +kernel), lk_miss _ _ (by decide +kernel), lk_miss _ _ (by decide +kernel), lk_miss _ _ (by decide +kernel)]; rfl⟩, ?_, pm6, ?_, ?_, ?_⟩
      · exact len_put (len_put (len_put (len_put (Nat.le_refl 0))))
      · rw [lk_miss _ _ (by decide +kernel), lk_miss _ _ (by decide +kernel), lk_miss _ _ (by decide +kernel), lk_hit]
      · rw [lk_miss _ _ (by decide +kernel), lk_miss _ _ (by decide +kernel), lk_hit]
      · rw [lk_miss _ _ (by decide +kernel), lk_hit]
      · rw [upd_ne mx]
        exact s4 _ _ hm2
      · rw [upd_ne (Ne.symm xc)]
        exact s4 _ _ hc2
      · rw [upd_ne (Ne.symm xb)]
        exact d4
      · have rp : ∀ q, Paired (ByAt (upd H4 x (.ins (CWays K) dx (putF "restless" .non (putF "by" (.ref bL) (putF "costs" (.ref cL) (putF "moves" (.ref mL) []))))))) (List.replicate q V.non) (List.replicate q none) := fun q => by
          induction q with
          | zero => exact .nil
          | succ q ih => exact .cons rfl ih
        exact rp _
    · rintro i v σ H' hi ⟨⟨u1, u2, rfl⟩, b7, s, fs, bs, er, lc, lb, hx7, hfl, l1, l2, l3, l4, ⟨n1, n2, n3⟩, hm7, pm7, hc7, hb7, pb7⟩
      have hil := (List.getElem?_eq_some_iff.mp hi).1
      rw [List.length_map] at hil
      rw [show n + 1 - i = (n + 1 - (i + 1)) + 1 by omega] at er
      have er : rounds (mvAll n 0 rs) (n + 1) ⟨C0, List.replicate (n + 1) none, none⟩ = if (once (mvAll n 0 rs) s.C s.B).f = none then once (mvAll n 0 rs) s.C s.B else rounds (mvAll n 0 rs) (n + 1 - (i + 1)) (once (mvAll n 0 rs) s.C s.B) := er
      refine ⟨_, rfl, x, dx, fs, rfl, hx7, n1, x, dx, mL, cL, bL, fs, ys, bs, mvAll n 0 rs, s.C, s.B, rfl, hx7, l1, l2, l3, hm7, pm7, hc7, hb7, pb7, by omega, cb, mc, mb, fun m hm => by have := hle m hm; omega, fun bs' H8 k8 hc8 hb8 pb8 => ?_⟩
      have hx8 := k8 _ _ hx7 xc xb
      have tk8 : Tk H' H8 := fun b o e => k8 _ _ e (apart e hc7 (by simp)) (apart e hb7 (by simp))
      refine ⟨_, rfl, x, CWays K, dx, fs, rfl, hx8, T.cls_Ways, T.no_Ways_restless, by omega, ?_⟩
      refine ⟨_, rfl, x, CWays K, dx, _, _, rfl, upd_same, T.cls_Ways, T.no_Ways_restless, lk_hit _ _ _, rfl, _, rfl, ?_⟩
      rw [optN_non]
      obtain ⟨lc9, lb9⟩ : (once (mvAll n 0 rs) s.C s.B).C.length = n + 1 ∧ (once (mvAll n 0 rs) s.C s.B).B.length = n + 1 := ⟨(fold_len _ _).1.trans lc, (fold_len _ _).2.trans lb⟩
      generalize once (mvAll n 0 rs) s.C s.B = t9 at *
      have bx : But x H H8 := fun b o e nb => k8 _ _ (b7 _ _ e nb) (ne_of_none e hcH) (ne_of_none e hbH)
      have b9 := bx.put (o := .ins (CWays K) dx (putF "restless" (optN t9.f) fs))
      have tk9 : Tk H8 (upd H8 x (.ins (CWays K) dx (putF "restless" (optN t9.f) fs))) := Tk.put hx8 fun _ z => by cases z
      have c9 : upd H8 x (.ins (CWays K) dx (putF "restless" (optN t9.f) fs)) cL = some (.lst (t9.C.map optV)) := by
        rw [upd_ne (Ne.symm xc)]
        exact hc8
      have d9 : upd H8 x (.ins (CWays K) dx (putF "restless" (optN t9.f) fs)) bL = some (.lst bs') := by
        rw [upd_ne (Ne.symm xb)]
        exact hb8
      have p9 : Paired (ByAt (upd H8 x (.ins (CWays K) dx (putF "restless" (optN t9.f) fs)))) bs' t9.B := Paired.imp (fun _ _ z => ByAt.tk tk9 z) pb8
      have l2' : (putF "restless" (optN t9.f) fs).lookup ("costs" : Str) = some (.ref cL) := by rw [lk_miss _ _ (by decide +kernel)]; exact l2
      have l3' : (putF "restless" (optN t9.f) fs).lookup ("by" : Str) = some (.ref bL) := by rw [lk_miss _ _ (by decide +kernel)]; exact l3
      have n1' : (putF "restless" (optN t9.f) fs).lookup ("once" : Str) = none := by rw [lk_miss _ _ (by decide +kernel)]; exact n1
      have n2' : (putF "restless" (optN t9.f) fs).lookup ("ring" : Str) = none := by rw [lk_miss _ _ (by decide +kernel)]; exact n2
      have n3' : (putF "restless" (optN t9.f) fs).lookup ("way_to" : Str) = none := by rw [lk_miss _ _ (by decide +kernel)]; exact n3
      cases hf : t9.f with
      | none =>
        rw [hf] at er b9 c9 d9 p9 l2' l3' n1' n2' n3'
        refine iteT ?_
        rw [if_pos rfl] at er
        have er : ways n (mvAll n 0 rs) C0 = t9 := er
        exact k _ b9 ⟨dx, cL, bL, _, bs', upd_same, l2', l3', by rw [er, hf]; exact lk_hit _ _ _, ⟨n2', n3'⟩, by rw [er]; exact c9, d9, by rw [er]; exact p9⟩
      | some q =>
        rw [hf] at er b9 c9 d9 p9 l2' l3' n1' n2' n3'
        refine iteF ?_
        rw [if_neg (by simp)] at er
        refine ⟨⟨_, _, rfl⟩, b9, t9, _, bs', er, ?_, ?_, upd_same, ?_, ?_, l2', l3', by rw [hf]; exact lk_hit _ _ _, ⟨n1', n2', n3'⟩, ?_, MvsAt.tk (Tk.trans tk8 (by rw [← hf]; exact tk9)) pm7, c9, d9, p9⟩
        · exact lc9
        · exact lb9
        · exact Nat.le_trans (len_put hfl) (by omega)
        · rw [lk_miss _ _ (by decide +kernel)]
          exact l1
        · rw [upd_ne mx]
          exact k8 _ _ hm7 mc mb
    · rintro σ H' ⟨⟨u1, u2, rfl⟩, b7, s, fs, bs, er, lc, lb, hx7, hfl, l1, l2, l3, l4, ⟨n1, n2, n3⟩, hm7, pm7, hc7, hb7, pb7⟩
      rw [List.length_map, hC, Nat.sub_self] at er
      have er : ways n (mvAll n 0 rs) C0 = s := er
      refine k H' b7 ⟨dx, cL, bL, fs, bs, hx7, l2, l3, by rw [er]; exact l4, ⟨n2, n3⟩, by rw [er]; exact hc7, hb7, by rw [er]; exact pb7⟩
/-! ### ring: nothing found at the end -/
def spRing (K : PySem.W.Frag) : Sp := fun vs H Q _ => ∃ (x : Addr) (s : WS), vs = [.ref x] ∧ WyAt K H x s ∧ s.f = none ∧ Q .non H
theorem ok_ring (T : Txt K mg) : FR P w K mg base 1 (He.ma K (CWays K) "ring") (spRing K) := by
  obtain ⟨fd, F⟩ := T.f_Ways_ring
  refine FR.of F sc_Ways_ring (fun _ _ _ _ _ _ us hl => match us, hl with | [_], _ => rfl) (fun vs H Q E h => ?_) (fun cdv A outer s H vs Q E hr h => ?_)
  · obtain ⟨x, s, rfl, _⟩ := h
    rfl
  · obtain ⟨x, s, rfl, ⟨dx, cL, bL, fs, bs, hx, l2, l3, l4, _⟩, hf, k⟩ := h
    refine ⟨_, (pss_cons (ps_if (pt_cmpR op_isN (pe_fld (pv 0) rfl) pe_non (nomark _)) (pss_one (ps_ret pe_non)) pss_nil) pss_never), ?_⟩
    rw [hf] at l4
    exact ⟨_, rfl, x, CWays K, dx, fs, _, rfl, hx, T.cls_Ways, T.no_Ways_restless, l4, rfl, true, rfl, iteT k⟩
/-! ### way_to: back by the moves -/
def spWayTo (K : PySem.W.Frag) : Sp := fun vs H Q _ => ∃ (x : Addr) (s : WS) (v : Nat) (p : List Nat), vs = [.ref x, .int (v : Int)] ∧ WyAt K H x s ∧ Chain s.B v p ∧ p.length ≤ 100 ∧ v < s.B.length ∧ (∀ u m, bAt s.B u = some m → m.a < s.B.length) ∧
  ∀ t H', Same H H' → FxA K 2 H' (.ref t) → Q (.ref t) H'
def StepAt (H : Hp) (y : V) : Prop := ∃ (q : Addr) (a b c : Int), y = .ref q ∧ H q = some (.tup [.int a, .int b, .int c])
theorem StepAt.fx {H H' : Hp} {y : V} (s : Same H H') : StepAt H y → FxA K 1 H' y := fun ⟨q, a, b, c, e, h⟩ => .inr ⟨q, _, e, .inr (s _ _ h), by simp, fun i x hx => by
  match i, hx with
  | 0, hx => cases hx; exact .inl ⟨a, rfl⟩
  | 1, hx => cases hx; exact .inl ⟨b, rfl⟩
  | 2, hx => cases hx; exact .inl ⟨c, rfl⟩⟩
theorem get_bAt {H : Hp} {bs : List V} {B : Bs} {v : Nat} (p : Paired (ByAt H) bs B) (h : v < B.length) : ∃ u, bs[v]? = some u ∧ ByAt H u (bAt B v) := by
  have e : B[v]? = some (bAt B v) := by
    unfold bAt
    rw [List.getD_eq_getElem?_getD, List.getElem?_eq_getElem h]
    rfl
  exact Paired.get p e
theorem ok_way_to (T : Txt K mg) : FR P w K mg base 1 (He.ma K (CWays K) "way_to") (spWayTo K) := by
  obtain ⟨fd, F⟩ := T.f_Ways_way_to
  refine FR.of F sc_Ways_way_to (fun _ _ _ _ _ _ us hl => match us, hl with | [_, _], _ => rfl) (fun vs H Q E h => ?_) (fun cdv A outer s H vs Q E hr h => ?_)
  · obtain ⟨x, s, v, p, rfl, _⟩ := h
    rfl
  · obtain ⟨x, s, v, p, rfl, ⟨dx, cL, bL, fs, bs, hx, l2, l3, l4, _, hc, hb, pb⟩, ch, hp, hv, hle, k⟩ := h
    refine ⟨_, ((pss_cons (ps_set (i := 2) sc_Ways_way_to.nd rfl (by first | exact Or.inl rfl | exact Or.inr rfl) (pe_lst pa_nil))
  (pss_cons (ps_while PassesOwn.never (pt_cmpR op_notN (pe_ix (r := rIxL K) ix_list (pe_fld (pv 0) rfl) (pv 1) (fun _ _ => rfl)) pe_non (nomark _)) (pss_cons (ps_expr (pe_bm PySem.F.plainAttrs_list PySem.F.slot_list_append PySem.F.type_list_append mt_append (pv 2) (pa_cons (pe_ix (r := rIxT K) ix_tup (pe_ix (r := rIxL K) ix_list (pe_fld (pv 0) rfl) (pv 1) (fun _ _ => rfl)) pe_int (fun _ _ => rfl)) pa_nil)))
  (pss_one (ps_set (i := 1) sc_Ways_way_to.nd rfl (by first | exact Or.inl rfl | exact Or.inr rfl) (pe_ix (r := rIxT K) ix_tup (pe_ix (r := rIxL K) ix_list (pe_fld (pv 0) rfl) (pv 1) (fun _ _ => rfl)) pe_int (fun _ _ => rfl))))))
  (pss_one (ps_ret (pe_callTy (T := "tuple") call_tuple_of (by rfl) T.free_tuple (by decide +kernel) (pa_cons (pe_revL (pv 2)) pa_nil))))))), ?_⟩
    refine ⟨line_le (by decide), fun D hD => ?_⟩
    have s1 := Same.new (o := .lst []) hD
    refine ⟨fun m σ H' => ∃ (u : Nat) (q : List Nat) (ss : List V), m = q.length ∧ σ = [some (.ref x), some (.int (u : Int)), some (.ref D)] ∧ Same H H' ∧ H' D = some (.lst ss) ∧ ss.length + q.length ≤ 100 ∧ Chain s.B u q ∧ u < s.B.length ∧
      (∀ (i : Nat) y, ss[i]? = some y → StepAt H y), ⟨_, v, p, [], rfl, rfl, s1, upd_same, by simpa using hp, ch, hv, fun i y hy => by simp at hy⟩, ?_⟩
    rintro m σ H' ⟨u, q, ss, rfl, rfl, s2, d2, hl, ch, hu, hss⟩
    obtain ⟨b, hbu, hby⟩ := get_bAt pb hu
    refine ⟨_, rfl, x, CWays K, dx, fs, _, rfl, s2 _ _ hx, T.cls_Ways, T.no_Ways_by, l3, _, rfl, bL, _, (u : Int), b, rfl, rfl, SqL.of (s2 _ _ hb), atI_nat hbu, rfl, _, rfl, ?_⟩
    cases ch with
    | nil hn =>
      rw [hn] at hby
      have eb : b = V.non := hby
      subst eb
      refine iteF ?_
      refine ⟨_, rfl, D, _, rfl, SqL.of d2, fun r hr => ?_⟩
      have s3 := Same.new (o := .lst ss.reverse) hr
      refine ⟨r, _, rfl, .inl ⟨SqL.of upd_same, fun t ht => ?_⟩⟩
      have s4 := Same.new (o := .tup ss.reverse) ht
      refine k t _ ((s2.trans s3).trans s4) (.inr ⟨t, _, rfl, .inr upd_same, by rw [List.length_reverse]; omega, fun i y hy => ?_⟩)
      obtain ⟨j, hj⟩ := List.getElem?_of_mem (List.mem_reverse.mp (List.mem_of_getElem? hy))
      exact StepAt.fx ((s2.trans s3).trans s4) (hss j y hj)
    | @cons _ m q' hm hr' =>
      rw [hm] at hby
      obtain ⟨p0, q0, rfl, hp0, hq0⟩ := hby
      refine iteT ?_
      refine ⟨fun σ H'' => ∃ m', m' < (m.a :: q').length ∧ (∃ (u : Nat) (q : List Nat) (ss : List V), m' = q.length ∧ σ = [some (.ref x), some (.int (u : Int)), some (.ref D)] ∧ Same H H'' ∧ H'' D = some (.lst ss) ∧ ss.length + q.length ≤ 100 ∧ Chain s.B u q ∧ u < s.B.length ∧
        (∀ (i : Nat) y, ss[i]? = some y → StepAt H y)), fun σ' H'' z => z, ?_⟩
      refine ⟨_, rfl, .inl ⟨rfl, _, SqL.of d2⟩, _, rfl, x, CWays K, dx, fs, _, rfl, s2 _ _ hx, T.cls_Ways, T.no_Ways_by, l3, _, rfl, bL, _, (u : Int), _, rfl, rfl, SqL.of (s2 _ _ hb), atI_nat hbu, p0, _, 3, .ref q0, rfl, rfl, SqT.of (s2 _ _ hp0), rfl, D, ss, _, rfl, rfl, d2, line_lt (by omega), ?_⟩
      have s3 : Same H (upd H' D (.lst (ss ++ [.ref q0]))) := Same.mut s2 hD
      refine ⟨_, rfl, x, CWays K, dx, fs, _, rfl, s3 _ _ hx, T.cls_Ways, T.no_Ways_by, l3, _, rfl, bL, _, (u : Int), _, rfl, rfl, SqL.of (s3 _ _ hb), atI_nat hbu, p0, _, 0, _, rfl, rfl, SqT.of (s3 _ _ hp0), rfl, ?_⟩
      refine ⟨q'.length, by simp, m.a, q', _, rfl, rfl, s3, upd_same, by simp at hl ⊢; omega, hr', hle _ _ hm, fun i y hy => ?_⟩
      rcases Nat.lt_trichotomy i ss.length with h | h | h
      · rw [List.getElem?_append_left h] at hy
        exact hss i y hy
      · subst h
        rw [List.getElem?_concat_length] at hy
        cases hy
        exact ⟨q0, _, _, _, rfl, hq0⟩
      · rw [List.getElem?_eq_none (by simp; omega)] at hy
        cases hy
end
end K53
namespace K53
open PySem PySem.Spec PyProof.Rows L2
section
variable {w : World} {K : PySem.W.Frag} {mg : Str → Option Value} {base : Heap}
/-! ### ways from all, from one -/
theorem mk_ways {H : Hp} {t cI : Addr} {n : Nat} {rs : List Ru} {C0 : Cs} {Q : VK} (hrs : RusAt K H t rs) (hn : n ≤ 48) (h8 : rs.length ≤ 8) (hc : H cI = some (.lst (C0.map optV))) (hC : C0.length = n + 1) (k : ∀ x H', Same H H' → WyAt K H' x (ways n (mvAll n 0 rs) C0) → Q (.ref x) H') :
    ∀ a d, H a = Option.none → H d = Option.none → d ≠ a → spWaysI K [V.ref a, .int (n : Int), .ref t, .ref cI] (upd (upd H d (.own a)) a (.ins (CWays K) d [])) (fun v H2 => v = .non ∧ Q (.ref a) H2) E0 := fun a d ha hd _ =>
  ⟨a, d, t, cI, n, rs, C0, H, rfl, upd_same, Same.inst ha hd, ha, hrs, hn, h8, hc, hC, fun H' b r => ⟨rfl, k a H' (But.same ha hd b) r⟩⟩
theorem rep_flat {α : Type} (x : α) : ∀ n, (List.replicate n [x]).flatten = List.replicate n x
  | 0 => rfl
  | n + 1 => by rw [List.replicate_succ, List.flatten_cons, rep_flat x n]; rfl
def spWAll (K : PySem.W.Frag) : Sp := fun vs H Q _ => ∃ (b : Addr) (n : Nat) (rs : List Ru), vs = [.ref b] ∧ BkAt K H b n rs ∧ n ≤ 48 ∧ rs.length ≤ 8 ∧ ∀ x H', Same H H' → WyAt K H' x (ways n (mvAll n 0 rs) (C0all n)) → Q (.ref x) H'
theorem ok_ways_from_all (T : Txt K mg) : FR Pg w K mg base 4 (He.ga K "ways_from_all") (spWAll K) := by
  have G_Ways : FnR Pg w K mg base CX0 2 _ (spWaysI K) := (ok_Ways_init T).raw
  obtain ⟨fd, F⟩ := T.f_ways_from_all
  refine FR.of F sc_ways_from_all (fun _ _ _ _ _ _ us hl => match us, hl with | [_], _ => rfl) (fun vs H Q E h => ?_) (fun cdv A outer s H vs Q E hr h => ?_)
  · obtain ⟨b, n, rs, rfl, _⟩ := h
    rfl
  · obtain ⟨b, n, rs, rfl, ⟨dx, fs, t, hb, e1, e2, hrs⟩, hn, h8, k⟩ := h
    refine ⟨_, ((pss_one (ps_ret (pe_mk T.mk_Ways G_Ways (hr.mono (by decide)) rfl T.glo_Ways (pa_cons (pe_fld (pv 0) rfl) (pa_cons (pe_fld (pv 0) rfl) (pa_cons (pe_op op_rep (pe_lst (pa_cons pe_int pa_nil)) (pe_op op_add (pe_fld (pv 0) rfl) pe_int)) pa_nil))))))), ?_⟩
    refine ⟨_, rfl, b, CBook K, dx, fs, _, rfl, hb, T.cls_Book, T.no_Book_days, e1, _, rfl, b, CBook K, dx, fs, _, rfl, hb, T.cls_Book, T.no_Book_rules, e2, ?_⟩
    refine ⟨line_le (by decide), fun l hl => ?_⟩
    have s1 := Same.new (o := .lst [.int 0]) hl
    refine ⟨_, rfl, b, CBook K, dx, fs, _, rfl, s1 _ _ hb, T.cls_Book, T.no_Book_days, e1, _, _, rfl, rfl, l, _, _, rfl, rfl, upd_same, by omega, by omega, line_le (by simp; omega), fun p hp => ?_⟩
    have s2 := Same.new (o := .lst (List.replicate ((n : Int) + 1).toNat [V.int 0]).flatten) hp
    refine mk_ways (C0 := C0all n) (hrs.same (s1.trans s2)) hn h8 ?_ (by unfold C0all; rw [List.length_replicate]) fun x H' s3 hw => k x H' ((s1.trans s2).trans s3) hw
    rw [upd_same, rep_flat, show ((n : Int) + 1).toNat = n + 1 by omega]
    unfold C0all
    rw [List.map_replicate] <;> rfl
def spWOne (K : PySem.W.Frag) : Sp := fun vs H Q _ => ∃ (b : Addr) (n i : Nat) (rs : List Ru), vs = [.ref b, .int (i : Int)] ∧ BkAt K H b n rs ∧ n ≤ 48 ∧ rs.length ≤ 8 ∧ ∀ x H', Same H H' → WyAt K H' x (ways n (mvAll n 0 rs) (C0one n i)) → Q (.ref x) H'
theorem ok_ways_from (T : Txt K mg) : FR Pg w K mg base 4 (He.ga K "ways_from") (spWOne K) := by
  have G_Ways : FnR Pg w K mg base CX0 2 _ (spWaysI K) := (ok_Ways_init T).raw
  obtain ⟨fd, F⟩ := T.f_ways_from
  refine FR.of F sc_ways_from (fun _ _ _ _ _ _ us hl => match us, hl with | [_, _], _ => rfl) (fun vs H Q E h => ?_) (fun cdv A outer s H vs Q E hr h => ?_)
  · obtain ⟨b, n, i, rs, rfl, _⟩ := h
    rfl
  · obtain ⟨b, n, i, rs, rfl, ⟨dx, fs, t, hb, e1, e2, hrs⟩, hn, h8, k⟩ := h
    refine ⟨_, ((pss_one (ps_ret (pe_mk T.mk_Ways G_Ways (hr.mono (by decide)) rfl T.glo_Ways (pa_cons (pe_fld (pv 0) rfl) (pa_cons (pe_fld (pv 0) rfl) (pa_cons (pe_lc (own := [("place", 2)]) (g := gName 2) (tt := tYes) (by rfl) sc_ways_from.nd (pi_range1 rfl T.free_range (pa_cons (pe_op op_add (pe_fld (pv 0) rfl) pe_int) pa_nil)) (blkOk_by (own := [("place", 2)]) (N := N_ways_from) (sc := defScope s_ways_from) (by decide +kernel)) (fun _ _ _ _ _ => (pg_name (i := 2) sc_ways_from.nd rfl (by first | exact Or.inl rfl | exact Or.inr rfl) (by first | exact Or.inl rfl | exact Or.inr rfl))) (fun _ _ _ _ _ => pts_nil) (fun _ _ _ _ _ => (pe_ifExp (pt_cmpR op_eq (pv 2) (pv 1) (nomark _)) pe_int pe_non))) pa_nil))))))), ?_⟩
    refine ⟨_, rfl, b, CBook K, dx, fs, _, rfl, hb, T.cls_Book, T.no_Book_days, e1, _, rfl, b, CBook K, dx, fs, _, rfl, hb, T.cls_Book, T.no_Book_rules, e2, ?_⟩
    refine ⟨_, rfl, b, CBook K, dx, fs, _, rfl, hb, T.cls_Book, T.no_Book_days, e1, _, _, rfl, rfl, _, rfl, by omega, by omega, fun D hD => ?_⟩
    rw [show ((n : Int) + 1).toNat = n + 1 by omega]
    refine lc_range (lo := 0) (n := n + 1) (fun j H' => Same H H' ∧ H' D = some (.lst (((List.range j).map fun p => if p = i then some (0 : Int) else none).map optV))) ⟨Same.new hD, upd_same⟩ ?_ ?_
    · rintro j H' hj ⟨s2, d2⟩
      have er : ((List.range (j + 1)).map fun p => if p = i then some (0 : Int) else none).map optV = ((List.range j).map fun p => if p = i then some (0 : Int) else none).map optV ++ [optV (if j = i then some 0 else none)] := by
        rw [List.range_succ, List.map_append, List.map_append]
        rfl
      refine ⟨rfl, _, rfl, _, rfl, rfl, _, rfl, ?_⟩
      rw [dec_int, Int.zero_add]
      by_cases e : j = i
      · subst e
        refine iteT' (by simp) ⟨_, d2, line_lt (by simp; omega), Same.mut s2 hD, ?_⟩
        rw [upd_same, er, if_pos rfl] <;> rfl
      · refine iteF' (by simp; omega) ⟨_, d2, line_lt (by simp; omega), Same.mut s2 hD, ?_⟩
        rw [upd_same, er, if_neg e] <;> rfl
    · rintro H' ⟨s2, d2⟩
      exact mk_ways (C0 := C0one n i) (hrs.same s2) hn h8 d2 (by unfold C0one; simp) fun x H'' s3 hw => k x H'' (s2.trans s3) hw
/-! ### kept_of, kept_heights -/
theorem all_ints {n : Nat} {C : Cs} (hC : C.length = n + 1) (h : ∀ v, v ≤ n → ∃ d, cAt C v = some d) : ∃ cs : List Int, cs.length = n + 1 ∧ C.map optV = iVs cs := by
  refine ⟨C.map fun o => o.getD 0, by rw [List.length_map, hC], ?_⟩
  rw [iVs, List.map_map]
  refine List.map_congr_left fun o ho => ?_
  obtain ⟨v, hv⟩ := List.getElem?_of_mem ho
  have hl : v < C.length := (List.getElem?_eq_some_iff.mp hv).1
  obtain ⟨d, hd⟩ := h v (by omega)
  unfold cAt at hd
  rw [List.getD_eq_getElem?_getD, hv] at hd
  have : o = some d := hd
  subst this
  rfl
theorem book_le {n : Nat} {rs : List Ru} : ∀ m ∈ mvAll n 0 rs, m.a ≤ n ∧ m.b ≤ n := fun _ h => mvAll_le h
def spKept (K : PySem.W.Frag) : Sp := fun vs H Q _ => ∃ (b : Addr) (n : Nat) (rs : List Ru) (h : Nat → Int), vs = [.ref b] ∧ BkAt K H b n rs ∧ 1 ≤ n ∧ n ≤ 48 ∧ rs.length ≤ 8 ∧ Feas (mvAll n 0 rs) h ∧
  ∀ a dx fs r hs H', Same H H' → H' a = some (.ins (CKept K) dx fs) → fs.lookup ("row" : Str) = some (.ref r) → RwAt K H' r hs → hs.length = n + 1 → Q (.ref a) H'
theorem ok_kept_of (T : Txt K mg) : FR Pg w K mg base 8 (He.ga K "kept_of") (spKept K) := by
  have G_ways_from_all : FR Pg w K mg base 4 _ (spWAll K) := ok_ways_from_all T
  have G_Ways_ring : FR Pg w K mg base 1 _ (spRing K) := ok_ring T
  have G_row_by : FR Pg w K mg base 5 _ (spRowBy (K := K)) := ok_row_by T
  have G_Kept : FnR Pg w K mg base CX0 6 _ (spKeptI K) := ok_Kept_init T
  obtain ⟨fd, F⟩ := T.f_kept_of
  refine FR.of F sc_kept_of (fun _ _ _ _ _ _ us hl => match us, hl with | [_], _ => rfl) (fun vs H Q E h => ?_) (fun cdv A outer s H vs Q E hr h => ?_)
  · obtain ⟨b, n, rs, h, rfl, _⟩ := h
    rfl
  · obtain ⟨b, n, rs, h, rfl, hb, h1, h48, h8, hF, k⟩ := h
    have D := ways_done (C0 := C0all n) hF book_le (by unfold C0all; simp)
    refine ⟨_, ((pss_cons (ps_set (i := 1) sc_kept_of.nd rfl (by first | exact Or.inl rfl | exact Or.inr rfl) (pe_fn G_ways_from_all (hr.mono (by decide)) rfl T.glo_ways_from_all (pa_cons (pv 0) pa_nil)))
  (pss_cons (ps_set (i := 2) sc_kept_of.nd rfl (by first | exact Or.inl rfl | exact Or.inr rfl) (pe_mt0 (pv 1) T.cls_Ways T.me_Ways_ring G_Ways_ring (hr.mono (by decide))))
  (pss_one (ps_ret (pe_ifExp (pt_cmpR op_isN (pv 2) pe_non (nomark _)) (pe_mk T.mk_Kept G_Kept (hr.mono (by decide)) rfl T.glo_Kept (pa_cons (pe_fn G_row_by (hr.mono (by decide)) rfl T.glo_row_by (pa_cons (pe_fld (pv 1) rfl) pa_nil)) pa_nil)) pe_never)))))), ?_⟩
    refine ⟨_, rfl, b, n, rs, rfl, hb, h48, h8, fun x H1 s1 hw => ?_⟩
    obtain ⟨dx, cL, bL, fs, bs, hx, l2, l3, l4, ⟨n2, n3⟩, hc, hbL, pb⟩ := hw
    refine ⟨_, rfl, x, dx, fs, rfl, hx, n2, x, _, rfl, ⟨dx, cL, bL, fs, bs, hx, l2, l3, l4, ⟨n2, n3⟩, hc, hbL, pb⟩, D.f, ?_⟩
    refine ⟨_, rfl, rfl, true, rfl, iteT ?_⟩
    obtain ⟨cs, hcs, ec⟩ := all_ints D.lc (all_costs D)
    rw [ec] at hc
    refine ⟨_, rfl, x, CWays K, dx, fs, _, rfl, hx, T.cls_Ways, T.no_Ways_costs, l2, cL, cs, rfl, hc, by omega, by omega, fun r H2 s2 hr2 => ?_⟩
    exact mk_kept hr2 fun a d fs2 H3 s3 ha hl => k a d fs2 r _ H3 ((s1.trans s2).trans s3) ha hl (RwAt.same s3 hr2) (by rw [hts_len, difs_len]; omega)
def spKH (K : PySem.W.Frag) : Sp := fun vs H Q _ => ∃ (b : Addr) (n : Nat) (rs : List Ru) (h : Nat → Int), vs = [.ref b] ∧ BkAt K H b n rs ∧ 1 ≤ n ∧ n ≤ 48 ∧ rs.length ≤ 8 ∧ Feas (mvAll n 0 rs) h ∧
  ∀ t hs H', Same H H' → H' t = some (.tup (iVs hs)) → hs.length = n + 1 → Q (.ref t) H'
theorem ok_kept_heights (T : Txt K mg) : FR Pg w K mg base 9 (He.ga K "kept_heights") (spKH K) := by
  have G_kept_of : FR Pg w K mg base 8 _ (spKept K) := ok_kept_of T
  have G_Paper_bool : FR Pg w K mg base 1 _ spTruth := ok_Paper_bool T
  obtain ⟨fd, F⟩ := T.f_kept_heights
  refine FR.of F sc_kept_heights (fun _ _ _ _ _ _ us hl => match us, hl with | [_], _ => rfl) (fun vs H Q E h => ?_) (fun cdv A outer s H vs Q E hr h => ?_)
  · obtain ⟨b, n, rs, h, rfl, _⟩ := h
    rfl
  · obtain ⟨b, n, rs, h, rfl, hb, h1, h48, h8, hF, k⟩ := h
    refine ⟨_, ((pss_cons (ps_set (i := 1) sc_kept_heights.nd rfl (by first | exact Or.inl rfl | exact Or.inr rfl) (pe_fn G_kept_of (hr.mono (by decide)) rfl T.glo_kept_of (pa_cons (pv 0) pa_nil)))
  (pss_cons (ps_if (pt_not (pt_own (pv 1) T.me_Kept_bool G_Paper_bool (hr.mono (by decide)))) (pss_one ps_never) pss_nil)
  (pss_one (ps_ret (pe_fld (pe_fld (pv 1) rfl) rfl)))))), ?_⟩
    refine ⟨_, rfl, b, n, rs, h, rfl, hb, h1, h48, h8, hF, fun a dx fs r hs H1 s1 ha hl hr1 hn => ?_⟩
    refine ⟨_, rfl, a, dx, fs, rfl, ha, a, rfl, true, rfl, iteF ?_⟩
    obtain ⟨dr, fr, t, e1, e2, e3⟩ := hr1
    exact ⟨_, rfl, a, CKept K, dx, fs, _, rfl, ha, T.cls_Kept, T.no_Kept_row, hl, r, CRow K, dr, fr, _, rfl, e1, T.cls_Row, T.no_Row_heights, e2, k t hs H1 s1 e3 hn⟩
end
end K53
namespace K53
open PySem PySem.Spec PyProof.Rows L2
/-- the places that have a cost -/
def plcN (C : Cs) (n : Nat) : List Int := ((List.range n).filter fun v => (cAt C v).isSome).map fun v : Nat => (v : Int)
theorem plcN_succ (C : Cs) (n : Nat) : plcN C (n + 1) = plcN C n ++ (if (cAt C n).isSome = true then [(n : Int)] else []) := by
  unfold plcN
  rw [List.range_succ, List.filter_append, List.map_append]
  by_cases h : (cAt C n).isSome = true
  · rw [if_pos h]
    simp [h]
  · rw [if_neg h]
    simp [h]
theorem plcN_len (C : Cs) (n : Nat) : (plcN C n).length ≤ n := by
  unfold plcN
  rw [List.length_map]
  exact Nat.le_trans (List.length_filter_le _ _) (by simp)
theorem get_iVs {hs : List Int} {v : Nat} (h : v < hs.length) : ∃ i, (iVs hs)[v]? = some (.int i) := ⟨hs[v], by simp [iVs, h]⟩
section
variable {w : World} {K : PySem.W.Frag} {mg : Str → Option Value} {base : Heap}
/-! ### places_of -/
def spPlaces (K : PySem.W.Frag) : Sp := fun vs H Q _ => ∃ (x : Addr) (s : WS), vs = [.ref x] ∧ WyAt K H x s ∧ s.C.length ≤ 49 ∧ ∀ a H', Same H H' → H' a = some (.lst (iVs (plcN s.C s.C.length))) → Q (.ref a) H'
theorem ok_places_of (T : Txt K mg) : FR Pg w K mg base 1 (He.ga K "places_of") (spPlaces K) := by
  obtain ⟨fd, F⟩ := T.f_places_of
  refine FR.of F sc_places_of (fun _ _ _ _ _ _ us hl => match us, hl with | [_], _ => rfl) (fun vs H Q E h => ?_) (fun cdv A outer s H vs Q E hr h => ?_)
  · obtain ⟨x, s, rfl, _⟩ := h
    rfl
  · obtain ⟨x, s, rfl, ⟨dx, cL, bL, fs, bs, hx, l2, l3, l4, nn, hc, hb, pb⟩, hn, k⟩ := h
    refine ⟨_, ((pss_one (ps_ret (pe_lc (own := [("place", 1), ("cost", 2)]) (g := gTup K 2 (gCons (gName 1) (gCons (gName 2) gNil))) (by rfl) sc_places_of.nd (pi_enum rfl T.free_enumerate (pa_cons (pe_fld (pv 0) rfl) pa_nil)) (blkOk_by (own := [("place", 1), ("cost", 2)]) (N := N_places_of) (sc := defScope s_places_of) (by decide +kernel)) (fun _ _ _ _ _ => (pg_tup rfl (pgs_cons (pg_name (i := 1) sc_places_of.nd rfl (by first | exact Or.inl rfl | exact Or.inr rfl) (by first | exact Or.inl rfl | exact Or.inr rfl)) (pgs_cons (pg_name (i := 2) sc_places_of.nd rfl (by first | exact Or.inl rfl | exact Or.inr rfl) (by first | exact Or.inl rfl | exact Or.inr rfl)) pgs_nil)))) (fun _ _ _ _ _ => (pts_one (pt_cmpR op_notN (pv 2) pe_non (nomark _)))) (fun _ _ _ _ _ => (pv 1)))))), ?_⟩
    refine ⟨_, rfl, x, CWays K, dx, fs, _, rfl, hx, T.cls_Ways, T.no_Ways_costs, l2, cL, _, rfl, SqL.of hc, fun D hD => ?_⟩
    refine lc_it (walk_enum (K := K) (a := cL) (xs := s.C.map optV)) (fun i H' => Same H H' ∧ H' D = some (.lst (iVs (plcN s.C i)))) ⟨Same.new hD, upd_same⟩ (fun i H' _ ⟨s2, _⟩ => SqL.of (s2 _ _ hc)) ?_ ?_
    · rintro i v H1 H2 hi ⟨s2, d2⟩ ⟨p, a, b, rfl, hp, rfl, ea, eb⟩
      rw [List.length_map] at hi
      cases ea
      have eb : (s.C.map optV)[i]? = some b := eb
      rw [get_cAt hi rfl] at eb
      cases eb
      have sp := Same.new (o := .tup [.int (i : Int), optV (cAt s.C i)]) hp
      refine ⟨p, _, rfl, SqT.of upd_same, rfl, _, _, rfl, _, _, rfl, rfl, rfl, _, rfl, rfl, ?_⟩
      generalize e : cAt s.C i = o at *
      have ep : plcN s.C (i + 1) = plcN s.C i ++ (if o.isSome = true then [(i : Int)] else []) := by rw [plcN_succ, e]
      cases o with
      | none =>
        refine ⟨false, rfl, iteF ⟨s2.trans sp, ?_⟩⟩
        rw [ep, if_neg (by simp), List.append_nil]
        exact sp _ _ d2
      | some d =>
        refine ⟨true, rfl, iteT ⟨_, rfl, _, sp _ _ d2, line_lt (by rw [len_iVs]; have := plcN_len s.C i; omega), Same.mut (s2.trans sp) hD, ?_⟩⟩
        rw [ep, if_pos (show (some d).isSome = true from rfl), iVs_app]
        exact upd_same
    · rintro H' ⟨s2, d2⟩
      rw [List.length_map] at d2
      exact k D H' s2 d2
/-! ### lift_of: some int -/
def spLift (K : PySem.W.Frag) : Sp := fun vs H Q _ => ∃ (b cL bt : Addr) (n : Nat) (rs : List Ru) (C : Cs) (hs : List Int), vs = [.ref b, .ref cL, .ref bt] ∧ BkAt K H b n rs ∧ n ≤ 48 ∧ rs.length ≤ 8 ∧ H cL = some (.lst (C.map optV)) ∧ C.length = n + 1 ∧ H bt = some (.tup (iVs hs)) ∧ hs.length = n + 1 ∧ ∀ (m : Int) H', Same H H' → Q (.int m) H'
theorem ok_lift_of (T : Txt K mg) : FR Pg w K mg base 2 (He.ga K "lift_of") (spLift K) := by
  have G_moves_of : FR Pg w K mg base 1 _ (spMoves K) := ok_moves_of T
  obtain ⟨fd, F⟩ := T.f_lift_of
  refine FR.of F sc_lift_of (fun _ _ _ _ _ _ us hl => match us, hl with | [_, _, _], _ => rfl) (fun vs H Q E h => ?_) (fun cdv A outer s H vs Q E hr h => ?_)
  · obtain ⟨b, cL, bt, n, rs, C, hs, rfl, _⟩ := h
    rfl
  · obtain ⟨b, cL, bt, n, rs, C, hs, rfl, ⟨dx, fs, t, hb, e1, e2, hrs⟩, hn, h8, hc, hC, ht, hl, k⟩ := h
    refine ⟨_, ((pss_cons (ps_set (i := 3) sc_lift_of.nd rfl (by first | exact Or.inl rfl | exact Or.inr rfl) (pe_fn G_moves_of (hr.mono (by decide)) rfl T.glo_moves_of (pa_cons (pe_fld (pv 0) rfl) (pa_cons (pe_fld (pv 0) rfl) pa_nil))))
  (pss_cons (ps_setLc (i := 3) (own := [("move", 4)]) (g := gName 4) rfl sc_lift_of.nd rfl rfl (sw_true rfl rfl rfl (by decide +kernel)) (pi_list (pv 3)) (blkOk_by (own := [("move", 4)]) (N := N_lift_of) (sc := defScope s_lift_of) (by decide +kernel)) (fun _ _ _ _ _ => (pg_name (i := 4) sc_lift_of.nd rfl (by first | exact Or.inl rfl | exact Or.inr rfl) (by first | exact Or.inl rfl | exact Or.inr rfl))) (fun _ _ _ _ _ => (pts_one (PW.pt (pw_and (pt_cmpR op_isN (pe_ix (r := rIxL K) ix_list (pv 1) (pe_ix (r := rIxT K) ix_tup (pv 4) pe_int (fun _ _ => rfl)) (fun _ _ => rfl)) pe_non (nomark _)) (pw_and1 (pt_cmpR op_notN (pe_ix (r := rIxL K) ix_list (pv 1) (pe_ix (r := rIxT K) ix_tup (pv 4) pe_int (fun _ _ => rfl)) (fun _ _ => rfl)) pe_non (nomark _))))))) (fun _ _ _ _ _ => (pv 4)))
  (pss_one (ps_ret (pe_callBK (ks := ["default"]) (cr_maxD rfl hr.units) (by rfl) T.free_max (by decide +kernel) (pa_cons (pe_lc (own := [("ahead", 5), ("behind", 6), ("cost", 7), ("_", 8)]) (g := gTup K 4 (gCons (gName 5) (gCons (gName 6) (gCons (gName 7) (gCons (gName 8) gNil))))) (tt := tYes) (by rfl) sc_lift_of.nd (pi_list (pv 3)) (blkOk_by (own := [("ahead", 5), ("behind", 6), ("cost", 7), ("_", 8)]) (N := N_lift_of) (sc := defScope s_lift_of) (by decide +kernel)) (fun _ _ _ _ _ => (pg_tup rfl (pgs_cons (pg_name (i := 5) sc_lift_of.nd rfl (by first | exact Or.inl rfl | exact Or.inr rfl) (by first | exact Or.inl rfl | exact Or.inr rfl)) (pgs_cons (pg_name (i := 6) sc_lift_of.nd rfl (by first | exact Or.inl rfl | exact Or.inr rfl) (by first | exact Or.inl rfl | exact Or.inr rfl)) (pgs_cons (pg_name (i := 7) sc_lift_of.nd rfl (by first | exact Or.inl rfl | exact Or.inr rfl) (by first | exact Or.inl rfl | exact Or.inr rfl)) (pgs_cons (pg_name (i := 8) sc_lift_of.nd rfl (by first | exact Or.inl rfl | exact Or.inr rfl) (by first | exact Or.inl rfl | exact Or.inr rfl)) pgs_nil)))))) (fun _ _ _ _ _ => pts_nil) (fun _ _ _ _ _ => (pe_op op_sub (pe_op op_sub (pe_ix (r := rIxL K) ix_list (pv 1) (pv 6) (fun _ _ => rfl)) (pe_ix (r := rIxT K) ix_tup (pv 2) (pv 5) (fun _ _ => rfl))) (pv 7)))) pa_nil) (pk_cons pe_int pk_nil))))))), ?_⟩
    refine ⟨_, rfl, b, CBook K, dx, fs, _, rfl, hb, T.cls_Book, T.no_Book_days, e1, _, rfl, b, CBook K, dx, fs, _, rfl, hb, T.cls_Book, T.no_Book_rules, e2, ?_⟩
    refine ⟨n, t, rs, rfl, hrs, hn, h8, fun mL ys H1 s1 hm pm => ?_⟩
    have hle : ys.length ≤ 1000 := by
      have q1 := mvAll_len n rs 0
      have q3 : rs.length * (2 * (n + 1)) ≤ 8 * (2 * (n + 1)) := Nat.mul_le_mul_right _ h8
      have q2 : ys.length = _ := Paired.length pm
      omega
    refine ⟨_, rfl, mL, rfl, ⟨_, SqL.of hm⟩, fun D hD => ?_⟩
    refine lc_list (K := K) (a := mL) (xs := ys) (fun i H' => Same H1 H' ∧ ∃ acc, H' D = some (.lst acc) ∧ acc.length ≤ i ∧ ∀ (j : Nat) y, acc[j]? = some y → ∃ m, m ∈ mvAll n 0 rs ∧ MvAt H1 y m ∧ ∃ d, cAt C m.b = some d) ⟨Same.new hD, [], upd_same, Nat.le_refl 0, fun j y hy => by simp at hy⟩ (fun i H' _ ⟨s2, _⟩ => SqL.of (s2 _ _ hm)) ?_ ?_
    · rintro i v H2 hi ⟨s2, acc, d2, hacc, hall⟩
      have hil := (List.getElem?_eq_some_iff.mp hi).1
      obtain ⟨m, hm', hmA⟩ := Paired.getL pm hi
      have hmm := List.mem_of_getElem? hm'
      obtain ⟨la, lb⟩ := mvAll_le hmm
      have hmA2 := hmA
      obtain ⟨p, q, rfl, hp, hq⟩ := hmA2
      have hp2 := s2 _ _ hp
      have hc2 := s2 _ _ (s1 _ _ hc)
      refine ⟨rfl, ⟨_, rfl, _, rfl, p, _, 0, .int (m.a : Int), rfl, rfl, SqT.of hp2, rfl, cL, _, (m.a : Int), _, rfl, rfl, SqL.of hc2, atI_nat (get_cAt (by omega) rfl), rfl, ?_⟩⟩
      cases ea : cAt C m.a with
      | some d => exact ⟨false, rfl, iteF (iteF ⟨s2, acc, d2, by omega, hall⟩)⟩
      | none =>
        refine ⟨true, rfl, iteT ⟨_, rfl, _, rfl, p, _, 1, .int (m.b : Int), rfl, rfl, SqT.of hp2, rfl, cL, _, (m.b : Int), _, rfl, rfl, SqL.of hc2, atI_nat (get_cAt (by omega) rfl), rfl, ?_⟩⟩
        cases eb : cAt C m.b with
        | none => exact ⟨false, rfl, iteF ⟨s2, acc, d2, by omega, hall⟩⟩
        | some d =>
          refine ⟨true, rfl, iteT ⟨_, rfl, acc, d2, line_lt (by omega), Same.mut s2 hD, _, upd_same, by simp; omega, fun j y hy => ?_⟩⟩
          rcases Nat.lt_trichotomy j acc.length with h | h | h
          · rw [List.getElem?_append_left h] at hy
            exact hall j y hy
          · subst h
            rw [List.getElem?_concat_length] at hy
            cases hy
            exact ⟨m, hmm, hmA, d, eb⟩
          · rw [List.getElem?_eq_none (by simp; omega)] at hy
            cases hy
    rintro H2 ⟨s2, acc, d2, hacc, hall⟩
    refine ⟨_, rfl, D, rfl, ⟨_, SqL.of d2⟩, fun D2 hD2 => ?_⟩
    have s12 := s1.trans s2
    have hlt : ∀ v, v ≤ n → ∃ i, (iVs hs)[v]? = some (.int i) := fun v hv => get_iVs (by omega)
    refine lc_list (K := K) (a := D) (xs := acc) (fun i H' => Same H2 H' ∧ ∃ ns : List Int, H' D2 = some (.lst (iVs ns)) ∧ ns.length ≤ i) ⟨Same.new hD2, [], upd_same, Nat.le_refl 0⟩ (fun i H' _ ⟨s3, _⟩ => SqL.of (s3 _ _ d2)) ?_ ?_
    · rintro i v H3 hi ⟨s3, ns, d3, hns⟩
      have hil := (List.getElem?_eq_some_iff.mp hi).1
      obtain ⟨m, hmm, ⟨p, q, rfl, hp, hq⟩, d, hd⟩ := hall i _ hi
      obtain ⟨la, lb⟩ := mvAll_le hmm
      have hp3 := s3 _ _ (s2 _ _ hp)
      obtain ⟨y, hy⟩ := hlt m.a la
      change gTup K 4 (gCons (gName 5) (gCons (gName 6) (gCons (gName 7) (gCons (gName 8) gNil)))) _ [some (.ref b), some (.ref cL), some (.ref bt), some (.ref D), none, none, none, none, none] _ _
      refine ⟨p, _, rfl, SqT.of hp3, rfl, _, _, rfl, _, _, rfl, _, _, rfl, _, _, rfl, rfl, ?_⟩
      change _ ∧ tYes [some (.ref b), some (.ref cL), some (.ref bt), some (.ref D), none, some (.int (m.a : Int)), some (.int (m.b : Int)), some (.int m.c), some (.ref q)] _ _
      refine ⟨rfl, ?_⟩
      refine ⟨_, rfl, _, rfl, cL, _, (m.b : Int), .int d, rfl, rfl, SqL.of (s3 _ _ (s12 _ _ hc)), atI_nat (get_cAt (by omega) hd), _, rfl, _, rfl, bt, _, (m.a : Int), .int y, rfl, rfl, SqT.of (s3 _ _ (s12 _ _ ht)), atI_nat hy, d, y, rfl, rfl, _, rfl, _, _, rfl, rfl, ?_⟩
      exact ⟨_, d3, line_lt (by rw [len_iVs]; omega), Same.mut s3 hD2, ns ++ [d - y - m.c], by rw [upd_same, iVs_app], by simp; omega⟩
    · rintro H3 ⟨s3, ns, d3, hns⟩
      exact ⟨D2, ns, 0, rfl, rfl, SqL.of d3, fun m => k m H3 (s12.trans s3)⟩
end
end K53
namespace K53
open PySem PySem.Spec PyProof.Rows L2
section
variable {w : World} {K : PySem.W.Frag} {mg : Str → Option Value} {base : Heap}
/-! ### raised_row -/
def spRaised (K : PySem.W.Frag) : Sp := fun vs H Q _ => ∃ (b cL bt : Addr) (n : Nat) (rs : List Ru) (C : Cs) (hs : List Int), vs = [.ref b, .ref cL, .ref bt, .int 0, .int 0] ∧ BkAt K H b n rs ∧ 1 ≤ n ∧ n ≤ 48 ∧ rs.length ≤ 8 ∧ H cL = some (.lst (C.map optV)) ∧ C.length = n + 1 ∧ H bt = some (.tup (iVs hs)) ∧ hs.length = n + 1 ∧ ∀ r xs H', Same H H' → RwAt K H' r xs → Q (.ref r) H'
theorem ok_raised_row (T : Txt K mg) : FRd Pg w K mg base 6 (He.ga K "raised_row") [.int 0, .int 0] (spRaised K) := by
  have G_lift_of : FR Pg w K mg base 2 _ (spLift K) := ok_lift_of T
  have G_Row_of : FR Pg w K mg base 5 _ (spRowOf (K := K)) := ok_Row_of T
  obtain ⟨fd, F⟩ := T.f_raised_row
  have ok : FnOk Pg w K mg base CX0 6 (He.ga K "raised_row") fd ["book", "costs", "base", "place", "at_least"] (spRaised K) := by
    refine FunD.ok (k := 5) F sc_raised_row (fun vs H Q E h => ?_) (fun cdv A outer s H vs Q E hr h => ?_)
    · obtain ⟨b, cL, bt, n, rs, C, hs, rfl, _⟩ := h
      rfl
    · obtain ⟨b, cL, bt, n, rs, C, hs, rfl, hb, h1, hn, h8, hc, hC, ht, hl, k⟩ := h
      refine ⟨_, PSs.nox ((pss_cons (ps_set (i := 5) sc_raised_row.nd rfl (by first | exact Or.inl rfl | exact Or.inr rfl) (pe_fn G_lift_of (hr.mono (by decide)) rfl T.glo_lift_of (pa_cons (pv 0) (pa_cons (pv 1) (pa_cons (pv 2) pa_nil)))))
  (pss_cons (ps_if (pt_cmpR op_isN (pe_ix (r := rIxL K) ix_list (pv 1) (pv 3) (fun _ _ => rfl)) pe_non (nomark _)) (pss_one (ps_set (i := 5) sc_raised_row.nd rfl (by first | exact Or.inl rfl | exact Or.inr rfl) (pe_callB (call_max2 rfl) (by rfl) T.free_max (by decide +kernel) (pa_cons (pv 5) (pa_cons (pe_op op_sub (pv 4) (pe_ix (r := rIxT K) ix_tup (pv 2) (pv 3) (fun _ _ => rfl))) pa_nil))))) pss_nil)
  (pss_cons (ps_set (i := 6) sc_raised_row.nd rfl (by first | exact Or.inl rfl | exact Or.inr rfl) (pe_lc (own := [("at", 7), ("cost", 8)]) (g := gTup K 2 (gCons (gName 7) (gCons (gName 8) gNil))) (tt := tYes) (by rfl) sc_raised_row.nd (pi_enum rfl T.free_enumerate (pa_cons (pv 1) pa_nil)) (blkOk_by (own := [("at", 7), ("cost", 8)]) (N := N_raised_row) (sc := defScope s_raised_row) (by decide +kernel)) (fun _ _ _ _ _ => (pg_tup rfl (pgs_cons (pg_name (i := 7) sc_raised_row.nd rfl (by first | exact Or.inl rfl | exact Or.inr rfl) (by first | exact Or.inl rfl | exact Or.inr rfl)) (pgs_cons (pg_name (i := 8) sc_raised_row.nd rfl (by first | exact Or.inl rfl | exact Or.inr rfl) (by first | exact Or.inl rfl | exact Or.inr rfl)) pgs_nil)))) (fun _ _ _ _ _ => pts_nil) (fun _ _ _ _ _ => (pe_ifExp (pt_cmpR op_isN (pv 8) pe_non (nomark _)) (pe_op op_add (pe_ix (r := rIxT K) ix_tup (pv 2) (pv 7) (fun _ _ => rfl)) (pv 5)) (pv 8)))))
  (pss_one (ps_ret (pe_sm (smB_ok T.sm_Row_of) G_Row_of (hr.mono (by decide)) rfl T.glo_Row (pa_cons (pe_lc (own := [("height", 9)]) (g := gName 9) (tt := tYes) (by rfl) sc_raised_row.nd (pi_list (pv 6)) (blkOk_by (own := [("height", 9)]) (N := N_raised_row) (sc := defScope s_raised_row) (by decide +kernel)) (fun _ _ _ _ _ => (pg_name (i := 9) sc_raised_row.nd rfl (by first | exact Or.inl rfl | exact Or.inr rfl) (by first | exact Or.inl rfl | exact Or.inr rfl))) (fun _ _ _ _ _ => pts_nil) (fun _ _ _ _ _ => (pe_op op_sub (pv 9) (pe_ix (r := rIxL K) ix_list (pv 6) pe_int (fun _ _ => rfl))))) pa_nil)))))))), ?_⟩
      refine ⟨_, rfl, _, rfl, _, rfl, b, cL, bt, n, rs, C, hs, rfl, hb, hn, h8, hc, hC, ht, hl, fun m H1 s1 => ?_⟩
      have hc1 := s1 _ _ hc
      obtain ⟨y, hy⟩ := get_iVs (hs := hs) (v := 0) (by omega)
      refine ⟨_, rfl, _, rfl, cL, _, ((0 : Nat) : Int), _, rfl, rfl, SqL.of hc1, atI_nat (get_cAt (by omega) rfl), rfl, ?_⟩
      cases e0 : cAt C 0 with
      | none =>
        refine ⟨true, rfl, iteT ?_⟩
        refine ⟨_, rfl, _, rfl, _, rfl, _, rfl, bt, _, ((0 : Nat) : Int), .int y, rfl, rfl, SqT.of (s1 _ _ ht), atI_nat hy, _, _, rfl, rfl, _, _, rfl, ?_⟩
        generalize (if 0 - y > m then 0 - y else m) = m2
        refine ⟨_, rfl, cL, _, rfl, SqL.of hc1, fun D hD => ?_⟩
        refine lc_it (walk_enum (K := K) (a := cL) (xs := C.map optV)) (fun i H' => Same H H' ∧ ∃ ns : List Int, H' D = some (.lst (iVs ns)) ∧ ns.length = i) ⟨s1.trans (Same.new hD), [], upd_same, rfl⟩ (fun i H' _ ⟨s2, _⟩ => SqL.of (s2 _ _ hc)) ?_ ?_
        · rintro i v H2 H3 hi ⟨s2, ns, d2, hns⟩ ⟨p, a, b2, rfl, hp, rfl, ea, eb⟩
          rw [List.length_map] at hi
          cases ea
          have eb : (C.map optV)[i]? = some b2 := eb
          rw [get_cAt hi rfl] at eb
          cases eb
          have sp := Same.new (o := .tup [.int (i : Int), optV (cAt C i)]) hp
          change gTup K 2 (gCons (gName 7) (gCons (gName 8) gNil)) _ [some (.ref b), some (.ref cL), some (.ref bt), some (.int 0), some (.int 0), some (.int m2), none, none, none, none] _ _
          refine ⟨p, _, rfl, SqT.of upd_same, rfl, _, _, rfl, _, _, rfl, rfl, ?_⟩
          change _ ∧ tYes [some (.ref b), some (.ref cL), some (.ref bt), some (.int 0), some (.int 0), some (.int m2), none, some (.int (i : Int)), some (optV (cAt C i)), none] _ _
          refine ⟨rfl, ?_⟩
          cases e : cAt C i with
          | none =>
            rw [e] at sp
            obtain ⟨y2, hy2⟩ := get_iVs (hs := hs) (v := i) (by omega)
            refine ⟨_, rfl, rfl, true, rfl, iteT ⟨_, rfl, _, rfl, bt, _, (i : Int), .int y2, rfl, rfl, SqT.of (sp _ _ (s2 _ _ ht)), atI_nat hy2, _, rfl, y2, _, rfl, rfl, _, sp _ _ d2, line_lt (by rw [len_iVs]; omega), Same.mut (s2.trans sp) (s1.free hD), ns ++ [_], by rw [upd_same, iVs_app], by simp; omega⟩⟩
          | some d =>
            rw [e] at sp
            refine ⟨_, rfl, rfl, false, rfl, iteF ⟨_, rfl, _, sp _ _ d2, line_lt (by rw [len_iVs]; omega), Same.mut (s2.trans sp) (s1.free hD), ns ++ [d], by rw [upd_same, iVs_app]; rfl, by simp; omega⟩⟩
        rintro H2 ⟨s2, ns, d2, hns⟩
        rw [List.length_map, hC] at hns
        obtain ⟨x0, x1, xr, rfl⟩ : ∃ x0 x1 xr, ns = x0 :: x1 :: xr := by
          match ns, hns with
          | [], h => simp at h
          | [_], h => simp at h; omega
          | x0 :: x1 :: xr, _ => exact ⟨_, _, _, rfl⟩
        refine ⟨_, rfl, D, rfl, ⟨_, SqL.of d2⟩, fun D2 hD2 => ?_⟩
        refine lc_list (K := K) (a := D) (xs := iVs (x0 :: x1 :: xr)) (fun i H' => Same H2 H' ∧ H' D2 = some (.lst (iVs (((x0 :: x1 :: xr).take i).map (· - x0))))) ⟨Same.new hD2, upd_same⟩ (fun i H' _ ⟨s3, _⟩ => SqL.of (s3 _ _ d2)) ?_ ?_
        · rintro i v H3 hi ⟨s3, d3⟩
          obtain ⟨y3, hy3, rfl⟩ := int_get hi
          change gName 9 _ [some (.ref b), some (.ref cL), some (.ref bt), some (.int 0), some (.int 0), some (.int m2), some (.ref D), none, none, none] _ _
          refine ⟨rfl, _, rfl, _, rfl, D, _, 0, .int x0, rfl, rfl, SqL.of (s3 _ _ d2), atI_nat (j := 0) rfl, y3, x0, rfl, rfl, _, d3, line_lt (by rw [len_iVs]; simp at hns ⊢; omega), Same.mut s3 hD2, ?_⟩
          rw [upd_same, take_get hy3, List.map_append, List.map_cons, List.map_nil, iVs_app]
        rintro H3 ⟨s3, d3⟩
        rw [len_iVs, List.take_length, List.map_cons, List.map_cons, show x0 - x0 = 0 by omega] at d3
        refine ⟨D2, x1 - x0, xr.map (· - x0), rfl, d3, by simp at hns ⊢; omega, fun r H4 s4 hr4 => k r _ H4 ((s2.trans s3).trans s4) hr4⟩
      | some d0 =>
        refine ⟨false, rfl, iteF ?_⟩
        refine ⟨_, rfl, cL, _, rfl, SqL.of hc1, fun D hD => ?_⟩
        refine lc_it (walk_enum (K := K) (a := cL) (xs := C.map optV)) (fun i H' => Same H H' ∧ ∃ ns : List Int, H' D = some (.lst (iVs ns)) ∧ ns.length = i) ⟨s1.trans (Same.new hD), [], upd_same, rfl⟩ (fun i H' _ ⟨s2, _⟩ => SqL.of (s2 _ _ hc)) ?_ ?_
        · rintro i v H2 H3 hi ⟨s2, ns, d2, hns⟩ ⟨p, a, b2, rfl, hp, rfl, ea, eb⟩
          rw [List.length_map] at hi
          cases ea
          have eb : (C.map optV)[i]? = some b2 := eb
          rw [get_cAt hi rfl] at eb
          cases eb
          have sp := Same.new (o := .tup [.int (i : Int), optV (cAt C i)]) hp
          change gTup K 2 (gCons (gName 7) (gCons (gName 8) gNil)) _ [some (.ref b), some (.ref cL), some (.ref bt), some (.int 0), some (.int 0), some (.int m), none, none, none, none] _ _
          refine ⟨p, _, rfl, SqT.of upd_same, rfl, _, _, rfl, _, _, rfl, rfl, ?_⟩
          change _ ∧ tYes [some (.ref b), some (.ref cL), some (.ref bt), some (.int 0), some (.int 0), some (.int m), none, some (.int (i : Int)), some (optV (cAt C i)), none] _ _
          refine ⟨rfl, ?_⟩
          cases e : cAt C i with
          | none =>
            rw [e] at sp
            obtain ⟨y2, hy2⟩ := get_iVs (hs := hs) (v := i) (by omega)
            refine ⟨_, rfl, rfl, true, rfl, iteT ⟨_, rfl, _, rfl, bt, _, (i : Int), .int y2, rfl, rfl, SqT.of (sp _ _ (s2 _ _ ht)), atI_nat hy2, _, rfl, y2, _, rfl, rfl, _, sp _ _ d2, line_lt (by rw [len_iVs]; omega), Same.mut (s2.trans sp) (s1.free hD), ns ++ [_], by rw [upd_same, iVs_app], by simp; omega⟩⟩
          | some d =>
            rw [e] at sp
            refine ⟨_, rfl, rfl, false, rfl, iteF ⟨_, rfl, _, sp _ _ d2, line_lt (by rw [len_iVs]; omega), Same.mut (s2.trans sp) (s1.free hD), ns ++ [d], by rw [upd_same, iVs_app]; rfl, by simp; omega⟩⟩
        rintro H2 ⟨s2, ns, d2, hns⟩
        rw [List.length_map, hC] at hns
        obtain ⟨x0, x1, xr, rfl⟩ : ∃ x0 x1 xr, ns = x0 :: x1 :: xr := by
          match ns, hns with
          | [], h => simp at h
          | [_], h => simp at h; omega
          | x0 :: x1 :: xr, _ => exact ⟨_, _, _, rfl⟩
        refine ⟨_, rfl, D, rfl, ⟨_, SqL.of d2⟩, fun D2 hD2 => ?_⟩
        refine lc_list (K := K) (a := D) (xs := iVs (x0 :: x1 :: xr)) (fun i H' => Same H2 H' ∧ H' D2 = some (.lst (iVs (((x0 :: x1 :: xr).take i).map (· - x0))))) ⟨Same.new hD2, upd_same⟩ (fun i H' _ ⟨s3, _⟩ => SqL.of (s3 _ _ d2)) ?_ ?_
        · rintro i v H3 hi ⟨s3, d3⟩
          obtain ⟨y3, hy3, rfl⟩ := int_get hi
          change gName 9 _ [some (.ref b), some (.ref cL), some (.ref bt), some (.int 0), some (.int 0), some (.int m), some (.ref D), none, none, none] _ _
          refine ⟨rfl, _, rfl, _, rfl, D, _, 0, .int x0, rfl, rfl, SqL.of (s3 _ _ d2), atI_nat (j := 0) rfl, y3, x0, rfl, rfl, _, d3, line_lt (by rw [len_iVs]; simp at hns ⊢; omega), Same.mut s3 hD2, ?_⟩
          rw [upd_same, take_get hy3, List.map_append, List.map_cons, List.map_nil, iVs_app]
        rintro H3 ⟨s3, d3⟩
        rw [len_iVs, List.take_length, List.map_cons, List.map_cons, show x0 - x0 = 0 by omega] at d3
        refine ⟨D2, x1 - x0, xr.map (· - x0), rfl, d3, by simp at hns ⊢; omega, fun r H4 s4 hr4 => k r _ H4 ((s2.trans s3).trans s4) hr4⟩
  obtain ⟨ds, hv, hbi⟩ := F.binds1 (ps := ["book", "costs", "base", "place", "at_least"]) 3 0 (List.cons_ne_nil _ _) rfl (fun T kV doc pm an cdv ct us its hu hi => match us, its, hu, hi with | [_, _, _], [_, _], _, _ => ⟨_, rfl, rfl⟩)
  exact ⟨⟨fd, _, ds, ok, hbi, hv⟩, F.kp⟩
end
end K53
namespace K53
open PySem PySem.Spec PyProof.Rows L2
section
variable {w : World} {K : PySem.W.Frag} {mg : Str → Option Value} {base : Heap}
/-! ### bound_of, greatest, least -/
def PapAt (K : PySem.W.Frag) (H : Hp) (a : Addr) (C : Cs) (j : Nat) (sg : Int) : Prop := (∃ (dx : Addr) (fs : List (Str × V)) (d : Int), H a = some (.ins (CBound K) dx fs) ∧ cAt C j = some d ∧ fs.lookup ("number" : Str) = some (.int (sg * d))) ∨
  ∃ (dx t : Addr) (fs : List (Str × V)), H a = some (.ins (CUnb K) dx fs) ∧ cAt C j = none ∧ fs.lookup ("places" : Str) = some (.ref t) ∧ H t = some (.tup (iVs (plcN C C.length)))
theorem PapAt.same {H H' : Hp} {a : Addr} {C : Cs} {j : Nat} {sg : Int} (s : Same H H') : PapAt K H a C j sg → PapAt K H' a C j sg
  | .inl ⟨dx, fs, d, h1, h2, h3⟩ => .inl ⟨dx, fs, d, s _ _ h1, h2, h3⟩
  | .inr ⟨dx, t, fs, h1, h2, h3, h4⟩ => .inr ⟨dx, t, fs, s _ _ h1, h2, h3, s _ _ h4⟩
def spBoundOf (K : PySem.W.Frag) : Sp := fun vs H Q _ => ∃ (b : Addr) (n i j : Nat) (rs : List Ru) (h : Nat → Int) (sg : Int), vs = [.ref b, .int (i : Int), .int (j : Int), .int sg] ∧ BkAt K H b n rs ∧ 1 ≤ n ∧ n ≤ 48 ∧ rs.length ≤ 8 ∧ Feas (mvAll n 0 rs) h ∧ i ≤ n ∧ j ≤ n ∧ (sg = 1 ∨ sg = -1) ∧
  ∀ a H', Same H H' → PapAt K H' a (ways n (mvAll n 0 rs) (C0one n i)).C j sg → Q (.ref a) H'
theorem ok_bound_of (T : Txt K mg) : FR Pg w K mg base 10 (He.ga K "bound_of") (spBoundOf K) := by
  have G_kept_heights : FR Pg w K mg base 9 _ (spKH K) := ok_kept_heights T
  have G_ways_from : FR Pg w K mg base 4 _ (spWOne K) := ok_ways_from T
  have G_places_of : FR Pg w K mg base 1 _ (spPlaces K) := ok_places_of T
  have G_Ways_way_to : FR Pg w K mg base 1 _ (spWayTo K) := ok_way_to T
  have G_raised_row : FRd Pg w K mg base 6 _ _ (spRaised K) := ok_raised_row T
  have G_Bound : FnR Pg w K mg base CX0 6 _ (spBoundI K) := ok_Bound_init T
  have G_Unbound : FnR Pg w K mg base CX0 6 _ (spUnbI K) := ok_Unb_init T
  obtain ⟨fd, F⟩ := T.f_bound_of
  refine FR.of F sc_bound_of (fun _ _ _ _ _ _ us hl => match us, hl with | [_, _, _, _], _ => rfl) (fun vs H Q E h => ?_) (fun cdv A outer s H vs Q E hr h => ?_)
  · obtain ⟨b, n, i, j, rs, h, sg, rfl, _⟩ := h
    rfl
  · obtain ⟨b, n, i, j, rs, h, sg, rfl, hb, h1, h48, h8, hF, hi, hj, hsg, k⟩ := h
    have D := ways_done (C0 := C0one n i) hF book_le (by unfold C0one; simp)
    refine ⟨_, ((pss_cons (ps_par (i := 4) (j := 5) rfl sc_bound_of.nd rfl rfl (by decide) rfl rfl (pa_cons (pe_fn G_kept_heights (hr.mono (by decide)) rfl T.glo_kept_heights (pa_cons (pv 0) pa_nil)) (pa_cons (pe_fn G_ways_from (hr.mono (by decide)) rfl T.glo_ways_from (pa_cons (pv 0) (pa_cons (pv 1) pa_nil))) pa_nil)) rfl)
  (pss_cons (ps_if (pt_cmpR op_isN (pe_ix (r := rIxL K) ix_list (pe_fld (pv 5) rfl) (pv 2) (fun _ _ => rfl)) pe_non (nomark _)) (pss_one (ps_ret (pe_mk T.mk_Unbound G_Unbound (hr.mono (by decide)) rfl T.glo_Unbound (pa_cons (pe_fn G_places_of (hr.mono (by decide)) rfl T.glo_places_of (pa_cons (pv 5) pa_nil)) pa_nil)))) pss_nil)
  (pss_one (ps_ret (pe_mk T.mk_Bound G_Bound (hr.mono (by decide)) rfl T.glo_Bound (pa_cons (pe_op op_mul (pv 3) (pe_ix (r := rIxL K) ix_list (pe_fld (pv 5) rfl) (pv 2) (fun _ _ => rfl))) (pa_cons (pe_mt (pv 5) T.cls_Ways T.me_Ways_way_to G_Ways_way_to (hr.mono (by decide)) (pa_cons (pv 2) pa_nil)) (pa_cons (pe_fnD G_raised_row (hr.mono (by decide)) rfl T.glo_raised_row (pa_cons (pv 0) (pa_cons (pe_fld (pv 5) rfl) (pa_cons (pv 4) pa_nil)))) pa_nil))))))))), ?_⟩
    refine ⟨_, rfl, b, n, rs, h, rfl, hb, h1, h48, h8, hF, fun t hs H1 s1 ht hl => ?_⟩
    refine ⟨_, rfl, _, rfl, b, n, i, rs, rfl, hb.same s1, h48, h8, fun x H2 s2 hw => ⟨_, _, rfl, ?_⟩⟩
    have s12 := s1.trans s2
    have hw2 := hw
    generalize ways n (mvAll n 0 rs) (C0one n i) = s at *
    obtain ⟨dx, cL, bL, fs, bs, hx, l2, l3, l4, ⟨n2, n3⟩, hc, hbL, pb⟩ := hw2
    refine ⟨_, rfl, x, CWays K, dx, fs, _, rfl, hx, T.cls_Ways, T.no_Ways_costs, l2, _, rfl, cL, _, (j : Int), _, rfl, rfl, SqL.of hc, atI_nat (get_cAt (by rw [D.lc]; omega) rfl), rfl, ?_⟩
    cases e : cAt s.C j with
    | none =>
      refine ⟨true, rfl, iteT ?_⟩
      refine ⟨_, rfl, x, s, rfl, hw, by rw [D.lc]; omega, fun pl H3 s3 hpl => ?_⟩
      exact mk_unb hpl (by have := plcN_len s.C s.C.length; rw [D.lc] at this ⊢; omega) fun a dx2 fs2 t2 H4 s4 ha hla ht2 => k a H4 ((s12.trans s3).trans s4) (.inr ⟨dx2, t2, fs2, ha, e, hla, ht2⟩)
    | some d =>
      obtain ⟨p, hch, hpl⟩ := D.chain j d e
      refine ⟨false, rfl, iteF ?_⟩
      refine ⟨_, rfl, _, rfl, x, CWays K, dx, fs, _, rfl, hx, T.cls_Ways, T.no_Ways_costs, l2, _, rfl, cL, _, (j : Int), .int d, rfl, rfl, SqL.of hc, atI_nat (get_cAt (by rw [D.lc]; omega) e), sg, d, rfl, rfl, ?_, ?_⟩
      · rcases hsg with rfl | rfl
        · exact .inl (by decide)
        · exact .inl (by decide)
      refine ⟨_, rfl, x, dx, fs, rfl, hx, n3, _, rfl, x, s, j, p, rfl, hw, hch, by omega, by rw [D.lb]; omega, fun u m hm => ?_, fun wy H3 s3 hfx => ?_⟩
      · obtain ⟨hm1, _⟩ := D.byS u m hm
        have := mvAll_le hm1
        rw [D.lb]
        omega
      refine ⟨_, rfl, _, rfl, x, CWays K, dx, fs, _, rfl, s3 _ _ hx, T.cls_Ways, T.no_Ways_costs, l2, _, rfl, b, cL, t, n, rs, s.C, hs, rfl, hb.same (s12.trans s3), h1, h48, h8, s3 _ _ hc, D.lc, s3 _ _ (s2 _ _ ht), hl, fun r xs H4 s4 hr4 => ?_⟩
      exact mk_bound hr4 (FxA.same s4 hfx) fun a dx2 fs2 H5 s5 ha hla => k a H5 (((s12.trans s3).trans s4).trans s5) (.inl ⟨dx2, fs2, d, ha, e, hla⟩)
def spGreat (K : PySem.W.Frag) : Sp := fun vs H Q _ => ∃ (b : Addr) (n i l : Nat) (rs : List Ru) (h : Nat → Int), vs = [.ref b, .int (i : Int), .int (l : Int)] ∧ BkAt K H b n rs ∧ n ≤ 48 ∧ rs.length ≤ 8 ∧ Feas (mvAll n 0 rs) h ∧ 1 ≤ l ∧ i + l ≤ n ∧
  ∀ a H', Same H H' → PapAt K H' a (ways n (mvAll n 0 rs) (C0one n i)).C (i + l) 1 → Q (.ref a) H'
theorem ok_greatest (T : Txt K mg) : FR Pg w K mg base 11 (He.ga K "greatest") (spGreat K) := by
  have G_need_stretch_bounds : FR Pg w K mg base 4 _ (spStretch K) := ok_need_stretch T
  have G_bound_of : FR Pg w K mg base 10 _ (spBoundOf K) := ok_bound_of T
  obtain ⟨fd, F⟩ := T.f_greatest
  refine FR.of F sc_greatest (fun _ _ _ _ _ _ us hl => match us, hl with | [_, _, _], _ => rfl) (fun vs H Q E h => ?_) (fun cdv A outer s H vs Q E hr h => ?_)
  · obtain ⟨b, n, i, l, rs, h, rfl, _⟩ := h
    rfl
  · obtain ⟨b, n, i, l, rs, h, rfl, hb, h48, h8, hF, h1, hn, k⟩ := h
    refine ⟨_, ((pss_cons (ps_expr (pe_fn G_need_stretch_bounds (hr.mono (by decide)) rfl T.glo_need_stretch_bounds (pa_cons (pv 0) (pa_cons (pv 1) (pa_cons (pv 2) pa_nil)))))
  (pss_one (ps_ret (pe_fn G_bound_of (hr.mono (by decide)) rfl T.glo_bound_of (pa_cons (pv 0) (pa_cons (pv 1) (pa_cons (pe_op op_add (pv 1) (pv 2)) (pa_cons pe_int pa_nil))))))))), ?_⟩
    refine ⟨_, rfl, _, rfl, _, rfl, b, i, l, n, rs, rfl, hb, by omega, by omega, by omega, ?_⟩
    exact ⟨_, rfl, _, rfl, _, rfl, _, rfl, _, _, rfl, rfl, b, n, i, i + l, rs, h, 1, rfl, hb, by omega, h48, h8, hF, by omega, hn, .inl rfl, k⟩
def spLeast (K : PySem.W.Frag) : Sp := fun vs H Q _ => ∃ (b : Addr) (n i l : Nat) (rs : List Ru) (h : Nat → Int), vs = [.ref b, .int (i : Int), .int (l : Int)] ∧ BkAt K H b n rs ∧ n ≤ 48 ∧ rs.length ≤ 8 ∧ Feas (mvAll n 0 rs) h ∧ 1 ≤ l ∧ i + l ≤ n ∧
  ∀ a H', Same H H' → PapAt K H' a (ways n (mvAll n 0 rs) (C0one n (i + l))).C i (-1) → Q (.ref a) H'
theorem ok_least (T : Txt K mg) : FR Pg w K mg base 11 (He.ga K "least") (spLeast K) := by
  have G_need_stretch_bounds : FR Pg w K mg base 4 _ (spStretch K) := ok_need_stretch T
  have G_bound_of : FR Pg w K mg base 10 _ (spBoundOf K) := ok_bound_of T
  obtain ⟨fd, F⟩ := T.f_least
  refine FR.of F sc_least (fun _ _ _ _ _ _ us hl => match us, hl with | [_, _, _], _ => rfl) (fun vs H Q E h => ?_) (fun cdv A outer s H vs Q E hr h => ?_)
  · obtain ⟨b, n, i, l, rs, h, rfl, _⟩ := h
    rfl
  · obtain ⟨b, n, i, l, rs, h, rfl, hb, h48, h8, hF, h1, hn, k⟩ := h
    refine ⟨_, ((pss_cons (ps_expr (pe_fn G_need_stretch_bounds (hr.mono (by decide)) rfl T.glo_need_stretch_bounds (pa_cons (pv 0) (pa_cons (pv 1) (pa_cons (pv 2) pa_nil)))))
  (pss_one (ps_ret (pe_fn G_bound_of (hr.mono (by decide)) rfl T.glo_bound_of (pa_cons (pv 0) (pa_cons (pe_op op_add (pv 1) (pv 2)) (pa_cons (pv 1) (pa_cons (pe_un un_neg pe_int) pa_nil))))))))), ?_⟩
    refine ⟨_, rfl, _, rfl, _, rfl, b, i, l, n, rs, rfl, hb, by omega, by omega, by omega, ?_⟩
    exact ⟨_, rfl, _, rfl, _, rfl, _, _, rfl, rfl, _, rfl, _, rfl, b, n, i + l, i, rs, h, -1, rfl, hb, by omega, h48, h8, hF, hn, by omega, .inr rfl, k⟩
end
end K53
namespace K53
open PySem PySem.Spec PyProof.Rows L2
/-! ### lists of ints compared -/
theorem eqv_ints : ∀ ns : List Int, PyData.eqvAll (ns.map PyData.int) (ns.map PyData.int) = true
  | [] => by simp [PyData.eqvAll]
  | n :: ns => by
    simp only [List.map_cons, PyData.eqvAll, PyData.eqv, eqv_ints ns]
    simp
theorem lay_ints : ∀ ns : List Int, PyData.canLayAll0 (ns.map PyData.int) = true
  | [] => by simp [PyData.canLayAll0]
  | n :: ns => by
    simp only [List.map_cons, PyData.canLayAll0, PyData.canLay0, lay_ints ns]
    simp
theorem shaped_ints (ns : List Int) : SeqAt.shaped (.list (ns.map PyData.int)) = true := by
  unfold SeqAt.shaped
  have h := depth_ints ns
  have h2 : (PyData.list (ns.map PyData.int)).depth ≤ 64 := by
    unfold PyData.depth
    omega
  rw [decide_eq_true h2]
  simp only [PyData.canLay0, lay_ints ns, Bool.and_self]
theorem dp_ints {K : PySem.W.Frag} {H : Hp} {a : Addr} {ns : List Int} (h : H a = some (.lst (iVs ns))) : Dp K H (.ref a) (.list (ns.map PyData.int)) := .lst (SqL.of h) (dpAll_ints ns)
section
variable {w : World} {K : PySem.W.Frag} {mg : Str → Option Value} {base : Heap}
/-! ### the bag -/
def BagAt (H : Hp) (g c : Addr) (k : Nat) : Prop := ∃ (cells : List Int) (t rest : Int), H g = some (.lst [.ref c, .int t, .int rest]) ∧ H c = some (.lst (iVs cells)) ∧ 0 ≤ t ∧ t ≤ k ∧ 0 ≤ rest
theorem BagAt.mono {H : Hp} {g c : Addr} {k j : Nat} (h : k ≤ j) : BagAt H g c k → BagAt H g c j := fun ⟨cells, t, rest, h1, h2, h3, h4, h5⟩ => ⟨cells, t, rest, h1, h2, h3, by omega, h5⟩
theorem BagAt.same {H H' : Hp} {g c : Addr} {k : Nat} (s : Same H H') : BagAt H g c k → BagAt H' g c k := fun ⟨cells, t, rest, h1, h2, h3, h4, h5⟩ => ⟨cells, t, rest, s _ _ h1, s _ _ h2, h3, h4, h5⟩
theorem BagAt.put {H : Hp} {g c p : Addr} {k : Nat} {o : HO} (n1 : p ≠ g) (n2 : p ≠ c) : BagAt H g c k → BagAt (upd H p o) g c k := fun ⟨cells, t, rest, h1, h2, h3, h4, h5⟩ => ⟨cells, t, rest, by rw [upd_ne (Ne.symm n1)]; exact h1, by rw [upd_ne (Ne.symm n2)]; exact h2, h3, h4, h5⟩
/-- what is not known lies apart from the bag -/
theorem BagAt.apart {H : Hp} {g c p : Addr} {k : Nat} (hp : H p = none) : BagAt H g c k → p ≠ g ∧ p ≠ c := fun ⟨cells, t, rest, h1, h2, _⟩ => ⟨fun e => (by rw [e, h1] at hp; cases hp), fun e => (by rw [e, h2] at hp; cases hp)⟩
theorem bag_ne {c : Addr} {xs : List V} {cells : List Int} : (HO.lst (iVs cells)) ≠ .lst (.ref c :: xs) := fun e => by
  cases cells with
  | nil => cases e
  | cons x cells => cases e
def spBag (K : PySem.W.Frag) : Sp := fun vs H Q _ => ∃ (a : Addr) (ns : List Int), vs = [.ref a] ∧ SqL K H a (iVs ns) ∧ ∀ g c H', Same H H' → H g = none → BagAt H' g c 0 → Q (.ref g) H'
theorem ok_law_bag (T : Txt K mg) : FR Pg w K mg base 1 (He.ga K "_law_bag") (spBag K) := by
  obtain ⟨fd, F⟩ := T.f_law_bag
  refine FR.of F sc_law_bag (fun _ _ _ _ _ _ us hl => match us, hl with | [_], _ => rfl) (fun vs H Q E h => ?_) (fun cdv A outer s H vs Q E hr h => ?_)
  · obtain ⟨a, ns, rfl, _⟩ := h
    rfl
  · obtain ⟨a, ns, rfl, ha, k⟩ := h
    refine ⟨_, ((pss_one (ps_ret (pe_lst (pa_cons (pe_lc (own := [("_law_cell", 1)]) (g := gName 1) (tt := tYes) (by rfl) sc_law_bag.nd (pi_list (pe_slice (r := rSlL K) sl_list (pv 0) po_none (po_some pe_int))) (blkOk_by (own := [("_law_cell", 1)]) (N := N_law_bag) (sc := defScope s_law_bag) (by decide +kernel)) (fun _ _ _ _ _ => (pg_name (i := 1) sc_law_bag.nd rfl (by first | exact Or.inl rfl | exact Or.inr rfl) (by first | exact Or.inl rfl | exact Or.inr rfl))) (fun _ _ _ _ _ => pts_nil) (fun _ _ _ _ _ => (pe_callTy (T := "int") call_int1 (by rfl) T.free_int (by decide +kernel) (pa_cons (pv 1) pa_nil)))) (pa_cons pe_int (pa_cons pe_int pa_nil))))))), ?_⟩
    refine ⟨_, rfl, 61, rfl, a, _, rfl, ha, fun b hb => ?_⟩
    rw [show cutV (iVs ns) none (some 61) = iVs (ns.take 61) from (cut_to _ 61).trans (iVs_take ns 61)]
    have s1 := Same.new (o := .lst (iVs (ns.take 61))) hb
    refine ⟨b, rfl, ⟨_, SqL.of upd_same⟩, fun D hD => ?_⟩
    refine lc_list (K := K) (a := b) (xs := iVs (ns.take 61)) (fun i H' => Same H H' ∧ H' b = some (.lst (iVs (ns.take 61))) ∧ H' D = some (.lst (iVs ((ns.take 61).take i)))) ⟨s1.trans (Same.new hD), by rw [upd_ne (ne_of_none upd_same hD)]; exact upd_same, upd_same⟩ (fun i H' _ ⟨_, b2, _⟩ => SqL.of b2) ?_ ?_
    · rintro i v H2 hi ⟨s2, b2, d2⟩
      obtain ⟨y, hy, rfl⟩ := int_get hi
      refine ⟨rfl, _, rfl, .inl ⟨y, rfl, _, d2, line_lt (by rw [len_iVs, List.length_take, List.length_take]; omega), Same.mut s2 (s1.free hD), ?_, ?_⟩⟩
      · rw [upd_ne (ne_of_none upd_same hD)]
        exact b2
      · rw [upd_same, take_get hy, iVs_app]
    · rintro H2 ⟨s2, b2, d2⟩
      refine ⟨line_le (by simp), fun g hg => ?_⟩
      have s3 := Same.new (o := .lst [.ref D, .int 0, .int 0]) hg
      exact k g D _ (s2.trans s3) (s2.free hg) ⟨_, 0, 0, upd_same, s3 _ _ d2, by decide, by decide, by decide⟩
/-! ### _law_dip -/
def spDip : Sp := fun vs H Q _ => ∃ (g c : Addr) (m : Int) (k : Nat), vs = [.ref g, .int m] ∧ BagAt H g c k ∧ k ≤ 1000000 ∧ 0 < m ∧ m ≤ 100000 ∧ ∀ (d : Int) H', 0 ≤ d → d < m → But g H H' → BagAt H' g c (k + 1) → Q (.int d) H'
theorem ok_law_dip (T : Txt K mg) : FR Pg w K mg base 1 (He.ga K "_law_dip") spDip := by
  obtain ⟨fd, F⟩ := T.f_law_dip
  refine FR.of F sc_law_dip (fun _ _ _ _ _ _ us hl => match us, hl with | [_, _], _ => rfl) (fun vs H Q E h => ?_) (fun cdv A outer s H vs Q E hr h => ?_)
  · obtain ⟨g, c, m, k, rfl, _⟩ := h
    rfl
  · obtain ⟨g, c, m, n, rfl, ⟨cells, t, rest, hg, hc, ht0, htn, hr0⟩, hn, hm0, hm, k⟩ := h
    have cg : c ≠ g := apart hc hg bag_ne
    have md : ∀ z : Int, 0 ≤ z % m ∧ z % m < m := fun z => ⟨Int.emod_nonneg _ (by omega), Int.emod_lt_of_pos _ hm0⟩
    have cd : CDiv rest m := ⟨hm0, by omega⟩
    refine ⟨_, ((pss_cons (ps_if (pt_cmpR op_gt (pe_ix (r := rIxL K) ix_list (pv 0) pe_int (fun _ _ => rfl)) pe_int (nomark _)) (pss_cons (ps_set (i := 2) sc_law_dip.nd rfl (by first | exact Or.inl rfl | exact Or.inr rfl) (pe_ix (r := rIxL K) ix_list (pv 0) pe_int (fun _ _ => rfl)))
  (pss_cons (ps_asg (pe_op op_fdiv (pe_callTy (T := "int") call_int1 (by rfl) T.free_int (by decide +kernel) (pa_cons (pv 2) pa_nil)) (pv 1)) (pg_sub (pv 0) pe_int set_list))
  (pss_one (ps_ret (pe_op op_mod (pe_callTy (T := "int") call_int1 (by rfl) T.free_int (by decide +kernel) (pa_cons (pv 2) pa_nil)) (pv 1)))))) pss_nil)
  (pss_cons (ps_set (i := 3) sc_law_dip.nd rfl (by first | exact Or.inl rfl | exact Or.inr rfl) (pe_ix (r := rIxL K) ix_list (pv 0) pe_int (fun _ _ => rfl)))
  (pss_cons (ps_asg (pe_op op_add (pv 3) pe_int) (pg_sub (pv 0) pe_int set_list))
  (pss_cons (ps_set (i := 4) sc_law_dip.nd rfl (by first | exact Or.inl rfl | exact Or.inr rfl) (pe_op op_add (pe_op op_mul pe_int (pv 3)) pe_int))
  (pss_cons (ps_if (pt_cmpR (op_neD hr.units) (pe_ix (r := rIxL K) ix_list (pv 0) pe_int (fun _ _ => rfl)) (pe_lst pa_nil) (nomark _)) (pss_one (ps_set (i := 4) sc_law_dip.nd rfl (by first | exact Or.inl rfl | exact Or.inr rfl) (pe_ix (r := rIxL K) ix_list (pe_ix (r := rIxL K) ix_list (pv 0) pe_int (fun _ _ => rfl)) (pe_op op_mod (pe_callTy (T := "int") call_int1 (by rfl) T.free_int (by decide +kernel) (pa_cons (pv 3) pa_nil)) (pe_callB (id := "len") (r := lenR K) call_len_seq (by rfl) T.free_len (by decide +kernel) (pa_cons (pe_ix (r := rIxL K) ix_list (pv 0) pe_int (fun _ _ => rfl)) pa_nil))) (fun _ _ => rfl)))) pss_nil)
  (pss_cons (ps_if (PW.pt (pw_and (pt_cmpR op_lt (pv 3) (pe_callB (id := "len") (r := lenR K) call_len_seq (by rfl) T.free_len (by decide +kernel) (pa_cons (pe_ix (r := rIxL K) ix_list (pv 0) pe_int (fun _ _ => rfl)) pa_nil)) (nomark _)) (pw_and1 (pt_cmpR op_ge (pe_callB (id := "abs") call_abs (by rfl) T.free_abs (by decide +kernel) (pa_cons (pv 4) pa_nil)) (pe_op op_pow pe_int pe_int) (nomark _))))) (pss_cons (ps_set (i := 2) sc_law_dip.nd rfl (by first | exact Or.inl rfl | exact Or.inr rfl) (pe_op op_add (pe_op op_mul pe_int (pe_op op_sub (pe_callB (id := "abs") call_abs (by rfl) T.free_abs (by decide +kernel) (pa_cons (pv 4) pa_nil)) (pe_op op_pow pe_int pe_int))) (pe_callTy (T := "int") call_int1 (by rfl) T.free_int (by decide +kernel) (pa_cons (pe_cmpR op_lt (pv 4) pe_int (nomark _)) pa_nil))))
  (pss_cons (ps_asg (pe_op op_fdiv (pe_callTy (T := "int") call_int1 (by rfl) T.free_int (by decide +kernel) (pa_cons (pv 2) pa_nil)) (pv 1)) (pg_sub (pv 0) pe_int set_list))
  (pss_one (ps_ret (pe_op op_mod (pe_callTy (T := "int") call_int1 (by rfl) T.free_int (by decide +kernel) (pa_cons (pv 2) pa_nil)) (pv 1)))))) pss_nil)
  (pss_cons (ps_set (i := 5) sc_law_dip.nd rfl (by first | exact Or.inl rfl | exact Or.inr rfl) (pe_op op_mod (pe_callTy (T := "int") call_int1 (by rfl) T.free_int (by decide +kernel) (pa_cons (pe_op op_pow (pe_op op_add (pe_op op_add (pe_op op_mod (pe_callTy (T := "int") call_int1 (by rfl) T.free_int (by decide +kernel) (pa_cons (pv 4) pa_nil)) pe_int) (pe_op op_mul pe_int (pv 3))) pe_int) pe_int) pa_nil)) pe_int))
  (pss_cons (ps_set (i := 5) sc_law_dip.nd rfl (by first | exact Or.inl rfl | exact Or.inr rfl) (pe_op op_mod (pe_callTy (T := "int") call_int1 (by rfl) T.free_int (by decide +kernel) (pa_cons (pe_op op_pow (pe_op op_add (pe_op op_add (pe_op op_mul (pv 5) (pe_op op_add (pe_op op_mul pe_int (pv 3)) pe_int)) (pe_op op_mul (pe_op op_mul pe_int (pv 3)) (pv 3))) pe_int) pe_int) pa_nil)) pe_int))
  (pss_one (ps_ret (pe_op op_mod (pe_callTy (T := "int") call_int1 (by rfl) T.free_int (by decide +kernel) (pa_cons (pe_op op_fdiv (pv 5) pe_int) pa_nil)) (pv 1))))))))))))), ?_⟩
    refine ⟨_, rfl, g, _, 2, .int rest, rfl, rfl, SqL.of hg, rfl, rest, 0, rfl, rfl, _, rfl, ?_⟩
    by_cases h0 : 0 < rest
    · refine iteT' (decide_eq_true h0) ?_
      refine ⟨_, rfl, g, _, 2, .int rest, rfl, rfl, SqL.of hg, rfl, ?_⟩
      refine ⟨_, rfl, .inl ⟨rest, rfl, _, rfl, rest, m, rfl, rfl, cd, _, rfl, g, _, 2, 2, rfl, rfl, hg, rfl, ?_⟩⟩
      refine ⟨_, rfl, .inl ⟨rest, rfl, _, rfl, rest, m, rfl, rfl, hm0, ?_⟩⟩
      exact k _ _ (md rest).1 (md rest).2 (But.refl g H).put ⟨cells, t, rest / m, upd_same, by rw [upd_ne cg]; exact hc, ht0, by omega, Int.ediv_nonneg hr0 (by omega)⟩
    · refine iteF' (decide_eq_false h0) ?_
      refine ⟨_, rfl, g, _, 1, .int t, rfl, rfl, SqL.of hg, rfl, ?_⟩
      refine ⟨_, rfl, t, 1, rfl, rfl, _, rfl, g, _, 1, 1, rfl, rfl, hg, rfl, ?_⟩
      have hg1 : upd H g (HO.lst ([V.ref c, V.int t, V.int rest].set 1 ((fun i j => V.int (i + j)) t 1))) g = some (.lst [.ref c, .int (t + 1), .int rest]) := upd_same
      have hc1 : upd H g (HO.lst ([V.ref c, V.int t, V.int rest].set 1 ((fun i j => V.int (i + j)) t 1))) c = some (.lst (iVs cells)) := by rw [upd_ne cg]; exact hc
      have b1 : But g H (upd H g (HO.lst ([V.ref c, V.int t, V.int rest].set 1 ((fun i j => V.int (i + j)) t 1)))) := (But.refl g H).put
      generalize upd H g (HO.lst ([V.ref c, V.int t, V.int rest].set 1 ((fun i j => V.int (i + j)) t 1))) = H1 at *
      refine ⟨_, rfl, 64151, t, rfl, rfl, .inl (by decide), _, 3019, rfl, rfl, ?_⟩
      refine ⟨_, rfl, g, _, 0, .ref c, rfl, rfl, SqL.of hg1, rfl, line_le (by decide), fun p hp => ?_⟩
      have s2 := Same.new (o := .lst []) hp
      have hg2 := s2 _ _ hg1
      have hc2 := s2 _ _ hc1
      have b2 := b1.trans (But.of s2)
      refine ⟨_, _, dp_ints hc2, .lst (SqL.of upd_same) .nil, shaped_ints _, shaped_ints [], _, rfl, ?_⟩
      cases cells with
      | nil =>
        refine iteF ?_
        have hB1 : 0 ≤ ((64151 * t + 3019) % 2147483629 + 72031 * t + 3019) ^ (5 : Int).toNat % 2147483587 ∧ ((64151 * t + 3019) % 2147483629 + 72031 * t + 3019) ^ (5 : Int).toNat % 2147483587 < 2147483587 := ⟨Int.emod_nonneg _ (by decide), Int.emod_lt_of_pos _ (by decide)⟩
        have fin : ∀ H3, But g H H3 → H3 g = some (.lst [.ref c, .int (t + 1), .int rest]) → H3 c = some (.lst (iVs [])) → BagAt H3 g c (n + 1) := fun H3 _ h1 h2 => ⟨[], t + 1, rest, h1, h2, by omega, by omega, hr0⟩
        refine ⟨_, rfl, _, rfl, g, _, 0, .ref c, rfl, rfl, SqL.of hg2, rfl, c, _, rfl, .inl (SqL.of hc2), _, _, rfl, rfl, _, rfl, ?_⟩
        have mixed : ∀ (x1 : Int), 0 ≤ x1 → x1 < 2147483587 → (x1 * (2 * t + 2417) + 64151 * t * t + 83009).natAbs < 2 ^ 64 := fun x1 a b => by
          have e1 : x1 * (2 * t + 2417) ≤ 2147483587 * (2 * 1000000 + 2417) := Int.mul_le_mul (by omega) (by omega) (by omega) (by omega)
          have e2 : 0 ≤ x1 * (2 * t + 2417) := Int.mul_nonneg a (by omega)
          have e3 : 64151 * t * t ≤ 64151 * 1000000 * 1000000 := Int.mul_le_mul (by omega) (by omega) ht0 (by omega)
          have e4 : 0 ≤ 64151 * t * t := Int.mul_nonneg (by omega) ht0
          omega
        have zA : 0 ≤ (64151 * t + 3019) % 2147483629 ∧ (64151 * t + 3019) % 2147483629 < 2147483629 := ⟨Int.emod_nonneg _ (by decide), Int.emod_lt_of_pos _ (by decide)⟩
        cases hc1 : decide (t < ((iVs []).length : Int)) with
        | false =>
          refine iteF (iteF ?_)
          refine ⟨_, rfl, .inl ⟨_, rfl, _, _, rfl, rfl, (by decide : (0 : Int) < 2147483629), _, rfl, 72031, t, rfl, rfl, .inl (by decide), _, _, rfl, rfl, _, 3019, rfl, rfl, _, 5, rfl, rfl, ⟨by decide, by decide, by omega⟩, .inl ⟨_, rfl, _, _, rfl, rfl, (by decide : (0 : Int) < 2147483587), ?_⟩⟩⟩
          refine ⟨_, rfl, _, rfl, 2, t, rfl, rfl, .inl (by decide), _, 2417, rfl, rfl, _, _, rfl, rfl, .inl ⟨by omega, by omega⟩, _, rfl, 64151, t, rfl, rfl, .inl (by decide), _, rfl, _, _, rfl, rfl, .inr ⟨by omega, by omega⟩, _, _, rfl, rfl, _, 83009, rfl, rfl, _, 3, rfl, rfl, ⟨by decide, by decide, mixed _ hB1.1 hB1.2⟩, .inl ⟨_, rfl, _, _, rfl, rfl, (by decide : (0 : Int) < 2147483579), ?_⟩⟩
          refine ⟨_, rfl, _, 64, rfl, rfl, ⟨by decide, by decide⟩, .inl ⟨_, rfl, _, rfl, _, m, rfl, rfl, hm0, ?_⟩⟩
          exact k _ _ (md _).1 (md _).2 b2 (fin _ b2 hg2 hc2)
        | true =>
          refine iteT ?_
          change tTest (tOp (rI0 fun i j => V.bl (decide (j ≤ i))) _ _) _ _ _
          refine ⟨_, rfl, _, rfl, 10, 18, rfl, rfl, ⟨by decide, by decide, by decide⟩, _, _, rfl, rfl, _, rfl, ?_⟩
          cases hc2' : decide ((10 : Int) ^ (18 : Int).toNat ≤ (if (64151 * t + 3019) < 0 then -(64151 * t + 3019) else (64151 * t + 3019))) with
          | false =>
            refine iteF ?_
            refine ⟨_, rfl, .inl ⟨_, rfl, _, _, rfl, rfl, (by decide : (0 : Int) < 2147483629), _, rfl, 72031, t, rfl, rfl, .inl (by decide), _, _, rfl, rfl, _, 3019, rfl, rfl, _, 5, rfl, rfl, ⟨by decide, by decide, by omega⟩, .inl ⟨_, rfl, _, _, rfl, rfl, (by decide : (0 : Int) < 2147483587), ?_⟩⟩⟩
            refine ⟨_, rfl, _, rfl, 2, t, rfl, rfl, .inl (by decide), _, 2417, rfl, rfl, _, _, rfl, rfl, .inl ⟨by omega, by omega⟩, _, rfl, 64151, t, rfl, rfl, .inl (by decide), _, rfl, _, _, rfl, rfl, .inr ⟨by omega, by omega⟩, _, _, rfl, rfl, _, 83009, rfl, rfl, _, 3, rfl, rfl, ⟨by decide, by decide, mixed _ hB1.1 hB1.2⟩, .inl ⟨_, rfl, _, _, rfl, rfl, (by decide : (0 : Int) < 2147483579), ?_⟩⟩
            refine ⟨_, rfl, _, 64, rfl, rfl, ⟨by decide, by decide⟩, .inl ⟨_, rfl, _, rfl, _, m, rfl, rfl, hm0, ?_⟩⟩
            exact k _ _ (md _).1 (md _).2 b2 (fin _ b2 hg2 hc2)
          | true =>
            refine iteT ?_
            refine ⟨_, rfl, _, rfl, 10, 18, rfl, rfl, ⟨by decide, by decide, by decide⟩, _, _, rfl, rfl, 2, _, rfl, rfl, .inl (by decide), _, rfl, _, _, rfl, rfl, .inr ⟨_, rfl, _, _, rfl, rfl, ?_⟩⟩
            have r0 : 0 ≤ 2 * ((if (64151 * t + 3019) < 0 then -(64151 * t + 3019) else (64151 * t + 3019)) - (10 : Int) ^ (18 : Int).toNat) + (if decide ((64151 * t + 3019) < 0) = true then 1 else 0) := by
              have := of_decide_eq_true hc2'
              split <;> split <;> omega
            refine ⟨_, rfl, .inl ⟨_, rfl, _, rfl, _, m, rfl, rfl, ⟨hm0, by omega⟩, _, rfl, g, _, 2, 2, rfl, rfl, hg2, rfl, ?_⟩⟩
            refine ⟨_, rfl, .inl ⟨_, rfl, _, rfl, _, m, rfl, rfl, hm0, ?_⟩⟩
            exact k _ _ (md _).1 (md _).2 b2.put ⟨[], t + 1, _, upd_same, by rw [upd_ne cg]; exact hc2, by omega, by omega, Int.ediv_nonneg r0 (by omega)⟩
      | cons z0 zs =>
        refine iteT ?_
        have hl0 : 0 < (iVs (z0 :: zs)).length := by simp
        have hm1 : 0 ≤ t % ((iVs (z0 :: zs)).length : Int) ∧ t % ((iVs (z0 :: zs)).length : Int) < ((iVs (z0 :: zs)).length : Int) := ⟨Int.emod_nonneg _ (by omega), Int.emod_lt_of_pos _ (by omega)⟩
        obtain ⟨z, hz⟩ : ∃ z, atI (iVs (z0 :: zs)) (t % ((iVs (z0 :: zs)).length : Int)) = some (.int z) := by
          obtain ⟨z, hz⟩ := get_iVs (hs := z0 :: zs) (v := (t % ((iVs (z0 :: zs)).length : Int)).toNat) (by rw [len_iVs] at hm1 ⊢; omega)
          refine ⟨z, ?_⟩
          have := atI_nat hz
          rwa [Int.toNat_of_nonneg hm1.1] at this
        refine ⟨_, rfl, g, _, 0, .ref c, rfl, rfl, SqL.of hg2, rfl, _, rfl, .inl ⟨t, rfl, _, rfl, g, _, 0, .ref c, rfl, rfl, SqL.of hg2, rfl, c, _, rfl, .inl (SqL.of hc2), _, _, rfl, rfl, (by omega), c, _, _, .int z, rfl, rfl, SqL.of hc2, hz, ?_⟩⟩
        have hB1 : 0 ≤ (z % 2147483629 + 72031 * t + 3019) ^ (5 : Int).toNat % 2147483587 ∧ (z % 2147483629 + 72031 * t + 3019) ^ (5 : Int).toNat % 2147483587 < 2147483587 := ⟨Int.emod_nonneg _ (by decide), Int.emod_lt_of_pos _ (by decide)⟩
        have fin : ∀ H3, But g H H3 → H3 g = some (.lst [.ref c, .int (t + 1), .int rest]) → H3 c = some (.lst (iVs (z0 :: zs))) → BagAt H3 g c (n + 1) := fun H3 _ h1 h2 => ⟨(z0 :: zs), t + 1, rest, h1, h2, by omega, by omega, hr0⟩
        refine ⟨_, rfl, _, rfl, g, _, 0, .ref c, rfl, rfl, SqL.of hg2, rfl, c, _, rfl, .inl (SqL.of hc2), _, _, rfl, rfl, _, rfl, ?_⟩
        have mixed : ∀ (x1 : Int), 0 ≤ x1 → x1 < 2147483587 → (x1 * (2 * t + 2417) + 64151 * t * t + 83009).natAbs < 2 ^ 64 := fun x1 a b => by
          have e1 : x1 * (2 * t + 2417) ≤ 2147483587 * (2 * 1000000 + 2417) := Int.mul_le_mul (by omega) (by omega) (by omega) (by omega)
          have e2 : 0 ≤ x1 * (2 * t + 2417) := Int.mul_nonneg a (by omega)
          have e3 : 64151 * t * t ≤ 64151 * 1000000 * 1000000 := Int.mul_le_mul (by omega) (by omega) ht0 (by omega)
          have e4 : 0 ≤ 64151 * t * t := Int.mul_nonneg (by omega) ht0
          omega
        have zA : 0 ≤ z % 2147483629 ∧ z % 2147483629 < 2147483629 := ⟨Int.emod_nonneg _ (by decide), Int.emod_lt_of_pos _ (by decide)⟩
        cases hc1 : decide (t < ((iVs (z0 :: zs)).length : Int)) with
        | false =>
          refine iteF (iteF ?_)
          refine ⟨_, rfl, .inl ⟨_, rfl, _, _, rfl, rfl, (by decide : (0 : Int) < 2147483629), _, rfl, 72031, t, rfl, rfl, .inl (by decide), _, _, rfl, rfl, _, 3019, rfl, rfl, _, 5, rfl, rfl, ⟨by decide, by decide, by omega⟩, .inl ⟨_, rfl, _, _, rfl, rfl, (by decide : (0 : Int) < 2147483587), ?_⟩⟩⟩
          refine ⟨_, rfl, _, rfl, 2, t, rfl, rfl, .inl (by decide), _, 2417, rfl, rfl, _, _, rfl, rfl, .inl ⟨by omega, by omega⟩, _, rfl, 64151, t, rfl, rfl, .inl (by decide), _, rfl, _, _, rfl, rfl, .inr ⟨by omega, by omega⟩, _, _, rfl, rfl, _, 83009, rfl, rfl, _, 3, rfl, rfl, ⟨by decide, by decide, mixed _ hB1.1 hB1.2⟩, .inl ⟨_, rfl, _, _, rfl, rfl, (by decide : (0 : Int) < 2147483579), ?_⟩⟩
          refine ⟨_, rfl, _, 64, rfl, rfl, ⟨by decide, by decide⟩, .inl ⟨_, rfl, _, rfl, _, m, rfl, rfl, hm0, ?_⟩⟩
          exact k _ _ (md _).1 (md _).2 b2 (fin _ b2 hg2 hc2)
        | true =>
          refine iteT ?_
          change tTest (tOp (rI0 fun i j => V.bl (decide (j ≤ i))) _ _) _ _ _
          refine ⟨_, rfl, _, rfl, 10, 18, rfl, rfl, ⟨by decide, by decide, by decide⟩, _, _, rfl, rfl, _, rfl, ?_⟩
          cases hc2' : decide ((10 : Int) ^ (18 : Int).toNat ≤ (if z < 0 then -z else z)) with
          | false =>
            refine iteF ?_
            refine ⟨_, rfl, .inl ⟨_, rfl, _, _, rfl, rfl, (by decide : (0 : Int) < 2147483629), _, rfl, 72031, t, rfl, rfl, .inl (by decide), _, _, rfl, rfl, _, 3019, rfl, rfl, _, 5, rfl, rfl, ⟨by decide, by decide, by omega⟩, .inl ⟨_, rfl, _, _, rfl, rfl, (by decide : (0 : Int) < 2147483587), ?_⟩⟩⟩
            refine ⟨_, rfl, _, rfl, 2, t, rfl, rfl, .inl (by decide), _, 2417, rfl, rfl, _, _, rfl, rfl, .inl ⟨by omega, by omega⟩, _, rfl, 64151, t, rfl, rfl, .inl (by decide), _, rfl, _, _, rfl, rfl, .inr ⟨by omega, by omega⟩, _, _, rfl, rfl, _, 83009, rfl, rfl, _, 3, rfl, rfl, ⟨by decide, by decide, mixed _ hB1.1 hB1.2⟩, .inl ⟨_, rfl, _, _, rfl, rfl, (by decide : (0 : Int) < 2147483579), ?_⟩⟩
            refine ⟨_, rfl, _, 64, rfl, rfl, ⟨by decide, by decide⟩, .inl ⟨_, rfl, _, rfl, _, m, rfl, rfl, hm0, ?_⟩⟩
            exact k _ _ (md _).1 (md _).2 b2 (fin _ b2 hg2 hc2)
          | true =>
            refine iteT ?_
            refine ⟨_, rfl, _, rfl, 10, 18, rfl, rfl, ⟨by decide, by decide, by decide⟩, _, _, rfl, rfl, 2, _, rfl, rfl, .inl (by decide), _, rfl, _, _, rfl, rfl, .inr ⟨_, rfl, _, _, rfl, rfl, ?_⟩⟩
            have r0 : 0 ≤ 2 * ((if z < 0 then -z else z) - (10 : Int) ^ (18 : Int).toNat) + (if decide (z < 0) = true then 1 else 0) := by
              have := of_decide_eq_true hc2'
              split <;> split <;> omega
            refine ⟨_, rfl, .inl ⟨_, rfl, _, rfl, _, m, rfl, rfl, ⟨hm0, by omega⟩, _, rfl, g, _, 2, 2, rfl, rfl, hg2, rfl, ?_⟩⟩
            refine ⟨_, rfl, .inl ⟨_, rfl, _, rfl, _, m, rfl, rfl, hm0, ?_⟩⟩
            exact k _ _ (md _).1 (md _).2 b2.put ⟨(z0 :: zs), t + 1, _, upd_same, by rw [upd_ne cg]; exact hc2, by omega, by omega, Int.ediv_nonneg r0 (by omega)⟩
end
end K53
namespace K53
open PySem PySem.Spec PyProof.Rows L2
/-! ### a rule as a tuple -/
def RtAt (H : Hp) (y : V) (r : Ru) : Prop := ∃ p, y = .ref p ∧ H p = some (.tup [.int (r.len : Int), optV r.low, optV r.high])
def RlAt (H : Hp) (a : Addr) (rs : List Ru) : Prop := ∃ ys, H a = some (.lst ys) ∧ Paired (RtAt H) ys rs
theorem RtAt.tk {H H' : Hp} {y : V} {r : Ru} (s : Tk H H') : RtAt H y r → RtAt H' y r := fun ⟨p, e, h⟩ => ⟨p, e, s _ _ h⟩
theorem RlAt.same {H H' : Hp} {a : Addr} {rs : List Ru} (s : Same H H') : RlAt H a rs → RlAt H' a rs := fun ⟨ys, h1, h2⟩ => ⟨ys, s _ _ h1, Paired.imp (fun _ _ z => RtAt.tk (Same.tk s) z) h2⟩
/-- a bag's neighbours stay -/
theorem But.tk {g : Addr} {H H' : Hp} {xs : List V} (b : But g H H') (hg : H g = some (.lst xs)) : Tk H H' := fun a ys e => b _ _ e (apart e hg (by simp))
section
variable {w : World} {K : PySem.W.Frag} {mg : Str → Option Value} {base : Heap}
/-! ### _law_one, _law_gains -/
def spOne : Sp := fun vs H Q _ => ∃ (g c l : Addr) (ns : List Int) (k : Nat), vs = [.ref g, .ref l] ∧ BagAt H g c k ∧ k ≤ 1000000 ∧ H l = some (.lst (iVs ns)) ∧ 0 < ns.length ∧ ns.length ≤ 1000 ∧ ∀ d H', d ∈ ns → But g H H' → BagAt H' g c (k + 1) → Q (.int d) H'
theorem ok_law_one (T : Txt K mg) : FR Pg w K mg base 2 (He.ga K "_law_one") spOne := by
  have G_law_dip : FR Pg w K mg base 1 _ spDip := ok_law_dip T
  obtain ⟨fd, F⟩ := T.f_law_one
  refine FR.of F sc_law_one (fun _ _ _ _ _ _ us hl => match us, hl with | [_, _], _ => rfl) (fun vs H Q E h => ?_) (fun cdv A outer s H vs Q E hr h => ?_)
  · obtain ⟨g, c, l, ns, k, rfl, _⟩ := h
    rfl
  · obtain ⟨g, c, l, ns, n, rfl, hb, hn, hl, h0, h1, k⟩ := h
    have lg : l ≠ g := by
      obtain ⟨cells, t, rest, hg, _⟩ := hb
      exact apart hl hg bag_ne
    refine ⟨_, ((pss_one (ps_ret (pe_ix (r := rIxL K) ix_list (pv 1) (pe_fn G_law_dip (hr.mono (by decide)) rfl T.glo_law_dip (pa_cons (pv 0) (pa_cons (pe_callB (id := "len") (r := lenR K) call_len_seq (by rfl) T.free_len (by decide +kernel) (pa_cons (pv 1) pa_nil)) pa_nil))) (fun _ _ => rfl))))), ?_⟩
    refine ⟨_, rfl, _, rfl, _, rfl, l, _, rfl, .inl (SqL.of hl), g, c, _, n, rfl, hb, hn, by rw [len_iVs]; omega, by rw [len_iVs]; omega, fun d H' d0 dm b hb' => ?_⟩
    rw [len_iVs] at dm
    obtain ⟨z, hz⟩ : ∃ z, ns[d.toNat]? = some z := ⟨_, List.getElem?_eq_getElem (by omega)⟩
    have hz2 : atI (iVs ns) d = some (.int z) := by
      have := atI_nat (xs := iVs ns) (j := d.toNat) (v := .int z) (by rw [List.getElem?_map, hz]; rfl)
      rwa [Int.toNat_of_nonneg d0] at this
    exact ⟨l, _, d, .int z, rfl, rfl, SqL.of (b _ _ hl lg), hz2, k z H' (List.mem_of_getElem? hz) b hb'⟩
def spGains : Sp := fun vs H Q _ => ∃ (g c : Addr) (n m k : Nat), vs = [.ref g, .int (n : Int), .int (m : Int)] ∧ BagAt H g c k ∧ k ≤ 10000 ∧ n ≤ 48 ∧ m ≤ 1000 ∧ ∀ a gs H', But g H H' → BagAt H' g c (k + 100) → H' a = some (.lst (iVs gs)) → gs.length = n → Q (.ref a) H'
theorem ok_law_gains (T : Txt K mg) : FR Pg w K mg base 2 (He.ga K "_law_gains") spGains := by
  have G_law_dip : FR Pg w K mg base 1 _ spDip := ok_law_dip T
  obtain ⟨fd, F⟩ := T.f_law_gains
  refine FR.of F sc_law_gains (fun _ _ _ _ _ _ us hl => match us, hl with | [_, _, _], _ => rfl) (fun vs H Q E h => ?_) (fun cdv A outer s H vs Q E hr h => ?_)
  · obtain ⟨g, c, n, m, k, rfl, _⟩ := h
    rfl
  · obtain ⟨g, c, n, m, k0, rfl, hb, hk, hn, hm, k⟩ := h
    refine ⟨_, ((pss_one (ps_ret (pe_lc (own := [("_law_day", 3)]) (g := gName 3) (tt := tYes) (by rfl) sc_law_gains.nd (pi_range1 rfl T.free_range (pa_cons (pv 1) pa_nil)) (blkOk_by (own := [("_law_day", 3)]) (N := N_law_gains) (sc := defScope s_law_gains) (by decide +kernel)) (fun _ _ _ _ _ => (pg_name (i := 3) sc_law_gains.nd rfl (by first | exact Or.inl rfl | exact Or.inr rfl) (by first | exact Or.inl rfl | exact Or.inr rfl))) (fun _ _ _ _ _ => pts_nil) (fun _ _ _ _ _ => (pe_op op_sub (pe_fn G_law_dip (hr.mono (by decide)) rfl T.glo_law_dip (pa_cons (pv 0) (pa_cons (pe_op op_add (pe_op op_mul pe_int (pv 2)) pe_int) pa_nil))) (pv 2))))))), ?_⟩
    refine ⟨_, rfl, _, rfl, by omega, by omega, fun D hD => ?_⟩
    rw [show ((n : Int)).toNat = n by omega]
    obtain ⟨gD, cD⟩ := hb.apart hD
    refine lc_range (lo := 0) (n := n) (fun i H' => But g H H' ∧ BagAt H' g c (k0 + i) ∧ ∃ gs : List Int, H' D = some (.lst (iVs gs)) ∧ gs.length = i) ⟨But.of (Same.new hD), hb.same (Same.new hD), [], upd_same, rfl⟩ ?_ ?_
    · rintro i H2 hi ⟨b2, hb2, gs, d2, hgs⟩
      refine ⟨rfl, _, rfl, _, rfl, 2, (m : Int), rfl, rfl, .inl (by decide), _, 1, rfl, rfl, g, c, _, k0 + i, rfl, hb2, by omega, by omega, by omega, fun d H3 d0 dm b3 hb3 => ?_⟩
      have d3 := b3 _ _ d2 gD
      refine ⟨_, rfl, d, (m : Int), rfl, rfl, _, d3, line_lt (by rw [len_iVs]; omega), ?_, hb3.put gD cD, gs ++ [d - m], by rw [upd_same, iVs_app], by simp; omega⟩
      exact fun b o e nb => by rw [upd_ne (ne_of_none e hD)]; exact b3 _ _ (b2 _ _ e nb) nb
    · rintro H2 ⟨b2, hb2, gs, d2, hgs⟩
      exact k D gs H2 b2 (hb2.mono (by omega)) d2 hgs
/-! ### _law_sums -/
def spSums : Sp := fun vs H Q _ => ∃ (a : Addr) (gs : List Int) (l : Nat), vs = [.ref a, .int (l : Int)] ∧ H a = some (.lst (iVs gs)) ∧ gs.length ≤ 48 ∧ l ≤ 100 ∧ ∀ b H', Same H H' → H' b = some (.lst (iVs (sumsL gs l))) → Q (.ref b) H'
theorem sumsL_get {gs : List Int} {l i : Nat} (h : i < gs.length + 1 - l) : (sumsL gs l)[i]? = some ((gs.drop i).take l).sum := by
  unfold sumsL
  rw [List.getElem?_map, List.getElem?_range h]
  rfl
theorem ok_law_sums (T : Txt K mg) : FR Pg w K mg base 1 (He.ga K "_law_sums") spSums := by
  obtain ⟨fd, F⟩ := T.f_law_sums
  refine FR.of F sc_law_sums (fun _ _ _ _ _ _ us hl => match us, hl with | [_, _], _ => rfl) (fun vs H Q E h => ?_) (fun cdv A outer s H vs Q E hr h => ?_)
  · obtain ⟨a, gs, l, rfl, _⟩ := h
    rfl
  · obtain ⟨a, gs, l, rfl, ha, hz, hl, k⟩ := h
    refine ⟨_, ((pss_one (ps_ret (pe_lc (own := [("_law_begin", 2)]) (g := gName 2) (tt := tYes) (by rfl) sc_law_sums.nd (pi_range1 rfl T.free_range (pa_cons (pe_op op_add (pe_op op_sub (pe_callB (id := "len") (r := lenR K) call_len_seq (by rfl) T.free_len (by decide +kernel) (pa_cons (pv 0) pa_nil)) (pv 1)) pe_int) pa_nil)) (blkOk_by (own := [("_law_begin", 2)]) (N := N_law_sums) (sc := defScope s_law_sums) (by decide +kernel)) (fun _ _ _ _ _ => (pg_name (i := 2) sc_law_sums.nd rfl (by first | exact Or.inl rfl | exact Or.inr rfl) (by first | exact Or.inl rfl | exact Or.inr rfl))) (fun _ _ _ _ _ => pts_nil) (fun _ _ _ _ _ => (pe_callB (id := "sum") (r := rSum K) (cr_sum rfl) (by rfl) T.free_sum (by decide +kernel) (pa_cons (pe_slice (r := rSlL K) sl_list (pv 0) (po_some (pv 2)) (po_some (pe_op op_add (pv 2) (pv 1)))) pa_nil))))))), ?_⟩
    refine ⟨_, rfl, a, _, rfl, .inl (SqL.of ha), _, rfl, _, _, rfl, rfl, _, _, rfl, rfl, _, rfl, by rw [len_iVs]; omega, by rw [len_iVs]; omega, fun D hD => ?_⟩
    rw [len_iVs, show ((gs.length : Int) - (l : Int) + 1).toNat = gs.length + 1 - l by omega]
    refine lc_range (lo := 0) (n := gs.length + 1 - l) (fun i H' => Same H H' ∧ H' D = some (.lst (iVs ((sumsL gs l).take i)))) ⟨Same.new hD, upd_same⟩ ?_ ?_
    · rintro i H2 hi ⟨s2, d2⟩
      rw [Int.zero_add]
      refine ⟨rfl, _, rfl, _, rfl, _, rfl, _, rfl, _, rfl, _, _, rfl, rfl, _, rfl, a, _, rfl, SqL.of (s2 _ _ ha), fun b hb => ?_⟩
      rw [show cutV (iVs gs) (some (i : Int)) (some ((i : Int) + (l : Int))) = iVs ((gs.drop i).take l) by
        rw [show ((i : Int) + (l : Int)) = ((i + l : Nat) : Int) by omega, cut_mid, iVs_drop, iVs_take, show i + l - i = l by omega]]
      have s3 := Same.new (o := .lst (iVs ((gs.drop i).take l))) hb
      refine ⟨b, _, rfl, SqL.of upd_same, _, s3 _ _ d2, line_lt (by rw [len_iVs, List.length_take]; omega), Same.mut (s2.trans s3) hD, ?_⟩
      rw [upd_same, take_get (sumsL_get hi), iVs_app]
    · rintro H2 ⟨s2, d2⟩
      refine k D H2 s2 ?_
      rw [d2, List.take_of_length_le (by unfold sumsL; simp)]
end
end K53
namespace K53
open PySem PySem.Spec PyProof.Rows L2
/-! ### a drawn rule is kept by the row -/
def GoodR (gs : List Int) (r : Ru) : Prop := 1 ≤ r.len ∧ r.len ≤ gs.length + 3 ∧ OkB r.low r.high ∧ GKeeps gs r
theorem good_lo {gs zs : List Int} {l : Nat} {mn x1 : Int} (hs : ∀ x ∈ sumsL gs l, x ∈ zs) (hmin : ∀ y, y ∈ zs → mn ≤ y) (h1 : x1 ∈ [(0 : Int), 1, 0, 2, 5]) : ∀ x ∈ sumsL gs l, mn - x1 ≤ x := fun x hx => by
  have := hmin x (hs x hx)
  have : 0 ≤ x1 := by
    simp at h1
    omega
  omega
theorem good_hi {gs zs : List Int} {l : Nat} {mx x2 : Int} (hs : ∀ x ∈ sumsL gs l, x ∈ zs) (hmax : ∀ y, y ∈ zs → y ≤ mx) (h2 : x2 ∈ [(0 : Int), 1, 0, 2, 5]) : ∀ x ∈ sumsL gs l, x ≤ mx + x2 := fun x hx => by
  have := hmax x (hs x hx)
  have : 0 ≤ x2 := by
    simp at h2
    omega
  omega
theorem good_ok {zs : List Int} {mn mx x1 x2 : Int} (hmn : mn ∈ zs) (hmax : ∀ y, y ∈ zs → y ≤ mx) (h1 : x1 ∈ [(0 : Int), 1, 0, 2, 5]) (h2 : x2 ∈ [(0 : Int), 1, 0, 2, 5]) : mn - x1 ≤ mx + x2 := by
  have := hmax mn hmn
  simp at h1 h2
  omega
theorem in23 (e : Int) : inV (.int e) [.int 2, .int 3] = decide (e = 2 ∨ e = 3) := by
  unfold inV
  simp only [List.any_cons, List.any_nil, eqV, Bool.or_false]
  rcases Decidable.em (e = 2) with h | h
  · subst h; rfl
  · rcases Decidable.em (e = 3) with h3 | h3
    · subst h3; rfl
    · rw [decide_eq_false (by omega)]
      simp
      omega
section
variable {w : World} {K : PySem.W.Frag} {mg : Str → Option Value} {base : Heap}
def spRules : Sp := fun vs H Q _ => ∃ (g c a : Addr) (gs : List Int) (m k : Nat), vs = [.ref g, .ref a, .int (m : Int)] ∧ BagAt H g c k ∧ k ≤ 10000 ∧ H a = some (.lst (iVs gs)) ∧ 1 ≤ gs.length ∧ gs.length ≤ 40 ∧ m ≤ 8 ∧
  ∀ b rs H', But g H H' → BagAt H' g c (k + 100) → RlAt H' b rs → rs.length = m → (∀ r ∈ rs, GoodR gs r) → H b = none → Q (.ref b) H'
theorem ok_law_rules (T : Txt K mg) : FR Pg w K mg base 3 (He.ga K "_law_rules") spRules := by
  have G_law_dip : FR Pg w K mg base 1 _ spDip := ok_law_dip T
  have G_law_one : FR Pg w K mg base 2 _ spOne := ok_law_one T
  have G_law_sums : FR Pg w K mg base 1 _ spSums := ok_law_sums T
  obtain ⟨fd, F⟩ := T.f_law_rules
  refine FR.of F sc_law_rules (fun _ _ _ _ _ _ us hl => match us, hl with | [_, _, _], _ => rfl) (fun vs H Q E h => ?_) (fun cdv A outer s H vs Q E hr h => ?_)
  · obtain ⟨g, c, a, gs, m, k, rfl, _⟩ := h
    rfl
  · obtain ⟨g, c, a, gs, m, k0, rfl, hb, hk, ha, hn, hn2, hm, k⟩ := h
    have ag : a ≠ g := by
      obtain ⟨cells, t, rest, hg, _⟩ := hb
      exact apart ha hg bag_ne
    refine ⟨_, ((pss_cons (ps_par (i := 3) (j := 4) rfl sc_law_rules.nd rfl rfl (by decide) rfl rfl (pa_cons (pe_lst pa_nil) (pa_cons (pe_callB (id := "len") (r := lenR K) call_len_seq (by rfl) T.free_len (by decide +kernel) (pa_cons (pv 1) pa_nil)) pa_nil)) rfl)
  (pss_cons (ps_for PassesOwn.never rfl (pi_range1 rfl T.free_range (pa_cons (pv 2) pa_nil)) (pg_name (i := 5) sc_law_rules.nd rfl (by first | exact Or.inl rfl | exact Or.inr rfl) (by first | exact Or.inl rfl | exact Or.inr rfl))
    (pss_cons (ps_par (i := 6) (j := 7) rfl sc_law_rules.nd rfl rfl (by decide) rfl rfl (pa_cons (pe_op op_add pe_int (pe_fn G_law_dip (hr.mono (by decide)) rfl T.glo_law_dip (pa_cons (pv 0) (pa_cons (pv 4) pa_nil)))) (pa_cons (pe_fn G_law_dip (hr.mono (by decide)) rfl T.glo_law_dip (pa_cons (pv 0) (pa_cons pe_int pa_nil))) pa_nil)) rfl)
  (pss_cons (ps_if (pt_cmpR op_eq (pe_fn G_law_dip (hr.mono (by decide)) rfl T.glo_law_dip (pa_cons (pv 0) (pa_cons pe_int pa_nil))) pe_int (nomark _)) (pss_one (ps_set (i := 6) sc_law_rules.nd rfl (by first | exact Or.inl rfl | exact Or.inr rfl) (pe_op op_add (pe_op op_add (pv 4) pe_int) (pe_fn G_law_dip (hr.mono (by decide)) rfl T.glo_law_dip (pa_cons (pv 0) (pa_cons pe_int pa_nil)))))) pss_nil)
  (pss_cons (ps_set (i := 8) sc_law_rules.nd rfl (by first | exact Or.inl rfl | exact Or.inr rfl) (pe_op op_cat (pe_fn G_law_sums (hr.mono (by decide)) rfl T.glo_law_sums (pa_cons (pv 1) (pa_cons (pv 6) pa_nil))) (pe_ifExp (pt_cmpR op_gt (pv 6) (pv 4) (nomark _)) (pe_lst (pa_cons (pe_op op_sub (pe_fn G_law_dip (hr.mono (by decide)) rfl T.glo_law_dip (pa_cons (pv 0) (pa_cons pe_int pa_nil))) pe_int) pa_nil)) (pe_lst pa_nil))))
  (pss_cons (ps_par (i := 9) (j := 10) rfl sc_law_rules.nd rfl rfl (by decide) rfl rfl (pa_cons (pe_op op_sub (pe_callB (id := "min") (r := rMin K) (cr_min rfl) (by rfl) T.free_min (by decide +kernel) (pa_cons (pv 8) pa_nil)) (pe_fn G_law_one (hr.mono (by decide)) rfl T.glo_law_one (pa_cons (pv 0) (pa_cons (pe_lst (pa_cons pe_int (pa_cons pe_int (pa_cons pe_int (pa_cons pe_int (pa_cons pe_int pa_nil)))))) pa_nil)))) (pa_cons (pe_op op_add (pe_callB (id := "max") (r := rMax K) (cr_max rfl) (by rfl) T.free_max (by decide +kernel) (pa_cons (pv 8) pa_nil)) (pe_fn G_law_one (hr.mono (by decide)) rfl T.glo_law_one (pa_cons (pv 0) (pa_cons (pe_lst (pa_cons pe_int (pa_cons pe_int (pa_cons pe_int (pa_cons pe_int (pa_cons pe_int pa_nil)))))) pa_nil)))) pa_nil)) rfl)
  (pss_one (ps_expr (pe_bm PySem.F.plainAttrs_list PySem.F.slot_list_append PySem.F.type_list_append mt_append (pv 3) (pa_cons (pe_tup (pa_cons (pv 6) (pa_cons (pe_ifExp (pt_cmpR op_lt (pv 7) pe_int (nomark _)) pe_non (pv 9)) (pa_cons (pe_ifExp (pt_cmpR (r := rIn K false) op_in_seq (pv 7) (pe_tup (pa_cons pe_int (pa_cons pe_int pa_nil))) (by with_unfolding_all rfl)) pe_non (pv 10)) pa_nil)))) pa_nil)))))))))
  (pss_one (ps_ret (pv 3)))))), ?_⟩
    refine ⟨line_le (by decide), fun D hD => ?_⟩
    obtain ⟨gD, cD⟩ := hb.apart hD
    have s1 := Same.new (o := .lst []) hD
    refine ⟨_, rfl, a, _, rfl, .inl (SqL.of (s1 _ _ ha)), _, _, rfl, ?_⟩
    refine ⟨_, rfl, _, rfl, by omega, by omega, ?_⟩
    rw [show ((m : Int)).toNat = m by omega, len_iVs]
    refine for_range (lo := 0) (n := m) (fun i σ H' => (∃ u1 u2 u3 u4 u5 u6, σ = [some (.ref g), some (.ref a), some (.int (m : Int)), some (.ref D), some (.int (gs.length : Int)), u1, u2, u3, u4, u5, u6]) ∧ But g H H' ∧ BagAt H' g c (k0 + 10 * i) ∧
        ∃ ys rs, H' D = some (.lst ys) ∧ Paired (RtAt H') ys rs ∧ rs.length = i ∧ ∀ r ∈ rs, GoodR gs r)
      ⟨⟨_, _, _, _, _, _, rfl⟩, But.of s1, hb.same s1, [], [], upd_same, .nil, rfl, fun r hr => by cases hr⟩ ?_ ?_
    · rintro i σ H1 hi ⟨⟨u1, u2, u3, u4, u5, u6, rfl⟩, b1, hb1, ys, rs, d1, pr, hrl, hgd⟩
      have hys : ys.length = rs.length := Paired.length pr
      obtain ⟨cells, tt, rest, hg1, _⟩ := id hb1
      refine ⟨_, rfl, _, rfl, g, c, _, k0 + 10 * i, rfl, hb1, by omega, by omega, by omega, fun d H2 d0 dm b2 hb2 => ?_⟩
      obtain ⟨dn, rfl⟩ := Int.eq_ofNat_of_zero_le d0
      refine ⟨_, _, rfl, rfl, ?_⟩
      refine ⟨_, rfl, g, c, 6, _, rfl, hb2, by omega, by omega, by omega, fun e H3 e0 em b3 hb3 => ?_⟩
      refine ⟨_, _, rfl, ?_⟩
      refine ⟨_, rfl, g, c, 9, _, rfl, hb3, by omega, by omega, by omega, fun f H4 f0 fm b4 hb4 => ?_⟩
      have b14 := (b2.trans b3).trans b4
      refine ⟨rfl, _, rfl, ?_⟩
      rw [dec_int]
      by_cases hf : f = 0
      · refine iteT' (by simp [hf]) ?_
        refine ⟨_, rfl, _, _, rfl, rfl, _, rfl, g, c, 3, _, rfl, hb4, by omega, by omega, by omega, fun x H5 x0 xm b5 hb5 => ?_⟩
        obtain ⟨xn, rfl⟩ := Int.eq_ofNat_of_zero_le x0
        have b15 := b14.trans b5
        refine ⟨_, _, rfl, rfl, ?_⟩
        refine ⟨_, rfl, _, rfl, a, gs, gs.length + 1 + xn, rfl, b15 _ _ (b1 _ _ ha ag) ag, by omega, by omega, fun sb H6 s6 hsb => ?_⟩
        refine ⟨_, rfl, _, rfl, _, _, rfl, rfl, _, rfl, iteT' (decide_eq_true (by omega)) ?_⟩
        have b16 := b15.trans (But.of s6)
        have hsg : sb ≠ g := by
          obtain ⟨_, _, _, hg5, _⟩ := hb5
          exact apart hsb (s6 _ _ hg5) bag_ne
        refine ⟨_, rfl, g, c, 9, _, rfl, hb5.same s6, by omega, by omega, by omega, fun z H7 z0 zm b7 hb7 => ?_⟩
        have b17 := b16.trans b7
        refine ⟨_, _, rfl, rfl, line_le (by simp), fun q hq => ?_⟩
        have s8 := Same.new (o := .lst [(fun i j => V.int (i - j)) z 4]) hq
        have e0' : sumsL gs (gs.length + 1 + xn) = [] := by
          unfold sumsL
          rw [show gs.length + 1 - (gs.length + 1 + xn) = 0 by omega]
          rfl
        rw [e0'] at hsb
        refine ⟨sb, q, _, _, rfl, rfl, s8 _ _ (b7 _ _ hsb hsg), upd_same, line_le (by simp), fun p hp => ?_⟩
        have s9 := Same.new (o := .lst (iVs [] ++ [(fun i j => V.int (i - j)) z 4])) hp
        have b19 := (b17.trans (But.of s8)).trans (But.of s9)
        have hb9 := (hb7.same s8).same s9
        have hp9 : upd (upd H7 q (.lst [(fun i j => V.int (i - j)) z 4])) p (.lst (iVs [] ++ [(fun i j => V.int (i - j)) z 4])) p = some (.lst (iVs [z - 4])) := upd_same
        have hs : ∀ x ∈ sumsL gs (gs.length + 1 + xn), x ∈ [z - 4] := fun x hx => by rw [e0'] at hx; cases hx
        have hz1 : 0 < [z - 4].length := by simp
        have hl1 : 1 ≤ gs.length + 1 + xn ∧ gs.length + 1 + xn ≤ gs.length + 3 := by omega
        generalize upd (upd H7 q (.lst [(fun i j => V.int (i - j)) z 4])) p (.lst (iVs [] ++ [(fun i j => V.int (i - j)) z 4])) = H9 at *
        refine ⟨_, rfl, p, [z - 4], rfl, SqL.of hp9, hz1, fun mn hmn hmin => ?_⟩
        refine ⟨_, rfl, line_le (by decide), fun q1 hq1 => ?_⟩
        have s10 := Same.new (o := .lst (iVs [0, 1, 0, 2, 5])) hq1
        refine ⟨g, c, q1, [0, 1, 0, 2, 5], _, rfl, hb9.same s10, by omega, upd_same, by decide, by decide, fun x1 H10 hx1 b10 hb10 => ⟨_, _, rfl, rfl, ?_⟩⟩
        have pg : p ≠ g := by
          obtain ⟨_, _, _, hg9, _⟩ := hb9
          exact apart hp9 hg9 bag_ne
        have hp10 := b10 _ _ (s10 _ _ hp9) pg
        refine ⟨_, rfl, p, [z - 4], rfl, SqL.of hp10, hz1, fun mx hmx hmax => ?_⟩
        refine ⟨_, rfl, line_le (by decide), fun q2 hq2 => ?_⟩
        have s11 := Same.new (o := .lst (iVs [0, 1, 0, 2, 5])) hq2
        refine ⟨g, c, q2, [0, 1, 0, 2, 5], _, rfl, hb10.same s11, by omega, upd_same, by decide, by decide, fun x2 H11 hx2 b11 hb11 => ⟨_, _, rfl, rfl, _, _, rfl, ?_⟩⟩
        have bb := (((b19.trans (But.of s10)).trans b10).trans (But.of s11)).trans b11
        have d11 := bb _ _ d1 gD
        have glo := good_lo hs hmin hx1
        have ghi := good_hi hs hmax hx2
        have gok := good_ok hmn hmax hx1 hx2
        have fin : ∀ (r : Ru) (H12 : Hp) (t : Addr), GoodR gs r → Same H11 H12 → H12 t = none → (∃ u1 u2 u3 u4 u5 u6, [some (.ref g), some (.ref a), some (.int (m : Int)), some (.ref D), some (.int (gs.length : Int)), some (V.int (0 + (i : Int))), some (V.int (((gs.length + 1 + xn) : Nat) : Int)), some (V.int e), some (V.ref p), some (V.int (mn - x1)), some (V.int (mx + x2))] = [some (.ref g), some (.ref a), some (.int (m : Int)), some (.ref D), some (.int (gs.length : Int)), u1, u2, u3, u4, u5, u6]) ∧ But g H (upd (upd H12 t (.tup [.int (r.len : Int), optV r.low, optV r.high])) D (.lst (ys ++ [.ref t]))) ∧ BagAt (upd (upd H12 t (.tup [.int (r.len : Int), optV r.low, optV r.high])) D (.lst (ys ++ [.ref t]))) g c (k0 + 10 * (i + 1)) ∧
            ∃ ys' rs', upd (upd H12 t (.tup [.int (r.len : Int), optV r.low, optV r.high])) D (.lst (ys ++ [.ref t])) D = some (.lst ys') ∧ Paired (RtAt (upd (upd H12 t (.tup [.int (r.len : Int), optV r.low, optV r.high])) D (.lst (ys ++ [.ref t])))) ys' rs' ∧ rs'.length = i + 1 ∧ ∀ r ∈ rs', GoodR gs r := by
          intro r H12 t hgr s12 ht
          have s13 := Same.new (o := .tup [.int (r.len : Int), optV r.low, optV r.high]) ht
          have d13 := s13 _ _ (s12 _ _ d11)
          have tk : Tk H1 (upd (upd H12 t (.tup [.int (r.len : Int), optV r.low, optV r.high])) D (.lst (ys ++ [.ref t]))) := Tk.trans (Tk.trans (bb.tk hg1) (Same.tk (s12.trans s13))) (Tk.put d13 fun _ z => by cases z)
          have tD : t ≠ D := apart upd_same d13 (by simp)
          refine ⟨⟨_, _, _, _, _, _, rfl⟩, fun b o q1 q2 => ?_, (((hb11.same s12).same s13).put gD cD).mono (by omega), ys ++ [.ref t], rs ++ [r], upd_same, Paired.app (Paired.imp (fun _ _ z => RtAt.tk tk z) pr) (.cons ⟨t, rfl, by rw [upd_ne tD]; exact upd_same⟩ .nil), by simp [hrl], fun r' hr' => ?_⟩
          · rw [upd_ne (ne_of_none q1 hD)]
            exact s13 _ _ (s12 _ _ (bb _ _ (b1 _ _ q1 q2) q2))
          · rcases List.mem_append.mp hr' with h | h
            · exact hgd r' h
            · rw [List.mem_singleton.mp h]
              exact hgr
        have hle : ys.length ≤ 8 := by omega
        refine ⟨_, rfl, .inl ⟨rfl, _, SqL.of d11⟩, _, rfl, _, rfl, _, _, rfl, rfl, _, rfl, ?_⟩
        by_cases h2 : e < 2
        · refine iteT' (decide_eq_true h2) ?_
          refine ⟨_, rfl, line_le (by decide), fun t0 ht0 => ?_⟩
          have s12 := Same.new (o := .tup [.int 2, .int 3]) ht0
          refine ⟨t0, _, rfl, .inr (SqT.of upd_same), rfl, rfl, _, rfl, ?_⟩
          refine iteF' (by rw [in23]; exact decide_eq_false (by omega)) ?_
          refine ⟨_, rfl, line_le (by simp), fun t ht => ?_⟩
          refine ⟨D, _, _, rfl, rfl, (by rw [upd_ne (ne_of_none (s12 _ _ d11) ht)]; exact s12 _ _ d11), line_lt (by omega), ?_⟩
          exact fin ⟨(gs.length + 1 + xn), none, some (mx + x2)⟩ _ t ⟨hl1.1, hl1.2, trivial, fun x hx => ⟨fun l z => (by cases z), fun u z => (by cases z; exact ghi x hx)⟩⟩ s12 ht
        · refine iteF' (decide_eq_false h2) ?_
          refine ⟨_, rfl, _, rfl, line_le (by decide), fun t0 ht0 => ?_⟩
          have s12 := Same.new (o := .tup [.int 2, .int 3]) ht0
          refine ⟨t0, _, rfl, .inr (SqT.of upd_same), rfl, rfl, _, rfl, ?_⟩
          by_cases h3 : e = 2 ∨ e = 3
          · refine iteT' (by rw [in23]; exact decide_eq_true h3) ?_
            refine ⟨line_le (by simp), fun t ht => ?_⟩
            refine ⟨D, _, _, rfl, rfl, (by rw [upd_ne (ne_of_none (s12 _ _ d11) ht)]; exact s12 _ _ d11), line_lt (by omega), ?_⟩
            exact fin ⟨(gs.length + 1 + xn), some (mn - x1), none⟩ _ t ⟨hl1.1, hl1.2, trivial, fun x hx => ⟨fun l z => (by cases z; exact glo x hx), fun u z => (by cases z)⟩⟩ s12 ht
          · refine iteF' (by rw [in23]; exact decide_eq_false h3) ?_
            refine ⟨_, rfl, line_le (by simp), fun t ht => ?_⟩
            refine ⟨D, _, _, rfl, rfl, (by rw [upd_ne (ne_of_none (s12 _ _ d11) ht)]; exact s12 _ _ d11), line_lt (by omega), ?_⟩
            exact fin ⟨(gs.length + 1 + xn), some (mn - x1), some (mx + x2)⟩ _ t ⟨hl1.1, hl1.2, gok, fun x hx => ⟨fun l z => (by cases z; exact glo x hx), fun u z => (by cases z; exact ghi x hx)⟩⟩ s12 ht
      · refine iteF' (by simp [hf]) ?_
        refine ⟨_, rfl, _, rfl, a, gs, 1 + dn, rfl, b14 _ _ (b1 _ _ ha ag) ag, by omega, by omega, fun sb H6 s6 hsb => ?_⟩
        refine ⟨_, rfl, _, rfl, _, _, rfl, rfl, _, rfl, iteF' (decide_eq_false (by omega)) ?_⟩
        have b16 := b14.trans (But.of s6)
        refine ⟨line_le (by decide), fun q hq => ?_⟩
        have s8 := Same.new (o := .lst []) hq
        refine ⟨sb, q, _, _, rfl, rfl, s8 _ _ hsb, upd_same, line_le (by simp [sumsL]; omega), fun p hp => ?_⟩
        have s9 := Same.new (o := .lst (iVs (sumsL gs (1 + dn)) ++ [])) hp
        have b19 := (b16.trans (But.of s8)).trans (But.of s9)
        have hb9 := ((hb4.same s6).same s8).same s9
        have hp9 : upd (upd H6 q (.lst [])) p (.lst (iVs (sumsL gs (1 + dn)) ++ [])) p = some (.lst (iVs (sumsL gs (1 + dn)))) := by rw [upd_same, List.append_nil]
        have hs : ∀ x ∈ sumsL gs (1 + dn), x ∈ sumsL gs (1 + dn) := fun x hx => hx
        have hz1 : 0 < (sumsL gs (1 + dn)).length := by
          unfold sumsL
          simp
          omega
        have hl1 : 1 ≤ 1 + dn ∧ 1 + dn ≤ gs.length + 3 := by omega
        generalize upd (upd H6 q (.lst [])) p (.lst (iVs (sumsL gs (1 + dn)) ++ [])) = H9 at *
        refine ⟨_, rfl, p, (sumsL gs (1 + dn)), rfl, SqL.of hp9, hz1, fun mn hmn hmin => ?_⟩
        refine ⟨_, rfl, line_le (by decide), fun q1 hq1 => ?_⟩
        have s10 := Same.new (o := .lst (iVs [0, 1, 0, 2, 5])) hq1
        refine ⟨g, c, q1, [0, 1, 0, 2, 5], _, rfl, hb9.same s10, by omega, upd_same, by decide, by decide, fun x1 H10 hx1 b10 hb10 => ⟨_, _, rfl, rfl, ?_⟩⟩
        have pg : p ≠ g := by
          obtain ⟨_, _, _, hg9, _⟩ := hb9
          exact apart hp9 hg9 bag_ne
        have hp10 := b10 _ _ (s10 _ _ hp9) pg
        refine ⟨_, rfl, p, (sumsL gs (1 + dn)), rfl, SqL.of hp10, hz1, fun mx hmx hmax => ?_⟩
        refine ⟨_, rfl, line_le (by decide), fun q2 hq2 => ?_⟩
        have s11 := Same.new (o := .lst (iVs [0, 1, 0, 2, 5])) hq2
        refine ⟨g, c, q2, [0, 1, 0, 2, 5], _, rfl, hb10.same s11, by omega, upd_same, by decide, by decide, fun x2 H11 hx2 b11 hb11 => ⟨_, _, rfl, rfl, _, _, rfl, ?_⟩⟩
        have bb := (((b19.trans (But.of s10)).trans b10).trans (But.of s11)).trans b11
        have d11 := bb _ _ d1 gD
        have glo := good_lo hs hmin hx1
        have ghi := good_hi hs hmax hx2
        have gok := good_ok hmn hmax hx1 hx2
        have fin : ∀ (r : Ru) (H12 : Hp) (t : Addr), GoodR gs r → Same H11 H12 → H12 t = none → (∃ u1 u2 u3 u4 u5 u6, [some (.ref g), some (.ref a), some (.int (m : Int)), some (.ref D), some (.int (gs.length : Int)), some (V.int (0 + (i : Int))), some (V.int (((1 + dn) : Nat) : Int)), some (V.int e), some (V.ref p), some (V.int (mn - x1)), some (V.int (mx + x2))] = [some (.ref g), some (.ref a), some (.int (m : Int)), some (.ref D), some (.int (gs.length : Int)), u1, u2, u3, u4, u5, u6]) ∧ But g H (upd (upd H12 t (.tup [.int (r.len : Int), optV r.low, optV r.high])) D (.lst (ys ++ [.ref t]))) ∧ BagAt (upd (upd H12 t (.tup [.int (r.len : Int), optV r.low, optV r.high])) D (.lst (ys ++ [.ref t]))) g c (k0 + 10 * (i + 1)) ∧
            ∃ ys' rs', upd (upd H12 t (.tup [.int (r.len : Int), optV r.low, optV r.high])) D (.lst (ys ++ [.ref t])) D = some (.lst ys') ∧ Paired (RtAt (upd (upd H12 t (.tup [.int (r.len : Int), optV r.low, optV r.high])) D (.lst (ys ++ [.ref t])))) ys' rs' ∧ rs'.length = i + 1 ∧ ∀ r ∈ rs', GoodR gs r := by
          intro r H12 t hgr s12 ht
          have s13 := Same.new (o := .tup [.int (r.len : Int), optV r.low, optV r.high]) ht
          have d13 := s13 _ _ (s12 _ _ d11)
          have tk : Tk H1 (upd (upd H12 t (.tup [.int (r.len : Int), optV r.low, optV r.high])) D (.lst (ys ++ [.ref t]))) := Tk.trans (Tk.trans (bb.tk hg1) (Same.tk (s12.trans s13))) (Tk.put d13 fun _ z => by cases z)
          have tD : t ≠ D := apart upd_same d13 (by simp)
          refine ⟨⟨_, _, _, _, _, _, rfl⟩, fun b o q1 q2 => ?_, (((hb11.same s12).same s13).put gD cD).mono (by omega), ys ++ [.ref t], rs ++ [r], upd_same, Paired.app (Paired.imp (fun _ _ z => RtAt.tk tk z) pr) (.cons ⟨t, rfl, by rw [upd_ne tD]; exact upd_same⟩ .nil), by simp [hrl], fun r' hr' => ?_⟩
          · rw [upd_ne (ne_of_none q1 hD)]
            exact s13 _ _ (s12 _ _ (bb _ _ (b1 _ _ q1 q2) q2))
          · rcases List.mem_append.mp hr' with h | h
            · exact hgd r' h
            · rw [List.mem_singleton.mp h]
              exact hgr
        have hle : ys.length ≤ 8 := by omega
        refine ⟨_, rfl, .inl ⟨rfl, _, SqL.of d11⟩, _, rfl, _, rfl, _, _, rfl, rfl, _, rfl, ?_⟩
        by_cases h2 : e < 2
        · refine iteT' (decide_eq_true h2) ?_
          refine ⟨_, rfl, line_le (by decide), fun t0 ht0 => ?_⟩
          have s12 := Same.new (o := .tup [.int 2, .int 3]) ht0
          refine ⟨t0, _, rfl, .inr (SqT.of upd_same), rfl, rfl, _, rfl, ?_⟩
          refine iteF' (by rw [in23]; exact decide_eq_false (by omega)) ?_
          refine ⟨_, rfl, line_le (by simp), fun t ht => ?_⟩
          refine ⟨D, _, _, rfl, rfl, (by rw [upd_ne (ne_of_none (s12 _ _ d11) ht)]; exact s12 _ _ d11), line_lt (by omega), ?_⟩
          exact fin ⟨(1 + dn), none, some (mx + x2)⟩ _ t ⟨hl1.1, hl1.2, trivial, fun x hx => ⟨fun l z => (by cases z), fun u z => (by cases z; exact ghi x hx)⟩⟩ s12 ht
        · refine iteF' (decide_eq_false h2) ?_
          refine ⟨_, rfl, _, rfl, line_le (by decide), fun t0 ht0 => ?_⟩
          have s12 := Same.new (o := .tup [.int 2, .int 3]) ht0
          refine ⟨t0, _, rfl, .inr (SqT.of upd_same), rfl, rfl, _, rfl, ?_⟩
          by_cases h3 : e = 2 ∨ e = 3
          · refine iteT' (by rw [in23]; exact decide_eq_true h3) ?_
            refine ⟨line_le (by simp), fun t ht => ?_⟩
            refine ⟨D, _, _, rfl, rfl, (by rw [upd_ne (ne_of_none (s12 _ _ d11) ht)]; exact s12 _ _ d11), line_lt (by omega), ?_⟩
            exact fin ⟨(1 + dn), some (mn - x1), none⟩ _ t ⟨hl1.1, hl1.2, trivial, fun x hx => ⟨fun l z => (by cases z; exact glo x hx), fun u z => (by cases z)⟩⟩ s12 ht
          · refine iteF' (by rw [in23]; exact decide_eq_false h3) ?_
            refine ⟨_, rfl, line_le (by simp), fun t ht => ?_⟩
            refine ⟨D, _, _, rfl, rfl, (by rw [upd_ne (ne_of_none (s12 _ _ d11) ht)]; exact s12 _ _ d11), line_lt (by omega), ?_⟩
            exact fin ⟨(1 + dn), some (mn - x1), some (mx + x2)⟩ _ t ⟨hl1.1, hl1.2, gok, fun x hx => ⟨fun l z => (by cases z; exact glo x hx), fun u z => (by cases z; exact ghi x hx)⟩⟩ s12 ht
    · rintro σ H1 ⟨⟨u1, u2, u3, u4, u5, u6, rfl⟩, b1, hb1, ys, rs, d1, pr, hrl, hgd⟩
      exact ⟨_, rfl, k D rs H1 b1 (hb1.mono (by omega)) ⟨ys, d1, pr⟩ hrl hgd hD⟩
end
end K53
namespace K53
open PySem PySem.Spec PyProof.Rows L2
theorem take_all {α : Type} {P : α → Prop} {l : List α} {j : Nat} {x : α} (h : ∀ y ∈ l.take j, P y) (e : l[j]? = some x) (hx : P x) : ∀ y ∈ l.take (j + 1), P y := fun y hy => by
  rw [take_get e] at hy
  rcases List.mem_append.mp hy with h1 | h1
  · exact h y h1
  · rw [List.mem_singleton.mp h1]
    exact hx
section
variable {w : World} {K : PySem.W.Frag} {mg : Str → Option Value} {base : Heap}
theorem RuAt.put {H : Hp} {D : Addr} {xs : List V} {o : HO} {v : V} {r : Ru} (hd : H D = some (.lst xs)) : RuAt K H v r → RuAt K (upd H D o) v r := fun ⟨a, dx, fs, e, h1, h2⟩ => ⟨a, dx, fs, e, by rw [upd_ne (apart h1 hd (by simp))]; exact h1, h2⟩
/-! ### _law_book -/
def spBook (K : PySem.W.Frag) : Sp := fun vs H Q _ => ∃ (a : Addr) (n : Nat) (rs : List Ru), vs = [.int (n : Int), .ref a] ∧ RlAt H a rs ∧ 1 ≤ n ∧ n ≤ 48 ∧ rs.length ≤ 8 ∧ (∀ r ∈ rs, 1 ≤ r.len ∧ r.len ≤ 48 ∧ OkB r.low r.high) ∧ ∀ b H', Same H H' → BkAt K H' b n rs → Q (.ref b) H'
theorem ok_law_book (T : Txt K mg) : FR Pg w K mg base 6 (He.ga K "_law_book") (spBook K) := by
  have G_Rule : FnR Pg w K mg base CX0 4 _ (spRuleI K) := (ok_Rule_init T).raw
  have G_Book : FnR Pg w K mg base CX0 4 _ (spBookI K) := (ok_Book_init T).raw
  obtain ⟨fd, F⟩ := T.f_law_book
  refine FR.of F sc_law_book (fun _ _ _ _ _ _ us hl => match us, hl with | [_, _], _ => rfl) (fun vs H Q E h => ?_) (fun cdv A outer s H vs Q E hr h => ?_)
  · obtain ⟨a, n, rs, rfl, _⟩ := h
    rfl
  · obtain ⟨a, n, rs, rfl, ⟨ys, ha, pr⟩, h1, h48, h8, hgd, k⟩ := h
    have hys : ys.length = rs.length := Paired.length pr
    refine ⟨_, ((pss_one (ps_ret (pe_mk T.mk_Book G_Book (hr.mono (by decide)) rfl T.glo_Book (pa_cons (pv 0) (pa_cons (pe_lc (own := [("_law_length", 2), ("_law_low", 3), ("_law_high", 4)]) (g := gTup K 3 (gCons (gName 2) (gCons (gName 3) (gCons (gName 4) gNil)))) (tt := tYes) (by rfl) sc_law_book.nd (pi_list (pv 1)) (blkOk_by (own := [("_law_length", 2), ("_law_low", 3), ("_law_high", 4)]) (N := N_law_book) (sc := defScope s_law_book) (by decide +kernel)) (fun _ _ _ _ _ => (pg_tup rfl (pgs_cons (pg_name (i := 2) sc_law_book.nd rfl (by first | exact Or.inl rfl | exact Or.inr rfl) (by first | exact Or.inl rfl | exact Or.inr rfl)) (pgs_cons (pg_name (i := 3) sc_law_book.nd rfl (by first | exact Or.inl rfl | exact Or.inr rfl) (by first | exact Or.inl rfl | exact Or.inr rfl)) (pgs_cons (pg_name (i := 4) sc_law_book.nd rfl (by first | exact Or.inl rfl | exact Or.inr rfl) (by first | exact Or.inl rfl | exact Or.inr rfl)) pgs_nil))))) (fun _ _ _ _ _ => pts_nil) (fun _ _ _ _ _ => (pe_mk T.mk_Rule G_Rule (hr.mono (by decide)) rfl T.glo_Rule (pa_cons (pv 2) (pa_cons (pv 3) (pa_cons (pv 4) pa_nil)))))) pa_nil)))))), ?_⟩
    refine ⟨_, rfl, _, rfl, a, rfl, ⟨_, SqL.of ha⟩, fun D hD => ?_⟩
    refine lc_list (K := K) (a := a) (xs := ys) (fun i H' => Same H H' ∧ ∃ acc, H' D = some (.lst acc) ∧ Paired (RuAt K H') acc (rs.take i)) ⟨Same.new hD, [], upd_same, .nil⟩ (fun i H' _ ⟨s2, _⟩ => SqL.of (s2 _ _ ha)) ?_ ?_
    · rintro i y H2 hi ⟨s2, acc, d2, pr2⟩
      obtain ⟨r, hr', p, rfl, hp⟩ := Paired.getL pr hi
      have hacc : acc.length = (rs.take i).length := Paired.length pr2
      rw [List.length_take] at hacc
      obtain ⟨g1, g2, g3⟩ := hgd r (List.mem_of_getElem? hr')
      change gTup K 3 (gCons (gName 2) (gCons (gName 3) (gCons (gName 4) gNil))) _ [some (.int (n : Int)), some (.ref a), none, none, none] _ _
      refine ⟨p, _, rfl, SqT.of (s2 _ _ hp), rfl, _, _, rfl, _, _, rfl, _, _, rfl, rfl, ?_⟩
      change _ ∧ tYes [some (.int (n : Int)), some (.ref a), some (.int (r.len : Int)), some (optV r.low), some (optV r.high)] _ _
      refine ⟨rfl, ?_⟩
      refine ⟨_, rfl, _, rfl, _, rfl, ?_⟩
      refine mk_rule (Q := fun y H4 => ∃ acc, H4 D = some (.lst acc) ∧ acc.length < sizeLine ∧ Same H (upd H4 D (.lst (acc ++ [y]))) ∧ ∃ acc_1, upd H4 D (.lst (acc ++ [y])) D = some (.lst acc_1) ∧ Paired (RuAt K (upd H4 D (.lst (acc ++ [y])))) acc_1 (List.take (i + 1) rs)) g1 g2 g3 fun x H3 s3 hr3 => ⟨acc, s3 _ _ d2, line_lt (by omega), Same.mut (s2.trans s3) hD, acc ++ [.ref x], upd_same, ?_⟩
      rw [take_get hr']
      exact Paired.app (Paired.imp (fun _ _ z => RuAt.put (s3 _ _ d2) (RuAt.same s3 z)) pr2) (.cons (RuAt.put (s3 _ _ d2) hr3) .nil)
    · rintro H2 ⟨s2, acc, d2, pr2⟩
      rw [hys, List.take_length] at pr2
      exact mk_book h1 h48 d2 pr2 h8 fun b H3 s3 hb3 => k b H3 (s2.trans s3) hb3
/-! ### _law_keeps -/
def spKeeps : Sp := fun vs H Q _ => ∃ (ga a : Addr) (gs : List Int) (rs : List Ru), vs = [.ref ga, .ref a] ∧ H ga = some (.lst (iVs gs)) ∧ RlAt H a rs ∧ gs.length ≤ 48 ∧ (∀ r ∈ rs, r.len ≤ 100) ∧ ∀ (b : Bool) H', Same H H' → (b = true ↔ ∀ r ∈ rs, GKeeps gs r) → Q (.bl b) H'
theorem ok_law_keeps (T : Txt K mg) : FR Pg w K mg base 2 (He.ga K "_law_keeps") spKeeps := by
  have G_law_sums : FR Pg w K mg base 1 _ spSums := ok_law_sums T
  obtain ⟨fd, F⟩ := T.f_law_keeps
  refine FR.of F sc_law_keeps (fun _ _ _ _ _ _ us hl => match us, hl with | [_, _], _ => rfl) (fun vs H Q E h => ?_) (fun cdv A outer s H vs Q E hr h => ?_)
  · obtain ⟨ga, a, gs, rs, rfl, _⟩ := h
    rfl
  · obtain ⟨ga, a, gs, rs, rfl, hga, ⟨ys, ha, pr⟩, hn, hgd, k⟩ := h
    have hys : ys.length = rs.length := Paired.length pr
    refine ⟨_, ((pss_cons (ps_for PassesOwn.never rfl (pi_list (pv 1)) (pg_tup rfl (pgs_cons (pg_name (i := 2) sc_law_keeps.nd rfl (by first | exact Or.inl rfl | exact Or.inr rfl) (by first | exact Or.inl rfl | exact Or.inr rfl)) (pgs_cons (pg_name (i := 3) sc_law_keeps.nd rfl (by first | exact Or.inl rfl | exact Or.inr rfl) (by first | exact Or.inl rfl | exact Or.inr rfl)) (pgs_cons (pg_name (i := 4) sc_law_keeps.nd rfl (by first | exact Or.inl rfl | exact Or.inr rfl) (by first | exact Or.inl rfl | exact Or.inr rfl)) pgs_nil))))
    (pss_one (ps_for PassesOwn.never rfl (pi_list (pe_fn G_law_sums (hr.mono (by decide)) rfl T.glo_law_sums (pa_cons (pv 0) (pa_cons (pv 2) pa_nil)))) (pg_name (i := 5) sc_law_keeps.nd rfl (by first | exact Or.inl rfl | exact Or.inr rfl) (by first | exact Or.inl rfl | exact Or.inr rfl))
    (pss_one (ps_if (PW.pt (pw_or (PW.pt (pw_and (pt_cmpR op_notN (pv 3) pe_non (nomark _)) (pw_and1 (pt_cmpR op_lt (pv 5) (pv 3) (nomark _))))) (pw_or1 (PW.pt (pw_and (pt_cmpR op_notN (pv 4) pe_non (nomark _)) (pw_and1 (pt_cmpR op_gt (pv 5) (pv 4) (nomark _)))))))) (pss_one (ps_ret pe_bl)) pss_nil)))))
  (pss_one (ps_ret pe_bl)))), ?_⟩
    refine ⟨_, rfl, a, rfl, ⟨_, SqL.of ha⟩, ?_⟩
    refine for_list (fun i σ H' => (∃ u2 u3 u4 u5, σ = [some (.ref ga), some (.ref a), u2, u3, u4, u5]) ∧ Same H H' ∧ ∀ r ∈ rs.take i, GKeeps gs r) ⟨⟨_, _, _, _, rfl⟩, Same.refl H, fun r hr => by simp at hr⟩ (fun i σ H' _ ⟨_, s2, _⟩ => SqL.of (s2 _ _ ha)) ?_ ?_
    · rintro i y σ H2 hi ⟨⟨u2, u3, u4, u5, rfl⟩, s2, hk⟩
      obtain ⟨r, hr', p, rfl, hp⟩ := Paired.getL pr hi
      have hrm := List.mem_of_getElem? hr'
      refine ⟨p, _, rfl, SqT.of (s2 _ _ hp), rfl, _, _, rfl, _, _, rfl, _, _, rfl, rfl, ?_⟩
      refine ⟨_, rfl, _, rfl, ga, gs, r.len, rfl, s2 _ _ hga, hn, hgd r hrm, fun sb H3 s3 hsb => ?_⟩
      refine ⟨sb, rfl, ⟨_, SqL.of hsb⟩, ?_⟩
      have s13 := s2.trans s3
      refine for_list (xs := iVs (sumsL gs r.len)) (fun j σ H' => (∃ u5, σ = [some (.ref ga), some (.ref a), some (.int (r.len : Int)), some (optV r.low), some (optV r.high), u5]) ∧ (Same H H' ∧ H' sb = some (.lst (iVs (sumsL gs r.len)))) ∧ ∀ x ∈ (sumsL gs r.len).take j, (∀ l, r.low = some l → l ≤ x) ∧ (∀ u, r.high = some u → x ≤ u))
        ⟨⟨_, rfl⟩, ⟨s13, hsb⟩, fun x hx => by simp at hx⟩ (fun j σ H' _ ⟨_, ⟨_, h4⟩, _⟩ => SqL.of h4) ?_ ?_
      · rintro j v σ H4 hj ⟨⟨u, rfl⟩, ⟨s4, hsb4⟩, hall⟩
        obtain ⟨x, hx, rfl⟩ := int_get hj
        have hxm := List.mem_of_getElem? hx
        have bad : ¬ ((∀ l, r.low = some l → l ≤ x) ∧ (∀ u, r.high = some u → x ≤ u)) → Q (.bl false) H4 := fun z => k false H4 s4 ⟨fun e => (by cases e), fun e => absurd (e r hrm x hxm) z⟩
        have good := fun z => take_all hall hx z
        cases hlo : r.low with
        | none =>
          rw [hlo] at bad good
          refine ⟨_, rfl, rfl, false, rfl, iteF (iteF ?_)⟩
          cases hhi : r.high with
          | none =>
            rw [hhi] at good
            exact ⟨_, rfl, rfl, false, rfl, iteF (iteF ⟨⟨_, rfl⟩, ⟨s4, hsb4⟩, good ⟨fun _ z => (by cases z), fun _ z => (by cases z)⟩⟩)⟩
          | some hh =>
            rw [hhi] at bad good
            refine ⟨_, rfl, rfl, true, rfl, iteT ⟨_, rfl, _, rfl, _, _, rfl, rfl, _, rfl, ?_⟩⟩
            by_cases q : hh < x
            · refine iteT' (decide_eq_true q) (bad fun z => ?_)
              have := z.2 hh rfl
              omega
            · exact iteF' (decide_eq_false q) ⟨⟨_, rfl⟩, ⟨s4, hsb4⟩, good ⟨fun _ z => by (cases z), fun _ z => by (cases z; omega)⟩⟩
        | some ll =>
          rw [hlo] at bad good
          refine ⟨_, rfl, rfl, true, rfl, iteT ⟨_, rfl, _, rfl, _, _, rfl, rfl, _, rfl, ?_⟩⟩
          by_cases q0 : x < ll
          · refine iteT' (decide_eq_true q0) (iteT (bad fun z => ?_))
            have := z.1 ll rfl
            omega
          · refine iteF' (decide_eq_false q0) ?_
            cases hhi : r.high with
            | none =>
              rw [hhi] at good
              exact ⟨_, rfl, rfl, false, rfl, iteF (iteF ⟨⟨_, rfl⟩, ⟨s4, hsb4⟩, good ⟨fun _ z => by (cases z; omega), fun _ z => (by cases z)⟩⟩)⟩
            | some hh =>
              rw [hhi] at bad good
              refine ⟨_, rfl, rfl, true, rfl, iteT ⟨_, rfl, _, rfl, _, _, rfl, rfl, _, rfl, ?_⟩⟩
              by_cases q : hh < x
              · refine iteT' (decide_eq_true q) (bad fun z => ?_)
                have := z.2 hh rfl
                omega
              · exact iteF' (decide_eq_false q) ⟨⟨_, rfl⟩, ⟨s4, hsb4⟩, good ⟨fun _ z => by (cases z; omega), fun _ z => by (cases z; omega)⟩⟩
      · rintro σ H4 ⟨⟨u, rfl⟩, ⟨s4, hsb4⟩, hall⟩
        rw [len_iVs, List.take_length] at hall
        exact ⟨⟨_, _, _, _, rfl⟩, s4, take_all hk hr' hall⟩
    · rintro σ H2 ⟨⟨u2, u3, u4, u5, rfl⟩, s2, hk⟩
      rw [hys, List.take_length] at hk
      exact k true H2 s2 ⟨fun _ => hk, fun _ => rfl⟩
end
end K53
namespace K53
open PySem PySem.Spec PyProof.Rows L2
/-! ### lists of gains -/
def LgAt (H : Hp) (v : V) (g : List Int) : Prop := ∃ p, v = .ref p ∧ H p = some (.lst (iVs g))
theorem LgAt.same {H H' : Hp} {v : V} {g : List Int} (s : Same H H') : LgAt H v g → LgAt H' v g := fun ⟨p, e, h⟩ => ⟨p, e, s _ _ h⟩
abbrev LgsAt (H : Hp) (ys : List V) (gs : List (List Int)) : Prop := Paired (LgAt H) ys gs
theorem LgsAt.same {H H' : Hp} {ys : List V} {gs : List (List Int)} (s : Same H H') (p : LgsAt H ys gs) : LgsAt H' ys gs := Paired.imp (fun _ _ z => LgAt.same s z) p
theorem ints_refs {g : List Int} {zs : List V} (h : g ≠ []) (hz : ∀ z ∈ zs, ∃ p, z = .ref p) : HO.lst (iVs g) ≠ .lst zs := fun e => by
  cases g with
  | nil => exact h rfl
  | cons x g =>
    have e := HO.lst.inj e
    obtain ⟨p, hp⟩ := hz (.int x) (by rw [← e]; simp)
    cases hp
theorem LgAt.put {H : Hp} {L : Addr} {zs : List V} {o : HO} {v : V} {g : List Int} (hl : H L = some (.lst zs)) (hz : ∀ z ∈ zs, ∃ p, z = .ref p) (hg : g ≠ []) : LgAt H v g → LgAt (upd H L o) v g := fun ⟨p, e, h⟩ => ⟨p, e, by rw [upd_ne (apart h hl (ints_refs hg hz))]; exact h⟩
theorem LgsAt.put {H : Hp} {L : Addr} {zs : List V} {o : HO} (hl : H L = some (.lst zs)) (hz : ∀ z ∈ zs, ∃ p, z = .ref p) : ∀ {ys : List V} {gs : List (List Int)}, (∀ g ∈ gs, g ≠ []) → LgsAt H ys gs → LgsAt (upd H L o) ys gs
  | _, _, _, .nil => .nil
  | _, _, hg, .cons h t => .cons (LgAt.put hl hz (hg _ (by simp)) h) (LgsAt.put hl hz (fun g q => hg g (List.mem_cons_of_mem _ q)) t)
theorem LgsAt.refs {H : Hp} : ∀ {ys : List V} {gs : List (List Int)}, LgsAt H ys gs → ∀ z ∈ ys, ∃ p, z = .ref p
  | _, _, .nil, z, h => by cases h
  | _, _, .cons ⟨p, e, _⟩ t, z, h => by
    rcases List.mem_cons.mp h with h | h
    · exact ⟨p, by rw [h, e]⟩
    · exact LgsAt.refs t z h
/-- one list longer -/
def extL (low : Int) (k : Nat) (g : List Int) : List (List Int) := (List.range k).map fun j : Nat => g ++ [low + (j : Int)]
theorem extL_ne {low : Int} {k : Nat} {g : List Int} : ∀ h ∈ extL low k g, h ≠ [] := fun h hh => by
  obtain ⟨j, _, rfl⟩ := List.mem_map.mp hh
  simp
theorem flat_ne {low : Int} {k : Nat} {gs : List (List Int)} : ∀ h ∈ gs.flatMap (extL low k), h ≠ [] := fun h hh => by
  obtain ⟨g, _, hg⟩ := List.mem_flatMap.mp hh
  exact extL_ne h hg
theorem extL_len (low : Int) (k : Nat) (g : List Int) : (extL low k g).length = k := by unfold extL; simp
theorem flat_lenL (low : Int) (k : Nat) (gs : List (List Int)) : (gs.flatMap (extL low k)).length = gs.length * k := by
  rw [List.length_flatMap]
  simp only [extL_len]
  rw [List.map_const', List.sum_replicate_nat]
theorem allL_small {low : Int} {k n : Nat} (hk : k ≤ 3) (hn : n ≤ 5) : (allL n low k).length ≤ 243 := by
  rw [allL_len]
  exact Nat.le_trans (Nat.pow_le_pow_left hk n) (Nat.le_trans (Nat.pow_le_pow_right (by decide) hn) (by decide))
section
variable {w : World} {K : PySem.W.Frag} {mg : Str → Option Value} {base : Heap}
/-! ### _law_lists -/
def spLists : Sp := fun vs H Q _ => ∃ (n k : Nat) (low high : Int), vs = [.int (n : Int), .int low, .int high] ∧ n ≤ 5 ∧ k ≤ 3 ∧ high + 1 - low = (k : Int) ∧ -100 ≤ low ∧ low ≤ 100 ∧ ∀ a ys H', Same H H' → H' a = some (.lst ys) → LgsAt H' ys (allL n low k) → Q (.ref a) H'
theorem ok_law_lists (T : Txt K mg) : FR Pg w K mg base 1 (He.ga K "_law_lists") spLists := by
  obtain ⟨fd, F⟩ := T.f_law_lists
  refine FR.of F sc_law_lists (fun _ _ _ _ _ _ us hl => match us, hl with | [_, _, _], _ => rfl) (fun vs H Q E h => ?_) (fun cdv A outer s H vs Q E hr h => ?_)
  · obtain ⟨n, k, low, high, rfl, _⟩ := h
    rfl
  · obtain ⟨n, kk, low, high, rfl, hn, hk, hh, hlo, hlo2, k⟩ := h
    refine ⟨_, ((pss_cons (ps_set (i := 3) sc_law_lists.nd rfl (by first | exact Or.inl rfl | exact Or.inr rfl) (pe_lst (pa_cons (pe_lst pa_nil) pa_nil)))
  (pss_cons (ps_for PassesOwn.never rfl (pi_range1 rfl T.free_range (pa_cons (pv 0) pa_nil)) (pg_name (i := 4) sc_law_lists.nd rfl (by first | exact Or.inl rfl | exact Or.inr rfl) (by first | exact Or.inl rfl | exact Or.inr rfl))
    (pss_cons (ps_set (i := 5) sc_law_lists.nd rfl (by first | exact Or.inl rfl | exact Or.inr rfl) (pe_lst pa_nil))
  (pss_cons (ps_for PassesOwn.never rfl (pi_list (pv 3)) (pg_name (i := 6) sc_law_lists.nd rfl (by first | exact Or.inl rfl | exact Or.inr rfl) (by first | exact Or.inl rfl | exact Or.inr rfl))
    (pss_one (ps_expr (pe_bm PySem.F.plainAttrs_list PySem.F.slot_list_extend PySem.F.type_list_extend mt_extend (pv 5) (pa_cons (pe_lc (own := [("_law_gain", 7)]) (g := gName 7) (tt := tYes) (by rfl) sc_law_lists.nd (pi_range2 rfl T.free_range (pa_cons (pv 1) (pa_cons (pe_op op_add (pv 2) pe_int) pa_nil))) (blkOk_by (own := [("_law_gain", 7)]) (N := N_law_lists) (sc := defScope s_law_lists) (by decide +kernel)) (fun _ _ _ _ _ => (pg_name (i := 7) sc_law_lists.nd rfl (by first | exact Or.inl rfl | exact Or.inr rfl) (by first | exact Or.inl rfl | exact Or.inr rfl))) (fun _ _ _ _ _ => pts_nil) (fun _ _ _ _ _ => (pe_op op_cat (pv 6) (pe_lst (pa_cons (pv 7) pa_nil))))) pa_nil)))))
  (pss_one (ps_set (i := 3) sc_law_lists.nd rfl (by first | exact Or.inl rfl | exact Or.inr rfl) (pv 5))))))
  (pss_one (ps_ret (pv 3)))))), ?_⟩
    refine ⟨line_le (by decide), fun q hq => ⟨line_le (by simp), fun D0 hD0 => ?_⟩⟩
    have s1 := (Same.new (o := .lst []) hq).trans (Same.new (o := .lst [.ref q]) hD0)
    refine ⟨_, rfl, _, rfl, by omega, by omega, ?_⟩
    rw [show ((n : Int)).toNat = n by omega]
    refine for_range (lo := 0) (n := n) (fun i σ H' => (∃ D u4 u5 u6 u7 ys, σ = [some (.int (n : Int)), some (.int low), some (.int high), some (.ref D), u4, u5, u6, u7] ∧ H' D = some (.lst ys) ∧ LgsAt H' ys (allL i low kk)) ∧ Same H H')
      ⟨⟨D0, _, _, _, _, [.ref q], rfl, upd_same, .cons ⟨q, rfl, by rw [upd_ne (ne_of_none upd_same hD0)]; exact upd_same⟩ .nil⟩, s1⟩ ?_ ?_
    · rintro i σ H2 hi ⟨⟨D, u4, u5, u6, u7, ys, rfl, hD, pl⟩, s2⟩
      have hys : ys.length = (allL i low kk).length := Paired.length pl
      have hsm := allL_small (low := low) (n := i) hk (by omega)
      refine ⟨line_le (by decide), fun L hL => ?_⟩
      have s3 := Same.new (o := .lst []) hL
      refine ⟨_, rfl, D, rfl, ⟨_, SqL.of (s3 _ _ hD)⟩, ?_⟩
      refine for_list (xs := ys) (fun j σ H' => (∃ u6 u7, σ = [some (.int (n : Int)), some (.int low), some (.int high), some (.ref D), some (.int (0 + (i : Int))), some (.ref L), u6, u7]) ∧ Same H2 H' ∧ ∃ zs, H' L = some (.lst zs) ∧ LgsAt H' zs (((allL i low kk).take j).flatMap (extL low kk)))
        ⟨⟨_, _, rfl⟩, s3, [], upd_same, by simpa using Paired.nil⟩ (fun j σ H' _ ⟨_, s4, _⟩ => SqL.of (s4 _ _ hD)) ?_ ?_
      · rintro j v σ H3 hj ⟨⟨u6, u7, rfl⟩, s4, zs, dL, pz⟩
        obtain ⟨g, hg, p, rfl, hp⟩ := Paired.getL pl hj
        have hzs : zs.length = (((allL i low kk).take j).flatMap (extL low kk)).length := Paired.length pz
        rw [flat_lenL, List.length_take] at hzs
        have hjl : j < (allL i low kk).length := (List.getElem?_eq_some_iff.mp hg).1
        have hzs2 : zs.length ≤ 243 * 3 := by
          rw [hzs]
          exact Nat.mul_le_mul (by omega) hk
        have hgl : g.length ≤ 5 := by
          have := (mem_allL.mp (List.mem_of_getElem? hg)).1
          omega
        refine ⟨_, rfl, .inl ⟨rfl, _, SqL.of dL⟩, _, rfl, _, rfl, _, _, rfl, rfl, _, _, rfl, ⟨by omega, by omega, by omega, by omega⟩, fun D2 hD2 => ?_⟩
        rw [show (high + 1 - low).toNat = kk by omega]
        refine lc_range (lo := low) (n := kk) (fun m H' => Same H3 H' ∧ ∃ ws, H' D2 = some (.lst ws) ∧ LgsAt H' ws ((List.range m).map fun j : Nat => g ++ [low + (j : Int)])) ⟨Same.new hD2, [], upd_same, .nil⟩ ?_ ?_
        · rintro m H4 hm ⟨s5, ws, d2, pw⟩
          have hws : ws.length = _ := Paired.length pw
          rw [List.length_map, List.length_range] at hws
          refine ⟨rfl, _, rfl, _, rfl, line_le (by simp), fun q2 hq2 => ?_⟩
          have s6 := Same.new (o := .lst [.int (low + (m : Int))]) hq2
          refine ⟨p, q2, _, _, rfl, rfl, s6 _ _ (s5 _ _ (s4 _ _ hp)), upd_same, line_le (by rw [len_iVs]; simp; omega), fun r hr => ?_⟩
          have s7 := Same.new (o := .lst (iVs g ++ [.int (low + (m : Int))])) hr
          have d7 := s7 _ _ (s6 _ _ d2)
          refine ⟨ws, d7, line_lt (by omega), Same.mut (s5.trans (s6.trans s7)) hD2, ws ++ [.ref r], upd_same, ?_⟩
          rw [List.range_succ, List.map_append]
          have hrefs := LgsAt.refs pw
          refine Paired.app (LgsAt.put d7 hrefs (fun h hh => by obtain ⟨_, _, rfl⟩ := List.mem_map.mp hh; simp) (LgsAt.same (s6.trans s7) pw)) (.cons (LgAt.put d7 hrefs (by simp) ⟨r, rfl, by rw [iVs_app]; exact upd_same⟩) .nil)
        · rintro H4 ⟨s5, ws, d2, pw⟩
          have hws : ws.length = _ := Paired.length pw
          rw [List.length_map, List.length_range] at hws
          have dL4 := s5 _ _ dL
          refine ⟨L, D2, _, _, rfl, rfl, dL4, d2, line_le (by omega), ⟨_, _, rfl⟩, Same.mut (s4.trans s5) hL, zs ++ ws, upd_same, ?_⟩
          rw [take_get hg, List.flatMap_append]
          have hrefs := LgsAt.refs pz
          refine Paired.app (LgsAt.put dL4 hrefs flat_ne (LgsAt.same s5 pz)) ?_
          simp only [List.flatMap_cons, List.flatMap_nil, List.append_nil]
          exact LgsAt.put dL4 hrefs extL_ne pw
      · rintro σ H3 ⟨⟨u6, u7, rfl⟩, s4, zs, dL, pz⟩
        rw [hys, List.take_length] at pz
        exact ⟨_, rfl, ⟨L, _, _, _, _, zs, rfl, dL, pz⟩, s2.trans s4⟩
    · rintro σ H2 ⟨⟨D, u4, u5, u6, u7, ys, rfl, hD, pl⟩, s2⟩
      exact ⟨_, rfl, k D ys H2 s2 hD pl⟩
/-! ### _law_raised -/
theorem in_ints (v : Int) : ∀ ps : List Int, inV (.int v) (iVs ps) = decide (v ∈ ps)
  | [] => by simp [inV]
  | p :: ps => by
    have ih := in_ints v ps
    unfold inV at ih ⊢
    rw [show iVs (p :: ps) = .int p :: iVs ps from rfl, List.any_cons, ih]
    simp only [eqV, List.mem_cons]
    by_cases h : v = p
    · subst h; simp
    · have h2 : ¬ p = v := fun z => h z.symm
      simp [h, h2]
theorem flat_ints (ps : List Int) : (iVs ps).all flatV = true := by
  rw [List.all_eq_true]
  intro x hx
  obtain ⟨p, _, rfl⟩ := List.mem_map.mp hx
  rfl
def spRaisedG : Sp := fun vs H Q _ => ∃ (ga t : Addr) (by_ : Int) (gs ps : List Int), vs = [.ref ga, .ref t, .int by_] ∧ H ga = some (.lst (iVs gs)) ∧ H t = some (.tup (iVs ps)) ∧ gs.length ≤ 48 ∧ ∀ b H', Same H H' → H' b = some (.lst (iVs (raisedG gs (fun v => decide ((v : Int) ∈ ps)) by_))) → Q (.ref b) H'
theorem ok_law_raised (T : Txt K mg) : FR Pg w K mg base 1 (He.ga K "_law_raised") spRaisedG := by
  obtain ⟨fd, F⟩ := T.f_law_raised
  refine FR.of F sc_law_raised (fun _ _ _ _ _ _ us hl => match us, hl with | [_, _, _], _ => rfl) (fun vs H Q E h => ?_) (fun cdv A outer s H vs Q E hr h => ?_)
  · obtain ⟨ga, t, by_, gs, ps, rfl, _⟩ := h
    rfl
  · obtain ⟨ga, t, by_, gs, ps, rfl, hga, ht, hn, k⟩ := h
    generalize hf : (fun v : Nat => HT gs v + (if decide ((v : Int) ∈ ps) = true then 0 else by_)) = f
    have ef : raisedG gs (fun v => decide ((v : Int) ∈ ps)) by_ = gainsOf f gs.length := by rw [← hf]; rfl
    rw [ef] at k
    refine ⟨_, ((pss_cons (ps_set (i := 3) sc_law_raised.nd rfl (by first | exact Or.inl rfl | exact Or.inr rfl) (pe_lc (own := [("_law_place", 4)]) (g := gName 4) (tt := tYes) (by rfl) sc_law_raised.nd (pi_range1 rfl T.free_range (pa_cons (pe_op op_add (pe_callB (id := "len") (r := lenR K) call_len_seq (by rfl) T.free_len (by decide +kernel) (pa_cons (pv 0) pa_nil)) pe_int) pa_nil)) (blkOk_by (own := [("_law_place", 4)]) (N := N_law_raised) (sc := defScope s_law_raised) (by decide +kernel)) (fun _ _ _ _ _ => (pg_name (i := 4) sc_law_raised.nd rfl (by first | exact Or.inl rfl | exact Or.inr rfl) (by first | exact Or.inl rfl | exact Or.inr rfl))) (fun _ _ _ _ _ => pts_nil) (fun _ _ _ _ _ => (pe_op op_add (pe_callB (id := "sum") (r := rSum K) (cr_sum rfl) (by rfl) T.free_sum (by decide +kernel) (pa_cons (pe_slice (r := rSlL K) sl_list (pv 0) po_none (po_some (pv 4))) pa_nil)) (pe_ifExp (pt_cmpR (r := rIn K false) op_in_seq (pv 4) (pv 1) (by with_unfolding_all rfl)) pe_int (pv 2))))))
  (pss_one (ps_ret (pe_lc (own := [("_law_day", 5)]) (g := gName 5) (tt := tYes) (by rfl) sc_law_raised.nd (pi_range1 rfl T.free_range (pa_cons (pe_callB (id := "len") (r := lenR K) call_len_seq (by rfl) T.free_len (by decide +kernel) (pa_cons (pv 0) pa_nil)) pa_nil)) (blkOk_by (own := [("_law_day", 5)]) (N := N_law_raised) (sc := defScope s_law_raised) (by decide +kernel)) (fun _ _ _ _ _ => (pg_name (i := 5) sc_law_raised.nd rfl (by first | exact Or.inl rfl | exact Or.inr rfl) (by first | exact Or.inl rfl | exact Or.inr rfl))) (fun _ _ _ _ _ => pts_nil) (fun _ _ _ _ _ => (pe_op op_sub (pe_ix (r := rIxL K) ix_list (pv 3) (pe_op op_add (pv 5) pe_int) (fun _ _ => rfl)) (pe_ix (r := rIxL K) ix_list (pv 3) (pv 5) (fun _ _ => rfl))))))))), ?_⟩
    refine ⟨_, rfl, ga, _, rfl, .inl (SqL.of hga), _, _, rfl, rfl, _, rfl, by rw [len_iVs]; omega, by rw [len_iVs]; omega, fun D hD => ?_⟩
    rw [len_iVs, show ((gs.length : Int) + 1).toNat = gs.length + 1 by omega]
    refine lc_range (lo := 0) (n := gs.length + 1) (fun i H' => Same H H' ∧ H' D = some (.lst (iVs ((List.range i).map f)))) ⟨Same.new hD, upd_same⟩ ?_ ?_
    · rintro i H2 hi ⟨s2, d2⟩
      rw [Int.zero_add]
      refine ⟨rfl, _, rfl, _, rfl, _, rfl, ga, _, rfl, SqL.of (s2 _ _ hga), fun b hb => ?_⟩
      rw [show cutV (iVs gs) none (some (i : Int)) = iVs (gs.take i) from (cut_to _ i).trans (iVs_take gs i)]
      have s3 := Same.new (o := .lst (iVs (gs.take i))) hb
      refine ⟨b, _, rfl, SqL.of upd_same, _, rfl, _, rfl, t, _, rfl, .inr (SqT.of (s3 _ _ (s2 _ _ ht))), rfl, flat_ints ps, _, rfl, ?_⟩
      have ei : iVs ((List.range (i + 1)).map f) = iVs ((List.range i).map f) ++ [.int (f i)] := by rw [List.range_succ, List.map_append, List.map_cons, List.map_nil, iVs_app]
      have efi : f i = HT gs i + (if decide ((i : Int) ∈ ps) = true then 0 else by_) := by rw [← hf]
      have eh : HT gs i = (gs.take i).sum := rfl
      by_cases hm : (i : Int) ∈ ps
      · refine iteT' (by rw [in_ints]; exact decide_eq_true hm) ?_
        rw [if_pos (decide_eq_true hm)] at efi
        refine ⟨_, _, rfl, rfl, _, s3 _ _ d2, line_lt (by rw [len_iVs]; simp; omega), Same.mut (s2.trans s3) hD, ?_⟩
        rw [upd_same, ei, efi, eh]
      · refine iteF' (by rw [in_ints]; exact decide_eq_false hm) ?_
        rw [if_neg (by simpa using hm)] at efi
        refine ⟨_, rfl, _, _, rfl, rfl, _, s3 _ _ d2, line_lt (by rw [len_iVs]; simp; omega), Same.mut (s2.trans s3) hD, ?_⟩
        rw [upd_same, ei, efi, eh]
    · rintro H2 ⟨s2, d2⟩
      refine ⟨_, rfl, ga, _, rfl, .inl (SqL.of (s2 _ _ hga)), _, rfl, by rw [len_iVs]; omega, by rw [len_iVs]; omega, fun D2 hD2 => ?_⟩
      rw [len_iVs, show ((gs.length : Int)).toNat = gs.length by omega]
      refine lc_range (lo := 0) (n := gs.length) (fun i H' => Same H2 H' ∧ H' D2 = some (.lst (iVs (gainsOf f i)))) ⟨Same.new hD2, upd_same⟩ ?_ ?_
      · rintro i H3 hi ⟨s3, d3⟩
        rw [Int.zero_add]
        have hget : ∀ j, j ≤ gs.length → (iVs ((List.range (gs.length + 1)).map f))[j]? = some (.int (f j)) := fun j hj => by
          rw [List.getElem?_map, List.getElem?_map, List.getElem?_range (by omega)]
          rfl
        refine ⟨rfl, _, rfl, _, rfl, _, _, rfl, rfl, D, _, ((i + 1 : Nat) : Int), .int (f (i + 1)), rfl, rfl, SqL.of (s3 _ _ d2), atI_nat (hget _ (by omega)), _, rfl, _, rfl, D, _, (i : Int), .int (f i), rfl, rfl, SqL.of (s3 _ _ d2), atI_nat (hget _ (by omega)), _, _, rfl, rfl, _, d3, line_lt (by rw [len_iVs, gainsOf_len]; omega), Same.mut s3 hD2, ?_⟩
        rw [upd_same, show gainsOf f (i + 1) = gainsOf f i ++ [f (i + 1) - f i] by unfold gainsOf; rw [List.range_succ, List.map_append, List.map_cons, List.map_nil], iVs_app]
      · rintro H3 ⟨s3, d3⟩
        exact k D2 H3 (s2.trans s3) d3
end
end K53
namespace K53
open PySem PySem.Spec PyProof.Rows L2
theorem rgV_ints (a b : Int) : rgV a b = iVs ((List.range (b - a).toNat).map fun k : Nat => a + (k : Int)) := by
  unfold rgV
  rw [iVs, List.map_map]
  rfl
section
variable {w : World} {K : PySem.W.Frag} {mg : Str → Option Value} {base : Heap}
/-! ### _law_listed_right -/
def spListed (K : PySem.W.Frag) : Sp := fun vs H Q _ => ∃ (a : Addr) (n kk : Nat) (low high : Int) (rs : List Ru) (h : Nat → Int), vs = [.int (n : Int), .ref a, .int low, .int high] ∧ RlAt H a rs ∧ 1 ≤ n ∧ n ≤ 5 ∧ kk ≤ 3 ∧ high + 1 - low = (kk : Int) ∧ -3 ≤ low ∧ high ≤ 3 ∧ low ≤ high ∧ rs.length ≤ 8 ∧
  (∀ r ∈ rs, 1 ≤ r.len ∧ r.len ≤ 48 ∧ OkB r.low r.high) ∧ (⟨1, some low, some high⟩ : Ru) ∈ rs ∧ Feas (mvAll n 0 rs) h ∧ ∀ H', Same H H' → Q (.bl true) H'
theorem ok_law_listed_right (T : Txt K mg) : FR Pg w K mg base 12 (He.ga K "_law_listed_right") (spListed K) := by
  have G_law_book : FR Pg w K mg base 6 _ (spBook K) := ok_law_book T
  have G_law_lists : FR Pg w K mg base 1 _ spLists := ok_law_lists T
  have G_law_keeps : FR Pg w K mg base 2 _ spKeeps := ok_law_keeps T
  have G_greatest : FR Pg w K mg base 11 _ (spGreat K) := ok_greatest T
  have G_least : FR Pg w K mg base 11 _ (spLeast K) := ok_least T
  obtain ⟨fd, F⟩ := T.f_law_listed_right
  refine FR.of F sc_law_listed_right (fun _ _ _ _ _ _ us hl => match us, hl with | [_, _, _, _], _ => rfl) (fun vs H Q E h => ?_) (fun cdv A outer s H vs Q E hr h => ?_)
  · obtain ⟨a, n, kk, low, high, rs, h, rfl, _⟩ := h
    rfl
  · obtain ⟨a, n, kk, low, high, rs, h, rfl, hrl, h1, h5, hk3, hkk, hlo, hhi, hlh, h8, hgd, hbx, hF, k⟩ := h
    have hl1 : ∀ r ∈ rs, 1 ≤ r.len := fun r hr => (hgd r hr).1
    refine ⟨_, ((pss_cons (ps_par (i := 4) (j := 5) rfl sc_law_listed_right.nd rfl rfl (by decide) rfl rfl (pa_cons (pe_fn G_law_book (hr.mono (by decide)) rfl T.glo_law_book (pa_cons (pv 0) (pa_cons (pv 1) pa_nil))) (pa_cons (pe_lc (own := [("_law_gains_here", 6)]) (g := gName 6) (by rfl) sc_law_listed_right.nd (pi_list (pe_fn G_law_lists (hr.mono (by decide)) rfl T.glo_law_lists (pa_cons (pv 0) (pa_cons (pv 2) (pa_cons (pv 3) pa_nil))))) (blkOk_by (own := [("_law_gains_here", 6)]) (N := N_law_listed_right) (sc := defScope s_law_listed_right) (by decide +kernel)) (fun _ _ _ _ _ => (pg_name (i := 6) sc_law_listed_right.nd rfl (by first | exact Or.inl rfl | exact Or.inr rfl) (by first | exact Or.inl rfl | exact Or.inr rfl))) (fun _ _ _ _ _ => (pts_one (pt_val (pe_fn G_law_keeps (hr.mono (by decide)) rfl T.glo_law_keeps (pa_cons (pv 6) (pa_cons (pv 1) pa_nil)))))) (fun _ _ _ _ _ => (pv 6))) pa_nil)) rfl)
  (pss_cons (ps_for PassesOwn.never rfl (pi_range1 rfl T.free_range (pa_cons (pv 0) pa_nil)) (pg_name (i := 7) sc_law_listed_right.nd rfl (by first | exact Or.inl rfl | exact Or.inr rfl) (by first | exact Or.inl rfl | exact Or.inr rfl))
    (pss_one (ps_for PassesOwn.never rfl (pi_range2 rfl T.free_range (pa_cons pe_int (pa_cons (pe_op op_add (pe_op op_sub (pv 0) (pv 7)) pe_int) pa_nil))) (pg_name (i := 8) sc_law_listed_right.nd rfl (by first | exact Or.inl rfl | exact Or.inr rfl) (by first | exact Or.inl rfl | exact Or.inr rfl))
    (pss_cons (ps_par (i := 9) (j := 10) rfl sc_law_listed_right.nd rfl rfl (by decide) rfl rfl (pa_cons (pe_fn G_greatest (hr.mono (by decide)) rfl T.glo_greatest (pa_cons (pv 4) (pa_cons (pv 7) (pa_cons (pv 8) pa_nil)))) (pa_cons (pe_fn G_least (hr.mono (by decide)) rfl T.glo_least (pa_cons (pv 4) (pa_cons (pv 7) (pa_cons (pv 8) pa_nil)))) pa_nil)) rfl)
  (pss_cons (ps_if (PW.pt (pw_or (pt_not (pt_val (pe_callB (id := "isinstance") (r := rIsi K) call_isi (by rfl) T.free_isinstance (by decide +kernel) (pa_cons (pv 9) (pa_cons (pe_glob (v := .ref _) rfl T.glo_Bound rfl) pa_nil))))) (pw_or1 (pt_not (pt_val (pe_callB (id := "isinstance") (r := rIsi K) call_isi (by rfl) T.free_isinstance (by decide +kernel) (pa_cons (pv 10) (pa_cons (pe_glob (v := .ref _) rfl T.glo_Bound rfl) pa_nil)))))))) (pss_one (ps_ret pe_bl)) pss_nil)
  (pss_one (ps_if (pt_cmpR (op_neD hr.units) (pe_callB (id := "sorted") (cr_sortedSet rfl) (by rfl) T.free_sorted (by decide +kernel) (pa_cons (pe_callTy (T := "set") (cr_setL rfl) (by rfl) T.free_set (by decide +kernel) (pa_cons (pe_lc (own := [("_law_gains_here", 6)]) (g := gName 6) (tt := tYes) (by rfl) sc_law_listed_right.nd (pi_list (pv 5)) (blkOk_by (own := [("_law_gains_here", 6)]) (N := N_law_listed_right) (sc := defScope s_law_listed_right) (by decide +kernel)) (fun _ _ _ _ _ => (pg_name (i := 6) sc_law_listed_right.nd rfl (by first | exact Or.inl rfl | exact Or.inr rfl) (by first | exact Or.inl rfl | exact Or.inr rfl))) (fun _ _ _ _ _ => pts_nil) (fun _ _ _ _ _ => (pe_callB (id := "sum") (r := rSum K) (cr_sum rfl) (by rfl) T.free_sum (by decide +kernel) (pa_cons (pe_slice (r := rSlL K) sl_list (pv 6) (po_some (pv 7)) (po_some (pe_op op_add (pv 7) (pv 8)))) pa_nil)))) pa_nil)) pa_nil)) (pe_listRg rfl rfl T.free_list (prg_2 rfl T.free_range (pe_fld (pv 10) rfl) (pe_op op_add (pe_fld (pv 9) rfl) pe_int))) (nomark _)) (pss_one (ps_ret pe_bl)) pss_nil)))))))
  (pss_one (ps_ret pe_bl))))), ?_⟩
    refine ⟨_, rfl, _, rfl, a, n, rs, rfl, hrl, h1, by omega, h8, hgd, fun b H1 s1 hb => ?_⟩
    refine ⟨_, rfl, _, rfl, _, rfl, n, kk, low, high, rfl, h5, hk3, hkk, by omega, by omega, fun la ys H2 s2 hla pl => ?_⟩
    have hys : ys.length = _ := Paired.length pl
    have hsm := allL_small (low := low) (n := n) hk3 h5
    refine ⟨la, rfl, ⟨_, SqL.of hla⟩, fun D hD => ?_⟩
    have s12 := s1.trans s2
    refine lc_list (K := K) (a := la) (xs := ys) (fun i H' => Same H2 H' ∧ ∃ zs gss, H' D = some (.lst zs) ∧ LgsAt H2 zs gss ∧ gss.length ≤ i ∧ ∀ g, g ∈ gss ↔ g ∈ (allL n low kk).take i ∧ ∀ r ∈ rs, GKeeps g r) ⟨Same.new hD, [], [], upd_same, .nil, Nat.le_refl 0, fun g => by simp⟩ (fun i H' _ ⟨s3, _⟩ => SqL.of (s3 _ _ hla)) ?_ ?_
    · rintro i y H3 hi ⟨s3, zs, gss, d3, pz, hzl, hmem⟩
      obtain ⟨g, hg, hp0⟩ := Paired.getL pl hi
      obtain ⟨p, rfl, hp⟩ := id hp0
      have hil := (List.getElem?_eq_some_iff.mp hi).1
      have hgl := (mem_allL.mp (List.mem_of_getElem? hg)).1
      have hzs : zs.length = gss.length := Paired.length pz
      refine ⟨rfl, ⟨_, rfl, _, rfl, p, a, g, rs, rfl, s3 _ _ hp, hrl.same (s12.trans s3), by omega, fun r hr => by have := (hgd r hr).2.1; omega, fun bb H4 s4 hiff => ⟨bb, rfl, ?_⟩⟩⟩
      cases bb with
      | true =>
        have hkg := hiff.mp rfl
        refine iteT ⟨_, rfl, zs, s4 _ _ d3, line_lt (by omega), Same.mut (s3.trans s4) hD, zs ++ [.ref p], gss ++ [g], upd_same, Paired.app pz (.cons hp0 .nil), by simp; omega, fun g' => ?_⟩
        rw [take_get hg, List.mem_append, List.mem_append, hmem g', List.mem_singleton]
        constructor
        · rintro (⟨q1, q2⟩ | rfl)
          · exact ⟨.inl q1, q2⟩
          · exact ⟨.inr rfl, hkg⟩
        · rintro ⟨q1 | q1, q2⟩
          · exact .inl ⟨q1, q2⟩
          · exact .inr q1
      | false =>
        have hng : ¬ ∀ r ∈ rs, GKeeps g r := fun z => by have := hiff.mpr z; cases this
        refine iteF ⟨s3.trans s4, zs, gss, s4 _ _ d3, pz, by omega, fun g' => ?_⟩
        rw [take_get hg, List.mem_append, hmem g', List.mem_singleton]
        constructor
        · rintro ⟨q1, q2⟩
          exact ⟨.inl q1, q2⟩
        · rintro ⟨q1 | rfl, q2⟩
          · exact ⟨q1, q2⟩
          · exact absurd q2 hng
    rintro H5 ⟨s3, zs, gss, d5, pz0, hzl, hmem⟩
    rw [hys, List.take_length] at hmem
    have hmem2 : ∀ g, g ∈ gss ↔ (g.length = n ∧ InBox low high g) ∧ ∀ r ∈ rs, GKeeps g r := fun g => by
      rw [hmem g, mem_allL, show low + (kk : Int) - 1 = high by omega]
    have pz := LgsAt.same s3 pz0
    have hzs : zs.length = gss.length := Paired.length pz
    have hb5 := hb.same (s2.trans s3)
    have s05 := s12.trans s3
    refine ⟨_, _, rfl, ?_⟩
    refine ⟨_, rfl, _, rfl, by omega, by omega, ?_⟩
    rw [show ((n : Int)).toNat = n by omega]
    refine for_range (lo := 0) (n := n) (fun i σ H' => (∃ u6 u7 u8 u9 u10, σ = [some (.int (n : Int)), some (.ref a), some (.int low), some (.int high), some (.ref b), some (.ref D), u6, u7, u8, u9, u10]) ∧ Same H5 H') ⟨⟨_, _, _, _, _, rfl⟩, Same.refl H5⟩ ?_ ?_
    · rintro i σ H6 hi ⟨⟨u6, u7, u8, u9, u10, rfl⟩, s6⟩
      rw [Int.zero_add]
      refine ⟨_, rfl, _, rfl, _, _, rfl, rfl, _, _, rfl, rfl, _, _, rfl, ⟨by omega, by omega, by omega, by omega⟩, ?_⟩
      rw [show ((n : Int) - (i : Int) + 1 - 1).toNat = n - i by omega]
      refine for_range (lo := 1) (n := n - i) (fun j σ H' => (∃ u6 u8 u9 u10, σ = [some (.int (n : Int)), some (.ref a), some (.int low), some (.int high), some (.ref b), some (.ref D), u6, some (.int (i : Int)), u8, u9, u10]) ∧ Same H5 H') ⟨⟨_, _, _, _, rfl⟩, s6⟩ ?_ ?_
      · rintro j σ H7 hj ⟨⟨u6, u8, u9, u10, rfl⟩, s7⟩
        have hil : i + (1 + j) ≤ n := by omega
        refine ⟨_, rfl, _, rfl, _, rfl, b, n, i, 1 + j, rs, h, rfl, hb5.same s7, by omega, h8, hF, by omega, hil, fun up H8 s8 pu => ?_⟩
        refine ⟨_, rfl, _, rfl, _, rfl, b, n, i, 1 + j, rs, h, rfl, hb5.same (s7.trans s8), by omega, h8, hF, by omega, hil, fun dn H9 s9 pd => ⟨_, _, rfl, ?_⟩⟩
        have DC := ways_done (C0 := C0one n i) hF book_le (by unfold C0one; simp)
        have DD := ways_done (C0 := C0one n (i + (1 + j))) hF book_le (by unfold C0one; simp)
        rcases pu with ⟨dxu, fsu, G, hup, hG, hnu⟩ | ⟨_, _, _, _, hG, _⟩
        rotate_left
        · obtain ⟨d, hd⟩ := all_reached hbx (by omega) DC (i + (1 + j)) hil
          rw [hd] at hG
          cases hG
        rcases pd with ⟨dxd, fsd, L, hdn, hL, hnd⟩ | ⟨_, _, _, _, hL, _⟩
        rotate_left
        · obtain ⟨d, hd⟩ := all_reached hbx (by omega) DD i (by omega)
          rw [hd] at hL
          cases hL
        rw [Int.one_mul] at hnu
        rw [show (-1 : Int) * L = -L by omega] at hnd
        have hup9 := s9 _ _ hup
        refine ⟨_, rfl, .ref up, .ref (CBound K), .ref (CBound K), .ref (CBound K), true, rfl, .own _, tyB_ok T.ty_Bound T.cls_Bound hup9, of_decide_eq_true T.is_Bound_Bound, true, rfl, iteF ?_⟩
        refine ⟨_, rfl, .ref dn, .ref (CBound K), .ref (CBound K), .ref (CBound K), true, rfl, .own _, tyB_ok T.ty_Bound T.cls_Bound hdn, of_decide_eq_true T.is_Bound_Bound, true, rfl, iteF ?_⟩
        have s79 := (s7.trans s8).trans s9
        refine ⟨_, rfl, D, rfl, ⟨_, SqL.of (s79 _ _ d5)⟩, fun D2 hD2 => ?_⟩
        refine lc_list (K := K) (a := D) (xs := zs) (fun m H' => Same H9 H' ∧ H' D2 = some (.lst (iVs ((gss.map fun g => ((g.drop i).take (1 + j)).sum).take m)))) ⟨Same.new hD2, upd_same⟩ (fun m H' _ ⟨s10, _⟩ => SqL.of (s10 _ _ (s79 _ _ d5))) ?_ ?_
        · rintro m y H10 hm ⟨s10, d10⟩
          obtain ⟨g, hg, p, rfl, hp⟩ := Paired.getL pz hm
          have hml := (List.getElem?_eq_some_iff.mp hm).1
          have hp10 := s10 _ _ (s79 _ _ hp)
          refine ⟨rfl, _, rfl, _, rfl, _, rfl, _, rfl, _, rfl, _, _, rfl, rfl, _, rfl, p, _, rfl, SqL.of hp10, fun sl hsl => ?_⟩
          rw [show cutV (iVs g) (some (i : Int)) (some ((i : Int) + (1 + (j : Int)))) = iVs ((g.drop i).take (1 + j)) by
            rw [show ((i : Int) + (1 + (j : Int))) = ((i + (1 + j) : Nat) : Int) by omega, cut_mid, iVs_drop, iVs_take, show i + (1 + j) - i = 1 + j by omega]]
          have s11 := Same.new (o := .lst (iVs ((g.drop i).take (1 + j)))) hsl
          have eg : (gss.map fun g => ((g.drop i).take (1 + j)).sum)[m]? = some ((g.drop i).take (1 + j)).sum := by
            rw [List.getElem?_map, hg]
            rfl
          refine ⟨sl, _, rfl, SqL.of upd_same, _, s11 _ _ d10, line_lt (by rw [len_iVs, List.length_take]; omega), Same.mut (s10.trans s11) hD2, ?_⟩
          rw [upd_same, take_get eg, iVs_app]
        rintro H10 ⟨s10, d10⟩
        rw [hzs, show gss.length = (gss.map fun g => ((g.drop i).take (1 + j)).sum).length by simp, List.take_length] at d10
        refine ⟨D2, _, rfl, SqL.of d10, by simp; omega, fun ps ms hps nd hms => ?_⟩
        have s11 := Same.new (o := SetO w ps (fun j_1 => decide (j_1 ∈ gss.map fun g => ((g.drop i).take (1 + j)).sum)) ms.length) hps
        refine ⟨ps, _, ms.length, rfl, upd_same, few (i := i) (l := 1 + j) hlo hhi (by omega) (fun g hg => ((hmem2 g).mp hg).1.2) nd hms, fun ns pq pw hkn hnl hpq => ?_⟩
        have s12' := Same.new (o := .lst (iVs ns)) hpq
        have ens := listed hl1 hbx hil hF DC DD hG hL hmem2 pw (fun x => by rw [hkn x]; exact decide_eq_true_iff)
        obtain ⟨b1, b2, b3⟩ := ends_had hl1 hbx hil hF DC DD hG hL hlo hhi (by omega)
        have sx := (s10.trans s11).trans s12'
        refine ⟨_, rfl, dn, CBound K, dxd, fsd, _, rfl, sx _ _ hdn, T.cls_Bound, T.no_Bound_number, hnd, _, rfl, up, CBound K, dxu, fsu, _, rfl, sx _ _ hup9, T.cls_Bound, T.no_Bound_number, hnu, _, _, rfl, rfl, _, _, rfl, rfl, ⟨by omega, by omega, by omega, by omega, by omega⟩, fun pr hpr => ?_⟩
        have s13 := Same.new (o := .lst (rgV (-L) (G + 1))) hpr
        have er : rgV (-L) (G + 1) = iVs ns := by rw [rgV_ints, ens]
        refine ⟨_, _, dp_ints (s13 _ _ upd_same), dp_ints (ns := ns) (by rw [upd_same]; exact congrArg (fun z => some (HO.lst z)) er), shaped_ints _, shaped_ints _, _, rfl, ?_⟩
        refine iteF' (by simp only [PyData.eqv, eqv_ints, Bool.not_true]) ?_
        exact ⟨⟨_, _, _, _, rfl⟩, s79.trans (sx.trans s13)⟩
      · rintro σ H7 ⟨⟨u6, u8, u9, u10, rfl⟩, s7⟩
        exact ⟨⟨_, _, _, _, _, rfl⟩, s7⟩
    · rintro σ H6 ⟨⟨u6, u7, u8, u9, u10, rfl⟩, s6⟩
      exact k H6 (s05.trans s6)
end
end K53
namespace K53
open PySem PySem.Spec PyProof.Rows L2
/-! ### what stays while the bag changes -/
theorem BagAt.lst {H : Hp} {g c : Addr} {k : Nat} : BagAt H g c k → ∃ xs, H g = some (.lst xs) := fun ⟨_, _, _, h, _⟩ => ⟨_, h⟩
theorem ints_ne {H : Hp} {g c a : Addr} {k : Nat} {ns : List Int} (b : BagAt H g c k) (h : H a = some (.lst (iVs ns))) : a ≠ g := by
  obtain ⟨_, _, _, hg, _⟩ := b
  exact apart h hg bag_ne
theorem RlAt.ne {H : Hp} {g c a : Addr} {k : Nat} {rs : List Ru} (h : RlAt H a rs) (b : BagAt H g c k) : a ≠ g := by
  obtain ⟨ys, h1, h2⟩ := h
  obtain ⟨_, t, rest, hg, _⟩ := b
  refine apart h1 hg fun e => ?_
  have e := HO.lst.inj e
  subst e
  cases h2 with
  | cons _ t =>
    cases t with
    | cons h _ =>
      obtain ⟨p, hp, _⟩ := h
      cases hp
theorem RlAt.but {H H' : Hp} {g c a : Addr} {k : Nat} {rs : List Ru} (b : But g H H') (hb : BagAt H g c k) (h : RlAt H a rs) : RlAt H' a rs := by
  have ne := h.ne hb
  obtain ⟨xs, hg⟩ := hb.lst
  obtain ⟨ys, h1, h2⟩ := h
  exact ⟨ys, b _ _ h1 ne, Paired.imp (fun _ _ z => RtAt.tk (b.tk hg) z) h2⟩
theorem But.ins {H H' : Hp} {g c x C dx : Addr} {k : Nat} {fs : List (Str × V)} (b : But g H H') (hb : BagAt H g c k) (h : H x = some (.ins C dx fs)) : H' x = some (.ins C dx fs) := by
  obtain ⟨xs, hg⟩ := hb.lst
  exact b _ _ h (apart h hg (by simp))
theorem But.tup {H H' : Hp} {g c x : Addr} {k : Nat} {ys : List V} (b : But g H H') (hb : BagAt H g c k) (h : H x = some (.tup ys)) : H' x = some (.tup ys) := by
  obtain ⟨xs, hg⟩ := hb.lst
  exact b _ _ h (apart h hg (by simp))
theorem plc_up (C : Cs) (v : Nat) : decide ((v : Int) ∈ plcN C C.length) = (cAt C v).isSome := by
  unfold plcN
  cases e : (cAt C v).isSome with
  | true =>
    refine decide_eq_true (List.mem_map.mpr ⟨v, List.mem_filter.mpr ⟨List.mem_range.mpr ?_, e⟩, rfl⟩)
    refine Nat.lt_of_not_le fun z => ?_
    rw [cAt_out z] at e
    cases e
  | false =>
    refine decide_eq_false fun z => ?_
    obtain ⟨u, hu, eu⟩ := List.mem_map.mp z
    have ev : u = v := by omega
    subst ev
    have := (List.mem_filter.mp hu).2
    rw [e] at this
    cases this
section
variable {w : World} {K : PySem.W.Frag} {mg : Str → Option Value} {base : Heap}
theorem BkAt.but {H H' : Hp} {g c b : Addr} {k n : Nat} {rs : List Ru} (u : But g H H') (hb : BagAt H g c k) : BkAt K H b n rs → BkAt K H' b n rs := fun ⟨dx, fs, t, h1, h2, h3, xs, h4, h5⟩ =>
  ⟨dx, fs, t, u.ins hb h1, h2, h3, xs, u.tup hb h4, Paired.imp (fun _ _ ⟨a, dx, fs, e, q1, q2⟩ => ⟨a, dx, fs, e, u.ins hb q1, q2⟩) h5⟩
/-! ### _law_free_right -/
def spFree : Sp := fun vs H Q _ => ∃ (g c ga a : Addr) (k : Nat) (gs : List Int) (rs : List Ru), vs = [.ref g, .ref ga, .ref a] ∧ BagAt H g c k ∧ k ≤ 10000 ∧ H ga = some (.lst (iVs gs)) ∧ RlAt H a rs ∧ 1 ≤ gs.length ∧ gs.length ≤ 40 ∧ rs.length ≤ 8 ∧ (∀ r ∈ rs, GoodR gs r) ∧ ∀ H', Q (.bl true) H'
theorem ok_law_free_right (T : Txt K mg) : FR Pg w K mg base 12 (He.ga K "_law_free_right") spFree := by
  have G_law_book : FR Pg w K mg base 6 _ (spBook K) := ok_law_book T
  have G_law_dip : FR Pg w K mg base 1 _ spDip := ok_law_dip T
  have G_law_raised : FR Pg w K mg base 1 _ spRaisedG := ok_law_raised T
  have G_law_keeps : FR Pg w K mg base 2 _ spKeeps := ok_law_keeps T
  have G_greatest : FR Pg w K mg base 11 _ (spGreat K) := ok_greatest T
  have G_least : FR Pg w K mg base 11 _ (spLeast K) := ok_least T
  obtain ⟨fd, F⟩ := T.f_law_free_right
  refine FR.of F sc_law_free_right (fun _ _ _ _ _ _ us hl => match us, hl with | [_, _, _], _ => rfl) (fun vs H Q E h => ?_) (fun cdv A outer s H vs Q E hr h => ?_)
  · obtain ⟨g, c, ga, a, k, gs, rs, rfl, _⟩ := h
    rfl
  · obtain ⟨g, c, ga, a, k0, gs, rs, rfl, hb, hk, hga, hrl, h1, h40, h8, hgd, k⟩ := h
    have hl1 : ∀ r ∈ rs, 1 ≤ r.len := fun r hr => (hgd r hr).1
    have hF : Feas (mvAll gs.length 0 rs) (HT gs) := (keeps_feas hl1 rfl).mp fun r hr => (hgd r hr).2.2.2
    refine ⟨_, ((pss_cons (ps_set (i := 3) sc_law_free_right.nd rfl (by first | exact Or.inl rfl | exact Or.inr rfl) (pe_callB (id := "len") (r := lenR K) call_len_seq (by rfl) T.free_len (by decide +kernel) (pa_cons (pv 1) pa_nil)))
  (pss_cons (ps_set (i := 4) sc_law_free_right.nd rfl (by first | exact Or.inl rfl | exact Or.inr rfl) (pe_fn G_law_book (hr.mono (by decide)) rfl T.glo_law_book (pa_cons (pv 3) (pa_cons (pv 2) pa_nil))))
  (pss_cons (ps_for PassesOwn.never rfl (pi_range1 rfl T.free_range (pa_cons (pv 3) pa_nil)) (pg_name (i := 5) sc_law_free_right.nd rfl (by first | exact Or.inl rfl | exact Or.inr rfl) (by first | exact Or.inl rfl | exact Or.inr rfl))
    (pss_cons (ps_set (i := 6) sc_law_free_right.nd rfl (by first | exact Or.inl rfl | exact Or.inr rfl) (pe_op op_add pe_int (pe_fn G_law_dip (hr.mono (by decide)) rfl T.glo_law_dip (pa_cons (pv 0) (pa_cons (pe_op op_sub (pv 3) (pv 5)) pa_nil)))))
  (pss_one (ps_for PassesOwn.never rfl (pi_tup (pe_tup (pa_cons (pe_tup (pa_cons pe_int (pa_cons (pe_fn G_greatest (hr.mono (by decide)) rfl T.glo_greatest (pa_cons (pv 4) (pa_cons (pv 5) (pa_cons (pv 6) pa_nil)))) pa_nil))) (pa_cons (pe_tup (pa_cons (pe_un un_neg pe_int) (pa_cons (pe_fn G_least (hr.mono (by decide)) rfl T.glo_least (pa_cons (pv 4) (pa_cons (pv 5) (pa_cons (pv 6) pa_nil)))) pa_nil))) pa_nil)))) (pg_tup rfl (pgs_cons (pg_name (i := 7) sc_law_free_right.nd rfl (by first | exact Or.inl rfl | exact Or.inr rfl) (by first | exact Or.inl rfl | exact Or.inr rfl)) (pgs_cons (pg_name (i := 8) sc_law_free_right.nd rfl (by first | exact Or.inl rfl | exact Or.inr rfl) (by first | exact Or.inl rfl | exact Or.inr rfl)) pgs_nil)))
    (pss_cons (ps_if (pt_val (pe_callB (id := "isinstance") (r := rIsi K) call_isi (by rfl) T.free_isinstance (by decide +kernel) (pa_cons (pv 8) (pa_cons (pe_glob (v := .ref _) rfl T.glo_Bound rfl) pa_nil)))) (pss_cons (ps_if (pt_cmpR op_gt (pe_op op_mul (pv 7) (pe_callB (id := "sum") (r := rSum K) (cr_sum rfl) (by rfl) T.free_sum (by decide +kernel) (pa_cons (pe_slice (r := rSlL K) sl_list (pv 1) (po_some (pv 5)) (po_some (pe_op op_add (pv 5) (pv 6)))) pa_nil))) (pe_op op_mul (pv 7) (pe_fld (pv 8) rfl)) (nomark _)) (pss_one (ps_ret pe_bl)) pss_nil)
  (pss_one ps_continue)) pss_nil)
  (pss_cons (ps_if (pt_not (pt_val (pe_callB (id := "isinstance") (r := rIsi K) call_isi (by rfl) T.free_isinstance (by decide +kernel) (pa_cons (pv 8) (pa_cons (pe_glob (v := .ref _) rfl T.glo_Unbound rfl) pa_nil))))) (pss_one (ps_ret pe_bl)) pss_nil)
  (pss_one (ps_for PassesOwn.never rfl (pi_tup (pe_tup (pa_cons pe_int (pa_cons (pe_op op_add pe_int (pe_fn G_law_dip (hr.mono (by decide)) rfl T.glo_law_dip (pa_cons (pv 0) (pa_cons pe_int pa_nil)))) pa_nil)))) (pg_name (i := 9) sc_law_free_right.nd rfl (by first | exact Or.inl rfl | exact Or.inr rfl) (by first | exact Or.inl rfl | exact Or.inr rfl))
    (pss_cons (ps_set (i := 10) sc_law_free_right.nd rfl (by first | exact Or.inl rfl | exact Or.inr rfl) (pe_fn G_law_raised (hr.mono (by decide)) rfl T.glo_law_raised (pa_cons (pv 1) (pa_cons (pe_fld (pv 8) rfl) (pa_cons (pv 9) pa_nil)))))
  (pss_one (ps_if (PW.pt (pw_or (pt_not (pt_val (pe_fn G_law_keeps (hr.mono (by decide)) rfl T.glo_law_keeps (pa_cons (pv 10) (pa_cons (pv 2) pa_nil))))) (pw_or1 (pt_cmpR op_ne (pe_callB (id := "sum") (r := rSum K) (cr_sum rfl) (by rfl) T.free_sum (by decide +kernel) (pa_cons (pe_slice (r := rSlL K) sl_list (pv 10) (po_some (pv 5)) (po_some (pe_op op_add (pv 5) (pv 6)))) pa_nil)) (pe_op op_add (pe_callB (id := "sum") (r := rSum K) (cr_sum rfl) (by rfl) T.free_sum (by decide +kernel) (pa_cons (pe_slice (r := rSlL K) sl_list (pv 1) (po_some (pv 5)) (po_some (pe_op op_add (pv 5) (pv 6)))) pa_nil)) (pe_op op_mul (pv 7) (pv 9))) (nomark _))))) (pss_one (ps_ret pe_bl)) pss_nil)))))))))))
  (pss_one (ps_ret pe_bl)))))), ?_⟩
    refine ⟨_, rfl, ga, _, rfl, .inl (SqL.of hga), ?_⟩
    rw [len_iVs]
    refine ⟨_, rfl, _, rfl, a, gs.length, rs, rfl, hrl, h1, by omega, h8, fun r hr => ⟨(hgd r hr).1, by have := (hgd r hr).2.1; omega, (hgd r hr).2.2.1⟩, fun b H1 s1 hbk => ?_⟩
    have hb1 := hb.same s1
    have hga1 := s1 _ _ hga
    have hrl1 := hrl.same s1
    have gag : ga ≠ g := ints_ne hb1 hga1
    refine ⟨_, rfl, _, rfl, by omega, by omega, ?_⟩
    rw [show ((gs.length : Int)).toNat = gs.length by omega]
    refine for_range (lo := 0) (n := gs.length) (fun i σ H' => (∃ u5 u6 u7 u8 u9 u10, σ = [some (.ref g), some (.ref ga), some (.ref a), some (.int (gs.length : Int)), some (.ref b), u5, u6, u7, u8, u9, u10]) ∧ But g H1 H' ∧ BagAt H' g c (k0 + 10 * i))
      ⟨⟨_, _, _, _, _, _, rfl⟩, But.refl g H1, hb1⟩ ?_ (fun σ H2 _ => k H2)
    rintro i σ H2 hi ⟨⟨u5, u6, u7, u8, u9, u10, rfl⟩, b2, hb2⟩
    rw [Int.zero_add]
    refine ⟨_, rfl, _, rfl, _, rfl, _, _, rfl, rfl, g, c, _, _, rfl, hb2, by omega, by omega, by omega, fun d H3 d0 dm b3 hb3 => ⟨_, _, rfl, rfl, ?_⟩⟩
    obtain ⟨dn, rfl⟩ := Int.eq_ofNat_of_zero_le d0
    have hil : i + (1 + dn) ≤ gs.length := by omega
    have b13 := b2.trans b3
    have hbk3 := hbk.but b13 hb1
    refine ⟨_, rfl, _, rfl, _, rfl, b, gs.length, i, 1 + dn, rs, HT gs, rfl, hbk3, by omega, h8, hF, by omega, hil, fun up H4 s4 pu => ⟨line_le (by simp), fun t1 ht1 => ?_⟩⟩
    have s5 := Same.new (o := .tup [.int 1, .ref up]) ht1
    refine ⟨_, rfl, _, rfl, _, rfl, _, rfl, b, gs.length, i, 1 + dn, rs, HT gs, rfl, hbk3.same (s4.trans s5), by omega, h8, hF, by omega, hil, fun dw H6 s6 pd => ⟨line_le (by simp), fun t2 ht2 => ⟨line_le (by simp), fun t3 ht3 => ?_⟩⟩⟩
    have s7 := Same.new (o := .tup [.int (-1), .ref dw]) ht2
    have s8 := Same.new (o := .tup [.ref t1, .ref t2]) ht3
    have s38 := (((s4.trans s5).trans s6).trans s7).trans s8
    have hT1 := s8 _ _ (s7 _ _ (s6 _ _ (show upd H4 t1 (.tup [.int 1, .ref up]) t1 = some (.tup [.int 1, .ref up]) from upd_same)))
    have hT2 := s8 _ _ (show upd H6 t2 (.tup [.int (-1), .ref dw]) t2 = some (.tup [.int (-1), .ref dw]) from upd_same)
    have pu8 := pu.same (((s5.trans s6).trans s7).trans s8)
    have pd8 := pd.same (s7.trans s8)
    have hb8 := hb3.same s38
    have b18 := b13.trans (But.of s38)
    have hT3 : upd (upd H6 t2 (.tup [.int (-1), .ref dw])) t3 (.tup [.ref t1, .ref t2]) t3 = some (.tup [.ref t1, .ref t2]) := upd_same
    refine ⟨t3, rfl, ⟨_, SqT.of hT3⟩, ?_⟩
    generalize upd (upd H6 t2 (.tup [.int (-1), .ref dw])) t3 (.tup [.ref t1, .ref t2]) = H8 at *
    have key : ∀ (q : Nat) x, [V.ref t1, .ref t2][q]? = some x → ∃ (t pap : Addr) (sg : Int) (i0 j0 : Nat), x = .ref t ∧ H8 t = some (.tup [.int sg, .ref pap]) ∧ PapAt K H8 pap (ways gs.length (mvAll gs.length 0 rs) (C0one gs.length i0)).C j0 sg ∧ i0 ≤ gs.length ∧ j0 ≤ gs.length ∧ (sg = 1 ∧ i0 = i ∧ j0 = i + (1 + dn) ∨ sg = -1 ∧ i0 = i + (1 + dn) ∧ j0 = i) := fun q x hx => by
      match q, hx with
      | 0, hx =>
        cases hx
        exact ⟨t1, up, 1, i, i + (1 + dn), rfl, hT1, pu8, by omega, hil, .inl ⟨rfl, rfl, rfl⟩⟩
      | 1, hx =>
        cases hx
        exact ⟨t2, dw, -1, i + (1 + dn), i, rfl, hT2, pd8, hil, by omega, .inr ⟨rfl, rfl, rfl⟩⟩
    refine for_tup (K := K) (a := t3) (xs := [V.ref t1, .ref t2]) (fun q σ H' => (∃ u7 u8 u9 u10, σ = [some (.ref g), some (.ref ga), some (.ref a), some (.int (gs.length : Int)), some (.ref b), some (.int (i : Int)), some (.int (1 + (dn : Int))), u7, u8, u9, u10]) ∧ But g H8 H' ∧ BagAt H' g c (k0 + 10 * i + 1 + q))
      ⟨⟨_, _, _, _, rfl⟩, But.refl g H8, hb8⟩ (fun q σ H' _ ⟨_, b9, _⟩ => SqT.of (b9.tup hb8 hT3)) ?_ ?_
    · rintro q x σ H9 hq ⟨⟨u7, u8, u9, u10, rfl⟩, b9, hb9⟩
      have hq2 : q < 2 := (List.getElem?_eq_some_iff.mp hq).1
      obtain ⟨t, pap, sg, i0, j0, rfl, ht, pp, hi0, hj0, hsg⟩ := key q x hq
      have sgb : -(2 ^ 64) < sg ∧ sg < 2 ^ 64 := by
        rcases hsg with ⟨rfl, _⟩ | ⟨rfl, _⟩ <;> decide
      have hD := ways_done (C0 := C0one gs.length i0) hF book_le (by unfold C0one; simp)
      have hz := one_zero hF hi0 hD
      have hga9 := b9 _ _ (b18 _ _ hga1 gag) gag
      have hrl9 := (hrl1.but b18 hb1).but b9 hb8
      refine ⟨t, _, rfl, SqT.of (b9.tup hb8 ht), rfl, _, _, rfl, _, _, rfl, rfl, ?_⟩
      rcases pp with ⟨dx, fs, d, hpap, hd, hnum⟩ | ⟨dx, tp, fs, hpap, hd, hpl, htp⟩
      · have hp9 := b9.ins hb8 hpap
        refine ⟨_, rfl, .ref pap, .ref (CBound K), .ref (CBound K), .ref (CBound K), true, rfl, .own _, tyB_ok T.ty_Bound T.cls_Bound hp9, of_decide_eq_true T.is_Bound_Bound, true, rfl, iteT ?_⟩
        refine ⟨_, rfl, _, rfl, _, rfl, _, rfl, _, rfl, _, rfl, _, _, rfl, rfl, _, rfl, ga, _, rfl, SqL.of hga9, fun sl hsl => ?_⟩
        rw [show cutV (iVs gs) (some (i : Int)) (some ((i : Int) + (1 + (dn : Int)))) = iVs ((gs.drop i).take (1 + dn)) by
          rw [show ((i : Int) + (1 + (dn : Int))) = ((i + (1 + dn) : Nat) : Int) by omega, cut_mid, iVs_drop, iVs_take, show i + (1 + dn) - i = 1 + dn by omega]]
        have s10 := Same.new (o := .lst (iVs ((gs.drop i).take (1 + dn)))) hsl
        have most := one_most hD hd hF
        refine ⟨sl, _, rfl, SqL.of upd_same, _, _, rfl, rfl, .inl sgb, _, rfl, _, rfl, pap, CBound K, dx, fs, _, rfl, s10 _ _ hp9, T.cls_Bound, T.no_Bound_number, hnum, _, _, rfl, rfl, .inl sgb, _, _, rfl, rfl, _, rfl, iteF' (decide_eq_false ?_) ?_⟩
        · rw [cut_sum]
          rcases hsg with ⟨rfl, rfl, rfl⟩ | ⟨rfl, rfl, rfl⟩
          · omega
          · omega
        · exact ⟨⟨_, _, _, _, rfl⟩, b9.trans (But.of s10), (hb9.same s10).mono (by omega)⟩
      · have hp9 := b9.ins hb8 hpap
        refine ⟨_, rfl, .ref pap, .ref (CBound K), .ref (CUnb K), .ref (CBound K), false, rfl, .own _, tyB_ok T.ty_Unbound T.cls_Unbound hp9, of_decide_eq_true T.is_Unbound_Bound, false, rfl, iteF ?_⟩
        refine ⟨_, rfl, .ref pap, .ref (CUnb K), .ref (CUnb K), .ref (CUnb K), true, rfl, .own _, tyB_ok T.ty_Unbound T.cls_Unbound hp9, of_decide_eq_true T.is_Unbound_Unbound, true, rfl, iteF ?_⟩
        refine ⟨_, rfl, g, c, 1000, _, rfl, hb9, by omega, by omega, by omega, fun e H10 e0 em b10 hb10 => ⟨_, _, rfl, rfl, line_le (by simp), fun t4 ht4 => ?_⟩⟩
        have s11 := Same.new (o := .tup [.int 1, .int (1 + e)]) ht4
        have b11 := (b9.trans b10).trans (But.of s11)
        have hb11 := hb10.same s11
        have hT4 : upd H10 t4 (.tup [.int 1, .int (1 + e)]) t4 = some (.tup [.int 1, .int (1 + e)]) := upd_same
        refine ⟨t4, rfl, ⟨_, SqT.of hT4⟩, ?_⟩
        refine for_tup (K := K) (a := t4) (xs := [V.int 1, .int (1 + e)]) (fun _ σ H' => (∃ u9 u10, σ = [some (.ref g), some (.ref ga), some (.ref a), some (.int (gs.length : Int)), some (.ref b), some (.int (i : Int)), some (.int (1 + (dn : Int))), some (.int sg), some (.ref pap), u9, u10]) ∧ Same (upd H10 t4 (.tup [.int 1, .int (1 + e)])) H')
          ⟨⟨_, _, rfl⟩, Same.refl _⟩ (fun _ σ H' _ ⟨_, s12⟩ => SqT.of (s12 _ _ hT4)) ?_ ?_
        · rintro q2 x σ H12 hx ⟨⟨u9, u10, rfl⟩, s12⟩
          obtain ⟨kk, rfl, hkk⟩ : ∃ kk : Int, x = .int kk ∧ 1 ≤ kk := by
            match q2, hx with
            | 0, hx => cases hx; exact ⟨1, rfl, by omega⟩
            | 1, hx => cases hx; exact ⟨1 + e, rfl, by omega⟩
          have b12 := b11.trans (But.of s12)
          have hga12 := b12 _ _ (b18 _ _ hga1 gag) gag
          have hrl12 := (hrl1.but b18 hb1).but b12 hb8
          refine ⟨_, rfl, _, rfl, pap, CUnb K, dx, fs, _, rfl, b12.ins hb8 hpap, T.cls_Unbound, T.no_Unbound_places, hpl, _, rfl, ga, tp, kk, gs, _, rfl, hga12, b12.tup hb8 htp, by omega, fun rb H13 s13 hrb => ?_⟩
          obtain ⟨rk, rsum⟩ := raised_ok (k := kk) hl1 rfl (fun r hr => (hgd r hr).2.2.2) hD (plc_up _) (by omega)
          have rlen : (raisedG gs (fun v => decide ((v : Int) ∈ plcN (ways gs.length (mvAll gs.length 0 rs) (C0one gs.length i0)).C (ways gs.length (mvAll gs.length 0 rs) (C0one gs.length i0)).C.length)) kk).length = gs.length := gainsOf_len _ _
          have rs1 := rsum i (1 + dn) hil
          rw [plc_up, plc_up] at rs1
          have rsg : (((raisedG gs (fun v => decide ((v : Int) ∈ plcN (ways gs.length (mvAll gs.length 0 rs) (C0one gs.length i0)).C (ways gs.length (mvAll gs.length 0 rs) (C0one gs.length i0)).C.length)) kk).drop i).take (1 + dn)).sum = ((gs.drop i).take (1 + dn)).sum + sg * kk := by
            rw [rs1]
            rcases hsg with ⟨rfl, rfl, rfl⟩ | ⟨rfl, rfl, rfl⟩
            · rw [hz, hd, if_neg (by simp), if_pos (by rfl)]
              omega
            · rw [hz, hd, if_pos (by rfl), if_neg (by simp)]
              omega
          generalize raisedG gs (fun v => decide ((v : Int) ∈ plcN (ways gs.length (mvAll gs.length 0 rs) (C0one gs.length i0)).C (ways gs.length (mvAll gs.length 0 rs) (C0one gs.length i0)).C.length)) kk = rg at *
          refine ⟨_, rfl, _, rfl, rb, a, rg, rs, rfl, hrb, hrl12.same s13, by omega, fun r hr => by have := (hgd r hr).2.1; omega, fun bb H14 s14 hiff => ⟨bb, rfl, ?_⟩⟩
          have hbb : bb = true := hiff.mpr rk
          subst hbb
          refine iteF ?_
          refine ⟨_, rfl, _, rfl, _, rfl, _, rfl, _, rfl, _, _, rfl, rfl, _, rfl, rb, _, rfl, SqL.of (s14 _ _ hrb), fun sl hsl => ?_⟩
          rw [show cutV (iVs rg) (some (i : Int)) (some ((i : Int) + (1 + (dn : Int)))) = iVs ((rg.drop i).take (1 + dn)) by
            rw [show ((i : Int) + (1 + (dn : Int))) = ((i + (1 + dn) : Nat) : Int) by omega, cut_mid, iVs_drop, iVs_take, show i + (1 + dn) - i = 1 + dn by omega]]
          have s15 := Same.new (o := .lst (iVs ((rg.drop i).take (1 + dn)))) hsl
          have s1215 := (s13.trans s14).trans s15
          refine ⟨sl, _, rfl, SqL.of upd_same, ?_⟩
          refine ⟨_, rfl, _, rfl, _, rfl, _, rfl, _, rfl, _, _, rfl, rfl, _, rfl, ga, _, rfl, SqL.of (s1215 _ _ hga12), fun sl2 hsl2 => ?_⟩
          rw [show cutV (iVs gs) (some (i : Int)) (some ((i : Int) + (1 + (dn : Int)))) = iVs ((gs.drop i).take (1 + dn)) by
            rw [show ((i : Int) + (1 + (dn : Int))) = ((i + (1 + dn) : Nat) : Int) by omega, cut_mid, iVs_drop, iVs_take, show i + (1 + dn) - i = 1 + dn by omega]]
          have s16 := Same.new (o := .lst (iVs ((gs.drop i).take (1 + dn)))) hsl2
          refine ⟨sl2, _, rfl, SqL.of upd_same, _, rfl, _, rfl, _, _, rfl, rfl, .inl sgb, _, _, rfl, rfl, rfl, _, rfl, iteF' (by rw [dec_int, rsg]; simp) ?_⟩
          exact ⟨⟨_, _, rfl⟩, s12.trans (s1215.trans s16)⟩
        · rintro σ H12 ⟨⟨u9, u10, rfl⟩, s12⟩
          exact ⟨⟨_, _, _, _, rfl⟩, b11.trans (But.of s12), (hb11.same s12).mono (by omega)⟩
    · rintro σ H9 ⟨⟨u7, u8, u9, u10, rfl⟩, b9, hb9⟩
      exact ⟨⟨_, _, _, _, _, _, rfl⟩, b18.trans b9, hb9.mono (by simp; omega)⟩
end
end K53
namespace K53
open PySem PySem.Spec PyProof.Rows L2
theorem Paired.take {α β : Type} {F : α → β → Prop} : ∀ {l : List α} {r : List β} (p : Nat), Paired F l r → Paired F (l.take p) (r.take p)
  | _, _, 0, _ => by rw [List.take_zero, List.take_zero]; exact .nil
  | _, _, p + 1, .nil => by rw [List.take_nil, List.take_nil]; exact .nil
  | _, _, p + 1, .cons h t => by rw [List.take_succ_cons, List.take_succ_cons]; exact .cons h (Paired.take p t)
theorem Paired.drop {α β : Type} {F : α → β → Prop} : ∀ {l : List α} {r : List β} (p : Nat), Paired F l r → Paired F (l.drop p) (r.drop p)
  | _, _, 0, h => h
  | _, _, p + 1, .nil => by rw [List.drop_nil, List.drop_nil]; exact .nil
  | _, _, p + 1, .cons h t => by rw [List.drop_succ_cons, List.drop_succ_cons]; exact Paired.drop p t
section
variable {w : World} {K : PySem.W.Frag} {mg : Str → Option Value} {base : Heap}
/-! ### the law -/
theorem box_keeps {low high : Int} {gs : List Int} (h : InBox low high gs) : GKeeps gs ⟨1, some low, some high⟩ := fun x hx => by
  have hx : x ∈ sumsL gs 1 := hx
  unfold sumsL at hx
  obtain ⟨p, hp, e⟩ := List.mem_map.mp hx
  have hp := List.mem_range.mp hp
  have el : (gs.drop p).take 1 = [gs[p]'(by omega)] := by
    rw [List.drop_eq_getElem_cons (show p < gs.length by omega)]
    rfl
  rw [el] at e
  have ex : gs[p]'(by omega) = x := by simpa using e
  have hb := h _ (List.getElem_mem (show p < gs.length by omega))
  rw [ex] at hb
  exact ⟨fun l z => (by cases z; exact hb.1), fun u z => (by cases z; exact hb.2)⟩
def spLaw (K : PySem.W.Frag) : Sp := fun vs H Q _ => ∃ (a : Addr) (ns : List Int), vs = [.ref a] ∧ SqL K H a (iVs ns) ∧ ∀ H', Q (.bl true) H'
theorem ok_law (T : Txt K mg) {fd : FuncData} (F : Fun K "law" "law" s_law (He.ga K "law") fd) : FnOk Pg w K mg base CX0 13 (He.ga K "law") fd ["_law_script"] (spLaw K) := by
  have G_law_bag : FR Pg w K mg base 1 _ (spBag K) := ok_law_bag T
  have G_law_dip : FR Pg w K mg base 1 _ spDip := ok_law_dip T
  have G_law_one : FR Pg w K mg base 2 _ spOne := ok_law_one T
  have G_law_gains : FR Pg w K mg base 2 _ spGains := ok_law_gains T
  have G_law_rules : FR Pg w K mg base 3 _ spRules := ok_law_rules T
  have G_law_listed_right : FR Pg w K mg base 12 _ (spListed K) := ok_law_listed_right T
  have G_law_free_right : FR Pg w K mg base 12 _ spFree := ok_law_free_right T
  refine F.ok sc_law (fun vs H Q E h => ?_) (fun cdv A outer s H vs Q E hr h => ?_)
  · obtain ⟨a, ns, rfl, _⟩ := h
    rfl
  · obtain ⟨a, ns, rfl, hS, k⟩ := h
    refine ⟨_, ((pss_cons (ps_set (i := 1) sc_law.nd rfl (by first | exact Or.inl rfl | exact Or.inr rfl) (pe_fn G_law_bag (hr.mono (by decide)) rfl T.glo_law_bag (pa_cons (pv 0) pa_nil)))
  (pss_cons (ps_asg (pe_tup (pa_cons (pe_fn G_law_one (hr.mono (by decide)) rfl T.glo_law_one (pa_cons (pv 1) (pa_cons (pe_lst (pa_cons pe_int (pa_cons pe_int (pa_cons pe_int (pa_cons pe_int (pa_cons pe_int (pa_cons pe_int (pa_cons pe_int (pa_cons pe_int pa_nil))))))))) pa_nil))) (pa_cons (pe_op op_sub (pe_fn G_law_dip (hr.mono (by decide)) rfl T.glo_law_dip (pa_cons (pv 1) (pa_cons pe_int pa_nil))) pe_int) pa_nil))) (pg_tup rfl (pgs_cons (pg_name (i := 2) sc_law.nd rfl (by first | exact Or.inl rfl | exact Or.inr rfl) (by first | exact Or.inl rfl | exact Or.inr rfl)) (pgs_cons (pg_name (i := 3) sc_law.nd rfl (by first | exact Or.inl rfl | exact Or.inr rfl) (by first | exact Or.inl rfl | exact Or.inr rfl)) pgs_nil))))
  (pss_cons (ps_set (i := 4) sc_law.nd rfl (by first | exact Or.inl rfl | exact Or.inr rfl) (pe_op op_add (pe_op op_add (pv 3) pe_int) (pe_fn G_law_dip (hr.mono (by decide)) rfl T.glo_law_dip (pa_cons (pv 1) (pa_cons pe_int pa_nil)))))
  (pss_cons (ps_setLc (i := 5) (own := [("_law_day", 6)]) (g := gName 6) (tt := tYes) rfl sc_law.nd rfl rfl (sw_true rfl rfl rfl (by decide +kernel)) (pi_range1 rfl T.free_range (pa_cons (pv 2) pa_nil)) (blkOk_by (own := [("_law_day", 6)]) (N := N_law) (sc := defScope s_law) (by decide +kernel)) (fun _ _ _ _ _ => (pg_name (i := 6) sc_law.nd rfl (by first | exact Or.inl rfl | exact Or.inr rfl) (by first | exact Or.inl rfl | exact Or.inr rfl))) (fun _ _ _ _ _ => pts_nil) (fun _ _ _ _ _ => (pe_op op_add (pv 3) (pe_fn G_law_dip (hr.mono (by decide)) rfl T.glo_law_dip (pa_cons (pv 1) (pa_cons (pe_op op_add (pe_op op_sub (pv 4) (pv 3)) pe_int) pa_nil))))))
  (pss_cons (ps_set (i := 7) sc_law.nd rfl (by first | exact Or.inl rfl | exact Or.inr rfl) (pe_fn G_law_rules (hr.mono (by decide)) rfl T.glo_law_rules (pa_cons (pv 1) (pa_cons (pv 5) (pa_cons (pe_fn G_law_one (hr.mono (by decide)) rfl T.glo_law_one (pa_cons (pv 1) (pa_cons (pe_lst (pa_cons pe_int (pa_cons pe_int (pa_cons pe_int (pa_cons pe_int (pa_cons pe_int pa_nil)))))) pa_nil))) pa_nil)))))
  (pss_cons (ps_set (i := 8) sc_law.nd rfl (by first | exact Or.inl rfl | exact Or.inr rfl) (pe_fn G_law_dip (hr.mono (by decide)) rfl T.glo_law_dip (pa_cons (pv 1) (pa_cons (pe_op op_add (pe_callB (id := "len") (r := lenR K) call_len_seq (by rfl) T.free_len (by decide +kernel) (pa_cons (pv 7) pa_nil)) pe_int) pa_nil))))
  (pss_cons (ps_if (pt_not (pt_val (pe_fn G_law_listed_right (hr.mono (by decide)) rfl T.glo_law_listed_right (pa_cons (pv 2) (pa_cons (pe_op op_cat (pe_op op_cat (pe_slice (r := rSlL K) sl_list (pv 7) po_none (po_some (pv 8))) (pe_lst (pa_cons (pe_tup (pa_cons pe_int (pa_cons (pv 3) (pa_cons (pv 4) pa_nil)))) pa_nil))) (pe_slice (r := rSlL K) sl_list (pv 7) (po_some (pv 8)) po_none)) (pa_cons (pv 3) (pa_cons (pv 4) pa_nil))))))) (pss_one (ps_ret pe_bl)) pss_nil)
  (pss_cons (ps_set (i := 5) sc_law.nd rfl (by first | exact Or.inl rfl | exact Or.inr rfl) (pe_fn G_law_gains (hr.mono (by decide)) rfl T.glo_law_gains (pa_cons (pv 1) (pa_cons (pe_fn G_law_one (hr.mono (by decide)) rfl T.glo_law_one (pa_cons (pv 1) (pa_cons (pe_lst (pa_cons pe_int (pa_cons pe_int (pa_cons pe_int (pa_cons pe_int (pa_cons pe_int (pa_cons pe_int pa_nil))))))) pa_nil))) (pa_cons pe_int pa_nil)))))
  (pss_one (ps_ret (pe_fn G_law_free_right (hr.mono (by decide)) rfl T.glo_law_free_right (pa_cons (pv 1) (pa_cons (pv 5) (pa_cons (pe_fn G_law_rules (hr.mono (by decide)) rfl T.glo_law_rules (pa_cons (pv 1) (pa_cons (pv 5) (pa_cons (pe_fn G_law_one (hr.mono (by decide)) rfl T.glo_law_one (pa_cons (pv 1) (pa_cons (pe_lst (pa_cons pe_int (pa_cons pe_int (pa_cons pe_int (pa_cons pe_int (pa_cons pe_int pa_nil)))))) pa_nil))) pa_nil)))) pa_nil))))))))))))))), ?_⟩
    refine ⟨_, rfl, a, ns, rfl, hS, fun g c H1 s1 hg0 hb1 => ?_⟩
    refine ⟨_, rfl, line_le (by decide), fun q1 hq1 => ?_⟩
    have s2 := Same.new (o := .lst (iVs [3, 4, 2, 3, 2, 1, 3, 5])) hq1
    refine ⟨g, c, q1, [3, 4, 2, 3, 2, 1, 3, 5], 0, rfl, hb1.same s2, by omega, upd_same, by decide, by decide, fun d H2 hd b2 hb2 => ?_⟩
    obtain ⟨n, rfl, hn1, hn5⟩ : ∃ n : Nat, d = (n : Int) ∧ 1 ≤ n ∧ n ≤ 5 := by
      refine ⟨d.toNat, ?_⟩
      simp at hd
      omega
    refine ⟨_, rfl, g, c, 5, _, rfl, hb2, by omega, by omega, by omega, fun e H3 e0 em b3 hb3 => ⟨_, _, rfl, rfl, line_le (by simp), fun tq htq => ?_⟩⟩
    have s3 := Same.new (o := .tup [.int (n : Int), .int (e - 3)]) htq
    have hb3' := hb3.same s3
    refine ⟨tq, _, rfl, SqT.of upd_same, rfl, _, _, rfl, _, _, rfl, rfl, ?_⟩
    refine ⟨_, rfl, _, _, rfl, rfl, _, rfl, g, c, 2, _, rfl, hb3', by omega, by omega, by omega, fun f H4 f0 fm b4 hb4 => ⟨_, _, rfl, rfl, ?_⟩⟩
    obtain ⟨low, elow⟩ : ∃ low : Int, low = e - 3 := ⟨_, rfl⟩
    obtain ⟨high, ehigh⟩ : ∃ high : Int, high = e - 3 + 1 + f := ⟨_, rfl⟩
    refine ⟨_, rfl, _, rfl, by omega, by omega, fun D hD => ?_⟩
    rw [show ((n : Int)).toNat = n by omega]
    obtain ⟨gD, cD⟩ := hb4.apart hD
    refine lc_range (lo := 0) (n := n) (fun i H' => But g H4 H' ∧ BagAt H' g c (10 + i) ∧ ∃ gs : List Int, H' D = some (.lst (iVs gs)) ∧ gs.length = i ∧ InBox low high gs) ⟨But.of (Same.new hD), (hb4.same (Same.new hD)).mono (by omega), [], upd_same, rfl, fun y hy => by cases hy⟩ ?_ ?_
    · rintro i H5 hi ⟨b5, hb5, gs, d5, hgs, hbx⟩
      refine ⟨rfl, _, rfl, _, rfl, _, rfl, _, rfl, _, _, rfl, rfl, _, _, rfl, rfl, g, c, _, 10 + i, rfl, hb5, by omega, by omega, by omega, fun x H6 x0 xm b6 hb6 => ?_⟩
      have d6 := b6 _ _ d5 gD
      refine ⟨_, _, rfl, rfl, _, d6, line_lt (by rw [len_iVs]; omega), ?_, hb6.put gD cD, gs ++ [low + x], by rw [upd_same, iVs_app, elow], by simp; omega, fun y hy => ?_⟩
      · exact fun b o e nb => by rw [upd_ne (ne_of_none e hD)]; exact b6 _ _ (b5 _ _ e nb) nb
      · rcases List.mem_append.mp hy with hy | hy
        · exact hbx y hy
        · rw [List.mem_singleton.mp hy]
          omega
    rintro H5 ⟨b5, hb5, gs, d5, hgs, hbx⟩
    refine ⟨_, rfl, _, rfl, _, rfl, line_le (by decide), fun q2 hq2 => ?_⟩
    have s6 := Same.new (o := .lst (iVs [2, 1, 3, 4, 2])) hq2
    refine ⟨g, c, q2, [2, 1, 3, 4, 2], 10 + n, rfl, hb5.same s6, by omega, upd_same, by decide, by decide, fun m0 H6 hm0 b6 hb6 => ?_⟩
    obtain ⟨m, rfl, hm1, hm4⟩ : ∃ m : Nat, m0 = (m : Int) ∧ 1 ≤ m ∧ m ≤ 4 := by
      refine ⟨m0.toNat, ?_⟩
      simp at hm0
      omega
    have d6 := b6 _ _ (s6 _ _ d5) gD
    refine ⟨g, c, D, gs, m, _, rfl, hb6, by omega, d6, by omega, by omega, by omega, fun rl rs H7 b7 hb7 hrl hrn hgd hfr => ?_⟩
    obtain ⟨ys, hys, prs⟩ := id hrl
    have hyl : ys.length = rs.length := Paired.length prs
    refine ⟨_, rfl, _, rfl, rl, _, rfl, .inl (SqL.of hys), _, _, rfl, rfl, g, c, _, _, rfl, hb7, by omega, by omega, by omega, fun at0 H8 at00 atm b8 hb8 => ?_⟩
    obtain ⟨p, rfl⟩ := Int.eq_ofNat_of_zero_le at00
    have hrl8 := hrl.but b8 hb7
    obtain ⟨ys8, hys8, prs8⟩ := id hrl8
    have hyl8 : ys8.length = rs.length := Paired.length prs8
    refine ⟨_, rfl, _, rfl, _, rfl, _, rfl, rl, _, rfl, SqL.of hys8, fun la hla => ?_⟩
    rw [show cutV ys8 none (some (p : Int)) = ys8.take p from cut_to _ p]
    have s9 := Same.new (o := .lst (ys8.take p)) hla
    refine ⟨_, rfl, _, rfl, line_le (by simp), fun tp htp => ⟨line_le (by simp), fun lb hlb => ?_⟩⟩
    have s10 := Same.new (o := .tup [.int 1, .int (e - 3), .int (e - 3 + 1 + f)]) htp
    have s11 := Same.new (o := .lst [.ref tp]) hlb
    refine ⟨la, lb, _, _, rfl, rfl, (s10.trans s11) _ _ upd_same, upd_same, line_le (by simp; omega), fun lc hlc => ?_⟩
    have s12 := Same.new (o := .lst (ys8.take p ++ [.ref tp])) hlc
    have s812 := ((s9.trans s10).trans s11).trans s12
    refine ⟨_, rfl, _, rfl, _, rfl, rl, _, rfl, SqL.of (s812 _ _ hys8), fun ld hld => ?_⟩
    rw [cut_from ys8 p]
    have s13 := Same.new (o := .lst (ys8.drop p)) hld
    refine ⟨lc, ld, _, _, rfl, rfl, s13 _ _ upd_same, upd_same, line_le (by simp; omega), fun le hle => ?_⟩
    have s14 := Same.new (o := .lst (ys8.take p ++ [.ref tp] ++ ys8.drop p)) hle
    have s814 := (s812.trans s13).trans s14
    have htp14 := s14 _ _ (s13 _ _ (s12 _ _ (s11 _ _ (show upd (upd H8 la (.lst (ys8.take p))) tp (.tup [.int 1, .int (e - 3), .int (e - 3 + 1 + f)]) tp = some (.tup [.int 1, .int (e - 3), .int (e - 3 + 1 + f)]) from upd_same))))
    have tk14 := Same.tk s814
    have pr14 : Paired (RtAt (upd (upd (upd (upd (upd (upd H8 la (.lst (ys8.take p))) tp (.tup [.int 1, .int (e - 3), .int (e - 3 + 1 + f)])) lb (.lst [.ref tp])) lc (.lst (ys8.take p ++ [.ref tp]))) ld (.lst (ys8.drop p))) le (.lst (ys8.take p ++ [.ref tp] ++ ys8.drop p)))) (ys8.take p ++ [.ref tp] ++ ys8.drop p) (rs.take p ++ [⟨1, some (e - 3), some (e - 3 + 1 + f)⟩] ++ rs.drop p) :=
      Paired.app (Paired.app (Paired.imp (fun _ _ z => RtAt.tk tk14 z) (Paired.take p prs8)) (.cons ⟨tp, rfl, htp14⟩ .nil)) (Paired.imp (fun _ _ z => RtAt.tk tk14 z) (Paired.drop p prs8))
    have hmem : ∀ r, r ∈ rs.take p ++ [(⟨1, some (e - 3), some (e - 3 + 1 + f)⟩ : Ru)] ++ rs.drop p → r = ⟨1, some (e - 3), some (e - 3 + 1 + f)⟩ ∨ r ∈ rs := fun r hr => by
      rcases List.mem_append.mp hr with hr | hr
      · rcases List.mem_append.mp hr with hr | hr
        · exact .inr (List.take_subset _ _ hr)
        · exact .inl (List.mem_singleton.mp hr)
      · exact .inr (List.drop_subset _ _ hr)
    have hlen : (rs.take p ++ [(⟨1, some (e - 3), some (e - 3 + 1 + f)⟩ : Ru)] ++ rs.drop p).length ≤ 8 := by
      simp
      omega
    have hok : ∀ r ∈ rs.take p ++ [(⟨1, some (e - 3), some (e - 3 + 1 + f)⟩ : Ru)] ++ rs.drop p, 1 ≤ r.len ∧ r.len ≤ 48 ∧ OkB r.low r.high := fun r hr => by
      rcases hmem r hr with rfl | hr
      · exact ⟨Nat.le_refl 1, (by decide : (1 : Nat) ≤ 48), (show e - 3 ≤ e - 3 + 1 + f by omega)⟩
      · obtain ⟨z1, z2, z3, _⟩ := hgd r hr
        exact ⟨z1, by omega, z3⟩
    have hin : (⟨1, some (e - 3), some (e - 3 + 1 + f)⟩ : Ru) ∈ rs.take p ++ [(⟨1, some (e - 3), some (e - 3 + 1 + f)⟩ : Ru)] ++ rs.drop p := by simp
    have hfe : Feas (mvAll n 0 (rs.take p ++ [(⟨1, some (e - 3), some (e - 3 + 1 + f)⟩ : Ru)] ++ rs.drop p)) (HT gs) := (keeps_feas (fun r hr => (hok r hr).1) hgs).mp fun r hr => by
      rcases hmem r hr with rfl | hr
      · rw [← ehigh, ← elow]
        exact box_keeps hbx
      · exact (hgd r hr).2.2.2
    refine ⟨_, rfl, _, rfl, le, n, (2 + f).toNat, e - 3, e - 3 + 1 + f, _, HT gs, rfl, ⟨_, upd_same, pr14⟩, hn1, hn5, by omega, by omega, by omega, by omega, by omega, hlen, hok, hin, hfe, fun H15 s15 => ⟨true, rfl, iteF ?_⟩⟩
    have hb15 := (hb8.same s814).same s15
    refine ⟨_, rfl, _, rfl, line_le (by decide), fun q3 hq3 => ?_⟩
    have s16 := Same.new (o := .lst (iVs [4, 5, 3, 6, 2, 7])) hq3
    refine ⟨g, c, q3, [4, 5, 3, 6, 2, 7], _, rfl, hb15.same s16, by omega, upd_same, by decide, by decide, fun n0 H16 hn0 b16 hb16 => ?_⟩
    obtain ⟨n2, rfl, hn21, hn27⟩ : ∃ n2 : Nat, n0 = (n2 : Int) ∧ 1 ≤ n2 ∧ n2 ≤ 7 := by
      refine ⟨n0.toNat, ?_⟩
      simp at hn0
      omega
    refine ⟨g, c, n2, 4, _, rfl, hb16, by omega, by omega, by omega, fun ga gs2 H17 b17 hb17 hga hgl => ?_⟩
    refine ⟨_, rfl, _, rfl, _, rfl, _, rfl, _, rfl, line_le (by decide), fun q4 hq4 => ?_⟩
    have s18 := Same.new (o := .lst (iVs [1, 2, 1, 3, 0])) hq4
    refine ⟨g, c, q4, [1, 2, 1, 3, 0], _, rfl, hb17.same s18, by omega, upd_same, by decide, by decide, fun m0 H18 hm0 b18 hb18 => ?_⟩
    obtain ⟨m2, rfl, hm2⟩ : ∃ m2 : Nat, m0 = (m2 : Int) ∧ m2 ≤ 3 := by
      refine ⟨m0.toNat, ?_⟩
      simp at hm0
      omega
    have gag : ga ≠ g := ints_ne hb17 hga
    have hga18 := b18 _ _ (s18 _ _ hga) gag
    refine ⟨g, c, ga, gs2, m2, _, rfl, hb18, by omega, hga18, by omega, by omega, by omega, fun rl2 rs2 H19 b19 hb19 hrl2 hrn2 hgd2 _ => ?_⟩
    exact ⟨g, c, ga, rl2, _, gs2, rs2, rfl, hb19, by omega, b19 _ _ hga18 gag, hrl2, by omega, by omega, by omega, hgd2, k⟩
end
end K53
set_option maxHeartbeats 0
namespace K53
open PySem PySem.W PySem.Calls PyProof.Rows
abbrev R : OpenRow := OpenLaw.row PySem.Challenge.rw_anyseven_k53_whole_all_sums_between_boun
abbrev qv : Program := view R.prog [96]
def names1 : List PySem.Str := ["_wall", "__name__", "DayError", "BadRow", "BadRule", "BadBook", "BadNumber", "Misfit", "Missing", "NoRule", "Twice", "Impossible", "TooMany", "BadText", "DIGITS", "is_integer", "is_within", "are_integers", "first_twice", "need_number", "need_numbers", "fixed", "Paper", "Denial", "MOST_DIGITS", "integer_of", "Scan", "MOST_DAYS_rows", "need_row", "need_stretch"]
def names2 : List PySem.Str := ["need_stretch_rows", "heights_of", "Row", "MOST_LENGTH", "FREE", "need_bound", "are_bounds", "bound_text", "take_bound", "take_rule", "Rule", "MOST_DAYS_books", "MOST_RULES", "COLON", "NEXT", "NONE", "Empty", "need_book", "are_rules", "take_rules", "take_book", "are_empty", "empty_pair", "drawn_together", "Book", "moves_of", "Ways", "ways_from_all", "ways_from", "Kept"]
def names3 : List PySem.Str := ["Ring", "row_by", "kept_of", "Bound", "Unbound", "need_stretch_bounds", "kept_heights", "places_of", "lift_of", "raised_row", "bound_of", "greatest", "least", "_law_bag", "_law_dip", "_law_one", "_law_gains", "_law_sums", "_law_rules", "_law_book", "_law_keeps", "_law_lists", "_law_listed_right", "_law_raised", "_law_free_right"]
def names : List PySem.Str := names1 ++ (names2 ++ names3)
def ob (s : SharedT) : Al := obsG 5 (HandSHeadRun.getT s)
theorem ob_eq (s : SharedT) : ob s = (hookK 5).obs s.abs := obsG_eq (HandSHeadRun.getT_eq s)
theorem run (w : World) : HandSHeadRun.RunEq R qv (hookK 5) ob 12000 names w := by
  intro os
  kernel_rfl
end K53
namespace K53
open PySem PySem.Spec PyProof.Rows L2
theorem facts {w : World} {K : PySem.W.Frag} {h : Heap} {mg : Str → Option Value} {f : Addr} (X : K.In h) (G : h.Ns mainGlobals mg) (hfa : mg ("law" : Str) = some (.ref f)) (c : obsK K = valK) :
    ∃ fd : FuncData, (∀ (s : Shared) (v : Value), BindsTo s fd ⟨[v], []⟩ [("_law_script", v)]) ∧ ∀ base : Heap, K.In base → base.Ns mainGlobals mg → FnOk Pg w K mg base CX0 13 f fd ["_law_script"] (spLaw K) := by
  have T : Txt K mg := ⟨⟨h, X, G⟩, c⟩
  obtain ⟨fd, F⟩ := T.f_law
  have e := hfa.symm.trans T.glo_law
  cases e
  obtain ⟨oc, od, kV, doc, pm, an, cdv, ct, osl, rfl, lk, hcd⟩ := F.ex
  exact ⟨_, fun s v => BindsTo.of_eq rfl, fun base _ _ => ok_law T F⟩
end K53
open PySem PySem.W PySem.Calls PyProof.Rows
theorem PySem.Challenge.cw_anyseven_k53_whole_all_sums_between_boun_holds : PySem.Challenge.rw_anyseven_k53_whole_all_sums_between_boun.Holds := by
  w_on; o_law
  refine HandSHeadRun.head_any (r := OpenLaw.row PySem.Challenge.rw_anyseven_k53_whole_all_sums_between_boun) (q := view (OpenLaw.row PySem.Challenge.rw_anyseven_k53_whole_all_sums_between_boun).prog [96]) (H := K53.hookK 5) (ob := K53.ob) (M := 12000) (loose := K53.names) (d := HandSHeadRun.topDef (OpenLaw.row PySem.Challenge.rw_anyseven_k53_whole_all_sums_between_boun).prog 96) (kwd := []) K53.ob_eq
    (by kernel_rfl) (fun s => by kernel_rfl) K53.run (by kernel_rfl) (by kernel_rfl) (by kernel_rfl) (by rfl) (by first | assumption | decide +kernel) (by decide +kernel) ⟨rfl, rfl, rfl, rfl, rfl, by decide +kernel⟩ ?hw ?hc
  case hw => w_witness2
  case hc =>
    refine L2.walk_ofE (l := PySem.Challenge.rw_anyseven_k53_whole_all_sums_between_boun) (n := 63) (k := 13) (x := "_law_script") (CX := L2.CX0) rfl (by decide) (by kernel_rfl) ⟨rfl, by decide, by decide⟩ ?F (fun _ _ _ _ z => z)
    intro w mg fa h Y G hmg0
    obtain ⟨K, KX, c⟩ := Y
    have hmg : mg ("law" : PySem.Str) = some (.ref fa) := by
      have e : (HandSHeadRun.topDef (OpenLaw.row PySem.Challenge.rw_anyseven_k53_whole_all_sums_between_boun).prog 96).name = ("law" : PySem.Str) := by kernel_rfl
      rw [← e]
      exact hmg0
    obtain ⟨fd, hb, hF⟩ := K53.facts (w := w) KX G hmg c
    exact ⟨K, fd, K53.spLaw K, KX, hb, fun H a ns hl _ hS => ⟨a, ns, rfl, hS, fun _ => rfl⟩, hF⟩
