import PyProof.Rows.All
import HandS.ForMost
import HandS.Style
import HandS.Conv
import HandS.Zip
import HandS.Walk
import HandS.IsInst
import HandS.Star
import HandS.Flow
import KE.KDictCopyH
import KE.KTupTabMore
import KE.KDictDisplayH
import KE.KSuper
import HandS.ClsMeth
import PySem.Challenge.RW_threelanes_k51_whole_colours_of_a_line_j
set_option Elab.async false
set_option linter.all false
set_option maxRecDepth 100000
set_option maxHeartbeats 4000000
/-! K51: the mathematics of calm colours of a line, in plain Lean. -/
namespace K51

/-- three places in a row with two alike -/
def Three (cs : List Int) : Prop := ∃ i, i + 2 < cs.length ∧ cs[i]? = cs[i + 2]?
/-- a repeat -/
def Sq (cs : List Int) (b h : Nat) : Prop := 1 ≤ h ∧ b + 2 * h ≤ cs.length ∧ ∀ j, j < h → cs[b + j]? = cs[b + h + j]?
def Calm (cs : List Int) : Prop := ¬ Three cs ∧ ∀ b h, ¬ Sq cs b h
def Near (a b : Nat) : Prop := a ≤ b + 1 ∧ b ≤ a + 1
/-- pairs of places of one colour to which one comes from (o, r); whether the two were ever unlike -/
inductive Reach (cs : List Int) (o r : Nat) : Nat → Nat → Bool → Prop
  | start : Reach cs o r o r (decide (o ≠ r))
  | step {p q p' q' : Nat} {f : Bool} (h : Reach cs o r p q f) (hp : Near p p') (hq : Near q q') (lp : p' < cs.length) (lq : q' < cs.length) (hc : cs[p']? = cs[q']?) : Reach cs o r p' q' (f || decide (p' ≠ q'))

theorem n1 {cs : List Int} (C : Calm cs) {i : Nat} (h : i + 1 < cs.length) : cs[i]? ≠ cs[i + 1]? := fun e => by
  refine C.2 i 1 ⟨Nat.le_refl _, by omega, fun j hj => ?_⟩
  have : j = 0 := by omega
  subst this
  exact e
theorem n2 {cs : List Int} (C : Calm cs) {i : Nat} (h : i + 2 < cs.length) : cs[i]? ≠ cs[i + 2]? := fun e => C.1 ⟨i, h, e⟩
theorem close {cs : List Int} (C : Calm cs) {i j : Nat} (hi : i < cs.length) (hj : j < cs.length) (h : i ≤ j + 2) (h' : j ≤ i + 2) (e : cs[i]? = cs[j]?) : i = j := by
  rcases Nat.lt_trichotomy i j with l | l | l
  · exfalso
    have : j = i + 1 ∨ j = i + 2 := by omega
    rcases this with rfl | rfl
    · exact n1 C hj e
    · exact n2 C hj e
  · exact l
  · exfalso
    have : i = j + 1 ∨ i = j + 2 := by omega
    rcases this with rfl | rfl
    · exact n1 C hi e.symm
    · exact n2 C hi e.symm

/-- between o and p -/
def Btw (o p x : Nat) : Prop := (o ≤ x ∧ x ≤ p) ∨ (p ≤ x ∧ x ≤ o)
def TrM (cs : List Int) (o d p q : Nat) : Prop := q = p + d ∧ ∀ x, Btw o p x → cs[x]? = cs[x + d]?
def RfM (cs : List Int) (o s p q : Nat) : Prop := p + q = s ∧ p < q ∧ ∀ x, Btw o p x → cs[x]? = cs[s - x]?

theorem btw_step {o p p' x : Nat} (h : Near p p') (b : Btw o p' x) : Btw o p x ∨ x = p' := by
  unfold Near Btw at *
  omega

theorem tr_step {cs : List Int} (C : Calm cs) {o d p q p' q' : Nat} (hd : 3 ≤ d) (lr : o + d < cs.length) (e0 : cs[o]? = cs[o + d]?) (hp : p < cs.length) (hq : q < cs.length) (he : cs[p]? = cs[q]?)
    (I : TrM cs o d p q ∨ RfM cs o (o + (o + d)) p q) (np : Near p p') (nq : Near q q') (lp : p' < cs.length) (lq : q' < cs.length) (hc : cs[p']? = cs[q']?) : TrM cs o d p' q' ∨ RfM cs o (o + (o + d)) p' q' := by
  have hp' : p' = p ∨ p' = p + 1 ∨ p = p' + 1 := by unfold Near at np; omega
  have hq' : q' = q ∨ q' = q + 1 ∨ q = q' + 1 := by unfold Near at nq; omega
  -- one stands still just if the other does
  have st1 : p' = p → q' = q := fun e => by
    subst e
    exact close C lq hq (by unfold Near at nq; omega) (by unfold Near at nq; omega) (hc.symm.trans he)
  have st2 : q' = q → p' = p := fun e => by
    subst e
    exact close C lp hp (by unfold Near at np; omega) (by unfold Near at np; omega) (hc.trans he.symm)
  rcases I with ⟨eq, hx⟩ | ⟨es, hlt, hx⟩
  · -- moved on
    by_cases ed : q' = p' + d
    · refine .inl ⟨ed, fun x b => ?_⟩
      rcases btw_step np b with b | rfl
      · exact hx x b
      · rw [← ed]
        exact hc
    · by_cases eo : p = o
      · subst eo
        have es' : p' + q' = p + (p + d) := by
          rcases hp' with h | h | h <;> rcases hq' with h' | h' | h' <;> first | omega | (exfalso; have := st1 h; omega) | (exfalso; have := st2 h'; omega)
        refine .inr ⟨es', by unfold Near at np nq; omega, fun x b => ?_⟩
        have : x = p ∨ x = p' := by unfold Near Btw at *; omega
        rcases this with rfl | rfl
        · rw [show x + (x + d) - x = x + d by omega]
          exact e0
        · rw [show p + (p + d) - x = q' by omega]
          exact hc
      · exfalso
        have b1 : p > o → Btw o p (p - 1) := fun h => by unfold Btw; omega
        have b2 : p < o → Btw o p (p + 1) := fun h => by unfold Btw; omega
        rcases hp' with h | h | h
        · have := st1 h; omega
        · -- p' = p + 1, q' = q - 1
          have hq2 : q = q' + 1 := by
            rcases hq' with h' | h' | h'
            · have := st2 h'; omega
            · omega
            · exact h'
          rcases Nat.lt_or_gt_of_ne eo with l | l
          · have g := hx _ (b2 l)
            rw [← h, hc, show p' + d = q' + 2 by omega] at g
            exact n2 C (by omega) g
          · have g := hx _ (b1 l)
            rw [show p - 1 + d = q' by omega, ← hc, show p' = p - 1 + 2 by omega] at g
            exact n2 C (by omega) g
        · -- p' = p - 1, q' = q + 1
          have hq2 : q' = q + 1 := by
            rcases hq' with h' | h' | h'
            · have := st2 h'; omega
            · exact h'
            · omega
          rcases Nat.lt_or_gt_of_ne eo with l | l
          · have g := hx _ (b2 l)
            rw [show p + 1 + d = q' by omega, ← hc, show p + 1 = p' + 2 by omega] at g
            exact n2 C (by omega) g.symm
          · have g := hx _ (b1 l)
            rw [show p - 1 = p' by omega, hc, show q' = (p' + d) + 2 by omega] at g
            exact n2 C (by omega) g.symm
  · -- turned about
    have far : p + 3 ≤ q := by
      rcases Nat.lt_or_ge q (p + 3) with l | l
      · have := close C hp hq (by omega) (by omega) he
        omega
      · exact l
    by_cases ed : p' + q' = o + (o + d)
    · refine .inr ⟨ed, by unfold Near at np nq; omega, fun x b => ?_⟩
      rcases btw_step np b with b | rfl
      · exact hx x b
      · rw [show o + (o + d) - x = q' by omega]
        exact hc
    · by_cases eo : p = o
      · subst eo
        have es' : q' = p' + d := by
          rcases hp' with h | h | h <;> rcases hq' with h' | h' | h' <;> first | omega | (exfalso; have := st1 h; omega) | (exfalso; have := st2 h'; omega)
        refine .inl ⟨es', fun x b => ?_⟩
        have : x = p ∨ x = p' := by unfold Near Btw at *; omega
        rcases this with rfl | rfl
        · exact e0
        · rw [← es']
          exact hc
      · exfalso
        have b1 : p > o → Btw o p (p - 1) := fun h => by unfold Btw; omega
        have b2 : p < o → Btw o p (p + 1) := fun h => by unfold Btw; omega
        rcases hp' with h | h | h
        · have := st1 h; omega
        · -- p' = p + 1, q' = q + 1
          have hq2 : q' = q + 1 := by
            rcases hq' with h' | h' | h'
            · have := st2 h'; omega
            · exact h'
            · omega
          rcases Nat.lt_or_gt_of_ne eo with l | l
          · have g := hx _ (b2 l)
            rw [← h, hc, show q' = (o + (o + d) - p') + 2 by omega] at g
            exact n2 C (by omega) g.symm
          · have g := hx _ (b1 l)
            rw [show o + (o + d) - (p - 1) = q' by omega, ← hc, show p' = p - 1 + 2 by omega] at g
            exact n2 C (by omega) g
        · -- p' = p - 1, q' = q - 1
          have hq2 : q = q' + 1 := by
            rcases hq' with h' | h' | h'
            · have := st2 h'; omega
            · omega
            · exact h'
          rcases Nat.lt_or_gt_of_ne eo with l | l
          · have g := hx _ (b2 l)
            rw [show o + (o + d) - (p + 1) = q' by omega, ← hc, show p + 1 = p' + 2 by omega] at g
            exact n2 C (by omega) g.symm
          · have g := hx _ (b1 l)
            rw [show p - 1 = p' by omega, hc, show o + (o + d) - p' = q' + 2 by omega] at g
            exact n2 C (by omega) g

theorem Reach.swap {cs : List Int} {o r p q : Nat} {f : Bool} (h : Reach cs o r p q f) : Reach cs r o q p f := by
  induction h with
  | start =>
    have e : decide (o ≠ r) = decide (r ≠ o) := decide_eq_decide.mpr ⟨Ne.symm, Ne.symm⟩
    rw [e]
    exact .start
  | @step p q p' q' f h hp hq lp lq hc ih =>
    have e : decide (p' ≠ q') = decide (q' ≠ p') := decide_eq_decide.mpr ⟨Ne.symm, Ne.symm⟩
    rw [e]
    exact .step ih hq hp lq lp hc.symm
theorem Reach.lt {cs : List Int} {o r p q : Nat} {f : Bool} (ho : o < cs.length) (hr : r < cs.length) (e0 : cs[o]? = cs[r]?) (h : Reach cs o r p q f) : p < cs.length ∧ q < cs.length ∧ cs[p]? = cs[q]? := by
  cases h with
  | start => exact ⟨ho, hr, e0⟩
  | step h hp hq lp lq hc => exact ⟨lp, lq, hc⟩

theorem reach_eq' {cs : List Int} (C : Calm cs) {o r p q : Nat} {f : Bool} (hr : o = r) (h : Reach cs o r p q f) : p = q ∧ f = false := by
  induction h with
  | start => exact ⟨hr, decide_eq_false fun z => z hr⟩
  | @step p q p' q' f h hp hq lp lq hc ih =>
    obtain ⟨rfl, rfl⟩ := ih
    have e : p' = q' := close C lp lq (by unfold Near at *; omega) (by unfold Near at *; omega) hc
    exact ⟨e, by simp [e]⟩
theorem reach_tr {cs : List Int} (C : Calm cs) {o r p q : Nat} {f : Bool} (l : o < r) (hr : r < cs.length) (e0 : cs[o]? = cs[r]?) (h : Reach cs o r p q f) : 3 ≤ r - o ∧ (TrM cs o (r - o) p q ∨ RfM cs o (o + (o + (r - o))) p q) := by
  have h3 : 3 ≤ r - o := by
    rcases Nat.lt_or_ge (r - o) 3 with z | z
    · have := close C (i := o) (j := r) (by omega) hr (by omega) (by omega) e0
      omega
    · exact z
  refine ⟨h3, ?_⟩
  have er : o + (r - o) = r := by omega
  have e0' : cs[o]? = cs[o + (r - o)]? := by rw [er]; exact e0
  induction h with
  | start =>
    refine .inl ⟨er.symm, fun x b => ?_⟩
    have : x = o := by unfold Btw at b; omega
    subst this
    exact e0'
  | @step p q p' q' f h hp hq lp lq hc ih =>
    obtain ⟨a, b, c⟩ := h.lt (by omega) hr e0
    exact tr_step C h3 (by rw [er]; exact hr) e0' a b c ih hp hq lp lq hc

/-- on calm colours no walk strays -/
theorem calm_no {cs : List Int} (C : Calm cs) {o r p q : Nat} (ho : o < cs.length) (hr : r < cs.length) (e0 : cs[o]? = cs[r]?) (h : Reach cs o r p q true) : ¬ Near p r := by
  intro hn
  rcases Nat.lt_trichotomy o r with l | l | l
  · obtain ⟨h3, t | t⟩ := reach_tr C l hr e0 h
    · obtain ⟨eq, hx⟩ := t
      obtain ⟨lp, lq, _⟩ := h.lt ho hr e0
      refine C.2 o (r - o) ⟨by omega, by unfold Near at hn; omega, fun j hj => ?_⟩
      rw [show o + (r - o) + j = o + j + (r - o) by omega]
      exact hx _ (by unfold Near at hn; unfold Btw; omega)
    · obtain ⟨es, hlt, _⟩ := t
      unfold Near at hn
      omega
  · subst l
    exact absurd (reach_eq' C rfl h).2 (by decide)
  · have h' := h.swap
    obtain ⟨h3, t | t⟩ := reach_tr C l ho e0.symm h'
    · obtain ⟨eq, hx⟩ := t
      obtain ⟨lp, lq, _⟩ := h.lt ho hr e0
      refine C.2 (r + 1 - (o - r)) (o - r) ⟨by omega, by unfold Near at hn; omega, fun j hj => ?_⟩
      rw [show r + 1 - (o - r) + (o - r) + j = r + 1 - (o - r) + j + (o - r) by unfold Near at hn; omega]
      exact hx _ (by unfold Near at hn; unfold Btw; omega)
    · obtain ⟨es, hlt, _⟩ := t
      unfold Near at hn
      omega

/-- where they are not calm some walk strays -/
theorem stray_of {cs : List Int} (h : Three cs ∨ ∃ b k, Sq cs b k) : ∃ o r p q, o < cs.length ∧ r < cs.length ∧ cs[o]? = cs[r]? ∧ Reach cs o r p q true ∧ Near p r := by
  rcases h with ⟨i, hi, e⟩ | ⟨b, k, h1, h2, h3⟩
  · refine ⟨i + 1, i + 1, i, i + 2, by omega, by omega, rfl, ?_, by unfold Near; omega⟩
    have := Reach.step (cs := cs) (o := i + 1) (r := i + 1) (p' := i) (q' := i + 2) .start (by unfold Near; omega) (by unfold Near; omega) (by omega) hi e
    simpa using this
  · have hs : ∀ j, j < k → Reach cs b (b + k) (b + j) (b + k + j) true := by
      intro j
      induction j with
      | zero =>
        intro _
        have := Reach.start (cs := cs) (o := b) (r := b + k)
        rw [show decide (b ≠ b + k) = true from decide_eq_true (by omega)] at this
        exact this
      | succ j ih =>
        intro hj
        have := Reach.step (p' := b + (j + 1)) (q' := b + k + (j + 1)) (ih (by omega)) (by unfold Near; omega) (by unfold Near; omega) (by omega) (by omega) (h3 (j + 1) hj)
        simpa using this
    refine ⟨b, b + k, b + (k - 1), b + k + (k - 1), by omega, by omega, h3 0 (by omega), hs _ (by omega), by unfold Near; omega⟩
/-- whatever holds the start and is closed holds what is reached -/
theorem Reach.mem {cs : List Int} {o r p q : Nat} {f : Bool} {S : Nat → Nat → Bool → Prop} (h0 : S o r (decide (o ≠ r)))
    (hs : ∀ p q f p' q', S p q f → Near p p' → Near q q' → p' < cs.length → q' < cs.length → cs[p']? = cs[q']? → S p' q' (f || decide (p' ≠ q'))) (h : Reach cs o r p q f) : S p q f := by
  induction h with
  | start => exact h0
  | step h hp hq lp lq hc ih => exact hs _ _ _ _ _ ih hp hq lp lq hc
theorem not_calm {cs : List Int} : ¬ Calm cs ↔ (Three cs ∨ ∃ b k, Sq cs b k) := by
  constructor
  · intro h
    by_cases t : Three cs
    · exact .inl t
    · by_cases s : ∃ b k, Sq cs b k
      · exact .inr s
      · exact absurd ⟨t, fun b k z => s ⟨b, k, z⟩⟩ h
  · rintro (t | ⟨b, k, s⟩) C
    · exact C.1 t
    · exact C.2 b k s
/-- the reached pairs tell whether colours are calm -/
theorem calm_iff {cs : List Int} : Calm cs ↔ ∀ o r, o < cs.length → r < cs.length → cs[o]? = cs[r]? → ∀ p q, Reach cs o r p q true → ¬ Near p r := by
  constructor
  · intro C o r ho hr e p q h
    exact calm_no C ho hr e h
  · intro h
    by_cases C : Calm cs
    · exact C
    · obtain ⟨o, r, p, q, ho, hr, e, hR, hn⟩ := stray_of (not_calm.mp C)
      exact absurd hn (h o r ho hr e p q hR)

/-! ### stray walks -/
/-- a walk on the line that sees a repeat and is not alike both times -/
def StrayW (cs : List Int) (w : List Int) : Prop :=
  w.length ≠ 0 ∧ w.length % 2 = 0 ∧ (∀ x ∈ w, 0 ≤ x ∧ x < (cs.length : Int)) ∧ (∀ i x y, w[i]? = some x → w[i + 1]? = some y → x - y ≤ 1 ∧ y - x ≤ 1) ∧
  ((w.take (w.length / 2)).map fun x => cs[x.toNat]?) = ((w.drop (w.length / 2)).map fun x => cs[x.toNat]?) ∧ w.take (w.length / 2) ≠ w.drop (w.length / 2)

theorem stray_three {cs : List Int} {i : Nat} (h : i + 2 < cs.length) (e : cs[i]? = cs[i + 2]?) : StrayW cs [((i + 1 : Nat) : Int), (i : Int), ((i + 1 : Nat) : Int), ((i + 2 : Nat) : Int)] := by
  refine ⟨by simp, by simp, ?_, ?_, ?_, ?_⟩
  · intro x hx
    simp only [List.mem_cons, List.not_mem_nil, or_false] at hx
    omega
  · intro j x y hx hy
    match j with
    | 0 => simp at hx hy; omega
    | 1 => simp at hx hy; omega
    | 2 => simp at hx hy; omega
    | j + 3 => simp at hy
  · simp only [List.length_cons, List.length_nil, Nat.reduceAdd, Nat.reduceDiv, List.take_succ_cons, List.take_zero, List.drop_succ_cons, List.drop_zero, List.map_cons, List.map_nil, Int.toNat_natCast, e]
  · simp only [List.length_cons, List.length_nil, Nat.reduceAdd, Nat.reduceDiv, List.take_succ_cons, List.take_zero, List.drop_succ_cons, List.drop_zero]
    intro z
    simp only [List.cons.injEq, and_true, true_and] at z
    omega
/-- b, b + 1, .. n of them -/
def rng (b : Int) (n : Nat) : List Int := (List.range n).map fun (i : Nat) => b + ((i : Nat) : Int)
theorem rng_length (b : Int) (n : Nat) : (rng b n).length = n := by simp [rng]
theorem rng_get (b : Int) {n i : Nat} (h : i < n) : (rng b n)[i]? = some (b + (i : Int)) := by simp [rng, h]
theorem rng_get_inv {b : Int} {n i : Nat} {x : Int} (h : (rng b n)[i]? = some x) : i < n ∧ x = b + (i : Int) := by
  have l : i < n := by
    have := (List.getElem?_eq_some_iff.mp h).1
    rwa [rng_length] at this
  rw [rng_get b l] at h
  exact ⟨l, (Option.some.inj h).symm⟩
theorem stray_sq {cs : List Int} {b k : Nat} (h : Sq cs b k) : StrayW cs (rng (b : Int) (2 * k)) := by
  obtain ⟨h1, h2, h3⟩ := h
  have hk : (rng (b : Int) (2 * k)).length / 2 = k := by rw [rng_length]; omega
  refine ⟨by rw [rng_length]; omega, by rw [rng_length]; omega, ?_, ?_, ?_, ?_⟩
  · intro x hx
    obtain ⟨i, hi, e⟩ := List.getElem_of_mem hx
    obtain ⟨l, rfl⟩ := rng_get_inv (List.getElem?_eq_some_iff.mpr ⟨hi, e⟩)
    omega
  · intro i x y hx hy
    obtain ⟨_, rfl⟩ := rng_get_inv hx
    obtain ⟨_, rfl⟩ := rng_get_inv hy
    omega
  · rw [hk]
    apply List.ext_getElem?
    intro i
    rw [List.getElem?_map, List.getElem?_map, List.getElem?_take, List.getElem?_drop]
    by_cases hi : i < k
    · rw [if_pos hi, rng_get _ (by omega), rng_get _ (by omega)]
      show some cs[((b : Int) + (i : Int)).toNat]? = some cs[((b : Int) + ((k + i : Nat) : Int)).toNat]?
      rw [show ((b : Int) + (i : Int)).toNat = b + i by omega, show ((b : Int) + ((k + i : Nat) : Int)).toNat = b + k + i by omega, h3 i hi]
    · rw [if_neg hi, List.getElem?_eq_none (by rw [rng_length]; omega)]
  · rw [hk]
    intro z
    have := congrArg (fun l => l[0]?) z
    simp only [List.getElem?_drop] at this
    rw [List.getElem?_take, if_pos (by omega), rng_get _ (by omega), rng_get _ (by omega)] at this
    have := Option.some.inj this
    omega

/-! ### the least repeat, found by runs -/
/-- the places at and at + half are alike -/
def Mt (cs : List Int) (half a : Nat) : Prop := cs[a]? = cs[a + half]?
/-- behind the turns below `a` of the inner loop -/
structure RunInv (cs : List Int) (half a run : Nat) (best : Option (Nat × Nat)) : Prop where
  le : run ≤ a
  yes : ∀ j, j < run → Mt cs half (a - 1 - j)
  no : run < a → ¬ Mt cs half (a - 1 - run)
  none : best = none → run < half ∧ ∀ b, b + half ≤ a → ¬ ∀ j, j < half → Mt cs half (b + j)
  sq : ∀ b k, best = some (b, k) → Sq cs b k
theorem run_start {cs : List Int} {half : Nat} {best : Option (Nat × Nat)} (h : 1 ≤ half) (hb : ∀ b k, best = some (b, k) → Sq cs b k) : RunInv cs half 0 0 best :=
  ⟨Nat.le_refl _, fun j h => absurd h (by omega), fun h => absurd h (by omega), fun _ => ⟨h, fun b hb => absurd hb (by omega)⟩, hb⟩
theorem run_no {cs : List Int} {half a run : Nat} {best : Option (Nat × Nat)} (h : 1 ≤ half) (I : RunInv cs half a run best) (m : ¬ Mt cs half a) : RunInv cs half (a + 1) 0 best := by
  refine ⟨by omega, fun j h => absurd h (by omega), fun _ => m, fun e => ⟨h, fun b hb z => ?_⟩, I.sq⟩
  obtain ⟨_, q⟩ := I.none e
  by_cases hb2 : b + half ≤ a
  · exact q b hb2 z
  · have := z (half - 1) (by omega)
    rw [show b + (half - 1) = a by omega] at this
    exact m this
theorem run_yes {cs : List Int} {half a run : Nat} {best : Option (Nat × Nat)} (I : RunInv cs half a run best) (m : Mt cs half a) (hne : best = none → run + 1 ≠ half) : RunInv cs half (a + 1) (run + 1) best := by
  refine ⟨by have := I.le; omega, fun j hj => ?_, fun hlt => ?_, fun e => ?_, I.sq⟩
  · cases j with
    | zero => exact m
    | succ j =>
      have := I.yes j (by omega)
      rw [show a + 1 - 1 - (j + 1) = a - 1 - j by omega]
      exact this
  · rw [show a + 1 - 1 - (run + 1) = a - 1 - run by omega]
    exact I.no (by omega)
  · obtain ⟨q1, q2⟩ := I.none e
    have hn := hne e
    refine ⟨by omega, fun b hb z => ?_⟩
    by_cases hb2 : b + half ≤ a
    · exact q2 b hb2 z
    · have hl := I.le
      by_cases hr : run < a
      · have n := I.no hr
        have := z (a - 1 - run - b) (by omega)
        rw [show b + (a - 1 - run - b) = a - 1 - run by omega] at this
        exact n this
      · omega
/-- a run as long as half is a repeat -/
theorem run_sq {cs : List Int} {half a run : Nat} {best : Option (Nat × Nat)} (h : 1 ≤ half) (ha : a + half < cs.length) (I : RunInv cs half a run best) (m : Mt cs half a) (e : run + 1 = half) : Sq cs (a + 1 - half) half := by
  have hl := I.le
  refine ⟨h, by omega, fun j hj => ?_⟩
  by_cases hj2 : j = half - 1
  · subst hj2
    rw [show a + 1 - half + (half - 1) = a by omega, show a + 1 - half + half + (half - 1) = a + half by omega]
    exact m
  · have := I.yes (half - 2 - j) (by omega)
    unfold Mt at this
    rw [show a + 1 - half + j = a - 1 - (half - 2 - j) by omega, show a + 1 - half + half + j = a - 1 - (half - 2 - j) + half by omega]
    exact this
theorem run_best {cs : List Int} {half a run : Nat} {best : Option (Nat × Nat)} (h : 1 ≤ half) (ha : a + half < cs.length) (I : RunInv cs half a run best) (m : Mt cs half a) (e : run + 1 = half) : RunInv cs half (a + 1) (run + 1) (some (a + 1 - half, half)) := by
  refine ⟨by have := I.le; omega, fun j hj => ?_, fun hlt => ?_, fun e => (nomatch e), fun b k z => ?_⟩
  · cases j with
    | zero => exact m
    | succ j =>
      have := I.yes j (by omega)
      rw [show a + 1 - 1 - (j + 1) = a - 1 - j by omega]
      exact this
  · rw [show a + 1 - 1 - (run + 1) = a - 1 - run by omega]
    exact I.no (by omega)
  · cases z
    exact run_sq h ha I m e
/-- behind the halves below k -/
structure BestInv (cs : List Int) (k : Nat) (best : Option (Nat × Nat)) : Prop where
  none : best = none → ∀ half, 1 ≤ half → half < k → ∀ b, ¬ Sq cs b half
  sq : ∀ b k, best = some (b, k) → Sq cs b k
theorem run_end {cs : List Int} {half run : Nat} {best best' : Option (Nat × Nat)} (B : BestInv cs half best) (hk : best' = none → best = none) (I : RunInv cs half (cs.length - half) run best') : BestInv cs (half + 1) best' := by
  refine ⟨fun e h1 l1 l2 b s => ?_, I.sq⟩
  by_cases he : h1 = half
  · subst he
    obtain ⟨s1, s2, s3⟩ := s
    refine (I.none e).2 b (by omega) fun j hj => ?_
    unfold Mt
    rw [show b + j + h1 = b + h1 + j by omega]
    exact s3 j hj
  · exact B.none (hk e) h1 l1 (by omega) b s
theorem best_end {cs : List Int} {k : Nat} (B : BestInv cs k none) (hk : cs.length / 2 < k) : ∀ b h, ¬ Sq cs b h := fun b h s => by
  obtain ⟨s1, s2, s3⟩ := id s
  exact B.none rfl h s1 (by omega) b s

/-! ### slices -/
theorem sq_slices {cs : List Int} {b h : Nat} (h1 : 1 ≤ h) (h2 : b + 2 * h ≤ cs.length) : Sq cs b h ↔ (cs.drop b).take h = (cs.drop (b + h)).take h := by
  constructor
  · intro s
    apply List.ext_getElem?
    intro i
    rw [List.getElem?_take, List.getElem?_take, List.getElem?_drop, List.getElem?_drop]
    by_cases hi : i < h
    · rw [if_pos hi, if_pos hi]
      exact s.2.2 i hi
    · rw [if_neg hi, if_neg hi]
  · intro e
    refine ⟨h1, h2, fun j hj => ?_⟩
    have := congrArg (fun l => l[j]?) e
    simp only [List.getElem?_take, List.getElem?_drop, if_pos hj] at this
    exact this

/-! ### a bounded list without repeats is short -/
theorem nodup_le {α : Type} [DecidableEq α] : ∀ {xs ys : List α}, xs.Nodup → (∀ x ∈ xs, x ∈ ys) → xs.length ≤ ys.length
  | [], _, _, _ => Nat.zero_le _
  | x :: xs, ys, hn, hs => by
    have hx : x ∈ ys := hs x List.mem_cons_self
    have hn' := List.nodup_cons.mp hn
    have := nodup_le (xs := xs) (ys := ys.erase x) hn'.2 fun y hy => by
      have hne : y ≠ x := fun e => hn'.1 (e ▸ hy)
      exact (List.mem_erase_of_ne hne).mpr (hs y (List.mem_cons_of_mem _ hy))
    rw [List.length_erase_of_mem hx] at this
    have : 0 < ys.length := List.length_pos_of_mem hx
    show xs.length + 1 ≤ ys.length
    omega
def allTri (n : Nat) : List (Nat × Nat × Bool) := (List.range n).flatMap fun p => (List.range n).flatMap fun q => [(p, q, false), (p, q, true)]
theorem len_flatMap {α β : Type} {f : α → List β} {k : Nat} : ∀ {xs : List α}, (∀ x ∈ xs, (f x).length = k) → (xs.flatMap f).length = xs.length * k
  | [], _ => by simp
  | x :: xs, h => by
    rw [List.flatMap_cons, List.length_append, h x List.mem_cons_self, len_flatMap (xs := xs) fun y hy => h y (List.mem_cons_of_mem _ hy), List.length_cons, Nat.succ_mul]
    omega
theorem allTri_length (n : Nat) : (allTri n).length = n * (n * 2) := by
  unfold allTri
  rw [len_flatMap (k := n * 2), List.length_range]
  intro p _
  rw [len_flatMap (k := 2), List.length_range]
  intro q _
  rfl
theorem mem_allTri {n p q : Nat} {f : Bool} (hp : p < n) (hq : q < n) : (p, q, f) ∈ allTri n := by
  unfold allTri
  refine List.mem_flatMap.mpr ⟨p, List.mem_range.mpr hp, List.mem_flatMap.mpr ⟨q, List.mem_range.mpr hq, ?_⟩⟩
  cases f <;> simp
end K51
/-! K51: rules that the layer lacks: repr of a bool, bool of an instance with an own __bool__. -/
namespace K51
open PySem PySem.Spec PyProof.Rows L2

section
variable {X : Cx}
theorem call_repr_bl : CallR X (.builtin "repr") (fun xs H Q => ∃ b : Bool, xs = [.bl b] ∧ Q (.str (if b then "True" else "False")) H) := by
  intro pins s σ H xs us Q I r h
  obtain ⟨b, rfl, q⟩ := h
  obtain ⟨u, rfl, rr⟩ := vals1 r
  cases (show u = Value.bool b from rr)
  exact PySem.P.repr_of_bool ⟨.str _, H, I.tok _, ⟨_, rfl⟩, q⟩

/-- what an own __bool__ that gives a constant promises -/
def spCon (b : Bool) : Sp := fun vs H Q _ => ∃ x, vs = [x] ∧ Q (.bl b) H
structure BoolOf (P : Program) (w : World) (K : PySem.W.Frag) (mg : Str → Option Value) (base : Heap) (C : Addr) (b : Bool) : Prop where
  ex : ∃ (f : Addr) (fd : FuncData), FnOk P w K mg base CX0 1 f fd ["self"] (spCon b) ∧ PySem.W.findIn K (.ref C) "__bool__" = some (some (.ref f)) ∧ PySem.W.typeIn K (.ref f) = some (.type "function") ∧ Binds K fd ["self"] []
theorem truthy_ins {A : Around} {pins : List (Addr × Obj)} {σ : L2.St} {H : Hp} {s : Shared} {a C dx : Addr} {fs : List (Str × V)} {b : Bool} {E : Value → Shared → Prop} {Q : Bool → Shared → Prop}
    (B : BoolOf X.prog X.w X.K X.mg X.base C b) (hr : Room 1 A) (hA : A.frames = X.A.frames) (I : Inv X pins σ H s) (ha : H a = some (.ins C dx fs)) (h : ∀ s', Inv X pins σ H s' → Q b s') :
    wpAny (model X.prog X.w) A (truthy (.ref a)) Q E s := by
  obtain ⟨f, fd, F, hs, hf, hb⟩ := B.ex
  obtain ⟨mA, J, _⟩ := ins_get I.hok ha
  obtain ⟨od, J, _⟩ := J.look
  have key : wpAny (model X.prog X.w) A (callSpecial? (.ref a) (Str.ofString "__bool__") []) (fun r s' => r = some (.bool b) ∧ Inv X pins σ H s') E s := by
    refine PySem.W.special_fn I.kIn J hs hf ?_
    have e0 : Env0 X.prog X.w X.K X.mg X.base A X.stack s H := by
      have e := I.env0
      exact ⟨by rw [hA]; exact e.frames, e.mod, e.bs, e.bsz, e.funs, e.frf, e.hok, e.bare⟩
    have hsp : spCon b [.ref a] H (fun v H' => v = .bl b ∧ H' = H) E0 := ⟨_, rfl, rfl, rfl⟩
    refine wpAny_call (codeAny_mono (F.run A X.stack s H ⟨[.ref a], []⟩ [.ref a] [.ref a] _ E0 hr e0 (by
      have := hb s [.ref a] I.kIn rfl
      simpa using this) (.cons rfl .nil) hsp) fun r s' hq => ?_)
    cases r with
    | error e => exact False.elim hq
    | ok fl =>
      cases fl with
      | ret w' =>
        obtain ⟨z, H', I', rz, ez, ex⟩ := I.after hq
        subst ez ex
        cases rz
        exact ⟨rfl, I'⟩
      | next => exact False.elim hq
      | brk => exact False.elim hq
      | cont => exact False.elim hq
  unfold truthy
  refine wpAny_bind (wpAny_mono key (fun r s' hr => ?_) fun _ _ e => e)
  obtain ⟨rfl, I'⟩ := hr
  exact wpAny_pure (h s' I')
/-- bool(o), o of a class with an own __bool__ that gives a constant -/
theorem call_bool_ins (hr : Room 3 X.A) : CallR X (.type "bool") (fun xs H Q => ∃ (a C dx : Addr) (fs : List (Str × V)) (b : Bool), xs = [.ref a] ∧ H a = some (.ins C dx fs) ∧ BoolOf X.prog X.w X.K X.mg X.base C b ∧ Q (.bl b) H) := by
  intro pins s σ H xs us Q I r h
  obtain ⟨a, C, dx, fs, b, rfl, ha, B, q⟩ := h
  obtain rfl := Vals.ref1 r
  refine callType_codes (T := "bool") (Bi := Builtin.«object.__init__») (Q₁ := fun r s₁ => r = .bool b ∧ Inv X pins σ H s₁) PySem.F.called_bool (PySem.F.typeCall_bool_1 _) PySem.F.entry_object_init ?_ ?_
  · refine codeAny_of_tree ?_
    show wpAny _ X.A.in1.in1 (do checkBuiltinCall "bool.__new__" ⟨[.type "bool", .ref a], []⟩; again (.builtin "bool.__new__" ⟨[.type "bool", .ref a], []⟩)) _ _ s
    refine wpAny_bind (wpAny_of_eq (PySem.F.newCall_bool_1 _) (wpAny_pure ⟨plainId_quiet (by decide +kernel) _, codeAny_builtin PySem.F.entry_bool_new ?_⟩))
    rw [Around.under_plainId (by decide +kernel) _]
    have key := truthy_ins (E := X.xe) (Q := fun r s' => r = b ∧ Inv X pins σ H s') B (A := X.A.in1.in1) (hr.in1.in1) rfl I ha fun s' I' => ⟨rfl, I'⟩
    have f1 := PySem.F.conv_sub_bool
    unfold Builtin.«bool.__new__»
    repeat (any_goals (first | assumption | (with_reducible refine wpAny_bind (wpAny_mono key (fun r s' hk => ?_) fun _ _ e => e)) | wp_step))
    all_goals (obtain ⟨e1, e2⟩ := hk; subst e1; exact ⟨rfl, e2⟩)
  · rintro obj s₁ ⟨rfl, I'⟩
    exact ⟨PySem.typeIs_bool _ _, PySem.F.args_object_init_2 _ _, object_init_meets PySem.F.called_bool.init.lookup PySem.F.called_bool.made (by decide) X.prog X.w X.A.in1 _ s₁ ⟨PySem.typeIs_bool _ _, rfl, ⟨.bl b, H, I', rfl, q⟩⟩⟩
end
end K51
/-! K51: dicts with tuples of ints and bools as keys, every value True. -/
namespace K51
open PySem PySem.Spec PyProof.Rows L2

/-- an int or a bool, as a dict's key sees it -/
def vnum : V → Option Int
  | .int i => some i
  | .bl b => some (if b = true then 1 else 0)
  | _ => none
def KeyAt (H : Hp) (a : Addr) (ks : List Int) : Prop := ∃ vs, H a = some (.tup vs) ∧ vs.map vnum = ks.map some
abbrev tkind (P : Program) (w : World) : HeapKind P w (List Leaf) := tupleKind (leafKind P w)
def tdx (xs : List (List Int × Addr)) : List (List Leaf × Addr × Value) := xs.map fun x => (x.1.map Leaf.num, x.2, Value.bool true)
def TD (P : Program) (w : World) (d : Addr) (xs : List (List Int × Addr)) : HO := .ext fun h => xs.length ≤ sizeLine ∧ (d == sysModules) = false ∧
  ∃ o es ep, h.get? d = some o ∧ o.ExactDict ∧ o.data = .dict es ep ∧ es.toList = (tdx xs).map (entryOfKey (tkind P w)) ∧ ((tdx xs).map (·.1)).Nodup
/-- the keys stand -/
def TDK (H : Hp) (xs : List (List Int × Addr)) : Prop := ∀ x ∈ xs, KeyAt H x.2 x.1

section
variable {P : Program} {w : World} {H : Hp} {h : Heap}
theorem leaf_items : ∀ {ks : List Int} {vs : List V} {us : List Value}, Vals vs us → vs.map vnum = ks.map some → ItemsAre (leafKind P w) (ks.map Leaf.num) us
  | [], vs, us, r, e => by
    cases r with
    | nil => exact .nil
    | cons _ _ => exact nomatch e
  | k :: ks, vs, us, r, e => by
    cases r with
    | nil => exact nomatch e
    | @cons v u vs us h t =>
      rw [List.map_cons, List.map_cons] at e
      injection e with e1 e2
      refine .cons ?_ (leaf_items t e2)
      cases v with
      | int i =>
        obtain ⟨t, rfl⟩ := (show ∃ t, u = Value.int i t from h)
        have : i = k := Option.some.inj e1
        subst this
        exact leaf_int i t
      | bl b =>
        cases (show u = Value.bool b from h)
        have : (if b = true then 1 else 0) = k := Option.some.inj e1
        subst this
        cases b
        · exact leaf_false
        · exact leaf_true
      | _ => exact nomatch e1
theorem key_at {a : Addr} {ks : List Int} (ok : HOk P w H h) (e : KeyAt H a ks) : (tkind P w).is h (ks.map Leaf.num) a := by
  obtain ⟨vs, e, ev⟩ := e
  obtain ⟨_, its, r, o, h1, h2, n, h3⟩ := (show ObjOk P w H h a (.tup vs) from ok a _ e)
  exact ⟨o, its.toArray, n, h1, h2, h3, by simpa using leaf_items r ev⟩
theorem td_of {d : Addr} {xs : List (List Int × Addr)} (ok : HOk P w H h) (e : H d = some (TD P w d xs)) (k : TDK H xs) : xs.length ≤ sizeLine ∧ (d == sysModules) = false ∧ h.DictOfH (tkind P w) d (tdx xs) := by
  obtain ⟨⟨z, hd, o, es, ep, h1, h2, h3, h4, h5⟩, _⟩ := ok d _ e
  refine ⟨z, hd, o, es, ep, h1, h2, h3, h4, fun x hx => ?_, h5⟩
  obtain ⟨y, hy, rfl⟩ := List.mem_map.mp hx
  exact key_at ok (k y hy)
theorem td_new {H' : Hp} {h' : Heap} {d : Addr} {xs : List (List Int × Addr)} (z : xs.length ≤ sizeLine) (hd : (d == sysModules) = false) (dd : h'.DictOfH (tkind P w) d (tdx xs)) : ObjOk P w H' h' d (TD P w d xs) := by
  obtain ⟨o, es, ep, h1, h2, h3, h4, _, h5⟩ := dd
  refine ⟨⟨z, hd, o, es, ep, h1, h2, h3, h4, h5⟩, ⟨o, h1⟩, fun ha hb ph k => ?_⟩
  obtain ⟨z, hd, o, es, ep, h1, h2, h3, h4, h5⟩ := ph
  exact ⟨z, hd, o, es, ep, k o h1, h2, h3, h4, h5⟩
theorem atKey_tdx (xs : List (List Int × Addr)) (ks : List Int) : (atKey (tdx xs) (ks.map Leaf.num)).isSome = decide (ks ∈ xs.map (·.1)) := by
  have inj : ∀ {a b : List Int}, a.map Leaf.num = b.map Leaf.num → a = b := by
    intro a
    induction a with
    | nil => intro b e; cases b with
      | nil => rfl
      | cons _ _ => exact nomatch e
    | cons x a ih => intro b e; cases b with
      | nil => exact nomatch e
      | cons y b =>
        rw [List.map_cons, List.map_cons] at e
        injection e with e1 e2
        injection e1 with e1
        rw [e1, ih e2]
  induction xs with
  | nil => rfl
  | cons x xs ih =>
    by_cases e : x.1 = ks
    · subst e
      have : atKey (tdx (x :: xs)) (x.1.map Leaf.num) = some (x.2, Value.bool true) := by simp [atKey, tdx]
      rw [this]
      simp
    · have ne : ¬ x.1.map Leaf.num = ks.map Leaf.num := fun z => e (inj z)
      have : atKey (tdx (x :: xs)) (ks.map Leaf.num) = atKey (tdx xs) (ks.map Leaf.num) := by simp [atKey, tdx, ne]
      rw [this, ih]
      refine decide_eq_decide.mpr ?_
      rw [List.map_cons, List.mem_cons]
      exact ⟨.inr, fun z => z.elim (fun z => absurd z.symm e) id⟩
end

section
variable {X : Cx} {pins : List (Addr × Obj)} {σ : L2.St} {H : Hp} {s : Shared} {d b : Addr} {xs : List (List Int × Addr)} {ks : List Int} {A : Around} {E : Value → Shared → Prop}
theorem td_notIn {Q : Value → Shared → Prop} (hu : A.units + 1 < cLine) (I : Inv X pins σ H s) (e : H d = some (TD X.prog X.w d xs)) (k : TDK H xs) (kb : KeyAt H b ks) (h : ∀ s', Inv X pins σ H s' → Q (.bool (!decide (ks ∈ xs.map (·.1)))) s') :
    wpAny (model X.prog X.w) A (compareOp .NotIn (.ref b) (.ref d)) Q E s := by
  obtain ⟨z, hd, dd⟩ := td_of I.hok e k
  refine wpAny_notIn_heap (tupleKind_room_in1 hu) (key_at I.hok kb) hd dd ?_
  rw [atKey_tdx]
  exact h _ (I.tok _)
theorem td_set {r : Value} {Q : Unit → Shared → Prop} (hu : A.units + 1 < cLine) (I : Inv X pins σ H s) (e : H d = some (TD X.prog X.w d xs)) (k : TDK H xs) (kb : KeyAt H b ks) (hn : ks ∉ xs.map (·.1)) (hz : xs.length < sizeLine)
    (h : ∀ s', Inv X pins σ (upd H d (TD X.prog X.w d (xs ++ [(ks, b)]))) s' → Q () s') :
    wpAny (model X.prog X.w) A (setItem (.ref d) (.ref b) (.bool true)) Q E s := by
  obtain ⟨z, hd, dd⟩ := td_of I.hok e k
  have hl : (tdx xs).length ≤ sizeLine := by unfold tdx; rw [List.length_map]; exact z
  have hn' : atKey (tdx xs) (ks.map Leaf.num) = none := by
    have := atKey_tdx xs ks
    rw [decide_eq_false hn] at this
    exact Option.isNone_iff_eq_none.mp (by rw [← Option.not_isSome, this]; rfl)
  refine wpAny_setItem_heap (hsz := hl) (tupleKind_room_in1 hu) (key_at I.hok kb) dd fun h' dd' hs => h _ ?_
  rw [storedH_new hn'] at dd'
  have et : tdx xs ++ [(ks.map Leaf.num, b, Value.bool true)] = tdx (xs ++ [(ks, b)]) := by simp [tdx]
  rw [et] at dd'
  have he : ∃ q, h'.get? d = some q := let ⟨q, _, _, hq, _⟩ := dd'; ⟨q, hq⟩
  exact d_write I (by rw [e]; exact True.intro) hs he (td_new (by rw [List.length_append, List.length_singleton]; omega) hd dd')

/-- y not in d -/
def tTdNotIn (P : Program) (w : World) (ty td : TE) : TE := fun σ H Q => ty σ H fun y H1 => td σ H1 fun x H2 => ∃ d b xs ks, x = .ref d ∧ y = .ref b ∧ H2 d = some (TD P w d xs) ∧ TDK H2 xs ∧ KeyAt H2 b ks ∧ Q (.bl (!decide (ks ∈ xs.map (·.1)))) H2
theorem pc_tdNotIn {i o : Expr} {ty td : TE} (hu : X.A.units + 1 < cLine) (hi : PE X i ty) (ho : PE X o td) : PC X .NotIn i o (tTdNotIn X.prog X.w ty td) := by
  refine ⟨fun pins s σ H Q I h => ?_⟩
  refine thn (hi.run pins s σ H _ I h) fun iv s1 ⟨y, H1, I1, ry, q1⟩ => thn (ho.run pins s1 σ H1 _ I1 q1) fun u s2 ⟨x, H2, I2, rx, d, b, xs, ks, ex, ey, e, k, kb, q2⟩ => ?_
  subst ex ey
  cases (show u = Value.ref d from rx)
  cases (show iv = Value.ref b from ry)
  exact td_notIn hu I2 e k kb fun s3 I3 => ⟨.bl _, H2, I3, rfl, q2⟩
/-- d[y] = True, y not there -/
def sTdPut (P : Program) (w : World) (td ty tv : TE) : TS := fun D σ H => tv σ H fun v H1 => td σ H1 fun x H2 => ty σ H2 fun y H3 => ∃ d b xs ks, v = .bl true ∧ x = .ref d ∧ y = .ref b ∧ H3 d = some (TD P w d xs) ∧ TDK H3 xs ∧ KeyAt H3 b ks ∧
  ks ∉ xs.map (·.1) ∧ xs.length < sizeLine ∧ D.nx σ (upd H3 d (TD P w d (xs ++ [(ks, b)])))
theorem ps_tdPut {o i value : Expr} {td ty tv : TE} {pos pos' : Pos} (hu : X.A.units + 1 < cLine) (ho : PE X o td) (hi : PE X i ty) (hv : PE X value tv) (hs : swapsWith value (some (.Subscript o i pos')) pos.line X.env = pure false := by rfl) :
    PS X (.Assign [.Subscript o i pos'] value pos) (sTdPut X.prog X.w td ty tv) := by
  refine ⟨fun pins s σ H D I h => ?_⟩
  refine wpAny_Assign_Subscript (thn (hv.run pins s σ H _ I h) fun r s1 ⟨v, H1, I1, rv, q1⟩ => thn (ho.run pins s1 σ H1 _ I1 q1) fun u s2 ⟨x, H2, I2, rx, q2⟩ => thn (hi.run pins s2 σ H2 _ I2 q2) fun iv s3 ⟨y, H3, I3, ry, d, b, xs, ks, ev, ex, ey, e, k, kb, hn, hz, q3⟩ => ?_) hs
  subst ev ex ey
  cases (show u = Value.ref d from rx)
  cases (show iv = Value.ref b from ry)
  cases (show r = Value.bool true from rv)
  exact td_set (r := .bool true) hu I3 e k kb hn hz fun s4 I4 => ⟨σ, _, I4, q3⟩

/-- {y: True}; the new dict stands empty while the key is made -/
def tTdNew (P : Program) (w : World) (ty tv : TE) : TE := fun σ H Q => ∀ p, H p = none → ty σ (upd H p (TD P w p [])) fun y H1 => tv σ H1 fun v H2 => ∃ b ks, y = .ref b ∧ v = .bl true ∧ KeyAt H2 b ks ∧ H2 p = some (TD P w p []) ∧ Q (.ref p) (upd H2 p (TD P w p [(ks, b)]))
theorem td_empty {P : Program} {w : World} {H : Hp} (h : Heap) (hb : sysModules < h.objs.size) : ObjOk P w H (h.push { cls := .type "dict", data := .dict #[] }) h.objs.size (TD P w h.objs.size []) :=
  td_new (Nat.zero_le _) (beq_eq_false_iff_ne.mpr (Ne.symm (Nat.ne_of_lt hb))) (Heap.DictOfH.new h)
theorem pe_tdNew {k v : Expr} {ty tv : TE} {pos : Pos} (hu : X.A.units + 1 < cLine) (hk : PE X k ty) (hv : PE X v tv) : PE X (.Dict [some k] [v] pos) (tTdNew X.prog X.w ty tv) := by
  refine ⟨fun pins s σ H Q I q => ?_⟩
  have hn := I.hok.fresh (Nat.le_refl s.heap.objs.size)
  have I1 := I.laid (a := s.heap.objs.size) (o := TD X.prog X.w s.heap.objs.size []) (h' := s.heap.push { cls := .type "dict", data := .dict #[] }) (t' := s.toks) (fun _ _ q => Heap.get?_push_of_some _ q) (Nat.le_refl _) (td_empty s.heap I.big)
  have q1 := q _ hn
  rw [arm_eval_Dict]
  have hshape : (evalEachOpt [some k] X.env).zip ((evalEach [v] X.env).map fun v => do let x ← v; standAt pos; pure x) = [(eval k X.env, do let x ← eval v X.env; standAt pos; pure x)].map fun p => (some p.1, p.2) := by rfl
  rw [hshape, dictDisplay_pairs _ (by simp) (by simp)]
  refine wpAny_bind (wpAny_standAt (wpAny_bind (wpAny_subDictH (knd := tkind X.prog X.w) (Q := fun d s' => wpAny (model X.prog X.w) X.A (pure (Value.ref d)) (EP X pins σ Q) X.xe s') ?_ (by simp) ?_)))
  · show X.A.units < cLine
    omega
  · show wpAny (model X.prog X.w) X.A (evalPairs (pairTrees [some k] [v] X.env pos)) _ _ _
    refine pairTrees_cons_walk (thn (hk.run pins _ σ _ _ I1 q1) fun u s1 ⟨y, H1, I2, ry, q2⟩ => thn (hv.run pins s1 σ H1 _ I2 q2) fun w2 s2 ⟨z, H2, I3, rz, b, ks, ey, ez, kb, e, q3⟩ => pairTrees_nil_walk ?_)
    subst ey ez
    cases (show u = Value.ref b from ry)
    cases (show w2 = Value.bool true from rz)
    obtain ⟨_, hd, dd⟩ := td_of I3.hok e (fun x hx => nomatch hx)
    refine ⟨[(ks.map Leaf.num, b, Value.bool true)], ⟨rfl, rfl, key_at I3.hok kb, True.intro⟩, dd, fun h' tk dd' hs => wpAny_pure ⟨.ref s.heap.objs.size, _, ?_, rfl, q3⟩⟩
    have he : ∃ q, h'.get? s.heap.objs.size = some q := let ⟨q, _, _, hq, _⟩ := dd'; ⟨q, hq⟩
    exact d_write I3 (by rw [e]; exact True.intro) hs he (td_new (by show 1 ≤ sizeLine; decide) hd dd')
end
end K51
/-! K51: super().__init__(..) in a def of an own class. -/
namespace K51
open PySem PySem.Spec PyProof.Rows L2

/-- what the text must be where super() stands -/
structure SupOk (K : PySem.W.Frag) (P : Program) (mg : Str → Option Value) (env : Env) (me : Str) (D f cc cda f2 : Addr) (m : Str) : Prop where
  ks : env.kindOf "super" = some .globalImplicit
  kc : env.kindOf "__class__" = some .free
  ka : env.kindOf me = some .local
  fu : env.func = some f
  co : env.code = .ref cda
  ce : env.cells.lookup ("__class__" : Str) = some cc
  at_ : (m == ("__class__" : Str)) = false
  lf : ∃ (oc : Value) (od : Option Addr) (fd : FuncData) (osl : Array (Option Value)) (ar : Arg), K.lookup f = some ⟨oc, od, .func fd, osl⟩ ∧ (fd.params.posonlyargs ++ fd.params.args).head? = some ar ∧ ar.arg = me
  lc : ∃ (ccl : Value) (cdd : Option Addr) (vs : Array Value) (ccs : Array (Option Value)) (file : Str) (tf : Tok), K.lookup cda = some ⟨ccl, cdd, .fields vs, ccs⟩ ∧ vs[2]? = some (.str file tf) ∧ ((P.main.file : Str) == file) = true
  lcell : ∃ (cl : Value) (cld : Option Addr) (csl : Array (Option Value)), K.lookup cc = some ⟨cl, cld, .cell (some (.ref D)), csl⟩
  hD : (PySem.W.clsIn K D).isSome = true
  sup : mg "super" = none
  top : (P.main.scope.names.lookup ("super" : Str)).isSome = false
  opq : PySem.W.nsIn K PySem.cStatics "thirdparty.any" = some none
  ty : PySem.W.typeIn K (.ref f2) = some (.type "function")
  fi : PySem.W.fnIn K f2 = true
structure SupAt (K : PySem.W.Frag) (C D f2 : Addr) (m : Str) : Prop where
  sub : PySem.W.mroIn K C (.ref D) = some true
  at_ : PySem.W.ks_superIn K C D m = some (some (.ref f2))

section
variable {X : Cx} {pins : List (Addr × Obj)} {σ : L2.St} {H : Hp} {s : Shared} {x C D dx f f2 cc cda : Addr} {me m : Str} {fs : List (Str × V)} {CX : CXT} {k i : Nat} {sp : Sp} {E : XK} {Q : VK} {e : Expr} {es : List Expr} {t : TA} {p0 p1 apos pos : Pos} {body : List Stmt} {pl : Sem Bool}
theorem superCall (T : SupOk X.K X.prog X.mg X.env me D f cc cda f2 m) (U : SupAt X.K C D f2 m) (F : FnR X.prog X.w X.K X.mg X.base CX k f2 sp) (hr : Room k X.A) (hx : Passes CX X E) (ha : PA X (e :: es) t)
    (I : Inv X pins σ H s) (hi : X.N[i]? = some me) (hs : σ[i]? = some (some (.ref x))) (hX : H x = some (.ins C dx fs)) (q : t σ H fun vs H1 => sp (.ref x :: vs) H1 Q E)
    (hst : starEach (e :: es) X.env = (false, eval e X.env) :: starEach es X.env := by rfl) (hpl : (backTo pos (starEach es X.env)).any (·.1) = false := by rfl)
    (he : eval (.Call (.Attribute (.Call (.Name "super" p0) [] [] p1) m apos) (e :: es) [] pos) X.env = (do
      let ov ← attributeBase (.Call (.Name "super" p0) [] [] p1) m X.env (eval (.Call (.Name "super" p0) [] [] p1) X.env)
      standAt apos.atName
      let (f, first) ← holding [ov] (getMethod ov m pl)
      callWith pos f first (backTo pos (starEach (e :: es) X.env)) []) := by rfl) :
    _root_.PySem.wpAt (model X.prog X.w) X.A (.func body X.env) (eval (.Call (.Attribute (.Call (.Name "super" p0) [] [] p1) m apos) (e :: es) [] pos) X.env) (EP X pins σ Q) X.xe s := by
  obtain ⟨oc, od, fd, osl, ar, lf, hpar, rfl⟩ := T.lf
  obtain ⟨ccl, cdd, vs, ccs, file, tf, lc, hvs, hfile⟩ := T.lc
  obtain ⟨cl, cld, csl, lcell⟩ := T.lcell
  obtain ⟨cdD, hD⟩ := Option.isSome_iff_exists.mp T.hD
  obtain ⟨mA, J, _⟩ := ins_get I.hok hX
  obtain ⟨odx, J, _⟩ := J.look
  have KX := I.kIn
  obtain ⟨oD, hD1, hD2⟩ : ∃ oD, s.heap.get? D = some oD ∧ oD.data = .cls cdD := by
    unfold PySem.W.clsIn at hD
    split at hD
    · rename_i c d cd' sl ho
      cases hD
      exact ⟨_, KX _ _ ho, rfl⟩
    · cases hD
  obtain ⟨mm, hn, hl⟩ := I.loc
  obtain ⟨u, ru, lk⟩ := hl i ar.arg (.ref x) hi hs (.inl T.ka)
  cases (show u = Value.ref x from ru)
  have hm : mm ar.arg = some (.ref x) := by
    rcases lk with ⟨_, h⟩ | ⟨h, _⟩
    · exact h
    · exfalso
      have := T.ka
      rcases h with h | h <;> rw [this] at h <;> cases h
  have hcell : s.heap.IsCell cc (some (.ref D)) := ⟨_, KX _ _ lcell, rfl⟩
  obtain ⟨mb, hb1, hb2⟩ := I.mod.blt
  refine PySem.ks_wpAt_MethodCall (pl := pl) ?_ he
  refine PySem.ks_wpAt_super_base T.ks T.kc T.at_ T.fu (KX _ _ lf) rfl hpar T.co (KX _ _ lc) rfl hvs hfile T.top ?_
  refine PySem.W.ks_loadName_global I.ok.kind T.ks (Calls.loadGlobal_builtin (by rw [I.ok.glob]; exact I.mod.glob.keeps I.bk) T.sup (by rw [I.ok.blt]; exact hb1.keeps I.bk) ((hb2 _ (by decide +kernel)).trans (by boot_by_name)) ⟨rfl, ?_⟩)
  refine wpAny_loadName_free I.ok.kind T.kc T.ce hcell ?_
  refine wpAny_loadName_local I.ok.kind T.ka hn hm ?_
  refine PySem.ks_wpAny_isType_cls hD1 hD2 ⟨rfl, ?_⟩
  refine PySem.ks_wpAny_call_super hD1 hD2 J.at_ J.cls (fun c e => ?_) (PySem.W.looks_mroIn KX U.sub) (fun h' e1 k1 => ?_)
  · have := J.no
    unfold PySem.W.notCls at this
    rw [e] at this
    exact Bool.noConfusion this
  have I1 : Inv X pins σ H { s with heap := h' } := I.kept (t' := s.toks) k1
  have KX1 := I1.kIn
  cases hc : PySem.W.clsIn X.K C with
  | none =>
    have := U.at_
    unfold PySem.W.ks_superIn at this
    rw [hc] at this
    cases this
  | some cd =>
    have hm2 := U.at_
    unfold PySem.W.ks_superIn at hm2
    rw [hc] at hm2
    obtain ⟨of, hof, hofc⟩ : ∃ of, h'.get? f2 = some of ∧ of.cls = .type "function" := by
      have ht' : (X.K.lookup f2).map (·.cls) = some (.type "function") := T.ty
      cases z : X.K.lookup f2 with
      | none => rw [z] at ht'; cases ht'
      | some of => rw [z] at ht'; exact ⟨of, KX1 _ _ z, Option.some.inj ht'⟩
    refine PySem.ks_wpAny_getMethod_super e1 (PySem.W.looks_opaque KX1 T.opq) (l₀ := cd.mro) ?_ rfl KX1 hm2 hof hofc (PySem.W.ks_ne KX J hc) T.at_ ?_
    · exact fun A Q E s k q => wpAny_bind ((PySem.W.looks_clsIn KX1 hc) A _ E s k (wpAny_pure q))
    have I2 := ClX.met_new (g := f2) (C := x) I1
    refine ClX.callwith_cm I2 (ClX.base_none I1 (Nat.le_refl _)) T.fi (thn (ha.run pos _ _ σ H _ I2 q) fun us s3 ⟨vs, H2, I3, rv, q2⟩ => ⟨⟨ClX.pin_at I3, I3.kIn⟩, ?_⟩) hst hpl
    exact ClX.run_cm F hr hx I3 rv q2
end
end K51
/-! K51: a def that closes over __class__ and begins with super().m(..). -/
namespace K51
open PySem PySem.Spec PyProof.Rows L2

theorem lookup_mem {α : Type} {x : Str} {u : α} : ∀ {l : List (Str × α)}, (l.map (·.1)).Nodup → (x, u) ∈ l → l.lookup x = some u
  | [], _, h => nomatch h
  | (y, v) :: l, nd, h => by
    rw [List.map_cons, List.nodup_cons] at nd
    by_cases e : x = y
    · subst e
      rcases List.mem_cons.mp h with h | h
      · cases h
        simp [List.lookup_cons]
      · exact absurd (List.mem_map.mpr ⟨_, h, rfl⟩) nd.1
    · rcases List.mem_cons.mp h with h | h
      · cases h
        exact absurd rfl e
      · rw [List.lookup_cons, beq_eq_false_iff_ne.mpr e]
        exact lookup_mem nd.2 h
theorem lookup_zip {α : Type} {x : Str} {u : α} {ps : List Str} {us : List α} {i : Nat} (nd : ps.Nodup) (h1 : ps[i]? = some x) (h2 : us[i]? = some u) : (ps.zip us).reverse.lookup x = some u := by
  refine lookup_mem ?_ ?_
  · rw [List.map_reverse]
    refine (List.Perm.nodup_iff (List.reverse_perm _)).mpr ?_
    have hs : ∀ (ps : List Str) (us : List α), ((ps.zip us).map (·.1)).Sublist ps := by
      intro ps
      induction ps with
      | nil => intro us; simp
      | cons p ps ih =>
        intro us
        cases us with
        | nil => simp
        | cons u us => exact (ih us).cons_cons p
    exact nd.sublist (hs ps us)
  · exact List.mem_reverse.mpr (List.mem_of_getElem? (i := i) (by
      rw [List.getElem?_zip_eq_some]
      exact ⟨h1, h2⟩))

abbrev cxS (P : Program) (w : World) (K : PySem.W.Frag) (mg : Str → Option Value) (base : Heap) (N : List Str) (qual : Str) (scope : Scope) (f : Addr) (cdv : Value) (cc : Addr) (A : Around) (outer : List Env) (s : Shared) (H : Hp) : Cx where
  prog := P
  w := w
  K := K
  mg := mg
  base := base
  A := A.deeper (PySem.W.ksEnv qual scope s.heap.objs.size f cdv cc)
  N := N
  s_0 := s
  H_0 := H
  env := PySem.W.ksEnv qual scope s.heap.objs.size f cdv cc
  outer := outer
  stack := PySem.W.ksEnv qual scope s.heap.objs.size f cdv cc :: outer
  ex := []
  calm := true
  fn := fun _ => false
  pn := []
  xe := fun _ _ => False

section
variable {P : Program} {w : World} {K : PySem.W.Frag} {mg : Str → Option Value} {base : Heap} {k : Nat} {f cc D : Addr} {name qual : Str} {params : Arguments} {body : List Stmt} {scope : Scope} {kV doc pm cdv ct oc : Value} {an od : Option Addr}
  {osl : Array (Option Value)} {ps : List Str} {sp : Sp}
theorem fn_super (lk : K.lookup f = some ⟨oc, od, .func (PySem.W.ksFn name qual params body scope .none kV doc pm an cdv ct cc), osl⟩) (hcd : PySem.W.codeIn K cdv qual = true)
    (lcell : ∃ (cl : Value) (cld : Option Addr) (csl : Array (Option Value)), K.lookup cc = some ⟨cl, cld, .cell (some (.ref D)), csl⟩)
    (nd : ps.Nodup) (hcell : ∀ x ∈ scope.names, x.2 ≠ .cell) (hfree : ∀ x, scope.names.lookup x = some .free → x = ("__class__" : Str)) (hpar : ∀ x ∈ ps, scope.names.lookup x = some .local)
    (hbn : ∀ us : List Value, us.length = ps.length → bindArgs (PySem.W.ksFn name qual params body scope .none kV doc pm an cdv ct cc) ⟨us, []⟩ = pure (ps.zip us))
    (len : ∀ vs H Q E, sp vs H Q E → vs.length = ps.length)
    (hbody : ∀ (A : Around) (outer : List Env) (s : Shared) (H : Hp) (vs : List V) (Q : VK) (E : XK) (s1 : Shared), Room k (A.deeper (PySem.W.ksEnv qual scope s.heap.objs.size f cdv cc)) → sp vs H Q E →
      Inv (cxS P w K mg base ps qual scope f cdv cc A outer s H) [] (vs.map some) H s1 →
      _root_.PySem.wpAt (model P w) (A.deeper (PySem.W.ksEnv qual scope s.heap.objs.size f cdv cc)) (.func body (PySem.W.ksEnv qual scope s.heap.objs.size f cdv cc)) (execs body (PySem.W.ksEnv qual scope s.heap.objs.size f cdv cc))
        (SP (cxS P w K mg base ps qual scope f cdv cc A outer s H) [] { nx := fun _ H' => Q .non H', rt := Q }) (fun _ _ => False) s1)
    (hco : scope.isCoroutine = false := by rfl) (hgen : scope.isGenerator = false := by rfl) (hk : scope.kind = .function := by rfl) :
    FnR P w K mg base CX0 (k + 1) f sp := by
  intro A outer s H us vs Q E hr e0 r hsp
  have hl := len _ _ _ _ hsp
  have KX : K.In s.heap := e0.mod.kin.keeps fun b o e => (e0.bs b o e).1
  have lim : s.heap.NoLimit := e0.mod.nolimit.keeps fun b o e => (e0.bs b o e).1
  obtain ⟨cl, cld, csl, lcell⟩ := lcell
  have hbase : base.get? cc = some ⟨cl, cld, .cell (some (.ref D)), csl⟩ := e0.mod.kin _ _ lcell
  refine PySem.ks_codeAny_call_defAt hr.depth (KX _ _ lk) rfl lim (PySem.W.codeRec_of KX hcd) rfl (.of_eq (hbn us (by rw [← r.length]; exact hl))) hcell (fun y hy => hpar y.1 (List.of_mem_zip hy).1) (fun h1 hns hk1 => ?_) hco hgen hk
  have ceq : ∀ x c, ([(("__class__" : Str), cc)] : List (Str × Addr)).lookup x = some c → x = "__class__" ∧ c = cc := fun x c h => by
    by_cases e : x = "__class__"
    · subst e
      have : some cc = some c := by simpa [List.lookup_cons] using h
      exact ⟨rfl, (Option.some.inj this).symm⟩
    · rw [List.lookup_cons, beq_eq_false_iff_ne.mpr e] at h
      cases h
  have ccLt : cc < s.heap.objs.size := Heap.lt_size (e0.bs _ _ hbase).1
  have I : Inv (cxS P w K mg base ps qual scope f cdv cc A outer s H) [] (vs.map some) H { s with heap := h1, toks := s.toks + (ps.zip us).length } := by
    refine ⟨⟨e0.mod, hk, rfl, rfl, Nat.le_refl _, fun y z c h1 h2 => (ceq y c h1).1.trans (ceq z c h2).1.symm, fun y hy => ?_, fun y c h _ => (nomatch h), fun _ => hr.hd, Around.frames_deeper e0.frames, .inr ⟨rfl, rfl⟩, fun b z => (nomatch z), e0.bs, e0.bsz, fun b _ _ z => (nomatch z), fun b z => (nomatch z), e0.funs, e0.frf⟩,
      rfl, e0.bare, Un.kept hk1, ⟨_, hns, fun i y v h1 h2 h3 => ?_⟩, fun y c h => ?_, e0.hok.fresh (Nat.le_refl _), fun y c h => ?_, fun p hp => (nomatch hp), e0.hok.kept hk1, ?_⟩
    · have hy : scope.names.lookup y = some .cell ∨ scope.names.lookup y = some .free := hy
      rcases hy with hy | hy
      · exact absurd rfl (hcell _ (PySem.mem_of_lookup hy))
      · have := hfree y hy
        subst this
        exact ⟨cc, by simp [List.lookup_cons]⟩
    · have hv : vs[i]? = some v := by
        rw [List.getElem?_map] at h2
        cases e : vs[i]? with
        | none => rw [e] at h2; cases h2
        | some a => rw [e] at h2; cases h2; rfl
      obtain ⟨u, hu, rv⟩ := r.get hv
      exact ⟨u, rv, .inl ⟨hpar y (List.mem_of_getElem? h1), lookup_zip nd h1 hu⟩⟩
    · obtain ⟨rfl, rfl⟩ := ceq y c h
      exact ⟨_, _, hk1 _ _ (e0.bs _ _ hbase).1, rfl⟩
    · obtain ⟨rfl, rfl⟩ := ceq y c h
      exact (e0.bs _ _ hbase).2
    · rw [List.length_map]
      exact hl
  refine PySem.ks_wpAt_mono (hbody A outer s H vs Q E _ (hr.deeper _) hsp I) (fun fl s' hs => ?_) fun e s' hs => hs.elim
  have fin : ∀ {σ' : L2.St} {H' : Hp} {v : V} {u : Value}, Inv (cxS P w K mg base ps qual scope f cdv cc A outer s H) [] σ' H' s' → RelV v u → Q v H' → CE outer P w H s Q u s' :=
    fun {σ' H' v u} J rv q => ⟨v, H', J.os, J.bare, J.base, J.hok, rv, q⟩
  cases fl with
  | ret u =>
    obtain ⟨v, σ', H', J, rv, q⟩ := hs
    exact fin J rv q
  | next =>
    obtain ⟨σ', H', J, q⟩ := hs
    exact fin (v := V.non) (u := Value.none) J rfl q
  | brk =>
    obtain ⟨_, _, _, q⟩ := hs
    exact False.elim q
  | cont =>
    obtain ⟨_, _, _, q⟩ := hs
    exact False.elim q
end
end K51
/-! K51: the text by places, the facts of its names, short rules for its defs, and forms for loops. -/
namespace K51
open PySem PySem.Spec PyProof.Rows L2

def topS (i : Nat) : Stmt := PySem.Challenge.pw_threelanes_k51_whole_colours_of_a_line_j.main.body.getD i (.Pass ⟨0, 0, 0, 0⟩)
/-- where the classes stand -/
structure Ads where
  calm : Addr
  stray : Addr
  paper : Addr
  denial : Addr
/-- what isinstance asks of an own class -/
structure InsK (K : PySem.W.Frag) (C : Addr) : Prop where
  cl : Cls K C
  ha : PySem.W.findIn K (.ref C) "__class__" = some (some (.builtin "object.__class__"))
  hm : PySem.W.mroIn K C (.type "object") = some true
/-- the names that the top leaves -/
structure Txt (K : PySem.W.Frag) (mg : Str → Option Value) (ad : Ads) : Prop where
  len : mg "len" = none
  range : mg "range" = none
  abs : mg "abs" = none
  max : mg "max" = none
  min : mg "min" = none
  isinstance : mg "isinstance" = none
  int : mg "int" = none
  bool : mg "bool" = none
  list : mg "list" = none
  tuple : mg "tuple" = none
  repr : mg "repr" = none
  zip : mg "zip" = none
  all : mg "all" = none
  super : mg "super" = none
  cMOST_SIGNS : ∃ t, mg "MOST_SIGNS" = some (.int 2000 t)
  cMOST_PLACES : ∃ t, mg "MOST_PLACES" = some (.int 2000 t)
  cMOST_JUDGED : ∃ t, mg "MOST_JUDGED" = some (.int 400 t)
  cEVERY : ∃ t, mg "EVERY" = some (.int 3 t)
  cFOURTH : ∃ t, mg "FOURTH" = some (.int 3 t)
  gCalm : mg "Calm" = some (.ref ad.calm)
  gStray : mg "Stray" = some (.ref ad.stray)
  gPaper : mg "Paper" = some (.ref ad.paper)
  gDenial : mg "Denial" = some (.ref ad.denial)
  iCalm : InsK K ad.calm
  iStray : InsK K ad.stray
  iPaper : InsK K ad.paper
  iDenial : InsK K ad.denial
  oget : PySem.W.specialIn K (.builtin "object.__class__") "__get__" = some (some (.builtin "getset_descriptor.__get__"))
  otk : PySem.W.takesIn K (.builtin "object.__class__") = some true
  nw : ∀ C ∈ [ad.calm, ad.stray, ad.paper, ad.denial], NoAttr K C "word" ∧ NoAttr K C "parts" ∧ NoAttr K C "walk"
  kb : ∀ n ∈ ["NoneType", "bool", "int", "str", "list", "tuple"], ∀ C ∈ [ad.calm, ad.stray, ad.paper, ad.denial], PySem.W.kitOne K (.type n) (.ref C) = some false
  kc : PySem.W.kitOne K (.ref ad.calm) (.ref ad.calm) = some true ∧ PySem.W.kitOne K (.ref ad.calm) (.ref ad.stray) = some false ∧ PySem.W.kitOne K (.ref ad.calm) (.ref ad.denial) = some false
  ks : PySem.W.kitOne K (.ref ad.stray) (.ref ad.calm) = some false ∧ PySem.W.kitOne K (.ref ad.stray) (.ref ad.stray) = some true ∧ PySem.W.kitOne K (.ref ad.stray) (.ref ad.denial) = some true
  kp : PySem.W.kitOne K (.ref ad.paper) (.ref ad.calm) = some false ∧ PySem.W.kitOne K (.ref ad.paper) (.ref ad.stray) = some false
  kd : PySem.W.kitOne K (.ref ad.denial) (.ref ad.calm) = some false ∧ PySem.W.kitOne K (.ref ad.denial) (.ref ad.stray) = some false

/-! ### defs and classes by their promises -/
structure Def (P : Program) (w : World) (K : PySem.W.Frag) (mg : Str → Option Value) (base : Heap) (x : Str) (k : Nat) (sp : Sp) : Prop where
  ex : ∃ f, mg x = some (.ref f) ∧ PySem.W.keepIn K (.ref f) = true ∧ FnR P w K mg base CX0 k f sp
structure Cl (P : Program) (w : World) (K : PySem.W.Frag) (mg : Str → Option Value) (base : Heap) (x : Str) (C : Addr) (k : Nat) (sp : Sp) : Prop where
  g : mg x = some (.ref C)
  ex : ∃ f, Mk K C f ∧ FnR P w K mg base CX0 k f sp
section
variable {X : Cx} {k j : Nat} {C : Addr} {x : Str} {sp : Sp} {e e2 : Expr} {es : List Expr} {t : TA} {te te2 : TE} {p pos p1 p2 : Pos} {a b : Str}
def tD (sp : Sp) (t : TA) : TE := fun σ H Q => t σ H fun vs H1 => sp vs H1 Q E0
theorem pe_callD (D : Def X.prog X.w X.K X.mg X.base x k sp) (hr : Room k X.A) (hg : Gl X x) (ha : PA X (e :: es) t) (hdb : (x == ("__debug__" : Str)) = false := by decide)
    (he : starEach (e :: es) X.env = (false, eval e X.env) :: starEach es X.env := by rfl) (hpl : (backTo pos (starEach es X.env)).any (·.1) = false := by rfl) : PE X (.Call (.Name x p) (e :: es) [] pos) (tD sp t) := by
  obtain ⟨f, hm, hk, F⟩ := D.ex
  refine ⟨fun pins s σ H Q I h => ?_⟩
  refine wpAny_Call_Name_kw (ld_glob I hg hm ?_ hdb)
  refine PySem.W.callWith_K (h₀ := X.base) I.ok.mod.kin hk (thn (ha.run pos pins s σ H _ I h) fun us s1 ⟨vs, H1, I1, r, q⟩ => ⟨I1.kIn, ?_⟩) he hpl
  exact wpAny_call (run_fnR F hr pass0 I1 r q)
/-- f(a = .., b = ..), in the parameters' order -/
structure DefK (P : Program) (w : World) (K : PySem.W.Frag) (mg : Str → Option Value) (base : Heap) (x : Str) (k : Nat) (a b : Str) (sp : Sp) : Prop where
  ex : ∃ f fd, mg x = some (.ref f) ∧ PySem.W.keepIn K (.ref f) = true ∧ FnOk P w K mg base CX0 k f fd [a, b] sp ∧ ∀ (s : Shared) (u v : Value), BindsTo s fd ⟨[], [(a, u), (b, v)]⟩ [(a, u), (b, v)]
theorem pe_callDK (D : DefK X.prog X.w X.K X.mg X.base x k a b sp) (hr : Room k X.A) (hg : Gl X x) (h1 : PE X e te) (h2 : PE X e2 te2)
    (hall : (backToKw pos (keywordEach [⟨some a, e, p1⟩, ⟨some b, e2, p2⟩] X.env)).all (·.1.isSome) = true := by rfl) (hks : (backToKw pos (keywordEach [⟨some a, e, p1⟩, ⟨some b, e2, p2⟩] X.env)).filterMap (·.1) = [a, b] := by rfl)
    (hdb : (x == ("__debug__" : Str)) = false := by decide) (hpl : ((backTo pos (starEach [] X.env)).any (·.1) || (backToKw pos (keywordEach [⟨some a, e, p1⟩, ⟨some b, e2, p2⟩] X.env)).any (·.1.isNone)) = false := by rfl) :
    PE X (.Call (.Name x p) [] [⟨some a, e, p1⟩, ⟨some b, e2, p2⟩] pos) (tD sp (tCons te (tCons te2 tNil))) := by
  obtain ⟨f, fd, hm, hk, F, hb⟩ := D.ex
  refine ⟨fun pins s σ H Q I h => ?_⟩
  refine wpAny_Call_Name_kw (ld_glob I hg hm ?_ hdb)
  refine PySem.W.callWith_KW0 (h₀ := X.base) I.ok.mod.kin hk hall ?_ hpl
  refine thn ((pk_cons h1 (pk_cons h2 pk_nil)).run pos pins s σ H _ I h) fun ws s2 ⟨zs, H2, I2, rz, q2⟩ => ⟨I2.kIn, ?_⟩
  rw [hks]
  have hl := F.len _ _ _ _ q2
  obtain ⟨y1, y2, rfl⟩ : ∃ y1 y2, zs = [y1, y2] := match zs, hl with | [y1, y2], _ => ⟨y1, y2, rfl⟩
  obtain ⟨u1, u2, rfl, r1, r2⟩ := vals2 rz
  show wpAny _ _ (call (.ref f) [] [(a, u1), (b, u2)]) _ _ _
  refine wpAny_call (codeAny_mono (F.run X.A X.stack s2 H2 ⟨[], [(a, u1), (b, u2)]⟩ [u1, u2] [y1, y2] _ E0 hr I2.env0 (hb s2 u1 u2) rz q2) fun r s' hq => ?_)
  cases r with
  | error e => exact False.elim hq
  | ok fl =>
    cases fl with
    | ret u => exact I2.after hq
    | next => exact False.elim hq
    | brk => exact False.elim hq
    | cont => exact False.elim hq
theorem pe_makeC (D : Cl X.prog X.w X.K X.mg X.base x C k sp) (hr : Room (k + 1) X.A) (hg : Gl X x) (ha : PA X (e :: es) t) (hdb : (x == ("__debug__" : Str)) = false := by decide)
    (he : starEach (e :: es) X.env = (false, eval e X.env) :: starEach es X.env := by rfl) (hpl : (backTo pos (starEach es X.env)).any (·.1) = false := by rfl) : PE X (.Call (.Name x p) (e :: es) [] pos) (StX.tMakeR C sp E0 t) := by
  obtain ⟨f, M, F⟩ := D.ex
  exact StX.pe_makeR M F hr hg D.g pass0 ha hdb he hpl
theorem pe_makeC0 (D : Cl X.prog X.w X.K X.mg X.base x C k sp) (hr : Room (k + 1) X.A) (hg : Gl X x) (hdb : (x == ("__debug__" : Str)) = false := by decide) : PE X (.Call (.Name x p) [] [] pos) (StX.tMakeR C sp E0 tNil) := by
  obtain ⟨f, M, F⟩ := D.ex
  refine ⟨fun pins s σ H Q I h => ?_⟩
  refine wpAny_Call_Name_kw (ld_glob I hg D.g ?_ hdb)
  exact PySem.W.callWith_K0 I.kIn M.kp (StX.run_makeR (us := []) M F hr pass0 I .nil h)
theorem pe_const {i : Int} (h : ∃ t, X.mg x = some (.int i t)) (hg : Gl X x := by rfl) (hd : (x == ("__debug__" : Str)) = false := by decide) : PE X (.Name x pos) (tC (.int i)) :=
  let ⟨t, h⟩ := h
  pe_glob hg h ⟨t, rfl⟩ hd
/-- two ways to walk -/
theorem pi_or {tg it : Expr} {w1 w2 : TI} (h1 : PI X tg it w1) (h2 : PI X tg it w2) : PI X tg it (fun σ H R => w1 σ H R ∨ w2 σ H R) := ⟨fun pins s σ H R I h => h.elim (h1.run pins s σ H R I) (h2.run pins s σ H R I)⟩
theorem pi_any {tg l : Expr} {tl : TE} (h : PE X l tl) : PI X tg l (fun σ H R => iList X.K tl σ H R ∨ iTup X.K tl σ H R) := pi_or (pi_list h) (pi_tup h)
theorem Fun.fnR {P : Program} {w : World} {K : PySem.W.Frag} {mg : Str → Option Value} {base : Heap} {f : Addr} {fd : FuncData} {ps : List Str} (F : FnOk P w K mg base CX0 k f fd ps sp) (hb : Binds K fd ps []) : FnR P w K mg base CX0 k f sp := by
  have := F.raw (dvs := []) hb .nil
  refine this.imp fun vs H Q E h => ?_
  rw [List.append_nil]
  exact h
end

/-! ### heaps -/
/-- all but c as it was -/
def Kx (c : Addr) (H H' : Hp) : Prop := ∀ b o, b ≠ c → H b = some o → H' b = some o
theorem kx_of {c : Addr} {H H' : Hp} (h : Same H H') : Kx c H H' := fun b o _ e => h b o e
theorem kx_trans {c : Addr} {H H1 H2 : Hp} (a : Kx c H H1) (b : Kx c H1 H2) : Kx c H H2 := fun d o n e => b d o n (a d o n e)
theorem same_new {H : Hp} {p : Addr} {o : HO} (h : H p = none) : Same H (upd H p o) := fun b u e => by
  rw [upd_ne (ne_of_none e h)]
  exact e
theorem sm_new {H H1 : Hp} {p : Addr} {o : HO} (s : Same H H1) (h : H1 p = none) : Same H (upd H1 p o) := s.trans (same_new h)
theorem sm_seqT {K : PySem.W.Frag} {H H' : Hp} {a : Addr} {xs : List V} (e : Same H H') (h : SqT K H a xs) : SqT K H' a xs := by
  rcases h with (h | ⟨o, h⟩) | h
  · exact .inl (.inl (e _ _ h))
  · exact .inl (.inr ⟨o, e _ _ h⟩)
  · exact .inr h
theorem sm_fresh {H H' : Hp} {p : Addr} (e : Same H H') (h : H' p = none) : H p = none := e.free h
/-- a write to what is new -/
theorem sm_upd {H H1 : Hp} {p : Addr} {o : HO} (s : Same H H1) (h : H p = none) : Same H (upd H1 p o) := fun b u e => by
  rw [upd_ne (ne_of_none e h)]
  exact s b u e
theorem kx_upd {c : Addr} {H : Hp} {o : HO} : Kx c H (L2.upd H c o) := fun b u n e => by
  rw [upd_ne n]
  exact e

/-! ### comprehensions that keep what stood -/
theorem lcS {J : It} {n : Nat} {G : Hp → Prop} {Y : Nat → Hp → V → Hp → Prop} (w : Walk J n G Y) {g : TG} {tt : TT} {te : TE} {vs : List Nat} {σ : L2.St} {H0 H1 : Hp} {D : Addr} {Qd : Hp → Prop} (F : Nat → List V) (hF : F 0 = []) (hz : ∀ i, i < n → (F i).length < sizeLine)
    (s1 : Same H0 H1) (hD : H1 D = none) (hG : ∀ H, Same H0 H → G H)
    (hs : ∀ i x H H' (Q1 : V → Hp → Prop) (Q0 : Hp → Prop), i < n → Same H0 H → H D = some (.lst (F i)) → Y i H x H' → (∀ y H4, Same H H4 → F (i + 1) = F i ++ [y] → Q1 y H4) → (∀ H3, Same H H3 → F (i + 1) = F i → Q0 H3) →
      g x (wipe σ vs) H' fun σ2 H2 => wipe σ2 vs = wipe σ vs ∧ tt σ2 H2 fun b H3 => if b = true then te σ2 H3 Q1 else Q0 H3)
    (hd : ∀ H, Same H0 H → H D = some (.lst (F n)) → Qd H) :
    ∃ W : Nat → Nat → Hp → Prop, (∃ m, W 0 m (upd H1 D (.lst []))) ∧ ∀ i m H, W i m H →
      (J.stop i H ∧ Qd H) ∨ (J.go i H ∧ ∃ Nx : Hp → Prop, (∀ H', Nx H' → ∃ m', m' < m ∧ W (i + 1) m' H') ∧ ∀ x H', J.yld i H x H' → g x (wipe σ vs) H' fun σ2 H2 => wipe σ2 vs = wipe σ vs ∧ tt σ2 H2 fun b H3 =>
        if b = true then te σ2 H3 fun y H4 => ∃ acc, H4 D = some (.lst acc) ∧ acc.length < sizeLine ∧ Nx (upd H4 D (.lst (acc ++ [y]))) else Nx H3) := by
  have hD0 : H0 D = none := s1.free hD
  refine lc_it w (fun i H => Same H0 H ∧ H D = some (.lst (F i))) ⟨sm_new s1 hD, by rw [upd_same, hF]⟩ (fun i H _ p => hG H p.1) (fun i x H H' hi p y => ?_) (fun H p => hd H p.1 p.2)
  refine hs i x H H' _ _ hi p.1 p.2 y (fun z H4 k e => ⟨F i, k _ _ p.2, hz i hi, sm_upd (p.1.trans k) hD0, by rw [upd_same, e]⟩) (fun H3 k e => ⟨p.1.trans k, by rw [e]; exact k _ _ p.2⟩)
section
variable {K : PySem.W.Frag} {a b : Addr} {xs ys : List V}
theorem walk_zipT {n : Nat} (hn : n = Nat.min xs.length ys.length) : Walk (RZ.ItzT K a b) n (fun H => SqT K H a xs ∧ SqT K H b ys) (YPair (fun i => xs[i]?) (fun i => ys[i]?)) := by
  have hn : n = min xs.length ys.length := hn
  subst hn
  refine ⟨fun i _ hi q => ?_, fun _ q => ⟨xs, ys, q.1, q.2, by omega⟩, fun i H v H' _ q y => ?_⟩
  · have h1 : i < xs.length := by omega
    have h2 : i < ys.length := by omega
    exact ⟨xs, ys, xs[i], ys[i], q.1, q.2, by simp [h1], by simp [h2]⟩
  · obtain ⟨T, x, z, h1, h2, h3, h4, h5⟩ := y
    exact ⟨T, x, z, h1, h2, h3, h4 xs q.1, h5 ys q.2⟩
end

/-! ### values and their kinds -/
/-- a value that is no reference -/
def leafT : V → Option String
  | .non => some "NoneType"
  | .bl _ => some "bool"
  | .int _ => some "int"
  | .str _ => some "str"
  | _ => none
theorem leaf_ty {K : PySem.W.Frag} {H : Hp} {x : V} {n : String} (h : leafT x = some n) : TyX K H x (.type n) := by
  cases x <;> first | (cases h; first | exact .base .non | exact .base (.bl _) | exact .base (.int _) | exact .base (.str _)) | cases h
theorem leaf_mem {x : V} {n : String} (h : leafT x = some n) : n ∈ ["NoneType", "bool", "int", "str", "list", "tuple"] := by
  cases x <;> first | (cases h; decide +kernel) | cases h
def isIntV : V → Bool
  | .int _ => true
  | _ => false
def isNumV : V → Bool
  | .int _ => true
  | .bl _ => true
  | _ => false
def isBlV : V → Bool
  | .bl _ => true
  | _ => false
theorem kit_int {K : PySem.W.Frag} {x : V} {n : String} (h : leafT x = some n) : PySem.W.kitOne K (.type n) (.type "int") = some (isNumV x) := by
  cases x <;> first | (cases h; first | exact kit_ty (r := true) (by decide +kernel) | exact kit_ty (r := false) (by decide +kernel)) | cases h
theorem kit_bool {K : PySem.W.Frag} {x : V} {n : String} (h : leafT x = some n) : PySem.W.kitOne K (.type n) (.type "bool") = some (isBlV x) := by
  cases x <;> first | (cases h; first | exact kit_ty (r := true) (by decide +kernel) | exact kit_ty (r := false) (by decide +kernel)) | cases h
/-- neither a list nor a tuple -/
theorem kit_lt_leaf {K : PySem.W.Frag} {x : V} {n : String} (h : leafT x = some n) : PySem.W.kitAny K (.type n) [.type "list", .type "tuple"] = some false := by
  refine kitAny_cons (b := false) ?_ (fun _ => kitAny_cons (b := false) ?_ (fun _ => kitAny_nil) (fun z => nomatch z)) (fun z => nomatch z)
  · cases x <;> first | (cases h; exact kit_ty (by decide +kernel)) | cases h
  · cases x <;> first | (cases h; exact kit_ty (by decide +kernel)) | cases h
theorem kit_lt_list {K : PySem.W.Frag} : PySem.W.kitAny K (.type "list") [.type "list", .type "tuple"] = some true :=
  kitAny_cons (b := true) (kit_ty (by decide +kernel)) (fun z => nomatch z) (fun _ => rfl)
theorem kit_lt_tuple {K : PySem.W.Frag} : PySem.W.kitAny K (.type "tuple") [.type "list", .type "tuple"] = some true :=
  kitAny_cons (b := false) (kit_ty (by decide +kernel)) (fun _ => kitAny_cons (b := true) (kit_ty (by decide +kernel)) (fun z => nomatch z) (fun _ => rfl)) (fun z => nomatch z)
theorem sqL_ty {K : PySem.W.Frag} {H : Hp} {a : Addr} {xs : List V} (h : SqL K H a xs) : TyX K H (.ref a) (.type "list") := by
  rcases h with (h | ⟨o, h⟩) | ⟨o, its, n, h, hc, _⟩
  · exact .base (.lst h)
  · exact .base (.frz h)
  · exact .kList h hc
theorem sqT_ty {K : PySem.W.Frag} {H : Hp} {a : Addr} {xs : List V} (h : SqT K H a xs) : TyX K H (.ref a) (.type "tuple") := by
  rcases h with (h | ⟨o, h⟩) | ⟨o, h⟩
  · exact .base (.tup h)
  · exact .fTuple h
  · obtain ⟨its, n, h, hc, _⟩ := h
    exact .kTuple h hc
theorem ins_ty {K : PySem.W.Frag} {mg : Str → Option Value} {ad : Ads} {H : Hp} {a C dx : Addr} {fs : List (Str × V)} (T : Txt K mg ad) (i : InsK K C) (h : H a = some (.ins C dx fs)) : TyX K H (.ref a) (.ref C) := .base (.ins h i.cl i.ha T.oget T.otk i.hm)
/-- the classes (list, tuple) -/
theorem clsLT : Paired ClsV [.ty "list", .ty "tuple"] [.type "list", .type "tuple"] := .cons (.ty "list") (.cons (.ty "tuple") .nil)
end K51
/-! K51: what each def promises. -/
namespace K51
open PySem PySem.Spec PyProof.Rows L2

def withinV (x : V) (lo : Int) (m : V) : Bool := match x with
  | .int i => decide (lo ≤ i) && (match m with | .int hi => decide (i ≤ hi) | _ => true)
  | _ => false
def sp_is_integer : Sp := fun vs H Q _ => ∃ x n, vs = [x] ∧ leafT x = some n ∧ Q (.bl (isIntV x)) H
def sp_is_within : Sp := fun vs H Q _ => ∃ x n lo m, vs = [x, .int lo, m] ∧ leafT x = some n ∧ (m = .non ∨ ∃ hi, m = .int hi) ∧ Q (.bl (withinV x lo m)) H
def sp_need_number : Sp := fun vs H Q _ => ∃ i part lo m, vs = [.int i, part, .int lo, m] ∧ (m = .non ∨ ∃ hi, m = .int hi) ∧ withinV (.int i) lo m = true ∧ Q .non H

/-! ### papers -/
/-- a text that data may hold -/
def okV : V → Bool
  | .str x => PyData.strOk x
  | _ => true
/-- leaves -/
def Lf (xs : List V) : Prop := ∀ y ∈ xs, ∃ n, leafT y = some n ∧ okV y = true
/-- a leaf (none), or a list or tuple of leaves -/
def WIn (K : PySem.W.Frag) (H : Hp) (x : V) : Option (List V) → Prop
  | none => ∃ n, leafT x = some n
  | some xs => ∃ a, x = .ref a ∧ (SqL K H a xs ∨ SqT K H a xs) ∧ Lf xs ∧ xs.length ≤ 1000
/-- the same with a tuple for a list -/
def WOut (H : Hp) (x : V) (d : Option (List V)) (y : V) : Prop := match d with
  | none => y = x
  | some xs => ∃ r, y = .ref r ∧ H r = some (.tup xs)
def sp_fixed0 : Sp := fun vs H Q _ => ∃ x n, vs = [x] ∧ leafT x = some n ∧ ∀ H', Same H H' → Q x H'
def sp_fixed1 (K : PySem.W.Frag) : Sp := fun vs H Q _ => ∃ x d, vs = [x] ∧ WIn K H x d ∧ ∀ H' y, Same H H' → WOut H' x d y → Q y H'
def sp_fixed2 (K : PySem.W.Frag) : Sp := fun vs H Q _ => ∃ (p : Addr) (ps : List (V × Option (List V))), vs = [.ref p] ∧ SqT K H p (ps.map (·.1)) ∧ (∀ q ∈ ps, WIn K H q.1 q.2) ∧ ps.length ≤ 1 ∧
  ∀ H' r (ys : List V), Same H H' → H' r = some (.tup ys) → ys.length = ps.length → (∀ (i : Nat) (q : V × Option (List V)) (y : V), ps[i]? = some q → ys[i]? = some y → WOut H' q.1 q.2 y) → Q (.ref r) H'
/-- an instance of a paper's class -/
def IsPap (ad : Ads) (H : Hp) (x : Addr) : Prop := ∃ C dx fs, (C = ad.paper ∨ C = ad.denial) ∧ H x = some (.ins C dx fs)
def IsCalm (ad : Ads) (H : Hp) (x : Addr) : Prop := ∃ dx fs, H x = some (.ins ad.calm dx fs) ∧ fs.lookup ("word" : Str) = some (.str "calm")
def IsStray (ad : Ads) (H : Hp) (x : Addr) (y : V) : Prop := ∃ dx fs, H x = some (.ins ad.stray dx fs) ∧ fs.lookup ("word" : Str) = some (.str "stray") ∧ fs.lookup ("walk" : Str) = some y
theorem IsCalm.keep {ad : Ads} {H H' : Hp} {x : Addr} (h : IsCalm ad H x) (s : Same H H') : IsCalm ad H' x := let ⟨dx, fs, h1, h2⟩ := h; ⟨dx, fs, s _ _ h1, h2⟩
theorem IsStray.keep {ad : Ads} {H H' : Hp} {x : Addr} {y : V} (h : IsStray ad H x y) (s : Same H H') : IsStray ad H' x y := let ⟨dx, fs, h1, h2⟩ := h; ⟨dx, fs, s _ _ h1, h2⟩
theorem IsPap.keep {ad : Ads} {H H' : Hp} {x : Addr} (h : IsPap ad H x) (s : Same H H') : IsPap ad H' x := let ⟨C, dx, fs, h1, h2⟩ := h; ⟨C, dx, fs, h1, s _ _ h2⟩
/-- Paper.__init__ at an instance of C -/
def sp_init (K : PySem.W.Frag) (ad : Ads) : Sp := fun vs H Q _ => ∃ (x C dx : Addr) (w : Str) (ps : List (V × Option (List V))), vs = .ref x :: .str w :: ps.map (·.1) ∧ C ∈ [ad.calm, ad.stray, ad.paper, ad.denial] ∧ H x = some (.ins C dx []) ∧ (∀ q ∈ ps, WIn K H q.1 q.2) ∧ ps.length ≤ 1 ∧
  ∀ H' r (ys : List V), Kx x H H' → H' x = some (.ins C dx [("word", .str w), ("parts", .ref r)]) → H' r = some (.tup ys) → ys.length = ps.length → (∀ (i : Nat) (q : V × Option (List V)) (y : V), ps[i]? = some q → ys[i]? = some y → WOut H' q.1 q.2 y) → Q .non H'
def sp_calm (ad : Ads) : Sp := fun vs H Q _ => ∃ (x dx : Addr), vs = [.ref x] ∧ H x = some (.ins ad.calm dx []) ∧ ∀ H', Kx x H H' → IsCalm ad H' x → Q .non H'
def sp_stray (K : PySem.W.Frag) (ad : Ads) : Sp := fun vs H Q _ => ∃ (x dx : Addr) (v : V) (d : Option (List V)), vs = [.ref x, v] ∧ H x = some (.ins ad.stray dx []) ∧ WIn K H v d ∧ ∀ H' y, Kx x H H' → IsStray ad H' x y → WOut H' v d y → Q .non H'
def sp_pap (K : PySem.W.Frag) (C : Addr) : Sp := fun vs H Q _ => ∃ (x dx : Addr) (w : Str) (ps : List (V × Option (List V))), vs = .ref x :: .str w :: ps.map (·.1) ∧ H x = some (.ins C dx []) ∧ (∀ q ∈ ps, WIn K H q.1 q.2) ∧ ps.length ≤ 1 ∧ ∀ H' fs, Kx x H H' → H' x = some (.ins C dx fs) → Q .non H'

/-! ### words and lines -/
def Cs (cs : List Int) : List V := cs.map V.int
/-- colours in a list or a tuple -/
def Col (K : PySem.W.Frag) (H : Hp) (v : V) (cs : List Int) : Prop := ∃ a, v = .ref a ∧ (SqL K H a (Cs cs) ∨ SqT K H a (Cs cs)) ∧ (∀ c ∈ cs, 0 ≤ c) ∧ cs.length ≤ 400
def sp_is_word (K : PySem.W.Frag) : Sp := fun vs H Q _ => ∃ x cs, vs = [x] ∧ Col K H x cs ∧ ∀ H', Same H H' → Q (.bl true) H'
def LeastR (cs : List Int) (H : Hp) (r : V) : Prop := (r = .non ∧ ∀ b h, ¬ Sq cs b h) ∨ ∃ (p : Addr) (b h : Nat), r = .ref p ∧ H p = some (.tup [.int b, .int h]) ∧ Sq cs b h
def sp_least_repeat (K : PySem.W.Frag) : Sp := fun vs H Q _ => ∃ (t : Addr) (cs : List Int), vs = [.ref t] ∧ SqT K H t (Cs cs) ∧ cs.length ≤ 400 ∧ ∀ H' r, Same H H' → LeastR cs H' r → Q r H'
/-- an odd number of figures 1 -/
def oddN (n : Nat) : Bool := if h : n = 0 then false else (oddN (n / 2)) != (decide (n % 2 = 1))
termination_by n
decreasing_by omega
def sp_is_odd : Sp := fun vs H Q _ => ∃ n : Nat, vs = [.int n] ∧ Q (.bl (oddN n)) H
def sp_signs : Sp := fun vs H Q _ => ∃ n : Nat, vs = [.int n] ∧ n ≤ 100 ∧ ∀ H' t ws, Same H H' → H' t = some (.tup (Cs ws)) → ws.length = n → (∀ x ∈ ws, 0 ≤ x) → Q (.ref t) H'
def sp_need_colours (K : PySem.W.Frag) : Sp := fun vs H Q _ => ∃ x cs, vs = [x] ∧ Col K H x cs ∧ ∀ H' t, Same H H' → SqT K H' t (Cs cs) → Q (.ref t) H'
/-- a walk on a line of n places -/
def GoesP (n : Int) (d : Option (List V)) : Prop := ∃ w : List Int, d = some (Cs w) ∧ w.length ≠ 0 ∧ (∀ x ∈ w, 0 ≤ x ∧ x < n) ∧ ∀ i x y, w[i]? = some x → w[i + 1]? = some y → x - y ≤ 1 ∧ y - x ≤ 1
/-- a leaf, or a tuple of leaves -/
def WTup (K : PySem.W.Frag) (H : Hp) (x : V) : Option (List V) → Prop
  | none => ∃ n, leafT x = some n
  | some xs => ∃ a, x = .ref a ∧ SqT K H a xs ∧ Lf xs ∧ xs.length ≤ 1000
theorem WTup.inn {K : PySem.W.Frag} {H : Hp} {x : V} {d : Option (List V)} (h : WTup K H x d) : WIn K H x d := by
  cases d with
  | none => exact h
  | some xs =>
    obtain ⟨a, e, h, l⟩ := h
    exact ⟨a, e, .inr h, l⟩
theorem WTup.keep {K : PySem.W.Frag} {H H' : Hp} {x : V} {d : Option (List V)} (h : WTup K H x d) (s : Same H H') : WTup K H' x d := by
  cases d with
  | none => exact h
  | some xs =>
    obtain ⟨a, e, h, l⟩ := h
    exact ⟨a, e, sm_seqT s h, l⟩
theorem WIn.keep {K : PySem.W.Frag} {H H' : Hp} {x : V} {d : Option (List V)} (h : WIn K H x d) (s : Same H H') : WIn K H' x d := by
  cases d with
  | none => exact h
  | some xs =>
    obtain ⟨a, e, h, l⟩ := h
    exact ⟨a, e, h.elim (fun h => .inl (s.seq h)) (fun h => .inr (sm_seqT s h)), l⟩
def sp_goes (K : PySem.W.Frag) : Sp := fun vs H Q _ => ∃ x d n, vs = [x, .int n] ∧ WTup K H x d ∧ 0 ≤ n ∧ ∀ H' b, Same H H' → (b = true ↔ GoesP n d) → Q (.bl b) H'
def HalvesR (xs : List V) (H : Hp) (y : V) : Prop := (y = .non ∧ (xs.length = 0 ∨ xs.length % 2 = 1)) ∨
  ∃ p a b, y = .ref p ∧ H p = some (.tup [.ref a, .ref b]) ∧ H a = some (.tup (xs.take (xs.length / 2))) ∧ H b = some (.tup (xs.drop (xs.length / 2))) ∧ xs.length ≠ 0 ∧ xs.length % 2 = 0
def sp_halves (K : PySem.W.Frag) : Sp := fun vs H Q _ => ∃ r xs, vs = [.ref r] ∧ SqT K H r xs ∧ xs.length ≤ 1000 ∧ ∀ H' y, Same H H' → HalvesR xs H' y → Q y H'
/-- the colours of places -/
def Seen (cs w : List Int) : List (Option Int) := w.map fun x => cs[x.toNat]?
def sp_alike (K : PySem.W.Frag) : Sp := fun vs H Q _ => ∃ (a b c : Addr) (u v cs : List Int), vs = [.ref a, .ref b, .ref c] ∧ SqT K H a (Cs u) ∧ SqT K H b (Cs v) ∧ SqT K H c (Cs cs) ∧ (∀ x ∈ u, 0 ≤ x ∧ x < (cs.length : Int)) ∧ (∀ x ∈ v, 0 ≤ x ∧ x < (cs.length : Int)) ∧
  u.length ≤ 1000 ∧ v.length ≤ 1000 ∧ ∀ H' k, Same H H' → (k = true ↔ Seen cs u = Seen cs v) → Q (.bl k) H'
def StrayR (cs : List Int) (H : Hp) (r : V) : Prop := (r = .non ∧ Calm cs) ∨ ∃ p w, r = .ref p ∧ H p = some (.tup (Cs w)) ∧ StrayW cs w ∧ w.length ≤ 400 ∧ ¬ Calm cs
def sp_stray_in (K : PySem.W.Frag) : Sp := fun vs H Q _ => ∃ (t : Addr) (cs : List Int), vs = [.ref t] ∧ SqT K H t (Cs cs) ∧ cs.length ≤ 400 ∧ ∀ H' r, Same H H' → StrayR cs H' r → Q r H'
/-- what judged_line gives -/
def Judged (ad : Ads) (cs : List Int) (H : Hp) (x : Addr) : Prop := (IsCalm ad H x ∧ Calm cs) ∨ ∃ r w, IsStray ad H x (.ref r) ∧ H r = some (.tup (Cs w)) ∧ StrayW cs w ∧ w.length ≤ 400 ∧ ¬ Calm cs
theorem Judged.keep {ad : Ads} {cs : List Int} {H H' : Hp} {x : Addr} (h : Judged ad cs H x) (s : Same H H') : Judged ad cs H' x := by
  rcases h with ⟨h, c⟩ | ⟨r, w, h, h2, c⟩
  · exact .inl ⟨h.keep s, c⟩
  · exact .inr ⟨r, w, h.keep s, s _ _ h2, c⟩
def sp_judged (K : PySem.W.Frag) (ad : Ads) : Sp := fun vs H Q _ => ∃ x cs, vs = [x] ∧ Col K H x cs ∧ ∀ H' r, Same H H' → Judged ad cs H' r → Q (.ref r) H'
/-- what may be shown -/
inductive Shown where
  | calm | stray (d : Option (List V)) | other
def ShownAt (K : PySem.W.Frag) (ad : Ads) (H : Hp) (v : V) : Shown → Prop
  | .calm => ∃ x, v = .ref x ∧ IsCalm ad H x
  | .stray d => ∃ x y, v = .ref x ∧ IsStray ad H x y ∧ WTup K H y d
  | .other => (∃ n, leafT v = some n) ∨ (∃ x, v = .ref x ∧ IsPap ad H x) ∨ ∃ x xs, v = .ref x ∧ SqT K H x xs
def ShownP (cs : List Int) : Shown → Prop
  | .calm => Calm cs
  | .stray d => ∃ w, d = some (Cs w) ∧ StrayW cs w
  | .other => False
def sp_shows (K : PySem.W.Frag) (ad : Ads) : Sp := fun vs H Q _ => ∃ x cs v sh, vs = [x, v] ∧ Col K H x cs ∧ ShownAt K ad H v sh ∧ ∀ H' b, Same H H' → (b = true ↔ ShownP cs sh) → Q (.bl b) H'

/-! ### the law's own -/
def CordAt (H : Hp) (c : Addr) (t : Int) : Prop := ∃ (a : Addr) (cells : List Int) (turn left : Int), H c = some (.lst [.ref a, .int turn, .int left]) ∧ H a = some (.lst (Cs cells)) ∧ cells.length ≤ 61 ∧ 0 ≤ turn ∧ turn ≤ t
def sp_cord (K : PySem.W.Frag) : Sp := fun vs H Q _ => ∃ (a : Addr) (ns : List Int), vs = [.ref a] ∧ SqL K H a (Cs ns) ∧ ns.length ≤ 63 ∧ ∀ H' c, Same H H' → H c = none → CordAt H' c 0 → Q (.ref c) H'
def sp_ply : Sp := fun vs H Q _ => ∃ c m t, vs = [.ref c, .int m] ∧ CordAt H c t ∧ t ≤ 1000 ∧ 1 ≤ m ∧ m ≤ 1000 ∧ ∀ H' v, Kx c H H' → CordAt H' c (t + 1) → 0 ≤ v → v < m → Q (.int v) H'
def sp_pick (K : PySem.W.Frag) : Sp := fun vs H Q _ => ∃ c s ns t, vs = [.ref c, .ref s] ∧ CordAt H c t ∧ H s = some (.lst (Cs ns)) ∧ t ≤ 1000 ∧ 1 ≤ ns.length ∧ ns.length ≤ 1000 ∧ ∀ H' v, Kx c H H' → CordAt H' c (t + 1) → v ∈ ns → Q (.int v) H'
def sp_drawn : Sp := fun vs H Q _ => ∃ c t, vs = [.ref c] ∧ CordAt H c t ∧ t ≤ 500 ∧ ∀ H' r cs, Kx c H H' → CordAt H' c (t + 30) → H' r = some (.lst (Cs cs)) → cs.length ≤ 10 → (∀ x ∈ cs, 0 ≤ x) → Q (.ref r) H'
def sp_lstray (K : PySem.W.Frag) : Sp := fun vs H Q _ => ∃ (r : Addr) (cs : List Int), vs = [.ref r] ∧ SqL K H r (Cs cs) ∧ cs.length ≤ 10 ∧ ∀ H' b, Same H H' → (b = true ↔ ¬ Calm cs) → Q (.bl b) H'
def sp_lcalm (K : PySem.W.Frag) : Sp := fun vs H Q _ => ∃ (r : Addr) (cs : List Int), vs = [.ref r] ∧ SqL K H r (Cs cs) ∧ cs.length ≤ 400 ∧ ∀ H' b, Same H H' → (b = true ↔ Calm cs) → Q (.bl b) H'
def sp_lis (K : PySem.W.Frag) : Sp := fun vs H Q _ => ∃ (r : Addr) (cs : List Int) (v : V) (d : Option (List V)), vs = [.ref r, v] ∧ SqL K H r (Cs cs) ∧ cs.length ≤ 400 ∧ WIn K H v d ∧ ∀ H' b, Same H H' → (b = true ↔ ∃ w, d = some (Cs w) ∧ StrayW cs w) → Q (.bl b) H'
def sp_bent (K : PySem.W.Frag) (ad : Ads) : Sp := fun vs H Q _ => ∃ (c r x : Addr) (cs : List Int) (t : Int), vs = [.ref c, .ref r, .ref x] ∧ CordAt H c t ∧ t ≤ 900 ∧ SqL K H r (Cs cs) ∧ cs.length ≤ 10 ∧ Judged ad cs H x ∧
  ∀ H' l (xs : List Addr), Kx c H H' → CordAt H' c (t + 5) → H' l = some (.lst (xs.map V.ref)) → xs.length ≤ 100 → (∀ x ∈ xs, ∃ y d, IsStray ad H' x y ∧ WTup K H' y d) → Q (.ref l) H'
def sp_long : Sp := fun vs H Q _ => ∃ c t, vs = [.ref c] ∧ CordAt H c t ∧ t ≤ 900 ∧ ∀ H', Q (.bl true) H'
def sp_law (K : PySem.W.Frag) : Sp := fun vs H Q _ => ∃ (a : Addr) (ns : List Int), vs = [.ref a] ∧ SqL K H a (Cs ns) ∧ ns.length ≤ 63 ∧ ∀ H', Q (.bl true) H'
end K51
/-! K51: integers, lots; papers. -/
namespace K51
open PySem PySem.Spec PyProof.Rows L2

abbrev s_is_integer : Stmt := topS 6
abbrev N_is_integer : List Str := ["value"]
theorem sc_is_integer : FnScope N_is_integer ["value"] (defScope s_is_integer) := ⟨rfl, rfl, rfl, by decide +kernel, rfl, by decide +kernel, by decide +kernel⟩

abbrev s_is_within : Stmt := topS 7
abbrev N_is_within : List Str := ["value", "least", "most"]
theorem sc_is_within : FnScope N_is_within ["value", "least", "most"] (defScope s_is_within) := ⟨rfl, rfl, rfl, by decide +kernel, rfl, by decide +kernel, by decide +kernel⟩

abbrev s_need_number : Stmt := topS 8
abbrev N_need_number : List Str := ["value", "part", "least", "most"]
theorem sc_need_number : FnScope N_need_number ["value", "part", "least", "most"] (defScope s_need_number) := ⟨rfl, rfl, rfl, by decide +kernel, rfl, by decide +kernel, by decide +kernel⟩

abbrev s_fixed : Stmt := topS 10
abbrev N_fixed : List Str := ["value", "each"]
theorem sc_fixed : FnScope N_fixed ["value"] (defScope s_fixed) := ⟨rfl, rfl, rfl, by decide +kernel, rfl, by decide +kernel, by decide +kernel⟩

section
variable {P : Program} {w : World} {K : PySem.W.Frag} {mg : Str → Option Value} {base : Heap} {ad : Ads} {f : Addr} {fd : FuncData}
theorem ok_is_integer (F : Fun K "is_integer" "is_integer" s_is_integer f fd) (T : Txt K mg ad) : FnOk P w K mg base CX0 1 f fd ["value"] sp_is_integer := by
  refine F.ok sc_is_integer (fun vs H Q E h => ?_) (fun cdv A outer s H vs Q E hr h => ?_)
  · obtain ⟨x, n, rfl, _⟩ := h
    rfl
  · obtain ⟨x, n, rfl, hx, q⟩ := h
    refine ⟨_, ((pss_one (ps_ret (pe_and (pe_callB call_isi (by rfl) T.isinstance (by decide +kernel) (pa_cons (pv 0) (pa_cons (pe_bltn (v := .ty "int") (by rfl) T.int (by decide +kernel) rfl) pa_nil))) (pe_one (pe_not (pe_callB call_isi (by rfl) T.isinstance (by decide +kernel) (pa_cons (pv 0) (pa_cons (pe_bltn (v := .ty "bool") (by rfl) T.bool (by decide +kernel) rfl) pa_nil))))))))), ?_⟩
    refine ⟨_, rfl, x, .ty "int", .type n, .type "int", isNumV x, rfl, .ty "int", leaf_ty hx, kit_int hx, isNumV x, rfl, ?_⟩
    refine ite2 (fun hn => ?_) (fun hn => ?_)
    · refine ⟨_, rfl, x, .ty "bool", .type n, .type "bool", isBlV x, rfl, .ty "bool", leaf_ty hx, kit_bool hx, isBlV x, rfl, ?_⟩
      show Q (.bl (!isBlV x)) H
      have e : isIntV x = !isBlV x := by cases x <;> first | rfl | cases hn
      rw [← e]
      exact q
    · show Q (.bl false) H
      have e : isIntV x = false := by cases x <;> first | rfl | exact absurd rfl hn
      rw [← e]
      exact q
theorem ok_is_within (F : Fun K "is_within" "is_within" s_is_within f fd) (T : Txt K mg ad) (d_is_integer : Def P w K mg base "is_integer" 1 sp_is_integer) : FnOk P w K mg base CX0 2 f fd ["value", "least", "most"] sp_is_within := by
  refine F.ok sc_is_within (fun vs H Q E h => ?_) (fun cdv A outer s H vs Q E hr h => ?_)
  · obtain ⟨x, n, lo, m, rfl, _⟩ := h
    rfl
  · obtain ⟨x, n, lo, m, rfl, hx, hm, q⟩ := h
    refine ⟨_, ((pss_cons (ps_if (pt_not (pt_val (pe_callD d_is_integer (hr.mono (by decide)) (by rfl) (pa_cons (pv 0) pa_nil)))) (pss_one (ps_ret pe_bl)) pss_nil)
      (pss_one (ps_ret (pe_and (pe_or (pe_cmpR op_isN (pv 1) pe_non (nomark _)) (pe_one (pe_cmpR op_le (pv 1) (pv 0) (nomark _)))) (pe_one (pe_or (pe_cmpR op_isN (pv 2) pe_non (nomark _)) (pe_one (pe_cmpR op_le (pv 0) (pv 2) (nomark _)))))))))), ?_⟩
    refine ⟨_, rfl, x, n, rfl, hx, isIntV x, rfl, ?_⟩
    cases x with
    | int i =>
      refine iteF ?_
      refine ⟨_, rfl, rfl, false, rfl, iteF ⟨_, rfl, _, rfl, lo, i, rfl, rfl, _, rfl, ?_⟩⟩
      refine ite2 (fun hn => ?_) (fun hn => ?_)
      · rcases hm with rfl | ⟨hi, rfl⟩
        · refine ⟨_, rfl, rfl, true, rfl, iteT ?_⟩
          have e : withinV (.int i) lo .non = true := by simp only [withinV, hn]; rfl
          rw [e] at q
          exact q
        · refine ⟨_, rfl, rfl, false, rfl, iteF ⟨_, rfl, _, rfl, i, hi, rfl, rfl, ?_⟩⟩
          have e : withinV (.int i) lo (.int hi) = decide (i ≤ hi) := by simp only [withinV, hn, Bool.true_and]
          rw [e] at q
          exact q
      · have e : withinV (.int i) lo m = false := by simp only [withinV, Bool.not_eq_true] at hn ⊢; rw [hn]; rfl
        rw [e] at q
        exact q
    | _ => exact iteT q
theorem ok_need_number (F : Fun K "need_number" "need_number" s_need_number f fd) (T : Txt K mg ad) (d_is_within : Def P w K mg base "is_within" 2 sp_is_within) : FnOk P w K mg base CX0 3 f fd ["value", "part", "least", "most"] sp_need_number := by
  refine F.ok sc_need_number (fun vs H Q E h => ?_) (fun cdv A outer s H vs Q E hr h => ?_)
  · obtain ⟨x, part, lo, m, rfl, _⟩ := h
    rfl
  · obtain ⟨x, part, lo, m, rfl, hm, hw, q⟩ := h
    refine ⟨_, ((pss_one (ps_if (pt_not (pt_val (pe_callD d_is_within (hr.mono (by decide)) (by rfl) (pa_cons (pv 0) (pa_cons (pv 2) (pa_cons (pv 3) pa_nil)))))) (pss_one ps_never) pss_nil))), ?_⟩
    refine ⟨_, rfl, _, rfl, _, rfl, .int x, "int", lo, m, rfl, rfl, hm, _, rfl, ?_⟩
    rw [hw]
    exact iteF q
end
end K51
/-! K51: fixed. -/
namespace K51
open PySem PySem.Spec PyProof.Rows L2

theorem tk {α : Type} {xs : List α} {i : Nat} {x : α} (h : xs[i]? = some x) : xs.take (i + 1) = xs.take i ++ [x] := by
  rw [List.take_add_one, h]
  rfl
theorem small_lt {n : Nat} (h : n ≤ 1000) : n < sizeLine := Nat.lt_of_le_of_lt h (by decide)
/-- comprehensions that keep what stood, the list by a relation -/
theorem lcR {J : It} {n : Nat} {G : Hp → Prop} {Y : Nat → Hp → V → Hp → Prop} (w : Walk J n G Y) {g : TG} {tt : TT} {te : TE} {vs : List Nat} {σ : L2.St} {H0 H1 : Hp} {D : Addr} {Qd : Hp → Prop} (R : Nat → Hp → List V → Prop)
    (s1 : Same H0 H1) (hD : H1 D = none) (h0 : R 0 (upd H1 D (.lst [])) []) (hz : ∀ i H ys, i < n → R i H ys → ys.length < sizeLine) (mono : ∀ i H H' ys zs, R i H ys → H D = some (.lst zs) → Kx D H H' → R i H' ys) (hG : ∀ H, Same H0 H → G H)
    (hs : ∀ i x H H' ys (Q1 : V → Hp → Prop) (Q0 : Hp → Prop), i < n → Same H0 H → H D = some (.lst ys) → R i H ys → Y i H x H' → (∀ y H4, Same H H4 → R (i + 1) H4 (ys ++ [y]) → Q1 y H4) → (∀ H3, Same H H3 → R (i + 1) H3 ys → Q0 H3) →
      g x (wipe σ vs) H' fun σ2 H2 => wipe σ2 vs = wipe σ vs ∧ tt σ2 H2 fun b H3 => if b = true then te σ2 H3 Q1 else Q0 H3)
    (hd : ∀ H ys, Same H0 H → H D = some (.lst ys) → R n H ys → Qd H) :
    ∃ W : Nat → Nat → Hp → Prop, (∃ m, W 0 m (upd H1 D (.lst []))) ∧ ∀ i m H, W i m H →
      (J.stop i H ∧ Qd H) ∨ (J.go i H ∧ ∃ Nx : Hp → Prop, (∀ H', Nx H' → ∃ m', m' < m ∧ W (i + 1) m' H') ∧ ∀ x H', J.yld i H x H' → g x (wipe σ vs) H' fun σ2 H2 => wipe σ2 vs = wipe σ vs ∧ tt σ2 H2 fun b H3 =>
        if b = true then te σ2 H3 fun y H4 => ∃ acc, H4 D = some (.lst acc) ∧ acc.length < sizeLine ∧ Nx (upd H4 D (.lst (acc ++ [y]))) else Nx H3) := by
  have hD0 : H0 D = none := s1.free hD
  refine lc_it w (fun i H => Same H0 H ∧ ∃ ys, H D = some (.lst ys) ∧ R i H ys) ⟨sm_new s1 hD, [], upd_same, h0⟩ (fun i H _ p => hG H p.1) (fun i x H H' hi p y => ?_) (fun H p => let ⟨ys, a, b⟩ := p.2; hd H ys p.1 a b)
  obtain ⟨p1, ys, p2, p3⟩ := p
  refine hs i x H H' ys _ _ hi p1 p2 p3 y (fun z H4 k r => ⟨ys, k _ _ p2, hz i H ys hi p3, sm_upd (p1.trans k) hD0, ys ++ [z], upd_same, mono _ _ _ _ ys r (k _ _ p2) kx_upd⟩) (fun H3 k r => ⟨p1.trans k, ys, k _ _ p2, r⟩)
theorem lcY {te : TE} {σ : L2.St} {H : Hp} {Q1 : V → Hp → Prop} {Q0 : Hp → Prop} (h : te σ H Q1) : tYes σ H (fun b H3 => if b = true then te σ H3 Q1 else Q0 H3) := by
  show (if true = true then te σ H Q1 else Q0 H)
  rw [if_pos rfl]
  exact h
theorem pe_never {X : Cx} {e : Expr} : PE X e (fun _ _ _ => False) := ⟨fun _ _ _ _ _ _ h => h.elim⟩
theorem WOut.keep {H H' : Hp} {x y : V} {d : Option (List V)} (h : WOut H x d y) (s : Same H H') : WOut H' x d y := by
  cases d with
  | none => exact h
  | some xs =>
    obtain ⟨r, e, h⟩ := h
    exact ⟨r, e, s _ _ h⟩
theorem WOut.keepX {H H' : Hp} {x y : V} {d : Option (List V)} {D : Addr} {zs : List V} (h : WOut H x d y) (hD : H D = some (.lst zs)) (s : Kx D H H') : WOut H' x d y := by
  cases d with
  | none => exact h
  | some xs =>
    obtain ⟨r, e, h⟩ := h
    exact ⟨r, e, s _ _ (ne_of h hD (fun z => nomatch z)) h⟩

section
variable {P : Program} {w : World} {K : PySem.W.Frag} {mg : Str → Option Value} {base : Heap} {ad : Ads} {f : Addr} {fd : FuncData}
theorem ok_fixed0 (F : Fun K "fixed" "fixed" s_fixed f fd) (T : Txt K mg ad) : FnOk P w K mg base CX0 1 f fd ["value"] sp_fixed0 := by
  refine F.ok sc_fixed (fun vs H Q E h => ?_) (fun cdv A outer s H vs Q E hr h => ?_)
  · obtain ⟨x, n, rfl, _⟩ := h
    rfl
  · obtain ⟨x, n, rfl, hx, q⟩ := h
    refine ⟨_, (pss_one (ps_ret (pe_ifExp (pt_val (pe_callB call_isiT (by rfl) T.isinstance (by decide +kernel) (pa_cons (pv 0) (pa_cons (pe_tup (pa_cons (pe_bltn (v := .ty "list") (by rfl) T.list (by decide +kernel) rfl) (pa_cons (pe_bltn (v := .ty "tuple") (by rfl) T.tuple (by decide +kernel) rfl) pa_nil))) pa_nil)))) pe_never (pv 0)))), ?_⟩
    refine ⟨_, rfl, (by show 2 ≤ sizeLine; decide), fun p hp => ⟨x, p, _, _, _, _, rfl, upd_same, clsLT, leaf_ty hx, kit_lt_leaf hx, _, rfl, ?_⟩⟩
    exact iteF ⟨_, rfl, q _ (same_new hp)⟩
theorem ok_fixed1 (F : Fun K "fixed" "fixed" s_fixed f fd) (T : Txt K mg ad) (d_fixed : Def P w K mg base "fixed" 1 sp_fixed0) : FnOk P w K mg base CX0 2 f fd ["value"] (sp_fixed1 K) := by
  refine F.ok sc_fixed (fun vs H Q E h => ?_) (fun cdv A outer s H vs Q E hr h => ?_)
  · obtain ⟨x, d, rfl, _⟩ := h
    rfl
  · obtain ⟨x, d, rfl, hx, q⟩ := h
    refine ⟨_, ((pss_one (ps_ret (pe_ifExp (pt_val (pe_callB call_isiT (by rfl) T.isinstance (by decide +kernel) (pa_cons (pv 0) (pa_cons (pe_tup (pa_cons (pe_bltn (v := .ty "list") (by rfl) T.list (by decide +kernel) rfl) (pa_cons (pe_bltn (v := .ty "tuple") (by rfl) T.tuple (by decide +kernel) rfl) pa_nil))) pa_nil)))) (pe_callTy call_tuple_of (by rfl) T.tuple (by decide +kernel) (pa_cons (pe_lc (own := [("each", 1)]) rfl sc_fixed.nd (pi_any (pv 0)) (blkOk_by (N := N_fixed) (sc := defScope s_fixed) (by decide +kernel)) (fun _ _ _ _ _ => pg_name (i := 1) sc_fixed.nd rfl (Or.inl rfl)) (fun _ _ _ _ _ => pts_nil) (fun _ _ _ _ _ => (pe_callD d_fixed (hr.mono (by decide)) (by rfl) (pa_cons (pv 1) pa_nil)))) pa_nil)) (pv 0))))), ?_⟩
    refine ⟨_, rfl, (by show 2 ≤ sizeLine; decide), fun p hp => ?_⟩
    have s1 := same_new (o := .tup [V.ty "list", V.ty "tuple"]) hp
    cases d with
    | none =>
      obtain ⟨n, hx⟩ := hx
      exact ⟨x, p, _, _, _, _, rfl, upd_same, clsLT, leaf_ty hx, kit_lt_leaf hx, _, rfl, iteF ⟨_, rfl, q _ _ s1 rfl⟩⟩
    | some xs =>
      obtain ⟨a, rfl, hS, hl, hz⟩ := hx
      have turn : ∀ (D : Addr) (σ : L2.St) (i : Nat) (x : V) (Hi H' : Hp) (Q1 : V → Hp → Prop) (Q0 : Hp → Prop), i < xs.length → σ = [some (V.ref a), none] → YAt xs i Hi x H' → (∀ y H4, Same Hi H4 → xs.take (i + 1) = xs.take i ++ [y] → Q1 y H4) →
          gName 1 x (wipe σ [1]) H' fun σ2 H2 => wipe σ2 [1] = wipe σ [1] ∧ tYes σ2 H2 fun b H3 => if b = true then tD sp_fixed0 (tCons (tVar 1) tNil) σ2 H3 Q1 else Q0 H3 := by
        rintro D σ i y Hi H' Q1 Q0 hi rfl ⟨rfl, hy⟩ k1
        obtain ⟨n, hn, _⟩ := hl y (List.mem_of_getElem? hy)
        exact ⟨rfl, lcY ⟨_, rfl, y, n, rfl, hn, fun H4 s4 => k1 _ _ s4 (tk hy)⟩⟩
      have fin : ∀ (D : Addr) (Hd : Hp), Same H Hd → Hd D = some (.lst (xs.take xs.length)) → (∃ p ys, [V.ref D] = [V.ref p] ∧ ((SqL K Hd p ys ∧ ∀ l, Hd l = none → Q (.ref l) (upd Hd l (.tup ys))) ∨ (SqT K Hd p ys ∧ Q (.ref p) Hd))) := by
        intro D Hd sd hD
        rw [List.take_length] at hD
        exact ⟨D, xs, rfl, .inl ⟨SqL.of hD, fun l hl => q _ _ (sm_new sd hl) ⟨l, rfl, upd_same⟩⟩⟩
      rcases hS with hS | hS
      · refine ⟨.ref a, p, _, _, _, _, rfl, upd_same, clsLT, sqL_ty (s1.seq hS), kit_lt_list, _, rfl, iteT ?_⟩
        refine .inl ⟨_, rfl, a, rfl, ⟨xs, s1.seq hS⟩, fun D hD => ?_⟩
        refine lcS (w := walk_list (K := K) (a := a) (xs := xs)) (H0 := H) (fun i => xs.take i) rfl (fun i hi => small_lt (by rw [List.length_take]; omega)) s1 hD (fun Hh s => s.seq hS) (fun i x Hi H' Q1 Q0 hi sH hDi y k1 k0 => turn D _ i x Hi H' Q1 Q0 hi rfl y k1) (fun Hd sd hD => fin D Hd sd hD)
      · refine ⟨.ref a, p, _, _, _, _, rfl, upd_same, clsLT, sqT_ty (sm_seqT s1 hS), kit_lt_tuple, _, rfl, iteT ?_⟩
        refine .inr ⟨_, rfl, a, rfl, ⟨xs, sm_seqT s1 hS⟩, fun D hD => ?_⟩
        refine lcS (w := walk_tup (K := K) (a := a) (xs := xs)) (H0 := H) (fun i => xs.take i) rfl (fun i hi => small_lt (by rw [List.length_take]; omega)) s1 hD (fun Hh s => sm_seqT s hS) (fun i x Hi H' Q1 Q0 hi sH hDi y k1 k0 => turn D _ i x Hi H' Q1 Q0 hi rfl y k1) (fun Hd sd hD => fin D Hd sd hD)
theorem ok_fixed2 (F : Fun K "fixed" "fixed" s_fixed f fd) (T : Txt K mg ad) (d_fixed : Def P w K mg base "fixed" 2 (sp_fixed1 K)) : FnOk P w K mg base CX0 3 f fd ["value"] (sp_fixed2 K) := by
  refine F.ok sc_fixed (fun vs H Q E h => ?_) (fun cdv A outer s H vs Q E hr h => ?_)
  · obtain ⟨p, ps, rfl, _⟩ := h
    rfl
  · obtain ⟨a, ps, rfl, hS, hi, hz, q⟩ := h
    refine ⟨_, ((pss_one (ps_ret (pe_ifExp (pt_val (pe_callB call_isiT (by rfl) T.isinstance (by decide +kernel) (pa_cons (pv 0) (pa_cons (pe_tup (pa_cons (pe_bltn (v := .ty "list") (by rfl) T.list (by decide +kernel) rfl) (pa_cons (pe_bltn (v := .ty "tuple") (by rfl) T.tuple (by decide +kernel) rfl) pa_nil))) pa_nil)))) (pe_callTy call_tuple_of (by rfl) T.tuple (by decide +kernel) (pa_cons (pe_lc (own := [("each", 1)]) rfl sc_fixed.nd (pi_any (pv 0)) (blkOk_by (N := N_fixed) (sc := defScope s_fixed) (by decide +kernel)) (fun _ _ _ _ _ => pg_name (i := 1) sc_fixed.nd rfl (Or.inl rfl)) (fun _ _ _ _ _ => pts_nil) (fun _ _ _ _ _ => (pe_callD d_fixed (hr.mono (by decide)) (by rfl) (pa_cons (pv 1) pa_nil)))) pa_nil)) (pv 0))))), ?_⟩
    refine ⟨_, rfl, (by show 2 ≤ sizeLine; decide), fun p hp => ?_⟩
    have s1 := same_new (o := .tup [V.ty "list", V.ty "tuple"]) hp
    refine ⟨.ref a, p, _, _, _, _, rfl, upd_same, clsLT, sqT_ty (sm_seqT s1 hS), kit_lt_tuple, _, rfl, iteT ?_⟩
    refine .inr ⟨_, rfl, a, rfl, ⟨_, sm_seqT s1 hS⟩, fun D hD => ?_⟩
    refine lcR (w := walk_tup (K := K) (a := a) (xs := ps.map (·.1))) (H0 := H) (fun i H ys => ys.length = i ∧ ∀ (j : Nat) (q : V × Option (List V)) (y : V), ps[j]? = some q → ys[j]? = some y → WOut H q.1 q.2 y) s1 hD ⟨rfl, fun j q y _ h => nomatch h⟩
      (fun i H ys hi r => small_lt (by rw [List.length_map] at hi; omega)) (fun i H H' ys zs r hD k => ⟨r.1, fun j q y h1 h2 => (r.2 j q y h1 h2).keepX hD k⟩) (fun Hh s => sm_seqT s hS) ?_ ?_
    · rintro i x Hi H' ys Q1 Q0 hn sH hDi ⟨hl, hr⟩ ⟨rfl, hy⟩ k1 k0
      rw [List.getElem?_map] at hy
      cases e : ps[i]? with
      | none =>
        rw [e] at hy
        cases hy
      | some q0 =>
        rw [e] at hy
        cases hy
        refine ⟨rfl, lcY ⟨_, rfl, q0.1, q0.2, rfl, (hi q0 (List.mem_of_getElem? e)).keep sH, fun H4 y s4 wo => k1 _ _ s4 ⟨by rw [List.length_append, hl]; rfl, fun j q' y' h1 h2 => ?_⟩⟩⟩
        by_cases hj : j < ys.length
        · rw [List.getElem?_append_left hj] at h2
          exact (hr j q' y' h1 h2).keep s4
        · rw [List.getElem?_append_right (by omega)] at h2
          have hj2 : j = i := by
            have := (List.getElem?_eq_some_iff.mp h2).1
            rw [List.length_singleton] at this
            omega
          subst hj2
          rw [e] at h1
          cases h1
          rw [hl, Nat.sub_self] at h2
          cases h2
          exact wo
    · rintro Hd ys sd hDd ⟨hl, hr⟩
      rw [List.length_map] at hl
      exact ⟨D, ys, rfl, .inl ⟨SqL.of hDd, fun l hl' => q _ _ _ (sm_new sd hl') upd_same hl fun i q0 y h1 h2 => (hr i q0 y h1 h2).keep (same_new hl')⟩⟩
end
end K51
/-! K51: the papers' classes. -/
namespace K51
open PySem PySem.Spec PyProof.Rows L2

abbrev sPaperInit : Stmt := inClass (topS 11) 0
abbrev N_PaperInit : List Str := ["self", "word", "parts"]
theorem sc_PaperInit : FnScope N_PaperInit ["self", "word", "parts"] (defScope sPaperInit) := ⟨rfl, rfl, rfl, by decide +kernel, rfl, by decide +kernel, by decide +kernel⟩

abbrev sPaperBool : Stmt := inClass (topS 11) 1
abbrev N_PaperBool : List Str := ["self"]
theorem sc_PaperBool : FnScope N_PaperBool ["self"] (defScope sPaperBool) := ⟨rfl, rfl, rfl, by decide +kernel, rfl, by decide +kernel, by decide +kernel⟩

abbrev sDenialBool : Stmt := inClass (topS 12) 0
abbrev N_DenialBool : List Str := ["self"]
theorem sc_DenialBool : FnScope N_DenialBool ["self"] (defScope sDenialBool) := ⟨rfl, rfl, rfl, by decide +kernel, rfl, by decide +kernel, by decide +kernel⟩

abbrev sCalmInit : Stmt := inClass (topS 25) 0
abbrev sStrayInit : Stmt := inClass (topS 26) 0

section
variable {P : Program} {w : World} {K : PySem.W.Frag} {mg : Str → Option Value} {base : Heap} {ad : Ads} {f : Addr} {fd : FuncData}
theorem ok_boolP (F : Fun K "__bool__" "Paper.__bool__" sPaperBool f fd) : FnOk P w K mg base CX0 1 f fd ["self"] (spCon true) := by
  refine F.ok sc_PaperBool (fun vs H Q E h => ?_) (fun cdv A outer s H vs Q E hr h => ?_)
  · obtain ⟨x, rfl, _⟩ := h
    rfl
  · obtain ⟨x, rfl, q⟩ := h
    exact ⟨_, ((pss_one (ps_ret pe_bl))), q⟩
theorem ok_boolD (F : Fun K "__bool__" "Denial.__bool__" sDenialBool f fd) : FnOk P w K mg base CX0 1 f fd ["self"] (spCon false) := by
  refine F.ok sc_DenialBool (fun vs H Q E h => ?_) (fun cdv A outer s H vs Q E hr h => ?_)
  · obtain ⟨x, rfl, _⟩ := h
    rfl
  · obtain ⟨x, rfl, q⟩ := h
    exact ⟨_, ((pss_one (ps_ret pe_bl))), q⟩
def sp_initB (K : PySem.W.Frag) (ad : Ads) : Sp := fun vs H Q _ => ∃ (x C dx p : Addr) (w : Str) (ps : List (V × Option (List V))), vs = [.ref x, .str w, .ref p] ∧ C ∈ [ad.calm, ad.stray, ad.paper, ad.denial] ∧ H x = some (.ins C dx []) ∧ H p = some (.tup (ps.map (·.1))) ∧ (∀ q ∈ ps, WIn K H q.1 q.2) ∧ ps.length ≤ 1 ∧
  ∀ H' r (ys : List V), Kx x H H' → H' x = some (.ins C dx [("word", .str w), ("parts", .ref r)]) → H' r = some (.tup ys) → ys.length = ps.length → (∀ (i : Nat) (q : V × Option (List V)) (y : V), ps[i]? = some q → ys[i]? = some y → WOut H' q.1 q.2 y) → Q .non H'
theorem WIn.keepX {K : PySem.W.Frag} {H H' : Hp} {x : V} {d : Option (List V)} {D C dx : Addr} {fs : List (Str × V)} (h : WIn K H x d) (hD : H D = some (.ins C dx fs)) (s : Kx D H H') : WIn K H' x d := by
  cases d with
  | none => exact h
  | some xs =>
    obtain ⟨a, e, h, l⟩ := h
    refine ⟨a, e, h.elim (fun h => .inl ?_) (fun h => .inr ?_), l⟩
    · rcases h with (h | ⟨o, h⟩) | h
      · exact .inl (.inl (s _ _ (ne_of h hD (fun z => nomatch z)) h))
      · exact .inl (.inr ⟨o, s _ _ (ne_of h hD (fun z => nomatch z)) h⟩)
      · exact .inr h
    · rcases h with (h | ⟨o, h⟩) | h
      · exact .inl (.inl (s _ _ (ne_of h hD (fun z => nomatch z)) h))
      · exact .inl (.inr ⟨o, s _ _ (ne_of h hD (fun z => nomatch z)) h⟩)
      · exact .inr h
theorem WOut.keepI {H H' : Hp} {x y : V} {d : Option (List V)} {D C dx : Addr} {fs : List (Str × V)} (h : WOut H x d y) (hD : H D = some (.ins C dx fs)) (s : Kx D H H') : WOut H' x d y := by
  cases d with
  | none => exact h
  | some xs =>
    obtain ⟨r, e, h⟩ := h
    exact ⟨r, e, s _ _ (ne_of h hD (fun z => nomatch z)) h⟩
theorem Txt.cl4 (T : Txt K mg ad) {C : Addr} (h : C ∈ [ad.calm, ad.stray, ad.paper, ad.denial]) : Cls K C := by
  simp only [List.mem_cons, List.not_mem_nil, or_false] at h
  rcases h with rfl | rfl | rfl | rfl
  · exact T.iCalm.cl
  · exact T.iStray.cl
  · exact T.iPaper.cl
  · exact T.iDenial.cl
theorem putF_word (w : Str) : putF "word" (.str w) [] = [(("word" : Str), V.str w)] := by rfl
theorem putF_parts (w : Str) (r : Addr) : putF "parts" (.ref r) [(("word" : Str), V.str w)] = [(("word" : Str), V.str w), (("parts" : Str), V.ref r)] := by
  have e : (("word" : Str) = ("parts" : Str)) = False := by simp only [eq_iff_iff, iff_false]; decide +kernel
  simp [putF, e]
theorem ok_init (F : Fun K "__init__" "Paper.__init__" sPaperInit f fd) (T : Txt K mg ad) (d_fixed : Def P w K mg base "fixed" 3 (sp_fixed2 K))
    (h0 : ∀ (kV doc pm : Value) (an : Option Addr) (cdv ct : Value) (a b : Value), bindArgs (PySem.W.fnOf "__init__" "Paper.__init__" (defArgs sPaperInit) (defBody sPaperInit) (defScope sPaperInit) .none kV doc pm an cdv ct) ⟨[a, b], []⟩ = (newTuple [] >>= fun t => pure [(("self" : Str), a), (("word" : Str), b), (("parts" : Str), t)]))
    (h1 : ∀ (kV doc pm : Value) (an : Option Addr) (cdv ct : Value) (a b r : Value) (rs : List Value), bindArgs (PySem.W.fnOf "__init__" "Paper.__init__" (defArgs sPaperInit) (defBody sPaperInit) (defScope sPaperInit) .none kV doc pm an cdv ct) ⟨a :: b :: r :: rs, []⟩ = (newTuple (r :: rs) >>= fun t => pure [(("self" : Str), a), (("word" : Str), b), (("parts" : Str), t)])) :
    FnR P w K mg base CX0 4 f (sp_init K ad) := by
  obtain ⟨oc, od, kV, doc, pm, an, cdv, ct, osl, rfl, lk, hcd⟩ := F.ex
  refine FnR.imp (StX.fn_star (ps := ["self", "word"]) (sp := sp_initB K ad) lk hcd sc_PaperInit StX.cxUp_none (StX.bind_star2 (B := fun l => bindArgs (PySem.W.fnOf "__init__" "Paper.__init__" (defArgs sPaperInit) (defBody sPaperInit) (defScope sPaperInit) .none kV doc pm an cdv ct) ⟨l, []⟩) (h0 kV doc pm an cdv ct) (h1 kV doc pm an cdv ct)) (fun A outer s H vs Q E hr h => ?_)) (fun vs H Q E h => ?_)
  · obtain ⟨x, C, dx, p, wd, ps, rfl, hC, hx, hp, hi, hz, q⟩ := h
    refine ⟨_, PSs.nox ((pss_cons (ps_fld (pv 0) (pv 1) rfl)
      (pss_one (ps_fld (pv 0) (pe_callD d_fixed (hr.mono (by decide)) (by rfl) (pa_cons (pv 2) pa_nil)) rfl)))), ?_⟩
    have hcl := T.cl4 hC
    obtain ⟨nw, np, _⟩ := T.nw C hC
    have hpx : p ≠ x := ne_of hp hx (fun z => nomatch z)
    refine ⟨_, rfl, _, rfl, x, C, dx, [], rfl, hx, hcl, nw, (by show 0 < 1000; decide), ?_⟩
    rw [putF_word]
    have k1 : Kx x H (upd H x (.ins C dx [(("word" : Str), V.str wd)])) := kx_upd
    refine ⟨_, rfl, p, ps, rfl, .inl (.inl ((upd_ne hpx).trans hp)), fun q0 h0 => (hi q0 h0).keepX hx k1, hz, fun H' r ys s' hr' hl hw => ?_⟩
    have hx' := s' _ _ (upd_same (H := H) (a := x))
    refine ⟨_, rfl, x, C, dx, _, rfl, hx', hcl, np, (by show 1 < 1000; decide), ?_⟩
    rw [putF_parts]
    have hrx : r ≠ x := ne_of hr' hx' (fun z => nomatch z)
    refine q _ r ys (kx_trans (kx_trans k1 (kx_of s')) kx_upd) upd_same ((upd_ne hrx).trans hr') hl fun i q0 y e1 e2 => (hw i q0 y e1 e2).keepI hx' kx_upd
  · obtain ⟨x, C, dx, wd, ps, rfl, hC, hx, hi, hz, q⟩ := h
    refine ⟨[.ref x, .str wd], ps.map (·.1), rfl, rfl, by rw [List.length_map]; exact Nat.le_trans hz (by decide), fun p hp => ?_⟩
    have s1 := same_new (o := .tup (ps.map (·.1))) hp
    refine ⟨x, C, dx, p, wd, ps, rfl, hC, s1 _ _ hx, upd_same, fun q0 h0 => (hi q0 h0).keep s1, hz, fun H' r ys k h1 h2 h3 h4 => q H' r ys (fun b o n e => k b o n (s1 b o e)) h1 h2 h3 h4⟩
end
end K51
/-! K51: Calm and Stray are made. -/
namespace K51
open PySem PySem.Spec PyProof.Rows L2

theorem init_h0 (kV doc pm : Value) (an : Option Addr) (cdv ct : Value) (a b : Value) : bindArgs (PySem.W.fnOf "__init__" "Paper.__init__" (defArgs sPaperInit) (defBody sPaperInit) (defScope sPaperInit) .none kV doc pm an cdv ct) ⟨[a, b], []⟩ = (newTuple [] >>= fun t => pure [(("self" : Str), a), (("word" : Str), b), (("parts" : Str), t)]) := by rfl
theorem init_h1 (kV doc pm : Value) (an : Option Addr) (cdv ct : Value) (a b r : Value) (rs : List Value) : bindArgs (PySem.W.fnOf "__init__" "Paper.__init__" (defArgs sPaperInit) (defBody sPaperInit) (defScope sPaperInit) .none kV doc pm an cdv ct) ⟨a :: b :: r :: rs, []⟩ = (newTuple (r :: rs) >>= fun t => pure [(("self" : Str), a), (("word" : Str), b), (("parts" : Str), t)]) := by rfl

/-- a def that closes over __class__, as it stands behind the top -/
structure FunS (K : PySem.W.Frag) (P : Program) (x qual : Str) (st : Stmt) (D f : Addr) : Prop where
  ex : ∃ (oc : Value) (od : Option Addr) (kV doc pm : Value) (an : Option Addr) (cda : Addr) (ct : Value) (osl : Array (Option Value)) (cc : Addr),
    K.lookup f = some ⟨oc, od, .func (PySem.W.ksFn x qual (defArgs st) (defBody st) (defScope st) .none kV doc pm an (.ref cda) ct cc), osl⟩ ∧ PySem.W.codeIn K (.ref cda) qual = true ∧
    (∃ (cl : Value) (cld : Option Addr) (csl : Array (Option Value)), K.lookup cc = some ⟨cl, cld, .cell (some (.ref D)), csl⟩) ∧
    (∃ (ccl : Value) (cdd : Option Addr) (vs : Array Value) (ccs : Array (Option Value)) (file : Str) (tf : Tok), K.lookup cda = some ⟨ccl, cdd, .fields vs, ccs⟩ ∧ vs[2]? = some (.str file tf) ∧ ((P.main.file : Str) == file) = true)
/-- the rest of what super() asks -/
structure SupF (K : PySem.W.Frag) (P : Program) (D f2 : Addr) (m : Str) : Prop where
  hD : (PySem.W.clsIn K D).isSome = true
  top : (P.main.scope.names.lookup ("super" : Str)).isSome = false
  opq : PySem.W.nsIn K PySem.cStatics "thirdparty.any" = some none
  ty : PySem.W.typeIn K (.ref f2) = some (.type "function")
  fi : PySem.W.fnIn K f2 = true
  at_ : SupAt K D D f2 m

section
variable {P : Program} {w : World} {K : PySem.W.Frag} {mg : Str → Option Value} {base : Heap} {ad : Ads} {f f2 : Addr}
theorem ok_calm (F : FunS K P "__init__" "Calm.__init__" sCalmInit ad.calm f) (T : Txt K mg ad) (S : SupF K P ad.calm f2 "__init__") (F2 : FnR P w K mg base CX0 4 f2 (sp_init K ad)) : FnR P w K mg base CX0 5 f (sp_calm ad) := by
  obtain ⟨oc, od, kV, doc, pm, an, cda, ct, osl, cc, lk, hcd, lcell, lcode⟩ := F.ex
  refine fn_super (ps := ["self"]) lk hcd lcell (by decide +kernel) (by decide) (fun x hx => ?_) (fun x hx => ?_) (fun us hl => match us, hl with | [_], _ => rfl) (fun vs H Q E h => ?_) (fun A outer s H vs Q E s1 hr h I => ?_)
  · exact (show ∀ p ∈ (defScope sCalmInit).names, p.2 = NameKind.free → p.1 = ("__class__" : Str) by decide +kernel) (x, .free) (PySem.mem_of_lookup hx) rfl
  · simp only [List.mem_cons, List.not_mem_nil, or_false] at hx
    subst hx
    rfl
  · obtain ⟨x, dx, rfl, _⟩ := h
    rfl
  · obtain ⟨x, dx, rfl, hx, q⟩ := h
    refine PySem.ks_wpAt_execs_cons (PySem.ks_wpAt_Expr_any (PySem.ks_wpAt_mono (superCall (i := 0) (pl := pure false) (f2 := f2) (D := ad.calm) (cc := cc) (cda := cda) (f := f) (me := "self") (sp := sp_init K ad)
      (X := cxS P w K mg base ["self"] "Calm.__init__" (defScope sCalmInit) f (.ref cda) cc A outer s H)
      (Q := fun v H' => Kx x H H' ∧ IsCalm ad H' x) ⟨rfl, rfl, rfl, rfl, rfl, rfl, by decide +kernel, ⟨oc, od, _, osl, _, lk, rfl, rfl⟩, lcode, lcell, S.hD, T.super, S.top, S.opq, S.ty, S.fi⟩ S.at_ F2 hr pass0
      (pa_cons pe_str pa_nil) I rfl rfl hx ?_) (fun v s' hv => ?_) (fun e s' he => he)))
    · refine ⟨x, ad.calm, dx, "calm", [], rfl, by simp, hx, fun q0 h0 => (nomatch h0), Nat.zero_le _, fun H' r ys k h1 h2 h3 h4 => ⟨k, dx, _, h1, by rfl⟩⟩
    · obtain ⟨v', H', I', _, k, hc⟩ := hv
      exact wpAt_of_wpAny (wpAny_execs_nil ⟨_, H', I', q H' k hc⟩)
theorem ok_stray (F : FunS K P "__init__" "Stray.__init__" sStrayInit ad.stray f) (T : Txt K mg ad) (S : SupF K P ad.stray f2 "__init__") (F2 : FnR P w K mg base CX0 4 f2 (sp_init K ad)) : FnR P w K mg base CX0 5 f (sp_stray K ad) := by
  obtain ⟨oc, od, kV, doc, pm, an, cda, ct, osl, cc, lk, hcd, lcell, lcode⟩ := F.ex
  have nd : (["self", "walk"] : List Str).Nodup := by decide +kernel
  refine fn_super (ps := ["self", "walk"]) lk hcd lcell nd (by decide) (fun x hx => ?_) (fun x hx => ?_) (fun us hl => match us, hl with | [_, _], _ => rfl) (fun vs H Q E h => ?_) (fun A outer s H vs Q E s1 hr h I => ?_)
  · exact (show ∀ p ∈ (defScope sStrayInit).names, p.2 = NameKind.free → p.1 = ("__class__" : Str) by decide +kernel) (x, .free) (PySem.mem_of_lookup hx) rfl
  · simp only [List.mem_cons, List.not_mem_nil, or_false] at hx
    rcases hx with rfl | rfl <;> rfl
  · obtain ⟨x, dx, v, d, rfl, _⟩ := h
    rfl
  · obtain ⟨x, dx, v, d, rfl, hx, hi, q⟩ := h
    refine PySem.ks_wpAt_execs_cons (PySem.ks_wpAt_Expr_any (PySem.ks_wpAt_mono (superCall (i := 0) (pl := pure false) (f2 := f2) (D := ad.stray) (cc := cc) (cda := cda) (f := f) (me := "self") (sp := sp_init K ad)
      (X := cxS P w K mg base ["self", "walk"] "Stray.__init__" (defScope sStrayInit) f (.ref cda) cc A outer s H)
      (Q := fun _ H' => Kx x H H' ∧ ∃ r y, H' x = some (.ins ad.stray dx [(("word" : Str), V.str "stray"), (("parts" : Str), V.ref r)]) ∧ H' r = some (.tup [y]) ∧ WOut H' v d y) ⟨rfl, rfl, rfl, rfl, rfl, rfl, by decide +kernel, ⟨oc, od, _, osl, _, lk, rfl, rfl⟩, lcode, lcell, S.hD, T.super, S.top, S.opq, S.ty, S.fi⟩ S.at_ F2 hr pass0
      (pa_cons pe_str (pa_cons (pv 1) pa_nil)) I rfl rfl hx ?_) (fun v' s' hv => ?_) (fun e s' he => he)))
    · refine ⟨v, rfl, x, ad.stray, dx, "stray", [(v, d)], rfl, by simp, hx, fun q0 h0 => ?_, Nat.le_refl _, fun H' r ys k h1 h2 h3 h4 => ⟨k, r, ?_⟩⟩
      · simp only [List.mem_cons, List.not_mem_nil, or_false] at h0
        subst h0
        exact hi
      · obtain ⟨y, rfl⟩ : ∃ y, ys = [y] := match ys, h3 with | [y], _ => ⟨y, rfl⟩
        exact ⟨y, h1, h2, h4 0 (v, d) y rfl rfl⟩
    · obtain ⟨_, H', I', _, k, r, y, hx', hr', wo⟩ := hv
      have t : PSs (cxS P w K mg base ["self", "walk"] "Stray.__init__" (defScope sStrayInit) f (.ref cda) cc A outer s H) ((defBody sStrayInit).drop 1) _ :=
        (pss_one (ps_fld (pv 0) (pe_ix ix_tup (pe_fld (pv 0) rfl) pe_int (fun _ _ => rfl)) rfl))
      obtain ⟨_, np, nwk⟩ := T.nw ad.stray (by simp)
      refine wpAt_of_wpAny (t.run [] s' _ H' { nx := fun _ H' => Q .non H', rt := Q } I' ?_)
      refine ⟨_, rfl, x, ad.stray, dx, _, .ref r, rfl, hx', T.iStray.cl, np, by rfl, r, [y], 0, y, rfl, rfl, SqT.of hr', by rfl, ?_⟩
      refine ⟨_, rfl, x, ad.stray, dx, _, rfl, hx', T.iStray.cl, nwk, (by show 2 < 1000; decide), ?_⟩
      refine q _ y (kx_trans k kx_upd) ⟨dx, _, upd_same, ?_, ?_⟩ (wo.keepI hx' kx_upd)
      · rw [lookup_putF, if_neg (by decide +kernel)]
        rfl
      · rw [lookup_putF, if_pos rfl]
end
end K51
/-! K51: words. -/
namespace K51
open PySem PySem.Spec PyProof.Rows L2

abbrev s_is_word : Stmt := topS 15
abbrev N_is_word : List Str := ["value", "each"]
theorem sc_is_word : FnScope N_is_word ["value"] (defScope s_is_word) := ⟨rfl, rfl, rfl, by decide +kernel, rfl, by decide +kernel, by decide +kernel⟩

abbrev s_least_repeat : Stmt := topS 16
abbrev N_least_repeat : List Str := ["word", "best", "half", "run", "at"]
theorem sc_least_repeat : FnScope N_least_repeat ["word"] (defScope s_least_repeat) := ⟨rfl, rfl, rfl, by decide +kernel, rfl, by decide +kernel, by decide +kernel⟩

abbrev s_is_odd : Stmt := topS 17
abbrev N_is_odd : List Str := ["number", "odd"]
theorem sc_is_odd : FnScope N_is_odd ["number"] (defScope s_is_odd) := ⟨rfl, rfl, rfl, by decide +kernel, rfl, by decide +kernel, by decide +kernel⟩

theorem cs_len (cs : List Int) : (Cs cs).length = cs.length := by unfold Cs; rw [List.length_map]
theorem cs_get {cs : List Int} {i : Nat} {x : V} (h : (Cs cs)[i]? = some x) : ∃ c, cs[i]? = some c ∧ x = .int c ∧ c ∈ cs := by
  unfold Cs at h
  rw [List.getElem?_map] at h
  cases e : cs[i]? with
  | none => rw [e] at h; cases h
  | some c => rw [e] at h; cases h; exact ⟨c, rfl, rfl, List.mem_of_getElem? e⟩
theorem at_cs {cs : List Int} {j : Nat} {i c : Int} (e : i = (j : Int)) (h : cs[j]? = some c) : atI (Cs cs) i = some (V.int c) := by
  subst e
  refine atI_nat ?_
  unfold Cs
  rw [List.getElem?_map, h]
  rfl
theorem get_lt {cs : List Int} {j : Nat} (h : j < cs.length) : ∃ c, cs[j]? = some c := ⟨cs[j], List.getElem?_eq_getElem h⟩
theorem rep_map (n : Nat) : (List.replicate n true).map V.bl = List.replicate n (V.bl true) := by rw [List.map_replicate]
theorem rep_all (n : Nat) : (List.replicate n true).all id = true := by
  rw [List.all_eq_true]
  intro x hx
  rw [(List.mem_replicate.mp hx).2]
  rfl
theorem fdiv2 (n : Nat) : ((n : Int)).fdiv 2 = ((n / 2 : Nat) : Int) := by
  rw [Int.fdiv_eq_ediv_of_nonneg _ (by decide)]
  omega

section
variable {P : Program} {w : World} {K : PySem.W.Frag} {mg : Str → Option Value} {base : Heap} {ad : Ads} {f : Addr} {fd : FuncData}
theorem ok_is_word (F : Fun K "is_word" "is_word" s_is_word f fd) (T : Txt K mg ad) (d_is_within : Def P w K mg base "is_within" 2 sp_is_within) : FnOk P w K mg base CX0 3 f fd ["value"] (sp_is_word K) := by
  refine F.ok sc_is_word (fun vs H Q E h => ?_) (fun cdv A outer s H vs Q E hr h => ?_)
  · obtain ⟨x, cs, rfl, _⟩ := h
    rfl
  · obtain ⟨x, cs, rfl, ⟨a, rfl, hS, hp0, hz⟩, q⟩ := h
    refine ⟨_, ((pss_one (ps_ret (pe_and (pe_callB call_isiT (by rfl) T.isinstance (by decide +kernel) (pa_cons (pv 0) (pa_cons (pe_tup (pa_cons (pe_bltn (v := .ty "list") (by rfl) T.list (by decide +kernel) rfl) (pa_cons (pe_bltn (v := .ty "tuple") (by rfl) T.tuple (by decide +kernel) rfl) pa_nil))) pa_nil))) (pe_one (pe_callB (cr_all rfl) (by rfl) T.all (by decide +kernel) (pa_cons (pe_lc (own := [("each", 1)]) rfl sc_is_word.nd (pi_any (pv 0)) (blkOk_by (N := N_is_word) (sc := defScope s_is_word) (by decide +kernel)) (fun _ _ _ _ _ => pg_name (i := 1) sc_is_word.nd rfl (Or.inl rfl)) (fun _ _ _ _ _ => pts_nil) (fun _ _ _ _ _ => (pe_callD d_is_within (hr.mono (by decide)) (by rfl) (pa_cons (pv 1) (pa_cons pe_int (pa_cons pe_non pa_nil)))))) pa_nil))))))), ?_⟩
    refine ⟨_, rfl, (by show 2 ≤ sizeLine; decide), fun p hp => ?_⟩
    have s1 := same_new (o := .tup [V.ty "list", V.ty "tuple"]) hp
    have turn : ∀ (σ : L2.St) (i : Nat) (x : V) (Hi H' : Hp) (Q1 : V → Hp → Prop) (Q0 : Hp → Prop), σ = [some (V.ref a), none] → YAt (Cs cs) i Hi x H' → (∀ y H4, Same Hi H4 → List.replicate (i + 1) (V.bl true) = List.replicate i (V.bl true) ++ [y] → Q1 y H4) →
        gName 1 x (wipe σ [1]) H' fun σ2 H2 => wipe σ2 [1] = wipe σ [1] ∧ tYes σ2 H2 fun b H3 => if b = true then tD sp_is_within (tCons (tVar 1) (tCons (tC (.int 0)) (tCons (tC .non) tNil))) σ2 H3 Q1 else Q0 H3 := by
      rintro σ i y Hi H' Q1 Q0 rfl ⟨rfl, hy⟩ k1
      obtain ⟨c, _, rfl, hc⟩ := cs_get hy
      refine ⟨rfl, lcY ⟨_, rfl, .int c, "int", 0, .non, rfl, rfl, .inl rfl, ?_⟩⟩
      have e : withinV (.int c) 0 .non = true := by
        simp only [withinV, Bool.and_true, decide_eq_true_eq]
        exact hp0 c hc
      rw [e]
      exact k1 _ _ (Same.refl _) List.replicate_succ'
    have fin : ∀ (D : Addr) (Hd : Hp), Same H Hd → Hd D = some (.lst (List.replicate (Cs cs).length (V.bl true))) → rAll K [V.ref D] Hd Q := by
      intro D Hd sd hD
      refine ⟨D, List.replicate (Cs cs).length true, rfl, SqL.of (by rw [rep_map]; exact hD), ?_⟩
      rw [rep_all]
      exact q Hd sd
    rcases hS with hS | hS
    · refine ⟨.ref a, p, _, _, _, _, rfl, upd_same, clsLT, sqL_ty (s1.seq hS), kit_lt_list, _, rfl, iteT ?_⟩
      refine .inl ⟨_, rfl, a, rfl, ⟨_, s1.seq hS⟩, fun D hD => ?_⟩
      exact lcS (w := walk_list (K := K) (a := a) (xs := Cs cs)) (H0 := H) (fun i => List.replicate i (V.bl true)) rfl (fun i hi => small_lt (by rw [cs_len] at hi; rw [List.length_replicate]; omega)) s1 hD (fun Hh s => s.seq hS) (fun i x Hi H' Q1 Q0 hi sH hDi y k1 k0 => turn _ i x Hi H' Q1 Q0 rfl y k1) (fun Hd sd hD => fin D Hd sd hD)
    · refine ⟨.ref a, p, _, _, _, _, rfl, upd_same, clsLT, sqT_ty (sm_seqT s1 hS), kit_lt_tuple, _, rfl, iteT ?_⟩
      refine .inr ⟨_, rfl, a, rfl, ⟨_, sm_seqT s1 hS⟩, fun D hD => ?_⟩
      exact lcS (w := walk_tup (K := K) (a := a) (xs := Cs cs)) (H0 := H) (fun i => List.replicate i (V.bl true)) rfl (fun i hi => small_lt (by rw [cs_len] at hi; rw [List.length_replicate]; omega)) s1 hD (fun Hh s => sm_seqT s hS) (fun i x Hi H' Q1 Q0 hi sH hDi y k1 k0 => turn _ i x Hi H' Q1 Q0 rfl y k1) (fun Hd sd hD => fin D Hd sd hD)
def BV (best : Option (Nat × Nat)) (bv : V) (H : Hp) : Prop := (best = none ∧ bv = .non) ∨ ∃ (b h : Nat) (p : Addr), best = some (b, h) ∧ bv = .ref p ∧ H p = some (.tup [.int b, .int h])
theorem BV.keep {best : Option (Nat × Nat)} {bv : V} {H H' : Hp} (h : BV best bv H) (s : Same H H') : BV best bv H' := by
  rcases h with h | ⟨b, k, p, h1, h2, h3⟩
  · exact .inl h
  · exact .inr ⟨b, k, p, h1, h2, s _ _ h3⟩
theorem ok_least_repeat (F : Fun K "least_repeat" "least_repeat" s_least_repeat f fd) (T : Txt K mg ad) : FnOk P w K mg base CX0 1 f fd ["word"] (sp_least_repeat K) := by
  refine F.ok sc_least_repeat (fun vs H Q E h => ?_) (fun cdv A outer s H vs Q E hr h => ?_)
  · obtain ⟨x, cs, rfl, _⟩ := h
    rfl
  · obtain ⟨t, cs, rfl, hS, hz, q⟩ := h
    refine ⟨_, ((pss_cons (ps_set (i := 1) sc_least_repeat.nd rfl (.inl rfl) pe_non)
      (pss_cons (ps_for PassesOwn.never rfl (pi_range2 (by rfl) T.range (pa_cons pe_int (pa_cons (pe_op op_add (pe_op op_fdivN (pe_callB call_len_seq (by rfl) T.len (by decide +kernel) (pa_cons (pv 0) pa_nil)) pe_int) pe_int) pa_nil))) (pg_name (i := 2) sc_least_repeat.nd rfl (.inl rfl)) (pss_cons (ps_set (i := 3) sc_least_repeat.nd rfl (.inl rfl) pe_int)
      (pss_one (ps_for PassesOwn.never rfl (pi_range1 (by rfl) T.range (pa_cons (pe_op op_sub (pe_callB call_len_seq (by rfl) T.len (by decide +kernel) (pa_cons (pv 0) pa_nil)) (pv 2)) pa_nil)) (pg_name (i := 4) sc_least_repeat.nd rfl (.inl rfl)) (pss_cons (ps_set (i := 3) sc_least_repeat.nd rfl (.inl rfl) (pe_ifExp (pt_cmpR op_eq (pe_ix ix_tup (pv 0) (pv 4) (fun _ _ => rfl)) (pe_ix ix_tup (pv 0) (pe_op op_add (pv 4) (pv 2)) (fun _ _ => rfl)) (nomark _)) (pe_op op_add (pv 3) pe_int) pe_int))
      (pss_one (ps_if (PW.pt (pw_and (pt_cmpR op_eq (pv 3) (pv 2) (nomark _)) (pw_and1 (PW.pt (pw_or (pt_cmpR op_isN (pv 1) pe_non (nomark _)) (pw_or1 (pt_cmpR op_lt (pe_op op_add (pe_op op_sub (pv 4) (pv 2)) pe_int) (pe_ix ix_tup (pv 1) pe_int (fun _ _ => rfl)) (nomark _)))))))) (pss_one (ps_set (i := 1) sc_least_repeat.nd rfl (.inl rfl) (pe_tup (pa_cons (pe_op op_add (pe_op op_sub (pv 4) (pv 2)) pe_int) (pa_cons (pv 2) pa_nil))))) pss_nil)))))))
      (pss_one (ps_ret (pv 1)))))), ?_⟩
    refine ⟨_, rfl, t, Cs cs, rfl, .inr hS, _, _, rfl, rfl, ⟨by decide, by decide⟩, _, _, rfl, rfl, ?_⟩
    rw [cs_len, fdiv2]
    refine ⟨1, _, rfl, (by omega), ?_⟩
    have e0 : ((((cs.length / 2 : Nat) : Int) + 1) - 1).toNat = cs.length / 2 := by omega
    rw [e0]
    refine for_range (lo := 1) (n := cs.length / 2) (fun i σ H' => Same H H' ∧ ∃ best bv y2 y3 y4, σ = [some (.ref t), some bv, y2, y3, y4] ∧ BV best bv H' ∧ BestInv cs (1 + i) best)
      ⟨Same.refl H, none, .non, none, none, none, rfl, .inl ⟨rfl, rfl⟩, ⟨fun _ h h1 h2 => absurd h2 (by omega), fun b k e => nomatch e⟩⟩ ?_ ?_
    · rintro i σ H1 hi ⟨s1, best, bv, y2, y3, y4, rfl, hb, B⟩
      refine ⟨_, rfl, t, Cs cs, rfl, .inr (sm_seqT s1 hS), _, rfl, _, _, rfl, rfl, ?_⟩
      rw [cs_len]
      refine ⟨_, rfl, (by omega), (by omega), ?_⟩
      have en : ((cs.length : Int) - (1 + (i : Int))).toNat = cs.length - (1 + i) := by omega
      rw [en]
      refine for_range (lo := 0) (n := cs.length - (1 + i)) (fun j σ H' => Same H H' ∧ ∃ (run : Nat) (best' : Option (Nat × Nat)) (bv' : V) (y4 : Option V), σ = [some (.ref t), some bv', some (.int (1 + (i : Int))), some (.int run), y4] ∧ BV best' bv' H' ∧ RunInv cs (1 + i) j run best' ∧ (best' = none → best = none))
        ⟨s1, 0, best, bv, _, rfl, hb, run_start (by omega) B.sq, fun e => e⟩ ?_ ?_
      · rintro j σ H2 hj ⟨s2, run, best', bv', y4', rfl, hb', R, hne⟩
        obtain ⟨c1, e1⟩ := get_lt (cs := cs) (j := j) (by omega)
        obtain ⟨c2, e2⟩ := get_lt (cs := cs) (j := j + (1 + i)) (by omega)
        have hS2 := sm_seqT s2 hS
        refine ⟨_, rfl, _, rfl, t, Cs cs, _, _, rfl, rfl, hS2, at_cs (j := j) (by omega) e1, _, rfl, _, rfl, _, rfl, _, _, rfl, rfl, t, Cs cs, _, _, rfl, rfl, hS2, at_cs (j := j + (1 + i)) (by omega) e2, rfl, _, rfl, ?_⟩
        refine ite2 (fun hn => ?_) (fun hn => ?_)
        · have ec : c1 = c2 := by
            have := of_decide_eq_true hn
            injection this
          have m : Mt cs (1 + i) j := by unfold Mt; rw [e1, e2, ec]
          refine ⟨_, rfl, _, _, rfl, rfl, ?_⟩
          refine ⟨_, rfl, _, rfl, rfl, _, rfl, ?_⟩
          refine ite2 (fun hn2 => ?_) (fun hn2 => ?_)
          · have er : run + 1 = 1 + i := by
              have := of_decide_eq_true hn2
              injection this with this
              omega
            have RB := run_best (by omega) (by omega) R m er
            have fin : ∀ H3, Same H2 H3 → ∀ p, H3 p = none → Same H (upd H3 p (.tup [.int ((0 + (j : Int)) - (1 + (i : Int)) + 1), .int (1 + (i : Int))])) ∧ ∃ (run' : Nat) (best2 : Option (Nat × Nat)) (bv2 : V) (y4 : Option V),
                [some (V.ref t), some (V.ref p), some (V.int (1 + (i : Int))), some (V.int ((run : Int) + 1)), some (V.int (0 + (j : Int)))] = [some (.ref t), some bv2, some (.int (1 + (i : Int))), some (.int run'), y4] ∧
                BV best2 bv2 (upd H3 p (.tup [.int ((0 + (j : Int)) - (1 + (i : Int)) + 1), .int (1 + (i : Int))])) ∧ RunInv cs (1 + i) (j + 1) run' best2 ∧ (best2 = none → best = none) := by
              intro H3 s3 p hp
              refine ⟨sm_new (s2.trans s3) hp, run + 1, some (j + 1 - (1 + i), 1 + i), .ref p, _, rfl, .inr ⟨_, _, p, rfl, rfl, ?_⟩, RB, fun e => nomatch e⟩
              have hle := R.le
              rw [upd_same, show ((0 + (j : Int)) - (1 + (i : Int)) + 1) = ((j + 1 - (1 + i) : Nat) : Int) by omega, show (1 + (i : Int)) = ((1 + i : Nat) : Int) by omega]
            rcases hb' with ⟨rfl, rfl⟩ | ⟨b, k, p, rfl, rfl, hp⟩
            · refine ⟨_, rfl, rfl, _, rfl, iteT ?_⟩
              refine iteT ?_
              refine ⟨_, rfl, _, rfl, _, _, rfl, rfl, _, _, rfl, rfl, _, rfl, (by show 2 ≤ sizeLine; decide), fun p hp => ?_⟩
              exact fin H2 (Same.refl _) p hp
            · refine ⟨_, rfl, rfl, _, rfl, iteF ?_⟩
              refine ⟨_, rfl, _, rfl, _, _, rfl, rfl, _, _, rfl, rfl, _, rfl, p, _, _, _, rfl, rfl, SqT.of hp, by rfl, _, _, rfl, rfl, _, rfl, ?_⟩
              refine ite2 (fun hn3 => ?_) (fun hn3 => ?_)
              · refine ⟨_, rfl, _, rfl, _, _, rfl, rfl, _, _, rfl, rfl, _, rfl, (by show 2 ≤ sizeLine; decide), fun p hp => ?_⟩
                exact fin H2 (Same.refl _) p hp
              · exact ⟨s2, run + 1, _, _, _, rfl, .inr ⟨b, k, p, rfl, rfl, hp⟩, run_yes R m (fun e => nomatch e), hne⟩
          · have er : run + 1 ≠ 1 + i := fun e => hn2 (decide_eq_true (by
              show V.int ((run : Int) + 1) = V.int (1 + (i : Int))
              rw [show ((run : Int) + 1) = 1 + (i : Int) by omega]))
            exact iteF ⟨s2, run + 1, _, _, _, rfl, hb', run_yes R m (fun _ => er), hne⟩
        · have m : ¬ Mt cs (1 + i) j := fun m => hn (decide_eq_true (by
            unfold Mt at m
            rw [e1, e2] at m
            rw [Option.some.inj m]))
          refine ⟨_, rfl, _, rfl, rfl, _, rfl, ?_⟩
          have e3 : decide (V.int 0 = V.int (1 + (i : Int))) = false := decide_eq_false (fun z => by
            injection z with z
            omega)
          rw [e3]
          exact iteF (iteF ⟨s2, 0, _, _, _, rfl, hb', run_no (by omega) R m, hne⟩)
      · rintro σ H2 ⟨s2, run, best', bv', y4', rfl, hb', R, hne⟩
        refine ⟨s2, best', bv', _, _, _, rfl, hb', ?_⟩
        have := run_end B hne R
        rw [show 1 + (i + 1) = 1 + i + 1 by omega]
        exact this
    · rintro σ H1 ⟨s1, best, bv, y2, y3, y4, rfl, hb, B⟩
      refine ⟨bv, rfl, q H1 bv s1 ?_⟩
      rcases hb with ⟨rfl, rfl⟩ | ⟨b, k, p, rfl, rfl, hp⟩
      · exact .inl ⟨rfl, best_end B (by omega)⟩
      · exact .inr ⟨p, b, k, rfl, hp, B.sq b k rfl⟩
end
end K51
/-! K51: the plain word, line colours. -/
namespace K51
open PySem PySem.Spec PyProof.Rows L2

abbrev s_plain_signs : Stmt := topS 18
abbrev N_plain_signs : List Str := ["many", "found", "ones", "at"]
theorem sc_plain_signs : FnScope N_plain_signs ["many"] (defScope s_plain_signs) := ⟨rfl, rfl, rfl, by decide +kernel, rfl, by decide +kernel, by decide +kernel⟩

abbrev s_plain_word : Stmt := topS 19
abbrev N_plain_word : List Str := ["many"]
theorem sc_plain_word : FnScope N_plain_word ["many"] (defScope s_plain_word) := ⟨rfl, rfl, rfl, by decide +kernel, rfl, by decide +kernel, by decide +kernel⟩

abbrev s_need_colours : Stmt := topS 27
abbrev N_need_colours : List Str := ["value"]
theorem sc_need_colours : FnScope N_need_colours ["value"] (defScope s_need_colours) := ⟨rfl, rfl, rfl, by decide +kernel, rfl, by decide +kernel, by decide +kernel⟩

abbrev s_colours_in : Stmt := topS 28
abbrev N_colours_in : List Str := ["many", "plain", "found", "place"]
theorem sc_colours_in : FnScope N_colours_in ["many"] (defScope s_colours_in) := ⟨rfl, rfl, rfl, by decide +kernel, rfl, by decide +kernel, by decide +kernel⟩

abbrev s_line_colours : Stmt := topS 33
abbrev N_line_colours : List Str := ["many"]
theorem sc_line_colours : FnScope N_line_colours ["many"] (defScope s_line_colours) := ⟨rfl, rfl, rfl, by decide +kernel, rfl, by decide +kernel, by decide +kernel⟩

theorem odd_zero : oddN 0 = false := by rw [oddN]; rfl
theorem odd_pos {m : Nat} (h : m ≠ 0) : oddN m = (oddN (m / 2) != decide (m % 2 = 1)) := by rw [oddN, dif_neg h]
theorem odd_succ {m : Nat} (h : m % 2 = 0) : oddN (m + 1) = !oddN m := by
  rw [odd_pos (by omega), show (m + 1) / 2 = m / 2 by omega, show decide ((m + 1) % 2 = 1) = true from decide_eq_true (by omega)]
  by_cases z : m = 0
  · subst z
    rw [odd_zero]
    rfl
  · rw [odd_pos z, show decide (m % 2 = 1) = false from decide_eq_false (by omega)]
    cases oddN (m / 2) <;> rfl
theorem xor3 (b o c : Bool) : (b != (o != c)) = ((b != c) != o) := by cases b <;> cases o <;> cases c <;> rfl
theorem dec_bls (b c : Bool) : (!decide (V.bl b = V.bl c)) = (b != c) := by cases b <;> cases c <;> rfl

section
variable {P : Program} {w : World} {K : PySem.W.Frag} {mg : Str → Option Value} {base : Heap} {ad : Ads} {f : Addr} {fd : FuncData}
theorem ok_is_odd (F : Fun K "is_odd" "is_odd" s_is_odd f fd) (T : Txt K mg ad) : FnOk P w K mg base CX0 1 f fd ["number"] sp_is_odd := by
  refine F.ok sc_is_odd (fun vs H Q E h => ?_) (fun cdv A outer s H vs Q E hr h => ?_)
  · obtain ⟨n, rfl, _⟩ := h
    rfl
  · obtain ⟨n, rfl, q⟩ := h
    refine ⟨_, ((pss_cons (ps_set (i := 1) sc_is_odd.nd rfl (.inl rfl) pe_bl)
      (pss_cons (ps_while PassesOwn.never (pt_cmpR op_gt (pv 0) pe_int (nomark _)) (pss_one (ps_par (i := 1) (j := 0) (by rfl) sc_is_odd.nd rfl rfl (by decide) rfl rfl (pa_cons (pe_cmpR op_ne (pv 1) (pe_cmpR op_eq (pe_op op_modN (pv 0) pe_int) pe_int (nomark _)) (nomark _)) (pa_cons (pe_op op_fdivN (pv 0) pe_int) pa_nil)) (by rfl))))
      (pss_one (ps_ret (pv 1)))))), ?_⟩
    refine while_by (fun σ H' => H' = H ∧ ∃ (m : Nat) (b : Bool), σ = [some (.int m), some (.bl b)] ∧ (b != oddN m) = oddN n) (fun σ _ => match σ with | [some (.int m), _] => m.toNat | _ => 0)
      ⟨rfl, n, false, rfl, by cases oddN n <;> rfl⟩ ?_ (fun σ H Q Q' g ⟨v, hv, i, j, hi, hj, k, hk, q⟩ => ⟨v, hv, i, j, hi, hj, k, hk, g _ _ q⟩)
    rintro σ H' ⟨rfl, m, b, rfl, hb⟩
    refine ⟨_, rfl, _, _, rfl, rfl, _, rfl, ?_⟩
    refine ite2 (fun hn => ?_) (fun hn => ?_)
    · have hm : m ≠ 0 := by
        have := of_decide_eq_true hn
        omega
      refine ⟨_, rfl, _, rfl, _, _, rfl, rfl, (by show (2 : Int) ≠ 0; decide), rfl, rfl, _, rfl, _, _, rfl, rfl, ⟨by decide, by decide⟩, _, _, rfl, ⟨rfl, m / 2, (!decide (V.bl b = V.bl (decide (V.int ((m : Int).fmod 2) = V.int 1)))), ?_, ?_⟩, ?_⟩
      · show [some (V.int ((m : Int).fdiv 2)), some (V.bl (!decide (V.bl b = V.bl (decide (V.int ((m : Int).fmod 2) = V.int 1)))))] = _
        rw [fdiv2]
      · rw [dec_bls, ← hb, odd_pos hm, xor3]
        have : decide (V.int ((m : Int).fmod 2) = V.int 1) = decide (m % 2 = 1) := by
          refine decide_eq_decide.mpr ?_
          rw [Int.fmod_eq_emod_of_nonneg _ (by decide)]
          constructor
          · intro z
            injection z with z
            omega
          · intro z
            rw [show ((m : Int) % 2) = 1 by omega]
        rw [this]
      · show (((m : Int).fdiv 2)).toNat < (m : Int).toNat
        rw [fdiv2]
        omega
    · have hm : m = 0 := by
        have : ¬ (0 : Int) < (m : Int) := fun z => hn (decide_eq_true z)
        omega
      subst hm
      refine ⟨_, rfl, ?_⟩
      rw [odd_zero] at hb
      rw [← hb] at q
      cases b <;> exact q
/-- how many noughts are found behind the turn ahead of at -/
def Cnt (a l : Nat) : Prop := (a % 2 = 0 → l + 1 = a / 2) ∧ (a % 2 = 1 → l + 1 = a / 2 + (if oddN (a - 1) = true then 0 else 1))
theorem cnt_odd {a l : Nat} (ha : 1 ≤ a) (h : Cnt a l) (o : oddN a = true) : Cnt (a + 1) l := by
  refine ⟨fun e => ?_, fun e => ?_⟩
  · have := h.2 (by omega)
    have z := odd_succ (m := a - 1) (by omega)
    rw [show a - 1 + 1 = a by omega, o] at z
    cases hz : oddN (a - 1) with
    | true => rw [hz] at z; cases z
    | false =>
      rw [hz, if_neg Bool.false_ne_true] at this
      omega
  · have := h.1 (by omega)
    rw [Nat.add_sub_cancel, o, if_pos rfl]
    omega
theorem cnt_even {a l : Nat} (ha : 1 ≤ a) (h : Cnt a l) (o : oddN a = false) : Cnt (a + 1) (l + 1) := by
  refine ⟨fun e => ?_, fun e => ?_⟩
  · have := h.2 (by omega)
    have z := odd_succ (m := a - 1) (by omega)
    rw [show a - 1 + 1 = a by omega, o] at z
    cases hz : oddN (a - 1) with
    | false => rw [hz] at z; cases z
    | true =>
      rw [hz, if_pos rfl] at this
      omega
  · have := h.1 (by omega)
    rw [Nat.add_sub_cancel, o, if_neg Bool.false_ne_true]
    omega
theorem cs_app (ws : List Int) (x : Int) : Cs ws ++ [V.int x] = Cs (ws ++ [x]) := by unfold Cs; rw [List.map_append]; rfl
theorem ok_signs (F : Fun K "plain_signs" "plain_signs" s_plain_signs f fd) (T : Txt K mg ad) (d_is_odd : Def P w K mg base "is_odd" 1 sp_is_odd) : FnOk P w K mg base CX0 2 f fd ["many"] sp_signs := by
  refine F.ok sc_plain_signs (fun vs H Q E h => ?_) (fun cdv A outer s H vs Q E hr h => ?_)
  · obtain ⟨n, rfl, _⟩ := h
    rfl
  · obtain ⟨n, rfl, hn100, q⟩ := h
    refine ⟨_, ((pss_cons (ps_par3 (i := 1) (j := 2) (l := 3) (by rfl) sc_plain_signs.nd rfl rfl rfl (by decide) (by decide) (by decide) rfl rfl rfl (pa_cons (pe_lst pa_nil) (pa_cons pe_int (pa_cons pe_int pa_nil))) (by rfl))
      (pss_cons (ps_while PassesOwn.never (pt_cmpR op_lt (pe_callB call_len_seq (by rfl) T.len (by decide +kernel) (pa_cons (pv 1) pa_nil)) (pv 0) (nomark _)) (pss_cons (ps_if (pt_val (pe_callD d_is_odd (hr.mono (by decide)) (by rfl) (pa_cons (pv 3) pa_nil))) (pss_one (ps_set (i := 2) sc_plain_signs.nd rfl (.inl rfl) (pe_op op_add (pv 2) pe_int))) (pss_cons (ps_expr (pe_bm PySem.F.plainAttrs_list PySem.F.slot_list_append PySem.F.type_list_append mt_append (pv 1) (pa_cons (pv 2) pa_nil)))
      (pss_one (ps_set (i := 2) sc_plain_signs.nd rfl (.inl rfl) pe_int))))
      (pss_one (ps_set (i := 3) sc_plain_signs.nd rfl (.inl rfl) (pe_op op_add (pv 3) pe_int)))))
      (pss_one (ps_ret (pe_callTy call_tuple_of (by rfl) T.tuple (by decide +kernel) (pa_cons (pv 1) pa_nil))))))), ?_⟩
    refine ⟨Nat.zero_le _, fun fo hfo => ⟨_, _, _, rfl, ?_⟩⟩
    refine while_by (fun σ H' => ∃ (fo : Addr) (ws : List Int) (ones a : Nat), σ = [some (.int n), some (.ref fo), some (.int ones), some (.int a)] ∧ H' fo = some (.lst (Cs ws)) ∧ Same H H' ∧ H fo = none ∧ ws.length ≤ n ∧ (∀ x ∈ ws, 0 ≤ x) ∧ 1 ≤ a ∧ Cnt a ws.length)
      (fun σ _ => match σ with | [_, _, _, some (.int a)] => (2 * n + 5 - a).toNat | _ => 0)
      ⟨fo, [], 0, 1, rfl, upd_same, same_new hfo, hfo, Nat.zero_le _, fun x h => (nomatch h), Nat.le_refl _, fun h => absurd h (by decide), fun _ => by rw [show 1 - 1 = 0 from rfl, odd_zero]; rfl⟩ ?_
      (fun σ H Q Q' g ⟨v, hv, p, ys, hp, hy, v2, hv2, i, j, hi, hj, k, hk, q⟩ => ⟨v, hv, p, ys, hp, hy, v2, hv2, i, j, hi, hj, k, hk, g _ _ q⟩)
    rintro σ H' ⟨fo, ws, ones, a, rfl, hw, s1, hf0, hl, h0, h1, hc⟩
    refine ⟨_, rfl, fo, Cs ws, rfl, .inl (SqL.of hw), _, rfl, _, _, rfl, rfl, _, rfl, ?_⟩
    rw [cs_len]
    refine ite2 (fun hn => ?_) (fun hn => ?_)
    · have hlt : ws.length < n := by
        have := of_decide_eq_true hn
        omega
      have hal : a / 2 ≤ ws.length + 1 := by
        rcases Nat.mod_two_eq_zero_or_one a with e | e
        · have := hc.1 e; omega
        · have := hc.2 e
          split at this <;> omega
      refine ⟨_, rfl, a, rfl, _, rfl, ?_⟩
      cases ho : oddN a with
      | true =>
        refine iteT ⟨_, rfl, _, _, rfl, rfl, _, rfl, _, _, rfl, rfl, ?_⟩
        refine ⟨⟨fo, ws, ones + 1, a + 1, rfl, hw, s1, hf0, hl, h0, by omega, cnt_odd h1 hc ho⟩, ?_⟩
        show (2 * (n : Int) + 5 - ((a : Int) + 1)).toNat < (2 * (n : Int) + 5 - (a : Int)).toNat
        omega
      | false =>
        refine iteF ⟨_, rfl, .inl ⟨rfl, _, SqL.of hw⟩, _, rfl, fo, _, _, rfl, rfl, hw, small_lt (by rw [cs_len]; omega), _, rfl, _, _, rfl, rfl, ?_⟩
        refine ⟨⟨fo, ws ++ [(ones : Int)], 0, a + 1, rfl, by rw [upd_same, cs_app], sm_upd s1 hf0, hf0, by rw [List.length_append, List.length_singleton]; omega, fun x hx => ?_, by omega, by rw [List.length_append, List.length_singleton]; exact cnt_even h1 hc ho⟩, ?_⟩
        · rcases List.mem_append.mp hx with hx | hx
          · exact h0 x hx
          · rw [List.mem_singleton.mp hx]
            omega
        · show (2 * (n : Int) + 5 - ((a : Int) + 1)).toNat < (2 * (n : Int) + 5 - (a : Int)).toNat
          omega
    · have hle : ws.length = n := by
        have : ¬ ((ws.length : Int) < (n : Int)) := fun z => hn (decide_eq_true z)
        omega
      refine ⟨_, rfl, fo, Cs ws, rfl, .inl ⟨SqL.of hw, fun l hl' => q _ l ws (sm_new s1 hl') upd_same hle h0⟩⟩
theorem ok_plain_word (F : Fun K "plain_word" "plain_word" s_plain_word f fd) (T : Txt K mg ad) (d_need_number : Def P w K mg base "need_number" 3 sp_need_number) (d_plain_signs : Def P w K mg base "plain_signs" 2 sp_signs) : FnOk P w K mg base CX0 4 f fd ["many"] sp_signs := by
  refine F.ok sc_plain_word (fun vs H Q E h => ?_) (fun cdv A outer s H vs Q E hr h => ?_)
  · obtain ⟨n, rfl, _⟩ := h
    rfl
  · obtain ⟨n, rfl, hn100, q⟩ := h
    refine ⟨_, ((pss_cons (ps_expr (pe_callD d_need_number (hr.mono (by decide)) (by rfl) (pa_cons (pv 0) (pa_cons pe_str (pa_cons pe_int (pa_cons (pe_const T.cMOST_SIGNS) pa_nil))))))
      (pss_one (ps_ret (pe_callD d_plain_signs (hr.mono (by decide)) (by rfl) (pa_cons (pv 0) pa_nil)))))), ?_⟩
    refine ⟨_, rfl, n, _, 0, .int 2000, rfl, .inr ⟨2000, rfl⟩, ?_, _, rfl, n, rfl, hn100, q⟩
    simp only [withinV, Bool.and_eq_true, decide_eq_true_eq]
    omega
theorem ok_need_colours (F : Fun K "need_colours" "need_colours" s_need_colours f fd) (T : Txt K mg ad) (d_is_word : Def P w K mg base "is_word" 3 (sp_is_word K)) : FnOk P w K mg base CX0 4 f fd ["value"] (sp_need_colours K) := by
  refine F.ok sc_need_colours (fun vs H Q E h => ?_) (fun cdv A outer s H vs Q E hr h => ?_)
  · obtain ⟨x, cs, rfl, _⟩ := h
    rfl
  · obtain ⟨x, cs, rfl, hc, q⟩ := h
    refine ⟨_, ((pss_cons (ps_if (pt_not (pt_val (pe_callD d_is_word (hr.mono (by decide)) (by rfl) (pa_cons (pv 0) pa_nil)))) (pss_one ps_never) pss_nil)
      (pss_one (ps_ret (pe_callTy call_tuple_of (by rfl) T.tuple (by decide +kernel) (pa_cons (pv 0) pa_nil)))))), ?_⟩
    refine ⟨_, rfl, x, cs, rfl, hc, fun H1 s1 => ⟨_, rfl, iteF ?_⟩⟩
    obtain ⟨a, rfl, hS, hp0, hz⟩ := hc
    rcases hS with hS | hS
    · exact ⟨_, rfl, a, Cs cs, rfl, .inl ⟨s1.seq hS, fun l hl => q _ l (sm_new s1 hl) (SqT.of upd_same)⟩⟩
    · exact ⟨_, rfl, a, Cs cs, rfl, .inr ⟨sm_seqT s1 hS, q _ a s1 (sm_seqT s1 hS)⟩⟩
theorem ok_colours_in (F : Fun K "colours_in" "colours_in" s_colours_in f fd) (T : Txt K mg ad) (d_plain_signs : Def P w K mg base "plain_signs" 2 sp_signs) : FnOk P w K mg base CX0 3 f fd ["many"] sp_signs := by
  refine F.ok sc_colours_in (fun vs H Q E h => ?_) (fun cdv A outer s H vs Q E hr h => ?_)
  · obtain ⟨n, rfl, _⟩ := h
    rfl
  · obtain ⟨n, rfl, hn100, q⟩ := h
    refine ⟨_, ((pss_cons (ps_par (i := 1) (j := 2) (by rfl) sc_colours_in.nd rfl rfl (by decide) rfl rfl (pa_cons (pe_callD d_plain_signs (hr.mono (by decide)) (by rfl) (pa_cons (pe_op op_sub (pv 0) (pe_op op_fdivN (pv 0) (pe_const T.cEVERY))) pa_nil)) (pa_cons (pe_lst pa_nil) pa_nil)) (by rfl))
      (pss_cons (ps_for PassesOwn.never rfl (pi_range1 (by rfl) T.range (pa_cons (pv 0) pa_nil)) (pg_name (i := 3) sc_colours_in.nd rfl (.inl rfl)) (pss_one (ps_expr (pe_bm PySem.F.plainAttrs_list PySem.F.slot_list_append PySem.F.type_list_append mt_append (pv 2) (pa_cons (pe_ifExp (pt_cmpR op_eq (pe_op op_modN (pv 3) (pe_const T.cEVERY)) (pe_op op_sub (pe_const T.cEVERY) pe_int) (nomark _)) (pe_const T.cFOURTH) (pe_ix ix_tup (pv 1) (pe_op op_sub (pv 3) (pe_op op_fdivN (pv 3) (pe_const T.cEVERY))) (fun _ _ => rfl))) pa_nil)))))
      (pss_one (ps_ret (pe_callTy call_tuple_of (by rfl) T.tuple (by decide +kernel) (pa_cons (pv 2) pa_nil))))))), ?_⟩
    have e3 : ((n : Int)).fdiv 3 = ((n / 3 : Nat) : Int) := by
      rw [Int.fdiv_eq_ediv_of_nonneg _ (by decide)]
      omega
    refine ⟨_, rfl, _, rfl, _, _, rfl, rfl, ⟨by decide, by decide⟩, _, _, rfl, rfl, n - n / 3, ?_, by omega, fun H1 t ws s1 ht hl h0 => ?_⟩
    · show [V.int ((n : Int) - ((n : Int)).fdiv 3)] = _
      rw [e3, show ((n : Int) - ((n / 3 : Nat) : Int)) = ((n - n / 3 : Nat) : Int) by omega]
    refine ⟨Nat.zero_le _, fun fo hfo => ⟨_, _, rfl, ?_⟩⟩
    have hf0 := s1.free hfo
    refine ⟨_, rfl, n, rfl, by omega, by omega, ?_⟩
    rw [Int.toNat_natCast]
    refine for_range (lo := 0) (n := n) (fun i σ H' => ∃ us y3, σ = [some (.int n), some (.ref t), some (.ref fo), y3] ∧ Same H H' ∧ H' t = some (.tup (Cs ws)) ∧ H' fo = some (.lst (Cs us)) ∧ us.length = i ∧ ∀ x ∈ us, 0 ≤ x)
      ⟨[], _, rfl, sm_new s1 hfo, (same_new hfo) _ _ ht, upd_same, rfl, fun x h => nomatch h⟩ ?_ ?_
    · rintro i σ H2 hi ⟨us, y3, rfl, s2, ht2, hf2, hl2, h02⟩
      have hne : t ≠ fo := ne_of ht2 hf2 (fun z => nomatch z)
      refine ⟨_, rfl, .inl ⟨rfl, _, SqL.of hf2⟩, ?_⟩
      have fin : ∀ c : Int, 0 ≤ c → ∃ us' y3', [some (V.int (n : Int)), some (.ref t), some (.ref fo), some (V.int (0 + (i : Int)))] = [some (V.int (n : Int)), some (.ref t), some (.ref fo), y3'] ∧ Same H (upd H2 fo (.lst (Cs us ++ [V.int c]))) ∧
          (upd H2 fo (.lst (Cs us ++ [V.int c]))) t = some (.tup (Cs ws)) ∧ (upd H2 fo (.lst (Cs us ++ [V.int c]))) fo = some (.lst (Cs us')) ∧ us'.length = i + 1 ∧ ∀ x ∈ us', 0 ≤ x := by
        intro c hc
        refine ⟨us ++ [c], _, rfl, sm_upd s2 hf0, (upd_ne hne).trans ht2, by rw [upd_same, cs_app], by rw [List.length_append, hl2]; rfl, fun x hx => ?_⟩
        rcases List.mem_append.mp hx with hx | hx
        · exact h02 x hx
        · rw [List.mem_singleton.mp hx]
          exact hc
      refine ⟨_, rfl, _, _, rfl, rfl, (by show (3 : Int) ≠ 0; decide), _, _, rfl, rfl, rfl, _, rfl, ?_⟩
      refine ite2 (fun hn => ?_) (fun hn => ?_)
      · exact ⟨fo, _, _, rfl, rfl, hf2, small_lt (by rw [cs_len]; omega), fin 3 (by decide)⟩
      · have hm : i % 3 ≠ 2 := fun z => hn (decide_eq_true (by
          show V.int ((0 + (i : Int)).fmod 3) = V.int (3 - 1)
          rw [Int.fmod_eq_emod_of_nonneg _ (by decide), show ((0 + (i : Int)) % 3) = 3 - 1 by omega]))
        have ei : ((0 + (i : Int))).fdiv 3 = ((i / 3 : Nat) : Int) := by
          rw [Int.fdiv_eq_ediv_of_nonneg _ (by decide)]
          omega
        obtain ⟨c, hc⟩ := get_lt (cs := ws) (j := i - i / 3) (by omega)
        refine ⟨_, rfl, _, rfl, _, rfl, _, _, rfl, rfl, ⟨by decide, by decide⟩, _, _, rfl, rfl, t, Cs ws, _, _, rfl, rfl, SqT.of ht2, at_cs (j := i - i / 3) ?_ hc, ?_⟩
        · rw [ei]
          omega
        · exact ⟨fo, _, _, rfl, rfl, hf2, small_lt (by rw [cs_len]; omega), fin c (h0 c (List.mem_of_getElem? hc))⟩
    · rintro σ H2 ⟨us, y3, rfl, s2, ht2, hf2, hl2, h02⟩
      exact ⟨_, rfl, fo, Cs us, rfl, .inl ⟨SqL.of hf2, fun l hl' => q _ l us (sm_new s2 hl') upd_same hl2 h02⟩⟩
theorem ok_line_colours (F : Fun K "line_colours" "line_colours" s_line_colours f fd) (T : Txt K mg ad) (d_need_number : Def P w K mg base "need_number" 3 sp_need_number) (d_colours_in : Def P w K mg base "colours_in" 3 sp_signs) : FnOk P w K mg base CX0 4 f fd ["many"] sp_signs := by
  refine F.ok sc_line_colours (fun vs H Q E h => ?_) (fun cdv A outer s H vs Q E hr h => ?_)
  · obtain ⟨n, rfl, _⟩ := h
    rfl
  · obtain ⟨n, rfl, hn100, q⟩ := h
    refine ⟨_, ((pss_cons (ps_expr (pe_callD d_need_number (hr.mono (by decide)) (by rfl) (pa_cons (pv 0) (pa_cons pe_str (pa_cons pe_int (pa_cons (pe_const T.cMOST_PLACES) pa_nil))))))
      (pss_one (ps_ret (pe_callD d_colours_in (hr.mono (by decide)) (by rfl) (pa_cons (pv 0) pa_nil)))))), ?_⟩
    refine ⟨_, rfl, n, _, 0, .int 2000, rfl, .inr ⟨2000, rfl⟩, ?_, _, rfl, n, rfl, hn100, q⟩
    simp only [withinV, Bool.and_eq_true, decide_eq_true_eq]
    omega
end
end K51
/-! K51: == of lists and tuples of leaves. -/
namespace K51
open PySem PySem.Spec PyProof.Rows L2

def dV : V → PyData
  | .bl b => .bool b
  | .int i => .int i
  | .str x => .str x
  | _ => .none
def dI (ns : List Int) : List PyData := ns.map PyData.int
theorem dV_cs : ∀ ns : List Int, (Cs ns).map dV = dI ns
  | [] => rfl
  | n :: ns => by
    show dV (.int n) :: (Cs ns).map dV = .int n :: dI ns
    rw [dV_cs ns]
    rfl
theorem dp_leaf {K : PySem.W.Frag} {H : Hp} {x : V} {n : String} (h : leafT x = some n) : Dp K H x (dV x) := by
  cases x <;> first | (cases h; first | exact .non | exact .bl _ | exact .int _ | exact .str _) | cases h
theorem dp_leafs {K : PySem.W.Frag} {H : Hp} : ∀ {xs : List V}, Lf xs → DpAll K H xs (xs.map dV)
  | [], _ => .nil
  | x :: xs, h => by
    obtain ⟨n, hn, _⟩ := h x List.mem_cons_self
    exact .cons (dp_leaf hn) (dp_leafs fun y hy => h y (List.mem_cons_of_mem _ hy))
theorem lf_cs (ns : List Int) : Lf (Cs ns) := fun y hy => by
  obtain ⟨n, _, rfl⟩ := List.mem_map.mp hy
  exact ⟨"int", rfl, rfl⟩
theorem lf_ok {xs : List V} (h : Lf xs) : ∀ x ∈ xs, okV x = true := fun x hx => (h x hx).elim fun _ q => q.2
theorem can_dV (x : V) (h : okV x = true) : PyData.canLay0 (dV x) = true := by
  cases x <;> simp [dV, PyData.canLay0]
  exact h
theorem depth_dV (x : V) : PyData.depth (dV x) = 0 := by cases x <;> simp [dV, PyData.depth]
theorem canAll_dV : ∀ xs : List V, (∀ x ∈ xs, okV x = true) → PyData.canLayAll0 (xs.map dV) = true
  | [], _ => by simp [PyData.canLayAll0]
  | x :: xs, h => by
    rw [List.map_cons]
    simp only [PyData.canLayAll0, can_dV x (h x List.mem_cons_self), canAll_dV xs (fun y hy => h y (List.mem_cons_of_mem _ hy)), Bool.and_self]
theorem depthAll_dV : ∀ xs : List V, PyData.depthAll (xs.map dV) = 0
  | [] => by simp [PyData.depthAll]
  | x :: xs => by
    rw [List.map_cons]
    simp only [PyData.depthAll, depth_dV, depthAll_dV xs, Nat.max_self]
theorem shaped_list (xs : List V) (h : Lf xs) : SeqAt.shaped (.list (xs.map dV)) = true := by
  simp only [SeqAt.shaped, PyData.canLay0, canAll_dV xs (lf_ok h), PyData.depth, depthAll_dV, Bool.true_and]
  decide
theorem shaped_tup (xs : List V) (h : Lf xs) : SeqAt.shaped (.tuple (xs.map dV)) = true := by
  simp only [SeqAt.shaped, PyData.canLay0, canAll_dV xs (lf_ok h), PyData.depth, depthAll_dV, Bool.true_and]
  decide
theorem eqv_ints : ∀ a b : List Int, PyData.eqvAll (dI a) (dI b) = decide (a = b)
  | [], [] => by simp [dI, PyData.eqvAll]
  | [], y :: ys => by simp [dI, PyData.eqvAll]
  | x :: xs, [] => by simp [dI, PyData.eqvAll]
  | x :: xs, y :: ys => by
    show PyData.eqvAll (PyData.int x :: dI xs) (PyData.int y :: dI ys) = _
    rw [PyData.eqvAll, eqv_ints xs ys]
    simp only [PyData.eqv]
    by_cases e : x = y
    · subst e
      simp
    · simp [e]
theorem eqv_nil (xs : List V) : PyData.eqvAll (xs.map dV) [] = decide (xs = []) := by
  cases xs with
  | nil => simp [PyData.eqvAll]
  | cons x xs => simp [PyData.eqvAll]
theorem eqvL (a b : List PyData) : PyData.eqv (.list a) (.list b) = PyData.eqvAll a b := by simp only [PyData.eqv]
theorem eqvT (a b : List PyData) : PyData.eqv (.tuple a) (.tuple b) = PyData.eqvAll a b := by simp only [PyData.eqv]

section
variable {K : PySem.W.Frag} {H : Hp} {a b : Addr} {Q : VK}
/-- lists of ints -/
theorem rd_eqL {u v : List Int} (h1 : SqL K H a (Cs u)) (h2 : SqL K H b (Cs v)) (q : Q (.bl (decide (u = v))) H) : rEqD K (.ref a) (.ref b) H Q := by
  refine ⟨.list ((Cs u).map dV), .list ((Cs v).map dV), .lst h1 (dp_leafs (lf_cs u)), .lst h2 (dp_leafs (lf_cs v)), shaped_list _ (lf_cs u), shaped_list _ (lf_cs v), ?_⟩
  rw [eqvL, dV_cs, dV_cs, eqv_ints]
  exact q
theorem rd_neL {u v : List Int} (h1 : SqL K H a (Cs u)) (h2 : SqL K H b (Cs v)) (q : Q (.bl (!decide (u = v))) H) : rNeD K (.ref a) (.ref b) H Q := by
  refine ⟨.list ((Cs u).map dV), .list ((Cs v).map dV), .lst h1 (dp_leafs (lf_cs u)), .lst h2 (dp_leafs (lf_cs v)), shaped_list _ (lf_cs u), shaped_list _ (lf_cs v), ?_⟩
  rw [eqvL, dV_cs, dV_cs, eqv_ints]
  exact q
theorem rd_neT {u v : List Int} (h1 : SqT K H a (Cs u)) (h2 : SqT K H b (Cs v)) (q : Q (.bl (!decide (u = v))) H) : rNeD K (.ref a) (.ref b) H Q := by
  refine ⟨.tuple ((Cs u).map dV), .tuple ((Cs v).map dV), .tup h1 (dp_leafs (lf_cs u)), .tup h2 (dp_leafs (lf_cs v)), shaped_tup _ (lf_cs u), shaped_tup _ (lf_cs v), ?_⟩
  rw [eqvT, dV_cs, dV_cs, eqv_ints]
  exact q
/-- a list of leaves against [] -/
theorem rd_neNil {xs : List V} (h1 : SqL K H a xs) (hl : Lf xs) (h2 : SqL K H b []) (q : Q (.bl (!decide (xs = []))) H) : rNeD K (.ref a) (.ref b) H Q := by
  refine ⟨.list (xs.map dV), .list (([] : List V).map dV), .lst h1 (dp_leafs hl), .lst h2 .nil, shaped_list _ hl, shaped_list _ (fun y hy => nomatch hy), ?_⟩
  rw [eqvL]
  show Q (.bl (!PyData.eqvAll (xs.map dV) [])) H
  rw [eqv_nil]
  exact q
end

/-! ### slices -/
theorem cut_to {xs : List V} {k : Nat} {i : Int} (e : i = (k : Int)) : cutV xs none (some i) = xs.take k := by
  subst e
  unfold cutV
  rw [HT.sIx_none, HT.sIx_nat, List.drop_zero, Nat.sub_zero]
  rcases Nat.le_total k xs.length with h | h
  · rw [Nat.min_eq_left h]
  · rw [Nat.min_eq_right h, List.take_length, List.take_of_length_le h]
theorem cut_from {xs : List V} {k : Nat} {i : Int} (e : i = (k : Int)) : cutV xs (some i) none = xs.drop k := by
  subst e
  unfold cutV
  rw [HT.sIx_none, HT.sIx_nat]
  rcases Nat.le_total k xs.length with h | h
  · rw [Nat.min_eq_left h, List.take_of_length_le (by rw [List.length_drop]; omega)]
  · rw [Nat.min_eq_right h, Nat.sub_self, List.take_zero, List.drop_of_length_le h]
theorem cut_mid {xs : List V} {k m : Nat} {i j : Int} (e : i = (k : Int)) (e2 : j = (m : Int)) (hm : m ≤ xs.length) (hk : k ≤ m) : cutV xs (some i) (some j) = (xs.drop k).take (m - k) := by
  subst e e2
  unfold cutV
  rw [HT.sIx_nat, HT.sIx_nat, Nat.min_eq_left hm, Nat.min_eq_left (Nat.le_trans hk hm)]
theorem cs_take (cs : List Int) (k : Nat) : (Cs cs).take k = Cs (cs.take k) := by unfold Cs; rw [List.map_take]
theorem cs_drop (cs : List Int) (k : Nat) : (Cs cs).drop k = Cs (cs.drop k) := by unfold Cs; rw [List.map_drop]
theorem cs_inj {u v : List Int} (h : Cs u = Cs v) : u = v := by
  induction u generalizing v with
  | nil => cases v with
    | nil => rfl
    | cons y v => exact nomatch h
  | cons x u ih => cases v with
    | nil => exact nomatch h
    | cons y v =>
      have h : V.int x :: Cs u = V.int y :: Cs v := h
      injection h with h1 h2
      injection h1 with h1
      rw [h1, ih h2]
/-- whatever are all ints -/
theorem cs_of : ∀ {xs : List V}, (∀ x ∈ xs, ∃ i, x = V.int i) → ∃ w, xs = Cs w
  | [], _ => ⟨[], rfl⟩
  | x :: xs, h => by
    obtain ⟨i, rfl⟩ := h x List.mem_cons_self
    obtain ⟨w, rfl⟩ := cs_of (xs := xs) fun y hy => h y (List.mem_cons_of_mem _ hy)
    exact ⟨i :: w, rfl⟩
end K51
/-! K51: walks on a line. -/
namespace K51
open PySem PySem.Spec PyProof.Rows L2

abbrev s_goes_on_line : Stmt := topS 29
abbrev N_goes_on_line : List Str := ["value", "many", "place", "one", "other"]
theorem sc_goes_on_line : FnScope N_goes_on_line ["value", "many"] (defScope s_goes_on_line) := ⟨rfl, rfl, rfl, by decide +kernel, rfl, by decide +kernel, by decide +kernel⟩

abbrev s_halves_of : Stmt := topS 30
abbrev N_halves_of : List Str := ["row", "half"]
theorem sc_halves_of : FnScope N_halves_of ["row"] (defScope s_halves_of) := ⟨rfl, rfl, rfl, by decide +kernel, rfl, by decide +kernel, by decide +kernel⟩

abbrev s_is_alike : Stmt := topS 31
abbrev N_is_alike : List Str := ["one", "other", "colours", "place"]
theorem sc_is_alike : FnScope N_is_alike ["one", "other", "colours"] (defScope s_is_alike) := ⟨rfl, rfl, rfl, by decide +kernel, rfl, by decide +kernel, by decide +kernel⟩

theorem withinV_iff {x : V} {n : Int} : withinV x 0 (.int (n - 1)) = true ↔ ∃ i, x = .int i ∧ 0 ≤ i ∧ i < n := by
  cases x with
  | int i =>
    simp only [withinV, Bool.and_eq_true, decide_eq_true_eq]
    constructor
    · rintro ⟨a, b⟩
      exact ⟨i, rfl, a, by omega⟩
    · rintro ⟨j, e, a, b⟩
      injection e with e
      subst e
      exact ⟨a, by omega⟩
  | _ =>
    constructor
    · intro h
      exact absurd h Bool.false_ne_true
    · rintro ⟨i, e, _⟩
      cases e
/-- the steps of a walk are short -/
def stepsB (w : List Int) : List Bool := (List.range (w.length - 1)).map fun i => decide ((if w.getD i 0 - w.getD (i + 1) 0 < 0 then -(w.getD i 0 - w.getD (i + 1) 0) else w.getD i 0 - w.getD (i + 1) 0) ≤ 1)
theorem getD_of {w : List Int} {i : Nat} {x : Int} (h : w[i]? = some x) : w.getD i 0 = x := by rw [List.getD_eq_getElem?_getD, h]; rfl
theorem steps_iff {w : List Int} : (stepsB w).all id = true ↔ ∀ i x y, w[i]? = some x → w[i + 1]? = some y → x - y ≤ 1 ∧ y - x ≤ 1 := by
  unfold stepsB
  rw [List.all_eq_true]
  constructor
  · intro h i x y hx hy
    have hi : i + 1 < w.length := (List.getElem?_eq_some_iff.mp hy).1
    have := h _ (List.mem_map.mpr ⟨i, List.mem_range.mpr (by omega), rfl⟩)
    rw [getD_of hx, getD_of hy] at this
    have := of_decide_eq_true (show decide ((if x - y < 0 then -(x - y) else x - y) ≤ 1) = true from this)
    split at this <;> omega
  · intro h b hb
    obtain ⟨i, hi, rfl⟩ := List.mem_map.mp hb
    have hi := List.mem_range.mp hi
    have hx : w[i]? = some w[i] := List.getElem?_eq_getElem (by omega)
    have hy : w[i + 1]? = some w[i + 1] := List.getElem?_eq_getElem (by omega)
    have := h i _ _ hx hy
    rw [getD_of hx, getD_of hy]
    refine decide_eq_true ?_
    split <;> omega

theorem pg_pair {X : Cx} {K : PySem.W.Frag} {i j k : Nat} {x y : Str} {px py pos : Pos} (hN : X.N.Nodup) (hi : X.N[i]? = some x) (hj : X.N[j]? = some y) (lx : X.env.scope.names.lookup x = some .local) (ly : X.env.scope.names.lookup y = some .local) (hc : X.calm = true) (hK : X.K = K) :
    PG X (.Tuple [.Name x px, .Name y py] k pos) (gTup K 2 (gCons (gName i) (gCons (gName j) gNil))) := by
  subst hK
  exact pg_tup hc (pgs_cons (pg_name hN hi (.inl lx) (.inr lx)) (pgs_cons (pg_name hN hj (.inl ly) (.inr ly)) pgs_nil))
section
variable {X : Cx}
theorem ix_listK (K : PySem.W.Frag) (h : X.K = K) : IxR X (rIxL K) := by
  subst h
  exact ix_list
theorem ix_tupK (K : PySem.W.Frag) (h : X.K = K) : IxR X (rIxT K) := by
  subst h
  exact ix_tup
def rIxLT (K : PySem.W.Frag) : R2 := fun x y H Q => rIxL K x y H Q ∨ rIxT K x y H Q
theorem ix_ltK (K : PySem.W.Frag) (h : X.K = K) : IxR X (rIxLT K) := by
  subst h
  exact ix_list.or ix_tup
def rLenK (K : PySem.W.Frag) : List V → Hp → VK → Prop := fun xs H Q => ∃ p ys, xs = [.ref p] ∧ (SqL K H p ys ∨ SqT K H p ys) ∧ Q (.int (ys.length : Nat)) H
theorem call_lenK (K : PySem.W.Frag) (h : X.K = K) : CallR X (.builtin "len") (rLenK K) := by
  subst h
  exact call_len_seq
theorem call_isiKK (K : PySem.W.Frag) (h : X.K = K) : CallR X (.builtin "isinstance") (rIsi K) := by
  subst h
  exact call_isi
def rSlLT (K : PySem.W.Frag) : V → Option Int → Option Int → Hp → VK → Prop := fun x lo hi H Q => rSlL K x lo hi H Q ∨ rSlT K x lo hi H Q
theorem sl_lt : SlR X (rSlLT X.K) := sl_list.or sl_tup
end
section
variable {P : Program} {w : World} {K : PySem.W.Frag} {mg : Str → Option Value} {base : Heap} {ad : Ads} {f : Addr} {fd : FuncData}
theorem ok_goes (F : Fun K "goes_on_line" "goes_on_line" s_goes_on_line f fd) (T : Txt K mg ad) (d_is_within : Def P w K mg base "is_within" 2 sp_is_within) : FnOk P w K mg base CX0 3 f fd ["value", "many"] (sp_goes K) := by
  refine F.ok sc_goes_on_line (fun vs H Q E h => ?_) (fun cdv A outer s H vs Q E hr h => ?_)
  · obtain ⟨x, d, n, rfl, _⟩ := h
    rfl
  · obtain ⟨x, d, n, rfl, hx, hn0, q⟩ := h
    refine ⟨_, ((pss_cons (ps_if (PW.pt (pw_or (pt_not (pt_val (pe_callB call_isiT (by rfl) T.isinstance (by decide +kernel) (pa_cons (pv 0) (pa_cons (pe_tup (pa_cons (pe_bltn (v := .ty "list") (by rfl) T.list (by decide +kernel) rfl) (pa_cons (pe_bltn (v := .ty "tuple") (by rfl) T.tuple (by decide +kernel) rfl) pa_nil))) pa_nil))))) (pw_or1 (pt_cmpR op_eq (pe_callB call_len_seq (by rfl) T.len (by decide +kernel) (pa_cons (pv 0) pa_nil)) pe_int (nomark _))))) (pss_one (ps_ret pe_bl)) pss_nil)
      (pss_cons (ps_if (pt_not (pt_val (pe_callB (cr_all rfl) (by rfl) T.all (by decide +kernel) (pa_cons (pe_lc (own := [("place", 2)]) rfl sc_goes_on_line.nd (pi_tup (pv 0)) (blkOk_by (N := N_goes_on_line) (sc := defScope s_goes_on_line) (by decide +kernel)) (fun _ _ _ _ _ => pg_name (i := 2) sc_goes_on_line.nd rfl (Or.inl rfl)) (fun _ _ _ _ _ => pts_nil) (fun _ _ _ _ _ => (pe_callD d_is_within (hr.mono (by decide)) (by rfl) (pa_cons (pv 2) (pa_cons pe_int (pa_cons (pe_op op_sub (pv 1) pe_int) pa_nil)))))) pa_nil)))) (pss_one (ps_ret pe_bl)) pss_nil)
      (pss_one (ps_ret (pe_callB (cr_all rfl) (by rfl) T.all (by decide +kernel) (pa_cons (pe_lc (own := [("one", 3), ("other", 4)]) rfl sc_goes_on_line.nd (RZ.pi_zipA (by rfl) T.zip (pa_cons (pv 0) (pa_cons (pe_slice sl_tup (pv 0) (po_some pe_int) po_none) pa_nil))) (blkOk_by (N := N_goes_on_line) (sc := defScope s_goes_on_line) (by decide +kernel)) (fun _ _ _ _ _ => pg_pair (K := K) (i := 3) (j := 4) sc_goes_on_line.nd rfl rfl rfl rfl rfl rfl) (fun _ _ _ _ _ => pts_nil) (fun _ _ _ _ _ => (pe_cmpR op_le (pe_callB call_abs (by rfl) T.abs (by decide +kernel) (pa_cons (pe_op op_sub (pv 3) (pv 4)) pa_nil)) pe_int (nomark _)))) pa_nil))))))), ?_⟩
    refine ⟨_, rfl, (by show 2 ≤ sizeLine; decide), fun p hp => ?_⟩
    have s1 := same_new (o := .tup [V.ty "list", V.ty "tuple"]) hp
    cases d with
    | none =>
      obtain ⟨t, ht⟩ := hx
      exact ⟨x, p, _, _, _, _, rfl, upd_same, clsLT, leaf_ty ht, kit_lt_leaf ht, _, rfl, iteT (iteT (q _ _ s1 ⟨fun z => (nomatch z), fun ⟨w, e, _⟩ => (nomatch e)⟩))⟩
    | some xs =>
      obtain ⟨r, rfl, hS, hl, hz⟩ := hx
      refine ⟨.ref r, p, _, _, _, _, rfl, upd_same, clsLT, sqT_ty (sm_seqT s1 hS), kit_lt_tuple, _, rfl, iteF ?_⟩
      refine ⟨_, rfl, r, xs, rfl, .inr (sm_seqT s1 hS), rfl, _, rfl, ?_⟩
      refine ite2 (fun hn => ?_) (fun hn => ?_)
      · have e : xs.length = 0 := by
          have := of_decide_eq_true hn
          injection this with this
          omega
        refine q _ _ s1 ⟨fun z => (nomatch z), fun ⟨w, e1, e2, _⟩ => ?_⟩
        injection e1 with e1
        rw [e1, cs_len] at e
        exact absurd e e2
      · have hne : xs.length ≠ 0 := fun z => hn (decide_eq_true (by
          show V.int ((xs.length : Nat) : Int) = V.int 0
          rw [z]
          rfl))
        -- all places
        have wk : ∀ (Hh : Hp), Same H Hh → SqT K Hh r xs := fun Hh s => sm_seqT s hS
        refine ⟨_, rfl, r, rfl, ⟨xs, wk _ s1⟩, fun D hD => ?_⟩
        refine lcS (w := walk_tup (K := K) (a := r) (xs := xs)) (H0 := H) (fun i => (xs.take i).map fun x => V.bl (withinV x 0 (.int (n - 1)))) rfl (fun i hi => small_lt (by rw [List.length_map, List.length_take]; omega)) s1 hD wk ?_ (fun Hd sd hD2 => ?_)
        · rintro i y Hi H' Q1 Q0 hi sH hDi ⟨rfl, hy⟩ k1 k0
          obtain ⟨tn, ht, _⟩ := hl y (List.mem_of_getElem? hy)
          exact ⟨rfl, lcY ⟨_, rfl, _, rfl, _, _, rfl, rfl, y, tn, 0, .int (n - 1), rfl, ht, .inr ⟨_, rfl⟩, k1 _ _ (Same.refl _) (by rw [tk hy, List.map_append]; rfl)⟩⟩
        · rw [List.take_length] at hD2
          refine ⟨D, xs.map fun x => withinV x 0 (.int (n - 1)), rfl, SqL.of (by rw [List.map_map]; exact hD2), _, rfl, ?_⟩
          cases hb : (xs.map fun x => withinV x 0 (.int (n - 1))).all id with
          | false =>
            refine iteT (q _ _ sd ⟨fun z => (nomatch z), fun ⟨w, e1, e2, e3, _⟩ => ?_⟩)
            injection e1 with e1
            subst e1
            have : ((Cs w).map fun x => withinV x 0 (.int (n - 1))).all id = true := by
              rw [List.all_eq_true]
              intro b hb
              obtain ⟨x, hx, rfl⟩ := List.mem_map.mp hb
              obtain ⟨c, hc, rfl⟩ := List.mem_map.mp hx
              exact withinV_iff.mpr ⟨c, rfl, e3 c hc⟩
            rw [hb] at this
            cases this
          | true =>
            have hin : ∀ x ∈ xs, ∃ i, x = .int i ∧ 0 ≤ i ∧ i < n := fun x hx => by
              rw [List.all_eq_true] at hb
              exact withinV_iff.mp (hb _ (List.mem_map.mpr ⟨x, hx, rfl⟩))
            obtain ⟨w, rfl⟩ := cs_of fun x hx => (hin x hx).elim fun i h => ⟨i, h.1⟩
            rw [cs_len] at hz hne
            refine iteF ?_
            -- the steps
            refine ⟨_, rfl, _, rfl, _, rfl, r, Cs w, rfl, wk _ sd, ?_, fun c hc => ?_⟩
            · rw [show HT.sIx (Cs w).length 0 (some 1) = min 1 (Cs w).length from HT.sIx_nat _ 0 1, cs_len]
              omega
            · rw [cut_from (i := 1) (k := 1) rfl, cs_drop]
              have sc := sm_new (o := .tup (Cs (w.drop 1))) sd hc
              refine ⟨r, c, _, _, rfl, .inr ⟨wk _ sc, SqT.of upd_same, ?_⟩⟩
              intro D2 hD2'
              have hcH : ∀ Hh, Same (upd Hd c (.tup (Cs (w.drop 1)))) Hh → SqT K Hh c (Cs (w.drop 1)) := fun Hh s => SqT.of (s _ _ upd_same)
              refine lcS (w := walk_zipT (K := K) (a := r) (b := c) (xs := Cs w) (ys := Cs (w.drop 1)) (n := w.length - 1) (by rw [cs_len, cs_len, List.length_drop]; show _ = min _ _; omega)) (H0 := upd Hd c (.tup (Cs (w.drop 1))))
                (fun i => ((stepsB w).take i).map V.bl) rfl (fun i hi => small_lt (by rw [List.length_map, List.length_take]; omega)) (Same.refl _) hD2' (fun Hh s => ⟨wk _ (sc.trans s), hcH Hh s⟩) ?_ (fun He se hD3 => ?_)
              · rintro i y Hi H' Q1 Q0 hi sH hDi ⟨Tp, y1, y2, rfl, hT, rfl, g1, g2⟩ k1 k0
                obtain ⟨c1, e1, rfl, _⟩ := cs_get g1
                obtain ⟨c2, e2, rfl, _⟩ := cs_get g2
                rw [List.getElem?_drop, Nat.add_comm] at e2
                refine ⟨Tp, _, rfl, SqT.of upd_same, rfl, _, _, rfl, _, _, rfl, rfl, ?_⟩
                refine ⟨rfl, lcY ⟨_, rfl, _, rfl, _, _, rfl, rfl, _, rfl, _, _, rfl, rfl, k1 _ _ (same_new hT) ?_⟩⟩
                have hs : (stepsB w)[i]? = some (decide ((if c1 - c2 < 0 then -(c1 - c2) else c1 - c2) ≤ 1)) := by
                  unfold stepsB
                  rw [List.getElem?_map, List.getElem?_range hi, Option.map_some, getD_of e1, getD_of e2]
                rw [tk hs, List.map_append]
                rfl
              · refine ⟨D2, stepsB w, rfl, SqL.of ?_, q _ _ (sc.trans se) ?_⟩
                · have hl2 : (stepsB w).length = w.length - 1 := by simp [stepsB]
                  rw [← hl2, List.take_length] at hD3
                  exact hD3
                · rw [steps_iff]
                  constructor
                  · intro h
                    refine ⟨w, rfl, hne, fun x hx => ?_, h⟩
                    obtain ⟨i, e, h2⟩ := hin (.int x) (List.mem_map.mpr ⟨x, hx, rfl⟩)
                    injection e with e
                    subst e
                    exact h2
                  · rintro ⟨w', e, _, _, h⟩
                    injection e with e
                    rw [cs_inj e]
                    exact h
theorem ok_halves (F : Fun K "halves_of" "halves_of" s_halves_of f fd) (T : Txt K mg ad) : FnOk P w K mg base CX0 1 f fd ["row"] (sp_halves K) := by
  refine F.ok sc_halves_of (fun vs H Q E h => ?_) (fun cdv A outer s H vs Q E hr h => ?_)
  · obtain ⟨r, xs, rfl, _⟩ := h
    rfl
  · obtain ⟨r, xs, rfl, hS, hz, q⟩ := h
    refine ⟨_, ((pss_cons (ps_set (i := 1) sc_halves_of.nd rfl (.inl rfl) (pe_op op_fdivN (pe_callB call_len_seq (by rfl) T.len (by decide +kernel) (pa_cons (pv 0) pa_nil)) pe_int))
      (pss_one (ps_ret (pe_ifExp (PW.pt (pw_or (pt_cmpR op_eq (pe_callB call_len_seq (by rfl) T.len (by decide +kernel) (pa_cons (pv 0) pa_nil)) pe_int (nomark _)) (pw_or1 (pt_cmpR op_eq (pe_op op_modN (pe_callB call_len_seq (by rfl) T.len (by decide +kernel) (pa_cons (pv 0) pa_nil)) pe_int) pe_int (nomark _))))) pe_non (pe_tup (pa_cons (pe_callTy call_tuple_of (by rfl) T.tuple (by decide +kernel) (pa_cons (pe_slice sl_tup (pv 0) po_none (po_some (pv 1))) pa_nil)) (pa_cons (pe_callTy call_tuple_of (by rfl) T.tuple (by decide +kernel) (pa_cons (pe_slice sl_tup (pv 0) (po_some (pv 1)) po_none) pa_nil)) pa_nil)))))))), ?_⟩
    refine ⟨_, rfl, r, xs, rfl, .inr hS, _, _, rfl, rfl, ⟨by decide, by decide⟩, ?_⟩
    refine ⟨_, rfl, r, xs, rfl, .inr hS, rfl, _, rfl, ?_⟩
    refine ite2 (fun hn => ?_) (fun hn => ?_)
    · refine iteT (q H .non (Same.refl _) (.inl ⟨rfl, .inl ?_⟩))
      have := of_decide_eq_true hn
      injection this with this
      omega
    · have hne : xs.length ≠ 0 := fun z => hn (decide_eq_true (by
          show V.int ((xs.length : Nat) : Int) = V.int 0
          rw [z]
          rfl))
      refine ⟨_, rfl, r, xs, rfl, .inr hS, _, _, rfl, rfl, (by show (2 : Int) ≠ 0; decide), rfl, _, rfl, ?_⟩
      have em : ((xs.length : Int)).fmod 2 = ((xs.length % 2 : Nat) : Int) := by
        rw [Int.fmod_eq_emod_of_nonneg _ (by decide)]
        omega
      refine ite2 (fun hn2 => ?_) (fun hn2 => ?_)
      · refine q H .non (Same.refl _) (.inl ⟨rfl, .inr ?_⟩)
        have := of_decide_eq_true hn2
        injection this with this
        rw [em] at this
        omega
      · have hev : xs.length % 2 = 0 := by
          rcases Nat.mod_two_eq_zero_or_one xs.length with e | e
          · exact e
          · exfalso
            refine hn2 (decide_eq_true ?_)
            show V.int (((xs.length : Int)).fmod 2) = V.int 1
            rw [em, e]
            rfl
        refine ⟨_, rfl, _, rfl, _, rfl, r, xs, rfl, hS, ?_, fun a ha => ?_⟩
        · rw [fdiv2, HT.sIx_nat]
          rintro ⟨_, h⟩
          omega
        have sa := same_new (o := .tup (xs.take (xs.length / 2))) ha
        rw [cut_to (k := xs.length / 2) (by exact fdiv2 _)]
        refine ⟨a, _, rfl, .inr ⟨SqT.of upd_same, ?_⟩⟩
        refine ⟨_, rfl, _, rfl, _, rfl, r, xs, rfl, sm_seqT sa hS, ?_, fun b hb => ?_⟩
        · rw [fdiv2, HT.sIx_nat]
          rintro ⟨h, _⟩
          omega
        rw [cut_from (k := xs.length / 2) (by exact fdiv2 _)]
        have sb := sm_new (o := .tup (xs.drop (xs.length / 2))) sa hb
        refine ⟨b, _, rfl, .inr ⟨SqT.of upd_same, (by show 2 ≤ sizeLine; decide), fun p hp => ?_⟩⟩
        have sp := same_new (o := .tup [V.ref a, V.ref b]) hp
        refine q _ (.ref p) (sb.trans sp) (.inr ⟨p, a, b, rfl, upd_same, sp _ _ ((same_new hb) _ _ upd_same), sp _ _ upd_same, hne, hev⟩)
theorem seen_of {cs u : List Int} (h : ∀ x ∈ u, 0 ≤ x ∧ x < (cs.length : Int)) : ∃ z : List Int, Seen cs u = z.map some ∧ z.length = u.length ∧ ∀ (i : Nat) (x : Int), u[i]? = some x → z[i]? = cs[x.toNat]? := by
  induction u with
  | nil => exact ⟨[], rfl, rfl, fun i x h => nomatch h⟩
  | cons x u ih =>
    obtain ⟨z, e1, e2, e3⟩ := ih fun y hy => h y (List.mem_cons_of_mem _ hy)
    obtain ⟨h0, h1⟩ := h x List.mem_cons_self
    obtain ⟨c, hc⟩ := get_lt (cs := cs) (j := x.toNat) (by omega)
    refine ⟨c :: z, ?_, by rw [List.length_cons, List.length_cons, e2], fun i y hy => ?_⟩
    · show cs[x.toNat]? :: Seen cs u = some c :: z.map some
      rw [hc, e1]
    · cases i with
      | zero =>
        have : x = y := Option.some.inj hy
        subst this
        exact hc.symm
      | succ i => exact e3 i y hy
theorem map_some_inj {u v : List Int} : u.map some = v.map some ↔ u = v := by
  constructor
  · intro h
    induction u generalizing v with
    | nil => cases v with
      | nil => rfl
      | cons _ _ => exact nomatch h
    | cons x u ih => cases v with
      | nil => exact nomatch h
      | cons y v =>
        rw [List.map_cons, List.map_cons] at h
        injection h with h1 h2
        injection h1 with h1
        rw [h1, ih h2]
  · intro h
    rw [h]
theorem ok_alike (F : Fun K "is_alike" "is_alike" s_is_alike f fd) (T : Txt K mg ad) : FnOk P w K mg base CX0 1 f fd ["one", "other", "colours"] (sp_alike K) := by
  refine F.ok sc_is_alike (fun vs H Q E h => ?_) (fun cdv A outer s H vs Q E hr h => ?_)
  · obtain ⟨a, b, c, u, v, cs, rfl, _⟩ := h
    rfl
  · obtain ⟨a, b, c, u, v, cs, rfl, hA, hB, hC, hu, hv, hzu, hzv, q⟩ := h
    obtain ⟨z1, y1, l1, g1⟩ := seen_of hu
    obtain ⟨z2, y2, l2, g2⟩ := seen_of hv
    refine ⟨_, ((pss_one (ps_ret (pe_cmpR (op_eqD hr.units) (pe_lc (own := [("place", 3)]) rfl sc_is_alike.nd (pi_tup (pv 0)) (blkOk_by (N := N_is_alike) (sc := defScope s_is_alike) (by decide +kernel)) (fun _ _ _ _ _ => pg_name (i := 3) sc_is_alike.nd rfl (Or.inl rfl)) (fun _ _ _ _ _ => pts_nil) (fun _ _ _ _ _ => (pe_ix (ix_tupK K rfl) (pv 2) (pv 3) (fun _ _ => rfl)))) (pe_lc (own := [("place", 3)]) rfl sc_is_alike.nd (pi_tup (pv 1)) (blkOk_by (N := N_is_alike) (sc := defScope s_is_alike) (by decide +kernel)) (fun _ _ _ _ _ => pg_name (i := 3) sc_is_alike.nd rfl (Or.inl rfl)) (fun _ _ _ _ _ => pts_nil) (fun _ _ _ _ _ => (pe_ix (ix_tupK K rfl) (pv 2) (pv 3) (fun _ _ => rfl)))) (nomark _))))), ?_⟩
    refine ⟨_, rfl, a, rfl, ⟨_, hA⟩, fun D hD => ?_⟩
    refine lcS (w := walk_tup (K := K) (a := a) (xs := Cs u)) (H0 := H) (fun i => Cs (z1.take i)) rfl (fun i hi => small_lt (by rw [cs_len, List.length_take]; omega)) (Same.refl _) hD (fun Hh s => sm_seqT s hA) ?_ (fun Hd sd hDd => ?_)
    · rintro i y Hi H' Q1 Q0 hi sH hDi ⟨rfl, hy⟩ k1 k0
      obtain ⟨x, hx, rfl, hm⟩ := cs_get hy
      obtain ⟨h0, h1⟩ := hu x hm
      obtain ⟨c', hc'⟩ := get_lt (cs := cs) (j := x.toNat) (by omega)
      exact ⟨rfl, lcY ⟨_, rfl, _, rfl, c, Cs cs, _, _, rfl, rfl, sm_seqT sH hC, at_cs (j := x.toNat) (by omega) hc', k1 _ _ (Same.refl _) (by rw [tk (by rw [g1 i x hx]; exact hc'), cs_app])⟩⟩
    · rw [cs_len, ← l1, List.take_length] at hDd
      refine ⟨_, rfl, b, rfl, ⟨_, sm_seqT sd hB⟩, fun D2 hD2 => ?_⟩
      refine lcS (w := walk_tup (K := K) (a := b) (xs := Cs v)) (H0 := Hd) (fun i => Cs (z2.take i)) rfl (fun i hi => small_lt (by rw [cs_len, List.length_take]; omega)) (Same.refl _) hD2 (fun Hh s => sm_seqT (sd.trans s) hB) ?_ (fun He se hDe => ?_)
      · rintro i y Hi H' Q1 Q0 hi sH hDi ⟨rfl, hy⟩ k1 k0
        obtain ⟨x, hx, rfl, hm⟩ := cs_get hy
        obtain ⟨h0, h1⟩ := hv x hm
        obtain ⟨c', hc'⟩ := get_lt (cs := cs) (j := x.toNat) (by omega)
        exact ⟨rfl, lcY ⟨_, rfl, _, rfl, c, Cs cs, _, _, rfl, rfl, sm_seqT (sd.trans sH) hC, at_cs (j := x.toNat) (by omega) hc', k1 _ _ (Same.refl _) (by rw [tk (by rw [g2 i x hx]; exact hc'), cs_app])⟩⟩
      · rw [cs_len, ← l2, List.take_length] at hDe
        refine rd_eqL (SqL.of (se _ _ hDd)) (SqL.of hDe) (q _ _ (sd.trans se) ?_)
        rw [decide_eq_true_iff, y1, y2, map_some_inj]
end
end K51
/-! K51: lines are judged, papers shown. -/
namespace K51
open PySem PySem.Spec PyProof.Rows L2

abbrev s_stray_in : Stmt := topS 32
abbrev N_stray_in : List Str := ["colours", "place", "found"]
theorem sc_stray_in : FnScope N_stray_in ["colours"] (defScope s_stray_in) := ⟨rfl, rfl, rfl, by decide +kernel, rfl, by decide +kernel, by decide +kernel⟩

abbrev s_judged_line : Stmt := topS 34
abbrev N_judged_line : List Str := ["colours", "told", "walk"]
theorem sc_judged_line : FnScope N_judged_line ["colours"] (defScope s_judged_line) := ⟨rfl, rfl, rfl, by decide +kernel, rfl, by decide +kernel, by decide +kernel⟩

abbrev s_shows_line : Stmt := topS 35
abbrev N_shows_line : List Str := ["colours", "value", "right", "halves"]
theorem sc_shows_line : FnScope N_shows_line ["colours", "value"] (defScope s_shows_line) := ⟨rfl, rfl, rfl, by decide +kernel, rfl, by decide +kernel, by decide +kernel⟩

theorem rgV_rng (b k : Nat) : rgV (b : Int) ((b : Int) + 2 * (k : Int)) = Cs (rng (b : Int) (2 * k)) := by
  unfold rgV Cs rng
  rw [List.map_map, show (((b : Int) + 2 * (k : Int)) - (b : Int)).toNat = 2 * k by omega]
  rfl
theorem made_same {H H' : Hp} {x dx : Addr} {o u : HO} (h1 : H x = none) (h2 : H dx = none) (k : Kx x (upd (upd H dx u) x o) H') : Same H H' := fun b v e => by
  have n1 := ne_of_none e h1
  have n2 := ne_of_none e h2
  exact k b v n1 (by rw [upd_ne n1, upd_ne n2]; exact e)
theorem wout_some {H : Hp} {x : V} {xs : List V} {y : V} (h : WOut H x (some xs) y) : ∃ r, y = .ref r ∧ H r = some (.tup xs) := h

section
variable {P : Program} {w : World} {K : PySem.W.Frag} {mg : Str → Option Value} {base : Heap} {ad : Ads} {f : Addr} {fd : FuncData}
theorem ok_stray_in (F : Fun K "stray_in" "stray_in" s_stray_in f fd) (T : Txt K mg ad) (d_least_repeat : Def P w K mg base "least_repeat" 1 (sp_least_repeat K)) : FnOk P w K mg base CX0 2 f fd ["colours"] (sp_stray_in K) := by
  refine F.ok sc_stray_in (fun vs H Q E h => ?_) (fun cdv A outer s H vs Q E hr h => ?_)
  · obtain ⟨t, cs, rfl, _⟩ := h
    rfl
  · obtain ⟨t, cs, rfl, hS, hz, q⟩ := h
    refine ⟨_, ((pss_cons (ps_for PassesOwn.never rfl (pi_range2 (by rfl) T.range (pa_cons pe_int (pa_cons (pe_op op_sub (pe_callB call_len_seq (by rfl) T.len (by decide +kernel) (pa_cons (pv 0) pa_nil)) pe_int) pa_nil))) (pg_name (i := 1) sc_stray_in.nd rfl (.inl rfl)) (pss_one (ps_if (pt_cmpR op_eq (pe_ix ix_tup (pv 0) (pe_op op_sub (pv 1) pe_int) (fun _ _ => rfl)) (pe_ix ix_tup (pv 0) (pe_op op_add (pv 1) pe_int) (fun _ _ => rfl)) (nomark _)) (pss_one (ps_ret (pe_tup (pa_cons (pv 1) (pa_cons (pe_op op_sub (pv 1) pe_int) (pa_cons (pv 1) (pa_cons (pe_op op_add (pv 1) pe_int) pa_nil))))))) pss_nil)))
      (pss_cons (ps_set (i := 2) sc_stray_in.nd rfl (.inl rfl) (pe_callD d_least_repeat (hr.mono (by decide)) (by rfl) (pa_cons (pv 0) pa_nil)))
      (pss_one (ps_ret (pe_ifExp (pt_cmpR op_isN (pv 2) pe_non (nomark _)) pe_non (pe_tupRg rfl (by rfl) T.tuple (prg_2 (by rfl) T.range (pe_ix ix_tup (pv 2) pe_int (fun _ _ => rfl)) (pe_op op_add (pe_ix ix_tup (pv 2) pe_int (fun _ _ => rfl)) (pe_op op_mul pe_int (pe_ix ix_tup (pv 2) pe_int (fun _ _ => rfl)))))))))))), ?_⟩
    refine ⟨_, rfl, t, Cs cs, rfl, .inr hS, _, _, rfl, rfl, 1, _, rfl, ?_⟩
    rw [cs_len]
    refine ⟨by omega, ?_⟩
    have en : ((cs.length : Int) - 1 - 1).toNat = cs.length - 2 := by omega
    rw [en]
    refine for_range (lo := 1) (n := cs.length - 2) (fun i σ H' => H' = H ∧ ∃ y1 y2, σ = [some (.ref t), y1, y2] ∧ ∀ j, j < i → cs[j]? ≠ cs[j + 2]?) ⟨rfl, _, _, rfl, fun j h => absurd h (by omega)⟩ ?_ ?_
    · rintro i σ H1 hi ⟨rfl, y1, y2, rfl, hno⟩
      obtain ⟨c1, e1⟩ := get_lt (cs := cs) (j := i) (by omega)
      obtain ⟨c2, e2⟩ := get_lt (cs := cs) (j := i + 2) (by omega)
      refine ⟨_, rfl, _, rfl, _, _, rfl, rfl, t, Cs cs, _, _, rfl, rfl, hS, at_cs (j := i) (by omega) e1, _, rfl, _, rfl, _, _, rfl, rfl, t, Cs cs, _, _, rfl, rfl, hS, at_cs (j := i + 2) (by omega) e2, rfl, _, rfl, ?_⟩
      refine ite2 (fun hn => ?_) (fun hn => ?_)
      · have ec : c1 = c2 := by
          have := of_decide_eq_true hn
          injection this
        refine ⟨_, rfl, _, rfl, _, _, rfl, rfl, _, rfl, _, rfl, _, _, rfl, rfl, (by show 4 ≤ sizeLine; decide), fun p hp => ?_⟩
        have h3 : i + 2 < cs.length := by omega
        have he : cs[i]? = cs[i + 2]? := by rw [e1, e2, ec]
        refine q _ (.ref p) (same_new hp) (.inr ⟨p, _, rfl, ?_, stray_three h3 he, by simp, fun C => C.1 ⟨i, h3, he⟩⟩)
        rw [upd_same]
        show some (HO.tup [V.int (1 + (i : Int)), V.int (1 + (i : Int) - 1), V.int (1 + (i : Int)), V.int (1 + (i : Int) + 1)]) = some (HO.tup [V.int ((i + 1 : Nat) : Int), V.int (i : Int), V.int ((i + 1 : Nat) : Int), V.int ((i + 2 : Nat) : Int)])
        rw [show (1 + (i : Int) - 1) = (i : Int) by omega, show (1 + (i : Int) + 1) = ((i + 2 : Nat) : Int) by omega, show (1 + (i : Int)) = ((i + 1 : Nat) : Int) by omega]
      · refine ⟨rfl, _, _, rfl, fun j hj => ?_⟩
        by_cases hj2 : j = i
        · subst hj2
          intro e
          rw [e1, e2] at e
          exact hn (decide_eq_true (by rw [Option.some.inj e]))
        · exact hno j (by omega)
    · rintro σ H1 ⟨rfl, y1, y2, rfl, hno⟩
      have nt : ¬ Three cs := fun ⟨i, h1, h2⟩ => hno i (by omega) h2
      refine ⟨_, rfl, t, cs, rfl, hS, hz, fun H2 r s2 hr' => ?_⟩
      rcases hr' with ⟨rfl, hq⟩ | ⟨p, b, k, rfl, hp, hq⟩
      · exact ⟨_, rfl, rfl, _, rfl, iteT (q _ _ s2 (.inl ⟨rfl, nt, hq⟩))⟩
      · refine ⟨_, rfl, rfl, _, rfl, iteF ?_⟩
        obtain ⟨k1, k2, k3⟩ := id hq
        refine ⟨_, rfl, p, _, _, _, rfl, rfl, SqT.of hp, by rfl, _, rfl, p, _, _, _, rfl, rfl, SqT.of hp, by rfl, _, rfl, p, _, _, _, rfl, rfl, SqT.of hp, by rfl, _, _, rfl, rfl, .inl ⟨by decide, by decide⟩, _, _, rfl, rfl, _, _, rfl, rfl, ?_, fun p2 hp2 => ?_⟩
        · refine RgOk.of_le (by omega) (by omega) (by omega) (by omega)
        · refine q _ (.ref p2) (sm_new s2 hp2) (.inr ⟨p2, _, rfl, by rw [upd_same, rgV_rng], stray_sq hq, by rw [rng_length]; omega, fun C => C.2 b k hq⟩)
theorem ok_judged (F : Fun K "judged_line" "judged_line" s_judged_line f fd) (T : Txt K mg ad) (d_need_colours : Def P w K mg base "need_colours" 4 (sp_need_colours K)) (d_stray_in : Def P w K mg base "stray_in" 2 (sp_stray_in K))
    (c_Calm : Cl P w K mg base "Calm" ad.calm 5 (sp_calm ad)) (c_Stray : Cl P w K mg base "Stray" ad.stray 5 (sp_stray K ad)) : FnOk P w K mg base CX0 7 f fd ["colours"] (sp_judged K ad) := by
  refine F.ok sc_judged_line (fun vs H Q E h => ?_) (fun cdv A outer s H vs Q E hr h => ?_)
  · obtain ⟨x, cs, rfl, _⟩ := h
    rfl
  · obtain ⟨x, cs, rfl, hc, q⟩ := h
    refine ⟨_, ((pss_cons (ps_set (i := 1) sc_judged_line.nd rfl (.inl rfl) (pe_callD d_need_colours (hr.mono (by decide)) (by rfl) (pa_cons (pv 0) pa_nil)))
      (pss_cons (ps_if (pt_cmpR op_gt (pe_callB call_len_seq (by rfl) T.len (by decide +kernel) (pa_cons (pv 1) pa_nil)) (pe_const T.cMOST_JUDGED) (nomark _)) (pss_one ps_never) pss_nil)
      (pss_cons (ps_set (i := 2) sc_judged_line.nd rfl (.inl rfl) (pe_callD d_stray_in (hr.mono (by decide)) (by rfl) (pa_cons (pv 1) pa_nil)))
      (pss_one (ps_ret (pe_ifExp (pt_cmpR op_isN (pv 2) pe_non (nomark _)) (pe_makeC0 c_Calm (hr.mono (by decide)) (by rfl)) (pe_makeC c_Stray (hr.mono (by decide)) (by rfl) (pa_cons (pv 2) pa_nil))))))))), ?_⟩
    have hz : cs.length ≤ 400 := hc.elim fun _ h => h.2.2.2
    refine ⟨_, rfl, x, cs, rfl, hc, fun H1 t s1 hS => ?_⟩
    refine ⟨_, rfl, t, Cs cs, rfl, .inr hS, _, _, rfl, rfl, _, rfl, ?_⟩
    rw [cs_len, show decide ((400 : Int) < (cs.length : Int)) = false from decide_eq_false (by omega)]
    refine iteF ?_
    refine ⟨_, rfl, t, cs, rfl, hS, hz, fun H2 r s2 hr' => ?_⟩
    rcases hr' with ⟨rfl, hC⟩ | ⟨p, wk, rfl, hp, hw, hl, hC⟩
    · refine ⟨_, rfl, rfl, _, rfl, iteT ?_⟩
      intro y dx hy hdx hne
      refine ⟨y, dx, rfl, upd_same, fun H3 k3 hc3 => ⟨rfl, ?_⟩⟩
      exact q H3 y ((s1.trans s2).trans (made_same hy hdx k3)) (.inl ⟨hc3, hC⟩)
    · refine ⟨_, rfl, rfl, _, rfl, iteF ?_⟩
      refine ⟨_, rfl, ?_⟩
      intro y dx hy hdx hne
      have hpy : p ≠ y := ne_of_none hp hy
      have hpd : p ≠ dx := ne_of_none hp hdx
      refine ⟨y, dx, .ref p, some (Cs wk), rfl, upd_same, ⟨p, rfl, .inr (SqT.of (by rw [upd_ne hpy, upd_ne hpd]; exact hp)), lf_cs wk, by rw [cs_len]; omega⟩, fun H3 z k3 hs3 wo => ⟨rfl, ?_⟩⟩
      obtain ⟨r, rfl, hr3⟩ := wout_some wo
      exact q H3 y ((s1.trans s2).trans (made_same hy hdx k3)) (.inr ⟨r, wk, hs3, hr3, hw, hl, hC⟩)
theorem stray_goes {cs wk : List Int} (h : StrayW cs wk) : GoesP (cs.length : Int) (some (Cs wk)) := ⟨wk, rfl, h.1, h.2.2.1, h.2.2.2.1⟩
theorem ok_shows (F : Fun K "shows_line" "shows_line" s_shows_line f fd) (T : Txt K mg ad) (d_judged_line : Def P w K mg base "judged_line" 7 (sp_judged K ad)) (d_goes_on_line : Def P w K mg base "goes_on_line" 3 (sp_goes K)) (d_halves_of : Def P w K mg base "halves_of" 1 (sp_halves K))
    (d_is_alike : Def P w K mg base "is_alike" 1 (sp_alike K)) (bC : BoolOf P w K mg base ad.calm true) (bS : BoolOf P w K mg base ad.stray false) : FnOk P w K mg base CX0 8 f fd ["colours", "value"] (sp_shows K ad) := by
  refine F.ok sc_shows_line (fun vs H Q E h => ?_) (fun cdv A outer s H vs Q E hr h => ?_)
  · obtain ⟨x, cs, v, sh, rfl, _⟩ := h
    rfl
  · obtain ⟨x, cs, v, sh, rfl, hc, hv, q⟩ := h
    refine ⟨_, ((pss_cons (ps_set (i := 2) sc_shows_line.nd rfl (.inl rfl) (pe_callD d_judged_line (hr.mono (by decide)) (by rfl) (pa_cons (pv 0) pa_nil)))
      (pss_cons (ps_if (pt_val (pe_callB call_isi (by rfl) T.isinstance (by decide +kernel) (pa_cons (pv 1) (pa_cons (pe_glob (v := .ref ad.calm) (by rfl) T.gCalm rfl) pa_nil)))) (pss_one (ps_ret (pe_callTy (call_bool_ins (hr.mono (by decide))) (by rfl) T.bool (by decide +kernel) (pa_cons (pv 2) pa_nil)))) pss_nil)
      (pss_cons (ps_if (PW.pt (pw_or (pt_not (pt_val (pe_callB call_isi (by rfl) T.isinstance (by decide +kernel) (pa_cons (pv 1) (pa_cons (pe_glob (v := .ref ad.stray) (by rfl) T.gStray rfl) pa_nil))))) (pw_or1 (pt_not (pt_val (pe_callD d_goes_on_line (hr.mono (by decide)) (by rfl) (pa_cons (pe_fld (pv 1) rfl) (pa_cons (pe_callB call_len_seq (by rfl) T.len (by decide +kernel) (pa_cons (pv 0) pa_nil)) pa_nil)))))))) (pss_one (ps_ret pe_bl)) pss_nil)
      (pss_cons (ps_set (i := 3) sc_shows_line.nd rfl (.inl rfl) (pe_callD d_halves_of (hr.mono (by decide)) (by rfl) (pa_cons (pe_fld (pv 1) rfl) pa_nil)))
      (pss_one (ps_ret (pe_and (pe_cmpR op_notN (pv 3) pe_non (nomark _)) (pe_and (pe_cmpR (op_neD hr.units) (pe_ix ix_tup (pv 3) pe_int (fun _ _ => rfl)) (pe_ix ix_tup (pv 3) pe_int (fun _ _ => rfl)) (nomark _)) (pe_one (pe_callD d_is_alike (hr.mono (by decide)) (by rfl) (pa_cons (pe_ix ix_tup (pv 3) pe_int (fun _ _ => rfl)) (pa_cons (pe_ix ix_tup (pv 3) pe_int (fun _ _ => rfl)) (pa_cons (pe_callTy call_tuple_of (by rfl) T.tuple (by decide +kernel) (pa_cons (pv 0) pa_nil)) pa_nil)))))))))))))), ?_⟩
    refine ⟨_, rfl, x, cs, rfl, hc, fun H1 jr s1 hj => ?_⟩
    obtain ⟨ca, rfl, hS, hp0, hz⟩ := hc
    have calmR : ∀ (Qb : V → Hp → Prop), (∀ b, (b = true ↔ Calm cs) → Qb (.bl b) H1) → ∃ (a C dx : Addr) (fs : List (Str × V)) (b : Bool), [V.ref jr] = [.ref a] ∧ H1 a = some (.ins C dx fs) ∧ BoolOf P w K mg base C b ∧ Qb (.bl b) H1 := by
      intro Qb hq
      rcases hj with ⟨⟨dx, fs, h1, _⟩, hC⟩ | ⟨r, wk, ⟨dx, fs, h1, _⟩, _, _, _, hC⟩
      · exact ⟨jr, ad.calm, dx, fs, true, rfl, h1, bC, hq true ⟨fun _ => hC, fun _ => rfl⟩⟩
      · exact ⟨jr, ad.stray, dx, fs, false, rfl, h1, bS, hq false ⟨fun z => (nomatch z), fun z => absurd z hC⟩⟩
    -- isinstance(value, Calm), isinstance(value, Stray)
    have other : ∀ t, TyX K H1 v t → PySem.W.kitOne K t (.ref ad.calm) = some false → PySem.W.kitOne K t (.ref ad.stray) = some false → ShownP cs sh = False →
        ∃ (x c : V) (t u : Value) (b : Bool), [v, V.ref ad.calm] = [x, c] ∧ ClsV c u ∧ TyX K H1 x t ∧ PySem.W.kitOne K t u = some b ∧ ∃ c, V.bl b = .bl c ∧ if c = true then False else ∃ (x c : V) (t u : Value) (b : Bool), [v, V.ref ad.stray] = [x, c] ∧ ClsV c u ∧ TyX K H1 x t ∧ PySem.W.kitOne K t u = some b ∧ ∃ c, V.bl b = .bl c ∧ (c = false ∧ Q (.bl false) H1) := by
      intro t ht k1 k2 e
      exact ⟨_, _, t, _, false, rfl, .own _, ht, k1, _, rfl, iteF ⟨_, _, t, _, false, rfl, .own _, ht, k2, _, rfl, rfl, q H1 false s1 ⟨fun z => (nomatch z), fun z => (e ▸ z : False).elim⟩⟩⟩
    cases sh with
    | calm =>
      obtain ⟨y, rfl, hy⟩ := hv
      obtain ⟨dx, fs, h1, h2⟩ := hy.keep s1
      refine ⟨_, rfl, _, _, _, _, true, rfl, .own _, ins_ty T T.iCalm h1, T.kc.1, _, rfl, iteT ?_⟩
      exact ⟨_, rfl, calmR Q fun b hb => q H1 b s1 hb⟩
    | other =>
      have go : ∃ t, TyX K H1 v t ∧ PySem.W.kitOne K t (.ref ad.calm) = some false ∧ PySem.W.kitOne K t (.ref ad.stray) = some false := by
        rcases hv with ⟨n, hn⟩ | ⟨y, rfl, hy⟩ | ⟨y, xs, rfl, hy⟩
        · exact ⟨_, leaf_ty hn, T.kb n (leaf_mem hn) _ (by simp), T.kb n (leaf_mem hn) _ (by simp)⟩
        · obtain ⟨C, dx, fs, hC, h1⟩ := hy.keep s1
          rcases hC with rfl | rfl
          · exact ⟨_, ins_ty T T.iPaper h1, T.kp.1, T.kp.2⟩
          · exact ⟨_, ins_ty T T.iDenial h1, T.kd.1, T.kd.2⟩
        · exact ⟨_, sqT_ty (sm_seqT s1 hy), T.kb _ (by decide +kernel) _ (by simp), T.kb _ (by decide +kernel) _ (by simp)⟩
      obtain ⟨t, ht, k1, k2⟩ := go
      refine ⟨_, rfl, _, _, t, _, false, rfl, .own _, ht, k1, _, rfl, iteF ?_⟩
      refine ⟨_, rfl, _, _, t, _, false, rfl, .own _, ht, k2, _, rfl, iteT (iteT ?_)⟩
      exact q H1 false s1 ⟨fun z => (nomatch z), fun z => z.elim⟩
    | stray d =>
      obtain ⟨y, wv, rfl, hy, hw⟩ := hv
      obtain ⟨dx, fs, h1, h2, h3⟩ := hy.keep s1
      refine ⟨_, rfl, _, _, _, _, false, rfl, .own _, ins_ty T T.iStray h1, T.ks.1, _, rfl, iteF ?_⟩
      refine ⟨_, rfl, _, _, _, _, true, rfl, .own _, ins_ty T T.iStray h1, T.ks.2.1, _, rfl, iteF ?_⟩
      have nwk := (T.nw ad.stray (by simp)).2.2
      have lenR : ∀ (Hh : Hp), Same H Hh → (SqL K Hh ca (Cs cs) ∨ SqT K Hh ca (Cs cs)) := fun Hh s => hS.elim (fun h => .inl (s.seq h)) fun h => .inr (sm_seqT s h)
      refine ⟨_, rfl, y, ad.stray, dx, fs, wv, rfl, h1, T.iStray.cl, nwk, h3, _, rfl, ca, Cs cs, rfl, lenR _ s1, wv, d, _, rfl, hw.keep s1, ?_, fun H2 b s2 hb => ?_⟩
      · omega
      rw [cs_len] at hb
      cases b with
      | false =>
        refine ⟨_, rfl, iteT (q H2 false (s1.trans s2) ⟨fun z => (nomatch z), fun ⟨wk, e, hs⟩ => ?_⟩)⟩
        exact (nomatch hb.mpr (e ▸ stray_goes hs))
      | true =>
        refine ⟨_, rfl, iteF ?_⟩
        obtain ⟨wk, rfl, g1, g2, g3⟩ := hb.mp rfl
        obtain ⟨r, rfl, hr1, _, hl⟩ := hw
        rw [cs_len] at hl
        have h12 := s2 _ _ h1
        refine ⟨_, rfl, y, ad.stray, dx, fs, .ref r, rfl, h12, T.iStray.cl, nwk, h3, r, Cs wk, rfl, sm_seqT (s1.trans s2) hr1, by rw [cs_len]; exact hl, fun H3 hv3 s3 hh => ?_⟩
        have s03 := (s1.trans s2).trans s3
        rcases hh with ⟨rfl, ho⟩ | ⟨p, a, b, rfl, hp, ha, hb2, ho⟩
        · refine ⟨_, rfl, rfl, _, rfl, iteF ?_⟩
          rw [cs_len] at ho
          refine q H3 false s03 ⟨fun z => (nomatch z), fun ⟨w2, e, hs⟩ => ?_⟩
          injection e with e
          have e := cs_inj e
          subst e
          have := hs.2.1
          omega
        · refine ⟨_, rfl, rfl, _, rfl, iteT ?_⟩
          rw [cs_len, cs_take] at ha
          rw [cs_len, cs_drop] at hb2
          rw [cs_len] at ho
          refine ⟨_, rfl, p, _, _, _, rfl, rfl, SqT.of hp, by rfl, _, rfl, p, _, _, _, rfl, rfl, SqT.of hp, by rfl, ?_⟩
          refine rd_neT (SqT.of ha) (SqT.of hb2) ⟨_, rfl, ?_⟩
          have only : ∀ w2, some (Cs wk) = some (Cs w2) → w2 = wk := fun w2 e => by
            injection e with e
            exact (cs_inj e).symm
          by_cases hd : wk.take (wk.length / 2) = wk.drop (wk.length / 2)
          · rw [decide_eq_true hd]
            refine iteF (q H3 false s03 ⟨fun z => (nomatch z), fun ⟨w2, e, hs⟩ => ?_⟩)
            have := only w2 e
            subst this
            exact (hs.2.2.2.2.2 hd).elim
          · rw [decide_eq_false hd]
            refine iteT ?_
            have fin : ∀ (H4 : Hp) (c : Addr), Same H3 H4 → SqT K H4 c (Cs cs) → sp_alike K [.ref a, .ref b, .ref c] H4 Q E0 := by
              intro H4 c s4 hc4
              refine ⟨a, b, c, _, _, cs, rfl, SqT.of (s4 _ _ ha), SqT.of (s4 _ _ hb2), hc4, fun x hx => g2 x (List.mem_of_mem_take hx), fun x hx => g2 x (List.mem_of_mem_drop hx), by rw [List.length_take]; omega, by rw [List.length_drop]; omega, fun H5 k s5 hk => ?_⟩
              refine q H5 k ((s03.trans s4).trans s5) (hk.trans ⟨fun e => ⟨wk, rfl, g1, ho.2, g2, g3, e, hd⟩, fun ⟨w2, e, hs⟩ => ?_⟩)
              have := only w2 e
              subst this
              exact hs.2.2.2.2.1
            refine ⟨_, rfl, p, _, _, _, rfl, rfl, SqT.of hp, by rfl, _, rfl, p, _, _, _, rfl, rfl, SqT.of hp, by rfl, _, rfl, ?_⟩
            rcases lenR H3 s03 with hS3 | hS3
            · exact ⟨ca, Cs cs, rfl, .inl ⟨hS3, fun l hl => fin _ l (same_new hl) (SqT.of upd_same)⟩⟩
            · exact ⟨ca, Cs cs, rfl, .inr ⟨hS3, fin _ ca (Same.refl _) hS3⟩⟩
end
end K51
/-! K51: what draws. -/
namespace K51
open PySem PySem.Spec PyProof.Rows L2

abbrev s_law_cord : Stmt := topS 37
abbrev N_law_cord : List Str := ["_law_script", "_law_cell"]
theorem sc_law_cord : FnScope N_law_cord ["_law_script"] (defScope s_law_cord) := ⟨rfl, rfl, rfl, by decide +kernel, rfl, by decide +kernel, by decide +kernel⟩

abbrev s_law_ply : Stmt := topS 38
abbrev N_law_ply : List Str := ["_law_cord_here", "_law_many", "_law_left", "_law_turn", "_law_cell", "_law_mixed"]
theorem sc_law_ply : FnScope N_law_ply ["_law_cord_here", "_law_many"] (defScope s_law_ply) := ⟨rfl, rfl, rfl, by decide +kernel, rfl, by decide +kernel, by decide +kernel⟩

abbrev s_law_pick : Stmt := topS 39
abbrev N_law_pick : List Str := ["_law_cord_here", "_law_some"]
theorem sc_law_pick : FnScope N_law_pick ["_law_cord_here", "_law_some"] (defScope s_law_pick) := ⟨rfl, rfl, rfl, by decide +kernel, rfl, by decide +kernel, by decide +kernel⟩

theorem fm {x m : Int} (h : 1 ≤ m) : 0 ≤ x.fmod m ∧ x.fmod m < m := by
  rw [Int.fmod_eq_emod_of_nonneg _ (by omega)]
  exact ⟨Int.emod_nonneg _ (by omega), Int.emod_lt_of_pos _ (by omega)⟩
theorem cord_ne {H : Hp} {a b c : Addr} {cells : List Int} {turn left : Int} (hc : H c = some (.lst [.ref b, .int turn, .int left])) (ha : H a = some (.lst (Cs cells))) : a ≠ c := by
  refine ne_of ha hc fun z => ?_
  injection z with z
  cases cells with
  | nil => exact nomatch z
  | cons x r =>
    have z : V.int x :: Cs r = V.ref b :: [V.int turn, V.int left] := z
    injection z with z _
    exact nomatch z
theorem cord_ns {H : Hp} {c s : Addr} {t : Int} {ns : List Int} (hc : CordAt H c t) (hs : H s = some (.lst (Cs ns))) : s ≠ c := by
  obtain ⟨a, cells, turn, left, hcc, _⟩ := hc
  exact cord_ne hcc hs
theorem b5 {x t : Int} (t0 : 0 ≤ t) (t1 : t ≤ 1000) : (x.fmod 2147483563 + 85229 * t + 8221).natAbs < 2 ^ 64 := by
  have := fm (x := x) (m := 2147483563) (by decide)
  omega
theorem b3 {x t : Int} (h : 0 ≤ x ∧ x < 2147483549) (t0 : 0 ≤ t) (t1 : t ≤ 1000) : (x * (2 * t + 8221) + 109147 * t * t + 85229).natAbs < 2 ^ 64 := by
  have a1 : 0 ≤ x * (2 * t + 8221) := Int.mul_nonneg h.1 (by omega)
  have a2 : x * (2 * t + 8221) ≤ 2147483549 * 10221 := Int.mul_le_mul (by omega) (by omega) (by omega) (by omega)
  have a3 : 0 ≤ 109147 * t * t := Int.mul_nonneg (by omega) t0
  have a4 : 109147 * t * t ≤ 109147000 * 1000 := Int.mul_le_mul (by omega) (by omega) (by omega) (by omega)
  omega
theorem bm {x : Int} (h : 0 ≤ x ∧ x < 2147483549) : -2 ^ 64 < x ∧ x < 2 ^ 64 := by omega
section
variable {P : Program} {w : World} {K : PySem.W.Frag} {mg : Str → Option Value} {base : Heap} {ad : Ads} {f : Addr} {fd : FuncData}
theorem ok_cord (F : Fun K "_law_cord" "_law_cord" s_law_cord f fd) (T : Txt K mg ad) : FnOk P w K mg base CX0 1 f fd ["_law_script"] (sp_cord K) := by
  refine F.ok sc_law_cord (fun vs H Q E h => ?_) (fun cdv A outer s H vs Q E hr h => ?_)
  · obtain ⟨a, ns, rfl, _⟩ := h
    rfl
  · obtain ⟨a, ns, rfl, hS, hz, q⟩ := h
    refine ⟨_, ((pss_one (ps_ret (pe_lst (pa_cons (pe_lc (own := [("_law_cell", 1)]) rfl sc_law_cord.nd (pi_list (pe_slice sl_list (pv 0) po_none (po_some pe_int))) (blkOk_by (N := N_law_cord) (sc := defScope s_law_cord) (by decide +kernel)) (fun _ _ _ _ _ => pg_name (i := 1) sc_law_cord.nd rfl (Or.inl rfl)) (fun _ _ _ _ _ => pts_nil) (fun _ _ _ _ _ => (pe_callTy call_int1 (by rfl) T.int (by decide +kernel) (pa_cons (pv 1) pa_nil)))) (pa_cons pe_int (pa_cons pe_int pa_nil))))))), ?_⟩
    refine ⟨_, rfl, _, rfl, a, Cs ns, rfl, hS, fun p hp => ?_⟩
    rw [cut_to (i := 61) (k := 61) rfl, cs_take]
    have s1 := same_new (o := .lst (Cs (ns.take 61))) hp
    refine ⟨p, rfl, ⟨_, SqL.of upd_same⟩, fun D hD => ?_⟩
    refine lcS (w := walk_list (K := K) (a := p) (xs := Cs (ns.take 61))) (H0 := upd H p (.lst (Cs (ns.take 61)))) (fun i => (Cs (ns.take 61)).take i) rfl (fun i hi => small_lt (by rw [List.length_take, cs_len, List.length_take]; omega)) (Same.refl _) hD (fun Hh s => SqL.of (s _ _ upd_same)) ?_ (fun Hd sd hDd => ?_)
    · rintro i y Hi H' Q1 Q0 hi sH hDi ⟨rfl, hy⟩ k1 k0
      obtain ⟨x, hx, rfl, _⟩ := cs_get hy
      exact ⟨rfl, lcY ⟨_, rfl, .inl ⟨_, rfl, k1 _ _ (Same.refl _) (tk hy)⟩⟩⟩
    · rw [List.take_length] at hDd
      refine ⟨(by show 3 ≤ sizeLine; decide), fun c hc => ?_⟩
      have s2 := s1.trans sd
      have hne : D ≠ c := ne_of_none hDd hc
      exact q _ c (sm_new s2 hc) (s2.free hc) ⟨D, ns.take 61, 0, 0, upd_same, (upd_ne hne).trans hDd, by rw [List.length_take]; omega, Int.le_refl _, Int.le_refl _⟩
theorem ok_ply (F : Fun K "_law_ply" "_law_ply" s_law_ply f fd) (T : Txt K mg ad) : FnOk P w K mg base CX0 1 f fd ["_law_cord_here", "_law_many"] sp_ply := by
  refine F.ok sc_law_ply (fun vs H Q E h => ?_) (fun cdv A outer s H vs Q E hr h => ?_)
  · obtain ⟨c, m, t, rfl, _⟩ := h
    rfl
  · obtain ⟨c, m, t, rfl, ⟨a, cells, turn, left, hc, ha, hl, h0, h1⟩, ht, hm1, hm2, q⟩ := h
    have hac := cord_ne hc ha
    have dv : CDivN 0 m → True := fun _ => True.intro
    refine ⟨_, ((pss_cons (ps_if (pt_cmpR op_gt (pe_ix ix_list (pv 0) pe_int (fun _ _ => rfl)) pe_int (nomark _)) (pss_cons (ps_set (i := 2) sc_law_ply.nd rfl (.inl rfl) (pe_callTy call_int1 (by rfl) T.int (by decide +kernel) (pa_cons (pe_ix ix_list (pv 0) pe_int (fun _ _ => rfl)) pa_nil)))
      (pss_cons (ps_asg (pe_op op_fdivN (pv 2) (pv 1)) (pg_sub (pv 0) pe_int set_list))
      (pss_one (ps_ret (pe_op op_modN (pe_callTy call_int1 (by rfl) T.int (by decide +kernel) (pa_cons (pv 2) pa_nil)) (pv 1)))))) pss_nil)
      (pss_cons (ps_set (i := 3) sc_law_ply.nd rfl (.inl rfl) (pe_ix ix_list (pv 0) pe_int (fun _ _ => rfl)))
      (pss_cons (ps_asg (pe_op op_add (pv 3) pe_int) (pg_sub (pv 0) pe_int set_list))
      (pss_cons (ps_set (i := 4) sc_law_ply.nd rfl (.inl rfl) (pe_op op_add (pe_op op_mul pe_int (pv 3)) pe_int))
      (pss_cons (ps_if (pt_cmpR (op_neD hr.units) (pe_ix ix_list (pv 0) pe_int (fun _ _ => rfl)) (pe_lst pa_nil) (nomark _)) (pss_one (ps_set (i := 4) sc_law_ply.nd rfl (.inl rfl) (pe_ix ix_list (pe_ix ix_list (pv 0) pe_int (fun _ _ => rfl)) (pe_op op_modN (pe_callTy call_int1 (by rfl) T.int (by decide +kernel) (pa_cons (pv 3) pa_nil)) (pe_callB call_len_seq (by rfl) T.len (by decide +kernel) (pa_cons (pe_ix ix_list (pv 0) pe_int (fun _ _ => rfl)) pa_nil))) (fun _ _ => rfl)))) pss_nil)
      (pss_cons (ps_if (PW.pt (pw_and (pt_cmpR op_lt (pv 3) (pe_callB call_len_seq (by rfl) T.len (by decide +kernel) (pa_cons (pe_ix ix_list (pv 0) pe_int (fun _ _ => rfl)) pa_nil)) (nomark _)) (pw_and1 (pt_cmpR op_ge (pe_callB call_abs (by rfl) T.abs (by decide +kernel) (pa_cons (pv 4) pa_nil)) (pe_op op_pow pe_int pe_int) (nomark _))))) (pss_cons (ps_set (i := 2) sc_law_ply.nd rfl (.inl rfl) (pe_op op_add (pe_op op_mul pe_int (pe_op op_sub (pe_callB call_abs (by rfl) T.abs (by decide +kernel) (pa_cons (pe_callTy call_int1 (by rfl) T.int (by decide +kernel) (pa_cons (pv 4) pa_nil)) pa_nil)) (pe_op op_pow pe_int pe_int))) (pe_callTy call_int1 (by rfl) T.int (by decide +kernel) (pa_cons (pe_cmpR op_lt (pv 4) pe_int (nomark _)) pa_nil))))
      (pss_cons (ps_asg (pe_op op_fdivN (pv 2) (pv 1)) (pg_sub (pv 0) pe_int set_list))
      (pss_one (ps_ret (pe_op op_modN (pe_callTy call_int1 (by rfl) T.int (by decide +kernel) (pa_cons (pv 2) pa_nil)) (pv 1)))))) pss_nil)
      (pss_cons (ps_set (i := 5) sc_law_ply.nd rfl (.inl rfl) (pe_op op_modN (pe_callTy call_int1 (by rfl) T.int (by decide +kernel) (pa_cons (pe_op op_pow (pe_op op_add (pe_op op_add (pe_op op_modN (pe_callTy call_int1 (by rfl) T.int (by decide +kernel) (pa_cons (pv 4) pa_nil)) pe_int) (pe_op op_mul pe_int (pv 3))) pe_int) pe_int) pa_nil)) pe_int))
      (pss_cons (ps_set (i := 5) sc_law_ply.nd rfl (.inl rfl) (pe_op op_modN (pe_callTy call_int1 (by rfl) T.int (by decide +kernel) (pa_cons (pe_op op_pow (pe_op op_add (pe_op op_add (pe_op op_mul (pv 5) (pe_op op_add (pe_op op_mul pe_int (pv 3)) pe_int)) (pe_op op_mul (pe_op op_mul pe_int (pv 3)) (pv 3))) pe_int) pe_int) pa_nil)) pe_int))
      (pss_one (ps_ret (pe_op op_modN (pe_callTy call_int1 (by rfl) T.int (by decide +kernel) (pa_cons (pe_op op_fdivN (pv 5) pe_int) pa_nil)) (pv 1))))))))))))), ?_⟩
    refine ⟨_, rfl, c, _, _, _, rfl, rfl, SqL.of hc, by rfl, _, _, rfl, rfl, _, rfl, ?_⟩
    refine ite2 (fun hn => ?_) (fun hn => ?_)
    · refine ⟨_, rfl, c, _, _, _, rfl, rfl, SqL.of hc, by rfl, .inl ⟨_, rfl, ?_⟩⟩
      refine ⟨_, rfl, _, rfl, _, _, rfl, rfl, ⟨by omega, by omega⟩, _, rfl, c, _, _, _, rfl, rfl, hc, by rfl, ?_⟩
      refine ⟨_, rfl, .inl ⟨_, rfl, _, rfl, _, _, rfl, rfl, (by show m ≠ 0; omega), ?_⟩⟩
      have := fm (x := left) hm1
      exact q _ _ kx_upd ⟨a, cells, turn, _, upd_same, (upd_ne hac).trans ha, hl, h0, by omega⟩ this.1 this.2
    · refine ⟨_, rfl, c, _, _, _, rfl, rfl, SqL.of hc, by rfl, ?_⟩
      refine ⟨_, rfl, _, _, rfl, rfl, _, rfl, c, _, _, _, rfl, rfl, hc, by rfl, ?_⟩
      -- behind the turn's store
      generalize hH : upd H c (.lst ([V.ref a, V.int turn, V.int left].set (Int.toNat 1) ((fun i j => V.int (i + j)) turn 1))) = H1
      have hc1 : H1 c = some (.lst [V.ref a, V.int (turn + 1), V.int left]) := by rw [← hH]; exact upd_same
      have ha1 : H1 a = some (.lst (Cs cells)) := by rw [← hH]; exact (upd_ne hac).trans ha
      have k1 : Kx c H H1 := by rw [← hH]; exact kx_upd
      clear hH
      -- the cell
      refine ⟨_, rfl, _, _, rfl, rfl, .inl ⟨by decide, by decide⟩, _, _, rfl, rfl, ?_⟩
      refine ⟨_, rfl, c, _, _, _, rfl, rfl, SqL.of hc1, by rfl, Nat.zero_le _, fun p hp => ?_⟩
      have s2 := same_new (o := .lst []) hp
      have hc2 := s2 _ _ hc1
      have ha2 := s2 _ _ ha1
      have k2 : Kx c H (upd H1 p (.lst [])) := kx_trans k1 (kx_of s2)
      have hp2 : (upd H1 p (.lst [])) p = some (.lst []) := upd_same
      generalize upd H1 p (.lst []) = H2 at hc2 ha2 k2 hp2 ⊢
      refine rd_neNil (SqL.of ha2) (lf_cs cells) (SqL.of hp2) ⟨_, rfl, ?_⟩
      refine ite2 (fun hn2 => ?_) (fun hn2 => ?_)
      · have hlen : cells.length ≠ 0 := by
          intro z
          rw [List.length_eq_zero_iff.1 z] at hn2
          exact absurd hn2 (by decide)
        have hlen1 : (1:Int) ≤ (Cs cells).length := by rw [cs_len]; omega
        have hfm := fm (x := turn) hlen1
        have hat : atI (Cs cells) (turn.fmod ((Cs cells).length : Int)) = some (V.int (cells.getD (turn.fmod ((Cs cells).length : Int)).toNat 0)) := by
          obtain ⟨j, hj⟩ : ∃ j : Nat, turn.fmod ((Cs cells).length : Int) = (j : Int) := ⟨(turn.fmod ((Cs cells).length : Int)).toNat, (Int.toNat_of_nonneg hfm.1).symm⟩
          rw [hj]
          obtain ⟨x, hx⟩ := get_lt (cs := cells) (j := j) (by have z := hfm.2; rw [hj, cs_len] at z; omega)
          rw [at_cs rfl hx]
          simp [List.getD, hx]
        refine ⟨_, rfl, c, _, _, _, rfl, rfl, SqL.of hc2, by rfl, ⟨_, rfl, .inl ⟨_, rfl, ?_⟩⟩⟩
        refine ⟨_, rfl, c, _, _, _, rfl, rfl, SqL.of hc2, by rfl, a, Cs cells, rfl, .inl (SqL.of ha2), _, _, rfl, rfl, (by show ((Cs cells).length : Int) ≠ 0; omega), ?_⟩
        refine ⟨a, _, _, _, rfl, rfl, SqL.of ha2, hat, ?_⟩
        generalize cells.getD (turn.fmod ((Cs cells).length : Int)).toNat 0 = cell
        refine ⟨_, rfl, _, rfl, c, _, _, _, rfl, rfl, SqL.of hc2, by rfl, a, Cs cells, rfl, .inl (SqL.of ha2), _, _, rfl, rfl, _, rfl, ?_⟩
        refine ite2 (fun hlt => ?_) (fun hlt => ?_)
        · refine ⟨_, rfl, _, rfl, ?_⟩
          refine ⟨_, _, rfl, rfl, ⟨by decide, by decide, by decide⟩, _, _, rfl, rfl, _, rfl, ?_⟩
          refine ite2 (fun hbig => ?_) (fun hbig => ?_)
          · refine ⟨_, rfl, .inl ⟨_, rfl, _, rfl, _, _, rfl, rfl, ⟨by decide, by decide, by decide⟩, _, _, rfl, rfl, _, _, rfl, rfl, .inl ⟨by decide, by decide⟩, ?_⟩⟩
            refine ⟨_, rfl, _, _, rfl, rfl, .inr ⟨_, rfl, _, _, rfl, rfl, ?_⟩⟩
            refine ⟨_, rfl, _, rfl, _, _, rfl, rfl, ⟨by omega, by omega⟩, _, rfl, c, _, _, _, rfl, rfl, hc2, by rfl, ?_⟩
            refine ⟨_, rfl, .inl ⟨_, rfl, _, rfl, _, _, rfl, rfl, (by show m ≠ 0; omega), ?_⟩⟩
            refine q _ _ (kx_trans k2 kx_upd) ⟨a, cells, turn + 1, _, upd_same, (upd_ne hac).trans ha2, hl, by omega, by omega⟩ (fm hm1).1 (fm hm1).2
          · refine ⟨_, rfl, .inl ⟨_, rfl, _, _, rfl, rfl, (by show (2147483563 : Int) ≠ 0; decide), _, rfl, _, _, rfl, rfl, .inl ⟨by decide, by decide⟩, _, _, rfl, rfl, _, _, rfl, rfl, _, _, rfl, rfl, ⟨by decide, by decide, b5 h0 (by omega)⟩, .inl ⟨_, rfl, _, _, rfl, rfl, (by show (2147483549 : Int) ≠ 0; decide), ?_⟩⟩⟩
            refine ⟨_, rfl, _, rfl, _, _, rfl, rfl, .inl ⟨by decide, by decide⟩, _, _, rfl, rfl, _, _, rfl, rfl, .inl (bm (fm (by decide))), ?_⟩
            refine ⟨_, rfl, _, _, rfl, rfl, .inl ⟨by decide, by decide⟩, _, rfl, _, _, rfl, rfl, .inr ⟨by omega, by omega⟩, _, _, rfl, rfl, _, _, rfl, rfl, _, _, rfl, rfl, ⟨by decide, by decide, b3 (fm (by decide)) h0 (by omega)⟩, .inl ⟨_, rfl, _, _, rfl, rfl, (by show (2147483587 : Int) ≠ 0; decide), ?_⟩⟩
            refine ⟨_, rfl, _, _, rfl, rfl, ⟨by decide, by decide⟩, .inl ⟨_, rfl, _, rfl, _, _, rfl, rfl, (by show m ≠ 0; omega), ?_⟩⟩
            exact q _ _ k2 ⟨a, cells, turn + 1, left, hc2, ha2, hl, by omega, by omega⟩ (fm hm1).1 (fm hm1).2
        · refine iteF ?_
          refine ⟨_, rfl, .inl ⟨_, rfl, _, _, rfl, rfl, (by show (2147483563 : Int) ≠ 0; decide), _, rfl, _, _, rfl, rfl, .inl ⟨by decide, by decide⟩, _, _, rfl, rfl, _, _, rfl, rfl, _, _, rfl, rfl, ⟨by decide, by decide, b5 h0 (by omega)⟩, .inl ⟨_, rfl, _, _, rfl, rfl, (by show (2147483549 : Int) ≠ 0; decide), ?_⟩⟩⟩
          refine ⟨_, rfl, _, rfl, _, _, rfl, rfl, .inl ⟨by decide, by decide⟩, _, _, rfl, rfl, _, _, rfl, rfl, .inl (bm (fm (by decide))), ?_⟩
          refine ⟨_, rfl, _, _, rfl, rfl, .inl ⟨by decide, by decide⟩, _, rfl, _, _, rfl, rfl, .inr ⟨by omega, by omega⟩, _, _, rfl, rfl, _, _, rfl, rfl, _, _, rfl, rfl, ⟨by decide, by decide, b3 (fm (by decide)) h0 (by omega)⟩, .inl ⟨_, rfl, _, _, rfl, rfl, (by show (2147483587 : Int) ≠ 0; decide), ?_⟩⟩
          refine ⟨_, rfl, _, _, rfl, rfl, ⟨by decide, by decide⟩, .inl ⟨_, rfl, _, rfl, _, _, rfl, rfl, (by show m ≠ 0; omega), ?_⟩⟩
          exact q _ _ k2 ⟨a, cells, turn + 1, left, hc2, ha2, hl, by omega, by omega⟩ (fm hm1).1 (fm hm1).2
      · refine ⟨_, rfl, _, rfl, c, _, _, _, rfl, rfl, SqL.of hc2, by rfl, a, Cs cells, rfl, .inl (SqL.of ha2), _, _, rfl, rfl, _, rfl, ?_⟩
        refine ite2 (fun hlt => ?_) (fun hlt => ?_)
        · refine ⟨_, rfl, _, rfl, ?_⟩
          refine ⟨_, _, rfl, rfl, ⟨by decide, by decide, by decide⟩, _, _, rfl, rfl, _, rfl, ?_⟩
          refine ite2 (fun hbig => ?_) (fun hbig => ?_)
          · refine ⟨_, rfl, .inl ⟨_, rfl, _, rfl, _, _, rfl, rfl, ⟨by decide, by decide, by decide⟩, _, _, rfl, rfl, _, _, rfl, rfl, .inl ⟨by decide, by decide⟩, ?_⟩⟩
            refine ⟨_, rfl, _, _, rfl, rfl, .inr ⟨_, rfl, _, _, rfl, rfl, ?_⟩⟩
            refine ⟨_, rfl, _, rfl, _, _, rfl, rfl, ⟨by omega, by omega⟩, _, rfl, c, _, _, _, rfl, rfl, hc2, by rfl, ?_⟩
            refine ⟨_, rfl, .inl ⟨_, rfl, _, rfl, _, _, rfl, rfl, (by show m ≠ 0; omega), ?_⟩⟩
            refine q _ _ (kx_trans k2 kx_upd) ⟨a, cells, turn + 1, _, upd_same, (upd_ne hac).trans ha2, hl, by omega, by omega⟩ (fm hm1).1 (fm hm1).2
          · refine ⟨_, rfl, .inl ⟨_, rfl, _, _, rfl, rfl, (by show (2147483563 : Int) ≠ 0; decide), _, rfl, _, _, rfl, rfl, .inl ⟨by decide, by decide⟩, _, _, rfl, rfl, _, _, rfl, rfl, _, _, rfl, rfl, ⟨by decide, by decide, b5 h0 (by omega)⟩, .inl ⟨_, rfl, _, _, rfl, rfl, (by show (2147483549 : Int) ≠ 0; decide), ?_⟩⟩⟩
            refine ⟨_, rfl, _, rfl, _, _, rfl, rfl, .inl ⟨by decide, by decide⟩, _, _, rfl, rfl, _, _, rfl, rfl, .inl (bm (fm (by decide))), ?_⟩
            refine ⟨_, rfl, _, _, rfl, rfl, .inl ⟨by decide, by decide⟩, _, rfl, _, _, rfl, rfl, .inr ⟨by omega, by omega⟩, _, _, rfl, rfl, _, _, rfl, rfl, _, _, rfl, rfl, ⟨by decide, by decide, b3 (fm (by decide)) h0 (by omega)⟩, .inl ⟨_, rfl, _, _, rfl, rfl, (by show (2147483587 : Int) ≠ 0; decide), ?_⟩⟩
            refine ⟨_, rfl, _, _, rfl, rfl, ⟨by decide, by decide⟩, .inl ⟨_, rfl, _, rfl, _, _, rfl, rfl, (by show m ≠ 0; omega), ?_⟩⟩
            exact q _ _ k2 ⟨a, cells, turn + 1, left, hc2, ha2, hl, by omega, by omega⟩ (fm hm1).1 (fm hm1).2
        · refine iteF ?_
          refine ⟨_, rfl, .inl ⟨_, rfl, _, _, rfl, rfl, (by show (2147483563 : Int) ≠ 0; decide), _, rfl, _, _, rfl, rfl, .inl ⟨by decide, by decide⟩, _, _, rfl, rfl, _, _, rfl, rfl, _, _, rfl, rfl, ⟨by decide, by decide, b5 h0 (by omega)⟩, .inl ⟨_, rfl, _, _, rfl, rfl, (by show (2147483549 : Int) ≠ 0; decide), ?_⟩⟩⟩
          refine ⟨_, rfl, _, rfl, _, _, rfl, rfl, .inl ⟨by decide, by decide⟩, _, _, rfl, rfl, _, _, rfl, rfl, .inl (bm (fm (by decide))), ?_⟩
          refine ⟨_, rfl, _, _, rfl, rfl, .inl ⟨by decide, by decide⟩, _, rfl, _, _, rfl, rfl, .inr ⟨by omega, by omega⟩, _, _, rfl, rfl, _, _, rfl, rfl, _, _, rfl, rfl, ⟨by decide, by decide, b3 (fm (by decide)) h0 (by omega)⟩, .inl ⟨_, rfl, _, _, rfl, rfl, (by show (2147483587 : Int) ≠ 0; decide), ?_⟩⟩
          refine ⟨_, rfl, _, _, rfl, rfl, ⟨by decide, by decide⟩, .inl ⟨_, rfl, _, rfl, _, _, rfl, rfl, (by show m ≠ 0; omega), ?_⟩⟩
          exact q _ _ k2 ⟨a, cells, turn + 1, left, hc2, ha2, hl, by omega, by omega⟩ (fm hm1).1 (fm hm1).2
theorem ok_pick (F : Fun K "_law_pick" "_law_pick" s_law_pick f fd) (T : Txt K mg ad) (d_law_ply : Def P w K mg base "_law_ply" 1 sp_ply) : FnOk P w K mg base CX0 2 f fd ["_law_cord_here", "_law_some"] (sp_pick K) := by
  refine F.ok sc_law_pick (fun vs H Q E h => ?_) (fun cdv A outer s H vs Q E hr h => ?_)
  · obtain ⟨c, so, ns, t, rfl, _⟩ := h
    rfl
  · obtain ⟨c, so, ns, t, rfl, hc, hs, ht, hl1, hl2, q⟩ := h
    refine ⟨_, ((pss_one (ps_ret (pe_ix ix_list (pv 1) (pe_callD d_law_ply (hr.mono (by decide)) (by rfl) (pa_cons (pv 0) (pa_cons (pe_callB call_len_seq (by rfl) T.len (by decide +kernel) (pa_cons (pv 1) pa_nil)) pa_nil))) (fun _ _ => rfl))))), ?_⟩
    refine ⟨_, rfl, _, rfl, _, rfl, so, Cs ns, rfl, .inl (SqL.of hs), c, ((Cs ns).length : Int), t, rfl, hc, ht, (by rw [cs_len]; omega), (by rw [cs_len]; omega), fun H' v k hc' v0 v1 => ?_⟩
    have hs' := k _ _ (cord_ns hc hs) hs
    obtain ⟨j, rfl⟩ : ∃ j : Nat, v = (j : Int) := ⟨v.toNat, (Int.toNat_of_nonneg v0).symm⟩
    obtain ⟨x, hx⟩ := get_lt (cs := ns) (j := j) (by rw [cs_len] at v1; omega)
    refine ⟨so, _, _, _, rfl, rfl, SqL.of hs', at_cs rfl hx, ?_⟩
    exact q _ _ k hc' (List.mem_of_getElem? hx)
end
end K51
/-! K51: the pairs of places that the law's own search finds, told plainly. -/
namespace K51
open PySem PySem.Spec PyProof.Rows L2

abbrev Tri := Nat × Nat × Bool
def tv (t : Tri) : List V := [.int (t.1 : Int), .int (t.2.1 : Int), .bl t.2.2]
def kk (t : Tri) : List Int := [(t.1 : Int), (t.2.1 : Int), if t.2.2 = true then 1 else 0]
def NoStray (cs : List Int) (o r : Nat) : Prop := ∀ p q, Reach cs o r p q true → ¬ Near p r
theorem kk_inj {s t : Tri} (h : kk s = kk t) : s = t := by
  obtain ⟨p, q, f⟩ := s
  obtain ⟨p', q', f'⟩ := t
  unfold kk at h
  injection h with h1 h
  injection h with h2 h
  injection h with h3 _
  have e1 : p = p' := by
    have : (p : Int) = (p' : Int) := h1
    omega
  have e2 : q = q' := by
    have : (q : Int) = (q' : Int) := h2
    omega
  have e3 : f = f' := by cases f <;> cases f' <;> first | rfl | exact absurd (show (0:Int) = 1 from h3) (by decide) | exact absurd (show (1:Int) = 0 from h3) (by decide)
  rw [e1, e2, e3]
/-- the row and its keys -/
abbrev Es := List (Tri × Addr)
def rowOf (es : Es) : List V := es.map fun e => .ref e.2
def keysOf (es : Es) : List (List Int × Addr) := es.map fun e => (kk e.1, e.2)
theorem keys_mem {es : Es} {t : Tri} : (kk t ∈ (keysOf es).map (·.1)) ↔ t ∈ es.map (·.1) := by
  unfold keysOf
  rw [List.map_map]
  constructor
  · intro h
    obtain ⟨e, he, ee⟩ := List.mem_map.mp h
    exact List.mem_map.mpr ⟨e, he, kk_inj ee⟩
  · intro h
    obtain ⟨e, he, ee⟩ := List.mem_map.mp h
    exact List.mem_map.mpr ⟨e, he, by show kk e.1 = kk t; rw [ee]⟩
structure BI (cs : List Int) (o r : Nat) (es : Es) : Prop where
  nd : (es.map (·.1)).Nodup
  reach : ∀ t ∈ es.map (·.1), Reach cs o r t.1 t.2.1 t.2.2
  st : (o, r, decide (o ≠ r)) ∈ es.map (·.1)
def Closed (cs : List Int) (r : Nat) (es : Es) (t : Tri) : Prop := (t.2.2 = true → ¬ Near t.1 r) ∧ ∀ p' q', Near t.1 p' → Near t.2.1 q' → p' < cs.length → q' < cs.length → cs[p']? = cs[q']? → (p', q', t.2.2 || decide (p' ≠ q')) ∈ es.map (·.1)
section
variable {cs : List Int} {o r : Nat} {es : Es}
theorem BI.start (p : Addr) : BI cs o r [((o, r, decide (o ≠ r)), p)] := ⟨by simp, fun t h => by
  rw [List.mem_singleton.mp h]
  exact .start, List.mem_singleton.mpr rfl⟩
theorem BI.le (h : BI cs o r es) (ho : o < cs.length) (hr : r < cs.length) (e0 : cs[o]? = cs[r]?) : es.length ≤ cs.length * (cs.length * 2) := by
  have := nodup_le h.nd (ys := allTri cs.length) fun t ht => by
    obtain ⟨l1, l2, _⟩ := (h.reach t ht).lt ho hr e0
    exact mem_allTri (p := t.1) (q := t.2.1) (f := t.2.2) l1 l2
  rw [allTri_length, List.length_map] at this
  exact this
theorem BI.add {t : Tri} {b : Addr} (h : BI cs o r es) (hn : t ∉ es.map (·.1)) (ht : Reach cs o r t.1 t.2.1 t.2.2) : BI cs o r (es ++ [(t, b)]) := by
  refine ⟨?_, fun s hs => ?_, ?_⟩
  · rw [List.map_append]
    refine List.nodup_append.mpr ⟨h.nd, by simp, fun a ha c hc => ?_⟩
    rw [List.mem_singleton.mp hc]
    intro e
    have e : a = t := e
    rw [e] at ha
    exact hn ha
  · rw [List.map_append] at hs
    rcases List.mem_append.mp hs with hs | hs
    · exact h.reach s hs
    · rw [List.mem_singleton.mp hs]
      exact ht
  · rw [List.map_append]
    exact List.mem_append_left _ h.st
theorem Closed.grow {es' : Es} {t : Tri} (h : Closed cs r es t) (hm : ∀ s ∈ es.map (·.1), s ∈ es'.map (·.1)) : Closed cs r es' t := ⟨h.1, fun p' q' a b c d e => hm _ (h.2 p' q' a b c d e)⟩
theorem BI.done (h : BI cs o r es) (hc : ∀ t ∈ es.map (·.1), Closed cs r es t) : NoStray cs o r := by
  intro p q hp
  have := Reach.mem (cs := cs) (o := o) (r := r) (S := fun p q f => (p, q, f) ∈ es.map (·.1)) h.st (fun p q f p' q' hs n1 n2 l1 l2 e => (hc _ hs).2 p' q' n1 n2 l1 l2 e) hp
  exact (hc _ this).1 rfl
end
/-- the objects of one search -/
structure HI (P : Program) (w : World) (H0 H : Hp) (R D : Addr) (es : Es) : Prop where
  s : Same H0 H
  r0 : H0 R = none
  d0 : H0 D = none
  ne : R ≠ D
  row : H R = some (.lst (rowOf es))
  dic : H D = some (TD P w D (keysOf es))
  tups : ∀ e ∈ es, H e.2 = some (.tup (tv e.1))
theorem key_tv {H : Hp} {b : Addr} {t : Tri} (h : H b = some (.tup (tv t))) : KeyAt H b (kk t) := ⟨tv t, h, by
  obtain ⟨p, q, f⟩ := t
  cases f <;> rfl⟩
section
variable {P : Program} {w : World} {H0 H H' : Hp} {R D : Addr} {es : Es}
theorem HI.keys (h : HI P w H0 H R D es) : TDK H (keysOf es) := by
  intro x hx
  obtain ⟨e, he, rfl⟩ := List.mem_map.mp hx
  exact key_tv (h.tups e he)
theorem HI.grow (h : HI P w H0 H R D es) (s : Same H H') : HI P w H0 H' R D es := ⟨h.s.trans s, h.r0, h.d0, h.ne, s _ _ h.row, s _ _ h.dic, fun e he => s _ _ (h.tups e he)⟩
theorem HI.add {t : Tri} {b : Addr} (h : HI P w H0 H R D es) (hb : H b = some (.tup (tv t))) : HI P w H0 (upd (upd H D (TD P w D (keysOf es ++ [(kk t, b)]))) R (.lst (rowOf es ++ [.ref b]))) R D (es ++ [(t, b)]) := by
  have tup_ne : ∀ {a : Addr} {vs : List V}, H a = some (.tup vs) → a ≠ R ∧ a ≠ D := fun {a vs} e => ⟨ne_of e h.row nofun, ne_of e h.dic nofun⟩
  refine ⟨sm_upd (sm_upd h.s h.d0) h.r0, h.r0, h.d0, h.ne, ?_, ?_, fun e he => ?_⟩
  · rw [upd_same]
    unfold rowOf
    rw [List.map_append]
    rfl
  · rw [upd_ne (Ne.symm h.ne), upd_same]
    unfold keysOf
    rw [List.map_append]
    rfl
  · have : H e.2 = some (.tup (tv e.1)) := by
      rcases List.mem_append.mp he with he | he
      · exact h.tups e he
      · rw [List.mem_singleton.mp he]
        exact hb
    obtain ⟨n1, n2⟩ := tup_ne this
    rw [upd_ne n1, upd_ne n2]
    exact this
end
end K51
/-! K51: the law's own search for strays. -/
namespace K51
open PySem PySem.Spec PyProof.Rows L2

abbrev s_law_stray : Stmt := topS 40
abbrev N_law_stray : List Str := ["_law_colours", "_law_many", "_law_one", "_law_other", "_law_row", "_law_at", "_law_known", "_law_pair", "_law_first", "_law_second", "_law_step", "_law_place"]
theorem sc_law_stray : FnScope N_law_stray ["_law_colours"] (defScope s_law_stray) := ⟨rfl, rfl, rfl, by decide +kernel, rfl, by decide +kernel, by decide +kernel⟩

def plc (cs : List Int) (o i : Nat) : List Nat := (List.range i).filter fun r => decide (cs[r]? = cs[o]?)
theorem plc_yes {cs : List Int} {o i : Nat} (h : cs[i]? = cs[o]?) : plc cs o (i + 1) = plc cs o i ++ [i] := by
  unfold plc
  rw [List.range_succ, List.filter_append]
  simp [h]
theorem plc_no {cs : List Int} {o i : Nat} (h : ¬ cs[i]? = cs[o]?) : plc cs o (i + 1) = plc cs o i := by
  unfold plc
  rw [List.range_succ, List.filter_append]
  simp [h]
theorem plc_mem {cs : List Int} {o i r : Nat} : r ∈ plc cs o i ↔ r < i ∧ cs[r]? = cs[o]? := by
  unfold plc
  rw [List.mem_filter, List.mem_range, decide_eq_true_iff]
theorem plc_len {cs : List Int} {o i : Nat} : (plc cs o i).length ≤ i := by
  unfold plc
  exact Nat.le_trans (List.length_filter_le _ _) (by rw [List.length_range]; omega)

theorem and_if {fl b : Bool} {A F T : Prop} (hA : fl = true → (if b = true then T else F) → A) (h1 : fl = true → b = true → T) (h2 : ¬ (fl = true ∧ b = true) → F) : if fl = true then A else (if false = true then T else F) := by
  cases fl with
  | false => exact iteF (iteF (h2 fun z => nomatch z.1))
  | true =>
    refine iteT (hA rfl ?_)
    cases b with
    | false => exact iteF (h2 fun z => nomatch z.2)
    | true => exact iteT (h1 rfl rfl)
theorem or_if {fl b : Bool} {te : TE} {σ : L2.St} {H : Hp} {Q : VK} {A : Prop} (hA : Q (.bl true) H → A) (hB : Q (.bl b) H → te σ H Q) (h : Q (.bl (fl || b)) H) : if fl = true then A else te σ H Q := by
  cases fl with
  | false => exact iteF (hB h)
  | true => exact iteT (hA h)
theorem mx {p : Nat} : (if (p : Int) - 1 > 0 then (p : Int) - 1 else 0) = ((p - 1 : Nat) : Int) := by split <;> omega
theorem mn {n p : Nat} : (if (p : Int) + 2 < (n : Int) then (p : Int) + 2 else (n : Int)) = ((min n (p + 2) : Nat) : Int) := by
  rw [Nat.min_def]
  split <;> split <;> omega
theorem row_get {es : Es} {i : Nat} {e : Tri × Addr} (h : es[i]? = some e) : (rowOf es)[i]? = some (.ref e.2) := by
  unfold rowOf
  rw [List.getElem?_map, h]
  rfl
theorem ne_dec {a b : Nat} : (!decide (V.int (a : Int) = V.int (b : Int))) = decide (a ≠ b) := by
  by_cases h : a = b
  · subst h
    simp
  · have : ¬ V.int (a : Int) = V.int (b : Int) := fun z => h (by injection z with z; omega)
    simp [h, this]
section
variable {P : Program} {w : World} {K : PySem.W.Frag} {mg : Str → Option Value} {base : Heap} {ad : Ads} {f : Addr} {fd : FuncData}
theorem ok_lstray (F : Fun K "_law_stray" "_law_stray" s_law_stray f fd) (T : Txt K mg ad) : FnOk P w K mg base CX0 1 f fd ["_law_colours"] (sp_lstray K) := by
  refine F.ok sc_law_stray (fun vs H Q E h => ?_) (fun cdv A outer s H vs Q E hr h => ?_)
  · obtain ⟨c, cs, rfl, _⟩ := h
    rfl
  · obtain ⟨c, cs, rfl, hS, hz, q⟩ := h
    have hu := hu_of hr
    refine ⟨_, ((pss_cons (ps_set (i := 1) sc_law_stray.nd rfl (.inl rfl) (pe_callB call_len_seq (by rfl) T.len (by decide +kernel) (pa_cons (pv 0) pa_nil)))
      (pss_cons (ps_for PassesOwn.never rfl (pi_range1 (by rfl) T.range (pa_cons (pv 1) pa_nil)) (pg_name (i := 2) sc_law_stray.nd rfl (.inr rfl)) (pss_one (ps_for PassesOwn.never rfl (pi_list (pe_lc (own := [("_law_place", 11)]) rfl sc_law_stray.nd (pi_range1 (by rfl) T.range (pa_cons (pv 1) pa_nil)) (blkOk_by (N := N_law_stray) (sc := defScope s_law_stray) (by decide +kernel)) (fun _ _ _ _ _ => pg_name (i := 11) sc_law_stray.nd rfl (Or.inl rfl)) (fun _ _ _ _ _ => pts_one (pt_cmpR op_eq (pe_ix (ix_listK K rfl) (pv 0) (pv 11) (fun _ _ => rfl)) (pe_ix (ix_listK K rfl) (pv 0) (pv 2) (fun _ _ => rfl)) (nomark _))) (fun _ _ _ _ _ => (pv 11)))) (pg_name (i := 3) sc_law_stray.nd rfl (.inl rfl)) (pss_cons (ps_par (i := 4) (j := 5) (by rfl) sc_law_stray.nd rfl rfl (by decide) rfl rfl (pa_cons (pe_lst (pa_cons (pe_tup (pa_cons (pv 2) (pa_cons (pv 3) (pa_cons (pe_cmpR op_ne (pv 2) (pv 3) (nomark _)) pa_nil)))) pa_nil)) (pa_cons pe_int pa_nil)) (by rfl))
      (pss_cons (ps_set (i := 6) sc_law_stray.nd rfl (.inl rfl) (pe_tdNew hu (pe_ix ix_list (pv 4) pe_int (fun _ _ => rfl)) pe_bl))
      (pss_one (ps_while PassesOwn.never (pt_cmpR op_lt (pv 5) (pe_callB call_len_seq (by rfl) T.len (by decide +kernel) (pa_cons (pv 4) pa_nil)) (nomark _)) (pss_cons (ps_set (i := 7) sc_law_stray.nd rfl (.inl rfl) (pe_ix ix_list (pv 4) (pv 5) (fun _ _ => rfl)))
      (pss_cons (ps_set (i := 5) sc_law_stray.nd rfl (.inl rfl) (pe_op op_add (pv 5) pe_int))
      (pss_cons (ps_if (PW.pt (pw_and (pt_val (pe_ix ix_tup (pv 7) pe_int (fun _ _ => rfl))) (pw_and1 (pt_cmpR op_lt (pe_callB call_abs (by rfl) T.abs (by decide +kernel) (pa_cons (pe_op op_sub (pe_ix ix_tup (pv 7) pe_int (fun _ _ => rfl)) (pv 3)) pa_nil)) pe_int (nomark _))))) (pss_one (ps_ret pe_bl)) pss_nil)
      (pss_one (ps_for PassesOwn.never rfl (pi_range2 (by rfl) T.range (pa_cons (pe_callB (call_max2 rfl) (by rfl) T.max (by decide +kernel) (pa_cons pe_int (pa_cons (pe_op op_sub (pe_ix ix_tup (pv 7) pe_int (fun _ _ => rfl)) pe_int) pa_nil))) (pa_cons (pe_callB (call_min2 rfl) (by rfl) T.min (by decide +kernel) (pa_cons (pv 1) (pa_cons (pe_op op_add (pe_ix ix_tup (pv 7) pe_int (fun _ _ => rfl)) pe_int) pa_nil))) pa_nil))) (pg_name (i := 8) sc_law_stray.nd rfl (.inl rfl)) (pss_one (ps_for PassesOwn.never rfl (pi_range2 (by rfl) T.range (pa_cons (pe_callB (call_max2 rfl) (by rfl) T.max (by decide +kernel) (pa_cons pe_int (pa_cons (pe_op op_sub (pe_ix ix_tup (pv 7) pe_int (fun _ _ => rfl)) pe_int) pa_nil))) (pa_cons (pe_callB (call_min2 rfl) (by rfl) T.min (by decide +kernel) (pa_cons (pv 1) (pa_cons (pe_op op_add (pe_ix ix_tup (pv 7) pe_int (fun _ _ => rfl)) pe_int) pa_nil))) pa_nil))) (pg_name (i := 9) sc_law_stray.nd rfl (.inl rfl)) (pss_cons (ps_set (i := 10) sc_law_stray.nd rfl (.inl rfl) (pe_tup (pa_cons (pv 8) (pa_cons (pv 9) (pa_cons (pe_or (pe_ix ix_tup (pv 7) pe_int (fun _ _ => rfl)) (pe_one (pe_cmpR op_ne (pv 8) (pv 9) (nomark _)))) pa_nil)))))
      (pss_one (ps_if (PW.pt (pw_and (pt_cmpR op_eq (pe_ix ix_list (pv 0) (pv 8) (fun _ _ => rfl)) (pe_ix ix_list (pv 0) (pv 9) (fun _ _ => rfl)) (nomark _)) (pw_and1 (pt_cmp (pc_tdNotIn hu (pv 10) (pv 6)))))) (pss_cons (ps_tdPut hu (pv 6) (pv 10) pe_bl)
      (pss_one (ps_expr (pe_bm PySem.F.plainAttrs_list PySem.F.slot_list_append PySem.F.type_list_append mt_append (pv 4) (pa_cons (pv 10) pa_nil))))) pss_nil)))))))))))))))))
      (pss_one (ps_ret pe_bl))))), ?_⟩
    refine ⟨_, rfl, c, Cs cs, rfl, .inl hS, ?_⟩
    refine ⟨_, rfl, _, rfl, ?_⟩
    rw [cs_len]
    have en : ((cs.length : Int)).toNat = cs.length := by omega
    refine ⟨by omega, by omega, ?_⟩
    rw [en]
    refine for_range (lo := 0) (n := cs.length) (fun o σ H' => Same H H' ∧ ∃ y2 y3 y4 y5 y6 y7 y8 y9 y10, σ = [some (.ref c), some (.int cs.length), y2, y3, y4, y5, y6, y7, y8, y9, y10, none] ∧ ∀ o', o' < o → ∀ r, r < cs.length → cs[r]? = cs[o']? → NoStray cs o' r)
      ⟨Same.refl _, _, _, _, _, _, _, _, _, _, rfl, fun o' h => absurd h (by omega)⟩ ?_ ?_
    · rintro o σ H1 ho ⟨s1, y2, y3, y4, y5, y6, y7, y8, y9, y10, rfl, hno⟩
      obtain ⟨co, eo⟩ := get_lt (cs := cs) (j := o) ho
      refine ⟨_, rfl, _, rfl, by omega, by omega, ?_⟩
      rw [en]
      intro L hL
      refine lcS (w := walk_range (lo := 0) (n := cs.length)) (H0 := H1) (fun i => (plc cs o i).map fun r => V.int ((r : Nat) : Int)) rfl (fun i hi => small_lt (by rw [List.length_map]; have := plc_len (cs := cs) (o := o) (i := i); omega)) (Same.refl _) hL (fun _ _ => True.intro) ?_ (fun Hd sd hDd => ?_)
      · rintro i y Hi H' Q1 Q0 hi sH hDi ⟨rfl, rfl⟩ k1 k0
        obtain ⟨ci, ei⟩ := get_lt (cs := cs) (j := i) hi
        have hSi := (s1.trans sH).seq hS
        refine ⟨rfl, ?_⟩
        refine ⟨_, rfl, _, rfl, c, Cs cs, _, _, rfl, rfl, hSi, at_cs (j := i) (by omega) ei, _, rfl, _, rfl, c, Cs cs, _, _, rfl, rfl, hSi, at_cs (j := o) (by omega) eo, rfl, _, rfl, ?_⟩
        refine ite2 (fun hn => ?_) (fun hn => ?_)
        · have : ci = co := by
            have := of_decide_eq_true hn
            injection this
          refine ⟨_, rfl, k1 _ _ (Same.refl _) ?_⟩
          rw [plc_yes (by rw [ei, eo, this]), List.map_append]
          show _ = _ ++ [V.int (0 + (i : Int))]
          rw [Int.zero_add]
          rfl
        · exact k0 _ (Same.refl _) (by rw [plc_no (fun e => hn (decide_eq_true (by rw [ei, eo] at e; rw [Option.some.inj e])))])
      · refine ⟨L, rfl, ⟨_, SqL.of hDd⟩, ?_⟩
        have s2 := s1.trans sd
        refine for_list (xs := (plc cs o cs.length).map fun r => V.int ((r : Nat) : Int)) (fun k σ H' => Same Hd H' ∧ ∃ y3 y4 y5 y6 y7 y8 y9 y10, σ = [some (.ref c), some (.int cs.length), some (.int (0 + (o : Int))), y3, y4, y5, y6, y7, y8, y9, y10, none] ∧ ∀ r ∈ (plc cs o cs.length).take k, NoStray cs o r)
          ⟨Same.refl _, _, _, _, _, _, _, _, _, rfl, fun r h => by rw [List.take_zero] at h; exact nomatch h⟩ (fun _ _ H' _ p => SqL.of (p.1 _ _ hDd)) ?_ ?_
        · rintro k x σ H2 hk ⟨s3, y3, y4, y5, y6, y7, y8, y9, y10, rfl, hno2⟩
          obtain ⟨r, hr1, rfl⟩ : ∃ r, (plc cs o cs.length)[k]? = some r ∧ x = V.int ((r : Nat) : Int) := by
            rw [List.getElem?_map] at hk
            cases e : (plc cs o cs.length)[k]? with
            | none => rw [e] at hk; exact nomatch hk
            | some r => rw [e] at hk; exact ⟨r, rfl, (Option.some.inj hk).symm⟩
          obtain ⟨hrl, hre⟩ := plc_mem.mp (List.mem_of_getElem? hr1)
          rw [tk hr1]
          have er : cs[o]? = cs[r]? := hre.symm
          refine ⟨_, rfl, _, rfl, _, rfl, _, rfl, rfl, (by show 3 ≤ sizeLine; decide), fun p0 hp0 => ?_⟩
          have eb : (!decide (V.int (0 + (o : Int)) = V.int (r : Int))) = decide (o ≠ r) := by rw [Int.zero_add, ne_dec]
          rw [eb]
          have et : (HO.tup [V.int (0 + (o : Int)), V.int (r : Int), V.bl (decide (o ≠ r))]) = HO.tup (tv (o, r, decide (o ≠ r))) := by rw [Int.zero_add]; rfl
          rw [et]
          refine ⟨(by show 1 ≤ sizeLine; decide), fun R hR => ⟨_, _, rfl, ?_⟩⟩
          refine fun D hD => ?_
          have hRD : R ≠ D := ne_of_none upd_same hD
          have hpR : p0 ≠ R := ne_of_none upd_same hR
          have hpD : p0 ≠ D := ne_of_none (by rw [upd_ne hpR]; exact upd_same) hD
          have hp1 : (upd (upd (upd H2 p0 (.tup (tv (o, r, decide (o ≠ r))))) R (.lst [.ref p0])) D (TD P w D [])) p0 = some (.tup (tv (o, r, decide (o ≠ r)))) := by rw [upd_ne hpD, upd_ne hpR]; exact upd_same
          refine ⟨_, rfl, R, [.ref p0], _, _, rfl, rfl, SqL.of (by rw [upd_ne hRD]; exact upd_same), by rfl, p0, kk (o, r, decide (o ≠ r)), rfl, rfl, key_tv hp1, upd_same, ?_⟩
          have hi0 : HI P w Hd (upd (upd (upd (upd H2 p0 (.tup (tv (o, r, decide (o ≠ r))))) R (.lst [.ref p0])) D (TD P w D [])) D (TD P w D [(kk (o, r, decide (o ≠ r)), p0)])) R D [((o, r, decide (o ≠ r)), p0)] := by
            have k1 := sm_new (o := .tup (tv (o, r, decide (o ≠ r)))) s3 hp0
            have k2 := sm_new (o := .lst [.ref p0]) k1 hR
            refine ⟨sm_upd (sm_new k2 hD) (k2.free hD), k1.free hR, k2.free hD, hRD, ?_, upd_same, fun e he => ?_⟩
            · rw [upd_ne hRD, upd_ne hRD]
              exact upd_same
            · rw [List.mem_singleton.mp he, upd_ne hpD]
              exact hp1
          refine while_by (fun σ H' => ∃ (es : Es) (at0 : Nat) (y7 y8 y9 y10 : Option V), σ = [some (.ref c), some (.int cs.length), some (.int (0 + (o : Int))), some (.int r), some (.ref R), some (.int at0), some (.ref D), y7, y8, y9, y10, none] ∧ HI P w Hd H' R D es ∧ BI cs o r es ∧ at0 ≤ es.length ∧ ∀ t ∈ (es.take at0).map (·.1), Closed cs r es t)
            (fun σ _ => match σ with | [_, _, _, _, _, some (.int a), _, _, _, _, _, _] => (1000 - a).toNat | _ => 0)
            ⟨_, 0, y7, y8, y9, y10, rfl, hi0, BI.start p0, Nat.zero_le _, fun t h => nomatch h⟩ ?_
            (fun σ H Q Q' g ⟨v, hv, v2, hv2, p, ys, hp, hy, i, j, hi, hj, k, hk, q⟩ => ⟨v, hv, v2, hv2, p, ys, hp, hy, i, j, hi, hj, k, hk, g _ _ q⟩)
          rintro σ H3 ⟨es, at0, y7, y8, y9, y10, rfl, hi, bi, hat, hcl⟩
          have hle := bi.le ho hrl er
          have hle2 : es.length ≤ 200 := by
            have : cs.length * (cs.length * 2) ≤ 10 * (10 * 2) := Nat.mul_le_mul hz (Nat.mul_le_mul_right 2 hz)
            omega
          refine ⟨_, rfl, _, rfl, R, rowOf es, rfl, .inl (SqL.of hi.row), _, _, rfl, rfl, _, rfl, ?_⟩
          have erl : (rowOf es).length = es.length := by unfold rowOf; rw [List.length_map]
          rw [erl]
          refine ite2 (fun hlt => ?_) (fun hlt => ?_)
          · have hlt : at0 < es.length := by
              have := of_decide_eq_true hlt
              omega
            obtain ⟨⟨⟨p, q0, fl⟩, a⟩, he⟩ : ∃ e, es[at0]? = some e := ⟨es[at0], List.getElem?_eq_getElem hlt⟩
            have ha : H3 a = some (.tup [.int (p : Int), .int (q0 : Int), .bl fl]) := hi.tups _ (List.mem_of_getElem? he)
            have hg : (rowOf es)[at0]? = some (V.ref a) := row_get he
            have hr0 : Reach cs o r p q0 fl := bi.reach (p, q0, fl) (List.mem_map.mpr ⟨_, List.mem_of_getElem? he, rfl⟩)
            obtain ⟨hpn, hqn, epq⟩ := hr0.lt ho hrl er
            refine ⟨_, rfl, _, rfl, R, rowOf es, _, _, rfl, rfl, SqL.of hi.row, atI_nat hg, ?_⟩
            refine ⟨_, rfl, _, _, rfl, rfl, ?_⟩
            refine ⟨_, rfl, a, _, _, _, rfl, rfl, SqT.of ha, by rfl, _, rfl, ?_⟩
            refine and_if (fun _ g => ⟨_, rfl, a, _, _, _, rfl, rfl, SqT.of ha, by rfl, _, rfl, _, _, rfl, rfl, _, rfl, _, _, rfl, rfl, _, rfl, g⟩) (fun e1 e2 => ?_) (fun hno3 => ?_)
            · refine q H3 true (s2.trans hi.s) ⟨fun _ C => ?_, fun _ => rfl⟩
              have e2 := of_decide_eq_true e2
              rw [show fl = true from e1] at hr0
              refine calm_no C ho hrl er hr0 ?_
              unfold Near
              split at e2 <;> omega
            · refine ⟨_, rfl, a, _, _, _, rfl, rfl, SqT.of ha, by rfl, _, _, rfl, rfl, _, _, rfl, _, rfl, _, rfl, a, _, _, _, rfl, rfl, SqT.of ha, by rfl, _, _, rfl, rfl, _, _, rfl, _, _, rfl, ?_⟩
              rw [mx, mn]
              refine ⟨⟨by omega, by omega, by omega, by omega⟩, ?_⟩
              rw [show (((min cs.length (p + 2) : Nat) : Int) - ((p - 1 : Nat) : Int)).toNat = min cs.length (p + 2) - (p - 1) by omega]
              refine for_range (lo := ((p - 1 : Nat) : Int)) (n := min cs.length (p + 2) - (p - 1)) (fun i σ H' => ∃ (es' : Es) (y8 y9 y10 : Option V), σ = [some (.ref c), some (.int cs.length), some (.int (0 + (o : Int))), some (.int r), some (.ref R), some (.int ((at0 : Int) + 1)), some (.ref D), some (.ref a), y8, y9, y10, none] ∧ HI P w Hd H' R D es' ∧ BI cs o r es' ∧ es <+: es' ∧
                  ∀ p', p' < (p - 1) + i → Near p p' → p' < cs.length → ∀ q', Near q0 q' → q' < cs.length → cs[p']? = cs[q']? → (p', q', fl || decide (p' ≠ q')) ∈ es'.map (·.1))
                ⟨es, y8, y9, y10, rfl, hi, bi, List.prefix_refl _, fun p' h1 h2 => by unfold Near at h2; omega⟩ ?_ ?_
              · rintro i σ H4 hin ⟨es1, y8, y9, y10, rfl, hi1, bi1, pre1, done1⟩
                have ha1 : H4 a = some (.tup [.int (p : Int), .int (q0 : Int), .bl fl]) := hi1.tups ((p, q0, fl), a) (pre1.subset (List.mem_of_getElem? he))
                refine ⟨_, rfl, a, _, _, _, rfl, rfl, SqT.of ha1, by rfl, _, _, rfl, rfl, _, _, rfl, _, rfl, _, rfl, a, _, _, _, rfl, rfl, SqT.of ha1, by rfl, _, _, rfl, rfl, _, _, rfl, _, _, rfl, ?_⟩
                rw [mx, mn]
                refine ⟨⟨by omega, by omega, by omega, by omega⟩, ?_⟩
                rw [show (((min cs.length (q0 + 2) : Nat) : Int) - ((q0 - 1 : Nat) : Int)).toNat = min cs.length (q0 + 2) - (q0 - 1) by omega]
                refine for_range (lo := ((q0 - 1 : Nat) : Int)) (n := min cs.length (q0 + 2) - (q0 - 1)) (fun j σ H' => ∃ (es' : Es) (y9 y10 : Option V), σ = [some (.ref c), some (.int cs.length), some (.int (0 + (o : Int))), some (.int r), some (.ref R), some (.int ((at0 : Int) + 1)), some (.ref D), some (.ref a), some (.int (((p - 1 : Nat) : Int) + (i : Int))), y9, y10, none] ∧ HI P w Hd H' R D es' ∧ BI cs o r es' ∧ es1 <+: es' ∧
                    ∀ q', q' < (q0 - 1) + j → Near q0 q' → q' < cs.length → cs[p - 1 + i]? = cs[q']? → (p - 1 + i, q', fl || decide (p - 1 + i ≠ q')) ∈ es'.map (·.1))
                  ⟨es1, y9, y10, rfl, hi1, bi1, List.prefix_refl _, fun q' h1 h2 => by unfold Near at h2; omega⟩ ?_ ?_
                · rintro j σ H5 hjn ⟨es2, y9, y10, rfl, hi2, bi2, pre2, done2⟩
                  have ha2 : H5 a = some (.tup [.int (p : Int), .int (q0 : Int), .bl fl]) := hi2.tups ((p, q0, fl), a) (pre2.subset (pre1.subset (List.mem_of_getElem? he)))
                  refine ⟨_, rfl, _, rfl, _, rfl, a, _, _, _, rfl, rfl, SqT.of ha2, by rfl, _, rfl, ?_⟩
                  refine or_if (fun h => h) (fun h => ⟨_, rfl, _, rfl, rfl, h⟩) ?_
                  have ep : (((p - 1 : Nat) : Int) + (i : Int)) = ((p - 1 + i : Nat) : Int) := by omega
                  have eq : (((q0 - 1 : Nat) : Int) + (j : Int)) = ((q0 - 1 + j : Nat) : Int) := by omega
                  rw [ep, eq, ne_dec]
                  have lp : p - 1 + i < cs.length := by omega
                  have lq : q0 - 1 + j < cs.length := by omega
                  have np : Near p (p - 1 + i) := by unfold Near; omega
                  have nq : Near q0 (q0 - 1 + j) := by unfold Near; omega
                  generalize hp' : p - 1 + i = p' at lp np done2 ⊢
                  generalize hq' : q0 - 1 + j = q' at lq nq ⊢
                  obtain ⟨c1, ec1⟩ := get_lt (cs := cs) (j := p') lp
                  obtain ⟨c2, ec2⟩ := get_lt (cs := cs) (j := q') lq
                  refine ⟨(by show 3 ≤ sizeLine; decide), fun b hb => ?_⟩
                  have s6 := same_new (o := .tup (tv (p', q', fl || decide (p' ≠ q')))) hb
                  have hi3 := hi2.grow s6
                  have hb3 : (upd H5 b (.tup (tv (p', q', fl || decide (p' ≠ q'))))) b = some (.tup (tv (p', q', fl || decide (p' ≠ q')))) := upd_same
                  have hS6 := (s2.trans hi3.s).seq hS
                  refine ⟨_, rfl, _, rfl, c, Cs cs, _, _, rfl, rfl, hS6, at_cs (j := p') rfl ec1, _, rfl, _, rfl, c, Cs cs, _, _, rfl, rfl, hS6, at_cs (j := q') rfl ec2, rfl, _, rfl, ?_⟩
                  refine and_if (fun _ g => ⟨_, rfl, _, rfl, D, b, keysOf es2, kk (p', q', fl || decide (p' ≠ q')), rfl, rfl, hi3.dic, hi3.keys, key_tv hb3, _, rfl, g⟩) (fun e1 e2 => ?_) (fun hno4 => ?_)
                  · have e1 : c1 = c2 := by
                      have := of_decide_eq_true e1
                      injection this
                    have hn : (p', q', fl || decide (p' ≠ q')) ∉ es2.map (·.1) := fun z => by
                      rw [decide_eq_true (keys_mem.mpr z)] at e2
                      exact nomatch e2
                    have hlk : (keysOf es2).length < sizeLine := small_lt (by unfold keysOf; rw [List.length_map]; have := bi2.le ho hrl er; have : cs.length * (cs.length * 2) ≤ 10 * (10 * 2) := Nat.mul_le_mul hz (Nat.mul_le_mul_right 2 hz); omega)
                    have hlr : (rowOf es2).length < sizeLine := small_lt (by unfold rowOf; rw [List.length_map]; have := bi2.le ho hrl er; have : cs.length * (cs.length * 2) ≤ 10 * (10 * 2) := Nat.mul_le_mul hz (Nat.mul_le_mul_right 2 hz); omega)
                    refine ⟨_, rfl, _, rfl, D, b, keysOf es2, kk (p', q', fl || decide (p' ≠ q')), rfl, rfl, rfl, hi3.dic, hi3.keys, key_tv hb3, fun z => hn (keys_mem.mp z), hlk, ?_⟩
                    have hrow : (upd (upd H5 b (.tup (tv (p', q', fl || decide (p' ≠ q'))))) D (TD P w D (keysOf es2 ++ [(kk (p', q', fl || decide (p' ≠ q')), b)]))) R = some (.lst (rowOf es2)) := (upd_ne hRD).trans hi3.row
                    refine ⟨_, rfl, .inl ⟨rfl, _, SqL.of hrow⟩, _, rfl, R, _, _, rfl, rfl, hrow, hlr, ?_⟩
                    have rch : Reach cs o r p' q' (fl || decide (p' ≠ q')) := .step hr0 np nq lp lq (by rw [ec1, ec2, e1])
                    refine ⟨es2 ++ [((p', q', fl || decide (p' ≠ q')), b)], _, _, rfl, hi3.add hb3, bi2.add hn rch, pre2.trans (List.prefix_append _ _), fun q2 h1 h2 h3 h4 => ?_⟩
                    rw [List.map_append]
                    by_cases e : q2 = q'
                    · subst e
                      exact List.mem_append_right _ (List.mem_singleton.mpr rfl)
                    · exact List.mem_append_left _ (done2 q2 (by omega) h2 h3 h4)
                  · refine ⟨es2, _, _, rfl, hi3, bi2, pre2, fun q2 h1 h2 h3 h4 => ?_⟩
                    by_cases e : q2 = q'
                    · subst e
                      refine Decidable.byContradiction fun z => hno4 ⟨decide_eq_true ?_, ?_⟩
                      · rw [ec1, ec2] at h4
                        rw [Option.some.inj h4]
                      · rw [decide_eq_false fun y => z (keys_mem.mp y)]
                        rfl
                    · exact done2 q2 (by omega) h2 h3 h4
                · rintro σ H5 ⟨es2, y9, y10, rfl, hi2, bi2, pre2, done2⟩
                  refine ⟨es2, _, _, _, rfl, hi2, bi2, pre1.trans pre2, fun p' h1 h2 h3 q' h4 h5 h6 => ?_⟩
                  by_cases e : p' = p - 1 + i
                  · subst e
                    exact done2 q' (by unfold Near at h4; omega) h4 h5 h6
                  · exact (pre2.map _).subset (done1 p' (by omega) h2 h3 q' h4 h5 h6)
              · rintro σ H4 ⟨es1, y8, y9, y10, rfl, hi1, bi1, pre1, done1⟩
                have hl1 := pre1.length_le
                refine ⟨⟨es1, at0 + 1, _, _, _, _, rfl, hi1, bi1, by omega, fun t ht => ?_⟩, ?_⟩
                · obtain ⟨ext, rfl⟩ := pre1
                  rw [List.take_append_of_le_length (by omega), tk he, List.map_append] at ht
                  rcases List.mem_append.mp ht with ht | ht
                  · exact (hcl t ht).grow fun s hs => by
                      rw [List.map_append]
                      exact List.mem_append_left _ hs
                  · rw [List.mem_singleton.mp ht]
                    refine ⟨fun e n => hno3 ⟨e, decide_eq_true ?_⟩, fun p' q' h1 h2 h3 h4 h5 => done1 p' ?_ h1 h3 q' h2 h4 h5⟩
                    · have n : p ≤ r + 1 ∧ r ≤ p + 1 := n
                      show (if (p : Int) - (r : Int) < 0 then -((p : Int) - (r : Int)) else (p : Int) - (r : Int)) < 2
                      split <;> omega
                    · have h1 : p ≤ p' + 1 ∧ p' ≤ p + 1 := h1
                      omega
                · show (1000 - ((at0 : Int) + 1)).toNat < (1000 - (at0 : Int)).toNat
                  omega
          · have : at0 = es.length := by
              have : ¬ ((at0 : Int) < (es.length : Int)) := fun z => hlt (decide_eq_true z)
              omega
            rw [this, List.take_length] at hcl
            refine ⟨hi.s, _, _, _, _, _, _, _, _, rfl, fun r' hr' => ?_⟩
            rcases List.mem_append.mp hr' with hr' | hr'
            · exact hno2 r' hr'
            · rw [List.mem_singleton.mp hr']
              exact bi.done hcl
        · rintro σ H2 ⟨s3, y3, y4, y5, y6, y7, y8, y9, y10, rfl, hno2⟩
          refine ⟨s2.trans s3, _, _, _, _, _, _, _, _, _, rfl, fun o' ho' r hr1 hr2 => ?_⟩
          by_cases e : o' = o
          · subst e
            refine hno2 r ?_
            rw [List.length_map, List.take_length]
            exact plc_mem.mpr ⟨hr1, hr2⟩
          · exact hno o' (by omega) r hr1 hr2
    · rintro σ H1 ⟨s1, y2, y3, y4, y5, y6, y7, y8, y9, y10, rfl, hno⟩
      refine q H1 false s1 ⟨fun z => (nomatch z), fun z => absurd ?_ z⟩
      refine calm_iff.mpr fun o r ho hr e p q' h => hno o ho r hr e.symm p q' h
end
end K51
/-! K51: the law's own looking at calm colours and at walks. -/
namespace K51
open PySem PySem.Spec PyProof.Rows L2

abbrev s_law_plain_calm : Stmt := topS 42
abbrev N_law_plain_calm : List Str := ["_law_colours", "_law_many", "_law_begin", "_law_half", "_law_at"]
theorem sc_law_plain_calm : FnScope N_law_plain_calm ["_law_colours"] (defScope s_law_plain_calm) := ⟨rfl, rfl, rfl, by decide +kernel, rfl, by decide +kernel, by decide +kernel⟩

/-- what is kept of the first numbers -/
def kp (c : Nat → Bool) (lo i : Nat) : List Int := ((List.range i).filter fun a => c (lo + a)).map fun (a : Nat) => ((lo : Int) + (a : Int))
theorem kp_yes {c : Nat → Bool} {lo i : Nat} (h : c (lo + i) = true) : kp c lo (i + 1) = kp c lo i ++ [((lo : Int) + (i : Int))] := by
  unfold kp
  rw [List.range_succ, List.filter_append, List.map_append]
  simp [h]
theorem kp_no {c : Nat → Bool} {lo i : Nat} (h : c (lo + i) = false) : kp c lo (i + 1) = kp c lo i := by
  unfold kp
  rw [List.range_succ, List.filter_append, List.map_append]
  simp [h]
theorem kp_len {c : Nat → Bool} {lo i : Nat} : (kp c lo i).length ≤ i := by
  unfold kp
  rw [List.length_map]
  have := List.length_filter_le (fun a => c (lo + a)) (List.range i)
  rw [List.length_range] at this
  exact this
theorem kp_nil {c : Nat → Bool} {lo n : Nat} : kp c lo n = [] ↔ ∀ a, a < n → c (lo + a) = false := by
  unfold kp
  rw [List.map_eq_nil_iff, List.filter_eq_nil_iff]
  constructor
  · intro h a ha
    have := h a (List.mem_range.mpr ha)
    cases e : c (lo + a)
    · rfl
    · exact absurd e this
  · intro h a ha
    rw [h a (List.mem_range.mp ha)]
    exact nofun
theorem cs_nil {xs : List Int} : Cs xs = [] ↔ xs = [] := by
  unfold Cs
  exact List.map_eq_nil_iff

section
variable {P : Program} {w : World} {K : PySem.W.Frag} {mg : Str → Option Value} {base : Heap} {ad : Ads} {f : Addr} {fd : FuncData}
theorem ok_lcalm (F : Fun K "_law_plain_calm" "_law_plain_calm" s_law_plain_calm f fd) (T : Txt K mg ad) : FnOk P w K mg base CX0 1 f fd ["_law_colours"] (sp_lcalm K) := by
  refine F.ok sc_law_plain_calm (fun vs H Q E h => ?_) (fun cdv A outer s H vs Q E hr h => ?_)
  · obtain ⟨c, cs, rfl, _⟩ := h
    rfl
  · obtain ⟨c, cs, rfl, hS, hz, q⟩ := h
    refine ⟨_, ((pss_cons (ps_set (i := 1) sc_law_plain_calm.nd rfl (.inl rfl) (pe_callB call_len_seq (by rfl) T.len (by decide +kernel) (pa_cons (pv 0) pa_nil)))
      (pss_cons (ps_if (pt_cmpR (op_neD hr.units) (pe_lc (own := [("_law_at", 4)]) rfl sc_law_plain_calm.nd (pi_range1 (by rfl) T.range (pa_cons (pe_op op_sub (pv 1) pe_int) pa_nil)) (blkOk_by (N := N_law_plain_calm) (sc := defScope s_law_plain_calm) (by decide +kernel)) (fun _ _ _ _ _ => pg_name (i := 4) sc_law_plain_calm.nd rfl (Or.inl rfl)) (fun _ _ _ _ _ => pts_one (pt_cmpR op_eq (pe_ix (ix_listK K rfl) (pv 0) (pv 4) (fun _ _ => rfl)) (pe_ix (ix_listK K rfl) (pv 0) (pe_op op_add (pv 4) pe_int) (fun _ _ => rfl)) (nomark _))) (fun _ _ _ _ _ => (pv 4))) (pe_lst pa_nil) (nomark _)) (pss_one (ps_ret pe_bl)) pss_nil)
      (pss_cons (ps_for PassesOwn.never rfl (pi_range1 (by rfl) T.range (pa_cons (pv 1) pa_nil)) (pg_name (i := 2) sc_law_plain_calm.nd rfl (.inl rfl)) (pss_one (ps_for PassesOwn.never rfl (pi_range2 (by rfl) T.range (pa_cons pe_int (pa_cons (pe_op op_add (pe_op op_fdivN (pe_op op_sub (pv 1) (pv 2)) pe_int) pe_int) pa_nil))) (pg_name (i := 3) sc_law_plain_calm.nd rfl (.inl rfl)) (pss_one (ps_if (pt_cmpR (op_eqD hr.units) (pe_slice sl_list (pv 0) (po_some (pv 2)) (po_some (pe_op op_add (pv 2) (pv 3)))) (pe_slice sl_list (pv 0) (po_some (pe_op op_add (pv 2) (pv 3))) (po_some (pe_op op_add (pv 2) (pe_op op_mul pe_int (pv 3))))) (nomark _)) (pss_one (ps_ret pe_bl)) pss_nil)))))
      (pss_one (ps_ret pe_bl)))))), ?_⟩
    refine ⟨_, rfl, c, Cs cs, rfl, .inl hS, ?_⟩
    rw [cs_len]
    refine ⟨_, rfl, _, _, rfl, rfl, _, rfl, by omega, by omega, ?_⟩
    rw [show ((cs.length : Int) - 2).toNat = cs.length - 2 by omega]
    intro L hL
    refine lcS (w := walk_range (lo := 0) (n := cs.length - 2)) (H0 := H) (fun i => Cs (kp (fun a => decide (cs[a]? = cs[a + 2]?)) 0 i)) rfl (fun i hi => small_lt (by rw [cs_len]; have := kp_len (c := fun a => decide (cs[a]? = cs[a + 2]?)) (lo := 0) (i := i); omega)) (Same.refl _) hL (fun _ _ => True.intro) ?_ (fun Hd sd hDd => ?_)
    · rintro i y Hi H' Q1 Q0 hi sH hDi ⟨rfl, rfl⟩ k1 k0
      obtain ⟨c1, e1⟩ := get_lt (cs := cs) (j := i) (by omega)
      obtain ⟨c2, e2⟩ := get_lt (cs := cs) (j := i + 2) (by omega)
      have hSi := sH.seq hS
      refine ⟨rfl, ?_⟩
      refine ⟨_, rfl, _, rfl, c, Cs cs, _, _, rfl, rfl, hSi, at_cs (j := i) (by omega) e1, _, rfl, _, rfl, _, _, rfl, rfl, c, Cs cs, _, _, rfl, rfl, hSi, at_cs (j := i + 2) (by omega) e2, rfl, _, rfl, ?_⟩
      refine ite2 (fun hn => ?_) (fun hn => ?_)
      · have e : c1 = c2 := by
          have := of_decide_eq_true hn
          injection this
        refine ⟨_, rfl, k1 _ _ (Same.refl _) ?_⟩
        rw [kp_yes (by rw [Nat.zero_add]; exact decide_eq_true (by rw [e1, e2, e])), cs_app]
        rfl
      · exact k0 _ (Same.refl _) (by rw [kp_no (by rw [Nat.zero_add]; exact decide_eq_false (fun e => hn (decide_eq_true (by rw [e1, e2] at e; rw [Option.some.inj e]))))])
    · refine ⟨Nat.zero_le _, fun N hN => ?_⟩
      have s1 := sm_new (o := .lst []) sd hN
      refine rd_neNil (SqL.of (same_new hN _ _ hDd)) (lf_cs _) (SqL.of upd_same) ⟨_, rfl, ?_⟩
      generalize upd Hd N (.lst []) = H1 at s1 ⊢
      refine ite2 (fun hn => ?_) (fun hn => ?_)
      · have hne : kp (fun a => decide (cs[a]? = cs[a + 2]?)) 0 (cs.length - 2) ≠ [] := fun e => by
          rw [decide_eq_true (cs_nil.mpr e)] at hn
          exact nomatch hn
        refine q H1 false s1 ⟨fun z => (nomatch z), fun C => absurd ?_ hne⟩
        refine kp_nil.mpr fun a ha => decide_eq_false fun e => C.1 ⟨a, by omega, ?_⟩
        rw [Nat.zero_add] at e
        exact e
      · have hnil : kp (fun a => decide (cs[a]? = cs[a + 2]?)) 0 (cs.length - 2) = [] := Decidable.byContradiction fun e => hn (by
          rw [decide_eq_false (fun z => e (cs_nil.mp z))]
          rfl)
        have nt : ¬ Three cs := fun ⟨a, h1, h2⟩ => by
          have := kp_nil.mp hnil a (by omega)
          rw [Nat.zero_add] at this
          exact of_decide_eq_false this h2
        refine ⟨_, rfl, _, rfl, by omega, by omega, ?_⟩
        rw [show ((cs.length : Int)).toNat = cs.length by omega]
        refine for_range (lo := 0) (n := cs.length) (fun b σ H' => Same H H' ∧ ∃ y2 y3, σ = [some (.ref c), some (.int cs.length), y2, y3, none] ∧ ∀ b', b' < b → ∀ h, ¬ Sq cs b' h) ⟨s1, _, _, rfl, fun b' h => absurd h (by omega)⟩ ?_ ?_
        · rintro b σ H2 hb ⟨s2, y2, y3, rfl, hno⟩
          refine ⟨_, rfl, _, rfl, _, _, rfl, rfl, ?_⟩
          refine ⟨_, _, rfl, rfl, ⟨by decide, by decide⟩, _, _, rfl, rfl, _, _, rfl, ?_⟩
          rw [show ((cs.length : Int) - (0 + (b : Int))) = ((cs.length - b : Nat) : Int) by omega, fdiv2]
          refine ⟨⟨by omega, by omega, by omega, by omega⟩, ?_⟩
          rw [show (((((cs.length - b) / 2 : Nat) : Int) + 1 - 1)).toNat = (cs.length - b) / 2 by omega]
          refine for_range (lo := 1) (n := (cs.length - b) / 2) (fun j σ H' => Same H H' ∧ ∃ y3, σ = [some (.ref c), some (.int cs.length), some (.int (0 + (b : Int))), y3, none] ∧ ∀ h, h < 1 + j → ¬ Sq cs b h) ⟨s2, _, rfl, fun h hh s => by have := s.1; omega⟩ ?_ ?_
          · rintro j σ H3 hj ⟨s3, y3, rfl, hno2⟩
            have hS3 := s3.seq hS
            refine ⟨_, rfl, _, rfl, _, rfl, ?_⟩
            refine ⟨_, rfl, _, rfl, ?_⟩
            refine ⟨_, _, rfl, rfl, ?_⟩
            refine ⟨_, rfl, c, Cs cs, rfl, hS3, fun A hA => ?_⟩
            rw [cut_mid (k := b) (m := b + 1 + j) (by omega) (by show (0 + (b : Int)) + (1 + (j : Int)) = _; omega) (by rw [cs_len]; omega) (by omega), cs_drop, cs_take]
            have sA := same_new (o := .lst (Cs ((cs.drop b).take (b + 1 + j - b)))) hA
            have hS4 := sA.seq hS3
            refine ⟨_, rfl, _, rfl, _, rfl, ?_⟩
            refine ⟨_, _, rfl, rfl, _, rfl, ?_⟩
            refine ⟨_, rfl, _, rfl, _, _, rfl, rfl, .inl ⟨by decide, by decide⟩, _, _, rfl, rfl, _, rfl, c, Cs cs, rfl, hS4, fun B hB => ?_⟩
            rw [cut_mid (k := b + 1 + j) (m := b + 2 * (1 + j)) (by show (0 + (b : Int)) + (1 + (j : Int)) = _; omega) (by show (0 + (b : Int)) + 2 * (1 + (j : Int)) = _; omega) (by rw [cs_len]; omega) (by omega), cs_drop, cs_take]
            have sB := same_new (o := .lst (Cs ((cs.drop (b + 1 + j)).take (b + 2 * (1 + j) - (b + 1 + j))))) hB
            have sl : Sq cs b (1 + j) ↔ (cs.drop b).take (b + 1 + j - b) = (cs.drop (b + 1 + j)).take (b + 2 * (1 + j) - (b + 1 + j)) := by
              rw [sq_slices (by omega) (by omega), show b + 1 + j - b = 1 + j by omega, show b + 2 * (1 + j) - (b + 1 + j) = 1 + j by omega, Nat.add_assoc]
            have s4 := (s3.trans sA).trans sB
            refine rd_eqL (SqL.of (sB _ _ upd_same)) (SqL.of upd_same) ⟨_, rfl, ?_⟩
            generalize upd (upd H3 A _) B _ = H4 at s4 ⊢
            refine ite2 (fun hn => ?_) (fun hn => ?_)
            · exact q H4 false s4 ⟨fun z => (nomatch z), fun C => absurd (sl.mpr (of_decide_eq_true hn)) (C.2 b (1 + j))⟩
            · refine ⟨s4, _, rfl, fun h hh s => ?_⟩
              by_cases e : h = 1 + j
              · subst e
                exact hn (decide_eq_true (sl.mp s))
              · exact hno2 h (by omega) s
          · rintro σ H3 ⟨s3, y3, rfl, hno2⟩
            refine ⟨s3, _, _, rfl, fun b' hb' h s => ?_⟩
            by_cases e : b' = b
            · subst e
              have := s.2.1
              exact hno2 h (by omega) s
            · exact hno b' (by omega) h s
        · rintro σ H2 ⟨s2, y2, y3, rfl, hno⟩
          refine q H2 true s2 ⟨fun _ => ⟨nt, fun b h s => ?_⟩, fun _ => rfl⟩
          have := s.1
          have := s.2.1
          exact hno b (by omega) h s
end
end K51
/-! K51: the law's own looking at walks. -/
namespace K51
open PySem PySem.Spec PyProof.Rows L2

abbrev s_law_is_stray : Stmt := topS 43
abbrev N_law_is_stray : List Str := ["_law_colours", "_law_walk", "_law_half", "_law_seen", "_law_place", "_law_at"]
theorem sc_law_is_stray : FnScope N_law_is_stray ["_law_colours", "_law_walk"] (defScope s_law_is_stray) := ⟨rfl, rfl, rfl, by decide +kernel, rfl, by decide +kernel, by decide +kernel⟩

theorem any_of {K : PySem.W.Frag} {tl : TE} {σ : L2.St} {H : Hp} {R : It → Hp → Prop} {a : Addr} {xs : List V} (ht : ∀ Q' : VK, Q' (.ref a) H → tl σ H Q') (h : SqL K H a xs ∨ SqT K H a xs)
    (hr : ∀ (J : It) (G : Hp → Prop), Walk J xs.length G (YAt xs) → (∀ H', Same H H' → G H') → R J H) : iList K tl σ H R ∨ iTup K tl σ H R := by
  rcases h with h | h
  · exact .inl (ht _ ⟨a, rfl, ⟨xs, h⟩, hr _ _ walk_list fun H' s => s.seq h⟩)
  · exact .inr (ht _ ⟨a, rfl, ⟨xs, h⟩, hr _ _ walk_tup fun H' s => sm_seqT s h⟩)
/-- no place of a line of n -/
def badV (n : Int) : V → Bool
  | .int i => !(decide (0 ≤ i) && decide (i < n))
  | _ => true
def bads (n : Int) (xs : List V) : List V := xs.filter (badV n)
theorem bads_lf {n : Int} {xs : List V} (h : Lf xs) : Lf (bads n xs) := fun y hy => h y (List.mem_filter.mp hy).1
theorem bads_nil {n : Int} {xs : List V} : bads n xs = [] ↔ ∀ x ∈ xs, ∃ i, x = .int i ∧ 0 ≤ i ∧ i < n := by
  unfold bads
  rw [List.filter_eq_nil_iff]
  constructor
  · intro h x hx
    have := h x hx
    cases x with
    | int i =>
      have e : (decide (0 ≤ i) && decide (i < n)) = true := by
        cases e : (decide (0 ≤ i) && decide (i < n))
        · exact absurd (show (!(decide (0 ≤ i) && decide (i < n))) = true by rw [e]; rfl) this
        · rfl
      rw [Bool.and_eq_true] at e
      exact ⟨i, rfl, of_decide_eq_true e.1, of_decide_eq_true e.2⟩
    | _ => exact absurd rfl this
  · intro h x hx
    obtain ⟨i, rfl, h1, h2⟩ := h x hx
    show ¬ (!(decide (0 ≤ i) && decide (i < n))) = true
    rw [decide_eq_true h1, decide_eq_true h2]
    exact nofun
theorem bads_yes {n : Int} {xs : List V} {i : Nat} {y : V} (h : xs[i]? = some y) (hb : badV n y = true) : bads n (xs.take (i + 1)) = bads n (xs.take i) ++ [y] := by
  rw [tk h]
  unfold bads
  rw [List.filter_append]
  simp [hb]
theorem bads_no {n : Int} {xs : List V} {i : Nat} {y : V} (h : xs[i]? = some y) (hb : badV n y = false) : bads n (xs.take (i + 1)) = bads n (xs.take i) := by
  rw [tk h]
  unfold bads
  rw [List.filter_append]
  simp [hb]
def farB (w : List Int) (a : Nat) : Bool := decide (1 < (if w.getD a 0 - w.getD (a - 1) 0 < 0 then -(w.getD a 0 - w.getD (a - 1) 0) else w.getD a 0 - w.getD (a - 1) 0))
theorem far_iff {w : List Int} : (∀ a, a < w.length - 1 → farB w (1 + a) = false) ↔ ∀ i x y, w[i]? = some x → w[i + 1]? = some y → x - y ≤ 1 ∧ y - x ≤ 1 := by
  constructor
  · intro h i x y hx hy
    have hi : i + 1 < w.length := (List.getElem?_eq_some_iff.mp hy).1
    have := h i (by omega)
    unfold farB at this
    rw [show 1 + i = i + 1 by omega, getD_of hy, show i + 1 - 1 = i by omega, getD_of hx] at this
    have := of_decide_eq_false this
    split at this <;> omega
  · intro h a ha
    have hx : w[a]? = some w[a] := List.getElem?_eq_getElem (by omega)
    have hy : w[a + 1]? = some w[a + 1] := List.getElem?_eq_getElem (by omega)
    have := h a _ _ hx hy
    unfold farB
    rw [show 1 + a = a + 1 by omega, getD_of hy, show a + 1 - 1 = a by omega, getD_of hx]
    refine decide_eq_false ?_
    split <;> omega
theorem rd_ixLT {K : PySem.W.Frag} {H : Hp} {a : Addr} {xs : List V} {i : Int} {v : V} {Q : VK} (h : SqL K H a xs ∨ SqT K H a xs) (e : atI xs i = some v) (q : Q v H) : rIxLT K (.ref a) (.int i) H Q :=
  h.elim (fun h => .inl ⟨a, xs, i, v, rfl, rfl, h, e, q⟩) (fun h => .inr ⟨a, xs, i, v, rfl, rfl, h, e, q⟩)
theorem rd_slLT {K : PySem.W.Frag} {H : Hp} {a : Addr} {xs : List V} {lo hi : Option Int} {Q : VK} (h : SqL K H a xs ∨ SqT K H a xs) (hs : ¬(HT.sIx xs.length 0 lo = 0 ∧ HT.sIx xs.length xs.length hi = xs.length))
    (q : ∀ p H', Same H H' → (SqL K H' p (cutV xs lo hi) ∨ SqT K H' p (cutV xs lo hi)) → Q (.ref p) H') : rSlLT K (.ref a) lo hi H Q :=
  h.elim (fun h => .inl ⟨a, xs, rfl, h, fun p hp => q p _ (same_new hp) (.inl (SqL.of upd_same))⟩) (fun h => .inr ⟨a, xs, rfl, h, hs, fun p hp => q p _ (same_new hp) (.inr (SqT.of upd_same))⟩)
theorem bads_len {n : Int} {xs : List V} : (bads n xs).length ≤ xs.length := List.length_filter_le _ _

section
variable {P : Program} {w : World} {K : PySem.W.Frag} {mg : Str → Option Value} {base : Heap} {ad : Ads} {f : Addr} {fd : FuncData}
theorem ok_lis (F : Fun K "_law_is_stray" "_law_is_stray" s_law_is_stray f fd) (T : Txt K mg ad) : FnOk P w K mg base CX0 1 f fd ["_law_colours", "_law_walk"] (sp_lis K) := by
  refine F.ok sc_law_is_stray (fun vs H Q E h => ?_) (fun cdv A outer s H vs Q E hr h => ?_)
  · obtain ⟨r, cs, v, d, rfl, _⟩ := h
    rfl
  · obtain ⟨r, cs, v, d, rfl, hS, hz, hx, q⟩ := h
    refine ⟨_, ((pss_cons (ps_if (PW.pt (pw_or (pt_not (pt_val (pe_callB call_isiT (by rfl) T.isinstance (by decide +kernel) (pa_cons (pv 1) (pa_cons (pe_tup (pa_cons (pe_bltn (v := .ty "list") (by rfl) T.list (by decide +kernel) rfl) (pa_cons (pe_bltn (v := .ty "tuple") (by rfl) T.tuple (by decide +kernel) rfl) pa_nil))) pa_nil))))) (pw_or (pt_cmpR op_eq (pe_callB call_len_seq (by rfl) T.len (by decide +kernel) (pa_cons (pv 1) pa_nil)) pe_int (nomark _)) (pw_or1 (pt_cmpR op_eq (pe_op op_modN (pe_callB call_len_seq (by rfl) T.len (by decide +kernel) (pa_cons (pv 1) pa_nil)) pe_int) pe_int (nomark _)))))) (pss_one (ps_ret pe_bl)) pss_nil)
      (pss_cons (ps_if (pt_cmpR (op_neD hr.units) (pe_lc (own := [("_law_place", 4)]) rfl sc_law_is_stray.nd (pi_any (pv 1)) (blkOk_by (N := N_law_is_stray) (sc := defScope s_law_is_stray) (by decide +kernel)) (fun _ _ _ _ _ => pg_name (i := 4) sc_law_is_stray.nd rfl (Or.inl rfl)) (fun _ _ _ _ _ => pts_one (PW.pt (pw_or (pt_val (pe_callB (call_isiKK K rfl) (by rfl) T.isinstance (by decide +kernel) (pa_cons (pv 4) (pa_cons (pe_bltn (v := .ty "bool") (by rfl) T.bool (by decide +kernel) rfl) pa_nil)))) (pw_or (pt_not (pt_val (pe_callB (call_isiKK K rfl) (by rfl) T.isinstance (by decide +kernel) (pa_cons (pv 4) (pa_cons (pe_bltn (v := .ty "int") (by rfl) T.int (by decide +kernel) rfl) pa_nil))))) (pw_or1 (pt_not (pt_chain op_le op_lt pe_int (pv 4) (pe_callB (call_lenK K rfl) (by rfl) T.len (by decide +kernel) (pa_cons (pv 0) pa_nil))))))))) (fun _ _ _ _ _ => (pv 4))) (pe_lst pa_nil) (nomark _)) (pss_one (ps_ret pe_bl)) pss_nil)
      (pss_cons (ps_if (pt_cmpR (op_neD hr.units) (pe_lc (own := [("_law_at", 5)]) rfl sc_law_is_stray.nd (pi_range2 (by rfl) T.range (pa_cons pe_int (pa_cons (pe_callB call_len_seq (by rfl) T.len (by decide +kernel) (pa_cons (pv 1) pa_nil)) pa_nil))) (blkOk_by (N := N_law_is_stray) (sc := defScope s_law_is_stray) (by decide +kernel)) (fun _ _ _ _ _ => pg_name (i := 5) sc_law_is_stray.nd rfl (Or.inl rfl)) (fun _ _ _ _ _ => pts_one (pt_cmpR op_gt (pe_callB call_abs (by rfl) T.abs (by decide +kernel) (pa_cons (pe_op op_sub (pe_ix (ix_ltK K rfl) (pv 1) (pv 5) (fun _ _ => rfl)) (pe_ix (ix_ltK K rfl) (pv 1) (pe_op op_sub (pv 5) pe_int) (fun _ _ => rfl))) pa_nil)) pe_int (nomark _))) (fun _ _ _ _ _ => (pv 5))) (pe_lst pa_nil) (nomark _)) (pss_one (ps_ret pe_bl)) pss_nil)
      (pss_cons (ps_set (i := 2) sc_law_is_stray.nd rfl (.inl rfl) (pe_op op_fdivN (pe_callB call_len_seq (by rfl) T.len (by decide +kernel) (pa_cons (pv 1) pa_nil)) pe_int))
      (pss_cons (ps_setLc (i := 3) (own := [("_law_place", 4)]) rfl sc_law_is_stray.nd rfl rfl (sw_true rfl rfl rfl (by decide +kernel)) (pi_any (pv 1)) (blkOk_by (N := N_law_is_stray) (sc := defScope s_law_is_stray) (by decide +kernel)) (fun _ _ _ _ _ => pg_name (i := 4) sc_law_is_stray.nd rfl (Or.inl rfl)) (fun _ _ _ _ _ => pts_nil) (fun _ _ _ _ _ => (pe_ix (ix_listK K rfl) (pv 0) (pv 4) (fun _ _ => rfl))))
      (pss_one (ps_ret (pe_and (pe_cmpR (op_eqD hr.units) (pe_slice sl_list (pv 3) po_none (po_some (pv 2))) (pe_slice sl_list (pv 3) (po_some (pv 2)) po_none) (nomark _)) (pe_one (pe_cmpR (op_neD hr.units) (pe_callTy call_list_of (by rfl) T.list (by decide +kernel) (pa_cons (pe_slice sl_lt (pv 1) po_none (po_some (pv 2))) pa_nil)) (pe_callTy call_list_of (by rfl) T.list (by decide +kernel) (pa_cons (pe_slice sl_lt (pv 1) (po_some (pv 2)) po_none) pa_nil)) (nomark _)))))))))))), ?_⟩
    refine ⟨_, rfl, (by show 2 ≤ sizeLine; decide), fun p hp => ?_⟩
    have s1 := same_new (o := .tup [V.ty "list", V.ty "tuple"]) hp
    cases d with
    | none =>
      obtain ⟨n, hx⟩ := hx
      refine ⟨v, p, _, _, _, _, rfl, upd_same, clsLT, leaf_ty hx, kit_lt_leaf hx, _, rfl, ?_⟩
      exact iteT (iteT (q _ false s1 ⟨fun z => (nomatch z), fun ⟨w, e, _⟩ => nomatch e⟩))
    | some xs =>
      obtain ⟨a, rfl, hA, hl, hxz⟩ := hx
      have ty : ∃ t, TyX K (upd H p (.tup [V.ty "list", V.ty "tuple"])) (.ref a) t ∧ PySem.W.kitAny K t [.type "list", .type "tuple"] = some true := by
        rcases hA with h | h
        · exact ⟨_, sqL_ty (s1.seq h), kit_lt_list⟩
        · exact ⟨_, sqT_ty (sm_seqT s1 h), kit_lt_tuple⟩
      obtain ⟨t, ht, kt⟩ := ty
      have keep : ∀ H', Same H H' → (SqL K H' a xs ∨ SqT K H' a xs) := fun H' s => hA.elim (fun h => .inl (s.seq h)) (fun h => .inr (sm_seqT s h))
      have hA1 := keep _ s1
      refine ⟨_, p, _, _, _, _, rfl, upd_same, clsLT, ht, kt, _, rfl, ?_⟩
      generalize upd H p (.tup [V.ty "list", V.ty "tuple"]) = H1 at s1 hA1 ⊢
      refine iteF ?_
      refine ⟨_, rfl, a, xs, rfl, hA1, rfl, _, rfl, ?_⟩
      refine ite2 (fun hn => ?_) (fun hn => ?_)
      · refine iteT (q _ false s1 ⟨fun z => (nomatch z), fun ⟨w, e, sw⟩ => ?_⟩)
        have := of_decide_eq_true hn
        injection this with this
        injection e with e
        rw [e, cs_len] at this
        exact (sw.1 (by omega)).elim
      · refine ⟨_, rfl, a, xs, rfl, hA1, _, _, rfl, rfl, (by show (2 : Int) ≠ 0; decide), rfl, _, rfl, ?_⟩
        have em : ((xs.length : Int)).fmod 2 = ((xs.length % 2 : Nat) : Int) := by
          rw [Int.fmod_eq_emod_of_nonneg _ (by decide)]
          omega
        have hne : xs.length ≠ 0 := fun z => hn (decide_eq_true (by
          show V.int ((xs.length : Nat) : Int) = V.int 0
          rw [z]
          rfl))
        refine ite2 (fun hn2 => ?_) (fun hn2 => ?_)
        · refine q _ false s1 ⟨fun z => (nomatch z), fun ⟨w, e, sw⟩ => ?_⟩
          have := of_decide_eq_true hn2
          injection this with this
          rw [em] at this
          injection e with e
          rw [e, cs_len] at this
          have := sw.2.1
          omega
        · have hev : xs.length % 2 = 0 := by
            rcases Nat.mod_two_eq_zero_or_one xs.length with e | e
            · exact e
            · exfalso
              refine hn2 (decide_eq_true ?_)
              show V.int (((xs.length : Int)).fmod 2) = V.int 1
              rw [em, e]
              rfl
          refine any_of (a := a) (xs := xs) (fun Q' h => ⟨_, rfl, h⟩) hA1 (fun J G wJ hG => ?_)
          intro L hL
          refine lcS (w := wJ) (H0 := H1) (fun i => bads (cs.length : Int) (xs.take i)) rfl (fun i hi => small_lt (by have := bads_len (n := (cs.length : Int)) (xs := xs.take i); rw [List.length_take] at this; omega)) (Same.refl _) hL hG ?_ (fun Hd sd hDd => ?_)
          · rintro i y Hi H' Q1 Q0 hi sH hDi ⟨rfl, hy⟩ k1 k0
            obtain ⟨tn, ht, _⟩ := hl y (List.mem_of_getElem? hy)
            have hSi := (s1.trans sH).seq hS
            refine ⟨rfl, ?_⟩
            refine ⟨_, rfl, y, .ty "bool", .type tn, .type "bool", isBlV y, rfl, .ty "bool", leaf_ty ht, kit_bool ht, _, rfl, ?_⟩
            have yes : badV (cs.length : Int) y = true → tVar 4 [some (V.ref r), some (V.ref a), none, none, some y, none] H' Q1 := fun hb => ⟨_, rfl, k1 _ _ (Same.refl _) (bads_yes hy hb)⟩
            cases y with
            | bl b => exact iteT (iteT (yes rfl))
            | int m =>
              refine iteF ⟨_, rfl, .int m, .ty "int", .type tn, .type "int", true, rfl, .ty "int", leaf_ty ht, kit_int ht, _, rfl, iteF ?_⟩
              refine ⟨_, rfl, _, _, rfl, rfl, _, rfl, ?_⟩
              refine ite2 (fun h0 => ?_) (fun h0 => ?_)
              · refine ⟨_, rfl, r, Cs cs, rfl, .inl hSi, _, _, rfl, rfl, _, rfl, ?_⟩
                rw [cs_len]
                by_cases hm : m < (cs.length : Int)
                · rw [decide_eq_true hm]
                  refine iteF (k0 _ (Same.refl _) (bads_no hy ?_))
                  show (!(decide (0 ≤ m) && decide (m < (cs.length : Int)))) = false
                  rw [h0, decide_eq_true hm]
                  rfl
                · rw [decide_eq_false hm]
                  refine iteT (yes ?_)
                  show (!(decide (0 ≤ m) && decide (m < (cs.length : Int)))) = true
                  rw [decide_eq_false hm, Bool.and_false]
                  rfl
              · refine ⟨_, rfl, iteT (yes ?_)⟩
                show (!(decide (0 ≤ m) && decide (m < (cs.length : Int)))) = true
                cases e : decide (0 ≤ m)
                · rfl
                · exact absurd e h0
            | _ => exact iteF ⟨_, rfl, _, .ty "int", .type tn, .type "int", false, rfl, .ty "int", leaf_ty ht, kit_int ht, _, rfl, iteT (iteT (yes rfl))⟩
          · rw [List.take_length] at hDd
            refine ⟨Nat.zero_le _, fun N hN => ?_⟩
            have s2 := s1.trans (sm_new (o := .lst []) sd hN)
            refine rd_neNil (SqL.of (same_new hN _ _ hDd)) (bads_lf hl) (SqL.of upd_same) ⟨_, rfl, ?_⟩
            generalize upd Hd N (.lst []) = H2 at s2 ⊢
            refine ite2 (fun hn3 => ?_) (fun hn3 => ?_)
            · refine q _ false s2 ⟨fun z => (nomatch z), fun ⟨w, e, sw⟩ => ?_⟩
              injection e with e
              have : bads (cs.length : Int) xs = [] := bads_nil.mpr fun x hx => by
                rw [e] at hx
                obtain ⟨i, hi, rfl⟩ := List.mem_map.mp hx
                exact ⟨i, rfl, sw.2.2.1 i hi⟩
              rw [decide_eq_true this] at hn3
              exact nomatch hn3
            · have hnil : bads (cs.length : Int) xs = [] := Decidable.byContradiction fun e => hn3 (by rw [decide_eq_false e]; rfl)
              have hin := bads_nil.mp hnil
              obtain ⟨w, rfl⟩ := cs_of fun x hx => (hin x hx).elim fun i h => ⟨i, h.1⟩
              have hin : ∀ x ∈ w, 0 ≤ x ∧ x < (cs.length : Int) := fun x hx => by
                obtain ⟨i, e, h2⟩ := hin (.int x) (List.mem_map.mpr ⟨x, hx, rfl⟩)
                injection e with e
                subst e
                exact h2
              rw [cs_len] at hxz hne hev
              have keepw : ∀ H', Same H H' → (SqL K H' a (Cs w) ∨ SqT K H' a (Cs w)) := keep
              refine ⟨_, rfl, a, Cs w, rfl, keepw _ s2, ?_⟩
              rw [cs_len]
              refine ⟨_, _, rfl, ⟨by omega, by omega, by omega, by omega⟩, ?_⟩
              rw [show ((w.length : Int) - 1).toNat = w.length - 1 by omega]
              intro M hM
              refine lcS (w := walk_range (lo := 1) (n := w.length - 1)) (H0 := H2) (fun i => Cs (kp (farB w) 1 i)) rfl (fun i hi => small_lt (by rw [cs_len]; have := kp_len (c := farB w) (lo := 1) (i := i); omega)) (Same.refl _) hM (fun _ _ => True.intro) ?_ (fun He se hDe => ?_)
              · rintro i y Hi H' Q1 Q0 hi sH hDi ⟨rfl, rfl⟩ k1 k0
                obtain ⟨x1, e1⟩ := get_lt (cs := w) (j := 1 + i) (by omega)
                obtain ⟨x2, e2⟩ := get_lt (cs := w) (j := i) (by omega)
                have hAi := keepw _ (s2.trans sH)
                refine ⟨rfl, ?_⟩
                refine ⟨_, rfl, _, rfl, ?_⟩
                refine rd_ixLT hAi (at_cs (j := 1 + i) (by omega) e1) ?_
                refine ⟨_, rfl, _, rfl, _, _, rfl, rfl, ?_⟩
                refine rd_ixLT hAi (at_cs (j := i) (by omega) e2) ?_
                refine ⟨_, _, rfl, rfl, _, rfl, _, _, rfl, rfl, _, rfl, ?_⟩
                have ef : decide (1 < (if x1 - x2 < 0 then -(x1 - x2) else x1 - x2)) = farB w (1 + i) := by
                  unfold farB
                  rw [getD_of e1, show 1 + i - 1 = i by omega, getD_of e2]
                rw [ef]
                refine ite2 (fun hn4 => ?_) (fun hn4 => ?_)
                · exact ⟨_, rfl, k1 _ _ (Same.refl _) (by rw [kp_yes hn4, cs_app]; rfl)⟩
                · exact k0 _ (Same.refl _) (by rw [kp_no (by cases e : farB w (1 + i); rfl; exact absurd e hn4)])
              · refine ⟨Nat.zero_le _, fun N2 hN2 => ?_⟩
                have s3 := s2.trans (sm_new (o := .lst []) se hN2)
                refine rd_neNil (SqL.of (same_new hN2 _ _ hDe)) (lf_cs _) (SqL.of upd_same) ⟨_, rfl, ?_⟩
                generalize upd He N2 (.lst []) = H3 at s3 ⊢
                refine ite2 (fun hn4 => ?_) (fun hn4 => ?_)
                · refine q _ false s3 ⟨fun z => (nomatch z), fun ⟨w', e, sw⟩ => ?_⟩
                  injection e with e
                  have e := cs_inj e
                  subst e
                  have : kp (farB w) 1 (w.length - 1) = [] := kp_nil.mpr (far_iff.mpr sw.2.2.2.1)
                  rw [decide_eq_true (cs_nil.mpr this)] at hn4
                  exact nomatch hn4
                · have hnil2 : kp (farB w) 1 (w.length - 1) = [] := Decidable.byContradiction fun e => hn4 (by rw [decide_eq_false (fun z => e (cs_nil.mp z))]; rfl)
                  have steps := far_iff.mp (kp_nil.mp hnil2)
                  obtain ⟨z, z1, z2, z3⟩ := seen_of hin
                  refine ⟨_, rfl, a, Cs w, rfl, keepw _ s3, ?_⟩
                  rw [cs_len]
                  refine ⟨_, _, rfl, rfl, ⟨by decide, by decide⟩, ?_⟩
                  refine any_of (a := a) (xs := Cs w) (fun Q' h => ⟨_, rfl, h⟩) (keepw _ s3) (fun J2 G2 wJ2 hG2 => ?_)
                  intro S hSn
                  have hz2 : Cs z = (Cs z).take w.length := by rw [List.take_of_length_le (by rw [cs_len]; omega)]
                  refine lcS (w := wJ2) (H0 := H3) (fun i => (Cs z).take i) rfl (fun i hi => small_lt (by rw [cs_len] at hi; rw [List.length_take, cs_len]; omega)) (Same.refl _) hSn hG2 ?_ (fun Hf sf hDf => ?_)
                  · rintro i y Hi H' Q1 Q0 hi sH hDi ⟨rfl, hy⟩ k1 k0
                    obtain ⟨x, hxx, rfl, hxm⟩ := cs_get hy
                    obtain ⟨x0, x1⟩ := hin x hxm
                    obtain ⟨cx, hcx⟩ := get_lt (cs := cs) (j := x.toNat) (by omega)
                    have hSi := (s3.trans sH).seq hS
                    refine ⟨rfl, lcY ⟨_, rfl, _, rfl, r, Cs cs, _, _, rfl, rfl, hSi, at_cs (j := x.toNat) (by omega) hcx, k1 _ _ (Same.refl _) (tk ?_)⟩⟩
                    unfold Cs
                    rw [List.getElem?_map, z3 i x hxx, hcx]
                    rfl
                  · rw [cs_len, ← hz2] at hDf
                    have s4 := s3.trans sf
                    refine ⟨_, rfl, _, rfl, _, rfl, S, Cs z, rfl, SqL.of hDf, fun A1 hA1 => ?_⟩
                    rw [cut_to (k := w.length / 2) (by exact fdiv2 _), cs_take]
                    have s5 := same_new (o := .lst (Cs (z.take (w.length / 2)))) hA1
                    refine ⟨_, rfl, _, rfl, _, rfl, S, Cs z, rfl, SqL.of (s5 _ _ hDf), fun B1 hB1 => ?_⟩
                    rw [cut_from (k := w.length / 2) (by exact fdiv2 _), cs_drop]
                    have s6 := same_new (o := .lst (Cs (z.drop (w.length / 2)))) hB1
                    refine rd_eqL (SqL.of (s6 _ _ upd_same)) (SqL.of upd_same) ⟨_, rfl, ?_⟩
                    have s7 := (s4.trans s5).trans s6
                    generalize upd (upd Hf A1 _) B1 _ = H6 at s7 ⊢
                    have same : (z.take (w.length / 2) = z.drop (w.length / 2)) ↔ Seen cs (w.take (w.length / 2)) = Seen cs (w.drop (w.length / 2)) := by
                      have e1 : Seen cs (w.take (w.length / 2)) = (z.take (w.length / 2)).map some := by
                        rw [List.map_take, ← z1]
                        unfold Seen
                        rw [List.map_take]
                      have e2 : Seen cs (w.drop (w.length / 2)) = (z.drop (w.length / 2)).map some := by
                        rw [List.map_drop, ← z1]
                        unfold Seen
                        rw [List.map_drop]
                      rw [e1, e2, map_some_inj]
                    refine ite2 (fun hn5 => ?_) (fun hn5 => ?_)
                    · refine ⟨_, rfl, _, rfl, _, rfl, ?_⟩
                      refine rd_slLT (keepw _ s7) ?_ (fun C1 H7 t7 hC1 => ?_)
                      · rw [fdiv2, HT.sIx_nat, cs_len]
                        rintro ⟨_, h⟩
                        omega
                      rw [cut_to (k := w.length / 2) (by exact fdiv2 _), cs_take] at hC1
                      refine ⟨C1, _, rfl, hC1, fun C2 hC2 => ?_⟩
                      have t8 := sm_new (o := .lst (Cs (w.take (w.length / 2)))) t7 hC2
                      refine ⟨_, rfl, _, rfl, _, rfl, ?_⟩
                      refine rd_slLT (keepw _ (s7.trans t8)) ?_ (fun D1 H8 t9 hD1 => ?_)
                      · rw [fdiv2, HT.sIx_nat, cs_len]
                        rintro ⟨h, _⟩
                        omega
                      rw [cut_from (k := w.length / 2) (by exact fdiv2 _), cs_drop] at hD1
                      refine ⟨D1, _, rfl, hD1, fun D2 hD2 => ?_⟩
                      have t10 := sm_new (o := .lst (Cs (w.drop (w.length / 2)))) t9 hD2
                      refine rd_neL (SqL.of (t10 _ _ upd_same)) (SqL.of upd_same) ?_
                      refine q _ _ ((s7.trans t8).trans t10) ⟨fun h => ⟨w, rfl, hne, hev, hin, steps, same.mp (of_decide_eq_true hn5), fun e => ?_⟩, fun ⟨w', e, sw⟩ => ?_⟩
                      · rw [decide_eq_true e] at h
                        exact nomatch h
                      · injection e with e
                        have e := cs_inj e
                        subst e
                        rw [decide_eq_false sw.2.2.2.2.2]
                        rfl
                    · refine q _ false s7 ⟨fun z => (nomatch z), fun ⟨w', e, sw⟩ => ?_⟩
                      injection e with e
                      have e := cs_inj e
                      subst e
                      exact absurd (decide_eq_true (same.mpr sw.2.2.2.2.1)) hn5
end
end K51
/-! K51: comprehensions that draw. -/
namespace K51
open PySem PySem.Spec PyProof.Rows L2

theorem CordAt.le {H : Hp} {c : Addr} {t u : Int} (h : CordAt H c t) (l : t ≤ u) : CordAt H c u := by
  obtain ⟨a, cells, turn, left, h1, h2, h3, h4, h5⟩ := h
  exact ⟨a, cells, turn, left, h1, h2, h3, h4, by omega⟩
theorem CordAt.keep {H H' : Hp} {c : Addr} {t : Int} (h : CordAt H c t) (s : Same H H') : CordAt H' c t := by
  obtain ⟨a, cells, turn, left, h1, h2, h3⟩ := h
  exact ⟨a, cells, turn, left, s _ _ h1, s _ _ h2, h3⟩
theorem CordAt.ne {H : Hp} {c D : Addr} {t : Int} (h : CordAt H c t) (hD : H D = none) : c ≠ D := by
  obtain ⟨a, cells, turn, left, h1, _⟩ := h
  exact ne_of_none h1 hD
theorem cord_upd {H : Hp} {c D : Addr} {t : Int} {vs : List Int} (h : CordAt H c t) (hD : D ≠ c) (hz : vs.length ≤ 61) : CordAt (upd H D (.lst (Cs vs))) c t := by
  obtain ⟨a, cells, turn, left, h1, h2, h3, h4⟩ := h
  by_cases e : a = D
  · subst e
    exact ⟨a, vs, turn, left, (upd_ne (Ne.symm hD)).trans h1, upd_same, hz, h4⟩
  · exact ⟨a, cells, turn, left, (upd_ne (Ne.symm hD)).trans h1, (upd_ne e).trans h2, h3, h4⟩
/-- D stood not -/
def NewTo (c : Addr) (H : Hp) (D : Addr) : Prop := ∀ b o, b ≠ c → H b = some o → b ≠ D
theorem newTo {c D : Addr} {H0 H1 : Hp} (k : Kx c H0 H1) (h : H1 D = none) : NewTo c H0 D := fun b o n e => ne_of_none (k b o n e) h
theorem kx_updD {c D : Addr} {H0 H : Hp} {o : HO} (k : Kx c H0 H) (n : NewTo c H0 D) : Kx c H0 (upd H D o) := fun b u ne e => by
  rw [upd_ne (n b u ne e)]
  exact k b u ne e
theorem kx_new {c D : Addr} {H0 H : Hp} {o : HO} (k : Kx c H0 H) (h : H D = none) : Kx c H0 (upd H D o) := kx_updD k (newTo k h)
theorem kx_same {c : Addr} {H0 H H' : Hp} (k : Kx c H0 H) (s : Same H H') : Kx c H0 H' := kx_trans k (kx_of s)

theorem lcK {n : Nat} {lo : Int} {g : TG} {tt : TT} {te : TE} {vs : List Nat} {σ : L2.St} {H0 H1 : Hp} {D c : Addr} {t k : Int} {Qd : Hp → Prop} (k1 : Kx c H0 H1) (hc : CordAt H1 c t) (hD : H1 D = none) (hn : n ≤ 60)
    (hs : ∀ (i : Nat) (H : Hp) (Q1 : V → Hp → Prop) (Q0 : Hp → Prop), i < n → CordAt H c (t + k * (i : Int)) → (∀ (v : Int) H4, Kx c H H4 → CordAt H4 c (t + k * ((i + 1 : Nat) : Int)) → 0 ≤ v → Q1 (.int v) H4) →
      g (.int (lo + (i : Int))) (wipe σ vs) H fun σ2 H2 => wipe σ2 vs = wipe σ vs ∧ tt σ2 H2 fun b H3 => if b = true then te σ2 H3 Q1 else Q0 H3)
    (hd : ∀ H (ns : List Int), Kx c H0 H → CordAt H c (t + k * (n : Int)) → H D = some (.lst (Cs ns)) → ns.length = n → (∀ v ∈ ns, 0 ≤ v) → Qd H) :
    ∃ W : Nat → Nat → Hp → Prop, (∃ m, W 0 m (upd H1 D (.lst []))) ∧ ∀ i m H, W i m H →
      ((Itr lo n).stop i H ∧ Qd H) ∨ ((Itr lo n).go i H ∧ ∃ Nx : Hp → Prop, (∀ H', Nx H' → ∃ m', m' < m ∧ W (i + 1) m' H') ∧ ∀ x H', (Itr lo n).yld i H x H' → g x (wipe σ vs) H' fun σ2 H2 => wipe σ2 vs = wipe σ vs ∧ tt σ2 H2 fun b H3 =>
        if b = true then te σ2 H3 fun y H4 => ∃ acc, H4 D = some (.lst acc) ∧ acc.length < sizeLine ∧ Nx (upd H4 D (.lst (acc ++ [y]))) else Nx H3) := by
  have nD : NewTo c H0 D := newTo k1 hD
  have hcD : D ≠ c := Ne.symm (hc.ne hD)
  refine lc_it walk_range (fun i H => Kx c H0 H ∧ CordAt H c (t + k * (i : Int)) ∧ ∃ ns : List Int, H D = some (.lst (Cs ns)) ∧ ns.length = i ∧ ∀ v ∈ ns, 0 ≤ v)
    ⟨kx_updD k1 nD, ?_, [], upd_same, rfl, fun v h => nomatch h⟩ (fun _ _ _ _ => True.intro) ?_ (fun H ⟨p1, p2, ns, p3, p4, p5⟩ => hd H ns p1 p2 p3 p4 p5)
  · have := cord_upd (vs := []) hc hcD (Nat.zero_le _)
    exact this.le (by omega)
  · rintro i x H H' hi ⟨p1, p2, ns, p3, p4, p5⟩ ⟨rfl, rfl⟩
    refine hs i H' _ (fun H3 => Kx c H0 H3 ∧ CordAt H3 c (t + k * ((i + 1 : Nat) : Int)) ∧ ∃ ns : List Int, H3 D = some (.lst (Cs ns)) ∧ ns.length = i + 1 ∧ ∀ v ∈ ns, 0 ≤ v) hi p2 (fun v H4 k4 c4 v0 => ⟨Cs ns, k4 _ _ hcD p3, small_lt (by rw [cs_len]; omega), kx_updD (kx_trans p1 k4) nD, ?_, ns ++ [v], by rw [upd_same, cs_app], by rw [List.length_append, p4]; rfl, fun u hu => ?_⟩)
    · rw [cs_app]
      exact cord_upd c4 hcD (by rw [List.length_append, p4]; show i + 1 ≤ 61; omega)
    · rcases List.mem_append.mp hu with hu | hu
      · exact p5 u hu
      · rw [List.mem_singleton.mp hu]
        exact v0
end K51
/-! K51: drawn colours. -/
namespace K51
open PySem PySem.Spec PyProof.Rows L2

abbrev s_law_drawn : Stmt := topS 41
abbrev N_law_drawn : List Str := ["_law_cord_here", "_law_way", "_law_many", "_law_begin", "_law_near", "_law_at", "_law_turn"]
theorem sc_law_drawn : FnScope N_law_drawn ["_law_cord_here"] (defScope s_law_drawn) := ⟨rfl, rfl, rfl, by decide +kernel, rfl, by decide +kernel, by decide +kernel⟩

theorem ixN_nat {n j : Nat} (h : j < n) : ixN n (j : Int) = some j := by
  unfold ixN
  rw [if_pos (by omega), if_pos (by omega)]
  rfl
theorem cs_cat (u v : List Int) : Cs u ++ Cs v = Cs (u ++ v) := by unfold Cs; rw [List.map_append]
theorem small_le {n : Nat} (h : n ≤ 1000) : n ≤ sizeLine := Nat.le_of_lt (small_lt h)
theorem to_ne {n k : Nat} {lo : Option Int} {j : Int} (e : j = (k : Int)) (h : k < n) : ¬(HT.sIx n 0 lo = 0 ∧ HT.sIx n n (some j) = n) := by
  subst e
  rw [HT.sIx_nat]
  rintro ⟨_, h⟩
  omega
section
variable {P : Program} {w : World} {K : PySem.W.Frag} {mg : Str → Option Value} {base : Heap} {ad : Ads} {f : Addr} {fd : FuncData}
theorem ok_drawn (F : Fun K "_law_drawn" "_law_drawn" s_law_drawn f fd) (T : Txt K mg ad) (d_law_ply : Def P w K mg base "_law_ply" 1 sp_ply) (d_law_pick : Def P w K mg base "_law_pick" 2 (sp_pick K))
    (d_line_colours : Def P w K mg base "line_colours" 4 sp_signs) (d_plain_word : Def P w K mg base "plain_word" 4 sp_signs) : FnOk P w K mg base CX0 5 f fd ["_law_cord_here"] sp_drawn := by
  refine F.ok sc_law_drawn (fun vs H Q E h => ?_) (fun cdv A outer s H vs Q E hr h => ?_)
  · obtain ⟨c, t, rfl, _⟩ := h
    rfl
  · obtain ⟨c, t, rfl, hc, ht, q⟩ := h
    refine ⟨_, ((pss_cons (ps_asg (pe_tup (pa_cons (pe_callD d_law_ply (hr.mono (by decide)) (by rfl) (pa_cons (pv 0) (pa_cons pe_int pa_nil))) (pa_cons (pe_callD d_law_pick (hr.mono (by decide)) (by rfl) (pa_cons (pv 0) (pa_cons (pe_lst (pa_cons pe_int (pa_cons pe_int (pa_cons pe_int (pa_cons pe_int (pa_cons pe_int (pa_cons pe_int (pa_cons pe_int pa_nil)))))))) pa_nil))) pa_nil))) (pg_tup rfl (pgs_cons (pg_name (i := 1) sc_law_drawn.nd rfl (.inr rfl) (hf := Or.inl rfl)) (pgs_cons (pg_name (i := 2) sc_law_drawn.nd rfl (.inl rfl) (hf := Or.inl rfl)) pgs_nil))))
      (pss_cons (ps_set (i := 3) sc_law_drawn.nd rfl (.inl rfl) (pe_callD d_law_ply (hr.mono (by decide)) (by rfl) (pa_cons (pv 0) (pa_cons pe_int pa_nil))))
      (pss_cons (ps_set (i := 4) sc_law_drawn.nd rfl (.inl rfl) (pe_callTy call_list_of (by rfl) T.list (by decide +kernel) (pa_cons (pe_slice sl_tup (pe_callD d_line_colours (hr.mono (by decide)) (by rfl) (pa_cons pe_int pa_nil)) (po_some (pv 3)) (po_some (pe_op op_add (pv 3) (pv 2)))) pa_nil)))
      (pss_cons (ps_if (pt_cmpR op_lt (pv 1) pe_int (nomark _)) (pss_one (ps_ret (pe_lc (own := [("_law_turn", 6)]) rfl sc_law_drawn.nd (pi_range1 (by rfl) T.range (pa_cons (pv 2) pa_nil)) (blkOk_by (N := N_law_drawn) (sc := defScope s_law_drawn) (by decide +kernel)) (fun _ _ _ _ _ => pg_name (i := 6) sc_law_drawn.nd rfl (Or.inl rfl)) (fun _ _ _ _ _ => pts_nil) (fun _ _ _ _ _ => (pe_callD d_law_ply (hr.mono (by decide)) (by rfl) (pa_cons (pv 0) (pa_cons (pe_op op_add (pe_op op_add pe_int (pv 1)) (pe_callD d_law_ply (hr.mono (by decide)) (by rfl) (pa_cons (pv 0) (pa_cons pe_int pa_nil)))) pa_nil))))))) pss_nil)
      (pss_cons (ps_if (pt_cmpR op_eq (pv 1) pe_int (nomark _)) (pss_one (ps_ret (pe_callTy call_list_of (by rfl) T.list (by decide +kernel) (pa_cons (pe_slice sl_tup (pe_callD d_plain_word (hr.mono (by decide)) (by rfl) (pa_cons pe_int pa_nil)) (po_some (pv 3)) (po_some (pe_op op_add (pv 3) (pv 2)))) pa_nil)))) pss_nil)
      (pss_cons (ps_if (PW.pt (pw_and (pt_cmpR op_eq (pv 1) pe_int (nomark _)) (pw_and1 (pt_cmpR (op_neD hr.units) (pv 4) (pe_lst pa_nil) (nomark _))))) (pss_one (ps_asg (pe_callD d_law_ply (hr.mono (by decide)) (by rfl) (pa_cons (pv 0) (pa_cons pe_int pa_nil))) (pg_sub (pv 4) (pe_callD d_law_ply (hr.mono (by decide)) (by rfl) (pa_cons (pv 0) (pa_cons (pv 2) pa_nil))) set_list))) pss_nil)
      (pss_cons (ps_if (PW.pt (pw_and (pt_cmpR op_eq (pv 1) pe_int (nomark _)) (pw_and1 (pt_cmpR op_gt (pv 2) pe_int (nomark _))))) (pss_cons (ps_set (i := 5) sc_law_drawn.nd rfl (.inl rfl) (pe_callD d_law_ply (hr.mono (by decide)) (by rfl) (pa_cons (pv 0) (pa_cons (pe_op op_sub (pv 2) pe_int) pa_nil))))
      (pss_one (ps_set (i := 4) sc_law_drawn.nd rfl (.inl rfl) (pe_op op_cat (pe_op op_cat (pe_slice sl_list (pv 4) po_none (po_some (pv 5))) (pe_lst (pa_cons (pe_ix ix_list (pv 4) (pe_op op_add (pv 5) pe_int) (fun _ _ => rfl)) (pa_cons (pe_ix ix_list (pv 4) (pv 5) (fun _ _ => rfl)) pa_nil)))) (pe_slice sl_list (pv 4) (po_some (pe_op op_add (pv 5) pe_int)) po_none))))) pss_nil)
      (pss_one (ps_ret (pv 4))))))))))), ?_⟩
    refine ⟨_, rfl, c, 6, t, rfl, hc, by omega, by omega, by omega, fun H1 way k1 c1 w0 w1 => ?_⟩
    refine ⟨_, rfl, (by show 7 ≤ sizeLine; decide), fun so hso => ?_⟩
    refine ⟨c, so, [9, 6, 10, 4, 2, 1, 0], t + 1, rfl, c1.keep (same_new hso), upd_same, by omega, by decide, by decide, fun H2 many k2 c2 hm => ?_⟩
    have k2' : Kx c H H2 := kx_trans (kx_new k1 hso) k2
    obtain ⟨m, rfl, hm⟩ : ∃ m : Nat, many = (m : Int) ∧ m ≤ 10 := by
      simp only [List.mem_cons, List.not_mem_nil, or_false] at hm
      exact ⟨many.toNat, by omega, by omega⟩
    refine ⟨(by show 2 ≤ sizeLine; decide), fun tu htu => ⟨tu, _, rfl, SqT.of upd_same, rfl, _, _, rfl, _, _, rfl, rfl, ?_⟩⟩
    have k3 := kx_new (o := .tup [V.int way, V.int (m : Int)]) k2' htu
    have c3 := c2.keep (same_new (o := .tup [V.int way, V.int (m : Int)]) htu)
    generalize upd H2 tu _ = H3 at k3 c3 ⊢
    refine ⟨_, rfl, c, 20, t + 1 + 1, rfl, c3, by omega, by omega, by omega, fun H4 bg k4 c4 b0 b1 => ?_⟩
    obtain ⟨b, rfl⟩ : ∃ b : Nat, bg = (b : Int) := ⟨bg.toNat, by omega⟩
    have k4' := kx_trans k3 k4
    refine ⟨30, rfl, by decide, fun H5 lt ws s5 hlt hlw hw0 => ?_⟩
    refine ⟨_, rfl, _, rfl, _, rfl, _, rfl, ?_⟩
    refine ⟨_, _, rfl, rfl, _, rfl, lt, Cs ws, rfl, SqT.of hlt, ?_, fun A1 hA1 => ?_⟩
    · exact to_ne (k := b + m) (by show (b : Int) + (m : Int) = _; omega) (by rw [cs_len]; omega)
    rw [cut_mid (k := b) (m := b + m) rfl (by omega) (by rw [cs_len]; omega) (by omega), cs_drop, cs_take]
    refine ⟨A1, _, rfl, .inr (SqT.of upd_same), fun N hN => ?_⟩
    have k6 := kx_new (o := .lst (Cs ((ws.drop b).take (b + m - b)))) (kx_new (o := .tup (Cs ((ws.drop b).take (b + m - b)))) (kx_same k4' s5) hA1) hN
    have c6 := ((c4.keep s5).keep (same_new (o := .tup (Cs ((ws.drop b).take (b + m - b)))) hA1)).keep (same_new (o := .lst (Cs ((ws.drop b).take (b + m - b)))) hN)
    have hN6 : (upd (upd H5 A1 (.tup (Cs ((ws.drop b).take (b + m - b))))) N (.lst (Cs ((ws.drop b).take (b + m - b))))) N = some (.lst (Cs ((ws.drop b).take (b + m - b)))) := upd_same
    have nN : NewTo c H N := newTo (kx_new (o := .tup (Cs ((ws.drop b).take (b + m - b)))) (kx_same k4' s5) hA1) hN
    have hnl : ((ws.drop b).take (b + m - b)).length = m := by rw [List.length_take, List.length_drop]; omega
    have hn0 : ∀ x ∈ (ws.drop b).take (b + m - b), 0 ≤ x := fun x hx => hw0 x (List.mem_of_mem_drop (List.mem_of_mem_take hx))
    generalize upd (upd H5 A1 _) N _ = H6 at k6 c6 hN6 ⊢
    generalize (ws.drop b).take (b + m - b) = nr at hN6 hnl hn0 ⊢
    refine ⟨_, rfl, _, _, rfl, rfl, _, rfl, ?_⟩
    refine ite2 (fun hw2 => ?_) (fun hw2 => ?_)
    · refine ⟨_, rfl, _, rfl, by omega, by omega, ?_⟩
      rw [show ((m : Int)).toNat = m by omega]
      intro D hD
      refine lcK (k := 2) k6 c6 hD (by omega) ?_ (fun Hd ns kd cd hDd hl h0 => ?_)
      · rintro i Hi Q1 Q0 hi ci kk1
        refine ⟨rfl, lcY ⟨_, rfl, _, rfl, ?_⟩⟩
        refine ⟨_, _, rfl, rfl, _, rfl, c, 3, _, rfl, ci, by omega, by omega, by omega, fun Hj v kj cj v0 v1 => ?_⟩
        refine ⟨_, _, rfl, rfl, c, _, _, rfl, cj, by omega, by show 1 ≤ 2 + way + v; omega, by show 2 + way + v ≤ 1000; omega, fun Hk u kk ck u0 u1 => ?_⟩
        exact kk1 u Hk (kx_trans kj kk) (ck.le (by omega)) u0
      · exact q Hd D ns kd (cd.le (by omega)) hDd (by omega) h0
    · refine ⟨_, rfl, rfl, _, rfl, ?_⟩
      refine ite2 (fun hw3 => ?_) (fun hw3 => ?_)
      · refine ⟨30, rfl, by decide, fun H7 lt2 ws2 s7 hlt2 hlw2 hw02 => ?_⟩
        refine ⟨_, rfl, _, rfl, _, rfl, _, rfl, ?_⟩
        refine ⟨_, _, rfl, rfl, _, rfl, lt2, Cs ws2, rfl, SqT.of hlt2, ?_, fun A2 hA2 => ?_⟩
        · exact to_ne (k := b + m) (by show (b : Int) + (m : Int) = _; omega) (by rw [cs_len]; omega)
        rw [cut_mid (k := b) (m := b + m) rfl (by show (b : Int) + (m : Int) = _; omega) (by rw [cs_len]; omega) (by omega), cs_drop, cs_take]
        refine ⟨A2, _, rfl, .inr (SqT.of upd_same), fun N2 hN2 => ?_⟩
        have c7 := ((c6.keep s7).keep (same_new (o := .tup (Cs ((ws2.drop b).take (b + m - b)))) hA2)).keep (same_new (o := .lst (Cs ((ws2.drop b).take (b + m - b)))) hN2)
        exact q _ N2 _ (kx_new (kx_new (kx_same k6 s7) hA2) hN2) (c7.le (by omega)) upd_same (by rw [List.length_take, List.length_drop]; omega) (fun x hx => hw02 x (List.mem_of_mem_drop (List.mem_of_mem_take hx)))
      · refine ⟨_, rfl, rfl, _, rfl, ?_⟩
        by_cases e3 : way = 3
        · subst e3
          refine iteT ⟨_, rfl, Nat.zero_le _, fun E1 hE1 => ?_⟩
          have c7 := c6.keep (same_new (o := .lst []) hE1)
          have k7 := kx_new (o := .lst []) k6 hE1
          have hN7 := same_new (o := .lst []) hE1 _ _ hN6
          refine rd_neNil (SqL.of hN7) (lf_cs nr) (SqL.of upd_same) ⟨_, rfl, ?_⟩
          generalize upd H6 E1 _ = H7 at k7 c7 hN7 ⊢
          refine ite2 (fun hnn => ?_) (fun hnn => ?_)
          · have hm1 : 1 ≤ m := by
              rcases Nat.eq_zero_or_pos m with z | z
              · have : nr = [] := List.length_eq_zero_iff.mp (by omega)
                rw [this] at hnn
                exact absurd hnn (by decide)
              · exact z
            refine ⟨_, rfl, c, 5, _, rfl, c7, by omega, by omega, by omega, fun H8 v k8 c8 v0 v1 => ?_⟩
            have nNc := cord_ns c7 hN7
            have hN8 := k8 _ _ nNc hN7
            refine ⟨_, rfl, _, rfl, _, rfl, c, (m : Int), _, rfl, c8, by omega, by omega, by omega, fun H9 u k9 c9 u0 u1 => ?_⟩
            have hN9 := k9 _ _ nNc hN8
            obtain ⟨j, rfl⟩ : ∃ j : Nat, u = (j : Int) := ⟨u.toNat, by omega⟩
            refine ⟨N, Cs nr, _, j, rfl, rfl, hN9, ?_, ?_⟩
            · exact ixN_nat (by rw [cs_len, hnl]; omega)
            · refine ⟨_, rfl, rfl, _, rfl, iteF (iteF ⟨_, rfl, ?_⟩)⟩
              have es : (Cs nr).set j (V.int v) = Cs (nr.set j v) := by
                unfold Cs
                rw [List.map_set]
              rw [es]
              refine q _ N (nr.set j v) (kx_updD (kx_trans (kx_trans k7 k8) k9) nN) ((cord_upd c9 nNc (by rw [List.length_set]; omega)).le (by omega)) upd_same (by rw [List.length_set]; omega) fun x hx => ?_
              rcases List.mem_or_eq_of_mem_set hx with hx | rfl
              · exact hn0 x hx
              · exact v0
          · exact ⟨_, rfl, rfl, _, rfl, iteF (iteF ⟨_, rfl, q _ N nr k7 (c7.le (by omega)) hN7 (by omega) hn0⟩)⟩
        · have d3 : decide (V.int way = V.int 3) = false := decide_eq_false fun z => e3 (by injection z)
          rw [d3]
          refine iteF (iteF ?_)
          refine ⟨_, rfl, rfl, _, rfl, ?_⟩
          refine and_if (fun _ g => ⟨_, rfl, _, _, rfl, rfl, _, rfl, g⟩) (fun e4 e5 => ?_) (fun _ => ⟨_, rfl, q _ N nr k6 (c6.le (by omega)) hN6 (by omega) hn0⟩)
          have hm2 : 2 < m := by
            have := of_decide_eq_true e5
            omega
          refine ⟨_, rfl, _, rfl, _, _, rfl, rfl, c, (m : Int) - 1, _, rfl, c6, by omega, by omega, by omega, fun H7 u k7 c7 u0 u1 => ?_⟩
          obtain ⟨j, rfl⟩ : ∃ j : Nat, u = (j : Int) := ⟨u.toNat, by omega⟩
          have nNc := cord_ns c6 hN6
          have hN7 := k7 _ _ nNc hN6
          obtain ⟨x1, e1⟩ := get_lt (cs := nr) (j := j) (by omega)
          obtain ⟨x2, e2⟩ := get_lt (cs := nr) (j := j + 1) (by omega)
          refine ⟨_, rfl, _, rfl, _, rfl, N, Cs nr, rfl, SqL.of hN7, fun A hA => ?_⟩
          rw [cut_to (k := j) rfl, cs_take]
          have s8 := same_new (o := .lst (Cs (nr.take j))) hA
          have hN8 := s8 _ _ hN7
          refine ⟨_, rfl, _, rfl, ?_⟩
          refine ⟨_, _, rfl, rfl, N, Cs nr, _, _, rfl, rfl, SqL.of hN8, at_cs (j := j + 1) (by omega) e2, ?_⟩
          refine ⟨_, rfl, _, rfl, N, Cs nr, _, _, rfl, rfl, SqL.of hN8, at_cs (j := j) rfl e1, (by show 2 ≤ sizeLine; decide), fun B hB => ?_⟩
          have s9 := same_new (o := .lst [V.int x2, V.int x1]) hB
          refine ⟨A, B, Cs (nr.take j), Cs [x2, x1], rfl, rfl, s9 _ _ upd_same, upd_same, small_le (by rw [cs_len, cs_len, List.length_take]; show _ + 2 ≤ _; omega), fun C1 hC1 => ?_⟩
          rw [cs_cat]
          have s10 := same_new (o := .lst (Cs (nr.take j ++ [x2, x1]))) hC1
          have s11 := (s8.trans s9).trans s10
          have hN11 := s11 _ _ hN7
          refine ⟨_, rfl, _, rfl, ?_⟩
          refine ⟨_, _, rfl, rfl, _, rfl, N, Cs nr, rfl, SqL.of hN11, fun D1 hD1 => ?_⟩
          rw [cut_from (k := j + 2) (by omega), cs_drop]
          have s12 := same_new (o := .lst (Cs (nr.drop (j + 2)))) hD1
          have hl1 : (nr.take j ++ [x2, x1]).length = j + 2 := by rw [List.length_append, List.length_take]; show _ + 2 = _; omega
          have hl2 : (nr.drop (j + 2)).length = m - (j + 2) := by rw [List.length_drop]; omega
          refine ⟨C1, D1, Cs (nr.take j ++ [x2, x1]), Cs (nr.drop (j + 2)), rfl, rfl, s12 _ _ upd_same, upd_same, small_le (by rw [cs_len, cs_len, hl1, hl2]; omega), fun E2 hE2 => ?_⟩
          rw [cs_cat]
          have s13 := same_new (o := .lst (Cs (nr.take j ++ [x2, x1] ++ nr.drop (j + 2)))) hE2
          have s14 := (s11.trans s12).trans s13
          refine ⟨_, rfl, q _ E2 _ (kx_same (kx_trans k6 k7) s14) ((c7.keep s14).le (by omega)) upd_same (by rw [List.length_append, hl1, hl2]; omega) fun x hx => ?_⟩
          rcases List.mem_append.mp hx with hx | hx
          · rcases List.mem_append.mp hx with hx | hx
            · exact hn0 x (List.mem_of_mem_take hx)
            · simp only [List.mem_cons, List.not_mem_nil, or_false] at hx
              rcases hx with rfl | rfl
              · exact hn0 _ (List.mem_of_getElem? e2)
              · exact hn0 _ (List.mem_of_getElem? e1)
          · exact hn0 x (List.mem_of_mem_drop hx)
end
end K51
/-! K51: papers near a right one. -/
namespace K51
open PySem PySem.Spec PyProof.Rows L2

abbrev s_law_bent : Stmt := topS 44
abbrev N_law_bent : List Str := ["_law_cord_here", "_law_colours", "_law_told", "_law_many", "_law_walk", "_law_at", "_law_found", "_law_turn", "_law_each"]
theorem sc_law_bent : FnScope N_law_bent ["_law_cord_here", "_law_colours", "_law_told"] (defScope s_law_bent) := ⟨rfl, rfl, rfl, by decide +kernel, rfl, by decide +kernel, by decide +kernel⟩

theorem cs_cut (wk : List Int) (lo hi : Option Int) : ∃ u, cutV (Cs wk) lo hi = Cs u ∧ u.length ≤ wk.length := by
  unfold cutV
  rw [cs_drop, cs_take]
  exact ⟨_, rfl, by rw [List.length_take, List.length_drop]; omega⟩
theorem cs_rev (wk : List Int) : (Cs wk).reverse = Cs wk.reverse := by unfold Cs; rw [List.map_reverse]
def Good (K : PySem.W.Frag) (H : Hp) (v : V) : Prop := ∃ d, WIn K H v d
theorem Good.keep {K : PySem.W.Frag} {H H' : Hp} {v : V} (h : Good K H v) (s : Same H H') : Good K H' v := h.imp fun _ h => h.keep s
theorem good_cs {K : PySem.W.Frag} {H : Hp} {a : Addr} {u : List Int} (h : H a = some (.lst (Cs u))) (hz : u.length ≤ 1000) : Good K H (.ref a) := ⟨some (Cs u), a, rfl, .inl (SqL.of h), lf_cs u, by rw [cs_len]; exact hz⟩
theorem good_leaf {K : PySem.W.Frag} {H : Hp} {v : V} {n : String} (h : leafT v = some n) : Good K H v := ⟨none, n, h⟩
theorem good_lst {K : PySem.W.Frag} {H : Hp} {a : Addr} {xs : List V} (h : H a = some (.lst xs)) (hl : Lf xs) (hz : xs.length ≤ 1000) : Good K H (.ref a) := ⟨some xs, a, rfl, .inl (SqL.of h), hl, hz⟩
/-- a stray of what was good -/
def StrayAt (K : PySem.W.Frag) (ad : Ads) (H : Hp) (x : V) : Prop := ∃ a y v d, x = .ref a ∧ IsStray ad H a y ∧ WOut H v d y ∧ ∃ H0, WIn K H0 v d
theorem StrayAt.keep {K : PySem.W.Frag} {ad : Ads} {H H' : Hp} {x : V} (h : StrayAt K ad H x) (s : Same H H') : StrayAt K ad H' x := by
  obtain ⟨a, y, v, d, e, h1, h2, h3⟩ := h
  exact ⟨a, y, v, d, e, h1.keep s, h2.keep s, h3⟩
theorem StrayAt.keepX {K : PySem.W.Frag} {ad : Ads} {H H' : Hp} {x : V} {D : Addr} {zs : List V} (h : StrayAt K ad H x) (hD : H D = some (.lst zs)) (k : Kx D H H') : StrayAt K ad H' x := by
  obtain ⟨a, y, v, d, e, ⟨dx, fs, h1, h4⟩, h2, h3⟩ := h
  exact ⟨a, y, v, d, e, ⟨dx, fs, k _ _ (ne_of h1 hD nofun) h1, h4⟩, h2.keepX hD k, h3⟩
theorem StrayAt.tup {K : PySem.W.Frag} {ad : Ads} {H : Hp} {x : V} (h : StrayAt K ad H x) : ∃ a y d, x = .ref a ∧ IsStray ad H a y ∧ WTup K H y d := by
  obtain ⟨a, y, v, d, e, h1, h2, H0, h3⟩ := h
  refine ⟨a, y, d, e, h1, ?_⟩
  cases d with
  | none =>
    obtain ⟨n, h3⟩ := h3
    have h2 : y = v := h2
    subst h2
    exact ⟨n, h3⟩
  | some xs =>
    obtain ⟨r, rfl, hr⟩ := h2
    obtain ⟨_, _, _, hl, hz⟩ := h3
    exact ⟨r, rfl, SqT.of hr, hl, hz⟩
theorem gs_add {K : PySem.W.Frag} {H H' : Hp} {L : List V} {v : V} (gs : ∀ u ∈ L, Good K H u) (s : Same H H') (g : Good K H' v) : ∀ u ∈ L ++ [v], Good K H' u := fun u hu => by
  rcases List.mem_append.mp hu with hu | hu
  · exact (gs u hu).keep s
  · rw [List.mem_singleton.mp hu]
    exact g
theorem lf_dec {xs : List V} (h : xs.all (fun y => (leafT y).isSome && okV y) = true) : Lf xs := fun y hy => by
  have := List.all_eq_true.mp h y hy
  rw [Bool.and_eq_true] at this
  obtain ⟨n, hn⟩ := Option.isSome_iff_exists.mp this.1
  exact ⟨n, hn, this.2⟩
theorem strays_of {K : PySem.W.Frag} {ad : Ads} {H : Hp} : ∀ {ys : List V}, (∀ y ∈ ys, StrayAt K ad H y) → ∃ xs : List Addr, ys = xs.map V.ref ∧ xs.length = ys.length ∧ ∀ x ∈ xs, ∃ y d, IsStray ad H x y ∧ WTup K H y d
  | [], _ => ⟨[], rfl, rfl, fun x h => nomatch h⟩
  | y :: ys, h => by
    obtain ⟨a, z, d, rfl, h1, h2⟩ := (h y List.mem_cons_self).tup
    obtain ⟨xs, rfl, e, hx⟩ := strays_of (ys := ys) fun u hu => h u (List.mem_cons_of_mem _ hu)
    refine ⟨a :: xs, rfl, by simp, fun x hx2 => ?_⟩
    rcases List.mem_cons.mp hx2 with rfl | hx2
    · exact ⟨z, d, h1, h2⟩
    · exact hx x hx2
theorem if_gen {b : Bool} {ta tb : TE} {σ : L2.St} {H : Hp} {Q : VK} (C : VK) (ht : b = true → ∀ Q' : VK, (∀ v H', C v H' → Q' v H') → ta σ H Q') (hf : b = false → ∀ Q' : VK, (∀ v H', C v H' → Q' v H') → tb σ H Q') (h : ∀ v H', C v H' → Q v H') : if b = true then ta σ H Q else tb σ H Q := by
  cases b with
  | true => exact iteT (ht rfl _ h)
  | false => exact iteF (hf rfl _ h)

section
variable {P : Program} {w : World} {K : PySem.W.Frag} {mg : Str → Option Value} {base : Heap} {ad : Ads} {f : Addr} {fd : FuncData}
theorem ok_bent (F : Fun K "_law_bent" "_law_bent" s_law_bent f fd) (T : Txt K mg ad) (d_law_ply : Def P w K mg base "_law_ply" 1 sp_ply) (c_Stray : Cl P w K mg base "Stray" ad.stray 5 (sp_stray K ad)) :
    FnOk P w K mg base CX0 7 f fd ["_law_cord_here", "_law_colours", "_law_told"] (sp_bent K ad) := by
  refine F.ok sc_law_bent (fun vs H Q E h => ?_) (fun cdv A outer s H vs Q E hr h => ?_)
  · obtain ⟨c, r, x, cs, t, rfl, _⟩ := h
    rfl
  · obtain ⟨c, r, x, cs, t, rfl, hc, ht, hS, hz, hj, q⟩ := h
    refine ⟨_, ((pss_cons (ps_set (i := 3) sc_law_bent.nd rfl (.inr rfl) (pe_callB (call_max2 rfl) (by rfl) T.max (by decide +kernel) (pa_cons pe_int (pa_cons (pe_callB call_len_seq (by rfl) T.len (by decide +kernel) (pa_cons (pv 1) pa_nil)) pa_nil))))
      (pss_cons (ps_set (i := 4) sc_law_bent.nd rfl (.inl rfl) (pe_ifExp (pt_val (pe_callB call_isi (by rfl) T.isinstance (by decide +kernel) (pa_cons (pv 2) (pa_cons (pe_glob (v := .ref ad.stray) (by rfl) T.gStray rfl) pa_nil)))) (pe_callTy call_list_of (by rfl) T.list (by decide +kernel) (pa_cons (pe_fld (pv 2) rfl) pa_nil)) (pe_lc (own := [("_law_turn", 7)]) rfl sc_law_bent.nd (pi_range1 (by rfl) T.range (pa_cons pe_int pa_nil)) (blkOk_by (N := N_law_bent) (sc := defScope s_law_bent) (by decide +kernel)) (fun _ _ _ _ _ => pg_name (i := 7) sc_law_bent.nd rfl (Or.inl rfl)) (fun _ _ _ _ _ => pts_nil) (fun _ _ _ _ _ => (pe_callD d_law_ply (hr.mono (by decide)) (by rfl) (pa_cons (pv 0) (pa_cons (pv 3) pa_nil)))))))
      (pss_cons (ps_set (i := 5) sc_law_bent.nd rfl (.inl rfl) (pe_callD d_law_ply (hr.mono (by decide)) (by rfl) (pa_cons (pv 0) (pa_cons (pe_callB call_len_seq (by rfl) T.len (by decide +kernel) (pa_cons (pv 4) pa_nil)) pa_nil))))
      (pss_cons (ps_set (i := 6) sc_law_bent.nd rfl (.inl rfl) (pe_lst (pa_cons (pv 4) (pa_cons (pe_revL (pv 4)) (pa_cons (pe_slice sl_list (pv 4) po_none (po_some (pe_un un_neg pe_int))) (pa_cons (pe_op op_cat (pv 4) (pv 4)) (pa_cons (pe_op op_cat (pe_slice sl_list (pv 4) (po_some pe_int) po_none) (pe_slice sl_list (pv 4) po_none (po_some pe_int))) (pa_cons (pe_op op_cat (pe_op op_cat (pe_slice sl_list (pv 4) po_none (po_some (pv 5))) (pe_lst (pa_cons (pe_op op_add (pe_ix ix_list (pv 4) (pv 5) (fun _ _ => rfl)) pe_int) pa_nil))) (pe_slice sl_list (pv 4) (po_some (pe_op op_add (pv 5) pe_int)) po_none)) (pa_cons (pe_lst pa_nil) (pa_cons pe_non pa_nil))))))))))
      (pss_cons (ps_set (i := 6) sc_law_bent.nd rfl (.inl rfl) (pe_op op_cat (pv 6) (pe_lst (pa_cons (pe_lst (pa_cons (pe_ix ix_list (pv 4) pe_int (fun _ _ => rfl)) (pa_cons (pe_ix ix_list (pv 4) pe_int (fun _ _ => rfl)) pa_nil))) (pa_cons (pe_lst (pa_cons pe_int (pa_cons pe_int (pa_cons pe_int (pa_cons pe_int pa_nil))))) (pa_cons (pe_lst (pa_cons pe_int (pa_cons pe_int (pa_cons pe_int (pa_cons pe_int pa_nil))))) (pa_cons (pe_lst (pa_cons pe_bl (pa_cons pe_int (pa_cons pe_int (pa_cons pe_int pa_nil))))) (pa_cons (pe_lst (pa_cons pe_str (pa_cons pe_str pa_nil))) (pa_cons (pe_lst (pa_cons pe_int (pa_cons pe_int (pa_cons pe_int (pa_cons pe_int pa_nil))))) (pa_cons (pe_lst (pa_cons (pv 3) (pa_cons (pv 3) pa_nil))) (pa_cons pe_int pa_nil)))))))))))
      (pss_one (ps_ret (pe_lc (own := [("_law_each", 8)]) rfl sc_law_bent.nd (pi_list (pv 6)) (blkOk_by (N := N_law_bent) (sc := defScope s_law_bent) (by decide +kernel)) (fun _ _ _ _ _ => pg_name (i := 8) sc_law_bent.nd rfl (Or.inl rfl)) (fun _ _ _ _ _ => pts_nil) (fun _ _ _ _ _ => (pe_makeC c_Stray (hr.mono (by decide)) (by rfl) (pa_cons (pv 8) pa_nil)))))))))))), ?_⟩
    refine ⟨_, rfl, r, Cs cs, rfl, .inl hS, _, _, rfl, ?_⟩
    rw [cs_len]
    obtain ⟨mny, em, hm1, hm2⟩ : ∃ mny : Nat, (if (cs.length : Int) > 1 then (cs.length : Int) else 1) = (mny : Int) ∧ 1 ≤ mny ∧ mny ≤ 10 := by
      split
      · exact ⟨cs.length, rfl, by omega, hz⟩
      · exact ⟨1, rfl, by decide, by decide⟩
    rw [em]
    have isi : ∃ (t : Value) (b : Bool), TyX K H (.ref x) t ∧ PySem.W.kitOne K t (.ref ad.stray) = some b ∧ (b = true → ∃ (r : Addr) (wk : List Int), IsStray ad H x (.ref r) ∧ H r = some (.tup (Cs wk)) ∧ 1 ≤ wk.length ∧ wk.length ≤ 400) := by
      rcases hj with ⟨⟨dx, fs, h1, _⟩, _⟩ | ⟨r, wk, ⟨dx, fs, h1, h2, h3⟩, hr1, hsw, hl, _⟩
      · exact ⟨_, false, ins_ty T T.iCalm h1, T.kc.2.1, fun z => nomatch z⟩
      · exact ⟨_, true, ins_ty T T.iStray h1, T.ks.2.1, fun _ => ⟨r, wk, ⟨dx, fs, h1, h2, h3⟩, hr1, by have := hsw.1; omega, hl⟩⟩
    obtain ⟨ty, b, hty, hk, hb⟩ := isi
    refine ⟨_, rfl, _, _, ty, _, b, rfl, .own _, hty, hk, _, rfl, ?_⟩
    refine if_gen (fun v H' => ∃ (W : Addr) (wk : List Int), v = .ref W ∧ Kx c H H' ∧ CordAt H' c (t + 4) ∧ H' W = some (.lst (Cs wk)) ∧ 1 ≤ wk.length ∧ wk.length ≤ 400) (fun hbt Q' k' => ?_) (fun hbf Q' k' => ?_) ?_
    · obtain ⟨r2, wk, ⟨dx, fs, h1, h2, h3⟩, hr2, hw1, hw2⟩ := hb hbt
      refine ⟨_, rfl, x, ad.stray, dx, fs, .ref r2, rfl, h1, T.iStray.cl, (T.nw ad.stray (by simp)).2.2, h3, r2, Cs wk, rfl, .inr (SqT.of hr2), fun W hW => ?_⟩
      exact k' _ _ ⟨W, wk, rfl, kx_of (same_new hW), (hc.keep (same_new hW)).le (by omega), upd_same, hw1, hw2⟩
    · refine ⟨_, rfl, by decide, by decide, ?_⟩
      intro D hD
      refine lcK (n := 4) (k := 1) (fun b o _ e => e : Kx c H H) hc hD (by decide) ?_ (fun Hd ns kd cd hDd hl h0 => ?_)
      · rintro i Hi Q1 Q0 hi ci kk1
        refine ⟨rfl, lcY ⟨_, rfl, _, rfl, c, (mny : Int), _, rfl, ci, by omega, by omega, by omega, fun Hk u kk ck u0 u1 => ?_⟩⟩
        exact kk1 u Hk kk (ck.le (by omega)) u0
      · exact k' _ _ ⟨D, ns, rfl, kd, cd.le (by omega), hDd, by omega, by omega⟩
    · rintro v H1 ⟨W, wk, rfl, k1, c1, hW1, hw1, hw2⟩
      refine ⟨_, rfl, _, rfl, W, Cs wk, rfl, .inl (SqL.of hW1), c, _, t + 4, rfl, c1, by omega, (by rw [cs_len]; omega), (by rw [cs_len]; omega), fun G0 u k2 c2 u0 u1 => ?_⟩
      rw [cs_len] at u1
      have hW0 := k2 _ _ (cord_ns c1 hW1) hW1
      have k0 := kx_trans k1 k2
      have c0 := c2
      clear k2 c2 hW1 c1 k1
      obtain ⟨j, rfl⟩ : ∃ j : Nat, u = (j : Int) := ⟨u.toNat, by omega⟩
      obtain ⟨xj, ej⟩ := get_lt (cs := wk) (j := j) (by omega)
      obtain ⟨x0, e0⟩ := get_lt (cs := wk) (j := 0) (by omega)
      have gs0 : ∀ v ∈ [V.ref W], Good K G0 v := fun v hv => by
        rw [List.mem_singleton.mp hv]
        exact good_cs hW0 (by omega)
      have S0 : Same G0 G0 := Same.refl _
      refine ⟨_, rfl, _, rfl, W, Cs wk, rfl, SqL.of hW0, fun p1 hp1 => ?_⟩
      rw [cs_rev]
      have s1 := same_new (o := .lst (Cs wk.reverse)) hp1
      have w1 : (upd G0 p1 (.lst (Cs wk.reverse))) p1 = some (.lst (Cs wk.reverse)) := upd_same
      have gs1 := gs_add (v := .ref p1) gs0 s1 (good_cs w1 (by rw [List.length_reverse]; omega))
      have hW1 := s1 _ _ hW0
      have S1 := S0.trans s1
      generalize upd G0 p1 (.lst (Cs wk.reverse)) = G1 at s1 w1 gs1 hW1 S1 ⊢
      obtain ⟨u2, e2, l2⟩ := cs_cut wk none (some (-1))
      refine ⟨_, rfl, _, rfl, _, rfl, W, Cs wk, rfl, SqL.of hW1, fun p2 hp2 => ?_⟩
      rw [e2]
      have s2 := same_new (o := .lst (Cs u2)) hp2
      have w2 : (upd G1 p2 (.lst (Cs u2))) p2 = some (.lst (Cs u2)) := upd_same
      have gs2 := gs_add (v := .ref p2) gs1 s2 (good_cs w2 (by omega))
      have hW2 := s2 _ _ hW1
      have S2 := S1.trans s2
      generalize upd G1 p2 (.lst (Cs u2)) = G2 at s2 w2 gs2 hW2 S2 ⊢
      refine ⟨_, rfl, _, rfl, W, W, Cs wk, Cs wk, rfl, rfl, hW2, hW2, small_le (by rw [cs_len]; omega), fun p3 hp3 => ?_⟩
      rw [cs_cat]
      have s3 := same_new (o := .lst (Cs (wk ++ wk))) hp3
      have w3 : (upd G2 p3 (.lst (Cs (wk ++ wk)))) p3 = some (.lst (Cs (wk ++ wk))) := upd_same
      have gs3 := gs_add (v := .ref p3) gs2 s3 (good_cs w3 (by rw [List.length_append]; omega))
      have hW3 := s3 _ _ hW2
      have S3 := S2.trans s3
      generalize upd G2 p3 (.lst (Cs (wk ++ wk))) = G3 at s3 w3 gs3 hW3 S3 ⊢
      obtain ⟨u4, e4, l4⟩ := cs_cut wk (some 1) none
      refine ⟨_, rfl, _, rfl, W, Cs wk, rfl, SqL.of hW3, fun p4 hp4 => ?_⟩
      rw [e4]
      have s4 := same_new (o := .lst (Cs u4)) hp4
      have w4 : (upd G3 p4 (.lst (Cs u4))) p4 = some (.lst (Cs u4)) := upd_same
      have gs4 := gs_add (v := .ref p4) gs3 s4 (good_cs w4 (by omega))
      have hW4 := s4 _ _ hW3
      have S4 := S3.trans s4
      generalize upd G3 p4 (.lst (Cs u4)) = G4 at s4 w4 gs4 hW4 S4 ⊢
      obtain ⟨u5, e5, l5⟩ := cs_cut wk none (some 1)
      refine ⟨_, rfl, _, rfl, W, Cs wk, rfl, SqL.of hW4, fun p5 hp5 => ?_⟩
      rw [e5]
      have s5 := same_new (o := .lst (Cs u5)) hp5
      have w5 : (upd G4 p5 (.lst (Cs u5))) p5 = some (.lst (Cs u5)) := upd_same
      have gs5 := gs_add (v := .ref p5) gs4 s5 (good_cs w5 (by omega))
      have hW5 := s5 _ _ hW4
      have S5 := S4.trans s5
      generalize upd G4 p5 (.lst (Cs u5)) = G5 at s5 w5 gs5 hW5 S5 ⊢
      refine ⟨p4, p5, Cs u4, Cs u5, rfl, rfl, (s5 _ _ (w4)), w5, small_le (by rw [cs_len, cs_len]; omega), fun p6 hp6 => ?_⟩
      rw [cs_cat]
      have s6 := same_new (o := .lst (Cs (u4 ++ u5))) hp6
      have w6 : (upd G5 p6 (.lst (Cs (u4 ++ u5)))) p6 = some (.lst (Cs (u4 ++ u5))) := upd_same
      have gs6 := gs_add (v := .ref p6) gs5 s6 (good_cs w6 (by rw [List.length_append]; omega))
      have hW6 := s6 _ _ hW5
      have S6 := S5.trans s6
      generalize upd G5 p6 (.lst (Cs (u4 ++ u5))) = G6 at s6 w6 gs6 hW6 S6 ⊢
      obtain ⟨u7, e7, l7⟩ := cs_cut wk none (some (j : Int))
      refine ⟨_, rfl, _, rfl, _, rfl, W, Cs wk, rfl, SqL.of hW6, fun p7 hp7 => ?_⟩
      rw [e7]
      have s7 := same_new (o := .lst (Cs u7)) hp7
      have w7 : (upd G6 p7 (.lst (Cs u7))) p7 = some (.lst (Cs u7)) := upd_same
      have gs7 := gs_add (v := .ref p7) gs6 s7 (good_cs w7 (by omega))
      have hW7 := s7 _ _ hW6
      have S7 := S6.trans s7
      generalize upd G6 p7 (.lst (Cs u7)) = G7 at s7 w7 gs7 hW7 S7 ⊢
      refine ⟨_, rfl, _, rfl, W, Cs wk, _, _, rfl, rfl, SqL.of hW7, at_cs rfl ej, _, _, rfl, rfl, (by show 1 ≤ sizeLine; decide), fun p8 hp8 => ?_⟩
      generalize hG : upd G7 p8 _ = G8
      have w8 : G8 p8 = some (.lst (Cs [xj + 1])) := by rw [← hG]; exact upd_same
      have s8 : Same G7 G8 := by rw [← hG]; exact same_new hp8
      clear hG
      have gs8 := gs_add (v := .ref p8) gs7 s8 (good_cs w8 (by show 1 ≤ 1000; decide))
      have hW8 := s8 _ _ hW7
      have S8 := S7.trans s8
      refine ⟨p7, p8, Cs u7, Cs [xj + 1], rfl, rfl, (s8 _ _ (w7)), w8, small_le (by rw [cs_len]; show _ + 1 ≤ _; omega), fun p9 hp9 => ?_⟩
      rw [cs_cat]
      have s9 := same_new (o := .lst (Cs (u7 ++ [xj + 1]))) hp9
      have w9 : (upd G8 p9 (.lst (Cs (u7 ++ [xj + 1])))) p9 = some (.lst (Cs (u7 ++ [xj + 1]))) := upd_same
      have gs9 := gs_add (v := .ref p9) gs8 s9 (good_cs w9 (by rw [List.length_append]; show _ + 1 ≤ _; omega))
      have hW9 := s9 _ _ hW8
      have S9 := S8.trans s9
      generalize upd G8 p9 (.lst (Cs (u7 ++ [xj + 1]))) = G9 at s9 w9 gs9 hW9 S9 ⊢
      obtain ⟨u10, e10, l10⟩ := cs_cut wk (some ((j : Int) + 1)) none
      refine ⟨_, rfl, _, rfl, ?_⟩
      refine ⟨_, _, rfl, rfl, _, rfl, W, Cs wk, rfl, SqL.of hW9, fun p10 hp10 => ?_⟩
      rw [e10]
      have s10 := same_new (o := .lst (Cs u10)) hp10
      have w10 : (upd G9 p10 (.lst (Cs u10))) p10 = some (.lst (Cs u10)) := upd_same
      have gs10 := gs_add (v := .ref p10) gs9 s10 (good_cs w10 (by omega))
      have hW10 := s10 _ _ hW9
      have S10 := S9.trans s10
      generalize upd G9 p10 (.lst (Cs u10)) = G10 at s10 w10 gs10 hW10 S10 ⊢
      refine ⟨p9, p10, Cs (u7 ++ [xj + 1]), Cs u10, rfl, rfl, (s10 _ _ (w9)), w10, small_le (by rw [cs_len, cs_len, List.length_append]; show _ + 1 + _ ≤ _; omega), fun p11 hp11 => ?_⟩
      rw [cs_cat]
      have s11 := same_new (o := .lst (Cs (u7 ++ [xj + 1] ++ u10))) hp11
      have w11 : (upd G10 p11 (.lst (Cs (u7 ++ [xj + 1] ++ u10)))) p11 = some (.lst (Cs (u7 ++ [xj + 1] ++ u10))) := upd_same
      have gs11 := gs_add (v := .ref p11) gs10 s11 (good_cs w11 (by rw [List.length_append, List.length_append]; show _ + 1 + _ ≤ _; omega))
      have hW11 := s11 _ _ hW10
      have S11 := S10.trans s11
      generalize upd G10 p11 (.lst (Cs (u7 ++ [xj + 1] ++ u10))) = G11 at s11 w11 gs11 hW11 S11 ⊢
      refine ⟨Nat.zero_le _, fun p12 hp12 => ?_⟩
      generalize hG : upd G11 p12 _ = G12
      have w12 : G12 p12 = some (.lst (Cs [])) := by rw [← hG]; exact upd_same
      have s12 : Same G11 G12 := by rw [← hG]; exact same_new hp12
      clear hG
      have gs12 := gs_add (v := .ref p12) gs11 s12 (good_cs w12 (Nat.zero_le _))
      have hW12 := s12 _ _ hW11
      have S12 := S11.trans s12
      have gf : ∀ v ∈ [V.ref W, V.ref p1, V.ref p2, V.ref p3, V.ref p6, V.ref p11, V.ref p12, V.non], Good K G12 v := by
        intro v hv
        simp only [List.mem_cons, List.not_mem_nil, or_false] at hv
        rcases hv with rfl | rfl | rfl | rfl | rfl | rfl | rfl | rfl
        all_goals first | exact good_leaf (n := "NoneType") rfl | exact gs12 _ (by simp)
      refine ⟨(by show 8 ≤ sizeLine; decide), fun p13 hp13 => ?_⟩
      have s13 := same_new (o := .lst [V.ref W, V.ref p1, V.ref p2, V.ref p3, V.ref p6, V.ref p11, V.ref p12, V.non]) hp13
      have w13 : (upd G12 p13 (.lst [V.ref W, V.ref p1, V.ref p2, V.ref p3, V.ref p6, V.ref p11, V.ref p12, V.non])) p13 = some (.lst [V.ref W, V.ref p1, V.ref p2, V.ref p3, V.ref p6, V.ref p11, V.ref p12, V.non]) := upd_same
      have gs13 : ∀ v ∈ [V.ref W, V.ref p1, V.ref p2, V.ref p3, V.ref p6, V.ref p11, V.ref p12, V.non], Good K (upd G12 p13 (.lst [V.ref W, V.ref p1, V.ref p2, V.ref p3, V.ref p6, V.ref p11, V.ref p12, V.non])) v := fun v hv => (gf v hv).keep s13
      have hW13 := s13 _ _ hW12
      have S13 := S12.trans s13
      generalize upd G12 p13 (.lst [V.ref W, V.ref p1, V.ref p2, V.ref p3, V.ref p6, V.ref p11, V.ref p12, V.non]) = G13 at s13 w13 gs13 hW13 S13 ⊢
      refine ⟨_, rfl, _, rfl, W, Cs wk, _, _, rfl, rfl, SqL.of hW13, at_cs (j := 0) rfl e0, _, rfl, W, Cs wk, _, _, rfl, rfl, SqL.of hW13, at_cs (j := 0) rfl e0, (by show 2 ≤ sizeLine; decide), fun p14 hp14 => ?_⟩
      generalize hG : upd G13 p14 _ = G14
      have w14 : G14 p14 = some (.lst (Cs [x0, x0])) := by rw [← hG]; exact upd_same
      have s14 : Same G13 G14 := by rw [← hG]; exact same_new hp14
      clear hG
      have gs14 := gs_add (v := .ref p14) gs13 s14 (good_cs w14 (by show 2 ≤ 1000; decide))
      have hW14 := s14 _ _ hW13
      have S14 := S13.trans s14
      refine ⟨(by show 4 ≤ sizeLine; decide), fun p15 hp15 => ?_⟩
      generalize hG : upd G14 p15 _ = G15
      have w15 : G15 p15 = some (.lst (Cs [0, 1, 0, 1])) := by rw [← hG]; exact upd_same
      have s15 : Same G14 G15 := by rw [← hG]; exact same_new hp15
      clear hG
      have gs15 := gs_add (v := .ref p15) gs14 s15 (good_cs w15 (by show 4 ≤ 1000; decide))
      have hW15 := s15 _ _ hW14
      have S15 := S14.trans s15
      refine ⟨(by show 4 ≤ sizeLine; decide), fun p16 hp16 => ?_⟩
      generalize hG : upd G15 p16 _ = G16
      have w16 : G16 p16 = some (.lst (Cs [1, 0, 1, 2])) := by rw [← hG]; exact upd_same
      have s16 : Same G15 G16 := by rw [← hG]; exact same_new hp16
      clear hG
      have gs16 := gs_add (v := .ref p16) gs15 s16 (good_cs w16 (by show 4 ≤ 1000; decide))
      have hW16 := s16 _ _ hW15
      have S16 := S15.trans s16
      refine ⟨(by show 4 ≤ sizeLine; decide), fun p17 hp17 => ?_⟩
      generalize hG : upd G16 p17 _ = G17
      have w17 : G17 p17 = some (.lst ([V.bl true, V.int 0, V.int 1, V.int 2])) := by rw [← hG]; exact upd_same
      have s17 : Same G16 G17 := by rw [← hG]; exact same_new hp17
      clear hG
      have gs17 := gs_add (v := .ref p17) gs16 s17 (good_lst w17 (lf_dec (by decide +kernel)) (by show 4 ≤ 1000; decide))
      have hW17 := s17 _ _ hW16
      have S17 := S16.trans s17
      refine ⟨(by show 2 ≤ sizeLine; decide), fun p18 hp18 => ?_⟩
      generalize hG : upd G17 p18 _ = G18
      have w18 : G18 p18 = some (.lst ([V.str "0", V.str "1"])) := by rw [← hG]; exact upd_same
      have s18 : Same G17 G18 := by rw [← hG]; exact same_new hp18
      clear hG
      have gs18 := gs_add (v := .ref p18) gs17 s18 (good_lst w18 (lf_dec (by decide +kernel)) (by show 2 ≤ 1000; decide))
      have hW18 := s18 _ _ hW17
      have S18 := S17.trans s18
      refine ⟨(by show 4 ≤ sizeLine; decide), fun p19 hp19 => ?_⟩
      generalize hG : upd G18 p19 _ = G19
      have w19 : G19 p19 = some (.lst (Cs [0, 1, 2, 1])) := by rw [← hG]; exact upd_same
      have s19 : Same G18 G19 := by rw [← hG]; exact same_new hp19
      clear hG
      have gs19 := gs_add (v := .ref p19) gs18 s19 (good_cs w19 (by show 4 ≤ 1000; decide))
      have hW19 := s19 _ _ hW18
      have S19 := S18.trans s19
      refine ⟨_, rfl, _, rfl, (by show 2 ≤ sizeLine; decide), fun p20 hp20 => ?_⟩
      generalize hG : upd G19 p20 _ = G20
      have w20 : G20 p20 = some (.lst (Cs [(mny : Int), (mny : Int)])) := by rw [← hG]; exact upd_same
      have s20 : Same G19 G20 := by rw [← hG]; exact same_new hp20
      clear hG
      have gs20 := gs_add (v := .ref p20) gs19 s20 (good_cs w20 (by show 2 ≤ 1000; decide))
      have hW20 := s20 _ _ hW19
      have S20 := S19.trans s20
      have gm : ∀ v ∈ [V.ref W, V.ref p1, V.ref p2, V.ref p3, V.ref p6, V.ref p11, V.ref p12, V.non] ++ [V.ref p14, V.ref p15, V.ref p16, V.ref p17, V.ref p18, V.ref p19, V.ref p20, V.int 5], Good K G20 v := by
        intro v hv
        rcases List.mem_append.mp hv with hv | hv
        · exact gs20 _ (List.mem_append_left _ (List.mem_append_left _ (List.mem_append_left _ (List.mem_append_left _ (List.mem_append_left _ (List.mem_append_left _ (List.mem_append_left _ hv)))))))
        · simp only [List.mem_cons, List.not_mem_nil, or_false] at hv
          rcases hv with rfl | rfl | rfl | rfl | rfl | rfl | rfl | rfl
          all_goals first | exact good_leaf (n := "int") rfl | exact gs20 _ (by simp)
      refine ⟨(by show 8 ≤ sizeLine; decide), fun p21 hp21 => ?_⟩
      have s21 := same_new (o := .lst [V.ref p14, V.ref p15, V.ref p16, V.ref p17, V.ref p18, V.ref p19, V.ref p20, V.int 5]) hp21
      have w21 : (upd G20 p21 (.lst [V.ref p14, V.ref p15, V.ref p16, V.ref p17, V.ref p18, V.ref p19, V.ref p20, V.int 5])) p21 = some (.lst [V.ref p14, V.ref p15, V.ref p16, V.ref p17, V.ref p18, V.ref p19, V.ref p20, V.int 5]) := upd_same
      have w13' := s21 _ _ (s20 _ _ (s19 _ _ (s18 _ _ (s17 _ _ (s16 _ _ (s15 _ _ (s14 _ _ (w13))))))))
      have gm21 : ∀ v ∈ [V.ref W, V.ref p1, V.ref p2, V.ref p3, V.ref p6, V.ref p11, V.ref p12, V.non] ++ [V.ref p14, V.ref p15, V.ref p16, V.ref p17, V.ref p18, V.ref p19, V.ref p20, V.int 5], Good K (upd G20 p21 (.lst [V.ref p14, V.ref p15, V.ref p16, V.ref p17, V.ref p18, V.ref p19, V.ref p20, V.int 5])) v := fun v hv => (gm v hv).keep s21
      have S21 := S20.trans s21
      generalize upd G20 p21 (.lst [V.ref p14, V.ref p15, V.ref p16, V.ref p17, V.ref p18, V.ref p19, V.ref p20, V.int 5]) = G21 at s21 w21 w13' gm21 S21 ⊢
      refine ⟨p13, p21, _, _, rfl, rfl, w13', w21, small_le (by show 16 ≤ 1000; decide), fun p22 hp22 => ?_⟩
      have hl16 : ([V.ref W, V.ref p1, V.ref p2, V.ref p3, V.ref p6, V.ref p11, V.ref p12, V.non] ++ [V.ref p14, V.ref p15, V.ref p16, V.ref p17, V.ref p18, V.ref p19, V.ref p20, V.int 5]).length = 16 := rfl
      generalize [V.ref W, V.ref p1, V.ref p2, V.ref p3, V.ref p6, V.ref p11, V.ref p12, V.non] ++ [V.ref p14, V.ref p15, V.ref p16, V.ref p17, V.ref p18, V.ref p19, V.ref p20, V.int 5] = fnd at gm21 hl16 ⊢
      have s22 := same_new (o := .lst fnd) hp22
      have w22 : (upd G21 p22 (.lst fnd)) p22 = some (.lst fnd) := upd_same
      have gm22 : ∀ v ∈ fnd, Good K (upd G21 p22 (.lst fnd)) v := fun v hv => (gm21 v hv).keep s22
      have S22 := S21.trans s22
      generalize upd G21 p22 (.lst fnd) = G22 at s22 w22 gm22 S22 ⊢
      have k22 := kx_same k0 S22
      have c22 := c0.keep S22
      clear S22 S21 S20 S19 S18 S17 S16 S15 S14 S13 S12 S11 S10 S9 S8 S7 S6 S5 S4 S3 S2 S1 gs20 gs19 gs18 gs17 gs16 gs15 gs14 gs13 gs12 gs11 gs10 gs9 gs8 gs7 gs6 gs5 gs4 gs3 gs2 gs1 gs0 gf gm
      refine ⟨_, rfl, p22, rfl, ⟨_, SqL.of w22⟩, ?_⟩
      intro D hD
      refine lcR (w := walk_list (K := K) (a := p22) (xs := fnd)) (H0 := G22) (fun i H ys => ys.length = i ∧ ∀ y ∈ ys, StrayAt K ad H y) (Same.refl _) hD ⟨rfl, fun y h => nomatch h⟩ (fun i H ys hi r => small_lt (by omega)) (fun i H H' ys zs r hD k => ⟨r.1, fun y hy => (r.2 y hy).keepX hD k⟩) (fun Hh s => SqL.of (s _ _ w22)) ?_ (fun Hd ys sd hDd hr2 => ?_)
      · rintro i y Hi H' ys Q1 Q0 hi sH hDi ⟨hl, hys⟩ ⟨rfl, hy⟩ q1 q0
        obtain ⟨d, hw⟩ := (gm22 y (List.mem_of_getElem? hy)).keep sH
        refine ⟨rfl, lcY ⟨_, rfl, ?_⟩⟩
        intro z dx hz hdx hne
        refine ⟨z, dx, y, d, rfl, upd_same, hw.keep (made_same hz hdx fun b o _ e => e), fun H3 y2 k3 hs3 wo => ⟨rfl, ?_⟩⟩
        have s3 := made_same hz hdx k3
        refine q1 (.ref z) H3 s3 ⟨by rw [List.length_append, hl]; rfl, fun u hu => ?_⟩
        rcases List.mem_append.mp hu with hu | hu
        · exact (hys u hu).keep s3
        · rw [List.mem_singleton.mp hu]
          exact ⟨z, y2, y, d, rfl, hs3, wo, _, hw⟩
      · obtain ⟨xs, rfl, hxl, hxs⟩ := strays_of hr2.2
        refine q Hd D xs (kx_same k22 sd) ((c22.keep sd).le (by omega)) hDd ?_ hxs
        have := hr2.1
        rw [List.length_map] at this
        omega
end
end K51
/-! K51: long lines. -/
namespace K51
open PySem PySem.Spec PyProof.Rows L2

abbrev s_law_long_right : Stmt := topS 45
abbrev N_law_long_right : List Str := ["_law_cord_here", "_law_begin", "_law_near", "_law_colours", "_law_calm", "_law_told", "_law_half", "_law_walk", "_law_due", "_law_place"]
theorem sc_law_long_right : FnScope N_law_long_right ["_law_cord_here"] (defScope s_law_long_right) := ⟨rfl, rfl, rfl, by decide +kernel, rfl, by decide +kernel, by decide +kernel⟩

theorem cs_cutm (wk : List Int) (lo hi : Option Int) : ∃ u, cutV (Cs wk) lo hi = Cs u ∧ u.length ≤ wk.length ∧ ∀ x ∈ u, x ∈ wk := by
  unfold cutV
  rw [cs_drop, cs_take]
  exact ⟨_, rfl, by rw [List.length_take, List.length_drop]; omega, fun x hx => List.mem_of_mem_drop (List.mem_of_mem_take hx)⟩
theorem told_shown {K : PySem.W.Frag} {ad : Ads} {cs : List Int} {H : Hp} {x : Addr} (h : Judged ad cs H x) : ∃ sh, ShownAt K ad H (.ref x) sh ∧ ShownP cs sh := by
  rcases h with ⟨h, hC⟩ | ⟨r, w, h, hr, hw, hl, _⟩
  · exact ⟨.calm, ⟨x, rfl, h⟩, hC⟩
  · exact ⟨.stray (some (Cs w)), ⟨x, .ref r, rfl, h, r, rfl, SqT.of hr, lf_cs w, by rw [cs_len]; omega⟩, w, rfl, hw⟩
theorem bl_ne (a b : Bool) (e : a = b) : (!decide (V.bl a = V.bl b)) = false := by subst e; simp
theorem bl_iff {a b : Bool} {p : Prop} (h1 : a = true ↔ p) (h2 : b = true ↔ p) : a = b := by
  cases a <;> cases b <;> simp_all

section
variable {P : Program} {w : World} {K : PySem.W.Frag} {mg : Str → Option Value} {base : Heap} {ad : Ads} {f : Addr} {fd : FuncData}
theorem ok_long (F : Fun K "_law_long_right" "_law_long_right" s_law_long_right f fd) (T : Txt K mg ad) (d_law_ply : Def P w K mg base "_law_ply" 1 sp_ply) (d_law_pick : Def P w K mg base "_law_pick" 2 (sp_pick K))
    (d_line_colours : Def P w K mg base "line_colours" 4 sp_signs) (d_law_plain_calm : Def P w K mg base "_law_plain_calm" 1 (sp_lcalm K)) (d_judged_line : Def P w K mg base "judged_line" 7 (sp_judged K ad))
    (d_shows_line : Def P w K mg base "shows_line" 8 (sp_shows K ad)) (d_law_is_stray : Def P w K mg base "_law_is_stray" 1 (sp_lis K)) (c_Calm : Cl P w K mg base "Calm" ad.calm 5 (sp_calm ad)) (c_Stray : Cl P w K mg base "Stray" ad.stray 5 (sp_stray K ad)) :
    FnOk P w K mg base CX0 9 f fd ["_law_cord_here"] sp_long := by
  refine F.ok sc_law_long_right (fun vs H Q E h => ?_) (fun cdv A outer s H vs Q E hr h => ?_)
  · obtain ⟨c, t, rfl, _⟩ := h
    rfl
  · obtain ⟨c, t, rfl, hc, ht, q⟩ := h
    refine ⟨_, ((pss_cons (ps_set (i := 1) sc_law_long_right.nd rfl (.inl rfl) (pe_callD d_law_ply (hr.mono (by decide)) (by rfl) (pa_cons (pv 0) (pa_cons pe_int pa_nil))))
      (pss_cons (ps_set (i := 2) sc_law_long_right.nd rfl (.inr rfl) (pe_op op_cat (pe_callTy call_list_of (by rfl) T.list (by decide +kernel) (pa_cons (pe_slice sl_tup (pe_callD d_line_colours (hr.mono (by decide)) (by rfl) (pa_cons pe_int pa_nil)) (po_some (pv 1)) (po_some (pe_op op_add (pe_op op_add (pv 1) pe_int) (pe_callD d_law_ply (hr.mono (by decide)) (by rfl) (pa_cons (pv 0) (pa_cons pe_int pa_nil)))))) pa_nil)) (pe_lst (pa_cons pe_int (pa_cons pe_int pa_nil)))))
      (pss_cons (ps_set (i := 3) sc_law_long_right.nd rfl (.inl rfl) (pe_op op_cat (pe_op op_cat (pv 2) (pe_slice sl_list (pv 2) po_none (po_some (pe_op op_sub (pe_callB call_len_seq (by rfl) T.len (by decide +kernel) (pa_cons (pv 2) pa_nil)) (pe_callD d_law_pick (hr.mono (by decide)) (by rfl) (pa_cons (pv 0) (pa_cons (pe_lst (pa_cons pe_int (pa_cons pe_int (pa_cons pe_int (pa_cons pe_int pa_nil))))) pa_nil))))))) (pe_callTy call_list_of (by rfl) T.list (by decide +kernel) (pa_cons (pe_slice sl_tup (pe_callD d_line_colours (hr.mono (by decide)) (by rfl) (pa_cons pe_int pa_nil)) po_none (po_some (pe_callD d_law_ply (hr.mono (by decide)) (by rfl) (pa_cons (pv 0) (pa_cons pe_int pa_nil))))) pa_nil))))
      (pss_cons (ps_par (i := 4) (j := 5) (by rfl) sc_law_long_right.nd rfl rfl (by decide) rfl rfl (pa_cons (pe_callD d_law_plain_calm (hr.mono (by decide)) (by rfl) (pa_cons (pv 3) pa_nil)) (pa_cons (pe_callD d_judged_line (hr.mono (by decide)) (by rfl) (pa_cons (pv 3) pa_nil)) pa_nil)) (by rfl))
      (pss_cons (ps_if (PW.pt (pw_or (pt_cmpR op_ne (pe_callB call_isi (by rfl) T.isinstance (by decide +kernel) (pa_cons (pv 5) (pa_cons (pe_glob (v := .ref ad.calm) (by rfl) T.gCalm rfl) pa_nil))) (pv 4) (nomark _)) (pw_or (pt_cmpR op_ne (pe_callB call_repr_bl (by rfl) T.repr (by decide +kernel) (pa_cons (pe_callD d_shows_line (hr.mono (by decide)) (by rfl) (pa_cons (pv 3) (pa_cons (pe_makeC0 c_Calm (hr.mono (by decide)) (by rfl)) pa_nil))) pa_nil)) (pe_callB call_repr_bl (by rfl) T.repr (by decide +kernel) (pa_cons (pv 4) pa_nil)) (nomark _)) (pw_or1 (pt_cmpR op_notBl (pe_callD d_shows_line (hr.mono (by decide)) (by rfl) (pa_cons (pv 3) (pa_cons (pv 5) pa_nil))) pe_bl (nomark _)))))) (pss_one (ps_ret pe_bl)) pss_nil)
      (pss_cons (ps_set (i := 6) sc_law_long_right.nd rfl (.inl rfl) (pe_listRg rfl (by rfl) T.list (prg_1 (by rfl) T.range (pe_callB call_len_seq (by rfl) T.len (by decide +kernel) (pa_cons (pv 2) pa_nil)))))
      (pss_cons (ps_set (i := 7) sc_law_long_right.nd rfl (.inl rfl) (pe_op op_cat (pv 6) (pe_lc (own := [("_law_place", 9)]) rfl sc_law_long_right.nd (pi_list (pv 6)) (blkOk_by (N := N_law_long_right) (sc := defScope s_law_long_right) (by decide +kernel)) (fun _ _ _ _ _ => pg_name (i := 9) sc_law_long_right.nd rfl (Or.inl rfl)) (fun _ _ _ _ _ => pts_nil) (fun _ _ _ _ _ => (pe_op op_add (pv 9) (pe_callB (call_lenK K rfl) (by rfl) T.len (by decide +kernel) (pa_cons (pv 2) pa_nil)))))))
      (pss_cons (ps_set (i := 8) sc_law_long_right.nd rfl (.inl rfl) (pe_callD d_law_is_stray (hr.mono (by decide)) (by rfl) (pa_cons (pv 3) (pa_cons (pv 7) pa_nil))))
      (pss_one (ps_ret (pe_and (pe_cmpR op_eq (pe_callB call_repr_bl (by rfl) T.repr (by decide +kernel) (pa_cons (pe_callD d_shows_line (hr.mono (by decide)) (by rfl) (pa_cons (pv 3) (pa_cons (pe_makeC c_Stray (hr.mono (by decide)) (by rfl) (pa_cons (pv 7) pa_nil)) pa_nil))) pa_nil)) (pe_callB call_repr_bl (by rfl) T.repr (by decide +kernel) (pa_cons (pv 8) pa_nil)) (nomark _)) (pe_one (pe_or (pv 4) (pe_one (pe_callD d_law_is_stray (hr.mono (by decide)) (by rfl) (pa_cons (pv 3) (pa_cons (pe_fld (pv 5) rfl) pa_nil)))))))))))))))))), ?_⟩
    refine ⟨_, rfl, c, 30, t, rfl, hc, by omega, by omega, by omega, fun H1 bg k1 c1 b0 b1 => ?_⟩
    obtain ⟨b, rfl⟩ : ∃ b : Nat, bg = (b : Int) := ⟨bg.toNat, by omega⟩
    refine ⟨90, rfl, by decide, fun H2 lt ws s2 hlt hlw hw0 => ?_⟩
    refine ⟨_, rfl, _, rfl, _, rfl, ?_⟩
    refine ⟨_, _, rfl, rfl, _, rfl, c, 50, t + 1, rfl, c1.keep s2, by omega, by omega, by omega, fun H3 p k3 c3 p0 p1 => ?_⟩
    obtain ⟨p, rfl⟩ : ∃ n : Nat, p = (n : Int) := ⟨p.toNat, by omega⟩
    have hlc : lt ≠ c := by
      obtain ⟨_, _, _, _, hcc, _⟩ := c1.keep s2
      exact ne_of hlt hcc nofun
    have hlt3 := k3 _ _ hlc hlt
    refine ⟨_, _, rfl, rfl, _, rfl, lt, Cs ws, rfl, SqT.of hlt3, ?_, fun A1 hA1 => ?_⟩
    · exact to_ne (k := b + 3 + p) (by show (b : Int) + 3 + (p : Int) = _; omega) (by rw [cs_len]; omega)
    rw [cut_mid (k := b) (m := b + 3 + p) rfl (by show (b : Int) + 3 + (p : Int) = _; omega) (by rw [cs_len]; omega) (by omega), cs_drop, cs_take]
    have hnl : ((ws.drop b).take (b + 3 + p - b)).length = 3 + p := by rw [List.length_take, List.length_drop]; omega
    have hn0 : ∀ x ∈ (ws.drop b).take (b + 3 + p - b), 0 ≤ x := fun x hx => hw0 x (List.mem_of_mem_drop (List.mem_of_mem_take hx))
    generalize (ws.drop b).take (b + 3 + p - b) = nr at hnl hn0 ⊢
    refine ⟨A1, _, rfl, .inr (SqT.of upd_same), fun N1 hN1 => ?_⟩
    refine ⟨(by show 2 ≤ sizeLine; decide), fun N2 hN2 => ?_⟩
    have s4 := ((same_new (o := .tup (Cs nr)) hA1).trans (same_new (o := .lst (Cs nr)) hN1)).trans (same_new (o := .lst [V.int 4, V.int 5]) hN2)
    refine ⟨N1, N2, Cs nr, Cs [4, 5], rfl, rfl, same_new hN2 _ _ upd_same, upd_same, small_le (by rw [cs_len]; show _ + 2 ≤ _; omega), fun N hN => ?_⟩
    rw [cs_cat]
    have s5 := s4.trans (same_new (o := .lst (Cs (nr ++ [4, 5]))) hN)
    have hN5 : (upd (upd (upd (upd H3 A1 (.tup (Cs nr))) N1 (.lst (Cs nr))) N2 (.lst [V.int 4, V.int 5])) N (.lst (Cs (nr ++ [4, 5])))) N = some (.lst (Cs (nr ++ [4, 5]))) := upd_same
    have hnl2 : (nr ++ [4, 5]).length = 5 + p := by rw [List.length_append, hnl]; show 3 + p + 2 = _; omega
    have hn02 : ∀ x ∈ nr ++ [4, 5], 0 ≤ x := fun x hx => by
      rcases List.mem_append.mp hx with hx | hx
      · exact hn0 x hx
      · simp only [List.mem_cons, List.not_mem_nil, or_false] at hx
        omega
    have c4 := c3.keep s5
    generalize upd (upd (upd (upd H3 A1 _) N1 _) N2 _) N _ = H4 at hN5 c4 ⊢
    generalize nr ++ [4, 5] = nl at hN5 hnl2 hn02 ⊢
    clear hn0 hnl
    refine ⟨_, rfl, _, rfl, _, rfl, N, Cs nl, rfl, .inl (SqL.of hN5), _, rfl, (by show 4 ≤ sizeLine; decide), fun so hso => ?_⟩
    refine ⟨c, so, [0, 0, 1, 2], _, rfl, c4.keep (same_new hso), upd_same, by omega, by decide, by decide, fun H5 v k5 c5 hv => ?_⟩
    have hN5' := k5 _ _ (cord_ns c4 hN5) (same_new hso _ _ hN5)
    obtain ⟨vn, rfl, hvn⟩ : ∃ n : Nat, v = (n : Int) ∧ n ≤ 2 := by
      simp only [List.mem_cons, List.not_mem_nil, or_false] at hv
      exact ⟨v.toNat, by omega, by omega⟩
    refine ⟨_, _, rfl, rfl, _, rfl, N, Cs nl, rfl, SqL.of hN5', fun B hB => ?_⟩
    rw [cut_to (k := nl.length - vn) (by show ((Cs nl).length : Int) - (vn : Int) = _; rw [cs_len]; omega), cs_take]
    have s6 := same_new (o := .lst (Cs (nl.take (nl.length - vn)))) hB
    refine ⟨N, B, Cs nl, Cs (nl.take (nl.length - vn)), rfl, rfl, s6 _ _ hN5', upd_same, small_le (by rw [cs_len, cs_len, List.length_take]; omega), fun M hM => ?_⟩
    rw [cs_cat]
    have s7 := s6.trans (same_new (o := .lst (Cs (nl ++ nl.take (nl.length - vn)))) hM)
    have c7 := c5.keep s7
    have hM7 : (upd (upd H5 B (.lst (Cs (nl.take (nl.length - vn))))) M (.lst (Cs (nl ++ nl.take (nl.length - vn))))) M = some (.lst (Cs (nl ++ nl.take (nl.length - vn)))) := upd_same
    have hml : (nl ++ nl.take (nl.length - vn)).length ≤ 110 := by rw [List.length_append, List.length_take]; omega
    have hm0 : ∀ x ∈ nl ++ nl.take (nl.length - vn), 0 ≤ x := fun x hx => by
      rcases List.mem_append.mp hx with hx | hx
      · exact hn02 x hx
      · exact hn02 x (List.mem_of_mem_take hx)
    have hN7 := s7 _ _ hN5'
    generalize upd (upd H5 B _) M _ = H7 at hM7 c7 hN7 ⊢
    generalize nl ++ nl.take (nl.length - vn) = ml at hM7 hml hm0 ⊢
    refine ⟨90, rfl, by decide, fun H8 l2 w2 s8 hl2 hlw2 hw02 => ?_⟩
    refine ⟨_, rfl, c, 3, _, rfl, c7.keep s8, by omega, by omega, by omega, fun H9 u k9 c9 u0 u1 => ?_⟩
    obtain ⟨u, rfl⟩ : ∃ n : Nat, u = (n : Int) := ⟨u.toNat, by omega⟩
    have hl2c : l2 ≠ c := by
      obtain ⟨_, _, _, _, hcc, _⟩ := c7.keep s8
      exact ne_of hl2 hcc nofun
    have hl9 := k9 _ _ hl2c hl2
    have hM9 := k9 _ _ (cord_ns c7 hM7) (s8 _ _ hM7)
    have hN9 := k9 _ _ (cord_ns c7 hN7) (s8 _ _ hN7)
    refine ⟨_, rfl, l2, Cs w2, rfl, SqT.of hl9, ?_, fun A2 hA2 => ?_⟩
    · exact to_ne (k := u) rfl (by rw [cs_len]; omega)
    rw [cut_to (k := u) rfl, cs_take]
    have ht0 : ∀ x ∈ w2.take u, 0 ≤ x := fun x hx => hw02 x (List.mem_of_mem_take hx)
    have htl : (w2.take u).length ≤ 2 := by rw [List.length_take]; omega
    generalize w2.take u = tl at ht0 htl ⊢
    refine ⟨A2, _, rfl, .inr (SqT.of upd_same), fun E1 hE1 => ?_⟩
    have s10 := (same_new (o := .tup (Cs tl)) hA2).trans (same_new (o := .lst (Cs tl)) hE1)
    refine ⟨M, E1, Cs ml, Cs tl, rfl, rfl, s10 _ _ hM9, upd_same, small_le (by rw [cs_len, cs_len]; omega), fun C1 hC1 => ?_⟩
    rw [cs_cat]
    have s11 := s10.trans (same_new (o := .lst (Cs (ml ++ tl))) hC1)
    have hC : (upd (upd (upd H9 A2 (.tup (Cs tl))) E1 (.lst (Cs tl))) C1 (.lst (Cs (ml ++ tl)))) C1 = some (.lst (Cs (ml ++ tl))) := upd_same
    have hN11 := s11 _ _ hN9
    have hcl : (ml ++ tl).length ≤ 400 := by rw [List.length_append]; omega
    have hc0 : ∀ x ∈ ml ++ tl, 0 ≤ x := fun x hx => by
      rcases List.mem_append.mp hx with hx | hx
      · exact hm0 x hx
      · exact ht0 x hx
    generalize upd (upd (upd H9 A2 _) E1 _) C1 _ = H10 at hC hN11 ⊢
    generalize ml ++ tl = cs at hC hcl hc0 ⊢
    have hc0' := hc0
    have hcl' := hcl
    clear hc0 hcl
    have hcl : cs.length ≤ 400 := hcl'
    have col : ∀ H', Same H10 H' → Col K H' (.ref C1) cs := fun H' s => ⟨C1, rfl, .inl (SqL.of (s _ _ hC)), hc0', hcl⟩
    refine ⟨_, rfl, C1, cs, rfl, SqL.of hC, hcl, fun H11 cb s11 hcb => ?_⟩
    refine ⟨_, rfl, .ref C1, cs, rfl, col _ s11, fun H12 x s12 hx => ?_⟩
    have t12 := s11.trans s12
    refine ⟨_, _, rfl, ?_⟩
    have isi : ∃ (t : Value) (b : Bool), TyX K H12 (.ref x) t ∧ PySem.W.kitOne K t (.ref ad.calm) = some b ∧ (b = true ↔ Calm cs) := by
      rcases hx with ⟨⟨dx, fs, h1, _⟩, hC2⟩ | ⟨r, wk, ⟨dx, fs, h1, h2, h3⟩, hr1, hsw, hl, hC2⟩
      · exact ⟨_, true, ins_ty T T.iCalm h1, T.kc.1, fun _ => hC2, fun _ => rfl⟩
      · exact ⟨_, false, ins_ty T T.iStray h1, T.ks.1, fun z => (nomatch z), fun z => absurd z hC2⟩
    obtain ⟨ty, b1, hty, hk, hb1⟩ := isi
    refine ⟨_, rfl, _, _, ty, _, b1, rfl, .own _, hty, hk, _, rfl, rfl, _, rfl, ?_⟩
    rw [bl_ne b1 cb (bl_iff hb1 hcb)]
    refine iteF ?_
    refine ⟨_, rfl, fun y dx hy hdx hne => ⟨y, dx, rfl, upd_same, fun H13 k13 hc13 => ⟨rfl, ?_⟩⟩⟩
    have t13 := t12.trans (made_same hy hdx k13)
    refine ⟨.ref C1, cs, .ref y, .calm, rfl, col _ t13, ⟨y, rfl, hc13⟩, fun H14 b2 s14 hb2 => ?_⟩
    have t14 := t13.trans s14
    refine ⟨b2, rfl, _, rfl, cb, rfl, rfl, _, rfl, ?_⟩
    have e2 : b2 = cb := bl_iff hb2 hcb
    subst e2
    rw [show (!decide (V.str (if b2 = true then ("True" : Str) else ("False" : Str)) = V.str (if b2 = true then ("True" : Str) else ("False" : Str)))) = false by simp]
    refine iteF ?_
    have hx14 := hx.keep ((made_same hy hdx k13).trans s14)
    obtain ⟨sh, hsh, hsp⟩ := told_shown hx14
    refine ⟨_, rfl, _, rfl, .ref C1, cs, .ref x, sh, rfl, col _ t14, hsh, fun H15 b3 s15 hb3 => ?_⟩
    have e3 : b3 = true := hb3.mpr hsp
    subst e3
    have t15 := t14.trans s15
    have hN15 := t15 _ _ hN11
    have hx15 := hx14.keep s15
    have hcS : ∀ H', Same H15 H' → H' C1 = some (.lst (Cs cs)) := fun H' s => (t15.trans s) _ _ hC
    have cal15 : ∀ H', Same H15 H' → Col K H' (.ref C1) cs := fun H' s => col H' (t15.trans s)
    clear t15 t14 t13 t12 s15 s14 s12 s11
    refine ⟨_, _, rfl, rfl, _, rfl, iteF ?_⟩
    refine ⟨_, rfl, N, Cs nl, rfl, .inl (SqL.of hN15), _, rfl, ?_, fun q6 hq6 => ?_⟩
    · rw [cs_len]
      exact RgOk.of_le (by omega) (by omega) (by omega) (by omega)
    have er : rgV 0 ((Cs nl).length : Int) = Cs (rng 0 nl.length) := by
      unfold rgV Cs rng
      rw [List.map_map, List.length_map, show ((nl.length : Int) - 0).toNat = nl.length by omega]
      rfl
    rw [er]
    have s16 := same_new (o := .lst (Cs (rng 0 nl.length))) hq6
    have hq16 : (upd H15 q6 (.lst (Cs (rng 0 nl.length)))) q6 = some (.lst (Cs (rng 0 nl.length))) := upd_same
    have hN16 := s16 _ _ hN15
    generalize upd H15 q6 _ = H16 at s16 hq16 hN16 ⊢
    have hrl : (rng 0 nl.length).length = nl.length := rng_length _ _
    generalize rng 0 nl.length = hf at hq16 hrl ⊢
    refine ⟨_, rfl, _, rfl, q6, rfl, ⟨_, SqL.of hq16⟩, ?_⟩
    intro D hD
    refine lcS (w := walk_list (K := K) (a := q6) (xs := Cs hf)) (H0 := H16) (fun i => Cs ((hf.map fun x => x + (nl.length : Int)).take i)) rfl (fun i hi => small_lt (by rw [cs_len] at hi; rw [cs_len, List.length_take, List.length_map]; omega)) (Same.refl _) hD (fun Hh s => SqL.of (s _ _ hq16)) ?_ (fun He se hDe => ?_)
    · rintro i y Hi H' Q1 Q0 hi sH hDi ⟨rfl, hy⟩ k1 k0
      obtain ⟨z, hz, rfl, _⟩ := cs_get hy
      have hNi := sH _ _ hN16
      refine ⟨rfl, lcY ⟨_, rfl, _, rfl, N, Cs nl, rfl, .inl (SqL.of hNi), _, _, rfl, rfl, k1 _ _ (Same.refl _) ?_⟩⟩
      rw [cs_len]
      have : (hf.map fun x => x + (nl.length : Int))[i]? = some (z + (nl.length : Int)) := by rw [List.getElem?_map, hz]; rfl
      rw [tk this, cs_app]
    · have hd2 : (hf.map fun x => x + (nl.length : Int)).take (Cs hf).length = hf.map fun x => x + (nl.length : Int) := by
        rw [List.take_of_length_le (by rw [cs_len, List.length_map]; omega)]
      rw [hd2] at hDe
      have hl2 : (hf.map fun x => x + (nl.length : Int)).length = nl.length := by rw [List.length_map, hrl]
      generalize (hf.map fun x => x + (nl.length : Int)) = hg at hDe hl2 ⊢
      refine ⟨q6, D, Cs hf, Cs hg, rfl, rfl, se _ _ hq16, hDe, small_le (by rw [cs_len, cs_len]; omega), fun Wk hWk => ?_⟩
      rw [cs_cat]
      have s17 := (s16.trans se).trans (same_new (o := .lst (Cs (hf ++ hg))) hWk)
      have hw17 : (upd He Wk (.lst (Cs (hf ++ hg)))) Wk = some (.lst (Cs (hf ++ hg))) := upd_same
      have hwl : (hf ++ hg).length ≤ 1000 := by rw [List.length_append]; omega
      generalize upd He Wk _ = H17 at s17 hw17 ⊢
      generalize hf ++ hg = wl at hw17 hwl ⊢
      have win : ∀ H', Same H17 H' → WIn K H' (.ref Wk) (some (Cs wl)) := fun H' s => ⟨Wk, rfl, .inl (SqL.of (s _ _ hw17)), lf_cs wl, by rw [cs_len]; exact hwl⟩
      have sql : ∀ H', Same H15 H' → SqL K H' C1 (Cs cs) := fun H' s => SqL.of (show H' C1 = some (.lst (Cs cs)) from hcS H' s)
      refine ⟨_, rfl, _, rfl, C1, cs, .ref Wk, some (Cs wl), rfl, sql _ s17, hcl, win _ (Same.refl _), fun H18 b4 s18 hb4 => ?_⟩
      refine ⟨_, rfl, _, rfl, fun y dx hy hdx hne => ⟨y, dx, .ref Wk, some (Cs wl), rfl, upd_same, (win _ s18).keep (made_same hy hdx fun b o _ e => e), fun H19 z k19 hs19 wo => ⟨rfl, ?_⟩⟩⟩
      obtain ⟨rz, rfl, hrz⟩ := wout_some wo
      have s19 := (s17.trans s18).trans (made_same hy hdx k19)
      refine ⟨.ref C1, cs, .ref y, .stray (some (Cs wl)), rfl, cal15 _ s19, ⟨y, .ref rz, rfl, hs19, rz, rfl, SqT.of hrz, lf_cs wl, by rw [cs_len]; exact hwl⟩, fun H20 b5 s20 hb5 => ?_⟩
      have e5 : b5 = b4 := bl_iff hb5 hb4
      subst e5
      refine ⟨b5, rfl, _, rfl, b5, rfl, rfl, _, rfl, ?_⟩
      rw [show decide (V.str (if b5 = true then ("True" : Str) else ("False" : Str)) = V.str (if b5 = true then ("True" : Str) else ("False" : Str))) = true by simp]
      refine iteT ?_
      refine ⟨_, rfl, _, rfl, ?_⟩
      have hx20 := hx15.keep (s19.trans s20)
      refine ite2 (fun hb => q _) (fun hb => ?_)
      rcases hx20 with ⟨_, hC2⟩ | ⟨r, wk, ⟨dx, fs, h1, h2, h3⟩, hr1, hsw, hl, hC2⟩
      · exact absurd (hcb.mpr hC2) hb
      · refine ⟨_, rfl, _, rfl, x, ad.stray, dx, fs, .ref r, rfl, h1, T.iStray.cl, (T.nw ad.stray (by simp)).2.2, h3, C1, cs, .ref r, some (Cs wk), rfl, sql _ (s19.trans s20), hcl, ⟨r, rfl, .inr (SqT.of hr1), lf_cs wk, by rw [cs_len]; omega⟩, fun H21 b6 s21 hb6 => ?_⟩
        rw [hb6.mpr ⟨wk, rfl, hsw⟩]
        exact q _
end
end K51
/-! K51: the law. -/
namespace K51
open PySem PySem.Spec PyProof.Rows L2

abbrev s_law : Stmt := topS 46
abbrev N_law : List Str := ["_law_script", "_law_cord_here", "_law_turn", "_law_colours", "_law_stray_here", "_law_told", "_law_paper", "_law_odd", "_law_value"]
theorem sc_law : FnScope N_law ["_law_script"] (defScope s_law) := ⟨rfl, rfl, rfl, by decide +kernel, rfl, by decide +kernel, by decide +kernel⟩

theorem iteN {b : Bool} {T X : Prop} (e : b = true) (h : X) : if (!b) = true then T else X := by
  subst e
  exact iteF h
theorem and_no (H : Hp) {fl : Bool} {A T : Prop} {F : Hp → Prop} (hA : fl = true → (∀ H', Same H H' → F H') → A) (h : ∀ H', Same H H' → F H') : if fl = true then A else (if false = true then T else F H) := by
  cases fl with
  | true => exact iteT (hA rfl h)
  | false => exact iteF (iteF (h H (Same.refl _)))
theorem CordAt.lst {H : Hp} {c : Addr} {t : Int} (h : CordAt H c t) : ∃ xs, H c = some (.lst xs) := by
  obtain ⟨a, cells, turn, left, h1, _⟩ := h
  exact ⟨_, h1⟩
theorem Judged.keepX {ad : Ads} {cs : List Int} {H H' : Hp} {x c : Addr} {t : Int} (h : Judged ad cs H x) (hc : CordAt H c t) (k : Kx c H H') : Judged ad cs H' x := by
  obtain ⟨xs, hc⟩ := hc.lst
  rcases h with ⟨⟨dx, fs, h1, h2⟩, hC⟩ | ⟨r, w, ⟨dx, fs, h1, h2, h3⟩, hr, hw⟩
  · exact .inl ⟨⟨dx, fs, k _ _ (ne_of h1 hc nofun) h1, h2⟩, hC⟩
  · exact .inr ⟨r, w, ⟨dx, fs, k _ _ (ne_of h1 hc nofun) h1, h2, h3⟩, k _ _ (ne_of hr hc nofun) hr, hw⟩
def Odd (K : PySem.W.Frag) (ad : Ads) (H : Hp) (v : V) : Prop := ShownAt K ad H v .other
theorem Odd.keep {K : PySem.W.Frag} {ad : Ads} {H H' : Hp} {v : V} (h : Odd K ad H v) (s : Same H H') : Odd K ad H' v := by
  rcases h with h | ⟨x, e, h⟩ | ⟨x, xs, e, h⟩
  · exact .inl h
  · exact .inr (.inl ⟨x, e, h.keep s⟩)
  · exact .inr (.inr ⟨x, xs, e, sm_seqT s h⟩)

section
variable {P : Program} {w : World} {K : PySem.W.Frag} {mg : Str → Option Value} {base : Heap} {ad : Ads} {f : Addr} {fd : FuncData}
theorem ok_law (F : Fun K "law" "law" s_law f fd) (T : Txt K mg ad) (d_law_cord : Def P w K mg base "_law_cord" 1 (sp_cord K)) (d_law_drawn : Def P w K mg base "_law_drawn" 5 sp_drawn) (d_law_stray : Def P w K mg base "_law_stray" 1 (sp_lstray K))
    (d_law_plain_calm : Def P w K mg base "_law_plain_calm" 1 (sp_lcalm K)) (d_judged_line : Def P w K mg base "judged_line" 7 (sp_judged K ad)) (d_shows_line : Def P w K mg base "shows_line" 8 (sp_shows K ad))
    (dk_shows_line : DefK P w K mg base "shows_line" 8 "colours" "value" (sp_shows K ad)) (d_law_is_stray : Def P w K mg base "_law_is_stray" 1 (sp_lis K)) (d_law_bent : Def P w K mg base "_law_bent" 7 (sp_bent K ad)) (d_law_long_right : Def P w K mg base "_law_long_right" 9 sp_long)
    (c_Calm : Cl P w K mg base "Calm" ad.calm 5 (sp_calm ad)) (c_Paper : Cl P w K mg base "Paper" ad.paper 4 (sp_pap K ad.paper)) (c_Denial : Cl P w K mg base "Denial" ad.denial 4 (sp_pap K ad.denial))
    (bC : BoolOf P w K mg base ad.calm true) (bS : BoolOf P w K mg base ad.stray false) : FnOk P w K mg base CX0 10 f fd ["_law_script"] (sp_law K) := by
  refine F.ok sc_law (fun vs H Q E h => ?_) (fun cdv A outer s H vs Q E hr h => ?_)
  · obtain ⟨a, ns, rfl, _⟩ := h
    rfl
  · obtain ⟨a, ns, rfl, hS, hz, q⟩ := h
    refine ⟨_, ((pss_cons (ps_set (i := 1) sc_law.nd rfl (.inl rfl) (pe_callD d_law_cord (hr.mono (by decide)) (by rfl) (pa_cons (pv 0) pa_nil)))
      (pss_cons (ps_for PassesOwn.never rfl (pi_range1 (by rfl) T.range (pa_cons pe_int pa_nil)) (pg_name (i := 2) sc_law.nd rfl (.inl rfl)) (pss_cons (ps_set (i := 3) sc_law.nd rfl (.inr rfl) (pe_callD d_law_drawn (hr.mono (by decide)) (by rfl) (pa_cons (pv 1) pa_nil)))
      (pss_cons (ps_set (i := 4) sc_law.nd rfl (.inl rfl) (pe_callD d_law_stray (hr.mono (by decide)) (by rfl) (pa_cons (pv 3) pa_nil)))
      (pss_cons (ps_if (pt_cmpR op_eq (pv 4) (pe_callD d_law_plain_calm (hr.mono (by decide)) (by rfl) (pa_cons (pv 3) pa_nil)) (nomark _)) (pss_one (ps_ret pe_bl)) pss_nil)
      (pss_cons (ps_set (i := 5) sc_law.nd rfl (.inl rfl) (pe_callD d_judged_line (hr.mono (by decide)) (by rfl) (pa_cons (pe_callTy call_tuple_of (by rfl) T.tuple (by decide +kernel) (pa_cons (pv 3) pa_nil)) pa_nil)))
      (pss_cons (ps_if (PW.pt (pw_or (pt_cmpR op_eq (pe_callB call_isi (by rfl) T.isinstance (by decide +kernel) (pa_cons (pv 5) (pa_cons (pe_glob (v := .ref ad.calm) (by rfl) T.gCalm rfl) pa_nil))) (pv 4) (nomark _)) (pw_or1 (PW.pt (pw_and (pt_val (pv 4)) (pw_and1 (PW.pt (pw_or (pt_not (pt_val (pe_callB call_isi (by rfl) T.isinstance (by decide +kernel) (pa_cons (pv 5) (pa_cons (pe_glob (v := .ref ad.stray) (by rfl) T.gStray rfl) pa_nil))))) (pw_or1 (pt_not (pt_val (pe_callD d_law_is_stray (hr.mono (by decide)) (by rfl) (pa_cons (pv 3) (pa_cons (pe_fld (pv 5) rfl) pa_nil)))))))))))))) (pss_one (ps_ret pe_bl)) pss_nil)
      (pss_cons (ps_if (PW.pt (pw_or (pt_cmpR op_notBl (pe_callD d_shows_line (hr.mono (by decide)) (by rfl) (pa_cons (pv 3) (pa_cons (pv 5) pa_nil))) pe_bl (nomark _)) (pw_or1 (pt_cmpR op_ne (pe_callB call_repr_bl (by rfl) T.repr (by decide +kernel) (pa_cons (pe_callDK dk_shows_line (hr.mono (by decide)) (by rfl) (pv 3) (pe_makeC0 c_Calm (hr.mono (by decide)) (by rfl))) pa_nil)) (pe_callB call_repr_bl (by rfl) T.repr (by decide +kernel) (pa_cons (pe_not (pv 4)) pa_nil)) (nomark _))))) (pss_one (ps_ret pe_bl)) pss_nil)
      (pss_cons (ps_for PassesOwn.never rfl (pi_list (pe_callD d_law_bent (hr.mono (by decide)) (by rfl) (pa_cons (pv 1) (pa_cons (pv 3) (pa_cons (pv 5) pa_nil))))) (pg_name (i := 6) sc_law.nd rfl (.inl rfl)) (pss_one (ps_if (pt_cmpR op_ne (pe_callB call_repr_bl (by rfl) T.repr (by decide +kernel) (pa_cons (pe_callD d_shows_line (hr.mono (by decide)) (by rfl) (pa_cons (pv 3) (pa_cons (pv 6) pa_nil))) pa_nil)) (pe_callB call_repr_bl (by rfl) T.repr (by decide +kernel) (pa_cons (pe_callD d_law_is_stray (hr.mono (by decide)) (by rfl) (pa_cons (pv 3) (pa_cons (pe_fld (pv 6) rfl) pa_nil))) pa_nil)) (nomark _)) (pss_one (ps_ret pe_bl)) pss_nil)))
      (pss_cons (ps_set (i := 7) sc_law.nd rfl (.inl rfl) (pe_lst (pa_cons pe_non (pa_cons pe_bl (pa_cons pe_str (pa_cons (pe_makeC c_Paper (hr.mono (by decide)) (by rfl) (pa_cons pe_str pa_nil)) (pa_cons (pe_makeC c_Denial (hr.mono (by decide)) (by rfl) (pa_cons pe_str (pa_cons (pe_lst (pa_cons pe_int (pa_cons pe_int pa_nil))) pa_nil))) (pa_cons (pe_tup (pa_cons pe_int (pa_cons pe_int pa_nil))) (pa_cons pe_int pa_nil)))))))))
      (pss_cons (ps_if (pt_cmpR (op_neD hr.units) (pe_lc (own := [("_law_value", 8)]) rfl sc_law.nd (pi_list (pv 7)) (blkOk_by (N := N_law) (sc := defScope s_law) (by decide +kernel)) (fun _ _ _ _ _ => pg_name (i := 8) sc_law.nd rfl (Or.inl rfl)) (fun _ _ _ _ _ => pts_one (pt_cmpR op_notBl (pe_callD d_shows_line (hr.mono (by decide)) (by rfl) (pa_cons (pv 3) (pa_cons (pv 8) pa_nil))) pe_bl (nomark _))) (fun _ _ _ _ _ => (pv 8))) (pe_lst pa_nil) (nomark _)) (pss_one (ps_ret pe_bl)) pss_nil)
      (pss_one (ps_if (PW.pt (pw_or (pt_cmpR op_ne (pe_fld (pv 5) rfl) (pe_ifExp (pt_val (pv 4)) pe_str pe_str) (nomark _)) (pw_or (pt_cmpR op_eq (pe_callTy (call_bool_ins (hr.mono (by decide))) (by rfl) T.bool (by decide +kernel) (pa_cons (pv 5) pa_nil)) (pv 4) (nomark _)) (pw_or1 (pt_cmpR op_ne (pe_callB call_isi (by rfl) T.isinstance (by decide +kernel) (pa_cons (pv 5) (pa_cons (pe_glob (v := .ref ad.denial) (by rfl) T.gDenial rfl) pa_nil))) (pv 4) (nomark _)))))) (pss_one (ps_ret pe_bl)) pss_nil))))))))))))
      (pss_one (ps_ret (pe_callD d_law_long_right (hr.mono (by decide)) (by rfl) (pa_cons (pv 1) pa_nil))))))), ?_⟩
    refine ⟨_, rfl, a, ns, rfl, hS, hz, fun H1 c s1 hc0 hc1 => ?_⟩
    refine ⟨_, rfl, by decide, by decide, ?_⟩
    refine for_range (lo := 0) (n := 3) (fun i σ H' => CordAt H' c (35 * (i : Int)) ∧ ∃ y2 y3 y4 y5 y6 y7, σ = [some (.ref a), some (.ref c), y2, y3, y4, y5, y6, y7, none]) ⟨hc1.le (by omega), _, _, _, _, _, _, rfl⟩ ?_ ?_
    · rintro i σ H2 hi ⟨hc2, y2, y3, y4, y5, y6, y7, rfl⟩
      refine ⟨_, rfl, c, _, rfl, hc2, by omega, fun H3 r cs k3 hc3 hr3 hcl hc0 => ?_⟩
      refine ⟨_, rfl, r, cs, rfl, SqL.of hr3, hcl, fun H4 sh s4 hsh => ?_⟩
      refine ⟨_, rfl, _, rfl, r, cs, rfl, SqL.of (s4 _ _ hr3), by omega, fun H5 cb s5 hcb => ?_⟩
      have e0 : cb = !sh := by
        refine bl_iff hcb ?_
        cases sh with
        | true => exact ⟨fun z => (nomatch z), fun C => absurd C (hsh.mp rfl)⟩
        | false => exact ⟨fun _ => Classical.byContradiction fun z => (nomatch hsh.mpr z), fun _ => rfl⟩
      subst e0
      refine ⟨rfl, _, rfl, ?_⟩
      rw [show decide (V.bl sh = V.bl (!sh)) = false by cases sh <;> decide]
      refine iteF ?_
      refine ⟨_, rfl, r, Cs cs, rfl, .inl ⟨SqL.of (s5 _ _ (s4 _ _ hr3)), fun tu htu => ?_⟩⟩
      have s6 := (s4.trans s5).trans (same_new (o := .tup (Cs cs)) htu)
      refine ⟨.ref tu, cs, rfl, ⟨tu, rfl, .inr (SqT.of upd_same), hc0, by omega⟩, fun H6 x s7 hx => ?_⟩
      have t6 := s6.trans s7
      clear s4 s5 s6 s7 htu
      have shc : sh = true ↔ ¬ Calm cs := hsh
      have col : ∀ H', Same H6 H' → Col K H' (.ref r) cs := fun H' s => ⟨r, rfl, .inl (SqL.of ((t6.trans s) _ _ hr3)), hc0, by omega⟩
      have sql : ∀ H', Same H6 H' → SqL K H' r (Cs cs) := fun H' s => SqL.of ((t6.trans s) _ _ hr3)
      have isi : ∃ (t : Value) (b : Bool), TyX K H6 (.ref x) t ∧ PySem.W.kitOne K t (.ref ad.calm) = some b ∧ b = !sh ∧ PySem.W.kitOne K t (.ref ad.stray) = some sh ∧ PySem.W.kitOne K t (.ref ad.denial) = some sh := by
        rcases hx with ⟨⟨dx, fs, h1, _⟩, hC2⟩ | ⟨r, wk, ⟨dx, fs, h1, h2, h3⟩, hr1, hsw, hl, hC2⟩
        · have : sh = false := by cases e : sh; rfl; exact absurd hC2 (shc.mp e)
          subst this
          exact ⟨_, true, ins_ty T T.iCalm h1, T.kc.1, rfl, T.kc.2⟩
        · have : sh = true := shc.mpr hC2
          subst this
          exact ⟨_, false, ins_ty T T.iStray h1, T.ks.1, rfl, T.ks.2⟩
      obtain ⟨ty, b1, hty, hk1, rfl, hk2, hk3⟩ := isi
      refine ⟨_, rfl, _, _, ty, _, !sh, rfl, .own _, hty, hk1, _, rfl, rfl, _, rfl, ?_⟩
      rw [show decide (V.bl (!sh) = V.bl sh) = false by cases sh <;> decide]
      refine iteF ?_
      refine ⟨_, rfl, sh, rfl, ?_⟩
      refine and_no H6 (fun e g => ?_) (fun H7 s7 => ?_)
      · rcases hx with ⟨_, hC2⟩ | ⟨rw', wk, ⟨dx, fs, h1, h2, h3⟩, hr1, hsw, hl, hC2⟩
        · exact absurd hC2 (shc.mp e)
        · refine ⟨_, rfl, _, _, ty, _, sh, rfl, .own _, hty, hk2, _, rfl, ?_⟩
          refine iteN e ?_
          refine ⟨_, rfl, _, rfl, x, ad.stray, dx, fs, .ref rw', rfl, h1, T.iStray.cl, (T.nw ad.stray (by simp)).2.2, h3, r, cs, .ref rw', some (Cs wk), rfl, sql _ (Same.refl _), by omega, ⟨rw', rfl, .inr (SqT.of hr1), lf_cs wk, by rw [cs_len]; omega⟩, fun H7 b6 s7 hb6 => ⟨b6, rfl, ?_⟩⟩
          exact iteN (hb6.mpr ⟨wk, rfl, hsw⟩) (g H7 s7)
      · have hx7 := hx.keep s7
        obtain ⟨shn, hsn, hsp⟩ := told_shown hx7
        refine ⟨_, rfl, _, rfl, .ref r, cs, .ref x, shn, rfl, col _ s7, hsn, fun H8 b3 s8 hb3 => ?_⟩
        rw [hb3.mpr hsp]
        refine ⟨_, _, rfl, rfl, _, rfl, iteF ?_⟩
        refine ⟨_, rfl, fun y dx hy hdx hne => ⟨y, dx, rfl, upd_same, fun H9 k9 hc9 => ⟨rfl, ?_⟩⟩⟩
        have s9 := (s7.trans s8).trans (made_same hy hdx k9)
        refine ⟨.ref r, cs, .ref y, .calm, rfl, col _ s9, ⟨y, rfl, hc9⟩, fun H10 b2 s10 hb2 => ?_⟩
        have e2 : b2 = !sh := bl_iff hb2 hcb
        subst e2
        refine ⟨!sh, rfl, _, rfl, _, rfl, _, rfl, rfl, _, rfl, ?_⟩
        rw [show (!decide (V.str (if (!sh) = true then ("True" : Str) else ("False" : Str)) = V.str (if (!sh) = true then ("True" : Str) else ("False" : Str)))) = false by simp]
        refine iteF ?_
        have s11 := s9.trans s10
        have hc10 := hc3.keep (t6.trans s11)
        have hr10 := (t6.trans s11) _ _ hr3
        have hx10 := hx.keep s11
        refine ⟨_, rfl, _, rfl, _, rfl, c, r, x, cs, _, rfl, hc10, by omega, SqL.of hr10, hcl, hx10, fun H11 l xs k11 hc11 hl11 hlx hxs => ?_⟩
        have hr11 := k11 _ _ (cord_ns hc10 hr10) hr10
        have hx11 := hx10.keepX hc10 k11
        clear col sql
        have col : ∀ H', Same H11 H' → Col K H' (.ref r) cs := fun H' s => ⟨r, rfl, .inl (SqL.of (s _ _ hr11)), hc0, by omega⟩
        have sql : ∀ H', Same H11 H' → SqL K H' r (Cs cs) := fun H' s => SqL.of (s _ _ hr11)
        refine ⟨l, rfl, ⟨_, SqL.of hl11⟩, ?_⟩
        refine for_list (xs := xs.map V.ref) (fun k σ H' => Same H11 H' ∧ ∃ y6, σ = [some (.ref a), some (.ref c), some (.int (0 + (i : Int))), some (.ref r), some (.bl sh), some (.ref x), y6, y7, none]) ⟨Same.refl _, _, rfl⟩ (fun _ _ H' _ p => SqL.of (p.1 _ _ hl11)) ?_ ?_
        · rintro k v σ H12 hk ⟨s12, y6, rfl⟩
          obtain ⟨p, hp, rfl⟩ : ∃ p ∈ xs, v = V.ref p := by
            obtain ⟨p, hp, e⟩ := List.mem_map.mp (List.mem_of_getElem? hk)
            exact ⟨p, hp, e.symm⟩
          obtain ⟨y, d, hs, hw⟩ := hxs p hp
          refine ⟨_, rfl, _, rfl, .ref r, cs, .ref p, .stray d, rfl, col _ s12, ⟨p, y, rfl, hs.keep s12, hw.keep s12⟩, fun Ha ba sa hba => ?_⟩
          have s13 := s12.trans sa
          obtain ⟨dx, fs, h1, h2, h3⟩ := hs.keep s13
          refine ⟨ba, rfl, _, rfl, _, rfl, p, ad.stray, dx, fs, y, rfl, h1, T.iStray.cl, (T.nw ad.stray (by simp)).2.2, h3, r, cs, y, d, rfl, sql _ s13, by omega, hw.inn.keep s13, fun Hb bb sb hbb => ?_⟩
          have eb : ba = bb := bl_iff hba hbb
          subst eb
          refine ⟨ba, rfl, rfl, _, rfl, ?_⟩
          rw [show (!decide (V.str (if ba = true then ("True" : Str) else ("False" : Str)) = V.str (if ba = true then ("True" : Str) else ("False" : Str)))) = false by simp]
          exact iteF ⟨s13.trans sb, _, rfl⟩
        · rintro σ H12 ⟨s12, y6, rfl⟩
          intro y dx hy hdx hne
          refine ⟨y, dx, "calm", [], rfl, upd_same, fun q h => (nomatch h), Nat.zero_le _, fun H13 fs k13 h13 => ⟨rfl, ?_⟩⟩
          have s13 := s12.trans (made_same hy hdx k13)
          have o1 : Odd K ad H13 (.ref y) := .inr (.inl ⟨y, rfl, ad.paper, dx, fs, .inl rfl, h13⟩)
          refine ⟨(by show 2 ≤ sizeLine; decide), fun pl hpl => ?_⟩
          intro z dz hz hdz hnz
          have spl := same_new (o := .lst [V.int 0, V.int 0]) hpl
          refine ⟨z, dz, "stray", [(.ref pl, some [V.int 0, V.int 0])], rfl, upd_same, fun q h => ?_, Nat.le_refl _, fun H14 fs2 k14 h14 => ⟨rfl, ?_⟩⟩
          · rw [List.mem_singleton.mp h]
            have g : WIn K (upd H13 pl (.lst [V.int 0, V.int 0])) (.ref pl) (some [V.int 0, V.int 0]) := ⟨pl, rfl, .inl (SqL.of upd_same), lf_cs [0, 0], by decide⟩
            exact g.keep (made_same hz hdz fun b o _ e => e)
          have s14 := spl.trans (made_same hz hdz k14)
          have o2 : Odd K ad H14 (.ref z) := .inr (.inl ⟨z, rfl, ad.denial, dz, fs2, .inr rfl, h14⟩)
          refine ⟨(by show 2 ≤ sizeLine; decide), fun pt hpt => ?_⟩
          have s15 := same_new (o := .tup [V.int 0, V.int 1]) hpt
          have o3 : Odd K ad (upd H14 pt (.tup [V.int 0, V.int 1])) (.ref pt) := .inr (.inr ⟨pt, _, rfl, SqT.of upd_same⟩)
          refine ⟨(by show 7 ≤ sizeLine; decide), fun po hpo => ?_⟩
          have s16 := same_new (o := .lst [V.non, V.bl true, V.str "calm", V.ref y, V.ref z, V.ref pt, V.int 5]) hpo
          have odds : ∀ v ∈ [V.non, V.bl true, V.str "calm", V.ref y, V.ref z, V.ref pt, V.int 5], Odd K ad (upd (upd H14 pt (.tup [V.int 0, V.int 1])) po (.lst [V.non, V.bl true, V.str "calm", V.ref y, V.ref z, V.ref pt, V.int 5])) v := by
            intro v hv
            simp only [List.mem_cons, List.not_mem_nil, or_false] at hv
            rcases hv with rfl | rfl | rfl | rfl | rfl | rfl | rfl
            · exact .inl ⟨_, rfl⟩
            · exact .inl ⟨_, rfl⟩
            · exact .inl ⟨_, rfl⟩
            · exact o1.keep ((s14.trans s15).trans s16)
            · exact o2.keep (s15.trans s16)
            · exact o3.keep s16
            · exact .inl ⟨_, rfl⟩
          have hpo2 : (upd (upd H14 pt (.tup [V.int 0, V.int 1])) po (.lst [V.non, V.bl true, V.str "calm", V.ref y, V.ref z, V.ref pt, V.int 5])) po = some (.lst [V.non, V.bl true, V.str "calm", V.ref y, V.ref z, V.ref pt, V.int 5]) := upd_same
          have s17 := ((s13.trans s14).trans s15).trans s16
          generalize upd (upd H14 pt _) po _ = H15 at s17 hpo2 odds ⊢
          generalize [V.non, V.bl true, V.str "calm", V.ref y, V.ref z, V.ref pt, V.int 5] = ol at hpo2 odds ⊢
          clear s13 s14 s15 s16 o1 o2 o3
          refine ⟨_, rfl, po, rfl, ⟨_, SqL.of hpo2⟩, ?_⟩
          intro D hD
          refine lcS (w := walk_list (K := K) (a := po) (xs := ol)) (H0 := H15) (fun i => []) rfl (fun i hi => (by show 0 < sizeLine; decide)) (Same.refl _) hD (fun Hh s => SqL.of (s _ _ hpo2)) ?_ (fun Hd sd hDd => ?_)
          · rintro j v Hi H' Q1 Q0 hj sH hDi ⟨rfl, hv⟩ q1 q0
            refine ⟨rfl, _, rfl, _, rfl, .ref r, cs, v, .other, rfl, col _ (s17.trans sH), (odds v (List.mem_of_getElem? hv)).keep sH, fun Ha ba sa hba => ?_⟩
            have : ba = false := by
              cases ba with
              | false => rfl
              | true => exact (hba.mp rfl).elim
            subst this
            exact ⟨_, _, rfl, rfl, _, rfl, iteF (q0 Ha sa rfl)⟩
          · refine ⟨Nat.zero_le _, fun N hN => ?_⟩
            have s18 := (s17.trans sd).trans (same_new (o := .lst []) hN)
            refine rd_neNil (SqL.of (same_new hN _ _ hDd)) (fun y h => nomatch h) (SqL.of upd_same) ⟨_, rfl, iteF ?_⟩
            generalize upd Hd N (.lst []) = H16 at s18 ⊢
            have fin : CordAt H16 c (35 * ((i + 1 : Nat) : Int)) := (hc11.keep s18).le (by omega)
            rcases hx11.keep s18 with ⟨⟨dx, fs, h1, h2⟩, hC2⟩ | ⟨rq, wk, ⟨dx, fs, h1, h2, h3⟩, _, _, _, hC2⟩
            · have : sh = false := by cases e : sh; rfl; exact absurd hC2 (shc.mp e)
              subst this
              refine ⟨_, rfl, x, ad.calm, dx, fs, _, rfl, h1, T.iCalm.cl, (T.nw ad.calm (by simp)).1, h2, _, rfl, false, rfl, iteF ⟨rfl, _, rfl, ?_⟩⟩
              refine iteF ?_
              refine ⟨_, rfl, x, ad.calm, dx, fs, true, rfl, h1, bC, _, rfl, rfl, _, rfl, ?_⟩
              refine iteF ?_
              refine ⟨_, rfl, _, _, _, _, false, rfl, .own _, ins_ty T T.iCalm h1, T.kc.2.2, _, rfl, rfl, _, rfl, ?_⟩
              refine iteF ?_
              exact ⟨fin, _, _, _, _, _, _, rfl⟩
            · have : sh = true := shc.mpr hC2
              subst this
              refine ⟨_, rfl, x, ad.stray, dx, fs, _, rfl, h1, T.iStray.cl, (T.nw ad.stray (by simp)).1, h2, _, rfl, true, rfl, iteT ⟨rfl, _, rfl, ?_⟩⟩
              refine iteF ?_
              refine ⟨_, rfl, x, ad.stray, dx, fs, false, rfl, h1, bS, _, rfl, rfl, _, rfl, ?_⟩
              refine iteF ?_
              refine ⟨_, rfl, _, _, _, _, true, rfl, .own _, ins_ty T T.iStray h1, T.ks.2.2, _, rfl, rfl, _, rfl, ?_⟩
              refine iteF ?_
              exact ⟨fin, _, _, _, _, _, _, rfl⟩
    · rintro σ H2 ⟨hc2, y2, y3, y4, y5, y6, y7, rfl⟩
      exact ⟨_, rfl, c, _, rfl, hc2, by omega, fun H3 => q H3⟩
end
end K51
/-! K51: what the top has left, and the end. -/
namespace K51
open PySem PySem.Spec PyProof.Rows L2

theorem pap_of {P : Program} {w : World} {K : PySem.W.Frag} {mg : Str → Option Value} {base : Heap} {ad : Ads} {f C : Addr} (F : FnR P w K mg base CX0 4 f (sp_init K ad)) (hC : C ∈ [ad.calm, ad.stray, ad.paper, ad.denial]) : FnR P w K mg base CX0 4 f (sp_pap K C) := by
  refine F.imp fun vs H Q E h => ?_
  obtain ⟨x, dx, wd, ps, e, hx, hp, hl, q⟩ := h
  exact ⟨x, C, dx, wd, ps, e, hC, hx, hp, hl, fun H' r ys k h1 _ _ _ => q H' _ k h1⟩
theorem all_mk {l : PySem.W.OpenLaw} {w : World} {K : PySem.W.Frag} {h : Heap} {mg : Str → Option Value} {fa : Addr} (X : K.In h) (G : h.Ns mainGlobals mg) (hfa : mg "law" = some (.ref fa))
    {aCalm : Addr}
    {aStray : Addr}
    {aPaper : Addr}
    {aDenial : Addr}
    {f_is_integer : Addr} {od_is_integer an_is_integer : Option Addr} {sl_is_integer : Array (Option Value)} {oc_is_integer kV_is_integer dc_is_integer pm_is_integer cd_is_integer ct_is_integer : Value}
    {f_is_within : Addr} {od_is_within an_is_within : Option Addr} {sl_is_within : Array (Option Value)} {oc_is_within kV_is_within dc_is_within pm_is_within cd_is_within ct_is_within : Value}
    {f_need_number : Addr} {od_need_number an_need_number : Option Addr} {sl_need_number : Array (Option Value)} {oc_need_number kV_need_number dc_need_number pm_need_number cd_need_number ct_need_number : Value}
    {f_fixed : Addr} {od_fixed an_fixed : Option Addr} {sl_fixed : Array (Option Value)} {oc_fixed kV_fixed dc_fixed pm_fixed cd_fixed ct_fixed : Value}
    {f_is_word : Addr} {od_is_word an_is_word : Option Addr} {sl_is_word : Array (Option Value)} {oc_is_word kV_is_word dc_is_word pm_is_word cd_is_word ct_is_word : Value}
    {f_least_repeat : Addr} {od_least_repeat an_least_repeat : Option Addr} {sl_least_repeat : Array (Option Value)} {oc_least_repeat kV_least_repeat dc_least_repeat pm_least_repeat cd_least_repeat ct_least_repeat : Value}
    {f_is_odd : Addr} {od_is_odd an_is_odd : Option Addr} {sl_is_odd : Array (Option Value)} {oc_is_odd kV_is_odd dc_is_odd pm_is_odd cd_is_odd ct_is_odd : Value}
    {f_plain_signs : Addr} {od_plain_signs an_plain_signs : Option Addr} {sl_plain_signs : Array (Option Value)} {oc_plain_signs kV_plain_signs dc_plain_signs pm_plain_signs cd_plain_signs ct_plain_signs : Value}
    {f_plain_word : Addr} {od_plain_word an_plain_word : Option Addr} {sl_plain_word : Array (Option Value)} {oc_plain_word kV_plain_word dc_plain_word pm_plain_word cd_plain_word ct_plain_word : Value}
    {f_need_colours : Addr} {od_need_colours an_need_colours : Option Addr} {sl_need_colours : Array (Option Value)} {oc_need_colours kV_need_colours dc_need_colours pm_need_colours cd_need_colours ct_need_colours : Value}
    {f_colours_in : Addr} {od_colours_in an_colours_in : Option Addr} {sl_colours_in : Array (Option Value)} {oc_colours_in kV_colours_in dc_colours_in pm_colours_in cd_colours_in ct_colours_in : Value}
    {f_line_colours : Addr} {od_line_colours an_line_colours : Option Addr} {sl_line_colours : Array (Option Value)} {oc_line_colours kV_line_colours dc_line_colours pm_line_colours cd_line_colours ct_line_colours : Value}
    {f_goes_on_line : Addr} {od_goes_on_line an_goes_on_line : Option Addr} {sl_goes_on_line : Array (Option Value)} {oc_goes_on_line kV_goes_on_line dc_goes_on_line pm_goes_on_line cd_goes_on_line ct_goes_on_line : Value}
    {f_halves_of : Addr} {od_halves_of an_halves_of : Option Addr} {sl_halves_of : Array (Option Value)} {oc_halves_of kV_halves_of dc_halves_of pm_halves_of cd_halves_of ct_halves_of : Value}
    {f_is_alike : Addr} {od_is_alike an_is_alike : Option Addr} {sl_is_alike : Array (Option Value)} {oc_is_alike kV_is_alike dc_is_alike pm_is_alike cd_is_alike ct_is_alike : Value}
    {f_stray_in : Addr} {od_stray_in an_stray_in : Option Addr} {sl_stray_in : Array (Option Value)} {oc_stray_in kV_stray_in dc_stray_in pm_stray_in cd_stray_in ct_stray_in : Value}
    {f_judged_line : Addr} {od_judged_line an_judged_line : Option Addr} {sl_judged_line : Array (Option Value)} {oc_judged_line kV_judged_line dc_judged_line pm_judged_line cd_judged_line ct_judged_line : Value}
    {f_shows_line : Addr} {od_shows_line an_shows_line : Option Addr} {sl_shows_line : Array (Option Value)} {oc_shows_line kV_shows_line dc_shows_line pm_shows_line cd_shows_line ct_shows_line : Value}
    {f_law_cord : Addr} {od_law_cord an_law_cord : Option Addr} {sl_law_cord : Array (Option Value)} {oc_law_cord kV_law_cord dc_law_cord pm_law_cord cd_law_cord ct_law_cord : Value}
    {f_law_ply : Addr} {od_law_ply an_law_ply : Option Addr} {sl_law_ply : Array (Option Value)} {oc_law_ply kV_law_ply dc_law_ply pm_law_ply cd_law_ply ct_law_ply : Value}
    {f_law_pick : Addr} {od_law_pick an_law_pick : Option Addr} {sl_law_pick : Array (Option Value)} {oc_law_pick kV_law_pick dc_law_pick pm_law_pick cd_law_pick ct_law_pick : Value}
    {f_law_stray : Addr} {od_law_stray an_law_stray : Option Addr} {sl_law_stray : Array (Option Value)} {oc_law_stray kV_law_stray dc_law_stray pm_law_stray cd_law_stray ct_law_stray : Value}
    {f_law_drawn : Addr} {od_law_drawn an_law_drawn : Option Addr} {sl_law_drawn : Array (Option Value)} {oc_law_drawn kV_law_drawn dc_law_drawn pm_law_drawn cd_law_drawn ct_law_drawn : Value}
    {f_law_plain_calm : Addr} {od_law_plain_calm an_law_plain_calm : Option Addr} {sl_law_plain_calm : Array (Option Value)} {oc_law_plain_calm kV_law_plain_calm dc_law_plain_calm pm_law_plain_calm cd_law_plain_calm ct_law_plain_calm : Value}
    {f_law_is_stray : Addr} {od_law_is_stray an_law_is_stray : Option Addr} {sl_law_is_stray : Array (Option Value)} {oc_law_is_stray kV_law_is_stray dc_law_is_stray pm_law_is_stray cd_law_is_stray ct_law_is_stray : Value}
    {f_law_bent : Addr} {od_law_bent an_law_bent : Option Addr} {sl_law_bent : Array (Option Value)} {oc_law_bent kV_law_bent dc_law_bent pm_law_bent cd_law_bent ct_law_bent : Value}
    {f_law_long_right : Addr} {od_law_long_right an_law_long_right : Option Addr} {sl_law_long_right : Array (Option Value)} {oc_law_long_right kV_law_long_right dc_law_long_right pm_law_long_right cd_law_long_right ct_law_long_right : Value}
    {f_law : Addr} {od_law an_law : Option Addr} {sl_law : Array (Option Value)} {oc_law kV_law dc_law pm_law cd_law ct_law : Value}
    {f_PI : Addr} {od_PI an_PI : Option Addr} {sl_PI : Array (Option Value)} {oc_PI kV_PI dc_PI pm_PI cd_PI ct_PI : Value}
    {f_PB : Addr} {od_PB an_PB : Option Addr} {sl_PB : Array (Option Value)} {oc_PB kV_PB dc_PB pm_PB cd_PB ct_PB : Value}
    {f_DB : Addr} {od_DB an_DB : Option Addr} {sl_DB : Array (Option Value)} {oc_DB kV_DB dc_DB pm_DB cd_DB ct_DB : Value}
    {f_CI cda_CI cc_CI : Addr} {od_CI an_CI cdd_CI cld_CI : Option Addr} {sl_CI ccs_CI csl_CI : Array (Option Value)} {vs_CI : Array Value} {oc_CI kV_CI dc_CI pm_CI ct_CI ccl_CI cl_CI : Value} {file_CI : Str} {tf_CI : Tok}
    {f_SI cda_SI cc_SI : Addr} {od_SI an_SI cdd_SI cld_SI : Option Addr} {sl_SI ccs_SI csl_SI : Array (Option Value)} {vs_SI : Array Value} {oc_SI kV_SI dc_SI pm_SI ct_SI ccl_SI cl_SI : Value} {file_SI : Str} {tf_SI : Tok}
    {t_MOST_SIGNS : Tok}
    {t_MOST_PLACES : Tok}
    {t_MOST_JUDGED : Tok}
    {t_EVERY : Tok}
    {t_FOURTH : Tok}
    (gCalm : PySem.W.nsIn K mainGlobals "Calm" = some (some (.ref aCalm)))
    (gStray : PySem.W.nsIn K mainGlobals "Stray" = some (some (.ref aStray)))
    (gPaper : PySem.W.nsIn K mainGlobals "Paper" = some (some (.ref aPaper)))
    (gDenial : PySem.W.nsIn K mainGlobals "Denial" = some (some (.ref aDenial)))
    (a_is_integer : PySem.W.nsIn K mainGlobals "is_integer" = some (some (.ref f_is_integer)))
    (l_is_integer : K.lookup f_is_integer = some ⟨oc_is_integer, od_is_integer, .func (PySem.W.fnOf "is_integer" "is_integer" (defArgs s_is_integer) (defBody s_is_integer) (defScope s_is_integer) .none kV_is_integer dc_is_integer pm_is_integer an_is_integer cd_is_integer ct_is_integer), sl_is_integer⟩)
    (c_is_integer : PySem.W.codeIn K cd_is_integer "is_integer" = true)
    (k_is_integer : PySem.W.keepIn K (.ref f_is_integer) = true)
    (a_is_within : PySem.W.nsIn K mainGlobals "is_within" = some (some (.ref f_is_within)))
    (l_is_within : K.lookup f_is_within = some ⟨oc_is_within, od_is_within, .func (PySem.W.fnOf "is_within" "is_within" (defArgs s_is_within) (defBody s_is_within) (defScope s_is_within) .none kV_is_within dc_is_within pm_is_within an_is_within cd_is_within ct_is_within), sl_is_within⟩)
    (c_is_within : PySem.W.codeIn K cd_is_within "is_within" = true)
    (k_is_within : PySem.W.keepIn K (.ref f_is_within) = true)
    (a_need_number : PySem.W.nsIn K mainGlobals "need_number" = some (some (.ref f_need_number)))
    (l_need_number : K.lookup f_need_number = some ⟨oc_need_number, od_need_number, .func (PySem.W.fnOf "need_number" "need_number" (defArgs s_need_number) (defBody s_need_number) (defScope s_need_number) .none kV_need_number dc_need_number pm_need_number an_need_number cd_need_number ct_need_number), sl_need_number⟩)
    (c_need_number : PySem.W.codeIn K cd_need_number "need_number" = true)
    (k_need_number : PySem.W.keepIn K (.ref f_need_number) = true)
    (a_fixed : PySem.W.nsIn K mainGlobals "fixed" = some (some (.ref f_fixed)))
    (l_fixed : K.lookup f_fixed = some ⟨oc_fixed, od_fixed, .func (PySem.W.fnOf "fixed" "fixed" (defArgs s_fixed) (defBody s_fixed) (defScope s_fixed) .none kV_fixed dc_fixed pm_fixed an_fixed cd_fixed ct_fixed), sl_fixed⟩)
    (c_fixed : PySem.W.codeIn K cd_fixed "fixed" = true)
    (k_fixed : PySem.W.keepIn K (.ref f_fixed) = true)
    (a_is_word : PySem.W.nsIn K mainGlobals "is_word" = some (some (.ref f_is_word)))
    (l_is_word : K.lookup f_is_word = some ⟨oc_is_word, od_is_word, .func (PySem.W.fnOf "is_word" "is_word" (defArgs s_is_word) (defBody s_is_word) (defScope s_is_word) .none kV_is_word dc_is_word pm_is_word an_is_word cd_is_word ct_is_word), sl_is_word⟩)
    (c_is_word : PySem.W.codeIn K cd_is_word "is_word" = true)
    (k_is_word : PySem.W.keepIn K (.ref f_is_word) = true)
    (a_least_repeat : PySem.W.nsIn K mainGlobals "least_repeat" = some (some (.ref f_least_repeat)))
    (l_least_repeat : K.lookup f_least_repeat = some ⟨oc_least_repeat, od_least_repeat, .func (PySem.W.fnOf "least_repeat" "least_repeat" (defArgs s_least_repeat) (defBody s_least_repeat) (defScope s_least_repeat) .none kV_least_repeat dc_least_repeat pm_least_repeat an_least_repeat cd_least_repeat ct_least_repeat), sl_least_repeat⟩)
    (c_least_repeat : PySem.W.codeIn K cd_least_repeat "least_repeat" = true)
    (k_least_repeat : PySem.W.keepIn K (.ref f_least_repeat) = true)
    (a_is_odd : PySem.W.nsIn K mainGlobals "is_odd" = some (some (.ref f_is_odd)))
    (l_is_odd : K.lookup f_is_odd = some ⟨oc_is_odd, od_is_odd, .func (PySem.W.fnOf "is_odd" "is_odd" (defArgs s_is_odd) (defBody s_is_odd) (defScope s_is_odd) .none kV_is_odd dc_is_odd pm_is_odd an_is_odd cd_is_odd ct_is_odd), sl_is_odd⟩)
    (c_is_odd : PySem.W.codeIn K cd_is_odd "is_odd" = true)
    (k_is_odd : PySem.W.keepIn K (.ref f_is_odd) = true)
    (a_plain_signs : PySem.W.nsIn K mainGlobals "plain_signs" = some (some (.ref f_plain_signs)))
    (l_plain_signs : K.lookup f_plain_signs = some ⟨oc_plain_signs, od_plain_signs, .func (PySem.W.fnOf "plain_signs" "plain_signs" (defArgs s_plain_signs) (defBody s_plain_signs) (defScope s_plain_signs) .none kV_plain_signs dc_plain_signs pm_plain_signs an_plain_signs cd_plain_signs ct_plain_signs), sl_plain_signs⟩)
    (c_plain_signs : PySem.W.codeIn K cd_plain_signs "plain_signs" = true)
    (k_plain_signs : PySem.W.keepIn K (.ref f_plain_signs) = true)
    (a_plain_word : PySem.W.nsIn K mainGlobals "plain_word" = some (some (.ref f_plain_word)))
    (l_plain_word : K.lookup f_plain_word = some ⟨oc_plain_word, od_plain_word, .func (PySem.W.fnOf "plain_word" "plain_word" (defArgs s_plain_word) (defBody s_plain_word) (defScope s_plain_word) .none kV_plain_word dc_plain_word pm_plain_word an_plain_word cd_plain_word ct_plain_word), sl_plain_word⟩)
    (c_plain_word : PySem.W.codeIn K cd_plain_word "plain_word" = true)
    (k_plain_word : PySem.W.keepIn K (.ref f_plain_word) = true)
    (a_need_colours : PySem.W.nsIn K mainGlobals "need_colours" = some (some (.ref f_need_colours)))
    (l_need_colours : K.lookup f_need_colours = some ⟨oc_need_colours, od_need_colours, .func (PySem.W.fnOf "need_colours" "need_colours" (defArgs s_need_colours) (defBody s_need_colours) (defScope s_need_colours) .none kV_need_colours dc_need_colours pm_need_colours an_need_colours cd_need_colours ct_need_colours), sl_need_colours⟩)
    (c_need_colours : PySem.W.codeIn K cd_need_colours "need_colours" = true)
    (k_need_colours : PySem.W.keepIn K (.ref f_need_colours) = true)
    (a_colours_in : PySem.W.nsIn K mainGlobals "colours_in" = some (some (.ref f_colours_in)))
    (l_colours_in : K.lookup f_colours_in = some ⟨oc_colours_in, od_colours_in, .func (PySem.W.fnOf "colours_in" "colours_in" (defArgs s_colours_in) (defBody s_colours_in) (defScope s_colours_in) .none kV_colours_in dc_colours_in pm_colours_in an_colours_in cd_colours_in ct_colours_in), sl_colours_in⟩)
    (c_colours_in : PySem.W.codeIn K cd_colours_in "colours_in" = true)
    (k_colours_in : PySem.W.keepIn K (.ref f_colours_in) = true)
    (a_line_colours : PySem.W.nsIn K mainGlobals "line_colours" = some (some (.ref f_line_colours)))
    (l_line_colours : K.lookup f_line_colours = some ⟨oc_line_colours, od_line_colours, .func (PySem.W.fnOf "line_colours" "line_colours" (defArgs s_line_colours) (defBody s_line_colours) (defScope s_line_colours) .none kV_line_colours dc_line_colours pm_line_colours an_line_colours cd_line_colours ct_line_colours), sl_line_colours⟩)
    (c_line_colours : PySem.W.codeIn K cd_line_colours "line_colours" = true)
    (k_line_colours : PySem.W.keepIn K (.ref f_line_colours) = true)
    (a_goes_on_line : PySem.W.nsIn K mainGlobals "goes_on_line" = some (some (.ref f_goes_on_line)))
    (l_goes_on_line : K.lookup f_goes_on_line = some ⟨oc_goes_on_line, od_goes_on_line, .func (PySem.W.fnOf "goes_on_line" "goes_on_line" (defArgs s_goes_on_line) (defBody s_goes_on_line) (defScope s_goes_on_line) .none kV_goes_on_line dc_goes_on_line pm_goes_on_line an_goes_on_line cd_goes_on_line ct_goes_on_line), sl_goes_on_line⟩)
    (c_goes_on_line : PySem.W.codeIn K cd_goes_on_line "goes_on_line" = true)
    (k_goes_on_line : PySem.W.keepIn K (.ref f_goes_on_line) = true)
    (a_halves_of : PySem.W.nsIn K mainGlobals "halves_of" = some (some (.ref f_halves_of)))
    (l_halves_of : K.lookup f_halves_of = some ⟨oc_halves_of, od_halves_of, .func (PySem.W.fnOf "halves_of" "halves_of" (defArgs s_halves_of) (defBody s_halves_of) (defScope s_halves_of) .none kV_halves_of dc_halves_of pm_halves_of an_halves_of cd_halves_of ct_halves_of), sl_halves_of⟩)
    (c_halves_of : PySem.W.codeIn K cd_halves_of "halves_of" = true)
    (k_halves_of : PySem.W.keepIn K (.ref f_halves_of) = true)
    (a_is_alike : PySem.W.nsIn K mainGlobals "is_alike" = some (some (.ref f_is_alike)))
    (l_is_alike : K.lookup f_is_alike = some ⟨oc_is_alike, od_is_alike, .func (PySem.W.fnOf "is_alike" "is_alike" (defArgs s_is_alike) (defBody s_is_alike) (defScope s_is_alike) .none kV_is_alike dc_is_alike pm_is_alike an_is_alike cd_is_alike ct_is_alike), sl_is_alike⟩)
    (c_is_alike : PySem.W.codeIn K cd_is_alike "is_alike" = true)
    (k_is_alike : PySem.W.keepIn K (.ref f_is_alike) = true)
    (a_stray_in : PySem.W.nsIn K mainGlobals "stray_in" = some (some (.ref f_stray_in)))
    (l_stray_in : K.lookup f_stray_in = some ⟨oc_stray_in, od_stray_in, .func (PySem.W.fnOf "stray_in" "stray_in" (defArgs s_stray_in) (defBody s_stray_in) (defScope s_stray_in) .none kV_stray_in dc_stray_in pm_stray_in an_stray_in cd_stray_in ct_stray_in), sl_stray_in⟩)
    (c_stray_in : PySem.W.codeIn K cd_stray_in "stray_in" = true)
    (k_stray_in : PySem.W.keepIn K (.ref f_stray_in) = true)
    (a_judged_line : PySem.W.nsIn K mainGlobals "judged_line" = some (some (.ref f_judged_line)))
    (l_judged_line : K.lookup f_judged_line = some ⟨oc_judged_line, od_judged_line, .func (PySem.W.fnOf "judged_line" "judged_line" (defArgs s_judged_line) (defBody s_judged_line) (defScope s_judged_line) .none kV_judged_line dc_judged_line pm_judged_line an_judged_line cd_judged_line ct_judged_line), sl_judged_line⟩)
    (c_judged_line : PySem.W.codeIn K cd_judged_line "judged_line" = true)
    (k_judged_line : PySem.W.keepIn K (.ref f_judged_line) = true)
    (a_shows_line : PySem.W.nsIn K mainGlobals "shows_line" = some (some (.ref f_shows_line)))
    (l_shows_line : K.lookup f_shows_line = some ⟨oc_shows_line, od_shows_line, .func (PySem.W.fnOf "shows_line" "shows_line" (defArgs s_shows_line) (defBody s_shows_line) (defScope s_shows_line) .none kV_shows_line dc_shows_line pm_shows_line an_shows_line cd_shows_line ct_shows_line), sl_shows_line⟩)
    (c_shows_line : PySem.W.codeIn K cd_shows_line "shows_line" = true)
    (k_shows_line : PySem.W.keepIn K (.ref f_shows_line) = true)
    (a_law_cord : PySem.W.nsIn K mainGlobals "_law_cord" = some (some (.ref f_law_cord)))
    (l_law_cord : K.lookup f_law_cord = some ⟨oc_law_cord, od_law_cord, .func (PySem.W.fnOf "_law_cord" "_law_cord" (defArgs s_law_cord) (defBody s_law_cord) (defScope s_law_cord) .none kV_law_cord dc_law_cord pm_law_cord an_law_cord cd_law_cord ct_law_cord), sl_law_cord⟩)
    (c_law_cord : PySem.W.codeIn K cd_law_cord "_law_cord" = true)
    (k_law_cord : PySem.W.keepIn K (.ref f_law_cord) = true)
    (a_law_ply : PySem.W.nsIn K mainGlobals "_law_ply" = some (some (.ref f_law_ply)))
    (l_law_ply : K.lookup f_law_ply = some ⟨oc_law_ply, od_law_ply, .func (PySem.W.fnOf "_law_ply" "_law_ply" (defArgs s_law_ply) (defBody s_law_ply) (defScope s_law_ply) .none kV_law_ply dc_law_ply pm_law_ply an_law_ply cd_law_ply ct_law_ply), sl_law_ply⟩)
    (c_law_ply : PySem.W.codeIn K cd_law_ply "_law_ply" = true)
    (k_law_ply : PySem.W.keepIn K (.ref f_law_ply) = true)
    (a_law_pick : PySem.W.nsIn K mainGlobals "_law_pick" = some (some (.ref f_law_pick)))
    (l_law_pick : K.lookup f_law_pick = some ⟨oc_law_pick, od_law_pick, .func (PySem.W.fnOf "_law_pick" "_law_pick" (defArgs s_law_pick) (defBody s_law_pick) (defScope s_law_pick) .none kV_law_pick dc_law_pick pm_law_pick an_law_pick cd_law_pick ct_law_pick), sl_law_pick⟩)
    (c_law_pick : PySem.W.codeIn K cd_law_pick "_law_pick" = true)
    (k_law_pick : PySem.W.keepIn K (.ref f_law_pick) = true)
    (a_law_stray : PySem.W.nsIn K mainGlobals "_law_stray" = some (some (.ref f_law_stray)))
    (l_law_stray : K.lookup f_law_stray = some ⟨oc_law_stray, od_law_stray, .func (PySem.W.fnOf "_law_stray" "_law_stray" (defArgs s_law_stray) (defBody s_law_stray) (defScope s_law_stray) .none kV_law_stray dc_law_stray pm_law_stray an_law_stray cd_law_stray ct_law_stray), sl_law_stray⟩)
    (c_law_stray : PySem.W.codeIn K cd_law_stray "_law_stray" = true)
    (k_law_stray : PySem.W.keepIn K (.ref f_law_stray) = true)
    (a_law_drawn : PySem.W.nsIn K mainGlobals "_law_drawn" = some (some (.ref f_law_drawn)))
    (l_law_drawn : K.lookup f_law_drawn = some ⟨oc_law_drawn, od_law_drawn, .func (PySem.W.fnOf "_law_drawn" "_law_drawn" (defArgs s_law_drawn) (defBody s_law_drawn) (defScope s_law_drawn) .none kV_law_drawn dc_law_drawn pm_law_drawn an_law_drawn cd_law_drawn ct_law_drawn), sl_law_drawn⟩)
    (c_law_drawn : PySem.W.codeIn K cd_law_drawn "_law_drawn" = true)
    (k_law_drawn : PySem.W.keepIn K (.ref f_law_drawn) = true)
    (a_law_plain_calm : PySem.W.nsIn K mainGlobals "_law_plain_calm" = some (some (.ref f_law_plain_calm)))
    (l_law_plain_calm : K.lookup f_law_plain_calm = some ⟨oc_law_plain_calm, od_law_plain_calm, .func (PySem.W.fnOf "_law_plain_calm" "_law_plain_calm" (defArgs s_law_plain_calm) (defBody s_law_plain_calm) (defScope s_law_plain_calm) .none kV_law_plain_calm dc_law_plain_calm pm_law_plain_calm an_law_plain_calm cd_law_plain_calm ct_law_plain_calm), sl_law_plain_calm⟩)
    (c_law_plain_calm : PySem.W.codeIn K cd_law_plain_calm "_law_plain_calm" = true)
    (k_law_plain_calm : PySem.W.keepIn K (.ref f_law_plain_calm) = true)
    (a_law_is_stray : PySem.W.nsIn K mainGlobals "_law_is_stray" = some (some (.ref f_law_is_stray)))
    (l_law_is_stray : K.lookup f_law_is_stray = some ⟨oc_law_is_stray, od_law_is_stray, .func (PySem.W.fnOf "_law_is_stray" "_law_is_stray" (defArgs s_law_is_stray) (defBody s_law_is_stray) (defScope s_law_is_stray) .none kV_law_is_stray dc_law_is_stray pm_law_is_stray an_law_is_stray cd_law_is_stray ct_law_is_stray), sl_law_is_stray⟩)
    (c_law_is_stray : PySem.W.codeIn K cd_law_is_stray "_law_is_stray" = true)
    (k_law_is_stray : PySem.W.keepIn K (.ref f_law_is_stray) = true)
    (a_law_bent : PySem.W.nsIn K mainGlobals "_law_bent" = some (some (.ref f_law_bent)))
    (l_law_bent : K.lookup f_law_bent = some ⟨oc_law_bent, od_law_bent, .func (PySem.W.fnOf "_law_bent" "_law_bent" (defArgs s_law_bent) (defBody s_law_bent) (defScope s_law_bent) .none kV_law_bent dc_law_bent pm_law_bent an_law_bent cd_law_bent ct_law_bent), sl_law_bent⟩)
    (c_law_bent : PySem.W.codeIn K cd_law_bent "_law_bent" = true)
    (k_law_bent : PySem.W.keepIn K (.ref f_law_bent) = true)
    (a_law_long_right : PySem.W.nsIn K mainGlobals "_law_long_right" = some (some (.ref f_law_long_right)))
    (l_law_long_right : K.lookup f_law_long_right = some ⟨oc_law_long_right, od_law_long_right, .func (PySem.W.fnOf "_law_long_right" "_law_long_right" (defArgs s_law_long_right) (defBody s_law_long_right) (defScope s_law_long_right) .none kV_law_long_right dc_law_long_right pm_law_long_right an_law_long_right cd_law_long_right ct_law_long_right), sl_law_long_right⟩)
    (c_law_long_right : PySem.W.codeIn K cd_law_long_right "_law_long_right" = true)
    (k_law_long_right : PySem.W.keepIn K (.ref f_law_long_right) = true)
    (a_law : PySem.W.nsIn K mainGlobals "law" = some (some (.ref f_law)))
    (l_law : K.lookup f_law = some ⟨oc_law, od_law, .func (PySem.W.fnOf "law" "law" (defArgs s_law) (defBody s_law) (defScope s_law) .none kV_law dc_law pm_law an_law cd_law ct_law), sl_law⟩)
    (c_law : PySem.W.codeIn K cd_law "law" = true)
    (k_law : PySem.W.keepIn K (.ref f_law) = true)
    (iPaper : PySem.W.findIn K (.ref aPaper) "__init__" = some (some (.ref f_PI)))
    (iDenial : PySem.W.findIn K (.ref aDenial) "__init__" = some (some (.ref f_PI)))
    (iCalm : PySem.W.findIn K (.ref aCalm) "__init__" = some (some (.ref f_CI)))
    (iStray : PySem.W.findIn K (.ref aStray) "__init__" = some (some (.ref f_SI)))
    (bCalm : PySem.W.findIn K (.ref aCalm) "__bool__" = some (some (.ref f_PB)))
    (bStray : PySem.W.findIn K (.ref aStray) "__bool__" = some (some (.ref f_DB)))
    (l_PI : K.lookup f_PI = some ⟨oc_PI, od_PI, .func (PySem.W.fnOf "__init__" "Paper.__init__" (defArgs sPaperInit) (defBody sPaperInit) (defScope sPaperInit) .none kV_PI dc_PI pm_PI an_PI cd_PI ct_PI), sl_PI⟩)
    (c_PI : PySem.W.codeIn K cd_PI "Paper.__init__" = true)
    (k_PI : PySem.W.keepIn K (.ref f_PI) = true)
    (l_PB : K.lookup f_PB = some ⟨oc_PB, od_PB, .func (PySem.W.fnOf "__bool__" "Paper.__bool__" (defArgs sPaperBool) (defBody sPaperBool) (defScope sPaperBool) .none kV_PB dc_PB pm_PB an_PB cd_PB ct_PB), sl_PB⟩)
    (c_PB : PySem.W.codeIn K cd_PB "Paper.__bool__" = true)
    (k_PB : PySem.W.keepIn K (.ref f_PB) = true)
    (l_DB : K.lookup f_DB = some ⟨oc_DB, od_DB, .func (PySem.W.fnOf "__bool__" "Denial.__bool__" (defArgs sDenialBool) (defBody sDenialBool) (defScope sDenialBool) .none kV_DB dc_DB pm_DB an_DB cd_DB ct_DB), sl_DB⟩)
    (c_DB : PySem.W.codeIn K cd_DB "Denial.__bool__" = true)
    (k_DB : PySem.W.keepIn K (.ref f_DB) = true)
    (l_CI : K.lookup f_CI = some ⟨oc_CI, od_CI, .func (PySem.W.ksFn "__init__" "Calm.__init__" (defArgs sCalmInit) (defBody sCalmInit) (defScope sCalmInit) .none kV_CI dc_CI pm_CI an_CI (.ref cda_CI) ct_CI cc_CI), sl_CI⟩)
    (c_CI : PySem.W.codeIn K (.ref cda_CI) "Calm.__init__" = true)
    (e_CI : K.lookup cc_CI = some ⟨cl_CI, cld_CI, .cell (some (.ref aCalm)), csl_CI⟩)
    (d_CI : K.lookup cda_CI = some ⟨ccl_CI, cdd_CI, .fields vs_CI, ccs_CI⟩)
    (v_CI : vs_CI[2]? = some (.str file_CI tf_CI))
    (w_CI : ((l.prog.main.file : Str) == file_CI) = true)
    (x_CI : (PySem.W.clsIn K aCalm).isSome = true)
    (m_CI : PySem.W.mroIn K aCalm (.ref aCalm) = some true)
    (s_CI : PySem.W.ks_superIn K aCalm aCalm "__init__" = some (some (.ref f_PI)))
    (l_SI : K.lookup f_SI = some ⟨oc_SI, od_SI, .func (PySem.W.ksFn "__init__" "Stray.__init__" (defArgs sStrayInit) (defBody sStrayInit) (defScope sStrayInit) .none kV_SI dc_SI pm_SI an_SI (.ref cda_SI) ct_SI cc_SI), sl_SI⟩)
    (c_SI : PySem.W.codeIn K (.ref cda_SI) "Stray.__init__" = true)
    (e_SI : K.lookup cc_SI = some ⟨cl_SI, cld_SI, .cell (some (.ref aStray)), csl_SI⟩)
    (d_SI : K.lookup cda_SI = some ⟨ccl_SI, cdd_SI, .fields vs_SI, ccs_SI⟩)
    (v_SI : vs_SI[2]? = some (.str file_SI tf_SI))
    (w_SI : ((l.prog.main.file : Str) == file_SI) = true)
    (x_SI : (PySem.W.clsIn K aStray).isSome = true)
    (m_SI : PySem.W.mroIn K aStray (.ref aStray) = some true)
    (s_SI : PySem.W.ks_superIn K aStray aStray "__init__" = some (some (.ref f_PI)))
    (stop : (l.prog.main.scope.names.lookup ("super" : Str)).isSome = false)
    (sopq : PySem.W.nsIn K PySem.cStatics "thirdparty.any" = some none)
    (t_PI : PySem.W.typeIn K (.ref f_PI) = some (.type "function"))
    (t_PB : PySem.W.typeIn K (.ref f_PB) = some (.type "function"))
    (t_DB : PySem.W.typeIn K (.ref f_DB) = some (.type "function"))
    (fn_PI : PySem.W.fnIn K f_PI = true)
    (isf_PI : PySem.W.isFn K (.ref f_PI) = true)
    (isf_CI : PySem.W.isFn K (.ref f_CI) = true)
    (isf_SI : PySem.W.isFn K (.ref f_SI) = true)
    (pgCalm : PySem.W.plainGet K aCalm Str.empty = true)
    (hdCalm : PySem.W.hasDictIn K aCalm = true)
    (poCalm : PySem.W.plainOver K aCalm = true)
    (saCalm : PySem.W.findIn K (.ref aCalm) "__setattr__" = some (some (.builtin "object.__setattr__")))
    (haCalm : PySem.W.findIn K (.ref aCalm) "__class__" = some (some (.builtin "object.__class__")))
    (hmCalm : PySem.W.mroIn K aCalm (.type "object") = some true)
    (mkCalm : PySem.W.makesIn K aCalm = true)
    (kpCalm : PySem.W.keepIn K (.ref aCalm) = true)
    (nwordCalm : PySem.W.findIn K (.ref aCalm) "word" = some none)
    (npartsCalm : PySem.W.findIn K (.ref aCalm) "parts" = some none)
    (nwalkCalm : PySem.W.findIn K (.ref aCalm) "walk" = some none)
    (kbNoneTypeCalm : PySem.W.kitOne K (.type "NoneType") (.ref aCalm) = some false)
    (kbboolCalm : PySem.W.kitOne K (.type "bool") (.ref aCalm) = some false)
    (kbintCalm : PySem.W.kitOne K (.type "int") (.ref aCalm) = some false)
    (kbstrCalm : PySem.W.kitOne K (.type "str") (.ref aCalm) = some false)
    (kblistCalm : PySem.W.kitOne K (.type "list") (.ref aCalm) = some false)
    (kbtupleCalm : PySem.W.kitOne K (.type "tuple") (.ref aCalm) = some false)
    (pgStray : PySem.W.plainGet K aStray Str.empty = true)
    (hdStray : PySem.W.hasDictIn K aStray = true)
    (poStray : PySem.W.plainOver K aStray = true)
    (saStray : PySem.W.findIn K (.ref aStray) "__setattr__" = some (some (.builtin "object.__setattr__")))
    (haStray : PySem.W.findIn K (.ref aStray) "__class__" = some (some (.builtin "object.__class__")))
    (hmStray : PySem.W.mroIn K aStray (.type "object") = some true)
    (mkStray : PySem.W.makesIn K aStray = true)
    (kpStray : PySem.W.keepIn K (.ref aStray) = true)
    (nwordStray : PySem.W.findIn K (.ref aStray) "word" = some none)
    (npartsStray : PySem.W.findIn K (.ref aStray) "parts" = some none)
    (nwalkStray : PySem.W.findIn K (.ref aStray) "walk" = some none)
    (kbNoneTypeStray : PySem.W.kitOne K (.type "NoneType") (.ref aStray) = some false)
    (kbboolStray : PySem.W.kitOne K (.type "bool") (.ref aStray) = some false)
    (kbintStray : PySem.W.kitOne K (.type "int") (.ref aStray) = some false)
    (kbstrStray : PySem.W.kitOne K (.type "str") (.ref aStray) = some false)
    (kblistStray : PySem.W.kitOne K (.type "list") (.ref aStray) = some false)
    (kbtupleStray : PySem.W.kitOne K (.type "tuple") (.ref aStray) = some false)
    (pgPaper : PySem.W.plainGet K aPaper Str.empty = true)
    (hdPaper : PySem.W.hasDictIn K aPaper = true)
    (poPaper : PySem.W.plainOver K aPaper = true)
    (saPaper : PySem.W.findIn K (.ref aPaper) "__setattr__" = some (some (.builtin "object.__setattr__")))
    (haPaper : PySem.W.findIn K (.ref aPaper) "__class__" = some (some (.builtin "object.__class__")))
    (hmPaper : PySem.W.mroIn K aPaper (.type "object") = some true)
    (mkPaper : PySem.W.makesIn K aPaper = true)
    (kpPaper : PySem.W.keepIn K (.ref aPaper) = true)
    (nwordPaper : PySem.W.findIn K (.ref aPaper) "word" = some none)
    (npartsPaper : PySem.W.findIn K (.ref aPaper) "parts" = some none)
    (nwalkPaper : PySem.W.findIn K (.ref aPaper) "walk" = some none)
    (kbNoneTypePaper : PySem.W.kitOne K (.type "NoneType") (.ref aPaper) = some false)
    (kbboolPaper : PySem.W.kitOne K (.type "bool") (.ref aPaper) = some false)
    (kbintPaper : PySem.W.kitOne K (.type "int") (.ref aPaper) = some false)
    (kbstrPaper : PySem.W.kitOne K (.type "str") (.ref aPaper) = some false)
    (kblistPaper : PySem.W.kitOne K (.type "list") (.ref aPaper) = some false)
    (kbtuplePaper : PySem.W.kitOne K (.type "tuple") (.ref aPaper) = some false)
    (pgDenial : PySem.W.plainGet K aDenial Str.empty = true)
    (hdDenial : PySem.W.hasDictIn K aDenial = true)
    (poDenial : PySem.W.plainOver K aDenial = true)
    (saDenial : PySem.W.findIn K (.ref aDenial) "__setattr__" = some (some (.builtin "object.__setattr__")))
    (haDenial : PySem.W.findIn K (.ref aDenial) "__class__" = some (some (.builtin "object.__class__")))
    (hmDenial : PySem.W.mroIn K aDenial (.type "object") = some true)
    (mkDenial : PySem.W.makesIn K aDenial = true)
    (kpDenial : PySem.W.keepIn K (.ref aDenial) = true)
    (nwordDenial : PySem.W.findIn K (.ref aDenial) "word" = some none)
    (npartsDenial : PySem.W.findIn K (.ref aDenial) "parts" = some none)
    (nwalkDenial : PySem.W.findIn K (.ref aDenial) "walk" = some none)
    (kbNoneTypeDenial : PySem.W.kitOne K (.type "NoneType") (.ref aDenial) = some false)
    (kbboolDenial : PySem.W.kitOne K (.type "bool") (.ref aDenial) = some false)
    (kbintDenial : PySem.W.kitOne K (.type "int") (.ref aDenial) = some false)
    (kbstrDenial : PySem.W.kitOne K (.type "str") (.ref aDenial) = some false)
    (kblistDenial : PySem.W.kitOne K (.type "list") (.ref aDenial) = some false)
    (kbtupleDenial : PySem.W.kitOne K (.type "tuple") (.ref aDenial) = some false)
    (kkCalmCalm : PySem.W.kitOne K (.ref aCalm) (.ref aCalm) = some true)
    (kkCalmStray : PySem.W.kitOne K (.ref aCalm) (.ref aStray) = some false)
    (kkCalmDenial : PySem.W.kitOne K (.ref aCalm) (.ref aDenial) = some false)
    (kkStrayCalm : PySem.W.kitOne K (.ref aStray) (.ref aCalm) = some false)
    (kkStrayStray : PySem.W.kitOne K (.ref aStray) (.ref aStray) = some true)
    (kkStrayDenial : PySem.W.kitOne K (.ref aStray) (.ref aDenial) = some true)
    (kkPaperCalm : PySem.W.kitOne K (.ref aPaper) (.ref aCalm) = some false)
    (kkPaperStray : PySem.W.kitOne K (.ref aPaper) (.ref aStray) = some false)
    (kkDenialCalm : PySem.W.kitOne K (.ref aDenial) (.ref aCalm) = some false)
    (kkDenialStray : PySem.W.kitOne K (.ref aDenial) (.ref aStray) = some false)
    (oget : PySem.W.specialIn K (.builtin "object.__class__") "__get__" = some (some (.builtin "getset_descriptor.__get__")))
    (otk : PySem.W.takesIn K (.builtin "object.__class__") = some true)
    (z_len : PySem.W.nsIn K mainGlobals "len" = some none)
    (z_range : PySem.W.nsIn K mainGlobals "range" = some none)
    (z_abs : PySem.W.nsIn K mainGlobals "abs" = some none)
    (z_max : PySem.W.nsIn K mainGlobals "max" = some none)
    (z_min : PySem.W.nsIn K mainGlobals "min" = some none)
    (z_isinstance : PySem.W.nsIn K mainGlobals "isinstance" = some none)
    (z_int : PySem.W.nsIn K mainGlobals "int" = some none)
    (z_bool : PySem.W.nsIn K mainGlobals "bool" = some none)
    (z_list : PySem.W.nsIn K mainGlobals "list" = some none)
    (z_tuple : PySem.W.nsIn K mainGlobals "tuple" = some none)
    (z_repr : PySem.W.nsIn K mainGlobals "repr" = some none)
    (z_zip : PySem.W.nsIn K mainGlobals "zip" = some none)
    (z_all : PySem.W.nsIn K mainGlobals "all" = some none)
    (z_super : PySem.W.nsIn K mainGlobals "super" = some none)
    (q_MOST_SIGNS : PySem.W.nsIn K mainGlobals "MOST_SIGNS" = some (some (.int 2000 t_MOST_SIGNS)))
    (q_MOST_PLACES : PySem.W.nsIn K mainGlobals "MOST_PLACES" = some (some (.int 2000 t_MOST_PLACES)))
    (q_MOST_JUDGED : PySem.W.nsIn K mainGlobals "MOST_JUDGED" = some (some (.int 400 t_MOST_JUDGED)))
    (q_EVERY : PySem.W.nsIn K mainGlobals "EVERY" = some (some (.int 3 t_EVERY)))
    (q_FOURTH : PySem.W.nsIn K mainGlobals "FOURTH" = some (some (.int 3 t_FOURTH)))
    : ∃ fd : FuncData, (∀ (s : Shared) (u : Value), BindsTo s fd ⟨[u], []⟩ [("_law_script", u)]) ∧ ∀ base : Heap, K.In base → base.Ns mainGlobals mg → FnOk l.prog w K mg base CX0 10 fa fd ["_law_script"] (sp_law K) := by
  have e := hfa.symm.trans (PySem.W.mg_of X G a_law)
  cases e
  let ad : Ads := ⟨aCalm, aStray, aPaper, aDenial⟩
  have nw : ∀ C ∈ [ad.calm, ad.stray, ad.paper, ad.denial], NoAttr K C "word" ∧ NoAttr K C "parts" ∧ NoAttr K C "walk" := (by
    intro C hC
    simp only [List.mem_cons, List.not_mem_nil, or_false] at hC
    rcases hC with rfl | rfl | rfl | rfl
    · exact ⟨nwordCalm, npartsCalm, nwalkCalm⟩
    · exact ⟨nwordStray, npartsStray, nwalkStray⟩
    · exact ⟨nwordPaper, npartsPaper, nwalkPaper⟩
    · exact ⟨nwordDenial, npartsDenial, nwalkDenial⟩
    )
  have kb : ∀ n ∈ ["NoneType", "bool", "int", "str", "list", "tuple"], ∀ C ∈ [ad.calm, ad.stray, ad.paper, ad.denial], PySem.W.kitOne K (.type n) (.ref C) = some false := by
    intro n hn C hC
    simp only [List.mem_cons, List.not_mem_nil, or_false] at hn hC
    rcases hn with rfl | rfl | rfl | rfl | rfl | rfl <;> rcases hC with rfl | rfl | rfl | rfl
    · exact kbNoneTypeCalm
    · exact kbNoneTypeStray
    · exact kbNoneTypePaper
    · exact kbNoneTypeDenial
    · exact kbboolCalm
    · exact kbboolStray
    · exact kbboolPaper
    · exact kbboolDenial
    · exact kbintCalm
    · exact kbintStray
    · exact kbintPaper
    · exact kbintDenial
    · exact kbstrCalm
    · exact kbstrStray
    · exact kbstrPaper
    · exact kbstrDenial
    · exact kblistCalm
    · exact kblistStray
    · exact kblistPaper
    · exact kblistDenial
    · exact kbtupleCalm
    · exact kbtupleStray
    · exact kbtuplePaper
    · exact kbtupleDenial
  have T : Txt K mg ad := {
    len := PySem.W.mg_none_of X G z_len
    range := PySem.W.mg_none_of X G z_range
    abs := PySem.W.mg_none_of X G z_abs
    max := PySem.W.mg_none_of X G z_max
    min := PySem.W.mg_none_of X G z_min
    isinstance := PySem.W.mg_none_of X G z_isinstance
    int := PySem.W.mg_none_of X G z_int
    bool := PySem.W.mg_none_of X G z_bool
    list := PySem.W.mg_none_of X G z_list
    tuple := PySem.W.mg_none_of X G z_tuple
    repr := PySem.W.mg_none_of X G z_repr
    zip := PySem.W.mg_none_of X G z_zip
    all := PySem.W.mg_none_of X G z_all
    super := PySem.W.mg_none_of X G z_super
    cMOST_SIGNS := ⟨_, PySem.W.mg_of X G q_MOST_SIGNS⟩
    cMOST_PLACES := ⟨_, PySem.W.mg_of X G q_MOST_PLACES⟩
    cMOST_JUDGED := ⟨_, PySem.W.mg_of X G q_MOST_JUDGED⟩
    cEVERY := ⟨_, PySem.W.mg_of X G q_EVERY⟩
    cFOURTH := ⟨_, PySem.W.mg_of X G q_FOURTH⟩
    gCalm := PySem.W.mg_of X G gCalm
    gStray := PySem.W.mg_of X G gStray
    gPaper := PySem.W.mg_of X G gPaper
    gDenial := PySem.W.mg_of X G gDenial
    iCalm := ⟨⟨pgCalm, hdCalm, poCalm, saCalm⟩, haCalm, hmCalm⟩
    iStray := ⟨⟨pgStray, hdStray, poStray, saStray⟩, haStray, hmStray⟩
    iPaper := ⟨⟨pgPaper, hdPaper, poPaper, saPaper⟩, haPaper, hmPaper⟩
    iDenial := ⟨⟨pgDenial, hdDenial, poDenial, saDenial⟩, haDenial, hmDenial⟩
    oget := oget
    otk := otk
    nw := nw
    kb := kb
    kc := ⟨kkCalmCalm, kkCalmStray, kkCalmDenial⟩
    ks := ⟨kkStrayCalm, kkStrayStray, kkStrayDenial⟩
    kp := ⟨kkPaperCalm, kkPaperStray⟩
    kd := ⟨kkDenialCalm, kkDenialStray⟩ }
  have F_is_integer := fun_mk (st := s_is_integer) l_is_integer c_is_integer k_is_integer
  have b_is_integer := F_is_integer.binds (ps := ["value"]) fun _ _ _ _ _ _ us hl => match us, hl with | [_], _ => rfl
  have F_is_within := fun_mk (st := s_is_within) l_is_within c_is_within k_is_within
  have b_is_within := F_is_within.binds (ps := ["value", "least", "most"]) fun _ _ _ _ _ _ us hl => match us, hl with | [_, _, _], _ => rfl
  have F_need_number := fun_mk (st := s_need_number) l_need_number c_need_number k_need_number
  have b_need_number := F_need_number.binds (ps := ["value", "part", "least", "most"]) fun _ _ _ _ _ _ us hl => match us, hl with | [_, _, _, _], _ => rfl
  have F_fixed := fun_mk (st := s_fixed) l_fixed c_fixed k_fixed
  have b_fixed := F_fixed.binds (ps := ["value"]) fun _ _ _ _ _ _ us hl => match us, hl with | [_], _ => rfl
  have F_is_word := fun_mk (st := s_is_word) l_is_word c_is_word k_is_word
  have b_is_word := F_is_word.binds (ps := ["value"]) fun _ _ _ _ _ _ us hl => match us, hl with | [_], _ => rfl
  have F_least_repeat := fun_mk (st := s_least_repeat) l_least_repeat c_least_repeat k_least_repeat
  have b_least_repeat := F_least_repeat.binds (ps := ["word"]) fun _ _ _ _ _ _ us hl => match us, hl with | [_], _ => rfl
  have F_is_odd := fun_mk (st := s_is_odd) l_is_odd c_is_odd k_is_odd
  have b_is_odd := F_is_odd.binds (ps := ["number"]) fun _ _ _ _ _ _ us hl => match us, hl with | [_], _ => rfl
  have F_plain_signs := fun_mk (st := s_plain_signs) l_plain_signs c_plain_signs k_plain_signs
  have b_plain_signs := F_plain_signs.binds (ps := ["many"]) fun _ _ _ _ _ _ us hl => match us, hl with | [_], _ => rfl
  have F_plain_word := fun_mk (st := s_plain_word) l_plain_word c_plain_word k_plain_word
  have b_plain_word := F_plain_word.binds (ps := ["many"]) fun _ _ _ _ _ _ us hl => match us, hl with | [_], _ => rfl
  have F_need_colours := fun_mk (st := s_need_colours) l_need_colours c_need_colours k_need_colours
  have b_need_colours := F_need_colours.binds (ps := ["value"]) fun _ _ _ _ _ _ us hl => match us, hl with | [_], _ => rfl
  have F_colours_in := fun_mk (st := s_colours_in) l_colours_in c_colours_in k_colours_in
  have b_colours_in := F_colours_in.binds (ps := ["many"]) fun _ _ _ _ _ _ us hl => match us, hl with | [_], _ => rfl
  have F_line_colours := fun_mk (st := s_line_colours) l_line_colours c_line_colours k_line_colours
  have b_line_colours := F_line_colours.binds (ps := ["many"]) fun _ _ _ _ _ _ us hl => match us, hl with | [_], _ => rfl
  have F_goes_on_line := fun_mk (st := s_goes_on_line) l_goes_on_line c_goes_on_line k_goes_on_line
  have b_goes_on_line := F_goes_on_line.binds (ps := ["value", "many"]) fun _ _ _ _ _ _ us hl => match us, hl with | [_, _], _ => rfl
  have F_halves_of := fun_mk (st := s_halves_of) l_halves_of c_halves_of k_halves_of
  have b_halves_of := F_halves_of.binds (ps := ["row"]) fun _ _ _ _ _ _ us hl => match us, hl with | [_], _ => rfl
  have F_is_alike := fun_mk (st := s_is_alike) l_is_alike c_is_alike k_is_alike
  have b_is_alike := F_is_alike.binds (ps := ["one", "other", "colours"]) fun _ _ _ _ _ _ us hl => match us, hl with | [_, _, _], _ => rfl
  have F_stray_in := fun_mk (st := s_stray_in) l_stray_in c_stray_in k_stray_in
  have b_stray_in := F_stray_in.binds (ps := ["colours"]) fun _ _ _ _ _ _ us hl => match us, hl with | [_], _ => rfl
  have F_judged_line := fun_mk (st := s_judged_line) l_judged_line c_judged_line k_judged_line
  have b_judged_line := F_judged_line.binds (ps := ["colours"]) fun _ _ _ _ _ _ us hl => match us, hl with | [_], _ => rfl
  have F_shows_line := fun_mk (st := s_shows_line) l_shows_line c_shows_line k_shows_line
  have b_shows_line := F_shows_line.binds (ps := ["colours", "value"]) fun _ _ _ _ _ _ us hl => match us, hl with | [_, _], _ => rfl
  have F_law_cord := fun_mk (st := s_law_cord) l_law_cord c_law_cord k_law_cord
  have b_law_cord := F_law_cord.binds (ps := ["_law_script"]) fun _ _ _ _ _ _ us hl => match us, hl with | [_], _ => rfl
  have F_law_ply := fun_mk (st := s_law_ply) l_law_ply c_law_ply k_law_ply
  have b_law_ply := F_law_ply.binds (ps := ["_law_cord_here", "_law_many"]) fun _ _ _ _ _ _ us hl => match us, hl with | [_, _], _ => rfl
  have F_law_pick := fun_mk (st := s_law_pick) l_law_pick c_law_pick k_law_pick
  have b_law_pick := F_law_pick.binds (ps := ["_law_cord_here", "_law_some"]) fun _ _ _ _ _ _ us hl => match us, hl with | [_, _], _ => rfl
  have F_law_stray := fun_mk (st := s_law_stray) l_law_stray c_law_stray k_law_stray
  have b_law_stray := F_law_stray.binds (ps := ["_law_colours"]) fun _ _ _ _ _ _ us hl => match us, hl with | [_], _ => rfl
  have F_law_drawn := fun_mk (st := s_law_drawn) l_law_drawn c_law_drawn k_law_drawn
  have b_law_drawn := F_law_drawn.binds (ps := ["_law_cord_here"]) fun _ _ _ _ _ _ us hl => match us, hl with | [_], _ => rfl
  have F_law_plain_calm := fun_mk (st := s_law_plain_calm) l_law_plain_calm c_law_plain_calm k_law_plain_calm
  have b_law_plain_calm := F_law_plain_calm.binds (ps := ["_law_colours"]) fun _ _ _ _ _ _ us hl => match us, hl with | [_], _ => rfl
  have F_law_is_stray := fun_mk (st := s_law_is_stray) l_law_is_stray c_law_is_stray k_law_is_stray
  have b_law_is_stray := F_law_is_stray.binds (ps := ["_law_colours", "_law_walk"]) fun _ _ _ _ _ _ us hl => match us, hl with | [_, _], _ => rfl
  have F_law_bent := fun_mk (st := s_law_bent) l_law_bent c_law_bent k_law_bent
  have b_law_bent := F_law_bent.binds (ps := ["_law_cord_here", "_law_colours", "_law_told"]) fun _ _ _ _ _ _ us hl => match us, hl with | [_, _, _], _ => rfl
  have F_law_long_right := fun_mk (st := s_law_long_right) l_law_long_right c_law_long_right k_law_long_right
  have b_law_long_right := F_law_long_right.binds (ps := ["_law_cord_here"]) fun _ _ _ _ _ _ us hl => match us, hl with | [_], _ => rfl
  have F_law := fun_mk (st := s_law) l_law c_law k_law
  have b_law := F_law.binds (ps := ["_law_script"]) fun _ _ _ _ _ _ us hl => match us, hl with | [_], _ => rfl
  have F_PI := fun_mk (st := sPaperInit) l_PI c_PI k_PI
  have F_PB := fun_mk (st := sPaperBool) l_PB c_PB k_PB
  have b_PB := F_PB.binds (ps := ["self"]) fun _ _ _ _ _ _ us hl => match us, hl with | [_], _ => rfl
  have F_DB := fun_mk (st := sDenialBool) l_DB c_DB k_DB
  have b_DB := F_DB.binds (ps := ["self"]) fun _ _ _ _ _ _ us hl => match us, hl with | [_], _ => rfl
  have F_CI : FunS K l.prog "__init__" "Calm.__init__" sCalmInit ad.calm f_CI := ⟨_, _, _, _, _, _, _, _, _, _, l_CI, c_CI, ⟨_, _, _, e_CI⟩, ⟨_, _, _, _, _, _, d_CI, v_CI, w_CI⟩⟩
  have S_CI : SupF K l.prog ad.calm f_PI "__init__" := ⟨x_CI, stop, sopq, t_PI, fn_PI, ⟨m_CI, s_CI⟩⟩
  have F_SI : FunS K l.prog "__init__" "Stray.__init__" sStrayInit ad.stray f_SI := ⟨_, _, _, _, _, _, _, _, _, _, l_SI, c_SI, ⟨_, _, _, e_SI⟩, ⟨_, _, _, _, _, _, d_SI, v_SI, w_SI⟩⟩
  have S_SI : SupF K l.prog ad.stray f_PI "__init__" := ⟨x_SI, stop, sopq, t_PI, fn_PI, ⟨m_SI, s_SI⟩⟩
  refine ⟨PySem.W.fnOf "law" "law" (defArgs s_law) (defBody s_law) (defScope s_law) .none kV_law dc_law pm_law an_law cd_law ct_law, fun s u => .of_eq rfl, fun base _ _ => ?_⟩
  have D_is_integer : Def l.prog w K mg base "is_integer" 1 sp_is_integer := ⟨_, PySem.W.mg_of X G a_is_integer, k_is_integer, Fun.fnR (ok_is_integer F_is_integer T ) b_is_integer⟩
  have D_is_within : Def l.prog w K mg base "is_within" 2 sp_is_within := ⟨_, PySem.W.mg_of X G a_is_within, k_is_within, Fun.fnR (ok_is_within F_is_within T D_is_integer) b_is_within⟩
  have D_need_number : Def l.prog w K mg base "need_number" 3 sp_need_number := ⟨_, PySem.W.mg_of X G a_need_number, k_need_number, Fun.fnR (ok_need_number F_need_number T D_is_within) b_need_number⟩
  have D_fixed0 : Def l.prog w K mg base "fixed" 1 sp_fixed0 := ⟨_, PySem.W.mg_of X G a_fixed, k_fixed, Fun.fnR (ok_fixed0 F_fixed T) b_fixed⟩
  have D_fixed1 : Def l.prog w K mg base "fixed" 2 (sp_fixed1 K) := ⟨_, PySem.W.mg_of X G a_fixed, k_fixed, Fun.fnR (ok_fixed1 F_fixed T D_fixed0) b_fixed⟩
  have D_fixed2 : Def l.prog w K mg base "fixed" 3 (sp_fixed2 K) := ⟨_, PySem.W.mg_of X G a_fixed, k_fixed, Fun.fnR (ok_fixed2 F_fixed T D_fixed1) b_fixed⟩
  have R_PI : FnR l.prog w K mg base CX0 4 f_PI (sp_init K ad) := ok_init F_PI T D_fixed2 init_h0 init_h1
  have C_Calm : Cl l.prog w K mg base "Calm" ad.calm 5 (sp_calm ad) := ⟨PySem.W.mg_of X G gCalm, _, ⟨mkCalm, iCalm, isf_CI, kpCalm⟩, ok_calm F_CI T S_CI R_PI⟩
  have C_Stray : Cl l.prog w K mg base "Stray" ad.stray 5 (sp_stray K ad) := ⟨PySem.W.mg_of X G gStray, _, ⟨mkStray, iStray, isf_SI, kpStray⟩, ok_stray F_SI T S_SI R_PI⟩
  have C_Paper : Cl l.prog w K mg base "Paper" ad.paper 4 (sp_pap K ad.paper) := ⟨PySem.W.mg_of X G gPaper, _, ⟨mkPaper, iPaper, isf_PI, kpPaper⟩, pap_of R_PI (by simp)⟩
  have C_Denial : Cl l.prog w K mg base "Denial" ad.denial 4 (sp_pap K ad.denial) := ⟨PySem.W.mg_of X G gDenial, _, ⟨mkDenial, iDenial, isf_PI, kpDenial⟩, pap_of R_PI (by simp)⟩
  have bC : BoolOf l.prog w K mg base ad.calm true := ⟨_, _, ok_boolP F_PB, bCalm, t_PB, b_PB⟩
  have bS : BoolOf l.prog w K mg base ad.stray false := ⟨_, _, ok_boolD F_DB, bStray, t_DB, b_DB⟩
  have D_is_word : Def l.prog w K mg base "is_word" 3 (sp_is_word K) := ⟨_, PySem.W.mg_of X G a_is_word, k_is_word, Fun.fnR (ok_is_word F_is_word T D_is_within) b_is_word⟩
  have D_least_repeat : Def l.prog w K mg base "least_repeat" 1 (sp_least_repeat K) := ⟨_, PySem.W.mg_of X G a_least_repeat, k_least_repeat, Fun.fnR (ok_least_repeat F_least_repeat T ) b_least_repeat⟩
  have D_is_odd : Def l.prog w K mg base "is_odd" 1 sp_is_odd := ⟨_, PySem.W.mg_of X G a_is_odd, k_is_odd, Fun.fnR (ok_is_odd F_is_odd T ) b_is_odd⟩
  have D_plain_signs : Def l.prog w K mg base "plain_signs" 2 sp_signs := ⟨_, PySem.W.mg_of X G a_plain_signs, k_plain_signs, Fun.fnR (ok_signs F_plain_signs T D_is_odd) b_plain_signs⟩
  have D_plain_word : Def l.prog w K mg base "plain_word" 4 sp_signs := ⟨_, PySem.W.mg_of X G a_plain_word, k_plain_word, Fun.fnR (ok_plain_word F_plain_word T D_need_number D_plain_signs) b_plain_word⟩
  have D_need_colours : Def l.prog w K mg base "need_colours" 4 (sp_need_colours K) := ⟨_, PySem.W.mg_of X G a_need_colours, k_need_colours, Fun.fnR (ok_need_colours F_need_colours T D_is_word) b_need_colours⟩
  have D_colours_in : Def l.prog w K mg base "colours_in" 3 sp_signs := ⟨_, PySem.W.mg_of X G a_colours_in, k_colours_in, Fun.fnR (ok_colours_in F_colours_in T D_plain_signs) b_colours_in⟩
  have D_line_colours : Def l.prog w K mg base "line_colours" 4 sp_signs := ⟨_, PySem.W.mg_of X G a_line_colours, k_line_colours, Fun.fnR (ok_line_colours F_line_colours T D_need_number D_colours_in) b_line_colours⟩
  have D_goes_on_line : Def l.prog w K mg base "goes_on_line" 3 (sp_goes K) := ⟨_, PySem.W.mg_of X G a_goes_on_line, k_goes_on_line, Fun.fnR (ok_goes F_goes_on_line T D_is_within) b_goes_on_line⟩
  have D_halves_of : Def l.prog w K mg base "halves_of" 1 (sp_halves K) := ⟨_, PySem.W.mg_of X G a_halves_of, k_halves_of, Fun.fnR (ok_halves F_halves_of T ) b_halves_of⟩
  have D_is_alike : Def l.prog w K mg base "is_alike" 1 (sp_alike K) := ⟨_, PySem.W.mg_of X G a_is_alike, k_is_alike, Fun.fnR (ok_alike F_is_alike T ) b_is_alike⟩
  have D_stray_in : Def l.prog w K mg base "stray_in" 2 (sp_stray_in K) := ⟨_, PySem.W.mg_of X G a_stray_in, k_stray_in, Fun.fnR (ok_stray_in F_stray_in T D_least_repeat) b_stray_in⟩
  have D_judged_line : Def l.prog w K mg base "judged_line" 7 (sp_judged K ad) := ⟨_, PySem.W.mg_of X G a_judged_line, k_judged_line, Fun.fnR (ok_judged F_judged_line T D_need_colours D_stray_in C_Calm C_Stray) b_judged_line⟩
  have D_shows_line : Def l.prog w K mg base "shows_line" 8 (sp_shows K ad) := ⟨_, PySem.W.mg_of X G a_shows_line, k_shows_line, Fun.fnR (ok_shows F_shows_line T D_judged_line D_goes_on_line D_halves_of D_is_alike bC bS) b_shows_line⟩
  have DK_shows_line : DefK l.prog w K mg base "shows_line" 8 "colours" "value" (sp_shows K ad) := ⟨_, _, PySem.W.mg_of X G a_shows_line, k_shows_line, ok_shows F_shows_line T D_judged_line D_goes_on_line D_halves_of D_is_alike bC bS, fun s u v => .of_eq rfl⟩
  have D_law_cord : Def l.prog w K mg base "_law_cord" 1 (sp_cord K) := ⟨_, PySem.W.mg_of X G a_law_cord, k_law_cord, Fun.fnR (ok_cord F_law_cord T ) b_law_cord⟩
  have D_law_ply : Def l.prog w K mg base "_law_ply" 1 sp_ply := ⟨_, PySem.W.mg_of X G a_law_ply, k_law_ply, Fun.fnR (ok_ply F_law_ply T ) b_law_ply⟩
  have D_law_pick : Def l.prog w K mg base "_law_pick" 2 (sp_pick K) := ⟨_, PySem.W.mg_of X G a_law_pick, k_law_pick, Fun.fnR (ok_pick F_law_pick T D_law_ply) b_law_pick⟩
  have D_law_stray : Def l.prog w K mg base "_law_stray" 1 (sp_lstray K) := ⟨_, PySem.W.mg_of X G a_law_stray, k_law_stray, Fun.fnR (ok_lstray F_law_stray T ) b_law_stray⟩
  have D_law_drawn : Def l.prog w K mg base "_law_drawn" 5 sp_drawn := ⟨_, PySem.W.mg_of X G a_law_drawn, k_law_drawn, Fun.fnR (ok_drawn F_law_drawn T D_law_ply D_law_pick D_line_colours D_plain_word) b_law_drawn⟩
  have D_law_plain_calm : Def l.prog w K mg base "_law_plain_calm" 1 (sp_lcalm K) := ⟨_, PySem.W.mg_of X G a_law_plain_calm, k_law_plain_calm, Fun.fnR (ok_lcalm F_law_plain_calm T ) b_law_plain_calm⟩
  have D_law_is_stray : Def l.prog w K mg base "_law_is_stray" 1 (sp_lis K) := ⟨_, PySem.W.mg_of X G a_law_is_stray, k_law_is_stray, Fun.fnR (ok_lis F_law_is_stray T ) b_law_is_stray⟩
  have D_law_bent : Def l.prog w K mg base "_law_bent" 7 (sp_bent K ad) := ⟨_, PySem.W.mg_of X G a_law_bent, k_law_bent, Fun.fnR (ok_bent F_law_bent T D_law_ply C_Stray) b_law_bent⟩
  have D_law_long_right : Def l.prog w K mg base "_law_long_right" 9 sp_long := ⟨_, PySem.W.mg_of X G a_law_long_right, k_law_long_right, Fun.fnR (ok_long F_law_long_right T D_law_ply D_law_pick D_line_colours D_law_plain_calm D_judged_line D_shows_line D_law_is_stray C_Calm C_Stray) b_law_long_right⟩
  exact ok_law F_law T D_law_cord D_law_drawn D_law_stray D_law_plain_calm D_judged_line D_shows_line DK_shows_line D_law_is_stray D_law_bent D_law_long_right C_Calm C_Paper C_Denial bC bS
theorem walk {l : PySem.W.OpenLaw} {q : Program} {loose : List Str} {XP : (Str → Option Value) → Heap → Prop} {YP : World → Heap → Prop} {d : DefRec} {K : Params → PySem.W.Frag} (hn : l.most = some 63) (hdf : d.params.defaults = [])
    (hY : ∀ (w : World) (h : Heap), YP w h → (K w.params).In h)
    (F : ∀ (w : World) (mg : Str → Option Value) (fa : Addr) (h : Heap), (K w.params).In h → h.Ns mainGlobals mg → mg d.name = some (.ref fa) →
      ∃ fd : FuncData, (∀ (s : Shared) (u : Value), BindsTo s fd ⟨[u], []⟩ [("_law_script", u)]) ∧ ∀ base : Heap, (K w.params).In base → base.Ns mainGlobals mg → FnOk l.prog w (K w.params) mg base CX0 10 fa fd ["_law_script"] (sp_law (K w.params))) :
    PySem.W.WalkO q loose XP YP l.row.toRowW d [] (fun f vs => PySem.call f vs) :=
  L2.walk_of (n := 63) (k := 10) (x := "_law_script") (CX := fun _ => CX0) (sp := fun w => sp_law (K w.params)) hn (by decide) hdf ⟨rfl, by decide, by decide⟩ hY F (fun _ _ a ns hl _ hS => ⟨a, ns, rfl, hS, hl, fun _ => rfl⟩) fun _ _ _ _ _ z => z
end K51
open PySem PySem.W PyProof.Rows in
set_option maxRecDepth 100000 in
set_option maxHeartbeats 0 in
theorem PySem.Challenge.cw_threelanes_k51_whole_colours_of_a_line_j_holds : PySem.Challenge.rw_threelanes_k51_whole_colours_of_a_line_j.Holds := by
  w_on; o_law; k_head; (case hw => w_witness2)
  k_fill
  refine K51.walk (l := PySem.Challenge.rw_threelanes_k51_whole_colours_of_a_line_j) rfl rfl (fun w h Y => PySem.W.kIn_of Y) ?F
  case F =>
    intro w mg fa h KX G hmg
    refine' K51.all_mk KX G hmg ?gCalm ?gStray ?gPaper ?gDenial ?a_is_integer ?l_is_integer ?c_is_integer ?k_is_integer ?a_is_within ?l_is_within ?c_is_within ?k_is_within ?a_need_number ?l_need_number ?c_need_number ?k_need_number ?a_fixed ?l_fixed ?c_fixed ?k_fixed ?a_is_word ?l_is_word ?c_is_word ?k_is_word ?a_least_repeat ?l_least_repeat ?c_least_repeat ?k_least_repeat ?a_is_odd ?l_is_odd ?c_is_odd ?k_is_odd ?a_plain_signs ?l_plain_signs ?c_plain_signs ?k_plain_signs ?a_plain_word ?l_plain_word ?c_plain_word ?k_plain_word ?a_need_colours ?l_need_colours ?c_need_colours ?k_need_colours ?a_colours_in ?l_colours_in ?c_colours_in ?k_colours_in ?a_line_colours ?l_line_colours ?c_line_colours ?k_line_colours ?a_goes_on_line ?l_goes_on_line ?c_goes_on_line ?k_goes_on_line ?a_halves_of ?l_halves_of ?c_halves_of ?k_halves_of ?a_is_alike ?l_is_alike ?c_is_alike ?k_is_alike ?a_stray_in ?l_stray_in ?c_stray_in ?k_stray_in ?a_judged_line ?l_judged_line ?c_judged_line ?k_judged_line ?a_shows_line ?l_shows_line ?c_shows_line ?k_shows_line ?a_law_cord ?l_law_cord ?c_law_cord ?k_law_cord ?a_law_ply ?l_law_ply ?c_law_ply ?k_law_ply ?a_law_pick ?l_law_pick ?c_law_pick ?k_law_pick ?a_law_stray ?l_law_stray ?c_law_stray ?k_law_stray ?a_law_drawn ?l_law_drawn ?c_law_drawn ?k_law_drawn ?a_law_plain_calm ?l_law_plain_calm ?c_law_plain_calm ?k_law_plain_calm ?a_law_is_stray ?l_law_is_stray ?c_law_is_stray ?k_law_is_stray ?a_law_bent ?l_law_bent ?c_law_bent ?k_law_bent ?a_law_long_right ?l_law_long_right ?c_law_long_right ?k_law_long_right ?a_law ?l_law ?c_law ?k_law ?iPaper ?iDenial ?iCalm ?iStray ?bCalm ?bStray ?l_PI ?c_PI ?k_PI ?l_PB ?c_PB ?k_PB ?l_DB ?c_DB ?k_DB ?l_CI ?c_CI ?e_CI ?d_CI ?v_CI ?w_CI ?x_CI ?m_CI ?s_CI ?l_SI ?c_SI ?e_SI ?d_SI ?v_SI ?w_SI ?x_SI ?m_SI ?s_SI ?stop ?sopq ?t_PI ?t_PB ?t_DB ?fn_PI ?isf_PI ?isf_CI ?isf_SI ?pgCalm ?hdCalm ?poCalm ?saCalm ?haCalm ?hmCalm ?mkCalm ?kpCalm ?nwordCalm ?npartsCalm ?nwalkCalm ?kbNoneTypeCalm ?kbboolCalm ?kbintCalm ?kbstrCalm ?kblistCalm ?kbtupleCalm ?pgStray ?hdStray ?poStray ?saStray ?haStray ?hmStray ?mkStray ?kpStray ?nwordStray ?npartsStray ?nwalkStray ?kbNoneTypeStray ?kbboolStray ?kbintStray ?kbstrStray ?kblistStray ?kbtupleStray ?pgPaper ?hdPaper ?poPaper ?saPaper ?haPaper ?hmPaper ?mkPaper ?kpPaper ?nwordPaper ?npartsPaper ?nwalkPaper ?kbNoneTypePaper ?kbboolPaper ?kbintPaper ?kbstrPaper ?kblistPaper ?kbtuplePaper ?pgDenial ?hdDenial ?poDenial ?saDenial ?haDenial ?hmDenial ?mkDenial ?kpDenial ?nwordDenial ?npartsDenial ?nwalkDenial ?kbNoneTypeDenial ?kbboolDenial ?kbintDenial ?kbstrDenial ?kblistDenial ?kbtupleDenial ?kkCalmCalm ?kkCalmStray ?kkCalmDenial ?kkStrayCalm ?kkStrayStray ?kkStrayDenial ?kkPaperCalm ?kkPaperStray ?kkDenialCalm ?kkDenialStray ?oget ?otk ?z_len ?z_range ?z_abs ?z_max ?z_min ?z_isinstance ?z_int ?z_bool ?z_list ?z_tuple ?z_repr ?z_zip ?z_all ?z_super ?q_MOST_SIGNS ?q_MOST_PLACES ?q_MOST_JUDGED ?q_EVERY ?q_FOURTH
    (case gCalm => k_is)
    (case gStray => k_is)
    (case gPaper => k_is)
    (case gDenial => k_is)
    (case a_is_integer => k_is)
    (case l_is_integer => k_is)
    (case c_is_integer => k_is)
    (case k_is_integer => k_is)
    (case a_is_within => k_is)
    (case l_is_within => k_is)
    (case c_is_within => k_is)
    (case k_is_within => k_is)
    (case a_need_number => k_is)
    (case l_need_number => k_is)
    (case c_need_number => k_is)
    (case k_need_number => k_is)
    (case a_fixed => k_is)
    (case l_fixed => k_is)
    (case c_fixed => k_is)
    (case k_fixed => k_is)
    (case a_is_word => k_is)
    (case l_is_word => k_is)
    (case c_is_word => k_is)
    (case k_is_word => k_is)
    (case a_least_repeat => k_is)
    (case l_least_repeat => k_is)
    (case c_least_repeat => k_is)
    (case k_least_repeat => k_is)
    (case a_is_odd => k_is)
    (case l_is_odd => k_is)
    (case c_is_odd => k_is)
    (case k_is_odd => k_is)
    (case a_plain_signs => k_is)
    (case l_plain_signs => k_is)
    (case c_plain_signs => k_is)
    (case k_plain_signs => k_is)
    (case a_plain_word => k_is)
    (case l_plain_word => k_is)
    (case c_plain_word => k_is)
    (case k_plain_word => k_is)
    (case a_need_colours => k_is)
    (case l_need_colours => k_is)
    (case c_need_colours => k_is)
    (case k_need_colours => k_is)
    (case a_colours_in => k_is)
    (case l_colours_in => k_is)
    (case c_colours_in => k_is)
    (case k_colours_in => k_is)
    (case a_line_colours => k_is)
    (case l_line_colours => k_is)
    (case c_line_colours => k_is)
    (case k_line_colours => k_is)
    (case a_goes_on_line => k_is)
    (case l_goes_on_line => k_is)
    (case c_goes_on_line => k_is)
    (case k_goes_on_line => k_is)
    (case a_halves_of => k_is)
    (case l_halves_of => k_is)
    (case c_halves_of => k_is)
    (case k_halves_of => k_is)
    (case a_is_alike => k_is)
    (case l_is_alike => k_is)
    (case c_is_alike => k_is)
    (case k_is_alike => k_is)
    (case a_stray_in => k_is)
    (case l_stray_in => k_is)
    (case c_stray_in => k_is)
    (case k_stray_in => k_is)
    (case a_judged_line => k_is)
    (case l_judged_line => k_is)
    (case c_judged_line => k_is)
    (case k_judged_line => k_is)
    (case a_shows_line => k_is)
    (case l_shows_line => k_is)
    (case c_shows_line => k_is)
    (case k_shows_line => k_is)
    (case a_law_cord => k_is)
    (case l_law_cord => k_is)
    (case c_law_cord => k_is)
    (case k_law_cord => k_is)
    (case a_law_ply => k_is)
    (case l_law_ply => k_is)
    (case c_law_ply => k_is)
    (case k_law_ply => k_is)
    (case a_law_pick => k_is)
    (case l_law_pick => k_is)
    (case c_law_pick => k_is)
    (case k_law_pick => k_is)
    (case a_law_stray => k_is)
    (case l_law_stray => k_is)
    (case c_law_stray => k_is)
    (case k_law_stray => k_is)
    (case a_law_drawn => k_is)
    (case l_law_drawn => k_is)
    (case c_law_drawn => k_is)
    (case k_law_drawn => k_is)
    (case a_law_plain_calm => k_is)
    (case l_law_plain_calm => k_is)
    (case c_law_plain_calm => k_is)
    (case k_law_plain_calm => k_is)
    (case a_law_is_stray => k_is)
    (case l_law_is_stray => k_is)
    (case c_law_is_stray => k_is)
    (case k_law_is_stray => k_is)
    (case a_law_bent => k_is)
    (case l_law_bent => k_is)
    (case c_law_bent => k_is)
    (case k_law_bent => k_is)
    (case a_law_long_right => k_is)
    (case l_law_long_right => k_is)
    (case c_law_long_right => k_is)
    (case k_law_long_right => k_is)
    (case a_law => k_is)
    (case l_law => k_is)
    (case c_law => k_is)
    (case k_law => k_is)
    (case iPaper => k_is)
    (case iDenial => k_is)
    (case iCalm => k_is)
    (case iStray => k_is)
    (case bCalm => k_is)
    (case bStray => k_is)
    (case l_PI => k_is)
    (case c_PI => k_is)
    (case k_PI => k_is)
    (case l_PB => k_is)
    (case c_PB => k_is)
    (case k_PB => k_is)
    (case l_DB => k_is)
    (case c_DB => k_is)
    (case k_DB => k_is)
    (case l_CI => k_is)
    (case c_CI => k_is)
    (case e_CI => k_is)
    (case d_CI => k_is)
    (case v_CI => exact rfl)
    (case w_CI => kernel_rfl)
    (case x_CI => kernel_rfl)
    (case m_CI => k_is)
    (case s_CI => first | ks_is | kernel_rfl)
    (case l_SI => k_is)
    (case c_SI => k_is)
    (case e_SI => k_is)
    (case d_SI => k_is)
    (case v_SI => exact rfl)
    (case w_SI => kernel_rfl)
    (case x_SI => kernel_rfl)
    (case m_SI => k_is)
    (case s_SI => first | ks_is | kernel_rfl)
    (case stop => kernel_rfl)
    (case sopq => k_is)
    (case t_PI => k_is)
    (case t_PB => k_is)
    (case t_DB => k_is)
    (case fn_PI => k_is)
    (case isf_PI => k_is)
    (case isf_CI => k_is)
    (case isf_SI => k_is)
    (case pgCalm => k_is)
    (case hdCalm => k_is)
    (case poCalm => k_is)
    (case saCalm => k_is)
    (case haCalm => k_is)
    (case hmCalm => k_is)
    (case mkCalm => k_is)
    (case kpCalm => k_is)
    (case nwordCalm => k_is)
    (case npartsCalm => k_is)
    (case nwalkCalm => k_is)
    (case kbNoneTypeCalm => kernel_rfl)
    (case kbboolCalm => kernel_rfl)
    (case kbintCalm => kernel_rfl)
    (case kbstrCalm => kernel_rfl)
    (case kblistCalm => kernel_rfl)
    (case kbtupleCalm => kernel_rfl)
    (case pgStray => k_is)
    (case hdStray => k_is)
    (case poStray => k_is)
    (case saStray => k_is)
    (case haStray => k_is)
    (case hmStray => k_is)
    (case mkStray => k_is)
    (case kpStray => k_is)
    (case nwordStray => k_is)
    (case npartsStray => k_is)
    (case nwalkStray => k_is)
    (case kbNoneTypeStray => kernel_rfl)
    (case kbboolStray => kernel_rfl)
    (case kbintStray => kernel_rfl)
    (case kbstrStray => kernel_rfl)
    (case kblistStray => kernel_rfl)
    (case kbtupleStray => kernel_rfl)
    (case pgPaper => k_is)
    (case hdPaper => k_is)
    (case poPaper => k_is)
    (case saPaper => k_is)
    (case haPaper => k_is)
    (case hmPaper => k_is)
    (case mkPaper => k_is)
    (case kpPaper => k_is)
    (case nwordPaper => k_is)
    (case npartsPaper => k_is)
    (case nwalkPaper => k_is)
    (case kbNoneTypePaper => kernel_rfl)
    (case kbboolPaper => kernel_rfl)
    (case kbintPaper => kernel_rfl)
    (case kbstrPaper => kernel_rfl)
    (case kblistPaper => kernel_rfl)
    (case kbtuplePaper => kernel_rfl)
    (case pgDenial => k_is)
    (case hdDenial => k_is)
    (case poDenial => k_is)
    (case saDenial => k_is)
    (case haDenial => k_is)
    (case hmDenial => k_is)
    (case mkDenial => k_is)
    (case kpDenial => k_is)
    (case nwordDenial => k_is)
    (case npartsDenial => k_is)
    (case nwalkDenial => k_is)
    (case kbNoneTypeDenial => kernel_rfl)
    (case kbboolDenial => kernel_rfl)
    (case kbintDenial => kernel_rfl)
    (case kbstrDenial => kernel_rfl)
    (case kblistDenial => kernel_rfl)
    (case kbtupleDenial => kernel_rfl)
    (case kkCalmCalm => kernel_rfl)
    (case kkCalmStray => kernel_rfl)
    (case kkCalmDenial => kernel_rfl)
    (case kkStrayCalm => kernel_rfl)
    (case kkStrayStray => kernel_rfl)
    (case kkStrayDenial => kernel_rfl)
    (case kkPaperCalm => kernel_rfl)
    (case kkPaperStray => kernel_rfl)
    (case kkDenialCalm => kernel_rfl)
    (case kkDenialStray => kernel_rfl)
    (case oget => k_is)
    (case otk => k_is)
    (case z_len => k_is)
    (case z_range => k_is)
    (case z_abs => k_is)
    (case z_max => k_is)
    (case z_min => k_is)
    (case z_isinstance => k_is)
    (case z_int => k_is)
    (case z_bool => k_is)
    (case z_list => k_is)
    (case z_tuple => k_is)
    (case z_repr => k_is)
    (case z_zip => k_is)
    (case z_all => k_is)
    (case z_super => k_is)
    (case q_MOST_SIGNS => k_is)
    (case q_MOST_PLACES => k_is)
    (case q_MOST_JUDGED => k_is)
    (case q_EVERY => k_is)
    (case q_FOURTH => k_is)

