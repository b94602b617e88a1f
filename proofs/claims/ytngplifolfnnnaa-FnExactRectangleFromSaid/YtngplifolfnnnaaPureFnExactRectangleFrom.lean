/- RectangleFrom of the program and of the reference answer alike, for all lists of at most 1048576 quotients and all units; for a longer list the law says true. -/
import Derived.Test.YtngplifolfnnnaaPFnExactRectangleFromx2
namespace Go.Proofs.Ytngplifolfnnnaa.Pure
open Go.RowKit Go.Proofs.Ytngplifolfnnnaa.PFnExactRectangleFrom Go.Proofs.YtngplifolfnnnaaW.PrintWords Go.Proofs.YtngplifolfnnnaaW.PrintLast Go.Proofs.YtngplifolfnnnaaW.PrintMore
set_option linter.unusedVariables false
set_option linter.unusedSimpArgs false

/- Eventually: with enough rounds the answer is r. -/
theorem ev_now {α : Type} (r : α) : Ev (fun _ => some r) r := Ev.now r
theorem ev_shift {α : Type} {g : Nat → Option α} {r : α} (h : Ev (fun k => g (k + 1)) r) : Ev g r := by
  obtain ⟨K, hK⟩ := h
  exact ⟨K + 1, fun k hk => by
    obtain ⟨m, rfl⟩ : ∃ m, k = m + 1 := ⟨k - 1, by omega⟩
    exact hK m (by omega)⟩
theorem ev_bind {α β : Type} {g : Nat → Option α} {f : Nat → α → Option β} {a : α} {r : β} (h : Ev g a) (k : Ev (fun n => f n a) r) : Ev (fun n => (g n).bind (f n)) r := Ev.bind h k
theorem ev_bind0 {α β : Type} {o : Option α} {f : Nat → α → Option β} {a : α} {r : β} (h : o = some a) (k : Ev (fun n => f n a) r) : Ev (fun n => o.bind (f n)) r := by
  subst h; exact k
theorem ev_pos {α : Type} {A B : Nat → Option α} {r : α} {c : Prop} [Decidable c] (h : c) (k : Ev A r) : Ev (fun n => if c then A n else B n) r := by
  simpa only [if_pos h] using k
theorem ev_neg {α : Type} {A B : Nat → Option α} {r : α} {c : Prop} [Decidable c] (h : ¬ c) (k : Ev B r) : Ev (fun n => if c then A n else B n) r := by
  simpa only [if_neg h] using k
theorem ev_done {α : Type} {o : Option α} {r : α} (h : o = some r) : Ev (fun _ => o) r := ⟨0, fun _ _ => h⟩
theorem ev_eq {α : Type} {g : Nat → Option α} {r r' : α} (h : Ev g r) (e : r = r') : Ev g r' := e ▸ h
theorem ev_rounds {α : Type} {g : Nat → Option α} {r : α} (h : Ev g r) : ∃ k, g k = some r := Ev.rounds h
theorem ev_uniq {α : Type} {g : Nat → Option α} {r r' : α} (h : Ev g r) (h' : Ev g r') : r = r' := by
  obtain ⟨K, hK⟩ := h
  obtain ⟨K', hK'⟩ := h'
  have a := hK (max K K') (Nat.le_max_left _ _)
  have b := hK' (max K K') (Nat.le_max_right _ _)
  rw [a] at b
  exact Option.some.inj b
theorem wf64 {n : Int} (h : (Lit.int .i64 n).wf = true) : -9223372036854775808 ≤ n ∧ n ≤ 9223372036854775807 := by
  have a : IntKind.i64.min = -9223372036854775808 := rfl
  have b : IntKind.i64.max = 9223372036854775807 := rfl
  simp [Lit.wf] at h
  omega
theorem w64 {n : Int} (h : -9223372036854775808 ≤ n) (h' : n ≤ 9223372036854775807) : wrap64 n = n := by
  unfold wrap64; omega
theorem within_eq (a b c : Int) : impl_within.f a b c = some (decide (b ≤ a ∧ a ≤ c)) := by
  unfold impl_within.f; split <;> simp <;> omega
theorem in_eq (a b c : Int) : spec_l01In.f a b c = some (decide (b ≤ a ∧ a ≤ c)) := by
  unfold spec_l01In.f; split <;> simp <;> omega
theorem mx_eq (a b : Int) : mx a b = max a b := by unfold mx; split <;> omega
theorem mn_eq (a b : Int) : mn a b = min a b := by unfold mn; split <;> omega
theorem rd_at (l : List Int) (i : Nat) : rd l (i : Int) = l.getD i 0 := by simp [rd]
theorem eqIntS_from (l : List Int) (hl : (l.length : Int) ≤ 4611686018427387904) (d : Nat) : ∀ i : Int, 0 ≤ i → (l.length : Int) - i ≤ d → Ev (fun k => laws_eqIntS.l0 k l l i) true := by
  induction d with
  | zero =>
    intro i h0 hd
    refine ev_shift ?_
    simp only [laws_eqIntS.l0]
    exact ev_neg (by omega) (ev_now _)
  | succ d ih =>
    intro i h0 hd
    refine ev_shift ?_
    simp only [laws_eqIntS.l0, if_true]
    by_cases hi : i < (l.length : Int)
    · refine ev_pos hi (ev_pos h0 (ev_pos hi ?_))
      rw [w64 (by omega) (by omega)]
      exact ih _ (by omega) (by omega)
    · exact ev_neg hi (ev_now _)
theorem eqIntS_refl (l : List Int) (hl : (l.length : Int) ≤ 4611686018427387904) : Ev (fun k => laws_eqIntS.f k l l) true := by
  unfold laws_eqIntS.f
  exact ev_pos rfl (eqIntS_from l hl l.length 0 (by omega) (by omega))
theorem toIntS_from (l : List Int) (hl : l.length ≤ 1048576) (d : Nat) : ∀ (x : List Int) (i : Nat), x.length = l.length → l.length - i ≤ d → i ≤ l.length → (∀ j, j < i → x[j]? = l[j]?) →
    Ev (fun k => laws_toIntS.l0 k l x i) l := by
  induction d with
  | zero =>
    intro x i hx hd hi hm
    refine ev_shift ?_
    simp only [laws_toIntS.l0]
    have e : x = l := by
      apply List.ext_getElem?
      intro j
      by_cases hj : j < i
      · exact hm j hj
      · rw [List.getElem?_eq_none (by omega), List.getElem?_eq_none (by omega)]
    exact ev_neg (by omega) (ev_eq (ev_now _) e)
  | succ d ih =>
    intro x i hx hd hi hm
    refine ev_shift ?_
    simp only [laws_toIntS.l0]
    by_cases h : i < l.length
    · refine ev_pos (by omega) (ev_pos (by omega) (ev_pos (by omega) ?_))
      rw [w64 (by omega) (by omega)]
      have e2 : ((i : Int) + 1) = ((i + 1 : Nat) : Int) := by omega
      have e3 : ((i : Int)).toNat = i := by omega
      rw [e2, e3, rd_at]
      refine ih _ (i + 1) (by simpa using hx) (by omega) (by omega) ?_
      intro j hj
      rw [List.getElem?_set]
      by_cases e : i = j
      · subst e
        rw [if_pos rfl, if_pos (by omega), List.getD_eq_getElem?_getD, List.getElem?_eq_getElem h]
        rfl
      · rw [if_neg e]; exact hm j (by omega)
    · have e : x = l := by
        apply List.ext_getElem?
        intro j
        by_cases hj : j < i
        · exact hm j hj
        · rw [List.getElem?_eq_none (by omega), List.getElem?_eq_none (by omega)]
      exact ev_neg (by omega) (ev_eq (ev_now _) e)
theorem toIntS_ev (l : List Int) (hl : l.length ≤ 1048576) : Ev (fun k => laws_toIntS.f k l) l := by
  unfold laws_toIntS.f
  refine ev_pos (by omega) (ev_pos (by omega) ?_)
  exact toIntS_from l hl l.length _ 0 (by simp) (by omega) (by omega) (fun j hj => by omega)
theorem held_tail (l : List Int) (hl : l.length ≤ 1048576) :
    Ev (fun k => (laws_toIntS.f k l).bind fun t1 => ((laws_eqIntS.f k l t1).bind fun t2 => (if t2 = true then (some true) else (some false)))) true :=
  ev_bind (toIntS_ev l hl) (ev_bind (eqIntS_refl l (by omega)) (ev_pos rfl (ev_now _)))
theorem rf_eq (k : Nat) : ∀ x0 x7 x8 x9, impl_RectangleFrom.l0 k x0 x7 x8 x9 = spec_RectangleFrom.l0 k x0 x7 x8 x9 := by
  induction k with
  | zero => intros; rfl
  | succ k ih =>
    intro x0 x7 x8 x9
    simp only [impl_RectangleFrom.l0, spec_RectangleFrom.l0, within_eq, in_eq, ih]
/-- Behind d + 1 quotients the width is at least a Fibonacci number, so that it passes 1000 behind 20. -/
theorem rf_ends (l : List Int) (hl : l.length ≤ 1048576) (d : Nat) : ∀ (a b i : Int), 0 ≤ a → a ≤ 1000 → 0 ≤ b → b ≤ 1000 → i < l.length → i + 1 ≤ d → ∃ r, Ev (fun k => spec_RectangleFrom.l0 k l a b i) r := by
  induction d with
  | zero =>
    intro a b i _ _ _ _ _ hd
    refine ⟨(a, b, true), ev_shift ?_⟩
    simp only [spec_RectangleFrom.l0]
    exact ev_neg (by omega) (ev_now _)
  | succ d ih =>
    intro a b i ha ha' hb hb' hi hd
    by_cases h0 : 0 ≤ i
    · by_cases g : decide (1 ≤ rd l i ∧ rd l i ≤ 1000) = true
      · have g' := of_decide_eq_true g
        have m1 : 0 ≤ rd l i * a := Int.mul_nonneg (by omega) ha
        have m2 : rd l i * a ≤ 1000 * 1000 := by
          calc rd l i * a ≤ 1000 * a := Int.mul_le_mul_of_nonneg_right g'.2 ha
            _ ≤ 1000 * 1000 := Int.mul_le_mul_of_nonneg_left ha' (by omega)
        by_cases c : wrap64 (wrap64 (rd l i * a) + b) > 1000
        · refine ⟨(0, 0, false), ev_shift ?_⟩
          simp only [spec_RectangleFrom.l0]
          exact ev_pos h0 (ev_pos h0 (ev_pos hi (ev_bind0 (in_eq _ _ _) (ev_pos g (ev_pos c (ev_now _))))))
        · have c' := c
          rw [w64 (n := rd l i * a) (by omega) (by omega), w64 (by omega) (by omega)] at c'
          obtain ⟨r, hr⟩ := ih (rd l i * a + b) a (i - 1) (by omega) (by omega) ha ha' (by omega) (by omega)
          refine ⟨r, ev_shift ?_⟩
          simp only [spec_RectangleFrom.l0]
          refine ev_pos h0 (ev_pos h0 (ev_pos hi (ev_bind0 (in_eq _ _ _) (ev_pos g (ev_neg c ?_)))))
          rw [w64 (n := rd l i * a) (by omega) (by omega), w64 (n := rd l i * a + b) (by omega) (by omega), w64 (n := i - 1) (by omega) (by omega)]
          exact hr
      · refine ⟨(0, 0, false), ev_shift ?_⟩
        simp only [spec_RectangleFrom.l0]
        exact ev_pos h0 (ev_pos h0 (ev_pos hi (ev_bind0 (in_eq _ _ _) (ev_neg g (ev_now _)))))
    · refine ⟨(a, b, true), ev_shift ?_⟩
      simp only [spec_RectangleFrom.l0]
      exact ev_neg h0 (ev_now _)
def grow : Nat → Int → Int → Int
  | 0, a, _ => a
  | m + 1, a, b => grow m (a + b) a
theorem rf_false (l : List Int) (hl : l.length ≤ 1048576) (m : Nat) : ∀ (a b A B i : Int), 0 ≤ A → 0 ≤ B → A ≤ a → B ≤ b → a ≤ 1000 → b ≤ 1000 → i < l.length → m ≤ i + 1 → grow m A B > 1000 →
    Ev (fun k => spec_RectangleFrom.l0 k l a b i) (0, 0, false) := by
  induction m with
  | zero => intro a b A B i _ _ _ _ _ _ _ _ hg; simp only [grow] at hg; omega
  | succ m ih =>
    intro a b A B i hA hB ha hb ha' hb' hi hm hg
    refine ev_shift ?_
    simp only [spec_RectangleFrom.l0]
    refine ev_pos (by omega) (ev_pos (by omega) (ev_pos hi (ev_bind0 (in_eq _ _ _) ?_)))
    by_cases g : decide (1 ≤ rd l i ∧ rd l i ≤ 1000) = true
    · refine ev_pos g ?_
      have g' := of_decide_eq_true g
      have m1 : a ≤ rd l i * a := by
        have := Int.mul_le_mul_of_nonneg_right g'.1 (show 0 ≤ a by omega)
        omega
      have m2 : rd l i * a ≤ 1000 * 1000 := by
        calc rd l i * a ≤ 1000 * a := Int.mul_le_mul_of_nonneg_right g'.2 (by omega)
          _ ≤ 1000 * 1000 := Int.mul_le_mul_of_nonneg_left ha' (by omega)
      rw [w64 (n := rd l i * a) (by omega) (by omega), w64 (n := rd l i * a + b) (by omega) (by omega), w64 (n := i - 1) (by omega) (by omega)]
      by_cases c : rd l i * a + b > 1000
      · exact ev_pos c (ev_now _)
      · refine ev_neg c ?_
        simp only [grow] at hg
        exact ih _ _ (A + B) A _ (by omega) hA (by omega) ha (by omega) ha' (by omega) (by omega) hg
    · exact ev_neg g (ev_now _)
theorem rf_first (l : List Int) (hl : l.length ≤ 1048576) (hn : 20 < l.length) (u : Int) (hu : 1 ≤ u) (hu' : u ≤ 1000) (hlast : rd l ((l.length : Int) - 1) ≠ 1) :
    Ev (fun k => spec_RectangleFrom.l0 k l u 0 ((l.length : Int) - 1)) (0, 0, false) := by
  refine ev_shift ?_
  simp only [spec_RectangleFrom.l0]
  refine ev_pos (by omega) (ev_pos (by omega) (ev_pos (by omega) (ev_bind0 (in_eq _ _ _) ?_)))
  by_cases g : decide (1 ≤ rd l ((l.length : Int) - 1) ∧ rd l ((l.length : Int) - 1) ≤ 1000) = true
  · refine ev_pos g ?_
    have g' := of_decide_eq_true g
    generalize hq : rd l ((l.length : Int) - 1) = q at *
    have m1 : 2 * u ≤ q * u := Int.mul_le_mul_of_nonneg_right (show 2 ≤ q by omega) (by omega)
    have m2 : q * u ≤ 1000 * 1000 := by
      calc q * u ≤ 1000 * u := Int.mul_le_mul_of_nonneg_right g'.2 (by omega)
        _ ≤ 1000 * 1000 := Int.mul_le_mul_of_nonneg_left hu' (by omega)
    rw [w64 (n := q * u) (by omega) (by omega), w64 (n := q * u + 0) (by omega) (by omega), w64 (n := (l.length : Int) - 1 - 1) (by omega) (by omega)]
    by_cases c : q * u + 0 > 1000
    · exact ev_pos c (ev_now _)
    · refine ev_neg c ?_
      exact rf_false l hl 14 _ _ 2 1 _ (by omega) (by omega) (by omega) (by omega) (by omega) (by omega) (by omega) (by omega) (by decide)
  · exact ev_neg g (ev_now _)
theorem spec_j0t (l : List Int) (u : Int) : Ev (fun k => spec_RectangleFrom.j0 k l u true) (0, 0, false) := by
  refine ev_shift ?_
  simp only [spec_RectangleFrom.j0]
  exact ev_pos (by simp) (ev_now _)
theorem impl_j0t (l : List Int) (u n : Int) : Ev (fun k => impl_RectangleFrom.j0 k l u n true) (0, 0, false) := by
  refine ev_shift ?_
  simp only [impl_RectangleFrom.j0]
  exact ev_pos (by simp) (ev_now _)
theorem impl_j0f (l : List Int) (hl : l.length ≤ 1048576) (u : Int) {r : Int × Int × Bool} (h : Ev (fun k => spec_RectangleFrom.l0 k l u 0 ((l.length : Int) - 1)) r) : Ev (fun k => impl_RectangleFrom.j0 k l u l.length false) r := by
  refine ev_shift ?_
  simp only [impl_RectangleFrom.j0, rf_eq]
  rw [w64 (by omega) (by omega)]
  exact ev_neg (by simp) h
theorem rf_f (l : List Int) (hl : l.length ≤ 1048576) (u : Int) : ∃ r, Ev (fun k => spec_RectangleFrom.f k l u) r ∧ Ev (fun k => impl_RectangleFrom.f k l u) r := by
  unfold spec_RectangleFrom.f impl_RectangleFrom.f
  have hw : wrap64 ((l.length : Int) - 1) = (l.length : Int) - 1 := w64 (by omega) (by omega)
  rw [hw]
  by_cases h0 : (l.length : Int) = 0
  · exact ⟨_, ev_pos h0 (spec_j0t l u), ev_pos h0 (impl_j0t _ _ _)⟩
  by_cases hu : decide (1 ≤ u ∧ u ≤ 1000) = true
  · have hu' := of_decide_eq_true hu
    by_cases hbig : (l.length : Int) > 20
    · refine ⟨_, ev_neg h0 (ev_pos hbig (spec_j0t l u)), ev_neg h0 (ev_pos (by omega) (ev_pos (by omega) (ev_pos (by omega) ?_)))⟩
      by_cases h1 : rd l ((l.length : Int) - 1) = 1
      · exact ev_pos h1 (impl_j0t _ _ _)
      · refine ev_neg h1 (ev_bind0 (within_eq _ _ _) ?_)
        simp only [hu, Bool.not_true]
        exact impl_j0f l hl u (rf_first l hl (by omega) u hu'.1 hu'.2 h1)
    · by_cases hone : (l.length : Int) > 1
      · by_cases h1 : rd l ((l.length : Int) - 1) = 1
        · refine ⟨(0, 0, false), ev_neg h0 (ev_neg hbig (ev_bind0 (in_eq _ _ _) (ev_shift ?_))), ev_neg h0 (ev_pos hone (ev_pos (by omega) (ev_pos (by omega) (ev_pos h1 (impl_j0t _ _ _)))))⟩
          simp only [spec_RectangleFrom.j0, hu, hw, Bool.not_true]
          refine ev_neg (by simp) (ev_pos hone (ev_pos (by omega) (ev_pos (by omega) (ev_shift ?_))))
          simp only [spec_RectangleFrom.j1]
          exact ev_pos (by simp [h1]) (ev_now _)
        · obtain ⟨r, hr⟩ := rf_ends l hl l.length u 0 ((l.length : Int) - 1) (by omega) (by omega) (by omega) (by omega) (by omega) (by omega)
          refine ⟨r, ev_neg h0 (ev_neg hbig (ev_bind0 (in_eq _ _ _) (ev_shift ?_))), ev_neg h0 (ev_pos hone (ev_pos (by omega) (ev_pos (by omega) (ev_neg h1 (ev_bind0 (within_eq _ _ _) ?_)))))⟩
          · simp only [spec_RectangleFrom.j0, hu, hw, Bool.not_true]
            refine ev_neg (by simp) (ev_pos hone (ev_pos (by omega) (ev_pos (by omega) (ev_shift ?_))))
            simp only [spec_RectangleFrom.j1, hw]
            exact ev_neg (by simp [h1]) hr
          · simp only [hu, Bool.not_true]
            exact impl_j0f l hl u hr
      · obtain ⟨r, hr⟩ := rf_ends l hl l.length u 0 ((l.length : Int) - 1) (by omega) (by omega) (by omega) (by omega) (by omega) (by omega)
        refine ⟨r, ev_neg h0 (ev_neg hbig (ev_bind0 (in_eq _ _ _) (ev_shift ?_))), ev_neg h0 (ev_neg hone (ev_bind0 (within_eq _ _ _) ?_))⟩
        · simp only [spec_RectangleFrom.j0, hu, hw, Bool.not_true]
          refine ev_neg (by simp) (ev_neg hone (ev_shift ?_))
          simp only [spec_RectangleFrom.j1, hw]
          exact ev_neg (by simp) hr
        · simp only [hu, Bool.not_true]
          exact impl_j0f l hl u hr
  · have hu' : decide (1 ≤ u ∧ u ≤ 1000) = false := by simpa using hu
    refine ⟨(0, 0, false), ?_, ?_⟩
    · refine ev_neg h0 ?_
      by_cases hbig : (l.length : Int) > 20
      · exact ev_pos hbig (spec_j0t l u)
      · refine ev_neg hbig (ev_bind0 (in_eq _ _ _) ?_)
        simp only [hu', Bool.not_false]
        exact spec_j0t l u
    · refine ev_neg h0 ?_
      by_cases hone : (l.length : Int) > 1
      · refine ev_pos hone (ev_pos (by omega) (ev_pos (by omega) ?_))
        by_cases h1 : rd l ((l.length : Int) - 1) = 1
        · exact ev_pos h1 (impl_j0t _ _ _)
        · refine ev_neg h1 (ev_bind0 (within_eq _ _ _) ?_)
          simp only [hu', Bool.not_false]
          exact impl_j0t _ _ _
      · refine ev_neg hone (ev_bind0 (within_eq _ _ _) ?_)
        simp only [hu', Bool.not_false]
        exact impl_j0t _ _ _
theorem FnExactRectangleFrom : laws_FnExactRectangleFrom.Pure := by
  intro l u _ _ _ _
  apply ev_rounds
  unfold laws_FnExactRectangleFrom.f
  by_cases h : (l.length : Int) > 1048576
  · exact ev_pos h (ev_now _)
  · obtain ⟨r, h1, h2⟩ := rf_f l (by omega) u
    refine ev_neg h (ev_bind (toIntS_ev l (by omega)) (ev_bind h1 (ev_bind (toIntS_ev l (by omega)) (ev_bind h2 (ev_pos rfl (ev_pos rfl (ev_shift ?_)))))))
    simp only [laws_FnExactRectangleFrom.j0]
    exact ev_neg (by simp) (held_tail l (by omega))

end Go.Proofs.Ytngplifolfnnnaa.Pure
