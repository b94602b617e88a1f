/- SumOfSquares of the program and of the reference answer alike, for all lists of at most 1048576 numbers; for a longer list the law says true. -/
import Derived.Test.YtngplifolfnnnaaPFnExactSumOfSquaresx1
namespace Go.Proofs.Ytngplifolfnnnaa.Pure
open Go.RowKit Go.Proofs.Ytngplifolfnnnaa.PFnExactSumOfSquares Go.Proofs.YtngplifolfnnnaaW.PrintWords Go.Proofs.YtngplifolfnnnaaW.PrintLast Go.Proofs.YtngplifolfnnnaaW.PrintMore
set_option linter.unusedVariables false
set_option linter.unusedSimpArgs false

/- Eventually: with enough rounds the answer is r. -/
theorem ev_now {α : Type} (r : α) : Ev (fun _ => some r) r := Ev.now r
theorem ev_shift {α : Type} {g : Nat → Option α} {r : α} (h : Ev (fun k => g (k + 1)) r) : Ev g r := by
  obtain ⟨K, hK⟩ := h
  exact ⟨K + 1, fun k hk => by
    obtain ⟨m, rfl⟩ : ∃ m, k = m + 1 := ⟨k - 1, by omega⟩
    exact hK m (by omega)⟩
theorem ev_bind {α β : Type} {g : Nat → Option α} {f : Nat → α → Option β} {a : α} {r : β} (h : Ev g a) (k : Ev (fun n => f n a) r) : Ev (fun n => (g n).bind (f n)) r := Ev.bind h k
theorem ev_bind0 {α β : Type} {o : Option α} {f : Nat → α → Option β} {a : α} {r : β} (h : o = some a) (k : Ev (fun n => f n a) r) : Ev (fun n => o.bind (f n)) r := by
  subst h; exact k
theorem ev_pos {α : Type} {A B : Nat → Option α} {r : α} {c : Prop} [Decidable c] (h : c) (k : Ev A r) : Ev (fun n => if c then A n else B n) r := by
  simpa only [if_pos h] using k
theorem ev_neg {α : Type} {A B : Nat → Option α} {r : α} {c : Prop} [Decidable c] (h : ¬ c) (k : Ev B r) : Ev (fun n => if c then A n else B n) r := by
  simpa only [if_neg h] using k
theorem ev_done {α : Type} {o : Option α} {r : α} (h : o = some r) : Ev (fun _ => o) r := ⟨0, fun _ _ => h⟩
theorem ev_eq {α : Type} {g : Nat → Option α} {r r' : α} (h : Ev g r) (e : r = r') : Ev g r' := e ▸ h
theorem ev_rounds {α : Type} {g : Nat → Option α} {r : α} (h : Ev g r) : ∃ k, g k = some r := Ev.rounds h
theorem ev_uniq {α : Type} {g : Nat → Option α} {r r' : α} (h : Ev g r) (h' : Ev g r') : r = r' := by
  obtain ⟨K, hK⟩ := h
  obtain ⟨K', hK'⟩ := h'
  have a := hK (max K K') (Nat.le_max_left _ _)
  have b := hK' (max K K') (Nat.le_max_right _ _)
  rw [a] at b
  exact Option.some.inj b
theorem wf64 {n : Int} (h : (Lit.int .i64 n).wf = true) : -9223372036854775808 ≤ n ∧ n ≤ 9223372036854775807 := by
  have a : IntKind.i64.min = -9223372036854775808 := rfl
  have b : IntKind.i64.max = 9223372036854775807 := rfl
  simp [Lit.wf] at h
  omega
theorem w64 {n : Int} (h : -9223372036854775808 ≤ n) (h' : n ≤ 9223372036854775807) : wrap64 n = n := by
  unfold wrap64; omega
theorem within_eq (a b c : Int) : impl_within.f a b c = some (decide (b ≤ a ∧ a ≤ c)) := by
  unfold impl_within.f; split <;> simp <;> omega
theorem in_eq (a b c : Int) : spec_l01In.f a b c = some (decide (b ≤ a ∧ a ≤ c)) := by
  unfold spec_l01In.f; split <;> simp <;> omega
theorem mx_eq (a b : Int) : mx a b = max a b := by unfold mx; split <;> omega
theorem mn_eq (a b : Int) : mn a b = min a b := by unfold mn; split <;> omega
theorem rd_at (l : List Int) (i : Nat) : rd l (i : Int) = l.getD i 0 := by simp [rd]
theorem eqIntS_from (l : List Int) (hl : (l.length : Int) ≤ 4611686018427387904) (d : Nat) : ∀ i : Int, 0 ≤ i → (l.length : Int) - i ≤ d → Ev (fun k => laws_eqIntS.l0 k l l i) true := by
  induction d with
  | zero =>
    intro i h0 hd
    refine ev_shift ?_
    simp only [laws_eqIntS.l0]
    exact ev_neg (by omega) (ev_now _)
  | succ d ih =>
    intro i h0 hd
    refine ev_shift ?_
    simp only [laws_eqIntS.l0, if_true]
    by_cases hi : i < (l.length : Int)
    · refine ev_pos hi (ev_pos h0 (ev_pos hi ?_))
      rw [w64 (by omega) (by omega)]
      exact ih _ (by omega) (by omega)
    · exact ev_neg hi (ev_now _)
theorem eqIntS_refl (l : List Int) (hl : (l.length : Int) ≤ 4611686018427387904) : Ev (fun k => laws_eqIntS.f k l l) true := by
  unfold laws_eqIntS.f
  exact ev_pos rfl (eqIntS_from l hl l.length 0 (by omega) (by omega))
theorem toIntS_from (l : List Int) (hl : l.length ≤ 1048576) (d : Nat) : ∀ (x : List Int) (i : Nat), x.length = l.length → l.length - i ≤ d → i ≤ l.length → (∀ j, j < i → x[j]? = l[j]?) →
    Ev (fun k => laws_toIntS.l0 k l x i) l := by
  induction d with
  | zero =>
    intro x i hx hd hi hm
    refine ev_shift ?_
    simp only [laws_toIntS.l0]
    have e : x = l := by
      apply List.ext_getElem?
      intro j
      by_cases hj : j < i
      · exact hm j hj
      · rw [List.getElem?_eq_none (by omega), List.getElem?_eq_none (by omega)]
    exact ev_neg (by omega) (ev_eq (ev_now _) e)
  | succ d ih =>
    intro x i hx hd hi hm
    refine ev_shift ?_
    simp only [laws_toIntS.l0]
    by_cases h : i < l.length
    · refine ev_pos (by omega) (ev_pos (by omega) (ev_pos (by omega) ?_))
      rw [w64 (by omega) (by omega)]
      have e2 : ((i : Int) + 1) = ((i + 1 : Nat) : Int) := by omega
      have e3 : ((i : Int)).toNat = i := by omega
      rw [e2, e3, rd_at]
      refine ih _ (i + 1) (by simpa using hx) (by omega) (by omega) ?_
      intro j hj
      rw [List.getElem?_set]
      by_cases e : i = j
      · subst e
        rw [if_pos rfl, if_pos (by omega), List.getD_eq_getElem?_getD, List.getElem?_eq_getElem h]
        rfl
      · rw [if_neg e]; exact hm j (by omega)
    · have e : x = l := by
        apply List.ext_getElem?
        intro j
        by_cases hj : j < i
        · exact hm j hj
        · rw [List.getElem?_eq_none (by omega), List.getElem?_eq_none (by omega)]
      exact ev_neg (by omega) (ev_eq (ev_now _) e)
theorem toIntS_ev (l : List Int) (hl : l.length ≤ 1048576) : Ev (fun k => laws_toIntS.f k l) l := by
  unfold laws_toIntS.f
  refine ev_pos (by omega) (ev_pos (by omega) ?_)
  exact toIntS_from l hl l.length _ 0 (by simp) (by omega) (by omega) (fun j hj => by omega)
theorem held_tail (l : List Int) (hl : l.length ≤ 1048576) :
    Ev (fun k => (laws_toIntS.f k l).bind fun t1 => ((laws_eqIntS.f k l t1).bind fun t2 => (if t2 = true then (some true) else (some false)))) true :=
  ev_bind (toIntS_ev l hl) (ev_bind (eqIntS_refl l (by omega)) (ev_pos rfl (ev_now _)))
theorem sq_eq (k : Nat) : ∀ s l n i, impl_SumOfSquares.l0 k s l n i = spec_SumOfSquares.l0 k s l n i := by
  induction k with
  | zero => intros; rfl
  | succ k ih =>
    intro s l n i
    simp only [impl_SumOfSquares.l0, spec_SumOfSquares.l0, within_eq, in_eq, ih]
theorem sq_ends (l : List Int) (hl : (l.length : Int) ≤ 1000) (d : Nat) : ∀ (s : Int) (i : Int), 0 ≤ i → (l.length : Int) - i ≤ d → ∃ r, Ev (fun k => spec_SumOfSquares.l0 k s l l.length i) r := by
  induction d with
  | zero =>
    intro s i h0 hd
    refine ⟨s, ev_shift ?_⟩
    simp only [spec_SumOfSquares.l0]
    exact ev_neg (by omega) (ev_now _)
  | succ d ih =>
    intro s i h0 hd
    by_cases hi : i < (l.length : Int)
    · by_cases g : decide (0 ≤ rd l i ∧ rd l i ≤ 1000) = true
      · obtain ⟨r, hr⟩ := ih (wrap64 (s + wrap64 (rd l i * rd l i))) (i + 1) (by omega) (by omega)
        refine ⟨r, ev_shift ?_⟩
        simp only [spec_SumOfSquares.l0]
        refine ev_pos hi (ev_pos h0 (ev_pos hi (ev_bind0 (in_eq _ _ _) (ev_pos g ?_))))
        rw [w64 (n := i + 1) (by omega) (by omega)]
        exact hr
      · refine ⟨-1, ev_shift ?_⟩
        simp only [spec_SumOfSquares.l0]
        exact ev_pos hi (ev_pos h0 (ev_pos hi (ev_bind0 (in_eq _ _ _) (ev_neg g (ev_now _)))))
    · refine ⟨s, ev_shift ?_⟩
      simp only [spec_SumOfSquares.l0]
      exact ev_neg hi (ev_now _)
theorem sq_f (l : List Int) : ∃ r, Ev (fun k => spec_SumOfSquares.f k l) r ∧ Ev (fun k => impl_SumOfSquares.f k l) r := by
  by_cases h : (l.length : Int) > 1000
  · refine ⟨-1, ?_, ?_⟩
    · unfold spec_SumOfSquares.f; exact ev_pos h (ev_now _)
    · unfold impl_SumOfSquares.f; exact ev_pos h (ev_now _)
  · obtain ⟨r, hr⟩ := sq_ends l (by omega) l.length 0 0 (by omega) (by omega)
    refine ⟨r, ?_, ?_⟩
    · unfold spec_SumOfSquares.f; exact ev_neg h hr
    · unfold impl_SumOfSquares.f; simp only [sq_eq]; exact ev_neg h hr
theorem FnExactSumOfSquares : laws_FnExactSumOfSquares.Pure := by
  intro l _ _ _
  apply ev_rounds
  unfold laws_FnExactSumOfSquares.f
  by_cases h : (l.length : Int) > 1048576
  · exact ev_pos h (ev_now _)
  · obtain ⟨r, h1, h2⟩ := sq_f l
    refine ev_neg h (ev_bind (toIntS_ev l (by omega)) (ev_bind h1 (ev_bind (toIntS_ev l (by omega)) (ev_bind h2 (ev_pos rfl ?_)))))
    exact held_tail l (by omega)

end Go.Proofs.Ytngplifolfnnnaa.Pure
