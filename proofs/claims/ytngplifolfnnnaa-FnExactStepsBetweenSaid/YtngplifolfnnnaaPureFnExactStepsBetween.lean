/- StepsBetween of the program and of the reference answer alike, for all numbers. -/
import Derived.Test.YtngplifolfnnnaaPFnExactStepsBetweenx1
namespace Go.Proofs.Ytngplifolfnnnaa.Pure
open Go.RowKit Go.Proofs.Ytngplifolfnnnaa.PFnExactStepsBetween Go.Proofs.YtngplifolfnnnaaW.PrintWords Go.Proofs.YtngplifolfnnnaaW.PrintLast Go.Proofs.YtngplifolfnnnaaW.PrintMore
set_option linter.unusedVariables false
set_option linter.unusedSimpArgs false

/- Eventually: with enough rounds the answer is r. -/
theorem ev_now {α : Type} (r : α) : Ev (fun _ => some r) r := Ev.now r
theorem ev_shift {α : Type} {g : Nat → Option α} {r : α} (h : Ev (fun k => g (k + 1)) r) : Ev g r := by
  obtain ⟨K, hK⟩ := h
  exact ⟨K + 1, fun k hk => by
    obtain ⟨m, rfl⟩ : ∃ m, k = m + 1 := ⟨k - 1, by omega⟩
    exact hK m (by omega)⟩
theorem ev_bind {α β : Type} {g : Nat → Option α} {f : Nat → α → Option β} {a : α} {r : β} (h : Ev g a) (k : Ev (fun n => f n a) r) : Ev (fun n => (g n).bind (f n)) r := Ev.bind h k
theorem ev_bind0 {α β : Type} {o : Option α} {f : Nat → α → Option β} {a : α} {r : β} (h : o = some a) (k : Ev (fun n => f n a) r) : Ev (fun n => o.bind (f n)) r := by
  subst h; exact k
theorem ev_pos {α : Type} {A B : Nat → Option α} {r : α} {c : Prop} [Decidable c] (h : c) (k : Ev A r) : Ev (fun n => if c then A n else B n) r := by
  simpa only [if_pos h] using k
theorem ev_neg {α : Type} {A B : Nat → Option α} {r : α} {c : Prop} [Decidable c] (h : ¬ c) (k : Ev B r) : Ev (fun n => if c then A n else B n) r := by
  simpa only [if_neg h] using k
theorem ev_done {α : Type} {o : Option α} {r : α} (h : o = some r) : Ev (fun _ => o) r := ⟨0, fun _ _ => h⟩
theorem ev_eq {α : Type} {g : Nat → Option α} {r r' : α} (h : Ev g r) (e : r = r') : Ev g r' := e ▸ h
theorem ev_rounds {α : Type} {g : Nat → Option α} {r : α} (h : Ev g r) : ∃ k, g k = some r := Ev.rounds h
theorem ev_uniq {α : Type} {g : Nat → Option α} {r r' : α} (h : Ev g r) (h' : Ev g r') : r = r' := by
  obtain ⟨K, hK⟩ := h
  obtain ⟨K', hK'⟩ := h'
  have a := hK (max K K') (Nat.le_max_left _ _)
  have b := hK' (max K K') (Nat.le_max_right _ _)
  rw [a] at b
  exact Option.some.inj b
theorem wf64 {n : Int} (h : (Lit.int .i64 n).wf = true) : -9223372036854775808 ≤ n ∧ n ≤ 9223372036854775807 := by
  have a : IntKind.i64.min = -9223372036854775808 := rfl
  have b : IntKind.i64.max = 9223372036854775807 := rfl
  simp [Lit.wf] at h
  omega
theorem w64 {n : Int} (h : -9223372036854775808 ≤ n) (h' : n ≤ 9223372036854775807) : wrap64 n = n := by
  unfold wrap64; omega
theorem stepsOk_eq (a b c : Int) : impl_StepsOk.f a b c = spec_StepsOk.f a b c := rfl
theorem stepsOk_some (a b c : Int) : ∃ r, spec_StepsOk.f a b c = some r := by
  unfold spec_StepsOk.f spec_l01In.f
  repeat' first
    | exact ⟨_, rfl⟩
    | (simp only [Option.bind_some])
    | split
theorem sb_eq : ∀ k, (∀ x0 x1 x2 x3 x12, impl_StepsBetween.l0 k x0 x1 x2 x3 x12 = spec_StepsBetween.l0 k x0 x1 x2 x3 x12)
    ∧ (∀ x0 x1 x2 x3 x12 x13, impl_StepsBetween.l1 k x0 x1 x2 x3 x12 x13 = spec_StepsBetween.l1 k x0 x1 x2 x3 x12 x13)
    ∧ (∀ x0 x1 x2 x3 x12 x13 x14, impl_StepsBetween.l2 k x0 x1 x2 x3 x12 x13 x14 = spec_StepsBetween.l2 k x0 x1 x2 x3 x12 x13 x14)
  | 0 => ⟨fun _ _ _ _ _ => rfl, fun _ _ _ _ _ _ => rfl, fun _ _ _ _ _ _ _ => rfl⟩
  | k + 1 => by
    obtain ⟨h0, h1, h2⟩ := sb_eq k
    refine ⟨fun _ _ _ _ _ => ?_, fun _ _ _ _ _ _ => ?_, fun _ _ _ _ _ _ _ => ?_⟩
    · simp only [impl_StepsBetween.l0, spec_StepsBetween.l0, h1]
    · simp only [impl_StepsBetween.l1, spec_StepsBetween.l1, h0, h2]
    · simp only [impl_StepsBetween.l2, spec_StepsBetween.l2, h1, h2, stepsOk_eq]
theorem l2_ends (x0 x1 x2 x3 x12 x13 : Int) (h : ∃ r, Ev (fun k => spec_StepsBetween.l1 k x0 x1 x2 x3 x12 (wrap64 (x13 + 1))) r) (d : Nat) :
    ∀ x14 : Int, 0 ≤ x14 → 11 - x14 ≤ d → ∃ r, Ev (fun k => spec_StepsBetween.l2 k x0 x1 x2 x3 x12 x13 x14) r := by
  induction d with
  | zero =>
    intro x14 h0 hd
    obtain ⟨r, hr⟩ := h
    refine ⟨r, ev_shift ?_⟩
    simp only [spec_StepsBetween.l2]
    exact ev_neg (by omega) hr
  | succ d ih =>
    intro x14 h0 hd
    by_cases hle : x14 ≤ 10
    · obtain ⟨r, hr⟩ := ih (x14 + 1) (by omega) (by omega)
      have hw : wrap64 (x14 + 1) = x14 + 1 := w64 (by omega) (by omega)
      obtain ⟨b, hb⟩ := stepsOk_some x12 x13 x14
      have key : ∀ c : Option (Int × Int × Int × Bool), (c = some (x12, x13, x14, true)) → True := fun _ _ => trivial
      by_cases g : b = true ∧ x0 = wrap64 (x12 * x13) ∧ x1 = wrap64 (wrap64 (x12 + 1) * x14) ∧ x2 = wrap64 (wrap64 (x12 + 1) * x13) ∧ x3 = wrap64 (x12 * x14)
      · obtain ⟨g1, g2, g3, g4, g5⟩ := g
        refine ⟨(x12, x13, x14, true), ev_shift ?_⟩
        simp only [spec_StepsBetween.l2]
        refine ev_pos hle ?_
        refine ev_bind0 hb ?_
        exact ev_pos g1 (ev_pos g2 (ev_pos g3 (ev_pos g4 (ev_pos g5 (ev_now _)))))
      · refine ⟨r, ev_shift ?_⟩
        simp only [spec_StepsBetween.l2, hw]
        refine ev_pos hle ?_
        refine ev_bind0 hb ?_
        by_cases g1 : b = true
        · refine ev_pos g1 ?_
          by_cases g2 : x0 = wrap64 (x12 * x13)
          · refine ev_pos g2 ?_
            by_cases g3 : x1 = wrap64 (wrap64 (x12 + 1) * x14)
            · refine ev_pos g3 ?_
              by_cases g4 : x2 = wrap64 (wrap64 (x12 + 1) * x13)
              · refine ev_pos g4 ?_
                by_cases g5 : x3 = wrap64 (x12 * x14)
                · exact absurd ⟨g1, g2, g3, g4, g5⟩ g
                · exact ev_neg g5 hr
              · exact ev_neg g4 hr
            · exact ev_neg g3 hr
          · exact ev_neg g2 hr
        · exact ev_neg g1 hr
    · obtain ⟨r, hr⟩ := h
      refine ⟨r, ev_shift ?_⟩
      simp only [spec_StepsBetween.l2]
      exact ev_neg hle hr
theorem l1_ends (x0 x1 x2 x3 x12 : Int) (h : ∃ r, Ev (fun k => spec_StepsBetween.l0 k x0 x1 x2 x3 (wrap64 (x12 + 1))) r) (d : Nat) :
    ∀ x13 : Int, 0 ≤ x13 → 11 - x13 ≤ d → ∃ r, Ev (fun k => spec_StepsBetween.l1 k x0 x1 x2 x3 x12 x13) r := by
  induction d with
  | zero =>
    intro x13 h0 hd
    obtain ⟨r, hr⟩ := h
    refine ⟨r, ev_shift ?_⟩
    simp only [spec_StepsBetween.l1]
    exact ev_neg (by omega) hr
  | succ d ih =>
    intro x13 h0 hd
    by_cases hle : x13 ≤ 10
    · have hw : wrap64 (x13 + 1) = x13 + 1 := w64 (by omega) (by omega)
      obtain ⟨r, hr⟩ := l2_ends x0 x1 x2 x3 x12 x13 (by rw [hw]; exact ih (x13 + 1) (by omega) (by omega)) 10 1 (by omega) (by omega)
      refine ⟨r, ev_shift ?_⟩
      simp only [spec_StepsBetween.l1]
      exact ev_pos hle hr
    · obtain ⟨r, hr⟩ := h
      refine ⟨r, ev_shift ?_⟩
      simp only [spec_StepsBetween.l1]
      exact ev_neg hle hr
theorem l0_ends (x0 x1 x2 x3 : Int) (d : Nat) : ∀ x12 : Int, 0 ≤ x12 → 4 - x12 ≤ d → ∃ r, Ev (fun k => spec_StepsBetween.l0 k x0 x1 x2 x3 x12) r := by
  induction d with
  | zero =>
    intro x12 h0 hd
    refine ⟨(0, 0, 0, false), ev_shift ?_⟩
    simp only [spec_StepsBetween.l0]
    exact ev_neg (by omega) (ev_now _)
  | succ d ih =>
    intro x12 h0 hd
    by_cases hle : x12 ≤ 3
    · have hw : wrap64 (x12 + 1) = x12 + 1 := w64 (by omega) (by omega)
      obtain ⟨r, hr⟩ := l1_ends x0 x1 x2 x3 x12 (by rw [hw]; exact ih (x12 + 1) (by omega) (by omega)) 10 1 (by omega) (by omega)
      refine ⟨r, ev_shift ?_⟩
      simp only [spec_StepsBetween.l0]
      exact ev_pos hle hr
    · refine ⟨(0, 0, 0, false), ev_shift ?_⟩
      simp only [spec_StepsBetween.l0]
      exact ev_neg hle (ev_now _)
theorem FnExactStepsBetween : laws_FnExactStepsBetween.Pure := by
  intro a b c d _ _ _ _
  obtain ⟨r, hr⟩ := l0_ends a b c d 3 1 (by omega) (by omega)
  have hi : Ev (fun k => impl_StepsBetween.l0 k a b c d 1) r := by
    simp only [(sb_eq _).1]; exact hr
  apply ev_rounds
  unfold laws_FnExactStepsBetween.f impl_StepsBetween.f spec_StepsBetween.f
  refine ev_bind hr ?_
  refine ev_bind hi ?_
  exact ev_pos rfl (ev_pos rfl (ev_pos rfl (ev_neg (by simp) (ev_now _))))

end Go.Proofs.Ytngplifolfnnnaa.Pure
