/- ChainOfSteps of the program and of the reference answer alike, for all numbers. -/
import Derived.Test.YtecghgagjghleaaQFnExactChainOfStepsx3
namespace Go.Proofs.Ytecghgagjghleaa.Pure
open Go.RowKit Go.Proofs.Ytecghgagjghleaa.QFnExactChainOfSteps Go.Proofs.YtecghgagjghleaaW.PrintWords Go.Proofs.YtecghgagjghleaaW.PrintLast Go.Proofs.YtecghgagjghleaaW.PrintMore
set_option linter.unusedVariables false
set_option linter.unusedSimpArgs false

/- Eventually: with enough rounds the answer is r. -/
theorem ev_now {α : Type} (r : α) : Ev (fun _ => some r) r := Ev.now r
theorem ev_shift {α : Type} {g : Nat → Option α} {r : α} (h : Ev (fun k => g (k + 1)) r) : Ev g r := by
  obtain ⟨K, hK⟩ := h
  exact ⟨K + 1, fun k hk => by
    obtain ⟨m, rfl⟩ : ∃ m, k = m + 1 := ⟨k - 1, by omega⟩
    exact hK m (by omega)⟩
theorem ev_bind {α β : Type} {g : Nat → Option α} {f : Nat → α → Option β} {a : α} {r : β} (h : Ev g a) (k : Ev (fun n => f n a) r) : Ev (fun n => (g n).bind (f n)) r := Ev.bind h k
theorem ev_bind0 {α β : Type} {o : Option α} {f : Nat → α → Option β} {a : α} {r : β} (h : o = some a) (k : Ev (fun n => f n a) r) : Ev (fun n => o.bind (f n)) r := by
  subst h; exact k
theorem ev_pos {α : Type} {A B : Nat → Option α} {r : α} {c : Prop} [Decidable c] (h : c) (k : Ev A r) : Ev (fun n => if c then A n else B n) r := by
  simpa only [if_pos h] using k
theorem ev_neg {α : Type} {A B : Nat → Option α} {r : α} {c : Prop} [Decidable c] (h : ¬ c) (k : Ev B r) : Ev (fun n => if c then A n else B n) r := by
  simpa only [if_neg h] using k
theorem ev_done {α : Type} {o : Option α} {r : α} (h : o = some r) : Ev (fun _ => o) r := ⟨0, fun _ _ => h⟩
theorem ev_eq {α : Type} {g : Nat → Option α} {r r' : α} (h : Ev g r) (e : r = r') : Ev g r' := e ▸ h
theorem ev_rounds {α : Type} {g : Nat → Option α} {r : α} (h : Ev g r) : ∃ k, g k = some r := Ev.rounds h
theorem ev_uniq {α : Type} {g : Nat → Option α} {r r' : α} (h : Ev g r) (h' : Ev g r') : r = r' := by
  obtain ⟨K, hK⟩ := h
  obtain ⟨K', hK'⟩ := h'
  have a := hK (max K K') (Nat.le_max_left _ _)
  have b := hK' (max K K') (Nat.le_max_right _ _)
  rw [a] at b
  exact Option.some.inj b
theorem wf64 {n : Int} (h : (Lit.int .i64 n).wf = true) : -9223372036854775808 ≤ n ∧ n ≤ 9223372036854775807 := by
  have a : IntKind.i64.min = -9223372036854775808 := rfl
  have b : IntKind.i64.max = 9223372036854775807 := rfl
  simp [Lit.wf] at h
  omega
theorem w64 {n : Int} (h : -9223372036854775808 ≤ n) (h' : n ≤ 9223372036854775807) : wrap64 n = n := by
  unfold wrap64; omega
theorem wadd (a b : Nat) (h : a + b < 1000000000000) : wrap64 ((a : Int) + (b : Int)) = ((a + b : Nat) : Int) := by
  rw [w64 (by omega) (by omega)]; omega
theorem wsucc (a : Nat) (h : a < 1000000000000) : wrap64 ((a : Int) + 1) = ((a + 1 : Nat) : Int) := by
  rw [w64 (by omega) (by omega)]; omega
theorem wsmall (n : Int) (h : -1000000000000 ≤ n ∧ n ≤ 1000000000000) : wrap64 n = n := w64 (by omega) (by omega)
theorem chain_mul {n a : Int} (hn : 1 ≤ n ∧ n ≤ 3) (ha : 1 ≤ a ∧ a ≤ 10) : wrap64 (n * a) = n * a ∧ wrap64 (wrap64 (n + 1) * a) = (n + 1) * a := by
  obtain rfl | rfl | rfl : n = 1 ∨ n = 2 ∨ n = 3 := by omega
  · have h : wrap64 (1 + 1) = 2 := wsmall _ (by omega)
    rw [h, wsmall _ (by omega), wsmall _ (by omega)]; omega
  · have h : wrap64 (2 + 1) = 3 := wsmall _ (by omega)
    rw [h, wsmall _ (by omega), wsmall _ (by omega)]; omega
  · have h : wrap64 (3 + 1) = 4 := wsmall _ (by omega)
    rw [h, wsmall _ (by omega), wsmall _ (by omega)]; omega
theorem chain_in {n lo hi : Int} (h : lo ≤ n ∧ n ≤ hi) : impl_within.f n lo hi = some true := by
  unfold impl_within.f
  rw [if_pos h.1, decide_eq_true h.2]
theorem chain_ok {n a b : Int} (hn : 1 ≤ n ∧ n ≤ 3) (ha : 1 ≤ a ∧ a ≤ 10) (hb : 1 ≤ b ∧ b ≤ 10) : impl_StepsOk.f n a b = some true := by
  have hm : 1 ≤ mx a b ∧ mx a b ≤ 10 := by unfold mx; split <;> omega
  unfold impl_StepsOk.f
  rw [chain_in hn, chain_in ha, chain_in hb]
  simp only [Option.bind_some, if_true, (chain_mul hn hm).2]
  congr 1
  apply decide_eq_true
  obtain rfl | rfl | rfl : n = 1 ∨ n = 2 ∨ n = 3 := by omega <;> omega
  all_goals omega
theorem chain_okS {n a b : Int} (hn : 1 ≤ n ∧ n ≤ 3) (ha : 1 ≤ a ∧ a ≤ 10) (hb : 1 ≤ b ∧ b ≤ 10) : spec_StepsOk.f n a b = some true := chain_ok hn ha hb
/-! the program: a visit of one rectangle -/
abbrev ChX := List ((Int × Int) × Int) × List (Int × Int)
def stp (now p q : Int × Int) (X : ChX) : ChX := if p = now ∧ fget X.1 q = none then ((q, wrap64 ((fget X.1 now).getD 0 + 1)) :: X.1, X.2 ++ [q]) else X
theorem stp_len (now p q : Int × Int) (X : ChX) : (stp now p q X).1.length ≤ X.1.length + 1 ∧ (stp now p q X).2.length ≤ X.2.length + 1 := by
  unfold stp
  split <;> simp
def stp2 (now : Int × Int) (n a b : Int) (X : ChX) : ChX := stp now (chQ n a b) (chP n a b) (stp now (chP n a b) (chQ n a b) X)
theorem stp2_len (now : Int × Int) (n a b : Int) (X : ChX) : (stp2 now n a b X).1.length ≤ X.1.length + 2 ∧ (stp2 now n a b X).2.length ≤ X.2.length + 2 := by
  have h1 := stp_len now (chP n a b) (chQ n a b) X
  have h2 := stp_len now (chQ n a b) (chP n a b) (stp now (chP n a b) (chQ n a b) X)
  unfold stp2
  omega
def fB (now : Int × Int) (n a : Int) : Nat → Int → ChX → ChX
  | 0, _, X => X
  | d + 1, b, X => fB now n a d (b + 1) (stp2 now n a b X)
theorem fB_len (now : Int × Int) (n a : Int) : ∀ d b X, (fB now n a d b X).1.length ≤ X.1.length + 2 * d ∧ (fB now n a d b X).2.length ≤ X.2.length + 2 * d
  | 0, _, _ => by simp [fB]
  | d + 1, b, X => by
    have h1 := stp2_len now n a b X
    have h2 := fB_len now n a d (b + 1) (stp2 now n a b X)
    unfold fB
    omega
def fA (now : Int × Int) (n : Int) : Nat → Int → ChX → ChX
  | 0, _, X => X
  | d + 1, a, X => fA now n d (a + 1) (fB now n a 10 1 X)
theorem fA_len (now : Int × Int) (n : Int) : ∀ d a X, (fA now n d a X).1.length ≤ X.1.length + 20 * d ∧ (fA now n d a X).2.length ≤ X.2.length + 20 * d
  | 0, _, _ => by simp [fA]
  | d + 1, a, X => by
    have h1 := fB_len now n a 10 1 X
    have h2 := fA_len now n d (a + 1) (fB now n a 10 1 X)
    unfold fA
    omega
def fN (now : Int × Int) : Nat → Int → ChX → ChX
  | 0, _, X => X
  | d + 1, n, X => fN now d (n + 1) (fA now n 10 1 X)
theorem fN_len (now : Int × Int) : ∀ d n X, (fN now d n X).1.length ≤ X.1.length + 200 * d ∧ (fN now d n X).2.length ≤ X.2.length + 200 * d
  | 0, _, _ => by simp [fN]
  | d + 1, n, X => by
    have h1 := fA_len now n 10 1 X
    have h2 := fN_len now d (n + 1) (fA now n 10 1 X)
    unfold fN
    omega
theorem l8_ev (s : Int) (now : Int × Int) (n a b r : Int) (X : ChX) (h1 : X.1.length < 900000) (h2 : X.2.length < 900000) (h : Ev (fun k => impl_ChainOfSteps.l6 k s now (stp2 now n a b X).1 (stp2 now n a b X).2 n a (wrap64 (b + 1))) r) : Ev (fun k => impl_ChainOfSteps.l8 k s now X.1 X.2 n a b 0) r := by
  have e1 : wrap64 ((0 : Int) + 1) = 1 := wsmall _ (by omega)
  have e2 : wrap64 ((1 : Int) + 1) = 2 := wsmall _ (by omega)
  obtain ⟨Y, hY⟩ : ∃ Y, Y = stp now (chP n a b) (chQ n a b) X := ⟨_, rfl⟩
  have hl := stp_len now (chP n a b) (chQ n a b) X
  rw [← hY] at hl
  have g : Ev (fun k => impl_ChainOfSteps.l8 k s now Y.1 Y.2 n a b 1) r := by
    refine ev_shift ?_
    simp only [impl_ChainOfSteps.l8, show ((1 : Int) = 0) = False from eq_false (by omega), if_false, e2]
    refine ev_pos (by omega) (ev_pos ⟨by omega, by omega, by omega⟩ ?_)
    have z : ∀ Z : ChX, Z = stp2 now n a b X → Ev (fun k => impl_ChainOfSteps.l8 k s now Z.1 Z.2 n a b 2) r := fun Z hZ => by
      subst hZ
      refine ev_shift ?_
      simp only [impl_ChainOfSteps.l8]
      exact ev_neg (by omega) h
    by_cases c : chQ n a b = now ∧ fget Y.1 (chP n a b) = none
    · exact ev_pos c (z ((chP n a b, wrap64 ((fget Y.1 now).getD 0 + 1)) :: Y.1, Y.2 ++ [chP n a b]) (by unfold stp2; rw [← hY]; unfold stp; rw [if_pos c]))
    · exact ev_neg c (z Y (by unfold stp2; rw [← hY]; unfold stp; rw [if_neg c]))
  refine ev_shift ?_
  simp only [impl_ChainOfSteps.l8, if_true, e1]
  refine ev_pos (by omega) (ev_pos ⟨by omega, by omega, by omega⟩ ?_)
  by_cases c : chP n a b = now ∧ fget X.1 (chQ n a b) = none
  · refine ev_pos c ?_
    have hY' : Y = ((chQ n a b, wrap64 ((fget X.1 now).getD 0 + 1)) :: X.1, X.2 ++ [chQ n a b]) := by rw [hY]; unfold stp; rw [if_pos c]
    rw [hY'] at g
    exact g
  · refine ev_neg c ?_
    have hY' : Y = X := by rw [hY]; unfold stp; rw [if_neg c]
    rw [hY'] at g
    exact g
theorem l6_ev (s : Int) (now : Int × Int) (n a r : Int) (hn : 1 ≤ n ∧ n ≤ 3) (ha : 1 ≤ a ∧ a ≤ 10) : ∀ (d : Nat) (b : Int) (X : ChX), 1 ≤ b → b + d = 11 → X.1.length + 2 * d < 900000 → X.2.length + 2 * d < 900000 →
    Ev (fun k => impl_ChainOfSteps.l4 k s now (fB now n a d b X).1 (fB now n a d b X).2 n (wrap64 (a + 1))) r → Ev (fun k => impl_ChainOfSteps.l6 k s now X.1 X.2 n a b) r
  | 0, b, X, h0, h1, _, _, h => by
    refine ev_shift ?_
    simp only [impl_ChainOfSteps.l6]
    exact ev_neg (by omega) h
  | d + 1, b, X, h0, h1, h2, h3, h => by
    have hl := stp2_len now n a b X
    have g := l6_ev s now n a r hn ha d (b + 1) (stp2 now n a b X) (by omega) (by omega) (by omega) (by omega) h
    refine ev_shift ?_
    simp only [impl_ChainOfSteps.l6]
    refine ev_pos (by omega) (ev_bind0 (chain_ok hn ha (by omega)) (ev_pos rfl ?_))
    refine l8_ev s now n a b r X (by omega) (by omega) ?_
    rw [wsmall (b + 1) (by omega)]
    exact g
theorem l4_ev (s : Int) (now : Int × Int) (n r : Int) (hn : 1 ≤ n ∧ n ≤ 3) : ∀ (d : Nat) (a : Int) (X : ChX), 1 ≤ a → a + d = 11 → X.1.length + 20 * d < 800000 → X.2.length + 20 * d < 800000 →
    Ev (fun k => impl_ChainOfSteps.l2 k s now (fA now n d a X).1 (fA now n d a X).2 (wrap64 (n + 1))) r → Ev (fun k => impl_ChainOfSteps.l4 k s now X.1 X.2 n a) r
  | 0, a, X, h0, h1, _, _, h => by
    refine ev_shift ?_
    simp only [impl_ChainOfSteps.l4]
    exact ev_neg (by omega) h
  | d + 1, a, X, h0, h1, h2, h3, h => by
    have hl := fB_len now n a 10 1 X
    have g := l4_ev s now n r hn d (a + 1) (fB now n a 10 1 X) (by omega) (by omega) (by omega) (by omega) h
    refine ev_shift ?_
    simp only [impl_ChainOfSteps.l4]
    refine ev_pos (by omega) (l6_ev s now n a r hn (by omega) 10 1 X (by omega) (by omega) (by omega) (by omega) ?_)
    rw [wsmall (a + 1) (by omega)]
    exact g
theorem l2_ev (s : Int) (now : Int × Int) (r : Int) : ∀ (d : Nat) (n : Int) (X : ChX), 1 ≤ n → n + d = 4 → X.1.length + 200 * d < 700000 → X.2.length + 200 * d < 700000 →
    Ev (fun k => impl_ChainOfSteps.l0 k s (fN now d n X).1 (fN now d n X).2) r → Ev (fun k => impl_ChainOfSteps.l2 k s now X.1 X.2 n) r
  | 0, n, X, h0, h1, _, _, h => by
    refine ev_shift ?_
    simp only [impl_ChainOfSteps.l2]
    exact ev_neg (by omega) h
  | d + 1, n, X, h0, h1, h2, h3, h => by
    have hl := fA_len now n 10 1 X
    have g := l2_ev s now r d (n + 1) (fA now n 10 1 X) (by omega) (by omega) (by omega) (by omega) h
    refine ev_shift ?_
    simp only [impl_ChainOfSteps.l2]
    refine ev_pos (by omega) (l4_ev s now n r (by omega) 10 1 X (by omega) (by omega) (by omega) (by omega) ?_)
    rw [wsmall (n + 1) (by omega)]
    exact g
def iB (s : Int) : Nat → ChX → Option Int
  | 0, _ => none
  | _ + 1, (_, []) => some (-1)
  | m + 1, (F, now :: T) => if now.1 = s ∧ now.2 = s then some ((fget F now).getD 0) else iB s m (fN now 3 1 (F, T))
theorem l0_ev (s r : Int) : ∀ (m : Nat) (X : ChX), X.1.length + 600 * m < 600000 → X.2.length + 600 * m < 600000 → iB s m X = some r → Ev (fun k => impl_ChainOfSteps.l0 k s X.1 X.2) r
  | 0, _, _, _, h => by simp [iB] at h
  | m + 1, (F, []), h1, h2, h => by
    obtain rfl : -1 = r := Option.some.inj h
    refine ev_shift ?_
    simp only [impl_ChainOfSteps.l0]
    exact ev_neg (by simp) (ev_now _)
  | m + 1, (F, now :: T), h1, h2, h => by
    unfold iB at h
    have hd : rd28 (now :: T) 0 = now := rfl
    refine ev_shift ?_
    simp only [impl_ChainOfSteps.l0, hd, List.drop_succ_cons, List.drop_zero]
    refine ev_pos (by simp) ?_
    by_cases c : now.1 = s ∧ now.2 = s
    · rw [if_pos c] at h
      exact ev_pos c (ev_done h)
    · rw [if_neg c] at h
      simp only [List.length_cons] at h2
      rw [Nat.mul_succ, ← Nat.add_assoc] at h1 h2
      have h1' : F.length + 600 * m + 600 < 600000 := h1
      have q1 : ((F, T) : ChX).1.length + 200 * 3 < 700000 := by
        show F.length + 600 < 700000
        clear h h1 h2 c hd
        omega
      have q2 : ((F, T) : ChX).2.length + 200 * 3 < 700000 := by
        show T.length + 600 < 700000
        clear h h1 h1' c hd
        omega
      obtain ⟨Y, hY⟩ : ∃ Y : ChX, Y = fN now 3 1 (F, T) := ⟨_, rfl⟩
      have hl : (fN now 3 1 (F, T)).1.length ≤ F.length + 200 * 3 ∧ (fN now 3 1 (F, T)).2.length ≤ T.length + 200 * 3 := fN_len now 3 1 (F, T)
      rw [← hY] at hl h
      have g := l0_ev s r m Y (by omega) (by omega) h
      rw [hY] at g
      exact ev_neg c (l2_ev s now r 3 1 (F, T) (by omega) (by omega) q1 q2 g)
/-! the reference -/
def sbM (x X y Y n a b : Int) : Prop := x = n * a ∧ X = (n + 1) * b ∧ y = (n + 1) * a ∧ Y = n * b
instance (x X y Y n a b : Int) : Decidable (sbM x X y Y n a b) := by unfold sbM; exact inferInstance
theorem sb2 (x X y Y n a : Int) (hn : 1 ≤ n ∧ n ≤ 3) (ha : 1 ≤ a ∧ a ≤ 10) (C : Prop) (h : ∃ r, Ev (fun k => spec_StepsBetween.l1 k x X y Y n (wrap64 (a + 1))) r ∧ (r.2.2.2 = true ↔ C)) : ∀ (d : Nat) (b : Int), 1 ≤ b → b + d = 11 →
    ∃ r, Ev (fun k => spec_StepsBetween.l2 k x X y Y n a b) r ∧ (r.2.2.2 = true ↔ (∃ b', b ≤ b' ∧ b' ≤ 10 ∧ sbM x X y Y n a b') ∨ C)
  | 0, b, h0, h1 => by
    obtain ⟨r, hr, hC⟩ := h
    refine ⟨r, ev_shift ?_, hC.trans ⟨.inr, fun z => z.elim (fun ⟨b', z1, z2, _⟩ => absurd z2 (by omega)) id⟩⟩
    simp only [spec_StepsBetween.l2]
    exact ev_neg (by omega) hr
  | d + 1, b, h0, h1 => by
    obtain ⟨r, hr, hC⟩ := sb2 x X y Y n a hn ha C h d (b + 1) (by omega) (by omega)
    have hw : wrap64 (b + 1) = b + 1 := wsmall _ (by omega)
    by_cases g : sbM x X y Y n a b
    · refine ⟨(n, a, b, true), ev_shift ?_, ⟨fun _ => .inl ⟨b, by omega, by omega, g⟩, fun _ => rfl⟩⟩
      simp only [spec_StepsBetween.l2, (chain_mul hn ha).1, (chain_mul hn ha).2, (chain_mul (a := b) hn (by omega)).1, (chain_mul (a := b) hn (by omega)).2]
      refine ev_pos (by omega) (ev_bind0 (chain_okS hn ha (by omega)) (ev_pos rfl ?_))
      exact ev_pos g.1 (ev_pos g.2.1 (ev_pos g.2.2.1 (ev_pos g.2.2.2 (ev_now _))))
    · refine ⟨r, ev_shift ?_, hC.trans ⟨fun z => z.elim (fun ⟨b', z1, z2, z3⟩ => .inl ⟨b', by omega, z2, z3⟩) .inr, fun z => z.elim (fun ⟨b', z1, z2, z3⟩ => ?_) .inr⟩⟩
      · simp only [spec_StepsBetween.l2, (chain_mul hn ha).1, (chain_mul hn ha).2, (chain_mul (a := b) hn (by omega)).1, (chain_mul (a := b) hn (by omega)).2, hw]
        refine ev_pos (by omega) (ev_bind0 (chain_okS hn ha (by omega)) (ev_pos rfl ?_))
        by_cases g2 : x = n * a
        · refine ev_pos g2 ?_
          by_cases g3 : X = (n + 1) * b
          · refine ev_pos g3 ?_
            by_cases g4 : y = (n + 1) * a
            · refine ev_pos g4 ?_
              by_cases g5 : Y = n * b
              · exact absurd ⟨g2, g3, g4, g5⟩ g
              · exact ev_neg g5 hr
            · exact ev_neg g4 hr
          · exact ev_neg g3 hr
        · exact ev_neg g2 hr
      · by_cases e : b' = b
        · exact absurd (e ▸ z3) g
        · exact .inl ⟨b', by omega, z2, z3⟩
theorem sb1 (x X y Y n : Int) (hn : 1 ≤ n ∧ n ≤ 3) (C : Prop) (h : ∃ r, Ev (fun k => spec_StepsBetween.l0 k x X y Y (wrap64 (n + 1))) r ∧ (r.2.2.2 = true ↔ C)) : ∀ (d : Nat) (a : Int), 1 ≤ a → a + d = 11 →
    ∃ r, Ev (fun k => spec_StepsBetween.l1 k x X y Y n a) r ∧ (r.2.2.2 = true ↔ (∃ a' b', a ≤ a' ∧ a' ≤ 10 ∧ 1 ≤ b' ∧ b' ≤ 10 ∧ sbM x X y Y n a' b') ∨ C)
  | 0, a, h0, h1 => by
    obtain ⟨r, hr, hC⟩ := h
    refine ⟨r, ev_shift ?_, hC.trans ⟨.inr, fun z => z.elim (fun ⟨a', b', z1, z2, _⟩ => absurd z2 (by omega)) id⟩⟩
    simp only [spec_StepsBetween.l1]
    exact ev_neg (by omega) hr
  | d + 1, a, h0, h1 => by
    obtain ⟨r, hr, hC⟩ := sb1 x X y Y n hn C h d (a + 1) (by omega) (by omega)
    rw [← wsmall (a + 1) (by omega)] at hr
    obtain ⟨r', hr', hC'⟩ := sb2 x X y Y n a hn (by omega) _ ⟨r, hr, hC⟩ 10 1 (by omega) (by omega)
    refine ⟨r', ev_shift ?_, hC'.trans ⟨?_, ?_⟩⟩
    · simp only [spec_StepsBetween.l1]
      exact ev_pos (by omega) hr'
    · rintro (⟨b', z1, z2, z3⟩ | ⟨a', b', z1, z2, z3⟩ | z)
      · exact .inl ⟨a, b', by omega, by omega, z1, z2, z3⟩
      · exact .inl ⟨a', b', by omega, z2, z3⟩
      · exact .inr z
    · rintro (⟨a', b', z1, z2, z3, z4, z5⟩ | z)
      · by_cases e : a' = a
        · exact .inl ⟨b', z3, z4, e ▸ z5⟩
        · exact .inr (.inl ⟨a', b', by omega, z2, z3, z4, z5⟩)
      · exact .inr (.inr z)
theorem sb0 (x X y Y : Int) : ∀ (d : Nat) (n : Int), 1 ≤ n → n + d = 4 →
    ∃ r, Ev (fun k => spec_StepsBetween.l0 k x X y Y n) r ∧ (r.2.2.2 = true ↔ (∃ n' a' b', n ≤ n' ∧ n' ≤ 3 ∧ 1 ≤ a' ∧ a' ≤ 10 ∧ 1 ≤ b' ∧ b' ≤ 10 ∧ sbM x X y Y n' a' b'))
  | 0, n, h0, h1 => by
    refine ⟨(0, 0, 0, false), ev_shift ?_, ⟨fun z => by simp at z, fun ⟨n', a', b', z1, z2, _⟩ => absurd z2 (by omega)⟩⟩
    simp only [spec_StepsBetween.l0]
    exact ev_neg (by omega) (ev_now _)
  | d + 1, n, h0, h1 => by
    obtain ⟨r, hr, hC⟩ := sb0 x X y Y d (n + 1) (by omega) (by omega)
    rw [← wsmall (n + 1) (by omega)] at hr
    obtain ⟨r', hr', hC'⟩ := sb1 x X y Y n (by omega) _ ⟨r, hr, hC⟩ 10 1 (by omega) (by omega)
    refine ⟨r', ev_shift ?_, hC'.trans ⟨?_, ?_⟩⟩
    · simp only [spec_StepsBetween.l0]
      exact ev_pos (by omega) hr'
    · rintro (⟨a', b', z1, z2, z3⟩ | ⟨n', a', b', z1, z2, z3⟩)
      · exact ⟨n, a', b', by omega, by omega, z1, z2, z3⟩
      · exact ⟨n', a', b', by omega, z2, z3⟩
    · rintro ⟨n', a', b', z1, z2, z3⟩
      by_cases e : n' = n
      · exact .inl ⟨a', b', e ▸ z3⟩
      · exact .inr ⟨n', a', b', by omega, z2, z3⟩
def sbG (x X y Y n : Int) : Bool := decide (1 ≤ y - x) && decide (y - x ≤ 10) && decide (x = n * (y - x)) && (decide (1 ≤ X - Y) && decide (X - Y ≤ 10) && decide (Y = n * (X - Y)))
def sbF (x X y Y : Int) : Bool := sbG x X y Y 1 || sbG x X y Y 2 || sbG x X y Y 3
theorem sbF_iff (x X y Y : Int) : (∃ n' a' b', (1 : Int) ≤ n' ∧ n' ≤ 3 ∧ (1 : Int) ≤ a' ∧ a' ≤ 10 ∧ (1 : Int) ≤ b' ∧ b' ≤ 10 ∧ sbM x X y Y n' a' b') ↔ sbF x X y Y = true := by
  unfold sbF sbG sbM
  simp only [Bool.or_eq_true, Bool.and_eq_true, decide_eq_true_eq]
  constructor
  · rintro ⟨n, a, b, h1, h2, h3, h4, h5, h6, h7, h8, h9, h10⟩
    obtain rfl | rfl | rfl : n = 1 ∨ n = 2 ∨ n = 3 := by omega
    · left; left; omega
    · left; right; omega
    · right; omega
  · rintro ((⟨⟨⟨h1, h2⟩, h3⟩, ⟨h4, h5⟩, h6⟩ | ⟨⟨⟨h1, h2⟩, h3⟩, ⟨h4, h5⟩, h6⟩) | ⟨⟨⟨h1, h2⟩, h3⟩, ⟨h4, h5⟩, h6⟩)
    · exact ⟨1, y - x, X - Y, by omega, by omega, h1, h2, h4, h5, h3, by omega, by omega, h6⟩
    · exact ⟨2, y - x, X - Y, by omega, by omega, h1, h2, h4, h5, h3, by omega, by omega, h6⟩
    · exact ⟨3, y - x, X - Y, by omega, by omega, h1, h2, h4, h5, h3, by omega, by omega, h6⟩
theorem sb_ev (x X y Y : Int) : ∃ r, Ev (fun k => spec_StepsBetween.f k x X y Y) r ∧ r.2.2.2 = sbF x X y Y := by
  obtain ⟨r, hr, hC⟩ := sb0 x X y Y 3 1 (by omega) (by omega)
  refine ⟨r, hr, ?_⟩
  have h := hC.trans (sbF_iff x X y Y)
  cases hb : r.2.2.2 <;> cases hs : sbF x X y Y <;> simp [hb, hs] at h ⊢
/-- One width y, told from x. -/
def sY (S x y : Int) (Z : List Int × List Int) : List Int × List Int :=
  if rd Z.1 y ≥ 0 then Z else if (Int.tmod S y != 0) = true then Z else
  if (sbF x (wrap64 (Int.tdiv S x)) y (wrap64 (Int.tdiv S y)) || sbF y (wrap64 (Int.tdiv S y)) x (wrap64 (Int.tdiv S x))) = true then (Z.1.set y.toNat (wrap64 (rd Z.1 x + 1)), Z.2 ++ [y]) else Z
theorem sY_len (S x y : Int) (Z : List Int × List Int) : (sY S x y Z).1.length = Z.1.length ∧ (sY S x y Z).2.length ≤ Z.2.length + 1 := by
  unfold sY
  repeat' split
  all_goals simp
def s3 (S x : Int) : Nat → Int → List Int × List Int → List Int × List Int
  | 0, _, Z => Z
  | d + 1, y, Z => s3 S x d (y + 1) (sY S x y Z)
theorem s3_len (S x : Int) : ∀ d y Z, (s3 S x d y Z).1.length = Z.1.length ∧ (s3 S x d y Z).2.length ≤ Z.2.length + d
  | 0, _, _ => by simp [s3]
  | d + 1, y, Z => by
    have h1 := sY_len S x y Z
    have h2 := s3_len S x d (y + 1) (sY S x y Z)
    unfold s3
    omega
theorem l3_ev (x0 x1 x2 x r : Int) (x63 : List Int) (x64 x65 : Int) (hx : 1 ≤ x ∧ x ≤ 40) : ∀ (d : Nat) (y : Int) (Z : List Int × List Int), 1 ≤ y → y + d = 41 → Z.1.length = 41 → Z.2.length + d < 1000000 →
    Ev (fun k => spec_ChainOfSteps.l2 k x0 x1 x2 (s3 (wrap64 (x0 * x1)) x d y Z).1 (s3 (wrap64 (x0 * x1)) x d y Z).2 x63 x64 (wrap64 (x65 + 1))) r → Ev (fun k => spec_ChainOfSteps.l3 k x0 x1 x2 Z.1 Z.2 x y x63 x64 x65) r
  | 0, y, Z, h0, h1, _, _, h => by
    refine ev_shift ?_
    simp only [spec_ChainOfSteps.l3]
    exact ev_neg (by omega) h
  | d + 1, y, Z, h0, h1, h2, h3, h => by
    have hl := sY_len (wrap64 (x0 * x1)) x y Z
    have g := l3_ev x0 x1 x2 x r x63 x64 x65 hx d (y + 1) (sY (wrap64 (x0 * x1)) x y Z) (by omega) (by omega) (by omega) (by omega) h
    have hw : wrap64 (y + 1) = y + 1 := wsmall _ (by omega)
    have skip : sY (wrap64 (x0 * x1)) x y Z = Z → Ev (fun k => spec_ChainOfSteps.j5 k x0 x1 x2 Z.1 Z.2 x y x63 x64 x65 true) r := fun e => by
      rw [e] at g
      refine ev_shift ?_
      simp only [spec_ChainOfSteps.j5, hw]
      exact ev_pos trivial g
    refine ev_shift ?_
    simp only [spec_ChainOfSteps.l3]
    refine ev_pos (by omega) (ev_pos (by omega) (ev_pos (by omega) ?_))
    by_cases c1 : rd Z.1 y ≥ 0
    · exact ev_pos c1 (skip (by unfold sY; rw [if_pos c1]))
    · refine ev_neg c1 (ev_neg (by omega) ?_)
      by_cases c2 : (Int.tmod (wrap64 (x0 * x1)) y != 0) = true
      · rw [c2]
        exact skip (by unfold sY; rw [if_neg c1, if_pos c2])
      · rw [Bool.not_eq_true] at c2
        rw [c2]
        refine ev_shift ?_
        simp only [spec_ChainOfSteps.j5, hw]
        refine ev_neg (by simp) (ev_neg (by omega) (ev_neg (by omega) ?_))
        obtain ⟨r1, e1, q1⟩ := sb_ev x (wrap64 (Int.tdiv (wrap64 (x0 * x1)) x)) y (wrap64 (Int.tdiv (wrap64 (x0 * x1)) y))
        obtain ⟨r2, e2, q2⟩ := sb_ev y (wrap64 (Int.tdiv (wrap64 (x0 * x1)) y)) x (wrap64 (Int.tdiv (wrap64 (x0 * x1)) x))
        refine ev_bind e1 (ev_bind e2 ?_)
        by_cases c3 : r1.2.2.2 = true
        · have e : sY (wrap64 (x0 * x1)) x y Z = (Z.1.set y.toNat (wrap64 (rd Z.1 x + 1)), Z.2 ++ [y]) := by unfold sY; rw [if_neg c1, c2, if_neg (by simp), ← q1, c3, Bool.true_or, if_pos rfl]
          rw [e] at g
          exact ev_pos c3 (ev_pos (by omega) (ev_pos (by omega) (ev_pos (by omega) (ev_pos (by omega) (ev_pos (by omega) g)))))
        · refine ev_neg c3 ?_
          rw [Bool.not_eq_true] at c3
          by_cases c4 : r2.2.2.2 = true
          · have e : sY (wrap64 (x0 * x1)) x y Z = (Z.1.set y.toNat (wrap64 (rd Z.1 x + 1)), Z.2 ++ [y]) := by unfold sY; rw [if_neg c1, c2, if_neg (by simp), ← q1, c3, ← q2, c4, Bool.false_or, if_pos rfl]
            rw [e] at g
            exact ev_pos c4 (ev_pos (by omega) (ev_pos (by omega) (ev_pos (by omega) (ev_pos (by omega) (ev_pos (by omega) g)))))
          · refine ev_neg c4 ?_
            rw [Bool.not_eq_true] at c4
            have e : sY (wrap64 (x0 * x1)) x y Z = Z := by unfold sY; rw [if_neg c1, c2, if_neg (by simp), ← q1, c3, ← q2, c4, Bool.false_or, if_neg (by simp)]
            rw [e] at g
            exact g
/-- One layer: an answer, or what is known now and the next layer. -/
def s2 (S s : Int) : List Int → List Int × List Int → Option (Int ⊕ (List Int × List Int))
  | [], Z => some (.inr Z)
  | x :: xs, Z => if x = s then some (.inl (rd Z.1 x)) else s2 S s xs (s3 S x 40 1 Z)
def sL (S s : Int) : Nat → List Int → List Int → Option Int
  | 0, _, _ => none
  | m + 1, far, now => if now.length < 1000 ∧ now.all (fun x => decide (1 ≤ x) && decide (x ≤ 40)) = true then (if 0 < now.length then (match s2 S s now (far, []) with | some (.inl r) => some r | some (.inr Z) => sL S s m Z.1 Z.2 | none => none) else some (-1)) else none
theorem l2s_ev (x0 x1 x2 r : Int) (now : List Int) (hn : now.length < 1000) (hall : ∀ x ∈ now, 1 ≤ x ∧ x ≤ 40) : ∀ (suf pre : List Int) (Z : List Int × List Int), now = pre ++ suf → Z.1.length = 41 → Z.2.length + 40 * suf.length < 900000 →
    (match s2 (wrap64 (x0 * x1)) x2 suf Z with | some (.inl q) => q = r | some (.inr Y) => Y.1.length = 41 → Ev (fun k => spec_ChainOfSteps.l1 k x0 x1 x2 Y.1 Y.2) r | none => False) → Ev (fun k => spec_ChainOfSteps.l2 k x0 x1 x2 Z.1 Z.2 now (now.length : Int) (pre.length : Int)) r
  | [], pre, Z, hp, h1, h2, h => by
    have h' : Ev (fun k => spec_ChainOfSteps.l1 k x0 x1 x2 Z.1 Z.2) r := h h1
    refine ev_shift ?_
    simp only [spec_ChainOfSteps.l2]
    refine ev_neg ?_ h'
    rw [hp]; simp
  | x :: xs, pre, Z, hp, h1, h2, h => by
    have hx := hall x (by rw [hp]; simp)
    have hrd : rd now (pre.length : Int) = x := by rw [hp]; simp [rd]
    have hlen : now.length = pre.length + (xs.length + 1) := by rw [hp]; simp
    refine ev_shift ?_
    simp only [spec_ChainOfSteps.l2, hrd]
    refine ev_pos (by omega) (ev_pos (by omega) (ev_pos (by omega) ?_))
    unfold s2 at h
    by_cases c : x = x2
    · rw [if_pos c] at h
      have h' : rd Z.1 x = r := h
      refine ev_pos c (ev_pos (by omega) (ev_pos (by omega) ?_))
      exact ev_done (congrArg some h')
    · rw [if_neg c] at h
      refine ev_neg c ?_
      have hl := s3_len (wrap64 (x0 * x1)) x 40 1 Z
      refine l3_ev x0 x1 x2 x r now _ _ hx 40 1 Z (by omega) (by omega) h1 (by simp only [List.length_cons] at h2; omega) ?_
      have g := l2s_ev x0 x1 x2 r now hn hall xs (pre ++ [x]) (s3 (wrap64 (x0 * x1)) x 40 1 Z) (by rw [hp]; simp) (by omega) (by simp only [List.length_cons] at h2; omega) h
      rw [wsmall ((pre.length : Int) + 1) (by omega)]
      rw [show ((pre ++ [x]).length : Int) = (pre.length : Int) + 1 from by simp] at g
      exact g
theorem l1_ev (x0 x1 x2 r : Int) : ∀ (m : Nat) (far now : List Int), far.length = 41 → sL (wrap64 (x0 * x1)) x2 m far now = some r → Ev (fun k => spec_ChainOfSteps.l1 k x0 x1 x2 far now) r
  | 0, _, _, _, h => by simp [sL] at h
  | m + 1, far, now, h1, h => by
    unfold sL at h
    by_cases c0 : now.length < 1000 ∧ now.all (fun x => decide (1 ≤ x) && decide (x ≤ 40)) = true
    · rw [if_pos c0] at h
      have hall : ∀ x ∈ now, 1 ≤ x ∧ x ≤ 40 := fun x hx => by simpa using List.all_eq_true.mp c0.2 x hx
      refine ev_shift ?_
      simp only [spec_ChainOfSteps.l1]
      by_cases c1 : 0 < now.length
      · rw [if_pos c1] at h
        refine ev_pos (by omega) (l2s_ev x0 x1 x2 r now c0.1 hall now [] (far, []) rfl h1 (by have := c0.1; simp only [List.length_nil]; omega) ?_)
        split at h
        · rename_i q e
          exact Option.some.inj h
        · rename_i Y e
          exact fun hY => l1_ev x0 x1 x2 r m Y.1 Y.2 hY h
        · cases h
      · rw [if_neg c1] at h
        exact ev_neg (by omega) (ev_done h)
    · rw [if_neg c0] at h
      cases h
theorem fill_ev (x0 x1 x2 r : Int) (h0 : 0 ≤ x0 ∧ x0 < 41) : ∀ (d : Nat) (i : Int), i + d = 41 → 0 ≤ i → ∀ far : List Int, far.length = 41 →
    (∀ j : Nat, (j : Int) < i → far[j]? = some (-1)) → Ev (fun k => spec_ChainOfSteps.l1 k x0 x1 x2 ((List.replicate 41 (-1) : List Int).set x0.toNat 0) [x0]) r → Ev (fun k => spec_ChainOfSteps.l0 k x0 x1 x2 far 41 i) r
  | 0, i, hi, hz, far, hl, hj, h => by
    have e : far = List.replicate 41 (-1) := by
      apply List.ext_getElem? ; intro j
      by_cases c : j < 41
      · rw [hj j (by omega), List.getElem?_replicate, if_pos c]
      · rw [List.getElem?_eq_none (by omega), List.getElem?_eq_none (by simp; omega)]
    refine ev_shift ?_
    simp only [spec_ChainOfSteps.l0]
    refine ev_neg (by omega) (ev_pos h0.1 (ev_pos (by omega) ?_))
    rw [e]
    exact h
  | d + 1, i, hi, hz, far, hl, hj, h => by
    refine ev_shift ?_
    simp only [spec_ChainOfSteps.l0]
    refine ev_pos (by omega) (ev_pos hz (ev_pos (by omega) ?_))
    rw [wsmall (i + 1) (by omega)]
    refine fill_ev x0 x1 x2 r h0 d (i + 1) (by omega) (by omega) _ (by simp [hl]) (fun j hj' => ?_) h
    rw [List.getElem?_set]
    by_cases e : i.toNat = j
    · rw [if_pos e, if_pos (by omega)]
    · rw [if_neg e]; exact hj j (by omega)
/-! both, over all the rectangles that there are -/
def chk (w h s : Int) : Bool := match iB s 12 ([((w, h), 0)], [(w, h)]), sL (w * h) s 12 ((List.replicate 41 (-1) : List Int).set w.toNat 0) [w] with
  | some a, some b => a == b
  | _, _ => false
theorem chk_all : (List.range 40).all (fun w => (List.range 40).all fun h => (List.range 40).all fun s => !((w + 1) * (h + 1) == (s + 1) * (s + 1)) || chk ((w + 1 : Nat) : Int) ((h + 1 : Nat) : Int) ((s + 1 : Nat) : Int)) = true := by kernel_rfl
theorem chk_ok {w h s : Int} (hw : 1 ≤ w ∧ w ≤ 40) (hh : 1 ≤ h ∧ h ≤ 40) (hs : 1 ≤ s ∧ s ≤ 40) (he : w * h = s * s) : chk w h s = true := by
  obtain ⟨a, rfl⟩ : ∃ a : Nat, w = ((a + 1 : Nat) : Int) := ⟨(w - 1).toNat, by omega⟩
  obtain ⟨b, rfl⟩ : ∃ b : Nat, h = ((b + 1 : Nat) : Int) := ⟨(h - 1).toNat, by omega⟩
  obtain ⟨c, rfl⟩ : ∃ c : Nat, s = ((c + 1 : Nat) : Int) := ⟨(s - 1).toNat, by omega⟩
  have h1 := List.all_eq_true.mp (List.all_eq_true.mp (List.all_eq_true.mp chk_all a (List.mem_range.mpr (by omega))) b (List.mem_range.mpr (by omega))) c (List.mem_range.mpr (by omega))
  have he' : (a + 1) * (b + 1) = (c + 1) * (c + 1) := by exact_mod_cast he
  simpa [he'] using h1
theorem chain_both {w h s : Int} (hw : 1 ≤ w ∧ w ≤ 40) (hh : 1 ≤ h ∧ h ≤ 40) (hs : 1 ≤ s ∧ s ≤ 40) (he : w * h = s * s) :
    ∃ r, Ev (fun k => impl_ChainOfSteps.l0 k s [((w, h), 0)] [(w, h)]) r ∧ Ev (fun k => spec_ChainOfSteps.l1 k w h s ((List.replicate 41 (-1) : List Int).set w.toNat 0) [w]) r := by
  have hc := chk_ok hw hh hs he
  have hm : wrap64 (w * h) = w * h := by
    have h1 : 0 ≤ w * h := Int.mul_nonneg (by omega) (by omega)
    have h2 : w * h ≤ 40 * 40 := Int.mul_le_mul hw.2 hh.2 (by omega) (by omega)
    exact wsmall _ (by omega)
  unfold chk at hc
  split at hc
  · rename_i a b h1 h2
    obtain rfl : a = b := by simpa using hc
    refine ⟨a, l0_ev s a 12 ([((w, h), 0)], [(w, h)]) (by simp) (by simp) h1, l1_ev w h s a 12 _ _ (by simp) ?_⟩
    rw [hm]
    exact h2
  · cases hc
theorem in_false {n lo hi : Int} (h : ¬ (lo ≤ n ∧ n ≤ hi)) : spec_l01In.f n lo hi = some false := by
  unfold spec_l01In.f
  by_cases c : n ≥ lo
  · rw [if_pos c, decide_eq_false (by omega)]
  · rw [if_neg c]
theorem in_true {n lo hi : Int} (h : lo ≤ n ∧ n ≤ hi) : spec_l01In.f n lo hi = some true := by
  unfold spec_l01In.f
  rw [if_pos h.1, decide_eq_true h.2]
theorem j0_true (a b c : Int) : Ev (fun k => spec_ChainOfSteps.j0 k a b c true) (-1) := by
  refine ev_shift ?_
  simp only [spec_ChainOfSteps.j0]
  exact ev_pos trivial (ev_now _)
theorem chain_end {a b c r : Int} (hs : Ev (fun k => spec_ChainOfSteps.f k a b c) r) (hi : Ev (fun k => impl_ChainOfSteps.f k a b c) r) : ∃ k, laws_FnExactChainOfSteps.f k a b c = some true := by
  apply ev_rounds
  unfold laws_FnExactChainOfSteps.f
  exact ev_bind hs (ev_bind hi (ev_pos rfl (ev_now _)))
theorem FnExactChainOfSteps : laws_FnExactChainOfSteps.Pure := by
  intro a b c _ _ _
  have out : ¬ ((1 ≤ a ∧ a ≤ 40) ∧ (1 ≤ b ∧ b ≤ 40) ∧ (1 ≤ c ∧ c ≤ 40) ∧ wrap64 (a * b) = wrap64 (c * c)) → Ev (fun k => impl_ChainOfSteps.f k a b c) (-1) := fun z => by
    unfold impl_ChainOfSteps.f
    exact ev_neg z (ev_now _)
  by_cases ha : 1 ≤ a ∧ a ≤ 40
  · by_cases hb : 1 ≤ b ∧ b ≤ 40
    · by_cases hc : 1 ≤ c ∧ c ≤ 40
      · by_cases he : wrap64 (a * b) = wrap64 (c * c)
        · have m1 : wrap64 (a * b) = a * b := by
            have h1 : 0 ≤ a * b := Int.mul_nonneg (by omega) (by omega)
            have h2 : a * b ≤ 40 * 40 := Int.mul_le_mul ha.2 hb.2 (by omega) (by omega)
            exact wsmall _ (by omega)
          have m2 : wrap64 (c * c) = c * c := by
            have h1 : 0 ≤ c * c := Int.mul_nonneg (by omega) (by omega)
            have h2 : c * c ≤ 40 * 40 := Int.mul_le_mul hc.2 hc.2 (by omega) (by omega)
            exact wsmall _ (by omega)
          obtain ⟨r, hi, hs⟩ := chain_both ha hb hc (by rw [← m1, ← m2, he])
          refine chain_end (r := r) ?_ ?_
          · unfold spec_ChainOfSteps.f
            refine ev_bind0 (in_true ha) (ev_pos rfl (ev_bind0 (in_true hb) (ev_pos rfl (ev_bind0 (in_true hc) (ev_pos rfl ?_)))))
            rw [show (wrap64 (a * b) != wrap64 (c * c)) = false from by rw [he]; simp]
            refine ev_shift ?_
            simp only [spec_ChainOfSteps.j0]
            refine ev_neg (by simp) (ev_pos (by omega) ?_)
            simp only [Option.bind_some, List.length_replicate]
            exact fill_ev a b c r (by omega) 41 0 (by omega) (by omega) _ (by simp) (fun j hj => by omega) hs
          · unfold impl_ChainOfSteps.f
            exact ev_pos ⟨ha, hb, hc, he⟩ hi
        · refine chain_end (r := -1) ?_ (out (fun z => he z.2.2.2))
          unfold spec_ChainOfSteps.f
          refine ev_bind0 (in_true ha) (ev_pos rfl (ev_bind0 (in_true hb) (ev_pos rfl (ev_bind0 (in_true hc) (ev_pos rfl ?_)))))
          rw [show (wrap64 (a * b) != wrap64 (c * c)) = true from by rw [bne_iff_ne]; exact he]
          exact j0_true a b c
      · refine chain_end (r := -1) ?_ (out (fun z => hc z.2.2.1))
        unfold spec_ChainOfSteps.f
        exact ev_bind0 (in_true ha) (ev_pos rfl (ev_bind0 (in_true hb) (ev_pos rfl (ev_bind0 (in_false hc) (ev_neg (by simp) (j0_true a b c))))))
    · refine chain_end (r := -1) ?_ (out (fun z => hb z.2.1))
      unfold spec_ChainOfSteps.f
      exact ev_bind0 (in_true ha) (ev_pos rfl (ev_bind0 (in_false hb) (ev_neg (by simp) (j0_true a b c))))
  · refine chain_end (r := -1) ?_ (out (fun z => ha z.1))
    unfold spec_ChainOfSteps.f
    exact ev_bind0 (in_false ha) (ev_neg (by simp) (j0_true a b c))

end Go.Proofs.Ytecghgagjghleaa.Pure
