/- FewestSquares of the program and of the reference answer alike, for all numbers. -/
import Derived.Test.YtkhdhefjpapokaaQFnExactFewestSquaresx2
namespace Go.Proofs.Ytkhdhefjpapokaa.Pure
open Go.RowKit Go.Proofs.Ytkhdhefjpapokaa.QFnExactFewestSquares Go.Proofs.YtkhdhefjpapokaaW.PrintWords Go.Proofs.YtkhdhefjpapokaaW.PrintLast Go.Proofs.YtkhdhefjpapokaaW.PrintMore
set_option linter.unusedVariables false
set_option linter.unusedSimpArgs false

/- Eventually: with enough rounds the answer is r. -/
theorem ev_now {α : Type} (r : α) : Ev (fun _ => some r) r := Ev.now r
theorem ev_shift {α : Type} {g : Nat → Option α} {r : α} (h : Ev (fun k => g (k + 1)) r) : Ev g r := by
  obtain ⟨K, hK⟩ := h
  exact ⟨K + 1, fun k hk => by
    obtain ⟨m, rfl⟩ : ∃ m, k = m + 1 := ⟨k - 1, by omega⟩
    exact hK m (by omega)⟩
theorem ev_bind {α β : Type} {g : Nat → Option α} {f : Nat → α → Option β} {a : α} {r : β} (h : Ev g a) (k : Ev (fun n => f n a) r) : Ev (fun n => (g n).bind (f n)) r := Ev.bind h k
theorem ev_bind0 {α β : Type} {o : Option α} {f : Nat → α → Option β} {a : α} {r : β} (h : o = some a) (k : Ev (fun n => f n a) r) : Ev (fun n => o.bind (f n)) r := by
  subst h; exact k
theorem ev_pos {α : Type} {A B : Nat → Option α} {r : α} {c : Prop} [Decidable c] (h : c) (k : Ev A r) : Ev (fun n => if c then A n else B n) r := by
  simpa only [if_pos h] using k
theorem ev_neg {α : Type} {A B : Nat → Option α} {r : α} {c : Prop} [Decidable c] (h : ¬ c) (k : Ev B r) : Ev (fun n => if c then A n else B n) r := by
  simpa only [if_neg h] using k
theorem ev_done {α : Type} {o : Option α} {r : α} (h : o = some r) : Ev (fun _ => o) r := ⟨0, fun _ _ => h⟩
theorem ev_eq {α : Type} {g : Nat → Option α} {r r' : α} (h : Ev g r) (e : r = r') : Ev g r' := e ▸ h
theorem ev_rounds {α : Type} {g : Nat → Option α} {r : α} (h : Ev g r) : ∃ k, g k = some r := Ev.rounds h
theorem ev_uniq {α : Type} {g : Nat → Option α} {r r' : α} (h : Ev g r) (h' : Ev g r') : r = r' := by
  obtain ⟨K, hK⟩ := h
  obtain ⟨K', hK'⟩ := h'
  have a := hK (max K K') (Nat.le_max_left _ _)
  have b := hK' (max K K') (Nat.le_max_right _ _)
  rw [a] at b
  exact Option.some.inj b
theorem wf64 {n : Int} (h : (Lit.int .i64 n).wf = true) : -9223372036854775808 ≤ n ∧ n ≤ 9223372036854775807 := by
  have a : IntKind.i64.min = -9223372036854775808 := rfl
  have b : IntKind.i64.max = 9223372036854775807 := rfl
  simp [Lit.wf] at h
  omega
theorem w64 {n : Int} (h : -9223372036854775808 ≤ n) (h' : n ≤ 9223372036854775807) : wrap64 n = n := by
  unfold wrap64; omega
theorem wadd (a b : Nat) (h : a + b < 1000000000000) : wrap64 ((a : Int) + (b : Int)) = ((a + b : Nat) : Int) := by
  rw [w64 (by omega) (by omega)]; omega
theorem wsucc (a : Nat) (h : a < 1000000000000) : wrap64 ((a : Int) + 1) = ((a + 1 : Nat) : Int) := by
  rw [w64 (by omega) (by omega)]; omega
theorem wsmall (n : Int) (h : -1000000000000 ≤ n ∧ n ≤ 1000000000000) : wrap64 n = n := w64 (by omega) (by omega)
theorem within_eq (a b c : Int) : impl_within.f a b c = some (decide (b ≤ a ∧ a ≤ c)) := by
  unfold impl_within.f; split <;> simp <;> omega
theorem in_eq (a b c : Int) : spec_l01In.f a b c = some (decide (b ≤ a ∧ a ≤ c)) := by
  unfold spec_l01In.f; split <;> simp <;> omega
theorem mx_eq (a b : Int) : mx a b = max a b := by unfold mx; split <;> omega
theorem mn_eq (a b : Int) : mn a b = min a b := by unfold mn; split <;> omega
theorem rdn (T : List Int) (i : Nat) : rd T (i : Int) = T.getD i 0 := by simp [rd]
theorem idx1 (i N j : Nat) (hi : i ≤ 31) (hN : N ≤ 31) (hj : j ≤ 31) : wrap64 ((wrap64 ((i : Int) * (N : Int))) + (j : Int)) = ((i * N + j : Nat) : Int) := by
  have h : i * N ≤ 31 * 31 := Nat.mul_le_mul hi hN
  have e : (i : Int) * (N : Int) = ((i * N : Nat) : Int) := by rw [Int.natCast_mul]
  have e2 : wrap64 ((i * N : Nat) : Int) = ((i * N : Nat) : Int) := w64 (by omega) (by omega)
  rw [e, e2, w64 (by omega) (by omega)]
  omega
theorem idx2 (m k : Nat) (hm : m ≤ 2000) (hk : k ≤ m) : wrap64 ((m : Int) - (k : Int)) = ((m - k : Nat) : Int) := by
  rw [w64 (by omega) (by omega)]; omega
theorem idx_lt (i j n : Nat) (hi : i ≤ n) (hj : j ≤ n) : i * (n + 1) + j < (n + 1) * (n + 1) := by
  have : i * (n + 1) ≤ n * (n + 1) := Nat.mul_le_mul_right _ hi
  have e : (n + 1) * (n + 1) = n * (n + 1) + (n + 1) := by rw [Nat.add_mul, Nat.one_mul]
  omega
theorem idx_inj (i j a b n : Nat) (hj : j ≤ n) (hb : b ≤ n) (h : i * (n + 1) + j = a * (n + 1) + b) : i = a ∧ j = b := by
  have h1 : (i * (n + 1) + j) / (n + 1) = i := by rw [Nat.mul_comm, Nat.mul_add_div (by omega), Nat.div_eq_of_lt (by omega)]; omega
  have h2 : (a * (n + 1) + b) / (n + 1) = a := by rw [Nat.mul_comm, Nat.mul_add_div (by omega), Nat.div_eq_of_lt (by omega)]; omega
  rw [h] at h1
  have : i = a := by omega
  subst this
  exact ⟨rfl, by omega⟩
def DoneS (n : Nat) (T : List Int) (s a : Nat) : Prop := T.length = (n + 1) * (n + 1) ∧ ∀ i j, 1 ≤ i → i ≤ n → 1 ≤ j → j ≤ n → (i + j < s ∨ (i + j = s ∧ i < a)) → T.getD (i * (n + 1) + j) 0 = V i j
theorem DoneS.put {n : Nat} {T : List Int} {s a : Nat} (h : DoneS n T s a) (b : Nat) (hab : a + b = s) (ha : a ≤ n) (hb : b ≤ n) : DoneS n (T.set (a * (n + 1) + b) (V a b)) s (a + 1) := by
  refine ⟨by rw [List.length_set]; exact h.1, fun i j h1 h2 h3 h4 h5 => ?_⟩
  by_cases e : i = a ∧ j = b
  · obtain ⟨rfl, rfl⟩ := e
    exact getD_set_same _ _ _ (by rw [h.1]; exact idx_lt i j n ha hb)
  · rw [getD_set_other _ _ _ _ (fun g => e (by obtain ⟨x, y⟩ := idx_inj a b i j n hb h4 g; exact ⟨x.symm, y.symm⟩))]
    exact h.2 i j h1 h2 h3 h4 (by omega)
theorem two_small (a b c d : Nat) (h1 : 1 ≤ a ∧ a ≤ 30) (h2 : 1 ≤ b ∧ b ≤ 30) (h3 : 1 ≤ c ∧ c ≤ 30) (h4 : 1 ≤ d ∧ d ≤ 30) : wrap64 (V a b + V c d) = V a b + V c d := by
  have := V_ok a b h1.1 h2.1 h1.2 h2.2
  have := V_ok c d h3.1 h4.1 h3.2 h4.2
  exact w64 (by omega) (by omega)
theorem sp_l3 (w h : Int) (n s a b : Nat) (T : List Int) (hn : n ≤ 30) (hD : DoneS n T s a) (ha : 1 ≤ a ∧ a ≤ n) (hb : 1 ≤ b ∧ b ≤ n) (hs : a + b = s) (r : Int)
    (hnext : Ev (fun k => spec_FewestSquares.l1 k w h n (T.set (a * (n + 1) + b) (V a b)) s (wrap64 ((a : Int) + 1))) r) :
    ∀ (d c : Nat), c + d = b → 1 ≤ c → Ev (fun k => spec_FewestSquares.l3 k w h n T s a b (VB a b (c - 1)) (c : Int)) r := by
  intro d
  induction d with
  | zero =>
    intro c hc h1
    obtain rfl : c = b := by omega
    refine ev_shift ?_
    simp only [spec_FewestSquares.l3]
    have hl := idx_lt a c n ha.2 hb.2
    have hle : (n + 1) * (n + 1) ≤ 31 * 31 := Nat.mul_le_mul (by omega) (by omega)
    refine ev_neg (by omega) ?_
    rw [wsucc n (by omega), idx1 a (n + 1) c (by omega) (by omega) (by omega)]
    refine ev_pos (by omega) (ev_pos (by rw [hD.1]; omega) ?_)
    rw [Int.toNat_natCast, ← V_eq a c ha.1 hb.1]
    exact hnext
  | succ d ih =>
    intro c hc h1
    refine ev_shift ?_
    simp only [spec_FewestSquares.l3]
    have hl1 := idx_lt a c n ha.2 (by omega)
    have hl2 := idx_lt a (b - c) n ha.2 (by omega)
    have hle : (n + 1) * (n + 1) ≤ 31 * 31 := Nat.mul_le_mul (by omega) (by omega)
    have hl := idx_lt a b n ha.2 hb.2
    rw [wsucc n (by omega), idx1 a (n + 1) c (by omega) (by omega) (by omega), idx1 a (n + 1) b (by omega) (by omega) (by omega), idx2 _ c (by omega) (by omega),
      show a * (n + 1) + b - c = a * (n + 1) + (b - c) by omega]
    refine ev_pos (by omega) (ev_pos (by omega) (ev_pos (by rw [hD.1]; omega) (ev_pos (by omega) (ev_pos (by rw [hD.1]; omega) ?_))))
    rw [rdn, rdn, hD.2 a c ha.1 ha.2 h1 (by omega) (by omega), hD.2 a (b - c) ha.1 ha.2 (by omega) (by omega) (by omega), two_small _ _ _ _ (by omega) (by omega) (by omega) (by omega), wsucc c (by omega), mn_eq]
    have e : min (VB a b (c - 1)) (V a c + V a (b - c)) = VB a b (c + 1 - 1) := by
      obtain ⟨m, rfl⟩ : ∃ m, c = m + 1 := ⟨c - 1, by omega⟩
      rfl
    rw [e]
    exact ih (c + 1) (by omega) (by omega)
theorem sp_l2 (w h : Int) (n s a b : Nat) (T : List Int) (hn : n ≤ 30) (hD : DoneS n T s a) (ha : 1 ≤ a ∧ a ≤ n) (hb : 1 ≤ b ∧ b ≤ n) (hs : a + b = s) (r : Int)
    (hnext : Ev (fun k => spec_FewestSquares.l1 k w h n (T.set (a * (n + 1) + b) (V a b)) s (wrap64 ((a : Int) + 1))) r) :
    ∀ (d c : Nat), c + d = a → 1 ≤ c → Ev (fun k => spec_FewestSquares.l2 k w h n T s a b (VA a b (c - 1)) (c : Int)) r := by
  intro d
  induction d with
  | zero =>
    intro c hc h1
    obtain rfl : c = a := by omega
    refine ev_shift ?_
    simp only [spec_FewestSquares.l2]
    exact ev_neg (by omega) (sp_l3 w h n s c b T hn hD ha hb hs r hnext (b - 1) 1 (by omega) (by omega))
  | succ d ih =>
    intro c hc h1
    refine ev_shift ?_
    simp only [spec_FewestSquares.l2]
    have hl1 := idx_lt c b n (by omega) hb.2
    have hl2 := idx_lt (a - c) b n (by omega) hb.2
    have hle : (n + 1) * (n + 1) ≤ 31 * 31 := Nat.mul_le_mul (by omega) (by omega)
    rw [wsucc n (by omega), idx1 c (n + 1) b (by omega) (by omega) (by omega), idx2 a c (by omega) (by omega), idx1 (a - c) (n + 1) b (by omega) (by omega) (by omega)]
    refine ev_pos (by omega) (ev_pos (by omega) (ev_pos (by rw [hD.1]; omega) (ev_pos (by omega) (ev_pos (by rw [hD.1]; omega) ?_))))
    rw [rdn, rdn, hD.2 c b h1 (by omega) hb.1 hb.2 (by omega), hD.2 (a - c) b (by omega) (by omega) hb.1 hb.2 (by omega), two_small _ _ _ _ (by omega) (by omega) (by omega) (by omega), wsucc c (by omega), mn_eq]
    have e : min (VA a b (c - 1)) (V c b + V (a - c) b) = VA a b (c + 1 - 1) := by
      obtain ⟨m, rfl⟩ : ∃ m, c = m + 1 := ⟨c - 1, by omega⟩
      rfl
    rw [e]
    exact ih (c + 1) (by omega) (by omega)
theorem sp_l1 (w h : Int) (n s : Nat) (hn : n ≤ 30) (hs : 2 ≤ s ∧ s ≤ 2 * n) (r : Int)
    (hnext : ∀ T, DoneS n T (s + 1) 0 → Ev (fun k => spec_FewestSquares.l0 k w h n T (wrap64 ((s : Int) + 1))) r) :
    ∀ (d a : Nat) (T : List Int), a + d = min n (s - 1) + 1 → 1 ≤ a → s ≤ a + n → DoneS n T s a → Ev (fun k => spec_FewestSquares.l1 k w h n T s (a : Int)) r := by
  intro d
  induction d with
  | zero =>
    intro a T hc h1 h2 hD
    refine ev_shift ?_
    simp only [spec_FewestSquares.l1]
    rw [mn_eq, w64 (n := (s : Int) - 1) (by omega) (by omega)]
    refine ev_neg (by omega) (hnext T ⟨hD.1, fun i j g1 g2 g3 g4 g5 => hD.2 i j g1 g2 g3 g4 ?_⟩)
    omega
  | succ d ih =>
    intro a T hc h1 h2 hD
    refine ev_shift ?_
    simp only [spec_FewestSquares.l1]
    rw [mn_eq, w64 (n := (s : Int) - 1) (by omega) (by omega), idx2 s a (by omega) (by omega)]
    have hmul : a * (s - a) ≤ 30 * 30 := Nat.mul_le_mul (by omega) (by omega)
    have e0 : wrap64 ((a : Int) * ((s - a : Nat) : Int)) = (a : Int) * ((s - a : Nat) : Int) := by
      have e : (a : Int) * ((s - a : Nat) : Int) = ((a * (s - a) : Nat) : Int) := by rw [Int.natCast_mul]
      rw [e]
      exact w64 (by omega) (by omega)
    rw [e0]
    refine ev_pos (by omega) ?_
    have key : Ev (fun k => spec_FewestSquares.j3 k w h n T s a ((s - a : Nat) : Int) (VA a (s - a) 0)) r := by
      refine ev_shift ?_
      simp only [spec_FewestSquares.j3]
      refine sp_l2 w h n s a (s - a) T hn hD (by omega) (by omega) (by omega) r ?_ (a - 1) 1 (by omega) (by omega)
      rw [wsucc a (by omega)]
      exact ih (a + 1) _ (by omega) (by omega) (by omega) (hD.put (s - a) (by omega) (by omega) (by omega))
    by_cases c : a = s - a
    · refine ev_pos (by omega) ?_
      have e : VA a (s - a) 0 = 1 := if_pos c
      rw [e] at key
      exact key
    · refine ev_neg (by omega) ?_
      have e : VA a (s - a) 0 = (a : Int) * ((s - a : Nat) : Int) := if_neg c
      rw [e] at key
      exact key
theorem sp_l0 (w h n : Nat) (hn : n ≤ 30) (hw : 1 ≤ w ∧ w ≤ n) (hh : 1 ≤ h ∧ h ≤ n) : ∀ (d s : Nat) (T : List Int), s + d = 2 * n + 1 → 2 ≤ s → DoneS n T s 0 → Ev (fun k => spec_FewestSquares.l0 k w h n T (s : Int)) (V w h) := by
  intro d
  induction d with
  | zero =>
    intro s T hc h1 hD
    refine ev_shift ?_
    simp only [spec_FewestSquares.l0]
    have hl := idx_lt w h n hw.2 hh.2
    have hle : (n + 1) * (n + 1) ≤ 31 * 31 := Nat.mul_le_mul (by omega) (by omega)
    rw [w64 (n := 2 * (n : Int)) (by omega) (by omega), wsucc n (by omega), idx1 w (n + 1) h (by omega) (by omega) (by omega)]
    refine ev_neg (by omega) (ev_pos (by omega) (ev_pos (by rw [hD.1]; omega) (ev_eq (ev_now _) ?_)))
    rw [rdn]
    exact hD.2 w h hw.1 hw.2 hh.1 hh.2 (by omega)
  | succ d ih =>
    intro s T hc h1 hD
    refine ev_shift ?_
    simp only [spec_FewestSquares.l0]
    rw [w64 (n := 2 * (n : Int)) (by omega) (by omega), w64 (n := (s : Int) - (n : Int)) (by omega) (by omega), mx_eq]
    refine ev_pos (by omega) ?_
    have e : max 1 ((s : Int) - (n : Int)) = ((max 1 (s - n) : Nat) : Int) := by omega
    rw [e]
    refine sp_l1 w h n s hn (by omega) _ (fun T' hD' => ?_) (min n (s - 1) + 1 - max 1 (s - n)) (max 1 (s - n)) T (by omega) (by omega) (by omega) ⟨hD.1, fun i j g1 g2 g3 g4 g5 => hD.2 i j g1 g2 g3 g4 (by omega)⟩
    rw [wsucc s (by omega)]
    exact ih (s + 1) T' (by omega) (by omega) hD'
theorem spec_fewest (w h : Int) : Ev (fun k => spec_FewestSquares.f k w h) (if 1 ≤ w ∧ w ≤ 30 ∧ 1 ≤ h ∧ h ≤ 30 then V w.toNat h.toNat else -1) := by
  unfold spec_FewestSquares.f
  by_cases c : 1 ≤ w ∧ w ≤ 30 ∧ 1 ≤ h ∧ h ≤ 30
  · rw [if_pos c]
    obtain ⟨W, rfl⟩ := Int.eq_ofNat_of_zero_le (show 0 ≤ w by omega)
    obtain ⟨H, rfl⟩ := Int.eq_ofNat_of_zero_le (show 0 ≤ h by omega)
    refine ev_bind0 (in_eq _ _ _) (ev_pos (decide_eq_true (by omega)) (ev_bind0 (in_eq _ _ _) (ev_shift ?_)))
    simp only [spec_FewestSquares.j0]
    refine ev_neg (by simp; omega) ?_
    have e : mx (W : Int) (H : Int) = ((max W H : Nat) : Int) := by rw [mx_eq]; omega
    rw [e]
    generalize hn : max W H = n
    have hle : (n + 1) * (n + 1) ≤ 31 * 31 := Nat.mul_le_mul (by omega) (by omega)
    have e2 : wrap64 (wrap64 ((n : Int) + 1) * wrap64 ((n : Int) + 1)) = (((n + 1) * (n + 1) : Nat) : Int) := by
      rw [wsucc n (by omega)]
      have e : ((n + 1 : Nat) : Int) * ((n + 1 : Nat) : Int) = (((n + 1) * (n + 1) : Nat) : Int) := by rw [Int.natCast_mul]
      rw [e]
      exact w64 (by omega) (by omega)
    rw [e2]
    refine ev_pos (by omega) (ev_pos (by omega) ?_)
    rw [Int.toNat_natCast]
    exact sp_l0 W H n (by omega) (by omega) (by omega) (2 * n - 1) 2 _ (by omega) (by omega) ⟨List.length_replicate, fun i j h1 h2 h3 h4 h5 => by omega⟩
  · rw [if_neg c]
    refine ev_bind0 (in_eq _ _ _) ?_
    by_cases c0 : 1 ≤ w ∧ w ≤ 30
    · refine ev_pos (decide_eq_true c0) (ev_bind0 (in_eq _ _ _) (ev_shift ?_))
      simp only [spec_FewestSquares.j0]
      exact ev_pos (by simp; omega) (ev_now _)
    · refine ev_neg (fun g => c0 (of_decide_eq_true g)) (ev_shift ?_)
      simp only [spec_FewestSquares.j0]
      exact ev_pos (by simp) (ev_now _)
theorem impl_fewest (w h : Int) : impl_FewestSquares.f w h = some (if 1 ≤ w ∧ w ≤ 30 ∧ 1 ≤ h ∧ h ≤ 30 then V w.toNat h.toNat else -1) := by
  unfold impl_FewestSquares.f
  split <;> rfl
theorem FnExactFewestSquares : laws_FnExactFewestSquares.Pure := by
  intro w h _ _
  apply ev_rounds
  unfold laws_FnExactFewestSquares.f
  exact ev_bind (spec_fewest w h) (ev_bind0 (impl_fewest w h) (ev_pos rfl (ev_now _)))

end Go.Proofs.Ytkhdhefjpapokaa.Pure
