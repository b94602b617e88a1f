/- CellCount of the program and of the reference answer alike, for all numbers. -/
import Derived.Test.YtdeocimieeodnaaQFnExactCellCountx1
namespace Go.Proofs.Ytdeocimieeodnaa.Pure
open Go.RowKit Go.Proofs.Ytdeocimieeodnaa.QFnExactCellCount Go.Proofs.YtdeocimieeodnaaW.PrintWords Go.Proofs.YtdeocimieeodnaaW.PrintLast Go.Proofs.YtdeocimieeodnaaW.PrintMore
set_option linter.unusedVariables false
set_option linter.unusedSimpArgs false

/- Eventually: with enough rounds the answer is r. -/
theorem ev_now {α : Type} (r : α) : Ev (fun _ => some r) r := Ev.now r
theorem ev_shift {α : Type} {g : Nat → Option α} {r : α} (h : Ev (fun k => g (k + 1)) r) : Ev g r := by
  obtain ⟨K, hK⟩ := h
  exact ⟨K + 1, fun k hk => by
    obtain ⟨m, rfl⟩ : ∃ m, k = m + 1 := ⟨k - 1, by omega⟩
    exact hK m (by omega)⟩
theorem ev_bind {α β : Type} {g : Nat → Option α} {f : Nat → α → Option β} {a : α} {r : β} (h : Ev g a) (k : Ev (fun n => f n a) r) : Ev (fun n => (g n).bind (f n)) r := Ev.bind h k
theorem ev_bind0 {α β : Type} {o : Option α} {f : Nat → α → Option β} {a : α} {r : β} (h : o = some a) (k : Ev (fun n => f n a) r) : Ev (fun n => o.bind (f n)) r := by
  subst h; exact k
theorem ev_pos {α : Type} {A B : Nat → Option α} {r : α} {c : Prop} [Decidable c] (h : c) (k : Ev A r) : Ev (fun n => if c then A n else B n) r := by
  simpa only [if_pos h] using k
theorem ev_neg {α : Type} {A B : Nat → Option α} {r : α} {c : Prop} [Decidable c] (h : ¬ c) (k : Ev B r) : Ev (fun n => if c then A n else B n) r := by
  simpa only [if_neg h] using k
theorem ev_done {α : Type} {o : Option α} {r : α} (h : o = some r) : Ev (fun _ => o) r := ⟨0, fun _ _ => h⟩
theorem ev_eq {α : Type} {g : Nat → Option α} {r r' : α} (h : Ev g r) (e : r = r') : Ev g r' := e ▸ h
theorem ev_rounds {α : Type} {g : Nat → Option α} {r : α} (h : Ev g r) : ∃ k, g k = some r := Ev.rounds h
theorem ev_uniq {α : Type} {g : Nat → Option α} {r r' : α} (h : Ev g r) (h' : Ev g r') : r = r' := by
  obtain ⟨K, hK⟩ := h
  obtain ⟨K', hK'⟩ := h'
  have a := hK (max K K') (Nat.le_max_left _ _)
  have b := hK' (max K K') (Nat.le_max_right _ _)
  rw [a] at b
  exact Option.some.inj b
theorem wf64 {n : Int} (h : (Lit.int .i64 n).wf = true) : -9223372036854775808 ≤ n ∧ n ≤ 9223372036854775807 := by
  have a : IntKind.i64.min = -9223372036854775808 := rfl
  have b : IntKind.i64.max = 9223372036854775807 := rfl
  simp [Lit.wf] at h
  omega
theorem w64 {n : Int} (h : -9223372036854775808 ≤ n) (h' : n ≤ 9223372036854775807) : wrap64 n = n := by
  unfold wrap64; omega
theorem within_eq (a b c : Int) : impl_within.f a b c = some (decide (b ≤ a ∧ a ≤ c)) := by
  unfold impl_within.f; split <;> simp <;> omega
theorem in_eq (a b c : Int) : spec_l01In.f a b c = some (decide (b ≤ a ∧ a ≤ c)) := by
  unfold spec_l01In.f; split <;> simp <;> omega
theorem mx_eq (a b : Int) : mx a b = max a b := by unfold mx; split <;> omega
theorem mn_eq (a b : Int) : mn a b = min a b := by unfold mn; split <;> omega
/-- A table of w columns and h rows has from 1 to 6 of each; a mask has its bits below w * h. -/
def isT (w h : Int) : Bool := decide (1 ≤ w ∧ w ≤ 6 ∧ 1 ≤ h ∧ h ≤ 6)
def okS (w h m : Int) : Bool := isT w h && decide (0 ≤ m ∧ m < 2 ^ (w * h).toNat)
theorem isT_iff {w h : Int} : isT w h = true ↔ 1 ≤ w ∧ w ≤ 6 ∧ 1 ≤ h ∧ h ≤ 6 := by simp [isT]
theorem okS_iff {w h m : Int} : okS w h m = true ↔ (1 ≤ w ∧ w ≤ 6 ∧ 1 ≤ h ∧ h ≤ 6) ∧ 0 ≤ m ∧ m < 2 ^ (w * h).toNat := by simp [okS, isT]
theorem table_all {p : Int → Int → Bool} (H : (List.range 6).all (fun w => (List.range 6).all fun h => p ((w : Int) + 1) ((h : Int) + 1)) = true) (w h : Int) (hw : isT w h = true) : p w h = true := by
  obtain ⟨a, b, c, d⟩ := isT_iff.mp hw
  have e1 : w = (((w - 1).toNat : Nat) : Int) + 1 := by omega
  have e2 : h = (((h - 1).toNat : Nat) : Int) + 1 := by omega
  have := List.all_eq_true.mp (List.all_eq_true.mp H (w - 1).toNat (by simp; omega)) (h - 1).toNat (by simp; omega)
  rw [e1, e2]; exact this
theorem shl_table (w h : Int) (hw : isT w h = true) : (0 ≤ wrap64 (w * h) ∧ wrap64 (w * h) = w * h ∧ w * h ≤ 36 ∧ shl .i64 1 (wrap64 (w * h)) = 2 ^ (w * h).toNat) ∧ (2 : Int) ^ (w * h).toNat ≤ 68719476736 ∧ 2 ≤ (2 : Int) ^ (w * h).toNat := by
  have := table_all (p := fun w h => decide ((0 ≤ wrap64 (w * h) ∧ wrap64 (w * h) = w * h ∧ w * h ≤ 36 ∧ shl .i64 1 (wrap64 (w * h)) = 2 ^ (w * h).toNat) ∧ (2 : Int) ^ (w * h).toNat ≤ 68719476736 ∧ 2 ≤ (2 : Int) ^ (w * h).toNat)) (by decide +kernel) w h hw
  exact of_decide_eq_true this
theorem spec_shapeOk (w h m : Int) : spec_ShapeOk.f w h m = some (okS w h m) := by
  unfold spec_ShapeOk.f
  simp only [in_eq, Option.bind_some]
  by_cases c : isT w h = true
  · obtain ⟨⟨a1, a2, a3, a4⟩, a5, a6⟩ := shl_table w h c
    have c' := isT_iff.mp c
    rw [if_pos (by simp; omega), if_pos (by simp; omega), if_pos a1, a4, w64 (by omega) (by omega)]
    unfold okS
    rw [c, Bool.true_and]
    exact congrArg some (decide_eq_decide.mpr (by omega))
  · have e : okS w h m = false := by unfold okS; simp [c]
    have c' : ¬ (1 ≤ w ∧ w ≤ 6 ∧ 1 ≤ h ∧ h ≤ 6) := fun x => c (isT_iff.mpr x)
    rw [e]
    by_cases d : 1 ≤ w ∧ w ≤ 6
    · rw [if_pos (decide_eq_true d), if_neg (fun x => c' (by have := of_decide_eq_true x; omega))]
    · rw [if_neg (fun x => d (of_decide_eq_true x))]
theorem impl_isTable (w h : Int) : impl_isTable.f w h = some (isT w h) := by
  unfold impl_isTable.f
  simp only [within_eq, Option.bind_some]
  by_cases d : 1 ≤ w ∧ w ≤ 6
  · rw [if_pos (decide_eq_true d)]
    exact congrArg some (decide_eq_decide.mpr (by omega))
  · rw [if_neg (fun x => d (of_decide_eq_true x))]
    exact congrArg some (decide_eq_false (by omega)).symm
theorem impl_shapeOk (w h m : Int) : impl_ShapeOk.f w h m = some (okS w h m) := by
  unfold impl_ShapeOk.f
  simp only [impl_isTable, Option.bind_some]
  by_cases c : isT w h = true
  · obtain ⟨⟨a1, a2, a3, a4⟩, a5, a6⟩ := shl_table w h c
    rw [if_pos c, if_pos a1, a4]
    unfold okS
    rw [c]
    rw [Bool.true_and]
    by_cases g : m ≥ 0
    · rw [if_pos g]
      exact congrArg some (decide_eq_decide.mpr (by omega))
    · rw [if_neg g]
      exact congrArg some (decide_eq_false (by omega)).symm
  · rw [if_neg c]; unfold okS; simp [c]
/-- and, of two numbers that are each put together of a high and a low part -/
theorem and_cat (k q b m n : Nat) (hb : b < 2 ^ k) (hn : n < 2 ^ k) : (2 ^ k * q + b) &&& (2 ^ k * m + n) = 2 ^ k * (q &&& m) + (b &&& n) := by
  apply Nat.eq_of_testBit_eq
  intro i
  have hbn : b &&& n < 2 ^ k := Nat.and_lt_two_pow _ hn
  rw [Nat.testBit_and, Nat.testBit_two_pow_mul_add _ hb, Nat.testBit_two_pow_mul_add _ hn, Nat.testBit_two_pow_mul_add _ hbn]
  split
  · rw [Nat.testBit_and]
  · rw [Nat.testBit_and]
def pop : Nat → Nat → Nat
  | 0, _ => 0
  | n + 1, x => x % 2 + pop n (x / 2)
def cat : List Nat → Nat
  | [] => 0
  | b :: l => 256 * cat l + b
def rep (c : Nat) : Nat → Nat
  | 0 => 0
  | n + 1 => 256 * rep c n + c
theorem pop_zero (n : Nat) : pop n 0 = 0 := by
  induction n with
  | zero => rfl
  | succ n ih => simp [pop, ih]
theorem fin256 {p : Nat → Bool} (h : (List.range 256).all p = true) (b : Nat) (hb : b < 256) : p b = true := List.all_eq_true.mp h b (by simpa using hb)
def A1 (b : Nat) : Nat := (b / 2 &&& 0x55) + (b &&& 0x55)
def B1 (b : Nat) : Nat := (b / 4 &&& 0x33) + (b &&& 0x33)
def C1 (b : Nat) : Nat := (b / 16 + b) &&& 0x0f
theorem stepA (l : List Nat) (h : ∀ b ∈ l, b < 256) : (cat l / 2 &&& rep 0x55 l.length) + (cat l &&& rep 0x55 l.length) = cat (l.map A1) := by
  induction l with
  | nil => rfl
  | cons b l ih =>
    have hb : b < 256 := h b (by simp)
    have hi := ih (fun x hx => h x (by simp [hx]))
    simp only [cat, rep, List.length_cons, List.map_cons]
    have e1 : (256 * cat l + b) / 2 = 256 * (cat l / 2) + (128 * (cat l % 2) + b / 2) := by omega
    have l1 : 128 * (cat l % 2) + b / 2 < 256 := by omega
    have f : ∀ r < 2, (128 * r + b / 2) &&& 0x55 = b / 2 &&& 0x55 := by
      have := fin256 (p := fun b => (List.range 2).all fun r => (128 * r + b / 2) &&& 0x55 == b / 2 &&& 0x55) (by decide +kernel) b hb
      intro r hr
      have t := List.all_eq_true.mp this r (by simpa using hr)
      simpa using t
    rw [e1, and_cat 8 _ _ _ _ l1 (by decide), and_cat 8 _ _ _ _ hb (by decide), f _ (by omega)]
    rw [← hi]
    unfold A1
    omega
theorem stepB (l : List Nat) (h : ∀ b ∈ l, b < 256) : (cat l / 4 &&& rep 0x33 l.length) + (cat l &&& rep 0x33 l.length) = cat (l.map B1) := by
  induction l with
  | nil => rfl
  | cons b l ih =>
    have hb : b < 256 := h b (by simp)
    have hi := ih (fun x hx => h x (by simp [hx]))
    simp only [cat, rep, List.length_cons, List.map_cons]
    have e1 : (256 * cat l + b) / 4 = 256 * (cat l / 4) + (64 * (cat l % 4) + b / 4) := by omega
    have l1 : 64 * (cat l % 4) + b / 4 < 256 := by omega
    have f : ∀ r < 4, (64 * r + b / 4) &&& 0x33 = b / 4 &&& 0x33 := by
      have := fin256 (p := fun b => (List.range 4).all fun r => (64 * r + b / 4) &&& 0x33 == b / 4 &&& 0x33) (by decide +kernel) b hb
      intro r hr
      have t := List.all_eq_true.mp this r (by simpa using hr)
      simpa using t
    rw [e1, and_cat 8 _ _ _ _ l1 (by decide), and_cat 8 _ _ _ _ hb (by decide), f _ (by omega)]
    rw [← hi]
    unfold B1
    omega
theorem stepC (l : List Nat) (h : ∀ b ∈ l, b % 16 ≤ 4 ∧ b / 16 ≤ 4) : (cat l / 16 + cat l) &&& rep 0x0f l.length = cat (l.map C1) := by
  induction l with
  | nil => rfl
  | cons b l ih =>
    have hb := h b (by simp)
    have hi := ih (fun x hx => h x (by simp [hx]))
    have hr : cat l % 16 ≤ 4 := by
      cases l with
      | nil => simp [cat]
      | cons c l => have := h c (by simp); simp only [cat]; omega
    simp only [cat, rep, List.length_cons, List.map_cons]
    have e1 : (256 * cat l + b) / 16 + (256 * cat l + b) = 256 * (cat l / 16 + cat l) + (16 * (cat l % 16) + (b / 16 + b)) := by omega
    have l1 : 16 * (cat l % 16) + (b / 16 + b) < 256 := by omega
    have f : ∀ r < 5, (16 * r + (b / 16 + b)) &&& 0x0f = (b / 16 + b) &&& 0x0f := by
      intro r hr
      rw [show (0x0f : Nat) = 2 ^ 4 - 1 from rfl, Nat.and_two_pow_sub_one_eq_mod, Nat.and_two_pow_sub_one_eq_mod]
      omega
    rw [e1, and_cat 8 _ _ _ _ l1 (by decide), f _ (by omega), hi]
    rfl
def P8 (b : Nat) : Nat := C1 (B1 (A1 b))
theorem bytes_of (n : Nat) : ∀ x : Nat, x < 256 ^ n → ∃ l : List Nat, l.length = n ∧ (∀ b ∈ l, b < 256) ∧ cat l = x := by
  induction n with
  | zero => intro x hx; exact ⟨[], rfl, by simp, by simp [cat]; omega⟩
  | succ n ih =>
    intro x hx
    obtain ⟨l, h1, h2, h3⟩ := ih (x / 256) (by rw [Nat.pow_succ] at hx; omega)
    exact ⟨x % 256 :: l, by simp [h1], by intro b hb; rcases List.mem_cons.mp hb with rfl | h; omega; exact h2 b h, by simp only [cat, h3]; omega⟩
theorem pop8 (b : Nat) (hb : b < 256) : P8 b = pop 8 b ∧ A1 b < 256 ∧ B1 (A1 b) < 256 ∧ B1 (A1 b) % 16 ≤ 4 ∧ B1 (A1 b) / 16 ≤ 4 ∧ P8 b ≤ 8 := by
  have := fin256 (p := fun b => decide (P8 b = pop 8 b ∧ A1 b < 256 ∧ B1 (A1 b) < 256 ∧ B1 (A1 b) % 16 ≤ 4 ∧ B1 (A1 b) / 16 ≤ 4 ∧ P8 b ≤ 8)) (by decide +kernel) b hb
  exact of_decide_eq_true this
/-- The three steps within bytes. -/
theorem steps (x : Nat) (hx : x < 2 ^ 64) : ∃ b0 b1 b2 b3 b4 b5 b6 b7 : Nat, (b0 < 256 ∧ b1 < 256 ∧ b2 < 256 ∧ b3 < 256 ∧ b4 < 256 ∧ b5 < 256 ∧ b6 < 256 ∧ b7 < 256) ∧ x = cat [b0, b1, b2, b3, b4, b5, b6, b7] ∧
    ∃ a b : Nat, a = (x / 2 &&& 6148914691236517205) + (x &&& 6148914691236517205) ∧ a < 2 ^ 64 ∧ b = (a / 4 &&& 3689348814741910323) + (a &&& 3689348814741910323) ∧ b / 16 + b < 2 ^ 64 ∧
    (b / 16 + b) &&& 1085102592571150095 = cat [pop 8 b0, pop 8 b1, pop 8 b2, pop 8 b3, pop 8 b4, pop 8 b5, pop 8 b6, pop 8 b7] := by
  obtain ⟨l, h1, h2, h3⟩ := bytes_of 8 x hx
  match l, h1 with
  | [b0, b1, b2, b3, b4, b5, b6, b7], _ =>
    simp only [List.mem_cons, List.not_mem_nil, or_false, forall_eq_or_imp, forall_eq] at h2
    obtain ⟨g0, g1, g2, g3, g4, g5, g6, g7⟩ := h2
    have q0 := pop8 b0 g0; have q1 := pop8 b1 g1; have q2 := pop8 b2 g2; have q3 := pop8 b3 g3
    have q4 := pop8 b4 g4; have q5 := pop8 b5 g5; have q6 := pop8 b6 g6; have q7 := pop8 b7 g7
    refine ⟨b0, b1, b2, b3, b4, b5, b6, b7, ⟨g0, g1, g2, g3, g4, g5, g6, g7⟩, h3.symm, ?_⟩
    have sA := stepA [b0, b1, b2, b3, b4, b5, b6, b7] (by simp; omega)
    have sB := stepB ([b0, b1, b2, b3, b4, b5, b6, b7].map A1) (by simp; omega)
    have sC := stepC (([b0, b1, b2, b3, b4, b5, b6, b7].map A1).map B1) (by simp; omega)
    refine ⟨_, _, rfl, ?_, rfl, ?_, ?_⟩
    all_goals subst h3
    · show (cat _ / 2 &&& rep 0x55 8) + (cat _ &&& rep 0x55 8) < _
      have := sA
      simp only [List.length_cons, List.length_nil, Nat.zero_add] at this
      rw [this]
      simp only [List.map_cons, List.map_nil, cat]
      omega
    · have e1 := sA
      simp only [List.length_cons, List.length_nil, Nat.zero_add] at e1
      have e2 := sB
      simp only [List.length_map, List.length_cons, List.length_nil, Nat.zero_add] at e2
      have e1' : (cat [b0, b1, b2, b3, b4, b5, b6, b7] / 2 &&& 6148914691236517205) + (cat [b0, b1, b2, b3, b4, b5, b6, b7] &&& 6148914691236517205) = _ := e1
      have e2' : (cat (List.map A1 [b0, b1, b2, b3, b4, b5, b6, b7]) / 4 &&& 3689348814741910323) + (cat (List.map A1 [b0, b1, b2, b3, b4, b5, b6, b7]) &&& 3689348814741910323) = _ := e2
      rw [e1', e2']
      simp only [List.map_cons, List.map_nil, cat]
      omega
    · have e1 := sA
      simp only [List.length_cons, List.length_nil, Nat.zero_add] at e1
      have e2 := sB
      simp only [List.length_map, List.length_cons, List.length_nil, Nat.zero_add] at e2
      have e3 := sC
      simp only [List.length_map, List.length_cons, List.length_nil, Nat.zero_add] at e3
      have e1' : (cat [b0, b1, b2, b3, b4, b5, b6, b7] / 2 &&& 6148914691236517205) + (cat [b0, b1, b2, b3, b4, b5, b6, b7] &&& 6148914691236517205) = _ := e1
      have e2' : (cat (List.map A1 [b0, b1, b2, b3, b4, b5, b6, b7]) / 4 &&& 3689348814741910323) + (cat (List.map A1 [b0, b1, b2, b3, b4, b5, b6, b7]) &&& 3689348814741910323) = _ := e2
      have e3' : (cat (List.map B1 (List.map A1 [b0, b1, b2, b3, b4, b5, b6, b7])) / 16 + cat (List.map B1 (List.map A1 [b0, b1, b2, b3, b4, b5, b6, b7]))) &&& 1085102592571150095 = _ := e3
      rw [e1', e2', e3']
      have p0 := q0.1; have p1 := q1.1; have p2 := q2.1; have p3 := q3.1; have p4 := q4.1; have p5 := q5.1; have p6 := q6.1; have p7 := q7.1
      unfold P8 at p0 p1 p2 p3 p4 p5 p6 p7
      simp only [List.map_cons, List.map_nil, p0, p1, p2, p3, p4, p5, p6, p7]
theorem pop_cat (b q n : Nat) (hb : b < 256) : pop (8 + n) (256 * q + b) = pop 8 b + pop n q := by
  rw [Nat.add_comm 8 n]
  simp only [pop]
  have e : (256 * q + b) / 2 / 2 / 2 / 2 / 2 / 2 / 2 / 2 = q := by omega
  rw [e]
  omega
theorem pop_more (n : Nat) : ∀ m x : Nat, x < 2 ^ n → pop (n + m) x = pop n x := by
  induction n with
  | zero => intro m x hx; obtain rfl : x = 0 := by omega
            rw [pop_zero, pop_zero]
  | succ n ih =>
    intro m x hx
    rw [Nat.succ_add]
    simp only [pop]
    rw [ih m (x / 2) (by rw [Nat.pow_succ] at hx; omega)]
theorem pop_le (n : Nat) : ∀ x : Nat, pop n x ≤ n := by
  induction n with
  | zero => intro x; simp [pop]
  | succ n ih => intro x; have := ih (x / 2); simp only [pop]; omega
theorem pop_cat8 (b0 b1 b2 b3 b4 b5 b6 b7 : Nat) (h : b0 < 256 ∧ b1 < 256 ∧ b2 < 256 ∧ b3 < 256 ∧ b4 < 256 ∧ b5 < 256 ∧ b6 < 256 ∧ b7 < 256) :
    pop 64 (cat [b0, b1, b2, b3, b4, b5, b6, b7]) = pop 8 b0 + pop 8 b1 + pop 8 b2 + pop 8 b3 + pop 8 b4 + pop 8 b5 + pop 8 b6 + pop 8 b7 := by
  simp only [cat]
  rw [show (64 : Nat) = 8 + (8 + (8 + (8 + (8 + (8 + (8 + (8 + 0))))))) from rfl]
  rw [pop_cat _ _ _ (by omega), pop_cat _ _ _ (by omega), pop_cat _ _ _ (by omega), pop_cat _ _ _ (by omega), pop_cat _ _ _ (by omega), pop_cat _ _ _ (by omega), pop_cat _ _ _ (by omega), pop_cat _ _ _ (by omega)]
  simp only [pop]
  omega
/-- The last steps: the bytes' sum. -/
theorem folds (p0 p1 p2 p3 p4 p5 p6 p7 : Nat) (h : p0 ≤ 8 ∧ p1 ≤ 8 ∧ p2 ≤ 8 ∧ p3 ≤ 8 ∧ p4 ≤ 8 ∧ p5 ≤ 8 ∧ p6 ≤ 8 ∧ p7 ≤ 8) (y z u v : Nat) (hy : y = cat [p0, p1, p2, p3, p4, p5, p6, p7])
    (hz : z = y + y / 256) (hu : u = z + z / 65536) (hv : v = u + u / 4294967296) : z < 2 ^ 63 ∧ u < 2 ^ 63 ∧ v < 2 ^ 63 ∧ v % 128 = p0 + p1 + p2 + p3 + p4 + p5 + p6 + p7 := by
  simp only [cat] at hy
  have z0 : z = (p0 + p1) + 256 * (p1 + p2) + 65536 * (p2 + p3) + 16777216 * (p3 + p4) + 4294967296 * (p4 + p5) + 1099511627776 * (p5 + p6) + 281474976710656 * (p6 + p7) + 72057594037927936 * p7 := by omega
  have u0 : u = (p0 + p1 + p2 + p3) + 256 * (p1 + p2 + p3 + p4) + 65536 * (p2 + p3 + p4 + p5) + 16777216 * (p3 + p4 + p5 + p6) + 4294967296 * (p4 + p5 + p6 + p7) + 1099511627776 * (p5 + p6 + p7) + 281474976710656 * (p6 + p7) + 72057594037927936 * p7 := by
    have : z / 65536 = (p2 + p3) + 256 * (p3 + p4) + 65536 * (p4 + p5) + 16777216 * (p5 + p6) + 4294967296 * (p6 + p7) + 1099511627776 * p7 := by omega
    omega
  have v0 : u / 4294967296 = (p4 + p5 + p6 + p7) + 256 * (p5 + p6 + p7) + 65536 * (p6 + p7) + 16777216 * p7 := by omega
  have zl : z < 2 ^ 63 := by clear hz hu hv u0 v0 hy; omega
  clear hy hz
  have ul : u < 2 ^ 63 := by clear hu hv v0 z0; omega
  clear hu z0
  have v1 : v = (p0 + p1 + p2 + p3 + p4 + p5 + p6 + p7) + 128 * (2 * (p1 + p2 + p3 + p4 + p5 + p6 + p7) + 512 * (p2 + p3 + p4 + p5 + p6 + p7) + 131072 * (p3 + p4 + p5 + p6 + p7) + 33554432 * (p4 + p5 + p6 + p7) + 8589934592 * (p5 + p6 + p7) + 2199023255552 * (p6 + p7) + 562949953421312 * p7) := by
    rw [hv, v0, u0]; clear hv v0 u0 ul zl; omega
  have vl : v < 2 ^ 63 := by clear v0 u0; omega
  refine ⟨zl, ul, vl, ?_⟩
  rw [v1, Nat.add_mul_mod_self_left]
  clear v1 v0 u0 hv vl ul zl
  exact Nat.mod_eq_of_lt (by omega)
theorem and_u64 (a b : Nat) (ha : a < 2 ^ 64) (hb : b < 2 ^ 64) : Go.bits .and .u64 (a : Int) (b : Int) = ((a &&& b : Nat) : Int) :=
  (Go.bits_nat .u64 64 (by decide) (fun n h0 h1 => by unfold Go.IntKind.wrap; simp [Go.IntKind.bits, Go.IntKind.signed]; omega) a b ha hb).1
theorem and_i64 (a b : Nat) (ha : a < 2 ^ 63) (hb : b < 2 ^ 63) : Go.bits .and .i64 (a : Int) (b : Int) = ((a &&& b : Nat) : Int) :=
  (Go.bits_nat .i64 63 (by decide) (fun n h0 h1 => by rw [Go.IntKind.wrap_i64]; omega) a b ha hb).1
theorem or_i64 (a b : Nat) (ha : a < 2 ^ 63) (hb : b < 2 ^ 63) : Go.bits .or .i64 (a : Int) (b : Int) = ((a ||| b : Nat) : Int) :=
  (Go.bits_nat .i64 63 (by decide) (fun n h0 h1 => by rw [Go.IntKind.wrap_i64]; omega) a b ha hb).2
theorem u64_nat (a : Nat) (ha : a < 2 ^ 64) : IntKind.u64.wrap (a : Int) = (a : Int) := by
  unfold Go.IntKind.wrap; simp [Go.IntKind.bits, Go.IntKind.signed]; omega
theorem and1 (x : Nat) : x &&& 1 = x % 2 := Nat.and_one_is_mod x
theorem ones64 (x : Nat) (hx : x < 2 ^ 64) : bits_OnesCount64.f (x : Int) = some ((pop 64 x : Nat) : Int) := by
  obtain ⟨b0, b1, b2, b3, b4, b5, b6, b7, hb, hc, a, b, ha, ha', hbb, hb', hy⟩ := steps x hx
  unfold bits_OnesCount64.f
  have l5 : (6148914691236517205 : Nat) < 2 ^ 64 := by decide
  have l3 : (3689348814741910323 : Nat) < 2 ^ 64 := by decide
  have lf : (1085102592571150095 : Nat) < 2 ^ 64 := by decide
  have d2 : ((x : Int) / 2) = ((x / 2 : Nat) : Int) := by omega
  have eA : IntKind.u64.wrap ((Go.bits .and .u64 ((x : Int) / 2) 6148914691236517205) + (Go.bits .and .u64 (x : Int) 6148914691236517205)) = (a : Int) := by
    have i1 := and_u64 (x / 2) 6148914691236517205 (by omega) l5
    have i2 := and_u64 x 6148914691236517205 hx l5
    rw [d2]
    have i1' : Go.bits .and .u64 ((x / 2 : Nat) : Int) 6148914691236517205 = _ := i1
    have i2' : Go.bits .and .u64 ((x : Nat) : Int) 6148914691236517205 = _ := i2
    rw [i1', i2', ← Int.natCast_add, ← ha]
    exact u64_nat a ha'
  simp only [eA]
  have d4 : ((a : Int) / 4) = ((a / 4 : Nat) : Int) := by omega
  have lb : b < 2 ^ 64 := by omega
  have eB : IntKind.u64.wrap ((Go.bits .and .u64 ((a : Int) / 4) 3689348814741910323) + (Go.bits .and .u64 (a : Int) 3689348814741910323)) = (b : Int) := by
    have i1 := and_u64 (a / 4) 3689348814741910323 (by omega) l3
    have i2 := and_u64 a 3689348814741910323 ha' l3
    rw [d4]
    have i1' : Go.bits .and .u64 ((a / 4 : Nat) : Int) 3689348814741910323 = _ := i1
    have i2' : Go.bits .and .u64 ((a : Nat) : Int) 3689348814741910323 = _ := i2
    rw [i1', i2', ← Int.natCast_add, ← hbb]
    exact u64_nat b lb
  simp only [eB]
  have d16 : ((b : Int) / 16) + (b : Int) = ((b / 16 + b : Nat) : Int) := by omega
  rw [d16, u64_nat _ hb']
  have eC : Go.bits .and .u64 ((b / 16 + b : Nat) : Int) 1085102592571150095 = (((b / 16 + b) &&& 1085102592571150095 : Nat) : Int) := and_u64 _ 1085102592571150095 hb' lf
  simp only [eC, hy]
  have q0 := (pop8 b0 hb.1).1 ▸ (pop8 b0 hb.1).2.2.2.2.2
  have r := fun c (hc : c < 256) => (pop8 c hc).1 ▸ (pop8 c hc).2.2.2.2.2
  obtain ⟨g1, g2, g3, g4⟩ := folds (pop 8 b0) (pop 8 b1) (pop 8 b2) (pop 8 b3) (pop 8 b4) (pop 8 b5) (pop 8 b6) (pop 8 b7)
    ⟨r _ (by omega), r _ (by omega), r _ (by omega), r _ (by omega), r _ (by omega), r _ (by omega), r _ (by omega), r _ (by omega)⟩ _ _ _ _ rfl rfl rfl rfl
  generalize hY : cat [pop 8 b0, pop 8 b1, pop 8 b2, pop 8 b3, pop 8 b4, pop 8 b5, pop 8 b6, pop 8 b7] = Y at *
  have z1 : ((Y : Int) + (Y : Int) / 256) = ((Y + Y / 256 : Nat) : Int) := by omega
  rw [z1, u64_nat _ (by omega)]
  generalize hZ : Y + Y / 256 = Z at *
  have z2 : ((Z : Int) + (Z : Int) / 65536) = ((Z + Z / 65536 : Nat) : Int) := by omega
  rw [z2, u64_nat _ (by omega)]
  generalize hU : Z + Z / 65536 = U at *
  have z3 : ((U : Int) + (U : Int) / 4294967296) = ((U + U / 4294967296 : Nat) : Int) := by omega
  rw [z3, u64_nat _ (by omega)]
  generalize hV : U + U / 4294967296 = V at *
  rw [w64 (by omega) (by omega)]
  have e7 : Go.bits .and .i64 (V : Int) 127 = ((V &&& 127 : Nat) : Int) := and_i64 V 127 (by omega) (by decide)
  rw [e7, show (127 : Nat) = 2 ^ 7 - 1 from rfl, Nat.and_two_pow_sub_one_eq_mod, show 2 ^ 7 = 128 from rfl, g4, hc, pop_cat8 _ _ _ _ _ _ _ _ hb]
theorem onesCount (x : Nat) (hx : x < 2 ^ 64) : bits_OnesCount.f (x : Int) = some ((pop 64 x : Nat) : Int) := by
  unfold bits_OnesCount.f
  rw [ones64 x hx]; rfl
theorem l08Ones_from (m : Nat) : ∀ (x n : Nat), x < 2 ^ m → m ≤ 62 → n + m ≤ 100 → Ev (fun k => spec_l08Ones.l0 k (x : Int) (n : Int)) ((n + pop m x : Nat) : Int) := by
  induction m with
  | zero =>
    intro x n hx hm hn
    obtain rfl : x = 0 := by omega
    refine ev_shift ?_
    simp only [spec_l08Ones.l0, pop]
    exact ev_neg (by omega) (ev_now _)
  | succ m ih =>
    intro x n hx hm hn
    have hp : 2 ^ m ≤ 2 ^ 61 := Nat.pow_le_pow_right (by decide) (by omega)
    refine ev_shift ?_
    simp only [spec_l08Ones.l0]
    by_cases h : 0 < x
    · refine ev_pos (by omega) ?_
      have e : Go.bits .and .i64 (x : Int) 1 = ((x % 2 : Nat) : Int) := by
        have := and_i64 x 1 (by rw [Nat.pow_succ] at hx; omega) (by decide)
        rw [and1] at this; exact this
      rw [e, ← Int.natCast_add, w64 (by omega) (by omega)]
      have d : (x : Int) / 2 = ((x / 2 : Nat) : Int) := by omega
      rw [d]
      have := ih (x / 2) (n + x % 2) (by rw [Nat.pow_succ] at hx; omega) (by omega) (by omega)
      refine ev_eq this ?_
      simp only [pop]; omega
    · obtain rfl : x = 0 := by omega
      rw [pop_zero]
      exact ev_neg (by omega) (ev_now _)
theorem l08Ones_ev (m : Nat) (x : Nat) (hx : x < 2 ^ m) (hm : m ≤ 62) : Ev (fun k => spec_l08Ones.f k (x : Int)) ((pop 64 x : Nat) : Int) := by
  unfold spec_l08Ones.f
  have := l08Ones_from m x 0 hx hm (by omega)
  refine ev_eq this ?_
  rw [show (64 : Nat) = m + (64 - m) by omega, pop_more _ _ _ hx]
  simp
theorem ok_nat {w h m : Int} (c : okS w h m = true) : ∃ x : Nat, m = x ∧ x < 2 ^ (w * h).toNat ∧ (w * h).toNat ≤ 36 := by
  obtain ⟨hT, h0, h1⟩ := okS_iff.mp c
  refine ⟨m.toNat, by omega, ?_, ?_⟩
  · have e : m = (m.toNat : Int) := by omega
    rw [e] at h1
    exact_mod_cast h1
  · have := (shl_table w h (isT_iff.mpr hT)).1.2.2.1
    omega
theorem FnExactCellCount : laws_FnExactCellCount.Pure := by
  intro w h m _ _ _
  apply ev_rounds
  unfold laws_FnExactCellCount.f spec_CellCount.f impl_CellCount.f
  by_cases c : okS w h m = true
  · obtain ⟨x, rfl, hx, hn⟩ := ok_nat c
    have h36 : x < 2 ^ 36 := Nat.lt_of_lt_of_le hx (Nat.pow_le_pow_right (by decide) hn)
    have h1 : Ev (fun k => (spec_ShapeOk.f w h x).bind fun t => if t = true then ((spec_l08Ones.f k x).bind fun t => some t) else some (-1)) ((pop 64 x : Nat) : Int) :=
      ev_bind0 (spec_shapeOk _ _ _) (ev_pos c (ev_bind (l08Ones_ev 36 x h36 (by decide)) (ev_now _)))
    refine ev_bind h1 (ev_bind0 ?_ (ev_pos rfl (ev_now _)))
    rw [impl_shapeOk, c]
    simp only [Option.bind_some, if_true]
    rw [u64_nat x (by omega), onesCount x (by omega)]
    rfl
  · refine ev_bind (a := -1) (ev_bind0 (spec_shapeOk _ _ _) (ev_neg c (ev_now _))) (ev_bind0 (a := -1) ?_ (ev_pos rfl (ev_now _)))
    rw [impl_shapeOk]
    simp [c]

end Go.Proofs.Ytdeocimieeodnaa.Pure
