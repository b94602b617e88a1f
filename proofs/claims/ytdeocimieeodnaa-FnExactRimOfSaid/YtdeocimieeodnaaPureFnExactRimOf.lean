/- RimOf of the program and of the reference answer alike, for all numbers. -/
import Derived.Test.YtdeocimieeodnaaQFnExactRimOfx2
namespace Go.Proofs.Ytdeocimieeodnaa.Pure
open Go.RowKit Go.Proofs.Ytdeocimieeodnaa.QFnExactRimOf Go.Proofs.YtdeocimieeodnaaW.PrintWords Go.Proofs.YtdeocimieeodnaaW.PrintLast Go.Proofs.YtdeocimieeodnaaW.PrintMore
set_option linter.unusedVariables false
set_option linter.unusedSimpArgs false

/- Eventually: with enough rounds the answer is r. -/
theorem ev_now {α : Type} (r : α) : Ev (fun _ => some r) r := Ev.now r
theorem ev_shift {α : Type} {g : Nat → Option α} {r : α} (h : Ev (fun k => g (k + 1)) r) : Ev g r := by
  obtain ⟨K, hK⟩ := h
  exact ⟨K + 1, fun k hk => by
    obtain ⟨m, rfl⟩ : ∃ m, k = m + 1 := ⟨k - 1, by omega⟩
    exact hK m (by omega)⟩
theorem ev_bind {α β : Type} {g : Nat → Option α} {f : Nat → α → Option β} {a : α} {r : β} (h : Ev g a) (k : Ev (fun n => f n a) r) : Ev (fun n => (g n).bind (f n)) r := Ev.bind h k
theorem ev_bind0 {α β : Type} {o : Option α} {f : Nat → α → Option β} {a : α} {r : β} (h : o = some a) (k : Ev (fun n => f n a) r) : Ev (fun n => o.bind (f n)) r := by
  subst h; exact k
theorem ev_pos {α : Type} {A B : Nat → Option α} {r : α} {c : Prop} [Decidable c] (h : c) (k : Ev A r) : Ev (fun n => if c then A n else B n) r := by
  simpa only [if_pos h] using k
theorem ev_neg {α : Type} {A B : Nat → Option α} {r : α} {c : Prop} [Decidable c] (h : ¬ c) (k : Ev B r) : Ev (fun n => if c then A n else B n) r := by
  simpa only [if_neg h] using k
theorem ev_done {α : Type} {o : Option α} {r : α} (h : o = some r) : Ev (fun _ => o) r := ⟨0, fun _ _ => h⟩
theorem ev_eq {α : Type} {g : Nat → Option α} {r r' : α} (h : Ev g r) (e : r = r') : Ev g r' := e ▸ h
theorem ev_rounds {α : Type} {g : Nat → Option α} {r : α} (h : Ev g r) : ∃ k, g k = some r := Ev.rounds h
theorem ev_uniq {α : Type} {g : Nat → Option α} {r r' : α} (h : Ev g r) (h' : Ev g r') : r = r' := by
  obtain ⟨K, hK⟩ := h
  obtain ⟨K', hK'⟩ := h'
  have a := hK (max K K') (Nat.le_max_left _ _)
  have b := hK' (max K K') (Nat.le_max_right _ _)
  rw [a] at b
  exact Option.some.inj b
theorem wf64 {n : Int} (h : (Lit.int .i64 n).wf = true) : -9223372036854775808 ≤ n ∧ n ≤ 9223372036854775807 := by
  have a : IntKind.i64.min = -9223372036854775808 := rfl
  have b : IntKind.i64.max = 9223372036854775807 := rfl
  simp [Lit.wf] at h
  omega
theorem w64 {n : Int} (h : -9223372036854775808 ≤ n) (h' : n ≤ 9223372036854775807) : wrap64 n = n := by
  unfold wrap64; omega
theorem rd_mid (pre suf : List Int) (a : Int) : rd (pre ++ a :: suf) (pre.length : Int) = a := by
  simp [rd, List.getD_eq_getElem?_getD]
theorem rdp_mid (pre suf : List S42) (a : S42) : rd_T42 (pre ++ a :: suf) (pre.length : Int) = a := by
  simp [rd_T42, List.getD_eq_getElem?_getD]
theorem next_len {α : Type} (pre : List α) (a : α) (h : pre.length < 1000000) : wrap64 ((pre.length : Int) + 1) = ((pre ++ [a]).length : Int) := by
  rw [w64 (by omega) (by omega)]; simp
theorem within_eq (a b c : Int) : impl_within.f a b c = some (decide (b ≤ a ∧ a ≤ c)) := by
  unfold impl_within.f; split <;> simp <;> omega
theorem in_eq (a b c : Int) : spec_l01In.f a b c = some (decide (b ≤ a ∧ a ≤ c)) := by
  unfold spec_l01In.f; split <;> simp <;> omega
theorem mx_eq (a b : Int) : mx a b = max a b := by unfold mx; split <;> omega
theorem mn_eq (a b : Int) : mn a b = min a b := by unfold mn; split <;> omega
/-- A table of w columns and h rows has from 1 to 6 of each; a mask has its bits below w * h. -/
def isT (w h : Int) : Bool := decide (1 ≤ w ∧ w ≤ 6 ∧ 1 ≤ h ∧ h ≤ 6)
def okS (w h m : Int) : Bool := isT w h && decide (0 ≤ m ∧ m < 2 ^ (w * h).toNat)
theorem isT_iff {w h : Int} : isT w h = true ↔ 1 ≤ w ∧ w ≤ 6 ∧ 1 ≤ h ∧ h ≤ 6 := by simp [isT]
theorem okS_iff {w h m : Int} : okS w h m = true ↔ (1 ≤ w ∧ w ≤ 6 ∧ 1 ≤ h ∧ h ≤ 6) ∧ 0 ≤ m ∧ m < 2 ^ (w * h).toNat := by simp [okS, isT]
theorem table_all {p : Int → Int → Bool} (H : (List.range 6).all (fun w => (List.range 6).all fun h => p ((w : Int) + 1) ((h : Int) + 1)) = true) (w h : Int) (hw : isT w h = true) : p w h = true := by
  obtain ⟨a, b, c, d⟩ := isT_iff.mp hw
  have e1 : w = (((w - 1).toNat : Nat) : Int) + 1 := by omega
  have e2 : h = (((h - 1).toNat : Nat) : Int) + 1 := by omega
  have := List.all_eq_true.mp (List.all_eq_true.mp H (w - 1).toNat (by simp; omega)) (h - 1).toNat (by simp; omega)
  rw [e1, e2]; exact this
theorem shl_table (w h : Int) (hw : isT w h = true) : (0 ≤ wrap64 (w * h) ∧ wrap64 (w * h) = w * h ∧ w * h ≤ 36 ∧ shl .i64 1 (wrap64 (w * h)) = 2 ^ (w * h).toNat) ∧ (2 : Int) ^ (w * h).toNat ≤ 68719476736 ∧ 2 ≤ (2 : Int) ^ (w * h).toNat := by
  have := table_all (p := fun w h => decide ((0 ≤ wrap64 (w * h) ∧ wrap64 (w * h) = w * h ∧ w * h ≤ 36 ∧ shl .i64 1 (wrap64 (w * h)) = 2 ^ (w * h).toNat) ∧ (2 : Int) ^ (w * h).toNat ≤ 68719476736 ∧ 2 ≤ (2 : Int) ^ (w * h).toNat)) (by decide +kernel) w h hw
  exact of_decide_eq_true this
theorem spec_shapeOk (w h m : Int) : spec_ShapeOk.f w h m = some (okS w h m) := by
  unfold spec_ShapeOk.f
  simp only [in_eq, Option.bind_some]
  by_cases c : isT w h = true
  · obtain ⟨⟨a1, a2, a3, a4⟩, a5, a6⟩ := shl_table w h c
    have c' := isT_iff.mp c
    rw [if_pos (by simp; omega), if_pos (by simp; omega), if_pos a1, a4, w64 (by omega) (by omega)]
    unfold okS
    rw [c, Bool.true_and]
    exact congrArg some (decide_eq_decide.mpr (by omega))
  · have e : okS w h m = false := by unfold okS; simp [c]
    have c' : ¬ (1 ≤ w ∧ w ≤ 6 ∧ 1 ≤ h ∧ h ≤ 6) := fun x => c (isT_iff.mpr x)
    rw [e]
    by_cases d : 1 ≤ w ∧ w ≤ 6
    · rw [if_pos (decide_eq_true d), if_neg (fun x => c' (by have := of_decide_eq_true x; omega))]
    · rw [if_neg (fun x => d (of_decide_eq_true x))]
theorem impl_isTable (w h : Int) : impl_isTable.f w h = some (isT w h) := by
  unfold impl_isTable.f
  simp only [within_eq, Option.bind_some]
  by_cases d : 1 ≤ w ∧ w ≤ 6
  · rw [if_pos (decide_eq_true d)]
    exact congrArg some (decide_eq_decide.mpr (by omega))
  · rw [if_neg (fun x => d (of_decide_eq_true x))]
    exact congrArg some (decide_eq_false (by omega)).symm
theorem impl_shapeOk (w h m : Int) : impl_ShapeOk.f w h m = some (okS w h m) := by
  unfold impl_ShapeOk.f
  simp only [impl_isTable, Option.bind_some]
  by_cases c : isT w h = true
  · obtain ⟨⟨a1, a2, a3, a4⟩, a5, a6⟩ := shl_table w h c
    rw [if_pos c, if_pos a1, a4]
    unfold okS
    rw [c]
    rw [Bool.true_and]
    by_cases g : m ≥ 0
    · rw [if_pos g]
      exact congrArg some (decide_eq_decide.mpr (by omega))
    · rw [if_neg g]
      exact congrArg some (decide_eq_false (by omega)).symm
  · rw [if_neg c]; unfold okS; simp [c]
theorem and_u64 (a b : Nat) (ha : a < 2 ^ 64) (hb : b < 2 ^ 64) : Go.bits .and .u64 (a : Int) (b : Int) = ((a &&& b : Nat) : Int) :=
  (Go.bits_nat .u64 64 (by decide) (fun n h0 h1 => by unfold Go.IntKind.wrap; simp [Go.IntKind.bits, Go.IntKind.signed]; omega) a b ha hb).1
theorem and_i64 (a b : Nat) (ha : a < 2 ^ 63) (hb : b < 2 ^ 63) : Go.bits .and .i64 (a : Int) (b : Int) = ((a &&& b : Nat) : Int) :=
  (Go.bits_nat .i64 63 (by decide) (fun n h0 h1 => by rw [Go.IntKind.wrap_i64]; omega) a b ha hb).1
theorem or_i64 (a b : Nat) (ha : a < 2 ^ 63) (hb : b < 2 ^ 63) : Go.bits .or .i64 (a : Int) (b : Int) = ((a ||| b : Nat) : Int) :=
  (Go.bits_nat .i64 63 (by decide) (fun n h0 h1 => by rw [Go.IntKind.wrap_i64]; omega) a b ha hb).2
theorem u64_nat (a : Nat) (ha : a < 2 ^ 64) : IntKind.u64.wrap (a : Int) = (a : Int) := by
  unfold Go.IntKind.wrap; simp [Go.IntKind.bits, Go.IntKind.signed]; omega
theorem and1 (x : Nat) : x &&& 1 = x % 2 := Nat.and_one_is_mod x
theorem shr_nat (x i : Nat) (hi : i ≤ 64) : shr .i64 (x : Int) (i : Int) = ((x / 2 ^ i : Nat) : Int) := by
  unfold shr
  rw [show min ((i : Int)).toNat (IntKind.bits .i64) = i from by
    have : IntKind.bits .i64 = 64 := rfl
    omega]
  rw [Int.natCast_ediv, Int.natCast_pow]; rfl
theorem bit_at (x i : Nat) (hx : x < 2 ^ 62) (hi : i ≤ 64) : Go.bits .and .i64 (shr .i64 (x : Int) (i : Int)) 1 = ((x / 2 ^ i % 2 : Nat) : Int) := by
  rw [shr_nat x i hi]
  have h := and_i64 (x / 2 ^ i) 1 (Nat.lt_of_le_of_lt (Nat.div_le_self _ _) (by omega)) (by decide)
  rw [and1] at h
  exact h
theorem testBit_div (x i : Nat) : x.testBit i = decide (x / 2 ^ i % 2 = 1) := Nat.testBit_eq_decide_div_mod_eq
theorem bit_eq1 (x i : Nat) (hx : x < 2 ^ 62) (hi : i ≤ 64) : (Go.bits .and .i64 (shr .i64 (x : Int) (i : Int)) 1 = 1) ↔ x.testBit i = true := by
  rw [bit_at x i hx hi, testBit_div, decide_eq_true_iff]
  generalize x / 2 ^ i % 2 = q
  omega
theorem bit_eq0 (x i : Nat) (hx : x < 2 ^ 62) (hi : i ≤ 64) : (Go.bits .and .i64 (shr .i64 (x : Int) (i : Int)) 1 = 0) ↔ x.testBit i = false := by
  rw [bit_at x i hx hi, testBit_div, decide_eq_false_iff_not]
  have : x / 2 ^ i % 2 < 2 := Nat.mod_lt _ (by decide)
  generalize x / 2 ^ i % 2 = q at *
  omega
theorem shl_nat (i : Nat) (hi : i ≤ 62) : shl .i64 1 (i : Int) = ((2 ^ i : Nat) : Int) := by
  unfold shl
  rw [show min ((i : Int)).toNat (IntKind.bits .i64) = i from by
    have : IntKind.bits .i64 = 64 := rfl
    omega]
  have h : 2 ^ i ≤ 2 ^ 62 := Nat.pow_le_pow_right (by decide) hi
  have e : (1 : Int) * 2 ^ i = ((2 ^ i : Nat) : Int) := by rw [Int.natCast_pow]; simp
  rw [e, IntKind.wrap_i64]
  generalize 2 ^ i = q at *
  omega
theorem has_eq (x i : Nat) (hx : x < 2 ^ 62) (hi : i ≤ 64) : impl_has.f (x : Int) (i : Int) = some (x.testBit i) := by
  unfold impl_has.f
  rw [if_pos (by omega)]
  have h := bit_eq1 x i hx hi
  cases e : x.testBit i
  · rw [e] at h
    simp at h
    exact congrArg some (by simpa using h)
  · rw [e] at h
    simp at h
    exact congrArg some (by simpa using h)
theorem zero_test (x i : Nat) (h : x / 2 ^ i = 0) (j : Nat) (hj : i ≤ j) : x.testBit j = false := by
  apply Nat.testBit_lt_two_pow
  have : x < 2 ^ i := by
    rcases Nat.div_eq_zero_iff.mp h with h | h
    · have := Nat.two_pow_pos i; omega
    · exact h
  exact Nat.lt_of_lt_of_le this (Nat.pow_le_pow_right (by decide) hj)
/-- The cells of a mask from i on, d of them. -/
def cl (x : Nat) : Nat → Nat → List Nat
  | _, 0 => []
  | i, d + 1 => if x.testBit i then i :: cl x (i + 1) d else cl x (i + 1) d
theorem cl_none (x : Nat) (d : Nat) : ∀ i, x / 2 ^ i = 0 → cl x i d = [] := by
  induction d with
  | zero => intro i _; rfl
  | succ d ih =>
    intro i h
    simp only [cl]
    rw [zero_test x i h i (Nat.le_refl _)]
    simp
    apply ih
    rw [Nat.pow_succ, ← Nat.div_div_eq_div_mul, h]
theorem cl_len (x : Nat) (d : Nat) : ∀ i, (cl x i d).length ≤ d := by
  induction d with
  | zero => intro i; simp [cl]
  | succ d ih => intro i; have := ih (i + 1); simp only [cl]; split <;> simp <;> omega
theorem cl_mem (x : Nat) (d : Nat) : ∀ i j, j ∈ cl x i d ↔ (i ≤ j ∧ j < i + d ∧ x.testBit j = true) := by
  induction d with
  | zero => intro i j; simp [cl]; omega
  | succ d ih =>
    intro i j
    simp only [cl]
    by_cases h : x.testBit i = true
    · rw [if_pos h, List.mem_cons, ih]
      constructor
      · rintro (rfl | ⟨a, b, c⟩)
        · exact ⟨by omega, by omega, h⟩
        · exact ⟨by omega, by omega, c⟩
      · rintro ⟨a, b, c⟩
        by_cases e : j = i
        · exact .inl e
        · exact .inr ⟨by omega, by omega, c⟩
    · rw [if_neg h, ih]
      constructor
      · rintro ⟨a, b, c⟩; exact ⟨by omega, by omega, c⟩
      · rintro ⟨a, b, c⟩
        refine ⟨?_, by omega, c⟩
        rcases Nat.lt_or_ge i j with g | g
        · omega
        · obtain rfl : i = j := by omega
          exact absurd c h
theorem tdivmod (i w : Nat) (hw : 0 < w) (hi : i < 100) (hww : w ≤ 100) : Int.tmod (i : Int) (w : Int) = ((i % w : Nat) : Int) ∧ wrap64 (Int.tdiv (i : Int) (w : Int)) = ((i / w : Nat) : Int) := by
  have e1 : Int.tmod (i : Int) (w : Int) = ((i % w : Nat) : Int) := by rw [Int.tmod_eq_emod_of_nonneg (by omega)]; rfl
  have e2 : Int.tdiv (i : Int) (w : Int) = ((i / w : Nat) : Int) := by rw [Int.tdiv_eq_ediv_of_nonneg (by omega)]; rfl
  refine ⟨e1, ?_⟩
  have : i / w ≤ i := Nat.div_le_self _ _
  rw [e2]
  generalize i / w = q at *
  exact w64 (by omega) (by omega)
def cellAt (w i : Nat) : S42 := ⟨((i % w : Nat) : Int), ((i / w : Nat) : Int)⟩
theorem impl_cells_from (w n x : Nat) (hw : 0 < w) (hww : w ≤ 6) (hn : n ≤ 36) (hx : x < 2 ^ 62) (d : Nat) : ∀ (i : Nat) (out : List S42), i + d = n → out.length + d ≤ 100 →
    Ev (fun k => impl_cells.l0 k (w : Int) (x : Int) out (n : Int) (i : Int)) (out ++ (cl x i d).map (cellAt w)) := by
  induction d with
  | zero =>
    intro i out h ho
    refine ev_shift ?_
    simp only [impl_cells.l0, cl, List.map_nil, List.append_nil]
    exact ev_neg (by omega) (ev_now _)
  | succ d ih =>
    intro i out h ho
    refine ev_shift ?_
    simp only [impl_cells.l0, cl]
    refine ev_pos (by omega) (ev_bind0 (has_eq x i hx (by omega)) ?_)
    have e : wrap64 ((i : Int) + 1) = ((i + 1 : Nat) : Int) := by rw [w64 (by omega) (by omega)]; omega
    obtain ⟨t1, t2⟩ := tdivmod i w hw (by omega) (by omega)
    rw [e, t1, t2]
    by_cases b : x.testBit i = true
    · rw [if_pos b]
      refine ev_pos b (ev_neg (by omega) (ev_pos (by omega) ?_))
      have := ih (i + 1) (out ++ [cellAt w i]) (by omega) (by simp; omega)
      simpa [cellAt] using this
    · rw [if_neg b]
      exact ev_neg b (ih (i + 1) out (by omega) (by omega))
theorem spec_cells_from (w n x : Nat) (hw : 0 < w) (hww : w ≤ 6) (hn : n ≤ 36) (hx : x < 2 ^ n) (d : Nat) : ∀ (i : Nat) (out : List S42), i + d = n → out.length + d ≤ 100 →
    Ev (fun k => spec_l08Cells.l0 k (w : Int) (x : Int) out (i : Int)) (out ++ (cl x i d).map (cellAt w)) := by
  have hx62 : x < 2 ^ 62 := Nat.lt_of_lt_of_le hx (Nat.pow_le_pow_right (by decide) (by omega))
  induction d with
  | zero =>
    intro i out h ho
    refine ev_shift ?_
    simp only [spec_l08Cells.l0, cl, List.map_nil, List.append_nil]
    refine ev_pos (by omega) ?_
    rw [shr_nat x i (by omega)]
    have : x / 2 ^ i = 0 := Nat.div_eq_of_lt (by rw [show i = n by omega]; exact hx)
    exact ev_neg (by omega) (ev_now _)
  | succ d ih =>
    intro i out h ho
    refine ev_shift ?_
    simp only [spec_l08Cells.l0]
    refine ev_pos (by omega) ?_
    by_cases z : x / 2 ^ i = 0
    · rw [cl_none x (d + 1) i z]
      refine ev_neg (by rw [shr_nat x i (by omega)]; omega) (ev_eq (ev_now _) (by simp))
    · refine ev_pos (by rw [shr_nat x i (by omega)]; generalize x / 2 ^ i = q at *; omega) ?_
      have e : wrap64 ((i : Int) + 1) = ((i + 1 : Nat) : Int) := by rw [w64 (by omega) (by omega)]; omega
      obtain ⟨t1, t2⟩ := tdivmod i w hw (by omega) (by omega)
      simp only [cl]
      rw [e, t1, t2]
      by_cases b : x.testBit i = true
      · rw [if_pos b]
        refine ev_pos ((bit_eq1 x i hx62 (by omega)).mpr b) (ev_neg (by omega) (ev_pos (by omega) ?_))
        have := ih (i + 1) (out ++ [cellAt w i]) (by omega) (by simp; omega)
        simpa [cellAt] using this
      · rw [if_neg b]
        exact ev_neg (fun c => b ((bit_eq1 x i hx62 (by omega)).mp c)) (ih (i + 1) out (by omega) (by omega))
theorem ok_nat {w h m : Int} (c : okS w h m = true) : ∃ W H x : Nat, w = W ∧ h = H ∧ m = x ∧ (1 ≤ W ∧ W ≤ 6) ∧ (1 ≤ H ∧ H ≤ 6) ∧ x < 2 ^ (W * H) ∧ W * H ≤ 36 := by
  obtain ⟨hT, h0, h1⟩ := okS_iff.mp c
  refine ⟨w.toNat, h.toNat, m.toNat, by omega, by omega, by omega, by omega, by omega, ?_, ?_⟩
  · have e : m = (m.toNat : Int) := by omega
    have e2 : (w * h).toNat = w.toNat * h.toNat := by
      rw [Int.toNat_mul (by omega) (by omega)]
    rw [e, e2] at h1
    exact_mod_cast h1
  · have a : w.toNat ≤ 6 := by omega
    have b : h.toNat ≤ 6 := by omega
    calc w.toNat * h.toNat ≤ 6 * 6 := Nat.mul_le_mul a b
      _ = 36 := rfl
theorem nat_ok (W H x : Nat) (hW : 1 ≤ W ∧ W ≤ 6) (hH : 1 ≤ H ∧ H ≤ 6) (hx : x < 2 ^ (W * H)) : okS (W : Int) (H : Int) (x : Int) = true := by
  rw [okS_iff]
  refine ⟨by omega, by omega, ?_⟩
  have e2 : ((W : Int) * (H : Int)).toNat = W * H := by rw [← Int.natCast_mul]; exact Int.toNat_natCast _
  rw [e2]; exact_mod_cast hx
theorem impl_cells_ev (W H x : Nat) (hW : 1 ≤ W ∧ W ≤ 6) (hn : W * H ≤ 36) (hx : x < 2 ^ (W * H)) : Ev (fun k => impl_cells.f k (W : Int) (H : Int) (x : Int)) ((cl x 0 (W * H)).map (cellAt W)) := by
  have hx62 : x < 2 ^ 62 := Nat.lt_of_lt_of_le hx (Nat.pow_le_pow_right (by decide) (by omega))
  unfold impl_cells.f
  have e : wrap64 ((W : Int) * (H : Int)) = ((W * H : Nat) : Int) := by rw [← Int.natCast_mul, w64 (by omega) (by omega)]
  rw [e]
  have := impl_cells_from W (W * H) x (by omega) (by omega) hn hx62 (W * H) 0 [] (by omega) (by simp; omega)
  simpa using this
theorem spec_cells_ev (W n x : Nat) (hW : 1 ≤ W ∧ W ≤ 6) (hn : n ≤ 36) (hx : x < 2 ^ n) : Ev (fun k => spec_l08Cells.f k (W : Int) (x : Int)) ((cl x 0 n).map (cellAt W)) := by
  unfold spec_l08Cells.f
  have := spec_cells_from W n x (by omega) (by omega) hn hx n 0 [] (by omega) (by simp; omega)
  simpa using this
def nb (W H i : Nat) : List Nat :=
  (if 0 < i / W then [i - W] else []) ++ (if 0 < i % W then [i - 1] else []) ++ (if i % W + 1 < W then [i + 1] else []) ++ (if i / W + 1 < H then [i + W] else [])
def asInts (l : List Nat) : List Int := l.map (fun (j : Nat) => (j : Int))
theorem nb_ev (W H i : Nat) (hW : 1 ≤ W ∧ W ≤ 6) (hH : 1 ≤ H ∧ H ≤ 6) (hi : i < W * H) (hn : W * H ≤ 36) : Ev (fun k => impl_neighbors.f k (W : Int) (H : Int) (i : Int)) (asInts (nb W H i)) := by
  have hi36 : i < 36 := by omega
  have wW : wrap64 ((W : Int) - 1) = (W : Int) - 1 := w64 (by omega) (by omega)
  have wH : wrap64 ((H : Int) - 1) = (H : Int) - 1 := w64 (by omega) (by omega)
  have wi : wrap64 ((i : Int) - 1) = (i : Int) - 1 := w64 (by omega) (by omega)
  have wi' : wrap64 ((i : Int) + 1) = (i : Int) + 1 := w64 (by omega) (by omega)
  have wiw : wrap64 ((i : Int) - W) = (i : Int) - W := w64 (by omega) (by omega)
  have wiw' : wrap64 ((i : Int) + W) = (i : Int) + W := w64 (by omega) (by omega)
  unfold impl_neighbors.f
  obtain ⟨t1, t2⟩ := tdivmod i W (by omega) (by omega) (by omega)
  have hm : i % W < W := Nat.mod_lt _ (by omega)
  have hd : i / W * W + i % W = i := Nat.div_add_mod' i W
  have hdl : i / W < H := (Nat.div_lt_iff_lt_mul (by omega)).mpr (by rw [Nat.mul_comm]; exact hi)
  have hwd : 0 < i / W → W ≤ i := fun h => by
    have : 1 * W ≤ i / W * W := Nat.mul_le_mul_right W h
    omega
  rw [t1, t2, wiw]
  unfold nb
  generalize i / W = Y at *
  generalize i % W = X at *
  have last : ∀ out : List Int, out.length ≤ 10 → Ev (fun k => impl_neighbors.j1 k (W : Int) (H : Int) (i : Int) (X : Int) (Y : Int) out) (out ++ asInts ((if X + 1 < W then [i + 1] else []) ++ (if Y + 1 < H then [i + W] else []))) := by
    intro out ho
    refine ev_shift ?_
    simp only [impl_neighbors.j1, wW, wH, wi', wiw']
    by_cases c : X + 1 < W
    · rw [if_pos c]
      refine ev_pos (by omega) (ev_pos (by omega) (ev_bind0 rfl ?_))
      by_cases d : Y + 1 < H
      · rw [if_pos d]
        exact ev_pos (by omega) (ev_pos (by simp; omega) (ev_eq (ev_now _) (by simp [asInts])))
      · rw [if_neg d]
        exact ev_neg (by omega) (ev_eq (ev_now _) (by simp [asInts]))
    · rw [if_neg c]
      refine ev_neg (by omega) ?_
      by_cases d : Y + 1 < H
      · rw [if_pos d]
        exact ev_pos (by omega) (ev_pos (by omega) (ev_eq (ev_now _) (by simp [asInts])))
      · rw [if_neg d]
        exact ev_neg (by omega) (ev_eq (ev_now _) (by simp [asInts]))
  have mid : ∀ out : List Int, out.length ≤ 5 → Ev (fun k => impl_neighbors.j0 k (W : Int) (H : Int) (i : Int) (X : Int) (Y : Int) out) (out ++ asInts ((if 0 < X then [i - 1] else []) ++ ((if X + 1 < W then [i + 1] else []) ++ (if Y + 1 < H then [i + W] else [])))) := by
    intro out ho
    refine ev_shift ?_
    simp only [impl_neighbors.j0, wi]
    by_cases c : 0 < X
    · rw [if_pos c]
      refine ev_pos (by omega) (ev_pos (by omega) (ev_eq (last _ (by simp; omega)) ?_))
      simp [asInts]; omega
    · rw [if_neg c]
      exact ev_neg (by omega) (ev_eq (last _ (by omega)) (by simp [asInts]))
  refine ev_neg (by omega) (ev_bind0 rfl ?_)
  by_cases c : 0 < Y
  · rw [if_pos c]
    refine ev_pos (by omega) (ev_pos (by simp) (ev_eq (mid _ (by simp)) ?_))
    have := hwd c
    simp [asInts]; omega
  · rw [if_neg c]
    exact ev_neg (by omega) (ev_eq (mid _ (by simp)) (by simp [asInts]))
def cnt (x : Nat) (l : List Nat) : Nat := (l.filter fun j => x.testBit j).length
theorem cnt_cons (x a : Nat) (l : List Nat) : cnt x (a :: l) = (if x.testBit a then 1 else 0) + cnt x l := by
  unfold cnt
  by_cases h : x.testBit a = true
  · rw [List.filter_cons, if_pos h, if_pos h]; simp; omega
  · rw [List.filter_cons, if_neg h, if_neg h]; simp
theorem cnt_app (x : Nat) (a b : List Nat) : cnt x (a ++ b) = cnt x a + cnt x b := by unfold cnt; simp
theorem cnt_if (x a : Nat) (c : Prop) [Decidable c] : cnt x (if c then [a] else []) = if c ∧ x.testBit a = true then 1 else 0 := by
  by_cases h : c
  · rw [if_pos h, cnt_cons]; simp [h, cnt]
  · rw [if_neg h]; simp [h, cnt]
theorem nb_lt (W H i : Nat) (hW : 1 ≤ W ∧ W ≤ 6) (hi : i < W * H) (hn : W * H ≤ 36) : ∀ j ∈ nb W H i, j ≤ 64 := by
  intro j hj
  unfold nb at hj
  simp only [List.mem_append] at hj
  rcases hj with ((hj | hj) | hj) | hj
  all_goals split at hj <;> simp at hj
  all_goals omega
theorem nb_cnt (x W H i : Nat) : cnt x (nb W H i) = (if 0 < i / W ∧ x.testBit (i - W) = true then 1 else 0) + (if 0 < i % W ∧ x.testBit (i - 1) = true then 1 else 0) + (if i % W + 1 < W ∧ x.testBit (i + 1) = true then 1 else 0) + (if i / W + 1 < H ∧ x.testBit (i + W) = true then 1 else 0) := by
  unfold nb
  rw [cnt_app, cnt_app, cnt_app, cnt_if, cnt_if, cnt_if, cnt_if]
theorem cnt_le (x W H i : Nat) : cnt x (nb W H i) ≤ 4 := by
  rw [nb_cnt]
  repeat' split
  all_goals omega
theorem impl_rim1 (W H x : Nat) (hx : x < 2 ^ 62) (P : List S42) (n q : Int) (r : Int) (L : List Nat) (hL : ∀ j ∈ L, j ≤ 64) (hl : L.length ≤ 100) : ∀ (suf pre : List Nat) (all : Int), L = pre ++ suf → -100000 ≤ all - suf.length → all ≤ 100000 →
    Ev (fun k => impl_RimOf.l0 k (W : Int) (H : Int) (x : Int) (all - cnt x suf) P n (wrap64 (q + 1))) r →
    Ev (fun k => impl_RimOf.l1 k (W : Int) (H : Int) (x : Int) all P n q (asInts L) ((asInts L).length : Int) (pre.length : Int)) r := by
  intro suf
  induction suf with
  | nil =>
    intro pre all h h1 h2 hr
    refine ev_shift ?_
    simp only [impl_RimOf.l1]
    refine ev_neg (by subst h; simp [asInts]) ?_
    simpa [cnt] using hr
  | cons a suf ih =>
    intro pre all h h1 h2 hr
    refine ev_shift ?_
    simp only [impl_RimOf.l1]
    have hlen : (asInts L).length = pre.length + (suf.length + 1) := by subst h; simp [asInts]
    have hlen' : L.length = pre.length + (suf.length + 1) := by subst h; simp
    have ha : rd (asInts L) (pre.length : Int) = (a : Int) := by
      have := rd_mid (asInts pre) (asInts suf) (a : Int)
      subst h
      simpa [asInts] using this
    have ha64 : a ≤ 64 := hL a (by subst h; simp)
    refine ev_pos (by omega) (ev_pos (by omega) (ev_pos (by omega) (ev_bind0 (by rw [ha]; exact has_eq x a hx ha64) ?_)))
    have e := next_len pre a (by omega)
    rw [e]
    simp only [List.length_cons] at h1
    by_cases b : x.testBit a = true
    · refine ev_pos b ?_
      rw [w64 (by omega) (by omega)]
      refine ih (pre ++ [a]) (all - 1) (by simp [h]) (by omega) (by omega) ?_
      rw [cnt_cons, if_pos b] at hr
      have e2 : all - ((1 + cnt x suf : Nat) : Int) = all - 1 - (cnt x suf : Int) := by omega
      rw [e2] at hr; exact hr
    · refine ev_neg b (ih (pre ++ [a]) all (by simp [h]) (by omega) (by omega) ?_)
      rw [cnt_cons, if_neg b] at hr
      simpa using hr
def rimSum (x W H : Nat) : List Nat → Nat
  | [] => 0
  | i :: l => (4 - cnt x (nb W H i)) + rimSum x W H l
theorem cellAt_idx (W i : Nat) (hi : i < 36) (hW : 1 ≤ W ∧ W ≤ 6) : wrap64 (wrap64 ((cellAt W i).f1 * (W : Int)) + (cellAt W i).f0) = (i : Int) := by
  have hd : i / W * W + i % W = i := Nat.div_add_mod' i W
  unfold cellAt
  show wrap64 (wrap64 (((i / W : Nat) : Int) * (W : Int)) + ((i % W : Nat) : Int)) = (i : Int)
  rw [← Int.natCast_mul]
  generalize i / W * W = q at *
  generalize i % W = r at *
  rw [w64 (n := (q : Int)) (by omega) (by omega), w64 (by omega) (by omega)]
  omega
theorem impl_rim0 (W H x : Nat) (hW : 1 ≤ W ∧ W ≤ 6) (hH : 1 ≤ H ∧ H ≤ 6) (hn : W * H ≤ 36) (hx : x < 2 ^ 62) (L : List Nat) (hL : ∀ j ∈ L, j < W * H) (hl : L.length ≤ 36) : ∀ (suf pre : List Nat) (all : Int), L = pre ++ suf → 0 ≤ all → all + 4 * suf.length ≤ 1000 →
    Ev (fun k => impl_RimOf.l0 k (W : Int) (H : Int) (x : Int) all (L.map (cellAt W)) ((L.map (cellAt W)).length : Int) (pre.length : Int)) (all + rimSum x W H suf) := by
  intro suf
  induction suf with
  | nil =>
    intro pre all h h1 h2
    refine ev_shift ?_
    simp only [impl_RimOf.l0, rimSum]
    refine ev_neg (by subst h; simp) (ev_eq (ev_now _) (by simp))
  | cons i suf ih =>
    intro pre all h h1 h2
    refine ev_shift ?_
    simp only [impl_RimOf.l0, rimSum]
    have hlen : (L.map (cellAt W)).length = pre.length + (suf.length + 1) := by subst h; simp
    have hlen' : L.length = pre.length + (suf.length + 1) := by subst h; simp
    have hi : i < W * H := hL i (by subst h; simp)
    have ha : rd_T42 (L.map (cellAt W)) (pre.length : Int) = cellAt W i := by
      have := rdp_mid (pre.map (cellAt W)) (suf.map (cellAt W)) (cellAt W i)
      subst h
      simpa using this
    simp only [List.length_cons] at h2
    refine ev_pos (by omega) (ev_pos (by omega) (ev_pos (by omega) ?_))
    rw [ha, cellAt_idx W i (by omega) hW]
    refine ev_bind (nb_ev W H i hW hH hi hn) ?_
    rw [w64 (n := all + 4) (by omega) (by omega)]
    have hc := cnt_le x W H i
    have hnl : (nb W H i).length ≤ 4 := by
      unfold nb; simp only [List.length_append]; repeat' split
      all_goals simp
    refine impl_rim1 W H x hx _ _ _ _ (nb W H i) (nb_lt W H i hW hi hn) (by omega) (nb W H i) [] (all + 4) rfl (by omega) (by omega) ?_
    rw [next_len pre i (by omega)]
    have := ih (pre ++ [i]) (all + 4 - cnt x (nb W H i)) (by simp [h]) (by omega) (by omega)
    refine ev_eq this ?_
    omega
/-- The reference's four ways out of a cell: 1 where there is no cell of the mask. -/
def sp (W H x : Nat) (X Y dx dy : Int) : Int :=
  if 0 ≤ X + dx ∧ X + dx ≤ (W : Int) - 1 then (if 0 ≤ Y + dy ∧ Y + dy ≤ (H : Int) - 1 then (if x.testBit ((Y + dy) * W + (X + dx)).toNat then 0 else 1) else 1) else 1
def four : List S42 := [(⟨1, 0⟩ : S42), (⟨(-1), 0⟩ : S42), (⟨0, 1⟩ : S42), (⟨0, (-1)⟩ : S42)]
theorem spec_rim_step (W H x : Nat) (hW : 1 ≤ W ∧ W ≤ 6) (hH : 1 ≤ H ∧ H ≤ 6) (hx : x < 2 ^ 62) (P : List S42) (n q r : Int) (X Y : Int) (hX : 0 ≤ X ∧ X ≤ 10) (hY : 0 ≤ Y ∧ Y ≤ 10) (j : Nat) (hj : j < 4) (dx dy all : Int)
    (hd : rd_T42 four (j : Int) = ⟨dx, dy⟩) (hdx : -1 ≤ dx ∧ dx ≤ 1) (hdy : -1 ≤ dy ∧ dy ≤ 1) (ha : 0 ≤ all) (ha' : all ≤ 1000)
    (hr : Ev (fun k => spec_RimOf.l1 k (W : Int) (H : Int) (x : Int) (all + sp W H x X Y dx dy) P n q four 4 ((j + 1 : Nat) : Int) X Y) r) :
    Ev (fun k => spec_RimOf.l1 k (W : Int) (H : Int) (x : Int) all P n q four 4 (j : Int) X Y) r := by
  refine ev_shift ?_
  simp only [spec_RimOf.l1, hd]
  have hf : (four.length : Int) = 4 := rfl
  refine ev_pos (by omega) (ev_pos (by omega) (ev_pos (by omega) (ev_bind0 (in_eq _ _ _) ?_)))
  have wj : wrap64 ((j : Int) + 1) = ((j + 1 : Nat) : Int) := by rw [w64 (by omega) (by omega)]; omega
  rw [wj, w64 (n := X + dx) (by omega) (by omega), w64 (n := Y + dy) (by omega) (by omega), w64 (n := (W : Int) - 1) (by omega) (by omega), w64 (n := (H : Int) - 1) (by omega) (by omega), w64 (n := all + 1) (by omega) (by omega)]
  unfold sp at hr
  by_cases c1 : 0 ≤ X + dx ∧ X + dx ≤ (W : Int) - 1
  · rw [if_pos c1] at hr
    refine ev_pos (by simpa using c1) (ev_bind0 (in_eq _ _ _) ?_)
    by_cases c2 : 0 ≤ Y + dy ∧ Y + dy ≤ (H : Int) - 1
    · rw [if_pos c2] at hr
      refine ev_pos (by simpa using c2) ?_
      have m0 : 0 ≤ (Y + dy) * (W : Int) := Int.mul_nonneg (by omega) (by omega)
      have m1 : (Y + dy) * (W : Int) ≤ 5 * 6 := by
        calc (Y + dy) * (W : Int) ≤ 5 * (W : Int) := Int.mul_le_mul_of_nonneg_right (by omega) (by omega)
          _ ≤ 5 * 6 := Int.mul_le_mul_of_nonneg_left (by omega) (by omega)
      rw [w64 (n := (Y + dy) * (W : Int)) (by omega) (by omega), w64 (n := (Y + dy) * (W : Int) + (X + dx)) (by omega) (by omega)]
      refine ev_pos (by omega) ?_
      have e : (Y + dy) * (W : Int) + (X + dx) = (((Y + dy) * W + (X + dx)).toNat : Int) := by omega
      have e64 : ((Y + dy) * W + (X + dx)).toNat ≤ 64 := by omega
      generalize ((Y + dy) * W + (X + dx)).toNat = z at *
      rw [e]
      cases b : x.testBit z
      · rw [b] at hr
        exact ev_pos ((bit_eq0 x z hx e64).mpr b) hr
      · rw [b] at hr
        exact ev_neg (fun c => by rw [(bit_eq0 x z hx e64).mp c] at b; cases b) (by simpa using hr)
    · rw [if_neg c2] at hr
      exact ev_neg (by simpa using c2) hr
  · rw [if_neg c1] at hr
    exact ev_neg (by simpa using c1) hr
theorem sp_le (W H x : Nat) (X Y dx dy : Int) : 0 ≤ sp W H x X Y dx dy ∧ sp W H x X Y dx dy ≤ 1 := by
  unfold sp; repeat' split
  all_goals omega
theorem sp_sum (W H x i : Nat) (hW : 1 ≤ W ∧ W ≤ 6) (hi : i < W * H) :
    sp W H x ((i % W : Nat) : Int) ((i / W : Nat) : Int) 1 0 + sp W H x ((i % W : Nat) : Int) ((i / W : Nat) : Int) (-1) 0 + sp W H x ((i % W : Nat) : Int) ((i / W : Nat) : Int) 0 1 + sp W H x ((i % W : Nat) : Int) ((i / W : Nat) : Int) 0 (-1) = ((4 - cnt x (nb W H i) : Nat) : Int) := by
  have hm : i % W < W := Nat.mod_lt _ (by omega)
  have hd : i / W * W + i % W = i := Nat.div_add_mod' i W
  have hdl : i / W < H := (Nat.div_lt_iff_lt_mul (by omega)).mpr (by rw [Nat.mul_comm]; exact hi)
  have h4 := cnt_le x W H i
  rw [nb_cnt] at h4 ⊢
  clear hi
  generalize i / W = Q at *
  generalize i % W = R at *
  have e1 : (((Q : Int) + 0) * W + ((R : Int) + 1)).toNat = i + 1 := by
    rw [show ((Q : Int) + 0) = (Q : Int) by omega, ← Int.natCast_mul]; omega
  have e3 : (((Q : Int) + 1) * W + ((R : Int) + 0)).toNat = i + W := by
    rw [Int.add_mul, ← Int.natCast_mul]; omega
  have e2 : 0 < R → (((Q : Int) + 0) * W + ((R : Int) + -1)).toNat = i - 1 := fun c => by
    rw [show ((Q : Int) + 0) = (Q : Int) by omega, ← Int.natCast_mul]; omega
  have e4 : 0 < Q → (((Q : Int) + -1) * W + ((R : Int) + 0)).toNat = i - W := fun c => by
    have hwd : W ≤ i := by
      have : 1 * W ≤ Q * W := Nat.mul_le_mul_right W c
      omega
    rw [Int.add_mul, ← Int.natCast_mul]; omega
  have s1 : sp W H x (R : Int) (Q : Int) 1 0 = 1 - ((if R + 1 < W ∧ x.testBit (i + 1) = true then 1 else 0 : Nat) : Int) := by
    unfold sp
    rw [e1]
    clear e1 e2 e3 e4 hd h4
    by_cases c : R + 1 < W
    · rw [if_pos (by omega), if_pos (by omega)]
      cases b : x.testBit (i + 1) <;> simp [c]
    · rw [if_neg (by omega)]; simp [c]
  have s2 : sp W H x (R : Int) (Q : Int) (-1) 0 = 1 - ((if 0 < R ∧ x.testBit (i - 1) = true then 1 else 0 : Nat) : Int) := by
    unfold sp
    by_cases c : 0 < R
    · rw [e2 c]
      clear e1 e2 e3 e4 hd h4
      rw [if_pos (by omega), if_pos (by omega)]
      cases b : x.testBit (i - 1) <;> simp [c]
    · clear e1 e2 e3 e4 hd h4
      rw [if_neg (by omega)]; simp [c]
  have s3 : sp W H x (R : Int) (Q : Int) 0 1 = 1 - ((if Q + 1 < H ∧ x.testBit (i + W) = true then 1 else 0 : Nat) : Int) := by
    unfold sp
    rw [e3]
    clear e1 e2 e3 e4 hd h4
    rw [if_pos (by omega)]
    by_cases c : Q + 1 < H
    · rw [if_pos (by omega)]
      cases b : x.testBit (i + W) <;> simp [c]
    · rw [if_neg (by omega)]; simp [c]
  have s4 : sp W H x (R : Int) (Q : Int) 0 (-1) = 1 - ((if 0 < Q ∧ x.testBit (i - W) = true then 1 else 0 : Nat) : Int) := by
    unfold sp
    by_cases c : 0 < Q
    · rw [e4 c]
      clear e1 e2 e3 e4 hd h4
      rw [if_pos (by omega), if_pos (by omega)]
      cases b : x.testBit (i - W) <;> simp [c]
    · clear e1 e2 e3 e4 hd h4
      rw [if_pos (by omega), if_neg (by omega)]; simp [c]
  rw [s1, s2, s3, s4]
  clear e1 e2 e3 e4 hd s1 s2 s3 s4
  generalize (if 0 < Q ∧ x.testBit (i - W) = true then 1 else 0 : Nat) = z1 at *
  generalize (if 0 < R ∧ x.testBit (i - 1) = true then 1 else 0 : Nat) = z2 at *
  generalize (if R + 1 < W ∧ x.testBit (i + 1) = true then 1 else 0 : Nat) = z3 at *
  generalize (if Q + 1 < H ∧ x.testBit (i + W) = true then 1 else 0 : Nat) = z4 at *
  omega
theorem spec_rim0 (W H x : Nat) (hW : 1 ≤ W ∧ W ≤ 6) (hH : 1 ≤ H ∧ H ≤ 6) (hn : W * H ≤ 36) (hx : x < 2 ^ 62) (L : List Nat) (hL : ∀ j ∈ L, j < W * H) (hl : L.length ≤ 36) : ∀ (suf pre : List Nat) (all : Int), L = pre ++ suf → 0 ≤ all → all + 4 * suf.length ≤ 1000 →
    Ev (fun k => spec_RimOf.l0 k (W : Int) (H : Int) (x : Int) all (L.map (cellAt W)) ((L.map (cellAt W)).length : Int) (pre.length : Int)) (all + rimSum x W H suf) := by
  intro suf
  induction suf with
  | nil =>
    intro pre all h h1 h2
    refine ev_shift ?_
    simp only [spec_RimOf.l0, rimSum]
    refine ev_neg (by subst h; simp) (ev_eq (ev_now _) (by simp))
  | cons i suf ih =>
    intro pre all h h1 h2
    refine ev_shift ?_
    simp only [spec_RimOf.l0, rimSum]
    have hlen : (L.map (cellAt W)).length = pre.length + (suf.length + 1) := by subst h; simp
    have hlen' : L.length = pre.length + (suf.length + 1) := by subst h; simp
    have hi : i < W * H := hL i (by subst h; simp)
    have ha : rd_T42 (L.map (cellAt W)) (pre.length : Int) = cellAt W i := by
      have := rdp_mid (pre.map (cellAt W)) (suf.map (cellAt W)) (cellAt W i)
      subst h
      simpa using this
    simp only [List.length_cons] at h2
    refine ev_pos (by omega) (ev_pos (by omega) (ev_pos (by omega) (ev_bind0 rfl ?_)))
    rw [ha]
    have hm : i % W < W := Nat.mod_lt _ (by omega)
    have hdl : i / W < H := (Nat.div_lt_iff_lt_mul (by omega)).mpr (by rw [Nat.mul_comm]; exact hi)
    have hX : 0 ≤ ((i % W : Nat) : Int) ∧ ((i % W : Nat) : Int) ≤ 10 := by generalize i % W = R at *; omega
    have hY : 0 ≤ ((i / W : Nat) : Int) ∧ ((i / W : Nat) : Int) ≤ 10 := by generalize i / W = Q at *; omega
    have hs := sp_sum W H x i hW hi
    have a1 := sp_le W H x ((i % W : Nat) : Int) ((i / W : Nat) : Int) 1 0
    have a2 := sp_le W H x ((i % W : Nat) : Int) ((i / W : Nat) : Int) (-1) 0
    have a3 := sp_le W H x ((i % W : Nat) : Int) ((i / W : Nat) : Int) 0 1
    have a4 := sp_le W H x ((i % W : Nat) : Int) ((i / W : Nat) : Int) 0 (-1)
    show Ev (fun k => spec_RimOf.l1 k (W : Int) (H : Int) (x : Int) all (L.map (cellAt W)) ((L.map (cellAt W)).length : Int) (pre.length : Int) four 4 ((0 : Nat) : Int) ((i % W : Nat) : Int) ((i / W : Nat) : Int)) _
    refine spec_rim_step W H x hW hH hx _ _ _ _ _ _ hX hY 0 (by omega) 1 0 all rfl (by omega) (by omega) (by omega) (by omega) ?_
    refine spec_rim_step W H x hW hH hx _ _ _ _ _ _ hX hY 1 (by omega) (-1) 0 _ rfl (by omega) (by omega) (by omega) (by omega) ?_
    refine spec_rim_step W H x hW hH hx _ _ _ _ _ _ hX hY 2 (by omega) 0 1 _ rfl (by omega) (by omega) (by omega) (by omega) ?_
    refine spec_rim_step W H x hW hH hx _ _ _ _ _ _ hX hY 3 (by omega) 0 (-1) _ rfl (by omega) (by omega) (by omega) (by omega) ?_
    refine ev_shift ?_
    simp only [spec_RimOf.l1]
    refine ev_neg (by omega) ?_
    rw [next_len pre i (by omega)]
    have h4 := cnt_le x W H i
    have := ih (pre ++ [i]) (all + ((4 - cnt x (nb W H i) : Nat) : Int)) (by simp [h]) (by omega) (by omega)
    rw [← hs] at this
    have e : all + sp W H x ((i % W : Nat) : Int) ((i / W : Nat) : Int) 1 0 + sp W H x ((i % W : Nat) : Int) ((i / W : Nat) : Int) (-1) 0 + sp W H x ((i % W : Nat) : Int) ((i / W : Nat) : Int) 0 1 + sp W H x ((i % W : Nat) : Int) ((i / W : Nat) : Int) 0 (-1) = all + (sp W H x ((i % W : Nat) : Int) ((i / W : Nat) : Int) 1 0 + sp W H x ((i % W : Nat) : Int) ((i / W : Nat) : Int) (-1) 0 + sp W H x ((i % W : Nat) : Int) ((i / W : Nat) : Int) 0 1 + sp W H x ((i % W : Nat) : Int) ((i / W : Nat) : Int) 0 (-1)) := by omega
    rw [e]
    refine ev_eq this ?_
    rw [hs]
    omega
theorem FnExactRimOf : laws_FnExactRimOf.Pure := by
  intro w h m _ _ _
  apply ev_rounds
  unfold laws_FnExactRimOf.f
  by_cases c : okS w h m = true
  · obtain ⟨W, H, x, rfl, rfl, rfl, hW, hH, hx, hn⟩ := ok_nat c
    have hx62 : x < 2 ^ 62 := Nat.lt_of_lt_of_le hx (Nat.pow_le_pow_right (by decide) (by omega))
    have hL : ∀ j ∈ cl x 0 (W * H), j < W * H := fun j hj => by have := ((cl_mem x (W * H) 0 j).mp hj).2.1; omega
    have hl := cl_len x (W * H) 0
    have h1 : Ev (fun k => spec_RimOf.f k (W : Int) (H : Int) (x : Int)) (0 + rimSum x W H (cl x 0 (W * H))) := by
      unfold spec_RimOf.f
      refine ev_bind0 (spec_shapeOk _ _ _) (ev_pos c (ev_bind (spec_cells_ev W (W * H) x hW hn hx) ?_))
      exact spec_rim0 W H x hW hH hn hx62 _ hL (by omega) _ [] 0 rfl (by omega) (by omega)
    have h2 : Ev (fun k => impl_RimOf.f k (W : Int) (H : Int) (x : Int)) (0 + rimSum x W H (cl x 0 (W * H))) := by
      unfold impl_RimOf.f
      refine ev_bind0 (impl_shapeOk _ _ _) (ev_pos c (ev_bind (impl_cells_ev W H x hW hn hx) ?_))
      exact impl_rim0 W H x hW hH hn hx62 _ hL (by omega) _ [] 0 rfl (by omega) (by omega)
    exact ev_bind h1 (ev_bind h2 (ev_pos rfl (ev_now _)))
  · have h1 : Ev (fun k => spec_RimOf.f k w h m) (-1) := by
      unfold spec_RimOf.f
      exact ev_bind0 (spec_shapeOk _ _ _) (ev_neg c (ev_now _))
    have h2 : Ev (fun k => impl_RimOf.f k w h m) (-1) := by
      unfold impl_RimOf.f
      exact ev_bind0 (impl_shapeOk _ _ _) (ev_neg c (ev_now _))
    exact ev_bind h1 (ev_bind h2 (ev_pos rfl (ev_now _)))

end Go.Proofs.Ytdeocimieeodnaa.Pure
