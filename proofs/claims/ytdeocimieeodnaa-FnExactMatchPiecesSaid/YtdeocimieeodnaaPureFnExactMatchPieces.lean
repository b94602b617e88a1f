/- MatchPieces of the program and of the reference answer alike, for all numbers and all lists of at most 1048576 numbers; for a longer list the law says true. -/
import Derived.Test.YtdeocimieeodnaaQFnExactMatchPiecesx8
namespace Go.Proofs.Ytdeocimieeodnaa.Pure
open Go.RowKit Go.Proofs.Ytdeocimieeodnaa.QFnExactMatchPieces Go.Proofs.YtdeocimieeodnaaW.PrintWords Go.Proofs.YtdeocimieeodnaaW.PrintLast Go.Proofs.YtdeocimieeodnaaW.PrintMore
set_option linter.unusedVariables false
set_option linter.unusedSimpArgs false

/- Eventually: with enough rounds the answer is r. -/
theorem ev_now {α : Type} (r : α) : Ev (fun _ => some r) r := Ev.now r
theorem ev_shift {α : Type} {g : Nat → Option α} {r : α} (h : Ev (fun k => g (k + 1)) r) : Ev g r := by
  obtain ⟨K, hK⟩ := h
  exact ⟨K + 1, fun k hk => by
    obtain ⟨m, rfl⟩ : ∃ m, k = m + 1 := ⟨k - 1, by omega⟩
    exact hK m (by omega)⟩
theorem ev_bind {α β : Type} {g : Nat → Option α} {f : Nat → α → Option β} {a : α} {r : β} (h : Ev g a) (k : Ev (fun n => f n a) r) : Ev (fun n => (g n).bind (f n)) r := Ev.bind h k
theorem ev_bind0 {α β : Type} {o : Option α} {f : Nat → α → Option β} {a : α} {r : β} (h : o = some a) (k : Ev (fun n => f n a) r) : Ev (fun n => o.bind (f n)) r := by
  subst h; exact k
theorem ev_pos {α : Type} {A B : Nat → Option α} {r : α} {c : Prop} [Decidable c] (h : c) (k : Ev A r) : Ev (fun n => if c then A n else B n) r := by
  simpa only [if_pos h] using k
theorem ev_neg {α : Type} {A B : Nat → Option α} {r : α} {c : Prop} [Decidable c] (h : ¬ c) (k : Ev B r) : Ev (fun n => if c then A n else B n) r := by
  simpa only [if_neg h] using k
theorem ev_done {α : Type} {o : Option α} {r : α} (h : o = some r) : Ev (fun _ => o) r := ⟨0, fun _ _ => h⟩
theorem ev_eq {α : Type} {g : Nat → Option α} {r r' : α} (h : Ev g r) (e : r = r') : Ev g r' := e ▸ h
theorem ev_rounds {α : Type} {g : Nat → Option α} {r : α} (h : Ev g r) : ∃ k, g k = some r := Ev.rounds h
theorem ev_uniq {α : Type} {g : Nat → Option α} {r r' : α} (h : Ev g r) (h' : Ev g r') : r = r' := by
  obtain ⟨K, hK⟩ := h
  obtain ⟨K', hK'⟩ := h'
  have a := hK (max K K') (Nat.le_max_left _ _)
  have b := hK' (max K K') (Nat.le_max_right _ _)
  rw [a] at b
  exact Option.some.inj b
theorem wf64 {n : Int} (h : (Lit.int .i64 n).wf = true) : -9223372036854775808 ≤ n ∧ n ≤ 9223372036854775807 := by
  have a : IntKind.i64.min = -9223372036854775808 := rfl
  have b : IntKind.i64.max = 9223372036854775807 := rfl
  simp [Lit.wf] at h
  omega
theorem w64 {n : Int} (h : -9223372036854775808 ≤ n) (h' : n ≤ 9223372036854775807) : wrap64 n = n := by
  unfold wrap64; omega
theorem rd_mid (pre suf : List Int) (a : Int) : rd (pre ++ a :: suf) (pre.length : Int) = a := by
  simp [rd, List.getD_eq_getElem?_getD]
theorem rdp_mid (pre suf : List S42) (a : S42) : rd_T42 (pre ++ a :: suf) (pre.length : Int) = a := by
  simp [rd_T42, List.getD_eq_getElem?_getD]
theorem next_len {α : Type} (pre : List α) (a : α) (h : pre.length < 1000000) : wrap64 ((pre.length : Int) + 1) = ((pre ++ [a]).length : Int) := by
  rw [w64 (by omega) (by omega)]; simp
theorem within_eq (a b c : Int) : impl_within.f a b c = some (decide (b ≤ a ∧ a ≤ c)) := by
  unfold impl_within.f; split <;> simp <;> omega
theorem in_eq (a b c : Int) : spec_l01In.f a b c = some (decide (b ≤ a ∧ a ≤ c)) := by
  unfold spec_l01In.f; split <;> simp <;> omega
theorem mx_eq (a b : Int) : mx a b = max a b := by unfold mx; split <;> omega
theorem mn_eq (a b : Int) : mn a b = min a b := by unfold mn; split <;> omega
/-- A table of w columns and h rows has from 1 to 6 of each; a mask has its bits below w * h. -/
def isT (w h : Int) : Bool := decide (1 ≤ w ∧ w ≤ 6 ∧ 1 ≤ h ∧ h ≤ 6)
def okS (w h m : Int) : Bool := isT w h && decide (0 ≤ m ∧ m < 2 ^ (w * h).toNat)
theorem isT_iff {w h : Int} : isT w h = true ↔ 1 ≤ w ∧ w ≤ 6 ∧ 1 ≤ h ∧ h ≤ 6 := by simp [isT]
theorem okS_iff {w h m : Int} : okS w h m = true ↔ (1 ≤ w ∧ w ≤ 6 ∧ 1 ≤ h ∧ h ≤ 6) ∧ 0 ≤ m ∧ m < 2 ^ (w * h).toNat := by simp [okS, isT]
theorem table_all {p : Int → Int → Bool} (H : (List.range 6).all (fun w => (List.range 6).all fun h => p ((w : Int) + 1) ((h : Int) + 1)) = true) (w h : Int) (hw : isT w h = true) : p w h = true := by
  obtain ⟨a, b, c, d⟩ := isT_iff.mp hw
  have e1 : w = (((w - 1).toNat : Nat) : Int) + 1 := by omega
  have e2 : h = (((h - 1).toNat : Nat) : Int) + 1 := by omega
  have := List.all_eq_true.mp (List.all_eq_true.mp H (w - 1).toNat (by simp; omega)) (h - 1).toNat (by simp; omega)
  rw [e1, e2]; exact this
theorem shl_table (w h : Int) (hw : isT w h = true) : (0 ≤ wrap64 (w * h) ∧ wrap64 (w * h) = w * h ∧ w * h ≤ 36 ∧ shl .i64 1 (wrap64 (w * h)) = 2 ^ (w * h).toNat) ∧ (2 : Int) ^ (w * h).toNat ≤ 68719476736 ∧ 2 ≤ (2 : Int) ^ (w * h).toNat := by
  have := table_all (p := fun w h => decide ((0 ≤ wrap64 (w * h) ∧ wrap64 (w * h) = w * h ∧ w * h ≤ 36 ∧ shl .i64 1 (wrap64 (w * h)) = 2 ^ (w * h).toNat) ∧ (2 : Int) ^ (w * h).toNat ≤ 68719476736 ∧ 2 ≤ (2 : Int) ^ (w * h).toNat)) (by decide +kernel) w h hw
  exact of_decide_eq_true this
theorem spec_shapeOk (w h m : Int) : spec_ShapeOk.f w h m = some (okS w h m) := by
  unfold spec_ShapeOk.f
  simp only [in_eq, Option.bind_some]
  by_cases c : isT w h = true
  · obtain ⟨⟨a1, a2, a3, a4⟩, a5, a6⟩ := shl_table w h c
    have c' := isT_iff.mp c
    rw [if_pos (by simp; omega), if_pos (by simp; omega), if_pos a1, a4, w64 (by omega) (by omega)]
    unfold okS
    rw [c, Bool.true_and]
    exact congrArg some (decide_eq_decide.mpr (by omega))
  · have e : okS w h m = false := by unfold okS; simp [c]
    have c' : ¬ (1 ≤ w ∧ w ≤ 6 ∧ 1 ≤ h ∧ h ≤ 6) := fun x => c (isT_iff.mpr x)
    rw [e]
    by_cases d : 1 ≤ w ∧ w ≤ 6
    · rw [if_pos (decide_eq_true d), if_neg (fun x => c' (by have := of_decide_eq_true x; omega))]
    · rw [if_neg (fun x => d (of_decide_eq_true x))]
theorem impl_isTable (w h : Int) : impl_isTable.f w h = some (isT w h) := by
  unfold impl_isTable.f
  simp only [within_eq, Option.bind_some]
  by_cases d : 1 ≤ w ∧ w ≤ 6
  · rw [if_pos (decide_eq_true d)]
    exact congrArg some (decide_eq_decide.mpr (by omega))
  · rw [if_neg (fun x => d (of_decide_eq_true x))]
    exact congrArg some (decide_eq_false (by omega)).symm
theorem impl_shapeOk (w h m : Int) : impl_ShapeOk.f w h m = some (okS w h m) := by
  unfold impl_ShapeOk.f
  simp only [impl_isTable, Option.bind_some]
  by_cases c : isT w h = true
  · obtain ⟨⟨a1, a2, a3, a4⟩, a5, a6⟩ := shl_table w h c
    rw [if_pos c, if_pos a1, a4]
    unfold okS
    rw [c]
    rw [Bool.true_and]
    by_cases g : m ≥ 0
    · rw [if_pos g]
      exact congrArg some (decide_eq_decide.mpr (by omega))
    · rw [if_neg g]
      exact congrArg some (decide_eq_false (by omega)).symm
  · rw [if_neg c]; unfold okS; simp [c]
theorem and_u64 (a b : Nat) (ha : a < 2 ^ 64) (hb : b < 2 ^ 64) : Go.bits .and .u64 (a : Int) (b : Int) = ((a &&& b : Nat) : Int) :=
  (Go.bits_nat .u64 64 (by decide) (fun n h0 h1 => by unfold Go.IntKind.wrap; simp [Go.IntKind.bits, Go.IntKind.signed]; omega) a b ha hb).1
theorem and_i64 (a b : Nat) (ha : a < 2 ^ 63) (hb : b < 2 ^ 63) : Go.bits .and .i64 (a : Int) (b : Int) = ((a &&& b : Nat) : Int) :=
  (Go.bits_nat .i64 63 (by decide) (fun n h0 h1 => by rw [Go.IntKind.wrap_i64]; omega) a b ha hb).1
theorem or_i64 (a b : Nat) (ha : a < 2 ^ 63) (hb : b < 2 ^ 63) : Go.bits .or .i64 (a : Int) (b : Int) = ((a ||| b : Nat) : Int) :=
  (Go.bits_nat .i64 63 (by decide) (fun n h0 h1 => by rw [Go.IntKind.wrap_i64]; omega) a b ha hb).2
theorem u64_nat (a : Nat) (ha : a < 2 ^ 64) : IntKind.u64.wrap (a : Int) = (a : Int) := by
  unfold Go.IntKind.wrap; simp [Go.IntKind.bits, Go.IntKind.signed]; omega
theorem and1 (x : Nat) : x &&& 1 = x % 2 := Nat.and_one_is_mod x
theorem shr_nat (x i : Nat) (hi : i ≤ 64) : shr .i64 (x : Int) (i : Int) = ((x / 2 ^ i : Nat) : Int) := by
  unfold shr
  rw [show min ((i : Int)).toNat (IntKind.bits .i64) = i from by
    have : IntKind.bits .i64 = 64 := rfl
    omega]
  rw [Int.natCast_ediv, Int.natCast_pow]; rfl
theorem bit_at (x i : Nat) (hx : x < 2 ^ 62) (hi : i ≤ 64) : Go.bits .and .i64 (shr .i64 (x : Int) (i : Int)) 1 = ((x / 2 ^ i % 2 : Nat) : Int) := by
  rw [shr_nat x i hi]
  have h := and_i64 (x / 2 ^ i) 1 (Nat.lt_of_le_of_lt (Nat.div_le_self _ _) (by omega)) (by decide)
  rw [and1] at h
  exact h
theorem testBit_div (x i : Nat) : x.testBit i = decide (x / 2 ^ i % 2 = 1) := Nat.testBit_eq_decide_div_mod_eq
theorem bit_eq1 (x i : Nat) (hx : x < 2 ^ 62) (hi : i ≤ 64) : (Go.bits .and .i64 (shr .i64 (x : Int) (i : Int)) 1 = 1) ↔ x.testBit i = true := by
  rw [bit_at x i hx hi, testBit_div, decide_eq_true_iff]
  generalize x / 2 ^ i % 2 = q
  omega
theorem bit_eq0 (x i : Nat) (hx : x < 2 ^ 62) (hi : i ≤ 64) : (Go.bits .and .i64 (shr .i64 (x : Int) (i : Int)) 1 = 0) ↔ x.testBit i = false := by
  rw [bit_at x i hx hi, testBit_div, decide_eq_false_iff_not]
  have : x / 2 ^ i % 2 < 2 := Nat.mod_lt _ (by decide)
  generalize x / 2 ^ i % 2 = q at *
  omega
theorem shl_nat (i : Nat) (hi : i ≤ 62) : shl .i64 1 (i : Int) = ((2 ^ i : Nat) : Int) := by
  unfold shl
  rw [show min ((i : Int)).toNat (IntKind.bits .i64) = i from by
    have : IntKind.bits .i64 = 64 := rfl
    omega]
  have h : 2 ^ i ≤ 2 ^ 62 := Nat.pow_le_pow_right (by decide) hi
  have e : (1 : Int) * 2 ^ i = ((2 ^ i : Nat) : Int) := by rw [Int.natCast_pow]; simp
  rw [e, IntKind.wrap_i64]
  generalize 2 ^ i = q at *
  omega
theorem has_eq (x i : Nat) (hx : x < 2 ^ 62) (hi : i ≤ 64) : impl_has.f (x : Int) (i : Int) = some (x.testBit i) := by
  unfold impl_has.f
  rw [if_pos (by omega)]
  have h := bit_eq1 x i hx hi
  cases e : x.testBit i
  · rw [e] at h
    simp at h
    exact congrArg some (by simpa using h)
  · rw [e] at h
    simp at h
    exact congrArg some (by simpa using h)
theorem zero_test (x i : Nat) (h : x / 2 ^ i = 0) (j : Nat) (hj : i ≤ j) : x.testBit j = false := by
  apply Nat.testBit_lt_two_pow
  have : x < 2 ^ i := by
    rcases Nat.div_eq_zero_iff.mp h with h | h
    · have := Nat.two_pow_pos i; omega
    · exact h
  exact Nat.lt_of_lt_of_le this (Nat.pow_le_pow_right (by decide) hj)
/-- The cells of a mask from i on, d of them. -/
def cl (x : Nat) : Nat → Nat → List Nat
  | _, 0 => []
  | i, d + 1 => if x.testBit i then i :: cl x (i + 1) d else cl x (i + 1) d
theorem cl_none (x : Nat) (d : Nat) : ∀ i, x / 2 ^ i = 0 → cl x i d = [] := by
  induction d with
  | zero => intro i _; rfl
  | succ d ih =>
    intro i h
    simp only [cl]
    rw [zero_test x i h i (Nat.le_refl _)]
    simp
    apply ih
    rw [Nat.pow_succ, ← Nat.div_div_eq_div_mul, h]
theorem cl_len (x : Nat) (d : Nat) : ∀ i, (cl x i d).length ≤ d := by
  induction d with
  | zero => intro i; simp [cl]
  | succ d ih => intro i; have := ih (i + 1); simp only [cl]; split <;> simp <;> omega
theorem cl_mem (x : Nat) (d : Nat) : ∀ i j, j ∈ cl x i d ↔ (i ≤ j ∧ j < i + d ∧ x.testBit j = true) := by
  induction d with
  | zero => intro i j; simp [cl]; omega
  | succ d ih =>
    intro i j
    simp only [cl]
    by_cases h : x.testBit i = true
    · rw [if_pos h, List.mem_cons, ih]
      constructor
      · rintro (rfl | ⟨a, b, c⟩)
        · exact ⟨by omega, by omega, h⟩
        · exact ⟨by omega, by omega, c⟩
      · rintro ⟨a, b, c⟩
        by_cases e : j = i
        · exact .inl e
        · exact .inr ⟨by omega, by omega, c⟩
    · rw [if_neg h, ih]
      constructor
      · rintro ⟨a, b, c⟩; exact ⟨by omega, by omega, c⟩
      · rintro ⟨a, b, c⟩
        refine ⟨?_, by omega, c⟩
        rcases Nat.lt_or_ge i j with g | g
        · omega
        · obtain rfl : i = j := by omega
          exact absurd c h
theorem tdivmod (i w : Nat) (hw : 0 < w) (hi : i < 100) (hww : w ≤ 100) : Int.tmod (i : Int) (w : Int) = ((i % w : Nat) : Int) ∧ wrap64 (Int.tdiv (i : Int) (w : Int)) = ((i / w : Nat) : Int) := by
  have e1 : Int.tmod (i : Int) (w : Int) = ((i % w : Nat) : Int) := by rw [Int.tmod_eq_emod_of_nonneg (by omega)]; rfl
  have e2 : Int.tdiv (i : Int) (w : Int) = ((i / w : Nat) : Int) := by rw [Int.tdiv_eq_ediv_of_nonneg (by omega)]; rfl
  refine ⟨e1, ?_⟩
  have : i / w ≤ i := Nat.div_le_self _ _
  rw [e2]
  generalize i / w = q at *
  exact w64 (by omega) (by omega)
def cellAt (w i : Nat) : S42 := ⟨((i % w : Nat) : Int), ((i / w : Nat) : Int)⟩
theorem impl_cells_from (w n x : Nat) (hw : 0 < w) (hww : w ≤ 6) (hn : n ≤ 36) (hx : x < 2 ^ 62) (d : Nat) : ∀ (i : Nat) (out : List S42), i + d = n → out.length + d ≤ 100 →
    Ev (fun k => impl_cells.l0 k (w : Int) (x : Int) out (n : Int) (i : Int)) (out ++ (cl x i d).map (cellAt w)) := by
  induction d with
  | zero =>
    intro i out h ho
    refine ev_shift ?_
    simp only [impl_cells.l0, cl, List.map_nil, List.append_nil]
    exact ev_neg (by omega) (ev_now _)
  | succ d ih =>
    intro i out h ho
    refine ev_shift ?_
    simp only [impl_cells.l0, cl]
    refine ev_pos (by omega) (ev_bind0 (has_eq x i hx (by omega)) ?_)
    have e : wrap64 ((i : Int) + 1) = ((i + 1 : Nat) : Int) := by rw [w64 (by omega) (by omega)]; omega
    obtain ⟨t1, t2⟩ := tdivmod i w hw (by omega) (by omega)
    rw [e, t1, t2]
    by_cases b : x.testBit i = true
    · rw [if_pos b]
      refine ev_pos b (ev_neg (by omega) (ev_pos (by omega) ?_))
      have := ih (i + 1) (out ++ [cellAt w i]) (by omega) (by simp; omega)
      simpa [cellAt] using this
    · rw [if_neg b]
      exact ev_neg b (ih (i + 1) out (by omega) (by omega))
theorem spec_cells_from (w n x : Nat) (hw : 0 < w) (hww : w ≤ 6) (hn : n ≤ 36) (hx : x < 2 ^ n) (d : Nat) : ∀ (i : Nat) (out : List S42), i + d = n → out.length + d ≤ 100 →
    Ev (fun k => spec_l08Cells.l0 k (w : Int) (x : Int) out (i : Int)) (out ++ (cl x i d).map (cellAt w)) := by
  have hx62 : x < 2 ^ 62 := Nat.lt_of_lt_of_le hx (Nat.pow_le_pow_right (by decide) (by omega))
  induction d with
  | zero =>
    intro i out h ho
    refine ev_shift ?_
    simp only [spec_l08Cells.l0, cl, List.map_nil, List.append_nil]
    refine ev_pos (by omega) ?_
    rw [shr_nat x i (by omega)]
    have : x / 2 ^ i = 0 := Nat.div_eq_of_lt (by rw [show i = n by omega]; exact hx)
    exact ev_neg (by omega) (ev_now _)
  | succ d ih =>
    intro i out h ho
    refine ev_shift ?_
    simp only [spec_l08Cells.l0]
    refine ev_pos (by omega) ?_
    by_cases z : x / 2 ^ i = 0
    · rw [cl_none x (d + 1) i z]
      refine ev_neg (by rw [shr_nat x i (by omega)]; omega) (ev_eq (ev_now _) (by simp))
    · refine ev_pos (by rw [shr_nat x i (by omega)]; generalize x / 2 ^ i = q at *; omega) ?_
      have e : wrap64 ((i : Int) + 1) = ((i + 1 : Nat) : Int) := by rw [w64 (by omega) (by omega)]; omega
      obtain ⟨t1, t2⟩ := tdivmod i w hw (by omega) (by omega)
      simp only [cl]
      rw [e, t1, t2]
      by_cases b : x.testBit i = true
      · rw [if_pos b]
        refine ev_pos ((bit_eq1 x i hx62 (by omega)).mpr b) (ev_neg (by omega) (ev_pos (by omega) ?_))
        have := ih (i + 1) (out ++ [cellAt w i]) (by omega) (by simp; omega)
        simpa [cellAt] using this
      · rw [if_neg b]
        exact ev_neg (fun c => b ((bit_eq1 x i hx62 (by omega)).mp c)) (ih (i + 1) out (by omega) (by omega))
theorem ok_nat {w h m : Int} (c : okS w h m = true) : ∃ W H x : Nat, w = W ∧ h = H ∧ m = x ∧ (1 ≤ W ∧ W ≤ 6) ∧ (1 ≤ H ∧ H ≤ 6) ∧ x < 2 ^ (W * H) ∧ W * H ≤ 36 := by
  obtain ⟨hT, h0, h1⟩ := okS_iff.mp c
  refine ⟨w.toNat, h.toNat, m.toNat, by omega, by omega, by omega, by omega, by omega, ?_, ?_⟩
  · have e : m = (m.toNat : Int) := by omega
    have e2 : (w * h).toNat = w.toNat * h.toNat := by
      rw [Int.toNat_mul (by omega) (by omega)]
    rw [e, e2] at h1
    exact_mod_cast h1
  · have a : w.toNat ≤ 6 := by omega
    have b : h.toNat ≤ 6 := by omega
    calc w.toNat * h.toNat ≤ 6 * 6 := Nat.mul_le_mul a b
      _ = 36 := rfl
theorem nat_ok (W H x : Nat) (hW : 1 ≤ W ∧ W ≤ 6) (hH : 1 ≤ H ∧ H ≤ 6) (hx : x < 2 ^ (W * H)) : okS (W : Int) (H : Int) (x : Int) = true := by
  rw [okS_iff]
  refine ⟨by omega, by omega, ?_⟩
  have e2 : ((W : Int) * (H : Int)).toNat = W * H := by rw [← Int.natCast_mul]; exact Int.toNat_natCast _
  rw [e2]; exact_mod_cast hx
theorem impl_cells_ev (W H x : Nat) (hW : 1 ≤ W ∧ W ≤ 6) (hn : W * H ≤ 36) (hx : x < 2 ^ (W * H)) : Ev (fun k => impl_cells.f k (W : Int) (H : Int) (x : Int)) ((cl x 0 (W * H)).map (cellAt W)) := by
  have hx62 : x < 2 ^ 62 := Nat.lt_of_lt_of_le hx (Nat.pow_le_pow_right (by decide) (by omega))
  unfold impl_cells.f
  have e : wrap64 ((W : Int) * (H : Int)) = ((W * H : Nat) : Int) := by rw [← Int.natCast_mul, w64 (by omega) (by omega)]
  rw [e]
  have := impl_cells_from W (W * H) x (by omega) (by omega) hn hx62 (W * H) 0 [] (by omega) (by simp; omega)
  simpa using this
theorem spec_cells_ev (W n x : Nat) (hW : 1 ≤ W ∧ W ≤ 6) (hn : n ≤ 36) (hx : x < 2 ^ n) : Ev (fun k => spec_l08Cells.f k (W : Int) (x : Int)) ((cl x 0 n).map (cellAt W)) := by
  unfold spec_l08Cells.f
  have := spec_cells_from W n x (by omega) (by omega) hn hx n 0 [] (by omega) (by simp; omega)
  simpa using this
/-- A quarter turn, n times. -/
def rot : Nat → S42 → S42
  | 0, p => p
  | n + 1, p => rot n ⟨-p.f1, p.f0⟩
def mvp (m : Nat) (p : S42) : S42 := rot (m % 4) (if 4 ≤ m then ⟨-p.f0, p.f1⟩ else p)
def near (B : Int) (p : S42) : Prop := (-B ≤ p.f0 ∧ p.f0 ≤ B) ∧ -B ≤ p.f1 ∧ p.f1 ≤ B
theorem rot_near (B : Int) (n : Nat) : ∀ p : S42, near B p → near B (rot n p) := by
  induction n with
  | zero => intro p h; exact h
  | succ n ih => intro p h; refine ih _ ?_; unfold near at *; simp only; omega
theorem mvp_near (B : Int) (m : Nat) (p : S42) (h : near B p) : near B (mvp m p) := by
  unfold mvp
  apply rot_near
  split
  · unfold near at *; simp only; omega
  · exact h
theorem rot_impl (m : Nat) (hm : m < 8) (d : Nat) : ∀ (i : Nat) (p : S42), i + d = m % 4 → near 1000000 p → Ev (fun k => impl_moved.l0 k ((m % 4 : Nat) : Int) (i : Int) p.f0 p.f1) ((rot d p).f0, (rot d p).f1) := by
  induction d with
  | zero =>
    intro i p h hp
    refine ev_shift ?_
    simp only [impl_moved.l0, rot]
    exact ev_neg (by omega) (ev_now _)
  | succ d ih =>
    intro i p h hp
    refine ev_shift ?_
    simp only [impl_moved.l0, rot]
    refine ev_pos (by omega) ?_
    have hp' := hp
    unfold near at hp'
    have e : wrap64 ((i : Int) + 1) = ((i + 1 : Nat) : Int) := by rw [w64 (by omega) (by omega)]; omega
    rw [e, w64 (n := -p.f1) (by omega) (by omega)]
    have := ih (i + 1) ⟨-p.f1, p.f0⟩ (by omega) (by unfold near; simp only; omega)
    exact this
theorem apply_impl (m : Nat) (hm : m < 8) (p : S42) (hp : near 1000000 p) : Ev (fun k => impl_moved.f k p.f0 p.f1 (m : Int)) ((mvp m p).f0, (mvp m p).f1) := by
  unfold impl_moved.f mvp
  have hp' := hp
  unfold near at hp'
  have e4 : Int.tmod (m : Int) 4 = ((m % 4 : Nat) : Int) := by rw [Int.tmod_eq_emod_of_nonneg (by omega)]; rfl
  by_cases c : 4 ≤ m
  · rw [if_pos c, w64 (n := -p.f0) (by omega) (by omega)]
    refine ev_pos (by omega) (ev_shift ?_)
    simp only [impl_moved.j0, e4]
    exact rot_impl m hm (m % 4) 0 ⟨-p.f0, p.f1⟩ (by omega) (by unfold near; simp only; omega)
  · rw [if_neg c]
    refine ev_neg (by omega) (ev_shift ?_)
    simp only [impl_moved.j0, e4]
    exact rot_impl m hm (m % 4) 0 p (by omega) hp
/-- The least coordinates, and points moved on so that these are 0. -/
def lowX (a : Int) (l : List S42) : Int := l.foldl (fun z p => min z p.f0) a
def lowY (a : Int) (l : List S42) : Int := l.foldl (fun z p => min z p.f1) a
def lx : List S42 → Int
  | [] => 0
  | p :: l => lowX p.f0 (p :: l)
def ly : List S42 → Int
  | [] => 0
  | p :: l => lowY p.f1 (p :: l)
def shift (x y : Int) (p : S42) : S42 := ⟨p.f0 - x, p.f1 - y⟩
def corner (l : List S42) : List S42 := l.map (shift (lx l) (ly l))
theorem lowX_near (B : Int) (l : List S42) : ∀ a, -B ≤ a → a ≤ B → (∀ p ∈ l, near B p) → -B ≤ lowX a l ∧ lowX a l ≤ B := by
  induction l with
  | nil => intro a h h' _; exact ⟨h, h'⟩
  | cons p l ih =>
    intro a h h' hl
    have hp := hl p (by simp)
    unfold near at hp
    exact ih (min a p.f0) (by omega) (by omega) (fun q hq => hl q (by simp [hq]))
theorem lowY_near (B : Int) (l : List S42) : ∀ a, -B ≤ a → a ≤ B → (∀ p ∈ l, near B p) → -B ≤ lowY a l ∧ lowY a l ≤ B := by
  induction l with
  | nil => intro a h h' _; exact ⟨h, h'⟩
  | cons p l ih =>
    intro a h h' hl
    have hp := hl p (by simp)
    unfold near at hp
    exact ih (min a p.f1) (by omega) (by omega) (fun q hq => hl q (by simp [hq]))
theorem lowX_le (l : List S42) : ∀ a, lowX a l ≤ a ∧ ∀ p ∈ l, lowX a l ≤ p.f0 := by
  induction l with
  | nil => intro a; exact ⟨Int.le_refl _, fun p hp => by cases hp⟩
  | cons q l ih =>
    intro a
    obtain ⟨h1, h2⟩ := ih (min a q.f0)
    refine ⟨Int.le_trans h1 (by omega), fun p hp => ?_⟩
    rcases List.mem_cons.mp hp with rfl | hp
    · exact Int.le_trans h1 (by omega)
    · exact h2 p hp
theorem lowY_le (l : List S42) : ∀ a, lowY a l ≤ a ∧ ∀ p ∈ l, lowY a l ≤ p.f1 := by
  induction l with
  | nil => intro a; exact ⟨Int.le_refl _, fun p hp => by cases hp⟩
  | cons q l ih =>
    intro a
    obtain ⟨h1, h2⟩ := ih (min a q.f1)
    refine ⟨Int.le_trans h1 (by omega), fun p hp => ?_⟩
    rcases List.mem_cons.mp hp with rfl | hp
    · exact Int.le_trans h1 (by omega)
    · exact h2 p hp
theorem lx_near (B : Int) (hB : 0 ≤ B) (l : List S42) (h : ∀ p ∈ l, near B p) : (-B ≤ lx l ∧ lx l ≤ B) ∧ -B ≤ ly l ∧ ly l ≤ B := by
  cases l with
  | nil => simp only [lx, ly]; omega
  | cons p l =>
    have hp := h p (by simp)
    unfold near at hp
    exact ⟨lowX_near B _ _ (by omega) (by omega) h, lowY_near B _ _ (by omega) (by omega) h⟩
theorem lx_le (l : List S42) : ∀ p ∈ l, lx l ≤ p.f0 ∧ ly l ≤ p.f1 := by
  cases l with
  | nil => intro p hp; cases hp
  | cons q l => exact fun p hp => ⟨(lowX_le _ _).2 p hp, (lowY_le _ _).2 p hp⟩
def hiX (a : Int) (l : List S42) : Int := l.foldl (fun z p => max z p.f0) a
def hiY (a : Int) (l : List S42) : Int := l.foldl (fun z p => max z p.f1) a
theorem shift_wrap (B x y : Int) (hB : B ≤ 1000000) (hx : -B ≤ x ∧ x ≤ B) (hy : -B ≤ y ∧ y ≤ B) (p : S42) (hp : near B p) : (⟨wrap64 (p.f0 - x), wrap64 (p.f1 - y)⟩ : S42) = shift x y p := by
  unfold near at hp
  rw [w64 (by omega) (by omega), w64 (by omega) (by omega)]; rfl
theorem corner_l1 (l : List S42) (hl : l.length ≤ 10000) (x y : Int) (hx : -1000000 ≤ x ∧ x ≤ 1000000) (hy : -1000000 ≤ y ∧ y ≤ 1000000) (hn : ∀ p ∈ l, near 1000000 p) : ∀ (suf pre out : List S42), l = pre ++ suf → out.length + suf.length ≤ 100000 →
    Ev (fun k => spec_l06Corner.l1 k x y out l (l.length : Int) (pre.length : Int)) (out ++ suf.map (shift x y)) := by
  intro suf
  induction suf with
  | nil =>
    intro pre out h ho
    refine ev_shift ?_
    simp only [spec_l06Corner.l1]
    exact ev_neg (by subst h; simp) (ev_eq (ev_now _) (by simp))
  | cons p suf ih =>
    intro pre out h ho
    refine ev_shift ?_
    simp only [spec_l06Corner.l1]
    have hlen : l.length = pre.length + (suf.length + 1) := by subst h; simp
    have ha : rd_T42 l (pre.length : Int) = p := by subst h; exact rdp_mid pre suf p
    have hp := hn p (by subst h; simp)
    simp only [List.length_cons] at ho
    rw [ha, shift_wrap 1000000 x y (by omega) hx hy p hp, next_len pre p (by omega)]
    refine ev_pos (by omega) (ev_pos (by omega) (ev_pos (by omega) (ev_pos (by omega) ?_)))
    have := ih (pre ++ [p]) (out ++ [shift x y p]) (by simp [h]) (by simp; omega)
    simpa using this
theorem corner_l0 (l : List S42) (hl : l.length ≤ 10000) (hn : ∀ p ∈ l, near 1000000 p) : ∀ (suf pre : List S42) (x y : Int), l = pre ++ suf → (-1000000 ≤ x ∧ x ≤ 1000000) → (-1000000 ≤ y ∧ y ≤ 1000000) →
    Ev (fun k => spec_l06Corner.l0 k l x y l (l.length : Int) (pre.length : Int)) (l.map (shift (lowX x suf) (lowY y suf))) := by
  intro suf
  induction suf with
  | nil =>
    intro pre x y h hx hy
    refine ev_shift ?_
    simp only [spec_l06Corner.l0]
    refine ev_neg (by subst h; simp) ?_
    have := corner_l1 l hl x y hx hy hn l [] [] rfl (by simp; omega)
    exact this
  | cons p suf ih =>
    intro pre x y h hx hy
    refine ev_shift ?_
    simp only [spec_l06Corner.l0]
    have hlen : l.length = pre.length + (suf.length + 1) := by subst h; simp
    have ha : rd_T42 l (pre.length : Int) = p := by subst h; exact rdp_mid pre suf p
    have hp := hn p (by subst h; simp)
    unfold near at hp
    rw [ha, next_len pre p (by omega)]
    refine ev_pos (by omega) (ev_pos (by omega) (ev_pos (by omega) ?_))
    rw [mn_eq, mn_eq]
    exact ih (pre ++ [p]) (min x p.f0) (min y p.f1) (by simp [h]) (by omega) (by omega)
theorem corner_spec (l : List S42) (hl : l.length ≤ 10000) (h0 : l ≠ []) (hn : ∀ p ∈ l, near 1000000 p) : Ev (fun k => spec_l06Corner.f k l) (corner l) := by
  unfold spec_l06Corner.f
  match l, h0 with
  | p :: l, _ =>
    have hp := hn p (by simp)
    unfold near at hp
    have e : rd_T42 (p :: l) 0 = p := by simp [rd_T42]
    rw [e]
    refine ev_pos (by simp) ?_
    have := corner_l0 (p :: l) hl hn (p :: l) [] p.f0 p.f1 rfl hp.1 hp.2
    exact this
theorem box_l0 (l : List S42) (hl : l.length ≤ 10000) : ∀ (suf pre : List S42) (x y X Y : Int), l = pre ++ suf →
    Ev (fun k => impl_box.l0 k l (l.length : Int) (pre.length : Int) x y X Y) (lowX x suf, lowY y suf, hiX X suf, hiY Y suf) := by
  intro suf
  induction suf with
  | nil =>
    intro pre x y X Y h
    refine ev_shift ?_
    simp only [impl_box.l0]
    exact ev_neg (by subst h; simp) (ev_now _)
  | cons p suf ih =>
    intro pre x y X Y h
    refine ev_shift ?_
    simp only [impl_box.l0]
    have hlen : l.length = pre.length + (suf.length + 1) := by subst h; simp
    have ha : rd_T42 l (pre.length : Int) = p := by subst h; exact rdp_mid pre suf p
    rw [ha, next_len pre p (by omega)]
    refine ev_pos (by omega) (ev_pos (by omega) (ev_pos (by omega) ?_))
    rw [mn_eq, mn_eq, mx_eq, mx_eq]
    exact ih (pre ++ [p]) (min x p.f0) (min y p.f1) (max X p.f0) (max Y p.f1) (by simp [h])
theorem box_impl (p : S42) (l : List S42) (hl : l.length < 10000) : Ev (fun k => impl_box.f k (p :: l)) (lx (p :: l), ly (p :: l), hiX p.f0 (p :: l), hiY p.f1 (p :: l)) := by
  unfold impl_box.f
  have e : rd_T42 (p :: l) 0 = p := by simp [rd_T42]
  rw [e]
  refine ev_pos (by simp) ?_
  have := box_l0 (p :: l) (by simp; omega) (p :: l) [] p.f0 p.f1 p.f0 p.f1 rfl
  exact this
theorem movedOn_l1 (n : Nat) (hl : n ≤ 10000) (x y : Int) (hx : -1000000 ≤ x ∧ x ≤ 1000000) (hy : -1000000 ≤ y ∧ y ≤ 1000000) : ∀ (suf done : List S42), done.length + suf.length = n → (∀ p ∈ suf, near 1000000 p) →
    Ev (fun k => impl_movedOn.l1 k (done ++ suf) (n : Int) (done.length : Int) x y) (done ++ suf.map (shift x y)) := by
  intro suf
  induction suf with
  | nil =>
    intro done h hn
    refine ev_shift ?_
    simp only [impl_movedOn.l1]
    exact ev_neg (by simp at h; omega) (ev_eq (ev_now _) (by simp))
  | cons p suf ih =>
    intro done h hn
    refine ev_shift ?_
    simp only [impl_movedOn.l1]
    simp only [List.length_cons] at h
    have hp := hn p (by simp)
    have hlen : (done ++ p :: suf).length = n := by simp; omega
    rw [rdp_mid, shift_wrap 1000000 x y (by omega) hx hy p hp]
    refine ev_pos (by omega) (ev_pos (by omega) (ev_pos (by omega) ?_))
    have e : (done ++ p :: suf).set ((done.length : Int)).toNat (shift x y p) = (done ++ [shift x y p]) ++ suf := by
      have : ((done.length : Int)).toNat = done.length := by omega
      rw [this, List.set_append_right _ _ (Nat.le_refl _)]
      simp
    rw [e, next_len done (shift x y p) (by omega)]
    have := ih (done ++ [shift x y p]) (by simp; omega) (fun q hq => hn q (by simp [hq]))
    simpa using this
theorem movedOn_l0 (l : List S42) (h0 : l ≠ []) (hl : l.length ≤ 5000) (m : Nat) (hm : m < 8) (hn : ∀ p ∈ l, near 1000000 p) : ∀ (suf pre : List S42), l = pre ++ suf →
    Ev (fun k => impl_movedOn.l0 k (m : Int) (pre.map (mvp m)) l (l.length : Int) (pre.length : Int)) (corner (l.map (mvp m))) := by
  intro suf
  induction suf with
  | nil =>
    intro pre h
    obtain rfl : l = pre := by simp [h]
    refine ev_shift ?_
    simp only [impl_movedOn.l0]
    refine ev_neg (by omega) ?_
    match l, h0 with
    | p :: l, _ =>
      have hc : (p :: l).map (mvp m) = mvp m p :: l.map (mvp m) := rfl
      have hnm : ∀ q ∈ (p :: l).map (mvp m), near 1000000 q := by
        intro q hq
        obtain ⟨z, hz, rfl⟩ := List.mem_map.mp hq
        exact mvp_near _ _ _ (hn z hz)
      obtain ⟨b1, b2⟩ := lx_near 1000000 (by omega) _ hnm
      rw [hc] at b1 b2 hnm ⊢
      refine ev_bind (box_impl _ _ (by simp at hl ⊢; omega)) ?_
      have := movedOn_l1 (mvp m p :: l.map (mvp m)).length (by simp at hl ⊢; omega) _ _ b1 b2 (mvp m p :: l.map (mvp m)) [] (by simp) hnm
      exact this
  | cons p suf ih =>
    intro pre h
    refine ev_shift ?_
    simp only [impl_movedOn.l0]
    have hlen : l.length = pre.length + (suf.length + 1) := by subst h; simp
    have ha : rd_T42 l (pre.length : Int) = p := by subst h; exact rdp_mid pre suf p
    have hp := hn p (by subst h; simp)
    rw [ha, next_len pre p (by omega)]
    refine ev_pos (by omega) (ev_pos (by omega) (ev_pos (by omega) (ev_bind (apply_impl m hm p hp) (ev_pos (by simp; omega) ?_))))
    have := ih (pre ++ [p]) (by simp [h])
    simpa using this
theorem movedOn_impl (l : List S42) (h0 : l ≠ []) (hl : l.length ≤ 5000) (m : Nat) (hm : m < 8) (hn : ∀ p ∈ l, near 1000000 p) : Ev (fun k => impl_movedOn.f k l (m : Int)) (corner (l.map (mvp m))) := by
  unfold impl_movedOn.f
  exact movedOn_l0 l h0 hl m hm hn l [] rfl
/-- The bit of a point in a table of w columns. -/
def bitOf (w : Nat) (p : S42) : Nat := (p.f1 * w + p.f0).toNat
def putS (w h : Nat) : List S42 → Nat → Int × Bool
  | [], m => ((m : Int), true)
  | p :: l, m => if (w : Int) ≤ p.f0 ∨ (h : Int) ≤ p.f1 then (0, false) else putS w h l (m + 2 ^ bitOf w p)
theorem fits_bit (w h : Nat) (hw : w ≤ 6) (hh : h ≤ 6) (p : S42) (h0 : 0 ≤ p.f0) (h1 : 0 ≤ p.f1) (a : p.f0 < w) (b : p.f1 < h) (hn : w * h ≤ 36) :
    wrap64 (wrap64 (p.f1 * (w : Int)) + p.f0) = (bitOf w p : Int) ∧ bitOf w p < w * h := by
  obtain ⟨x, hx⟩ := Int.eq_ofNat_of_zero_le h0
  obtain ⟨y, hy⟩ := Int.eq_ofNat_of_zero_le h1
  unfold bitOf
  rw [hx] at a ⊢
  rw [hy] at b ⊢
  have a' : x < w := by omega
  have b' : y + 1 ≤ h := by omega
  have e : (y + 1) * w ≤ h * w := Nat.mul_le_mul_right w b'
  have e2 : (y + 1) * w = y * w + w := Nat.succ_mul y w
  have e3 : h * w = w * h := Nat.mul_comm h w
  rw [← Int.natCast_mul]
  have e4 : y * w + x < w * h := by omega
  have e5 : wrap64 ((y * w : Nat) : Int) = ((y * w : Nat) : Int) := by
    generalize y * w = q at *
    exact w64 (by omega) (by omega)
  rw [e5]
  generalize y * w = q at *
  generalize w * h = r at *
  rw [w64 (by omega) (by omega)]
  omega
theorem put_spec_l0 (w h : Nat) (hw : w ≤ 6) (hh : h ≤ 6) (hn : w * h ≤ 36) (l : List S42) (hl : l.length ≤ 100) (hp : ∀ p ∈ l, 0 ≤ p.f0 ∧ 0 ≤ p.f1) : ∀ (suf pre : List S42) (m : Nat), l = pre ++ suf → m ≤ pre.length * 2 ^ 36 →
    Ev (fun k => spec_l08Put.l0 k (w : Int) (h : Int) (m : Int) l (l.length : Int) (pre.length : Int)) (putS w h suf m) := by
  intro suf
  induction suf with
  | nil =>
    intro pre m h1 hm
    refine ev_shift ?_
    simp only [spec_l08Put.l0, putS]
    exact ev_neg (by subst h1; simp) (ev_now _)
  | cons p suf ih =>
    intro pre m h1 hm
    refine ev_shift ?_
    simp only [spec_l08Put.l0, putS]
    have hlen : l.length = pre.length + (suf.length + 1) := by subst h1; simp
    have ha : rd_T42 l (pre.length : Int) = p := by subst h1; exact rdp_mid pre suf p
    obtain ⟨p0, p1⟩ := hp p (by subst h1; simp)
    rw [ha, next_len pre p (by omega)]
    refine ev_pos (by omega) (ev_pos (by omega) (ev_pos (by omega) ?_))
    by_cases c : (w : Int) ≤ p.f0
    · rw [if_pos (Or.inl c)]
      exact ev_pos c (ev_now _)
    · refine ev_neg c ?_
      by_cases d : (h : Int) ≤ p.f1
      · rw [if_pos (Or.inr d)]
        exact ev_pos d (ev_now _)
      · refine ev_neg d ?_
        rw [if_neg (by omega)]
        obtain ⟨e1, e2⟩ := fits_bit w h hw hh p p0 p1 (by omega) (by omega) hn
        rw [e1, shl_nat _ (by omega)]
        have hb : 2 ^ bitOf w p ≤ 2 ^ 36 := Nat.pow_le_pow_right (by decide) (by omega)
        have hm2 : m + 2 ^ bitOf w p ≤ (pre.length + 1) * 2 ^ 36 := by rw [Nat.succ_mul]; omega
        have e3 : wrap64 ((m : Int) + ((2 ^ bitOf w p : Nat) : Int)) = ((m + 2 ^ bitOf w p : Nat) : Int) := by
          generalize 2 ^ bitOf w p = z at *
          rw [w64 (by omega) (by omega)]; omega
        rw [e3]
        exact ev_pos (by omega) (ih (pre ++ [p]) _ (by simp [h1]) (by simpa using hm2))
def putO (w h : Nat) : List S42 → Nat → Int × Bool
  | [], m => ((m : Int), true)
  | p :: l, m => if (w : Int) ≤ p.f0 ∨ (h : Int) ≤ p.f1 then (0, false) else putO w h l (m ||| 2 ^ bitOf w p)
theorem put_impl_l0 (w h : Nat) (hw : w ≤ 6) (hh : h ≤ 6) (hn : w * h ≤ 36) (l : List S42) (hl : l.length ≤ 100) (hp : ∀ p ∈ l, 0 ≤ p.f0 ∧ 0 ≤ p.f1) : ∀ (suf pre : List S42) (m : Nat), l = pre ++ suf → m < 2 ^ 36 →
    Ev (fun k => impl_movedMask.l0 k (w : Int) (h : Int) (m : Int) l (l.length : Int) (pre.length : Int)) (putO w h suf m) := by
  intro suf
  induction suf with
  | nil =>
    intro pre m h1 hm
    refine ev_shift ?_
    simp only [impl_movedMask.l0, putO]
    exact ev_neg (by subst h1; simp) (ev_now _)
  | cons p suf ih =>
    intro pre m h1 hm
    refine ev_shift ?_
    simp only [impl_movedMask.l0, putO]
    have hlen : l.length = pre.length + (suf.length + 1) := by subst h1; simp
    have ha : rd_T42 l (pre.length : Int) = p := by subst h1; exact rdp_mid pre suf p
    obtain ⟨p0, p1⟩ := hp p (by subst h1; simp)
    rw [ha, next_len pre p (by omega)]
    refine ev_pos (by omega) (ev_pos (by omega) (ev_pos (by omega) ?_))
    by_cases c : (w : Int) ≤ p.f0
    · rw [if_pos (Or.inl c)]
      exact ev_pos c (ev_now _)
    · refine ev_neg c ?_
      by_cases d : (h : Int) ≤ p.f1
      · rw [if_pos (Or.inr d)]
        exact ev_pos d (ev_now _)
      · refine ev_neg d ?_
        rw [if_neg (by omega)]
        obtain ⟨e1, e2⟩ := fits_bit w h hw hh p p0 p1 (by omega) (by omega) hn
        rw [e1, shl_nat _ (by omega)]
        have hb : 2 ^ bitOf w p < 2 ^ 36 := Nat.pow_lt_pow_right (by decide) (by omega)
        have hm2 : m ||| 2 ^ bitOf w p < 2 ^ 36 := Nat.or_lt_two_pow hm hb
        rw [or_i64 m (2 ^ bitOf w p) (by omega) (by omega)]
        exact ev_pos (by omega) (ih (pre ++ [p]) _ (by simp [h1]) hm2)
theorem or_add (m j : Nat) (h : m.testBit j = false) : m ||| 2 ^ j = m + 2 ^ j := by
  have hpos := Nat.two_pow_pos j
  have hb : m % 2 ^ j < 2 ^ j := Nat.mod_lt _ hpos
  have hm := Nat.div_add_mod m (2 ^ j)
  rw [testBit_div, decide_eq_false_iff_not] at h
  obtain ⟨a, ha⟩ : ∃ a, m / 2 ^ j = 2 * a := ⟨m / 2 ^ j / 2, by generalize m / 2 ^ j = q at *; omega⟩
  generalize hB : m % 2 ^ j = b at *
  rw [ha] at hm
  have e1 : m = 2 ^ j * (2 * a) ||| b := by rw [← Nat.two_pow_add_eq_or_of_lt hb]; exact hm.symm
  have e2 : m + 2 ^ j = 2 ^ j * (2 * a + 1) ||| b := by
    rw [← Nat.two_pow_add_eq_or_of_lt hb, Nat.mul_add]; omega
  have e3 : 2 ^ j * (2 * a + 1) = 2 ^ j * (2 * a) ||| 2 ^ j := by
    have h1 : 2 ^ j < 2 ^ (j + 1) := by rw [Nat.pow_succ]; omega
    have h2 := Nat.two_pow_add_eq_or_of_lt h1 a
    rw [Nat.pow_succ, Nat.mul_assoc] at h2
    rw [← h2, Nat.mul_add]; omega
  rw [e2, e3, e1]
  rw [Nat.or_assoc, Nat.or_assoc, Nat.or_comm b]
theorem bitOf_inj (w : Nat) (p q : S42) (hp : 0 ≤ p.f0 ∧ 0 ≤ p.f1) (hq : 0 ≤ q.f0 ∧ 0 ≤ q.f1) (a : p.f0 < w) (b : q.f0 < w) (h : bitOf w p = bitOf w q) : p = q := by
  obtain ⟨x, hx⟩ := Int.eq_ofNat_of_zero_le hp.1
  obtain ⟨y, hy⟩ := Int.eq_ofNat_of_zero_le hp.2
  obtain ⟨z, hz⟩ := Int.eq_ofNat_of_zero_le hq.1
  obtain ⟨u, hu⟩ := Int.eq_ofNat_of_zero_le hq.2
  unfold bitOf at h
  rw [hx, hy, hz, hu] at h
  rw [← Int.natCast_mul, ← Int.natCast_mul] at h
  have h' : y * w + x = u * w + z := by omega
  have a' : x < w := by omega
  have b' : z < w := by omega
  have e1 : (y * w + x) / w = y := by rw [Nat.mul_comm, Nat.mul_add_div (by omega), Nat.div_eq_of_lt a']; rfl
  have e2 : (u * w + z) / w = u := by rw [Nat.mul_comm, Nat.mul_add_div (by omega), Nat.div_eq_of_lt b']; rfl
  have e3 : y = u := by rw [← e1, ← e2, h']
  subst e3
  have e4 : x = z := by omega
  cases p; cases q
  simp only [S42.mk.injEq] at *
  omega
theorem putS_eq (w h : Nat) : ∀ (l : List S42) (m : Nat), l.Nodup → (∀ p ∈ l, 0 ≤ p.f0 ∧ 0 ≤ p.f1) → (∀ p ∈ l, p.f0 < w → m.testBit (bitOf w p) = false) → putS w h l m = putO w h l m := by
  intro l
  induction l with
  | nil => intro m _ _ _; rfl
  | cons p l ih =>
    intro m hd hp hm
    simp only [putS, putO]
    by_cases c : (w : Int) ≤ p.f0 ∨ (h : Int) ≤ p.f1
    · rw [if_pos c, if_pos c]
    · rw [if_neg c, if_neg c]
      have hb := hm p (by simp) (by omega)
      rw [or_add m _ hb]
      obtain ⟨d1, d2⟩ := List.nodup_cons.mp hd
      refine ih _ d2 (fun q hq => hp q (by simp [hq])) (fun q hq hqw => ?_)
      rw [← or_add m _ hb, Nat.testBit_or, hm q (by simp [hq]) hqw, Nat.testBit_two_pow]
      simp only [Bool.false_or, decide_eq_false_iff_not]
      intro e
      have := bitOf_inj w p q (hp p (by simp)) (hp q (by simp [hq])) (by omega) hqw e
      subst this
      exact d1 hq
theorem rot_inj (n : Nat) : ∀ p q : S42, rot n p = rot n q → p = q := by
  induction n with
  | zero => intro p q h; exact h
  | succ n ih =>
    intro p q h
    have := ih _ _ h
    cases p; cases q
    simp only [S42.mk.injEq] at *
    omega
theorem mvp_inj (m : Nat) (p q : S42) (h : mvp m p = mvp m q) : p = q := by
  unfold mvp at h
  have := rot_inj _ _ _ h
  by_cases c : 4 ≤ m
  · rw [if_pos c, if_pos c] at this
    cases p; cases q
    simp only [S42.mk.injEq] at *
    omega
  · rw [if_neg c, if_neg c] at this
    exact this
theorem shift_inj (x y : Int) (p q : S42) (h : shift x y p = shift x y q) : p = q := by
  unfold shift at h
  cases p; cases q
  simp only [S42.mk.injEq] at *
  omega
theorem cellAt_inj (w i j : Nat) (h : cellAt w i = cellAt w j) : i = j := by
  unfold cellAt at h
  simp only [S42.mk.injEq] at h
  have e1 := Nat.div_add_mod i w
  have e2 := Nat.div_add_mod j w
  have e3 : i % w = j % w := by generalize i % w = a at *; generalize j % w = b at *; omega
  have e4 : i / w = j / w := by generalize i / w = a at *; generalize j / w = b at *; omega
  rw [← e1, ← e2, e3, e4]
theorem cl_nodup (x : Nat) (d : Nat) : ∀ i, (cl x i d).Nodup := by
  induction d with
  | zero => intro i; exact List.nodup_nil
  | succ d ih =>
    intro i
    simp only [cl]
    split
    · refine List.nodup_cons.mpr ⟨fun h => ?_, ih _⟩
      have := ((cl_mem x d (i + 1) i).mp h).1
      omega
    · exact ih _
theorem map_nodup {α β : Type} {f : α → β} (hf : ∀ a b, f a = f b → a = b) : ∀ {l : List α}, l.Nodup → (l.map f).Nodup := by
  intro l
  induction l with
  | nil => intro _; exact List.nodup_nil
  | cons a l ih =>
    intro h
    obtain ⟨h1, h2⟩ := List.nodup_cons.mp h
    refine List.nodup_cons.mpr ⟨fun h => ?_, ih h2⟩
    obtain ⟨b, hb, e⟩ := List.mem_map.mp h
    exact h1 (hf _ _ e ▸ hb)
theorem corner_pos (l : List S42) : ∀ p ∈ corner l, 0 ≤ p.f0 ∧ 0 ≤ p.f1 := by
  intro p hp
  unfold corner at hp
  obtain ⟨q, hq, rfl⟩ := List.mem_map.mp hp
  have := lx_le l q hq
  unfold shift
  simp only
  omega
theorem corner_nodup (l : List S42) (h : l.Nodup) : (corner l).Nodup := map_nodup (shift_inj _ _) h
def cellsOf (W H x : Nat) : List S42 := (cl x 0 (W * H)).map (cellAt W)
theorem cells_nodup (W H x : Nat) : (cellsOf W H x).Nodup := map_nodup (cellAt_inj W) (cl_nodup _ _ _)
theorem cells_len (W H x : Nat) : (cellsOf W H x).length ≤ W * H := by unfold cellsOf; rw [List.length_map]; exact cl_len _ _ _
theorem cells_near (W H x : Nat) (hn : W * H ≤ 36) : ∀ p ∈ cellsOf W H x, near 1000000 p := by
  intro p hp
  unfold cellsOf at hp
  obtain ⟨i, hi, rfl⟩ := List.mem_map.mp hp
  have := ((cl_mem x (W * H) 0 i).mp hi).2.1
  have h1 : i / W ≤ i := Nat.div_le_self _ _
  have h2 : i % W ≤ i := Nat.mod_le _ _
  unfold cellAt near
  simp only
  generalize i / W = a at *
  generalize i % W = b at *
  omega
theorem cells_nil (W H x : Nat) (hx : x < 2 ^ (W * H)) : cellsOf W H x = [] ↔ x = 0 := by
  constructor
  · intro h
    apply Classical.byContradiction
    intro h0
    obtain ⟨i, hi⟩ := Nat.exists_testBit_of_ne_zero h0
    have hlt : i < W * H := by
      apply Classical.byContradiction
      intro hge
      have := Nat.testBit_lt_two_pow (i := i) (Nat.lt_of_lt_of_le hx (Nat.pow_le_pow_right (by decide) (by omega)))
      rw [this] at hi; cases hi
    have : i ∈ cl x 0 (W * H) := (cl_mem _ _ _ _).mpr ⟨by omega, by omega, hi⟩
    have : cellAt W i ∈ cellsOf W H x := List.mem_map.mpr ⟨i, this, rfl⟩
    rw [h] at this; cases this
  · rintro rfl
    unfold cellsOf
    rw [cl_none 0 _ _ (by simp)]; rfl
/-- The mask behind a motion, and whether it fits. -/
def mvMask (W H x m : Nat) : Int × Bool := if x = 0 then (0, true) else putO W H (corner ((cellsOf W H x).map (mvp m))) 0
theorem mvp_zero (p : S42) : mvp 0 p = p := by unfold mvp; simp [rot]
theorem put_spec (W H : Nat) (hW : 1 ≤ W ∧ W ≤ 6) (hH : 1 ≤ H ∧ H ≤ 6) (hn : W * H ≤ 36) (l : List S42) (hl : l.length ≤ 36) (h0 : l ≠ []) (hd : l.Nodup) (hp : ∀ p ∈ l, near 1000000 p) :
    Ev (fun k => spec_l08Put.f k (W : Int) (H : Int) l) (putO W H (corner l) 0) := by
  unfold spec_l08Put.f
  have hl0 : l.length ≠ 0 := fun h => h0 (List.length_eq_zero_iff.mp h)
  refine ev_neg (by omega) (ev_bind (corner_spec l (by omega) h0 hp) ?_)
  have hc : (corner l).length = l.length := by unfold corner; simp
  have := put_spec_l0 W H (by omega) (by omega) hn (corner l) (by omega) (corner_pos l) (corner l) [] 0 rfl (by simp)
  refine ev_eq this ?_
  exact putS_eq W H _ 0 (corner_nodup l hd) (corner_pos l) (fun p _ _ => Nat.zero_testBit _)
theorem move_impl (W H x m : Nat) (hW : 1 ≤ W ∧ W ≤ 6) (hH : 1 ≤ H ∧ H ≤ 6) (hn : W * H ≤ 36) (hx : x < 2 ^ (W * H)) (hm : m < 8) : Ev (fun k => impl_movedMask.f k (W : Int) (H : Int) (x : Int) (m : Int)) (mvMask W H x m) := by
  unfold impl_movedMask.f mvMask
  have hnr := cells_near W H x hn
  have hln := cells_len W H x
  by_cases z : x = 0
  · rw [if_pos z]
    exact ev_pos (by omega) (ev_now _)
  · rw [if_neg z]
    have hne : cellsOf W H x ≠ [] := fun h => z ((cells_nil W H x hx).mp h)
    refine ev_neg (by omega) (ev_bind (impl_cells_ev W H x hW hn hx) (ev_bind (movedOn_impl _ hne (by omega) m hm hnr) ?_))
    have hc : (corner ((cellsOf W H x).map (mvp m))).length = (cellsOf W H x).length := by unfold corner; simp
    exact put_impl_l0 W H (by omega) (by omega) hn _ (by omega) (corner_pos _) _ [] 0 rfl (by simp)
theorem rot_spec (m : Nat) (hm : m < 8) (d : Nat) : ∀ (i : Nat) (p : S42), i + d = m % 4 → near 1000000 p → Ev (fun k => spec_l06Apply.l0 k (m : Int) (i : Int) p.f0 p.f1) ((rot d p).f0, (rot d p).f1) := by
  have e4 : Int.tmod (m : Int) 4 = ((m % 4 : Nat) : Int) := by rw [Int.tmod_eq_emod_of_nonneg (by omega)]; rfl
  induction d with
  | zero =>
    intro i p h hp
    refine ev_shift ?_
    simp only [spec_l06Apply.l0, e4, rot]
    exact ev_neg (by omega) (ev_now _)
  | succ d ih =>
    intro i p h hp
    refine ev_shift ?_
    simp only [spec_l06Apply.l0, e4, rot]
    refine ev_pos (by omega) ?_
    have hp' := hp
    unfold near at hp'
    have e : wrap64 ((i : Int) + 1) = ((i + 1 : Nat) : Int) := by rw [w64 (by omega) (by omega)]; omega
    rw [e, w64 (n := -p.f1) (by omega) (by omega)]
    have := ih (i + 1) ⟨-p.f1, p.f0⟩ (by omega) (by unfold near; simp only; omega)
    exact this
theorem apply_spec (m : Nat) (hm : m < 8) (p : S42) (hp : near 1000000 p) : Ev (fun k => spec_l06Apply.f k p.f0 p.f1 (m : Int)) ((mvp m p).f0, (mvp m p).f1) := by
  unfold spec_l06Apply.f mvp
  have hp' := hp
  unfold near at hp'
  by_cases c : 4 ≤ m
  · rw [if_pos c, w64 (n := -p.f0) (by omega) (by omega)]
    refine ev_pos (by omega) (ev_shift ?_)
    simp only [spec_l06Apply.j0]
    exact rot_spec m hm (m % 4) 0 ⟨-p.f0, p.f1⟩ (by omega) (by unfold near; simp only; omega)
  · rw [if_neg c]
    refine ev_neg (by omega) (ev_shift ?_)
    simp only [spec_l06Apply.j0]
    exact rot_spec m hm (m % 4) 0 p (by omega) hp
theorem move_spec (W H x m : Nat) (hW : 1 ≤ W ∧ W ≤ 6) (hH : 1 ≤ H ∧ H ≤ 6) (hn : W * H ≤ 36) (hx : x < 2 ^ (W * H)) (hm : m < 8) : Ev (fun k => spec_l08Move.f k (W : Int) (H : Int) (x : Int) (m : Int)) (mvMask W H x m) := by
  unfold spec_l08Move.f
  refine ev_bind (spec_cells_ev W (W * H) x hW hn hx) ?_
  have hnr := cells_near W H x hn
  have hln := cells_len W H x
  have loop : ∀ (suf pre : List S42), cellsOf W H x = pre ++ suf → Ev (fun k => spec_l08Move.l0 k (W : Int) (H : Int) (m : Int) (pre.map (mvp m)) (cellsOf W H x) ((cellsOf W H x).length : Int) (pre.length : Int)) (mvMask W H x m) := by
    intro suf
    induction suf with
    | nil =>
      intro pre h
      have h' : cellsOf W H x = pre := by simp [h]
      refine ev_shift ?_
      simp only [spec_l08Move.l0]
      refine ev_neg (by rw [h']; omega) ?_
      rw [← h']
      unfold mvMask
      by_cases z : x = 0
      · rw [if_pos z, (cells_nil W H x hx).mpr z]
        refine ev_bind (a := (0, true)) ?_ (ev_now _)
        unfold spec_l08Put.f
        exact ev_pos (by simp) (ev_now _)
      · rw [if_neg z]
        have hne : cellsOf W H x ≠ [] := fun h => z ((cells_nil W H x hx).mp h)
        refine ev_bind (put_spec W H hW hH hn _ (by simp; omega) (by simpa using hne) (map_nodup (mvp_inj m) (cells_nodup W H x)) ?_) (ev_now _)
        intro q hq
        obtain ⟨z, hz, rfl⟩ := List.mem_map.mp hq
        exact mvp_near _ _ _ (hnr z hz)
    | cons p suf ih =>
      intro pre h
      refine ev_shift ?_
      simp only [spec_l08Move.l0]
      have hlen : (cellsOf W H x).length = pre.length + (suf.length + 1) := by rw [h]; simp
      have ha : rd_T42 (cellsOf W H x) (pre.length : Int) = p := by rw [h]; exact rdp_mid pre suf p
      have hp := hnr p (by rw [h]; simp)
      rw [ha, next_len pre p (by omega)]
      refine ev_pos (by omega) (ev_pos (by omega) (ev_pos (by omega) (ev_bind (apply_spec m hm p hp) (ev_pos (by simp; omega) ?_))))
      have := ih (pre ++ [p]) (by simp [h])
      simpa using this
  exact loop (cellsOf W H x) [] rfl
theorem spec_put_cells (W H x : Nat) (hW : 1 ≤ W ∧ W ≤ 6) (hH : 1 ≤ H ∧ H ≤ 6) (hn : W * H ≤ 36) (hx : x < 2 ^ (W * H)) : Ev (fun k => spec_l08Put.f k (W : Int) (H : Int) (cellsOf W H x)) (mvMask W H x 0) := by
  unfold mvMask
  by_cases z : x = 0
  · rw [if_pos z, (cells_nil W H x hx).mpr z]
    unfold spec_l08Put.f
    exact ev_pos (by simp) (ev_now _)
  · rw [if_neg z]
    have hne : cellsOf W H x ≠ [] := fun h => z ((cells_nil W H x hx).mp h)
    have e : (cellsOf W H x).map (mvp 0) = cellsOf W H x := by
      rw [show (mvp 0 : S42 → S42) = id from funext mvp_zero]; simp
    rw [e]
    have := cells_len W H x
    exact put_spec W H hW hH hn _ (by omega) hne (cells_nodup W H x) (cells_near W H x hn)
theorem impl_corner (W H x : Nat) (hW : 1 ≤ W ∧ W ≤ 6) (hH : 1 ≤ H ∧ H ≤ 6) (hn : W * H ≤ 36) (hx : x < 2 ^ (W * H)) : Ev (fun k => impl_CornerOf.f k (W : Int) (H : Int) (x : Int)) (mvMask W H x 0).1 := by
  unfold impl_CornerOf.f
  exact ev_bind0 (impl_shapeOk _ _ _) (ev_pos (nat_ok W H x hW hH hx) (ev_bind (move_impl W H x 0 hW hH hn hx (by omega)) (ev_now _)))
/-- Does a motion from m on turn x into y's corner? -/
def sameF (W H x : Nat) (c : Int) : Nat → Nat → Bool
  | 0, _ => false
  | d + 1, m => if (mvMask W H x m).2 = true ∧ (mvMask W H x m).1 = c then true else sameF W H x c d (m + 1)
def sameP (w h a b : Int) : Bool :=
  okS w h a && okS w h b && sameF w.toNat h.toNat a.toNat (mvMask w.toNat h.toNat b.toNat 0).1 8 0
theorem impl_same_from (W H x : Nat) (c : Int) (hW : 1 ≤ W ∧ W ≤ 6) (hH : 1 ≤ H ∧ H ≤ 6) (hn : W * H ≤ 36) (hx : x < 2 ^ (W * H)) (d : Nat) : ∀ (m : Nat), m + d = 8 → Ev (fun k => impl_SamePiece.l0 k (W : Int) (H : Int) (x : Int) c (m : Int)) (sameF W H x c d m) := by
  induction d with
  | zero =>
    intro m h
    refine ev_shift ?_
    simp only [impl_SamePiece.l0, sameF]
    exact ev_neg (by omega) (ev_now _)
  | succ d ih =>
    intro m h
    refine ev_shift ?_
    simp only [impl_SamePiece.l0, sameF]
    refine ev_pos (by omega) (ev_bind (move_impl W H x m hW hH hn hx (by omega)) ?_)
    have e : wrap64 ((m : Int) + 1) = ((m + 1 : Nat) : Int) := by rw [w64 (by omega) (by omega)]; omega
    rw [e]
    by_cases c1 : (mvMask W H x m).2 = true
    · refine ev_pos c1 ?_
      by_cases c2 : (mvMask W H x m).1 = c
      · rw [if_pos ⟨c1, c2⟩]; exact ev_pos c2 (ev_now _)
      · rw [if_neg (fun z => c2 z.2)]; exact ev_neg c2 (ih (m + 1) (by omega))
    · rw [if_neg (fun z => c1 z.1)]; exact ev_neg c1 (ih (m + 1) (by omega))
theorem spec_same_from (W H x : Nat) (c : Int) (hW : 1 ≤ W ∧ W ≤ 6) (hH : 1 ≤ H ∧ H ≤ 6) (hn : W * H ≤ 36) (hx : x < 2 ^ (W * H)) (d : Nat) : ∀ (m : Nat), m + d = 8 → Ev (fun k => spec_SamePiece.l0 k (W : Int) (H : Int) (x : Int) c (m : Int)) (sameF W H x c d m) := by
  induction d with
  | zero =>
    intro m h
    refine ev_shift ?_
    simp only [spec_SamePiece.l0, sameF]
    exact ev_neg (by omega) (ev_now _)
  | succ d ih =>
    intro m h
    refine ev_shift ?_
    simp only [spec_SamePiece.l0, sameF]
    refine ev_pos (by omega) (ev_bind (move_spec W H x m hW hH hn hx (by omega)) ?_)
    have e : wrap64 ((m : Int) + 1) = ((m + 1 : Nat) : Int) := by rw [w64 (by omega) (by omega)]; omega
    rw [e]
    by_cases c1 : (mvMask W H x m).2 = true
    · refine ev_pos c1 ?_
      by_cases c2 : (mvMask W H x m).1 = c
      · rw [if_pos ⟨c1, c2⟩]; exact ev_pos c2 (ev_now _)
      · rw [if_neg (fun z => c2 z.2)]; exact ev_neg c2 (ih (m + 1) (by omega))
    · rw [if_neg (fun z => c1 z.1)]; exact ev_neg c1 (ih (m + 1) (by omega))
theorem same_nat (W H x y : Nat) (hW : 1 ≤ W ∧ W ≤ 6) (hH : 1 ≤ H ∧ H ≤ 6) (hx : x < 2 ^ (W * H)) (hy : y < 2 ^ (W * H)) : sameP (W : Int) (H : Int) (x : Int) (y : Int) = sameF W H x (mvMask W H y 0).1 8 0 := by
  unfold sameP
  rw [nat_ok W H x hW hH hx, nat_ok W H y hW hH hy]
  rfl
theorem ok_again {W H : Nat} {m : Int} (c : okS (W : Int) (H : Int) m = true) : ∃ x : Nat, m = x ∧ x < 2 ^ (W * H) := by
  obtain ⟨W', H', x, h1, h2, h3, _, _, h4, _⟩ := ok_nat c
  have e1 : W = W' := by omega
  have e2 : H = H' := by omega
  subst e1 e2
  exact ⟨x, h3, h4⟩
theorem impl_same (w h a b : Int) : Ev (fun k => impl_SamePiece.f k w h a b) (sameP w h a b) := by
  unfold impl_SamePiece.f
  by_cases c : okS w h a = true
  · by_cases d : okS w h b = true
    · obtain ⟨W, H, x, rfl, rfl, rfl, hW, hH, hx, hn⟩ := ok_nat c
      obtain ⟨y, rfl, hy⟩ := ok_again d
      rw [same_nat W H x y hW hH hx hy]
      refine ev_bind0 (impl_shapeOk _ _ _) (ev_pos c (ev_bind0 (impl_shapeOk _ _ _) ?_))
      rw [d]
      refine ev_shift ?_
      simp only [impl_SamePiece.j0]
      refine ev_neg (by simp) (ev_bind (impl_corner W H y hW hH hn hy) ?_)
      exact impl_same_from W H x _ hW hH hn hx 8 0 rfl
    · have e : sameP w h a b = false := by unfold sameP; simp [d]
      rw [e]
      refine ev_bind0 (impl_shapeOk _ _ _) (ev_pos c (ev_bind0 (impl_shapeOk _ _ _) (ev_shift ?_)))
      simp only [impl_SamePiece.j0]
      exact ev_pos (by simp [d]) (ev_now _)
  · have e : sameP w h a b = false := by unfold sameP; simp [c]
    rw [e]
    refine ev_bind0 (impl_shapeOk _ _ _) (ev_neg c (ev_shift ?_))
    simp only [impl_SamePiece.j0]
    exact ev_pos (by simp) (ev_now _)
theorem spec_same (w h a b : Int) : Ev (fun k => spec_SamePiece.f k w h a b) (sameP w h a b) := by
  unfold spec_SamePiece.f
  by_cases c : okS w h a = true
  · by_cases d : okS w h b = true
    · obtain ⟨W, H, x, rfl, rfl, rfl, hW, hH, hx, hn⟩ := ok_nat c
      obtain ⟨y, rfl, hy⟩ := ok_again d
      rw [same_nat W H x y hW hH hx hy]
      refine ev_bind0 (spec_shapeOk _ _ _) (ev_pos c (ev_bind0 (spec_shapeOk _ _ _) ?_))
      rw [d]
      refine ev_shift ?_
      simp only [spec_SamePiece.j0]
      refine ev_neg (by simp) (ev_bind (spec_cells_ev W (W * H) y hW hn hy) (ev_bind (spec_put_cells W H y hW hH hn hy) ?_))
      exact spec_same_from W H x _ hW hH hn hx 8 0 rfl
    · have e : sameP w h a b = false := by unfold sameP; simp [d]
      rw [e]
      refine ev_bind0 (spec_shapeOk _ _ _) (ev_pos c (ev_bind0 (spec_shapeOk _ _ _) (ev_shift ?_)))
      simp only [spec_SamePiece.j0]
      exact ev_pos (by simp [d]) (ev_now _)
  · have e : sameP w h a b = false := by unfold sameP; simp [c]
    rw [e]
    refine ev_bind0 (spec_shapeOk _ _ _) (ev_neg c (ev_shift ?_))
    simp only [spec_SamePiece.j0]
    exact ev_pos (by simp) (ev_now _)
theorem rdb_at (l : List Bool) (i : Nat) : rdOf false l (i : Int) = l.getD i false := by simp [rdOf]
theorem rdi_at (l : List Int) (i : Nat) : rd l (i : Int) = l.getD i 0 := by simp [rd]
def fnd (w h : Int) (used : List Bool) (b : List Int) (x : Int) : Nat → Nat → Nat
  | 0, i => i
  | d + 1, i => if used.getD i false = true then fnd w h used b x d (i + 1) else if sameP w h x (b.getD i 0) = true then i else fnd w h used b x d (i + 1)
theorem fnd_le (w h : Int) (used : List Bool) (b : List Int) (x : Int) (d : Nat) : ∀ i, i ≤ fnd w h used b x d i ∧ fnd w h used b x d i ≤ i + d := by
  induction d with
  | zero => intro i; simp [fnd]
  | succ d ih =>
    intro i
    have := ih (i + 1)
    simp only [fnd]
    split
    · omega
    · split
      · omega
      · omega
def mtch (w h : Int) (b : List Int) : List Int → List Bool → List Int → List Int × Bool
  | [], _, out => (out, true)
  | x :: a, used, out => if fnd w h used b x b.length 0 = b.length then ([], false) else mtch w h b a (used.set (fnd w h used b x b.length 0) true) (out ++ [((fnd w h used b x b.length 0 : Nat) : Int)])
theorem mtch_len (w h : Int) (b : List Int) : ∀ (a : List Int) (used : List Bool) (out : List Int), (mtch w h b a used out).1.length ≤ out.length + a.length := by
  intro a
  induction a with
  | nil => intro used out; simp [mtch]
  | cons x a ih =>
    intro used out
    simp only [mtch]
    split
    · simp
    · have := ih (used.set (fnd w h used b x b.length 0) true) (out ++ [((fnd w h used b x b.length 0 : Nat) : Int)])
      simp at this ⊢; omega
theorem impl_match_l1 (w h : Int) (b : List Int) (used : List Bool) (hu : used.length = b.length) (hb : b.length ≤ 1048576) (out : List Int) (ho : out.length ≤ 1048576) (x : Int) (A : List Int) (n q : Int) (r : List Int × Bool) (d : Nat) : ∀ i, i + d = b.length →
    (fnd w h used b x d i = b.length → r = ([], false)) →
    (fnd w h used b x d i < b.length → Ev (fun k => impl_MatchPieces.l0 k w h b (used.set (fnd w h used b x d i) true) (out ++ [((fnd w h used b x d i : Nat) : Int)]) A n (wrap64 (q + 1))) r) →
    Ev (fun k => impl_MatchPieces.l1 k w h b used out x (i : Int) A n q) r := by
  induction d with
  | zero =>
    intro i h1 h2 h3
    refine ev_shift ?_
    simp only [impl_MatchPieces.l1]
    rw [h2 (by simp only [fnd]; omega)]
    exact ev_neg (by omega) (ev_pos (by omega) (ev_now _))
  | succ d ih =>
    intro i h1 h2 h3
    refine ev_shift ?_
    simp only [impl_MatchPieces.l1]
    have e : wrap64 ((i : Int) + 1) = ((i + 1 : Nat) : Int) := by rw [w64 (by omega) (by omega)]; omega
    rw [e]
    refine ev_pos (by omega) (ev_pos (by omega) (ev_pos (by omega) ?_))
    rw [rdb_at, rdi_at]
    by_cases c : used.getD i false = true
    · refine ev_pos c (ih (i + 1) (by omega) ?_ ?_)
      · intro h; exact h2 (by simp only [fnd]; rw [if_pos c]; exact h)
      · intro h; simp only [fnd] at h3; rw [if_pos c] at h3; exact h3 h
    · refine ev_neg c (ev_bind (impl_same w h x _) ?_)
      by_cases s : sameP w h x (b.getD i 0) = true
      · have ef : fnd w h used b x (d + 1) i = i := by simp only [fnd]; rw [if_neg c, if_pos s]
        rw [ef] at h3
        have e3 : ((i : Int)).toNat = i := by omega
        rw [e3]
        exact ev_pos s (ev_neg (by omega) (ev_pos (by omega) (h3 (by omega))))
      · refine ev_neg s (ih (i + 1) (by omega) ?_ ?_)
        · intro h; exact h2 (by simp only [fnd]; rw [if_neg c, if_neg s]; exact h)
        · intro h; simp only [fnd] at h3; rw [if_neg c, if_neg s] at h3; exact h3 h
theorem impl_match_l0 (w h : Int) (b : List Int) (hb : b.length ≤ 1048576) (A : List Int) (hA : A.length ≤ 1048576) : ∀ (suf pre : List Int) (used : List Bool) (out : List Int), A = pre ++ suf → used.length = b.length → out.length ≤ pre.length →
    Ev (fun k => impl_MatchPieces.l0 k w h b used out A (A.length : Int) (pre.length : Int)) (mtch w h b suf used out) := by
  intro suf
  induction suf with
  | nil =>
    intro pre used out hpre hu ho
    refine ev_shift ?_
    simp only [impl_MatchPieces.l0, mtch]
    exact ev_neg (by subst hpre; simp) (ev_now _)
  | cons x suf ih =>
    intro pre used out hpre hu ho
    refine ev_shift ?_
    simp only [impl_MatchPieces.l0, mtch]
    have hlen : A.length = pre.length + (suf.length + 1) := by subst hpre; simp
    have ha : rd A (pre.length : Int) = x := by subst hpre; exact rd_mid pre suf x
    rw [ha]
    refine ev_pos (by omega) (ev_pos (by omega) (ev_pos (by omega) ?_))
    have en : wrap64 ((pre.length : Int) + 1) = ((pre ++ [x]).length : Int) := by rw [w64 (by omega) (by omega)]; simp
    have := impl_match_l1 w h b used hu hb out (by omega) x A (A.length : Int) (pre.length : Int) (if fnd w h used b x b.length 0 = b.length then ([], false) else mtch w h b suf (used.set (fnd w h used b x b.length 0) true) (out ++ [((fnd w h used b x b.length 0 : Nat) : Int)])) b.length 0 (by omega)
      (fun e => by rw [if_pos e]) (fun e => by
        rw [if_neg (by omega), en]
        exact ih (pre ++ [x]) _ _ (by simp [hpre]) (by simpa using hu) (by simp; omega))
    exact this
theorem spec_match_l1b (w h : Int) (b : List Int) (used : List Bool) (hu : used.length = b.length) (hb : b.length ≤ 1048576) (out : List Int) (ho : out.length ≤ 1048576) (x : Int) (A : List Int) (n q : Int) (r : List Int × Bool) (k0 : Nat) (hk : k0 < b.length) (d : Nat) : ∀ i, i + d = b.length →
    Ev (fun k => spec_MatchPieces.l0 k w h b (used.set k0 true) (out ++ [((k0 : Nat) : Int)]) A n (wrap64 (q + 1))) r →
    Ev (fun k => spec_MatchPieces.l1 k w h b used out x (k0 : Int) A n q b (b.length : Int) (i : Int)) r := by
  induction d with
  | zero =>
    intro i h1 h3
    refine ev_shift ?_
    simp only [spec_MatchPieces.l1]
    have e3 : ((k0 : Int)).toNat = k0 := by omega
    rw [e3]
    exact ev_neg (by omega) (ev_neg (by omega) (ev_pos (by omega) (ev_pos (by omega) (ev_pos (by omega) h3))))
  | succ d ih =>
    intro i h1 h3
    refine ev_shift ?_
    simp only [spec_MatchPieces.l1]
    have e : wrap64 ((i : Int) + 1) = ((i + 1 : Nat) : Int) := by rw [w64 (by omega) (by omega)]; omega
    rw [e]
    exact ev_pos (by omega) (ev_pos (by omega) (ev_pos (by omega) (ev_neg (by omega) (ih (i + 1) (by omega) h3))))
theorem spec_match_l1 (w h : Int) (b : List Int) (used : List Bool) (hu : used.length = b.length) (hb : b.length ≤ 1048576) (out : List Int) (ho : out.length ≤ 1048576) (x : Int) (A : List Int) (n q : Int) (r : List Int × Bool) (d : Nat) : ∀ i, i + d = b.length →
    (fnd w h used b x d i = b.length → r = ([], false)) →
    (fnd w h used b x d i < b.length → Ev (fun k => spec_MatchPieces.l0 k w h b (used.set (fnd w h used b x d i) true) (out ++ [((fnd w h used b x d i : Nat) : Int)]) A n (wrap64 (q + 1))) r) →
    Ev (fun k => spec_MatchPieces.l1 k w h b used out x (-1) A n q b (b.length : Int) (i : Int)) r := by
  induction d with
  | zero =>
    intro i h1 h2 h3
    refine ev_shift ?_
    simp only [spec_MatchPieces.l1]
    rw [h2 (by simp only [fnd]; omega)]
    exact ev_neg (by omega) (ev_pos (by omega) (ev_now _))
  | succ d ih =>
    intro i h1 h2 h3
    refine ev_shift ?_
    simp only [spec_MatchPieces.l1]
    have e : wrap64 ((i : Int) + 1) = ((i + 1 : Nat) : Int) := by rw [w64 (by omega) (by omega)]; omega
    rw [e]
    refine ev_pos (by omega) (ev_pos (by omega) (ev_pos (by omega) (ev_pos (by omega) (ev_pos (by omega) ?_))))
    rw [rdb_at, rdi_at]
    by_cases c : used.getD i false = true
    · refine ev_pos c (ih (i + 1) (by omega) ?_ ?_)
      · intro h; exact h2 (by simp only [fnd]; rw [if_pos c]; exact h)
      · intro h; simp only [fnd] at h3; rw [if_pos c] at h3; exact h3 h
    · refine ev_neg c (ev_bind (spec_same w h x _) ?_)
      by_cases s : sameP w h x (b.getD i 0) = true
      · have ef : fnd w h used b x (d + 1) i = i := by simp only [fnd]; rw [if_neg c, if_pos s]
        rw [ef] at h3
        exact ev_pos s (spec_match_l1b w h b used hu hb out ho x A n q r i (by omega) d (i + 1) (by omega) (h3 (by omega)))
      · refine ev_neg s (ih (i + 1) (by omega) ?_ ?_)
        · intro h; exact h2 (by simp only [fnd]; rw [if_neg c, if_neg s]; exact h)
        · intro h; simp only [fnd] at h3; rw [if_neg c, if_neg s] at h3; exact h3 h
theorem spec_match_l0 (w h : Int) (b : List Int) (hb : b.length ≤ 1048576) (A : List Int) (hA : A.length ≤ 1048576) : ∀ (suf pre : List Int) (used : List Bool) (out : List Int), A = pre ++ suf → used.length = b.length → out.length ≤ pre.length →
    Ev (fun k => spec_MatchPieces.l0 k w h b used out A (A.length : Int) (pre.length : Int)) (mtch w h b suf used out) := by
  intro suf
  induction suf with
  | nil =>
    intro pre used out hpre hu ho
    refine ev_shift ?_
    simp only [spec_MatchPieces.l0, mtch]
    exact ev_neg (by subst hpre; simp) (ev_now _)
  | cons x suf ih =>
    intro pre used out hpre hu ho
    refine ev_shift ?_
    simp only [spec_MatchPieces.l0, mtch]
    have hlen : A.length = pre.length + (suf.length + 1) := by subst hpre; simp
    have ha : rd A (pre.length : Int) = x := by subst hpre; exact rd_mid pre suf x
    rw [ha]
    refine ev_pos (by omega) (ev_pos (by omega) (ev_pos (by omega) ?_))
    have en : wrap64 ((pre.length : Int) + 1) = ((pre ++ [x]).length : Int) := by rw [w64 (by omega) (by omega)]; simp
    have := spec_match_l1 w h b used hu hb out (by omega) x A (A.length : Int) (pre.length : Int) (if fnd w h used b x b.length 0 = b.length then ([], false) else mtch w h b suf (used.set (fnd w h used b x b.length 0) true) (out ++ [((fnd w h used b x b.length 0 : Nat) : Int)])) b.length 0 (by omega)
      (fun e => by rw [if_pos e]) (fun e => by
        rw [if_neg (by omega), en]
        exact ih (pre ++ [x]) _ _ (by simp [hpre]) (by simpa using hu) (by simp; omega))
    exact this
def matchP (w h : Int) (a b : List Int) : List Int × Bool := if a.length = b.length then mtch w h b a (List.replicate b.length false) [] else ([], false)
theorem matchP_len (w h : Int) (a b : List Int) : (matchP w h a b).1.length ≤ a.length := by
  unfold matchP
  split
  · have := mtch_len w h b a (List.replicate b.length false) []; simpa using this
  · simp
theorem impl_match (w h : Int) (a b : List Int) (ha : a.length ≤ 1048576) (hb : b.length ≤ 1048576) : Ev (fun k => impl_MatchPieces.f k w h a b) (matchP w h a b) := by
  unfold impl_MatchPieces.f matchP
  by_cases c : a.length = b.length
  · rw [if_pos c]
    refine ev_pos (by omega) (ev_pos (by omega) (ev_pos (by omega) ?_))
    have := impl_match_l0 w h b hb a ha a [] (List.replicate b.length false) [] rfl (by simp) (by simp)
    simpa using this
  · rw [if_neg c]
    exact ev_neg (by omega) (ev_now _)
theorem spec_match (w h : Int) (a b : List Int) (ha : a.length ≤ 1048576) (hb : b.length ≤ 1048576) : Ev (fun k => spec_MatchPieces.f k w h a b) (matchP w h a b) := by
  unfold spec_MatchPieces.f matchP
  by_cases c : a.length = b.length
  · rw [if_pos c]
    refine ev_pos (by omega) (ev_pos (by omega) (ev_pos (by omega) ?_))
    have := spec_match_l0 w h b hb a ha a [] (List.replicate b.length false) [] rfl (by simp) (by simp)
    simpa using this
  · rw [if_neg c]
    exact ev_neg (by omega) (ev_now _)
theorem rd_at (l : List Int) (i : Nat) : rd l (i : Int) = l.getD i 0 := by simp [rd]
theorem eqIntS_from (l : List Int) (hl : (l.length : Int) ≤ 4611686018427387904) (d : Nat) : ∀ i : Int, 0 ≤ i → (l.length : Int) - i ≤ d → Ev (fun k => laws_eqIntS.l0 k l l i) true := by
  induction d with
  | zero =>
    intro i h0 hd
    refine ev_shift ?_
    simp only [laws_eqIntS.l0]
    exact ev_neg (by omega) (ev_now _)
  | succ d ih =>
    intro i h0 hd
    refine ev_shift ?_
    simp only [laws_eqIntS.l0, if_true]
    by_cases hi : i < (l.length : Int)
    · refine ev_pos hi (ev_pos h0 (ev_pos hi ?_))
      rw [w64 (by omega) (by omega)]
      exact ih _ (by omega) (by omega)
    · exact ev_neg hi (ev_now _)
theorem eqIntS_refl (l : List Int) (hl : (l.length : Int) ≤ 4611686018427387904) : Ev (fun k => laws_eqIntS.f k l l) true := by
  unfold laws_eqIntS.f
  exact ev_pos rfl (eqIntS_from l hl l.length 0 (by omega) (by omega))
theorem toIntS_from (l : List Int) (hl : l.length ≤ 1048576) (d : Nat) : ∀ (x : List Int) (i : Nat), x.length = l.length → l.length - i ≤ d → i ≤ l.length → (∀ j, j < i → x[j]? = l[j]?) →
    Ev (fun k => laws_toIntS.l0 k l x i) l := by
  induction d with
  | zero =>
    intro x i hx hd hi hm
    refine ev_shift ?_
    simp only [laws_toIntS.l0]
    have e : x = l := by
      apply List.ext_getElem?
      intro j
      by_cases hj : j < i
      · exact hm j hj
      · rw [List.getElem?_eq_none (by omega), List.getElem?_eq_none (by omega)]
    exact ev_neg (by omega) (ev_eq (ev_now _) e)
  | succ d ih =>
    intro x i hx hd hi hm
    refine ev_shift ?_
    simp only [laws_toIntS.l0]
    by_cases h : i < l.length
    · refine ev_pos (by omega) (ev_pos (by omega) (ev_pos (by omega) ?_))
      rw [w64 (by omega) (by omega)]
      have e2 : ((i : Int) + 1) = ((i + 1 : Nat) : Int) := by omega
      have e3 : ((i : Int)).toNat = i := by omega
      rw [e2, e3, rd_at]
      refine ih _ (i + 1) (by simpa using hx) (by omega) (by omega) ?_
      intro j hj
      rw [List.getElem?_set]
      by_cases e : i = j
      · subst e
        rw [if_pos rfl, if_pos (by omega), List.getD_eq_getElem?_getD, List.getElem?_eq_getElem h]
        rfl
      · rw [if_neg e]; exact hm j (by omega)
    · have e : x = l := by
        apply List.ext_getElem?
        intro j
        by_cases hj : j < i
        · exact hm j hj
        · rw [List.getElem?_eq_none (by omega), List.getElem?_eq_none (by omega)]
      exact ev_neg (by omega) (ev_eq (ev_now _) e)
theorem toIntS_ev (l : List Int) (hl : l.length ≤ 1048576) : Ev (fun k => laws_toIntS.f k l) l := by
  unfold laws_toIntS.f
  refine ev_pos (by omega) (ev_pos (by omega) ?_)
  exact toIntS_from l hl l.length _ 0 (by simp) (by omega) (by omega) (fun j hj => by omega)
theorem held_tail (l : List Int) (hl : l.length ≤ 1048576) :
    Ev (fun k => (laws_toIntS.f k l).bind fun t1 => ((laws_eqIntS.f k l t1).bind fun t2 => (if t2 = true then (some true) else (some false)))) true :=
  ev_bind (toIntS_ev l hl) (ev_bind (eqIntS_refl l (by omega)) (ev_pos rfl (ev_now _)))
theorem markIntS_from (n : Nat) (hn : (n : Int) ≤ 4611686018427387904) (d : Nat) : ∀ (l : List Int) (i : Nat), l.length = n → n - i ≤ d → i ≤ n → (∀ j, j < i → l.getD j 0 = 1 + j) →
    ∃ l', Ev (fun k => laws_markIntS.l0 k l (1 + i) i) (1 + (n : Int), l') ∧ l'.length = n ∧ ∀ j, j < n → l'.getD j 0 = 1 + j := by
  induction d with
  | zero =>
    intro l i hl hd hi hm
    refine ⟨l, ev_shift ?_, hl, fun j hj => hm j (by omega)⟩
    simp only [laws_markIntS.l0]
    obtain rfl : i = n := by omega
    exact ev_neg (by omega) (ev_now _)
  | succ d ih =>
    intro l i hl hd hi hm
    by_cases h : i < n
    · obtain ⟨l', hl', h1, h2⟩ := ih (l.set i (1 + i)) (i + 1) (by simpa using hl) (by omega) (by omega) (by
        intro j hj
        rw [List.getD_eq_getElem?_getD, List.getElem?_set]
        by_cases e : i = j
        · subst e; rw [if_pos rfl, if_pos (by omega)]; rfl
        · rw [if_neg e, ← List.getD_eq_getElem?_getD]; exact hm j (by omega))
      refine ⟨l', ev_shift ?_, h1, h2⟩
      simp only [laws_markIntS.l0]
      refine ev_pos (by omega) (ev_pos (by omega) ?_)
      rw [w64 (by omega) (by omega), w64 (by omega) (by omega)]
      have e1 : (1 + (i : Int) + 1) = 1 + ((i + 1 : Nat) : Int) := by omega
      have e2 : ((i : Int) + 1) = ((i + 1 : Nat) : Int) := by omega
      have e3 : ((i : Int)).toNat = i := by omega
      rw [e1, e2, e3]; exact hl'
    · obtain rfl : i = n := by omega
      refine ⟨l, ev_shift ?_, hl, fun j hj => hm j (by omega)⟩
      simp only [laws_markIntS.l0]
      exact ev_neg (by omega) (ev_now _)
theorem heldIntS_from (n : Nat) (hn : (n : Int) ≤ 4611686018427387904) (l : List Int) (hl : l.length = n) (hm : ∀ j, j < n → l.getD j 0 = 1 + j) (d : Nat) : ∀ i : Nat, i ≤ n → n - i ≤ d →
    Ev (fun k => laws_heldIntS.l0 k l (1 + i) i) (1 + (n : Int)) := by
  induction d with
  | zero =>
    intro i hi hd
    refine ev_shift ?_
    simp only [laws_heldIntS.l0]
    obtain rfl : i = n := by omega
    exact ev_neg (by omega) (ev_now _)
  | succ d ih =>
    intro i hi hd
    refine ev_shift ?_
    simp only [laws_heldIntS.l0]
    by_cases h : i < n
    · refine ev_pos (by omega) (ev_pos (by omega) (ev_pos (by rw [rd_at]; exact hm i h) ?_))
      rw [w64 (by omega) (by omega), w64 (by omega) (by omega)]
      have e1 : (1 + (i : Int) + 1) = 1 + ((i + 1 : Nat) : Int) := by omega
      have e2 : ((i : Int) + 1) = ((i + 1 : Nat) : Int) := by omega
      rw [e1, e2]; exact ih (i + 1) (by omega) (by omega)
    · obtain rfl : i = n := by omega
      exact ev_neg (by omega) (ev_now _)
theorem markIntS_ev (l : List Int) (hl : (l.length : Int) ≤ 4611686018427387904) :
    ∃ l', Ev (fun k => laws_markIntS.f k l 1) (1 + (l.length : Int), l') ∧ Ev (fun k => laws_heldIntS.f k l' 1) (1 + (l.length : Int)) := by
  obtain ⟨l', h1, h2, h3⟩ := markIntS_from l.length hl l.length l 0 rfl (by omega) (by omega) (fun j hj => by omega)
  exact ⟨l', h1, heldIntS_from l.length hl l' h2 h3 l.length 0 (by omega) (by omega)⟩
theorem markIntS_any_from (n : Nat) (hn : (n : Int) ≤ 1000000000000) (c : Int) (hc : 0 ≤ c) (hc' : c ≤ 1000000000000) (d : Nat) : ∀ (l : List Int) (i : Nat), l.length = n → n - i ≤ d → i ≤ n →
    ∃ l', Ev (fun k => laws_markIntS.l0 k l (c + i) i) (c + (n : Int), l') := by
  induction d with
  | zero =>
    intro l i hl hd hi
    refine ⟨l, ev_shift ?_⟩
    simp only [laws_markIntS.l0]
    obtain rfl : i = n := by omega
    exact ev_neg (by omega) (ev_now _)
  | succ d ih =>
    intro l i hl hd hi
    by_cases h : i < n
    · obtain ⟨l', hl'⟩ := ih (l.set i (c + i)) (i + 1) (by simpa using hl) (by omega) (by omega)
      refine ⟨l', ev_shift ?_⟩
      simp only [laws_markIntS.l0]
      refine ev_pos (by omega) (ev_pos (by omega) ?_)
      rw [w64 (by omega) (by omega), w64 (by omega) (by omega)]
      have e1 : (c + (i : Int) + 1) = c + ((i + 1 : Nat) : Int) := by omega
      have e2 : ((i : Int) + 1) = ((i + 1 : Nat) : Int) := by omega
      have e3 : ((i : Int)).toNat = i := by omega
      rw [e1, e2, e3]; exact hl'
    · obtain rfl : i = n := by omega
      refine ⟨l, ev_shift ?_⟩
      simp only [laws_markIntS.l0]
      exact ev_neg (by omega) (ev_now _)
theorem markIntS_any (l : List Int) (hl : (l.length : Int) ≤ 1000000000000) (c : Int) (hc : 0 ≤ c) (hc' : c ≤ 1000000000000) : ∃ l', Ev (fun k => laws_markIntS.f k l c) (c + (l.length : Int), l') := by
  obtain ⟨l', h⟩ := markIntS_any_from l.length hl c hc hc' l.length l 0 rfl (by omega) (by omega)
  refine ⟨l', ?_⟩
  unfold laws_markIntS.f
  simpa using h
theorem FnExactMatchPieces : laws_FnExactMatchPieces.Pure := by
  intro w h a b _ _ _ _ _ _ _ _
  apply ev_rounds
  unfold laws_FnExactMatchPieces.f
  by_cases ha : (a.length : Int) > 1048576
  · exact ev_pos ha (ev_now _)
  by_cases hb : (b.length : Int) > 1048576
  · exact ev_neg ha (ev_pos hb (ev_now _))
  have ta := toIntS_ev a (by omega)
  have tb := toIntS_ev b (by omega)
  have hs := spec_match w h a b (by omega) (by omega)
  have hi := impl_match w h a b (by omega) (by omega)
  have hl := matchP_len w h a b
  have er := eqIntS_refl (matchP w h a b).1 (by omega)
  have ea := eqIntS_refl a (by omega)
  have eb := eqIntS_refl b (by omega)
  refine ev_neg ha (ev_neg hb (ev_bind ta (ev_bind tb (ev_bind hs (ev_bind ta (ev_bind tb (ev_bind hi (ev_bind er (ev_pos rfl (ev_shift ?_))))))))))
  simp only [laws_FnExactMatchPieces.j0]
  obtain ⟨a', ma⟩ := markIntS_any a (by omega) 1 (by omega) (by omega)
  obtain ⟨b', mb⟩ := markIntS_any b (by omega) (1 + (a.length : Int)) (by omega) (by omega)
  refine ev_neg (by simp) (ev_bind ta (ev_bind ea (ev_pos rfl (ev_bind tb (ev_bind eb (ev_pos rfl (ev_bind ma (ev_bind mb (ev_neg (by omega) (ev_bind er (ev_pos rfl (ev_shift ?_))))))))))))
  simp only [laws_FnExactMatchPieces.j1]
  obtain ⟨r', mr, hr⟩ := markIntS_ev (matchP w h a b).1 (by omega)
  refine ev_neg (by simp) (ev_bind mr (ev_bind hr (ev_neg (by omega) (ev_pos rfl (ev_bind ta (ev_bind tb (ev_bind hi (ev_bind er (ev_pos rfl (ev_shift ?_))))))))))
  simp only [laws_FnExactMatchPieces.j2]
  exact ev_neg (by simp) (ev_bind hr (ev_neg (by omega) (ev_pos rfl (ev_now _))))

end Go.Proofs.Ytdeocimieeodnaa.Pure
