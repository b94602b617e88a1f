/- PartsOf of the program and of the reference answer alike, for all numbers. -/
import Derived.Test.YtdeocimieeodnaaDoorQFnExactPartsOfx3
namespace Go.Proofs.YtdeocimieeodnaaDoor.Pure
open Go.RowKit Go.Proofs.YtdeocimieeodnaaDoor.QFnExactPartsOf Go.Proofs.YtdeocimieeodnaaDoorW.PrintWords Go.Proofs.YtdeocimieeodnaaDoorW.PrintLast Go.Proofs.YtdeocimieeodnaaDoorW.PrintMore
set_option linter.unusedVariables false
set_option linter.unusedSimpArgs false

/- Eventually: with enough rounds the answer is r. -/
theorem ev_now {α : Type} (r : α) : Ev (fun _ => some r) r := Ev.now r
theorem ev_shift {α : Type} {g : Nat → Option α} {r : α} (h : Ev (fun k => g (k + 1)) r) : Ev g r := by
  obtain ⟨K, hK⟩ := h
  exact ⟨K + 1, fun k hk => by
    obtain ⟨m, rfl⟩ : ∃ m, k = m + 1 := ⟨k - 1, by omega⟩
    exact hK m (by omega)⟩
theorem ev_bind {α β : Type} {g : Nat → Option α} {f : Nat → α → Option β} {a : α} {r : β} (h : Ev g a) (k : Ev (fun n => f n a) r) : Ev (fun n => (g n).bind (f n)) r := Ev.bind h k
theorem ev_bind0 {α β : Type} {o : Option α} {f : Nat → α → Option β} {a : α} {r : β} (h : o = some a) (k : Ev (fun n => f n a) r) : Ev (fun n => o.bind (f n)) r := by
  subst h; exact k
theorem ev_pos {α : Type} {A B : Nat → Option α} {r : α} {c : Prop} [Decidable c] (h : c) (k : Ev A r) : Ev (fun n => if c then A n else B n) r := by
  simpa only [if_pos h] using k
theorem ev_neg {α : Type} {A B : Nat → Option α} {r : α} {c : Prop} [Decidable c] (h : ¬ c) (k : Ev B r) : Ev (fun n => if c then A n else B n) r := by
  simpa only [if_neg h] using k
theorem ev_done {α : Type} {o : Option α} {r : α} (h : o = some r) : Ev (fun _ => o) r := ⟨0, fun _ _ => h⟩
theorem ev_eq {α : Type} {g : Nat → Option α} {r r' : α} (h : Ev g r) (e : r = r') : Ev g r' := e ▸ h
theorem ev_rounds {α : Type} {g : Nat → Option α} {r : α} (h : Ev g r) : ∃ k, g k = some r := Ev.rounds h
theorem ev_uniq {α : Type} {g : Nat → Option α} {r r' : α} (h : Ev g r) (h' : Ev g r') : r = r' := by
  obtain ⟨K, hK⟩ := h
  obtain ⟨K', hK'⟩ := h'
  have a := hK (max K K') (Nat.le_max_left _ _)
  have b := hK' (max K K') (Nat.le_max_right _ _)
  rw [a] at b
  exact Option.some.inj b
theorem wf64 {n : Int} (h : (Lit.int .i64 n).wf = true) : -9223372036854775808 ≤ n ∧ n ≤ 9223372036854775807 := by
  have a : IntKind.i64.min = -9223372036854775808 := rfl
  have b : IntKind.i64.max = 9223372036854775807 := rfl
  simp [Lit.wf] at h
  omega
theorem w64 {n : Int} (h : -9223372036854775808 ≤ n) (h' : n ≤ 9223372036854775807) : wrap64 n = n := by
  unfold wrap64; omega
theorem wadd (a b : Nat) (h : a + b < 1000000000000) : wrap64 ((a : Int) + (b : Int)) = ((a + b : Nat) : Int) := by
  rw [w64 (by omega) (by omega)]; omega
theorem wsucc (a : Nat) (h : a < 1000000000000) : wrap64 ((a : Int) + 1) = ((a + 1 : Nat) : Int) := by
  rw [w64 (by omega) (by omega)]; omega
theorem wsmall (n : Int) (h : -1000000000000 ≤ n ∧ n ≤ 1000000000000) : wrap64 n = n := w64 (by omega) (by omega)
theorem within_eq (a b c : Int) : impl_within.f a b c = some (decide (b ≤ a ∧ a ≤ c)) := by
  unfold impl_within.f; split <;> simp <;> omega
theorem in_eq (a b c : Int) : spec_l01In.f a b c = some (decide (b ≤ a ∧ a ≤ c)) := by
  unfold spec_l01In.f; split <;> simp <;> omega
theorem mx_eq (a b : Int) : mx a b = max a b := by unfold mx; split <;> omega
theorem mn_eq (a b : Int) : mn a b = min a b := by unfold mn; split <;> omega
/-- A table of w columns and h rows has from 1 to 6 of each; a mask has its bits below w * h. -/
def isT (w h : Int) : Bool := decide (1 ≤ w ∧ w ≤ 6 ∧ 1 ≤ h ∧ h ≤ 6)
def okS (w h m : Int) : Bool := isT w h && decide (0 ≤ m ∧ m < 2 ^ (w * h).toNat)
theorem isT_iff {w h : Int} : isT w h = true ↔ 1 ≤ w ∧ w ≤ 6 ∧ 1 ≤ h ∧ h ≤ 6 := by simp [isT]
theorem okS_iff {w h m : Int} : okS w h m = true ↔ (1 ≤ w ∧ w ≤ 6 ∧ 1 ≤ h ∧ h ≤ 6) ∧ 0 ≤ m ∧ m < 2 ^ (w * h).toNat := by simp [okS, isT]
theorem table_all {p : Int → Int → Bool} (H : (List.range 6).all (fun w => (List.range 6).all fun h => p ((w : Int) + 1) ((h : Int) + 1)) = true) (w h : Int) (hw : isT w h = true) : p w h = true := by
  obtain ⟨a, b, c, d⟩ := isT_iff.mp hw
  have e1 : w = (((w - 1).toNat : Nat) : Int) + 1 := by omega
  have e2 : h = (((h - 1).toNat : Nat) : Int) + 1 := by omega
  have := List.all_eq_true.mp (List.all_eq_true.mp H (w - 1).toNat (by simp; omega)) (h - 1).toNat (by simp; omega)
  rw [e1, e2]; exact this
theorem shl_table (w h : Int) (hw : isT w h = true) : (0 ≤ wrap64 (w * h) ∧ wrap64 (w * h) = w * h ∧ w * h ≤ 36 ∧ shl .i64 1 (wrap64 (w * h)) = 2 ^ (w * h).toNat) ∧ (2 : Int) ^ (w * h).toNat ≤ 68719476736 ∧ 2 ≤ (2 : Int) ^ (w * h).toNat := by
  have := table_all (p := fun w h => decide ((0 ≤ wrap64 (w * h) ∧ wrap64 (w * h) = w * h ∧ w * h ≤ 36 ∧ shl .i64 1 (wrap64 (w * h)) = 2 ^ (w * h).toNat) ∧ (2 : Int) ^ (w * h).toNat ≤ 68719476736 ∧ 2 ≤ (2 : Int) ^ (w * h).toNat)) (by decide +kernel) w h hw
  exact of_decide_eq_true this
theorem spec_shapeOk (w h m : Int) : spec_ShapeOk.f w h m = some (okS w h m) := by
  unfold spec_ShapeOk.f
  simp only [in_eq, Option.bind_some]
  by_cases c : isT w h = true
  · obtain ⟨⟨a1, a2, a3, a4⟩, a5, a6⟩ := shl_table w h c
    have c' := isT_iff.mp c
    rw [if_pos (by simp; omega), if_pos (by simp; omega), if_pos a1, a4, w64 (by omega) (by omega)]
    unfold okS
    rw [c, Bool.true_and]
    exact congrArg some (decide_eq_decide.mpr (by omega))
  · have e : okS w h m = false := by unfold okS; simp [c]
    have c' : ¬ (1 ≤ w ∧ w ≤ 6 ∧ 1 ≤ h ∧ h ≤ 6) := fun x => c (isT_iff.mpr x)
    rw [e]
    by_cases d : 1 ≤ w ∧ w ≤ 6
    · rw [if_pos (decide_eq_true d), if_neg (fun x => c' (by have := of_decide_eq_true x; omega))]
    · rw [if_neg (fun x => d (of_decide_eq_true x))]
theorem impl_isTable (w h : Int) : impl_isTable.f w h = some (isT w h) := by
  unfold impl_isTable.f
  simp only [within_eq, Option.bind_some]
  by_cases d : 1 ≤ w ∧ w ≤ 6
  · rw [if_pos (decide_eq_true d)]
    exact congrArg some (decide_eq_decide.mpr (by omega))
  · rw [if_neg (fun x => d (of_decide_eq_true x))]
    exact congrArg some (decide_eq_false (by omega)).symm
theorem impl_shapeOk (w h m : Int) : impl_ShapeOk.f w h m = some (okS w h m) := by
  unfold impl_ShapeOk.f
  simp only [impl_isTable, Option.bind_some]
  by_cases c : isT w h = true
  · obtain ⟨⟨a1, a2, a3, a4⟩, a5, a6⟩ := shl_table w h c
    rw [if_pos c, if_pos a1, a4]
    unfold okS
    rw [c]
    rw [Bool.true_and]
    by_cases g : m ≥ 0
    · rw [if_pos g]
      exact congrArg some (decide_eq_decide.mpr (by omega))
    · rw [if_neg g]
      exact congrArg some (decide_eq_false (by omega)).symm
  · rw [if_neg c]; unfold okS; simp [c]
theorem and_u64 (a b : Nat) (ha : a < 2 ^ 64) (hb : b < 2 ^ 64) : Go.bits .and .u64 (a : Int) (b : Int) = ((a &&& b : Nat) : Int) :=
  (Go.bits_nat .u64 64 (by decide) (fun n h0 h1 => by unfold Go.IntKind.wrap; simp [Go.IntKind.bits, Go.IntKind.signed]; omega) a b ha hb).1
theorem and_i64 (a b : Nat) (ha : a < 2 ^ 63) (hb : b < 2 ^ 63) : Go.bits .and .i64 (a : Int) (b : Int) = ((a &&& b : Nat) : Int) :=
  (Go.bits_nat .i64 63 (by decide) (fun n h0 h1 => by rw [Go.IntKind.wrap_i64]; omega) a b ha hb).1
theorem or_i64 (a b : Nat) (ha : a < 2 ^ 63) (hb : b < 2 ^ 63) : Go.bits .or .i64 (a : Int) (b : Int) = ((a ||| b : Nat) : Int) :=
  (Go.bits_nat .i64 63 (by decide) (fun n h0 h1 => by rw [Go.IntKind.wrap_i64]; omega) a b ha hb).2
theorem u64_nat (a : Nat) (ha : a < 2 ^ 64) : IntKind.u64.wrap (a : Int) = (a : Int) := by
  unfold Go.IntKind.wrap; simp [Go.IntKind.bits, Go.IntKind.signed]; omega
theorem and1 (x : Nat) : x &&& 1 = x % 2 := Nat.and_one_is_mod x
theorem shr_nat (x i : Nat) (hi : i ≤ 64) : shr .i64 (x : Int) (i : Int) = ((x / 2 ^ i : Nat) : Int) := by
  unfold shr
  rw [show min ((i : Int)).toNat (IntKind.bits .i64) = i from by
    have : IntKind.bits .i64 = 64 := rfl
    omega]
  rw [Int.natCast_ediv, Int.natCast_pow]; rfl
theorem bit_at (x i : Nat) (hx : x < 2 ^ 62) (hi : i ≤ 64) : Go.bits .and .i64 (shr .i64 (x : Int) (i : Int)) 1 = ((x / 2 ^ i % 2 : Nat) : Int) := by
  rw [shr_nat x i hi]
  have h := and_i64 (x / 2 ^ i) 1 (Nat.lt_of_le_of_lt (Nat.div_le_self _ _) (by omega)) (by decide)
  rw [and1] at h
  exact h
theorem testBit_div (x i : Nat) : x.testBit i = decide (x / 2 ^ i % 2 = 1) := Nat.testBit_eq_decide_div_mod_eq
theorem bit_eq1 (x i : Nat) (hx : x < 2 ^ 62) (hi : i ≤ 64) : (Go.bits .and .i64 (shr .i64 (x : Int) (i : Int)) 1 = 1) ↔ x.testBit i = true := by
  rw [bit_at x i hx hi, testBit_div, decide_eq_true_iff]
  generalize x / 2 ^ i % 2 = q
  omega
theorem bit_eq0 (x i : Nat) (hx : x < 2 ^ 62) (hi : i ≤ 64) : (Go.bits .and .i64 (shr .i64 (x : Int) (i : Int)) 1 = 0) ↔ x.testBit i = false := by
  rw [bit_at x i hx hi, testBit_div, decide_eq_false_iff_not]
  have : x / 2 ^ i % 2 < 2 := Nat.mod_lt _ (by decide)
  generalize x / 2 ^ i % 2 = q at *
  omega
theorem shl_nat (i : Nat) (hi : i ≤ 62) : shl .i64 1 (i : Int) = ((2 ^ i : Nat) : Int) := by
  unfold shl
  rw [show min ((i : Int)).toNat (IntKind.bits .i64) = i from by
    have : IntKind.bits .i64 = 64 := rfl
    omega]
  have h : 2 ^ i ≤ 2 ^ 62 := Nat.pow_le_pow_right (by decide) hi
  have e : (1 : Int) * 2 ^ i = ((2 ^ i : Nat) : Int) := by rw [Int.natCast_pow]; simp
  rw [e, IntKind.wrap_i64]
  generalize 2 ^ i = q at *
  omega
theorem has_eq (x i : Nat) (hx : x < 2 ^ 62) (hi : i ≤ 64) : impl_has.f (x : Int) (i : Int) = some (x.testBit i) := by
  unfold impl_has.f
  rw [if_pos (by omega)]
  have h := bit_eq1 x i hx hi
  cases e : x.testBit i
  · rw [e] at h
    simp at h
    exact congrArg some (by simpa using h)
  · rw [e] at h
    simp at h
    exact congrArg some (by simpa using h)
theorem zero_test (x i : Nat) (h : x / 2 ^ i = 0) (j : Nat) (hj : i ≤ j) : x.testBit j = false := by
  apply Nat.testBit_lt_two_pow
  have : x < 2 ^ i := by
    rcases Nat.div_eq_zero_iff.mp h with h | h
    · have := Nat.two_pow_pos i; omega
    · exact h
  exact Nat.lt_of_lt_of_le this (Nat.pow_le_pow_right (by decide) hj)
/-- The cells of a mask from i on, d of them. -/
def cl (x : Nat) : Nat → Nat → List Nat
  | _, 0 => []
  | i, d + 1 => if x.testBit i then i :: cl x (i + 1) d else cl x (i + 1) d
theorem cl_none (x : Nat) (d : Nat) : ∀ i, x / 2 ^ i = 0 → cl x i d = [] := by
  induction d with
  | zero => intro i _; rfl
  | succ d ih =>
    intro i h
    simp only [cl]
    rw [zero_test x i h i (Nat.le_refl _)]
    simp
    apply ih
    rw [Nat.pow_succ, ← Nat.div_div_eq_div_mul, h]
theorem cl_len (x : Nat) (d : Nat) : ∀ i, (cl x i d).length ≤ d := by
  induction d with
  | zero => intro i; simp [cl]
  | succ d ih => intro i; have := ih (i + 1); simp only [cl]; split <;> simp <;> omega
theorem cl_mem (x : Nat) (d : Nat) : ∀ i j, j ∈ cl x i d ↔ (i ≤ j ∧ j < i + d ∧ x.testBit j = true) := by
  induction d with
  | zero => intro i j; simp [cl]; omega
  | succ d ih =>
    intro i j
    simp only [cl]
    by_cases h : x.testBit i = true
    · rw [if_pos h, List.mem_cons, ih]
      constructor
      · rintro (rfl | ⟨a, b, c⟩)
        · exact ⟨by omega, by omega, h⟩
        · exact ⟨by omega, by omega, c⟩
      · rintro ⟨a, b, c⟩
        by_cases e : j = i
        · exact .inl e
        · exact .inr ⟨by omega, by omega, c⟩
    · rw [if_neg h, ih]
      constructor
      · rintro ⟨a, b, c⟩; exact ⟨by omega, by omega, c⟩
      · rintro ⟨a, b, c⟩
        refine ⟨?_, by omega, c⟩
        rcases Nat.lt_or_ge i j with g | g
        · omega
        · obtain rfl : i = j := by omega
          exact absurd c h
theorem tdivmod (i w : Nat) (hw : 0 < w) (hi : i < 100) (hww : w ≤ 100) : Int.tmod (i : Int) (w : Int) = ((i % w : Nat) : Int) ∧ wrap64 (Int.tdiv (i : Int) (w : Int)) = ((i / w : Nat) : Int) := by
  have e1 : Int.tmod (i : Int) (w : Int) = ((i % w : Nat) : Int) := by rw [Int.tmod_eq_emod_of_nonneg (by omega)]; rfl
  have e2 : Int.tdiv (i : Int) (w : Int) = ((i / w : Nat) : Int) := by rw [Int.tdiv_eq_ediv_of_nonneg (by omega)]; rfl
  refine ⟨e1, ?_⟩
  have : i / w ≤ i := Nat.div_le_self _ _
  rw [e2]
  generalize i / w = q at *
  exact w64 (by omega) (by omega)
theorem ok_nat {w h m : Int} (c : okS w h m = true) : ∃ W H x : Nat, w = W ∧ h = H ∧ m = x ∧ (1 ≤ W ∧ W ≤ 6) ∧ (1 ≤ H ∧ H ≤ 6) ∧ x < 2 ^ (W * H) ∧ W * H ≤ 36 := by
  obtain ⟨hT, h0, h1⟩ := okS_iff.mp c
  refine ⟨w.toNat, h.toNat, m.toNat, by omega, by omega, by omega, by omega, by omega, ?_, ?_⟩
  · have e : m = (m.toNat : Int) := by omega
    have e2 : (w * h).toNat = w.toNat * h.toNat := by
      rw [Int.toNat_mul (by omega) (by omega)]
    rw [e, e2] at h1
    exact_mod_cast h1
  · have a : w.toNat ≤ 6 := by omega
    have b : h.toNat ≤ 6 := by omega
    calc w.toNat * h.toNat ≤ 6 * 6 := Nat.mul_le_mul a b
      _ = 36 := rfl
theorem nat_ok (W H x : Nat) (hW : 1 ≤ W ∧ W ≤ 6) (hH : 1 ≤ H ∧ H ≤ 6) (hx : x < 2 ^ (W * H)) : okS (W : Int) (H : Int) (x : Int) = true := by
  rw [okS_iff]
  refine ⟨by omega, by omega, ?_⟩
  have e2 : ((W : Int) * (H : Int)).toNat = W * H := by rw [← Int.natCast_mul]; exact Int.toNat_natCast _
  rw [e2]; exact_mod_cast hx
def nb (W H i : Nat) : List Nat :=
  (if 0 < i / W then [i - W] else []) ++ (if 0 < i % W then [i - 1] else []) ++ (if i % W + 1 < W then [i + 1] else []) ++ (if i / W + 1 < H then [i + W] else [])
def asInts (l : List Nat) : List Int := l.map (fun (j : Nat) => (j : Int))
theorem nb_ev (W H i : Nat) (hW : 1 ≤ W ∧ W ≤ 6) (hH : 1 ≤ H ∧ H ≤ 6) (hi : i < W * H) (hn : W * H ≤ 36) : Ev (fun k => impl_neighbors.f k (W : Int) (H : Int) (i : Int)) (asInts (nb W H i)) := by
  have hi36 : i < 36 := by omega
  have wW : wrap64 ((W : Int) - 1) = (W : Int) - 1 := w64 (by omega) (by omega)
  have wH : wrap64 ((H : Int) - 1) = (H : Int) - 1 := w64 (by omega) (by omega)
  have wi : wrap64 ((i : Int) - 1) = (i : Int) - 1 := w64 (by omega) (by omega)
  have wi' : wrap64 ((i : Int) + 1) = (i : Int) + 1 := w64 (by omega) (by omega)
  have wiw : wrap64 ((i : Int) - W) = (i : Int) - W := w64 (by omega) (by omega)
  have wiw' : wrap64 ((i : Int) + W) = (i : Int) + W := w64 (by omega) (by omega)
  unfold impl_neighbors.f
  obtain ⟨t1, t2⟩ := tdivmod i W (by omega) (by omega) (by omega)
  have hm : i % W < W := Nat.mod_lt _ (by omega)
  have hd : i / W * W + i % W = i := Nat.div_add_mod' i W
  have hdl : i / W < H := (Nat.div_lt_iff_lt_mul (by omega)).mpr (by rw [Nat.mul_comm]; exact hi)
  have hwd : 0 < i / W → W ≤ i := fun h => by
    have : 1 * W ≤ i / W * W := Nat.mul_le_mul_right W h
    omega
  rw [t1, t2, wiw]
  unfold nb
  generalize i / W = Y at *
  generalize i % W = X at *
  have last : ∀ out : List Int, out.length ≤ 10 → Ev (fun k => impl_neighbors.j1 k (W : Int) (H : Int) (i : Int) (X : Int) (Y : Int) out) (out ++ asInts ((if X + 1 < W then [i + 1] else []) ++ (if Y + 1 < H then [i + W] else []))) := by
    intro out ho
    refine ev_shift ?_
    simp only [impl_neighbors.j1, wW, wH, wi', wiw']
    by_cases c : X + 1 < W
    · rw [if_pos c]
      refine ev_pos (by omega) (ev_pos (by omega) (ev_bind0 rfl ?_))
      by_cases d : Y + 1 < H
      · rw [if_pos d]
        exact ev_pos (by omega) (ev_pos (by simp; omega) (ev_eq (ev_now _) (by simp [asInts])))
      · rw [if_neg d]
        exact ev_neg (by omega) (ev_eq (ev_now _) (by simp [asInts]))
    · rw [if_neg c]
      refine ev_neg (by omega) ?_
      by_cases d : Y + 1 < H
      · rw [if_pos d]
        exact ev_pos (by omega) (ev_pos (by omega) (ev_eq (ev_now _) (by simp [asInts])))
      · rw [if_neg d]
        exact ev_neg (by omega) (ev_eq (ev_now _) (by simp [asInts]))
  have mid : ∀ out : List Int, out.length ≤ 5 → Ev (fun k => impl_neighbors.j0 k (W : Int) (H : Int) (i : Int) (X : Int) (Y : Int) out) (out ++ asInts ((if 0 < X then [i - 1] else []) ++ ((if X + 1 < W then [i + 1] else []) ++ (if Y + 1 < H then [i + W] else [])))) := by
    intro out ho
    refine ev_shift ?_
    simp only [impl_neighbors.j0, wi]
    by_cases c : 0 < X
    · rw [if_pos c]
      refine ev_pos (by omega) (ev_pos (by omega) (ev_eq (last _ (by simp; omega)) ?_))
      simp [asInts]; omega
    · rw [if_neg c]
      exact ev_neg (by omega) (ev_eq (last _ (by omega)) (by simp [asInts]))
  refine ev_neg (by omega) (ev_bind0 rfl ?_)
  by_cases c : 0 < Y
  · rw [if_pos c]
    refine ev_pos (by omega) (ev_pos (by simp) (ev_eq (mid _ (by simp)) ?_))
    have := hwd c
    simp [asInts]; omega
  · rw [if_neg c]
    exact ev_neg (by omega) (ev_eq (mid _ (by simp)) (by simp [asInts]))
theorem nb_mem (W H i j : Nat) : j ∈ nb W H i ↔ (0 < i / W ∧ j = i - W) ∨ (0 < i % W ∧ j = i - 1) ∨ (i % W + 1 < W ∧ j = i + 1) ∨ (i / W + 1 < H ∧ j = i + W) := by
  unfold nb
  simp only [List.mem_append]
  have e : ∀ (c : Prop) [Decidable c] (z : Nat), j ∈ (if c then [z] else []) ↔ c ∧ j = z := by
    intro c _ z
    by_cases h : c
    · rw [if_pos h]; simp [h]
    · rw [if_neg h]; simp [h]
  rw [e, e, e, e]
  simp only [or_assoc]
theorem nb_in (W H i j : Nat) (hW : 0 < W) (hi : i < W * H) (hj : j ∈ nb W H i) : j < W * H := by
  have hd : i / W * W + i % W = i := Nat.div_add_mod' i W
  have hm : i % W < W := Nat.mod_lt _ hW
  rcases (nb_mem W H i j).mp hj with ⟨_, rfl⟩ | ⟨_, rfl⟩ | ⟨c, rfl⟩ | ⟨c, rfl⟩
  · omega
  · omega
  · have h1 : i / W < H := (Nat.div_lt_iff_lt_mul hW).mpr (by rw [Nat.mul_comm]; exact hi)
    have h2 : (i / W + 1) * W ≤ H * W := Nat.mul_le_mul_right W h1
    rw [Nat.succ_mul, Nat.mul_comm H W] at h2
    generalize i / W * W = q at *
    generalize i % W = r at *
    omega
  · have h2 : (i / W + 1 + 1) * W ≤ H * W := Nat.mul_le_mul_right W c
    rw [Nat.succ_mul, Nat.succ_mul, Nat.mul_comm H W] at h2
    generalize i / W * W = q at *
    generalize i % W = r at *
    omega
/-- What hangs together with s in x. -/
inductive Conn (W H x s : Nat) : Nat → Prop
  | base : Conn W H x s s
  | step {i j : Nat} : Conn W H x s i → j ∈ nb W H i → x.testBit j = true → Conn W H x s j
def isComp (W H x s M : Nat) : Prop := ∀ i, M.testBit i = true ↔ Conn W H x s i
theorem isComp_uniq {W H x s M N : Nat} (h : isComp W H x s M) (h' : isComp W H x s N) : M = N := by
  apply Nat.eq_of_testBit_eq
  intro i
  have a := h i
  have b := h' i
  rw [Bool.eq_iff_iff, a, b]
theorem closed_comp {W H x s M : Nat} (hs : M.testBit s = true) (hc : ∀ i, M.testBit i = true → Conn W H x s i) (hcl : ∀ i, M.testBit i = true → ∀ j ∈ nb W H i, x.testBit j = true → M.testBit j = true) : isComp W H x s M := by
  intro i
  refine ⟨hc i, fun h => ?_⟩
  induction h with
  | base => exact hs
  | step _ hj hx ih => exact hcl _ ih _ hj hx
/-- How many of the first n bits are not set. -/
def zr : Nat → Nat → Nat
  | 0, _ => 0
  | n + 1, o => (if o.testBit n = true then 0 else 1) + zr n o
theorem zr_congr (n : Nat) (a b : Nat) (h : ∀ i, i < n → a.testBit i = b.testBit i) : zr n a = zr n b := by
  induction n with
  | zero => rfl
  | succ n ih =>
    simp only [zr]
    rw [h n (by omega), ih (fun i hi => h i (by omega))]
theorem testBit_or_pow (o j i : Nat) : (o ||| 2 ^ j).testBit i = (o.testBit i || decide (j = i)) := by
  rw [Nat.testBit_or, Nat.testBit_two_pow]
theorem zr_set (n : Nat) : ∀ (o j : Nat), j < n → o.testBit j = false → zr n (o ||| 2 ^ j) + 1 = zr n o := by
  induction n with
  | zero => intro o j h; omega
  | succ n ih =>
    intro o j h hj
    simp only [zr]
    rw [testBit_or_pow]
    by_cases e : j = n
    · subst e
      rw [hj, zr_congr j (o ||| 2 ^ j) o (fun i hi => by
        rw [testBit_or_pow, decide_eq_false (by omega), Bool.or_false])]
      simp
      omega
    · have := ih o j (by omega) hj
      rw [decide_eq_false e, Bool.or_false]
      omega
theorem zr_mono (n : Nat) (a b : Nat) (h : ∀ i, a.testBit i = true → b.testBit i = true) : zr n b ≤ zr n a := by
  induction n with
  | zero => exact Nat.le_refl _
  | succ n ih =>
    simp only [zr]
    by_cases c : a.testBit n = true
    · rw [if_pos c, if_pos (h n c)]; omega
    · rw [if_neg c]
      split <;> omega
theorem zr_eq (n : Nat) (a b : Nat) (h : ∀ i, a.testBit i = true → b.testBit i = true) (e : zr n b = zr n a) : ∀ i, i < n → a.testBit i = b.testBit i := by
  induction n with
  | zero => intro i hi; omega
  | succ n ih =>
    have hm := zr_mono n a b h
    simp only [zr] at e
    intro i hi
    by_cases c : a.testBit n = true
    · have d := h n c
      rw [if_pos c, if_pos d] at e
      by_cases g : i = n
      · rw [g, c, d]
      · exact ih (by omega) i (by omega)
    · rw [if_neg c] at e
      by_cases d : b.testBit n = true
      · rw [if_pos d] at e; omega
      · rw [if_neg d] at e
        by_cases g : i = n
        · rw [g]; simp at c d; rw [c, d]
        · exact ih (by omega) i (by omega)
theorem high_false {n o i : Nat} (h : o < 2 ^ n) (hi : n ≤ i) : o.testBit i = false :=
  Nat.testBit_lt_two_pow (Nat.lt_of_lt_of_le h (Nat.pow_le_pow_right (by decide) hi))
theorem bit_lt {n o i : Nat} (h : o < 2 ^ n) (hi : o.testBit i = true) : i < n := by
  apply Classical.byContradiction
  intro c
  rw [high_false h (by omega)] at hi
  cases hi
theorem zr_le (n o : Nat) : zr n o ≤ n := by
  induction n with
  | zero => exact Nat.le_refl _
  | succ n ih => simp only [zr]; split <;> omega
theorem rd_mid (pre suf : List Int) (a : Int) : rd (pre ++ a :: suf) (pre.length : Int) = a := by
  simp [rd, List.getD_eq_getElem?_getD]
theorem next_len {α : Type} (pre : List α) (a : α) (h : pre.length < 1000000) : wrap64 ((pre.length : Int) + 1) = ((pre ++ [a]).length : Int) := by
  rw [w64 (by omega) (by omega)]; simp
/-- What holds of the program's walk through a part: the cells so far, and those still to be looked at. -/
structure Inv (W H x s out : Nat) (Q : List Nat) : Prop where
  start : out.testBit s = true
  conn : ∀ i, out.testBit i = true → Conn W H x s i
  todo : ∀ q ∈ Q, out.testBit q = true
  closed : ∀ i, out.testBit i = true → i ∉ Q → ∀ j ∈ nb W H i, x.testBit j = true → out.testBit j = true
  low : out < 2 ^ (W * H)
theorem part_l1 (W H x s : Nat) (hW : 1 ≤ W ∧ W ≤ 6) (hH : 1 ≤ H ∧ H ≤ 6) (hn : W * H ≤ 36) (hx : x < 2 ^ (W * H)) (now : Nat) (hnow : now < W * H) (m : Nat) (L : List Nat) (hL : L = nb W H now) (hLl : L.length ≤ 4)
    (K : ∀ out Q, Inv W H x s out Q → 2 * zr (W * H) out + Q.length ≤ m → ∃ M : Nat, Ev (fun k => impl_part.l0 k (W : Int) (H : Int) (x : Int) (out : Int) (asInts Q)) (M : Int) ∧ isComp W H x s M ∧ M < 2 ^ (W * H)) :
    ∀ (suf pre : List Nat) (out : Nat) (Q : List Nat), L = pre ++ suf → out.testBit s = true → (∀ i, out.testBit i = true → Conn W H x s i) → (∀ q ∈ Q, out.testBit q = true) → out.testBit now = true →
      (∀ i, out.testBit i = true → i ∉ Q → i ≠ now → ∀ j ∈ nb W H i, x.testBit j = true → out.testBit j = true) → (∀ j ∈ pre, x.testBit j = true → out.testBit j = true) → out < 2 ^ (W * H) →
      2 * zr (W * H) out + Q.length ≤ m → m ≤ 1000 →
    ∃ M : Nat, Ev (fun k => impl_part.l1 k (W : Int) (H : Int) (x : Int) (out : Int) (asInts Q) (asInts L) ((asInts L).length : Int) (pre.length : Int)) (M : Int) ∧ isComp W H x s M ∧ M < 2 ^ (W * H) := by
  have hx62 : x < 2 ^ 62 := Nat.lt_of_lt_of_le hx (Nat.pow_le_pow_right (by decide) (by omega))
  have hp36 : 2 ^ (W * H) ≤ 2 ^ 36 := Nat.pow_le_pow_right (by decide) hn
  intro suf
  induction suf with
  | nil =>
    intro pre out Q hp h1 h2 h3 h4 h5 h6 h7 h8 h9
    obtain rfl : L = pre := by simp [hp]
    obtain ⟨M, hM, hM2⟩ := K out Q ⟨h1, h2, h3, fun i hi hq j hj hxj => by
      by_cases e : i = now
      · subst e; exact h6 j (hL ▸ hj) hxj
      · exact h5 i hi hq e j hj hxj, h7⟩ h8
    refine ⟨M, ev_shift ?_, hM2⟩
    simp only [impl_part.l1]
    exact ev_neg (by simp [asInts]) hM
  | cons a suf ih =>
    intro pre out Q hp h1 h2 h3 h4 h5 h6 h7 h8 h9
    have ha : a ∈ nb W H now := by rw [← hL, hp]; simp
    have han : a < W * H := nb_in W H now a (by omega) hnow ha
    have hlenN : pre.length < L.length := by rw [hp]; simp
    have hlen : (pre.length : Int) < ((asInts L).length : Int) := by unfold asInts; rw [List.length_map]; omega
    have c6 : pre.length < 1000000 := by omega
    have ho62 : out < 2 ^ 62 := by omega
    have c7 : (asInts Q).length < 17592186044416 := by unfold asInts; rw [List.length_map]; omega
    have a64 : a ≤ 62 := by omega
    have a65 : a ≤ 64 := by omega
    have hra : rd (asInts L) (pre.length : Int) = (a : Int) := by
      have := rd_mid (asInts pre) (asInts suf) (a : Int)
      rw [hp]
      simpa [asInts] using this
    have pl : 2 ^ a < 2 ^ 63 := Nat.pow_lt_pow_right (by decide) (by omega)
    have pl2 : 2 ^ a < 2 ^ (W * H) := Nat.pow_lt_pow_right (by decide) han
    have ho63 : out < 2 ^ 63 := by omega
    have step : ∀ (out' : Nat) (Q' : List Nat), (∀ i, out.testBit i = true → out'.testBit i = true) → (∀ i, out'.testBit i = true → Conn W H x s i) → (∀ q ∈ Q', out'.testBit q = true) → (∀ i, out'.testBit i = true → i ∉ Q' → out.testBit i = true ∧ i ∉ Q) → (x.testBit a = true → out'.testBit a = true) → out' < 2 ^ (W * H) → 2 * zr (W * H) out' + Q'.length ≤ m →
        ∃ M : Nat, Ev (fun k => impl_part.l1 k (W : Int) (H : Int) (x : Int) (out' : Int) (asInts Q') (asInts L) ((asInts L).length : Int) ((pre ++ [a]).length : Int)) (M : Int) ∧ isComp W H x s M ∧ M < 2 ^ (W * H) := by
      intro out' Q' g1 g2 g3 g4 g5 g6 g7
      refine ih (pre ++ [a]) out' Q' (by simp [hp]) (g1 s h1) g2 g3 (g1 now h4) (fun i hi hq he j hj hxj => ?_) (fun j hj hxj => ?_) g6 g7 h9
      · obtain ⟨y1, y2⟩ := g4 i hi hq
        exact g1 j (h5 i y1 y2 he j hj hxj)
      · rcases List.mem_append.mp hj with hj | hj
        · exact g1 j (h6 j hj hxj)
        · obtain rfl : j = a := by simpa using hj
          exact g5 hxj
    by_cases b : x.testBit a = true
    · by_cases d : out.testBit a = true
      · obtain ⟨M, hM, hM2⟩ := step out Q (fun _ h => h) h2 h3 (fun i hi hq => ⟨hi, hq⟩) (fun _ => d) h7 h8
        refine ⟨M, ev_shift ?_, hM2⟩
        simp only [impl_part.l1]
        rw [hra, next_len pre a c6]
        exact ev_pos hlen (ev_pos (Int.natCast_nonneg _) (ev_pos hlen (ev_bind0 (has_eq x a hx62 a65) (ev_pos b (ev_bind0 (has_eq out a ho62 a65) (ev_pos d hM))))))
      · have df : out.testBit a = false := by simpa using d
        have hor : out ||| 2 ^ a < 2 ^ (W * H) := Nat.or_lt_two_pow h7 pl2
        have hz := zr_set (W * H) out a han df
        obtain ⟨M, hM, hM2⟩ := step (out ||| 2 ^ a) (Q ++ [a]) (fun i h => by rw [testBit_or_pow, h]; rfl) (fun i hi => by
            rw [testBit_or_pow, Bool.or_eq_true] at hi
            rcases hi with hi | hi
            · exact h2 i hi
            · obtain rfl : a = i := of_decide_eq_true hi
              exact Conn.step (h2 now h4) ha b)
          (fun q hq => by
            rw [testBit_or_pow, Bool.or_eq_true]
            rcases List.mem_append.mp hq with hq | hq
            · exact .inl (h3 q hq)
            · exact .inr (decide_eq_true (List.mem_singleton.mp hq).symm))
          (fun i hi hq => by
            rw [testBit_or_pow, Bool.or_eq_true] at hi
            rcases hi with hi | hi
            · exact ⟨hi, fun z => hq (by simp [z])⟩
            · obtain rfl : a = i := of_decide_eq_true hi
              exact absurd (by simp) hq)
          (fun _ => by rw [testBit_or_pow]; simp) hor (by
            have : (Q ++ [a]).length = Q.length + 1 := by simp
            omega)
        refine ⟨M, ev_shift ?_, hM2⟩
        simp only [impl_part.l1]
        rw [hra, next_len pre a c6, shl_nat a a64, or_i64 out (2 ^ a) ho63 pl]
        have eq : asInts Q ++ [(a : Int)] = asInts (Q ++ [a]) := by simp [asInts]
        rw [eq]
        exact ev_pos hlen (ev_pos (Int.natCast_nonneg _) (ev_pos hlen (ev_bind0 (has_eq x a hx62 a65) (ev_pos b (ev_bind0 (has_eq out a ho62 a65) (ev_neg d (ev_pos (Int.natCast_nonneg _) (ev_pos c7 hM))))))))
    · obtain ⟨M, hM, hM2⟩ := step out Q (fun _ h => h) h2 h3 (fun i hi hq => ⟨hi, hq⟩) (fun z => absurd z b) h7 h8
      refine ⟨M, ev_shift ?_, hM2⟩
      simp only [impl_part.l1]
      rw [hra, next_len pre a c6]
      exact ev_pos hlen (ev_pos (Int.natCast_nonneg _) (ev_pos hlen (ev_bind0 (has_eq x a hx62 a65) (ev_neg b hM))))
theorem part_l0 (W H x s : Nat) (hW : 1 ≤ W ∧ W ≤ 6) (hH : 1 ≤ H ∧ H ≤ 6) (hn : W * H ≤ 36) (hx : x < 2 ^ (W * H)) (m : Nat) (hm : m ≤ 1000) : ∀ (out : Nat) (Q : List Nat), Inv W H x s out Q → 2 * zr (W * H) out + Q.length ≤ m →
    ∃ M : Nat, Ev (fun k => impl_part.l0 k (W : Int) (H : Int) (x : Int) (out : Int) (asInts Q)) (M : Int) ∧ isComp W H x s M ∧ M < 2 ^ (W * H) := by
  induction m with
  | zero =>
    intro out Q hI hq
    have hQ : Q = [] := List.length_eq_zero_iff.mp (by omega)
    subst hQ
    refine ⟨out, ev_shift ?_, closed_comp hI.start hI.conn (fun i hi j hj hxj => hI.closed i hi (by simp) j hj hxj), hI.low⟩
    simp only [impl_part.l0]
    exact ev_neg (by simp [asInts]) (ev_now _)
  | succ m ih =>
    intro out Q hI hq
    match Q, hI, hq with
    | [], hI, hq =>
      refine ⟨out, ev_shift ?_, closed_comp hI.start hI.conn (fun i hi j hj hxj => hI.closed i hi (by simp) j hj hxj), hI.low⟩
      simp only [impl_part.l0]
      exact ev_neg (by simp [asInts]) (ev_now _)
    | q :: Q, hI, hq =>
      have hqn : q < W * H := bit_lt hI.low (hI.todo q (by simp))
      have hnl : (nb W H q).length ≤ 4 := by
        unfold nb; simp only [List.length_append]; repeat' split
        all_goals simp
      obtain ⟨M, hM, hM2⟩ := part_l1 W H x s hW hH hn hx q hqn m (nb W H q) rfl hnl (fun out' Q' hI' hq' => ih (by omega) out' Q' hI' hq') (nb W H q) [] out Q rfl hI.start hI.conn (fun z hz => hI.todo z (by simp [hz])) (hI.todo q (by simp))
        (fun i hi hiq hne j hj hxj => hI.closed i hi (by simp [hiq, hne]) j hj hxj) (fun j hj => by cases hj) hI.low (by simp only [List.length_cons] at hq; omega) (by omega)
      refine ⟨M, ev_shift ?_, hM2⟩
      simp only [impl_part.l0]
      have e0 : rd (asInts (q :: Q)) 0 = (q : Int) := by simp [rd, asInts]
      have e1 : (asInts (q :: Q)).drop ((1 : Int)).toNat = asInts Q := by simp [asInts]
      have l0 : ((asInts (q :: Q)).length : Int) > 0 := by simp [asInts]
      have l1 : 1 ≤ ((asInts (q :: Q)).length : Int) := by omega
      rw [e0, e1]
      exact ev_pos l0 (ev_pos l0 (ev_pos l1 (ev_bind (nb_ev W H q hW hH hqn hn) hM)))
theorem part_ev (W H x s : Nat) (hW : 1 ≤ W ∧ W ≤ 6) (hH : 1 ≤ H ∧ H ≤ 6) (hn : W * H ≤ 36) (hx : x < 2 ^ (W * H)) (hs : s < W * H) : ∃ M : Nat, Ev (fun k => impl_part.f k (W : Int) (H : Int) (x : Int) (s : Int)) (M : Int) ∧ isComp W H x s M ∧ M < 2 ^ (W * H) := by
  have ht : ∀ i, (2 ^ s).testBit i = true → i = s := fun i hi => by
    rw [Nat.testBit_two_pow] at hi
    exact (of_decide_eq_true hi).symm
  have h0 : (2 ^ s).testBit s = true := by rw [Nat.testBit_two_pow]; simp
  have hz := zr_le (W * H) (2 ^ s)
  obtain ⟨M, hM, hM2⟩ := part_l0 W H x s hW hH hn hx 100 (by omega) (2 ^ s) [s] ⟨h0, fun i hi => (ht i hi) ▸ Conn.base, fun q hq => (List.mem_singleton.mp hq) ▸ h0, fun i hi hq => absurd (List.mem_singleton.mpr (ht i hi)) hq, Nat.pow_lt_pow_right (by decide) hs⟩ (by simp; omega)
  refine ⟨M, ?_, hM2⟩
  unfold impl_part.f
  have := shl_nat s (by omega)
  rw [this]
  exact ev_pos (Int.natCast_nonneg _) hM
/-- What the reference's look around has come to behind c cells. -/
def around (W H p c out : Nat) : Prop := ∀ j, out.testBit j = true ↔ p.testBit j = true ∨ ∃ i, i < c ∧ p.testBit i = true ∧ j ∈ nb W H i
theorem around_skip {W H p c out : Nat} (h : around W H p c out) (hc : p.testBit c = false) : around W H p (c + 1) out := by
  intro j
  rw [h j]
  constructor
  · rintro (a | ⟨i, hi, b, d⟩)
    · exact .inl a
    · exact .inr ⟨i, by omega, b, d⟩
  · rintro (a | ⟨i, hi, b, d⟩)
    · exact .inl a
    · by_cases e : i = c
      · subst e; rw [hc] at b; cases b
      · exact .inr ⟨i, by omega, b, d⟩
theorem around_take {W H p c out out' : Nat} (h : around W H p c out) (hc : p.testBit c = true) (ho : ∀ j, out'.testBit j = true ↔ out.testBit j = true ∨ j ∈ nb W H c) : around W H p (c + 1) out' := by
  intro j
  rw [ho j, h j]
  constructor
  · rintro ((a | ⟨i, hi, b, d⟩) | a)
    · exact .inl a
    · exact .inr ⟨i, by omega, b, d⟩
    · exact .inr ⟨c, by omega, hc, a⟩
  · rintro (a | ⟨i, hi, b, d⟩)
    · exact .inl (.inl a)
    · by_cases e : i = c
      · subst e; exact .inr d
      · exact .inl (.inr ⟨i, by omega, b, d⟩)
/-- One more bit, if a condition holds. -/
def orIf (c : Prop) [Decidable c] (o j : Nat) : Nat := if c then o ||| 2 ^ j else o
theorem orIf_bit (c : Prop) [Decidable c] (o j i : Nat) : (orIf c o j).testBit i = true ↔ o.testBit i = true ∨ (c ∧ i = j) := by
  unfold orIf
  by_cases h : c
  · rw [if_pos h, testBit_or_pow, Bool.or_eq_true, decide_eq_true_iff]
    constructor
    · rintro (a | a)
      · exact .inl a
      · exact .inr ⟨h, a.symm⟩
    · rintro (a | a)
      · exact .inl a
      · exact .inr a.2.symm
  · rw [if_neg h]; simp [h]
theorem orIf_low (c : Prop) [Decidable c] {n o j : Nat} (h : o < 2 ^ n) (hj : c → j < n) : orIf c o j < 2 ^ n := by
  unfold orIf
  by_cases d : c
  · rw [if_pos d]; exact Nat.or_lt_two_pow h (Nat.pow_lt_pow_right (by decide) (hj d))
  · rw [if_neg d]; exact h
theorem near_row (W H p : Nat) (hW : 1 ≤ W ∧ W ≤ 6) (hH : 1 ≤ H ∧ H ≤ 6) (hn : W * H ≤ 36) (hp : p < 2 ^ (W * H)) (Y : Nat) (hY : Y < H) (Fin : Nat → Prop)
    (K : ∀ out, around W H p (Y * W + W) out → out < 2 ^ (W * H) → ∃ M : Nat, Ev (fun k => spec_l08Near.l0 k (W : Int) (H : Int) (p : Int) (out : Int) ((Y + 1 : Nat) : Int)) (M : Int) ∧ Fin M) (d : Nat) :
    ∀ (X out : Nat), X + d = W → around W H p (Y * W + X) out → out < 2 ^ (W * H) → ∃ M : Nat, Ev (fun k => spec_l08Near.l1 k (W : Int) (H : Int) (p : Int) (out : Int) (Y : Int) (X : Int)) (M : Int) ∧ Fin M := by
  have hp62 : p < 2 ^ 62 := Nat.lt_of_lt_of_le hp (Nat.pow_le_pow_right (by decide) (by omega))
  have hp36 : 2 ^ (W * H) ≤ 2 ^ 36 := Nat.pow_le_pow_right (by decide) hn
  have hyw : (Y + 1) * W ≤ H * W := Nat.mul_le_mul_right W hY
  have hyw2 : Y * W + W ≤ W * H := by rw [Nat.succ_mul, Nat.mul_comm H W] at hyw; exact hyw
  have hYi : (Y : Int) * (W : Int) = ((Y * W : Nat) : Int) := (Int.natCast_mul Y W).symm
  induction d with
  | zero =>
    intro X out h1 h2 h3
    have e : X = W := by omega
    subst e
    obtain ⟨M, hM, hF⟩ := K out h2 h3
    refine ⟨M, ev_shift ?_, hF⟩
    simp only [spec_l08Near.l1]
    rw [wsucc Y (by omega)]
    exact ev_neg (by omega) hM
  | succ d ih =>
    intro X out h1 h2 h3
    have b1 : Y * W + X < W * H := by omega
    have b2 : Y * W < 1000000000000 := by omega
    have b3 : Y * W + X < 1000000000000 := by omega
    have b4 : X < 1000000000000 := by omega
    have b5 : Y < 1000000000000 := by omega
    have b6 : (X : Int) < (W : Int) := by omega
    have b7 : X + 1 + d = W := by omega
    have b8 : Y * W + X ≤ 64 := by omega
    have wy : Aside0 (wrap64 ((Y : Int) * (W : Int)) = ((Y * W : Nat) : Int)) := ⟨by rw [hYi]; exact wsmall _ (by omega)⟩
    have hdiv : (Y * W + X) / W = Y := by rw [Nat.mul_comm, Nat.mul_add_div (by omega), Nat.div_eq_of_lt (by omega)]; rfl
    have hmod : (Y * W + X) % W = X := by rw [Nat.mul_comm, Nat.mul_add_mod]; exact Nat.mod_eq_of_lt (by omega)
    have open_ : ∀ (r : Int), Ev (fun n => if Go.bits BinOp.and IntKind.i64 (shr IntKind.i64 (p : Int) ((Y * W + X : Nat) : Int)) 1 = 0 then spec_l08Near.l1 n (W : Int) (H : Int) (p : Int) (out : Int) (Y : Int) ((X + 1 : Nat) : Int) else if (X : Int) > 0 then if 0 ≤ wrap64 (((Y * W + X : Nat) : Int) - 1) then spec_l08Near.j2 n (W : Int) (H : Int) (p : Int) (Go.bits BinOp.or IntKind.i64 (out : Int) (shl IntKind.i64 1 (wrap64 (((Y * W + X : Nat) : Int) - 1)))) (Y : Int) (X : Int) else none else spec_l08Near.j2 n (W : Int) (H : Int) (p : Int) (out : Int) (Y : Int) (X : Int)) r →
        Ev (fun k => spec_l08Near.l1 k (W : Int) (H : Int) (p : Int) (out : Int) (Y : Int) (X : Int)) r := by
      intro r hr
      refine ev_shift ?_
      simp only [spec_l08Near.l1]
      rw [wy.out, wadd (Y * W) X b3, wsucc X b4]
      exact ev_pos b6 (ev_pos (Int.natCast_nonneg _) hr)
    generalize hc : Y * W + X = c at *
    cases hb : p.testBit c
    · obtain ⟨M, hM, hF⟩ := ih (X + 1) out b7 (by
        have e : Y * W + (X + 1) = c + 1 := by omega
        rw [e]; exact around_skip h2 hb) h3
      exact ⟨M, open_ _ (ev_pos ((bit_eq0 p c hp62 b8).mpr hb) hM), hF⟩
    · have hnz : ¬ (Go.bits BinOp.and IntKind.i64 (shr IntKind.i64 (p : Int) (c : Int)) 1 = 0) := fun z => by rw [(bit_eq0 p c hp62 b8).mp z] at hb; cases hb
      have o1 := orIf_low (0 < X) (j := c - 1) h3 (by omega)
      have o2 := orIf_low (X + 1 < W) (j := c + 1) o1 (by omega)
      have hcw : 0 < Y → W ≤ c := fun h => by
        have : 1 * W ≤ Y * W := Nat.mul_le_mul_right W h
        omega
      have hcw2 : Y + 1 < H → c + W < W * H := fun h => by
        have : (Y + 1 + 1) * W ≤ H * W := Nat.mul_le_mul_right W h
        rw [Nat.succ_mul, Nat.succ_mul, Nat.mul_comm H W] at this
        omega
      have o3 := orIf_low (0 < Y) (j := c - W) o2 (by omega)
      have o4 := orIf_low (Y + 1 < H) (j := c + W) o3 hcw2
      obtain ⟨M, fin, hF⟩ := ih (X + 1) (orIf (Y + 1 < H) (orIf (0 < Y) (orIf (X + 1 < W) (orIf (0 < X) out (c - 1)) (c + 1)) (c - W)) (c + W)) b7 (by
        have e : Y * W + (X + 1) = c + 1 := by omega
        rw [e]
        refine around_take h2 hb (fun j => ?_)
        rw [orIf_bit, orIf_bit, orIf_bit, orIf_bit, nb_mem, hdiv, hmod]
        constructor
        · rintro ((((a | a) | a) | a) | a)
          · exact .inl a
          · exact .inr (.inr (.inl a))
          · exact .inr (.inr (.inr (.inl a)))
          · exact .inr (.inl a)
          · exact .inr (.inr (.inr (.inr a)))
        · rintro (a | a | a | a | a)
          · exact .inl (.inl (.inl (.inl a)))
          · exact .inl (.inr a)
          · exact .inl (.inl (.inl (.inr a)))
          · exact .inl (.inl (.inr a))
          · exact .inr a) o4
      have q1 : Aside0 (wrap64 ((c : Int) + 1) = ((c + 1 : Nat) : Int)) := ⟨wsucc c (by omega)⟩
      have q2 : Aside0 (wrap64 ((c : Int) + (W : Int)) = ((c + W : Nat) : Int)) := ⟨wadd c W (by omega)⟩
      have s3 : ∀ o : Nat, o < 2 ^ (W * H) → Ev (fun k => spec_l08Near.l1 k (W : Int) (H : Int) (p : Int) ((orIf (Y + 1 < H) (orIf (0 < Y) o (c - W)) (c + W) : Nat) : Int) (Y : Int) ((X + 1 : Nat) : Int)) (M : Int) →
          Ev (fun k => spec_l08Near.j3 k (W : Int) (H : Int) (p : Int) (o : Int) (Y : Int) (X : Int)) (M : Int) := by
        intro o ho hk
        have lo : ∀ j, j < 60 → 2 ^ j < 2 ^ 63 := fun j hj => Nat.pow_lt_pow_right (by decide) (by omega)
        refine ev_shift ?_
        simp only [spec_l08Near.j3]
        rw [wy.out, wadd (Y * W) X (by omega), hc, wsucc X b4, wsucc Y b5, q2.out]
        unfold orIf at hk
        by_cases c1 : 0 < Y
        · have q3 : Aside0 (wrap64 ((c : Int) - (W : Int)) = ((c - W : Nat) : Int)) := ⟨by
            have := hcw c1
            rw [wsmall _ (by omega)]; omega⟩
          rw [q3.out, shl_nat (c - W) (by omega), or_i64 o (2 ^ (c - W)) (by omega) (lo _ (by omega))]
          rw [if_pos c1] at hk
          refine ev_pos (by omega) (ev_pos (Int.natCast_nonneg _) ?_)
          by_cases c2 : Y + 1 < H
          · rw [if_pos c2] at hk
            have hor : o ||| 2 ^ (c - W) < 2 ^ 63 := Nat.or_lt_two_pow (by omega) (lo _ (by omega))
            rw [shl_nat (c + W) (by omega), or_i64 _ (2 ^ (c + W)) hor (lo _ (by omega))]
            exact ev_pos (by omega) (ev_pos (Int.natCast_nonneg _) hk)
          · rw [if_neg c2] at hk
            exact ev_neg (by omega) hk
        · rw [if_neg c1] at hk
          refine ev_neg (by omega) ?_
          by_cases c2 : Y + 1 < H
          · rw [if_pos c2] at hk
            rw [shl_nat (c + W) (by omega), or_i64 o (2 ^ (c + W)) (by omega) (lo _ (by omega))]
            exact ev_pos (by omega) (ev_pos (Int.natCast_nonneg _) hk)
          · rw [if_neg c2] at hk
            exact ev_neg (by omega) hk
      have s2 : ∀ o : Nat, o < 2 ^ (W * H) → Ev (fun k => spec_l08Near.j3 k (W : Int) (H : Int) (p : Int) ((orIf (X + 1 < W) o (c + 1) : Nat) : Int) (Y : Int) (X : Int)) (M : Int) →
          Ev (fun k => spec_l08Near.j2 k (W : Int) (H : Int) (p : Int) (o : Int) (Y : Int) (X : Int)) (M : Int) := by
        intro o ho hk
        refine ev_shift ?_
        simp only [spec_l08Near.j2]
        rw [wy.out, wadd (Y * W) X (by omega), hc, wsucc X b4, q1.out]
        unfold orIf at hk
        by_cases c1 : X + 1 < W
        · rw [if_pos c1] at hk
          rw [shl_nat (c + 1) (by omega), or_i64 o (2 ^ (c + 1)) (by omega) (Nat.pow_lt_pow_right (by decide) (by omega))]
          exact ev_pos (by omega) (ev_pos (Int.natCast_nonneg _) hk)
        · rw [if_neg c1] at hk
          exact ev_neg (by omega) hk
      have go := s2 _ o1 (s3 _ o2 fin)
      unfold orIf at go
      refine ⟨M, open_ _ (ev_neg hnz ?_), hF⟩
      by_cases c1 : 0 < X
      · rw [if_pos c1] at go
        have q3 : Aside0 (wrap64 ((c : Int) - 1) = ((c - 1 : Nat) : Int)) := ⟨by rw [wsmall _ (by omega)]; omega⟩
        rw [q3.out, shl_nat (c - 1) (by omega), or_i64 out (2 ^ (c - 1)) (by omega) (Nat.pow_lt_pow_right (by decide) (by omega))]
        exact ev_pos (by omega) (ev_pos (Int.natCast_nonneg _) go)
      · rw [if_neg c1] at go
        exact ev_neg (by omega) go
theorem near_ev (W H p : Nat) (hW : 1 ≤ W ∧ W ≤ 6) (hH : 1 ≤ H ∧ H ≤ 6) (hn : W * H ≤ 36) (hp : p < 2 ^ (W * H)) : ∃ M : Nat, Ev (fun k => spec_l08Near.f k (W : Int) (H : Int) (p : Int)) (M : Int) ∧ around W H p (W * H) M ∧ M < 2 ^ (W * H) := by
  have rows : ∀ (d Y out : Nat), Y + d = H → around W H p (Y * W) out → out < 2 ^ (W * H) → ∃ M : Nat, Ev (fun k => spec_l08Near.l0 k (W : Int) (H : Int) (p : Int) (out : Int) (Y : Int)) (M : Int) ∧ (around W H p (W * H) M ∧ M < 2 ^ (W * H)) := by
    intro d
    induction d with
    | zero =>
      intro Y out h1 h2 h3
      have e : Y = H := by omega
      subst e
      refine ⟨out, ev_shift ?_, by rw [Nat.mul_comm]; exact h2, h3⟩
      simp only [spec_l08Near.l0]
      exact ev_neg (by omega) (ev_now _)
    | succ d ih =>
      intro Y out h1 h2 h3
      obtain ⟨M, hM, hF⟩ := near_row W H p hW hH hn hp Y (by omega) (fun M => around W H p (W * H) M ∧ M < 2 ^ (W * H)) (fun out' g1 g2 => ih (Y + 1) out' (by omega) (by rw [Nat.succ_mul]; exact g1) g2) W 0 out (by omega) h2 h3
      refine ⟨M, ev_shift ?_, hF⟩
      simp only [spec_l08Near.l0]
      exact ev_pos (by omega) hM
  unfold spec_l08Near.f
  exact rows H 0 p (by omega) (fun j => ⟨fun h => .inl h, fun h => by
    rcases h with h | ⟨i, hi, _⟩
    · exact h
    · omega⟩) hp
theorem and_bit (a b i : Nat) : (a &&& b).testBit i = true ↔ a.testBit i = true ∧ b.testBit i = true := by
  rw [Nat.testBit_and, Bool.and_eq_true]
theorem reach_l0 (W H x s : Nat) (hW : 1 ≤ W ∧ W ≤ 6) (hH : 1 ≤ H ∧ H ≤ 6) (hn : W * H ≤ 36) (hx : x < 2 ^ (W * H)) (m : Nat) : ∀ p : Nat, p < 2 ^ (W * H) → zr (W * H) p ≤ m → p.testBit s = true → (∀ i, p.testBit i = true → Conn W H x s i) → (∀ i, p.testBit i = true → x.testBit i = true) →
    ∃ M : Nat, Ev (fun k => spec_l08Reach.l0 k (W : Int) (H : Int) (x : Int) (p : Int)) (M : Int) ∧ isComp W H x s M ∧ M < 2 ^ (W * H) := by
  have hp36 : 2 ^ (W * H) ≤ 2 ^ 36 := Nat.pow_le_pow_right (by decide) hn
  have main : ∀ p : Nat, p < 2 ^ (W * H) → p.testBit s = true → (∀ i, p.testBit i = true → Conn W H x s i) → (∀ i, p.testBit i = true → x.testBit i = true) →
      (∀ q : Nat, q < 2 ^ (W * H) → q ≠ p → (∀ i, p.testBit i = true → q.testBit i = true) → (∀ i, q.testBit i = true → Conn W H x s i) → (∀ i, q.testBit i = true → x.testBit i = true) → ∃ M : Nat, Ev (fun k => spec_l08Reach.l0 k (W : Int) (H : Int) (x : Int) (q : Int)) (M : Int) ∧ isComp W H x s M ∧ M < 2 ^ (W * H)) →
      ∃ M : Nat, Ev (fun k => spec_l08Reach.l0 k (W : Int) (H : Int) (x : Int) (p : Int)) (M : Int) ∧ isComp W H x s M ∧ M < 2 ^ (W * H) := by
    intro p h1 h2 h3 h4 K
    obtain ⟨N, hN, ha, hl⟩ := near_ev W H p hW hH hn h1
    have ea : Go.bits .and .i64 (N : Int) (x : Int) = ((N &&& x : Nat) : Int) := and_i64 N x (by omega) (by omega)
    have ql : N &&& x < 2 ^ (W * H) := Nat.lt_of_le_of_lt Nat.and_le_left hl
    have sub : ∀ i, p.testBit i = true → (N &&& x).testBit i = true := fun i hi => (and_bit _ _ _).mpr ⟨(ha i).mpr (.inl hi), h4 i hi⟩
    have con : ∀ i, (N &&& x).testBit i = true → Conn W H x s i := fun i hi => by
      obtain ⟨a, b⟩ := (and_bit _ _ _).mp hi
      rcases (ha i).mp a with a | ⟨j, _, a, c⟩
      · exact h3 i a
      · exact Conn.step (h3 j a) c b
    have inx : ∀ i, (N &&& x).testBit i = true → x.testBit i = true := fun i hi => ((and_bit _ _ _).mp hi).2
    by_cases e : N &&& x = p
    · refine ⟨p, ev_shift ?_, closed_comp h2 h3 (fun i hi j hj hxj => ?_), h1⟩
      · simp only [spec_l08Reach.l0]
        refine ev_bind hN ?_
        rw [ea, e]
        exact ev_pos rfl (ev_now _)
      · rw [← e]
        exact (and_bit _ _ _).mpr ⟨(ha j).mpr (.inr ⟨i, bit_lt h1 hi, hi, hj⟩), hxj⟩
    · obtain ⟨M, hM, hM2⟩ := K (N &&& x) ql e sub con inx
      refine ⟨M, ev_shift ?_, hM2⟩
      simp only [spec_l08Reach.l0]
      refine ev_bind hN ?_
      rw [ea]
      exact ev_neg (fun z => e (Int.ofNat.inj z)) hM
  have strict : ∀ p q : Nat, p < 2 ^ (W * H) → q < 2 ^ (W * H) → q ≠ p → (∀ i, p.testBit i = true → q.testBit i = true) → zr (W * H) q < zr (W * H) p := by
    intro p q h1 h2 hne hs
    rcases Nat.lt_or_ge (zr (W * H) q) (zr (W * H) p) with g | g
    · exact g
    · exfalso
      apply hne
      have e := zr_eq (W * H) p q hs (Nat.le_antisymm (zr_mono _ _ _ hs) g)
      apply Nat.eq_of_testBit_eq
      intro i
      rcases Nat.lt_or_ge i (W * H) with c | c
      · exact (e i c).symm
      · rw [high_false h1 c, high_false h2 c]
  induction m with
  | zero =>
    intro p h1 hz h2 h3 h4
    exact main p h1 h2 h3 h4 (fun q g1 g2 g3 _ _ => by have := strict p q h1 g1 g2 g3; omega)
  | succ m ih =>
    intro p h1 hz h2 h3 h4
    exact main p h1 h2 h3 h4 (fun q g1 g2 g3 g4 g5 => ih q g1 (by have := strict p q h1 g1 g2 g3; omega) (g3 s h2) g4 g5)
theorem ctz_of (x : Nat) (h0 : x ≠ 0) (h : x < 2 ^ 64) : ∃ m, x = 2 ^ Lib.ctz 64 x * (2 * m + 1) ∧ Lib.ctz 64 x < 64 := by
  obtain ⟨m, hm, hk⟩ := Lib.ctzFrom_spec 64 x (by omega) h
  have e : Lib.ctz 64 x = Lib.ctzFrom 64 x := by simp [Lib.ctz, h0]
  rw [e]
  exact ⟨m, hm, hk⟩
theorem ctz_bit (x : Nat) (h0 : x ≠ 0) (h : x < 2 ^ 64) : x.testBit (Lib.ctz 64 x) = true := by
  obtain ⟨m, hm, _⟩ := ctz_of x h0 h
  generalize Lib.ctz 64 x = s at *
  rw [hm, testBit_div, Nat.mul_div_cancel_left _ (Nat.two_pow_pos s)]
  exact decide_eq_true (by omega)
theorem least_ev (x : Nat) (h : x < 2 ^ 62) : impl_least.f (x : Int) = some ((Lib.ctz 64 x : Nat) : Int) := by
  unfold impl_least.f bits_TrailingZeros.f bits_TrailingZeros64.f
  have e : IntKind.u64.wrap (x : Int) = (x : Int) := u64_nat x (by omega)
  rw [e, if_pos (Int.natCast_nonneg _), if_pos (by omega)]
  rfl
theorem low_ev (x : Nat) (h0 : x ≠ 0) (h : x < 2 ^ 62) : Go.bits .and .i64 (x : Int) (wrap64 (-(x : Int))) = ((2 ^ Lib.ctz 64 x : Nat) : Int) := by
  have hl := (Lib.lowest_bit 64 x h0 (by omega)).1
  have hw : wrap64 (-(x : Int)) = -(x : Int) := w64 (by omega) (by omega)
  have hpl : 2 ^ Lib.ctz 64 x ≤ x := by
    obtain ⟨m, hm, _⟩ := ctz_of x h0 (by omega)
    generalize Lib.ctz 64 x = s at *
    have : 2 ^ s * 1 ≤ 2 ^ s * (2 * m + 1) := Nat.mul_le_mul_left _ (by omega)
    omega
  rw [hw]
  simp only [Go.bits]
  have e1 : (BitVec.ofInt 64 (x : Int)).toNat = x := by
    rw [BitVec.ofInt_natCast, BitVec.toNat_ofNat]; exact Nat.mod_eq_of_lt (by omega)
  have e2 : (BitVec.ofInt 64 (-(x : Int))).toNat = 2 ^ 64 - x := by
    rw [BitVec.toNat_ofInt]; omega
  show IntKind.i64.wrap (((BitVec.ofInt 64 (x : Int)) &&& (BitVec.ofInt 64 (-(x : Int)))).toNat : Int) = _
  rw [BitVec.toNat_and, e1, e2, hl, IntKind.wrap_i64]
  generalize 2 ^ Lib.ctz 64 x = q at *
  omega
theorem reach_ev (W H x : Nat) (hW : 1 ≤ W ∧ W ≤ 6) (hH : 1 ≤ H ∧ H ≤ 6) (hn : W * H ≤ 36) (hx : x < 2 ^ (W * H)) (h0 : x ≠ 0) : ∃ M : Nat, Ev (fun k => spec_l08Reach.f k (W : Int) (H : Int) (x : Int)) (M : Int) ∧ isComp W H x (Lib.ctz 64 x) M ∧ M < 2 ^ (W * H) := by
  have hx62 : x < 2 ^ 62 := Nat.lt_of_lt_of_le hx (Nat.pow_le_pow_right (by decide) (by omega))
  have hb := ctz_bit x h0 (by omega)
  have hs := bit_lt hx hb
  generalize hS : Lib.ctz 64 x = s at *
  have ht : ∀ i, (2 ^ s).testBit i = true → i = s := fun i hi => by
    rw [Nat.testBit_two_pow] at hi
    exact (of_decide_eq_true hi).symm
  obtain ⟨M, hM, hM2⟩ := reach_l0 W H x s hW hH hn hx (W * H) (2 ^ s) (Nat.pow_lt_pow_right (by decide) hs) (zr_le _ _) (by rw [Nat.testBit_two_pow]; simp) (fun i hi => (ht i hi) ▸ Conn.base) (fun i hi => (ht i hi) ▸ hb)
  refine ⟨M, ?_, hM2⟩
  unfold spec_l08Reach.f
  rw [low_ev x h0 hx62, hS]
  exact hM
/-- Both find the same part with the least cell. -/
theorem both_parts (W H x : Nat) (hW : 1 ≤ W ∧ W ≤ 6) (hH : 1 ≤ H ∧ H ≤ 6) (hn : W * H ≤ 36) (hx : x < 2 ^ (W * H)) (h0 : x ≠ 0) : ∃ M : Nat, Ev (fun k => spec_l08Reach.f k (W : Int) (H : Int) (x : Int)) (M : Int) ∧ Ev (fun k => impl_part.f k (W : Int) (H : Int) (x : Int) ((Lib.ctz 64 x : Nat) : Int)) (M : Int) ∧ isComp W H x (Lib.ctz 64 x) M ∧ M < 2 ^ (W * H) := by
  have hx62 : x < 2 ^ 62 := Nat.lt_of_lt_of_le hx (Nat.pow_le_pow_right (by decide) (by omega))
  have hb := ctz_bit x h0 (by omega)
  have hs := bit_lt hx hb
  obtain ⟨M, h1, h2, h3⟩ := reach_ev W H x hW hH hn hx h0
  obtain ⟨N, g1, g2, g3⟩ := part_ev W H x (Lib.ctz 64 x) hW hH hn hx hs
  have e := isComp_uniq h2 g2
  subst e
  exact ⟨M, h1, g1, h2, h3⟩
theorem conn_in {W H x s i : Nat} (hs : x.testBit s = true) (h : Conn W H x s i) : x.testBit i = true := by
  cases h with
  | base => exact hs
  | step _ _ hx => exact hx
theorem or_disj (a b : Nat) (ha : a < 2 ^ 62) (hb : b < 2 ^ 62) (h : a &&& b = 0) : a ||| b = a + b := by
  have e1 : (BitVec.ofNat 64 a).toNat = a := by rw [BitVec.toNat_ofNat]; exact Nat.mod_eq_of_lt (by omega)
  have e2 : (BitVec.ofNat 64 b).toNat = b := by rw [BitVec.toNat_ofNat]; exact Nat.mod_eq_of_lt (by omega)
  have hz : BitVec.ofNat 64 a &&& BitVec.ofNat 64 b = 0#64 := by
    apply BitVec.eq_of_toNat_eq
    rw [BitVec.toNat_and, e1, e2, h]; rfl
  have := congrArg BitVec.toNat (BitVec.add_eq_or_of_and_eq_zero _ _ hz)
  rw [BitVec.toNat_add, BitVec.toNat_or, e1, e2, Nat.mod_eq_of_lt (by omega)] at this
  exact this.symm
theorem andNot_i64 (a b : Nat) (ha : a < 2 ^ 62) (hb : b < 2 ^ 62) (hsub : ∀ i, b.testBit i = true → a.testBit i = true) : Go.bits .andNot .i64 (a : Int) (b : Int) = ((a - b : Nat) : Int) ∧ b ≤ a ∧ ∀ i, (a - b).testBit i = (a.testBit i && !b.testBit i) := by
  have key : a = (a ^^^ b) + b ∧ ∀ i, (a ^^^ b).testBit i = (a.testBit i && !b.testBit i) := by
    have hx : ∀ i, (a ^^^ b).testBit i = (a.testBit i && !b.testBit i) := by
      intro i
      rw [Nat.testBit_xor]
      cases hb' : b.testBit i
      · cases a.testBit i <;> rfl
      · rw [hsub i hb']; rfl
    refine ⟨?_, hx⟩
    have disj : (a ^^^ b) &&& b = 0 := by
      apply Nat.eq_of_testBit_eq
      intro i
      rw [Nat.testBit_and, hx i, Nat.zero_testBit]
      cases b.testBit i <;> simp
    have hor : (a ^^^ b) ||| b = a := by
      apply Nat.eq_of_testBit_eq
      intro i
      rw [Nat.testBit_or, hx i]
      cases hb' : b.testBit i
      · cases a.testBit i <;> rfl
      · rw [hsub i hb']; rfl
    have hxl : a ^^^ b < 2 ^ 62 := Nat.xor_lt_two_pow ha hb
    have := or_disj (a ^^^ b) b hxl hb disj
    rw [hor] at this
    exact this
  obtain ⟨k1, k2⟩ := key
  have e : a - b = a ^^^ b := by omega
  refine ⟨?_, by omega, by rw [e]; exact k2⟩
  rw [e]
  simp only [Go.bits]
  have e1 : (BitVec.ofInt 64 (a : Int)).toNat = a := by
    rw [BitVec.ofInt_natCast, BitVec.toNat_ofNat]; exact Nat.mod_eq_of_lt (by omega)
  have e2 : (BitVec.ofInt 64 (b : Int)).toNat = b := by
    rw [BitVec.ofInt_natCast, BitVec.toNat_ofNat]; exact Nat.mod_eq_of_lt (by omega)
  show IntKind.i64.wrap (((BitVec.ofInt 64 (a : Int)) &&& ~~~(BitVec.ofInt 64 (b : Int))).toNat : Int) = _
  have e3 : ((BitVec.ofInt 64 (a : Int)) &&& ~~~(BitVec.ofInt 64 (b : Int))).toNat = a ^^^ b := by
    apply Nat.eq_of_testBit_eq
    intro i
    rw [BitVec.toNat_and, Nat.testBit_and, e1, k2 i]
    by_cases hi : i < 64
    · have : ((~~~(BitVec.ofInt 64 (b : Int))).toNat).testBit i = !b.testBit i := by
        rw [BitVec.testBit_toNat, BitVec.getLsbD_not]
        rw [← BitVec.testBit_toNat, e2]
        simp [hi]
      rw [this]
    · have : a.testBit i = false := Nat.testBit_lt_two_pow (Nat.lt_of_lt_of_le ha (Nat.pow_le_pow_right (by decide) (by omega)))
      rw [this]; simp
  rw [e3, IntKind.wrap_i64]
  have hl : a ^^^ b ≤ a := by omega
  generalize a ^^^ b = q at *
  omega
/-- The parts of a mask, one by one. -/
theorem parts_ev (W H : Nat) (hW : 1 ≤ W ∧ W ≤ 6) (hH : 1 ≤ H ∧ H ≤ 6) (hn : W * H ≤ 36) (m : Nat) : ∀ (x : Nat) (out : List Int), x < 2 ^ (W * H) → x ≤ m ∧ W * H - zr (W * H) x ≤ m → out.length + (W * H - zr (W * H) x) ≤ 100 →
    ∃ L : List Int, Ev (fun k => spec_PartsOf.l0 k (W : Int) (H : Int) (x : Int) out) L ∧ Ev (fun k => impl_partsOf.l0 k (W : Int) (H : Int) (x : Int) out) L ∧ L.length ≤ 100 := by
  induction m with
  | zero =>
    intro x out hx hm ho
    obtain rfl : x = 0 := by omega
    refine ⟨out, ev_shift ?_, ev_shift ?_, by omega⟩
    · simp only [spec_PartsOf.l0]; exact ev_neg (by omega) (ev_now _)
    · simp only [impl_partsOf.l0]; exact ev_pos (by omega) (ev_now _)
  | succ m ih =>
    intro x out hx hm ho
    by_cases h0 : x = 0
    · subst h0
      refine ⟨out, ev_shift ?_, ev_shift ?_, by omega⟩
      · simp only [spec_PartsOf.l0]; exact ev_neg (by omega) (ev_now _)
      · simp only [impl_partsOf.l0]; exact ev_pos (by omega) (ev_now _)
    · have hp36 : 2 ^ (W * H) ≤ 2 ^ 36 := Nat.pow_le_pow_right (by decide) hn
      obtain ⟨M, h1, h2, h3, h4⟩ := both_parts W H x hW hH hn hx h0
      have hb := ctz_bit x h0 (by omega)
      have hs := bit_lt hx hb
      have hsub : ∀ i, M.testBit i = true → x.testBit i = true := fun i hi => conn_in hb ((h3 i).mp hi)
      obtain ⟨e1, e2, e3⟩ := andNot_i64 x M (by omega) (by omega) hsub
      have hMs : M.testBit (Lib.ctz 64 x) = true := (h3 _).mpr Conn.base
      have hMpos : 0 < M := Nat.pos_of_ne_zero (fun z => by rw [z, Nat.zero_testBit] at hMs; cases hMs)
      have hz : zr (W * H) x < zr (W * H) (x - M) := by
        have hmono := zr_mono (W * H) (x - M) x (fun i hi => by rw [e3 i, Bool.and_eq_true] at hi; exact hi.1)
        rcases Nat.lt_or_ge (zr (W * H) x) (zr (W * H) (x - M)) with g | g
        · exact g
        · exfalso
          have := zr_eq (W * H) (x - M) x (fun i hi => by rw [e3 i, Bool.and_eq_true] at hi; exact hi.1) (Nat.le_antisymm hmono g) _ hs
          rw [e3, hMs, hb] at this
          cases this
      have hzl := zr_le (W * H) (x - M)
      have olen : out.length < 17592186044416 := by omega
      have hlt : x - M < 2 ^ (W * H) := by omega
      obtain ⟨L, g1, g2, g3⟩ := ih (x - M) (out ++ [(M : Int)]) hlt (by omega) (by rw [List.length_append]; simp; omega)
      have ew : wrap64 ((x : Int) - (M : Int)) = ((x - M : Nat) : Int) := by rw [wsmall _ (by omega)]; omega
      refine ⟨L, ev_shift ?_, ev_shift ?_, g3⟩
      · simp only [spec_PartsOf.l0]
        refine ev_pos (by clear ew; omega) (ev_bind h1 (ev_pos olen ?_))
        rw [ew]; exact g1
      · simp only [impl_partsOf.l0]
        refine ev_neg (by clear ew; omega) (ev_bind0 (least_ev x (by clear ew; omega)) (ev_bind h2 (ev_pos olen ?_)))
        rw [e1]; exact g2
theorem parts_all (W H x : Nat) (hW : 1 ≤ W ∧ W ≤ 6) (hH : 1 ≤ H ∧ H ≤ 6) (hn : W * H ≤ 36) (hx : x < 2 ^ (W * H)) : ∃ L : List Int, Ev (fun k => spec_PartsOf.l0 k (W : Int) (H : Int) (x : Int) []) L ∧ Ev (fun k => impl_partsOf.l0 k (W : Int) (H : Int) (x : Int) []) L ∧ L.length ≤ 100 := by
  have := zr_le (W * H) x
  exact parts_ev W H hW hH hn (x + 40) x [] hx (by omega) (by simp; omega)
theorem rd_at (l : List Int) (i : Nat) : rd l (i : Int) = l.getD i 0 := by simp [rd]
theorem eqIntS_from (l : List Int) (hl : (l.length : Int) ≤ 4611686018427387904) (d : Nat) : ∀ i : Int, 0 ≤ i → (l.length : Int) - i ≤ d → Ev (fun k => laws_eqIntS.l0 k l l i) true := by
  induction d with
  | zero =>
    intro i h0 hd
    refine ev_shift ?_
    simp only [laws_eqIntS.l0]
    exact ev_neg (by omega) (ev_now _)
  | succ d ih =>
    intro i h0 hd
    refine ev_shift ?_
    simp only [laws_eqIntS.l0, if_true]
    by_cases hi : i < (l.length : Int)
    · refine ev_pos hi (ev_pos h0 (ev_pos hi ?_))
      rw [w64 (by omega) (by omega)]
      exact ih _ (by omega) (by omega)
    · exact ev_neg hi (ev_now _)
theorem eqIntS_refl (l : List Int) (hl : (l.length : Int) ≤ 4611686018427387904) : Ev (fun k => laws_eqIntS.f k l l) true := by
  unfold laws_eqIntS.f
  exact ev_pos rfl (eqIntS_from l hl l.length 0 (by omega) (by omega))
theorem markIntS_from (n : Nat) (hn : (n : Int) ≤ 4611686018427387904) (d : Nat) : ∀ (l : List Int) (i : Nat), l.length = n → n - i ≤ d → i ≤ n → (∀ j, j < i → l.getD j 0 = 1 + j) →
    ∃ l', Ev (fun k => laws_markIntS.l0 k l (1 + i) i) (1 + (n : Int), l') ∧ l'.length = n ∧ ∀ j, j < n → l'.getD j 0 = 1 + j := by
  induction d with
  | zero =>
    intro l i hl hd hi hm
    refine ⟨l, ev_shift ?_, hl, fun j hj => hm j (by omega)⟩
    simp only [laws_markIntS.l0]
    obtain rfl : i = n := by omega
    exact ev_neg (by omega) (ev_now _)
  | succ d ih =>
    intro l i hl hd hi hm
    by_cases h : i < n
    · obtain ⟨l', hl', h1, h2⟩ := ih (l.set i (1 + i)) (i + 1) (by simpa using hl) (by omega) (by omega) (by
        intro j hj
        rw [List.getD_eq_getElem?_getD, List.getElem?_set]
        by_cases e : i = j
        · subst e; rw [if_pos rfl, if_pos (by omega)]; rfl
        · rw [if_neg e, ← List.getD_eq_getElem?_getD]; exact hm j (by omega))
      refine ⟨l', ev_shift ?_, h1, h2⟩
      simp only [laws_markIntS.l0]
      refine ev_pos (by omega) (ev_pos (by omega) ?_)
      rw [w64 (by omega) (by omega), w64 (by omega) (by omega)]
      have e1 : (1 + (i : Int) + 1) = 1 + ((i + 1 : Nat) : Int) := by omega
      have e2 : ((i : Int) + 1) = ((i + 1 : Nat) : Int) := by omega
      have e3 : ((i : Int)).toNat = i := by omega
      rw [e1, e2, e3]; exact hl'
    · obtain rfl : i = n := by omega
      refine ⟨l, ev_shift ?_, hl, fun j hj => hm j (by omega)⟩
      simp only [laws_markIntS.l0]
      exact ev_neg (by omega) (ev_now _)
theorem heldIntS_from (n : Nat) (hn : (n : Int) ≤ 4611686018427387904) (l : List Int) (hl : l.length = n) (hm : ∀ j, j < n → l.getD j 0 = 1 + j) (d : Nat) : ∀ i : Nat, i ≤ n → n - i ≤ d →
    Ev (fun k => laws_heldIntS.l0 k l (1 + i) i) (1 + (n : Int)) := by
  induction d with
  | zero =>
    intro i hi hd
    refine ev_shift ?_
    simp only [laws_heldIntS.l0]
    obtain rfl : i = n := by omega
    exact ev_neg (by omega) (ev_now _)
  | succ d ih =>
    intro i hi hd
    refine ev_shift ?_
    simp only [laws_heldIntS.l0]
    by_cases h : i < n
    · refine ev_pos (by omega) (ev_pos (by omega) (ev_pos (by rw [rd_at]; exact hm i h) ?_))
      rw [w64 (by omega) (by omega), w64 (by omega) (by omega)]
      have e1 : (1 + (i : Int) + 1) = 1 + ((i + 1 : Nat) : Int) := by omega
      have e2 : ((i : Int) + 1) = ((i + 1 : Nat) : Int) := by omega
      rw [e1, e2]; exact ih (i + 1) (by omega) (by omega)
    · obtain rfl : i = n := by omega
      exact ev_neg (by omega) (ev_now _)
theorem markIntS_ev (l : List Int) (hl : (l.length : Int) ≤ 4611686018427387904) :
    ∃ l', Ev (fun k => laws_markIntS.f k l 1) (1 + (l.length : Int), l') ∧ Ev (fun k => laws_heldIntS.f k l' 1) (1 + (l.length : Int)) := by
  obtain ⟨l', h1, h2, h3⟩ := markIntS_from l.length hl l.length l 0 rfl (by omega) (by omega) (fun j hj => by omega)
  exact ⟨l', h1, heldIntS_from l.length hl l' h2 h3 l.length 0 (by omega) (by omega)⟩
theorem ints_tail {g : Nat → Option (List Int)} {l : List Int} (hg : Ev g l) (hl : (l.length : Int) ≤ 4611686018427387904) :
    Ev (fun k => (g k).bind fun t1 => ((laws_eqIntS.f k t1 l).bind fun t2 => (if t2 = true then ((laws_markIntS.f k t1 1).bind fun b => ((laws_heldIntS.f k b.2 1).bind fun t3 => (if t3 < 0 then (some false) else (if t3 = b.1 then ((g k).bind fun t4 => ((laws_eqIntS.f k t4 l).bind fun t5 => (if t5 = true then ((laws_heldIntS.f k b.2 1).bind fun t6 => (if t6 < 0 then (some false) else (if t6 = b.1 then (some true) else (some false)))) else (some false)))) else (some false))))) else (some false)))) true := by
  obtain ⟨l', h1, h2⟩ := markIntS_ev l hl
  refine ev_bind hg (ev_bind (eqIntS_refl l hl) (ev_pos rfl (ev_bind h1 (ev_bind h2 (ev_neg (by omega) (ev_pos rfl ?_))))))
  exact ev_bind hg (ev_bind (eqIntS_refl l hl) (ev_pos rfl (ev_bind h2 (ev_neg (by omega) (ev_pos rfl (ev_now _))))))
theorem FnExactPartsOf : laws_FnExactPartsOf.Pure := by
  intro w h m _ _ _
  apply ev_rounds
  unfold laws_FnExactPartsOf.f
  by_cases c : okS w h m = true
  · obtain ⟨W, H, x, rfl, rfl, rfl, hW, hH, hx, hn⟩ := ok_nat c
    obtain ⟨L, h1, h2, h3⟩ := parts_all W H x hW hH hn hx
    refine ev_bind (a := L) ?_ (ints_tail (l := L) ?_ (by omega))
    · unfold spec_PartsOf.f
      exact ev_bind0 (spec_shapeOk _ _ _) (ev_pos c h1)
    · unfold impl_PartsOf.f impl_partsOf.f
      exact ev_bind0 (impl_shapeOk _ _ _) (ev_pos c (ev_bind h2 (ev_now _)))
  · refine ev_bind (a := []) ?_ (ints_tail (l := []) ?_ (by simp))
    · unfold spec_PartsOf.f
      exact ev_bind0 (spec_shapeOk _ _ _) (ev_neg c (ev_now _))
    · unfold impl_PartsOf.f
      exact ev_bind0 (impl_shapeOk _ _ _) (ev_neg c (ev_now _))

end Go.Proofs.YtdeocimieeodnaaDoor.Pure
