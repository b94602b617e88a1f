/- FormatShape of the program and of the reference answer alike, for all numbers. -/
import Derived.Test.YtonnlbdocpkfdaaQFnExactFormatShapex2
namespace Go.Proofs.Ytonnlbdocpkfdaa.Pure
open Go.RowKit Go.Proofs.Ytonnlbdocpkfdaa.QFnExactFormatShape Go.Proofs.YtonnlbdocpkfdaaW.PrintWords Go.Proofs.YtonnlbdocpkfdaaW.PrintLast Go.Proofs.YtonnlbdocpkfdaaW.PrintMore
set_option linter.unusedVariables false
set_option linter.unusedSimpArgs false

/- Eventually: with enough rounds the answer is r. -/
theorem ev_now {α : Type} (r : α) : Ev (fun _ => some r) r := Ev.now r
theorem ev_shift {α : Type} {g : Nat → Option α} {r : α} (h : Ev (fun k => g (k + 1)) r) : Ev g r := by
  obtain ⟨K, hK⟩ := h
  exact ⟨K + 1, fun k hk => by
    obtain ⟨m, rfl⟩ : ∃ m, k = m + 1 := ⟨k - 1, by omega⟩
    exact hK m (by omega)⟩
theorem ev_bind {α β : Type} {g : Nat → Option α} {f : Nat → α → Option β} {a : α} {r : β} (h : Ev g a) (k : Ev (fun n => f n a) r) : Ev (fun n => (g n).bind (f n)) r := Ev.bind h k
theorem ev_bind0 {α β : Type} {o : Option α} {f : Nat → α → Option β} {a : α} {r : β} (h : o = some a) (k : Ev (fun n => f n a) r) : Ev (fun n => o.bind (f n)) r := by
  subst h; exact k
theorem ev_pos {α : Type} {A B : Nat → Option α} {r : α} {c : Prop} [Decidable c] (h : c) (k : Ev A r) : Ev (fun n => if c then A n else B n) r := by
  simpa only [if_pos h] using k
theorem ev_neg {α : Type} {A B : Nat → Option α} {r : α} {c : Prop} [Decidable c] (h : ¬ c) (k : Ev B r) : Ev (fun n => if c then A n else B n) r := by
  simpa only [if_neg h] using k
theorem ev_done {α : Type} {o : Option α} {r : α} (h : o = some r) : Ev (fun _ => o) r := ⟨0, fun _ _ => h⟩
theorem ev_eq {α : Type} {g : Nat → Option α} {r r' : α} (h : Ev g r) (e : r = r') : Ev g r' := e ▸ h
theorem ev_rounds {α : Type} {g : Nat → Option α} {r : α} (h : Ev g r) : ∃ k, g k = some r := Ev.rounds h
theorem ev_uniq {α : Type} {g : Nat → Option α} {r r' : α} (h : Ev g r) (h' : Ev g r') : r = r' := by
  obtain ⟨K, hK⟩ := h
  obtain ⟨K', hK'⟩ := h'
  have a := hK (max K K') (Nat.le_max_left _ _)
  have b := hK' (max K K') (Nat.le_max_right _ _)
  rw [a] at b
  exact Option.some.inj b
theorem wf64 {n : Int} (h : (Lit.int .i64 n).wf = true) : -9223372036854775808 ≤ n ∧ n ≤ 9223372036854775807 := by
  have a : IntKind.i64.min = -9223372036854775808 := rfl
  have b : IntKind.i64.max = 9223372036854775807 := rfl
  simp [Lit.wf] at h
  omega
theorem w64 {n : Int} (h : -9223372036854775808 ≤ n) (h' : n ≤ 9223372036854775807) : wrap64 n = n := by
  unfold wrap64; omega
theorem wadd (a b : Nat) (h : a + b < 1000000000000) : wrap64 ((a : Int) + (b : Int)) = ((a + b : Nat) : Int) := by
  rw [w64 (by omega) (by omega)]; omega
theorem wsucc (a : Nat) (h : a < 1000000000000) : wrap64 ((a : Int) + 1) = ((a + 1 : Nat) : Int) := by
  rw [w64 (by omega) (by omega)]; omega
theorem wsmall (n : Int) (h : -1000000000000 ≤ n ∧ n ≤ 1000000000000) : wrap64 n = n := w64 (by omega) (by omega)
theorem within_eq (a b c : Int) : impl_within.f a b c = some (decide (b ≤ a ∧ a ≤ c)) := by
  unfold impl_within.f; split <;> simp <;> omega
theorem in_eq (a b c : Int) : spec_l01In.f a b c = some (decide (b ≤ a ∧ a ≤ c)) := by
  unfold spec_l01In.f; split <;> simp <;> omega
theorem mx_eq (a b : Int) : mx a b = max a b := by unfold mx; split <;> omega
theorem mn_eq (a b : Int) : mn a b = min a b := by unfold mn; split <;> omega
/-- A table of w columns and h rows has from 1 to 6 of each; a mask has its bits below w * h. -/
def isT (w h : Int) : Bool := decide (1 ≤ w ∧ w ≤ 6 ∧ 1 ≤ h ∧ h ≤ 6)
def okS (w h m : Int) : Bool := isT w h && decide (0 ≤ m ∧ m < 2 ^ (w * h).toNat)
theorem isT_iff {w h : Int} : isT w h = true ↔ 1 ≤ w ∧ w ≤ 6 ∧ 1 ≤ h ∧ h ≤ 6 := by simp [isT]
theorem okS_iff {w h m : Int} : okS w h m = true ↔ (1 ≤ w ∧ w ≤ 6 ∧ 1 ≤ h ∧ h ≤ 6) ∧ 0 ≤ m ∧ m < 2 ^ (w * h).toNat := by simp [okS, isT]
theorem table_all {p : Int → Int → Bool} (H : (List.range 6).all (fun w => (List.range 6).all fun h => p ((w : Int) + 1) ((h : Int) + 1)) = true) (w h : Int) (hw : isT w h = true) : p w h = true := by
  obtain ⟨a, b, c, d⟩ := isT_iff.mp hw
  have e1 : w = (((w - 1).toNat : Nat) : Int) + 1 := by omega
  have e2 : h = (((h - 1).toNat : Nat) : Int) + 1 := by omega
  have := List.all_eq_true.mp (List.all_eq_true.mp H (w - 1).toNat (by simp; omega)) (h - 1).toNat (by simp; omega)
  rw [e1, e2]; exact this
theorem shl_table (w h : Int) (hw : isT w h = true) : (0 ≤ wrap64 (w * h) ∧ wrap64 (w * h) = w * h ∧ w * h ≤ 36 ∧ shl .i64 1 (wrap64 (w * h)) = 2 ^ (w * h).toNat) ∧ (2 : Int) ^ (w * h).toNat ≤ 68719476736 ∧ 2 ≤ (2 : Int) ^ (w * h).toNat := by
  have := table_all (p := fun w h => decide ((0 ≤ wrap64 (w * h) ∧ wrap64 (w * h) = w * h ∧ w * h ≤ 36 ∧ shl .i64 1 (wrap64 (w * h)) = 2 ^ (w * h).toNat) ∧ (2 : Int) ^ (w * h).toNat ≤ 68719476736 ∧ 2 ≤ (2 : Int) ^ (w * h).toNat)) (by decide +kernel) w h hw
  exact of_decide_eq_true this
theorem spec_shapeOk (w h m : Int) : spec_ShapeOk.f w h m = some (okS w h m) := by
  unfold spec_ShapeOk.f
  simp only [in_eq, Option.bind_some]
  by_cases c : isT w h = true
  · obtain ⟨⟨a1, a2, a3, a4⟩, a5, a6⟩ := shl_table w h c
    have c' := isT_iff.mp c
    rw [if_pos (by simp; omega), if_pos (by simp; omega), if_pos a1, a4, w64 (by omega) (by omega)]
    unfold okS
    rw [c, Bool.true_and]
    exact congrArg some (decide_eq_decide.mpr (by omega))
  · have e : okS w h m = false := by unfold okS; simp [c]
    have c' : ¬ (1 ≤ w ∧ w ≤ 6 ∧ 1 ≤ h ∧ h ≤ 6) := fun x => c (isT_iff.mpr x)
    rw [e]
    by_cases d : 1 ≤ w ∧ w ≤ 6
    · rw [if_pos (decide_eq_true d), if_neg (fun x => c' (by have := of_decide_eq_true x; omega))]
    · rw [if_neg (fun x => d (of_decide_eq_true x))]
theorem impl_isTable (w h : Int) : impl_isTable.f w h = some (isT w h) := by
  unfold impl_isTable.f
  simp only [within_eq, Option.bind_some]
  by_cases d : 1 ≤ w ∧ w ≤ 6
  · rw [if_pos (decide_eq_true d)]
    exact congrArg some (decide_eq_decide.mpr (by omega))
  · rw [if_neg (fun x => d (of_decide_eq_true x))]
    exact congrArg some (decide_eq_false (by omega)).symm
theorem impl_shapeOk (w h m : Int) : impl_ShapeOk.f w h m = some (okS w h m) := by
  unfold impl_ShapeOk.f
  simp only [impl_isTable, Option.bind_some]
  by_cases c : isT w h = true
  · obtain ⟨⟨a1, a2, a3, a4⟩, a5, a6⟩ := shl_table w h c
    rw [if_pos c, if_pos a1, a4]
    unfold okS
    rw [c]
    rw [Bool.true_and]
    by_cases g : m ≥ 0
    · rw [if_pos g]
      exact congrArg some (decide_eq_decide.mpr (by omega))
    · rw [if_neg g]
      exact congrArg some (decide_eq_false (by omega)).symm
  · rw [if_neg c]; unfold okS; simp [c]
theorem and_u64 (a b : Nat) (ha : a < 2 ^ 64) (hb : b < 2 ^ 64) : Go.bits .and .u64 (a : Int) (b : Int) = ((a &&& b : Nat) : Int) :=
  (Go.bits_nat .u64 64 (by decide) (fun n h0 h1 => by unfold Go.IntKind.wrap; simp [Go.IntKind.bits, Go.IntKind.signed]; omega) a b ha hb).1
theorem and_i64 (a b : Nat) (ha : a < 2 ^ 63) (hb : b < 2 ^ 63) : Go.bits .and .i64 (a : Int) (b : Int) = ((a &&& b : Nat) : Int) :=
  (Go.bits_nat .i64 63 (by decide) (fun n h0 h1 => by rw [Go.IntKind.wrap_i64]; omega) a b ha hb).1
theorem or_i64 (a b : Nat) (ha : a < 2 ^ 63) (hb : b < 2 ^ 63) : Go.bits .or .i64 (a : Int) (b : Int) = ((a ||| b : Nat) : Int) :=
  (Go.bits_nat .i64 63 (by decide) (fun n h0 h1 => by rw [Go.IntKind.wrap_i64]; omega) a b ha hb).2
theorem u64_nat (a : Nat) (ha : a < 2 ^ 64) : IntKind.u64.wrap (a : Int) = (a : Int) := by
  unfold Go.IntKind.wrap; simp [Go.IntKind.bits, Go.IntKind.signed]; omega
theorem and1 (x : Nat) : x &&& 1 = x % 2 := Nat.and_one_is_mod x
theorem shr_nat (x i : Nat) (hi : i ≤ 64) : shr .i64 (x : Int) (i : Int) = ((x / 2 ^ i : Nat) : Int) := by
  unfold shr
  rw [show min ((i : Int)).toNat (IntKind.bits .i64) = i from by
    have : IntKind.bits .i64 = 64 := rfl
    omega]
  rw [Int.natCast_ediv, Int.natCast_pow]; rfl
theorem bit_at (x i : Nat) (hx : x < 2 ^ 62) (hi : i ≤ 64) : Go.bits .and .i64 (shr .i64 (x : Int) (i : Int)) 1 = ((x / 2 ^ i % 2 : Nat) : Int) := by
  rw [shr_nat x i hi]
  have h := and_i64 (x / 2 ^ i) 1 (Nat.lt_of_le_of_lt (Nat.div_le_self _ _) (by omega)) (by decide)
  rw [and1] at h
  exact h
theorem testBit_div (x i : Nat) : x.testBit i = decide (x / 2 ^ i % 2 = 1) := Nat.testBit_eq_decide_div_mod_eq
theorem bit_eq1 (x i : Nat) (hx : x < 2 ^ 62) (hi : i ≤ 64) : (Go.bits .and .i64 (shr .i64 (x : Int) (i : Int)) 1 = 1) ↔ x.testBit i = true := by
  rw [bit_at x i hx hi, testBit_div, decide_eq_true_iff]
  generalize x / 2 ^ i % 2 = q
  omega
theorem bit_eq0 (x i : Nat) (hx : x < 2 ^ 62) (hi : i ≤ 64) : (Go.bits .and .i64 (shr .i64 (x : Int) (i : Int)) 1 = 0) ↔ x.testBit i = false := by
  rw [bit_at x i hx hi, testBit_div, decide_eq_false_iff_not]
  have : x / 2 ^ i % 2 < 2 := Nat.mod_lt _ (by decide)
  generalize x / 2 ^ i % 2 = q at *
  omega
theorem shl_nat (i : Nat) (hi : i ≤ 62) : shl .i64 1 (i : Int) = ((2 ^ i : Nat) : Int) := by
  unfold shl
  rw [show min ((i : Int)).toNat (IntKind.bits .i64) = i from by
    have : IntKind.bits .i64 = 64 := rfl
    omega]
  have h : 2 ^ i ≤ 2 ^ 62 := Nat.pow_le_pow_right (by decide) hi
  have e : (1 : Int) * 2 ^ i = ((2 ^ i : Nat) : Int) := by rw [Int.natCast_pow]; simp
  rw [e, IntKind.wrap_i64]
  generalize 2 ^ i = q at *
  omega
theorem has_eq (x i : Nat) (hx : x < 2 ^ 62) (hi : i ≤ 64) : impl_has.f (x : Int) (i : Int) = some (x.testBit i) := by
  unfold impl_has.f
  rw [if_pos (by omega)]
  have h := bit_eq1 x i hx hi
  cases e : x.testBit i
  · rw [e] at h
    simp at h
    exact congrArg some (by simpa using h)
  · rw [e] at h
    simp at h
    exact congrArg some (by simpa using h)
theorem zero_test (x i : Nat) (h : x / 2 ^ i = 0) (j : Nat) (hj : i ≤ j) : x.testBit j = false := by
  apply Nat.testBit_lt_two_pow
  have : x < 2 ^ i := by
    rcases Nat.div_eq_zero_iff.mp h with h | h
    · have := Nat.two_pow_pos i; omega
    · exact h
  exact Nat.lt_of_lt_of_le this (Nat.pow_le_pow_right (by decide) hj)
/-- The cells of a mask from i on, d of them. -/
def cl (x : Nat) : Nat → Nat → List Nat
  | _, 0 => []
  | i, d + 1 => if x.testBit i then i :: cl x (i + 1) d else cl x (i + 1) d
theorem cl_none (x : Nat) (d : Nat) : ∀ i, x / 2 ^ i = 0 → cl x i d = [] := by
  induction d with
  | zero => intro i _; rfl
  | succ d ih =>
    intro i h
    simp only [cl]
    rw [zero_test x i h i (Nat.le_refl _)]
    simp
    apply ih
    rw [Nat.pow_succ, ← Nat.div_div_eq_div_mul, h]
theorem cl_len (x : Nat) (d : Nat) : ∀ i, (cl x i d).length ≤ d := by
  induction d with
  | zero => intro i; simp [cl]
  | succ d ih => intro i; have := ih (i + 1); simp only [cl]; split <;> simp <;> omega
theorem cl_mem (x : Nat) (d : Nat) : ∀ i j, j ∈ cl x i d ↔ (i ≤ j ∧ j < i + d ∧ x.testBit j = true) := by
  induction d with
  | zero => intro i j; simp [cl]; omega
  | succ d ih =>
    intro i j
    simp only [cl]
    by_cases h : x.testBit i = true
    · rw [if_pos h, List.mem_cons, ih]
      constructor
      · rintro (rfl | ⟨a, b, c⟩)
        · exact ⟨by omega, by omega, h⟩
        · exact ⟨by omega, by omega, c⟩
      · rintro ⟨a, b, c⟩
        by_cases e : j = i
        · exact .inl e
        · exact .inr ⟨by omega, by omega, c⟩
    · rw [if_neg h, ih]
      constructor
      · rintro ⟨a, b, c⟩; exact ⟨by omega, by omega, c⟩
      · rintro ⟨a, b, c⟩
        refine ⟨?_, by omega, c⟩
        rcases Nat.lt_or_ge i j with g | g
        · omega
        · obtain rfl : i = j := by omega
          exact absurd c h
theorem rd_mid (pre suf : List Int) (a : Int) : rd (pre ++ a :: suf) (pre.length : Int) = a := by
  simp [rd, List.getD_eq_getElem?_getD]
theorem next_len {α : Type} (pre : List α) (a : α) (h : pre.length < 1000000) : wrap64 ((pre.length : Int) + 1) = ((pre ++ [a]).length : Int) := by
  rw [w64 (by omega) (by omega)]; simp
/-- What strings.Join hands back. -/
def joinB (l : List ByteArray) (s : ByteArray) : ByteArray := ⟨(Lib.join (l.map (·.data.toList)) s.data.toList).toArray⟩
theorem join_snoc (l : List (List UInt8)) (a s : List UInt8) : Lib.join (l ++ [a]) s = if l = [] then a else Lib.join l s ++ s ++ a := by
  cases l with
  | nil => simp [Lib.join_one]
  | cons x r =>
    rw [if_neg (by simp), List.cons_append, Lib.join_cons, Lib.join_cons]
    simp [Lib.joinTail]
theorem ba_app (a b : List UInt8) : (⟨a.toArray⟩ : ByteArray) ++ (⟨b.toArray⟩ : ByteArray) = ⟨(a ++ b).toArray⟩ := by
  apply ByteArray.ext
  simp
theorem ba_list (b : ByteArray) : (⟨b.data.toList.toArray⟩ : ByteArray) = b := by
  apply ByteArray.ext
  simp
theorem joinB_snoc (l : List ByteArray) (a s : ByteArray) : joinB (l ++ [a]) s = if l = [] then a else joinB l s ++ s ++ a := by
  unfold joinB
  rw [List.map_append, List.map_cons, List.map_nil, join_snoc]
  by_cases h : l = []
  · subst h
    simp [ba_list]
  · rw [if_neg (by simpa using h), if_neg h]
    rw [← ba_app, ← ba_app, ba_list, ba_list]
theorem ba_size (a b : ByteArray) : (a ++ b).size = a.size + b.size := by simp
theorem rdOf_mid (pre suf : List ByteArray) (a : ByteArray) : rdOf ByteArray.empty (pre ++ a :: suf) (pre.length : Int) = a := by
  simp [rdOf, List.getD_eq_getElem?_getD]
theorem spec_join_from (s : ByteArray) (B : Nat) (hs : s.size ≤ B) (l : List ByteArray) (hB : ∀ x ∈ l, x.size ≤ B) (hl : l.length * (2 * B) ≤ 1000000000000000) (hl' : l.length ≤ 1000000) : ∀ (suf pre : List ByteArray), l = pre ++ suf → (joinB pre s).size ≤ pre.length * (2 * B) →
    Ev (fun k => spec_Join.l0 k s (joinB pre s) l (l.length : Int) (pre.length : Int)) (joinB l s) := by
  intro suf
  induction suf with
  | nil =>
    intro pre h hz
    obtain rfl : l = pre := by simp [h]
    refine ev_shift ?_
    simp only [spec_Join.l0]
    exact ev_neg (by omega) (ev_now _)
  | cons a suf ih =>
    intro pre h hz
    have hlen : l.length = pre.length + (suf.length + 1) := by subst h; simp
    have hr : rdOf ByteArray.empty l (pre.length : Int) = a := by subst h; exact rdOf_mid pre suf a
    have ha : a.size ≤ B := hB a (by subst h; simp)
    have hmul : pre.length * (2 * B) + 2 * B ≤ l.length * (2 * B) := by
      rw [hlen, Nat.add_mul, Nat.add_mul, Nat.one_mul]; omega
    have hn : wrap64 ((pre.length : Int) + 1) = ((pre ++ [a]).length : Int) := by rw [wsucc _ (by omega)]; simp
    have hz' : (joinB (pre ++ [a]) s).size ≤ (pre ++ [a]).length * (2 * B) := by
      rw [joinB_snoc]
      have : (pre ++ [a]).length * (2 * B) = pre.length * (2 * B) + 2 * B := by rw [List.length_append]; simp [Nat.add_mul]
      rw [this]
      by_cases e : pre = []
      · rw [if_pos e]; omega
      · rw [if_neg e, ba_size, ba_size]; omega
    have hi := ih (pre ++ [a]) (by simp [h]) hz'
    refine ev_shift ?_
    simp only [spec_Join.l0]
    refine ev_pos (by omega) (ev_pos (by omega) (ev_pos (by omega) ?_))
    rw [hr, hn]
    rw [joinB_snoc] at hi
    by_cases e : pre = []
    · rw [if_pos e] at hi
      have e0 : (joinB pre s) = (⟨#[]⟩ : ByteArray) := by subst e; rfl
      refine ev_neg (by subst e; simp) (ev_pos (by rw [e0]; show 0 + a.size ≤ _; omega) ?_)
      rw [e0]
      have : (⟨#[]⟩ : ByteArray) ++ a = a := by
        apply ByteArray.ext; simp
      rw [this]
      exact hi
    · rw [if_neg e] at hi
      have : 0 < pre.length := List.length_pos_iff.mpr e
      refine ev_pos (by omega) (ev_pos (by omega) (ev_pos (by rw [ba_size]; omega) ?_))
      exact hi
theorem spec_join_ev (s : ByteArray) (B : Nat) (hs : s.size ≤ B) (l : List ByteArray) (hB : ∀ x ∈ l, x.size ≤ B) (hl : l.length * (2 * B) ≤ 1000000000000000) (hl' : l.length ≤ 1000000) : Ev (fun k => spec_Join.f k l s) (joinB l s) := by
  unfold spec_Join.f
  exact spec_join_from s B hs l hB hl hl' l [] (by simp) (by show 0 ≤ _; omega)
theorem joinB_size (s : ByteArray) (B : Nat) (hs : s.size ≤ B) : ∀ (l : List ByteArray), (∀ x ∈ l, x.size ≤ B) → (joinB l s).size ≤ l.length * (2 * B) := by
  intro l
  suffices h : ∀ (suf pre : List ByteArray), (∀ x ∈ pre ++ suf, x.size ≤ B) → (joinB pre s).size ≤ pre.length * (2 * B) → (joinB (pre ++ suf) s).size ≤ (pre ++ suf).length * (2 * B) from fun hB => h l [] (by simpa using hB) (by show 0 ≤ _; omega)
  intro suf
  induction suf with
  | nil => intro pre _ h; simpa using h
  | cons a suf ih =>
    intro pre hB h
    have := ih (pre ++ [a]) (by simpa using hB) (by
      rw [joinB_snoc]
      have ha : a.size ≤ B := hB a (by simp)
      have : (pre ++ [a]).length * (2 * B) = pre.length * (2 * B) + 2 * B := by rw [List.length_append]; simp [Nat.add_mul]
      rw [this]
      by_cases e : pre = []
      · rw [if_pos e]; omega
      · rw [if_neg e, ba_size, ba_size]; omega)
    simpa using this
theorem impl_join_eq (s : ByteArray) (B : Nat) (hs : s.size ≤ B) (l : List ByteArray) (hB : ∀ x ∈ l, x.size ≤ B) (hl : l.length * (2 * B) ≤ 140737488355328) (hl' : l.length ≤ 1000000) : impl_Join.f l s = some (joinB l s) := by
  unfold impl_Join.f strings_Join.f
  have h1 := joinB_size s B hs l hB
  have h2 : (joinB l s).size = (Lib.join (l.map (·.data.toList)) s.data.toList).length := by unfold joinB; rfl
  rw [if_pos (by omega), if_pos (by omega)]
  rfl
def cellB (x W y c : Nat) : UInt8 := if x.testBit (y * W + c) = true then 35 else 46
def rowL (x W y c : Nat) : List UInt8 := (List.range c).map (cellB x W y)
def rowB (x W y : Nat) : ByteArray := ⟨(rowL x W y W).toArray⟩
def rowsB (x W h : Nat) : List ByteArray := (List.range h).map (rowB x W)
def fmtB (x W H : Nat) : ByteArray := joinB (rowsB x W H) ⟨#[47]⟩
theorem rowL_succ (x W y c : Nat) : rowL x W y (c + 1) = rowL x W y c ++ [cellB x W y c] := by simp [rowL, List.range_succ]
theorem rowsB_succ (x W h : Nat) : rowsB x W (h + 1) = rowsB x W h ++ [rowB x W h] := by simp [rowsB, List.range_succ]
theorem rowL_len (x W y c : Nat) : (rowL x W y c).length = c := by simp [rowL]
theorem rowsB_len (x W h : Nat) : (rowsB x W h).length = h := by simp [rowsB]
theorem rowB_size (x W y : Nat) : (rowB x W y).size = W := by
  show (rowL x W y W).toArray.size = W
  simp [rowL_len]
theorem rowsB_all (x W h : Nat) : ∀ b ∈ rowsB x W h, b.size ≤ W := by
  intro b hb
  simp only [rowsB, List.mem_map] at hb
  obtain ⟨y, _, rfl⟩ := hb
  rw [rowB_size]
  exact Nat.le_refl _
theorem cell_idx (y W c : Nat) (hy : y ≤ 6) (hW : W ≤ 6) (hc : c ≤ 6) : wrap64 ((wrap64 ((y : Int) * (W : Int))) + (c : Int)) = ((y * W + c : Nat) : Int) ∧ y * W + c ≤ 42 := by
  have h : y * W ≤ 6 * 6 := Nat.mul_le_mul hy hW
  have e : (y : Int) * (W : Int) = ((y * W : Nat) : Int) := by rw [Int.natCast_mul]
  have e2 : wrap64 ((y * W : Nat) : Int) = ((y * W : Nat) : Int) := w64 (by omega) (by omega)
  rw [e, e2, w64 (by omega) (by omega)]
  exact ⟨by omega, by omega⟩
theorem row_ba (x W y c : Nat) : (⟨(rowL x W y c).toArray⟩ : ByteArray) ++ (⟨#[cellB x W y c]⟩ : ByteArray) = ⟨(rowL x W y (c + 1)).toArray⟩ := by
  rw [rowL_succ, ← ba_app]
theorem spec_row (x W H y : Nat) (hx : x < 2 ^ 62) (hW : W ≤ 6) (hy : y ≤ 6) (rows : List ByteArray) (hr : rows.length ≤ 6) (r : ByteArray) (hn : Ev (fun k => spec_FormatShape.l0 k W H x (rows ++ [rowB x W y]) (wrap64 ((y : Int) + 1))) r) :
    ∀ (d c : Nat), c + d = W → Ev (fun k => spec_FormatShape.l1 k W H x rows y ⟨(rowL x W y c).toArray⟩ (c : Int)) r := by
  intro d
  induction d with
  | zero =>
    intro c hc
    obtain rfl : c = W := by omega
    refine ev_shift ?_
    simp only [spec_FormatShape.l1]
    exact ev_neg (by omega) (ev_pos (by omega) hn)
  | succ d ih =>
    intro c hc
    obtain ⟨hi, hi'⟩ := cell_idx y W c hy hW (by omega)
    have hs : (⟨(rowL x W y c).toArray⟩ : ByteArray).size = c := by
      show (rowL x W y c).toArray.size = c
      simp [rowL_len]
    have := ih (c + 1) (by omega)
    refine ev_shift ?_
    simp only [spec_FormatShape.l1]
    rw [hi]
    refine ev_pos (by omega) (ev_pos (by omega) ?_)
    rw [wsucc _ (by omega)]
    by_cases b : x.testBit (y * W + c) = true
    · refine ev_pos ((bit_eq1 x _ hx (by omega)).mpr b) (ev_pos (by omega) ?_)
      have e : cellB x W y c = 35 := by unfold cellB; rw [if_pos b]
      have := row_ba x W y c
      rw [e] at this
      rw [this]
      exact ih (c + 1) (by omega)
    · refine ev_neg (fun g => b ((bit_eq1 x _ hx (by omega)).mp g)) (ev_pos (by omega) ?_)
      have e : cellB x W y c = 46 := by unfold cellB; rw [if_neg b]
      have := row_ba x W y c
      rw [e] at this
      rw [this]
      exact ih (c + 1) (by omega)
theorem spec_rows (x W H : Nat) (hx : x < 2 ^ 62) (hW : W ≤ 6) (hH : H ≤ 6) : ∀ (d y : Nat), y + d = H → Ev (fun k => spec_FormatShape.l0 k W H x (rowsB x W y) (y : Int)) (fmtB x W H) := by
  intro d
  induction d with
  | zero =>
    intro y hy
    obtain rfl : y = H := by omega
    refine ev_shift ?_
    simp only [spec_FormatShape.l0]
    refine ev_neg (by omega) (ev_bind (spec_join_ev _ (W + 1) (by show 1 ≤ _; omega) _ (fun b hb => by have := rowsB_all x W y b hb; omega) ?_ ?_) (ev_now _))
    · rw [rowsB_len]
      have : y * (2 * (W + 1)) ≤ 6 * 14 := Nat.mul_le_mul hH (by omega)
      omega
    · rw [rowsB_len]; omega
  | succ d ih =>
    intro y hy
    refine ev_shift ?_
    simp only [spec_FormatShape.l0]
    refine ev_pos (by omega) ?_
    refine spec_row x W H y hx hW (by omega) _ (by rw [rowsB_len]; omega) _ ?_ W 0 (by omega)
    rw [wsucc _ (by omega), ← rowsB_succ]
    exact ih (y + 1) (by omega)
def rowI (x W y c : Nat) : List Int := (List.range c).map (fun c => if x.testBit (y * W + c) = true then 35 else 46)
theorem rowI_succ (x W y c : Nat) : rowI x W y (c + 1) = rowI x W y c ++ [if x.testBit (y * W + c) = true then 35 else 46] := by simp [rowI, List.range_succ]
theorem rowI_str (x W y : Nat) : strOfNums (rowI x W y W) = rowB x W y := by
  unfold strOfNums rowB rowL rowI
  rw [List.map_map]
  congr 2
  apply List.map_congr_left
  intro c _
  simp only [Function.comp, cellB]
  split <;> rfl
theorem impl_row (x W H y : Nat) (hx : x < 2 ^ 62) (hW : W ≤ 6) (hy : y ≤ 6) (rows : List ByteArray) (hr : rows.length ≤ 6) (r : ByteArray) (hn : Ev (fun k => impl_FormatShape.l0 k W x (rows ++ [rowB x W y]) H (wrap64 ((y : Int) + 1))) r) :
    ∀ (d c : Nat), c + d = W → Ev (fun k => impl_FormatShape.l1 k W x rows y (rowI x W y c) H y W (c : Int)) r := by
  intro d
  induction d with
  | zero =>
    intro c hc
    obtain rfl : c = W := by omega
    refine ev_shift ?_
    simp only [impl_FormatShape.l1]
    refine ev_neg (by omega) (ev_pos (by omega) ?_)
    rw [rowI_str]
    exact hn
  | succ d ih =>
    intro c hc
    obtain ⟨hi, hi'⟩ := cell_idx y W c hy hW (by omega)
    have hs : (rowI x W y c).length = c := by simp [rowI]
    have hih := ih (c + 1) (by omega)
    rw [rowI_succ] at hih
    refine ev_shift ?_
    simp only [impl_FormatShape.l1]
    rw [hi]
    refine ev_pos (by omega) (ev_bind0 (has_eq x _ hx (by omega)) ?_)
    rw [wsucc _ (by omega)]
    by_cases b : x.testBit (y * W + c) = true
    · rw [if_pos b] at hih
      exact ev_pos b (ev_pos (by omega) hih)
    · rw [if_neg b] at hih
      exact ev_neg b (ev_pos (by omega) hih)
theorem impl_rows (x W H : Nat) (hx : x < 2 ^ 62) (hW : W ≤ 6) (hH : H ≤ 6) : ∀ (d y : Nat), y + d = H → Ev (fun k => impl_FormatShape.l0 k W x (rowsB x W y) H (y : Int)) (fmtB x W H) := by
  intro d
  induction d with
  | zero =>
    intro y hy
    obtain rfl : y = H := by omega
    refine ev_shift ?_
    simp only [impl_FormatShape.l0]
    refine ev_neg (by omega) (ev_bind0 (impl_join_eq _ (W + 1) (by show 1 ≤ _; omega) _ (fun b hb => by have := rowsB_all x W y b hb; omega) ?_ ?_) (ev_now _))
    · rw [rowsB_len]
      have : y * (2 * (W + 1)) ≤ 6 * 14 := Nat.mul_le_mul hH (by omega)
      omega
    · rw [rowsB_len]; omega
  | succ d ih =>
    intro y hy
    refine ev_shift ?_
    simp only [impl_FormatShape.l0]
    refine ev_pos (by omega) ?_
    refine impl_row x W H y hx hW (by omega) _ (by rw [rowsB_len]; omega) _ ?_ W 0 (by omega)
    rw [wsucc _ (by omega), ← rowsB_succ]
    exact ih (y + 1) (by omega)
theorem ok_nat3 {w h m : Int} (c : okS w h m = true) : ∃ x W H : Nat, m = x ∧ w = W ∧ h = H ∧ x < 2 ^ 62 ∧ x < 2 ^ (W * H) ∧ 1 ≤ W ∧ W ≤ 6 ∧ 1 ≤ H ∧ H ≤ 6 := by
  obtain ⟨hT, h0, h1⟩ := okS_iff.mp c
  refine ⟨m.toNat, w.toNat, h.toNat, by omega, by omega, by omega, ?_, ?_, by omega, by omega, by omega, by omega⟩
  · have h36 := (shl_table w h (isT_iff.mpr hT)).2.1
    have : m.toNat < 68719476736 := by omega
    omega
  · have ew : w = (w.toNat : Int) := by omega
    have eh : h = (h.toNat : Int) := by omega
    have em : m = (m.toNat : Int) := by omega
    rw [ew, eh, em, ← Int.natCast_mul, Int.toNat_natCast] at h1
    exact_mod_cast h1
theorem spec_format (w h m : Int) : ∃ b, Ev (fun k => spec_FormatShape.f k w h m) b ∧ Ev (fun k => impl_FormatShape.f k w h m) b ∧ (okS w h m = false → b = ⟨#[]⟩) ∧ ∀ x W H : Nat, okS w h m = true → m = x → w = W → h = H → b = fmtB x W H := by
  by_cases c : okS w h m = true
  · obtain ⟨x, W, H, rfl, rfl, rfl, hx, _, _, hW, _, hH⟩ := ok_nat3 c
    refine ⟨fmtB x W H, ?_, ?_, fun g => by simp [c] at g, fun x' W' H' _ e1 e2 e3 => by rw [Int.ofNat_inj.mp e1, Int.ofNat_inj.mp e2, Int.ofNat_inj.mp e3]⟩
    · unfold spec_FormatShape.f
      exact ev_bind0 (spec_shapeOk _ _ _) (ev_pos c (spec_rows x W H hx hW hH H 0 (by omega)))
    · unfold impl_FormatShape.f
      exact ev_bind0 (impl_shapeOk _ _ _) (ev_pos c (impl_rows x W H hx hW hH H 0 (by omega)))
  · refine ⟨⟨#[]⟩, ?_, ?_, fun _ => rfl, fun _ _ _ g => absurd g c⟩
    · unfold spec_FormatShape.f
      exact ev_bind0 (spec_shapeOk _ _ _) (ev_neg c (ev_now _))
    · unfold impl_FormatShape.f
      exact ev_bind0 (impl_shapeOk _ _ _) (ev_neg c (ev_now _))
theorem FnExactFormatShape : laws_FnExactFormatShape.Pure := by
  intro w h m _ _ _
  apply ev_rounds
  unfold laws_FnExactFormatShape.f
  obtain ⟨b, h1, h2, _⟩ := spec_format w h m
  exact ev_bind h1 (ev_bind h2 (ev_pos rfl (ev_now _)))

end Go.Proofs.Ytonnlbdocpkfdaa.Pure
