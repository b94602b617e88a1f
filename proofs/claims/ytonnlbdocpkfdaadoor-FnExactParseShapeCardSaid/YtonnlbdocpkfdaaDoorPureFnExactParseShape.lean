/- ParseShape of the program and of the reference answer alike, for all texts of at most 1048576 bytes; for a longer one the law says true. -/
import Derived.Test.YtonnlbdocpkfdaaDoorQFnExactParseShapex3
namespace Go.Proofs.YtonnlbdocpkfdaaDoor.Pure
open Go.RowKit Go.Proofs.YtonnlbdocpkfdaaDoor.QFnExactParseShape Go.Proofs.YtonnlbdocpkfdaaDoorW.PrintWords Go.Proofs.YtonnlbdocpkfdaaDoorW.PrintLast Go.Proofs.YtonnlbdocpkfdaaDoorW.PrintMore
set_option linter.unusedVariables false
set_option linter.unusedSimpArgs false

/- Eventually: with enough rounds the answer is r. -/
theorem ev_now {α : Type} (r : α) : Ev (fun _ => some r) r := Ev.now r
theorem ev_shift {α : Type} {g : Nat → Option α} {r : α} (h : Ev (fun k => g (k + 1)) r) : Ev g r := by
  obtain ⟨K, hK⟩ := h
  exact ⟨K + 1, fun k hk => by
    obtain ⟨m, rfl⟩ : ∃ m, k = m + 1 := ⟨k - 1, by omega⟩
    exact hK m (by omega)⟩
theorem ev_bind {α β : Type} {g : Nat → Option α} {f : Nat → α → Option β} {a : α} {r : β} (h : Ev g a) (k : Ev (fun n => f n a) r) : Ev (fun n => (g n).bind (f n)) r := Ev.bind h k
theorem ev_bind0 {α β : Type} {o : Option α} {f : Nat → α → Option β} {a : α} {r : β} (h : o = some a) (k : Ev (fun n => f n a) r) : Ev (fun n => o.bind (f n)) r := by
  subst h; exact k
theorem ev_pos {α : Type} {A B : Nat → Option α} {r : α} {c : Prop} [Decidable c] (h : c) (k : Ev A r) : Ev (fun n => if c then A n else B n) r := by
  simpa only [if_pos h] using k
theorem ev_neg {α : Type} {A B : Nat → Option α} {r : α} {c : Prop} [Decidable c] (h : ¬ c) (k : Ev B r) : Ev (fun n => if c then A n else B n) r := by
  simpa only [if_neg h] using k
theorem ev_done {α : Type} {o : Option α} {r : α} (h : o = some r) : Ev (fun _ => o) r := ⟨0, fun _ _ => h⟩
theorem ev_eq {α : Type} {g : Nat → Option α} {r r' : α} (h : Ev g r) (e : r = r') : Ev g r' := e ▸ h
theorem ev_rounds {α : Type} {g : Nat → Option α} {r : α} (h : Ev g r) : ∃ k, g k = some r := Ev.rounds h
theorem ev_uniq {α : Type} {g : Nat → Option α} {r r' : α} (h : Ev g r) (h' : Ev g r') : r = r' := by
  obtain ⟨K, hK⟩ := h
  obtain ⟨K', hK'⟩ := h'
  have a := hK (max K K') (Nat.le_max_left _ _)
  have b := hK' (max K K') (Nat.le_max_right _ _)
  rw [a] at b
  exact Option.some.inj b
theorem wf64 {n : Int} (h : (Lit.int .i64 n).wf = true) : -9223372036854775808 ≤ n ∧ n ≤ 9223372036854775807 := by
  have a : IntKind.i64.min = -9223372036854775808 := rfl
  have b : IntKind.i64.max = 9223372036854775807 := rfl
  simp [Lit.wf] at h
  omega
theorem w64 {n : Int} (h : -9223372036854775808 ≤ n) (h' : n ≤ 9223372036854775807) : wrap64 n = n := by
  unfold wrap64; omega
theorem wadd (a b : Nat) (h : a + b < 1000000000000) : wrap64 ((a : Int) + (b : Int)) = ((a + b : Nat) : Int) := by
  rw [w64 (by omega) (by omega)]; omega
theorem wsucc (a : Nat) (h : a < 1000000000000) : wrap64 ((a : Int) + 1) = ((a + 1 : Nat) : Int) := by
  rw [w64 (by omega) (by omega)]; omega
theorem wsmall (n : Int) (h : -1000000000000 ≤ n ∧ n ≤ 1000000000000) : wrap64 n = n := w64 (by omega) (by omega)
/-! Texts cut at each 47. -/
def ba (l : List UInt8) : ByteArray := ⟨l.toArray⟩
theorem ba_data (l : List UInt8) : (ba l).data.toList = l := by simp [ba]
theorem ba_of (s : ByteArray) : ba s.data.toList = s := by simp [ba]
theorem ba_len (l : List UInt8) : (ba l).size = l.length := by simp [ba, ByteArray.size]
theorem ba_inj {a b : List UInt8} (h : ba a = ba b) : a = b := by rw [← ba_data a, h, ba_data]
def cont (p : List UInt8) : List (List UInt8) → List (List UInt8)
  | [] => [p]
  | r :: R => (p ++ r) :: R
def spl : List UInt8 → List (List UInt8)
  | [] => [[]]
  | b :: l => if b = 47 then [] :: spl l else cont [b] (spl l)
theorem cont_ne (p : List UInt8) (R : List (List UInt8)) : cont p R ≠ [] := by cases R <;> simp [cont]
theorem spl_ne (l : List UInt8) : spl l ≠ [] := by
  cases l with
  | nil => simp [spl]
  | cons b l =>
    simp only [spl]
    split
    · simp
    · exact cont_ne _ _
theorem cont_nil {R : List (List UInt8)} (h : R ≠ []) : cont [] R = R := by
  cases R with
  | nil => exact absurd rfl h
  | cons r R => rfl
theorem cont_cont (p q : List UInt8) (R : List (List UInt8)) : cont p (cont q R) = cont (p ++ q) R := by
  cases R <;> simp [cont]
theorem splitK_spl : ∀ l : List UInt8, Lib.splitK [47] 0 (Lib.count l [47]) l = spl l := by
  intro l
  induction l with
  | nil => rw [Lib.count_one]; rfl
  | cons b l ih =>
    by_cases h : b = 47
    · subst h
      rw [Lib.count_cons_eq, Nat.add_comm]
      have e : Lib.index (47 :: l) [47] = 0 := by simp [Lib.index]
      simp only [Lib.splitK, e, spl]
      rw [if_neg (by decide), if_pos trivial]
      show [] :: Lib.splitK [47] 0 (Lib.count l [47]) l = _
      rw [ih]
    · rw [Lib.count_cons_ne b 47 l h]
      have hi : Lib.index (b :: l) [47] = if Lib.index l [47] == -1 then -1 else Lib.index l [47] + 1 := by
        have : ([47] : List UInt8).isPrefixOf (b :: l) = false := by
          simp only [List.isPrefixOf, Bool.and_true]
          simpa using fun e : (47 : UInt8) = b => h e.symm
        simp only [Lib.index, this]
        rfl
      simp only [spl]
      rw [if_neg h]
      cases hk : Lib.count l [47] with
      | zero =>
        rw [hk] at ih
        rw [← ih]
        rfl
      | succ k =>
        rw [hk] at ih
        rw [← ih]
        simp only [Lib.splitK, hi]
        by_cases c : Lib.index l [47] = -1
        · rw [if_pos (by simp [c]), if_pos (by simp [c])]
          rfl
        · have hg := Lib.index_ge l [47]
          obtain ⟨i, hi2⟩ := Int.eq_ofNat_of_zero_le (show 0 ≤ Lib.index l [47] by omega)
          have c' : (Lib.index l [47] == -1) = false := beq_eq_false_iff_ne.mpr c
          rw [c', hi2]
          have e1 : (((i : Int) + 1 == -1) = true) = False := by simp; omega
          simp only [Bool.false_eq_true, if_false, e1]
          have e2 : ((i : Int) + 1).toNat = i + 1 := by omega
          rw [e2]
          simp [cont]
theorem splitB_ba (s : ByteArray) : Lib.splitB ⟨#[47]⟩ 0 (Lib.countB s ⟨#[47]⟩) s = (spl s.data.toList).map ba := by
  have h := Lib.splitB_data ⟨#[47]⟩ 0 (Lib.countB s ⟨#[47]⟩) s
  have e : Lib.splitK [47] 0 (Lib.count s.data.toList [47]) s.data.toList = spl s.data.toList := splitK_spl _
  have h2 : (Lib.splitB ⟨#[47]⟩ 0 (Lib.countB s ⟨#[47]⟩) s).map (fun x : ByteArray => x.data.toList) = spl s.data.toList := h.trans e
  rw [← h2, List.map_map]
  have : (ba ∘ fun x : ByteArray => x.data.toList) = id := funext fun x => ba_of x
  rw [this, List.map_id]
theorem join_spl : ∀ l : List UInt8, Lib.join (spl l) [47] = l := by
  intro l
  induction l with
  | nil => rfl
  | cons b l ih =>
    obtain ⟨r, R, hr⟩ : ∃ r R, spl l = r :: R := List.exists_cons_of_ne_nil (spl_ne l)
    rw [hr, Lib.join_cons] at ih
    simp only [spl]
    by_cases h : b = 47
    · rw [if_pos h, hr, Lib.join_cons]
      have : Lib.joinTail [47] (r :: R) = 47 :: (r ++ Lib.joinTail [47] R) := by simp [Lib.joinTail]
      rw [this, ih, h]; rfl
    · rw [if_neg h, hr]
      simp only [cont]
      rw [Lib.join_cons, List.append_assoc, ih]; rfl
theorem spl_no (r l : List UInt8) (h : ∀ b ∈ r, b ≠ 47) : spl (r ++ l) = cont r (spl l) := by
  induction r with
  | nil => rw [cont_nil (spl_ne l)]; rfl
  | cons b r ih =>
    rw [List.cons_append]
    simp only [spl]
    rw [if_neg (h b (by simp)), ih (fun b hb => h b (by simp [hb])), cont_cont]
    rfl
theorem spl_join : ∀ F : List (List UInt8), F ≠ [] → (∀ r ∈ F, ∀ b ∈ r, b ≠ 47) → spl (Lib.join F [47]) = F := by
  intro F
  induction F with
  | nil => intro h _; exact absurd rfl h
  | cons r F ih =>
    intro _ h
    cases F with
    | nil =>
      rw [Lib.join_one]
      have := spl_no r [] (h r (by simp))
      rw [List.append_nil] at this
      rw [this]
      simp [spl, cont]
    | cons s F =>
      have e : Lib.join (r :: s :: F) [47] = r ++ 47 :: Lib.join (s :: F) [47] := by
        rw [Lib.join_cons, Lib.join_cons]
        simp [Lib.joinTail]
      rw [e, spl_no r _ (h r (by simp))]
      simp only [spl]
      rw [if_pos trivial, ih (by simp) (fun x hx => h x (by simp [hx]))]
      simp [cont]
theorem join_len : ∀ F : List (List UInt8), F ≠ [] → (Lib.join F [47]).length + 1 = F.flatten.length + F.length := by
  intro F
  induction F with
  | nil => intro h; exact absurd rfl h
  | cons r F ih =>
    intro _
    cases F with
    | nil => rw [Lib.join_one]; simp
    | cons s F =>
      have := ih (by simp)
      have e : Lib.join (r :: s :: F) [47] = r ++ 47 :: Lib.join (s :: F) [47] := by
        rw [Lib.join_cons, Lib.join_cons]
        simp [Lib.joinTail]
      rw [e]
      simp only [List.length_append, List.length_cons, List.flatten_cons] at this ⊢
      omega
/-- The reference's splitting. -/
theorem bt_mid (p q : List UInt8) (b : UInt8) : bt (ba (p ++ b :: q)) (p.length : Int) = (b.toNat : Int) := by
  have h : ((p.length : Int)).toNat < (ba (p ++ b :: q)).size := by rw [ba_len]; simp
  rw [← bt_at _ _ h]
  have e : (ba (p ++ b :: q))[((p.length : Int)).toNat]'h = (p ++ b :: q)[p.length]'(by simp) := by simp only [Int.toNat_natCast]; rfl
  rw [e]
  simp
theorem bt_47 : bt (⟨#[47]⟩ : ByteArray) 0 = 47 := by decide
theorem toNat_eq (b c : UInt8) : ((b.toNat : Int) = (c.toNat : Int)) ↔ b = c := by
  rw [Int.ofNat_inj, UInt8.toNat_inj]
theorem ext_ba (s : ByteArray) (a b : Nat) : s.extract a b = ba ((s.data.toList.drop a).take (b - a)) := by
  apply ByteArray.ext
  apply Array.toList_inj.mp
  simp [ba]
theorem any_l0 (s : ByteArray) (hs : s.size ≤ 1000000000) (r : List ByteArray) : ∀ (suf pre : List UInt8) (a : Nat) (out : List ByteArray), s.data.toList = pre ++ suf → a ≤ pre.length → out.length ≤ pre.length →
    Ev (fun k => spec_SplitAny.l0 k s (⟨#[47]⟩ : ByteArray) out (a : Int) (pre.length : Int)) (out ++ (cont ((s.data.toList.drop a).take (pre.length - a)) (spl suf)).map ba) := by
  have hsz : s.data.toList.length = s.size := data_length s
  have h1 : ((⟨#[47]⟩ : ByteArray).size : Int) = 1 := rfl
  intro suf
  induction suf with
  | nil =>
    intro pre a out h ha ho
    have hl : pre.length = s.size := by rw [← hsz, h]; simp
    refine ev_shift ?_
    simp only [spec_SplitAny.l0]
    refine ev_neg (by omega) (ev_pos (by omega) (ev_pos (by omega) (ev_pos (by omega) (ev_eq (ev_now _) ?_))))
    rw [ext_ba, hl]
    have e : ((a : Int)).toNat = a := by omega
    rw [e]
    simp [spl, cont]
  | cons b suf ih =>
    intro pre a out h ha ho
    have hl : s.size = pre.length + (suf.length + 1) := by rw [← hsz, h]; simp
    have hb : bt s (pre.length : Int) = (b.toNat : Int) := by rw [← ba_of s, h]; exact bt_mid pre suf b
    have h47 : (47 : Int) = (((47 : UInt8).toNat : Nat) : Int) := by decide
    refine ev_shift ?_
    simp only [spec_SplitAny.l0]
    refine ev_pos (by omega) (ev_shift ?_)
    simp only [spec_SplitAny.l1]
    rw [hb, bt_47, h1]
    refine ev_pos (by decide) (ev_pos (by omega) (ev_pos (by omega) (ev_pos (by decide) ?_)))
    have hsuf : s.data.toList = (pre ++ [b]) ++ suf := by simp [h]
    by_cases c : b = 47
    · refine ev_pos (by rw [h47]; exact (toNat_eq _ _).mpr c) (ev_pos (by omega) (ev_pos (by omega) (ev_pos (by omega) (ev_pos (by omega) ?_))))
      have hn := ih (pre ++ [b]) (pre.length + 1) (out ++ [s.extract a pre.length]) hsuf (by simp) (by simp; omega)
      rw [List.length_append, List.length_singleton] at hn
      rw [wsucc _ (by omega), Int.toNat_natCast, Int.toNat_natCast]
      refine ev_eq hn ?_
      rw [ext_ba, Nat.sub_self, List.take_zero, cont_nil (spl_ne suf)]
      simp only [spl]
      rw [if_pos c]
      simp [cont]
    · refine ev_neg (by rw [h47]; exact fun g => c ((toNat_eq _ _).mp g)) (ev_shift ?_)
      simp only [spec_SplitAny.l1]
      have e01 : wrap64 ((0 : Int) + 1) = 1 := by rw [w64 (by omega) (by omega)]; rfl
      rw [e01, h1]
      refine ev_neg (by decide) ?_
      have hn := ih (pre ++ [b]) a out hsuf (by simp; omega) (by simp; omega)
      rw [List.length_append, List.length_singleton] at hn
      rw [wsucc _ (by omega)]
      refine ev_eq hn ?_
      simp only [spl]
      rw [if_neg c, cont_cont]
      have e : (s.data.toList.drop a).take (pre.length + 1 - a) = (s.data.toList.drop a).take (pre.length - a) ++ [b] := by
        rw [show pre.length + 1 - a = (pre.length - a) + 1 by omega, List.take_add_one, List.getElem?_drop, show a + (pre.length - a) = pre.length by omega, h]
        simp
      rw [e]
theorem any_ev (s : ByteArray) (hs : s.size ≤ 1000000000) : Ev (fun k => spec_SplitAny.f k s (⟨#[47]⟩ : ByteArray)) ((spl s.data.toList).map ba) := by
  unfold spec_SplitAny.f
  have := any_l0 s hs [] s.data.toList [] 0 [] rfl (Nat.le_refl _) (Nat.le_refl _)
  refine ev_eq this ?_
  simp only [List.nil_append, List.length_nil, Nat.sub_self, List.take_zero]
  rw [cont_nil (spl_ne _)]
theorem and_u64 (a b : Nat) (ha : a < 2 ^ 64) (hb : b < 2 ^ 64) : Go.bits .and .u64 (a : Int) (b : Int) = ((a &&& b : Nat) : Int) :=
  (Go.bits_nat .u64 64 (by decide) (fun n h0 h1 => by unfold Go.IntKind.wrap; simp [Go.IntKind.bits, Go.IntKind.signed]; omega) a b ha hb).1
theorem and_i64 (a b : Nat) (ha : a < 2 ^ 63) (hb : b < 2 ^ 63) : Go.bits .and .i64 (a : Int) (b : Int) = ((a &&& b : Nat) : Int) :=
  (Go.bits_nat .i64 63 (by decide) (fun n h0 h1 => by rw [Go.IntKind.wrap_i64]; omega) a b ha hb).1
theorem or_i64 (a b : Nat) (ha : a < 2 ^ 63) (hb : b < 2 ^ 63) : Go.bits .or .i64 (a : Int) (b : Int) = ((a ||| b : Nat) : Int) :=
  (Go.bits_nat .i64 63 (by decide) (fun n h0 h1 => by rw [Go.IntKind.wrap_i64]; omega) a b ha hb).2
theorem u64_nat (a : Nat) (ha : a < 2 ^ 64) : IntKind.u64.wrap (a : Int) = (a : Int) := by
  unfold Go.IntKind.wrap; simp [Go.IntKind.bits, Go.IntKind.signed]; omega
theorem and1 (x : Nat) : x &&& 1 = x % 2 := Nat.and_one_is_mod x
theorem within_eq (a b c : Int) : impl_within.f a b c = some (decide (b ≤ a ∧ a ≤ c)) := by
  unfold impl_within.f; split <;> simp <;> omega
theorem in_eq (a b c : Int) : spec_l01In.f a b c = some (decide (b ≤ a ∧ a ≤ c)) := by
  unfold spec_l01In.f; split <;> simp <;> omega
theorem mx_eq (a b : Int) : mx a b = max a b := by unfold mx; split <;> omega
theorem mn_eq (a b : Int) : mn a b = min a b := by unfold mn; split <;> omega
/-- A table of w columns and h rows has from 1 to 6 of each; a mask has its bits below w * h. -/
def isT (w h : Int) : Bool := decide (1 ≤ w ∧ w ≤ 6 ∧ 1 ≤ h ∧ h ≤ 6)
def okS (w h m : Int) : Bool := isT w h && decide (0 ≤ m ∧ m < 2 ^ (w * h).toNat)
theorem isT_iff {w h : Int} : isT w h = true ↔ 1 ≤ w ∧ w ≤ 6 ∧ 1 ≤ h ∧ h ≤ 6 := by simp [isT]
theorem okS_iff {w h m : Int} : okS w h m = true ↔ (1 ≤ w ∧ w ≤ 6 ∧ 1 ≤ h ∧ h ≤ 6) ∧ 0 ≤ m ∧ m < 2 ^ (w * h).toNat := by simp [okS, isT]
theorem table_all {p : Int → Int → Bool} (H : (List.range 6).all (fun w => (List.range 6).all fun h => p ((w : Int) + 1) ((h : Int) + 1)) = true) (w h : Int) (hw : isT w h = true) : p w h = true := by
  obtain ⟨a, b, c, d⟩ := isT_iff.mp hw
  have e1 : w = (((w - 1).toNat : Nat) : Int) + 1 := by omega
  have e2 : h = (((h - 1).toNat : Nat) : Int) + 1 := by omega
  have := List.all_eq_true.mp (List.all_eq_true.mp H (w - 1).toNat (by simp; omega)) (h - 1).toNat (by simp; omega)
  rw [e1, e2]; exact this
theorem shl_table (w h : Int) (hw : isT w h = true) : (0 ≤ wrap64 (w * h) ∧ wrap64 (w * h) = w * h ∧ w * h ≤ 36 ∧ shl .i64 1 (wrap64 (w * h)) = 2 ^ (w * h).toNat) ∧ (2 : Int) ^ (w * h).toNat ≤ 68719476736 ∧ 2 ≤ (2 : Int) ^ (w * h).toNat := by
  have := table_all (p := fun w h => decide ((0 ≤ wrap64 (w * h) ∧ wrap64 (w * h) = w * h ∧ w * h ≤ 36 ∧ shl .i64 1 (wrap64 (w * h)) = 2 ^ (w * h).toNat) ∧ (2 : Int) ^ (w * h).toNat ≤ 68719476736 ∧ 2 ≤ (2 : Int) ^ (w * h).toNat)) (by decide +kernel) w h hw
  exact of_decide_eq_true this
theorem impl_isTable (w h : Int) : impl_isTable.f w h = some (isT w h) := by
  unfold impl_isTable.f
  simp only [within_eq, Option.bind_some]
  by_cases d : 1 ≤ w ∧ w ≤ 6
  · rw [if_pos (decide_eq_true d)]
    exact congrArg some (decide_eq_decide.mpr (by omega))
  · rw [if_neg (fun x => d (of_decide_eq_true x))]
    exact congrArg some (decide_eq_false (by omega)).symm
theorem impl_shapeOk (w h m : Int) : impl_ShapeOk.f w h m = some (okS w h m) := by
  unfold impl_ShapeOk.f
  simp only [impl_isTable, Option.bind_some]
  by_cases c : isT w h = true
  · obtain ⟨⟨a1, a2, a3, a4⟩, a5, a6⟩ := shl_table w h c
    rw [if_pos c, if_pos a1, a4]
    unfold okS
    rw [c]
    rw [Bool.true_and]
    by_cases g : m ≥ 0
    · rw [if_pos g]
      exact congrArg some (decide_eq_decide.mpr (by omega))
    · rw [if_neg g]
      exact congrArg some (decide_eq_false (by omega)).symm
  · rw [if_neg c]; unfold okS; simp [c]
theorem shr_nat (x i : Nat) (hi : i ≤ 64) : shr .i64 (x : Int) (i : Int) = ((x / 2 ^ i : Nat) : Int) := by
  unfold shr
  rw [show min ((i : Int)).toNat (IntKind.bits .i64) = i from by
    have : IntKind.bits .i64 = 64 := rfl
    omega]
  rw [Int.natCast_ediv, Int.natCast_pow]; rfl
theorem bit_at (x i : Nat) (hx : x < 2 ^ 62) (hi : i ≤ 64) : Go.bits .and .i64 (shr .i64 (x : Int) (i : Int)) 1 = ((x / 2 ^ i % 2 : Nat) : Int) := by
  rw [shr_nat x i hi]
  have h := and_i64 (x / 2 ^ i) 1 (Nat.lt_of_le_of_lt (Nat.div_le_self _ _) (by omega)) (by decide)
  rw [and1] at h
  exact h
theorem testBit_div (x i : Nat) : x.testBit i = decide (x / 2 ^ i % 2 = 1) := Nat.testBit_eq_decide_div_mod_eq
theorem bit_eq1 (x i : Nat) (hx : x < 2 ^ 62) (hi : i ≤ 64) : (Go.bits .and .i64 (shr .i64 (x : Int) (i : Int)) 1 = 1) ↔ x.testBit i = true := by
  rw [bit_at x i hx hi, testBit_div, decide_eq_true_iff]
  generalize x / 2 ^ i % 2 = q
  omega
theorem bit_eq0 (x i : Nat) (hx : x < 2 ^ 62) (hi : i ≤ 64) : (Go.bits .and .i64 (shr .i64 (x : Int) (i : Int)) 1 = 0) ↔ x.testBit i = false := by
  rw [bit_at x i hx hi, testBit_div, decide_eq_false_iff_not]
  have : x / 2 ^ i % 2 < 2 := Nat.mod_lt _ (by decide)
  generalize x / 2 ^ i % 2 = q at *
  omega
theorem shl_nat (i : Nat) (hi : i ≤ 62) : shl .i64 1 (i : Int) = ((2 ^ i : Nat) : Int) := by
  unfold shl
  rw [show min ((i : Int)).toNat (IntKind.bits .i64) = i from by
    have : IntKind.bits .i64 = 64 := rfl
    omega]
  have h : 2 ^ i ≤ 2 ^ 62 := Nat.pow_le_pow_right (by decide) hi
  have e : (1 : Int) * 2 ^ i = ((2 ^ i : Nat) : Int) := by rw [Int.natCast_pow]; simp
  rw [e, IntKind.wrap_i64]
  generalize 2 ^ i = q at *
  omega
theorem has_eq (x i : Nat) (hx : x < 2 ^ 62) (hi : i ≤ 64) : impl_has.f (x : Int) (i : Int) = some (x.testBit i) := by
  unfold impl_has.f
  rw [if_pos (by omega)]
  have h := bit_eq1 x i hx hi
  cases e : x.testBit i
  · rw [e] at h
    simp at h
    exact congrArg some (by simpa using h)
  · rw [e] at h
    simp at h
    exact congrArg some (by simpa using h)
theorem zero_test (x i : Nat) (h : x / 2 ^ i = 0) (j : Nat) (hj : i ≤ j) : x.testBit j = false := by
  apply Nat.testBit_lt_two_pow
  have : x < 2 ^ i := by
    rcases Nat.div_eq_zero_iff.mp h with h | h
    · have := Nat.two_pow_pos i; omega
    · exact h
  exact Nat.lt_of_lt_of_le this (Nat.pow_le_pow_right (by decide) hj)
/-- The cells of a mask from i on, d of them. -/
def cl (x : Nat) : Nat → Nat → List Nat
  | _, 0 => []
  | i, d + 1 => if x.testBit i then i :: cl x (i + 1) d else cl x (i + 1) d
theorem cl_none (x : Nat) (d : Nat) : ∀ i, x / 2 ^ i = 0 → cl x i d = [] := by
  induction d with
  | zero => intro i _; rfl
  | succ d ih =>
    intro i h
    simp only [cl]
    rw [zero_test x i h i (Nat.le_refl _)]
    simp
    apply ih
    rw [Nat.pow_succ, ← Nat.div_div_eq_div_mul, h]
theorem cl_len (x : Nat) (d : Nat) : ∀ i, (cl x i d).length ≤ d := by
  induction d with
  | zero => intro i; simp [cl]
  | succ d ih => intro i; have := ih (i + 1); simp only [cl]; split <;> simp <;> omega
theorem cl_mem (x : Nat) (d : Nat) : ∀ i j, j ∈ cl x i d ↔ (i ≤ j ∧ j < i + d ∧ x.testBit j = true) := by
  induction d with
  | zero => intro i j; simp [cl]; omega
  | succ d ih =>
    intro i j
    simp only [cl]
    by_cases h : x.testBit i = true
    · rw [if_pos h, List.mem_cons, ih]
      constructor
      · rintro (rfl | ⟨a, b, c⟩)
        · exact ⟨by omega, by omega, h⟩
        · exact ⟨by omega, by omega, c⟩
      · rintro ⟨a, b, c⟩
        by_cases e : j = i
        · exact .inl e
        · exact .inr ⟨by omega, by omega, c⟩
    · rw [if_neg h, ih]
      constructor
      · rintro ⟨a, b, c⟩; exact ⟨by omega, by omega, c⟩
      · rintro ⟨a, b, c⟩
        refine ⟨?_, by omega, c⟩
        rcases Nat.lt_or_ge i j with g | g
        · omega
        · obtain rfl : i = j := by omega
          exact absurd c h
theorem rd_mid (pre suf : List Int) (a : Int) : rd (pre ++ a :: suf) (pre.length : Int) = a := by
  simp [rd, List.getD_eq_getElem?_getD]
theorem next_len {α : Type} (pre : List α) (a : α) (h : pre.length < 1000000) : wrap64 ((pre.length : Int) + 1) = ((pre ++ [a]).length : Int) := by
  rw [w64 (by omega) (by omega)]; simp
/-- What strings.Join hands back. -/
def joinB (l : List ByteArray) (s : ByteArray) : ByteArray := ⟨(Lib.join (l.map (·.data.toList)) s.data.toList).toArray⟩
theorem join_snoc (l : List (List UInt8)) (a s : List UInt8) : Lib.join (l ++ [a]) s = if l = [] then a else Lib.join l s ++ s ++ a := by
  cases l with
  | nil => simp [Lib.join_one]
  | cons x r =>
    rw [if_neg (by simp), List.cons_append, Lib.join_cons, Lib.join_cons]
    simp [Lib.joinTail]
theorem ba_app (a b : List UInt8) : (⟨a.toArray⟩ : ByteArray) ++ (⟨b.toArray⟩ : ByteArray) = ⟨(a ++ b).toArray⟩ := by
  apply ByteArray.ext
  simp
theorem ba_list (b : ByteArray) : (⟨b.data.toList.toArray⟩ : ByteArray) = b := by
  apply ByteArray.ext
  simp
theorem joinB_snoc (l : List ByteArray) (a s : ByteArray) : joinB (l ++ [a]) s = if l = [] then a else joinB l s ++ s ++ a := by
  unfold joinB
  rw [List.map_append, List.map_cons, List.map_nil, join_snoc]
  by_cases h : l = []
  · subst h
    simp [ba_list]
  · rw [if_neg (by simpa using h), if_neg h]
    rw [← ba_app, ← ba_app, ba_list, ba_list]
theorem ba_size (a b : ByteArray) : (a ++ b).size = a.size + b.size := by simp
theorem rdOf_mid (pre suf : List ByteArray) (a : ByteArray) : rdOf ByteArray.empty (pre ++ a :: suf) (pre.length : Int) = a := by
  simp [rdOf, List.getD_eq_getElem?_getD]
theorem joinB_size (s : ByteArray) (B : Nat) (hs : s.size ≤ B) : ∀ (l : List ByteArray), (∀ x ∈ l, x.size ≤ B) → (joinB l s).size ≤ l.length * (2 * B) := by
  intro l
  suffices h : ∀ (suf pre : List ByteArray), (∀ x ∈ pre ++ suf, x.size ≤ B) → (joinB pre s).size ≤ pre.length * (2 * B) → (joinB (pre ++ suf) s).size ≤ (pre ++ suf).length * (2 * B) from fun hB => h l [] (by simpa using hB) (by show 0 ≤ _; omega)
  intro suf
  induction suf with
  | nil => intro pre _ h; simpa using h
  | cons a suf ih =>
    intro pre hB h
    have := ih (pre ++ [a]) (by simpa using hB) (by
      rw [joinB_snoc]
      have ha : a.size ≤ B := hB a (by simp)
      have : (pre ++ [a]).length * (2 * B) = pre.length * (2 * B) + 2 * B := by rw [List.length_append]; simp [Nat.add_mul]
      rw [this]
      by_cases e : pre = []
      · rw [if_pos e]; omega
      · rw [if_neg e, ba_size, ba_size]; omega)
    simpa using this
theorem impl_join_eq (s : ByteArray) (B : Nat) (hs : s.size ≤ B) (l : List ByteArray) (hB : ∀ x ∈ l, x.size ≤ B) (hl : l.length * (2 * B) ≤ 140737488355328) (hl' : l.length ≤ 1000000) : impl_Join.f l s = some (joinB l s) := by
  unfold impl_Join.f strings_Join.f
  have h1 := joinB_size s B hs l hB
  have h2 : (joinB l s).size = (Lib.join (l.map (·.data.toList)) s.data.toList).length := by unfold joinB; rfl
  rw [if_pos (by omega), if_pos (by omega)]
  rfl
def cellB (x W y c : Nat) : UInt8 := if x.testBit (y * W + c) = true then 35 else 46
def rowL (x W y c : Nat) : List UInt8 := (List.range c).map (cellB x W y)
def rowB (x W y : Nat) : ByteArray := ⟨(rowL x W y W).toArray⟩
def rowsB (x W h : Nat) : List ByteArray := (List.range h).map (rowB x W)
def fmtB (x W H : Nat) : ByteArray := joinB (rowsB x W H) ⟨#[47]⟩
theorem rowL_succ (x W y c : Nat) : rowL x W y (c + 1) = rowL x W y c ++ [cellB x W y c] := by simp [rowL, List.range_succ]
theorem rowsB_succ (x W h : Nat) : rowsB x W (h + 1) = rowsB x W h ++ [rowB x W h] := by simp [rowsB, List.range_succ]
theorem rowL_len (x W y c : Nat) : (rowL x W y c).length = c := by simp [rowL]
theorem rowsB_len (x W h : Nat) : (rowsB x W h).length = h := by simp [rowsB]
theorem rowB_size (x W y : Nat) : (rowB x W y).size = W := by
  show (rowL x W y W).toArray.size = W
  simp [rowL_len]
theorem rowsB_all (x W h : Nat) : ∀ b ∈ rowsB x W h, b.size ≤ W := by
  intro b hb
  simp only [rowsB, List.mem_map] at hb
  obtain ⟨y, _, rfl⟩ := hb
  rw [rowB_size]
  exact Nat.le_refl _
theorem cell_idx (y W c : Nat) (hy : y ≤ 6) (hW : W ≤ 6) (hc : c ≤ 6) : wrap64 ((wrap64 ((y : Int) * (W : Int))) + (c : Int)) = ((y * W + c : Nat) : Int) ∧ y * W + c ≤ 42 := by
  have h : y * W ≤ 6 * 6 := Nat.mul_le_mul hy hW
  have e : (y : Int) * (W : Int) = ((y * W : Nat) : Int) := by rw [Int.natCast_mul]
  have e2 : wrap64 ((y * W : Nat) : Int) = ((y * W : Nat) : Int) := w64 (by omega) (by omega)
  rw [e, e2, w64 (by omega) (by omega)]
  exact ⟨by omega, by omega⟩
theorem row_ba (x W y c : Nat) : (⟨(rowL x W y c).toArray⟩ : ByteArray) ++ (⟨#[cellB x W y c]⟩ : ByteArray) = ⟨(rowL x W y (c + 1)).toArray⟩ := by
  rw [rowL_succ, ← ba_app]
def rowI (x W y c : Nat) : List Int := (List.range c).map (fun c => if x.testBit (y * W + c) = true then 35 else 46)
theorem rowI_succ (x W y c : Nat) : rowI x W y (c + 1) = rowI x W y c ++ [if x.testBit (y * W + c) = true then 35 else 46] := by simp [rowI, List.range_succ]
theorem rowI_str (x W y : Nat) : strOfNums (rowI x W y W) = rowB x W y := by
  unfold strOfNums rowB rowL rowI
  rw [List.map_map]
  congr 2
  apply List.map_congr_left
  intro c _
  simp only [Function.comp, cellB]
  split <;> rfl
theorem impl_row (x W H y : Nat) (hx : x < 2 ^ 62) (hW : W ≤ 6) (hy : y ≤ 6) (rows : List ByteArray) (hr : rows.length ≤ 6) (r : ByteArray) (hn : Ev (fun k => impl_FormatShape.l0 k W x (rows ++ [rowB x W y]) H (wrap64 ((y : Int) + 1))) r) :
    ∀ (d c : Nat), c + d = W → Ev (fun k => impl_FormatShape.l1 k W x rows y (rowI x W y c) H y W (c : Int)) r := by
  intro d
  induction d with
  | zero =>
    intro c hc
    obtain rfl : c = W := by omega
    refine ev_shift ?_
    simp only [impl_FormatShape.l1]
    refine ev_neg (by omega) (ev_pos (by omega) ?_)
    rw [rowI_str]
    exact hn
  | succ d ih =>
    intro c hc
    obtain ⟨hi, hi'⟩ := cell_idx y W c hy hW (by omega)
    have hs : (rowI x W y c).length = c := by simp [rowI]
    have hih := ih (c + 1) (by omega)
    rw [rowI_succ] at hih
    refine ev_shift ?_
    simp only [impl_FormatShape.l1]
    rw [hi]
    refine ev_pos (by omega) (ev_bind0 (has_eq x _ hx (by omega)) ?_)
    rw [wsucc _ (by omega)]
    by_cases b : x.testBit (y * W + c) = true
    · rw [if_pos b] at hih
      exact ev_pos b (ev_pos (by omega) hih)
    · rw [if_neg b] at hih
      exact ev_neg b (ev_pos (by omega) hih)
theorem impl_rows (x W H : Nat) (hx : x < 2 ^ 62) (hW : W ≤ 6) (hH : H ≤ 6) : ∀ (d y : Nat), y + d = H → Ev (fun k => impl_FormatShape.l0 k W x (rowsB x W y) H (y : Int)) (fmtB x W H) := by
  intro d
  induction d with
  | zero =>
    intro y hy
    obtain rfl : y = H := by omega
    refine ev_shift ?_
    simp only [impl_FormatShape.l0]
    refine ev_neg (by omega) (ev_bind0 (impl_join_eq _ (W + 1) (by show 1 ≤ _; omega) _ (fun b hb => by have := rowsB_all x W y b hb; omega) ?_ ?_) (ev_now _))
    · rw [rowsB_len]
      have : y * (2 * (W + 1)) ≤ 6 * 14 := Nat.mul_le_mul hH (by omega)
      omega
    · rw [rowsB_len]; omega
  | succ d ih =>
    intro y hy
    refine ev_shift ?_
    simp only [impl_FormatShape.l0]
    refine ev_pos (by omega) ?_
    refine impl_row x W H y hx hW (by omega) _ (by rw [rowsB_len]; omega) _ ?_ W 0 (by omega)
    rw [wsucc _ (by omega), ← rowsB_succ]
    exact ih (y + 1) (by omega)
theorem ok_nat3 {w h m : Int} (c : okS w h m = true) : ∃ x W H : Nat, m = x ∧ w = W ∧ h = H ∧ x < 2 ^ 62 ∧ x < 2 ^ (W * H) ∧ 1 ≤ W ∧ W ≤ 6 ∧ 1 ≤ H ∧ H ≤ 6 := by
  obtain ⟨hT, h0, h1⟩ := okS_iff.mp c
  refine ⟨m.toNat, w.toNat, h.toNat, by omega, by omega, by omega, ?_, ?_, by omega, by omega, by omega, by omega⟩
  · have h36 := (shl_table w h (isT_iff.mpr hT)).2.1
    have : m.toNat < 68719476736 := by omega
    omega
  · have ew : w = (w.toNat : Int) := by omega
    have eh : h = (h.toNat : Int) := by omega
    have em : m = (m.toNat : Int) := by omega
    rw [ew, eh, em, ← Int.natCast_mul, Int.toNat_natCast] at h1
    exact_mod_cast h1
theorem ba_toList {a b : ByteArray} (h : a.toList = b.toList) : a = b := by
  have := (ByteArray.toList_eq a).symm.trans (h.trans (ByteArray.toList_eq b))
  exact ByteArray.ext (Array.toList_inj.mp this)
theorem or_pow' (m c : Nat) (h : m < 2 ^ c) : m ||| 2 ^ c = m + 2 ^ c := by
  have := Nat.two_pow_add_eq_or_of_lt h 1
  rw [Nat.mul_one] at this
  rw [Nat.or_comm, ← this, Nat.add_comm]
theorem or_lt' (m c : Nat) (h : m < 2 ^ c) : m ||| 2 ^ c < 2 ^ (c + 1) :=
  Nat.or_lt_two_pow (Nat.lt_of_lt_of_le h (Nat.pow_le_pow_right (by decide) (by omega))) (Nat.pow_lt_pow_right (by decide) (by omega))
def okC (b : UInt8) : Bool := decide (b = 35 ∨ b = 46)
def goodR (w : Nat) (r : List UInt8) : Bool := decide (r.length = w) && r.all okC
/-- The bits of a text of marks. -/
def acc : List UInt8 → Nat → Nat → Nat
  | [], _, m => m
  | b :: l, i, m => acc l (i + 1) (if b = 35 then m ||| 2 ^ i else m)
theorem acc_step {m i : Nat} (b : UInt8) (h : m < 2 ^ i) : (if b = 35 then m ||| 2 ^ i else m) < 2 ^ (i + 1) := by
  split
  · exact or_lt' m i h
  · exact Nat.lt_of_lt_of_le h (Nat.pow_le_pow_right (by decide) (by omega))
theorem acc_lt : ∀ (l : List UInt8) (i m : Nat), m < 2 ^ i → acc l i m < 2 ^ (i + l.length) := by
  intro l
  induction l with
  | nil => intro i m h; exact h
  | cons b l ih =>
    intro i m h
    simp only [acc, List.length_cons]
    have := ih (i + 1) _ (acc_step b h)
    rwa [show i + 1 + l.length = i + (l.length + 1) by omega] at this
theorem acc_app : ∀ (l l' : List UInt8) (i m : Nat), acc (l ++ l') i m = acc l' (i + l.length) (acc l i m) := by
  intro l
  induction l with
  | nil => intro l' i m; rfl
  | cons b l ih =>
    intro l' i m
    simp only [List.cons_append, acc, List.length_cons]
    rw [ih, show i + 1 + l.length = i + (l.length + 1) by omega]
theorem acc_bit : ∀ (l : List UInt8) (i m j : Nat), m < 2 ^ i → (acc l i m).testBit j = if j < i then m.testBit j else decide (l[j - i]? = some 35) := by
  intro l
  induction l with
  | nil =>
    intro i m j h
    simp only [acc]
    by_cases c : j < i
    · rw [if_pos c]
    · rw [if_neg c]
      rw [Nat.testBit_lt_two_pow (Nat.lt_of_lt_of_le h (Nat.pow_le_pow_right (by decide) (by omega)))]
      simp
  | cons b l ih =>
    intro i m j h
    simp only [acc]
    rw [ih (i + 1) _ j (acc_step b h)]
    have hm : m.testBit i = false := Nat.testBit_lt_two_pow h
    by_cases c : j < i
    · rw [if_pos (by omega), if_pos c]
      split
      · rw [Nat.testBit_or, Nat.testBit_two_pow]
        rw [decide_eq_false (by omega : ¬ i = j), Bool.or_false]
      · rfl
    · rw [if_neg c]
      by_cases e : j = i
      · subst e
        rw [if_pos (by omega), Nat.sub_self]
        by_cases g : b = 35
        · rw [if_pos g, Nat.testBit_or, Nat.testBit_two_pow]
          simp [g]
        · rw [if_neg g, hm]
          simp [g]
      · rw [if_neg (by omega), show j - i = (j - (i + 1)) + 1 by omega]
        simp
/-- The program's bits. -/
def accR (w : Nat) : List UInt8 → Nat → Nat → Nat → Nat
  | [], _, _, m => m
  | b :: r, a, x, m => accR w r a (x + 1) (if b = 35 ∧ x < w then m ||| 2 ^ (a + x) else m)
def accA (w : Nat) : List (List UInt8) → Nat → Nat → Nat
  | [], _, m => m
  | r :: R, a, m => accA w R (a + w) (accR w r a 0 m)
theorem accR_step {w a x m : Nat} (b : UInt8) (h : m < 2 ^ (a + min x w)) : (if b = 35 ∧ x < w then m ||| 2 ^ (a + x) else m) < 2 ^ (a + min (x + 1) w) := by
  split
  · rename_i g
    rw [show min x w = x by omega] at h
    rw [show a + min (x + 1) w = a + x + 1 by omega]
    exact or_lt' m (a + x) h
  · exact Nat.lt_of_lt_of_le h (Nat.pow_le_pow_right (by decide) (by omega))
theorem accR_lt (w : Nat) : ∀ (r : List UInt8) (a x m : Nat), m < 2 ^ (a + min x w) → accR w r a x m < 2 ^ (a + w) := by
  intro r
  induction r with
  | nil => intro a x m h; exact Nat.lt_of_lt_of_le h (Nat.pow_le_pow_right (by decide) (by omega))
  | cons b r ih => intro a x m h; exact ih a (x + 1) _ (accR_step b h)
theorem accA_lt (w : Nat) : ∀ (R : List (List UInt8)) (a m : Nat), m < 2 ^ a → accA w R a m < 2 ^ (a + w * R.length) := by
  intro R
  induction R with
  | nil => intro a m h; exact h
  | cons r R ih =>
    intro a m h
    simp only [accA, List.length_cons]
    have := ih (a + w) _ (accR_lt w r a 0 m (by simpa using h))
    rwa [show a + w + w * R.length = a + w * (R.length + 1) by rw [Nat.mul_add]; omega] at this
theorem accR_good (w : Nat) : ∀ (r : List UInt8) (a x m : Nat), x + r.length ≤ w → accR w r a x m = acc r (a + x) m := by
  intro r
  induction r with
  | nil => intro a x m _; rfl
  | cons b r ih =>
    intro a x m h
    rw [List.length_cons] at h
    simp only [accR, acc]
    rw [ih a (x + 1) _ (by omega)]
    have : (b = 35 ∧ x < w) = (b = 35) := by simp; omega
    simp only [this, Nat.add_assoc]
theorem accA_good (w : Nat) : ∀ (R : List (List UInt8)) (a m : Nat), (∀ r ∈ R, r.length = w) → accA w R a m = acc R.flatten a m := by
  intro R
  induction R with
  | nil => intro a m _; rfl
  | cons r R ih =>
    intro a m h
    have hr := h r (by simp)
    simp only [accA, List.flatten_cons]
    rw [acc_app, ih _ _ (fun r hr => h r (by simp [hr])), accR_good w r a 0 m (by omega), hr]
    rfl
theorem flat_at (w : Nat) : ∀ (R : List (List UInt8)) (y x : Nat), (∀ r ∈ R, r.length = w) → x < w → R.flatten[y * w + x]? = (R[y]?).bind (fun r => r[x]?) := by
  intro R
  induction R with
  | nil => intro y x _ _; simp
  | cons r R ih =>
    intro y x h hx
    have hr := h r (by simp)
    rw [List.flatten_cons]
    cases y with
    | zero =>
      rw [Nat.zero_mul, Nat.zero_add, List.getElem?_append_left (by omega)]
      rfl
    | succ y =>
      rw [List.getElem?_append_right (by rw [hr, Nat.succ_mul]; omega), hr, show (y + 1) * w + x - w = y * w + x by rw [Nat.succ_mul]; omega, ih y x (fun r hr => h r (by simp [hr])) hx]
      rfl
/-- All rows are good if and only if the mask's text is the text. -/
theorem fmt_iff (L : List UInt8) (w : Nat) : fmtB (accA w (spl L) 0 0) w (spl L).length = ba L ↔ (spl L).all (goodR w) = true := by
  have hF : (rowsB (accA w (spl L) 0 0) w (spl L).length).map (fun x : ByteArray => x.data.toList) = (List.range (spl L).length).map (fun y => rowL (accA w (spl L) 0 0) w y w) := by
    simp [rowsB, rowB, Function.comp_def]
  have hf : fmtB (accA w (spl L) 0 0) w (spl L).length = ba (Lib.join ((List.range (spl L).length).map (fun y => rowL (accA w (spl L) 0 0) w y w)) [47]) := by
    unfold fmtB joinB
    rw [hF]
    rfl
  rw [hf]
  generalize hM : accA w (spl L) 0 0 = M
  have hcell : ∀ y c, okC (cellB M w y c) = true := fun y c => by unfold cellB okC; split <;> decide
  have hgood : ∀ r ∈ (List.range (spl L).length).map (fun y => rowL M w y w), goodR w r = true := fun r hr => by
    obtain ⟨y, _, rfl⟩ := List.mem_map.mp hr
    unfold goodR
    rw [decide_eq_true (rowL_len M w y w), Bool.true_and, List.all_eq_true]
    intro b hb
    unfold rowL at hb
    obtain ⟨c, _, rfl⟩ := List.mem_map.mp hb
    exact hcell y c
  have hno : ∀ r ∈ (List.range (spl L).length).map (fun y => rowL M w y w), ∀ b ∈ r, b ≠ 47 := fun r hr b hb e => by
    obtain ⟨y, _, rfl⟩ := List.mem_map.mp hr
    unfold rowL at hb
    obtain ⟨c, _, rfl⟩ := List.mem_map.mp hb
    have := hcell y c
    rw [e] at this
    exact absurd this (by decide)
  have hne : (List.range (spl L).length).map (fun y => rowL M w y w) ≠ [] := by
    have := List.length_pos_iff.mpr (spl_ne L)
    intro e
    have := congrArg List.length e
    simp at this
    exact spl_ne L this
  constructor
  · intro h
    have h1 := ba_inj h
    have h2 := spl_join _ hne hno
    rw [h1] at h2
    rw [List.all_eq_true]
    intro r hr
    rw [h2] at hr
    exact hgood r hr
  · intro h
    rw [List.all_eq_true] at h
    have hlen : ∀ r ∈ spl L, r.length = w := fun r hr => by
      have := h r hr
      unfold goodR at this
      rw [Bool.and_eq_true] at this
      exact of_decide_eq_true this.1
    have hok : ∀ r ∈ spl L, ∀ b ∈ r, b = 35 ∨ b = 46 := fun r hr b hb => by
      have := h r hr
      unfold goodR at this
      rw [Bool.and_eq_true, List.all_eq_true] at this
      exact of_decide_eq_true (this.2 b hb)
    have hM2 : M = acc (spl L).flatten 0 0 := by rw [← hM]; exact accA_good w _ 0 0 hlen
    have e : (List.range (spl L).length).map (fun y => rowL M w y w) = spl L := by
      apply List.ext_getElem
      · simp
      · intro y h1 h2
        rw [List.getElem_map, List.getElem_range]
        have hy := hlen _ (List.getElem_mem h2)
        apply List.ext_getElem
        · rw [rowL_len, hy]
        · intro x g1 g2
          have hrow : (rowL M w y w)[x] = cellB M w y x := by simp [rowL]
          rw [hrow]
          have hx : x < w := by omega
          have hb : M.testBit (y * w + x) = decide ((spl L)[y][x] = 35) := by
            rw [hM2, acc_bit _ 0 0 _ (by decide), if_neg (by omega), Nat.sub_zero, flat_at w _ y x hlen hx]
            simp [List.getElem?_eq_getElem h2, List.getElem?_eq_getElem g2]
          unfold cellB
          rw [hb]
          rcases hok _ (List.getElem_mem h2) _ (List.getElem_mem g2) with z | z
          · rw [if_pos (by simp [z]), z]
          · rw [if_neg (by rw [z]; decide), z]
    rw [e, join_spl]
theorem good_size (L : List UInt8) (w : Nat) (hw : w ≤ 6) (hh : (spl L).length ≤ 6) (h : (spl L).all (goodR w) = true) : L.length ≤ 50 := by
  rw [List.all_eq_true] at h
  have hlen : ∀ r ∈ spl L, r.length = w := fun r hr => by
    have := h r hr
    unfold goodR at this
    rw [Bool.and_eq_true] at this
    exact of_decide_eq_true this.1
  have h1 := join_len (spl L) (spl_ne L)
  rw [join_spl] at h1
  have h2 : ∀ R : List (List UInt8), (∀ r ∈ R, r.length = w) → R.flatten.length = R.length * w := by
    intro R
    induction R with
    | nil => intro _; simp
    | cons r R ih =>
      intro h
      rw [List.flatten_cons, List.length_append, ih (fun r hr => h r (by simp [hr])), h r (by simp), List.length_cons, Nat.succ_mul]
      omega
  have h3 := h2 _ hlen
  have h4 : (spl L).length * w ≤ 6 * 6 := Nat.mul_le_mul hh hw
  omega
theorem rdOf_at (pre suf : List (List UInt8)) (r : List UInt8) : rdOf ByteArray.empty ((pre ++ r :: suf).map ba) (pre.length : Int) = ba r := by
  simp [rdOf, List.getD_eq_getElem?_getD]
theorem idx_n (y w x : Nat) (hy : y ≤ 6) (hw : w ≤ 6) (hx : x ≤ 1000000000) : wrap64 ((wrap64 ((y : Int) * (w : Int))) + (x : Int)) = ((y * w + x : Nat) : Int) ∧ y * w ≤ 36 := by
  have h : y * w ≤ 6 * 6 := Nat.mul_le_mul hy hw
  have e : (y : Int) * (w : Int) = ((y * w : Nat) : Int) := by rw [Int.natCast_mul]
  have e2 : wrap64 ((y * w : Nat) : Int) = ((y * w : Nat) : Int) := w64 (by omega) (by omega)
  rw [e, e2, w64 (by omega) (by omega)]
  exact ⟨by omega, by omega⟩
theorem lt63 {m c : Nat} (h : m < 2 ^ c) (hc : c ≤ 62) : m < 2 ^ 62 := Nat.lt_of_lt_of_le h (Nat.pow_le_pow_right (by decide) hc)
theorem c35 (b : UInt8) : ((b.toNat : Int) = 35) ↔ b = 35 := toNat_eq b 35
theorem c46 (b : UInt8) : ((b.toNat : Int) = 46) ↔ b = 46 := toNat_eq b 46
theorem impl_l1 (t : ByteArray) (w h : Nat) (hw : w ≤ 6) (rows : List ByteArray) (n : Int) (y : Nat) (hy : y ≤ 5) (r : List UInt8) (hr : r.length ≤ 10000000) (res : Int × Int × Int × Bool) (M : Nat)
    (hn : Ev (fun k => impl_ParseShape.l0 k t w h (M : Int) rows n (wrap64 ((y : Int) + 1))) res) : ∀ (suf pre : List UInt8) (m : Nat), r = pre ++ suf → m < 2 ^ (y * w + min pre.length w) → accR w suf (y * w) pre.length m = M →
    Ev (fun k => impl_ParseShape.l1 k t w h (m : Int) (y : Int) (ba r) rows n (y : Int) ((ba r).size : Int) (pre.length : Int)) res := by
  intro suf
  induction suf with
  | nil =>
    intro pre m hp hm hM
    have hl : (ba r).size = pre.length := by rw [ba_len, hp]; simp
    simp only [accR] at hM
    subst hM
    refine ev_shift ?_
    simp only [impl_ParseShape.l1]
    exact ev_neg (by clear hm hn; omega) hn
  | cons b suf ih =>
    intro pre m hp hm hM
    have hl2 : r.length = pre.length + (suf.length + 1) := by rw [hp]; simp
    have hl : (ba r).size = r.length := ba_len r
    have hb : bt (ba r) (pre.length : Int) = (b.toNat : Int) := by rw [hp]; exact bt_mid pre suf b
    have f0 : pre.length ≤ 10000000 := by clear hm hM ih hn; omega
    obtain ⟨hi, hi36⟩ := idx_n y w pre.length (by clear hm hM ih hn; omega) hw (by clear hm hM ih hn; omega)
    have f1 : (pre.length : Int) < ((ba r).size : Int) := by clear hi hm hM ih hn; omega
    have f2 : (0 : Int) ≤ (pre.length : Int) := Int.natCast_nonneg _
    have hw1 := wsucc pre.length (by clear hi hm hM ih hn; omega)
    have ihb := ih (pre ++ [b])
    rw [List.length_append, List.length_singleton] at ihb
    simp only [accR] at hM
    have hstep := accR_step (w := w) (a := y * w) (x := pre.length) b hm
    have hih := ihb _ (by simp [hp]) hstep hM
    clear ih ihb hM hstep hn
    refine ev_shift ?_
    simp only [impl_ParseShape.l1]
    rw [hb, hi, hw1]
    clear hw1 hi
    refine ev_pos f1 (ev_pos f2 (ev_pos f1 ?_))
    by_cases c : b = 35
    · refine ev_pos ((c35 b).mpr c) ?_
      by_cases d : pre.length < w
      · rw [if_pos ⟨c, d⟩] at hih
        have e3 : min pre.length w = pre.length := Nat.min_eq_left (Nat.le_of_lt d)
        rw [e3] at hm
        have f3 : y * w + pre.length < 62 := by clear hih hm; omega
        have hm62 : m < 2 ^ 63 := Nat.lt_of_lt_of_le hm (Nat.pow_le_pow_right (by decide) (by clear hih hm; omega))
        have hp62 : 2 ^ (y * w + pre.length) < 2 ^ 63 := Nat.pow_lt_pow_right (by decide) (by clear hih hm hm62; omega)
        rw [shl_nat _ (Nat.le_of_lt f3), or_i64 m _ hm62 hp62]
        exact ev_pos (by clear hih hm hm62 hp62; omega) (ev_pos (Int.natCast_nonneg _) hih)
      · rw [if_neg (fun z => d z.2)] at hih
        exact ev_neg (by clear hih hm; omega) hih
    · rw [if_neg (fun z => c z.1)] at hih
      exact ev_neg (fun g => c ((c35 b).mp g)) hih
theorem impl_fmt (x W H : Nat) (hW : 1 ≤ W ∧ W ≤ 6) (hH : 1 ≤ H ∧ H ≤ 6) (hx : x < 2 ^ (W * H)) : Ev (fun k => impl_FormatShape.f k W H x) (fmtB x W H) := by
  have hb : W * H ≤ 6 * 6 := Nat.mul_le_mul hW.2 hH.2
  have hok : okS (W : Int) (H : Int) (x : Int) = true := by
    refine okS_iff.mpr ⟨⟨by omega, by omega, by omega, by omega⟩, by omega, ?_⟩
    rw [← Int.natCast_mul, Int.toNat_natCast]
    exact_mod_cast hx
  unfold impl_FormatShape.f
  exact ev_bind0 (impl_shapeOk _ _ _) (ev_pos hok (impl_rows x W H (lt63 hx (by omega)) hW.2 hH.2 H 0 (by omega)))
theorem impl_l0 (t : ByteArray) (w h : Nat) (hw : 1 ≤ w ∧ w ≤ 6) (hh : 1 ≤ h ∧ h ≤ 6) (R : List (List UInt8)) (hR : R.length = h) (hr : ∀ r ∈ R, r.length ≤ 10000000) (M : Nat) : ∀ (suf pre : List (List UInt8)) (m : Nat), R = pre ++ suf → m < 2 ^ (pre.length * w) → accA w suf (pre.length * w) m = M →
    Ev (fun k => impl_ParseShape.l0 k t w h (m : Int) (R.map ba) ((R.map ba).length : Int) (pre.length : Int)) (if fmtB M w h = t then ((w : Int), (h : Int), (M : Int), true) else (0, 0, 0, false)) := by
  have hlm : (R.map ba).length = R.length := List.length_map _
  intro suf
  induction suf with
  | nil =>
    intro pre m hp hm hM
    have hl : R.length = pre.length := by rw [hp]; simp
    simp only [accA] at hM
    subst hM
    refine ev_shift ?_
    simp only [impl_ParseShape.l0]
    refine ev_neg (by omega) (ev_bind (impl_fmt m w h hw hh (by rw [show w * h = pre.length * w by rw [← hR, hl, Nat.mul_comm]]; exact hm)) ?_)
    by_cases c : fmtB m w h = t
    · rw [if_pos c]
      exact ev_pos (by rw [c]) (ev_now _)
    · rw [if_neg c]
      exact ev_neg (fun g => c (ba_toList g)) (ev_now _)
  | cons r suf ih =>
    intro pre m hp hm hM
    have hl : R.length = pre.length + (suf.length + 1) := by rw [hp]; simp
    have hat : rdOf ByteArray.empty (R.map ba) (pre.length : Int) = ba r := by rw [hp]; exact rdOf_at pre suf r
    simp only [accA] at hM
    have hb := accR_lt w r (pre.length * w) 0 m (by simpa using hm)
    have e : pre.length * w + w = (pre.length + 1) * w := by rw [Nat.succ_mul]
    rw [e] at hb hM
    have hih := ih (pre ++ [r]) _ (by simp [hp]) (by rw [List.length_append, List.length_singleton]; exact hb) (by rw [List.length_append, List.length_singleton]; exact hM)
    rw [List.length_append, List.length_singleton] at hih
    refine ev_shift ?_
    simp only [impl_ParseShape.l0]
    rw [hat]
    refine ev_pos (by omega) (ev_pos (by omega) (ev_pos (by omega) ?_))
    exact impl_l1 t w h hw.2 (R.map ba) _ pre.length (by omega) r (hr r (by rw [hp]; simp)) _ (accR w r (pre.length * w) 0 m) (by rw [wsucc _ (by omega)]; exact hih) r [] m rfl (by simpa using hm) rfl
theorem spec_l1 (w h : Nat) (hw : w ≤ 6) (rows : List ByteArray) (n : Int) (y : Nat) (hy : y ≤ 5) (r : List UInt8) (hr : r.length = w) (res : Int × Int × Int × Bool) (M : Nat)
    (hn : Ev (fun k => spec_ParseShape.l0 k w h (M : Int) rows n (wrap64 ((y : Int) + 1))) res) : ∀ (suf pre : List UInt8) (m : Nat), r = pre ++ suf → m < 2 ^ (y * w + pre.length) → acc suf (y * w + pre.length) m = M →
    Ev (fun k => spec_ParseShape.l1 k w h (m : Int) (y : Int) (ba r) (pre.length : Int) rows n (y : Int)) (if suf.all okC = true then res else (0, 0, 0, false)) := by
  intro suf
  induction suf with
  | nil =>
    intro pre m hp hm hM
    have hl : r.length = pre.length := by rw [hp]; simp
    simp only [acc] at hM
    subst hM
    refine ev_shift ?_
    simp only [spec_ParseShape.l1]
    exact ev_neg (by clear hm hn; omega) hn
  | cons b suf ih =>
    intro pre m hp hm hM
    have hl2 : r.length = pre.length + (suf.length + 1) := by rw [hp]; simp
    have hl : (ba r).size = r.length := ba_len r
    have hb : bt (ba r) (pre.length : Int) = (b.toNat : Int) := by rw [hp]; exact bt_mid pre suf b
    obtain ⟨hi, hi36⟩ := idx_n y w pre.length (by clear hm hM ih hn; omega) hw (by clear hm hM ih hn; omega)
    have f0 : pre.length < 7 := by clear hi hm hM ih hn; omega
    have f1 : (pre.length : Int) < ((ba r).size : Int) := by clear hi hm hM ih hn; omega
    have f3 : (pre.length : Int) < (w : Int) := by clear hi hm hM ih hn; omega
    have f2 : (0 : Int) ≤ (pre.length : Int) := Int.natCast_nonneg _
    have f4 : y * w + pre.length < 62 := by clear hi hm hM ih hn; omega
    have hw1 := wsucc pre.length (by clear hi hm hM ih hn; omega)
    have ihb := ih (pre ++ [b])
    rw [List.length_append, List.length_singleton] at ihb
    simp only [acc] at hM
    have hstep := acc_step b hm
    have hih := ihb _ (by simp [hp]) hstep hM
    clear ih ihb hM hstep hn
    refine ev_shift ?_
    simp only [spec_ParseShape.l1]
    rw [hb, hi, hw1]
    clear hw1 hi
    refine ev_pos f3 (ev_pos f2 (ev_pos f1 ?_))
    rw [List.all_cons]
    by_cases c : b = 35
    · have hc : okC b = true := by rw [c]; decide
      rw [if_pos c] at hih
      rw [hc, Bool.true_and]
      have hm62 : m < 2 ^ 62 := lt63 hm (Nat.le_of_lt f4)
      have hp62 : 2 ^ (y * w + pre.length) < 2 ^ 62 := Nat.pow_lt_pow_right (by decide) f4
      have e1 : wrap64 ((m : Int) + ((2 ^ (y * w + pre.length) : Nat) : Int)) = ((m ||| 2 ^ (y * w + pre.length) : Nat) : Int) := by
        rw [or_pow' m _ hm]
        clear hih hm f4
        generalize 2 ^ (y * w + pre.length) = z at *
        rw [w64 (by omega) (by omega)]; omega
      rw [shl_nat _ (Nat.le_of_lt f4), e1]
      exact ev_pos ((c35 b).mpr c) (ev_pos (Int.natCast_nonneg _) hih)
    · refine ev_neg (fun g => c ((c35 b).mp g)) ?_
      rw [if_neg c] at hih
      by_cases d : b = 46
      · have hc : okC b = true := by rw [d]; decide
        rw [hc, Bool.true_and]
        exact ev_pos ((c46 b).mpr d) hih
      · have hc : okC b = false := by unfold okC; rw [decide_eq_false]; rintro (z | z); exact c z; exact d z
        rw [hc, Bool.false_and, if_neg (by decide)]
        exact ev_neg (fun g => d ((c46 b).mp g)) (ev_now _)
theorem spec_l0 (w h : Nat) (hw : w ≤ 6) (hh : h ≤ 6) (R : List (List UInt8)) (hR : R.length = h) : ∀ (suf pre : List (List UInt8)) (m : Nat), R = pre ++ suf → m < 2 ^ (pre.length * w) →
    Ev (fun k => spec_ParseShape.l0 k w h (m : Int) (R.map ba) ((R.map ba).length : Int) (pre.length : Int)) (if suf.all (goodR w) = true then ((w : Int), (h : Int), ((accA w suf (pre.length * w) m : Nat) : Int), true) else (0, 0, 0, false)) := by
  have hlm : (R.map ba).length = R.length := List.length_map _
  intro suf
  induction suf with
  | nil =>
    intro pre m hp hm
    have hl : R.length = pre.length := by rw [hp]; simp
    refine ev_shift ?_
    simp only [spec_ParseShape.l0]
    exact ev_neg (by omega) (ev_now _)
  | cons r suf ih =>
    intro pre m hp hm
    have hl : R.length = pre.length + (suf.length + 1) := by rw [hp]; simp
    have hat : rdOf ByteArray.empty (R.map ba) (pre.length : Int) = ba r := by rw [hp]; exact rdOf_at pre suf r
    have e : pre.length * w + w = (pre.length + 1) * w := by rw [Nat.succ_mul]
    refine ev_shift ?_
    simp only [spec_ParseShape.l0]
    rw [hat, ba_len]
    refine ev_pos (by omega) (ev_pos (by omega) (ev_pos (by omega) ?_))
    rw [List.all_cons]
    by_cases c : r.length = w
    · refine ev_pos (by omega) ?_
      have hg : goodR w r = r.all okC := by unfold goodR; rw [decide_eq_true c, Bool.true_and]
      have hb := acc_lt r (pre.length * w) m hm
      rw [c, e] at hb
      have hih := ih (pre ++ [r]) (acc r (pre.length * w) m) (by simp [hp]) (by rw [List.length_append, List.length_singleton]; exact hb)
      rw [List.length_append, List.length_singleton] at hih
      have h1 := spec_l1 w h hw (R.map ba) ((R.map ba).length : Int) pre.length (by omega) r c _ (acc r (pre.length * w) m) (by rw [wsucc _ (by omega)]; exact hih) r [] m rfl (by simpa using hm) rfl
      refine ev_eq h1 ?_
      rw [hg]
      simp only [accA]
      rw [accR_good w r _ 0 m (by omega), e]
      by_cases q : r.all okC = true
      · rw [if_pos q, q, Bool.true_and]
        rfl
      · have q' : r.all okC = false := Bool.eq_false_iff.mpr q
        rw [if_neg q, q', Bool.false_and, if_neg (by decide)]
    · have hg : goodR w r = false := by unfold goodR; rw [decide_eq_false c, Bool.false_and]
      rw [hg, Bool.false_and, if_neg (by decide)]
      exact ev_neg (by omega) (ev_now _)
/-- What both answer. -/
def prs (t : ByteArray) : Int × Int × Int × Bool :=
  if isT (((spl t.data.toList).headD []).length : Int) ((spl t.data.toList).length : Int) = true ∧ (spl t.data.toList).all (goodR ((spl t.data.toList).headD []).length) = true
  then ((((spl t.data.toList).headD []).length : Int), ((spl t.data.toList).length : Int), ((accA ((spl t.data.toList).headD []).length (spl t.data.toList) 0 0 : Nat) : Int), true) else (0, 0, 0, false)
theorem impl_parse (t : ByteArray) (ht : t.size ≤ 1048576) : Ev (fun k => impl_ParseShape.f k t) (prs t) := by
  have hd := data_length t
  obtain ⟨r, R, hr⟩ : ∃ r R, spl t.data.toList = r :: R := List.exists_cons_of_ne_nil (spl_ne _)
  have hrl : ∀ x ∈ spl t.data.toList, x.length ≤ 10000000 := by
    intro x hx
    have h1 := join_len _ (spl_ne t.data.toList)
    rw [join_spl] at h1
    have h2 : ∀ F : List (List UInt8), x ∈ F → x.length + F.length ≤ F.flatten.length + F.length := by
      intro F
      induction F with
      | nil => intro h; cases h
      | cons y F ih =>
        intro h
        rw [List.flatten_cons, List.length_append, List.length_cons]
        rcases List.mem_cons.mp h with rfl | h
        · omega
        · have := ih h; omega
    have h3 := h2 _ hx
    have h4 := List.length_pos_iff.mpr (spl_ne t.data.toList)
    omega
  have h0 : rdOf ByteArray.empty ((spl t.data.toList).map ba) 0 = ba ((spl t.data.toList).headD []) := by
    rw [hr]
    exact rdOf_at [] R r
  have hlm : ((spl t.data.toList).map ba).length = (spl t.data.toList).length := List.length_map _
  have hpos : 0 < (spl t.data.toList).length := List.length_pos_iff.mpr (spl_ne _)
  unfold impl_ParseShape.f
  refine ev_bind0 (a := (spl t.data.toList).map ba) ?_ (ev_pos (by omega) ?_)
  · unfold strings_Split.f
    rw [if_pos (by omega), if_pos (by decide), splitB_ba]
  · rw [h0, ba_len, hlm]
    unfold prs
    refine ev_bind0 (impl_isTable _ _) ?_
    by_cases c : isT (((spl t.data.toList).headD []).length : Int) ((spl t.data.toList).length : Int) = true
    · refine ev_pos c ?_
      obtain ⟨c1, c2, c3, c4⟩ := isT_iff.mp c
      have := impl_l0 t ((spl t.data.toList).headD []).length (spl t.data.toList).length (by omega) (by omega) (spl t.data.toList) rfl hrl _ (spl t.data.toList) [] 0 rfl (by simp) rfl
      rw [hlm] at this
      refine ev_eq this ?_
      have hiff := fmt_iff t.data.toList ((spl t.data.toList).headD []).length
      rw [ba_of] at hiff
      simp only [List.length_nil, Nat.zero_mul]
      by_cases g : (spl t.data.toList).all (goodR ((spl t.data.toList).headD []).length) = true
      · rw [if_pos (hiff.mpr g), if_pos ⟨c, g⟩]
      · rw [if_neg (fun z => g (hiff.mp z)), if_neg (fun z => g z.2)]
    · rw [if_neg (fun z => c z.1)]
      exact ev_neg c (ev_now _)
theorem spec_parse (t : ByteArray) : Ev (fun k => spec_ParseShape.f k t) (prs t) := by
  have hd := data_length t
  obtain ⟨r, R, hr⟩ : ∃ r R, spl t.data.toList = r :: R := List.exists_cons_of_ne_nil (spl_ne _)
  have h0 : rdOf ByteArray.empty ((spl t.data.toList).map ba) 0 = ba ((spl t.data.toList).headD []) := by
    rw [hr]
    exact rdOf_at [] R r
  have hlm : ((spl t.data.toList).map ba).length = (spl t.data.toList).length := List.length_map _
  have hpos : 0 < (spl t.data.toList).length := List.length_pos_iff.mpr (spl_ne _)
  unfold spec_ParseShape.f
  by_cases b : (t.size : Int) > 50
  · refine ev_pos b (ev_eq (ev_now _) ?_)
    unfold prs
    rw [if_neg]
    rintro ⟨z1, z2⟩
    obtain ⟨c1, c2, c3, c4⟩ := isT_iff.mp z1
    have := good_size t.data.toList _ (by omega) (by omega) z2
    omega
  · refine ev_neg b (ev_bind (any_ev t (by omega)) (ev_pos (by omega) ?_))
    rw [h0, ba_len, hlm]
    unfold prs
    generalize hw : ((spl t.data.toList).headD []).length = w
    refine ev_bind0 (in_eq _ _ _) ?_
    have bad : ∀ q : Int, q = 0 → Ev (fun k => spec_ParseShape.j0 k ((spl t.data.toList).map ba) (w : Int) ((spl t.data.toList).length : Int) true) (0, 0, 0, false) := fun q _ => by
      refine ev_shift ?_
      simp only [spec_ParseShape.j0]
      exact ev_pos (by simp) (ev_now _)
    by_cases c1 : (1 : Int) ≤ w ∧ (w : Int) ≤ 6
    · refine ev_pos (decide_eq_true c1) (ev_bind0 (in_eq _ _ _) ?_)
      by_cases c2 : (1 : Int) ≤ ((spl t.data.toList).length : Int) ∧ ((spl t.data.toList).length : Int) ≤ 6
      · rw [decide_eq_true c2]
        refine ev_shift ?_
        simp only [spec_ParseShape.j0]
        refine ev_neg (by decide) ?_
        have hT : isT (w : Int) ((spl t.data.toList).length : Int) = true := isT_iff.mpr ⟨c1.1, c1.2, c2.1, c2.2⟩
        have := spec_l0 w (spl t.data.toList).length (by omega) (by omega) (spl t.data.toList) rfl (spl t.data.toList) [] 0 rfl (by simp)
        refine ev_eq this ?_
        simp only [List.length_nil, Nat.zero_mul]
        by_cases g : (spl t.data.toList).all (goodR w) = true
        · rw [if_pos g, if_pos ⟨hT, g⟩]
        · rw [if_neg g, if_neg (fun z => g z.2)]
      · rw [decide_eq_false c2]
        rw [if_neg (fun z => c2 (by have := isT_iff.mp z.1; exact ⟨this.2.2.1, this.2.2.2⟩))]
        exact bad 0 rfl
    · rw [if_neg (fun z => c1 (by have := isT_iff.mp z.1; exact ⟨this.1, this.2.1⟩))]
      exact ev_neg (by simpa using c1) (bad 0 rfl)
theorem FnExactParseShape : laws_FnExactParseShape.Pure := by
  intro t _
  apply ev_rounds
  unfold laws_FnExactParseShape.f
  by_cases b : (t.size : Int) > 1048576
  · exact ev_pos b (ev_now _)
  · exact ev_neg b (ev_bind (spec_parse t) (ev_bind (impl_parse t (by omega)) (ev_pos rfl (ev_pos rfl (ev_pos rfl (ev_neg (by simp) (ev_now _)))))))

end Go.Proofs.YtonnlbdocpkfdaaDoor.Pure
