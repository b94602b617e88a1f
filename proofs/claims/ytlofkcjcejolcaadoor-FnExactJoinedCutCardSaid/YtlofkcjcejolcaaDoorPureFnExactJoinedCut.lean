/- JoinedCut of the program and of the reference answer alike, for all numbers and all lists of at most 1048576 numbers; for a longer list the law says true. -/
import Derived.Test.YtlofkcjcejolcaaDoorQFnExactJoinedCutx11
namespace Go.Proofs.YtlofkcjcejolcaaDoor.Pure
open Go.RowKit Go.Proofs.YtlofkcjcejolcaaDoor.QFnExactJoinedCut Go.Proofs.YtlofkcjcejolcaaDoorW.PrintWords Go.Proofs.YtlofkcjcejolcaaDoorW.PrintLast Go.Proofs.YtlofkcjcejolcaaDoorW.PrintMore
set_option linter.unusedVariables false
set_option linter.unusedSimpArgs false
/- Eventually: with enough rounds the answer is r. -/
theorem gd_ {α : Type} {i : Nat} {l : List α} {a : α} : l.getD i a = (l[i]?).getD a := List.getD_eq_getElem?_getD
theorem nn_ (a : Nat) : (0 : Int) ≤ (a : Int) := Int.natCast_nonneg a
theorem p2_ {a b : Nat} (h : a ≤ b) : 2 ^ a ≤ 2 ^ b := Nat.pow_le_pow_right (by decide) h
theorem lle_ {a b c : Nat} (h : a < b) (g : b ≤ c) : a < c := Nat.lt_of_lt_of_le h g
theorem z8 {α : Type} (r : α) : Ev (fun _ => some r) r := Ev.now r
theorem z5 {α : Type} {g : Nat → Option α} {r : α} (h : Ev (fun k => g (k + 1)) r) : Ev g r := by
 obtain ⟨K, hK⟩ := h
 exact ⟨K + 1, fun k hk => by
  obtain ⟨m, rfl⟩ : ∃ m, k = m + 1 := ⟨k - 1, by omega⟩
  exact hK m (by omega)⟩
theorem z6 {α β : Type} {g : Nat → Option α} {f : Nat → α → Option β} {a : α} {r : β} (h : Ev g a) (k : Ev (fun n => f n a) r) : Ev (fun n => (g n).bind (f n)) r := Ev.bind h k
theorem zc {α β : Type} {o : Option α} {f : Nat → α → Option β} {a : α} {r : β} (h : o = some a) (k : Ev (fun n => f n a) r) : Ev (fun n => o.bind (f n)) r := by
 subst h; exact k
theorem z4 {α : Type} {A B : Nat → Option α} {r : α} {c : Prop} [Decidable c] (h : c) (k : Ev A r) : Ev (fun n => if c then A n else B n) r := by
 simpa only [if_pos h] using k
theorem z7 {α : Type} {A B : Nat → Option α} {r : α} {c : Prop} [Decidable c] (h : ¬ c) (k : Ev B r) : Ev (fun n => if c then A n else B n) r := by
 simpa only [if_neg h] using k
theorem z18 {α : Type} {g : Nat → Option α} {r r' : α} (h : Ev g r) (e : r = r') : Ev g r' := e ▸ h
theorem ev_rounds {α : Type} {g : Nat → Option α} {r : α} (h : Ev g r) : ∃ k, g k = some r := Ev.rounds h
theorem ev_uniq {α : Type} {g : Nat → Option α} {r r' : α} (h : Ev g r) (h' : Ev g r') : r = r' := by
 obtain ⟨K, hK⟩ := h
 obtain ⟨K', hK'⟩ := h'
 have a := hK (max K K') (Nat.le_max_left _ _)
 have b := hK' (max K K') (Nat.le_max_right _ _)
 rw [a] at b
 exact Option.some.inj b
theorem w64 {n : Int} (h : -9223372036854775808 ≤ n) (h' : n ≤ 9223372036854775807) : wrap64 n = n := by
 unfold wrap64; omega
theorem wadd (a b : Nat) (h : a + b < 1000000000000) : wrap64 ((a : Int) + (b : Int)) = ((a + b : Nat) : Int) := by
 rw [w64 (by omega) (by omega)]; omega
theorem z12 (a : Nat) (h : a < 1000000000000) : wrap64 ((a : Int) + 1) = ((a + 1 : Nat) : Int) := by
 rw [w64 (by omega) (by omega)]; omega
theorem wsmall (n : Int) (h : -1000000000000 ≤ n ∧ n ≤ 1000000000000) : wrap64 n = n := w64 (by omega) (by omega)
theorem within_eq (a b c : Int) : impl_within.f a b c = some (decide (b ≤ a ∧ a ≤ c)) := by
 unfold impl_within.f; split <;> simp <;> omega
theorem in_eq (a b c : Int) : spec_l01In.f a b c = some (decide (b ≤ a ∧ a ≤ c)) := by
 unfold spec_l01In.f; split <;> simp <;> omega
def isT (w h : Int) : Bool := decide (1 ≤ w ∧ w ≤ 6 ∧ 1 ≤ h ∧ h ≤ 6)
def okS (w h m : Int) : Bool := isT w h && decide (0 ≤ m ∧ m < 2 ^ (w * h).toNat)
theorem isT_iff {w h : Int} : isT w h = true ↔ 1 ≤ w ∧ w ≤ 6 ∧ 1 ≤ h ∧ h ≤ 6 := by simp [isT]
theorem okS_iff {w h m : Int} : okS w h m = true ↔ (1 ≤ w ∧ w ≤ 6 ∧ 1 ≤ h ∧ h ≤ 6) ∧ 0 ≤ m ∧ m < 2 ^ (w * h).toNat := by simp [okS, isT]
theorem table_all {p : Int → Int → Bool} (H : (List.range 6).all (fun w => (List.range 6).all fun h => p ((w : Int) + 1) ((h : Int) + 1)) = true) (w h : Int) (hw : isT w h = true) : p w h = true := by
 obtain ⟨a, b, c, d⟩ := isT_iff.mp hw
 have e1 : w = (((w - 1).toNat : Nat) : Int) + 1 := by omega
 have e2 : h = (((h - 1).toNat : Nat) : Int) + 1 := by omega
 have := List.all_eq_true.mp (List.all_eq_true.mp H (w - 1).toNat (by simp; omega)) (h - 1).toNat (by simp; omega)
 rw [e1, e2]; exact this
theorem shl_table (w h : Int) (hw : isT w h = true) : (0 ≤ wrap64 (w * h) ∧ wrap64 (w * h) = w * h ∧ w * h ≤ 36 ∧ shl .i64 1 (wrap64 (w * h)) = 2 ^ (w * h).toNat) ∧ (2 : Int) ^ (w * h).toNat ≤ 68719476736 ∧ 2 ≤ (2 : Int) ^ (w * h).toNat := by
 have := table_all (p := fun w h => decide ((0 ≤ wrap64 (w * h) ∧ wrap64 (w * h) = w * h ∧ w * h ≤ 36 ∧ shl .i64 1 (wrap64 (w * h)) = 2 ^ (w * h).toNat) ∧ (2 : Int) ^ (w * h).toNat ≤ 68719476736 ∧ 2 ≤ (2 : Int) ^ (w * h).toNat)) (by decide +kernel) w h hw
 exact of_decide_eq_true this
theorem z1b (w h m : Int) : spec_ShapeOk.f w h m = some (okS w h m) := by
 unfold spec_ShapeOk.f
 simp only [in_eq, Option.bind_some]
 by_cases c : isT w h = true
 ·obtain ⟨⟨a1, a2, a3, a4⟩, a5, a6⟩ := shl_table w h c
  have c' := isT_iff.mp c
  rw [if_pos (by simp; omega), if_pos (by simp; omega), if_pos a1, a4, w64 (by omega) (by omega)]
  unfold okS
  rw [c, Bool.true_and]
  exact congrArg some (decide_eq_decide.mpr (by omega))
 ·have e : okS w h m = false := by unfold okS; simp [c]
  have c' : ¬ (1 ≤ w ∧ w ≤ 6 ∧ 1 ≤ h ∧ h ≤ 6) := fun x => c (isT_iff.mpr x)
  rw [e]
  by_cases d : 1 ≤ w ∧ w ≤ 6
  ·rw [if_pos (decide_eq_true d), if_neg (fun x => c' (by have := of_decide_eq_true x; omega))]
  ·rw [if_neg (fun x => d (of_decide_eq_true x))]
theorem impl_isTable (w h : Int) : impl_isTable.f w h = some (isT w h) := by
 unfold impl_isTable.f
 simp only [within_eq, Option.bind_some]
 by_cases d : 1 ≤ w ∧ w ≤ 6
 ·rw [if_pos (decide_eq_true d)]
  exact congrArg some (decide_eq_decide.mpr (by omega))
 ·rw [if_neg (fun x => d (of_decide_eq_true x))]
  exact congrArg some (decide_eq_false (by omega)).symm
theorem z29 (w h m : Int) : impl_ShapeOk.f w h m = some (okS w h m) := by
 unfold impl_ShapeOk.f
 simp only [impl_isTable, Option.bind_some]
 by_cases c : isT w h = true
 ·obtain ⟨⟨a1, a2, a3, a4⟩, a5, a6⟩ := shl_table w h c
  rw [if_pos c, if_pos a1, a4]
  unfold okS
  rw [c]
  rw [Bool.true_and]
  by_cases g : m ≥ 0
  ·rw [if_pos g]
   exact congrArg some (decide_eq_decide.mpr (by omega))
  ·rw [if_neg g]
   exact congrArg some (decide_eq_false (by omega)).symm
 ·rw [if_neg c]; unfold okS; simp [c]
theorem rd_at (l : List Int) (i : Nat) : rd l (i : Int) = l.getD i 0 := by simp [rd]
theorem eqIntS_from (l : List Int) (hl : (l.length : Int) ≤ 4611686018427387904) (d : Nat) : ∀ i : Int, 0 ≤ i → (l.length : Int) - i ≤ d → Ev (fun k => laws_eqIntS.l0 k l l i) true := by
 induction d with
 | zero =>
  intro i h0 hd
  refine z5 ?_
  simp only [laws_eqIntS.l0]
  exact z7 (by omega) (z8 _)
 | succ d ih =>
  intro i h0 hd
  refine z5 ?_
  simp only [laws_eqIntS.l0, if_true]
  by_cases hi : i < (l.length : Int)
  ·refine z4 hi (z4 h0 (z4 hi ?_))
   rw [w64 (by omega) (by omega)]
   exact ih _ (by omega) (by omega)
  ·exact z7 hi (z8 _)
theorem z20 (l : List Int) (hl : (l.length : Int) ≤ 4611686018427387904) : Ev (fun k => laws_eqIntS.f k l l) true := by
 unfold laws_eqIntS.f
 exact z4 rfl (eqIntS_from l hl l.length 0 (by omega) (by omega))
theorem toIntS_from (l : List Int) (hl : l.length ≤ 1048576) (d : Nat) : ∀ (x : List Int) (i : Nat), x.length = l.length → l.length - i ≤ d → i ≤ l.length → (∀ j, j < i → x[j]? = l[j]?) →
 Ev (fun k => laws_toIntS.l0 k l x i) l := by
 induction d with
 | zero =>
  intro x i hx hd hi hm
  refine z5 ?_
  simp only [laws_toIntS.l0]
  have e : x = l := by
   apply List.ext_getElem?
   intro j
   by_cases hj : j < i
   ·exact hm j hj
   ·rw [List.getElem?_eq_none (by omega), List.getElem?_eq_none (by omega)]
  exact z7 (by omega) (z18 (z8 _) e)
 | succ d ih =>
  intro x i hx hd hi hm
  refine z5 ?_
  simp only [laws_toIntS.l0]
  by_cases h : i < l.length
  ·refine z4 (by omega) (z4 (by omega) (z4 (by omega) ?_))
   rw [w64 (by omega) (by omega)]
   have e2 : ((i : Int) + 1) = ((i + 1 : Nat) : Int) := by omega
   have e3 : ((i : Int)).toNat = i := by omega
   rw [e2, e3, rd_at]
   refine ih _ (i + 1) (by simpa using hx) (by omega) (by omega) ?_
   intro j hj
   rw [List.getElem?_set]
   by_cases e : i = j
   ·subst e
    rw [if_pos rfl, if_pos (by omega), gd_, List.getElem?_eq_getElem h]
    rfl
   ·rw [if_neg e]; exact hm j (by omega)
  ·have e : x = l := by
    apply List.ext_getElem?
    intro j
    by_cases hj : j < i
    ·exact hm j hj
    ·rw [List.getElem?_eq_none (by omega), List.getElem?_eq_none (by omega)]
   exact z7 (by omega) (z18 (z8 _) e)
theorem toIntS_ev (l : List Int) (hl : l.length ≤ 1048576) : Ev (fun k => laws_toIntS.f k l) l := by
 unfold laws_toIntS.f
 refine z4 (by omega) (z4 (by omega) ?_)
 exact toIntS_from l hl l.length _ 0 (by simp) (by omega) (by omega) (fun j hj => by omega)
theorem z44 (n : Nat) (hn : (n : Int) ≤ 4611686018427387904) (d : Nat) : ∀ (l : List Int) (i : Nat), l.length = n → n - i ≤ d → i ≤ n → (∀ j, j < i → l.getD j 0 = 1 + j) →
 ∃ l', Ev (fun k => laws_markIntS.l0 k l (1 + i) i) (1 + (n : Int), l') ∧ l'.length = n ∧ ∀ j, j < n → l'.getD j 0 = 1 + j := by
 induction d with
 | zero =>
  intro l i hl hd hi hm
  refine ⟨l, z5 ?_, hl, fun j hj => hm j (by omega)⟩
  simp only [laws_markIntS.l0]
  obtain rfl : i = n := by omega
  exact z7 (by omega) (z8 _)
 | succ d ih =>
  intro l i hl hd hi hm
  by_cases h : i < n
  ·obtain ⟨l', hl', h1, h2⟩ := ih (l.set i (1 + i)) (i + 1) (by simpa using hl) (by omega) (by omega) (by
    intro j hj
    rw [gd_, List.getElem?_set]
    by_cases e : i = j
    ·subst e; rw [if_pos rfl, if_pos (by omega)]; rfl
    ·rw [if_neg e, ← gd_]; exact hm j (by omega))
   refine ⟨l', z5 ?_, h1, h2⟩
   simp only [laws_markIntS.l0]
   refine z4 (by omega) (z4 (by omega) ?_)
   rw [w64 (by omega) (by omega), w64 (by omega) (by omega)]
   have e1 : (1 + (i : Int) + 1) = 1 + ((i + 1 : Nat) : Int) := by omega
   have e2 : ((i : Int) + 1) = ((i + 1 : Nat) : Int) := by omega
   have e3 : ((i : Int)).toNat = i := by omega
   rw [e1, e2, e3]; exact hl'
  ·obtain rfl : i = n := by omega
   refine ⟨l, z5 ?_, hl, fun j hj => hm j (by omega)⟩
   simp only [laws_markIntS.l0]
   exact z7 (by omega) (z8 _)
theorem z3f (n : Nat) (hn : (n : Int) ≤ 4611686018427387904) (l : List Int) (hl : l.length = n) (hm : ∀ j, j < n → l.getD j 0 = 1 + j) (d : Nat) : ∀ i : Nat, i ≤ n → n - i ≤ d →
 Ev (fun k => laws_heldIntS.l0 k l (1 + i) i) (1 + (n : Int)) := by
 induction d with
 | zero =>
  intro i hi hd
  refine z5 ?_
  simp only [laws_heldIntS.l0]
  obtain rfl : i = n := by omega
  exact z7 (by omega) (z8 _)
 | succ d ih =>
  intro i hi hd
  refine z5 ?_
  simp only [laws_heldIntS.l0]
  by_cases h : i < n
  ·refine z4 (by omega) (z4 (by omega) (z4 (by rw [rd_at]; exact hm i h) ?_))
   rw [w64 (by omega) (by omega), w64 (by omega) (by omega)]
   have e1 : (1 + (i : Int) + 1) = 1 + ((i + 1 : Nat) : Int) := by omega
   have e2 : ((i : Int) + 1) = ((i + 1 : Nat) : Int) := by omega
   rw [e1, e2]; exact ih (i + 1) (by omega) (by omega)
  ·obtain rfl : i = n := by omega
   exact z7 (by omega) (z8 _)
theorem markIntS_ev (l : List Int) (hl : (l.length : Int) ≤ 4611686018427387904) :
 ∃ l', Ev (fun k => laws_markIntS.f k l 1) (1 + (l.length : Int), l') ∧ Ev (fun k => laws_heldIntS.f k l' 1) (1 + (l.length : Int)) := by
 obtain ⟨l', h1, h2, h3⟩ := z44 l.length hl l.length l 0 rfl (by omega) (by omega) (fun j hj => by omega)
 exact ⟨l', h1, z3f l.length hl l' h2 h3 l.length 0 (by omega) (by omega)⟩
theorem z27 (n : Nat) (hn : (n : Int) ≤ 1000000000000) (c : Int) (hc : 0 ≤ c) (hc' : c ≤ 1000000000000) (d : Nat) : ∀ (l : List Int) (i : Nat), l.length = n → n - i ≤ d → i ≤ n →
 ∃ l', Ev (fun k => laws_markIntS.l0 k l (c + i) i) (c + (n : Int), l') := by
 induction d with
 | zero =>
  intro l i hl hd hi
  refine ⟨l, z5 ?_⟩
  simp only [laws_markIntS.l0]
  obtain rfl : i = n := by omega
  exact z7 (by omega) (z8 _)
 | succ d ih =>
  intro l i hl hd hi
  by_cases h : i < n
  ·obtain ⟨l', hl'⟩ := ih (l.set i (c + i)) (i + 1) (by simpa using hl) (by omega) (by omega)
   refine ⟨l', z5 ?_⟩
   simp only [laws_markIntS.l0]
   refine z4 (by omega) (z4 (by omega) ?_)
   rw [w64 (by omega) (by omega), w64 (by omega) (by omega)]
   have e1 : (c + (i : Int) + 1) = c + ((i + 1 : Nat) : Int) := by omega
   have e2 : ((i : Int) + 1) = ((i + 1 : Nat) : Int) := by omega
   have e3 : ((i : Int)).toNat = i := by omega
   rw [e1, e2, e3]; exact hl'
  ·obtain rfl : i = n := by omega
   refine ⟨l, z5 ?_⟩
   simp only [laws_markIntS.l0]
   exact z7 (by omega) (z8 _)
theorem z2b (l : List Int) (hl : (l.length : Int) ≤ 1000000000000) (c : Int) (hc : 0 ≤ c) (hc' : c ≤ 1000000000000) : ∃ l', Ev (fun k => laws_markIntS.f k l c) (c + (l.length : Int), l') := by
 obtain ⟨l', h⟩ := z27 l.length hl c hc hc' l.length l 0 rfl (by omega) (by omega)
 refine ⟨l', ?_⟩
 unfold laws_markIntS.f
 simpa using h
theorem z2e (k q b m n : Nat) (hb : b < 2 ^ k) (hn : n < 2 ^ k) : (2 ^ k * q + b) &&& (2 ^ k * m + n) = 2 ^ k * (q &&& m) + (b &&& n) := by
 apply Nat.eq_of_testBit_eq
 intro i
 have hbn : b &&& n < 2 ^ k := Nat.and_lt_two_pow _ hn
 rw [Nat.testBit_and, Nat.testBit_two_pow_mul_add _ hb, Nat.testBit_two_pow_mul_add _ hn, Nat.testBit_two_pow_mul_add _ hbn]
 split
 ·rw [Nat.testBit_and]
 ·rw [Nat.testBit_and]
def pop : Nat → Nat → Nat
 | 0, _ => 0
 | n + 1, x => x % 2 + pop n (x / 2)
def cat : List Nat → Nat
 | [] => 0
 | b :: l => 256 * cat l + b
def rep (c : Nat) : Nat → Nat
 | 0 => 0
 | n + 1 => 256 * rep c n + c
theorem z3e (n : Nat) : pop n 0 = 0 := by
 induction n with
 | zero => rfl
 | succ n ih => simp [pop, ih]
theorem fin256 {p : Nat → Bool} (h : (List.range 256).all p = true) (b : Nat) (hb : b < 256) : p b = true := List.all_eq_true.mp h b (by simpa using hb)
def A1 (b : Nat) : Nat := (b / 2 &&& 0x55) + (b &&& 0x55)
def B1 (b : Nat) : Nat := (b / 4 &&& 0x33) + (b &&& 0x33)
def C1 (b : Nat) : Nat := (b / 16 + b) &&& 0x0f
theorem stepA (l : List Nat) (h : ∀ b ∈ l, b < 256) : (cat l / 2 &&& rep 0x55 l.length) + (cat l &&& rep 0x55 l.length) = cat (l.map A1) := by
 induction l with
 | nil => rfl
 | cons b l ih =>
  have hb : b < 256 := h b (by simp)
  have hi := ih (fun x hx => h x (by simp [hx]))
  simp only [cat, rep, List.length_cons, List.map_cons]
  have e1 : (256 * cat l + b) / 2 = 256 * (cat l / 2) + (128 * (cat l % 2) + b / 2) := by omega
  have l1 : 128 * (cat l % 2) + b / 2 < 256 := by omega
  have f : ∀ r < 2, (128 * r + b / 2) &&& 0x55 = b / 2 &&& 0x55 := by
   have := fin256 (p := fun b => (List.range 2).all fun r => (128 * r + b / 2) &&& 0x55 == b / 2 &&& 0x55) (by decide +kernel) b hb
   intro r hr
   have t := List.all_eq_true.mp this r (by simpa using hr)
   simpa using t
  rw [e1, z2e 8 _ _ _ _ l1 (by decide), z2e 8 _ _ _ _ hb (by decide), f _ (by omega)]
  rw [← hi]
  unfold A1
  omega
theorem stepB (l : List Nat) (h : ∀ b ∈ l, b < 256) : (cat l / 4 &&& rep 0x33 l.length) + (cat l &&& rep 0x33 l.length) = cat (l.map B1) := by
 induction l with
 | nil => rfl
 | cons b l ih =>
  have hb : b < 256 := h b (by simp)
  have hi := ih (fun x hx => h x (by simp [hx]))
  simp only [cat, rep, List.length_cons, List.map_cons]
  have e1 : (256 * cat l + b) / 4 = 256 * (cat l / 4) + (64 * (cat l % 4) + b / 4) := by omega
  have l1 : 64 * (cat l % 4) + b / 4 < 256 := by omega
  have f : ∀ r < 4, (64 * r + b / 4) &&& 0x33 = b / 4 &&& 0x33 := by
   have := fin256 (p := fun b => (List.range 4).all fun r => (64 * r + b / 4) &&& 0x33 == b / 4 &&& 0x33) (by decide +kernel) b hb
   intro r hr
   have t := List.all_eq_true.mp this r (by simpa using hr)
   simpa using t
  rw [e1, z2e 8 _ _ _ _ l1 (by decide), z2e 8 _ _ _ _ hb (by decide), f _ (by omega)]
  rw [← hi]
  unfold B1
  omega
theorem stepC (l : List Nat) (h : ∀ b ∈ l, b % 16 ≤ 4 ∧ b / 16 ≤ 4) : (cat l / 16 + cat l) &&& rep 0x0f l.length = cat (l.map C1) := by
 induction l with
 | nil => rfl
 | cons b l ih =>
  have hb := h b (by simp)
  have hi := ih (fun x hx => h x (by simp [hx]))
  have hr : cat l % 16 ≤ 4 := by
   cases l with
   | nil => simp [cat]
   | cons c l => have := h c (by simp); simp only [cat]; omega
  simp only [cat, rep, List.length_cons, List.map_cons]
  have e1 : (256 * cat l + b) / 16 + (256 * cat l + b) = 256 * (cat l / 16 + cat l) + (16 * (cat l % 16) + (b / 16 + b)) := by omega
  have l1 : 16 * (cat l % 16) + (b / 16 + b) < 256 := by omega
  have f : ∀ r < 5, (16 * r + (b / 16 + b)) &&& 0x0f = (b / 16 + b) &&& 0x0f := by
   intro r hr
   rw [show (0x0f : Nat) = 2 ^ 4 - 1 from rfl, Nat.and_two_pow_sub_one_eq_mod, Nat.and_two_pow_sub_one_eq_mod]
   omega
  rw [e1, z2e 8 _ _ _ _ l1 (by decide), f _ (by omega), hi]
  rfl
def P8 (b : Nat) : Nat := C1 (B1 (A1 b))
theorem bytes_of (n : Nat) : ∀ x : Nat, x < 256 ^ n → ∃ l : List Nat, l.length = n ∧ (∀ b ∈ l, b < 256) ∧ cat l = x := by
 induction n with
 | zero => intro x hx; exact ⟨[], rfl, by simp, by simp [cat]; omega⟩
 | succ n ih =>
  intro x hx
  obtain ⟨l, h1, h2, h3⟩ := ih (x / 256) (by rw [Nat.pow_succ] at hx; omega)
  exact ⟨x % 256 :: l, by simp [h1], by intro b hb; rcases List.mem_cons.mp hb with rfl | h; omega; exact h2 b h, by simp only [cat, h3]; omega⟩
theorem pop8 (b : Nat) (hb : b < 256) : P8 b = pop 8 b ∧ A1 b < 256 ∧ B1 (A1 b) < 256 ∧ B1 (A1 b) % 16 ≤ 4 ∧ B1 (A1 b) / 16 ≤ 4 ∧ P8 b ≤ 8 := by
 have := fin256 (p := fun b => decide (P8 b = pop 8 b ∧ A1 b < 256 ∧ B1 (A1 b) < 256 ∧ B1 (A1 b) % 16 ≤ 4 ∧ B1 (A1 b) / 16 ≤ 4 ∧ P8 b ≤ 8)) (by decide +kernel) b hb
 exact of_decide_eq_true this
theorem steps (x : Nat) (hx : x < 2 ^ 64) : ∃ b0 b1 b2 b3 b4 b5 b6 b7 : Nat, (b0 < 256 ∧ b1 < 256 ∧ b2 < 256 ∧ b3 < 256 ∧ b4 < 256 ∧ b5 < 256 ∧ b6 < 256 ∧ b7 < 256) ∧ x = cat [b0, b1, b2, b3, b4, b5, b6, b7] ∧
 ∃ a b : Nat, a = (x / 2 &&& 6148914691236517205) + (x &&& 6148914691236517205) ∧ a < 2 ^ 64 ∧ b = (a / 4 &&& 3689348814741910323) + (a &&& 3689348814741910323) ∧ b / 16 + b < 2 ^ 64 ∧
 (b / 16 + b) &&& 1085102592571150095 = cat [pop 8 b0, pop 8 b1, pop 8 b2, pop 8 b3, pop 8 b4, pop 8 b5, pop 8 b6, pop 8 b7] := by
 obtain ⟨l, h1, h2, h3⟩ := bytes_of 8 x hx
 match l, h1 with
 | [b0, b1, b2, b3, b4, b5, b6, b7], _ =>
  simp only [List.mem_cons, List.not_mem_nil, or_false, forall_eq_or_imp, forall_eq] at h2
  obtain ⟨g0, g1, g2, g3, g4, g5, g6, g7⟩ := h2
  have q0 := pop8 b0 g0; have q1 := pop8 b1 g1; have q2 := pop8 b2 g2; have q3 := pop8 b3 g3
  have q4 := pop8 b4 g4; have q5 := pop8 b5 g5; have q6 := pop8 b6 g6; have q7 := pop8 b7 g7
  refine ⟨b0, b1, b2, b3, b4, b5, b6, b7, ⟨g0, g1, g2, g3, g4, g5, g6, g7⟩, h3.symm, ?_⟩
  have sA := stepA [b0, b1, b2, b3, b4, b5, b6, b7] (by simp; omega)
  have sB := stepB ([b0, b1, b2, b3, b4, b5, b6, b7].map A1) (by simp; omega)
  have sC := stepC (([b0, b1, b2, b3, b4, b5, b6, b7].map A1).map B1) (by simp; omega)
  refine ⟨_, _, rfl, ?_, rfl, ?_, ?_⟩
  all_goals subst h3
  ·show (cat _ / 2 &&& rep 0x55 8) + (cat _ &&& rep 0x55 8) < _
   have := sA
   simp only [List.length_cons, List.length_nil, Nat.zero_add] at this
   rw [this]
   simp only [List.map_cons, List.map_nil, cat]
   omega
  ·have e1 := sA
   simp only [List.length_cons, List.length_nil, Nat.zero_add] at e1
   have e2 := sB
   simp only [List.length_map, List.length_cons, List.length_nil, Nat.zero_add] at e2
   have e1' : (cat [b0, b1, b2, b3, b4, b5, b6, b7] / 2 &&& 6148914691236517205) + (cat [b0, b1, b2, b3, b4, b5, b6, b7] &&& 6148914691236517205) = _ := e1
   have e2' : (cat (List.map A1 [b0, b1, b2, b3, b4, b5, b6, b7]) / 4 &&& 3689348814741910323) + (cat (List.map A1 [b0, b1, b2, b3, b4, b5, b6, b7]) &&& 3689348814741910323) = _ := e2
   rw [e1', e2']
   simp only [List.map_cons, List.map_nil, cat]
   omega
  ·have e1 := sA
   simp only [List.length_cons, List.length_nil, Nat.zero_add] at e1
   have e2 := sB
   simp only [List.length_map, List.length_cons, List.length_nil, Nat.zero_add] at e2
   have e3 := sC
   simp only [List.length_map, List.length_cons, List.length_nil, Nat.zero_add] at e3
   have e1' : (cat [b0, b1, b2, b3, b4, b5, b6, b7] / 2 &&& 6148914691236517205) + (cat [b0, b1, b2, b3, b4, b5, b6, b7] &&& 6148914691236517205) = _ := e1
   have e2' : (cat (List.map A1 [b0, b1, b2, b3, b4, b5, b6, b7]) / 4 &&& 3689348814741910323) + (cat (List.map A1 [b0, b1, b2, b3, b4, b5, b6, b7]) &&& 3689348814741910323) = _ := e2
   have e3' : (cat (List.map B1 (List.map A1 [b0, b1, b2, b3, b4, b5, b6, b7])) / 16 + cat (List.map B1 (List.map A1 [b0, b1, b2, b3, b4, b5, b6, b7]))) &&& 1085102592571150095 = _ := e3
   rw [e1', e2', e3']
   have p0 := q0.1; have p1 := q1.1; have p2 := q2.1; have p3 := q3.1; have p4 := q4.1; have p5 := q5.1; have p6 := q6.1; have p7 := q7.1
   unfold P8 at p0 p1 p2 p3 p4 p5 p6 p7
   simp only [List.map_cons, List.map_nil, p0, p1, p2, p3, p4, p5, p6, p7]
theorem z19 (b q n : Nat) (hb : b < 256) : pop (8 + n) (256 * q + b) = pop 8 b + pop n q := by
 rw [Nat.add_comm 8 n]
 simp only [pop]
 have e : (256 * q + b) / 2 / 2 / 2 / 2 / 2 / 2 / 2 / 2 = q := by omega
 rw [e]
 omega
theorem pop_more (n : Nat) : ∀ m x : Nat, x < 2 ^ n → pop (n + m) x = pop n x := by
  induction n with
  | zero => intro m x hx; obtain rfl : x = 0 := by omega
            rw [z3e, z3e]
  | succ n ih =>
    intro m x hx
    rw [Nat.succ_add]
    simp only [pop]
    rw [ih m (x / 2) (by rw [Nat.pow_succ] at hx; omega)]
theorem pop_cat8 (b0 b1 b2 b3 b4 b5 b6 b7 : Nat) (h : b0 < 256 ∧ b1 < 256 ∧ b2 < 256 ∧ b3 < 256 ∧ b4 < 256 ∧ b5 < 256 ∧ b6 < 256 ∧ b7 < 256) :
 pop 64 (cat [b0, b1, b2, b3, b4, b5, b6, b7]) = pop 8 b0 + pop 8 b1 + pop 8 b2 + pop 8 b3 + pop 8 b4 + pop 8 b5 + pop 8 b6 + pop 8 b7 := by
 simp only [cat]
 rw [show (64 : Nat) = 8 + (8 + (8 + (8 + (8 + (8 + (8 + (8 + 0))))))) from rfl]
 rw [z19 _ _ _ (by omega), z19 _ _ _ (by omega), z19 _ _ _ (by omega), z19 _ _ _ (by omega), z19 _ _ _ (by omega), z19 _ _ _ (by omega), z19 _ _ _ (by omega), z19 _ _ _ (by omega)]
 simp only [pop]
 omega
theorem folds (p0 p1 p2 p3 p4 p5 p6 p7 : Nat) (h : p0 ≤ 8 ∧ p1 ≤ 8 ∧ p2 ≤ 8 ∧ p3 ≤ 8 ∧ p4 ≤ 8 ∧ p5 ≤ 8 ∧ p6 ≤ 8 ∧ p7 ≤ 8) (y z u v : Nat) (hy : y = cat [p0, p1, p2, p3, p4, p5, p6, p7])
 (hz : z = y + y / 256) (hu : u = z + z / 65536) (hv : v = u + u / 4294967296) : z < 2 ^ 63 ∧ u < 2 ^ 63 ∧ v < 2 ^ 63 ∧ v % 128 = p0 + p1 + p2 + p3 + p4 + p5 + p6 + p7 := by
 simp only [cat] at hy
 have z0 : z = (p0 + p1) + 256 * (p1 + p2) + 65536 * (p2 + p3) + 16777216 * (p3 + p4) + 4294967296 * (p4 + p5) + 1099511627776 * (p5 + p6) + 281474976710656 * (p6 + p7) + 72057594037927936 * p7 := by omega
 have u0 : u = (p0 + p1 + p2 + p3) + 256 * (p1 + p2 + p3 + p4) + 65536 * (p2 + p3 + p4 + p5) + 16777216 * (p3 + p4 + p5 + p6) + 4294967296 * (p4 + p5 + p6 + p7) + 1099511627776 * (p5 + p6 + p7) + 281474976710656 * (p6 + p7) + 72057594037927936 * p7 := by
  have : z / 65536 = (p2 + p3) + 256 * (p3 + p4) + 65536 * (p4 + p5) + 16777216 * (p5 + p6) + 4294967296 * (p6 + p7) + 1099511627776 * p7 := by omega
  omega
 have v0 : u / 4294967296 = (p4 + p5 + p6 + p7) + 256 * (p5 + p6 + p7) + 65536 * (p6 + p7) + 16777216 * p7 := by omega
 have zl : z < 2 ^ 63 := by clear hz hu hv u0 v0 hy; omega
 clear hy hz
 have ul : u < 2 ^ 63 := by clear hu hv v0 z0; omega
 clear hu z0
 have v1 : v = (p0 + p1 + p2 + p3 + p4 + p5 + p6 + p7) + 128 * (2 * (p1 + p2 + p3 + p4 + p5 + p6 + p7) + 512 * (p2 + p3 + p4 + p5 + p6 + p7) + 131072 * (p3 + p4 + p5 + p6 + p7) + 33554432 * (p4 + p5 + p6 + p7) + 8589934592 * (p5 + p6 + p7) + 2199023255552 * (p6 + p7) + 562949953421312 * p7) := by
  rw [hv, v0, u0]; clear hv v0 u0 ul zl; omega
 have vl : v < 2 ^ 63 := by clear v0 u0; omega
 refine ⟨zl, ul, vl, ?_⟩
 rw [v1, Nat.add_mul_mod_self_left]
 clear v1 v0 u0 hv vl ul zl
 exact Nat.mod_eq_of_lt (by omega)
theorem z2f (a b : Nat) (ha : a < 2 ^ 64) (hb : b < 2 ^ 64) : Go.bits .and .u64 (a : Int) (b : Int) = ((a &&& b : Nat) : Int) :=
 (Go.bits_nat .u64 64 (by decide) (fun n h0 h1 => by unfold Go.IntKind.wrap; simp [Go.IntKind.bits, Go.IntKind.signed]; omega) a b ha hb).1
theorem z26 (a b : Nat) (ha : a < 2 ^ 63) (hb : b < 2 ^ 63) : Go.bits .and .i64 (a : Int) (b : Int) = ((a &&& b : Nat) : Int) :=
 (Go.bits_nat .i64 63 (by decide) (fun n h0 h1 => by rw [Go.IntKind.wrap_i64]; omega) a b ha hb).1
theorem z22 (a b : Nat) (ha : a < 2 ^ 63) (hb : b < 2 ^ 63) : Go.bits .or .i64 (a : Int) (b : Int) = ((a ||| b : Nat) : Int) :=
 (Go.bits_nat .i64 63 (by decide) (fun n h0 h1 => by rw [Go.IntKind.wrap_i64]; omega) a b ha hb).2
theorem z1a (a : Nat) (ha : a < 2 ^ 64) : IntKind.u64.wrap (a : Int) = (a : Int) := by
 unfold Go.IntKind.wrap; simp [Go.IntKind.bits, Go.IntKind.signed]; omega
theorem and1 (x : Nat) : x &&& 1 = x % 2 := Nat.and_one_is_mod x
theorem ones64 (x : Nat) (hx : x < 2 ^ 64) : bits_OnesCount64.f (x : Int) = some ((pop 64 x : Nat) : Int) := by
 obtain ⟨b0, b1, b2, b3, b4, b5, b6, b7, hb, hc, a, b, ha, ha', hbb, hb', hy⟩ := steps x hx
 unfold bits_OnesCount64.f
 have l5 : (6148914691236517205 : Nat) < 2 ^ 64 := by decide
 have l3 : (3689348814741910323 : Nat) < 2 ^ 64 := by decide
 have lf : (1085102592571150095 : Nat) < 2 ^ 64 := by decide
 have d2 : ((x : Int) / 2) = ((x / 2 : Nat) : Int) := by omega
 have eA : IntKind.u64.wrap ((Go.bits .and .u64 ((x : Int) / 2) 6148914691236517205) + (Go.bits .and .u64 (x : Int) 6148914691236517205)) = (a : Int) := by
  have i1 := z2f (x / 2) 6148914691236517205 (by omega) l5
  have i2 := z2f x 6148914691236517205 hx l5
  rw [d2]
  have i1' : Go.bits .and .u64 ((x / 2 : Nat) : Int) 6148914691236517205 = _ := i1
  have i2' : Go.bits .and .u64 ((x : Nat) : Int) 6148914691236517205 = _ := i2
  rw [i1', i2', ← Int.natCast_add, ← ha]
  exact z1a a ha'
 simp only [eA]
 have d4 : ((a : Int) / 4) = ((a / 4 : Nat) : Int) := by omega
 have lb : b < 2 ^ 64 := by omega
 have eB : IntKind.u64.wrap ((Go.bits .and .u64 ((a : Int) / 4) 3689348814741910323) + (Go.bits .and .u64 (a : Int) 3689348814741910323)) = (b : Int) := by
  have i1 := z2f (a / 4) 3689348814741910323 (by omega) l3
  have i2 := z2f a 3689348814741910323 ha' l3
  rw [d4]
  have i1' : Go.bits .and .u64 ((a / 4 : Nat) : Int) 3689348814741910323 = _ := i1
  have i2' : Go.bits .and .u64 ((a : Nat) : Int) 3689348814741910323 = _ := i2
  rw [i1', i2', ← Int.natCast_add, ← hbb]
  exact z1a b lb
 simp only [eB]
 have d16 : ((b : Int) / 16) + (b : Int) = ((b / 16 + b : Nat) : Int) := by omega
 rw [d16, z1a _ hb']
 have eC : Go.bits .and .u64 ((b / 16 + b : Nat) : Int) 1085102592571150095 = (((b / 16 + b) &&& 1085102592571150095 : Nat) : Int) := z2f _ 1085102592571150095 hb' lf
 simp only [eC, hy]
 have q0 := (pop8 b0 hb.1).1 ▸ (pop8 b0 hb.1).2.2.2.2.2
 have r := fun c (hc : c < 256) => (pop8 c hc).1 ▸ (pop8 c hc).2.2.2.2.2
 obtain ⟨g1, g2, g3, g4⟩ := folds (pop 8 b0) (pop 8 b1) (pop 8 b2) (pop 8 b3) (pop 8 b4) (pop 8 b5) (pop 8 b6) (pop 8 b7)
  ⟨r _ (by omega), r _ (by omega), r _ (by omega), r _ (by omega), r _ (by omega), r _ (by omega), r _ (by omega), r _ (by omega)⟩ _ _ _ _ rfl rfl rfl rfl
 generalize hY : cat [pop 8 b0, pop 8 b1, pop 8 b2, pop 8 b3, pop 8 b4, pop 8 b5, pop 8 b6, pop 8 b7] = Y at *
 have z1 : ((Y : Int) + (Y : Int) / 256) = ((Y + Y / 256 : Nat) : Int) := by omega
 rw [z1, z1a _ (by omega)]
 generalize hZ : Y + Y / 256 = Z at *
 have z2 : ((Z : Int) + (Z : Int) / 65536) = ((Z + Z / 65536 : Nat) : Int) := by omega
 rw [z2, z1a _ (by omega)]
 generalize hU : Z + Z / 65536 = U at *
 have z3 : ((U : Int) + (U : Int) / 4294967296) = ((U + U / 4294967296 : Nat) : Int) := by omega
 rw [z3, z1a _ (by omega)]
 generalize hV : U + U / 4294967296 = V at *
 rw [w64 (by omega) (by omega)]
 have e7 : Go.bits .and .i64 (V : Int) 127 = ((V &&& 127 : Nat) : Int) := z26 V 127 (by omega) (by decide)
 rw [e7, show (127 : Nat) = 2 ^ 7 - 1 from rfl, Nat.and_two_pow_sub_one_eq_mod, show 2 ^ 7 = 128 from rfl, g4, hc, pop_cat8 _ _ _ _ _ _ _ _ hb]
theorem onesCount (x : Nat) (hx : x < 2 ^ 64) : bits_OnesCount.f (x : Int) = some ((pop 64 x : Nat) : Int) := by
 unfold bits_OnesCount.f
 rw [ones64 x hx]; rfl
theorem l08Ones_from (m : Nat) : ∀ (x n : Nat), x < 2 ^ m → m ≤ 62 → n + m ≤ 100 → Ev (fun k => spec_l08Ones.l0 k (x : Int) (n : Int)) ((n + pop m x : Nat) : Int) := by
 induction m with
 | zero =>
  intro x n hx hm hn
  obtain rfl : x = 0 := by omega
  refine z5 ?_
  simp only [spec_l08Ones.l0, pop]
  exact z7 (by omega) (z8 _)
 | succ m ih =>
  intro x n hx hm hn
  have hp : 2 ^ m ≤ 2 ^ 61 := p2_ (by omega)
  refine z5 ?_
  simp only [spec_l08Ones.l0]
  by_cases h : 0 < x
  ·refine z4 (by omega) ?_
   have e : Go.bits .and .i64 (x : Int) 1 = ((x % 2 : Nat) : Int) := by
    have := z26 x 1 (by rw [Nat.pow_succ] at hx; omega) (by decide)
    rw [and1] at this; exact this
   rw [e, ← Int.natCast_add, w64 (by omega) (by omega)]
   have d : (x : Int) / 2 = ((x / 2 : Nat) : Int) := by omega
   rw [d]
   have := ih (x / 2) (n + x % 2) (by rw [Nat.pow_succ] at hx; omega) (by omega) (by omega)
   refine z18 this ?_
   simp only [pop]; omega
  ·obtain rfl : x = 0 := by omega
   rw [z3e]
   exact z7 (by omega) (z8 _)
theorem z3a (m : Nat) (x : Nat) (hx : x < 2 ^ m) (hm : m ≤ 62) : Ev (fun k => spec_l08Ones.f k (x : Int)) ((pop 64 x : Nat) : Int) := by
 unfold spec_l08Ones.f
 have := l08Ones_from m x 0 hx hm (by omega)
 refine z18 this ?_
 rw [show (64 : Nat) = m + (64 - m) by omega, pop_more _ _ _ hx]
 simp
theorem z42 (x i : Nat) (hi : i ≤ 64) : shr .i64 (x : Int) (i : Int) = ((x / 2 ^ i : Nat) : Int) := by
 unfold shr
 rw [show min ((i : Int)).toNat (IntKind.bits .i64) = i from by
  have : IntKind.bits .i64 = 64 := rfl
  omega]
 rw [Int.natCast_ediv, Int.natCast_pow]; rfl
theorem bit_at (x i : Nat) (hx : x < 2 ^ 62) (hi : i ≤ 64) : Go.bits .and .i64 (shr .i64 (x : Int) (i : Int)) 1 = ((x / 2 ^ i % 2 : Nat) : Int) := by
 rw [z42 x i hi]
 have h := z26 (x / 2 ^ i) 1 (Nat.lt_of_le_of_lt (Nat.div_le_self _ _) (by omega)) (by decide)
 rw [and1] at h
 exact h
theorem z10 (x i : Nat) : x.testBit i = decide (x / 2 ^ i % 2 = 1) := Nat.testBit_eq_decide_div_mod_eq
theorem bit_eq1 (x i : Nat) (hx : x < 2 ^ 62) (hi : i ≤ 64) : (Go.bits .and .i64 (shr .i64 (x : Int) (i : Int)) 1 = 1) ↔ x.testBit i = true := by
 rw [bit_at x i hx hi, z10, decide_eq_true_iff]
 generalize x / 2 ^ i % 2 = q
 omega
theorem z31 (x i : Nat) (hx : x < 2 ^ 62) (hi : i ≤ 64) : (Go.bits .and .i64 (shr .i64 (x : Int) (i : Int)) 1 = 0) ↔ x.testBit i = false := by
 rw [bit_at x i hx hi, z10, decide_eq_false_iff_not]
 have : x / 2 ^ i % 2 < 2 := Nat.mod_lt _ (by decide)
 generalize x / 2 ^ i % 2 = q at *
 omega
theorem z14 (i : Nat) (hi : i ≤ 62) : shl .i64 1 (i : Int) = ((2 ^ i : Nat) : Int) := by
 unfold shl
 rw [show min ((i : Int)).toNat (IntKind.bits .i64) = i from by
  have : IntKind.bits .i64 = 64 := rfl
  omega]
 have h : 2 ^ i ≤ 2 ^ 62 := p2_ hi
 have e : (1 : Int) * 2 ^ i = ((2 ^ i : Nat) : Int) := by rw [Int.natCast_pow]; simp
 rw [e, IntKind.wrap_i64]
 generalize 2 ^ i = q at *
 omega
theorem z2a (x i : Nat) (hx : x < 2 ^ 62) (hi : i ≤ 64) : impl_has.f (x : Int) (i : Int) = some (x.testBit i) := by
 unfold impl_has.f
 rw [if_pos (by omega)]
 have h := bit_eq1 x i hx hi
 cases e : x.testBit i
 ·rw [e] at h
  simp at h
  exact congrArg some (by simpa using h)
 ·rw [e] at h
  simp at h
  exact congrArg some (by simpa using h)
theorem zero_test (x i : Nat) (h : x / 2 ^ i = 0) (j : Nat) (hj : i ≤ j) : x.testBit j = false := by
 apply Nat.testBit_lt_two_pow
 have : x < 2 ^ i := by
  rcases Nat.div_eq_zero_iff.mp h with h | h
  ·have := Nat.two_pow_pos i; omega
  ·exact h
 exact lle_ this (p2_ hj)
def cl (x : Nat) : Nat → Nat → List Nat
 | _, 0 => []
 | i, d + 1 => if x.testBit i then i :: cl x (i + 1) d else cl x (i + 1) d
theorem cl_none (x : Nat) (d : Nat) : ∀ i, x / 2 ^ i = 0 → cl x i d = [] := by
 induction d with
 | zero => intro i _; rfl
 | succ d ih =>
  intro i h
  simp only [cl]
  rw [zero_test x i h i (Nat.le_refl _)]
  simp
  apply ih
  rw [Nat.pow_succ, ← Nat.div_div_eq_div_mul, h]
theorem cl_len (x : Nat) (d : Nat) : ∀ i, (cl x i d).length ≤ d := by
 induction d with
 | zero => intro i; simp [cl]
 | succ d ih => intro i; have := ih (i + 1); simp only [cl]; split <;> simp <;> omega
theorem cl_mem (x : Nat) (d : Nat) : ∀ i j, j ∈ cl x i d ↔ (i ≤ j ∧ j < i + d ∧ x.testBit j = true) := by
 induction d with
 | zero => intro i j; simp [cl]; omega
 | succ d ih =>
  intro i j
  simp only [cl]
  by_cases h : x.testBit i = true
  ·rw [if_pos h, List.mem_cons, ih]
   constructor
   ·rintro (rfl | ⟨a, b, c⟩)
    ·exact ⟨by omega, by omega, h⟩
    ·exact ⟨by omega, by omega, c⟩
   ·rintro ⟨a, b, c⟩
    by_cases e : j = i
    ·exact .inl e
    ·exact .inr ⟨by omega, by omega, c⟩
  ·rw [if_neg h, ih]
   constructor
   ·rintro ⟨a, b, c⟩; exact ⟨by omega, by omega, c⟩
   ·rintro ⟨a, b, c⟩
    refine ⟨?_, by omega, c⟩
    rcases Nat.lt_or_ge i j with g | g
    ·omega
    ·obtain rfl : i = j := by omega
     exact absurd c h
theorem tdivmod (i w : Nat) (hw : 0 < w) (hi : i < 100) (hww : w ≤ 100) : Int.tmod (i : Int) (w : Int) = ((i % w : Nat) : Int) ∧ wrap64 (Int.tdiv (i : Int) (w : Int)) = ((i / w : Nat) : Int) := by
 have e1 : Int.tmod (i : Int) (w : Int) = ((i % w : Nat) : Int) := by rw [Int.tmod_eq_emod_of_nonneg (by omega)]; rfl
 have e2 : Int.tdiv (i : Int) (w : Int) = ((i / w : Nat) : Int) := by rw [Int.tdiv_eq_ediv_of_nonneg (by omega)]; rfl
 refine ⟨e1, ?_⟩
 have : i / w ≤ i := Nat.div_le_self _ _
 rw [e2]
 generalize i / w = q at *
 exact w64 (by omega) (by omega)
theorem ok_nat {w h m : Int} (c : okS w h m = true) : ∃ W H x : Nat, w = W ∧ h = H ∧ m = x ∧ (1 ≤ W ∧ W ≤ 6) ∧ (1 ≤ H ∧ H ≤ 6) ∧ x < 2 ^ (W * H) ∧ W * H ≤ 36 := by
 obtain ⟨hT, h0, h1⟩ := okS_iff.mp c
 refine ⟨w.toNat, h.toNat, m.toNat, by omega, by omega, by omega, by omega, by omega, ?_, ?_⟩
 ·have e : m = (m.toNat : Int) := by omega
  have e2 : (w * h).toNat = w.toNat * h.toNat := by
   rw [Int.toNat_mul (by omega) (by omega)]
  rw [e, e2] at h1
  exact_mod_cast h1
 ·have a : w.toNat ≤ 6 := by omega
  have b : h.toNat ≤ 6 := by omega
  calc w.toNat * h.toNat ≤ 6 * 6 := Nat.mul_le_mul a b
   _ = 36 := rfl
theorem nat_ok (W H x : Nat) (hW : 1 ≤ W ∧ W ≤ 6) (hH : 1 ≤ H ∧ H ≤ 6) (hx : x < 2 ^ (W * H)) : okS (W : Int) (H : Int) (x : Int) = true := by
 rw [okS_iff]
 refine ⟨by omega, by omega, ?_⟩
 have e2 : ((W : Int) * (H : Int)).toNat = W * H := by rw [← Int.natCast_mul]; exact Int.toNat_natCast _
 rw [e2]; exact_mod_cast hx
def zb (w i : Nat) : S56 := ⟨((i % w : Nat) : Int), ((i / w : Nat) : Int)⟩
theorem z33 (w n x : Nat) (hw : 0 < w) (hww : w ≤ 6) (hn : n ≤ 36) (hx : x < 2 ^ n) (d : Nat) : ∀ (i : Nat) (out : List S56), i + d = n → out.length + d ≤ 100 →
 Ev (fun k => spec_l08Cells.l0 k (w : Int) (x : Int) out (i : Int)) (out ++ (cl x i d).map (zb w)) := by
 have hx62 : x < 2 ^ 62 := lle_ hx (p2_ (by omega))
 induction d with
 | zero =>
  intro i out h ho
  refine z5 ?_
  simp only [spec_l08Cells.l0, cl, List.map_nil, List.append_nil]
  refine z4 (by omega) ?_
  rw [z42 x i (by omega)]
  have : x / 2 ^ i = 0 := Nat.div_eq_of_lt (by rw [show i = n by omega]; exact hx)
  exact z7 (by omega) (z8 _)
 | succ d ih =>
  intro i out h ho
  refine z5 ?_
  simp only [spec_l08Cells.l0]
  refine z4 (by omega) ?_
  by_cases z : x / 2 ^ i = 0
  ·rw [cl_none x (d + 1) i z]
   refine z7 (by rw [z42 x i (by omega)]; omega) (z18 (z8 _) (by simp))
  ·refine z4 (by rw [z42 x i (by omega)]; generalize x / 2 ^ i = q at *; omega) ?_
   have e : wrap64 ((i : Int) + 1) = ((i + 1 : Nat) : Int) := by rw [w64 (by omega) (by omega)]; omega
   obtain ⟨t1, t2⟩ := tdivmod i w hw (by omega) (by omega)
   simp only [cl]
   rw [e, t1, t2]
   by_cases b : x.testBit i = true
   ·rw [if_pos b]
    refine z4 ((bit_eq1 x i hx62 (by omega)).mpr b) (z7 (by omega) (z4 (by omega) ?_))
    have := ih (i + 1) (out ++ [zb w i]) (by omega) (by simp; omega)
    simpa [zb] using this
   ·rw [if_neg b]
    exact z7 (fun c => b ((bit_eq1 x i hx62 (by omega)).mp c)) (ih (i + 1) out (by omega) (by omega))
theorem z23 (W n x : Nat) (hW : 1 ≤ W ∧ W ≤ 6) (hn : n ≤ 36) (hx : x < 2 ^ n) : Ev (fun k => spec_l08Cells.f k (W : Int) (x : Int)) ((cl x 0 n).map (zb W)) := by
 unfold spec_l08Cells.f
 have := z33 W n x (by omega) (by omega) hn hx n 0 [] (by omega) (by simp; omega)
 simpa using this
theorem rd_mid (pre suf : List Int) (a : Int) : rd (pre ++ a :: suf) (pre.length : Int) = a := by
 simp [rd, gd_]
theorem z3c {α : Type} (pre : List α) (a : α) (h : pre.length < 1000000) : wrap64 ((pre.length : Int) + 1) = ((pre ++ [a]).length : Int) := by
 rw [w64 (by omega) (by omega)]; simp
def nb (W H i : Nat) : List Nat :=
 (if 0 < i / W then [i - W] else []) ++ (if 0 < i % W then [i - 1] else []) ++ (if i % W + 1 < W then [i + 1] else []) ++ (if i / W + 1 < H then [i + W] else [])
def za (l : List Nat) : List Int := l.map (fun (j : Nat) => (j : Int))
theorem nb_ev (W H i : Nat) (hW : 1 ≤ W ∧ W ≤ 6) (hH : 1 ≤ H ∧ H ≤ 6) (hi : i < W * H) (hn : W * H ≤ 36) : Ev (fun k => impl_neighbors.f k (W : Int) (H : Int) (i : Int)) (za (nb W H i)) := by
 have hi36 : i < 36 := by omega
 have wW : wrap64 ((W : Int) - 1) = (W : Int) - 1 := w64 (by omega) (by omega)
 have wH : wrap64 ((H : Int) - 1) = (H : Int) - 1 := w64 (by omega) (by omega)
 have wi : wrap64 ((i : Int) - 1) = (i : Int) - 1 := w64 (by omega) (by omega)
 have wi' : wrap64 ((i : Int) + 1) = (i : Int) + 1 := w64 (by omega) (by omega)
 have wiw : wrap64 ((i : Int) - W) = (i : Int) - W := w64 (by omega) (by omega)
 have wiw' : wrap64 ((i : Int) + W) = (i : Int) + W := w64 (by omega) (by omega)
 unfold impl_neighbors.f
 obtain ⟨t1, t2⟩ := tdivmod i W (by omega) (by omega) (by omega)
 have hm : i % W < W := Nat.mod_lt _ (by omega)
 have hd : i / W * W + i % W = i := Nat.div_add_mod' i W
 have hdl : i / W < H := (Nat.div_lt_iff_lt_mul (by omega)).mpr (by rw [Nat.mul_comm]; exact hi)
 have hwd : 0 < i / W → W ≤ i := fun h => by
  have : 1 * W ≤ i / W * W := Nat.mul_le_mul_right W h
  omega
 rw [t1, t2, wiw]
 unfold nb
 generalize i / W = Y at *
 generalize i % W = X at *
 have last : ∀ out : List Int, out.length ≤ 10 → Ev (fun k => impl_neighbors.j1 k (W : Int) (H : Int) (i : Int) (X : Int) (Y : Int) out) (out ++ za ((if X + 1 < W then [i + 1] else []) ++ (if Y + 1 < H then [i + W] else []))) := by
  intro out ho
  refine z5 ?_
  simp only [impl_neighbors.j1, wW, wH, wi', wiw']
  by_cases c : X + 1 < W
  ·rw [if_pos c]
   refine z4 (by omega) (z4 (by omega) (zc rfl ?_))
   by_cases d : Y + 1 < H
   ·rw [if_pos d]
    exact z4 (by omega) (z4 (by simp; omega) (z18 (z8 _) (by simp [za])))
   ·rw [if_neg d]
    exact z7 (by omega) (z18 (z8 _) (by simp [za]))
  ·rw [if_neg c]
   refine z7 (by omega) ?_
   by_cases d : Y + 1 < H
   ·rw [if_pos d]
    exact z4 (by omega) (z4 (by omega) (z18 (z8 _) (by simp [za])))
   ·rw [if_neg d]
    exact z7 (by omega) (z18 (z8 _) (by simp [za]))
 have mid : ∀ out : List Int, out.length ≤ 5 → Ev (fun k => impl_neighbors.j0 k (W : Int) (H : Int) (i : Int) (X : Int) (Y : Int) out) (out ++ za ((if 0 < X then [i - 1] else []) ++ ((if X + 1 < W then [i + 1] else []) ++ (if Y + 1 < H then [i + W] else [])))) := by
  intro out ho
  refine z5 ?_
  simp only [impl_neighbors.j0, wi]
  by_cases c : 0 < X
  ·rw [if_pos c]
   refine z4 (by omega) (z4 (by omega) (z18 (last _ (by simp; omega)) ?_))
   simp [za]; omega
  ·rw [if_neg c]
   exact z7 (by omega) (z18 (last _ (by omega)) (by simp [za]))
 refine z7 (by omega) (zc rfl ?_)
 by_cases c : 0 < Y
 ·rw [if_pos c]
  refine z4 (by omega) (z4 (by simp) (z18 (mid _ (by simp)) ?_))
  have := hwd c
  simp [za]; omega
 ·rw [if_neg c]
  exact z7 (by omega) (z18 (mid _ (by simp)) (by simp [za]))
theorem nb_mem (W H i j : Nat) : j ∈ nb W H i ↔ (0 < i / W ∧ j = i - W) ∨ (0 < i % W ∧ j = i - 1) ∨ (i % W + 1 < W ∧ j = i + 1) ∨ (i / W + 1 < H ∧ j = i + W) := by
 unfold nb
 simp only [List.mem_append]
 have e : ∀ (c : Prop) [Decidable c] (z : Nat), j ∈ (if c then [z] else []) ↔ c ∧ j = z := by
  intro c _ z
  by_cases h : c
  ·rw [if_pos h]; simp [h]
  ·rw [if_neg h]; simp [h]
 rw [e, e, e, e]
 simp only [or_assoc]
theorem nb_in (W H i j : Nat) (hW : 0 < W) (hi : i < W * H) (hj : j ∈ nb W H i) : j < W * H := by
 have hd : i / W * W + i % W = i := Nat.div_add_mod' i W
 have hm : i % W < W := Nat.mod_lt _ hW
 rcases (nb_mem W H i j).mp hj with ⟨_, rfl⟩ | ⟨_, rfl⟩ | ⟨c, rfl⟩ | ⟨c, rfl⟩
 ·omega
 ·omega
 ·have h1 : i / W < H := (Nat.div_lt_iff_lt_mul hW).mpr (by rw [Nat.mul_comm]; exact hi)
  have h2 : (i / W + 1) * W ≤ H * W := Nat.mul_le_mul_right W h1
  rw [Nat.succ_mul, Nat.mul_comm H W] at h2
  generalize i / W * W = q at *
  generalize i % W = r at *
  omega
 ·have h2 : (i / W + 1 + 1) * W ≤ H * W := Nat.mul_le_mul_right W c
  rw [Nat.succ_mul, Nat.succ_mul, Nat.mul_comm H W] at h2
  generalize i / W * W = q at *
  generalize i % W = r at *
  omega
inductive Conn (W H x s : Nat) : Nat → Prop
 | base : Conn W H x s s
 | step {i j : Nat} : Conn W H x s i → j ∈ nb W H i → x.testBit j = true → Conn W H x s j
def z11 (W H x s M : Nat) : Prop := ∀ i, M.testBit i = true ↔ Conn W H x s i
theorem z34 {W H x s M N : Nat} (h : z11 W H x s M) (h' : z11 W H x s N) : M = N := by
 apply Nat.eq_of_testBit_eq
 intro i
 have a := h i
 have b := h' i
 rw [Bool.eq_iff_iff, a, b]
theorem z1f {W H x s M : Nat} (hs : M.testBit s = true) (hc : ∀ i, M.testBit i = true → Conn W H x s i) (hcl : ∀ i, M.testBit i = true → ∀ j ∈ nb W H i, x.testBit j = true → M.testBit j = true) : z11 W H x s M := by
 intro i
 refine ⟨hc i, fun h => ?_⟩
 induction h with
 | base => exact hs
 | step _ hj hx ih => exact hcl _ ih _ hj hx
def zr : Nat → Nat → Nat
 | 0, _ => 0
 | n + 1, o => (if o.testBit n = true then 0 else 1) + zr n o
theorem zr_congr (n : Nat) (a b : Nat) (h : ∀ i, i < n → a.testBit i = b.testBit i) : zr n a = zr n b := by
 induction n with
 | zero => rfl
 | succ n ih =>
  simp only [zr]
  rw [h n (by omega), ih (fun i hi => h i (by omega))]
theorem zd (o j i : Nat) : (o ||| 2 ^ j).testBit i = (o.testBit i || decide (j = i)) := by
 rw [Nat.testBit_or, Nat.testBit_two_pow]
theorem zr_set (n : Nat) : ∀ (o j : Nat), j < n → o.testBit j = false → zr n (o ||| 2 ^ j) + 1 = zr n o := by
 induction n with
 | zero => intro o j h; omega
 | succ n ih =>
  intro o j h hj
  simp only [zr]
  rw [zd]
  by_cases e : j = n
  ·subst e
   rw [hj, zr_congr j (o ||| 2 ^ j) o (fun i hi => by
    rw [zd, decide_eq_false (by omega), Bool.or_false])]
   simp
   omega
  ·have := ih o j (by omega) hj
   rw [decide_eq_false e, Bool.or_false]
   omega
theorem zr_mono (n : Nat) (a b : Nat) (h : ∀ i, a.testBit i = true → b.testBit i = true) : zr n b ≤ zr n a := by
 induction n with
 | zero => exact Nat.le_refl _
 | succ n ih =>
  simp only [zr]
  by_cases c : a.testBit n = true
  ·rw [if_pos c, if_pos (h n c)]; omega
  ·rw [if_neg c]
   split <;> omega
theorem zr_eq (n : Nat) (a b : Nat) (h : ∀ i, a.testBit i = true → b.testBit i = true) (e : zr n b = zr n a) : ∀ i, i < n → a.testBit i = b.testBit i := by
 induction n with
 | zero => intro i hi; omega
 | succ n ih =>
  have hm := zr_mono n a b h
  simp only [zr] at e
  intro i hi
  by_cases c : a.testBit n = true
  ·have d := h n c
   rw [if_pos c, if_pos d] at e
   by_cases g : i = n
   ·rw [g, c, d]
   ·exact ih (by omega) i (by omega)
  ·rw [if_neg c] at e
   by_cases d : b.testBit n = true
   ·rw [if_pos d] at e; omega
   ·rw [if_neg d] at e
    by_cases g : i = n
    ·rw [g]; simp at c d; rw [c, d]
    ·exact ih (by omega) i (by omega)
theorem z28 {n o i : Nat} (h : o < 2 ^ n) (hi : n ≤ i) : o.testBit i = false :=
 Nat.testBit_lt_two_pow (lle_ h (p2_ hi))
theorem z3b {n o i : Nat} (h : o < 2 ^ n) (hi : o.testBit i = true) : i < n := by
 apply Classical.byContradiction
 intro c
 rw [z28 h (by omega)] at hi
 cases hi
theorem zr_le (n o : Nat) : zr n o ≤ n := by
 induction n with
 | zero => exact Nat.le_refl _
 | succ n ih => simp only [zr]; split <;> omega
structure Inv (W H x s out : Nat) (Q : List Nat) : Prop where
 start : out.testBit s = true
 conn : ∀ i, out.testBit i = true → Conn W H x s i
 todo : ∀ q ∈ Q, out.testBit q = true
 closed : ∀ i, out.testBit i = true → i ∉ Q → ∀ j ∈ nb W H i, x.testBit j = true → out.testBit j = true
 low : out < 2 ^ (W * H)
theorem part_l1 (W H x s : Nat) (hW : 1 ≤ W ∧ W ≤ 6) (hH : 1 ≤ H ∧ H ≤ 6) (hn : W * H ≤ 36) (hx : x < 2 ^ (W * H)) (now : Nat) (hnow : now < W * H) (m : Nat) (L : List Nat) (hL : L = nb W H now) (hLl : L.length ≤ 4)
 (K : ∀ out Q, Inv W H x s out Q → 2 * zr (W * H) out + Q.length ≤ m → ∃ M : Nat, Ev (fun k => impl_part.l0 k (W : Int) (H : Int) (x : Int) (out : Int) (za Q)) (M : Int) ∧ z11 W H x s M ∧ M < 2 ^ (W * H)) :
 ∀ (suf pre : List Nat) (out : Nat) (Q : List Nat), L = pre ++ suf → out.testBit s = true → (∀ i, out.testBit i = true → Conn W H x s i) → (∀ q ∈ Q, out.testBit q = true) → out.testBit now = true →
  (∀ i, out.testBit i = true → i ∉ Q → i ≠ now → ∀ j ∈ nb W H i, x.testBit j = true → out.testBit j = true) → (∀ j ∈ pre, x.testBit j = true → out.testBit j = true) → out < 2 ^ (W * H) →
  2 * zr (W * H) out + Q.length ≤ m → m ≤ 1000 →
 ∃ M : Nat, Ev (fun k => impl_part.l1 k (W : Int) (H : Int) (x : Int) (out : Int) (za Q) (za L) ((za L).length : Int) (pre.length : Int)) (M : Int) ∧ z11 W H x s M ∧ M < 2 ^ (W * H) := by
 have hx62 : x < 2 ^ 62 := lle_ hx (p2_ (by omega))
 have hp36 : 2 ^ (W * H) ≤ 2 ^ 36 := p2_ hn
 intro suf
 induction suf with
 | nil =>
  intro pre out Q hp h1 h2 h3 h4 h5 h6 h7 h8 h9
  obtain rfl : L = pre := by simp [hp]
  obtain ⟨M, hM, hM2⟩ := K out Q ⟨h1, h2, h3, fun i hi hq j hj hxj => by
   by_cases e : i = now
   ·subst e; exact h6 j (hL ▸ hj) hxj
   ·exact h5 i hi hq e j hj hxj, h7⟩ h8
  refine ⟨M, z5 ?_, hM2⟩
  simp only [impl_part.l1]
  exact z7 (by simp [za]) hM
 | cons a suf ih =>
  intro pre out Q hp h1 h2 h3 h4 h5 h6 h7 h8 h9
  have ha : a ∈ nb W H now := by rw [← hL, hp]; simp
  have han : a < W * H := nb_in W H now a (by omega) hnow ha
  have hlenN : pre.length < L.length := by rw [hp]; simp
  have hlen : (pre.length : Int) < ((za L).length : Int) := by unfold za; rw [List.length_map]; omega
  have c6 : pre.length < 1000000 := by omega
  have ho62 : out < 2 ^ 62 := by omega
  have c7 : (za Q).length < 17592186044416 := by unfold za; rw [List.length_map]; omega
  have a64 : a ≤ 62 := by omega
  have a65 : a ≤ 64 := by omega
  have hra : rd (za L) (pre.length : Int) = (a : Int) := by
   have := rd_mid (za pre) (za suf) (a : Int)
   rw [hp]
   simpa [za] using this
  have pl : 2 ^ a < 2 ^ 63 := Nat.pow_lt_pow_right (by decide) (by omega)
  have pl2 : 2 ^ a < 2 ^ (W * H) := Nat.pow_lt_pow_right (by decide) han
  have ho63 : out < 2 ^ 63 := by omega
  have step : ∀ (out' : Nat) (Q' : List Nat), (∀ i, out.testBit i = true → out'.testBit i = true) → (∀ i, out'.testBit i = true → Conn W H x s i) → (∀ q ∈ Q', out'.testBit q = true) → (∀ i, out'.testBit i = true → i ∉ Q' → out.testBit i = true ∧ i ∉ Q) → (x.testBit a = true → out'.testBit a = true) → out' < 2 ^ (W * H) → 2 * zr (W * H) out' + Q'.length ≤ m →
   ∃ M : Nat, Ev (fun k => impl_part.l1 k (W : Int) (H : Int) (x : Int) (out' : Int) (za Q') (za L) ((za L).length : Int) ((pre ++ [a]).length : Int)) (M : Int) ∧ z11 W H x s M ∧ M < 2 ^ (W * H) := by
   intro out' Q' g1 g2 g3 g4 g5 g6 g7
   refine ih (pre ++ [a]) out' Q' (by simp [hp]) (g1 s h1) g2 g3 (g1 now h4) (fun i hi hq he j hj hxj => ?_) (fun j hj hxj => ?_) g6 g7 h9
   ·obtain ⟨y1, y2⟩ := g4 i hi hq
    exact g1 j (h5 i y1 y2 he j hj hxj)
   ·rcases List.mem_append.mp hj with hj | hj
    ·exact g1 j (h6 j hj hxj)
    ·obtain rfl : j = a := by simpa using hj
     exact g5 hxj
  by_cases b : x.testBit a = true
  ·by_cases d : out.testBit a = true
   ·obtain ⟨M, hM, hM2⟩ := step out Q (fun _ h => h) h2 h3 (fun i hi hq => ⟨hi, hq⟩) (fun _ => d) h7 h8
    refine ⟨M, z5 ?_, hM2⟩
    simp only [impl_part.l1]
    rw [hra, z3c pre a c6]
    exact z4 hlen (z4 (nn_ _) (z4 hlen (zc (z2a x a hx62 a65) (z4 b (zc (z2a out a ho62 a65) (z4 d hM))))))
   ·have df : out.testBit a = false := by simpa using d
    have hor : out ||| 2 ^ a < 2 ^ (W * H) := Nat.or_lt_two_pow h7 pl2
    have hz := zr_set (W * H) out a han df
    obtain ⟨M, hM, hM2⟩ := step (out ||| 2 ^ a) (Q ++ [a]) (fun i h => by rw [zd, h]; rfl) (fun i hi => by
     rw [zd, Bool.or_eq_true] at hi
     rcases hi with hi | hi
     ·exact h2 i hi
     ·obtain rfl : a = i := of_decide_eq_true hi
      exact Conn.step (h2 now h4) ha b)
     (fun q hq => by
      rw [zd, Bool.or_eq_true]
      rcases List.mem_append.mp hq with hq | hq
      ·exact .inl (h3 q hq)
      ·exact .inr (decide_eq_true (List.mem_singleton.mp hq).symm))
     (fun i hi hq => by
      rw [zd, Bool.or_eq_true] at hi
      rcases hi with hi | hi
      ·exact ⟨hi, fun z => hq (by simp [z])⟩
      ·obtain rfl : a = i := of_decide_eq_true hi
       exact absurd (by simp) hq)
     (fun _ => by rw [zd]; simp) hor (by
      have : (Q ++ [a]).length = Q.length + 1 := by simp
      omega)
    refine ⟨M, z5 ?_, hM2⟩
    simp only [impl_part.l1]
    rw [hra, z3c pre a c6, z14 a a64, z22 out (2 ^ a) ho63 pl]
    have eq : za Q ++ [(a : Int)] = za (Q ++ [a]) := by simp [za]
    rw [eq]
    exact z4 hlen (z4 (nn_ _) (z4 hlen (zc (z2a x a hx62 a65) (z4 b (zc (z2a out a ho62 a65) (z7 d (z4 (nn_ _) (z4 c7 hM))))))))
  ·obtain ⟨M, hM, hM2⟩ := step out Q (fun _ h => h) h2 h3 (fun i hi hq => ⟨hi, hq⟩) (fun z => absurd z b) h7 h8
   refine ⟨M, z5 ?_, hM2⟩
   simp only [impl_part.l1]
   rw [hra, z3c pre a c6]
   exact z4 hlen (z4 (nn_ _) (z4 hlen (zc (z2a x a hx62 a65) (z7 b hM))))
theorem part_l0 (W H x s : Nat) (hW : 1 ≤ W ∧ W ≤ 6) (hH : 1 ≤ H ∧ H ≤ 6) (hn : W * H ≤ 36) (hx : x < 2 ^ (W * H)) (m : Nat) (hm : m ≤ 1000) : ∀ (out : Nat) (Q : List Nat), Inv W H x s out Q → 2 * zr (W * H) out + Q.length ≤ m →
 ∃ M : Nat, Ev (fun k => impl_part.l0 k (W : Int) (H : Int) (x : Int) (out : Int) (za Q)) (M : Int) ∧ z11 W H x s M ∧ M < 2 ^ (W * H) := by
 induction m with
 | zero =>
  intro out Q hI hq
  have hQ : Q = [] := List.length_eq_zero_iff.mp (by omega)
  subst hQ
  refine ⟨out, z5 ?_, z1f hI.start hI.conn (fun i hi j hj hxj => hI.closed i hi (by simp) j hj hxj), hI.low⟩
  simp only [impl_part.l0]
  exact z7 (by simp [za]) (z8 _)
 | succ m ih =>
  intro out Q hI hq
  match Q, hI, hq with
  | [], hI, hq =>
   refine ⟨out, z5 ?_, z1f hI.start hI.conn (fun i hi j hj hxj => hI.closed i hi (by simp) j hj hxj), hI.low⟩
   simp only [impl_part.l0]
   exact z7 (by simp [za]) (z8 _)
  | q :: Q, hI, hq =>
   have hqn : q < W * H := z3b hI.low (hI.todo q (by simp))
   have hnl : (nb W H q).length ≤ 4 := by
    unfold nb; simp only [List.length_append]; repeat' split
    all_goals simp
   obtain ⟨M, hM, hM2⟩ := part_l1 W H x s hW hH hn hx q hqn m (nb W H q) rfl hnl (fun out' Q' hI' hq' => ih (by omega) out' Q' hI' hq') (nb W H q) [] out Q rfl hI.start hI.conn (fun z hz => hI.todo z (by simp [hz])) (hI.todo q (by simp))
    (fun i hi hiq hne j hj hxj => hI.closed i hi (by simp [hiq, hne]) j hj hxj) (fun j hj => by cases hj) hI.low (by simp only [List.length_cons] at hq; omega) (by omega)
   refine ⟨M, z5 ?_, hM2⟩
   simp only [impl_part.l0]
   have e0 : rd (za (q :: Q)) 0 = (q : Int) := by simp [rd, za]
   have e1 : (za (q :: Q)).drop ((1 : Int)).toNat = za Q := by simp [za]
   have l0 : ((za (q :: Q)).length : Int) > 0 := by simp [za]
   have l1 : 1 ≤ ((za (q :: Q)).length : Int) := by omega
   rw [e0, e1]
   exact z4 l0 (z4 l0 (z4 l1 (z6 (nb_ev W H q hW hH hqn hn) hM)))
theorem part_ev (W H x s : Nat) (hW : 1 ≤ W ∧ W ≤ 6) (hH : 1 ≤ H ∧ H ≤ 6) (hn : W * H ≤ 36) (hx : x < 2 ^ (W * H)) (hs : s < W * H) : ∃ M : Nat, Ev (fun k => impl_part.f k (W : Int) (H : Int) (x : Int) (s : Int)) (M : Int) ∧ z11 W H x s M ∧ M < 2 ^ (W * H) := by
 have ht : ∀ i, (2 ^ s).testBit i = true → i = s := fun i hi => by
  rw [Nat.testBit_two_pow] at hi
  exact (of_decide_eq_true hi).symm
 have h0 : (2 ^ s).testBit s = true := by rw [Nat.testBit_two_pow]; simp
 have hz := zr_le (W * H) (2 ^ s)
 obtain ⟨M, hM, hM2⟩ := part_l0 W H x s hW hH hn hx 100 (by omega) (2 ^ s) [s] ⟨h0, fun i hi => (ht i hi) ▸ Conn.base, fun q hq => (List.mem_singleton.mp hq) ▸ h0, fun i hi hq => absurd (List.mem_singleton.mpr (ht i hi)) hq, Nat.pow_lt_pow_right (by decide) hs⟩ (by simp; omega)
 refine ⟨M, ?_, hM2⟩
 unfold impl_part.f
 have := z14 s (by omega)
 rw [this]
 exact z4 (nn_ _) hM
def z1c (W H p c out : Nat) : Prop := ∀ j, out.testBit j = true ↔ p.testBit j = true ∨ ∃ i, i < c ∧ p.testBit i = true ∧ j ∈ nb W H i
theorem around_skip {W H p c out : Nat} (h : z1c W H p c out) (hc : p.testBit c = false) : z1c W H p (c + 1) out := by
 intro j
 rw [h j]
 constructor
 ·rintro (a | ⟨i, hi, b, d⟩)
  ·exact .inl a
  ·exact .inr ⟨i, by omega, b, d⟩
 ·rintro (a | ⟨i, hi, b, d⟩)
  ·exact .inl a
  ·by_cases e : i = c
   ·subst e; rw [hc] at b; cases b
   ·exact .inr ⟨i, by omega, b, d⟩
theorem around_take {W H p c out out' : Nat} (h : z1c W H p c out) (hc : p.testBit c = true) (ho : ∀ j, out'.testBit j = true ↔ out.testBit j = true ∨ j ∈ nb W H c) : z1c W H p (c + 1) out' := by
 intro j
 rw [ho j, h j]
 constructor
 ·rintro ((a | ⟨i, hi, b, d⟩) | a)
  ·exact .inl a
  ·exact .inr ⟨i, by omega, b, d⟩
  ·exact .inr ⟨c, by omega, hc, a⟩
 ·rintro (a | ⟨i, hi, b, d⟩)
  ·exact .inl (.inl a)
  ·by_cases e : i = c
   ·subst e; exact .inr d
   ·exact .inl (.inr ⟨i, by omega, b, d⟩)
def orIf (c : Prop) [Decidable c] (o j : Nat) : Nat := if c then o ||| 2 ^ j else o
theorem z2d (c : Prop) [Decidable c] (o j i : Nat) : (orIf c o j).testBit i = true ↔ o.testBit i = true ∨ (c ∧ i = j) := by
 unfold orIf
 by_cases h : c
 ·rw [if_pos h, zd, Bool.or_eq_true, decide_eq_true_iff]
  constructor
  ·rintro (a | a)
   ·exact .inl a
   ·exact .inr ⟨h, a.symm⟩
  ·rintro (a | a)
   ·exact .inl a
   ·exact .inr a.2.symm
 ·rw [if_neg h]; simp [h]
theorem z2c (c : Prop) [Decidable c] {n o j : Nat} (h : o < 2 ^ n) (hj : c → j < n) : orIf c o j < 2 ^ n := by
 unfold orIf
 by_cases d : c
 ·rw [if_pos d]; exact Nat.or_lt_two_pow h (Nat.pow_lt_pow_right (by decide) (hj d))
 ·rw [if_neg d]; exact h
theorem near_row (W H p : Nat) (hW : 1 ≤ W ∧ W ≤ 6) (hH : 1 ≤ H ∧ H ≤ 6) (hn : W * H ≤ 36) (hp : p < 2 ^ (W * H)) (Y : Nat) (hY : Y < H) (Fin : Nat → Prop)
 (K : ∀ out, z1c W H p (Y * W + W) out → out < 2 ^ (W * H) → ∃ M : Nat, Ev (fun k => spec_l08Near.l0 k (W : Int) (H : Int) (p : Int) (out : Int) ((Y + 1 : Nat) : Int)) (M : Int) ∧ Fin M) (d : Nat) :
 ∀ (X out : Nat), X + d = W → z1c W H p (Y * W + X) out → out < 2 ^ (W * H) → ∃ M : Nat, Ev (fun k => spec_l08Near.l1 k (W : Int) (H : Int) (p : Int) (out : Int) (Y : Int) (X : Int)) (M : Int) ∧ Fin M := by
 have hp62 : p < 2 ^ 62 := lle_ hp (p2_ (by omega))
 have hp36 : 2 ^ (W * H) ≤ 2 ^ 36 := p2_ hn
 have hyw : (Y + 1) * W ≤ H * W := Nat.mul_le_mul_right W hY
 have hyw2 : Y * W + W ≤ W * H := by rw [Nat.succ_mul, Nat.mul_comm H W] at hyw; exact hyw
 have hYi : (Y : Int) * (W : Int) = ((Y * W : Nat) : Int) := (Int.natCast_mul Y W).symm
 induction d with
 | zero =>
  intro X out h1 h2 h3
  have e : X = W := by omega
  subst e
  obtain ⟨M, hM, hF⟩ := K out h2 h3
  refine ⟨M, z5 ?_, hF⟩
  simp only [spec_l08Near.l1]
  rw [z12 Y (by omega)]
  exact z7 (by omega) hM
 | succ d ih =>
  intro X out h1 h2 h3
  have b1 : Y * W + X < W * H := by omega
  have b2 : Y * W < 1000000000000 := by omega
  have b3 : Y * W + X < 1000000000000 := by omega
  have b4 : X < 1000000000000 := by omega
  have b5 : Y < 1000000000000 := by omega
  have b6 : (X : Int) < (W : Int) := by omega
  have b7 : X + 1 + d = W := by omega
  have b8 : Y * W + X ≤ 64 := by omega
  have wy : Aside0 (wrap64 ((Y : Int) * (W : Int)) = ((Y * W : Nat) : Int)) := ⟨by rw [hYi]; exact wsmall _ (by omega)⟩
  have hdiv : (Y * W + X) / W = Y := by rw [Nat.mul_comm, Nat.mul_add_div (by omega), Nat.div_eq_of_lt (by omega)]; rfl
  have hmod : (Y * W + X) % W = X := by rw [Nat.mul_comm, Nat.mul_add_mod]; exact Nat.mod_eq_of_lt (by omega)
  have open_ : ∀ (r : Int), Ev (fun n => if Go.bits BinOp.and IntKind.i64 (shr IntKind.i64 (p : Int) ((Y * W + X : Nat) : Int)) 1 = 0 then spec_l08Near.l1 n (W : Int) (H : Int) (p : Int) (out : Int) (Y : Int) ((X + 1 : Nat) : Int) else if (X : Int) > 0 then if 0 ≤ wrap64 (((Y * W + X : Nat) : Int) - 1) then spec_l08Near.j2 n (W : Int) (H : Int) (p : Int) (Go.bits BinOp.or IntKind.i64 (out : Int) (shl IntKind.i64 1 (wrap64 (((Y * W + X : Nat) : Int) - 1)))) (Y : Int) (X : Int) else none else spec_l08Near.j2 n (W : Int) (H : Int) (p : Int) (out : Int) (Y : Int) (X : Int)) r →
   Ev (fun k => spec_l08Near.l1 k (W : Int) (H : Int) (p : Int) (out : Int) (Y : Int) (X : Int)) r := by
   intro r hr
   refine z5 ?_
   simp only [spec_l08Near.l1]
   rw [wy.out, wadd (Y * W) X b3, z12 X b4]
   exact z4 b6 (z4 (nn_ _) hr)
  generalize hc : Y * W + X = c at *
  cases hb : p.testBit c
  ·obtain ⟨M, hM, hF⟩ := ih (X + 1) out b7 (by
    have e : Y * W + (X + 1) = c + 1 := by omega
    rw [e]; exact around_skip h2 hb) h3
   exact ⟨M, open_ _ (z4 ((z31 p c hp62 b8).mpr hb) hM), hF⟩
  ·have hnz : ¬ (Go.bits BinOp.and IntKind.i64 (shr IntKind.i64 (p : Int) (c : Int)) 1 = 0) := fun z => by rw [(z31 p c hp62 b8).mp z] at hb; cases hb
   have o1 := z2c (0 < X) (j := c - 1) h3 (by omega)
   have o2 := z2c (X + 1 < W) (j := c + 1) o1 (by omega)
   have hcw : 0 < Y → W ≤ c := fun h => by
    have : 1 * W ≤ Y * W := Nat.mul_le_mul_right W h
    omega
   have hcw2 : Y + 1 < H → c + W < W * H := fun h => by
    have : (Y + 1 + 1) * W ≤ H * W := Nat.mul_le_mul_right W h
    rw [Nat.succ_mul, Nat.succ_mul, Nat.mul_comm H W] at this
    omega
   have o3 := z2c (0 < Y) (j := c - W) o2 (by omega)
   have o4 := z2c (Y + 1 < H) (j := c + W) o3 hcw2
   obtain ⟨M, fin, hF⟩ := ih (X + 1) (orIf (Y + 1 < H) (orIf (0 < Y) (orIf (X + 1 < W) (orIf (0 < X) out (c - 1)) (c + 1)) (c - W)) (c + W)) b7 (by
    have e : Y * W + (X + 1) = c + 1 := by omega
    rw [e]
    refine around_take h2 hb (fun j => ?_)
    rw [z2d, z2d, z2d, z2d, nb_mem, hdiv, hmod]
    constructor
    ·rintro ((((a | a) | a) | a) | a)
     ·exact .inl a
     ·exact .inr (.inr (.inl a))
     ·exact .inr (.inr (.inr (.inl a)))
     ·exact .inr (.inl a)
     ·exact .inr (.inr (.inr (.inr a)))
    ·rintro (a | a | a | a | a)
     ·exact .inl (.inl (.inl (.inl a)))
     ·exact .inl (.inr a)
     ·exact .inl (.inl (.inl (.inr a)))
     ·exact .inl (.inl (.inr a))
     ·exact .inr a) o4
   have q1 : Aside0 (wrap64 ((c : Int) + 1) = ((c + 1 : Nat) : Int)) := ⟨z12 c (by omega)⟩
   have q2 : Aside0 (wrap64 ((c : Int) + (W : Int)) = ((c + W : Nat) : Int)) := ⟨wadd c W (by omega)⟩
   have s3 : ∀ o : Nat, o < 2 ^ (W * H) → Ev (fun k => spec_l08Near.l1 k (W : Int) (H : Int) (p : Int) ((orIf (Y + 1 < H) (orIf (0 < Y) o (c - W)) (c + W) : Nat) : Int) (Y : Int) ((X + 1 : Nat) : Int)) (M : Int) →
    Ev (fun k => spec_l08Near.j3 k (W : Int) (H : Int) (p : Int) (o : Int) (Y : Int) (X : Int)) (M : Int) := by
    intro o ho hk
    have lo : ∀ j, j < 60 → 2 ^ j < 2 ^ 63 := fun j hj => Nat.pow_lt_pow_right (by decide) (by omega)
    refine z5 ?_
    simp only [spec_l08Near.j3]
    rw [wy.out, wadd (Y * W) X (by omega), hc, z12 X b4, z12 Y b5, q2.out]
    unfold orIf at hk
    by_cases c1 : 0 < Y
    ·have q3 : Aside0 (wrap64 ((c : Int) - (W : Int)) = ((c - W : Nat) : Int)) := ⟨by
      have := hcw c1
      rw [wsmall _ (by omega)]; omega⟩
     rw [q3.out, z14 (c - W) (by omega), z22 o (2 ^ (c - W)) (by omega) (lo _ (by omega))]
     rw [if_pos c1] at hk
     refine z4 (by omega) (z4 (nn_ _) ?_)
     by_cases c2 : Y + 1 < H
     ·rw [if_pos c2] at hk
      have hor : o ||| 2 ^ (c - W) < 2 ^ 63 := Nat.or_lt_two_pow (by omega) (lo _ (by omega))
      rw [z14 (c + W) (by omega), z22 _ (2 ^ (c + W)) hor (lo _ (by omega))]
      exact z4 (by omega) (z4 (nn_ _) hk)
     ·rw [if_neg c2] at hk
      exact z7 (by omega) hk
    ·rw [if_neg c1] at hk
     refine z7 (by omega) ?_
     by_cases c2 : Y + 1 < H
     ·rw [if_pos c2] at hk
      rw [z14 (c + W) (by omega), z22 o (2 ^ (c + W)) (by omega) (lo _ (by omega))]
      exact z4 (by omega) (z4 (nn_ _) hk)
     ·rw [if_neg c2] at hk
      exact z7 (by omega) hk
   have s2 : ∀ o : Nat, o < 2 ^ (W * H) → Ev (fun k => spec_l08Near.j3 k (W : Int) (H : Int) (p : Int) ((orIf (X + 1 < W) o (c + 1) : Nat) : Int) (Y : Int) (X : Int)) (M : Int) →
    Ev (fun k => spec_l08Near.j2 k (W : Int) (H : Int) (p : Int) (o : Int) (Y : Int) (X : Int)) (M : Int) := by
    intro o ho hk
    refine z5 ?_
    simp only [spec_l08Near.j2]
    rw [wy.out, wadd (Y * W) X (by omega), hc, z12 X b4, q1.out]
    unfold orIf at hk
    by_cases c1 : X + 1 < W
    ·rw [if_pos c1] at hk
     rw [z14 (c + 1) (by omega), z22 o (2 ^ (c + 1)) (by omega) (Nat.pow_lt_pow_right (by decide) (by omega))]
     exact z4 (by omega) (z4 (nn_ _) hk)
    ·rw [if_neg c1] at hk
     exact z7 (by omega) hk
   have go := s2 _ o1 (s3 _ o2 fin)
   unfold orIf at go
   refine ⟨M, open_ _ (z7 hnz ?_), hF⟩
   by_cases c1 : 0 < X
   ·rw [if_pos c1] at go
    have q3 : Aside0 (wrap64 ((c : Int) - 1) = ((c - 1 : Nat) : Int)) := ⟨by rw [wsmall _ (by omega)]; omega⟩
    rw [q3.out, z14 (c - 1) (by omega), z22 out (2 ^ (c - 1)) (by omega) (Nat.pow_lt_pow_right (by decide) (by omega))]
    exact z4 (by omega) (z4 (nn_ _) go)
   ·rw [if_neg c1] at go
    exact z7 (by omega) go
theorem near_ev (W H p : Nat) (hW : 1 ≤ W ∧ W ≤ 6) (hH : 1 ≤ H ∧ H ≤ 6) (hn : W * H ≤ 36) (hp : p < 2 ^ (W * H)) : ∃ M : Nat, Ev (fun k => spec_l08Near.f k (W : Int) (H : Int) (p : Int)) (M : Int) ∧ z1c W H p (W * H) M ∧ M < 2 ^ (W * H) := by
 have rows : ∀ (d Y out : Nat), Y + d = H → z1c W H p (Y * W) out → out < 2 ^ (W * H) → ∃ M : Nat, Ev (fun k => spec_l08Near.l0 k (W : Int) (H : Int) (p : Int) (out : Int) (Y : Int)) (M : Int) ∧ (z1c W H p (W * H) M ∧ M < 2 ^ (W * H)) := by
  intro d
  induction d with
  | zero =>
   intro Y out h1 h2 h3
   have e : Y = H := by omega
   subst e
   refine ⟨out, z5 ?_, by rw [Nat.mul_comm]; exact h2, h3⟩
   simp only [spec_l08Near.l0]
   exact z7 (by omega) (z8 _)
  | succ d ih =>
   intro Y out h1 h2 h3
   obtain ⟨M, hM, hF⟩ := near_row W H p hW hH hn hp Y (by omega) (fun M => z1c W H p (W * H) M ∧ M < 2 ^ (W * H)) (fun out' g1 g2 => ih (Y + 1) out' (by omega) (by rw [Nat.succ_mul]; exact g1) g2) W 0 out (by omega) h2 h3
   refine ⟨M, z5 ?_, hF⟩
   simp only [spec_l08Near.l0]
   exact z4 (by omega) hM
 unfold spec_l08Near.f
 exact rows H 0 p (by omega) (fun j => ⟨fun h => .inl h, fun h => by
  rcases h with h | ⟨i, hi, _⟩
  ·exact h
  ·omega⟩) hp
theorem z43 (a b i : Nat) : (a &&& b).testBit i = true ↔ a.testBit i = true ∧ b.testBit i = true := by
 rw [Nat.testBit_and, Bool.and_eq_true]
theorem reach_l0 (W H x s : Nat) (hW : 1 ≤ W ∧ W ≤ 6) (hH : 1 ≤ H ∧ H ≤ 6) (hn : W * H ≤ 36) (hx : x < 2 ^ (W * H)) (m : Nat) : ∀ p : Nat, p < 2 ^ (W * H) → zr (W * H) p ≤ m → p.testBit s = true → (∀ i, p.testBit i = true → Conn W H x s i) → (∀ i, p.testBit i = true → x.testBit i = true) →
 ∃ M : Nat, Ev (fun k => spec_l08Reach.l0 k (W : Int) (H : Int) (x : Int) (p : Int)) (M : Int) ∧ z11 W H x s M ∧ M < 2 ^ (W * H) := by
 have hp36 : 2 ^ (W * H) ≤ 2 ^ 36 := p2_ hn
 have main : ∀ p : Nat, p < 2 ^ (W * H) → p.testBit s = true → (∀ i, p.testBit i = true → Conn W H x s i) → (∀ i, p.testBit i = true → x.testBit i = true) →
  (∀ q : Nat, q < 2 ^ (W * H) → q ≠ p → (∀ i, p.testBit i = true → q.testBit i = true) → (∀ i, q.testBit i = true → Conn W H x s i) → (∀ i, q.testBit i = true → x.testBit i = true) → ∃ M : Nat, Ev (fun k => spec_l08Reach.l0 k (W : Int) (H : Int) (x : Int) (q : Int)) (M : Int) ∧ z11 W H x s M ∧ M < 2 ^ (W * H)) →
  ∃ M : Nat, Ev (fun k => spec_l08Reach.l0 k (W : Int) (H : Int) (x : Int) (p : Int)) (M : Int) ∧ z11 W H x s M ∧ M < 2 ^ (W * H) := by
  intro p h1 h2 h3 h4 K
  obtain ⟨N, hN, ha, hl⟩ := near_ev W H p hW hH hn h1
  have ea : Go.bits .and .i64 (N : Int) (x : Int) = ((N &&& x : Nat) : Int) := z26 N x (by omega) (by omega)
  have ql : N &&& x < 2 ^ (W * H) := Nat.lt_of_le_of_lt Nat.and_le_left hl
  have sub : ∀ i, p.testBit i = true → (N &&& x).testBit i = true := fun i hi => (z43 _ _ _).mpr ⟨(ha i).mpr (.inl hi), h4 i hi⟩
  have con : ∀ i, (N &&& x).testBit i = true → Conn W H x s i := fun i hi => by
   obtain ⟨a, b⟩ := (z43 _ _ _).mp hi
   rcases (ha i).mp a with a | ⟨j, _, a, c⟩
   ·exact h3 i a
   ·exact Conn.step (h3 j a) c b
  have inx : ∀ i, (N &&& x).testBit i = true → x.testBit i = true := fun i hi => ((z43 _ _ _).mp hi).2
  by_cases e : N &&& x = p
  ·refine ⟨p, z5 ?_, z1f h2 h3 (fun i hi j hj hxj => ?_), h1⟩
   ·simp only [spec_l08Reach.l0]
    refine z6 hN ?_
    rw [ea, e]
    exact z4 rfl (z8 _)
   ·rw [← e]
    exact (z43 _ _ _).mpr ⟨(ha j).mpr (.inr ⟨i, z3b h1 hi, hi, hj⟩), hxj⟩
  ·obtain ⟨M, hM, hM2⟩ := K (N &&& x) ql e sub con inx
   refine ⟨M, z5 ?_, hM2⟩
   simp only [spec_l08Reach.l0]
   refine z6 hN ?_
   rw [ea]
   exact z7 (fun z => e (Int.ofNat.inj z)) hM
 have strict : ∀ p q : Nat, p < 2 ^ (W * H) → q < 2 ^ (W * H) → q ≠ p → (∀ i, p.testBit i = true → q.testBit i = true) → zr (W * H) q < zr (W * H) p := by
  intro p q h1 h2 hne hs
  rcases Nat.lt_or_ge (zr (W * H) q) (zr (W * H) p) with g | g
  ·exact g
  ·exfalso
   apply hne
   have e := zr_eq (W * H) p q hs (Nat.le_antisymm (zr_mono _ _ _ hs) g)
   apply Nat.eq_of_testBit_eq
   intro i
   rcases Nat.lt_or_ge i (W * H) with c | c
   ·exact (e i c).symm
   ·rw [z28 h1 c, z28 h2 c]
 induction m with
 | zero =>
  intro p h1 hz h2 h3 h4
  exact main p h1 h2 h3 h4 (fun q g1 g2 g3 _ _ => by have := strict p q h1 g1 g2 g3; omega)
 | succ m ih =>
  intro p h1 hz h2 h3 h4
  exact main p h1 h2 h3 h4 (fun q g1 g2 g3 g4 g5 => ih q g1 (by have := strict p q h1 g1 g2 g3; omega) (g3 s h2) g4 g5)
theorem ctz_of (x : Nat) (h0 : x ≠ 0) (h : x < 2 ^ 64) : ∃ m, x = 2 ^ Lib.ctz 64 x * (2 * m + 1) ∧ Lib.ctz 64 x < 64 := by
 obtain ⟨m, hm, hk⟩ := Lib.ctzFrom_spec 64 x (by omega) h
 have e : Lib.ctz 64 x = Lib.ctzFrom 64 x := by simp [Lib.ctz, h0]
 rw [e]
 exact ⟨m, hm, hk⟩
theorem z30 (x : Nat) (h0 : x ≠ 0) (h : x < 2 ^ 64) : x.testBit (Lib.ctz 64 x) = true := by
 obtain ⟨m, hm, _⟩ := ctz_of x h0 h
 generalize Lib.ctz 64 x = s at *
 rw [hm, z10, Nat.mul_div_cancel_left _ (Nat.two_pow_pos s)]
 exact decide_eq_true (by omega)
theorem least_ev (x : Nat) (h : x < 2 ^ 62) : impl_least.f (x : Int) = some ((Lib.ctz 64 x : Nat) : Int) := by
 unfold impl_least.f bits_TrailingZeros.f bits_TrailingZeros64.f
 have e : IntKind.u64.wrap (x : Int) = (x : Int) := z1a x (by omega)
 rw [e, if_pos (nn_ _), if_pos (by omega)]
 rfl
theorem low_ev (x : Nat) (h0 : x ≠ 0) (h : x < 2 ^ 62) : Go.bits .and .i64 (x : Int) (wrap64 (-(x : Int))) = ((2 ^ Lib.ctz 64 x : Nat) : Int) := by
 have hl := (Lib.lowest_bit 64 x h0 (by omega)).1
 have hw : wrap64 (-(x : Int)) = -(x : Int) := w64 (by omega) (by omega)
 have hpl : 2 ^ Lib.ctz 64 x ≤ x := by
  obtain ⟨m, hm, _⟩ := ctz_of x h0 (by omega)
  generalize Lib.ctz 64 x = s at *
  have : 2 ^ s * 1 ≤ 2 ^ s * (2 * m + 1) := Nat.mul_le_mul_left _ (by omega)
  omega
 rw [hw]
 simp only [Go.bits]
 have e1 : (BitVec.ofInt 64 (x : Int)).toNat = x := by
  rw [BitVec.ofInt_natCast, BitVec.toNat_ofNat]; exact Nat.mod_eq_of_lt (by omega)
 have e2 : (BitVec.ofInt 64 (-(x : Int))).toNat = 2 ^ 64 - x := by
  rw [BitVec.toNat_ofInt]; omega
 show IntKind.i64.wrap (((BitVec.ofInt 64 (x : Int)) &&& (BitVec.ofInt 64 (-(x : Int)))).toNat : Int) = _
 rw [BitVec.toNat_and, e1, e2, hl, IntKind.wrap_i64]
 generalize 2 ^ Lib.ctz 64 x = q at *
 omega
theorem reach_ev (W H x : Nat) (hW : 1 ≤ W ∧ W ≤ 6) (hH : 1 ≤ H ∧ H ≤ 6) (hn : W * H ≤ 36) (hx : x < 2 ^ (W * H)) (h0 : x ≠ 0) : ∃ M : Nat, Ev (fun k => spec_l08Reach.f k (W : Int) (H : Int) (x : Int)) (M : Int) ∧ z11 W H x (Lib.ctz 64 x) M ∧ M < 2 ^ (W * H) := by
 have hx62 : x < 2 ^ 62 := lle_ hx (p2_ (by omega))
 have hb := z30 x h0 (by omega)
 have hs := z3b hx hb
 generalize hS : Lib.ctz 64 x = s at *
 have ht : ∀ i, (2 ^ s).testBit i = true → i = s := fun i hi => by
  rw [Nat.testBit_two_pow] at hi
  exact (of_decide_eq_true hi).symm
 obtain ⟨M, hM, hM2⟩ := reach_l0 W H x s hW hH hn hx (W * H) (2 ^ s) (Nat.pow_lt_pow_right (by decide) hs) (zr_le _ _) (by rw [Nat.testBit_two_pow]; simp) (fun i hi => (ht i hi) ▸ Conn.base) (fun i hi => (ht i hi) ▸ hb)
 refine ⟨M, ?_, hM2⟩
 unfold spec_l08Reach.f
 rw [low_ev x h0 hx62, hS]
 exact hM
theorem z24 (W H x : Nat) (hW : 1 ≤ W ∧ W ≤ 6) (hH : 1 ≤ H ∧ H ≤ 6) (hn : W * H ≤ 36) (hx : x < 2 ^ (W * H)) (h0 : x ≠ 0) : ∃ M : Nat, Ev (fun k => spec_l08Reach.f k (W : Int) (H : Int) (x : Int)) (M : Int) ∧ Ev (fun k => impl_part.f k (W : Int) (H : Int) (x : Int) ((Lib.ctz 64 x : Nat) : Int)) (M : Int) ∧ z11 W H x (Lib.ctz 64 x) M ∧ M < 2 ^ (W * H) := by
 have hx62 : x < 2 ^ 62 := lle_ hx (p2_ (by omega))
 have hb := z30 x h0 (by omega)
 have hs := z3b hx hb
 obtain ⟨M, h1, h2, h3⟩ := reach_ev W H x hW hH hn hx h0
 obtain ⟨N, g1, g2, g3⟩ := part_ev W H x (Lib.ctz 64 x) hW hH hn hx hs
 have e := z34 h2 g2
 subst e
 exact ⟨M, h1, g1, h2, h3⟩
def toI (l : List Nat) : List Int := l.map (fun n : Nat => (n : Int))
theorem z9 (l : List Nat) : (toI l).length = l.length := by simp [toI]
theorem z1d (l m : List Nat) : toI (l ++ m) = toI l ++ toI m := by simp [toI]
theorem toI_set (l : List Nat) (i a : Nat) : (toI l).set i (a : Int) = toI (l.set i a) := by simp [toI, List.map_set]
theorem zf (l : List Nat) (i : Nat) : rd (toI l) (i : Int) = ((l.getD i 0 : Nat) : Int) := by
 simp only [rd, toI, Int.toNat_natCast, gd_, List.getElem?_map]
 cases l[i]? <;> simp
theorem ze {α : Type} (pre suf : List α) (a z : α) : (pre ++ a :: suf).getD pre.length z = a := by
 simp [gd_]
theorem cl_pop (x d : Nat) : ∀ i, (cl x i d).length = pop d (x / 2 ^ i) := by
 induction d with
 | zero => intro i; simp [cl, pop]
 | succ d ih =>
  intro i
  have e : x / 2 ^ i / 2 = x / 2 ^ (i + 1) := by rw [Nat.pow_succ, Nat.div_div_eq_div_mul]
  have hp : pop (d + 1) (x / 2 ^ i) = x / 2 ^ i % 2 + pop d (x / 2 ^ i / 2) := rfl
  rw [hp, e, ← ih (i + 1)]
  simp only [cl]
  rw [z10]
  by_cases h : x / 2 ^ i % 2 = 1
  ·rw [decide_eq_true h, if_pos rfl, h]; simp; omega
  ·rw [decide_eq_false h]; simp
   generalize x / 2 ^ i = q at *
   omega
def asc (N : Nat) : Nat → List Nat → Prop
 | _, [] => True
 | lo, c :: cs => lo ≤ c ∧ c < N ∧ asc N (c + 1) cs
theorem asc_lower {N : Nat} {l : List Nat} {a b : Nat} (h : asc N b l) (hab : a ≤ b) : asc N a l := by
 cases l with
 | nil => trivial
 | cons c cs => exact ⟨Nat.le_trans hab h.1, h.2⟩
theorem cl_asc (x N d : Nat) : ∀ i, i + d ≤ N → asc N i (cl x i d) := by
 induction d with
 | zero => intro i _; trivial
 | succ d ih =>
  intro i h
  simp only [cl]
  have := ih (i + 1) (by omega)
  by_cases b : x.testBit i = true
  ·rw [if_pos b]; exact ⟨Nat.le_refl _, by omega, this⟩
  ·rw [if_neg b]; exact asc_lower this (by omega)
theorem z40 (N x : Nat) (hN : N ≤ 36) (hx : x < 2 ^ 62) (d : Nat) : ∀ (i : Nat) (out : List Nat), i + d = N → out.length + d ≤ 100 → Ev (fun k => impl_cellList.l0 k (x : Int) (toI out) (N : Int) (i : Int)) (toI (out ++ cl x i d)) := by
 induction d with
 | zero =>
  intro i out h ho
  refine z5 ?_
  simp only [impl_cellList.l0, cl, List.append_nil]
  exact z7 (by omega) (z8 _)
 | succ d ih =>
  intro i out h ho
  refine z5 ?_
  simp only [impl_cellList.l0]
  have e := z12 i (by omega)
  refine z4 (by clear e; omega) (zc (z2a x i hx (by clear e; omega)) ?_)
  rw [e]
  clear e
  simp only [cl]
  by_cases b : x.testBit i = true
  ·rw [if_pos b]
   refine z4 b (z4 (by rw [z9]; omega) ?_)
   have := ih (i + 1) (out ++ [i]) (by omega) (by simp; omega)
   rw [z1d, show toI [i] = [(i : Int)] from rfl] at this
   simpa using this
  ·rw [if_neg b]
   exact z7 b (ih (i + 1) out (by omega) (by omega))
theorem z1e (W H x : Nat) (hn : W * H ≤ 36) (hx : x < 2 ^ (W * H)) : Ev (fun k => impl_cellList.f k (W : Int) (H : Int) (x : Int)) (toI (cl x 0 (W * H))) := by
 have hx62 : x < 2 ^ 62 := lle_ hx (p2_ (by omega))
 unfold impl_cellList.f
 have e : wrap64 ((W : Int) * (H : Int)) = ((W * H : Nat) : Int) := by rw [← Int.natCast_mul, w64 (by omega) (by omega)]
 rw [e]
 have := z40 (W * H) x hn hx62 (W * H) 0 [] (by omega) (by simp; omega)
 simpa [toI] using this
theorem cell_back (W c : Nat) (hW : 1 ≤ W ∧ W ≤ 6) (hc : c < 100) : wrap64 (wrap64 (((c / W : Nat) : Int) * (W : Int)) + ((c % W : Nat) : Int)) = (c : Int) := by
 have h := Nat.div_add_mod c W
 have h1 : c / W ≤ c := Nat.div_le_self c W
 have h2 : W * (c / W) ≤ c := Nat.mul_div_le c W
 have e : ((c / W : Nat) : Int) * (W : Int) = ((W * (c / W) : Nat) : Int) := by rw [Nat.mul_comm W, Int.natCast_mul]
 rw [e]
 generalize W * (c / W) = u at *
 generalize c % W = v at *
 have e1 : wrap64 (u : Int) = (u : Int) := w64 (by omega) (by omega)
 rw [e1]
 clear e1 e
 rw [wadd u v (by omega)]
 omega
def z16 (out : List Nat) (n c : Nat) : List Nat := if n = out.length then out ++ [2 ^ c] else out.set n (out.getD n 0 ||| 2 ^ c)
def run : List Int → List Nat → List Nat → Option (List Nat)
 | [], _, out => some out
 | _ :: _, [], out => some out
 | n :: ns, c :: cs, out => if n < 0 ∨ (out.length : Int) < n then none else run ns cs (z16 out n.toNat c)
theorem z21 (out : List Nat) (n c : Nat) (h : n ≤ out.length) : (z16 out n c).length = if n = out.length then out.length + 1 else out.length := by
 unfold z16; split <;> simp
theorem or_pow (p c : Nat) (h : p < 2 ^ c) : p ||| 2 ^ c = p + 2 ^ c := by
 have := Nat.two_pow_add_eq_or_of_lt h 1
 rw [Nat.mul_one] at this
 rw [Nat.or_comm, ← this, Nat.add_comm]
def bnd (out : List Nat) (c : Nat) : Prop := ∀ p ∈ out, p < 2 ^ c
theorem bnd_at {out : List Nat} {c : Nat} (h : bnd out c) (n : Nat) : out.getD n 0 < 2 ^ c := by
 rw [gd_]
 cases e : out[n]? with
 | none => simp; exact Nat.two_pow_pos c
 | some p => simp; exact h p (List.mem_of_getElem? e)
theorem z32 {out : List Nat} {a b : Nat} (h : bnd out a) (hab : a ≤ b) : bnd out b := fun p hp => lle_ (h p hp) (p2_ hab)
theorem z41 {out : List Nat} {c : Nat} (n : Nat) (h : bnd out c) : bnd (z16 out n c) (c + 1) := by
 have e : 2 ^ (c + 1) = 2 ^ c + 2 ^ c := by rw [Nat.pow_succ]; omega
 have hp := Nat.two_pow_pos c
 intro p hq
 unfold z16 at hq
 split at hq
 ·rcases List.mem_append.mp hq with g | g
  ·have := h p g; omega
  ·have : p = 2 ^ c := by simpa using g
   omega
 ·rcases List.mem_or_eq_of_mem_set hq with g | g
  ·have := h p g; omega
  ·have := bnd_at h n
   rw [g, or_pow _ _ this]; omega
theorem run_bnd (N : Nat) : ∀ (suf : List Int) (cs out : List Nat) (lo : Nat) (R : List Nat), asc N lo cs → lo ≤ N → bnd out lo → run suf cs out = some R → bnd R N ∧ R.length ≤ out.length + suf.length := by
 intro suf
 induction suf with
 | nil => intro cs out lo R ha hl hb h; simp only [run] at h; cases h; exact ⟨z32 hb hl, by simp⟩
 | cons n ns ih =>
  intro cs out lo R ha hl hb h
  cases cs with
  | nil => simp only [run] at h; cases h; exact ⟨z32 hb hl, by simp⟩
  | cons c cs =>
   obtain ⟨h1, h2, h3⟩ := ha
   simp only [run] at h
   by_cases b : n < 0 ∨ (out.length : Int) < n
   ·rw [if_pos b] at h; cases h
   ·rw [if_neg b] at h
    have hs := z21 out n.toNat c (by omega)
    obtain ⟨g1, g2⟩ := ih cs (z16 out n.toNat c) (c + 1) R h3 (by omega) (z41 n.toNat (z32 hb h1)) h
    refine ⟨g1, ?_⟩
    rw [List.length_cons]
    split at hs <;> omega
theorem whole_run (W H : Nat) (hW : 1 ≤ W ∧ W ≤ 6) (hH : 1 ≤ H ∧ H ≤ 6) (hn : W * H ≤ 36) (R : List Nat) (hR : bnd R (W * H)) (hl : R.length ≤ 1000) : ∀ (suf pre : List Nat), R = pre ++ suf →
 ∃ b : Bool, Ev (fun k => spec_l09Whole.l0 k (W : Int) (H : Int) (toI R) (R.length : Int) (pre.length : Int)) b ∧ Ev (fun k => impl_piecesOf.l1 k (W : Int) (H : Int) (toI R) (toI R) (R.length : Int) (pre.length : Int)) (if b = true then (toI R, true) else ([], false)) := by
 intro suf
 induction suf with
 | nil =>
  intro pre hp
  have hlp : R.length = pre.length := by rw [hp]; simp
  refine ⟨true, z5 ?_, z5 ?_⟩
  ·simp only [spec_l09Whole.l0]; exact z7 (by omega) (z8 _)
  ·simp only [impl_piecesOf.l1]; exact z7 (by omega) (z8 _)
 | cons p suf ih =>
  intro pre hp
  have hlp : R.length = pre.length + suf.length + 1 := by rw [hp]; simp; omega
  have hat : rd (toI R) (pre.length : Int) = (p : Int) := by rw [zf, hp, ze]
  have hpb : p < 2 ^ (W * H) := hR p (by rw [hp]; simp)
  have hnx := z12 pre.length (by omega)
  obtain ⟨b, g1, g2⟩ := ih (pre ++ [p]) (by rw [hp]; simp)
  have hpl : ((pre ++ [p]).length : Int) = ((pre.length + 1 : Nat) : Int) := by simp
  rw [hpl] at g1 g2
  have c1 : (pre.length : Int) < (R.length : Int) := by clear hnx; omega
  have c2 : (0 : Int) ≤ (pre.length : Int) := by clear hnx; omega
  have c3 : (pre.length : Int) < ((toI R).length : Int) := by rw [z9]; exact c1
  have hp62 : p < 2 ^ 62 := lle_ hpb (p2_ (by omega))
  by_cases z : p = 0
  ·refine ⟨false, z5 ?_, z5 ?_⟩
   ·simp only [spec_l09Whole.l0]
    rw [hat]
    exact z4 c1 (z4 c2 (z4 c3 (z4 (by clear hnx; omega) (z8 _))))
   ·simp only [impl_piecesOf.l1]
    rw [hat]
    unfold impl_isWhole.f
    exact z4 c1 (z4 c2 (z4 c3 (z6 (a := false) (z4 (by clear hnx; omega) (z8 _)) (z7 (by decide) (z8 _)))))
  ·obtain ⟨M, h1, h2, _⟩ := z24 W H p hW hH hn hpb z
   have w1 : Ev (fun k => impl_isWhole.f k (W : Int) (H : Int) (p : Int)) ((M : Int) == (p : Int)) := by
    unfold impl_isWhole.f
    exact z7 (by clear hnx; omega) (zc (least_ev p hp62) (z6 h2 (z8 _)))
   by_cases m : M = p
   ·refine ⟨b, z5 ?_, z5 ?_⟩
    ·simp only [spec_l09Whole.l0]
     rw [hat, hnx]
     exact z4 c1 (z4 c2 (z4 c3 (z7 (by clear hnx; omega) (z6 h1 (z4 (by clear hnx; omega) g1)))))
    ·simp only [impl_piecesOf.l1]
     rw [hat, hnx]
     exact z4 c1 (z4 c2 (z4 c3 (z6 w1 (z4 (by simp [m]) g2))))
   ·refine ⟨false, z5 ?_, z5 ?_⟩
    ·simp only [spec_l09Whole.l0]
     rw [hat]
     exact z4 c1 (z4 c2 (z4 c3 (z7 (by clear hnx; omega) (z6 h1 (z7 (by clear hnx; omega) (z8 _))))))
    ·simp only [impl_piecesOf.l1]
     rw [hat]
     exact z4 c1 (z4 c2 (z4 c3 (z6 w1 (z7 (by simp; omega) (z8 _)))))
theorem impl_run (W H : Int) (C : List Nat) (hC : C.length ≤ 36) (cut : List Int) (hl : cut.length = C.length) (r : List Int × Bool) : ∀ (suf : List Int) (cs : List Nat) (pre : List Int) (pc out : List Nat) (lo : Nat), cut = pre ++ suf → C = pc ++ cs → pre.length = pc.length → out.length ≤ pre.length → bnd out lo → asc 36 lo cs →
 (run suf cs out = none → r = ([], false)) → (∀ R, run suf cs out = some R → Ev (fun k => impl_piecesOf.l1 k W H (toI R) (toI R) (R.length : Int) 0) r) →
 Ev (fun k => impl_piecesOf.l0 k W H (toI C) (toI out) cut (cut.length : Int) (pre.length : Int)) r := by
 intro suf
 induction suf with
 | nil =>
  intro cs pre pc out lo hp hc hpl ho hb ha h0 h1
  have hlp : cut.length = pre.length := by rw [hp]; simp
  refine z5 ?_
  simp only [impl_piecesOf.l0]
  refine z7 (by omega) ?_
  have := h1 out rfl
  rw [z9]
  exact this
 | cons n ns ih =>
  intro cs pre pc out lo hp hc hpl ho hb ha h0 h1
  have hlp : cut.length = pre.length + ns.length + 1 := by rw [hp]; simp; omega
  cases cs with
  | nil => exfalso; rw [hc] at hl; simp at hl; omega
  | cons c cs =>
   obtain ⟨ha1, ha2, ha3⟩ := ha
   have hcl : C.length = pc.length + cs.length + 1 := by rw [hc]; simp; omega
   have hat : rd cut (pre.length : Int) = n := by rw [hp, rd_mid]
   have hcat : rd (toI C) (pre.length : Int) = (c : Int) := by rw [zf, hpl, hc, ze]
   have hnx := z12 pre.length (by omega)
   have c1 : (pre.length : Int) < (cut.length : Int) := by clear hnx; omega
   have c2 : (0 : Int) ≤ (pre.length : Int) := by clear hnx; omega
   have c4 : (pre.length : Int) < ((toI C).length : Int) := by rw [z9]; clear hnx; omega
   have c5 : (0 : Int) ≤ (c : Int) := by clear hnx; omega
   have hol : ((toI out).length : Int) = (out.length : Int) := by rw [z9]
   have hpn : ((pre ++ [n]).length : Int) = ((pre.length + 1 : Nat) : Int) := by simp
   simp only [run] at h0 h1
   by_cases b : n < 0 ∨ (out.length : Int) < n
   ·rw [if_pos b] at h0
    have hr := h0 rfl
    subst hr
    refine z5 ?_
    simp only [impl_piecesOf.l0]
    rw [hat]
    refine z4 c1 (z4 c2 (z4 c1 ?_))
    by_cases g : n < 0
    ·refine z4 g (z5 ?_)
     simp only [impl_piecesOf.j1]
     exact z4 (by simp) (z8 _)
    ·refine z7 g (z5 ?_)
     simp only [impl_piecesOf.j1]
     exact z4 (decide_eq_true (by rw [hol]; clear hnx; omega)) (z8 _)
   ·rw [if_neg b] at h0 h1
    obtain ⟨m, rfl⟩ := Int.eq_ofNat_of_zero_le (show 0 ≤ n by clear hnx; omega)
    have hm : m ≤ out.length := by clear hnx; omega
    rw [Int.toNat_natCast] at h0 h1
    have hs := z21 out m c hm
    have goal := ih cs (pre ++ [(m : Int)]) (pc ++ [c]) (z16 out m c) (c + 1) (by rw [hp]; simp) (by rw [hc]; simp) (by simp; exact hpl) (by rw [List.length_append]; simp; clear hnx; split at hs <;> omega) (z41 m (z32 hb ha1)) ha3 h0 h1
    rw [hpn] at goal
    have hsh := z14 c (by clear hnx; omega)
    refine z5 ?_
    simp only [impl_piecesOf.l0]
    rw [hat]
    refine z4 c1 (z4 c2 (z4 c1 (z7 (by clear hnx; omega) (z5 ?_))))
    simp only [impl_piecesOf.j1]
    rw [hcat, hnx, hol, hsh, Int.toNat_natCast]
    clear hnx hsh
    refine z7 (by simp; omega) ?_
    have hp62 : 2 ^ c < 2 ^ 63 := Nat.pow_lt_pow_right (by decide) (by omega)
    by_cases e : m = out.length
    ·refine z4 (by omega) (z4 (by rw [z9]; omega) (z6 (a := toI out ++ [0]) (z8 _) (z4 (by omega) (z4 (by simp [z9]; omega) (z4 c2 (z4 c4 (z4 c5 ?_)))))))
     have e1 : toI out ++ [0] = toI (out ++ [0]) := by rw [z1d]; rfl
     have e2 : (out ++ [0]).getD m 0 = 0 := by rw [e, ze]
     rw [e1, zf, e2, z22 0 (2 ^ c) (by decide) hp62, toI_set]
     have e3 : (out ++ [0]).set m (0 ||| 2 ^ c) = z16 out m c := by
      unfold z16
      rw [if_pos e, e, Nat.zero_or]
      simp
     rw [e3]
     exact goal
    ·have hbo := bnd_at (z32 hb ha1) m
     refine z7 (by omega) (z4 (by omega) (z4 (by omega) (z4 c2 (z4 c4 (z4 c5 ?_)))))
     rw [zf, z22 _ (2 ^ c) (by omega) hp62, toI_set]
     have e3 : out.set m (out.getD m 0 ||| 2 ^ c) = z16 out m c := by unfold z16; rw [if_neg e]
     rw [e3]
     exact goal
theorem spec_scan (W H m : Int) (cut : List Int) (hlen : cut.length ≤ 36) (b : Bool) : ∀ (suf : List Int) (cs : List Nat) (pre : List Int) (out : List Nat), cut = pre ++ suf → suf.length = cs.length → out.length ≤ pre.length →
 (run suf cs out = none → b = false) → (∀ R, run suf cs out = some R → Ev (fun k => (spec_l09Pieces.f k W m cut).bind fun t134 => ((spec_l09Whole.f k W H t134).bind fun t137 => (some t137))) b) →
 Ev (fun k => spec_CutOk.l0 k W H m cut (out.length : Int) cut (cut.length : Int) (pre.length : Int)) b := by
 intro suf
 induction suf with
 | nil =>
  intro cs pre out hp hcs ho h0 h1
  have hlp : cut.length = pre.length := by rw [hp]; simp
  refine z5 ?_
  simp only [spec_CutOk.l0]
  exact z7 (by omega) (h1 out rfl)
 | cons n ns ih =>
  intro cs pre out hp hcs ho h0 h1
  have hlp : cut.length = pre.length + ns.length + 1 := by rw [hp]; simp; omega
  cases cs with
  | nil => simp at hcs
  | cons c cs =>
   have hat : rd cut (pre.length : Int) = n := by rw [hp, rd_mid]
   have hnx := z12 pre.length (by omega)
   have hox := z12 out.length (by omega)
   have c1 : (pre.length : Int) < (cut.length : Int) := by clear hnx hox; omega
   have c2 : (0 : Int) ≤ (pre.length : Int) := by clear hnx hox; omega
   have hpn : ((pre ++ [n]).length : Int) = ((pre.length + 1 : Nat) : Int) := by simp
   simp only [run] at h0 h1
   refine z5 ?_
   simp only [spec_CutOk.l0]
   rw [hat, hnx, hox]
   clear hnx hox
   refine z4 c1 (z4 c2 (z4 c1 (zc (in_eq _ _ _) ?_)))
   by_cases g : n < 0 ∨ (out.length : Int) < n
   ·rw [if_pos g] at h0
    have hb := h0 rfl
    subst hb
    exact z7 (by simp; omega) (z8 _)
   ·rw [if_neg g] at h0 h1
    obtain ⟨m, rfl⟩ := Int.eq_ofNat_of_zero_le (show 0 ≤ n by omega)
    have hm : m ≤ out.length := by omega
    rw [Int.toNat_natCast] at h0 h1
    have hs := z21 out m c hm
    have hcs' : ns.length = cs.length := by simpa using hcs
    have goal := ih cs (pre ++ [(m : Int)]) (z16 out m c) (by rw [hp]; simp) hcs' (by rw [List.length_append]; simp; split at hs <;> omega) h0 h1
    rw [hpn, hs] at goal
    refine z4 (by simp; omega) ?_
    by_cases e : m = out.length
    ·rw [if_pos e] at goal
     exact z4 (by omega) goal
    ·rw [if_neg e] at goal
     exact z7 (by omega) goal
theorem spec_pieces (W : Nat) (hW : 1 ≤ W ∧ W ≤ 6) (C : List Nat) (hC : C.length ≤ 36) (cut : List Int) (hl : cut.length = C.length) (R : List Nat) : ∀ (suf : List Int) (cs : List Nat) (pre : List Int) (pc out : List Nat) (lo : Nat), cut = pre ++ suf → C = pc ++ cs → pre.length = pc.length → out.length ≤ pre.length → bnd out lo → asc 36 lo cs →
 run suf cs out = some R →
 Ev (fun k => spec_l09Pieces.l0 k (W : Int) cut (toI out) (C.map (zb W)) (C.length : Int) (pre.length : Int)) (toI R) := by
 intro suf
 induction suf with
 | nil =>
  intro cs pre pc out lo hp hc hpl ho hb ha h1
  have hlp : cut.length = pre.length := by rw [hp]; simp
  simp only [run] at h1
  cases h1
  refine z5 ?_
  simp only [spec_l09Pieces.l0]
  exact z7 (by omega) (z8 _)
 | cons n ns ih =>
  intro cs pre pc out lo hp hc hpl ho hb ha h1
  have hlp : cut.length = pre.length + ns.length + 1 := by rw [hp]; simp; omega
  cases cs with
  | nil => exfalso; rw [hc] at hl; simp at hl; omega
  | cons c cs =>
   obtain ⟨ha1, ha2, ha3⟩ := ha
   have hcl : C.length = pc.length + cs.length + 1 := by rw [hc]; simp; omega
   have hat : rd cut (pre.length : Int) = n := by rw [hp, rd_mid]
   have hcat : rd_T56 (C.map (zb W)) (pre.length : Int) = zb W c := by
    rw [hpl, hc]
    simp [rd_T56, gd_]
   have c1 : (pre.length : Int) < (C.length : Int) := by omega
   have c2 : (0 : Int) ≤ (pre.length : Int) := by omega
   have c3 : (pre.length : Int) < (cut.length : Int) := by omega
   have c4 : (pre.length : Int) < ((C.map (zb W)).length : Int) := by rw [List.length_map]; exact c1
   have hpn : ((pre ++ [n]).length : Int) = ((pre.length + 1 : Nat) : Int) := by simp
   simp only [run] at h1
   by_cases b : n < 0 ∨ (out.length : Int) < n
   ·rw [if_pos b] at h1; cases h1
   ·rw [if_neg b] at h1
    obtain ⟨m, rfl⟩ := Int.eq_ofNat_of_zero_le (show 0 ≤ n by omega)
    have hm : m ≤ out.length := by omega
    rw [Int.toNat_natCast] at h1
    have hs := z21 out m c hm
    have goal := ih cs (pre ++ [(m : Int)]) (pc ++ [c]) (z16 out m c) (c + 1) (by rw [hp]; simp) (by rw [hc]; simp) (by simp; exact hpl) (by rw [List.length_append]; simp; split at hs <;> omega) (z41 m (z32 hb ha1)) ha3 h1
    rw [hpn] at goal
    have hp36 : 2 ^ c ≤ 2 ^ 36 := p2_ (by omega)
    have hbo := bnd_at (z32 hb ha1) m
    -- the piece has its place
    have hwadd : ∀ q : Nat, q < 2 ^ c → wrap64 ((q : Int) + ((2 ^ c : Nat) : Int)) = ((q + 2 ^ c : Nat) : Int) := by
     intro q hq
     generalize 2 ^ c = t at *
     exact wadd _ _ (by omega)
    have c6 : (0 : Int) ≤ (c : Int) := nn_ c
    have c8 : c ≤ 62 := Nat.le_trans (Nat.le_of_lt ha2) (by decide)
    have c9 : c < 100 := Nat.lt_trans ha2 (by decide)
    have c10 : pre.length < 1000000000000 := by clear hwadd hp36 hbo; omega
    have c7 : (0 : Int) ≤ (m : Int) := nn_ m
    have put : ∀ o : List Nat, (o.length : Int) > (m : Int) → o.getD m 0 < 2 ^ c → o.set m (o.getD m 0 ||| 2 ^ c) = z16 out m c →
     Ev (fun k => spec_l09Pieces.l1 k (W : Int) cut (toI o) (pre.length : Int) (C.map (zb W)) (C.length : Int) (pre.length : Int) ((c % W : Nat) : Int) ((c / W : Nat) : Int)) (toI R) := by
     intro o hol hob hos
     refine z5 ?_
     simp only [spec_l09Pieces.l1]
     have hbk := cell_back W c hW c9
     have hsh := z14 c c8
     have hnx := z12 pre.length c10
     have hsum : wrap64 (((o.getD m 0 : Nat) : Int) + ((2 ^ c : Nat) : Int)) = ((o.getD m 0 ||| 2 ^ c : Nat) : Int) := by
      rw [or_pow _ _ hob]
      exact hwadd _ hob
     rw [hat, zf, hbk, hsh, hnx, hsum, z9, Int.toNat_natCast, toI_set, hos]
     clear hbk hsh hnx hsum
     exact z4 c2 (z4 c3 (z7 (Int.not_le.mpr hol) (z4 c7 (z4 hol (z4 c6 goal)))))
    refine z5 ?_
    simp only [spec_l09Pieces.l0]
    rw [hcat]
    refine z4 c1 (z4 c2 (z4 c4 ?_))
    by_cases e : m = out.length
    ·refine z5 ?_
     simp only [spec_l09Pieces.l1]
     rw [hat]
     refine z4 c2 (z4 c3 (z4 (by rw [z9]; omega) (z4 (by rw [z9]; omega) ?_)))
     have e1 : toI out ++ [0] = toI (out ++ [0]) := by rw [z1d]; rfl
     have e2 : (out ++ [0]).getD m 0 = 0 := by rw [e, ze]
     rw [e1]
     refine put (out ++ [0]) (by simp; omega) (by rw [e2]; exact Nat.two_pow_pos c) ?_
     unfold z16
     rw [if_pos e, e2, e, Nat.zero_or]
     simp
    ·exact put out (by omega) hbo (by unfold z16; rw [if_neg e])
theorem pop64 (n x : Nat) (hn : n ≤ 36) (hx : x < 2 ^ n) : pop 64 x = (cl x 0 n).length := by
 have h := pop_more n (64 - n) x hx
 rw [show n + (64 - n) = 64 by omega] at h
 rw [h, cl_pop]
 simp
theorem bind_at {α β : Type} {o : Option α} {f : α → Option β} {a : α} {r : Option β} (h : o = some a) (k : f a = r) : o.bind f = r := by subst h; exact k
theorem if_at {α : Type} {c : Prop} [Decidable c] {a b r : α} (h : c) (k : a = r) : (if c then a else b) = r := by rw [if_pos h]; exact k
theorem cuttable_nat (W H x : Nat) (q : Nat) (c : okS (W : Int) (H : Int) (x : Int) = true) (hx64 : x < 2 ^ 64) (hon : pop 64 x = q) :
 impl_isCuttable.f (W : Int) (H : Int) (x : Int) 9 = some (decide ((1 : Int) ≤ (q : Int) ∧ (q : Int) ≤ 9)) := by
 have hon2 : bits_OnesCount.f (IntKind.u64.wrap (x : Int)) = some (q : Int) := by
  rw [z1a x hx64, onesCount x hx64, hon]
 unfold impl_isCuttable.f
 exact bind_at (z29 _ _ _) (if_at c (bind_at hon2 (bind_at (within_eq _ _ _) rfl)))
theorem l09Ok_nat (W H x : Nat) (q : Nat) (c : okS (W : Int) (H : Int) (x : Int) = true) (h1 : Ev (fun k => spec_l08Ones.f k (x : Int)) (q : Int)) :
 Ev (fun k => spec_l09Ok.f k (W : Int) (H : Int) (x : Int)) (decide ((1 : Int) ≤ (q : Int) ∧ (q : Int) ≤ 9)) := by
 unfold spec_l09Ok.f
 exact zc (z1b _ _ _) (z4 c (z6 h1 (zc (in_eq _ _ _) (z8 _))))
theorem cuttable_not (w h m : Int) (c : ¬ okS w h m = true) : impl_isCuttable.f w h m 9 = some false := by
 unfold impl_isCuttable.f
 rw [z29]
 simp [c]
theorem l09Ok_not (w h m : Int) (c : ¬ okS w h m = true) : Ev (fun k => spec_l09Ok.f k w h m) false := by
 unfold spec_l09Ok.f
 exact zc (z1b _ _ _) (z7 c (z8 _))
theorem cut_all (W H x : Nat) (hW : 1 ≤ W ∧ W ≤ 6) (hH : 1 ≤ H ∧ H ≤ 6) (hn : W * H ≤ 36) (hx : x < 2 ^ (W * H)) (cut : List Int) (hl : cut.length = (cl x 0 (W * H)).length) :
 ∃ o : Option (List Nat), Ev (fun k => spec_CutOk.j0 k (W : Int) (H : Int) (x : Int) cut false) o.isSome ∧
  Ev (fun k => impl_piecesOf.f k (W : Int) (H : Int) (x : Int) cut) (match o with | some R => (toI R, true) | none => ([], false)) ∧
  ∀ R, o = some R → Ev (fun k => spec_l09Pieces.f k (W : Int) (x : Int) cut) (toI R) ∧ run cut (cl x 0 (W * H)) [] = some R ∧ bnd R (W * H) ∧ R.length ≤ 36 := by
 have hcl := cl_len x (W * H) 0
 have hc36 : cut.length ≤ 36 := by omega
 have ha := cl_asc x (W * H) (W * H) 0 (by omega)
 have ha36 := cl_asc x 36 (W * H) 0 (by omega)
 have hlist := z1e W H x hn hx
 have hb0 : bnd [] 0 := fun p hp => by cases hp
 have e0 : ((cl x 0 (W * H)).length : Int) = (cut.length : Int) := by rw [hl]
 have scan : ∀ b : Bool, (run cut (cl x 0 (W * H)) [] = none → b = false) → (∀ R, run cut (cl x 0 (W * H)) [] = some R → Ev (fun k => (spec_l09Pieces.f k (W : Int) (x : Int) cut).bind fun t134 => ((spec_l09Whole.f k (W : Int) (H : Int) t134).bind fun t137 => (some t137))) b) → Ev (fun k => spec_CutOk.j0 k (W : Int) (H : Int) (x : Int) cut false) b := by
  intro b h0 h1
  refine z5 ?_
  simp only [spec_CutOk.j0]
  exact z7 (by decide) (spec_scan W H x cut hc36 b cut (cl x 0 (W * H)) [] [] rfl hl (Nat.le_refl _) h0 h1)
 have loop : ∀ r : List Int × Bool, (run cut (cl x 0 (W * H)) [] = none → r = ([], false)) → (∀ R, run cut (cl x 0 (W * H)) [] = some R → Ev (fun k => impl_piecesOf.l1 k (W : Int) (H : Int) (toI R) (toI R) (R.length : Int) 0) r) → Ev (fun k => impl_piecesOf.f k (W : Int) (H : Int) (x : Int) cut) r := by
  intro r h0 h1
  unfold impl_piecesOf.f
  refine z6 hlist (z4 (by rw [z9, e0]) ?_)
  exact impl_run W H (cl x 0 (W * H)) (by omega) cut hl r cut (cl x 0 (W * H)) [] [] [] 0 rfl rfl rfl (Nat.le_refl _) hb0 ha36 h0 h1
 cases hr : run cut (cl x 0 (W * H)) [] with
 | none =>
  refine ⟨none, scan false (fun _ => rfl) (fun R h => by rw [hr] at h; cases h), loop _ (fun _ => rfl) (fun R h => by rw [hr] at h; cases h), fun R h => by cases h⟩
 | some R =>
  obtain ⟨g1, g2⟩ := run_bnd (W * H) cut (cl x 0 (W * H)) [] 0 R ha (Nat.zero_le _) hb0 hr
  have hRl : R.length ≤ 36 := by simp at g2; omega
  have hpc : Ev (fun k => spec_l09Pieces.f k (W : Int) (x : Int) cut) (toI R) := by
   unfold spec_l09Pieces.f
   refine z6 (z23 W (W * H) x hW hn hx) ?_
   have := spec_pieces W hW (cl x 0 (W * H)) (by omega) cut hl R cut (cl x 0 (W * H)) [] [] [] 0 rfl rfl rfl (Nat.le_refl _) hb0 ha36 hr
   rw [List.length_map]
   exact this
  obtain ⟨b, w1, w2⟩ := whole_run W H hW hH hn R g1 (by omega) R [] rfl
  have hw : Ev (fun k => spec_l09Whole.f k (W : Int) (H : Int) (toI R)) b := by
   unfold spec_l09Whole.f
   rw [z9]
   exact w1
  cases b with
  | true =>
   refine ⟨some R, scan true (fun h => by rw [hr] at h; cases h) ?_, loop (toI R, true) (fun h => nomatch (hr.symm.trans h)) ?_, fun R' h => by cases h; exact ⟨hpc, rfl, g1, hRl⟩⟩
   ·intro R' h; rw [hr] at h; cases h
    exact z6 hpc (z6 hw (z8 _))
   ·intro R' h; rw [hr] at h; cases h
    exact w2
  | false =>
   refine ⟨none, scan false (fun _ => rfl) ?_, loop ([], false) (fun _ => rfl) ?_, fun R' h => by cases h⟩
   ·intro R' h; rw [hr] at h; cases h
    exact z6 hpc (z6 hw (z8 _))
   ·intro R' h; rw [hr] at h; cases h
    exact w2
theorem cutBad (w h m : Int) (cut : List Int) : Ev (fun k => spec_CutOk.j0 k w h m cut true) false := by
 refine z5 ?_
 simp only [spec_CutOk.j0]
 exact z4 (by simp) (z8 _)
theorem z25 (w h m : Int) (cut : List Int) (h3 : Ev (fun k => spec_l09Ok.f k w h m) false) : Ev (fun k => spec_CutOk.f k w h m cut) false := by
 unfold spec_CutOk.f
 exact z6 h3 (z7 (by decide) (cutBad w h m cut))
theorem z38 (w h m : Int) (cut : List Int) (h2 : impl_isCuttable.f w h m 9 = some false) : Ev (fun k => impl_CutOk.f k w h m cut) false := by
 unfold impl_CutOk.f
 exact zc h2 (z7 (by decide) (z8 _))
theorem specCut_len (w h m : Int) (q : Nat) (cut : List Int) (h3 : Ev (fun k => spec_l09Ok.f k w h m) true) (h1 : Ev (fun k => spec_l08Ones.f k m) (q : Int)) (hl : ¬ cut.length = q) : Ev (fun k => spec_CutOk.f k w h m cut) false := by
 have e : ((cut.length : Int) != (q : Int)) = true := bne_iff_ne.mpr (fun z => hl (Int.ofNat.inj z))
 unfold spec_CutOk.f
 refine z6 h3 (z4 rfl (z6 h1 ?_))
 rw [e]
 exact cutBad w h m cut
theorem specCut_go (w h m : Int) (q : Nat) (cut : List Int) (b : Bool) (h3 : Ev (fun k => spec_l09Ok.f k w h m) true) (h1 : Ev (fun k => spec_l08Ones.f k m) (q : Int)) (hl : cut.length = q) (o1 : Ev (fun k => spec_CutOk.j0 k w h m cut false) b) : Ev (fun k => spec_CutOk.f k w h m cut) b := by
 have e : ((cut.length : Int) != (q : Int)) = false := by rw [hl]; simp
 unfold spec_CutOk.f
 refine z6 h3 (z4 rfl (z6 h1 ?_))
 rw [e]
 exact o1
theorem implCut_len (W H x : Nat) (cut : List Int) (hn : W * H ≤ 36) (hx : x < 2 ^ (W * H)) (h2 : impl_isCuttable.f (W : Int) (H : Int) (x : Int) 9 = some true) (hl : ¬ cut.length = (cl x 0 (W * H)).length) : Ev (fun k => impl_CutOk.f k (W : Int) (H : Int) (x : Int) cut) false := by
 have hlist := z1e W H x hn hx
 have e : ¬ ((cut.length : Int) = ((toI (cl x 0 (W * H))).length : Int)) := by rw [z9]; exact fun q => hl (Int.ofNat.inj q)
 have hp : Ev (fun k => impl_piecesOf.f k (W : Int) (H : Int) (x : Int) cut) (([] : List Int), false) := by
  unfold impl_piecesOf.f
  exact z6 hlist (z7 e (z8 _))
 unfold impl_CutOk.f
 exact zc h2 (z4 rfl (z6 hp (z8 _)))
theorem z39 (w h m : Int) (cut : List Int) (r : List Int × Bool) (h2 : impl_isCuttable.f w h m 9 = some true) (o2 : Ev (fun k => impl_piecesOf.f k w h m cut) r) : Ev (fun k => impl_CutOk.f k w h m cut) r.2 := by
 unfold impl_CutOk.f
 exact zc h2 (z4 rfl (z6 o2 (z8 _)))
theorem z37 (w h m : Int) (cut : List Int) : ∃ b : Bool, Ev (fun k => spec_CutOk.f k w h m cut) b ∧ Ev (fun k => impl_CutOk.f k w h m cut) b ∧
 (b = true → ∃ W H x : Nat, ∃ R : List Nat, w = W ∧ h = H ∧ m = x ∧ (1 ≤ W ∧ W ≤ 6) ∧ (1 ≤ H ∧ H ≤ 6) ∧ x < 2 ^ (W * H) ∧ W * H ≤ 36 ∧ cut.length = (cl x 0 (W * H)).length ∧ run cut (cl x 0 (W * H)) [] = some R ∧ bnd R (W * H) ∧ R.length ≤ 36 ∧
  Ev (fun k => impl_piecesOf.f k w h m cut) (toI R, true) ∧ Ev (fun k => spec_l09Pieces.f k w m cut) (toI R)) := by
 by_cases c : okS w h m = true
 ·obtain ⟨W, H, x, rfl, rfl, rfl, hW, hH, hx, hn⟩ := ok_nat c
  have h36 : x < 2 ^ 36 := lle_ hx (p2_ hn)
  have hx64 : x < 2 ^ 64 := lle_ h36 (p2_ (by decide))
  have h1 := z3a 36 x h36 (by decide)
  have hp := pop64 (W * H) x hn hx
  generalize hq : pop 64 x = q at h1 hp
  have h2 := cuttable_nat W H x q c hx64 hq
  have h3 := l09Ok_nat W H x q c h1
  clear hq hx64 h36
  by_cases g : (1 : Int) ≤ (q : Int) ∧ (q : Int) ≤ 9
  ·rw [decide_eq_true g] at h2 h3
   clear g
   subst hp
   by_cases hl : cut.length = (cl x 0 (W * H)).length
   ·obtain ⟨o, o1, o2, o3⟩ := cut_all W H x hW hH hn hx cut hl
    refine ⟨o.isSome, specCut_go _ _ _ _ cut _ h3 h1 hl o1, ?_, ?_⟩
    ·cases o with
     | none => exact z39 _ _ _ cut _ h2 o2
     | some R => exact z39 _ _ _ cut _ h2 o2
    ·intro hb
     cases o with
     | none => cases hb
     | some R =>
      obtain ⟨q1, q4, q2, q3⟩ := o3 R rfl
      exact ⟨W, H, x, R, rfl, rfl, rfl, hW, hH, hx, hn, hl, q4, q2, q3, o2, q1⟩
   ·exact ⟨false, specCut_len _ _ _ _ cut h3 h1 hl, implCut_len W H x cut hn hx h2 hl, fun hb => by cases hb⟩
  ·rw [decide_eq_false g] at h2 h3
   exact ⟨false, z25 _ _ _ cut h3, z38 _ _ _ cut h2, fun hb => by cases hb⟩
 ·exact ⟨false, z25 _ _ _ cut (l09Ok_not w h m c), z38 _ _ _ cut (cuttable_not w h m c), fun hb => by cases hb⟩
def lab : List Nat → List Int → Nat → Int
 | c :: cs, n :: ns, d => if c = d then n else lab cs ns d
 | _, _, _ => -1
theorem step_at (out : List Nat) (n c p : Nat) (h : n ≤ out.length) (d : Nat) : ((z16 out n c).getD p 0).testBit d = ((out.getD p 0).testBit d || (decide (p = n) && decide (c = d))) := by
 unfold z16
 by_cases e : n = out.length
 ·rw [if_pos e]
  rw [gd_, gd_, List.getElem?_append]
  by_cases l : p < out.length
  ·rw [if_pos l]
   have : ¬ p = n := by omega
   simp [this]
  ·rw [if_neg l]
   by_cases g : p = n
   ·have g2 : p - out.length = 0 := by omega
    rw [g2, List.getElem?_eq_none (Nat.le_of_not_lt l)]
    simp [g, Nat.testBit_two_pow]
   ·have g2 : ∃ z, p - out.length = z + 1 := ⟨p - out.length - 1, by omega⟩
    obtain ⟨z, hz⟩ := g2
    rw [hz, List.getElem?_eq_none (Nat.le_of_not_lt l)]
    simp [g]
 ·rw [if_neg e]
  rw [gd_, List.getElem?_set]
  by_cases g : n = p
  ·subst g
   rw [if_pos rfl, if_pos (by omega)]
   simp [Nat.testBit_or, Nat.testBit_two_pow]
  ·have : ¬ p = n := fun q => g q.symm
   rw [if_neg g, ← gd_]
   simp [this]
theorem lab_none (cs : List Nat) : ∀ (suf : List Int) (d : Nat), d ∉ cs → lab cs suf d = -1 := by
 induction cs with
 | nil => intro suf d _; rfl
 | cons c cs ih =>
  intro suf d h
  cases suf with
  | nil => rfl
  | cons n ns =>
   simp only [lab]
   rw [if_neg (fun e => h (by simp [e])), ih ns d (fun e => h (by simp [e]))]
theorem asc_not {N lo c : Nat} {cs : List Nat} (h : asc N lo cs) (hc : c < lo) : c ∉ cs := by
 induction cs generalizing lo with
 | nil => simp
 | cons a cs ih =>
  obtain ⟨h1, _, h3⟩ := h
  intro m
  rcases List.mem_cons.mp m with e | e
  ·omega
  ·exact ih h3 (by omega) e
theorem run_lab (N : Nat) : ∀ (suf : List Int) (cs out : List Nat) (lo : Nat) (R : List Nat), asc N lo cs → suf.length = cs.length → run suf cs out = some R →
 out.length ≤ R.length ∧ (∀ p d : Nat, (R.getD p 0).testBit d = ((out.getD p 0).testBit d || decide (lab cs suf d = p))) ∧ (∀ d, lab cs suf d < R.length) ∧ ∀ d, d ∈ cs → 0 ≤ lab cs suf d := by
 intro suf
 induction suf with
 | nil =>
  intro cs out lo R ha hl h
  cases cs with
  | nil =>
   simp only [run] at h; cases h
   refine ⟨Nat.le_refl _, fun p d => ?_, fun d => ?_, fun d hd => by simp at hd⟩
   ·simp only [lab]
    have : ¬ (-1 : Int) = (p : Int) := by omega
    simp [this]
   ·simp only [lab]; omega
  | cons c cs => simp at hl
 | cons n ns ih =>
  intro cs out lo R ha hl h
  cases cs with
  | nil => simp at hl
  | cons c cs =>
   obtain ⟨h1, h2, h3⟩ := ha
   simp only [run] at h
   by_cases b : n < 0 ∨ (out.length : Int) < n
   ·rw [if_pos b] at h; cases h
   ·rw [if_neg b] at h
    obtain ⟨m, rfl⟩ := Int.eq_ofNat_of_zero_le (show 0 ≤ n by omega)
    rw [Int.toNat_natCast] at h
    have hm : m ≤ out.length := by omega
    have hs := z21 out m c hm
    obtain ⟨g0, g1, g2, g3⟩ := ih cs (z16 out m c) (c + 1) R h3 (by simpa using hl) h
    have hmR : m < R.length := by split at hs <;> omega
    refine ⟨by split at hs <;> omega, fun p d => ?_, fun d => ?_, fun d hd => ?_⟩
    ·rw [g1 p d, step_at out m c p hm d]
     have hlab : lab (c :: cs) ((m : Int) :: ns) d = if c = d then (m : Int) else lab cs ns d := rfl
     simp only [hlab]
     by_cases e : c = d
     ·subst e
      simp only [if_pos rfl, lab_none cs ns c (asc_not h3 (by omega))]
      have z1 : ¬ (-1 : Int) = (p : Int) := by omega
      by_cases e2 : p = m
      ·subst e2; simp
      ·have z2 : ¬ ((m : Int) = (p : Int)) := by omega
       simp [z1, z2, e2]
     ·simp only [if_neg e]; simp [e]
    ·simp only [lab]
     by_cases e : c = d
     ·rw [if_pos e]; omega
     ·rw [if_neg e]; exact g2 d
    ·simp only [lab]
     by_cases e : c = d
     ·rw [if_pos e]; omega
     ·rw [if_neg e]
      exact g3 d (by rcases List.mem_cons.mp hd with q | q; exact absurd q.symm e; exact q)
theorem rdp_mid (pre suf : List S56) (a : S56) : rd_T56 (pre ++ a :: suf) (pre.length : Int) = a := by
 simp [rd_T56, gd_]
theorem idx_from (C : List Nat) (d : Nat) (hC : C.length ≤ 36) : ∀ (suf pre : List Nat), C = pre ++ suf → d ∉ pre →
 ∃ z : Int, Ev (fun k => slices_Index_int_int.l0 k (toI C) (d : Int) (C.length : Int) (pre.length : Int)) z ∧ ((z = -1 ∧ d ∉ C) ∨ ∃ pc cs, C = pc ++ d :: cs ∧ z = (pc.length : Int)) := by
 intro suf
 induction suf with
 | nil =>
  intro pre hp hd
  have hlp : C.length = pre.length := by rw [hp]; simp
  refine ⟨-1, z5 ?_, .inl ⟨rfl, by rw [hp]; simpa using hd⟩⟩
  simp only [slices_Index_int_int.l0]
  exact z7 (by omega) (z8 _)
 | cons a suf ih =>
  intro pre hp hd
  have hlp : C.length = pre.length + suf.length + 1 := by rw [hp]; simp; omega
  have hat : rd (toI C) (pre.length : Int) = (a : Int) := by rw [zf, hp, ze]
  have c3 : (pre.length : Int) < ((toI C).length : Int) := by rw [z9]; omega
  by_cases e : d = a
  ·subst e
   refine ⟨pre.length, z5 ?_, .inr ⟨pre, suf, hp, rfl⟩⟩
   simp only [slices_Index_int_int.l0]
   rw [hat]
   exact z4 (by omega) (z4 (by omega) (z4 c3 (z4 rfl (z8 _))))
  ·obtain ⟨z, h1, h2⟩ := ih (pre ++ [a]) (by rw [hp]; simp) (by simp; exact ⟨hd, e⟩)
   have hpl : ((pre ++ [a]).length : Int) = ((pre.length + 1 : Nat) : Int) := by simp
   rw [hpl] at h1
   have hnx := z12 pre.length (by omega)
   refine ⟨z, z5 ?_, h2⟩
   simp only [slices_Index_int_int.l0]
   rw [hat, hnx]
   clear hnx
   exact z4 (by omega) (z4 (by omega) (z4 c3 (z7 (by omega) h1)))
theorem idx_ev (C : List Nat) (d : Nat) (hC : C.length ≤ 36) : ∃ z : Int, Ev (fun k => slices_Index_int_int.f k (toI C) (d : Int)) z ∧ ((z = -1 ∧ d ∉ C) ∨ ∃ pc cs, C = pc ++ d :: cs ∧ z = (pc.length : Int)) := by
 obtain ⟨z, h1, h2⟩ := idx_from C d hC C [] rfl (by simp)
 refine ⟨z, ?_, h2⟩
 unfold slices_Index_int_int.f
 rw [z9]
 exact h1
theorem cellAt_ix (W c : Nat) (hW : 1 ≤ W ∧ W ≤ 6) (hc : c < 100) : wrap64 (wrap64 ((zb W c).f1 * (W : Int)) + (zb W c).f0) = (c : Int) := by
 unfold zb
 show wrap64 (wrap64 (((c / W : Nat) : Int) * (W : Int)) + ((c % W : Nat) : Int)) = (c : Int)
 exact cell_back W c hW hc
theorem ixf_from (P : List Nat) (hP : P.length ≤ 1048576) (hb : ∀ p ∈ P, p < 2 ^ 62) (c k : Nat) (hc : c < 36) (hk : k < P.length) (h1 : (P.getD k 0).testBit c = true) (h0 : ∀ j, j < P.length → j ≠ k → (P.getD j 0).testBit c = false) : ∀ (d i : Nat), i + d = k →
 Ev (fun q => slices_IndexFunc_int_int.l0 q (toI P) (c : Int) (P.length : Int) (i : Int)) (k : Int) := by
 intro d
 induction d with
 | zero =>
  intro i hi
  have e : i = k := by omega
  subst e
  have hlt : P.getD i 0 < 2 ^ 62 := by
   rw [gd_, List.getElem?_eq_getElem hk]; exact hb _ (List.getElem_mem hk)
  refine z5 ?_
  simp only [slices_IndexFunc_int_int.l0]
  rw [zf]
  exact z4 (by omega) (z4 (by omega) (z4 (by rw [z9]; omega) (zc (z2a _ c hlt (by omega)) (z4 h1 (z8 _)))))
 | succ d ih =>
  intro i hi
  have hil : i < P.length := by omega
  have hlt : P.getD i 0 < 2 ^ 62 := by
   rw [gd_, List.getElem?_eq_getElem hil]; exact hb _ (List.getElem_mem hil)
  have hf := h0 i hil (by omega)
  have hnx := z12 i (by omega)
  have hi2 := ih (i + 1) (by omega)
  refine z5 ?_
  simp only [slices_IndexFunc_int_int.l0]
  rw [zf, hnx]
  clear hnx
  exact z4 (by omega) (z4 (by omega) (z4 (by rw [z9]; omega) (zc (z2a _ c hlt (by omega)) (z7 (by rw [hf]; decide) hi2))))
def z17 (p : Nat) : List Nat → Nat → Int → Int
 | [], _, at_ => at_
 | a :: l, i, at_ => z17 p l (i + 1) (if a = p then (i : Int) else at_)
theorem z35 (p : Nat) : ∀ (l : List Nat) (i : Nat) (at_ : Int), p ∉ l → z17 p l i at_ = at_ := by
 intro l
 induction l with
 | nil => intro i at_ _; rfl
 | cons a l ih =>
  intro i at_ h
  simp only [z17]
  rw [if_neg (fun e => h (by simp [e])), ih _ _ (fun e => h (by simp [e]))]
theorem lastAt_mid (p : Nat) : ∀ (l m : List Nat) (i : Nat) (at_ : Int), p ∉ m → z17 p (l ++ p :: m) i at_ = ((i + l.length : Nat) : Int) := by
 intro l
 induction l with
 | nil => intro m i at_ h; simp only [List.nil_append, z17]; rw [z35 p m _ _ h]; simp
 | cons a l ih =>
  intro m i at_ h
  simp only [List.cons_append, z17]
  rw [ih m (i + 1) _ h]
  simp only [List.length_cons]; congr 1; omega
theorem cutOf_l3 (W : Int) (L out : List Int) (hout : out.length ≤ 100) (N : List Nat) (hN : N.length ≤ 100) (p : Nat) (A : List S56) (n i : Int) (LP : List Int) (m j y z : Int) (r : List Int × Bool)  : ∀ (suf pre : List Nat) (at_ : Int), N = pre ++ suf →
 (z17 p suf pre.length at_ < 0 → Ev (fun k => spec_CutOf.l2 k W L (out ++ [(N.length : Int)]) (toI N ++ [(p : Int)]) A n i LP m (wrap64 (j + 1)) y z) r) →
 (¬ z17 p suf pre.length at_ < 0 → Ev (fun k => spec_CutOf.l2 k W L (out ++ [z17 p suf pre.length at_]) (toI N) A n i LP m (wrap64 (j + 1)) y z) r) →
 Ev (fun k => spec_CutOf.l3 k W L out (toI N) (p : Int) at_ A n i LP m j (N.length : Int) (pre.length : Int) y z) r := by
 intro suf
 induction suf with
 | nil =>
  intro pre at_ hp h1 h2
  have hlp : N.length = pre.length := by rw [hp]; simp
  simp only [z17] at h1 h2
  refine z5 ?_
  simp only [spec_CutOf.l3]
  refine z7 (by omega) ?_
  by_cases c : at_ < 0
  ·have := h1 c
   rw [z9]
   exact z4 c (z4 (by omega) (z4 (by omega) this))
  ·exact z7 c (z4 (by omega) (h2 c))
 | cons a suf ih =>
  intro pre at_ hp h1 h2
  have hlp : N.length = pre.length + suf.length + 1 := by rw [hp]; simp; omega
  have hat : rd (toI N) (pre.length : Int) = (a : Int) := by rw [zf, hp, ze]
  have hpl : ((pre ++ [a]).length : Int) = ((pre.length + 1 : Nat) : Int) := by simp
  have hpn : (pre ++ [a]).length = pre.length + 1 := by simp
  have hnx := z12 pre.length (by omega)
  simp only [z17] at h1 h2
  have hi := ih (pre ++ [a]) (if a = p then (pre.length : Int) else at_) (by rw [hp]; simp) (by rw [hpn]; exact h1) (by rw [hpn]; exact h2)
  rw [hpl] at hi
  refine z5 ?_
  simp only [spec_CutOf.l3]
  rw [hat, hnx]
  clear hnx
  refine z4 (by omega) (z4 (by omega) (z4 (by rw [z9]; omega) ?_))
  by_cases e : a = p
  ·rw [if_pos e] at hi
   exact z4 (by rw [e]) hi
  ·rw [if_neg e] at hi
   exact z7 (by omega) hi
theorem cutOf_l2 (W : Nat) (hW : 1 ≤ W ∧ W ≤ 6) (P : List Nat) (hP : P.length ≤ 1048576) (hb : ∀ p ∈ P, p < 2 ^ 62) (c k : Nat) (hc : c < 36) (hk : k < P.length) (h1 : (P.getD k 0).testBit c = true) (h0 : ∀ j, j < P.length → j ≠ k → (P.getD j 0).testBit c = false)
 (out out2 N N2 : List Int) (A : List S56) (n i : Int) (r : List Int × Bool)
 (hl3 : Ev (fun q => spec_CutOf.l2 q (W : Int) (toI P) out2 N2 A n i (toI P) (P.length : Int) (wrap64 ((k : Int) + 1)) (zb W c).f0 (zb W c).f1) r → Ev (fun q => spec_CutOf.l3 q (W : Int) (toI P) out N ((P.getD k 0 : Nat) : Int) (-1) A n i (toI P) (P.length : Int) (k : Int) (N.length : Int) 0 (zb W c).f0 (zb W c).f1) r)
 (hend : Ev (fun q => spec_CutOf.l1 q (W : Int) (toI P) out2 N2 A n (wrap64 (i + 1))) r) : Ev (fun q => spec_CutOf.l2 q (W : Int) (toI P) out N A n i (toI P) (P.length : Int) 0 (zb W c).f0 (zb W c).f1) r := by
 have hix := cellAt_ix W c hW (by omega)
 have c0 : (0 : Int) ≤ (c : Int) := nn_ c
 have at_ : ∀ j, j < P.length → P.getD j 0 < 2 ^ 62 := fun j hj => by
  rw [gd_, List.getElem?_eq_getElem hj]; exact hb _ (List.getElem_mem hj)
 -- behind the piece
 have after : ∀ (d j : Nat), k < j → j + d = P.length → Ev (fun q => spec_CutOf.l2 q (W : Int) (toI P) out2 N2 A n i (toI P) (P.length : Int) (j : Int) (zb W c).f0 (zb W c).f1) r := by
  intro d
  induction d with
  | zero =>
   intro j hj hd
   refine z5 ?_
   simp only [spec_CutOf.l2]
   exact z7 (by clear hix; omega) hend
  | succ d ih =>
   intro j hj hd
   have hjl : j < P.length := by clear hix; omega
   have hf := h0 j hjl (by clear hix; omega)
   have hi2 := ih (j + 1) (by clear hix; omega) (by clear hix; omega)
   have hnx := z12 j (by clear hix; omega)
   have q1 : (j : Int) < (P.length : Int) := by clear hix hnx; omega
   have q2 : (j : Int) < ((toI P).length : Int) := by rw [z9]; exact q1
   refine z5 ?_
   simp only [spec_CutOf.l2]
   rw [zf, hix, hnx]
   exact z4 q1 (z4 (nn_ j) (z4 q2 (z4 c0 (z4 ((z31 _ c (at_ j hjl) (Nat.le_of_lt (Nat.lt_trans hc (by decide)))).mpr hf) hi2))))
 have hk1 := after (P.length - (k + 1)) (k + 1) (by clear hix; omega) (by clear hix; omega)
 have hnk := z12 k (by clear hix; omega)
 rw [← hnk] at hk1
 have hl := hl3 hk1
 clear hnk
 have before : ∀ (d j : Nat), j + d = k → Ev (fun q => spec_CutOf.l2 q (W : Int) (toI P) out N A n i (toI P) (P.length : Int) (j : Int) (zb W c).f0 (zb W c).f1) r := by
  intro d
  induction d with
  | zero =>
   intro j hj
   have e : j = k := by clear hix; omega
   subst e
   have q1 : (j : Int) < (P.length : Int) := by clear hix; omega
   have q2 : (j : Int) < ((toI P).length : Int) := by rw [z9]; exact q1
   refine z5 ?_
   simp only [spec_CutOf.l2]
   rw [zf, hix]
   exact z4 q1 (z4 (nn_ j) (z4 q2 (z4 c0 (z7 (fun z => by rw [(z31 _ c (at_ j hk) (Nat.le_of_lt (Nat.lt_trans hc (by decide)))).mp z] at h1; cases h1) hl))))
  | succ d ih =>
   intro j hj
   have hjl : j < P.length := by clear hix; omega
   have hf := h0 j hjl (by clear hix; omega)
   have hi2 := ih (j + 1) (by clear hix; omega)
   have hnx := z12 j (by clear hix; omega)
   have q1 : (j : Int) < (P.length : Int) := by clear hix hnx; omega
   have q2 : (j : Int) < ((toI P).length : Int) := by rw [z9]; exact q1
   refine z5 ?_
   simp only [spec_CutOf.l2]
   rw [zf, hix, hnx]
   exact z4 q1 (z4 (nn_ j) (z4 q2 (z4 c0 (z4 ((z31 _ c (at_ j hjl) (Nat.le_of_lt (Nat.lt_trans hc (by decide)))).mpr hf) hi2))))
 exact before k 0 (by clear hix; omega)
theorem numb (W : Nat) (hW : 1 ≤ W ∧ W ≤ 6) (P : List Nat) (hP : P.length ≤ 1048576) (hb : ∀ p ∈ P, p < 2 ^ 62) (C : List Nat) (hC : C.length ≤ 36) (hc36 : ∀ c ∈ C, c < 36)
 (one : ∀ c ∈ C, ∃ k, k < P.length ∧ (P.getD k 0).testBit c = true ∧ ∀ j, j < P.length → j ≠ k → (P.getD j 0).testBit c = false) : ∀ (suf pre K : List Nat) (out : List Int), C = pre ++ suf → K.Nodup → (∀ k ∈ K, k < P.length) → K.length ≤ out.length → out.length ≤ pre.length →
 ∃ r : List Int, r.length ≤ 36 ∧ Ev (fun k => impl_numbered.l0 k (toI P) (toI K) out (toI C) (C.length : Int) (pre.length : Int)) r ∧
  Ev (fun k => spec_CutOf.l1 k (W : Int) (toI P) out (toI (K.map fun i => P.getD i 0)) (C.map (zb W)) (C.length : Int) (pre.length : Int)) (r, true) := by
 intro suf
 induction suf with
 | nil =>
  intro pre K out hp _ _ _ ho
  have hlp : C.length = pre.length := by rw [hp]; simp
  refine ⟨out, by omega, z5 ?_, z5 ?_⟩
  ·simp only [impl_numbered.l0]; exact z7 (by omega) (z8 _)
  ·simp only [spec_CutOf.l1]; exact z7 (by omega) (z8 _)
 | cons c suf ih =>
  intro pre K out hp hK hKP hKo ho
  have hlp : C.length = pre.length + suf.length + 1 := by rw [hp]; simp; omega
  have hcm : c ∈ C := by rw [hp]; simp
  have hc := hc36 c hcm
  obtain ⟨k, hk, h1, h0⟩ := one c hcm
  have hat : rd (toI C) (pre.length : Int) = (c : Int) := by rw [zf, hp, ze]
  have hats : rd_T56 (C.map (zb W)) (pre.length : Int) = zb W c := by
   have := rdp_mid (pre.map (zb W)) (suf.map (zb W)) (zb W c)
   rw [hp]
   simpa using this
  have q1 : (pre.length : Int) < (C.length : Int) := by omega
  have q2 : (pre.length : Int) < ((toI C).length : Int) := by rw [z9]; exact q1
  have q3 : (pre.length : Int) < ((C.map (zb W)).length : Int) := by rw [List.length_map]; exact q1
  have hpl : ((pre ++ [c]).length : Int) = ((pre.length + 1 : Nat) : Int) := by simp
  have b1 : K.length < 17592186044416 := by omega
  have b2 : out.length < 17592186044416 := by omega
  have b3 : out.length ≤ 100 := by omega
  have b4 : K.length ≤ 100 := by omega
  have b5 : K.length ≤ 36 := by omega
  have b6 : (K ++ [k]).length ≤ 36 := by simp; omega
  have b7 : (K ++ [k]).length ≤ (out ++ [(K.length : Int)]).length := by simp; omega
  have b8 : ∀ v : Int, (out ++ [v]).length ≤ (pre ++ [c]).length := fun v => by simp; omega
  have b9 : ∀ v : Int, K.length ≤ (out ++ [v]).length := fun v => by simp; omega
  have hnx := z12 pre.length (by omega)
  have hix : Ev (fun q => slices_IndexFunc_int_int.f q (toI P) (c : Int)) (k : Int) := by
   unfold slices_IndexFunc_int_int.f
   rw [z9]
   exact ixf_from P hP hb c k hc hk h1 h0 k 0 (by omega)
  have hne : ∀ i, i < P.length → i ≠ k → P.getD i 0 ≠ P.getD k 0 := fun i hi hik e => by
   have := h0 i hi hik
   rw [e, h1] at this
   cases this
  obtain ⟨z, hz, hzs⟩ := idx_ev K k b5
  have hKl : (toI (K.map fun i => P.getD i 0)).length = K.length := by rw [z9, List.length_map]
  rcases hzs with ⟨rfl, hkn⟩ | ⟨pc, cs, hKe, rfl⟩
  ·-- a new piece
   have hnd : (K ++ [k]).Nodup := List.nodup_append.mpr ⟨hK, by simp, fun a ha b hb' => by
    have : b = k := by simpa using hb'
    subst this
    exact fun e => hkn (e ▸ ha)⟩
   obtain ⟨r, hr, g1, g2⟩ := ih (pre ++ [c]) (K ++ [k]) (out ++ [(K.length : Int)]) (by rw [hp]; simp) hnd (fun i hi => by
    rcases List.mem_append.mp hi with q | q
    ·exact hKP i q
    ·have : i = k := by simpa using q
     rw [this]; exact hk) b7 (b8 _)
   rw [hpl, ← hnx] at g1 g2
   have hz2 : Ev (fun q => slices_Index_int_int.f q (toI K ++ [(k : Int)]) (k : Int)) (K.length : Int) := by
    obtain ⟨z2, h2, hs2⟩ := idx_ev (K ++ [k]) k b6
    have e : toI (K ++ [k]) = toI K ++ [(k : Int)] := by rw [z1d]; rfl
    rw [e] at h2
    refine z18 h2 ?_
    rcases hs2 with ⟨_, q⟩ | ⟨pc, cs, q, rfl⟩
    ·exact absurd (by simp) q
    ·have : pc.length = K.length := by
      rcases Nat.lt_trichotomy pc.length K.length with g | g | g
      ·exfalso
       have hm : k ∈ K := by
        have := congrArg (fun l => l[pc.length]?) q
        simp only [List.getElem?_append_left g] at this
        simp at this
        exact List.mem_of_getElem? this
       exact hkn hm
      ·exact g
      ·exfalso
       have := congrArg List.length q
       simp at this
       omega
     rw [this]
   refine ⟨r, hr, z5 ?_, z5 ?_⟩
   ·simp only [impl_numbered.l0]
    rw [hat]
    refine z4 q1 (z4 (nn_ _) (z4 q2 (z6 hix (z6 hz (z7 (by decide) (z4 (by rw [z9]; exact b1) (z6 (z8 _) (z6 hz2 (z4 b2 ?_)))))))))
    rw [z1d] at g1
    exact g1
   ·simp only [spec_CutOf.l1]
    rw [hats, z9]
    refine z4 q1 (z4 (nn_ _) (z4 q3 ?_))
    refine cutOf_l2 W hW P hP hb c k hc hk h1 h0 out (out ++ [(K.length : Int)]) _ (toI (K.map fun i => P.getD i 0) ++ [((P.getD k 0 : Nat) : Int)]) (C.map (zb W)) (C.length : Int) (pre.length : Int) (r, true) (fun hl => ?_) ?_
    ·have hno : P.getD k 0 ∉ (K.map fun i => P.getD i 0) := fun q => by
      obtain ⟨i, hi, e⟩ := List.mem_map.mp q
      exact hne i (hKP i hi) (fun e2 => hkn (e2 ▸ hi)) e
     have hla := z35 (P.getD k 0) (K.map fun i => P.getD i 0) 0 (-1) hno
     have := cutOf_l3 (W : Int) (toI P) out b3 (K.map fun i => P.getD i 0) (by rw [List.length_map]; exact b4) (P.getD k 0) (C.map (zb W)) (C.length : Int) (pre.length : Int) (toI P) (P.length : Int) (k : Int) (zb W c).f0 (zb W c).f1 (r, true) (K.map fun i => P.getD i 0) [] (-1) rfl (fun _ => by rw [List.length_map]; exact hl) (fun q => absurd (by rw [List.length_nil, hla]; decide) q)
     rw [z9]
     exact this
    ·have e : toI ((K ++ [k]).map fun i => P.getD i 0) = toI (K.map fun i => P.getD i 0) ++ [((P.getD k 0 : Nat) : Int)] := by rw [List.map_append, z1d]; rfl
     rw [e] at g2
     exact g2
  ·-- a piece that has been named
   have hkK : k ∈ K := by rw [hKe]; simp
   obtain ⟨r, hr, g1, g2⟩ := ih (pre ++ [c]) K (out ++ [(pc.length : Int)]) (by rw [hp]; simp) hK hKP (b9 _) (b8 _)
   rw [hpl, ← hnx] at g1 g2
   have hcs : k ∉ cs := by
    rw [hKe] at hK
    have := (List.nodup_append.mp hK).2.1
    exact (List.nodup_cons.mp this).1
   refine ⟨r, hr, z5 ?_, z5 ?_⟩
   ·simp only [impl_numbered.l0]
    rw [hat]
    exact z4 q1 (z4 (nn_ _) (z4 q2 (z6 hix (z6 hz (z4 (nn_ _) (z6 hz (z4 b2 g1)))))))
   ·simp only [spec_CutOf.l1]
    rw [hats, z9]
    refine z4 q1 (z4 (nn_ _) (z4 q3 ?_))
    refine cutOf_l2 W hW P hP hb c k hc hk h1 h0 out (out ++ [(pc.length : Int)]) _ (toI (K.map fun i => P.getD i 0)) (C.map (zb W)) (C.length : Int) (pre.length : Int) (r, true) (fun hl => ?_) g2
    have hla : z17 (P.getD k 0) (K.map fun i => P.getD i 0) 0 (-1) = (pc.length : Int) := by
     rw [hKe, List.map_append, List.map_cons]
     rw [lastAt_mid]
     ·simp
     ·intro q
      obtain ⟨i, hi, e⟩ := List.mem_map.mp q
      exact hne i (hKP i (by rw [hKe]; simp [hi])) (fun e2 => hcs (e2 ▸ hi)) e
    have := cutOf_l3 (W : Int) (toI P) out b3 (K.map fun i => P.getD i 0) (by rw [List.length_map]; exact b4) (P.getD k 0) (C.map (zb W)) (C.length : Int) (pre.length : Int) (toI P) (P.length : Int) (k : Int) (zb W c).f0 (zb W c).f1 (r, true) (K.map fun i => P.getD i 0) [] (-1) rfl (fun q => absurd q (by rw [List.length_nil, hla]; omega)) (fun _ => by rw [List.length_nil, hla]; exact hl)
    rw [z9]
    exact this
theorem conn_in {W H x s i : Nat} (hs : x.testBit s = true) (h : Conn W H x s i) : x.testBit i = true := by
 cases h with
 | base => exact hs
 | step _ _ hx => exact hx
theorem or_disj (a b : Nat) (ha : a < 2 ^ 62) (hb : b < 2 ^ 62) (h : a &&& b = 0) : a ||| b = a + b := by
 have e1 : (BitVec.ofNat 64 a).toNat = a := by rw [BitVec.toNat_ofNat]; exact Nat.mod_eq_of_lt (by omega)
 have e2 : (BitVec.ofNat 64 b).toNat = b := by rw [BitVec.toNat_ofNat]; exact Nat.mod_eq_of_lt (by omega)
 have hz : BitVec.ofNat 64 a &&& BitVec.ofNat 64 b = 0#64 := by
  apply BitVec.eq_of_toNat_eq
  rw [BitVec.toNat_and, e1, e2, h]; rfl
 have := congrArg BitVec.toNat (BitVec.add_eq_or_of_and_eq_zero _ _ hz)
 rw [BitVec.toNat_add, BitVec.toNat_or, e1, e2, Nat.mod_eq_of_lt (by omega)] at this
 exact this.symm
theorem z36 (a b : Nat) (ha : a < 2 ^ 62) (hb : b < 2 ^ 62) (hsub : ∀ i, b.testBit i = true → a.testBit i = true) : Go.bits .andNot .i64 (a : Int) (b : Int) = ((a - b : Nat) : Int) ∧ b ≤ a ∧ ∀ i, (a - b).testBit i = (a.testBit i && !b.testBit i) := by
 have key : a = (a ^^^ b) + b ∧ ∀ i, (a ^^^ b).testBit i = (a.testBit i && !b.testBit i) := by
  have hx : ∀ i, (a ^^^ b).testBit i = (a.testBit i && !b.testBit i) := by
   intro i
   rw [Nat.testBit_xor]
   cases hb' : b.testBit i
   ·cases a.testBit i <;> rfl
   ·rw [hsub i hb']; rfl
  refine ⟨?_, hx⟩
  have disj : (a ^^^ b) &&& b = 0 := by
   apply Nat.eq_of_testBit_eq
   intro i
   rw [Nat.testBit_and, hx i, Nat.zero_testBit]
   cases b.testBit i <;> simp
  have hor : (a ^^^ b) ||| b = a := by
   apply Nat.eq_of_testBit_eq
   intro i
   rw [Nat.testBit_or, hx i]
   cases hb' : b.testBit i
   ·cases a.testBit i <;> rfl
   ·rw [hsub i hb']; rfl
  have hxl : a ^^^ b < 2 ^ 62 := Nat.xor_lt_two_pow ha hb
  have := or_disj (a ^^^ b) b hxl hb disj
  rw [hor] at this
  exact this
 obtain ⟨k1, k2⟩ := key
 have e : a - b = a ^^^ b := by omega
 refine ⟨?_, by omega, by rw [e]; exact k2⟩
 rw [e]
 simp only [Go.bits]
 have e1 : (BitVec.ofInt 64 (a : Int)).toNat = a := by
  rw [BitVec.ofInt_natCast, BitVec.toNat_ofNat]; exact Nat.mod_eq_of_lt (by omega)
 have e2 : (BitVec.ofInt 64 (b : Int)).toNat = b := by
  rw [BitVec.ofInt_natCast, BitVec.toNat_ofNat]; exact Nat.mod_eq_of_lt (by omega)
 show IntKind.i64.wrap (((BitVec.ofInt 64 (a : Int)) &&& ~~~(BitVec.ofInt 64 (b : Int))).toNat : Int) = _
 have e3 : ((BitVec.ofInt 64 (a : Int)) &&& ~~~(BitVec.ofInt 64 (b : Int))).toNat = a ^^^ b := by
  apply Nat.eq_of_testBit_eq
  intro i
  rw [BitVec.toNat_and, Nat.testBit_and, e1, k2 i]
  by_cases hi : i < 64
  ·have : ((~~~(BitVec.ofInt 64 (b : Int))).toNat).testBit i = !b.testBit i := by
    rw [BitVec.testBit_toNat, BitVec.getLsbD_not]
    rw [← BitVec.testBit_toNat, e2]
    simp [hi]
   rw [this]
  ·have : a.testBit i = false := Nat.testBit_lt_two_pow (lle_ ha (p2_ (by omega)))
   rw [this]; simp
 rw [e3, IntKind.wrap_i64]
 have hl : a ^^^ b ≤ a := by omega
 generalize a ^^^ b = q at *
 omega
def z13 (W H : Nat) : List Nat → Nat → Prop
 | [], rest => rest = 0
 | p :: P, rest => p ≠ 0 ∧ (∀ i, p.testBit i = true → rest.testBit i = true) ∧ z13 W H P (rest - p)
theorem z15 (a b : Nat) (ha : a < 2 ^ 62) (hb : b < 2 ^ 62) (hsub : ∀ i, b.testBit i = true → a.testBit i = true) : b ≤ a ∧ ∀ i, (a - b).testBit i = (a.testBit i && !b.testBit i) := (z36 a b ha hb hsub).2
theorem parts_none (W H : Nat) : ∀ (P : List Nat) (rest c : Nat), rest < 2 ^ 62 → (∀ p ∈ P, p < 2 ^ 62) → z13 W H P rest → rest.testBit c = false → ∀ q ∈ P, q.testBit c = false := by
 intro P
 induction P with
 | nil => intro rest c _ _ _ _ q hq; cases hq
 | cons p P ih =>
  intro rest c hr hP h hc q hq
  obtain ⟨_, h2, h3⟩ := h
  have hp := hP p (by simp)
  obtain ⟨s1, s2⟩ := z15 rest p hr hp h2
  have hpc : p.testBit c = false := by
   cases e : p.testBit c with
   | false => rfl
   | true => rw [h2 c e] at hc; cases hc
  rcases List.mem_cons.mp hq with e | e
  ·rw [e]; exact hpc
  ·exact ih (rest - p) c (by omega) (fun z hz => hP z (by simp [hz])) h3 (by rw [s2, hc]; rfl) q e
theorem parts_one (W H : Nat) : ∀ (P : List Nat) (rest c : Nat), rest < 2 ^ 62 → (∀ p ∈ P, p < 2 ^ 62) → z13 W H P rest → rest.testBit c = true → ∃ k, k < P.length ∧ (P.getD k 0).testBit c = true ∧ ∀ j, j < P.length → j ≠ k → (P.getD j 0).testBit c = false := by
 intro P
 induction P with
 | nil => intro rest c _ _ h hc; simp only [z13] at h; rw [h] at hc; simp at hc
 | cons p P ih =>
  intro rest c hr hP h hc
  obtain ⟨h1, h2, h3⟩ := h
  have hp := hP p (by simp)
  obtain ⟨s1, s2⟩ := z15 rest p hr hp h2
  have hP' : ∀ z ∈ P, z < 2 ^ 62 := fun z hz => hP z (by simp [hz])
  cases e : p.testBit c with
  | true =>
   refine ⟨0, by simp, by simpa using e, fun j hj hj0 => ?_⟩
   obtain ⟨i, rfl⟩ : ∃ i, j = i + 1 := ⟨j - 1, by omega⟩
   have hi : i < P.length := by simpa using hj
   have e2 : (p :: P).getD (i + 1) 0 = P.getD i 0 := by simp
   rw [e2]
   refine parts_none W H P (rest - p) c (by omega) hP' h3 (by rw [s2, e]; simp) _ ?_
   rw [gd_, List.getElem?_eq_getElem hi]
   exact List.getElem_mem hi
  | false =>
   obtain ⟨k, k1, k2, k3⟩ := ih (rest - p) c (by omega) hP' h3 (by rw [s2, hc, e]; rfl)
   refine ⟨k + 1, by simpa using k1, by simpa using k2, fun j hj hjk => ?_⟩
   cases j with
   | zero => simpa using e
   | succ i =>
    have e2 : (p :: P).getD (i + 1) 0 = P.getD i 0 := by simp
    rw [e2]
    exact k3 i (by simpa using hj) (by omega)
theorem or_eq_iff (a b : Nat) : a ||| b = a ↔ ∀ i, b.testBit i = true → a.testBit i = true := by
 constructor
 ·intro h i hi
  rw [← h, Nat.testBit_or, hi, Bool.or_true]
 ·intro h
  apply Nat.eq_of_testBit_eq
  intro i
  rw [Nat.testBit_or]
  cases e : b.testBit i with
  | false => simp
  | true => rw [h i e]; rfl
theorem z3d (W H x : Nat) (hW : 1 ≤ W ∧ W ≤ 6) (hH : 1 ≤ H ∧ H ≤ 6) (hn : W * H ≤ 36) (hx : x < 2 ^ (W * H)) (P : List Nat) (hP : P.length ≤ 1048576) (hb : ∀ p ∈ P, p < 2 ^ (W * H)) (hparts : z13 W H P x) :
 ∃ r : List Int, r.length ≤ 36 ∧ Ev (fun k => impl_numbered.f k (W : Int) (H : Int) (x : Int) (toI P)) r ∧
  Ev (fun k => (spec_l08Cells.f k (W : Int) (x : Int)).bind fun t => spec_CutOf.l1 k (W : Int) (toI P) (([] : List Int)) (([] : List Int)) t (t.length : Int) 0) (r, true) := by
 have hb62 : ∀ p ∈ P, p < 2 ^ 62 := fun p hp => lle_ (hb p hp) (p2_ (by omega))
 have hx62 : x < 2 ^ 62 := lle_ hx (p2_ (by omega))
 have hcl := cl_len x (W * H) 0
 obtain ⟨r, hr, g1, g2⟩ := numb W hW P hP hb62 (cl x 0 (W * H)) (by omega) (fun c hc => by have := (cl_mem x (W * H) 0 c).mp hc; omega) (fun c hc => parts_one W H P x c hx62 hb62 hparts ((cl_mem x (W * H) 0 c).mp hc).2.2) (cl x 0 (W * H)) [] [] [] rfl (by simp) (fun k hk => by cases hk) (by simp) (by simp)
 refine ⟨r, hr, ?_, ?_⟩
 ·unfold impl_numbered.f
  refine z6 (z1e W H x hn hx) ?_
  rw [z9]
  exact g1
 ·refine z6 (z23 W (W * H) x hW hn hx) ?_
  rw [List.length_map]
  exact g2
theorem ctz_low (x i : Nat) (h0 : x ≠ 0) (h : x < 2 ^ 64) (hi : i < Lib.ctz 64 x) : x.testBit i = false := by
 obtain ⟨m, hm, _⟩ := ctz_of x h0 h
 generalize Lib.ctz 64 x = s at *
 obtain ⟨d, rfl⟩ : ∃ d, s = i + 1 + d := ⟨s - (i + 1), by omega⟩
 have e : x = 2 ^ i * (2 * (2 ^ d * (2 * m + 1))) := by
  rw [hm, Nat.pow_add, Nat.pow_succ]
  simp only [Nat.mul_assoc]
 rw [e, z10, Nat.mul_div_cancel_left _ (Nat.two_pow_pos i)]
 exact decide_eq_false (by omega)
theorem comp_whole (W H x M : Nat) (hW : 1 ≤ W ∧ W ≤ 6) (hH : 1 ≤ H ∧ H ≤ 6) (hn : W * H ≤ 36) (hx : x < 2 ^ (W * H)) (h0 : x ≠ 0) (hM : z11 W H x (Lib.ctz 64 x) M) (hMl : M < 2 ^ (W * H)) : M ≠ 0 ∧ Ev (fun k => spec_l08Reach.f k (W : Int) (H : Int) (M : Int)) (M : Int) := by
 have h64 : (2 : Nat) ^ (W * H) ≤ 2 ^ 64 := p2_ (by omega)
 have hx64 := lle_ hx h64
 have hM64 := lle_ hMl h64
 have hb := z30 x h0 hx64
 have hMs : M.testBit (Lib.ctz 64 x) = true := (hM _).mpr Conn.base
 have hM0 : M ≠ 0 := fun z => by rw [z, Nat.zero_testBit] at hMs; cases hMs
 have hMb := z30 M hM0 hM64
 have hsub : ∀ i, M.testBit i = true → x.testBit i = true := fun i hi => conn_in hb ((hM i).mp hi)
 have e : Lib.ctz 64 M = Lib.ctz 64 x := by
  rcases Nat.lt_trichotomy (Lib.ctz 64 M) (Lib.ctz 64 x) with g | g | g
  ·have := ctz_low x _ h0 hx64 g
   rw [hsub _ hMb] at this
   cases this
  ·exact g
  ·have := ctz_low M _ hM0 hM64 g
   rw [hMs] at this
   cases this
 have hc : z11 W H M (Lib.ctz 64 M) M := by
  rw [e]
  intro i
  constructor
  ·intro hi
   have := (hM i).mp hi
   clear hi
   induction this with
   | base => exact Conn.base
   | step h hj hxj ih => exact Conn.step ih hj ((hM _).mpr (Conn.step h hj hxj))
  ·intro h
   exact conn_in hMs h
 obtain ⟨M', m1, _, m3, _⟩ := z24 W H M hW hH hn hMl hM0
 have := z34 m3 hc
 subst this
 exact ⟨hM0, m1⟩
def prt : List Nat → Nat → Nat → Prop
 | [], x, r => x = r
 | p :: P, x, r => p ≠ 0 ∧ (∀ i, p.testBit i = true → x.testBit i = true) ∧ prt P (x - p) r
theorem prt_app : ∀ (P Q : List Nat) (x r s : Nat), prt P x r → prt Q r s → prt (P ++ Q) x s := by
 intro P
 induction P with
 | nil => intro Q x r s h1 h2; simp only [prt] at h1; subst h1; exact h2
 | cons p P ih => intro Q x r s h1 h2; exact ⟨h1.1, h1.2.1, ih Q _ r s h1.2.2 h2⟩
theorem prt_lift : ∀ (Q : List Nat) (y z : Nat), y < 2 ^ 62 → z < 2 ^ 62 → (∀ p ∈ Q, p < 2 ^ 62) → prt Q y 0 → (∀ i, y.testBit i = true → z.testBit i = true) → prt Q z (z - y) := by
 intro Q
 induction Q with
 | nil => intro y z _ _ _ h _; simp only [prt] at h ⊢; omega
 | cons p Q ih =>
  intro y z hy hz hQ h hsub
  obtain ⟨h1, h2, h3⟩ := h
  have hp := hQ p (by simp)
  obtain ⟨s1, s2⟩ := z15 y p hy hp h2
  have h4 : ∀ i, p.testBit i = true → z.testBit i = true := fun i hi => hsub i (h2 i hi)
  obtain ⟨t1, t2⟩ := z15 z p hz hp h4
  obtain ⟨u1, _⟩ := z15 z y hz hy hsub
  refine ⟨h1, h4, ?_⟩
  have := ih (y - p) (z - p) (by omega) (by omega) (fun q hq => hQ q (by simp [hq])) h3 (fun i hi => by
   rw [s2 i] at hi
   rw [t2 i]
   cases e : p.testBit i with
   | true => rw [e] at hi; simp at hi
   | false => rw [e] at hi; simp at hi ⊢; exact hsub i hi)
  have e : z - p - (y - p) = z - y := by omega
  rw [e] at this
  exact this
theorem parts_of_prt (W H : Nat) : ∀ (P : List Nat) (x : Nat), prt P x 0 → z13 W H P x := by
 intro P
 induction P with
 | nil => intro x h; exact h
 | cons p P ih => intro x h; exact ⟨h.1, h.2.1, ih _ h.2.2⟩
def good (W H : Nat) (p : Nat) : Prop := p < 2 ^ (W * H) ∧ p ≠ 0 ∧ Ev (fun k => spec_l08Reach.f k (W : Int) (H : Int) (p : Int)) (p : Int)
theorem parts_list (W H : Nat) (hW : 1 ≤ W ∧ W ≤ 6) (hH : 1 ≤ H ∧ H ≤ 6) (hn : W * H ≤ 36) (m : Nat) : ∀ (x : Nat) (out : List Int), x < 2 ^ (W * H) → x ≤ m ∧ W * H - zr (W * H) x ≤ m → out.length + (W * H - zr (W * H) x) ≤ 100 →
 ∃ Q : List Nat, Ev (fun k => spec_PartsOf.l0 k (W : Int) (H : Int) (x : Int) out) (out ++ toI Q) ∧ Ev (fun k => impl_partsOf.l0 k (W : Int) (H : Int) (x : Int) out) (out ++ toI Q) ∧ (∀ p ∈ Q, good W H p) ∧ prt Q x 0 ∧ Q.length ≤ W * H - zr (W * H) x := by
 induction m with
 | zero =>
  intro x out hx hm ho
  obtain rfl : x = 0 := by omega
  refine ⟨[], z5 ?_, z5 ?_, fun p hp => (by cases hp), rfl, by simp⟩
  ·simp only [spec_PartsOf.l0]; exact z7 (by omega) (z18 (z8 _) (by simp [toI]))
  ·simp only [impl_partsOf.l0]; exact z4 (by omega) (z18 (z8 _) (by simp [toI]))
 | succ m ih =>
  intro x out hx hm ho
  by_cases h0 : x = 0
  ·subst h0
   refine ⟨[], z5 ?_, z5 ?_, fun p hp => (by cases hp), rfl, by simp⟩
   ·simp only [spec_PartsOf.l0]; exact z7 (by omega) (z18 (z8 _) (by simp [toI]))
   ·simp only [impl_partsOf.l0]; exact z4 (by omega) (z18 (z8 _) (by simp [toI]))
  ·have hp36 : 2 ^ (W * H) ≤ 2 ^ 36 := p2_ hn
   obtain ⟨M, h1, h2, h3, h4⟩ := z24 W H x hW hH hn hx h0
   obtain ⟨w1, w2⟩ := comp_whole W H x M hW hH hn hx h0 h3 h4
   have hb := z30 x h0 (by omega)
   have hs := z3b hx hb
   have hsub : ∀ i, M.testBit i = true → x.testBit i = true := fun i hi => conn_in hb ((h3 i).mp hi)
   obtain ⟨e1, e2, e3⟩ := z36 x M (by omega) (by omega) hsub
   have hMs : M.testBit (Lib.ctz 64 x) = true := (h3 _).mpr Conn.base
   have hz : zr (W * H) x < zr (W * H) (x - M) := by
    have hmono := zr_mono (W * H) (x - M) x (fun i hi => by rw [e3 i, Bool.and_eq_true] at hi; exact hi.1)
    rcases Nat.lt_or_ge (zr (W * H) x) (zr (W * H) (x - M)) with g | g
    ·exact g
    ·exfalso
     have := zr_eq (W * H) (x - M) x (fun i hi => by rw [e3 i, Bool.and_eq_true] at hi; exact hi.1) (Nat.le_antisymm hmono g) _ hs
     rw [e3, hMs, hb] at this
     cases this
   have hzl := zr_le (W * H) (x - M)
   have olen : out.length < 17592186044416 := by omega
   have hlt : x - M < 2 ^ (W * H) := by omega
   have hx62 : x < 2 ^ 62 := by omega
   have hpos : (x : Int) > 0 := by omega
   have hne : ¬ (x : Int) = 0 := by omega
   obtain ⟨Q, g1, g2, g3, g4, g5⟩ := ih (x - M) (out ++ [(M : Int)]) hlt (by omega) (by rw [List.length_append]; simp; omega)
   have hq : out ++ [(M : Int)] ++ toI Q = out ++ toI (M :: Q) := by simp [toI]
   rw [hq] at g1 g2
   have hlen : (M :: Q).length ≤ W * H - zr (W * H) x := by simp; omega
   have ew : wrap64 ((x : Int) - (M : Int)) = ((x - M : Nat) : Int) := by rw [wsmall _ (by omega)]; omega
   refine ⟨M :: Q, z5 ?_, z5 ?_, fun p hp => ?_, ⟨w1, hsub, g4⟩, hlen⟩
   ·simp only [spec_PartsOf.l0]
    refine z4 hpos (z6 h1 (z4 olen ?_))
    rw [ew]; exact g1
   ·simp only [impl_partsOf.l0]
    refine z7 hne (zc (least_ev x hx62) (z6 h2 (z4 olen ?_)))
    rw [e1]; exact g2
   ·rcases List.mem_cons.mp hp with e | e
    ·rw [e]; exact ⟨h4, w1, w2⟩
    ·exact g3 p e
theorem parts_told (W H x : Nat) (hW : 1 ≤ W ∧ W ≤ 6) (hH : 1 ≤ H ∧ H ≤ 6) (hn : W * H ≤ 36) (hx : x < 2 ^ (W * H)) :
 ∃ Q : List Nat, Ev (fun k => spec_PartsOf.f k (W : Int) (H : Int) (x : Int)) (toI Q) ∧ Ev (fun k => impl_partsOf.f k (W : Int) (H : Int) (x : Int)) (toI Q) ∧ (∀ p ∈ Q, good W H p) ∧ prt Q x 0 ∧ Q.length ≤ 36 := by
 have hz := zr_le (W * H) x
 obtain ⟨Q, g1, g2, g3, g4, g5⟩ := parts_list W H hW hH hn (x + 40) x [] hx (by omega) (by simp; omega)
 refine ⟨Q, ?_, ?_, g3, g4, by omega⟩
 ·unfold spec_PartsOf.f
  exact zc (z1b _ _ _) (z4 (nat_ok W H x hW hH hx) (by simpa using g1))
 ·unfold impl_partsOf.f
  simpa using g2
theorem spec_takes (W H x : Nat) (hW : 1 ≤ W ∧ W ≤ 6) (hH : 1 ≤ H ∧ H ≤ 6) (hn : W * H ≤ 36) (L : List Nat) (hL : L.length ≤ 1048576) (hg : ∀ p ∈ L, good W H p) (r : List Int × Bool) (hr : Ev (fun k => (spec_l08Cells.f k (W : Int) (x : Int)).bind fun t => spec_CutOf.l1 k (W : Int) (toI L) (([] : List Int)) (([] : List Int)) t (t.length : Int) 0) r) :
 ∀ (suf pre : List Nat) (rest : Nat), L = pre ++ suf → rest < 2 ^ (W * H) → z13 W H suf rest → Ev (fun k => spec_CutOf.l0 k (W : Int) (H : Int) (x : Int) (toI L) (rest : Int) (toI L) (L.length : Int) (pre.length : Int)) r := by
 intro suf
 induction suf with
 | nil =>
  intro pre rest hp _ h
  have hlp : L.length = pre.length := by rw [hp]; simp
  simp only [z13] at h
  refine z5 ?_
  simp only [spec_CutOf.l0]
  exact z7 (by omega) (z4 (by omega) hr)
 | cons n suf ih =>
  intro pre rest hp hrl h
  obtain ⟨h1, h2, h3⟩ := h
  have hlp : L.length = pre.length + suf.length + 1 := by rw [hp]; simp; omega
  have hat : rd (toI L) (pre.length : Int) = (n : Int) := by rw [zf, hp, ze]
  have hpl : ((pre ++ [n]).length : Int) = ((pre.length + 1 : Nat) : Int) := by simp
  obtain ⟨k1, _, k3⟩ := hg n (by rw [hp]; simp)
  have q1 : (pre.length : Int) < (L.length : Int) := by omega
  have q2 : (pre.length : Int) < ((toI L).length : Int) := by rw [z9]; exact q1
  have e36 : (2 : Nat) ^ (W * H) ≤ 2 ^ 36 := p2_ hn
  have r63 : rest < 2 ^ 63 := lle_ hrl (p2_ (by omega))
  have n63 : n < 2 ^ 63 := lle_ k1 (p2_ (by omega))
  have r62 : rest < 2 ^ 62 := lle_ hrl (p2_ (by omega))
  have n62 : n < 2 ^ 62 := lle_ k1 (p2_ (by omega))
  obtain ⟨s1, _⟩ := z15 rest n r62 n62 h2
  have hor : rest ||| n = rest := (or_eq_iff rest n).mpr h2
  have np : ¬ (n : Int) ≤ 0 := by omega
  have hi := ih (pre ++ [n]) (rest - n) (by rw [hp]; simp) (by omega) h3
  have hsubw : wrap64 ((rest : Int) - (n : Int)) = ((rest - n : Nat) : Int) := by
   rw [w64 (by omega) (by omega)]; omega
  have hnx := z12 pre.length (by clear hsubw; omega)
  rw [hpl, ← hnx] at hi
  refine z5 ?_
  simp only [spec_CutOf.l0]
  rw [hat, z22 rest n r63 n63, hor, hsubw]
  exact z4 q1 (z4 (nn_ _) (z4 q2 (z7 np (z4 rfl (z6 k3 (z4 rfl hi))))))
def left_ (x : Nat) (f g : Nat → Int) (i j : Nat) (rest : Nat) : Prop := ∀ c, rest.testBit c = (x.testBit c && decide (¬ (f c < i ∨ (f c = i ∧ g c < j))))
theorem join_l1 (W H x : Nat) (hW : 1 ≤ W ∧ W ≤ 6) (hH : 1 ≤ H ∧ H ≤ 6) (hn : W * H ≤ 36) (hx : x < 2 ^ (W * H)) (cut : List Int) (f g : Nat → Int) (hfx : ∀ c, 0 ≤ f c → x.testBit c = true) (R : List Nat) (hbR : bnd R (W * H)) (i : Nat) (hi : i < R.length) (hf : ∀ c, (R.getD i 0).testBit c = decide (f c = i))
 (B : List Nat) (hB : B.length ≤ 36) (hbB : bnd B (W * H)) (hg : ∀ j, j < B.length → ∀ c, (B.getD j 0).testBit c = decide (g c = j)) : ∀ (suf pre P : List Nat) (rest : Nat), B = pre ++ suf → rest < 2 ^ (W * H) → left_ x f g i pre.length rest → prt P x rest → (∀ p ∈ P, good W H p) → P.length + 36 * suf.length ≤ 1000000 →
 ∃ (P' : List Nat) (rest' : Nat), rest' < 2 ^ (W * H) ∧ left_ x f g i B.length rest' ∧ prt P' x rest' ∧ (∀ p ∈ P', good W H p) ∧ P'.length ≤ P.length + 36 * suf.length ∧
  (∀ r, Ev (fun k => spec_JoinedCut.l0 k (W : Int) (H : Int) (x : Int) cut (toI P') (toI R) (R.length : Int) (wrap64 ((i : Int) + 1))) r → Ev (fun k => spec_JoinedCut.l1 k (W : Int) (H : Int) (x : Int) cut (toI P) ((R.getD i 0 : Nat) : Int) (toI R) (R.length : Int) (i : Int) (toI B) (B.length : Int) (pre.length : Int)) r) ∧
  (∀ r, Ev (fun k => impl_JoinedCut.l0 k (W : Int) (H : Int) (x : Int) cut (toI P') (toI R) (R.length : Int) (wrap64 ((i : Int) + 1))) r → Ev (fun k => impl_JoinedCut.l1 k (W : Int) (H : Int) (x : Int) cut (toI P) ((R.getD i 0 : Nat) : Int) (toI R) (R.length : Int) (i : Int) (toI B) (B.length : Int) (pre.length : Int)) r) := by
 intro suf
 induction suf with
 | nil =>
  intro pre P rest hp hr hl hprt hgood _
  have hlp : B.length = pre.length := by rw [hp]; simp
  refine ⟨P, rest, hr, by rw [hlp]; exact hl, hprt, hgood, by omega, fun r h => z5 ?_, fun r h => z5 ?_⟩
  ·simp only [spec_JoinedCut.l1]; exact z7 (by omega) h
  ·simp only [impl_JoinedCut.l1]; exact z7 (by omega) h
 | cons q suf ih =>
  intro pre P rest hp hr hl hprt hgood hP
  have hlp : B.length = pre.length + suf.length + 1 := by rw [hp]; simp; omega
  have hat : rd (toI B) (pre.length : Int) = (q : Int) := by rw [zf, hp, ze]
  have hqg : B.getD pre.length 0 = q := by rw [hp, ze]
  have hpl : ((pre ++ [q]).length : Int) = ((pre.length + 1 : Nat) : Int) := by simp
  have hpn : (pre ++ [q]).length = pre.length + 1 := by simp
  have e36 : (2 : Nat) ^ (W * H) ≤ 2 ^ 36 := p2_ hn
  have hqb : q < 2 ^ (W * H) := hbB q (by rw [hp]; simp)
  have hpb := bnd_at hbR i
  generalize hpe : R.getD i 0 = p at *
  have y1 : p &&& q < 2 ^ (W * H) := Nat.lt_of_le_of_lt Nat.and_le_left hpb
  have y62 : p &&& q < 2 ^ 62 := lle_ y1 (p2_ (by omega))
  have r62 : rest < 2 ^ 62 := lle_ hr (p2_ (by omega))
  have p63 : p < 2 ^ 63 := lle_ hpb (p2_ (by omega))
  have q63 : q < 2 ^ 63 := lle_ hqb (p2_ (by omega))
  have hqc : ∀ c, q.testBit c = decide (g c = (pre.length : Int)) := fun c => by rw [← hqg]; exact hg pre.length (by omega) c
  have yb : ∀ c, (p &&& q).testBit c = true ↔ f c = i ∧ g c = (pre.length : Int) := fun c => by
   rw [Nat.testBit_and, hf c, hqc c]; simp
  have ysub : ∀ c, (p &&& q).testBit c = true → rest.testBit c = true := fun c hc => by
   obtain ⟨c1, c2⟩ := (yb c).mp hc
   rw [hl c, hfx c (by omega)]
   simp
   omega
  obtain ⟨s1, s2⟩ := z15 rest (p &&& q) r62 y62 ysub
  obtain ⟨Q, g1, g2, g3, g4, g5⟩ := parts_told W H (p &&& q) hW hH hn y1
  have hQ62 : ∀ z ∈ Q, z < 2 ^ 62 := fun z hz => lle_ (g3 z hz).1 (p2_ (by omega))
  have hpr2 := prt_app P Q x rest _ hprt (prt_lift Q (p &&& q) rest y62 r62 hQ62 g4 ysub)
  have hl2 : left_ x f g i (pre ++ [q]).length (rest - (p &&& q)) := fun c => by
   rw [s2 c, hl c, hpn]
   have hy := yb c
   cases e : (p &&& q).testBit c with
   | true =>
    obtain ⟨c1, c2⟩ := hy.mp e
    have hd : decide (¬ (f c < (i : Int) ∨ (f c = (i : Int) ∧ g c < ((pre.length + 1 : Nat) : Int)))) = false := decide_eq_false (by omega)
    rw [hd]; simp
   | false =>
    have hny : ¬ (f c = (i : Int) ∧ g c = (pre.length : Int)) := fun z => by rw [hy.mpr z] at e; cases e
    have hd : decide (¬ (f c < (i : Int) ∨ (f c = (i : Int) ∧ g c < ((pre.length + 1 : Nat) : Int)))) = decide (¬ (f c < (i : Int) ∨ (f c = (i : Int) ∧ g c < (pre.length : Int)))) := decide_eq_decide.mpr (by omega)
    rw [hd]; simp
  simp only [List.length_cons] at hP
  have b1 : (toI P).length + (toI Q).length < 17592186044416 := by rw [z9, z9]; omega
  have b2 : (P ++ Q).length + 36 * suf.length ≤ 1000000 := by rw [List.length_append]; omega
  have b3 : (P ++ Q).length ≤ P.length + 36 := by rw [List.length_append]; omega
  have q1 : (pre.length : Int) < (B.length : Int) := by omega
  have q2 : (pre.length : Int) < ((toI B).length : Int) := by rw [z9]; exact q1
  have b4 : pre.length < 1000000000000 := by omega
  have b5 : rest - (p &&& q) < 2 ^ (W * H) := by omega
  obtain ⟨P', rest', h1, h2, h3, h4, h5, h6, h7⟩ := ih (pre ++ [q]) (P ++ Q) _ (by rw [hp]; simp) b5 hl2 hpr2 (fun z hz => by
   rcases List.mem_append.mp hz with c | c
   ·exact hgood z c
   ·exact g3 z c) b2
  have b6 : P'.length ≤ P.length + 36 * (suf.length + 1) := by omega
  have hnx := z12 pre.length b4
  rw [hpl, ← hnx, z1d] at h6 h7
  refine ⟨P', rest', h1, h2, h3, h4, b6, fun r h => z5 ?_, fun r h => z5 ?_⟩
  ·simp only [spec_JoinedCut.l1]
   rw [hat, z26 p q p63 q63]
   exact z4 q1 (z4 (nn_ _) (z4 q2 (z6 g1 (z4 b1 (h6 r h)))))
  ·simp only [impl_JoinedCut.l1]
   rw [hat, z26 p q p63 q63]
   exact z4 q1 (z4 (nn_ _) (z4 q2 (z6 g2 (z4 b1 (h7 r h)))))
theorem join_l0 (W H x : Nat) (hW : 1 ≤ W ∧ W ≤ 6) (hH : 1 ≤ H ∧ H ≤ 6) (hn : W * H ≤ 36) (hx : x < 2 ^ (W * H)) (cut : List Int) (f g : Nat → Int) (hfx : ∀ c, 0 ≤ f c → x.testBit c = true) (hgx : ∀ c, x.testBit c = true → 0 ≤ g c) (R : List Nat) (hR : R.length ≤ 36) (hbR : bnd R (W * H)) (hf : ∀ i, i < R.length → ∀ c, (R.getD i 0).testBit c = decide (f c = i))
 (B : List Nat) (hB : B.length ≤ 36) (hbB : bnd B (W * H)) (hg : ∀ j, j < B.length → ∀ c, (B.getD j 0).testBit c = decide (g c = j)) (hgB : ∀ c, g c < B.length)
 (hs : Ev (fun k => spec_l09Pieces.f k (W : Int) (x : Int) cut) (toI B)) (hi : Ev (fun k => impl_PiecesOf.f k (W : Int) (H : Int) (x : Int) cut) (toI B)) : ∀ (d i : Nat) (P : List Nat) (rest : Nat), i + d = R.length → rest < 2 ^ (W * H) → left_ x f g i 0 rest → prt P x rest → (∀ p ∈ P, good W H p) → P.length + 1296 * d ≤ 1000000 →
 ∃ (P' : List Nat) (rest' : Nat), rest' < 2 ^ (W * H) ∧ left_ x f g R.length 0 rest' ∧ prt P' x rest' ∧ (∀ p ∈ P', good W H p) ∧ P'.length ≤ 1000000 ∧
  (∀ r, Ev (fun k => (spec_CutOf.f k (W : Int) (H : Int) (x : Int) (toI P')).bind fun t => some (t.1, t.2)) r → Ev (fun k => spec_JoinedCut.l0 k (W : Int) (H : Int) (x : Int) cut (toI P) (toI R) (R.length : Int) (i : Int)) r) ∧
  (∀ r, Ev (fun k => (impl_numbered.f k (W : Int) (H : Int) (x : Int) (toI P')).bind fun t => some (t, true)) r → Ev (fun k => impl_JoinedCut.l0 k (W : Int) (H : Int) (x : Int) cut (toI P) (toI R) (R.length : Int) (i : Int)) r) := by
 intro d
 induction d with
 | zero =>
  intro i P rest hid hr hl hprt hgood hP
  have hie : i = R.length := by omega
  rw [hie] at hl
  refine ⟨P, rest, hr, hl, hprt, hgood, by omega, fun r h => z5 ?_, fun r h => z5 ?_⟩
  ·simp only [spec_JoinedCut.l0]; exact z7 (by omega) h
  ·simp only [impl_JoinedCut.l0]; exact z7 (by omega) h
 | succ d ih =>
  intro i P rest hid hr hl hprt hgood hP
  have hil : i < R.length := by omega
  have hat : rd (toI R) (i : Int) = ((R.getD i 0 : Nat) : Int) := zf R i
  obtain ⟨P1, rest1, h1, h2, h3, h4, h5, h6, h7⟩ := join_l1 W H x hW hH hn hx cut f g hfx R hbR i hil (hf i hil) B hB hbB hg B [] P rest rfl hr hl hprt hgood (by omega)
  have hl2 : left_ x f g (i + 1) 0 rest1 := fun c => by
   rw [h2 c]
   cases e : x.testBit c with
   | false => simp
   | true =>
    have k1 := hgx c e
    have k2 := hgB c
    simp only [Bool.true_and]
    exact decide_eq_decide.mpr (by omega)
  obtain ⟨P2, rest2, k1, k2, k3, k4, k5, k6, k7⟩ := ih (i + 1) P1 rest1 (by omega) h1 hl2 h3 h4 (by omega)
  have q1 : (i : Int) < (R.length : Int) := by omega
  have q2 : (i : Int) < ((toI R).length : Int) := by rw [z9]; exact q1
  have hnx := z12 i (by omega)
  rw [← hnx] at k6 k7
  refine ⟨P2, rest2, k1, k2, k3, k4, k5, fun r h => z5 ?_, fun r h => z5 ?_⟩
  ·simp only [spec_JoinedCut.l0]
   rw [hat]
   refine z4 q1 (z4 (nn_ _) (z4 q2 (z6 hs ?_)))
   rw [z9]
   exact h6 r (k6 r h)
  ·simp only [impl_JoinedCut.l0]
   rw [hat]
   refine z4 q1 (z4 (nn_ _) (z4 q2 (z6 hi ?_)))
   rw [z9]
   exact h7 r (k7 r h)
theorem lab_facts (W H x : Nat) (hx : x < 2 ^ (W * H)) (cut : List Int) (R : List Nat) (hl : cut.length = (cl x 0 (W * H)).length) (hr : run cut (cl x 0 (W * H)) [] = some R) :
 ∃ f : Nat → Int, (∀ c, 0 ≤ f c → x.testBit c = true) ∧ (∀ c, x.testBit c = true → 0 ≤ f c) ∧ (∀ c, f c < R.length) ∧ ∀ i, i < R.length → ∀ c, (R.getD i 0).testBit c = decide (f c = i) := by
 have ha := cl_asc x (W * H) (W * H) 0 (by omega)
 obtain ⟨_, r1, r2, r3⟩ := run_lab (W * H) cut (cl x 0 (W * H)) [] 0 R ha hl hr
 refine ⟨lab (cl x 0 (W * H)) cut, fun c hc => ?_, fun c hc => ?_, r2, fun i hi c => ?_⟩
 ·apply Classical.byContradiction
  intro hn
  have hni : c ∉ cl x 0 (W * H) := fun q => hn ((cl_mem x (W * H) 0 c).mp q).2.2
  have := lab_none (cl x 0 (W * H)) cut c hni
  omega
 ·exact r3 c ((cl_mem x (W * H) 0 c).mpr ⟨by omega, by have := z3b hx hc; omega, hc⟩)
 ·rw [r1 i c]; simp
theorem joined_both (w h m : Int) (a b : List Int) : ∃ (r : List Int) (y : Bool), Ev (fun k => spec_JoinedCut.f k w h m a b) (r, y) ∧ Ev (fun k => impl_JoinedCut.f k w h m a b) (r, y) ∧ r.length ≤ 36 := by
 obtain ⟨b1, s1, i1, f1⟩ := z37 w h m a
 obtain ⟨b2, s2, i2, f2⟩ := z37 w h m b
 have sno : Ev (fun k => spec_JoinedCut.j0 k w h m a b true) (([] : List Int), false) := by
  refine z5 ?_
  simp only [spec_JoinedCut.j0]
  exact z4 (by simp) (z8 _)
 have ino : Ev (fun k => impl_JoinedCut.j0 k w h m a b true) (([] : List Int), false) := by
  refine z5 ?_
  simp only [impl_JoinedCut.j0]
  exact z4 (by simp) (z8 _)
 unfold spec_JoinedCut.f impl_JoinedCut.f
 cases b1 with
 | false => exact ⟨[], false, z6 s1 (z7 (by decide) sno), z6 i1 (z7 (by decide) ino), by simp⟩
 | true =>
  cases b2 with
  | false => exact ⟨[], false, z6 s1 (z4 rfl (z6 s2 sno)), z6 i1 (z4 rfl (z6 i2 ino)), by simp⟩
  | true =>
   obtain ⟨W, H, x, R, rfl, rfl, rfl, hW, hH, hx, hn, hl, hrun, hb, hR, g1, g2⟩ := f1 rfl
   obtain ⟨W', H', x', B, e1, e2, e3, _, _, _, _, hl', hrun', hb', hB, g1', g2'⟩ := f2 rfl
   obtain rfl : W' = W := by omega
   obtain rfl : H' = H := by omega
   obtain rfl : x' = x := by omega
   obtain ⟨f, fa, fb, fc, fd⟩ := lab_facts W' H' x' hx a R hl hrun
   obtain ⟨g, ga, gb, gc, gd⟩ := lab_facts W' H' x' hx b B hl' hrun'
   have p1 : Ev (fun k => impl_PiecesOf.f k (W' : Int) (H' : Int) (x' : Int) a) (toI R) := by
    unfold impl_PiecesOf.f
    exact z6 i1 (z4 rfl (z6 g1 (z8 _)))
   have p2 : Ev (fun k => impl_PiecesOf.f k (W' : Int) (H' : Int) (x' : Int) b) (toI B) := by
    unfold impl_PiecesOf.f
    exact z6 i2 (z4 rfl (z6 g1' (z8 _)))
   obtain ⟨P, rest, k1, k2, k3, k4, k5, k6, k7⟩ := join_l0 W' H' x' hW hH hn hx b f g fa gb R hR hb fd B hB hb' gd gc g2' p2 R.length 0 [] x' (by omega) hx (fun c => by
    cases e : x'.testBit c with
    | false => simp
    | true =>
     have q1 := fb c e
     have q2 := gb c e
     simp only [Bool.true_and]
     exact (decide_eq_true (by omega)).symm) rfl (fun p hp => by cases hp) (by simp; omega)
   have hrest : rest = 0 := by
    apply Nat.eq_of_testBit_eq
    intro c
    rw [k2 c, Nat.zero_testBit]
    have := fc c
    rw [decide_eq_false (by omega), Bool.and_false]
   subst hrest
   have hparts := parts_of_prt W' H' P x' k3
   obtain ⟨r, hr, n1, n2⟩ := z3d W' H' x' hW hH hn hx P (by omega) (fun p hp => (k4 p hp).1) hparts
   have hcut : Ev (fun k => spec_CutOf.f k (W' : Int) (H' : Int) (x' : Int) (toI P)) (r, true) := by
    have c := nat_ok W' H' x' hW hH hx
    have h36 : x' < 2 ^ 36 := lle_ hx (p2_ hn)
    have h1 := z3a 36 x' h36 (by decide)
    generalize pop 64 x' = q at h1
    have h3 := l09Ok_nat W' H' x' q c h1
    by_cases gq : (1 : Int) ≤ (q : Int) ∧ (q : Int) ≤ 9
    ·rw [decide_eq_true gq] at h3
     unfold spec_CutOf.f
     refine z6 h3 (z4 rfl ?_)
     rw [z9]
     exact spec_takes W' H' x' hW hH hn P (by omega) k4 (r, true) n2 P [] x' rfl hx hparts
    ·rw [decide_eq_false gq] at h3
     have := ev_uniq s1 (z25 _ _ _ a h3)
     cases this
   have sj : Ev (fun k => spec_JoinedCut.j0 k (W' : Int) (H' : Int) (x' : Int) a b false) (r, true) := by
    refine z5 ?_
    simp only [spec_JoinedCut.j0]
    refine z7 (by decide) (z6 g2 ?_)
    rw [z9]
    exact k6 (r, true) (z6 hcut (z8 _))
   have ij : Ev (fun k => impl_JoinedCut.j0 k (W' : Int) (H' : Int) (x' : Int) a b false) (r, true) := by
    refine z5 ?_
    simp only [impl_JoinedCut.j0]
    refine z7 (by decide) (z6 p1 ?_)
    rw [z9]
    exact k7 (r, true) (z6 n1 (z8 _))
   exact ⟨r, true, z6 s1 (z4 rfl (z6 s2 sj)), z6 i1 (z4 rfl (z6 i2 ij)), hr⟩
theorem FnExactJoinedCut : laws_FnExactJoinedCut.Pure := by
 intro w h m a b _ _ _ _ _ _ _ _ _
 apply ev_rounds
 unfold laws_FnExactJoinedCut.f
 by_cases c1 : (a.length : Int) > 1048576
 ·exact z4 c1 (z8 _)
 by_cases c2 : (b.length : Int) > 1048576
 ·exact z7 c1 (z4 c2 (z8 _))
 obtain ⟨L, y, hs, hi, hL36⟩ := joined_both w h m a b
 have ta := toIntS_ev a (by omega)
 have tb := toIntS_ev b (by omega)
 have ea := z20 a (by omega)
 have eb := z20 b (by omega)
 have eL := z20 L (by omega)
 obtain ⟨a', ma⟩ := z2b a (by omega) 1 (by omega) (by omega)
 obtain ⟨b', mb⟩ := z2b b (by omega) (1 + (a.length : Int)) (by omega) (by omega)
 obtain ⟨L', n1, n2⟩ := markIntS_ev L (by omega)
 refine z7 c1 (z7 c2 (z6 ta (z6 tb (z6 hs (z6 ta (z6 tb (z6 hi (z6 eL (z4 rfl (z5 ?_))))))))))
 simp only [laws_FnExactJoinedCut.j0]
 refine z7 (by simp) (z6 ta (z6 ea (z4 rfl (z6 tb (z6 eb (z4 rfl (z6 ma (z6 mb (z7 (by simp; omega) (z6 eL (z4 rfl (z5 ?_))))))))))))
 simp only [laws_FnExactJoinedCut.j1]
 refine z7 (by simp) (z6 n1 (z6 n2 (z7 (by omega) (z4 rfl (z6 ta (z6 tb (z6 hi (z6 eL (z4 rfl (z5 ?_))))))))))
 simp only [laws_FnExactJoinedCut.j2]
 exact z7 (by simp) (z6 n2 (z7 (by omega) (z4 rfl (z8 _))))
end Go.Proofs.YtlofkcjcejolcaaDoor.Pure
