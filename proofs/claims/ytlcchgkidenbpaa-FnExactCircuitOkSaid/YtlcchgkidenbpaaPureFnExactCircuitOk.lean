/- CircuitOk of the program and of the reference answer alike, for all numbers and all lists of lists of at most 1048576 numbers in all; for a longer list the law says true. -/
import Derived.Test.YtlcchgkidenbpaaQFnExactCircuitOkx6
namespace Go.Proofs.Ytlcchgkidenbpaa.Pure
open Go.RowKit Go.Proofs.Ytlcchgkidenbpaa.QFnExactCircuitOk Go.Proofs.YtlcchgkidenbpaaW.PrintWords Go.Proofs.YtlcchgkidenbpaaW.PrintLast Go.Proofs.YtlcchgkidenbpaaW.PrintMore
set_option linter.unusedVariables false
set_option linter.unusedSimpArgs false

/- Eventually: with enough rounds the answer is r. -/
theorem ev_now {α : Type} (r : α) : Ev (fun _ => some r) r := Ev.now r
theorem ev_shift {α : Type} {g : Nat → Option α} {r : α} (h : Ev (fun k => g (k + 1)) r) : Ev g r := by
  obtain ⟨K, hK⟩ := h
  exact ⟨K + 1, fun k hk => by
    obtain ⟨m, rfl⟩ : ∃ m, k = m + 1 := ⟨k - 1, by omega⟩
    exact hK m (by omega)⟩
theorem ev_bind {α β : Type} {g : Nat → Option α} {f : Nat → α → Option β} {a : α} {r : β} (h : Ev g a) (k : Ev (fun n => f n a) r) : Ev (fun n => (g n).bind (f n)) r := Ev.bind h k
theorem ev_bind0 {α β : Type} {o : Option α} {f : Nat → α → Option β} {a : α} {r : β} (h : o = some a) (k : Ev (fun n => f n a) r) : Ev (fun n => o.bind (f n)) r := by
  subst h; exact k
theorem ev_pos {α : Type} {A B : Nat → Option α} {r : α} {c : Prop} [Decidable c] (h : c) (k : Ev A r) : Ev (fun n => if c then A n else B n) r := by
  simpa only [if_pos h] using k
theorem ev_neg {α : Type} {A B : Nat → Option α} {r : α} {c : Prop} [Decidable c] (h : ¬ c) (k : Ev B r) : Ev (fun n => if c then A n else B n) r := by
  simpa only [if_neg h] using k
theorem ev_done {α : Type} {o : Option α} {r : α} (h : o = some r) : Ev (fun _ => o) r := ⟨0, fun _ _ => h⟩
theorem ev_eq {α : Type} {g : Nat → Option α} {r r' : α} (h : Ev g r) (e : r = r') : Ev g r' := e ▸ h
theorem ev_rounds {α : Type} {g : Nat → Option α} {r : α} (h : Ev g r) : ∃ k, g k = some r := Ev.rounds h
theorem ev_uniq {α : Type} {g : Nat → Option α} {r r' : α} (h : Ev g r) (h' : Ev g r') : r = r' := by
  obtain ⟨K, hK⟩ := h
  obtain ⟨K', hK'⟩ := h'
  have a := hK (max K K') (Nat.le_max_left _ _)
  have b := hK' (max K K') (Nat.le_max_right _ _)
  rw [a] at b
  exact Option.some.inj b
theorem wf64 {n : Int} (h : (Lit.int .i64 n).wf = true) : -9223372036854775808 ≤ n ∧ n ≤ 9223372036854775807 := by
  have a : IntKind.i64.min = -9223372036854775808 := rfl
  have b : IntKind.i64.max = 9223372036854775807 := rfl
  simp [Lit.wf] at h
  omega
theorem w64 {n : Int} (h : -9223372036854775808 ≤ n) (h' : n ≤ 9223372036854775807) : wrap64 n = n := by
  unfold wrap64; omega
theorem wadd (a b : Nat) (h : a + b < 1000000000000) : wrap64 ((a : Int) + (b : Int)) = ((a + b : Nat) : Int) := by
  rw [w64 (by omega) (by omega)]; omega
theorem wsucc (a : Nat) (h : a < 1000000000000) : wrap64 ((a : Int) + 1) = ((a + 1 : Nat) : Int) := by
  rw [w64 (by omega) (by omega)]; omega
theorem wsmall (n : Int) (h : -1000000000000 ≤ n ∧ n ≤ 1000000000000) : wrap64 n = n := w64 (by omega) (by omega)
theorem within_eq (a b c : Int) : impl_within.f a b c = some (decide (b ≤ a ∧ a ≤ c)) := by
  unfold impl_within.f; split <;> simp <;> omega
theorem in_eq (a b c : Int) : spec_l01In.f a b c = some (decide (b ≤ a ∧ a ≤ c)) := by
  unfold spec_l01In.f; split <;> simp <;> omega
theorem mx_eq (a b : Int) : mx a b = max a b := by unfold mx; split <;> omega
theorem mn_eq (a b : Int) : mn a b = min a b := by unfold mn; split <;> omega
theorem rd_at (l : List Int) (i : Nat) : rd l (i : Int) = l.getD i 0 := by simp [rd]
theorem eqIntS_from (l : List Int) (hl : (l.length : Int) ≤ 4611686018427387904) (d : Nat) : ∀ i : Int, 0 ≤ i → (l.length : Int) - i ≤ d → Ev (fun k => laws_eqIntS.l0 k l l i) true := by
  induction d with
  | zero =>
    intro i h0 hd
    refine ev_shift ?_
    simp only [laws_eqIntS.l0]
    exact ev_neg (by omega) (ev_now _)
  | succ d ih =>
    intro i h0 hd
    refine ev_shift ?_
    simp only [laws_eqIntS.l0, if_true]
    by_cases hi : i < (l.length : Int)
    · refine ev_pos hi (ev_pos h0 (ev_pos hi ?_))
      rw [w64 (by omega) (by omega)]
      exact ih _ (by omega) (by omega)
    · exact ev_neg hi (ev_now _)
theorem eqIntS_refl (l : List Int) (hl : (l.length : Int) ≤ 4611686018427387904) : Ev (fun k => laws_eqIntS.f k l l) true := by
  unfold laws_eqIntS.f
  exact ev_pos rfl (eqIntS_from l hl l.length 0 (by omega) (by omega))
theorem toIntS_from (l : List Int) (hl : l.length ≤ 1048576) (d : Nat) : ∀ (x : List Int) (i : Nat), x.length = l.length → l.length - i ≤ d → i ≤ l.length → (∀ j, j < i → x[j]? = l[j]?) →
    Ev (fun k => laws_toIntS.l0 k l x i) l := by
  induction d with
  | zero =>
    intro x i hx hd hi hm
    refine ev_shift ?_
    simp only [laws_toIntS.l0]
    have e : x = l := by
      apply List.ext_getElem?
      intro j
      by_cases hj : j < i
      · exact hm j hj
      · rw [List.getElem?_eq_none (by omega), List.getElem?_eq_none (by omega)]
    exact ev_neg (by omega) (ev_eq (ev_now _) e)
  | succ d ih =>
    intro x i hx hd hi hm
    refine ev_shift ?_
    simp only [laws_toIntS.l0]
    by_cases h : i < l.length
    · refine ev_pos (by omega) (ev_pos (by omega) (ev_pos (by omega) ?_))
      rw [w64 (by omega) (by omega)]
      have e2 : ((i : Int) + 1) = ((i + 1 : Nat) : Int) := by omega
      have e3 : ((i : Int)).toNat = i := by omega
      rw [e2, e3, rd_at]
      refine ih _ (i + 1) (by simpa using hx) (by omega) (by omega) ?_
      intro j hj
      rw [List.getElem?_set]
      by_cases e : i = j
      · subst e
        rw [if_pos rfl, if_pos (by omega), List.getD_eq_getElem?_getD, List.getElem?_eq_getElem h]
        rfl
      · rw [if_neg e]; exact hm j (by omega)
    · have e : x = l := by
        apply List.ext_getElem?
        intro j
        by_cases hj : j < i
        · exact hm j hj
        · rw [List.getElem?_eq_none (by omega), List.getElem?_eq_none (by omega)]
      exact ev_neg (by omega) (ev_eq (ev_now _) e)
theorem toIntS_ev (l : List Int) (hl : l.length ≤ 1048576) : Ev (fun k => laws_toIntS.f k l) l := by
  unfold laws_toIntS.f
  refine ev_pos (by omega) (ev_pos (by omega) ?_)
  exact toIntS_from l hl l.length _ 0 (by simp) (by omega) (by omega) (fun j hj => by omega)
theorem held_tail (l : List Int) (hl : l.length ≤ 1048576) :
    Ev (fun k => (laws_toIntS.f k l).bind fun t1 => ((laws_eqIntS.f k l t1).bind fun t2 => (if t2 = true then (some true) else (some false)))) true :=
  ev_bind (toIntS_ev l hl) (ev_bind (eqIntS_refl l (by omega)) (ev_pos rfl (ev_now _)))
theorem rd_mid (pre suf : List Int) (a : Int) : rd (pre ++ a :: suf) (pre.length : Int) = a := by
  simp [rd, List.getD_eq_getElem?_getD]
theorem next_len {α : Type} (pre : List α) (a : α) (h : pre.length < 1000000) : wrap64 ((pre.length : Int) + 1) = ((pre ++ [a]).length : Int) := by
  rw [w64 (by omega) (by omega)]; simp
/-- Relabelling: who bears v bears u from then on. -/
def relab (l : List Int) (v u : Int) : List Int := l.map fun x => if x = v then u else x
theorem relab_len (l : List Int) (v u : Int) : (relab l v u).length = l.length := by simp [relab]
theorem relab_at (l : List Int) (v u : Int) (i : Nat) (hi : i < l.length) : (relab l v u).getD i 0 = if l.getD i 0 = v then u else l.getD i 0 := by
  simp [relab, List.getD_eq_getElem?_getD, List.getElem?_eq_getElem hi]
/-- The same partition. -/
def sameP_ (g p : List Int) : Prop := g.length = p.length ∧ ∀ i j, i < g.length → j < g.length → (g.getD i 0 = g.getD j 0 ↔ p.getD i 0 = p.getD j 0)
theorem sameP_join {g p : List Int} (h : sameP_ g p) (u v : Nat) (hu : u < g.length) (hv : v < g.length) : sameP_ (relab g (g.getD u 0) (g.getD v 0)) (relab p (p.getD v 0) (p.getD u 0)) := by
  obtain ⟨h1, h2⟩ := h
  refine ⟨by rw [relab_len, relab_len, h1], fun i j hi hj => ?_⟩
  rw [relab_len] at hi hj
  rw [relab_at g _ _ i hi, relab_at g _ _ j hj, relab_at p _ _ i (by omega), relab_at p _ _ j (by omega)]
  have a1 := h2 i u hi hu
  have a2 := h2 i v hi hv
  have a3 := h2 j u hj hu
  have a4 := h2 j v hj hv
  have a5 := h2 i j hi hj
  have a6 := h2 u v hu hv
  generalize g.getD i 0 = gi at *
  generalize g.getD j 0 = gj at *
  generalize g.getD u 0 = gu at *
  generalize g.getD v 0 = gv at *
  generalize p.getD i 0 = pi at *
  generalize p.getD j 0 = pj at *
  generalize p.getD u 0 = pu at *
  generalize p.getD v 0 = pv at *
  have key : ∀ (x y r t : Int), (if x = r then t else x) = (if y = r then t else y) ↔ (x = y ∨ ((x = r ∨ x = t) ∧ (y = r ∨ y = t))) := by
    intro x y r t
    by_cases d1 : x = r
    · by_cases d2 : y = r
      · rw [if_pos d1, if_pos d2]; omega
      · rw [if_pos d1, if_neg d2]; omega
    · by_cases d2 : y = r
      · rw [if_neg d1, if_pos d2]; omega
      · rw [if_neg d1, if_neg d2]; omega
  rw [key, key, a1, a2, a3, a4, a5]
  constructor
  · rintro (q | ⟨q1, q2⟩)
    · exact .inl q
    · exact .inr ⟨q1.symm, q2.symm⟩
  · rintro (q | ⟨q1, q2⟩)
    · exact .inl q
    · exact .inr ⟨q1.symm, q2.symm⟩
theorem sameP_stay {g p : List Int} (h : sameP_ g p) (u v : Nat) (hu : u < g.length) (hv : v < g.length) (e : p.getD u 0 = p.getD v 0) : sameP_ (relab g (g.getD u 0) (g.getD v 0)) p := by
  have e2 := (h.2 u v hu hv).mpr e
  have : relab g (g.getD u 0) (g.getD v 0) = g := by
    unfold relab
    rw [← e2]
    conv => rhs; rw [← List.map_id g]
    apply List.map_congr_left
    intro x _
    simp only [id]
    split
    · rename_i q; rw [q]
    · rfl
  rw [this]
  exact h
theorem and_u64 (a b : Nat) (ha : a < 2 ^ 64) (hb : b < 2 ^ 64) : Go.bits .and .u64 (a : Int) (b : Int) = ((a &&& b : Nat) : Int) :=
  (Go.bits_nat .u64 64 (by decide) (fun n h0 h1 => by unfold Go.IntKind.wrap; simp [Go.IntKind.bits, Go.IntKind.signed]; omega) a b ha hb).1
theorem and_i64 (a b : Nat) (ha : a < 2 ^ 63) (hb : b < 2 ^ 63) : Go.bits .and .i64 (a : Int) (b : Int) = ((a &&& b : Nat) : Int) :=
  (Go.bits_nat .i64 63 (by decide) (fun n h0 h1 => by rw [Go.IntKind.wrap_i64]; omega) a b ha hb).1
theorem or_i64 (a b : Nat) (ha : a < 2 ^ 63) (hb : b < 2 ^ 63) : Go.bits .or .i64 (a : Int) (b : Int) = ((a ||| b : Nat) : Int) :=
  (Go.bits_nat .i64 63 (by decide) (fun n h0 h1 => by rw [Go.IntKind.wrap_i64]; omega) a b ha hb).2
theorem u64_nat (a : Nat) (ha : a < 2 ^ 64) : IntKind.u64.wrap (a : Int) = (a : Int) := by
  unfold Go.IntKind.wrap; simp [Go.IntKind.bits, Go.IntKind.signed]; omega
theorem and1 (x : Nat) : x &&& 1 = x % 2 := Nat.and_one_is_mod x
theorem shr_nat (x i : Nat) (hi : i ≤ 64) : shr .i64 (x : Int) (i : Int) = ((x / 2 ^ i : Nat) : Int) := by
  unfold shr
  rw [show min ((i : Int)).toNat (IntKind.bits .i64) = i from by
    have : IntKind.bits .i64 = 64 := rfl
    omega]
  rw [Int.natCast_ediv, Int.natCast_pow]; rfl
theorem bit_at (x i : Nat) (hx : x < 2 ^ 62) (hi : i ≤ 64) : Go.bits .and .i64 (shr .i64 (x : Int) (i : Int)) 1 = ((x / 2 ^ i % 2 : Nat) : Int) := by
  rw [shr_nat x i hi]
  have h := and_i64 (x / 2 ^ i) 1 (Nat.lt_of_le_of_lt (Nat.div_le_self _ _) (by omega)) (by decide)
  rw [and1] at h
  exact h
theorem testBit_div (x i : Nat) : x.testBit i = decide (x / 2 ^ i % 2 = 1) := Nat.testBit_eq_decide_div_mod_eq
theorem bit_eq1 (x i : Nat) (hx : x < 2 ^ 62) (hi : i ≤ 64) : (Go.bits .and .i64 (shr .i64 (x : Int) (i : Int)) 1 = 1) ↔ x.testBit i = true := by
  rw [bit_at x i hx hi, testBit_div, decide_eq_true_iff]
  generalize x / 2 ^ i % 2 = q
  omega
theorem bit_eq0 (x i : Nat) (hx : x < 2 ^ 62) (hi : i ≤ 64) : (Go.bits .and .i64 (shr .i64 (x : Int) (i : Int)) 1 = 0) ↔ x.testBit i = false := by
  rw [bit_at x i hx hi, testBit_div, decide_eq_false_iff_not]
  have : x / 2 ^ i % 2 < 2 := Nat.mod_lt _ (by decide)
  generalize x / 2 ^ i % 2 = q at *
  omega
theorem shl_nat (i : Nat) (hi : i ≤ 62) : shl .i64 1 (i : Int) = ((2 ^ i : Nat) : Int) := by
  unfold shl
  rw [show min ((i : Int)).toNat (IntKind.bits .i64) = i from by
    have : IntKind.bits .i64 = 64 := rfl
    omega]
  have h : 2 ^ i ≤ 2 ^ 62 := Nat.pow_le_pow_right (by decide) hi
  have e : (1 : Int) * 2 ^ i = ((2 ^ i : Nat) : Int) := by rw [Int.natCast_pow]; simp
  rw [e, IntKind.wrap_i64]
  generalize 2 ^ i = q at *
  omega
theorem relab_set (l : List Int) (v u : Int) (i : Nat) (hi : i < l.length) : (relab (l.take i) v u ++ l.drop i).length = l.length ∧ (relab (l.take i) v u ++ l.drop i).getD i 0 = l.getD i 0 := by
  have h1 : (relab (l.take i) v u).length = i := by rw [relab_len, List.length_take]; omega
  refine ⟨by rw [List.length_append, h1, List.length_drop]; omega, ?_⟩
  rw [List.getD_eq_getElem?_getD, List.getElem?_append_right (by omega), h1, Nat.sub_self, List.getElem?_drop, Nat.add_zero, ← List.getD_eq_getElem?_getD]
theorem relab_next (l : List Int) (v u : Int) (i : Nat) (hi : i < l.length) : relab (l.take (i + 1)) v u ++ l.drop (i + 1) = (relab (l.take i) v u ++ l.drop i).set i (if l.getD i 0 = v then u else l.getD i 0) := by
  have h1 : (relab (l.take i) v u).length = i := by rw [relab_len, List.length_take]; omega
  have e1 : l.drop i = l[i] :: l.drop (i + 1) := List.drop_eq_getElem_cons hi
  have e2 : l.take (i + 1) = l.take i ++ [l[i]] := (List.take_append_getElem hi).symm
  have e3 : l.getD i 0 = l[i] := by rw [List.getD_eq_getElem?_getD, List.getElem?_eq_getElem hi]; rfl
  have e4 : relab (l.take i ++ [l[i]]) v u = relab (l.take i) v u ++ [if l[i] = v then u else l[i]] := by unfold relab; rw [List.map_append]; rfl
  rw [e1, e2, e3, e4, List.set_append_right _ _ (by omega), h1, Nat.sub_self, List.set_cons_zero, List.append_assoc]
  rfl
/-- The program's relabelling loop. -/
theorem impl_relab (x2 : Int) (b : Bool) (u v : Int) (A : List (List Int)) (m j : Int) (l : List Int) (hl : l.length ≤ 1000) (r : List Int × Bool) : ∀ (d i : Nat), i + d = l.length →
    Ev (fun k => impl_joined.l1 k x2 (relab l v u) b A m (wrap64 (j + 1))) r →
    Ev (fun k => impl_joined.l2 k x2 (relab (l.take i) v u ++ l.drop i) b v u A m j (l.length : Int) (i : Int)) r := by
  intro d
  induction d with
  | zero =>
    intro i hi hr
    have e : relab (l.take i) v u ++ l.drop i = relab l v u := by
      rw [List.take_of_length_le (by omega), List.drop_eq_nil_of_le (by omega), List.append_nil]
    rw [e]
    refine ev_shift ?_
    simp only [impl_joined.l2]
    exact ev_neg (by omega) hr
  | succ d ih =>
    intro i hi hr
    have hil : i < l.length := by omega
    obtain ⟨s1, s2⟩ := relab_set l v u i hil
    have hn := relab_next l v u i hil
    have hi2 := ih (i + 1) (by omega) hr
    have hrd : rd (relab (l.take i) v u ++ l.drop i) (i : Int) = l.getD i 0 := by rw [rd_at, s2]
    have q1 : (i : Int) < (l.length : Int) := by omega
    have q2 : (i : Int) < ((relab (l.take i) v u ++ l.drop i).length : Int) := by rw [s1]; exact q1
    have hnx := wsucc i (by omega)
    rw [← hnx] at hi2
    clear hnx
    refine ev_shift ?_
    simp only [impl_joined.l2]
    rw [hrd, Int.toNat_natCast]
    refine ev_pos q1 (ev_pos (Int.natCast_nonneg _) (ev_pos q2 ?_))
    by_cases c : l.getD i 0 = v
    · rw [if_pos c] at hn
      rw [hn] at hi2
      exact ev_pos c hi2
    · rw [if_neg c] at hn
      have e : (relab (l.take i) v u ++ l.drop i).set i (l.getD i 0) = relab (l.take i) v u ++ l.drop i := by
        rw [← s2, List.getD_eq_getElem?_getD, List.getElem?_eq_getElem (by omega)]
        exact List.set_getElem_self _
      rw [hn, e] at hi2
      exact ev_neg c hi2
/-- The reference's relabelling loop: the label that is written stays what it was. -/
theorem spec_relab (a : Nat) (v u : Int) (l : List Int) (hl : l.length ≤ 1000) (ha : a < l.length) (hau : l.getD a 0 = u) (huv : u ≠ v) : ∀ (d i : Nat), i + d = l.length →
    Ev (fun k => spec_l13Join.l0 k (relab (l.take i) v u ++ l.drop i) (a : Int) v (l.length : Int) (i : Int)) (true, relab l v u) := by
  intro d
  induction d with
  | zero =>
    intro i hi
    have e : relab (l.take i) v u ++ l.drop i = relab l v u := by
      rw [List.take_of_length_le (by omega), List.drop_eq_nil_of_le (by omega), List.append_nil]
    rw [e]
    refine ev_shift ?_
    simp only [spec_l13Join.l0]
    exact ev_neg (by omega) (ev_now _)
  | succ d ih =>
    intro i hi
    have hil : i < l.length := by omega
    obtain ⟨s1, s2⟩ := relab_set l v u i hil
    have hn := relab_next l v u i hil
    have hi2 := ih (i + 1) (by omega)
    have hrd : rd (relab (l.take i) v u ++ l.drop i) (i : Int) = l.getD i 0 := by rw [rd_at, s2]
    have hra : rd (relab (l.take i) v u ++ l.drop i) (a : Int) = u := by
      rw [rd_at]
      rcases Nat.lt_or_ge a i with g | g
      · have h1 : (relab (l.take i) v u).length = i := by rw [relab_len, List.length_take]; omega
        rw [List.getD_eq_getElem?_getD, List.getElem?_append_left (by omega), ← List.getD_eq_getElem?_getD, relab_at _ _ _ _ (by rw [List.length_take]; omega)]
        have : (l.take i).getD a 0 = u := by
          rw [List.getD_eq_getElem?_getD, List.getElem?_take_of_lt g, ← List.getD_eq_getElem?_getD, hau]
        rw [this, if_neg huv]
      · have h1 : (relab (l.take i) v u).length = i := by rw [relab_len, List.length_take]; omega
        rw [List.getD_eq_getElem?_getD, List.getElem?_append_right (by omega), h1, List.getElem?_drop, ← List.getD_eq_getElem?_getD, show i + (a - i) = a by omega, hau]
    have q1 : (i : Int) < (l.length : Int) := by omega
    have q2 : (i : Int) < ((relab (l.take i) v u ++ l.drop i).length : Int) := by rw [s1]; exact q1
    have q3 : (a : Int) < ((relab (l.take i) v u ++ l.drop i).length : Int) := by rw [s1]; omega
    have hnx := wsucc i (by omega)
    rw [← hnx] at hi2
    clear hnx
    refine ev_shift ?_
    simp only [spec_l13Join.l0]
    rw [hrd, hra, Int.toNat_natCast]
    refine ev_pos q1 (ev_pos (Int.natCast_nonneg _) (ev_pos q2 ?_))
    by_cases c : l.getD i 0 = v
    · rw [if_pos c] at hn
      rw [hn] at hi2
      exact ev_pos c (ev_pos (Int.natCast_nonneg _) (ev_pos q3 hi2))
    · rw [if_neg c] at hn
      have e : (relab (l.take i) v u ++ l.drop i).set i (l.getD i 0) = relab (l.take i) v u ++ l.drop i := by
        rw [← s2, List.getD_eq_getElem?_getD, List.getElem?_eq_getElem (by omega)]
        exact List.set_getElem_self _
      rw [hn, e] at hi2
      exact ev_neg c hi2
theorem join_ev (a b : Nat) (l : List Int) (hl : l.length ≤ 1000) (ha : a < l.length) (hb : b < l.length) :
    ∃ y : Bool, Ev (fun k => spec_l13Join.f k l (a : Int) (b : Int)) (y, if l.getD a 0 = l.getD b 0 then l else relab l (l.getD b 0) (l.getD a 0)) := by
  have e1 : rd l (a : Int) = l.getD a 0 := rd_at l a
  have e2 : rd l (b : Int) = l.getD b 0 := rd_at l b
  by_cases c : l.getD a 0 = l.getD b 0
  · refine ⟨false, ?_⟩
    rw [if_pos c]
    unfold spec_l13Join.f
    rw [e1, e2]
    exact ev_pos (Int.natCast_nonneg _) (ev_pos (by omega) (ev_pos (Int.natCast_nonneg _) (ev_pos (by omega) (ev_pos c (ev_now _)))))
  · refine ⟨true, ?_⟩
    rw [if_neg c]
    have h := spec_relab a (l.getD b 0) (l.getD a 0) l hl ha rfl c l.length 0 (by omega)
    have e3 : relab (l.take 0) (l.getD b 0) (l.getD a 0) ++ l.drop 0 = l := by simp [relab]
    rw [e3] at h
    unfold spec_l13Join.f
    rw [e1, e2]
    exact ev_pos (Int.natCast_nonneg _) (ev_pos (by omega) (ev_pos (Int.natCast_nonneg _) (ev_pos (by omega) (ev_neg c h))))
theorem row_at (A : List (List Int)) (i : Nat) : rd_L1 A (i : Int) = A.getD i [] := by simp [rd_L1]
def okW (n : Nat) (w : List Int) : Prop := ∃ a b : Nat, w = [(a : Int), (b : Int)] ∧ a < n ∧ b < n
theorem wires_ev (n : Nat) (hn : n ≤ 6) (A : List (List Int)) (hA : A.length ≤ 12) (hok : ∀ w ∈ A, okW n w) : ∀ (suf pre : List (List Int)) (g p : List Int) (b c : Bool), A = pre ++ suf → g.length = n → sameP_ g p →
    ∃ (g' p' : List Int) (b' c' : Bool), g'.length = n ∧ sameP_ g' p' ∧
      Ev (fun k => impl_joined.l1 k ((2 ^ A.length - 1 : Nat) : Int) g b A (A.length : Int) (pre.length : Int)) (g', b') ∧
      Ev (fun k => spec_l13Parts.l1 k ((2 ^ A.length - 1 : Nat) : Int) p c A (A.length : Int) (pre.length : Int)) (p', c') := by
  intro suf
  induction suf with
  | nil =>
    intro pre g p b c hp hg hs
    have hlp : A.length = pre.length := by rw [hp]; simp
    refine ⟨g, p, b, c, hg, hs, ev_shift ?_, ev_shift ?_⟩
    · simp only [impl_joined.l1]; exact ev_neg (by omega) (ev_now _)
    · simp only [spec_l13Parts.l1]; exact ev_neg (by omega) (ev_now _)
  | cons w suf ih =>
    intro pre g p b c hp hg hs
    have hlp : A.length = pre.length + suf.length + 1 := by rw [hp]; simp; omega
    obtain ⟨u, v, rfl, hu, hv⟩ := hok w (by rw [hp]; simp)
    have hat : rd_L1 A (pre.length : Int) = [(u : Int), (v : Int)] := by
      rw [row_at, hp, List.getD_eq_getElem?_getD, List.getElem?_append_right (Nat.le_refl _)]; simp
    have hpl : ((pre ++ [[(u : Int), (v : Int)]]).length : Int) = ((pre.length + 1 : Nat) : Int) := by simp
    have q1 : (pre.length : Int) < (A.length : Int) := by omega
    have hplen : p.length = n := by rw [← hs.1]; exact hg
    have hx62 : 2 ^ A.length - 1 < 2 ^ 62 := by
      have : 2 ^ A.length ≤ 2 ^ 12 := Nat.pow_le_pow_right (by decide) hA
      omega
    have hbit : (2 ^ A.length - 1).testBit pre.length = true := by rw [Nat.testBit_two_pow_sub_one]; simp; omega
    have b1 := (bit_eq1 (2 ^ A.length - 1) pre.length hx62 (by omega)).mpr hbit
    have b0 : ¬ Go.bits .and .i64 (shr .i64 ((2 ^ A.length - 1 : Nat) : Int) (pre.length : Int)) 1 = 0 := by rw [b1]; decide
    have r0 : rd [(u : Int), (v : Int)] 0 = (u : Int) := rfl
    have r1 : rd [(u : Int), (v : Int)] 1 = (v : Int) := rfl
    have l2 : (([(u : Int), (v : Int)] : List Int).length : Int) = 2 := rfl
    have gu : rd g (u : Int) = g.getD u 0 := rd_at g u
    have gv : rd g (v : Int) = g.getD v 0 := rd_at g v
    have hul : (u : Int) < (g.length : Int) := by omega
    have hvl : (v : Int) < (g.length : Int) := by omega
    have hgl : g.length ≤ 1000 := by omega
    obtain ⟨y, hj⟩ := join_ev u v p (by omega) (by omega) (by omega)
    -- the new labels
    have hs2 : sameP_ (relab g (g.getD u 0) (g.getD v 0)) (if p.getD u 0 = p.getD v 0 then p else relab p (p.getD v 0) (p.getD u 0)) := by
      by_cases e : p.getD u 0 = p.getD v 0
      · rw [if_pos e]; exact sameP_stay hs u v (by omega) (by omega) e
      · rw [if_neg e]; exact sameP_join hs u v (by omega) (by omega)
    have hg2 : (relab g (g.getD u 0) (g.getD v 0)).length = n := by rw [relab_len]; exact hg
    obtain ⟨g', p', b', c', k1, k2, k3, k4⟩ := ih (pre ++ [[(u : Int), (v : Int)]]) _ _ (if g.getD u 0 = g.getD v 0 then false else b) (if y = true then c else false) (by rw [hp]; simp) hg2 hs2
    have hnx := wsucc pre.length (by omega)
    rw [hpl, ← hnx] at k3 k4
    clear hnx
    refine ⟨g', p', b', c', k1, k2, ev_shift ?_, ev_shift ?_⟩
    · have e3 : relab (g.take 0) (g.getD u 0) (g.getD v 0) ++ g.drop 0 = g := by simp [relab]
      have go : ∀ bb : Bool, Ev (fun k => impl_joined.l1 k ((2 ^ A.length - 1 : Nat) : Int) (relab g (g.getD u 0) (g.getD v 0)) bb A (A.length : Int) (wrap64 ((pre.length : Int) + 1))) (g', b') → Ev (fun k => impl_joined.j2 k ((2 ^ A.length - 1 : Nat) : Int) g bb (g.getD u 0) (g.getD v 0) A (A.length : Int) (pre.length : Int)) (g', b') := fun bb hb => by
        refine ev_shift ?_
        simp only [impl_joined.j2]
        have := impl_relab ((2 ^ A.length - 1 : Nat) : Int) bb (g.getD v 0) (g.getD u 0) A (A.length : Int) (pre.length : Int) g hgl (g', b') g.length 0 (by omega) hb
        rw [e3] at this
        exact this
      simp only [impl_joined.l1]
      rw [hat, r0, r1, l2, gu, gv]
      refine ev_pos q1 (ev_pos (Int.natCast_nonneg _) (ev_pos q1 (ev_neg b0 (ev_pos (by decide) (ev_pos (Int.natCast_nonneg _) (ev_pos hul (ev_pos (by decide) (ev_pos (Int.natCast_nonneg _) (ev_pos hvl ?_)))))))))
      by_cases e : g.getD u 0 = g.getD v 0
      · rw [if_pos e] at k3
        exact ev_pos e (go false k3)
      · rw [if_neg e] at k3
        exact ev_neg e (go b k3)
    · simp only [spec_l13Parts.l1]
      rw [hat, r0, r1, l2]
      refine ev_pos q1 (ev_pos (Int.natCast_nonneg _) (ev_pos q1 (ev_pos b1 (ev_pos (by decide) (ev_pos (by decide) (ev_bind hj ?_))))))
      cases y with
      | true => exact ev_pos rfl k4
      | false => exact ev_neg (by simp) k4
def seg : Nat → Nat → List Int
  | _, 0 => []
  | i, d + 1 => (i : Int) :: seg (i + 1) d
theorem seg_len : ∀ (d i : Nat), (seg i d).length = d
  | 0, _ => rfl
  | d + 1, i => by simp [seg, seg_len d (i + 1)]
theorem impl_init (A : List (List Int)) (x2 : Int) (b : Bool) (n : Nat) (hn : n ≤ 6) (r : List Int × Bool) : ∀ (d i : Nat) (out : List Int), i + d = n → out.length ≤ 100 → out.length + d ≤ 100 →
    Ev (fun k => impl_joined.l1 k x2 (out ++ seg i d) b A (A.length : Int) 0) r → Ev (fun k => impl_joined.l0 k A x2 out b (n : Int) (i : Int)) r := by
  intro d
  induction d with
  | zero =>
    intro i out hi _ _ hr
    refine ev_shift ?_
    simp only [impl_joined.l0]
    simp only [seg, List.append_nil] at hr
    exact ev_neg (by omega) hr
  | succ d ih =>
    intro i out hi ho ho2 hr
    have q1 : (i : Int) < (n : Int) := by omega
    have q2 : out.length < 17592186044416 := by omega
    have h := ih (i + 1) (out ++ [(i : Int)]) (by omega) (by simp; omega) (by simp; omega) (by simpa [seg] using hr)
    have hnx := wsucc i (by omega)
    rw [← hnx] at h
    clear hnx
    refine ev_shift ?_
    simp only [impl_joined.l0]
    exact ev_pos q1 (ev_pos q2 h)
theorem spec_init (A : List (List Int)) (x2 : Int) (n : Nat) (hn : n ≤ 6) (r : List Int × Bool) : ∀ (d i : Nat) (out : List Int), i + d = n → out.length ≤ 100 → out.length + d ≤ 100 →
    Ev (fun k => spec_l13Parts.l1 k x2 (out ++ seg i d) true A (A.length : Int) 0) r → Ev (fun k => spec_l13Parts.l0 k (n : Int) A x2 out (i : Int)) r := by
  intro d
  induction d with
  | zero =>
    intro i out hi _ _ hr
    refine ev_shift ?_
    simp only [spec_l13Parts.l0]
    simp only [seg, List.append_nil] at hr
    exact ev_neg (by omega) hr
  | succ d ih =>
    intro i out hi ho ho2 hr
    have q1 : (i : Int) < (n : Int) := by omega
    have q2 : out.length < 17592186044416 := by omega
    have h := ih (i + 1) (out ++ [(i : Int)]) (by omega) (by simp; omega) (by simp; omega) (by simpa [seg] using hr)
    have hnx := wsucc i (by omega)
    rw [← hnx] at h
    clear hnx
    refine ev_shift ?_
    simp only [spec_l13Parts.l0]
    exact ev_pos q1 (ev_pos q2 h)
theorem ends_ev (g p : List Int) (hs : sameP_ g p) (h1 : 1 ≤ g.length) (h2 : g.length ≤ 100) : ∀ (d i : Nat), i + d = g.length →
    ∃ y : Bool, Ev (fun k => impl_CircuitOk.l1 k g g (g.length : Int) (i : Int)) y ∧ Ev (fun k => spec_CircuitOk.l1 k p p (p.length : Int) (i : Int)) y := by
  intro d
  induction d with
  | zero =>
    intro i hi
    refine ⟨true, ev_shift ?_, ev_shift ?_⟩
    · simp only [impl_CircuitOk.l1]; exact ev_neg (by omega) (ev_now _)
    · simp only [spec_CircuitOk.l1]; exact ev_neg (by have := hs.1; omega) (ev_now _)
  | succ d ih =>
    intro i hi
    have hl := hs.1
    have q1 : (i : Int) < (g.length : Int) := by omega
    have q2 : (i : Int) < (p.length : Int) := by omega
    have q3 : (0 : Int) < (g.length : Int) := by omega
    have q4 : (0 : Int) < (p.length : Int) := by omega
    have e1 : rd g (i : Int) = g.getD i 0 := rd_at g i
    have e2 : rd p (i : Int) = p.getD i 0 := rd_at p i
    have e3 : rd g 0 = g.getD 0 0 := rd_at g 0
    have e4 : rd p 0 = p.getD 0 0 := rd_at p 0
    have hiff := hs.2 i 0 (by omega) (by omega)
    obtain ⟨y, y1, y2⟩ := ih (i + 1) (by omega)
    have hnx := wsucc i (by omega)
    rw [← hnx] at y1 y2
    clear hnx
    by_cases c : g.getD i 0 = g.getD 0 0
    · refine ⟨y, ev_shift ?_, ev_shift ?_⟩
      · simp only [impl_CircuitOk.l1]
        rw [e1, e3]
        exact ev_pos q1 (ev_pos (Int.natCast_nonneg _) (ev_pos q1 (ev_pos q3 (ev_pos c y1))))
      · simp only [spec_CircuitOk.l1]
        rw [e2, e4]
        exact ev_pos q2 (ev_pos (Int.natCast_nonneg _) (ev_pos q2 (ev_pos q4 (ev_pos (hiff.mp c) y2))))
    · refine ⟨false, ev_shift ?_, ev_shift ?_⟩
      · simp only [impl_CircuitOk.l1]
        rw [e1, e3]
        exact ev_pos q1 (ev_pos (Int.natCast_nonneg _) (ev_pos q1 (ev_pos q3 (ev_neg c (ev_now _)))))
      · simp only [spec_CircuitOk.l1]
        rw [e2, e4]
        exact ev_pos q2 (ev_pos (Int.natCast_nonneg _) (ev_pos q2 (ev_pos q4 (ev_neg (fun z => c (hiff.mpr z)) (ev_now _)))))
theorem set_eq : ∀ m : Nat, m ≤ 12 → wrap64 ((shl .i64 1 (m : Int)) - 1) = ((2 ^ m - 1 : Nat) : Int) := by
  intro m hm
  have h := shl_nat m (by omega)
  have h2 : 2 ^ m ≤ 2 ^ 12 := Nat.pow_le_pow_right (by decide) hm
  have h3 := Nat.two_pow_pos m
  rw [h, w64 (by omega) (by omega)]
  omega
theorem body_ev (n : Nat) (hn : 2 ≤ n ∧ n ≤ 6) (A : List (List Int)) (hA : A.length ≤ 12) (hok : ∀ w ∈ A, okW n w) :
    ∃ y : Bool, Ev (fun k => (impl_joined.f k (n : Int) A (wrap64 ((shl .i64 1 (A.length : Int)) - 1))).bind fun bt => (impl_CircuitOk.l1 k bt.1 bt.1 (bt.1.length : Int) 0)) y ∧
      Ev (fun k => (spec_l13Parts.f k (n : Int) A (wrap64 ((shl .i64 1 (A.length : Int)) - 1))).bind fun bt => (spec_CircuitOk.l1 k bt.1 bt.1 (bt.1.length : Int) 0)) y := by
  rw [set_eq A.length hA]
  have hseg : (seg 0 n).length = n := seg_len n 0
  obtain ⟨g, p, b, c, h1, h2, h3, h4⟩ := wires_ev n hn.2 A hA hok A [] (seg 0 n) (seg 0 n) true true rfl hseg ⟨rfl, fun i j _ _ => Iff.rfl⟩
  obtain ⟨y, y1, y2⟩ := ends_ev g p h2 (by omega) (by omega) g.length 0 (by omega)
  refine ⟨y, ev_bind (a := (g, b)) ?_ y1, ev_bind (a := (p, c)) ?_ y2⟩
  · unfold impl_joined.f
    exact impl_init A _ true n hn.2 _ n 0 [] (by omega) (by simp) (by simp; omega) h3
  · unfold spec_l13Parts.f
    exact spec_init A _ n hn.2 _ n 0 [] (by omega) (by simp) (by simp; omega) h4
theorem checks_ev (n : Nat) (hn : 2 ≤ n ∧ n ≤ 6) (A : List (List Int)) (hA : A.length ≤ 12) (cont : (∀ w ∈ A, okW n w) → ∃ y : Bool, Ev (fun k => (impl_joined.f k (n : Int) A (wrap64 ((shl .i64 1 (A.length : Int)) - 1))).bind fun bt => (impl_CircuitOk.l1 k bt.1 bt.1 (bt.1.length : Int) 0)) y ∧
      Ev (fun k => (spec_l13Parts.f k (n : Int) A (wrap64 ((shl .i64 1 (A.length : Int)) - 1))).bind fun bt => (spec_CircuitOk.l1 k bt.1 bt.1 (bt.1.length : Int) 0)) y) : ∀ (suf pre : List (List Int)), A = pre ++ suf → (∀ w ∈ pre, okW n w) →
    ∃ y : Bool, Ev (fun k => impl_CircuitOk.l0 k (n : Int) A A (A.length : Int) (pre.length : Int)) y ∧ Ev (fun k => spec_CircuitOk.l0 k (n : Int) A A (A.length : Int) (pre.length : Int)) y := by
  intro suf
  induction suf with
  | nil =>
    intro pre hp hpre
    have hlp : A.length = pre.length := by rw [hp]; simp
    obtain ⟨y, y1, y2⟩ := cont (fun w hw => hpre w (by rw [hp] at hw; simpa using hw))
    refine ⟨y, ev_shift ?_, ev_shift ?_⟩
    · simp only [impl_CircuitOk.l0]; exact ev_neg (by omega) y1
    · simp only [spec_CircuitOk.l0]; exact ev_neg (by omega) y2
  | cons w suf ih =>
    intro pre hp hpre
    have hlp : A.length = pre.length + suf.length + 1 := by rw [hp]; simp; omega
    have hat : rd_L1 A (pre.length : Int) = w := by
      rw [row_at, hp, List.getD_eq_getElem?_getD, List.getElem?_append_right (Nat.le_refl _)]; simp
    have hpl : ((pre ++ [w]).length : Int) = ((pre.length + 1 : Nat) : Int) := by simp
    have q1 : (pre.length : Int) < (A.length : Int) := by omega
    have en : wrap64 ((n : Int) - 1) = (n : Int) - 1 := w64 (by omega) (by omega)
    by_cases c2 : (w.length : Int) = 2
    · obtain ⟨a, b, rfl⟩ : ∃ a b, w = [a, b] := by
        match w, c2 with
        | [a, b], _ => exact ⟨a, b, rfl⟩
        | [], c => simp at c
        | [_], c => simp at c
        | _ :: _ :: _ :: _, c => exfalso; simp at c; omega
      have l2 : (([a, b] : List Int).length : Int) = 2 := rfl
      have r0 : rd [a, b] 0 = a := rfl
      have r1 : rd [a, b] 1 = b := rfl
      by_cases ca : 0 ≤ a ∧ a ≤ (n : Int) - 1
      · by_cases cb : 0 ≤ b ∧ b ≤ (n : Int) - 1
        · by_cases cab : a = b
          · refine ⟨false, ev_shift ?_, ev_shift ?_⟩
            · simp only [impl_CircuitOk.l0]
              rw [hat, l2, r0, r1, en]
              exact ev_pos q1 (ev_pos (Int.natCast_nonneg _) (ev_pos q1 (ev_pos rfl (ev_pos (by decide) (ev_bind0 (within_eq _ _ _) (ev_pos (decide_eq_true ca) (ev_pos (by decide) (ev_bind0 (within_eq _ _ _) (ev_pos (decide_eq_true cb) (ev_pos cab (ev_now _)))))))))))
            · simp only [spec_CircuitOk.l0]
              rw [hat, l2, r0, r1, en]
              exact ev_pos q1 (ev_pos (Int.natCast_nonneg _) (ev_pos q1 (ev_pos rfl (ev_pos (by decide) (ev_bind0 (in_eq _ _ _) (ev_pos (decide_eq_true ca) (ev_pos (by decide) (ev_bind0 (in_eq _ _ _) (ev_pos (decide_eq_true cb) (ev_pos cab (ev_now _)))))))))))
          · obtain ⟨y, y1, y2⟩ := ih (pre ++ [[a, b]]) (by rw [hp]; simp) (fun z hz => by
              rcases List.mem_append.mp hz with q | q
              · exact hpre z q
              · have : z = [a, b] := by simpa using q
                subst this
                exact ⟨a.toNat, b.toNat, by rw [Int.toNat_of_nonneg ca.1, Int.toNat_of_nonneg cb.1], by omega, by omega⟩)
            have hnx := wsucc pre.length (by clear en; omega)
            rw [hpl, ← hnx] at y1 y2
            clear hnx
            refine ⟨y, ev_shift ?_, ev_shift ?_⟩
            · simp only [impl_CircuitOk.l0]
              rw [hat, l2, r0, r1, en]
              exact ev_pos q1 (ev_pos (Int.natCast_nonneg _) (ev_pos q1 (ev_pos rfl (ev_pos (by decide) (ev_bind0 (within_eq _ _ _) (ev_pos (decide_eq_true ca) (ev_pos (by decide) (ev_bind0 (within_eq _ _ _) (ev_pos (decide_eq_true cb) (ev_neg cab y1))))))))))
            · simp only [spec_CircuitOk.l0]
              rw [hat, l2, r0, r1, en]
              exact ev_pos q1 (ev_pos (Int.natCast_nonneg _) (ev_pos q1 (ev_pos rfl (ev_pos (by decide) (ev_bind0 (in_eq _ _ _) (ev_pos (decide_eq_true ca) (ev_pos (by decide) (ev_bind0 (in_eq _ _ _) (ev_pos (decide_eq_true cb) (ev_neg cab y2))))))))))
        · refine ⟨false, ev_shift ?_, ev_shift ?_⟩
          · simp only [impl_CircuitOk.l0]
            rw [hat, l2, r0, r1, en]
            exact ev_pos q1 (ev_pos (Int.natCast_nonneg _) (ev_pos q1 (ev_pos rfl (ev_pos (by decide) (ev_bind0 (within_eq _ _ _) (ev_pos (decide_eq_true ca) (ev_pos (by decide) (ev_bind0 (within_eq _ _ _) (ev_neg (by simpa using cb) (ev_now _))))))))))
          · simp only [spec_CircuitOk.l0]
            rw [hat, l2, r0, r1, en]
            exact ev_pos q1 (ev_pos (Int.natCast_nonneg _) (ev_pos q1 (ev_pos rfl (ev_pos (by decide) (ev_bind0 (in_eq _ _ _) (ev_pos (decide_eq_true ca) (ev_pos (by decide) (ev_bind0 (in_eq _ _ _) (ev_neg (by simpa using cb) (ev_now _))))))))))
      · refine ⟨false, ev_shift ?_, ev_shift ?_⟩
        · simp only [impl_CircuitOk.l0]
          rw [hat, l2, r0, en]
          exact ev_pos q1 (ev_pos (Int.natCast_nonneg _) (ev_pos q1 (ev_pos rfl (ev_pos (by decide) (ev_bind0 (within_eq _ _ _) (ev_neg (by simpa using ca) (ev_now _)))))))
        · simp only [spec_CircuitOk.l0]
          rw [hat, l2, r0, en]
          exact ev_pos q1 (ev_pos (Int.natCast_nonneg _) (ev_pos q1 (ev_pos rfl (ev_pos (by decide) (ev_bind0 (in_eq _ _ _) (ev_neg (by simpa using ca) (ev_now _)))))))
    · refine ⟨false, ev_shift ?_, ev_shift ?_⟩
      · simp only [impl_CircuitOk.l0]
        rw [hat]
        exact ev_pos q1 (ev_pos (Int.natCast_nonneg _) (ev_pos q1 (ev_neg c2 (ev_now _))))
      · simp only [spec_CircuitOk.l0]
        rw [hat]
        exact ev_pos q1 (ev_pos (Int.natCast_nonneg _) (ev_pos q1 (ev_neg c2 (ev_now _))))
theorem circuit_both (a : Int) (A : List (List Int)) : ∃ y : Bool, Ev (fun k => impl_CircuitOk.f k a A) y ∧ Ev (fun k => spec_CircuitOk.f k a A) y := by
  unfold impl_CircuitOk.f spec_CircuitOk.f
  by_cases c : 2 ≤ a ∧ a ≤ 6
  · by_cases d : (A.length : Int) > 12
    · refine ⟨false, ev_bind0 (within_eq _ _ _) (ev_pos (decide_eq_true c) (ev_shift ?_)), ev_bind0 (in_eq _ _ _) (ev_pos (decide_eq_true c) (ev_shift ?_))⟩
      · simp only [impl_CircuitOk.j0]; exact ev_pos (decide_eq_true d) (ev_now _)
      · simp only [spec_CircuitOk.j0]; exact ev_pos (decide_eq_true d) (ev_now _)
    · obtain ⟨n, rfl⟩ := Int.eq_ofNat_of_zero_le (show 0 ≤ a by omega)
      have hn : 2 ≤ n ∧ n ≤ 6 := by omega
      have hA : A.length ≤ 12 := by omega
      obtain ⟨y, y1, y2⟩ := checks_ev n hn A hA (body_ev n hn A hA) A [] rfl (fun w hw => by cases hw)
      refine ⟨y, ev_bind0 (within_eq _ _ _) (ev_pos (decide_eq_true c) (ev_shift ?_)), ev_bind0 (in_eq _ _ _) (ev_pos (decide_eq_true c) (ev_shift ?_))⟩
      · simp only [impl_CircuitOk.j0]; exact ev_neg (by simpa using d) y1
      · simp only [spec_CircuitOk.j0]; exact ev_neg (by simpa using d) y2
  · refine ⟨false, ev_bind0 (within_eq _ _ _) (ev_neg (by simpa using c) (ev_shift ?_)), ev_bind0 (in_eq _ _ _) (ev_neg (by simpa using c) (ev_shift ?_))⟩
    · simp only [impl_CircuitOk.j0]; exact ev_pos (by simp) (ev_now _)
    · simp only [spec_CircuitOk.j0]; exact ev_pos (by simp) (ev_now _)
theorem szRow (w : List Int) (hw : (w.length : Int) ≤ 9223372036854775807) (n : Int) (hn : 0 ≤ n ∧ n ≤ 1048576) : laws_szIntS.f w n = some (if n < (w.length : Int) then -1 else n - (w.length : Int)) := by
  unfold laws_szIntS.f
  have e : wrap64 (n - (w.length : Int)) = n - (w.length : Int) := w64 (by omega) (by omega)
  rw [e]
  by_cases c : n < (w.length : Int)
  · rw [if_pos (by omega), if_pos c]
  · rw [if_neg (by omega), if_neg c]
theorem szRows (A : List (List Int)) (hA : A.length ≤ 1048576) (hrow : ∀ w ∈ A, (w.length : Int) ≤ 9223372036854775807) : ∀ (suf pre : List (List Int)) (n : Int), A = pre ++ suf → 0 ≤ n ∧ n ≤ 1048576 → (∀ w ∈ pre, w.length ≤ 1048576) →
    ∃ r : Int, Ev (fun k => laws_szIntSS.l0 k A n (pre.length : Int)) r ∧ (r < 0 ∨ ∀ w ∈ A, w.length ≤ 1048576) := by
  intro suf
  induction suf with
  | nil =>
    intro pre n hp hn hpre
    have hlp : A.length = pre.length := by rw [hp]; simp
    refine ⟨n, ev_shift ?_, .inr (fun w hw => hpre w (by rw [hp] at hw; simpa using hw))⟩
    simp only [laws_szIntSS.l0]
    exact ev_neg (by omega) (ev_now _)
  | cons w suf ih =>
    intro pre n hp hn hpre
    have hlp : A.length = pre.length + suf.length + 1 := by rw [hp]; simp; omega
    have hat : rd_L1 A (pre.length : Int) = w := by
      rw [row_at, hp, List.getD_eq_getElem?_getD, List.getElem?_append_right (Nat.le_refl _)]; simp
    have hpl : ((pre ++ [w]).length : Int) = ((pre.length + 1 : Nat) : Int) := by simp
    have q1 : (pre.length : Int) < (A.length : Int) := by omega
    have hw : (w.length : Int) ≤ 9223372036854775807 := hrow w (by rw [hp]; simp)
    have es := szRow w hw n hn
    by_cases c : n < (w.length : Int)
    · rw [if_pos c] at es
      refine ⟨-1, ev_shift ?_, .inl (by omega)⟩
      simp only [laws_szIntSS.l0]
      rw [hat]
      exact ev_pos q1 (ev_pos (Int.natCast_nonneg _) (ev_bind0 es (ev_pos (by decide) (ev_now _))))
    · rw [if_neg c] at es
      obtain ⟨r, h1, h2⟩ := ih (pre ++ [w]) (n - (w.length : Int)) (by rw [hp]; simp) ⟨by omega, by omega⟩ (fun z hz => by
        rcases List.mem_append.mp hz with q | q
        · exact hpre z q
        · have : z = w := by simpa using q
          subst this
          omega)
      have hnx := wsucc pre.length (by omega)
      rw [hpl, ← hnx] at h1
      clear hnx
      refine ⟨r, ev_shift ?_, h2⟩
      simp only [laws_szIntSS.l0]
      rw [hat]
      exact ev_pos q1 (ev_pos (Int.natCast_nonneg _) (ev_bind0 es (ev_neg (by omega) h1)))
theorem toRows_from (l : List (List Int)) (hl : l.length ≤ 1048576) (hrow : ∀ w ∈ l, w.length ≤ 1048576) (d : Nat) : ∀ (x : List (List Int)) (i : Nat), x.length = l.length → l.length - i ≤ d → i ≤ l.length → (∀ j, j < i → x[j]? = l[j]?) →
    Ev (fun k => laws_toIntSS.l0 k l x i) l := by
  induction d with
  | zero =>
    intro x i hx hd hi hm
    refine ev_shift ?_
    simp only [laws_toIntSS.l0]
    have e : x = l := by
      apply List.ext_getElem?
      intro j
      by_cases hj : j < i
      · exact hm j hj
      · rw [List.getElem?_eq_none (by omega), List.getElem?_eq_none (by omega)]
    exact ev_neg (by omega) (ev_eq (ev_now _) e)
  | succ d ih =>
    intro x i hx hd hi hm
    refine ev_shift ?_
    simp only [laws_toIntSS.l0]
    by_cases h : i < l.length
    · have hw : (l.getD i []).length ≤ 1048576 := by
        refine hrow _ ?_
        rw [List.getD_eq_getElem?_getD, List.getElem?_eq_getElem h]
        exact List.getElem_mem h
      rw [row_at]
      refine ev_pos (by omega) (ev_pos (by omega) (ev_bind (toIntS_ev _ hw) (ev_pos (by omega) ?_)))
      rw [w64 (by omega) (by omega)]
      have e2 : ((i : Int) + 1) = ((i + 1 : Nat) : Int) := by omega
      have e3 : ((i : Int)).toNat = i := by omega
      rw [e2, e3]
      refine ih _ (i + 1) (by simpa using hx) (by omega) (by omega) ?_
      intro j hj
      rw [List.getElem?_set]
      by_cases e : i = j
      · subst e
        rw [if_pos rfl, if_pos (by omega), List.getD_eq_getElem?_getD, List.getElem?_eq_getElem h]
        rfl
      · rw [if_neg e]; exact hm j (by omega)
    · have e : x = l := by
        apply List.ext_getElem?
        intro j
        by_cases hj : j < i
        · exact hm j hj
        · rw [List.getElem?_eq_none (by omega), List.getElem?_eq_none (by omega)]
      exact ev_neg (by omega) (ev_eq (ev_now _) e)
theorem toRows_ev (l : List (List Int)) (hl : l.length ≤ 1048576) (hrow : ∀ w ∈ l, w.length ≤ 1048576) : Ev (fun k => laws_toIntSS.f k l) l := by
  unfold laws_toIntSS.f
  refine ev_pos (by omega) (ev_pos (by omega) ?_)
  exact toRows_from l hl hrow l.length _ 0 (by simp) (by omega) (by omega) (fun j hj => by omega)
theorem eqRows_from (l : List (List Int)) (hl : l.length ≤ 1048576) (hrow : ∀ w ∈ l, w.length ≤ 1048576) (d : Nat) : ∀ i : Nat, l.length - i ≤ d → i ≤ l.length → Ev (fun k => laws_eqIntSS.l0 k l l i) true := by
  induction d with
  | zero =>
    intro i hd hi
    refine ev_shift ?_
    simp only [laws_eqIntSS.l0]
    exact ev_neg (by omega) (ev_now _)
  | succ d ih =>
    intro i hd hi
    refine ev_shift ?_
    simp only [laws_eqIntSS.l0]
    by_cases h : i < l.length
    · have hw : (l.getD i []).length ≤ 1048576 := by
        refine hrow _ ?_
        rw [List.getD_eq_getElem?_getD, List.getElem?_eq_getElem h]
        exact List.getElem_mem h
      rw [row_at]
      have hh := ih (i + 1) (by omega) (by omega)
      have hnx := wsucc i (by omega)
      rw [← hnx] at hh
      clear hnx
      exact ev_pos (by omega) (ev_pos (by omega) (ev_pos (by omega) (ev_bind (eqIntS_refl _ (by omega)) (ev_pos rfl hh))))
    · exact ev_neg (by omega) (ev_now _)
theorem eqRows_refl (l : List (List Int)) (hl : l.length ≤ 1048576) (hrow : ∀ w ∈ l, w.length ≤ 1048576) : Ev (fun k => laws_eqIntSS.f k l l) true := by
  unfold laws_eqIntSS.f
  exact ev_pos rfl (eqRows_from l hl hrow l.length 0 (by omega) (by omega))
/-- The law answers true, for rows that memory holds. -/
theorem FnExactCircuitOk (a : Int) (A : List (List Int)) (hA : (A.length : Int) ≤ 9223372036854775807) (hrow : ∀ w ∈ A, (w.length : Int) ≤ 9223372036854775807) : ∃ k, laws_FnExactCircuitOk.f k a A = some true := by
  apply ev_rounds
  unfold laws_FnExactCircuitOk.f laws_szIntSS.f
  have e : wrap64 (1048576 - (A.length : Int)) = 1048576 - (A.length : Int) := w64 (by omega) (by omega)
  by_cases c : 1048576 - (A.length : Int) < 0
  · refine ev_bind (a := -1) ?_ (ev_pos (by decide) (ev_now _))
    rw [e]
    exact ev_pos c (ev_now _)
  · obtain ⟨r, h1, h2⟩ := szRows A (by omega) hrow A [] (1048576 - (A.length : Int)) rfl ⟨by omega, by omega⟩ (fun w hw => by cases hw)
    refine ev_bind (a := r) ?_ ?_
    · rw [e]
      exact ev_neg c h1
    · by_cases d : r < 0
      · exact ev_pos d (ev_now _)
      · have hr : ∀ w ∈ A, w.length ≤ 1048576 := by
          rcases h2 with h2 | h2
          · exact absurd h2 d
          · exact h2
        have hl : A.length ≤ 1048576 := by omega
        have ht := toRows_ev A hl hr
        obtain ⟨y, y1, y2⟩ := circuit_both a A
        exact ev_neg d (ev_bind ht (ev_bind y2 (ev_bind ht (ev_bind y1 (ev_neg (by simp) (ev_bind ht (ev_bind (eqRows_refl A hl hr) (ev_pos rfl (ev_now _)))))))))

end Go.Proofs.Ytlcchgkidenbpaa.Pure
