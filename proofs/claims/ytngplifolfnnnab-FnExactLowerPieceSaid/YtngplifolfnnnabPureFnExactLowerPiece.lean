/- LowerPiece of the program and of the reference answer alike, for all numbers. -/
import Derived.Test.YtngplifolfnnnabQFnExactLowerPiecex3
namespace Go.Proofs.Ytngplifolfnnnab.Pure
open Go.RowKit Go.Proofs.Ytngplifolfnnnab.QFnExactLowerPiece Go.Proofs.YtngplifolfnnnabW.PrintWords Go.Proofs.YtngplifolfnnnabW.PrintLast Go.Proofs.YtngplifolfnnnabW.PrintMore
set_option linter.unusedVariables false
set_option linter.unusedSimpArgs false

/- Eventually: with enough rounds the answer is r. -/
theorem ev_now {α : Type} (r : α) : Ev (fun _ => some r) r := Ev.now r
theorem ev_shift {α : Type} {g : Nat → Option α} {r : α} (h : Ev (fun k => g (k + 1)) r) : Ev g r := by
  obtain ⟨K, hK⟩ := h
  exact ⟨K + 1, fun k hk => by
    obtain ⟨m, rfl⟩ : ∃ m, k = m + 1 := ⟨k - 1, by omega⟩
    exact hK m (by omega)⟩
theorem ev_bind {α β : Type} {g : Nat → Option α} {f : Nat → α → Option β} {a : α} {r : β} (h : Ev g a) (k : Ev (fun n => f n a) r) : Ev (fun n => (g n).bind (f n)) r := Ev.bind h k
theorem ev_bind0 {α β : Type} {o : Option α} {f : Nat → α → Option β} {a : α} {r : β} (h : o = some a) (k : Ev (fun n => f n a) r) : Ev (fun n => o.bind (f n)) r := by
  subst h; exact k
theorem ev_pos {α : Type} {A B : Nat → Option α} {r : α} {c : Prop} [Decidable c] (h : c) (k : Ev A r) : Ev (fun n => if c then A n else B n) r := by
  simpa only [if_pos h] using k
theorem ev_neg {α : Type} {A B : Nat → Option α} {r : α} {c : Prop} [Decidable c] (h : ¬ c) (k : Ev B r) : Ev (fun n => if c then A n else B n) r := by
  simpa only [if_neg h] using k
theorem ev_done {α : Type} {o : Option α} {r : α} (h : o = some r) : Ev (fun _ => o) r := ⟨0, fun _ _ => h⟩
theorem ev_eq {α : Type} {g : Nat → Option α} {r r' : α} (h : Ev g r) (e : r = r') : Ev g r' := e ▸ h
theorem ev_rounds {α : Type} {g : Nat → Option α} {r : α} (h : Ev g r) : ∃ k, g k = some r := Ev.rounds h
theorem ev_uniq {α : Type} {g : Nat → Option α} {r r' : α} (h : Ev g r) (h' : Ev g r') : r = r' := by
  obtain ⟨K, hK⟩ := h
  obtain ⟨K', hK'⟩ := h'
  have a := hK (max K K') (Nat.le_max_left _ _)
  have b := hK' (max K K') (Nat.le_max_right _ _)
  rw [a] at b
  exact Option.some.inj b
theorem wf64 {n : Int} (h : (Lit.int .i64 n).wf = true) : -9223372036854775808 ≤ n ∧ n ≤ 9223372036854775807 := by
  have a : IntKind.i64.min = -9223372036854775808 := rfl
  have b : IntKind.i64.max = 9223372036854775807 := rfl
  simp [Lit.wf] at h
  omega
theorem w64 {n : Int} (h : -9223372036854775808 ≤ n) (h' : n ≤ 9223372036854775807) : wrap64 n = n := by
  unfold wrap64; omega
theorem within_eq (a b c : Int) : impl_within.f a b c = some (decide (b ≤ a ∧ a ≤ c)) := by
  unfold impl_within.f; split <;> simp <;> omega
theorem in_eq (a b c : Int) : spec_l01In.f a b c = some (decide (b ≤ a ∧ a ≤ c)) := by
  unfold spec_l01In.f; split <;> simp <;> omega
theorem mx_eq (a b : Int) : mx a b = max a b := by unfold mx; split <;> omega
theorem mn_eq (a b : Int) : mn a b = min a b := by unfold mn; split <;> omega
theorem rdp_at (l : List S34) (i : Nat) : rd_T34 l (i : Int) = l.getD i z34 := by simp [rd_T34]
theorem eqPoint_refl (a b : Int) : laws_eqPoint.f a b a b = some true := by unfold laws_eqPoint.f; simp
theorem eqPointS_from (l : List S34) (hl : (l.length : Int) ≤ 4611686018427387904) (d : Nat) : ∀ i : Int, 0 ≤ i → (l.length : Int) - i ≤ d → Ev (fun k => laws_eqPointS.l0 k l l i) true := by
  induction d with
  | zero =>
    intro i h0 hd
    refine ev_shift ?_
    simp only [laws_eqPointS.l0]
    exact ev_neg (by omega) (ev_now _)
  | succ d ih =>
    intro i h0 hd
    refine ev_shift ?_
    simp only [laws_eqPointS.l0]
    by_cases hi : i < (l.length : Int)
    · refine ev_pos hi (ev_pos h0 (ev_pos hi (ev_bind0 (eqPoint_refl _ _) (ev_pos rfl ?_))))
      rw [w64 (by omega) (by omega)]
      exact ih _ (by omega) (by omega)
    · exact ev_neg hi (ev_now _)
theorem eqPointS_refl (l : List S34) (hl : (l.length : Int) ≤ 4611686018427387904) : Ev (fun k => laws_eqPointS.f k l l) true := by
  unfold laws_eqPointS.f
  exact ev_pos rfl (eqPointS_from l hl l.length 0 (by omega) (by omega))
theorem markPointS_from (n : Nat) (hn : (n : Int) ≤ 1152921504606846976) (d : Nat) : ∀ (l : List S34) (i : Nat), l.length = n → n - i ≤ d → i ≤ n → (∀ j : Nat, j < i → l.getD j z34 = ⟨1 + 2 * j, 2 + 2 * j⟩) →
    ∃ l', Ev (fun k => laws_markPointS.l0 k l (1 + 2 * (i : Int)) i) (1 + 2 * (n : Int), l') ∧ l'.length = n ∧ ∀ j : Nat, j < n → l'.getD j z34 = ⟨1 + 2 * j, 2 + 2 * j⟩ := by
  induction d with
  | zero =>
    intro l i hl hd hi hm
    refine ⟨l, ev_shift ?_, hl, fun j hj => hm j (by omega)⟩
    simp only [laws_markPointS.l0]
    obtain rfl : i = n := by omega
    exact ev_neg (by omega) (ev_now _)
  | succ d ih =>
    intro l i hl hd hi hm
    by_cases h : i < n
    · obtain ⟨l', hl', h1, h2⟩ := ih ((l.set i ⟨1 + 2 * i, (rd_T34 l i).f1⟩).set i ⟨(rd_T34 (l.set i ⟨1 + 2 * i, (rd_T34 l i).f1⟩) i).f0, 2 + 2 * i⟩) (i + 1) (by simpa using hl) (by omega) (by omega) (by
        intro j hj
        by_cases e : i = j
        · subst e
          rw [List.getD_eq_getElem?_getD, List.getElem?_set, if_pos rfl, if_pos (by simp; omega), rdp_at, List.getD_eq_getElem?_getD, List.getElem?_set, if_pos rfl, if_pos (by omega)]
          rfl
        · rw [List.getD_eq_getElem?_getD, List.getElem?_set, if_neg e, List.getElem?_set, if_neg e, ← List.getD_eq_getElem?_getD]; exact hm j (by omega))
      refine ⟨l', ev_shift ?_, h1, h2⟩
      simp only [laws_markPointS.l0]
      refine ev_pos (by omega) (ev_pos (by omega) (ev_bind0 rfl ?_))
      have e3 : ((i : Int)).toNat = i := by omega
      have e4 : wrap64 (1 + 2 * (i : Int) + 1) = 2 + 2 * (i : Int) := by rw [w64 (by omega) (by omega)]; omega
      have e5 : wrap64 (2 + 2 * (i : Int) + 1) = 1 + 2 * ((i + 1 : Nat) : Int) := by rw [w64 (by omega) (by omega)]; omega
      have e6 : wrap64 ((i : Int) + 1) = ((i + 1 : Nat) : Int) := by rw [w64 (by omega) (by omega)]; omega
      rw [e4, e5, e6, e3]
      exact hl'
    · obtain rfl : i = n := by omega
      refine ⟨l, ev_shift ?_, hl, fun j hj => hm j (by omega)⟩
      simp only [laws_markPointS.l0]
      exact ev_neg (by omega) (ev_now _)
theorem heldPointS_from (n : Nat) (hn : (n : Int) ≤ 1152921504606846976) (l : List S34) (hl : l.length = n) (hm : ∀ j : Nat, j < n → l.getD j z34 = ⟨1 + 2 * j, 2 + 2 * j⟩) (d : Nat) : ∀ i : Nat, i ≤ n → n - i ≤ d →
    Ev (fun k => laws_heldPointS.l0 k l (1 + 2 * (i : Int)) i) (1 + 2 * (n : Int)) := by
  induction d with
  | zero =>
    intro i hi hd
    refine ev_shift ?_
    simp only [laws_heldPointS.l0]
    obtain rfl : i = n := by omega
    exact ev_neg (by omega) (ev_now _)
  | succ d ih =>
    intro i hi hd
    refine ev_shift ?_
    simp only [laws_heldPointS.l0]
    by_cases h : i < n
    · have e4 : wrap64 (1 + 2 * (i : Int) + 1) = 2 + 2 * (i : Int) := by rw [w64 (by omega) (by omega)]; omega
      have e5 : wrap64 (2 + 2 * (i : Int) + 1) = 1 + 2 * ((i + 1 : Nat) : Int) := by rw [w64 (by omega) (by omega)]; omega
      have e6 : wrap64 ((i : Int) + 1) = ((i + 1 : Nat) : Int) := by rw [w64 (by omega) (by omega)]; omega
      refine ev_pos (by omega) (ev_pos (by omega) (ev_pos (by rw [rdp_at, hm i h]) (ev_pos (by rw [rdp_at, hm i h, e4]) ?_)))
      rw [e4, e5, e6]; exact ih (i + 1) (by omega) (by omega)
    · obtain rfl : i = n := by omega
      exact ev_neg (by omega) (ev_now _)
theorem markPointS_ev (l : List S34) (hl : (l.length : Int) ≤ 1152921504606846976) :
    ∃ l', Ev (fun k => laws_markPointS.f k l 1) (1 + 2 * (l.length : Int), l') ∧ Ev (fun k => laws_heldPointS.f k l' 1) (1 + 2 * (l.length : Int)) := by
  obtain ⟨l', h1, h2, h3⟩ := markPointS_from l.length hl l.length l 0 rfl (by omega) (by omega) (fun j hj => by omega)
  exact ⟨l', h1, heldPointS_from l.length hl l' h2 h3 l.length 0 (by omega) (by omega)⟩
theorem points_tail {g : Nat → Option (List S34)} {l : List S34} (hg : Ev g l) (hl : (l.length : Int) ≤ 1152921504606846976) :
    Ev (fun k => (g k).bind fun t1 => ((laws_eqPointS.f k t1 l).bind fun t2 => (if t2 = true then ((laws_markPointS.f k t1 1).bind fun b => ((laws_heldPointS.f k b.2 1).bind fun t3 => (if t3 < 0 then (some false) else (if t3 = b.1 then ((g k).bind fun t4 => ((laws_eqPointS.f k t4 l).bind fun t5 => (if t5 = true then ((laws_heldPointS.f k b.2 1).bind fun t6 => (if t6 < 0 then (some false) else (if t6 = b.1 then (some true) else (some false)))) else (some false)))) else (some false))))) else (some false)))) true := by
  obtain ⟨l', h1, h2⟩ := markPointS_ev l hl
  refine ev_bind hg (ev_bind (eqPointS_refl l (by omega)) (ev_pos rfl (ev_bind h1 (ev_bind h2 (ev_neg (by omega) (ev_pos rfl ?_))))))
  exact ev_bind hg (ev_bind (eqPointS_refl l (by omega)) (ev_pos rfl (ev_bind h2 (ev_neg (by omega) (ev_pos rfl (ev_now _))))))
theorem int_range (n : Int) (m : Nat) (h : 1 ≤ n) (h' : n ≤ m) : ∃ k ∈ List.range m, n = (k : Int) + 1 :=
  ⟨(n - 1).toNat, by simp; omega, by omega⟩
theorem fin3 {p : Int → Int → Int → Bool} (H : (List.range 3).all (fun n => (List.range 10).all fun a => (List.range 10).all fun b => p ((n : Int) + 1) ((a : Int) + 1) ((b : Int) + 1)) = true)
    (n a b : Int) (hn : 1 ≤ n ∧ n ≤ 3) (ha : 1 ≤ a ∧ a ≤ 10) (hb : 1 ≤ b ∧ b ≤ 10) : p n a b = true := by
  obtain ⟨n', hn', rfl⟩ := int_range n 3 hn.1 hn.2
  obtain ⟨a', ha', rfl⟩ := int_range a 10 ha.1 ha.2
  obtain ⟨b', hb', rfl⟩ := int_range b 10 hb.1 hb.2
  exact List.all_eq_true.mp (List.all_eq_true.mp (List.all_eq_true.mp H n' hn') a' ha') b' hb'
theorem stepsOk_out (n a b : Int) (h : ¬ ((1 ≤ n ∧ n ≤ 3) ∧ (1 ≤ a ∧ a ≤ 10) ∧ (1 ≤ b ∧ b ≤ 10))) : spec_StepsOk.f n a b = some false := by
  unfold spec_StepsOk.f
  rw [in_eq]
  by_cases h1 : 1 ≤ n ∧ n ≤ 3
  · by_cases h2 : 1 ≤ a ∧ a ≤ 10
    · have h3 : ¬ (1 ≤ b ∧ b ≤ 10) := fun h3 => h ⟨h1, h2, h3⟩
      simp [in_eq, h1, h2, h3]
    · simp [in_eq, h1, h2]
  · simp [h1]
theorem stepsOk_eq (n a b : Int) : impl_StepsOk.f n a b = spec_StepsOk.f n a b := rfl
theorem up_fin : (List.range 3).all (fun n => (List.range 10).all fun a => (List.range 10).all fun b => laws_FnExactLowerPiece.f 40 ((n : Int) + 1) ((a : Int) + 1) ((b : Int) + 1) == some true) = true := by decide +kernel
theorem FnExactLowerPiece : laws_FnExactLowerPiece.Pure := by
  intro n a b _ _ _
  by_cases h : (1 ≤ n ∧ n ≤ 3) ∧ (1 ≤ a ∧ a ≤ 10) ∧ (1 ≤ b ∧ b ≤ 10)
  · exact ⟨40, beq_iff_eq.mp (fin3 (p := fun n a b => laws_FnExactLowerPiece.f 40 n a b == some true) up_fin n a b h.1 h.2.1 h.2.2)⟩
  · apply ev_rounds
    have e := stepsOk_out n a b h
    have h1 : Ev (fun k => spec_LowerPiece.f k n a b) [] := by
      unfold spec_LowerPiece.f
      exact ev_bind0 e (ev_neg (by simp) (ev_now _))
    have h2 : Ev (fun k => impl_LowerPiece.f k n a b) [] := by
      unfold impl_LowerPiece.f
      exact ev_bind0 ((stepsOk_eq _ _ _).trans e) (ev_neg (by simp) (ev_now _))
    unfold laws_FnExactLowerPiece.f
    exact ev_bind h1 (points_tail h2 (by simp))

end Go.Proofs.Ytngplifolfnnnab.Pure
