/- What each Go function of this text answers, as a plain function, and that the machine comes to just that answer. -/
import Derived.Test.YtadenfniiihifaaQFnExactMeasureForx0
import Derived.Test.YtadenfniiihifaaQFnExactMeasureForx5
namespace Go.Proofs.Ytadenfniiihifaa.QFnExactMeasureFor
open Go.RowKit Go.Proofs.YtadenfniiihifaaW.PrintWords Go.Proofs.YtadenfniiihifaaW.PrintLast Go.Proofs.YtadenfniiihifaaW.PrintMore
attribute [local go_sem] max2_int min2_int max_two min_two max_three min_three max_four min_four   -- for this text's walks alone
set_option linter.unusedVariables false
set_option linter.unusedSimpArgs false
def spec_l07Measure.l0 : Nat → Int → Int → Int → List (List Int) → Int → Int → Option (Int)
 | 0, _, _, _, _, _, _ => none
 | k + 1, x1, x2, x7, x14, x15, x16 => if x16 < x15 then (if 0 ≤ x16 then (if x16 < (x14.length : Int) then (if 0 < ((rd_L3 x14 x16).length : Int) then (if 1 < ((rd_L3 x14 x16).length : Int) then ((spec_l07Direction.f k (rd (rd_L3 x14 x16) 0) (rd (rd_L3 x14 x16) 1)).bind fun t228 => (if 0 < (t228.length : Int) then (if (rd t228 0) = x1 then (if 1 < (t228.length : Int) then (if (rd t228 1) = x2 then ((spec_l02Gcd.f k (rd (rd_L3 x14 x16) 0) (rd (rd_L3 x14 x16) 1)).bind fun t235 => (if (rd (rd_L3 x14 x16) 0) = (wrap64 (x1 * t235)) then (if (rd (rd_L3 x14 x16) 1) = (wrap64 (x2 * t235)) then (spec_l07Measure.l0 k x1 x2 (wrap64 (x7 + t235)) x14 x15 (wrap64 (x16 + 1))) else (spec_l07Measure.l0 k x1 x2 (wrap64 (x7 - t235)) x14 x15 (wrap64 (x16 + 1)))) else (spec_l07Measure.l0 k x1 x2 (wrap64 (x7 - t235)) x14 x15 (wrap64 (x16 + 1))))) else (spec_l07Measure.l0 k x1 x2 x7 x14 x15 (wrap64 (x16 + 1)))) else (none)) else (spec_l07Measure.l0 k x1 x2 x7 x14 x15 (wrap64 (x16 + 1)))) else (none))) else (none)) else (none)) else (none)) else (none)) else (some x7)
def spec_l07Measure.f (k : Nat) (l0 : List (S40)) (a1 : Int) (a2 : Int) : Option (Int) := (spec_l07Left.f k l0).bind fun t219 => ((spec_l04Sides.f k t219).bind fun t222 => (spec_l07Measure.l0 k a1 a2 0 t222 (t222.length : Int) 0))
theorem spec_l07Measure.mono_l : ∀ k, (∀ y0 y1 y2 y3 y4 y5, LeO (spec_l07Measure.l0 k y0 y1 y2 y3 y4 y5) (spec_l07Measure.l0 (k + 1) y0 y1 y2 y3 y4 y5))
 | 0 => fun _ _ _ _ _ _ r h => by simp [spec_l07Measure.l0] at h
 | k + 1 => by
  have ih0 := spec_l07Measure.mono_l k
  ·intro y0 y1 y2 y3 y4 y5
   unfold spec_l07Measure.l0
   repeat' first
   | (with_reducible exact LeO.refl _)
   | exact ih0 _ _ _ _ _ _
   | exact spec_l02Gcd.mono _ _ _
   | exact spec_l04Sides.mono _ _
   | exact spec_l07Direction.mono _ _ _
   | exact spec_l07Left.mono _ _
   | exact LeO.none _
   | refine LeO.ite ?_ ?_
   | refine LeO.bind ?_ (fun _ => ?_)
theorem spec_l07Measure.mono : ∀ a0 a1 a2 k, LeO (spec_l07Measure.f k a0 a1 a2) (spec_l07Measure.f (k + 1) a0 a1 a2) := by
 intro a0 a1 a2 k
 have ih0 := spec_l07Measure.mono_l k
 unfold spec_l07Measure.f
 repeat' first
  | (with_reducible exact LeO.refl _)
  | exact ih0 _ _ _ _ _ _
  | exact spec_l02Gcd.mono _ _ _
  | exact spec_l04Sides.mono _ _
  | exact spec_l07Direction.mono _ _ _
  | exact spec_l07Left.mono _ _
  | exact LeO.none _
  | refine LeO.ite ?_ ?_
  | refine LeO.bind ?_ (fun _ => ?_)
def spec_l07Measure.T5 : Bool × List (List Nat × List Nat) := (true, [([], []), ([0], [0]), ([1], [1]), ([], []), ([3], [3]), ([4], [4]), ([2, 5], [2, 5]), ([6, 6, 0, 1, 2, 3, 4, 5, 6], [6])])
def spec_l07Measure.B5 : List Nat := [0, 1, 3, 0, 8, 24, 63, 127]
theorem spec_l07Measure.tab5 : rtab .any (opsOf Try.f39 5) = spec_l07Measure.T5 := by kernel_rfl
theorem spec_l07Measure.bits5 : waitsOk spec_l07Measure.T5.2 spec_l07Measure.B5 = true := by kernel_rfl
def spec_l07Measure.T7 : Bool × List (List Nat × List Nat) := (true, [([], []), ([0], [0]), ([1], [1]), ([], []), ([3], [3]), ([4], [4]), ([2, 5], [2, 5]), ([6, 6, 0, 1, 2, 3, 4, 5, 6], [6])])
def spec_l07Measure.B7 : List Nat := [0, 1, 3, 0, 8, 24, 63, 127]
theorem spec_l07Measure.tab7 : rtab .any (opsOf Try.f39 7) = spec_l07Measure.T7 := by kernel_rfl
theorem spec_l07Measure.bits7 : waitsOk spec_l07Measure.T7.2 spec_l07Measure.B7 = true := by kernel_rfl
set_option maxHeartbeats 8000000 in
set_option maxRecDepth 100000 in
theorem spec_l07Measure.calls (k : Nat) (P0_ : Nat → Prop) (u9000_ : Value) (l0 : List (S40)) (a1 : Int) (a2 : Int) (r : Int) (w0 w : World) (hB : Below w0.heap.size w0 w) (ho0 : Kd.R k40 40 w w0.heap.size P0_ u9000_ l0) (h : spec_l07Measure.f k l0 a1 a2 = some r) :
 Calls Try.prog 39 #[u9000_, .int .i64 a1, .int .i64 a2] w fun e w' => e = .returned (.int .i64 r) ∧ Below w0.heap.size w0 w' ∧ Kept w w' (fun k_ => P0_ k_) := by
 have HO0 := Aside0.mk (show Kd.R k40 40 w w0.heap.size (fun k_ => (P0_ k_ ∨ w.heap.size ≤ k_)) u9000_ l0 from Kd.R_mono ho0 (fun k_ hk => (.inl hk)))
 have HK := Aside0.mk (Kept.refl w (fun k_ => P0_ k_))
 have HW0 := Aside0.mk hB.size
 have HB := Aside0.mk hB
 clear hB
 have H : ((spec_l07Left.f k l0).bind fun t219 => ((spec_l04Sides.f k t219).bind fun t222 => (spec_l07Measure.l0 k a1 a2 0 t222 (t222.length : Int) 0))) = some r := h
 clear h
 replace H := Option.bind_eq_some_iff.mp H
 obtain ⟨t219, A40, H⟩ := H
 have A4 := Aside0.mk A40
 clear A40
 replace H := Option.bind_eq_some_iff.mp H
 obtain ⟨t222, A50, H⟩ := H
 have A5 := Aside0.mk A50
 clear A50
 have H' := Aside0.mk H
 clear H
 obtain ⟨Ao6, co6, eo6⟩ := Kd.R_slice HO0.out
 subst eo6
 go_enter Try.func39, Try.ntmps39
 go_wp2_with (first | ((with_reducible refine gate_callee (f := 63) rfl ?_); refine goesL_ (some 13) rfl rfl Try.func63 (by kernel_rfl) rfl #[.slice Ao6 l0.length co6] rfl (by (try simp only [List.map_toArray, List.map_cons, List.map_nil]); first | done | rfl) ?_; (with_reducible refine (spec_l07Left.calls k (fun k_ => some k_ = (.slice Ao6 l0.length co6 : Value).ownBlock) (.slice Ao6 l0.length co6) l0 t219 w0 _ ?side1 ?side2 A4.out).mono ?_); (case side1 => repeat (first | (with_reducible first | exact HB.out | apply bA | apply bN | apply bD) | exact HB.out)); (case side2 => exact Kd.R_tight rfl HO0.out); rintro e w7 ⟨v220, rfl, ho0, hb, hkp⟩; refine ⟨_, rfl, ?_⟩; have n0_ := Aside0.mk (Kd.R_mono (ok' := fun k_ => (P0_ k_ ∨ w.heap.size ≤ k_)) ho0 (fun k_ hk_ => Or.elim hk_ (fun hs_ => (HO0.out.1 k_ (hs_).symm)) (fun hn_ => (.inr (Nat.le_trans (by first | exact HK.out.1 | exact (show Kept w _ (fun k_ => P0_ k_) from by repeat (first | (with_reducible first | exact HK.out | apply Kept.alloc | apply Kept.drewN | apply Kept.drew) | exact HK.out)).1) hn_))))); have n1_ := Aside0.mk (Kept.then_ (S := (fun k_ => P0_ k_)) (by repeat (first | (with_reducible first | exact HK.out | apply Kept.alloc | apply Kept.drewN | apply Kept.drew) | exact HK.out)) hkp (fun k_ hs_ => (fun e_ => (HO0.out.1 k_ e_.symm)) hs_)); have n2_ := Aside0.mk (hb); clear HK; clear HB; clear HO0; have HO221 := n0_; have HK := n1_; have HB := n2_; clear n0_ n1_ n2_; (try clear hb); (try clear hkp); (try clear ho0); obtain ⟨Ao8, co8, eo8⟩ := Kd.R_slice HO221.out; subst eo8) | ((with_reducible refine gate_callee (f := 62) rfl ?_); refine goesL_ (some 14) rfl rfl Try.func62 (by kernel_rfl) rfl #[.slice Ao8 t219.length co8] rfl (by (try simp only [List.map_toArray, List.map_cons, List.map_nil]); first | done | rfl) ?_; (with_reducible refine (spec_l04Sides.calls k _ _ t219 t222 _ ?side1 ?side2 A5.out).mono ?_); (case side1 => repeat (first | exact (Kd.R_reads' HO221.out).2.2 | (with_reducible refine Kd.C_alloc ?_ _) | (with_reducible refine Kd.C_drewN ?_ _) | (with_reducible refine Kd.C_drew ?_))); (case side2 => exact (Kd.R_reads' HO221.out).2.1); rintro e w9 ⟨v223, rfl, ho0, hb⟩; refine ⟨_, rfl, ?_⟩; have n0_ := Aside0.mk (Kd.R_below (by (with_reducible repeat (first | apply rA | apply rN | apply rD)); exact HO221.out) hb); have n1_ := Aside0.mk (Kd.S_lower (Kd.S_newM (M := fun k_ => (P0_ k_ ∨ w.heap.size ≤ k_)) ho0 (by first | exact HK.out.1 | exact (show Kept w _ (fun k_ => P0_ k_) from by repeat (first | (with_reducible first | exact HK.out | apply Kept.alloc | apply Kept.drewN | apply Kept.drew) | exact HK.out)).1) (fun k_ h_ => .inr h_)) (below_size (by repeat (with_reducible first | exact HB.out | apply bA | apply bN | apply bD)))); have n2_ := Aside0.mk (Kept.below (S := (fun k_ => P0_ k_)) (by repeat (first | (with_reducible first | exact HK.out | apply Kept.alloc | apply Kept.drewN | apply Kept.drew) | exact HK.out)) hb); have n3_ := Aside0.mk (below_step (by repeat (with_reducible first | exact HB.out | apply bA | apply bN | apply bD)) hb); clear HO221; clear HK; clear HB; have HO221 := n0_; have HO224 := n1_; have HK := n2_; have HB := n3_; clear n0_ n1_ n2_ n3_; (try clear hb); (try clear hb2); (try clear hk); (try clear hi); (try clear ho0); obtain ⟨Ao10, co10, eo10⟩ := Kd.S_slice HO224.out; subst eo10))
 go_loopg [7, 16] k (fun kq v7 v16 w' => ∃ (x7_1 : Int) (x16_1 : Int), v7 = .int .i64 x7_1 ∧ v16 = .int .i64 x16_1 ∧ Aside0 (spec_l07Measure.l0 kq a1 a2 x7_1 t222 (t222.length : Int) x16_1 = some r) ∧ Aside0 (kq ≤ k) ∧ Aside0 (Kd.S (Kd.slice 3 (Kd.int .i64)) 45 w' w0.heap.size (fun k_ => (P0_ k_ ∨ w.heap.size ≤ k_)) (.slice Ao10 t222.length co10) t222) ∧ Aside0 (Kept w w' (fun k_ => P0_ k_)) ∧ Aside0 (Below w0.heap.size w0 w'))
 case atStart => exact ⟨(0), (0), (by first | rfl | (simp; done) | (simp [*]; done)), (by first | rfl | (simp; done) | (simp [*]; done)), H', ⟨Nat.le_refl _⟩, ⟨by (with_reducible repeat (first | apply Kd.S_alloc | apply Kd.S_drewN | apply Kd.S_drew)); exact Kd.S_mono HO224.out (fun _ hk => hk.1)⟩, ⟨by repeat (first | (with_reducible first | exact HK.out | apply Kept.alloc | apply Kept.drewN | apply Kept.drew) | exact HK.out)⟩, ⟨by repeat (with_reducible first | exact HB.out | apply bA | apply bN | apply bD)⟩⟩
 case round =>
  clear H'
  obtain ⟨x7_1, x16_1, rfl, rfl, HA, HK1, HO_14, HK, HB⟩ := hrel
  rcases gk with _|k1
  ·exact absurd HA.out (by simp [spec_l07Measure.l0])
  have H := HA.out
  clear HA
  simp only [spec_l07Measure.l0] at H
  by_cases c11 : x16_1 < (t222.length : Int)
  ·rw [if_pos c11] at H
   have c11b0 : decide (x16_1 < (t222.length : Int)) = true := decide_eq_true c11
   clear c11
   by_cases c12 : 0 ≤ x16_1
   rotate_left;·rw [if_neg c12] at H;exact absurd H (by simp)
   rw [if_pos c12] at H
   have c12b0 : decide (0 ≤ x16_1) = true := decide_eq_true c12
   clear c12
   by_cases c13 : x16_1 < (t222.length : Int)
   rotate_left;·rw [if_neg c13] at H;exact absurd H (by simp)
   rw [if_pos c13] at H
   have c13b0 : decide (x16_1 < (t222.length : Int)) = true := decide_eq_true c13
   clear c13
   by_cases c14 : 0 < ((rd_L3 t222 x16_1).length : Int)
   rotate_left;·rw [if_neg c14] at H;exact absurd H (by simp)
   rw [if_pos c14] at H
   have c14b0 : decide (0 < ((rd_L3 t222 x16_1).length : Int)) = true := decide_eq_true c14
   have c14b1 : decide (0 < (rd_L3 t222 x16_1).length) = true := decide_eq_true (by omega)
   clear c14
   by_cases c15 : 1 < ((rd_L3 t222 x16_1).length : Int)
   rotate_left;·rw [if_neg c15] at H;exact absurd H (by simp)
   rw [if_pos c15] at H
   have c15b0 : decide (1 < ((rd_L3 t222 x16_1).length : Int)) = true := decide_eq_true c15
   have c15b1 : decide (1 < (rd_L3 t222 x16_1).length) = true := decide_eq_true (by omega)
   clear c15
   replace H := Option.bind_eq_some_iff.mp H
   obtain ⟨t228, A160, H⟩ := H
   have A16 := Aside0.mk A160
   clear A160
   by_cases c17 : 0 < (t228.length : Int)
   rotate_left;·rw [if_neg c17] at H;exact absurd H (by simp)
   rw [if_pos c17] at H
   have c17b0 : decide (0 < (t228.length : Int)) = true := decide_eq_true c17
   have c17b1 : decide (0 < t228.length) = true := decide_eq_true (by omega)
   clear c17
   by_cases c18 : (rd t228 0) = a1
   ·rw [if_pos c18] at H
    have c18b0 : ((rd t228 0) == a1) = true := beq_iff_eq.mpr c18
    have c18b1 : ((rd t228 0) != a1) = false := bne_eq_false_iff_eq.mpr c18
    clear c18
    by_cases c19 : 1 < (t228.length : Int)
    rotate_left;·rw [if_neg c19] at H;exact absurd H (by simp)
    rw [if_pos c19] at H
    have c19b0 : decide (1 < (t228.length : Int)) = true := decide_eq_true c19
    have c19b1 : decide (1 < t228.length) = true := decide_eq_true (by omega)
    clear c19
    by_cases c20 : (rd t228 1) = a2
    ·rw [if_pos c20] at H
     have c20b0 : ((rd t228 1) == a2) = true := beq_iff_eq.mpr c20
     have c20b1 : ((rd t228 1) != a2) = false := bne_eq_false_iff_eq.mpr c20
     clear c20
     replace H := Option.bind_eq_some_iff.mp H
     obtain ⟨t235, A210, H⟩ := H
     have A21 := Aside0.mk A210
     clear A210
     by_cases c22 : (rd (rd_L3 t222 x16_1) 0) = (wrap64 (a1 * t235))
     ·rw [if_pos c22] at H
      have c22b0 : ((rd (rd_L3 t222 x16_1) 0) == (wrap64 (a1 * t235))) = true := beq_iff_eq.mpr c22
      have c22b1 : ((rd (rd_L3 t222 x16_1) 0) != (wrap64 (a1 * t235))) = false := bne_eq_false_iff_eq.mpr c22
      clear c22
      by_cases c23 : (rd (rd_L3 t222 x16_1) 1) = (wrap64 (a2 * t235))
      ·rw [if_pos c23] at H
       have c23b0 : ((rd (rd_L3 t222 x16_1) 1) == (wrap64 (a2 * t235))) = true := beq_iff_eq.mpr c23
       have c23b1 : ((rd (rd_L3 t222 x16_1) 1) != (wrap64 (a2 * t235))) = false := bne_eq_false_iff_eq.mpr c23
       clear c23
       have H' := Aside0.mk H
       clear H
       have p225 : 0 ≤ (x16_1 : Int) := of_decide_eq_true (by assumption)
       have q225 : x16_1 < (t222.length : Int) := of_decide_eq_true (by assumption)
       obtain ⟨ad225, A225_0, c225_0, e225, hx225_0, hl225_0, hi225_0⟩ := at_L3 (Kd.S_reads' HO_14.out).2.2 x16_1 p225 q225
       cases e225
       obtain ⟨ce225, hce225, hMe225, hcc225⟩ := Kd.S_get HO_14.out [] x16_1 p225 (by first | exact q225 | exact of_decide_eq_true (by assumption) | (have e_ := (Kd.S_reads' HO_14.out).1; omega))
       obtain ⟨ve225_0, rfl, ge225_0⟩ := hMe225
       have hv225_0 := hcc225 0 _ rfl
       rw [Nat.add_zero, show ((Kd.slice 3 (Kd.int .i64))).sz = 1 from rfl, Nat.mul_one] at hv225_0
       replace hv225_0 := Option.some.inj (hv225_0.symm.trans hx225_0)
       rw [hv225_0] at ge225_0
       have HL225_0 := Aside0.mk (show Kd.R (Kd.int .i64) 3 _ _ _ _ (rd_L3 t222 x16_1) from ge225_0)
       clear hv225_0 ge225_0
       clear hcc225 hce225
       have HR225_0 := Aside0.mk hi225_0
       have HC225_0 := Aside0.mk hl225_0
       clear hi225_0 hl225_0
       replace p225 := eq_true p225
       replace q225 := eq_true q225
       try go_wp2
       have n0_ := Aside0.mk (Kd.S_drew HO_14.out)
       have n1_ := Aside0.mk (Kd.R_drew HL225_0.out)
       have n2_ := Aside0.mk (Kd.C_drew HR225_0.out)
       have n3_ := Aside0.mk (Kept.drew HK.out)
       have n4_ := Aside0.mk (below_drew1 HB.out)
       clear HO_14
       clear HL225_0
       clear HR225_0
       clear HK
       clear HB
       have HO_14 := n0_
       have HL225_0 := n1_
       have HR225_0 := n2_
       have HK := n3_
       have HB := n4_
       clear n0_ n1_ n2_ n3_ n4_
       have p226 : 0 ≤ (0 : Int) := (by omega)
       have q226 : 0 < ((rd_L3 t222 x16_1).length : Int) := of_decide_eq_true (by assumption)
       obtain ⟨ad226, e226, hx226_0⟩ := Kd.at_int (by repeat (first | (with_reducible exact HR225_0.out) | (with_reducible refine Kd.C_alloc ?_ _) | (with_reducible refine Kd.C_drewN ?_ _) | (with_reducible refine Kd.C_drew ?_) | exact HR225_0.out)) 0 p226 q226
       cases e226
       have qi226 : (0 < (rd_L3 t222 x16_1).length) = True := eq_true (by omega)
       (try rw [show ((0 : Int)).toNat = 0 from rfl] at hx226_0)
       (try rw [Addr.add_zero'] at hx226_0)
       replace p226 := eq_true p226
       replace q226 := eq_true q226
       have p227 : 0 ≤ (1 : Int) := (by omega)
       have q227 : 1 < ((rd_L3 t222 x16_1).length : Int) := of_decide_eq_true (by assumption)
       obtain ⟨ad227, e227, hx227_0⟩ := Kd.at_int (by repeat (first | (with_reducible exact HR225_0.out) | (with_reducible refine Kd.C_alloc ?_ _) | (with_reducible refine Kd.C_drewN ?_ _) | (with_reducible refine Kd.C_drew ?_) | exact HR225_0.out)) 1 p227 q227
       obtain rfl : ad226 = ad227 := (by injection e227)
       (try simp only [show (1 : Int).toNat = 1 from rfl, Nat.reduceMul, Nat.reduceEqDiff, Go.Addr.add, ↓reduceIte] at hx227_0)
       have qi227 : (1 < (rd_L3 t222 x16_1).length) = True := eq_true (by omega)
       (try rw [show ((1 : Int)).toNat = 1 from rfl] at hx227_0)
       replace p227 := eq_true p227
       replace q227 := eq_true q227
       refine start_ (n := 8) (S := fun w' => w'.cell? ad226 = some (.int .i64 (rd (rd_L3 t222 x16_1) 0)) ∧ w'.cell? ⟨ad226.block, ad226.off + 1, none⟩ = some (.int .i64 (rd (rd_L3 t222 x16_1) 1))) (ds := []) (bV 8 0) (by kernel_rfl) rfl rfl ⟨hx226_0, hx227_0⟩ (fun hHeld => ?_); refine with_tabW spec_l07Measure.tab5 spec_l07Measure.bits5 (fun HT_ HW_ => ?_)
       generalize wr.drew = w24 at HO_14 HL225_0 HR225_0 HK HB hx226_0 hx227_0 hHeld ⊢
       refine pT 0 20 (bV 8 1) HT_.out ?_
       refine pT 1 21 (bV 8 3) HT_.out ?_
       refine pT 3 23 (bV 8 11) HT_.out ?_
       refine pT 4 24 (bV 8 27) HT_.out ?_
       refine tI 2 22 (bV 8 31) rfl (take_ofW HT_.out HW_.out (by kernel_rfl)) hHeld (by rintro w' ⟨s0, s1⟩;go_simp;with_reducible rfl) ?_
       refine tI 5 25 (bV 8 63) rfl (take_ofW HT_.out HW_.out (by kernel_rfl)) hHeld (by rintro w' ⟨s0, s1⟩;go_simp;with_reducible rfl) ?_
       refine one_ (i := 6) (N := some 26) (bV 8 127) rfl rfl (one_of HT_.out (by kernel_rfl)) (by decide) (fun K hK => ?_)
       refine goes_ Try.func64 (by kernel_rfl) rfl #[.int .i64 (rd (rd_L3 t222 x16_1) 0), .int .i64 (rd (rd_L3 t222 x16_1) 1)] (by rfl) rfl rfl (by (try simp only [List.map_toArray, List.map_cons, List.map_nil]); first | done | rfl) ?_
       with_reducible refine (spec_l07Direction.calls k1 (rd (rd_L3 t222 x16_1) 0) (rd (rd_L3 t222 x16_1) 1) t228 _ A16.out).mono ?_
       rintro e w25 ⟨v229, rfl, ho0, hb⟩
       have HS0_ := (hb.cell (World.block_lt_of_cell? _ _ (hHeld.1))).trans (hHeld.1)
       have HS1_ := (hb.cell (World.block_lt_of_cell? _ _ (hHeld.2))).trans (hHeld.2)
       refine ⟨_, rfl, ?_⟩
       have n0_ := Aside0.mk (Kd.S_elder' (by (with_reducible repeat (first | apply Kd.S_alloc | apply Kd.S_drewN | apply Kd.S_drew)); exact HO_14.out) (Kd.R_base ho0) hb)
       have n1_ := Aside0.mk (Kd.R_elder' (by (with_reducible repeat (first | apply rA | apply rN | apply rD)); exact HL225_0.out) (Kd.R_base ho0) hb)
       have n2_ := Aside0.mk (Kd.R_lower (Kd.R_new' (Kd.R_newM (M := fun k_ => (P0_ k_ ∨ w.heap.size ≤ k_)) ho0 (by first | exact HK.out.1 | exact (show Kept w _ (fun k_ => P0_ k_) from by repeat (first | (with_reducible first | exact HK.out | apply Kept.alloc | apply Kept.drewN | apply Kept.drew) | exact HK.out)).1) (fun k_ h_ => .inr h_)) (Kd.R_lt (by (with_reducible repeat (first | apply rA | apply rN | apply rD)); exact HL225_0.out))) (below_size (by repeat (with_reducible first | exact HB.out | apply bA | apply bN | apply bD))))
       have n3_ := Aside0.mk (Kd.C_below (by repeat (first | (with_reducible exact HR225_0.out) | (with_reducible refine Kd.C_alloc ?_ _) | (with_reducible refine Kd.C_drewN ?_ _) | (with_reducible refine Kd.C_drew ?_) | exact HR225_0.out)) hb)
       have n4_ := Aside0.mk (Kept.below (S := (fun k_ => P0_ k_)) (by repeat (first | (with_reducible first | exact HK.out | apply Kept.alloc | apply Kept.drewN | apply Kept.drew) | exact HK.out)) hb)
       have n5_ := Aside0.mk (below_step (by repeat (with_reducible first | exact HB.out | apply bA | apply bN | apply bD)) hb)
       clear HO_14
       clear HL225_0
       clear HR225_0
       clear HK
       clear HB
       have HO_14 := n0_
       have HL225_0 := n1_
       have HO230 := n2_
       have HR225_0 := n3_
       have HK := n4_
       have HB := n5_
       clear n0_ n1_ n2_ n3_ n4_ n5_
       (try clear hb)
       (try clear hb2)
       (try clear hk)
       (try clear hi)
       (try clear ho0)
       refine hK.out _ _ ⟨HS0_, HS1_⟩ (fun hHeld => ?_)
       clear hK K
       refine norm_ (a' := ?_) ?_ ?_
       rotate_left
       ·show Act.put _ (some 26) _ = _
        simp only [Act.put,sI,sZ,sS,i64_w,i32_w]
        rfl
       refine pT 7 10 (bV 8 255) HT_.out ?_
       refine done_ (done_of HT_.out (by kernel_rfl)) ?_
       obtain ⟨Ao26, co26, eo26⟩ := Kd.R_slice HO230.out
       subst eo26
       have p231 : 0 ≤ (0 : Int) := (by omega)
       have q231 : 0 < (t228.length : Int) := of_decide_eq_true (by assumption)
       obtain ⟨ad231, e231, hx231_0⟩ := Kd.at_int (Kd.R_reads' HO230.out).2.2 0 p231 q231
       cases e231
       have qi231 : (0 < t228.length) = True := eq_true (by omega)
       (try rw [show ((0 : Int)).toNat = 0 from rfl] at hx231_0)
       (try rw [Addr.add_zero'] at hx231_0)
       replace p231 := eq_true p231
       replace q231 := eq_true q231
       have p232 : 0 ≤ (1 : Int) := (by omega)
       have q232 : 1 < (t228.length : Int) := of_decide_eq_true (by assumption)
       obtain ⟨ad232, e232, hx232_0⟩ := Kd.at_int (Kd.R_reads' HO230.out).2.2 1 p232 q232
       obtain rfl : ad231 = ad232 := (by injection e232)
       (try simp only [show (1 : Int).toNat = 1 from rfl, Nat.reduceMul, Nat.reduceEqDiff, Go.Addr.add, ↓reduceIte] at hx232_0)
       have qi232 : (1 < t228.length) = True := eq_true (by omega)
       (try rw [show ((1 : Int)).toNat = 1 from rfl] at hx232_0)
       replace p232 := eq_true p232
       replace q232 := eq_true q232
       try go_wp2
       have n0_ := Aside0.mk (Kd.S_drew HO_14.out)
       have n1_ := Aside0.mk (Kd.R_drew HL225_0.out)
       have n2_ := Aside0.mk (Kd.R_drew HO230.out)
       have n3_ := Aside0.mk (Kd.C_drew HR225_0.out)
       have n4_ := Aside0.mk (Kept.drew HK.out)
       have n5_ := Aside0.mk (below_drew1 HB.out)
       clear HO_14
       clear HL225_0
       clear HO230
       clear HR225_0
       clear HK
       clear HB
       have HO_14 := n0_
       have HL225_0 := n1_
       have HO230 := n2_
       have HR225_0 := n3_
       have HK := n4_
       have HB := n5_
       clear n0_ n1_ n2_ n3_ n4_ n5_
       have p233 : 0 ≤ (0 : Int) := (by omega)
       have q233 : 0 < ((rd_L3 t222 x16_1).length : Int) := of_decide_eq_true (by assumption)
       obtain ⟨ad233, e233, hx233_0⟩ := Kd.at_int (by repeat (first | (with_reducible exact HR225_0.out) | (with_reducible refine Kd.C_alloc ?_ _) | (with_reducible refine Kd.C_drewN ?_ _) | (with_reducible refine Kd.C_drew ?_) | exact HR225_0.out)) 0 p233 q233
       obtain rfl : ad226 = ad233 := (by injection e233)
       have qi233 : (0 < (rd_L3 t222 x16_1).length) = True := eq_true (by omega)
       (try rw [show ((0 : Int)).toNat = 0 from rfl] at hx233_0)
       (try rw [Addr.add_zero'] at hx233_0)
       replace p233 := eq_true p233
       replace q233 := eq_true q233
       have p234 : 0 ≤ (1 : Int) := (by omega)
       have q234 : 1 < ((rd_L3 t222 x16_1).length : Int) := of_decide_eq_true (by assumption)
       obtain ⟨ad234, e234, hx234_0⟩ := Kd.at_int (by repeat (first | (with_reducible exact HR225_0.out) | (with_reducible refine Kd.C_alloc ?_ _) | (with_reducible refine Kd.C_drewN ?_ _) | (with_reducible refine Kd.C_drew ?_) | exact HR225_0.out)) 1 p234 q234
       obtain rfl : ad226 = ad234 := (by injection e234)
       (try simp only [show (1 : Int).toNat = 1 from rfl, Nat.reduceMul, Nat.reduceEqDiff, Go.Addr.add, ↓reduceIte] at hx234_0)
       have qi234 : (1 < (rd_L3 t222 x16_1).length) = True := eq_true (by omega)
       (try rw [show ((1 : Int)).toNat = 1 from rfl] at hx234_0)
       replace p234 := eq_true p234
       replace q234 := eq_true q234
       refine start_ (n := 8) (S := fun w' => w'.cell? ad226 = some (.int .i64 (rd (rd_L3 t222 x16_1) 0)) ∧ w'.cell? ⟨ad226.block, ad226.off + 1, none⟩ = some (.int .i64 (rd (rd_L3 t222 x16_1) 1))) (ds := []) (bV 8 0) (by kernel_rfl) rfl rfl ⟨hx233_0, hx234_0⟩ (fun hHeld => ?_); refine with_tabW spec_l07Measure.tab7 spec_l07Measure.bits7 (fun HT_ HW_ => ?_)
       generalize w25.drew = w27 at HO_14 HL225_0 HO230 HR225_0 HK HB hx233_0 hx234_0 hHeld ⊢
       refine pT 0 39 (bV 8 1) HT_.out ?_
       refine pT 1 40 (bV 8 3) HT_.out ?_
       refine pT 3 42 (bV 8 11) HT_.out ?_
       refine pT 4 43 (bV 8 27) HT_.out ?_
       refine tI 2 41 (bV 8 31) rfl (take_ofW HT_.out HW_.out (by kernel_rfl)) hHeld (by rintro w' ⟨s0, s1⟩;go_simp;with_reducible rfl) ?_
       refine tI 5 44 (bV 8 63) rfl (take_ofW HT_.out HW_.out (by kernel_rfl)) hHeld (by rintro w' ⟨s0, s1⟩;go_simp;with_reducible rfl) ?_
       refine one_ (i := 6) (N := some 45) (bV 8 127) rfl rfl (one_of HT_.out (by kernel_rfl)) (by decide) (fun K hK => ?_)
       refine goes_ Try.func65 (by kernel_rfl) rfl #[.int .i64 (rd (rd_L3 t222 x16_1) 0), .int .i64 (rd (rd_L3 t222 x16_1) 1)] (by rfl) rfl rfl (by (try simp only [List.map_toArray, List.map_cons, List.map_nil]); first | done | rfl) ?_
       with_reducible refine (spec_l02Gcd.calls k1 (rd (rd_L3 t222 x16_1) 0) (rd (rd_L3 t222 x16_1) 1) t235 _ A21.out).mono ?_
       rintro e w28 ⟨rfl, hb⟩
       have HS0_ := (hb.cell (World.block_lt_of_cell? _ _ (hHeld.1))).trans (hHeld.1)
       have HS1_ := (hb.cell (World.block_lt_of_cell? _ _ (hHeld.2))).trans (hHeld.2)
       refine ⟨_, rfl, ?_⟩
       have n0_ := Aside0.mk (Kd.S_below (by (with_reducible repeat (first | apply Kd.S_alloc | apply Kd.S_drewN | apply Kd.S_drew)); exact HO_14.out) hb)
       have n1_ := Aside0.mk (Kd.R_below (by (with_reducible repeat (first | apply rA | apply rN | apply rD)); exact HL225_0.out) hb)
       have n2_ := Aside0.mk (Kd.R_below (by (with_reducible repeat (first | apply rA | apply rN | apply rD)); exact HO230.out) hb)
       have n3_ := Aside0.mk (Kd.C_below (by repeat (first | (with_reducible exact HR225_0.out) | (with_reducible refine Kd.C_alloc ?_ _) | (with_reducible refine Kd.C_drewN ?_ _) | (with_reducible refine Kd.C_drew ?_) | exact HR225_0.out)) hb)
       have n4_ := Aside0.mk (Kept.below (S := (fun k_ => P0_ k_)) (by repeat (first | (with_reducible first | exact HK.out | apply Kept.alloc | apply Kept.drewN | apply Kept.drew) | exact HK.out)) hb)
       have n5_ := Aside0.mk (below_step (by repeat (with_reducible first | exact HB.out | apply bA | apply bN | apply bD)) hb)
       clear HO_14
       clear HL225_0
       clear HO230
       clear HR225_0
       clear HK
       clear HB
       have HO_14 := n0_
       have HL225_0 := n1_
       have HO230 := n2_
       have HR225_0 := n3_
       have HK := n4_
       have HB := n5_
       clear n0_ n1_ n2_ n3_ n4_ n5_
       (try clear hb)
       (try clear hb2)
       (try clear hk)
       (try clear hi)
       refine hK.out _ _ ⟨HS0_, HS1_⟩ (fun hHeld => ?_)
       clear hK K
       refine norm_ (a' := ?_) ?_ ?_
       rotate_left
       ·show Act.put _ (some 45) _ = _
        simp only [Act.put,sI,sZ,sS,i64_w,i32_w]
        rfl
       refine pT 7 11 (bV 8 255) HT_.out ?_
       refine done_ (done_of HT_.out (by kernel_rfl)) ?_
       have p236 : 0 ≤ (0 : Int) := (by omega)
       have q236 : 0 < ((rd_L3 t222 x16_1).length : Int) := of_decide_eq_true (by assumption)
       obtain ⟨ad236, e236, hx236_0⟩ := Kd.at_int (by repeat (first | (with_reducible exact HR225_0.out) | (with_reducible refine Kd.C_alloc ?_ _) | (with_reducible refine Kd.C_drewN ?_ _) | (with_reducible refine Kd.C_drew ?_) | exact HR225_0.out)) 0 p236 q236
       obtain rfl : ad226 = ad236 := (by injection e236)
       have qi236 : (0 < (rd_L3 t222 x16_1).length) = True := eq_true (by omega)
       (try rw [show ((0 : Int)).toNat = 0 from rfl] at hx236_0)
       (try rw [Addr.add_zero'] at hx236_0)
       replace p236 := eq_true p236
       replace q236 := eq_true q236
       have p237 : 0 ≤ (1 : Int) := (by omega)
       have q237 : 1 < ((rd_L3 t222 x16_1).length : Int) := of_decide_eq_true (by assumption)
       obtain ⟨ad237, e237, hx237_0⟩ := Kd.at_int (by repeat (first | (with_reducible exact HR225_0.out) | (with_reducible refine Kd.C_alloc ?_ _) | (with_reducible refine Kd.C_drewN ?_ _) | (with_reducible refine Kd.C_drew ?_) | exact HR225_0.out)) 1 p237 q237
       obtain rfl : ad226 = ad237 := (by injection e237)
       (try simp only [show (1 : Int).toNat = 1 from rfl, Nat.reduceMul, Nat.reduceEqDiff, Go.Addr.add, ↓reduceIte] at hx237_0)
       have qi237 : (1 < (rd_L3 t222 x16_1).length) = True := eq_true (by omega)
       (try rw [show ((1 : Int)).toNat = 1 from rfl] at hx237_0)
       replace p237 := eq_true p237
       replace q237 := eq_true q237
       try go_wp2
       go_roundg k1
       case measure => have := HK1.out; omega
       case rel => exact ⟨(wrap64 (x7_1 + t235)), (wrap64 (x16_1 + 1)), (by first | rfl | (simp; done) | (simp [*]; done)), (by first | rfl | (simp; done) | (simp [*]; done)), H', ⟨by have := HK1.out; omega⟩, ⟨by (with_reducible repeat (first | apply Kd.S_alloc | apply Kd.S_drewN | apply Kd.S_drew)); exact Kd.S_mono HO_14.out (fun _ hk => hk.1)⟩, ⟨by repeat (first | (with_reducible first | exact HK.out | apply Kept.alloc | apply Kept.drewN | apply Kept.drew) | exact HK.out)⟩, ⟨by repeat (with_reducible first | exact HB.out | apply bA | apply bN | apply bD)⟩⟩
      ·rw [if_neg c23] at H
       have c23b0 : ((rd (rd_L3 t222 x16_1) 1) == (wrap64 (a2 * t235))) = false := beq_eq_false_iff_ne.mpr c23
       have c23b1 : ((rd (rd_L3 t222 x16_1) 1) != (wrap64 (a2 * t235))) = true := bne_iff_ne.mpr c23
       have H' := Aside0.mk H
       clear H
       have p225 : 0 ≤ (x16_1 : Int) := of_decide_eq_true (by assumption)
       have q225 : x16_1 < (t222.length : Int) := of_decide_eq_true (by assumption)
       obtain ⟨ad225, A225_0, c225_0, e225, hx225_0, hl225_0, hi225_0⟩ := at_L3 (Kd.S_reads' HO_14.out).2.2 x16_1 p225 q225
       cases e225
       obtain ⟨ce225, hce225, hMe225, hcc225⟩ := Kd.S_get HO_14.out [] x16_1 p225 (by first | exact q225 | exact of_decide_eq_true (by assumption) | (have e_ := (Kd.S_reads' HO_14.out).1; omega))
       obtain ⟨ve225_0, rfl, ge225_0⟩ := hMe225
       have hv225_0 := hcc225 0 _ rfl
       rw [Nat.add_zero, show ((Kd.slice 3 (Kd.int .i64))).sz = 1 from rfl, Nat.mul_one] at hv225_0
       replace hv225_0 := Option.some.inj (hv225_0.symm.trans hx225_0)
       rw [hv225_0] at ge225_0
       have HL225_0 := Aside0.mk (show Kd.R (Kd.int .i64) 3 _ _ _ _ (rd_L3 t222 x16_1) from ge225_0)
       clear hv225_0 ge225_0
       clear hcc225 hce225
       have HR225_0 := Aside0.mk hi225_0
       have HC225_0 := Aside0.mk hl225_0
       clear hi225_0 hl225_0
       replace p225 := eq_true p225
       replace q225 := eq_true q225
       try go_wp2
       have n0_ := Aside0.mk (Kd.S_drew HO_14.out)
       have n1_ := Aside0.mk (Kd.R_drew HL225_0.out)
       have n2_ := Aside0.mk (Kd.C_drew HR225_0.out)
       have n3_ := Aside0.mk (Kept.drew HK.out)
       have n4_ := Aside0.mk (below_drew1 HB.out)
       clear HO_14
       clear HL225_0
       clear HR225_0
       clear HK
       clear HB
       have HO_14 := n0_
       have HL225_0 := n1_
       have HR225_0 := n2_
       have HK := n3_
       have HB := n4_
       clear n0_ n1_ n2_ n3_ n4_
       have p226 : 0 ≤ (0 : Int) := (by omega)
       have q226 : 0 < ((rd_L3 t222 x16_1).length : Int) := of_decide_eq_true (by assumption)
       obtain ⟨ad226, e226, hx226_0⟩ := Kd.at_int (by repeat (first | (with_reducible exact HR225_0.out) | (with_reducible refine Kd.C_alloc ?_ _) | (with_reducible refine Kd.C_drewN ?_ _) | (with_reducible refine Kd.C_drew ?_) | exact HR225_0.out)) 0 p226 q226
       cases e226
       have qi226 : (0 < (rd_L3 t222 x16_1).length) = True := eq_true (by omega)
       (try rw [show ((0 : Int)).toNat = 0 from rfl] at hx226_0)
       (try rw [Addr.add_zero'] at hx226_0)
       replace p226 := eq_true p226
       replace q226 := eq_true q226
       have p227 : 0 ≤ (1 : Int) := (by omega)
       have q227 : 1 < ((rd_L3 t222 x16_1).length : Int) := of_decide_eq_true (by assumption)
       obtain ⟨ad227, e227, hx227_0⟩ := Kd.at_int (by repeat (first | (with_reducible exact HR225_0.out) | (with_reducible refine Kd.C_alloc ?_ _) | (with_reducible refine Kd.C_drewN ?_ _) | (with_reducible refine Kd.C_drew ?_) | exact HR225_0.out)) 1 p227 q227
       obtain rfl : ad226 = ad227 := (by injection e227)
       (try simp only [show (1 : Int).toNat = 1 from rfl, Nat.reduceMul, Nat.reduceEqDiff, Go.Addr.add, ↓reduceIte] at hx227_0)
       have qi227 : (1 < (rd_L3 t222 x16_1).length) = True := eq_true (by omega)
       (try rw [show ((1 : Int)).toNat = 1 from rfl] at hx227_0)
       replace p227 := eq_true p227
       replace q227 := eq_true q227
       refine start_ (n := 8) (S := fun w' => w'.cell? ad226 = some (.int .i64 (rd (rd_L3 t222 x16_1) 0)) ∧ w'.cell? ⟨ad226.block, ad226.off + 1, none⟩ = some (.int .i64 (rd (rd_L3 t222 x16_1) 1))) (ds := []) (bV 8 0) (by kernel_rfl) rfl rfl ⟨hx226_0, hx227_0⟩ (fun hHeld => ?_); refine with_tabW spec_l07Measure.tab5 spec_l07Measure.bits5 (fun HT_ HW_ => ?_)
       generalize wr.drew = w29 at HO_14 HL225_0 HR225_0 HK HB hx226_0 hx227_0 hHeld ⊢
       refine pT 0 20 (bV 8 1) HT_.out ?_
       refine pT 1 21 (bV 8 3) HT_.out ?_
       refine pT 3 23 (bV 8 11) HT_.out ?_
       refine pT 4 24 (bV 8 27) HT_.out ?_
       refine tI 2 22 (bV 8 31) rfl (take_ofW HT_.out HW_.out (by kernel_rfl)) hHeld (by rintro w' ⟨s0, s1⟩;go_simp;with_reducible rfl) ?_
       refine tI 5 25 (bV 8 63) rfl (take_ofW HT_.out HW_.out (by kernel_rfl)) hHeld (by rintro w' ⟨s0, s1⟩;go_simp;with_reducible rfl) ?_
       refine one_ (i := 6) (N := some 26) (bV 8 127) rfl rfl (one_of HT_.out (by kernel_rfl)) (by decide) (fun K hK => ?_)
       refine goes_ Try.func64 (by kernel_rfl) rfl #[.int .i64 (rd (rd_L3 t222 x16_1) 0), .int .i64 (rd (rd_L3 t222 x16_1) 1)] (by rfl) rfl rfl (by (try simp only [List.map_toArray, List.map_cons, List.map_nil]); first | done | rfl) ?_
       with_reducible refine (spec_l07Direction.calls k1 (rd (rd_L3 t222 x16_1) 0) (rd (rd_L3 t222 x16_1) 1) t228 _ A16.out).mono ?_
       rintro e w30 ⟨v229, rfl, ho0, hb⟩
       have HS0_ := (hb.cell (World.block_lt_of_cell? _ _ (hHeld.1))).trans (hHeld.1)
       have HS1_ := (hb.cell (World.block_lt_of_cell? _ _ (hHeld.2))).trans (hHeld.2)
       refine ⟨_, rfl, ?_⟩
       have n0_ := Aside0.mk (Kd.S_elder' (by (with_reducible repeat (first | apply Kd.S_alloc | apply Kd.S_drewN | apply Kd.S_drew)); exact HO_14.out) (Kd.R_base ho0) hb)
       have n1_ := Aside0.mk (Kd.R_elder' (by (with_reducible repeat (first | apply rA | apply rN | apply rD)); exact HL225_0.out) (Kd.R_base ho0) hb)
       have n2_ := Aside0.mk (Kd.R_lower (Kd.R_new' (Kd.R_newM (M := fun k_ => (P0_ k_ ∨ w.heap.size ≤ k_)) ho0 (by first | exact HK.out.1 | exact (show Kept w _ (fun k_ => P0_ k_) from by repeat (first | (with_reducible first | exact HK.out | apply Kept.alloc | apply Kept.drewN | apply Kept.drew) | exact HK.out)).1) (fun k_ h_ => .inr h_)) (Kd.R_lt (by (with_reducible repeat (first | apply rA | apply rN | apply rD)); exact HL225_0.out))) (below_size (by repeat (with_reducible first | exact HB.out | apply bA | apply bN | apply bD))))
       have n3_ := Aside0.mk (Kd.C_below (by repeat (first | (with_reducible exact HR225_0.out) | (with_reducible refine Kd.C_alloc ?_ _) | (with_reducible refine Kd.C_drewN ?_ _) | (with_reducible refine Kd.C_drew ?_) | exact HR225_0.out)) hb)
       have n4_ := Aside0.mk (Kept.below (S := (fun k_ => P0_ k_)) (by repeat (first | (with_reducible first | exact HK.out | apply Kept.alloc | apply Kept.drewN | apply Kept.drew) | exact HK.out)) hb)
       have n5_ := Aside0.mk (below_step (by repeat (with_reducible first | exact HB.out | apply bA | apply bN | apply bD)) hb)
       clear HO_14
       clear HL225_0
       clear HR225_0
       clear HK
       clear HB
       have HO_14 := n0_
       have HL225_0 := n1_
       have HO230 := n2_
       have HR225_0 := n3_
       have HK := n4_
       have HB := n5_
       clear n0_ n1_ n2_ n3_ n4_ n5_
       (try clear hb)
       (try clear hb2)
       (try clear hk)
       (try clear hi)
       (try clear ho0)
       refine hK.out _ _ ⟨HS0_, HS1_⟩ (fun hHeld => ?_)
       clear hK K
       refine norm_ (a' := ?_) ?_ ?_
       rotate_left
       ·show Act.put _ (some 26) _ = _
        simp only [Act.put,sI,sZ,sS,i64_w,i32_w]
        rfl
       refine pT 7 10 (bV 8 255) HT_.out ?_
       refine done_ (done_of HT_.out (by kernel_rfl)) ?_
       obtain ⟨Ao31, co31, eo31⟩ := Kd.R_slice HO230.out
       subst eo31
       have p231 : 0 ≤ (0 : Int) := (by omega)
       have q231 : 0 < (t228.length : Int) := of_decide_eq_true (by assumption)
       obtain ⟨ad231, e231, hx231_0⟩ := Kd.at_int (Kd.R_reads' HO230.out).2.2 0 p231 q231
       cases e231
       have qi231 : (0 < t228.length) = True := eq_true (by omega)
       (try rw [show ((0 : Int)).toNat = 0 from rfl] at hx231_0)
       (try rw [Addr.add_zero'] at hx231_0)
       replace p231 := eq_true p231
       replace q231 := eq_true q231
       have p232 : 0 ≤ (1 : Int) := (by omega)
       have q232 : 1 < (t228.length : Int) := of_decide_eq_true (by assumption)
       obtain ⟨ad232, e232, hx232_0⟩ := Kd.at_int (Kd.R_reads' HO230.out).2.2 1 p232 q232
       obtain rfl : ad231 = ad232 := (by injection e232)
       (try simp only [show (1 : Int).toNat = 1 from rfl, Nat.reduceMul, Nat.reduceEqDiff, Go.Addr.add, ↓reduceIte] at hx232_0)
       have qi232 : (1 < t228.length) = True := eq_true (by omega)
       (try rw [show ((1 : Int)).toNat = 1 from rfl] at hx232_0)
       replace p232 := eq_true p232
       replace q232 := eq_true q232
       try go_wp2
       have n0_ := Aside0.mk (Kd.S_drew HO_14.out)
       have n1_ := Aside0.mk (Kd.R_drew HL225_0.out)
       have n2_ := Aside0.mk (Kd.R_drew HO230.out)
       have n3_ := Aside0.mk (Kd.C_drew HR225_0.out)
       have n4_ := Aside0.mk (Kept.drew HK.out)
       have n5_ := Aside0.mk (below_drew1 HB.out)
       clear HO_14
       clear HL225_0
       clear HO230
       clear HR225_0
       clear HK
       clear HB
       have HO_14 := n0_
       have HL225_0 := n1_
       have HO230 := n2_
       have HR225_0 := n3_
       have HK := n4_
       have HB := n5_
       clear n0_ n1_ n2_ n3_ n4_ n5_
       have p233 : 0 ≤ (0 : Int) := (by omega)
       have q233 : 0 < ((rd_L3 t222 x16_1).length : Int) := of_decide_eq_true (by assumption)
       obtain ⟨ad233, e233, hx233_0⟩ := Kd.at_int (by repeat (first | (with_reducible exact HR225_0.out) | (with_reducible refine Kd.C_alloc ?_ _) | (with_reducible refine Kd.C_drewN ?_ _) | (with_reducible refine Kd.C_drew ?_) | exact HR225_0.out)) 0 p233 q233
       obtain rfl : ad226 = ad233 := (by injection e233)
       have qi233 : (0 < (rd_L3 t222 x16_1).length) = True := eq_true (by omega)
       (try rw [show ((0 : Int)).toNat = 0 from rfl] at hx233_0)
       (try rw [Addr.add_zero'] at hx233_0)
       replace p233 := eq_true p233
       replace q233 := eq_true q233
       have p234 : 0 ≤ (1 : Int) := (by omega)
       have q234 : 1 < ((rd_L3 t222 x16_1).length : Int) := of_decide_eq_true (by assumption)
       obtain ⟨ad234, e234, hx234_0⟩ := Kd.at_int (by repeat (first | (with_reducible exact HR225_0.out) | (with_reducible refine Kd.C_alloc ?_ _) | (with_reducible refine Kd.C_drewN ?_ _) | (with_reducible refine Kd.C_drew ?_) | exact HR225_0.out)) 1 p234 q234
       obtain rfl : ad226 = ad234 := (by injection e234)
       (try simp only [show (1 : Int).toNat = 1 from rfl, Nat.reduceMul, Nat.reduceEqDiff, Go.Addr.add, ↓reduceIte] at hx234_0)
       have qi234 : (1 < (rd_L3 t222 x16_1).length) = True := eq_true (by omega)
       (try rw [show ((1 : Int)).toNat = 1 from rfl] at hx234_0)
       replace p234 := eq_true p234
       replace q234 := eq_true q234
       refine start_ (n := 8) (S := fun w' => w'.cell? ad226 = some (.int .i64 (rd (rd_L3 t222 x16_1) 0)) ∧ w'.cell? ⟨ad226.block, ad226.off + 1, none⟩ = some (.int .i64 (rd (rd_L3 t222 x16_1) 1))) (ds := []) (bV 8 0) (by kernel_rfl) rfl rfl ⟨hx233_0, hx234_0⟩ (fun hHeld => ?_); refine with_tabW spec_l07Measure.tab7 spec_l07Measure.bits7 (fun HT_ HW_ => ?_)
       generalize w30.drew = w32 at HO_14 HL225_0 HO230 HR225_0 HK HB hx233_0 hx234_0 hHeld ⊢
       refine pT 0 39 (bV 8 1) HT_.out ?_
       refine pT 1 40 (bV 8 3) HT_.out ?_
       refine pT 3 42 (bV 8 11) HT_.out ?_
       refine pT 4 43 (bV 8 27) HT_.out ?_
       refine tI 2 41 (bV 8 31) rfl (take_ofW HT_.out HW_.out (by kernel_rfl)) hHeld (by rintro w' ⟨s0, s1⟩;go_simp;with_reducible rfl) ?_
       refine tI 5 44 (bV 8 63) rfl (take_ofW HT_.out HW_.out (by kernel_rfl)) hHeld (by rintro w' ⟨s0, s1⟩;go_simp;with_reducible rfl) ?_
       refine one_ (i := 6) (N := some 45) (bV 8 127) rfl rfl (one_of HT_.out (by kernel_rfl)) (by decide) (fun K hK => ?_)
       refine goes_ Try.func65 (by kernel_rfl) rfl #[.int .i64 (rd (rd_L3 t222 x16_1) 0), .int .i64 (rd (rd_L3 t222 x16_1) 1)] (by rfl) rfl rfl (by (try simp only [List.map_toArray, List.map_cons, List.map_nil]); first | done | rfl) ?_
       with_reducible refine (spec_l02Gcd.calls k1 (rd (rd_L3 t222 x16_1) 0) (rd (rd_L3 t222 x16_1) 1) t235 _ A21.out).mono ?_
       rintro e w33 ⟨rfl, hb⟩
       have HS0_ := (hb.cell (World.block_lt_of_cell? _ _ (hHeld.1))).trans (hHeld.1)
       have HS1_ := (hb.cell (World.block_lt_of_cell? _ _ (hHeld.2))).trans (hHeld.2)
       refine ⟨_, rfl, ?_⟩
       have n0_ := Aside0.mk (Kd.S_below (by (with_reducible repeat (first | apply Kd.S_alloc | apply Kd.S_drewN | apply Kd.S_drew)); exact HO_14.out) hb)
       have n1_ := Aside0.mk (Kd.R_below (by (with_reducible repeat (first | apply rA | apply rN | apply rD)); exact HL225_0.out) hb)
       have n2_ := Aside0.mk (Kd.R_below (by (with_reducible repeat (first | apply rA | apply rN | apply rD)); exact HO230.out) hb)
       have n3_ := Aside0.mk (Kd.C_below (by repeat (first | (with_reducible exact HR225_0.out) | (with_reducible refine Kd.C_alloc ?_ _) | (with_reducible refine Kd.C_drewN ?_ _) | (with_reducible refine Kd.C_drew ?_) | exact HR225_0.out)) hb)
       have n4_ := Aside0.mk (Kept.below (S := (fun k_ => P0_ k_)) (by repeat (first | (with_reducible first | exact HK.out | apply Kept.alloc | apply Kept.drewN | apply Kept.drew) | exact HK.out)) hb)
       have n5_ := Aside0.mk (below_step (by repeat (with_reducible first | exact HB.out | apply bA | apply bN | apply bD)) hb)
       clear HO_14
       clear HL225_0
       clear HO230
       clear HR225_0
       clear HK
       clear HB
       have HO_14 := n0_
       have HL225_0 := n1_
       have HO230 := n2_
       have HR225_0 := n3_
       have HK := n4_
       have HB := n5_
       clear n0_ n1_ n2_ n3_ n4_ n5_
       (try clear hb)
       (try clear hb2)
       (try clear hk)
       (try clear hi)
       refine hK.out _ _ ⟨HS0_, HS1_⟩ (fun hHeld => ?_)
       clear hK K
       refine norm_ (a' := ?_) ?_ ?_
       rotate_left
       ·show Act.put _ (some 45) _ = _
        simp only [Act.put,sI,sZ,sS,i64_w,i32_w]
        rfl
       refine pT 7 11 (bV 8 255) HT_.out ?_
       refine done_ (done_of HT_.out (by kernel_rfl)) ?_
       have p236 : 0 ≤ (0 : Int) := (by omega)
       have q236 : 0 < ((rd_L3 t222 x16_1).length : Int) := of_decide_eq_true (by assumption)
       obtain ⟨ad236, e236, hx236_0⟩ := Kd.at_int (by repeat (first | (with_reducible exact HR225_0.out) | (with_reducible refine Kd.C_alloc ?_ _) | (with_reducible refine Kd.C_drewN ?_ _) | (with_reducible refine Kd.C_drew ?_) | exact HR225_0.out)) 0 p236 q236
       obtain rfl : ad226 = ad236 := (by injection e236)
       have qi236 : (0 < (rd_L3 t222 x16_1).length) = True := eq_true (by omega)
       (try rw [show ((0 : Int)).toNat = 0 from rfl] at hx236_0)
       (try rw [Addr.add_zero'] at hx236_0)
       replace p236 := eq_true p236
       replace q236 := eq_true q236
       have p237 : 0 ≤ (1 : Int) := (by omega)
       have q237 : 1 < ((rd_L3 t222 x16_1).length : Int) := of_decide_eq_true (by assumption)
       obtain ⟨ad237, e237, hx237_0⟩ := Kd.at_int (by repeat (first | (with_reducible exact HR225_0.out) | (with_reducible refine Kd.C_alloc ?_ _) | (with_reducible refine Kd.C_drewN ?_ _) | (with_reducible refine Kd.C_drew ?_) | exact HR225_0.out)) 1 p237 q237
       obtain rfl : ad226 = ad237 := (by injection e237)
       (try simp only [show (1 : Int).toNat = 1 from rfl, Nat.reduceMul, Nat.reduceEqDiff, Go.Addr.add, ↓reduceIte] at hx237_0)
       have qi237 : (1 < (rd_L3 t222 x16_1).length) = True := eq_true (by omega)
       (try rw [show ((1 : Int)).toNat = 1 from rfl] at hx237_0)
       replace p237 := eq_true p237
       replace q237 := eq_true q237
       try go_wp2
       go_roundg k1
       case measure => have := HK1.out; omega
       case rel => exact ⟨(wrap64 (x7_1 - t235)), (wrap64 (x16_1 + 1)), (by first | rfl | (simp; done) | (simp [*]; done)), (by first | rfl | (simp; done) | (simp [*]; done)), H', ⟨by have := HK1.out; omega⟩, ⟨by (with_reducible repeat (first | apply Kd.S_alloc | apply Kd.S_drewN | apply Kd.S_drew)); exact Kd.S_mono HO_14.out (fun _ hk => hk.1)⟩, ⟨by repeat (first | (with_reducible first | exact HK.out | apply Kept.alloc | apply Kept.drewN | apply Kept.drew) | exact HK.out)⟩, ⟨by repeat (with_reducible first | exact HB.out | apply bA | apply bN | apply bD)⟩⟩
     ·rw [if_neg c22] at H
      have c22b0 : ((rd (rd_L3 t222 x16_1) 0) == (wrap64 (a1 * t235))) = false := beq_eq_false_iff_ne.mpr c22
      have c22b1 : ((rd (rd_L3 t222 x16_1) 0) != (wrap64 (a1 * t235))) = true := bne_iff_ne.mpr c22
      have H' := Aside0.mk H
      clear H
      have p225 : 0 ≤ (x16_1 : Int) := of_decide_eq_true (by assumption)
      have q225 : x16_1 < (t222.length : Int) := of_decide_eq_true (by assumption)
      obtain ⟨ad225, A225_0, c225_0, e225, hx225_0, hl225_0, hi225_0⟩ := at_L3 (Kd.S_reads' HO_14.out).2.2 x16_1 p225 q225
      cases e225
      obtain ⟨ce225, hce225, hMe225, hcc225⟩ := Kd.S_get HO_14.out [] x16_1 p225 (by first | exact q225 | exact of_decide_eq_true (by assumption) | (have e_ := (Kd.S_reads' HO_14.out).1; omega))
      obtain ⟨ve225_0, rfl, ge225_0⟩ := hMe225
      have hv225_0 := hcc225 0 _ rfl
      rw [Nat.add_zero, show ((Kd.slice 3 (Kd.int .i64))).sz = 1 from rfl, Nat.mul_one] at hv225_0
      replace hv225_0 := Option.some.inj (hv225_0.symm.trans hx225_0)
      rw [hv225_0] at ge225_0
      have HL225_0 := Aside0.mk (show Kd.R (Kd.int .i64) 3 _ _ _ _ (rd_L3 t222 x16_1) from ge225_0)
      clear hv225_0 ge225_0
      clear hcc225 hce225
      have HR225_0 := Aside0.mk hi225_0
      have HC225_0 := Aside0.mk hl225_0
      clear hi225_0 hl225_0
      replace p225 := eq_true p225
      replace q225 := eq_true q225
      try go_wp2
      have n0_ := Aside0.mk (Kd.S_drew HO_14.out)
      have n1_ := Aside0.mk (Kd.R_drew HL225_0.out)
      have n2_ := Aside0.mk (Kd.C_drew HR225_0.out)
      have n3_ := Aside0.mk (Kept.drew HK.out)
      have n4_ := Aside0.mk (below_drew1 HB.out)
      clear HO_14
      clear HL225_0
      clear HR225_0
      clear HK
      clear HB
      have HO_14 := n0_
      have HL225_0 := n1_
      have HR225_0 := n2_
      have HK := n3_
      have HB := n4_
      clear n0_ n1_ n2_ n3_ n4_
      have p226 : 0 ≤ (0 : Int) := (by omega)
      have q226 : 0 < ((rd_L3 t222 x16_1).length : Int) := of_decide_eq_true (by assumption)
      obtain ⟨ad226, e226, hx226_0⟩ := Kd.at_int (by repeat (first | (with_reducible exact HR225_0.out) | (with_reducible refine Kd.C_alloc ?_ _) | (with_reducible refine Kd.C_drewN ?_ _) | (with_reducible refine Kd.C_drew ?_) | exact HR225_0.out)) 0 p226 q226
      cases e226
      have qi226 : (0 < (rd_L3 t222 x16_1).length) = True := eq_true (by omega)
      (try rw [show ((0 : Int)).toNat = 0 from rfl] at hx226_0)
      (try rw [Addr.add_zero'] at hx226_0)
      replace p226 := eq_true p226
      replace q226 := eq_true q226
      have p227 : 0 ≤ (1 : Int) := (by omega)
      have q227 : 1 < ((rd_L3 t222 x16_1).length : Int) := of_decide_eq_true (by assumption)
      obtain ⟨ad227, e227, hx227_0⟩ := Kd.at_int (by repeat (first | (with_reducible exact HR225_0.out) | (with_reducible refine Kd.C_alloc ?_ _) | (with_reducible refine Kd.C_drewN ?_ _) | (with_reducible refine Kd.C_drew ?_) | exact HR225_0.out)) 1 p227 q227
      obtain rfl : ad226 = ad227 := (by injection e227)
      (try simp only [show (1 : Int).toNat = 1 from rfl, Nat.reduceMul, Nat.reduceEqDiff, Go.Addr.add, ↓reduceIte] at hx227_0)
      have qi227 : (1 < (rd_L3 t222 x16_1).length) = True := eq_true (by omega)
      (try rw [show ((1 : Int)).toNat = 1 from rfl] at hx227_0)
      replace p227 := eq_true p227
      replace q227 := eq_true q227
      refine start_ (n := 8) (S := fun w' => w'.cell? ad226 = some (.int .i64 (rd (rd_L3 t222 x16_1) 0)) ∧ w'.cell? ⟨ad226.block, ad226.off + 1, none⟩ = some (.int .i64 (rd (rd_L3 t222 x16_1) 1))) (ds := []) (bV 8 0) (by kernel_rfl) rfl rfl ⟨hx226_0, hx227_0⟩ (fun hHeld => ?_); refine with_tabW spec_l07Measure.tab5 spec_l07Measure.bits5 (fun HT_ HW_ => ?_)
      generalize wr.drew = w34 at HO_14 HL225_0 HR225_0 HK HB hx226_0 hx227_0 hHeld ⊢
      refine pT 0 20 (bV 8 1) HT_.out ?_
      refine pT 1 21 (bV 8 3) HT_.out ?_
      refine pT 3 23 (bV 8 11) HT_.out ?_
      refine pT 4 24 (bV 8 27) HT_.out ?_
      refine tI 2 22 (bV 8 31) rfl (take_ofW HT_.out HW_.out (by kernel_rfl)) hHeld (by rintro w' ⟨s0, s1⟩;go_simp;with_reducible rfl) ?_
      refine tI 5 25 (bV 8 63) rfl (take_ofW HT_.out HW_.out (by kernel_rfl)) hHeld (by rintro w' ⟨s0, s1⟩;go_simp;with_reducible rfl) ?_
      refine one_ (i := 6) (N := some 26) (bV 8 127) rfl rfl (one_of HT_.out (by kernel_rfl)) (by decide) (fun K hK => ?_)
      refine goes_ Try.func64 (by kernel_rfl) rfl #[.int .i64 (rd (rd_L3 t222 x16_1) 0), .int .i64 (rd (rd_L3 t222 x16_1) 1)] (by rfl) rfl rfl (by (try simp only [List.map_toArray, List.map_cons, List.map_nil]); first | done | rfl) ?_
      with_reducible refine (spec_l07Direction.calls k1 (rd (rd_L3 t222 x16_1) 0) (rd (rd_L3 t222 x16_1) 1) t228 _ A16.out).mono ?_
      rintro e w35 ⟨v229, rfl, ho0, hb⟩
      have HS0_ := (hb.cell (World.block_lt_of_cell? _ _ (hHeld.1))).trans (hHeld.1)
      have HS1_ := (hb.cell (World.block_lt_of_cell? _ _ (hHeld.2))).trans (hHeld.2)
      refine ⟨_, rfl, ?_⟩
      have n0_ := Aside0.mk (Kd.S_elder' (by (with_reducible repeat (first | apply Kd.S_alloc | apply Kd.S_drewN | apply Kd.S_drew)); exact HO_14.out) (Kd.R_base ho0) hb)
      have n1_ := Aside0.mk (Kd.R_elder' (by (with_reducible repeat (first | apply rA | apply rN | apply rD)); exact HL225_0.out) (Kd.R_base ho0) hb)
      have n2_ := Aside0.mk (Kd.R_lower (Kd.R_new' (Kd.R_newM (M := fun k_ => (P0_ k_ ∨ w.heap.size ≤ k_)) ho0 (by first | exact HK.out.1 | exact (show Kept w _ (fun k_ => P0_ k_) from by repeat (first | (with_reducible first | exact HK.out | apply Kept.alloc | apply Kept.drewN | apply Kept.drew) | exact HK.out)).1) (fun k_ h_ => .inr h_)) (Kd.R_lt (by (with_reducible repeat (first | apply rA | apply rN | apply rD)); exact HL225_0.out))) (below_size (by repeat (with_reducible first | exact HB.out | apply bA | apply bN | apply bD))))
      have n3_ := Aside0.mk (Kd.C_below (by repeat (first | (with_reducible exact HR225_0.out) | (with_reducible refine Kd.C_alloc ?_ _) | (with_reducible refine Kd.C_drewN ?_ _) | (with_reducible refine Kd.C_drew ?_) | exact HR225_0.out)) hb)
      have n4_ := Aside0.mk (Kept.below (S := (fun k_ => P0_ k_)) (by repeat (first | (with_reducible first | exact HK.out | apply Kept.alloc | apply Kept.drewN | apply Kept.drew) | exact HK.out)) hb)
      have n5_ := Aside0.mk (below_step (by repeat (with_reducible first | exact HB.out | apply bA | apply bN | apply bD)) hb)
      clear HO_14
      clear HL225_0
      clear HR225_0
      clear HK
      clear HB
      have HO_14 := n0_
      have HL225_0 := n1_
      have HO230 := n2_
      have HR225_0 := n3_
      have HK := n4_
      have HB := n5_
      clear n0_ n1_ n2_ n3_ n4_ n5_
      (try clear hb)
      (try clear hb2)
      (try clear hk)
      (try clear hi)
      (try clear ho0)
      refine hK.out _ _ ⟨HS0_, HS1_⟩ (fun hHeld => ?_)
      clear hK K
      refine norm_ (a' := ?_) ?_ ?_
      rotate_left
      ·show Act.put _ (some 26) _ = _
       simp only [Act.put,sI,sZ,sS,i64_w,i32_w]
       rfl
      refine pT 7 10 (bV 8 255) HT_.out ?_
      refine done_ (done_of HT_.out (by kernel_rfl)) ?_
      obtain ⟨Ao36, co36, eo36⟩ := Kd.R_slice HO230.out
      subst eo36
      have p231 : 0 ≤ (0 : Int) := (by omega)
      have q231 : 0 < (t228.length : Int) := of_decide_eq_true (by assumption)
      obtain ⟨ad231, e231, hx231_0⟩ := Kd.at_int (Kd.R_reads' HO230.out).2.2 0 p231 q231
      cases e231
      have qi231 : (0 < t228.length) = True := eq_true (by omega)
      (try rw [show ((0 : Int)).toNat = 0 from rfl] at hx231_0)
      (try rw [Addr.add_zero'] at hx231_0)
      replace p231 := eq_true p231
      replace q231 := eq_true q231
      have p232 : 0 ≤ (1 : Int) := (by omega)
      have q232 : 1 < (t228.length : Int) := of_decide_eq_true (by assumption)
      obtain ⟨ad232, e232, hx232_0⟩ := Kd.at_int (Kd.R_reads' HO230.out).2.2 1 p232 q232
      obtain rfl : ad231 = ad232 := (by injection e232)
      (try simp only [show (1 : Int).toNat = 1 from rfl, Nat.reduceMul, Nat.reduceEqDiff, Go.Addr.add, ↓reduceIte] at hx232_0)
      have qi232 : (1 < t228.length) = True := eq_true (by omega)
      (try rw [show ((1 : Int)).toNat = 1 from rfl] at hx232_0)
      replace p232 := eq_true p232
      replace q232 := eq_true q232
      try go_wp2
      have n0_ := Aside0.mk (Kd.S_drew HO_14.out)
      have n1_ := Aside0.mk (Kd.R_drew HL225_0.out)
      have n2_ := Aside0.mk (Kd.R_drew HO230.out)
      have n3_ := Aside0.mk (Kd.C_drew HR225_0.out)
      have n4_ := Aside0.mk (Kept.drew HK.out)
      have n5_ := Aside0.mk (below_drew1 HB.out)
      clear HO_14
      clear HL225_0
      clear HO230
      clear HR225_0
      clear HK
      clear HB
      have HO_14 := n0_
      have HL225_0 := n1_
      have HO230 := n2_
      have HR225_0 := n3_
      have HK := n4_
      have HB := n5_
      clear n0_ n1_ n2_ n3_ n4_ n5_
      have p233 : 0 ≤ (0 : Int) := (by omega)
      have q233 : 0 < ((rd_L3 t222 x16_1).length : Int) := of_decide_eq_true (by assumption)
      obtain ⟨ad233, e233, hx233_0⟩ := Kd.at_int (by repeat (first | (with_reducible exact HR225_0.out) | (with_reducible refine Kd.C_alloc ?_ _) | (with_reducible refine Kd.C_drewN ?_ _) | (with_reducible refine Kd.C_drew ?_) | exact HR225_0.out)) 0 p233 q233
      obtain rfl : ad226 = ad233 := (by injection e233)
      have qi233 : (0 < (rd_L3 t222 x16_1).length) = True := eq_true (by omega)
      (try rw [show ((0 : Int)).toNat = 0 from rfl] at hx233_0)
      (try rw [Addr.add_zero'] at hx233_0)
      replace p233 := eq_true p233
      replace q233 := eq_true q233
      have p234 : 0 ≤ (1 : Int) := (by omega)
      have q234 : 1 < ((rd_L3 t222 x16_1).length : Int) := of_decide_eq_true (by assumption)
      obtain ⟨ad234, e234, hx234_0⟩ := Kd.at_int (by repeat (first | (with_reducible exact HR225_0.out) | (with_reducible refine Kd.C_alloc ?_ _) | (with_reducible refine Kd.C_drewN ?_ _) | (with_reducible refine Kd.C_drew ?_) | exact HR225_0.out)) 1 p234 q234
      obtain rfl : ad226 = ad234 := (by injection e234)
      (try simp only [show (1 : Int).toNat = 1 from rfl, Nat.reduceMul, Nat.reduceEqDiff, Go.Addr.add, ↓reduceIte] at hx234_0)
      have qi234 : (1 < (rd_L3 t222 x16_1).length) = True := eq_true (by omega)
      (try rw [show ((1 : Int)).toNat = 1 from rfl] at hx234_0)
      replace p234 := eq_true p234
      replace q234 := eq_true q234
      refine start_ (n := 8) (S := fun w' => w'.cell? ad226 = some (.int .i64 (rd (rd_L3 t222 x16_1) 0)) ∧ w'.cell? ⟨ad226.block, ad226.off + 1, none⟩ = some (.int .i64 (rd (rd_L3 t222 x16_1) 1))) (ds := []) (bV 8 0) (by kernel_rfl) rfl rfl ⟨hx233_0, hx234_0⟩ (fun hHeld => ?_); refine with_tabW spec_l07Measure.tab7 spec_l07Measure.bits7 (fun HT_ HW_ => ?_)
      generalize w35.drew = w37 at HO_14 HL225_0 HO230 HR225_0 HK HB hx233_0 hx234_0 hHeld ⊢
      refine pT 0 39 (bV 8 1) HT_.out ?_
      refine pT 1 40 (bV 8 3) HT_.out ?_
      refine pT 3 42 (bV 8 11) HT_.out ?_
      refine pT 4 43 (bV 8 27) HT_.out ?_
      refine tI 2 41 (bV 8 31) rfl (take_ofW HT_.out HW_.out (by kernel_rfl)) hHeld (by rintro w' ⟨s0, s1⟩;go_simp;with_reducible rfl) ?_
      refine tI 5 44 (bV 8 63) rfl (take_ofW HT_.out HW_.out (by kernel_rfl)) hHeld (by rintro w' ⟨s0, s1⟩;go_simp;with_reducible rfl) ?_
      refine one_ (i := 6) (N := some 45) (bV 8 127) rfl rfl (one_of HT_.out (by kernel_rfl)) (by decide) (fun K hK => ?_)
      refine goes_ Try.func65 (by kernel_rfl) rfl #[.int .i64 (rd (rd_L3 t222 x16_1) 0), .int .i64 (rd (rd_L3 t222 x16_1) 1)] (by rfl) rfl rfl (by (try simp only [List.map_toArray, List.map_cons, List.map_nil]); first | done | rfl) ?_
      with_reducible refine (spec_l02Gcd.calls k1 (rd (rd_L3 t222 x16_1) 0) (rd (rd_L3 t222 x16_1) 1) t235 _ A21.out).mono ?_
      rintro e w38 ⟨rfl, hb⟩
      have HS0_ := (hb.cell (World.block_lt_of_cell? _ _ (hHeld.1))).trans (hHeld.1)
      have HS1_ := (hb.cell (World.block_lt_of_cell? _ _ (hHeld.2))).trans (hHeld.2)
      refine ⟨_, rfl, ?_⟩
      have n0_ := Aside0.mk (Kd.S_below (by (with_reducible repeat (first | apply Kd.S_alloc | apply Kd.S_drewN | apply Kd.S_drew)); exact HO_14.out) hb)
      have n1_ := Aside0.mk (Kd.R_below (by (with_reducible repeat (first | apply rA | apply rN | apply rD)); exact HL225_0.out) hb)
      have n2_ := Aside0.mk (Kd.R_below (by (with_reducible repeat (first | apply rA | apply rN | apply rD)); exact HO230.out) hb)
      have n3_ := Aside0.mk (Kd.C_below (by repeat (first | (with_reducible exact HR225_0.out) | (with_reducible refine Kd.C_alloc ?_ _) | (with_reducible refine Kd.C_drewN ?_ _) | (with_reducible refine Kd.C_drew ?_) | exact HR225_0.out)) hb)
      have n4_ := Aside0.mk (Kept.below (S := (fun k_ => P0_ k_)) (by repeat (first | (with_reducible first | exact HK.out | apply Kept.alloc | apply Kept.drewN | apply Kept.drew) | exact HK.out)) hb)
      have n5_ := Aside0.mk (below_step (by repeat (with_reducible first | exact HB.out | apply bA | apply bN | apply bD)) hb)
      clear HO_14
      clear HL225_0
      clear HO230
      clear HR225_0
      clear HK
      clear HB
      have HO_14 := n0_
      have HL225_0 := n1_
      have HO230 := n2_
      have HR225_0 := n3_
      have HK := n4_
      have HB := n5_
      clear n0_ n1_ n2_ n3_ n4_ n5_
      (try clear hb)
      (try clear hb2)
      (try clear hk)
      (try clear hi)
      refine hK.out _ _ ⟨HS0_, HS1_⟩ (fun hHeld => ?_)
      clear hK K
      refine norm_ (a' := ?_) ?_ ?_
      rotate_left
      ·show Act.put _ (some 45) _ = _
       simp only [Act.put,sI,sZ,sS,i64_w,i32_w]
       rfl
      refine pT 7 11 (bV 8 255) HT_.out ?_
      refine done_ (done_of HT_.out (by kernel_rfl)) ?_
      have p236 : 0 ≤ (0 : Int) := (by omega)
      have q236 : 0 < ((rd_L3 t222 x16_1).length : Int) := of_decide_eq_true (by assumption)
      obtain ⟨ad236, e236, hx236_0⟩ := Kd.at_int (by repeat (first | (with_reducible exact HR225_0.out) | (with_reducible refine Kd.C_alloc ?_ _) | (with_reducible refine Kd.C_drewN ?_ _) | (with_reducible refine Kd.C_drew ?_) | exact HR225_0.out)) 0 p236 q236
      obtain rfl : ad226 = ad236 := (by injection e236)
      have qi236 : (0 < (rd_L3 t222 x16_1).length) = True := eq_true (by omega)
      (try rw [show ((0 : Int)).toNat = 0 from rfl] at hx236_0)
      (try rw [Addr.add_zero'] at hx236_0)
      replace p236 := eq_true p236
      replace q236 := eq_true q236
      try go_wp2
      go_roundg k1
      case measure => have := HK1.out; omega
      case rel => exact ⟨(wrap64 (x7_1 - t235)), (wrap64 (x16_1 + 1)), (by first | rfl | (simp; done) | (simp [*]; done)), (by first | rfl | (simp; done) | (simp [*]; done)), H', ⟨by have := HK1.out; omega⟩, ⟨by (with_reducible repeat (first | apply Kd.S_alloc | apply Kd.S_drewN | apply Kd.S_drew)); exact Kd.S_mono HO_14.out (fun _ hk => hk.1)⟩, ⟨by repeat (first | (with_reducible first | exact HK.out | apply Kept.alloc | apply Kept.drewN | apply Kept.drew) | exact HK.out)⟩, ⟨by repeat (with_reducible first | exact HB.out | apply bA | apply bN | apply bD)⟩⟩
    ·rw [if_neg c20] at H
     have c20b0 : ((rd t228 1) == a2) = false := beq_eq_false_iff_ne.mpr c20
     have c20b1 : ((rd t228 1) != a2) = true := bne_iff_ne.mpr c20
     have H' := Aside0.mk H
     clear H
     have p225 : 0 ≤ (x16_1 : Int) := of_decide_eq_true (by assumption)
     have q225 : x16_1 < (t222.length : Int) := of_decide_eq_true (by assumption)
     obtain ⟨ad225, A225_0, c225_0, e225, hx225_0, hl225_0, hi225_0⟩ := at_L3 (Kd.S_reads' HO_14.out).2.2 x16_1 p225 q225
     cases e225
     obtain ⟨ce225, hce225, hMe225, hcc225⟩ := Kd.S_get HO_14.out [] x16_1 p225 (by first | exact q225 | exact of_decide_eq_true (by assumption) | (have e_ := (Kd.S_reads' HO_14.out).1; omega))
     obtain ⟨ve225_0, rfl, ge225_0⟩ := hMe225
     have hv225_0 := hcc225 0 _ rfl
     rw [Nat.add_zero, show ((Kd.slice 3 (Kd.int .i64))).sz = 1 from rfl, Nat.mul_one] at hv225_0
     replace hv225_0 := Option.some.inj (hv225_0.symm.trans hx225_0)
     rw [hv225_0] at ge225_0
     have HL225_0 := Aside0.mk (show Kd.R (Kd.int .i64) 3 _ _ _ _ (rd_L3 t222 x16_1) from ge225_0)
     clear hv225_0 ge225_0
     clear hcc225 hce225
     have HR225_0 := Aside0.mk hi225_0
     have HC225_0 := Aside0.mk hl225_0
     clear hi225_0 hl225_0
     replace p225 := eq_true p225
     replace q225 := eq_true q225
     try go_wp2
     have n0_ := Aside0.mk (Kd.S_drew HO_14.out)
     have n1_ := Aside0.mk (Kd.R_drew HL225_0.out)
     have n2_ := Aside0.mk (Kd.C_drew HR225_0.out)
     have n3_ := Aside0.mk (Kept.drew HK.out)
     have n4_ := Aside0.mk (below_drew1 HB.out)
     clear HO_14
     clear HL225_0
     clear HR225_0
     clear HK
     clear HB
     have HO_14 := n0_
     have HL225_0 := n1_
     have HR225_0 := n2_
     have HK := n3_
     have HB := n4_
     clear n0_ n1_ n2_ n3_ n4_
     have p226 : 0 ≤ (0 : Int) := (by omega)
     have q226 : 0 < ((rd_L3 t222 x16_1).length : Int) := of_decide_eq_true (by assumption)
     obtain ⟨ad226, e226, hx226_0⟩ := Kd.at_int (by repeat (first | (with_reducible exact HR225_0.out) | (with_reducible refine Kd.C_alloc ?_ _) | (with_reducible refine Kd.C_drewN ?_ _) | (with_reducible refine Kd.C_drew ?_) | exact HR225_0.out)) 0 p226 q226
     cases e226
     have qi226 : (0 < (rd_L3 t222 x16_1).length) = True := eq_true (by omega)
     (try rw [show ((0 : Int)).toNat = 0 from rfl] at hx226_0)
     (try rw [Addr.add_zero'] at hx226_0)
     replace p226 := eq_true p226
     replace q226 := eq_true q226
     have p227 : 0 ≤ (1 : Int) := (by omega)
     have q227 : 1 < ((rd_L3 t222 x16_1).length : Int) := of_decide_eq_true (by assumption)
     obtain ⟨ad227, e227, hx227_0⟩ := Kd.at_int (by repeat (first | (with_reducible exact HR225_0.out) | (with_reducible refine Kd.C_alloc ?_ _) | (with_reducible refine Kd.C_drewN ?_ _) | (with_reducible refine Kd.C_drew ?_) | exact HR225_0.out)) 1 p227 q227
     obtain rfl : ad226 = ad227 := (by injection e227)
     (try simp only [show (1 : Int).toNat = 1 from rfl, Nat.reduceMul, Nat.reduceEqDiff, Go.Addr.add, ↓reduceIte] at hx227_0)
     have qi227 : (1 < (rd_L3 t222 x16_1).length) = True := eq_true (by omega)
     (try rw [show ((1 : Int)).toNat = 1 from rfl] at hx227_0)
     replace p227 := eq_true p227
     replace q227 := eq_true q227
     refine start_ (n := 8) (S := fun w' => w'.cell? ad226 = some (.int .i64 (rd (rd_L3 t222 x16_1) 0)) ∧ w'.cell? ⟨ad226.block, ad226.off + 1, none⟩ = some (.int .i64 (rd (rd_L3 t222 x16_1) 1))) (ds := []) (bV 8 0) (by kernel_rfl) rfl rfl ⟨hx226_0, hx227_0⟩ (fun hHeld => ?_); refine with_tabW spec_l07Measure.tab5 spec_l07Measure.bits5 (fun HT_ HW_ => ?_)
     generalize wr.drew = w39 at HO_14 HL225_0 HR225_0 HK HB hx226_0 hx227_0 hHeld ⊢
     refine pT 0 20 (bV 8 1) HT_.out ?_
     refine pT 1 21 (bV 8 3) HT_.out ?_
     refine pT 3 23 (bV 8 11) HT_.out ?_
     refine pT 4 24 (bV 8 27) HT_.out ?_
     refine tI 2 22 (bV 8 31) rfl (take_ofW HT_.out HW_.out (by kernel_rfl)) hHeld (by rintro w' ⟨s0, s1⟩;go_simp;with_reducible rfl) ?_
     refine tI 5 25 (bV 8 63) rfl (take_ofW HT_.out HW_.out (by kernel_rfl)) hHeld (by rintro w' ⟨s0, s1⟩;go_simp;with_reducible rfl) ?_
     refine one_ (i := 6) (N := some 26) (bV 8 127) rfl rfl (one_of HT_.out (by kernel_rfl)) (by decide) (fun K hK => ?_)
     refine goes_ Try.func64 (by kernel_rfl) rfl #[.int .i64 (rd (rd_L3 t222 x16_1) 0), .int .i64 (rd (rd_L3 t222 x16_1) 1)] (by rfl) rfl rfl (by (try simp only [List.map_toArray, List.map_cons, List.map_nil]); first | done | rfl) ?_
     with_reducible refine (spec_l07Direction.calls k1 (rd (rd_L3 t222 x16_1) 0) (rd (rd_L3 t222 x16_1) 1) t228 _ A16.out).mono ?_
     rintro e w40 ⟨v229, rfl, ho0, hb⟩
     have HS0_ := (hb.cell (World.block_lt_of_cell? _ _ (hHeld.1))).trans (hHeld.1)
     have HS1_ := (hb.cell (World.block_lt_of_cell? _ _ (hHeld.2))).trans (hHeld.2)
     refine ⟨_, rfl, ?_⟩
     have n0_ := Aside0.mk (Kd.S_elder' (by (with_reducible repeat (first | apply Kd.S_alloc | apply Kd.S_drewN | apply Kd.S_drew)); exact HO_14.out) (Kd.R_base ho0) hb)
     have n1_ := Aside0.mk (Kd.R_elder' (by (with_reducible repeat (first | apply rA | apply rN | apply rD)); exact HL225_0.out) (Kd.R_base ho0) hb)
     have n2_ := Aside0.mk (Kd.R_lower (Kd.R_new' (Kd.R_newM (M := fun k_ => (P0_ k_ ∨ w.heap.size ≤ k_)) ho0 (by first | exact HK.out.1 | exact (show Kept w _ (fun k_ => P0_ k_) from by repeat (first | (with_reducible first | exact HK.out | apply Kept.alloc | apply Kept.drewN | apply Kept.drew) | exact HK.out)).1) (fun k_ h_ => .inr h_)) (Kd.R_lt (by (with_reducible repeat (first | apply rA | apply rN | apply rD)); exact HL225_0.out))) (below_size (by repeat (with_reducible first | exact HB.out | apply bA | apply bN | apply bD))))
     have n3_ := Aside0.mk (Kd.C_below (by repeat (first | (with_reducible exact HR225_0.out) | (with_reducible refine Kd.C_alloc ?_ _) | (with_reducible refine Kd.C_drewN ?_ _) | (with_reducible refine Kd.C_drew ?_) | exact HR225_0.out)) hb)
     have n4_ := Aside0.mk (Kept.below (S := (fun k_ => P0_ k_)) (by repeat (first | (with_reducible first | exact HK.out | apply Kept.alloc | apply Kept.drewN | apply Kept.drew) | exact HK.out)) hb)
     have n5_ := Aside0.mk (below_step (by repeat (with_reducible first | exact HB.out | apply bA | apply bN | apply bD)) hb)
     clear HO_14
     clear HL225_0
     clear HR225_0
     clear HK
     clear HB
     have HO_14 := n0_
     have HL225_0 := n1_
     have HO230 := n2_
     have HR225_0 := n3_
     have HK := n4_
     have HB := n5_
     clear n0_ n1_ n2_ n3_ n4_ n5_
     (try clear hb)
     (try clear hb2)
     (try clear hk)
     (try clear hi)
     (try clear ho0)
     refine hK.out _ _ ⟨HS0_, HS1_⟩ (fun hHeld => ?_)
     clear hK K
     refine norm_ (a' := ?_) ?_ ?_
     rotate_left
     ·show Act.put _ (some 26) _ = _
      simp only [Act.put,sI,sZ,sS,i64_w,i32_w]
      rfl
     refine pT 7 10 (bV 8 255) HT_.out ?_
     refine done_ (done_of HT_.out (by kernel_rfl)) ?_
     obtain ⟨Ao41, co41, eo41⟩ := Kd.R_slice HO230.out
     subst eo41
     have p231 : 0 ≤ (0 : Int) := (by omega)
     have q231 : 0 < (t228.length : Int) := of_decide_eq_true (by assumption)
     obtain ⟨ad231, e231, hx231_0⟩ := Kd.at_int (Kd.R_reads' HO230.out).2.2 0 p231 q231
     cases e231
     have qi231 : (0 < t228.length) = True := eq_true (by omega)
     (try rw [show ((0 : Int)).toNat = 0 from rfl] at hx231_0)
     (try rw [Addr.add_zero'] at hx231_0)
     replace p231 := eq_true p231
     replace q231 := eq_true q231
     have p232 : 0 ≤ (1 : Int) := (by omega)
     have q232 : 1 < (t228.length : Int) := of_decide_eq_true (by assumption)
     obtain ⟨ad232, e232, hx232_0⟩ := Kd.at_int (Kd.R_reads' HO230.out).2.2 1 p232 q232
     obtain rfl : ad231 = ad232 := (by injection e232)
     (try simp only [show (1 : Int).toNat = 1 from rfl, Nat.reduceMul, Nat.reduceEqDiff, Go.Addr.add, ↓reduceIte] at hx232_0)
     have qi232 : (1 < t228.length) = True := eq_true (by omega)
     (try rw [show ((1 : Int)).toNat = 1 from rfl] at hx232_0)
     replace p232 := eq_true p232
     replace q232 := eq_true q232
     try go_wp2
     go_roundg k1
     case measure => have := HK1.out; omega
     case rel => exact ⟨(x7_1), (wrap64 (x16_1 + 1)), (by first | rfl | (simp; done) | (simp [*]; done)), (by first | rfl | (simp; done) | (simp [*]; done)), H', ⟨by have := HK1.out; omega⟩, ⟨by (with_reducible repeat (first | apply Kd.S_alloc | apply Kd.S_drewN | apply Kd.S_drew)); exact Kd.S_mono HO_14.out (fun _ hk => hk.1)⟩, ⟨by repeat (first | (with_reducible first | exact HK.out | apply Kept.alloc | apply Kept.drewN | apply Kept.drew) | exact HK.out)⟩, ⟨by repeat (with_reducible first | exact HB.out | apply bA | apply bN | apply bD)⟩⟩
   ·rw [if_neg c18] at H
    have c18b0 : ((rd t228 0) == a1) = false := beq_eq_false_iff_ne.mpr c18
    have c18b1 : ((rd t228 0) != a1) = true := bne_iff_ne.mpr c18
    have H' := Aside0.mk H
    clear H
    have p225 : 0 ≤ (x16_1 : Int) := of_decide_eq_true (by assumption)
    have q225 : x16_1 < (t222.length : Int) := of_decide_eq_true (by assumption)
    obtain ⟨ad225, A225_0, c225_0, e225, hx225_0, hl225_0, hi225_0⟩ := at_L3 (Kd.S_reads' HO_14.out).2.2 x16_1 p225 q225
    cases e225
    obtain ⟨ce225, hce225, hMe225, hcc225⟩ := Kd.S_get HO_14.out [] x16_1 p225 (by first | exact q225 | exact of_decide_eq_true (by assumption) | (have e_ := (Kd.S_reads' HO_14.out).1; omega))
    obtain ⟨ve225_0, rfl, ge225_0⟩ := hMe225
    have hv225_0 := hcc225 0 _ rfl
    rw [Nat.add_zero, show ((Kd.slice 3 (Kd.int .i64))).sz = 1 from rfl, Nat.mul_one] at hv225_0
    replace hv225_0 := Option.some.inj (hv225_0.symm.trans hx225_0)
    rw [hv225_0] at ge225_0
    have HL225_0 := Aside0.mk (show Kd.R (Kd.int .i64) 3 _ _ _ _ (rd_L3 t222 x16_1) from ge225_0)
    clear hv225_0 ge225_0
    clear hcc225 hce225
    have HR225_0 := Aside0.mk hi225_0
    have HC225_0 := Aside0.mk hl225_0
    clear hi225_0 hl225_0
    replace p225 := eq_true p225
    replace q225 := eq_true q225
    try go_wp2
    have n0_ := Aside0.mk (Kd.S_drew HO_14.out)
    have n1_ := Aside0.mk (Kd.R_drew HL225_0.out)
    have n2_ := Aside0.mk (Kd.C_drew HR225_0.out)
    have n3_ := Aside0.mk (Kept.drew HK.out)
    have n4_ := Aside0.mk (below_drew1 HB.out)
    clear HO_14
    clear HL225_0
    clear HR225_0
    clear HK
    clear HB
    have HO_14 := n0_
    have HL225_0 := n1_
    have HR225_0 := n2_
    have HK := n3_
    have HB := n4_
    clear n0_ n1_ n2_ n3_ n4_
    have p226 : 0 ≤ (0 : Int) := (by omega)
    have q226 : 0 < ((rd_L3 t222 x16_1).length : Int) := of_decide_eq_true (by assumption)
    obtain ⟨ad226, e226, hx226_0⟩ := Kd.at_int (by repeat (first | (with_reducible exact HR225_0.out) | (with_reducible refine Kd.C_alloc ?_ _) | (with_reducible refine Kd.C_drewN ?_ _) | (with_reducible refine Kd.C_drew ?_) | exact HR225_0.out)) 0 p226 q226
    cases e226
    have qi226 : (0 < (rd_L3 t222 x16_1).length) = True := eq_true (by omega)
    (try rw [show ((0 : Int)).toNat = 0 from rfl] at hx226_0)
    (try rw [Addr.add_zero'] at hx226_0)
    replace p226 := eq_true p226
    replace q226 := eq_true q226
    have p227 : 0 ≤ (1 : Int) := (by omega)
    have q227 : 1 < ((rd_L3 t222 x16_1).length : Int) := of_decide_eq_true (by assumption)
    obtain ⟨ad227, e227, hx227_0⟩ := Kd.at_int (by repeat (first | (with_reducible exact HR225_0.out) | (with_reducible refine Kd.C_alloc ?_ _) | (with_reducible refine Kd.C_drewN ?_ _) | (with_reducible refine Kd.C_drew ?_) | exact HR225_0.out)) 1 p227 q227
    obtain rfl : ad226 = ad227 := (by injection e227)
    (try simp only [show (1 : Int).toNat = 1 from rfl, Nat.reduceMul, Nat.reduceEqDiff, Go.Addr.add, ↓reduceIte] at hx227_0)
    have qi227 : (1 < (rd_L3 t222 x16_1).length) = True := eq_true (by omega)
    (try rw [show ((1 : Int)).toNat = 1 from rfl] at hx227_0)
    replace p227 := eq_true p227
    replace q227 := eq_true q227
    refine start_ (n := 8) (S := fun w' => w'.cell? ad226 = some (.int .i64 (rd (rd_L3 t222 x16_1) 0)) ∧ w'.cell? ⟨ad226.block, ad226.off + 1, none⟩ = some (.int .i64 (rd (rd_L3 t222 x16_1) 1))) (ds := []) (bV 8 0) (by kernel_rfl) rfl rfl ⟨hx226_0, hx227_0⟩ (fun hHeld => ?_); refine with_tabW spec_l07Measure.tab5 spec_l07Measure.bits5 (fun HT_ HW_ => ?_)
    generalize wr.drew = w42 at HO_14 HL225_0 HR225_0 HK HB hx226_0 hx227_0 hHeld ⊢
    refine pT 0 20 (bV 8 1) HT_.out ?_
    refine pT 1 21 (bV 8 3) HT_.out ?_
    refine pT 3 23 (bV 8 11) HT_.out ?_
    refine pT 4 24 (bV 8 27) HT_.out ?_
    refine tI 2 22 (bV 8 31) rfl (take_ofW HT_.out HW_.out (by kernel_rfl)) hHeld (by rintro w' ⟨s0, s1⟩;go_simp;with_reducible rfl) ?_
    refine tI 5 25 (bV 8 63) rfl (take_ofW HT_.out HW_.out (by kernel_rfl)) hHeld (by rintro w' ⟨s0, s1⟩;go_simp;with_reducible rfl) ?_
    refine one_ (i := 6) (N := some 26) (bV 8 127) rfl rfl (one_of HT_.out (by kernel_rfl)) (by decide) (fun K hK => ?_)
    refine goes_ Try.func64 (by kernel_rfl) rfl #[.int .i64 (rd (rd_L3 t222 x16_1) 0), .int .i64 (rd (rd_L3 t222 x16_1) 1)] (by rfl) rfl rfl (by (try simp only [List.map_toArray, List.map_cons, List.map_nil]); first | done | rfl) ?_
    with_reducible refine (spec_l07Direction.calls k1 (rd (rd_L3 t222 x16_1) 0) (rd (rd_L3 t222 x16_1) 1) t228 _ A16.out).mono ?_
    rintro e w43 ⟨v229, rfl, ho0, hb⟩
    have HS0_ := (hb.cell (World.block_lt_of_cell? _ _ (hHeld.1))).trans (hHeld.1)
    have HS1_ := (hb.cell (World.block_lt_of_cell? _ _ (hHeld.2))).trans (hHeld.2)
    refine ⟨_, rfl, ?_⟩
    have n0_ := Aside0.mk (Kd.S_elder' (by (with_reducible repeat (first | apply Kd.S_alloc | apply Kd.S_drewN | apply Kd.S_drew)); exact HO_14.out) (Kd.R_base ho0) hb)
    have n1_ := Aside0.mk (Kd.R_elder' (by (with_reducible repeat (first | apply rA | apply rN | apply rD)); exact HL225_0.out) (Kd.R_base ho0) hb)
    have n2_ := Aside0.mk (Kd.R_lower (Kd.R_new' (Kd.R_newM (M := fun k_ => (P0_ k_ ∨ w.heap.size ≤ k_)) ho0 (by first | exact HK.out.1 | exact (show Kept w _ (fun k_ => P0_ k_) from by repeat (first | (with_reducible first | exact HK.out | apply Kept.alloc | apply Kept.drewN | apply Kept.drew) | exact HK.out)).1) (fun k_ h_ => .inr h_)) (Kd.R_lt (by (with_reducible repeat (first | apply rA | apply rN | apply rD)); exact HL225_0.out))) (below_size (by repeat (with_reducible first | exact HB.out | apply bA | apply bN | apply bD))))
    have n3_ := Aside0.mk (Kd.C_below (by repeat (first | (with_reducible exact HR225_0.out) | (with_reducible refine Kd.C_alloc ?_ _) | (with_reducible refine Kd.C_drewN ?_ _) | (with_reducible refine Kd.C_drew ?_) | exact HR225_0.out)) hb)
    have n4_ := Aside0.mk (Kept.below (S := (fun k_ => P0_ k_)) (by repeat (first | (with_reducible first | exact HK.out | apply Kept.alloc | apply Kept.drewN | apply Kept.drew) | exact HK.out)) hb)
    have n5_ := Aside0.mk (below_step (by repeat (with_reducible first | exact HB.out | apply bA | apply bN | apply bD)) hb)
    clear HO_14
    clear HL225_0
    clear HR225_0
    clear HK
    clear HB
    have HO_14 := n0_
    have HL225_0 := n1_
    have HO230 := n2_
    have HR225_0 := n3_
    have HK := n4_
    have HB := n5_
    clear n0_ n1_ n2_ n3_ n4_ n5_
    (try clear hb)
    (try clear hb2)
    (try clear hk)
    (try clear hi)
    (try clear ho0)
    refine hK.out _ _ ⟨HS0_, HS1_⟩ (fun hHeld => ?_)
    clear hK K
    refine norm_ (a' := ?_) ?_ ?_
    rotate_left
    ·show Act.put _ (some 26) _ = _
     simp only [Act.put,sI,sZ,sS,i64_w,i32_w]
     rfl
    refine pT 7 10 (bV 8 255) HT_.out ?_
    refine done_ (done_of HT_.out (by kernel_rfl)) ?_
    obtain ⟨Ao44, co44, eo44⟩ := Kd.R_slice HO230.out
    subst eo44
    have p231 : 0 ≤ (0 : Int) := (by omega)
    have q231 : 0 < (t228.length : Int) := of_decide_eq_true (by assumption)
    obtain ⟨ad231, e231, hx231_0⟩ := Kd.at_int (Kd.R_reads' HO230.out).2.2 0 p231 q231
    cases e231
    have qi231 : (0 < t228.length) = True := eq_true (by omega)
    (try rw [show ((0 : Int)).toNat = 0 from rfl] at hx231_0)
    (try rw [Addr.add_zero'] at hx231_0)
    replace p231 := eq_true p231
    replace q231 := eq_true q231
    try go_wp2
    go_roundg k1
    case measure => have := HK1.out; omega
    case rel => exact ⟨(x7_1), (wrap64 (x16_1 + 1)), (by first | rfl | (simp; done) | (simp [*]; done)), (by first | rfl | (simp; done) | (simp [*]; done)), H', ⟨by have := HK1.out; omega⟩, ⟨by (with_reducible repeat (first | apply Kd.S_alloc | apply Kd.S_drewN | apply Kd.S_drew)); exact Kd.S_mono HO_14.out (fun _ hk => hk.1)⟩, ⟨by repeat (first | (with_reducible first | exact HK.out | apply Kept.alloc | apply Kept.drewN | apply Kept.drew) | exact HK.out)⟩, ⟨by repeat (with_reducible first | exact HB.out | apply bA | apply bN | apply bD)⟩⟩
  ·rw [if_neg c11] at H
   have c11b0 : decide (x16_1 < (t222.length : Int)) = false := decide_eq_false c11
   clear c11
   obtain rfl := Option.some.inj H
   go_wp2
   go_ret
   exact ⟨by first | rfl | (simp [errW_none, errW_some] <;> rfl) | (simp [*, errW_none, errW_some] <;> rfl), by repeat (with_reducible first | exact HB.out | apply bA | apply bN | apply bD), by repeat (first | (with_reducible first | exact HK.out | apply Kept.alloc | apply Kept.drewN | apply Kept.drew) | exact HK.out)⟩
end Go.Proofs.Ytadenfniiihifaa.QFnExactMeasureFor
