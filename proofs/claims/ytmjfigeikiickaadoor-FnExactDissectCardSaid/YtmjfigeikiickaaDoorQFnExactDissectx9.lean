/- What each Go function of this text answers, as a plain function, and that the machine comes to just that answer. -/
import Derived.Test.YtmjfigeikiickaaDoorQFnExactDissectx0
import Derived.Test.YtmjfigeikiickaaDoorQFnExactDissectx8
namespace Go.Proofs.YtmjfigeikiickaaDoor.QFnExactDissect
open Go.RowKit Go.Proofs.YtmjfigeikiickaaDoorW.PrintWords Go.Proofs.YtmjfigeikiickaaDoorW.PrintLast Go.Proofs.YtmjfigeikiickaaDoorW.PrintMore
attribute [local go_sem] max2_int min2_int max_two min_two max_three min_three max_four min_four   -- for this text's walks alone
set_option linter.unusedVariables false
set_option linter.unusedSimpArgs false
mutual
def impl_piecesOf.l0 : Nat → Int → Int → List Int → List Int → List Int → Int → Int → Option (List Int × Bool)
 | 0, _, _, _, _, _, _, _ => none
 | k + 1, x0, x1, x10, x11, x26, x27, x28 => if x28 < x27 then (if 0 ≤ x28 then (if x28 < (x26.length : Int) then (if (rd x26 x28) < 0 then (impl_piecesOf.j1 k x0 x1 x10 x11 x28 (rd x26 x28) x26 x27 x28 true) else (impl_piecesOf.j1 k x0 x1 x10 x11 x28 (rd x26 x28) x26 x27 x28 (decide ((rd x26 x28) > (x11.length : Int))))) else (none)) else (none)) else (impl_piecesOf.l1 k x0 x1 x11 x11 (x11.length : Int) 0)
def impl_piecesOf.j1 : Nat → Int → Int → List Int → List Int → Int → Int → List Int → Int → Int → Bool → Option (List Int × Bool)
 | 0, _, _, _, _, _, _, _, _, _, _ => none
 | k + 1, x0, x1, x10, x11, x12, x13, x26, x27, x28, x40 => if x40 = true then (some (([] : List Int), false)) else (if x13 = (x11.length : Int) then (if x11.length < 17592186044416 then ((some (x11 ++ [0] : List Int)).bind fun y369 => (if 0 ≤ x13 then (if x13 < (y369.length : Int) then (if 0 ≤ x12 then (if x12 < (x10.length : Int) then (if 0 ≤ (rd x10 x12) then (impl_piecesOf.l0 k x0 x1 x10 (y369.set (x13 : Int).toNat (Go.bits .or .i64 (rd y369 x13) (shl .i64 1 (rd x10 x12)))) x26 x27 (wrap64 (x28 + 1))) else (none)) else (none)) else (none)) else (none)) else (none))) else (none)) else (if 0 ≤ x13 then (if x13 < (x11.length : Int) then (if 0 ≤ x12 then (if x12 < (x10.length : Int) then (if 0 ≤ (rd x10 x12) then (impl_piecesOf.l0 k x0 x1 x10 (x11.set (x13 : Int).toNat (Go.bits .or .i64 (rd x11 x13) (shl .i64 1 (rd x10 x12)))) x26 x27 (wrap64 (x28 + 1))) else (none)) else (none)) else (none)) else (none)) else (none)))
def impl_piecesOf.l1 : Nat → Int → Int → List Int → List Int → Int → Int → Option (List Int × Bool)
 | 0, _, _, _, _, _, _ => none
 | k + 1, x0, x1, x11, x60, x61, x62 => if x62 < x61 then (if 0 ≤ x62 then (if x62 < (x60.length : Int) then ((impl_isWhole.f k x0 x1 (rd x60 x62)).bind fun t379 => (if t379 = true then (impl_piecesOf.l1 k x0 x1 x11 x60 x61 (wrap64 (x62 + 1))) else (some (([] : List Int), false)))) else (none)) else (none)) else (some (x11, true))
end
def impl_piecesOf.f (k : Nat) (a0 : Int) (a1 : Int) (a2 : Int) (l3 : List Int) : Option (List Int × Bool) := (impl_cellList.f k a0 a1 a2).bind fun t362 => (if (l3.length : Int) = (t362.length : Int) then (impl_piecesOf.l0 k a0 a1 t362 (([] : List Int)) l3 (l3.length : Int) 0) else (some (([] : List Int), false)))
theorem impl_piecesOf.mono_l : ∀ k, (∀ y0 y1 y2 y3 y4 y5 y6, LeO (impl_piecesOf.l0 k y0 y1 y2 y3 y4 y5 y6) (impl_piecesOf.l0 (k + 1) y0 y1 y2 y3 y4 y5 y6)) ∧ (∀ y0 y1 y2 y3 y4 y5 y6 y7 y8 y9, LeO (impl_piecesOf.j1 k y0 y1 y2 y3 y4 y5 y6 y7 y8 y9) (impl_piecesOf.j1 (k + 1) y0 y1 y2 y3 y4 y5 y6 y7 y8 y9)) ∧ (∀ y0 y1 y2 y3 y4 y5, LeO (impl_piecesOf.l1 k y0 y1 y2 y3 y4 y5) (impl_piecesOf.l1 (k + 1) y0 y1 y2 y3 y4 y5))
 | 0 => ⟨fun _ _ _ _ _ _ _ r h => by simp [impl_piecesOf.l0] at h, fun _ _ _ _ _ _ _ _ _ _ r h => by simp [impl_piecesOf.j1] at h, fun _ _ _ _ _ _ r h => by simp [impl_piecesOf.l1] at h⟩
 | k + 1 => by
  obtain ⟨ih0, ih1, ih2⟩ := impl_piecesOf.mono_l k
  refine ⟨?_, ?_, ?_⟩
  ·intro y0 y1 y2 y3 y4 y5 y6
   unfold impl_piecesOf.l0
   repeat' first
   | (with_reducible exact LeO.refl _)
   | exact ih0 _ _ _ _ _ _ _
   | exact ih1 _ _ _ _ _ _ _ _ _ _
   | exact ih2 _ _ _ _ _ _
   | exact impl_cellList.mono _ _ _ _
   | exact impl_isWhole.mono _ _ _ _
   | exact LeO.none _
   | refine LeO.ite ?_ ?_
   | refine LeO.bind ?_ (fun _ => ?_)
  ·intro y0 y1 y2 y3 y4 y5 y6 y7 y8 y9
   unfold impl_piecesOf.j1
   repeat' first
   | (with_reducible exact LeO.refl _)
   | exact ih0 _ _ _ _ _ _ _
   | exact ih1 _ _ _ _ _ _ _ _ _ _
   | exact ih2 _ _ _ _ _ _
   | exact impl_cellList.mono _ _ _ _
   | exact impl_isWhole.mono _ _ _ _
   | exact LeO.none _
   | refine LeO.ite ?_ ?_
   | refine LeO.bind ?_ (fun _ => ?_)
  ·intro y0 y1 y2 y3 y4 y5
   unfold impl_piecesOf.l1
   repeat' first
   | (with_reducible exact LeO.refl _)
   | exact ih0 _ _ _ _ _ _ _
   | exact ih1 _ _ _ _ _ _ _ _ _ _
   | exact ih2 _ _ _ _ _ _
   | exact impl_cellList.mono _ _ _ _
   | exact impl_isWhole.mono _ _ _ _
   | exact LeO.none _
   | refine LeO.ite ?_ ?_
   | refine LeO.bind ?_ (fun _ => ?_)
theorem impl_piecesOf.mono : ∀ a0 a1 a2 a3 k, LeO (impl_piecesOf.f k a0 a1 a2 a3) (impl_piecesOf.f (k + 1) a0 a1 a2 a3) := by
 intro a0 a1 a2 a3 k
 obtain ⟨ih0, ih1, ih2⟩ := impl_piecesOf.mono_l k
 unfold impl_piecesOf.f
 repeat' first
  | (with_reducible exact LeO.refl _)
  | exact ih0 _ _ _ _ _ _ _
  | exact ih1 _ _ _ _ _ _ _ _ _ _
  | exact ih2 _ _ _ _ _ _
  | exact impl_cellList.mono _ _ _ _
  | exact impl_isWhole.mono _ _ _ _
  | exact LeO.none _
  | refine LeO.ite ?_ ?_
  | refine LeO.bind ?_ (fun _ => ?_)
def impl_piecesOf.T12 : Bool × List (List Nat × List Nat) := (true, [([], []), ([], []), ([0, 1], [0, 1]), ([2], [2]), ([], []), ([], []), ([4, 5], [4, 5]), ([6], [6]), ([7], [7]), ([3, 8], [3, 8]), ([0, 1, 0, 1, 2, 3, 4, 5, 6, 7, 8, 9], [0, 1]), ([10, 9, 0, 1, 2, 3, 4, 5, 6, 7, 8, 9], [9, 10])])
def impl_piecesOf.B12 : List Nat := [0, 0, 3, 7, 0, 0, 48, 112, 240, 511, 1023, 2047]
theorem impl_piecesOf.tab12 : rtab .any (opsOf Tryd.f43 12) = impl_piecesOf.T12 := by kernel_rfl
theorem impl_piecesOf.bits12 : waitsOk impl_piecesOf.T12.2 impl_piecesOf.B12 = true := by kernel_rfl
set_option maxHeartbeats 8000000 in
set_option maxRecDepth 100000 in
theorem impl_piecesOf.calls (k : Nat) (a0 : Int) (a1 : Int) (a2 : Int) (A3 : Option Addr) (c3 : Nat) (l3 : List Int) (r1 : List Int) (r2 : Bool) (w : World) (hG : Aside0 (Go.Proofs.YtmjfigeikiickaaDoorLaid.LaidG w)) (hr3 : Kd.C (Kd.int .i64) w A3 l3.length l3) (hc3 : l3.length ≤ c3) (h : impl_piecesOf.f k a0 a1 a2 l3 = some (r1, r2)) :
 Calls Tryd.prog 43 #[.int .i64 a0, .int .i64 a1, .int .i64 a2, .slice A3 l3.length c3] w fun e w' => ∃ v0_ : Value, e = .returned (.tuple #[v0_, .bool r2]) ∧ Kd.R (Kd.int .i64) 3 w' w.heap.size (fun _ => True) v0_ r1 ∧ Below w.heap.size w w' := by
 have HR3 := Aside0.mk hr3
 have HC3 := Aside0.mk hc3
 clear hr3 hc3
 have HB := Aside0.mk (Below.refl w.heap.size w)
 have H : ((impl_cellList.f k a0 a1 a2).bind fun t362 => (if (l3.length : Int) = (t362.length : Int) then (impl_piecesOf.l0 k a0 a1 t362 (([] : List Int)) l3 (l3.length : Int) 0) else (some (([] : List Int), false)))) = some (r1, r2) := h
 clear h
 replace H := Option.bind_eq_some_iff.mp H
 obtain ⟨t362, A50, H⟩ := H
 have A5 := Aside0.mk A50
 clear A50
 by_cases c6 : (l3.length : Int) = (t362.length : Int)
 ·rw [if_pos c6] at H
  have c6b0 : ((l3.length : Int) == (t362.length : Int)) = true := beq_iff_eq.mpr c6
  have c6b1 : ((l3.length : Int) != (t362.length : Int)) = false := bne_eq_false_iff_eq.mpr c6
  have c6b2 : (l3.length == t362.length) = true := by first | simpa using c6 | (simp at c6 ⊢; omega)
  clear c6
  obtain ⟨y365, hy365⟩ : ∃ y_ : List Int, y_ = (([] : List Int)) := ⟨_, rfl⟩
  replace H : (impl_piecesOf.l0 k a0 a1 t362 y365 l3 (l3.length : Int) 0) = some (r1, r2) := by first | (rw [hy365]; with_reducible exact H) | (have H2_ := (Option.bind_some _ _).symm.trans H; rw [hy365]; with_reducible exact H2_) | (have H2_ := (Option.bind_some _ _).symm.trans H; with_reducible exact H2_) | with_reducible exact H | (rw [hy365]; exact H) | exact H
  have Ny365 := Aside0.mk hy365
  clear hy365
  have H' := Aside0.mk H
  clear H
  go_enter Tryd.func43, Tryd.ntmps43
  go_wp2_with (first | ((with_reducible refine gate_callee (f := 49) rfl ?_); refine goesL_ (some 19) rfl rfl Tryd.func49 (by kernel_rfl) rfl #[.int .i64 a0, .int .i64 a1, .int .i64 a2] rfl (by (try simp only [List.map_toArray, List.map_cons, List.map_nil]); first | done | rfl) ?_; (with_reducible refine (impl_cellList.calls k a0 a1 a2 t362 _ A5.out).mono ?_); rintro e w7 ⟨v363, rfl, ho0, hb⟩; refine ⟨_, rfl, ?_⟩; have n0_ := Aside0.mk (Kd.V_lower (Kd.V_mono (ok' := fun k_ => True) ho0 (fun k_ hk_ => trivial)) (below_size (by repeat (with_reducible first | exact HB.out | apply bA | apply bN | apply bD)))); have n1_ := Aside0.mk (below_step (by repeat (with_reducible first | exact HB.out | apply bA | apply bN | apply bD)) hb); clear HB; have HO364 := n0_; have HB := n1_; clear n0_ n1_; (try clear hb); (try clear hb2); (try clear hk); (try clear hi); (try clear ho0); obtain ⟨Ao8, co8, eo8⟩ := Kd.V_slice HO364.out; subst eo8) | ((with_reducible refine gate_dst (N := 25) rfl ?_); (try (refine gate_guard (by rfl) ?_; dsimp only)); refine Kd.R_lit (Kd.int .i64) _ 3 ?hg (N := 25) ?hd (xs := ([] : List Int)) (inner := []) (ok := fun _ => True) (okp := fun _ => True) ?hr ?hp (fun _ hk => hk) trivial (Below.refl _ _) (Nat.le_refl _) (by simp) ?_; (case hd => rfl); (case hg => rfl); (case hr => first | (go_simp; done) | (go_simp; rfl)); (case hp => exact (Reps.none _ _)); intro v366 w9 ho10 hb hg_ hnew_; clear hg_ hnew_; (first | rw [← Ny365.out] at ho10 | (simp only [Int.reduceToNat] at ho10; rw [← Ny365.out] at ho10)); have n0_ := Aside0.mk (Kd.V_elder' (by (with_reducible repeat (first | apply vA | apply vN | apply vD)); exact HO364.out) (Kd.R_base ho10) hb); have n1_ := Aside0.mk (Kd.R_lower ho10 (below_size (by repeat (with_reducible first | exact HB.out | apply bA | apply bN | apply bD)))); have n2_ := Aside0.mk (below_step (by repeat (with_reducible first | exact HB.out | apply bA | apply bN | apply bD)) hb); clear HO364; clear HB; have HO364 := n0_; have HO367 := n1_; have HB := n2_; clear n0_ n1_ n2_; clear hb ho10))
  go_loopg [11, 28] k (fun kq v11 v28 w' => ∃ (x10_1 : List Int) (x11_1 : List Int) (x28_1 : Int), v28 = .int .i64 x28_1 ∧ Aside0 (impl_piecesOf.l0 kq a0 a1 x10_1 x11_1 l3 (l3.length : Int) x28_1 = some (r1, r2)) ∧ Aside0 (kq ≤ k) ∧ Aside0 (Kd.V (Kd.int .i64) 3 w' w.heap.size (fun k_ => some k_ ≠ (v11 : Value).ownBlock) (.slice Ao8 t362.length co8) x10_1) ∧ Aside0 (Kd.R (Kd.int .i64) 3 w' w.heap.size (fun _ => True) v11 x11_1) ∧ Aside0 (Below w.heap.size w w'))
  case atStart => exact ⟨(t362), (y365), (0), (by first | rfl | (simp; done) | (simp [*]; done)), H', ⟨Nat.le_refl _⟩, ⟨by (with_reducible repeat (first | apply vA | apply vN | apply vD)); exact Kd.V_mono HO364.out (fun _ hk => hk.2)⟩, ⟨by (with_reducible repeat (first | apply rA | apply rN | apply rD)); exact HO367.out⟩, ⟨by repeat (with_reducible first | exact HB.out | apply bA | apply bN | apply bD)⟩⟩
  case round =>
   clear H'
   try clear p2
   try clear c3
   try clear c4
   try clear c6
   try clear c6b0
   try clear c6b1
   try clear c6b2
   obtain ⟨x10_1, x11_1, x28_1, rfl, HA, HK1, HO_10, HO_11, HB⟩ := hrel
   have hl10_1 := (Kd.V_reads' HO_10.out).1
   rw [hl10_1] at HO_10
   (try simp only [hl10_1])
   (try simp only [hl10_1] at HO_11)
   cases gk with
   | zero => exact absurd HA.out (by simp [impl_piecesOf.l0])
   | succ k1 =>
    have H := HA.out
    clear HA
    simp only [impl_piecesOf.l0] at H
    by_cases c11 : x28_1 < (l3.length : Int)
    ·rw [if_pos c11] at H
     have c11b0 : decide (x28_1 < (l3.length : Int)) = true := decide_eq_true c11
     clear c11
     by_cases c12 : 0 ≤ x28_1
     ·rw [if_pos c12] at H
      have c12b0 : decide (0 ≤ x28_1) = true := decide_eq_true c12
      clear c12
      by_cases c13 : x28_1 < (l3.length : Int)
      ·rw [if_pos c13] at H
       have c13b0 : decide (x28_1 < (l3.length : Int)) = true := decide_eq_true c13
       clear c13
       have HC14 := Aside0.mk H
       clear H
       have p368 : 0 ≤ (x28_1 : Int) := of_decide_eq_true (by assumption)
       have q368 : x28_1 < (l3.length : Int) := of_decide_eq_true (by assumption)
       obtain ⟨ad368, e368, hx368_0⟩ := Kd.at_int HR3.out x28_1 p368 q368
       cases e368
       replace hx368_0 := (HB.out.cell (World.block_lt_of_cell? w _ hx368_0)).trans hx368_0
       replace p368 := eq_true p368
       replace q368 := eq_true q368
       go_upto_region 8 with (fail)
       go_cut [40] (fun v40 wc => ∃ (kq : Nat) (x40_13 : Bool), v40 = .bool x40_13 ∧ Aside0 (impl_piecesOf.j1 kq a0 a1 x10_1 x11_1 x28_1 (rd l3 x28_1) l3 (l3.length : Int) x28_1 x40_13 = some (r1, r2)) ∧ Aside0 (kq ≤ k1) ∧ Aside0 (Kd.V (Kd.int .i64) 3 wc w.heap.size (fun k_ => some k_ ≠ (u11 : Value).ownBlock) (.slice Ao8 x10_1.length co8) x10_1) ∧ Aside0 (Kd.R (Kd.int .i64) 3 wc w.heap.size (fun _ => True) u11 x11_1) ∧ Aside0 (Below w.heap.size w wc))
       case first =>
        have H := HC14.out
        clear HC14
        by_cases c15 : (rd l3 x28_1) < 0
        ·rw [if_pos c15] at H
         have c15b0 : decide ((rd l3 x28_1) < 0) = true := decide_eq_true c15
         clear c15
         (first | rw [c15b0] | (simp only [i64_w, i32_w]; rw [c15b0]) | skip)
         have H' := Aside0.mk H
         clear H
         go_wp2
         go_meet
         case rel => exact ⟨_, (true), (by first | rfl | (simp; done) | (simp [*]; done)), H', ⟨by have := HK1.out; first | omega | exact Nat.le_refl _⟩, ⟨by (try simp only [hl10_1]); (with_reducible repeat (first | apply vA | apply vN | apply vD)); exact HO_10.out⟩, ⟨by (try simp only [hl10_1]); (with_reducible repeat (first | apply rA | apply rN | apply rD)); exact HO_11.out⟩, ⟨by repeat (with_reducible first | exact HB.out | apply bA | apply bN | apply bD)⟩⟩
        ·rw [if_neg c15] at H
         have c15b0 : decide ((rd l3 x28_1) < 0) = false := decide_eq_false c15
         clear c15
         (first | rw [c15b0] | (simp only [i64_w, i32_w]; rw [c15b0]) | skip)
         have H' := Aside0.mk H
         clear H
         obtain ⟨Ao16, co16, eo16⟩ := Kd.R_slice HO_11.out
         subst eo16
         go_wp2
         go_meet
         case rel => exact ⟨_, (decide ((rd l3 x28_1) > (x11_1.length : Int))), (by first | rfl | (simp; done) | (simp [*]; done)), H', ⟨by have := HK1.out; first | omega | exact Nat.le_refl _⟩, ⟨by (try simp only [hl10_1]); (with_reducible repeat (first | apply vA | apply vN | apply vD)); exact HO_10.out⟩, ⟨by (try simp only [hl10_1]); (with_reducible repeat (first | apply rA | apply rN | apply rD)); exact HO_11.out⟩, ⟨by repeat (with_reducible first | exact HB.out | apply bA | apply bN | apply bD)⟩⟩
       case rest =>
        clear HC14
        try clear c1
        try clear p2
        try clear c3
        try clear p3
        try clear q3
        try clear hx3
        try clear c4
        try clear c6
        try clear c6b0
        try clear c6b1
        try clear c6b2
        try clear c11
        try clear c11b0
        try clear c12
        try clear c12b0
        try clear c13
        try clear c13b0
        try clear c15
        try clear c15b0
        try clear hx368_0
        try clear p2
        try clear p368
        try clear q368
        obtain ⟨kq, x40_13, rfl, HA, HJ13, HO_10, HO_11, HB⟩ := hcut
        cases kq with
        | zero => exact absurd HA.out (by simp [impl_piecesOf.j1])
        | succ kj13 =>
         have H := HA.out
         clear HA
         simp only [impl_piecesOf.j1] at H
         by_cases c17 : x40_13 = true
         ·subst c17
          rw [if_pos rfl] at H
          simp only [Option.some.injEq, Prod.mk.injEq] at H
          obtain ⟨rfl, rfl⟩ := H
          go_wp2
          go_ret2
          exact ⟨_, by first | rfl | (simp [errW_none, errW_some] <;> rfl) | (simp [*, errW_none, errW_some] <;> rfl), by first | exact Kd.R_nil _ _ _ _ _ | exact Kd.N_nil _ _ _ _ _ | exact Kd.V_nil _ _ _ _ _ | exact Kd.Q_nil _ _ _ _ _ | exact Kd.S_nil _ _ _ _ _, by repeat (with_reducible first | exact HB.out | apply bA | apply bN | apply bD)⟩
         ·replace c17 := Bool.eq_false_iff.mpr c17
          subst c17
          rw [if_neg (show ¬ (false = true) by decide)] at H
          by_cases c18 : (rd l3 x28_1) = (x11_1.length : Int)
          ·rw [if_pos c18] at H
           have c18b0 : ((rd l3 x28_1) == (x11_1.length : Int)) = true := beq_iff_eq.mpr c18
           have c18b1 : ((rd l3 x28_1) != (x11_1.length : Int)) = false := bne_eq_false_iff_eq.mpr c18
           clear c18
           by_cases c19 : x11_1.length < 17592186044416
           ·rw [if_pos c19] at H
            have LMc19 := Aside0.mk c19
            clear c19
            obtain ⟨y369, hy369⟩ : ∃ y_ : List Int, y_ = (x11_1 ++ [0]) := ⟨_, rfl⟩
            replace H : (if 0 ≤ (rd l3 x28_1) then (if (rd l3 x28_1) < (y369.length : Int) then (if 0 ≤ x28_1 then (if x28_1 < (x10_1.length : Int) then (if 0 ≤ (rd x10_1 x28_1) then (impl_piecesOf.l0 kj13 a0 a1 x10_1 (y369.set ((rd l3 x28_1) : Int).toNat (Go.bits .or .i64 (rd y369 (rd l3 x28_1)) (shl .i64 1 (rd x10_1 x28_1)))) l3 (l3.length : Int) (wrap64 (x28_1 + 1))) else (none)) else (none)) else (none)) else (none)) else (none)) = some (r1, r2) := by first | (rw [hy369]; with_reducible exact H) | (have H2_ := (Option.bind_some _ _).symm.trans H; rw [hy369]; with_reducible exact H2_) | (have H2_ := (Option.bind_some _ _).symm.trans H; with_reducible exact H2_) | with_reducible exact H | (rw [hy369]; exact H) | exact H
            have Ny369 := Aside0.mk hy369
            clear hy369
            by_cases c20 : 0 ≤ (rd l3 x28_1)
            ·rw [if_pos c20] at H
             have c20b0 : decide (0 ≤ (rd l3 x28_1)) = true := decide_eq_true c20
             clear c20
             by_cases c21 : (rd l3 x28_1) < (y369.length : Int)
             ·rw [if_pos c21] at H
              have c21b0 : decide ((rd l3 x28_1) < (y369.length : Int)) = true := decide_eq_true c21
              clear c21
              by_cases c22 : 0 ≤ x28_1
              ·rw [if_pos c22] at H
               have c22b0 : decide (0 ≤ x28_1) = true := decide_eq_true c22
               clear c22
               by_cases c23 : x28_1 < (x10_1.length : Int)
               ·rw [if_pos c23] at H
                have c23b0 : decide (x28_1 < (x10_1.length : Int)) = true := decide_eq_true c23
                clear c23
                by_cases c24 : 0 ≤ (rd x10_1 x28_1)
                ·rw [if_pos c24] at H
                 have c24b0 := eq_true c24
                 have c24b1 : decide (0 ≤ (rd x10_1 x28_1)) = true := decide_eq_true c24
                 clear c24
                 obtain ⟨ji25, hji25⟩ : ∃ j_ : Int, (shl .i64 1 (rd x10_1 x28_1)) = j_ := ⟨_, rfl⟩
                 replace H : (impl_piecesOf.l0 kj13 a0 a1 x10_1 (y369.set ((rd l3 x28_1) : Int).toNat (Go.bits .or .i64 (rd y369 (rd l3 x28_1)) (ji25))) l3 (l3.length : Int) (wrap64 (x28_1 + 1))) = some (r1, r2) := by first | (rw [hji25] at H; exact H) | (simp only [hji25] at H ⊢; exact H)
                 have hji25_ : (IntKind.i64.wrap (1 * 2 ^ min (rd x10_1 x28_1).toNat 64)) = ji25 := hji25
                 have hji25z : (rd x10_1 x28_1) ≤ 64 → (IntKind.i64.wrap (1 * 2 ^ (rd x10_1 x28_1).toNat)) = ji25 := shl_small hji25
                 have hji25u : (IntKind.i64.wrap (2 ^ min (rd x10_1 x28_1).toNat 64)) = ji25 := by have h_ := hji25_; rw [Int.one_mul] at h_; exact h_
                 have hji25v : (rd x10_1 x28_1) ≤ 64 → (IntKind.i64.wrap (2 ^ (rd x10_1 x28_1).toNat)) = ji25 := fun hle_ => by have h_ := hji25z hle_; rw [Int.one_mul] at h_; exact h_
                 have hji25y : (wrap64 (1 * 2 ^ min (rd x10_1 x28_1).toNat 64)) = ji25 := (i64_w _).symm.trans hji25_
                 have hji25x : (rd x10_1 x28_1) ≤ 64 → (wrap64 (1 * 2 ^ (rd x10_1 x28_1).toNat)) = ji25 := fun h_ => (i64_w _).symm.trans (hji25z h_)
                 obtain ⟨y374, hy374⟩ : ∃ y_ : List Int, y_ = (y369.set ((rd l3 x28_1) : Int).toNat (Go.bits .or .i64 (rd y369 (rd l3 x28_1)) (ji25))) := ⟨_, rfl⟩
                 replace H : (impl_piecesOf.l0 kj13 a0 a1 x10_1 y374 l3 (l3.length : Int) (wrap64 (x28_1 + 1))) = some (r1, r2) := by first | (rw [hy374]; with_reducible exact H) | (have H2_ := (Option.bind_some _ _).symm.trans H; rw [hy374]; with_reducible exact H2_) | (have H2_ := (Option.bind_some _ _).symm.trans H; with_reducible exact H2_) | with_reducible exact H | (rw [hy374]; exact H) | exact H
                 have Ny374 := Aside0.mk hy374
                 clear hy374
                 have H' := Aside0.mk H
                 clear H
                 obtain ⟨Ao27, co27, eo27⟩ := Kd.R_slice HO_11.out
                 subst eo27
                 try go_wp2_with (first | ((with_reducible refine gate_builtin (b := .append) (xs := #[.tmp 45, .tmp 46]) rfl ?_); (try (refine gate_guard (by rfl) ?_; dsimp only)); at_builtin; refine Kd.R_append (Kd.int .i64) (w0 := w) w.heap.size rfl (.tmp 45) (.tmp 46) 24 3 (.int .i64 0) 8 rfl Tryd.underlying24 info3 rfl (by decide) (by omega) (.slice Ao27 x11_1.length co27) x11_1 0 [.int .i64 0] (fun _ => True) (fun _ => False) rfl rfl ?aP (fun _ hk => hk.elim) ?aF ?aO ?aB ?aS ?aL ?_; (case aP => exact rfl); (case aB => exact (by repeat (with_reducible first | exact HB.out | apply bA | apply bN | apply bD))); (case aF => exact (fun _ _ => trivial)); (case aO => exact (by (with_reducible repeat (first | apply rA | apply rN | apply rD)); exact HO_11.out)); (case aS => exact (below_size (by repeat (with_reducible first | exact HB.out | apply bA | apply bN | apply bD)))); (case aL => have := LMc19.out; omega); intro v370 w28 ho hb hg hat; rw [← Ny369.out] at ho; have n0_ := Aside0.mk (Kd.V_afterv (ok := (fun _ => True)) (by (with_reducible repeat (first | apply vA | apply vN | apply vD)); exact Kd.V_mono HO_10.out (fun _ hk => ⟨trivial, hk⟩)) hg hat); have n1_ := Aside0.mk (hb); have n2_ := Aside0.mk (ho); clear HO_10; clear HB; clear HO_11; have HO_10 := n0_; have HB := n1_; have HO371 := n2_; clear n0_ n1_ n2_; clear ho hb hg hat))
                 have n0_ := Aside0.mk (Kd.V_drew HO_10.out)
                 have n1_ := Aside0.mk (Kd.R_drew HO371.out)
                 have n2_ := Aside0.mk (below_drew1 HB.out)
                 clear HO_10
                 clear HO371
                 clear HB
                 have HO_10 := n0_
                 have HO371 := n1_
                 have HB := n2_
                 clear n0_ n1_ n2_
                 obtain ⟨Ao30, co30, eo30⟩ := Kd.R_slice HO371.out
                 (first | subst eo30 | (injection eo30 with f1_ f2_ f3_; have f4_ := f1_.symm; have f5_ := f3_.symm; clear f1_ f2_ f3_; subst f4_; subst f5_))
                 have p372 : 0 ≤ ((rd l3 x28_1) : Int) := of_decide_eq_true (by assumption)
                 have q372 : (rd l3 x28_1) < (y369.length : Int) := of_decide_eq_true (by assumption)
                 obtain ⟨ad372, e372, hx372_0⟩ := Kd.at_int (Kd.R_reads' HO371.out).2.2 (rd l3 x28_1) p372 q372
                 cases e372
                 replace p372 := eq_true p372
                 replace q372 := eq_true q372
                 have p373 : 0 ≤ (x28_1 : Int) := of_decide_eq_true (by assumption)
                 have q373 : x28_1 < (x10_1.length : Int) := of_decide_eq_true (by assumption)
                 obtain ⟨ad373, e373, hx373_0⟩ := Kd.at_int (Kd.V_reads' HO_10.out).2.2 x28_1 p373 q373
                 cases e373
                 replace p373 := eq_true p373
                 replace q373 := eq_true q373
                 have p26 : 0 ≤ ((rd l3 x28_1) : Int) := of_decide_eq_true (by assumption)
                 have q26 : ((rd l3 x28_1) : Int) < ((y369.length : Int) : Int) := of_decide_eq_true (by assumption)
                 obtain ⟨go26, co26, eo26, gb26, gl26, cl26, HG26⟩ := Kd.R_form HO371.out (by omega)
                 (first | cases eo26 | (injection eo26 with ea_ en_ ec_; (first | subst ea_ | (injection ea_ with ea_; subst ea_)); subst ec_; clear en_))
                 have GB26 := Aside0.mk gb26
                 have GG26 := Aside0.mk HG26
                 clear gb26 gl26 HG26
                 (first | simp only [add_plain] at hx372_0 | skip)
                 obtain ⟨hx26_0, hf26_0⟩ := Kd.R_celln 0 HO371.out ((rd l3 x28_1) : Int) p26 q26
                 replace p26 := eq_true p26
                 replace q26 := eq_true q26
                 have HP31 := Kd.R_putn HO371.out ((rd l3 x28_1) : Int) (Go.bits .or .i64 (rd y369 (rd l3 x28_1)) (ji25))
                 rw [← Ny374.out] at HP31
                 have HQ31 := Aside0.mk HP31
                 clear HP31
                 refine start_ (n := 12) (S := fun w' => w'.cell? ⟨go26, ((rd l3 x28_1)).toNat, none⟩ = some (.int .i64 (rd y369 (rd l3 x28_1))) ∧ w'.cell? (ad373.add (x28_1).toNat) = some (.int .i64 (rd x10_1 x28_1))) (ds := [11]) #[false, false, false, false, false, false, false, false, false, false, false, false] (by kernel_rfl) rfl rfl ⟨hx372_0, hx373_0⟩ (fun hHeld => ?_); refine with_tabW impl_piecesOf.tab12 impl_piecesOf.bits12 (fun HT_ HW_ => ?_)
                 generalize w28.drew = w29 at HO_10 HO371 HB GG26 HQ31 hf26_0 hx26_0 hx372_0 hx373_0 hHeld ⊢
                 refine pure_ (i := 0) (N := some 48) (v := ?_) (a' := ?_) #[true, false, false, false, false, false, false, false, false, false, false, false] rfl rfl (any_of HT_.out (by kernel_rfl)) (fun _ _ _ h => h) (Or.inl ⟨by rfl, ?_⟩) ?_ ?_
                 rotate_left
                 ·intro w'
                  go_simp
                  with_reducible rfl
                 rotate_left
                 ·simp only [Act.put, List.setIfInBounds_toArray, List.set_cons_zero, List.set_cons_succ, i64_w, i32_w]
                  rfl
                 refine pure_ (i := 1) (N := some 49) (v := ?_) (a' := ?_) #[true, true, false, false, false, false, false, false, false, false, false, false] rfl rfl (any_of HT_.out (by kernel_rfl)) (fun _ _ _ h => h) (Or.inl ⟨by rfl, ?_⟩) ?_ ?_
                 rotate_left
                 ·intro w'
                  go_simp
                  with_reducible rfl
                 rotate_left
                 ·simp only [Act.put, List.setIfInBounds_toArray, List.set_cons_zero, List.set_cons_succ, i64_w, i32_w]
                  rfl
                 refine pure_ (i := 2) (N := some 50) (v := ?_) (a' := ?_) #[true, true, true, false, false, false, false, false, false, false, false, false] rfl rfl (any_of HT_.out (by kernel_rfl)) (fun _ _ _ h => h) (Or.inl ⟨by rfl, ?_⟩) ?_ ?_
                 rotate_left
                 ·intro w'
                  go_simp
                  with_reducible rfl
                 rotate_left
                 ·simp only [Act.put, List.setIfInBounds_toArray, List.set_cons_zero, List.set_cons_succ, i64_w, i32_w]
                  rfl
                 refine pure_ (i := 4) (N := some 52) (v := ?_) (a' := ?_) #[true, true, true, false, true, false, false, false, false, false, false, false] rfl rfl (any_of HT_.out (by kernel_rfl)) (fun _ _ _ h => h) (Or.inl ⟨by rfl, ?_⟩) ?_ ?_
                 rotate_left
                 ·intro w'
                  go_simp
                  with_reducible rfl
                 rotate_left
                 ·simp only [Act.put, List.setIfInBounds_toArray, List.set_cons_zero, List.set_cons_succ, i64_w, i32_w]
                  rfl
                 refine pure_ (i := 5) (N := some 53) (v := ?_) (a' := ?_) #[true, true, true, false, true, true, false, false, false, false, false, false] rfl rfl (any_of HT_.out (by kernel_rfl)) (fun _ _ _ h => h) (Or.inl ⟨by rfl, ?_⟩) ?_ ?_
                 rotate_left
                 ·intro w'
                  go_simp
                  with_reducible rfl
                 rotate_left
                 ·simp only [Act.put, List.setIfInBounds_toArray, List.set_cons_zero, List.set_cons_succ, i64_w, i32_w]
                  rfl
                 refine pure_ (i := 6) (N := some 54) (v := ?_) (a' := ?_) #[true, true, true, false, true, true, true, false, false, false, false, false] rfl rfl (any_of HT_.out (by kernel_rfl)) (fun _ _ _ h => h) (Or.inl ⟨by rfl, ?_⟩) ?_ ?_
                 rotate_left
                 ·intro w'
                  go_simp
                  with_reducible rfl
                 rotate_left
                 ·simp only [Act.put, List.setIfInBounds_toArray, List.set_cons_zero, List.set_cons_succ, i64_w, i32_w]
                  rfl
                 refine take_ (i := 3) (N := some 51) (v := ?_) (a' := ?_) #[true, true, true, true, true, true, true, false, false, false, false, false] rfl rfl (take_ofW HT_.out HW_.out (by kernel_rfl)) (fun _ _ _ h => h) (Or.inl ⟨by rfl, ?_⟩) hHeld ?_ ?_
                 rotate_left
                 ·rintro w' ⟨s0, s1⟩
                  go_simp
                  with_reducible rfl
                 rotate_left
                 ·simp only [Act.put, List.setIfInBounds_toArray, List.set_cons_zero, List.set_cons_succ, i64_w, i32_w]
                  rfl
                 refine take_ (i := 7) (N := some 55) (v := ?_) (a' := ?_) #[true, true, true, true, true, true, true, true, false, false, false, false] rfl rfl (take_ofW HT_.out HW_.out (by kernel_rfl)) (fun _ _ _ h => h) (Or.inl ⟨by rfl, ?_⟩) hHeld ?_ ?_
                 rotate_left
                 ·rintro w' ⟨s0, s1⟩
                  go_simp
                  with_reducible rfl
                 rotate_left
                 ·simp only [Act.put, List.setIfInBounds_toArray, List.set_cons_zero, List.set_cons_succ, i64_w, i32_w]
                  rfl
                 refine pure_ (i := 8) (N := some 56) (v := ?_) (a' := ?_) #[true, true, true, true, true, true, true, true, true, false, false, false] rfl rfl (any_of HT_.out (by kernel_rfl)) (fun _ _ _ h => h) (Or.inl ⟨by rfl, ?_⟩) ?_ ?_
                 rotate_left
                 ·intro w'
                  go_simp
                  with_reducible rfl
                 rotate_left
                 ·simp only [Act.put, List.setIfInBounds_toArray, List.set_cons_zero, List.set_cons_succ, i64_w, i32_w]
                  rfl
                 refine pure_ (i := 9) (N := some 57) (v := ?_) (a' := ?_) #[true, true, true, true, true, true, true, true, true, true, false, false] rfl rfl (any_of HT_.out (by kernel_rfl)) (fun _ _ _ h => h) (Or.inl ⟨by rfl, ?_⟩) ?_ ?_
                 rotate_left
                 ·intro w'
                  go_simp
                  with_reducible rfl
                 rotate_left
                 ·simp only [Act.put, List.setIfInBounds_toArray, List.set_cons_zero, List.set_cons_succ, i64_w, i32_w]
                  rfl
                 refine pure_ (i := 10) (N := some 58) (v := ?_) (a' := ?_) #[true, true, true, true, true, true, true, true, true, true, true, false] rfl rfl (any_of HT_.out (by kernel_rfl)) (fun _ _ _ h => h) (Or.inl ⟨by rfl, ?_⟩) ?_ ?_
                 rotate_left
                 ·intro w'
                  go_simp
                  with_reducible rfl
                 rotate_left
                 ·simp only [Act.put, List.setIfInBounds_toArray, List.set_cons_zero, List.set_cons_succ, i64_w, i32_w]
                  rfl
                 refine last_ (i := 11) (N := none) #[true, true, true, true, true, true, true, true, true, true, true, true] rfl rfl (one_of HT_.out (by kernel_rfl)) (by decide) (fun K hK => ?_)
                 refine skip_ (w1 := ?_) (by rfl) rfl ?_ ?_
                 rotate_left
                 ·go_simp
                  rfl
                 refine hK.out _ _ ?_
                 clear hK K
                 refine done_ (done_of HT_.out (by kernel_rfl)) ?_
                 try go_wp2
                 (try simp only [← hl10_1])
                 go_roundg kj13
                 case measure => have := HK1.out; have := HJ13.out; omega
                 case rel => exact ⟨(x10_1), (y374), (wrap64 (x28_1 + 1)), (by first | rfl | (simp; done) | (simp [*]; done)), H', ⟨by have := HK1.out; have := HJ13.out; omega⟩, ⟨by (try simp only [hl10_1]); (with_reducible repeat (first | apply vA | apply vN | apply vD)); exact Kd.V_mono (Kd.V_far (p := ⟨go26, ((rd l3 x28_1) : Int).toNat, none⟩) (Kd.V_mono HO_10.out (fun k_ hk => (⟨hk, fun e_ => hk.2 (by rw [e_]; rfl)⟩ : _ ∧ k_ ≠ go26))) (fun _ hk => hk.2) (.int .i64 (Go.bits .or .i64 (rd y369 (rd l3 x28_1)) (ji25)))) (fun _ hk => hk.1.2)⟩, ⟨by (try simp only [hl10_1]); (with_reducible repeat (first | apply rA | apply rN | apply rD)); exact HQ31.out⟩, ⟨by repeat (first | (with_reducible first | exact HB.out | apply bA | apply bN | apply bD | refine below_set ?_ GB26.out) | exact HB.out)⟩⟩
                ·rw [if_neg c24] at H
                 exact absurd H (by simp)
               ·rw [if_neg c23] at H
                exact absurd H (by simp)
              ·rw [if_neg c22] at H
               exact absurd H (by simp)
             ·rw [if_neg c21] at H
              exact absurd H (by simp)
            ·rw [if_neg c20] at H
             exact absurd H (by simp)
           ·rw [if_neg c19] at H
            exact absurd H (by simp)
          ·rw [if_neg c18] at H
           have c18b0 : ((rd l3 x28_1) == (x11_1.length : Int)) = false := beq_eq_false_iff_ne.mpr c18
           have c18b1 : ((rd l3 x28_1) != (x11_1.length : Int)) = true := bne_iff_ne.mpr c18
           by_cases c32 : 0 ≤ (rd l3 x28_1)
           ·rw [if_pos c32] at H
            have c32b0 : decide (0 ≤ (rd l3 x28_1)) = true := decide_eq_true c32
            clear c32
            by_cases c33 : (rd l3 x28_1) < (x11_1.length : Int)
            ·rw [if_pos c33] at H
             have c33b0 : decide ((rd l3 x28_1) < (x11_1.length : Int)) = true := decide_eq_true c33
             clear c33
             by_cases c34 : 0 ≤ x28_1
             ·rw [if_pos c34] at H
              have c34b0 : decide (0 ≤ x28_1) = true := decide_eq_true c34
              clear c34
              by_cases c35 : x28_1 < (x10_1.length : Int)
              ·rw [if_pos c35] at H
               have c35b0 : decide (x28_1 < (x10_1.length : Int)) = true := decide_eq_true c35
               clear c35
               by_cases c36 : 0 ≤ (rd x10_1 x28_1)
               ·rw [if_pos c36] at H
                have c36b0 := eq_true c36
                have c36b1 : decide (0 ≤ (rd x10_1 x28_1)) = true := decide_eq_true c36
                clear c36
                obtain ⟨ji37, hji37⟩ : ∃ j_ : Int, (shl .i64 1 (rd x10_1 x28_1)) = j_ := ⟨_, rfl⟩
                replace H : (impl_piecesOf.l0 kj13 a0 a1 x10_1 (x11_1.set ((rd l3 x28_1) : Int).toNat (Go.bits .or .i64 (rd x11_1 (rd l3 x28_1)) (ji37))) l3 (l3.length : Int) (wrap64 (x28_1 + 1))) = some (r1, r2) := by first | (rw [hji37] at H; exact H) | (simp only [hji37] at H ⊢; exact H)
                have hji37_ : (IntKind.i64.wrap (1 * 2 ^ min (rd x10_1 x28_1).toNat 64)) = ji37 := hji37
                have hji37z : (rd x10_1 x28_1) ≤ 64 → (IntKind.i64.wrap (1 * 2 ^ (rd x10_1 x28_1).toNat)) = ji37 := shl_small hji37
                have hji37u : (IntKind.i64.wrap (2 ^ min (rd x10_1 x28_1).toNat 64)) = ji37 := by have h_ := hji37_; rw [Int.one_mul] at h_; exact h_
                have hji37v : (rd x10_1 x28_1) ≤ 64 → (IntKind.i64.wrap (2 ^ (rd x10_1 x28_1).toNat)) = ji37 := fun hle_ => by have h_ := hji37z hle_; rw [Int.one_mul] at h_; exact h_
                have hji37y : (wrap64 (1 * 2 ^ min (rd x10_1 x28_1).toNat 64)) = ji37 := (i64_w _).symm.trans hji37_
                have hji37x : (rd x10_1 x28_1) ≤ 64 → (wrap64 (1 * 2 ^ (rd x10_1 x28_1).toNat)) = ji37 := fun h_ => (i64_w _).symm.trans (hji37z h_)
                obtain ⟨y377, hy377⟩ : ∃ y_ : List Int, y_ = (x11_1.set ((rd l3 x28_1) : Int).toNat (Go.bits .or .i64 (rd x11_1 (rd l3 x28_1)) (ji37))) := ⟨_, rfl⟩
                replace H : (impl_piecesOf.l0 kj13 a0 a1 x10_1 y377 l3 (l3.length : Int) (wrap64 (x28_1 + 1))) = some (r1, r2) := by first | (rw [hy377]; with_reducible exact H) | (have H2_ := (Option.bind_some _ _).symm.trans H; rw [hy377]; with_reducible exact H2_) | (have H2_ := (Option.bind_some _ _).symm.trans H; with_reducible exact H2_) | with_reducible exact H | (rw [hy377]; exact H) | exact H
                have Ny377 := Aside0.mk hy377
                clear hy377
                have H' := Aside0.mk H
                clear H
                obtain ⟨Ao39, co39, eo39⟩ := Kd.R_slice HO_11.out
                subst eo39
                try go_wp2
                have n0_ := Aside0.mk (Kd.V_drew HO_10.out)
                have n1_ := Aside0.mk (Kd.R_drew HO_11.out)
                have n2_ := Aside0.mk (below_drew1 HB.out)
                clear HO_10
                clear HO_11
                clear HB
                have HO_10 := n0_
                have HO_11 := n1_
                have HB := n2_
                clear n0_ n1_ n2_
                have p375 : 0 ≤ ((rd l3 x28_1) : Int) := of_decide_eq_true (by assumption)
                have q375 : (rd l3 x28_1) < (x11_1.length : Int) := of_decide_eq_true (by assumption)
                obtain ⟨ad375, e375, hx375_0⟩ := Kd.at_int (Kd.R_reads' HO_11.out).2.2 (rd l3 x28_1) p375 q375
                cases e375
                replace p375 := eq_true p375
                replace q375 := eq_true q375
                have p376 : 0 ≤ (x28_1 : Int) := of_decide_eq_true (by assumption)
                have q376 : x28_1 < (x10_1.length : Int) := of_decide_eq_true (by assumption)
                obtain ⟨ad376, e376, hx376_0⟩ := Kd.at_int (Kd.V_reads' HO_10.out).2.2 x28_1 p376 q376
                cases e376
                replace p376 := eq_true p376
                replace q376 := eq_true q376
                have p38 : 0 ≤ ((rd l3 x28_1) : Int) := of_decide_eq_true (by assumption)
                have q38 : ((rd l3 x28_1) : Int) < ((x11_1.length : Int) : Int) := of_decide_eq_true (by assumption)
                obtain ⟨go38, co38, eo38, gb38, gl38, cl38, HG38⟩ := Kd.R_form HO_11.out (by omega)
                (first | cases eo38 | (injection eo38 with ea_ en_ ec_; (first | subst ea_ | (injection ea_ with ea_; subst ea_)); subst ec_; clear en_))
                have GB38 := Aside0.mk gb38
                have GG38 := Aside0.mk HG38
                clear gb38 gl38 HG38
                (first | simp only [add_plain] at hx375_0 | skip)
                obtain ⟨hx38_0, hf38_0⟩ := Kd.R_celln 0 HO_11.out ((rd l3 x28_1) : Int) p38 q38
                replace p38 := eq_true p38
                replace q38 := eq_true q38
                have HP41 := Kd.R_putn HO_11.out ((rd l3 x28_1) : Int) (Go.bits .or .i64 (rd x11_1 (rd l3 x28_1)) (ji37))
                rw [← Ny377.out] at HP41
                have HQ41 := Aside0.mk HP41
                clear HP41
                refine start_ (n := 12) (S := fun w' => w'.cell? ⟨go38, ((rd l3 x28_1)).toNat, none⟩ = some (.int .i64 (rd x11_1 (rd l3 x28_1))) ∧ w'.cell? (ad376.add (x28_1).toNat) = some (.int .i64 (rd x10_1 x28_1))) (ds := [11]) #[false, false, false, false, false, false, false, false, false, false, false, false] (by kernel_rfl) rfl rfl ⟨hx375_0, hx376_0⟩ (fun hHeld => ?_); refine with_tabW impl_piecesOf.tab12 impl_piecesOf.bits12 (fun HT_ HW_ => ?_)
                generalize wc.drew = w40 at HO_10 HO_11 HB GG38 HQ41 hf38_0 hx375_0 hx376_0 hx38_0 hHeld ⊢
                refine pure_ (i := 0) (N := some 48) (v := ?_) (a' := ?_) #[true, false, false, false, false, false, false, false, false, false, false, false] rfl rfl (any_of HT_.out (by kernel_rfl)) (fun _ _ _ h => h) (Or.inl ⟨by rfl, ?_⟩) ?_ ?_
                rotate_left
                ·intro w'
                 go_simp
                 with_reducible rfl
                rotate_left
                ·simp only [Act.put, List.setIfInBounds_toArray, List.set_cons_zero, List.set_cons_succ, i64_w, i32_w]
                 rfl
                refine pure_ (i := 1) (N := some 49) (v := ?_) (a' := ?_) #[true, true, false, false, false, false, false, false, false, false, false, false] rfl rfl (any_of HT_.out (by kernel_rfl)) (fun _ _ _ h => h) (Or.inl ⟨by rfl, ?_⟩) ?_ ?_
                rotate_left
                ·intro w'
                 go_simp
                 with_reducible rfl
                rotate_left
                ·simp only [Act.put, List.setIfInBounds_toArray, List.set_cons_zero, List.set_cons_succ, i64_w, i32_w]
                 rfl
                refine pure_ (i := 2) (N := some 50) (v := ?_) (a' := ?_) #[true, true, true, false, false, false, false, false, false, false, false, false] rfl rfl (any_of HT_.out (by kernel_rfl)) (fun _ _ _ h => h) (Or.inl ⟨by rfl, ?_⟩) ?_ ?_
                rotate_left
                ·intro w'
                 go_simp
                 with_reducible rfl
                rotate_left
                ·simp only [Act.put, List.setIfInBounds_toArray, List.set_cons_zero, List.set_cons_succ, i64_w, i32_w]
                 rfl
                refine pure_ (i := 4) (N := some 52) (v := ?_) (a' := ?_) #[true, true, true, false, true, false, false, false, false, false, false, false] rfl rfl (any_of HT_.out (by kernel_rfl)) (fun _ _ _ h => h) (Or.inl ⟨by rfl, ?_⟩) ?_ ?_
                rotate_left
                ·intro w'
                 go_simp
                 with_reducible rfl
                rotate_left
                ·simp only [Act.put, List.setIfInBounds_toArray, List.set_cons_zero, List.set_cons_succ, i64_w, i32_w]
                 rfl
                refine pure_ (i := 5) (N := some 53) (v := ?_) (a' := ?_) #[true, true, true, false, true, true, false, false, false, false, false, false] rfl rfl (any_of HT_.out (by kernel_rfl)) (fun _ _ _ h => h) (Or.inl ⟨by rfl, ?_⟩) ?_ ?_
                rotate_left
                ·intro w'
                 go_simp
                 with_reducible rfl
                rotate_left
                ·simp only [Act.put, List.setIfInBounds_toArray, List.set_cons_zero, List.set_cons_succ, i64_w, i32_w]
                 rfl
                refine pure_ (i := 6) (N := some 54) (v := ?_) (a' := ?_) #[true, true, true, false, true, true, true, false, false, false, false, false] rfl rfl (any_of HT_.out (by kernel_rfl)) (fun _ _ _ h => h) (Or.inl ⟨by rfl, ?_⟩) ?_ ?_
                rotate_left
                ·intro w'
                 go_simp
                 with_reducible rfl
                rotate_left
                ·simp only [Act.put, List.setIfInBounds_toArray, List.set_cons_zero, List.set_cons_succ, i64_w, i32_w]
                 rfl
                refine take_ (i := 3) (N := some 51) (v := ?_) (a' := ?_) #[true, true, true, true, true, true, true, false, false, false, false, false] rfl rfl (take_ofW HT_.out HW_.out (by kernel_rfl)) (fun _ _ _ h => h) (Or.inl ⟨by rfl, ?_⟩) hHeld ?_ ?_
                rotate_left
                ·rintro w' ⟨s0, s1⟩
                 go_simp
                 with_reducible rfl
                rotate_left
                ·simp only [Act.put, List.setIfInBounds_toArray, List.set_cons_zero, List.set_cons_succ, i64_w, i32_w]
                 rfl
                refine take_ (i := 7) (N := some 55) (v := ?_) (a' := ?_) #[true, true, true, true, true, true, true, true, false, false, false, false] rfl rfl (take_ofW HT_.out HW_.out (by kernel_rfl)) (fun _ _ _ h => h) (Or.inl ⟨by rfl, ?_⟩) hHeld ?_ ?_
                rotate_left
                ·rintro w' ⟨s0, s1⟩
                 go_simp
                 with_reducible rfl
                rotate_left
                ·simp only [Act.put, List.setIfInBounds_toArray, List.set_cons_zero, List.set_cons_succ, i64_w, i32_w]
                 rfl
                refine pure_ (i := 8) (N := some 56) (v := ?_) (a' := ?_) #[true, true, true, true, true, true, true, true, true, false, false, false] rfl rfl (any_of HT_.out (by kernel_rfl)) (fun _ _ _ h => h) (Or.inl ⟨by rfl, ?_⟩) ?_ ?_
                rotate_left
                ·intro w'
                 go_simp
                 with_reducible rfl
                rotate_left
                ·simp only [Act.put, List.setIfInBounds_toArray, List.set_cons_zero, List.set_cons_succ, i64_w, i32_w]
                 rfl
                refine pure_ (i := 9) (N := some 57) (v := ?_) (a' := ?_) #[true, true, true, true, true, true, true, true, true, true, false, false] rfl rfl (any_of HT_.out (by kernel_rfl)) (fun _ _ _ h => h) (Or.inl ⟨by rfl, ?_⟩) ?_ ?_
                rotate_left
                ·intro w'
                 go_simp
                 with_reducible rfl
                rotate_left
                ·simp only [Act.put, List.setIfInBounds_toArray, List.set_cons_zero, List.set_cons_succ, i64_w, i32_w]
                 rfl
                refine pure_ (i := 10) (N := some 58) (v := ?_) (a' := ?_) #[true, true, true, true, true, true, true, true, true, true, true, false] rfl rfl (any_of HT_.out (by kernel_rfl)) (fun _ _ _ h => h) (Or.inl ⟨by rfl, ?_⟩) ?_ ?_
                rotate_left
                ·intro w'
                 go_simp
                 with_reducible rfl
                rotate_left
                ·simp only [Act.put, List.setIfInBounds_toArray, List.set_cons_zero, List.set_cons_succ, i64_w, i32_w]
                 rfl
                refine last_ (i := 11) (N := none) #[true, true, true, true, true, true, true, true, true, true, true, true] rfl rfl (one_of HT_.out (by kernel_rfl)) (by decide) (fun K hK => ?_)
                refine skip_ (w1 := ?_) (by rfl) rfl ?_ ?_
                rotate_left
                ·go_simp
                 rfl
                refine hK.out _ _ ?_
                clear hK K
                refine done_ (done_of HT_.out (by kernel_rfl)) ?_
                try go_wp2
                (try simp only [← hl10_1])
                go_roundg kj13
                case measure => have := HK1.out; have := HJ13.out; omega
                case rel => exact ⟨(x10_1), (y377), (wrap64 (x28_1 + 1)), (by first | rfl | (simp; done) | (simp [*]; done)), H', ⟨by have := HK1.out; have := HJ13.out; omega⟩, ⟨by (try simp only [hl10_1]); (with_reducible repeat (first | apply vA | apply vN | apply vD)); exact Kd.V_mono (Kd.V_far (p := ⟨go38, ((rd l3 x28_1) : Int).toNat, none⟩) (Kd.V_mono HO_10.out (fun k_ hk => (⟨hk, fun e_ => hk (by rw [e_]; rfl)⟩ : _ ∧ k_ ≠ go38))) (fun _ hk => hk.2) (.int .i64 (Go.bits .or .i64 (rd x11_1 (rd l3 x28_1)) (ji37)))) (fun _ hk => hk.1)⟩, ⟨by (try simp only [hl10_1]); (with_reducible repeat (first | apply rA | apply rN | apply rD)); exact HQ41.out⟩, ⟨by repeat (first | (with_reducible first | exact HB.out | apply bA | apply bN | apply bD | refine below_set ?_ GB38.out) | exact HB.out)⟩⟩
               ·rw [if_neg c36] at H
                exact absurd H (by simp)
              ·rw [if_neg c35] at H
               exact absurd H (by simp)
             ·rw [if_neg c34] at H
              exact absurd H (by simp)
            ·rw [if_neg c33] at H
             exact absurd H (by simp)
           ·rw [if_neg c32] at H
            exact absurd H (by simp)
      ·rw [if_neg c13] at H
       exact absurd H (by simp)
     ·rw [if_neg c12] at H
      exact absurd H (by simp)
    ·rw [if_neg c11] at H
     have c11b0 : decide (x28_1 < (l3.length : Int)) = false := decide_eq_false c11
     clear c11
     have H' := Aside0.mk H
     clear H
     obtain ⟨Ao42, co42, eo42⟩ := Kd.R_slice HO_11.out
     subst eo42
     go_wp2
     go_loopg [62] k1 (fun kq v62 w' => ∃ (x62_2 : Int), v62 = .int .i64 x62_2 ∧ Aside0 (impl_piecesOf.l1 kq a0 a1 x11_1 x11_1 (x11_1.length : Int) x62_2 = some (r1, r2)) ∧ Aside0 (kq ≤ k1) ∧ Aside0 (Kd.R (Kd.int .i64) 3 w' w.heap.size (fun _ => True) (.slice Ao42 x11_1.length co42) x11_1) ∧ Aside0 (Kd.R (Kd.int .i64) 3 w' w.heap.size (fun _ => True) (.slice Ao42 x11_1.length co42) x11_1) ∧ Aside0 (Below w.heap.size w w'))
     case atStart => exact ⟨(0), (by first | rfl | (simp; done) | (simp [*]; done)), H', ⟨Nat.le_refl _⟩, ⟨by (try simp only [hl10_1]); (with_reducible repeat (first | apply rA | apply rN | apply rD)); exact HO_11.out⟩, ⟨by (try simp only [hl10_1]); (with_reducible repeat (first | apply rA | apply rN | apply rD)); exact HO_11.out⟩, ⟨by repeat (with_reducible first | exact HB.out | apply bA | apply bN | apply bD)⟩⟩
     case round =>
      clear H'
      try clear c1
      try clear c2
      try clear p2
      try clear q2
      try clear hx2
      try clear c3
      try clear p3
      try clear q3
      try clear hx3
      try clear c4
      try clear c6
      try clear c6b0
      try clear c6b1
      try clear c6b2
      try clear p6
      try clear c11
      try clear c11b0
      try clear c12
      try clear c12b0
      try clear c13
      try clear c13b0
      try clear c15
      try clear c15b0
      try clear c17
      try clear c18
      try clear c18b0
      try clear c18b1
      try clear c19
      try clear c20
      try clear c20b0
      try clear c21
      try clear c21b0
      try clear c22
      try clear c22b0
      try clear c23
      try clear c23b0
      try clear c24
      try clear c24b0
      try clear c24b1
      try clear p26
      try clear q26
      try clear hx26
      try clear hf26
      try clear c32
      try clear c32b0
      try clear c33
      try clear c33b0
      try clear c34
      try clear c34b0
      try clear c35
      try clear c35b0
      try clear c36
      try clear c36b0
      try clear c36b1
      try clear p36
      try clear q36
      try clear hx36
      try clear p37
      try clear q37
      try clear hx37
      try clear p38
      try clear q38
      try clear hx38
      try clear hf38
      try clear hx26_0
      try clear hx368_0
      try clear hx372_0
      try clear hx373_0
      try clear hx375_0
      try clear hx376_0
      try clear hx38_0
      try clear p2
      try clear p26
      try clear p3
      try clear p368
      try clear p372
      try clear p373
      try clear p375
      try clear p376
      try clear p38
      try clear q26
      try clear q3
      try clear q368
      try clear q372
      try clear q373
      try clear q375
      try clear q376
      try clear q38
      obtain ⟨x62_2, rfl, HA, HK2, HO_11, HO_60, HB⟩ := hrel
      cases gk with
      | zero => exact absurd HA.out (by simp [impl_piecesOf.l1])
      | succ k2 =>
       have H := HA.out
       clear HA
       simp only [impl_piecesOf.l1] at H
       by_cases c43 : x62_2 < (x11_1.length : Int)
       ·rw [if_pos c43] at H
        have c43b0 : decide (x62_2 < (x11_1.length : Int)) = true := decide_eq_true c43
        clear c43
        by_cases c44 : 0 ≤ x62_2
        ·rw [if_pos c44] at H
         have c44b0 : decide (0 ≤ x62_2) = true := decide_eq_true c44
         clear c44
         by_cases c45 : x62_2 < (x11_1.length : Int)
         ·rw [if_pos c45] at H
          have c45b0 : decide (x62_2 < (x11_1.length : Int)) = true := decide_eq_true c45
          clear c45
          replace H := Option.bind_eq_some_iff.mp H
          obtain ⟨t379, A460, H⟩ := H
          have A46 := Aside0.mk A460
          clear A460
          by_cases c47 : t379 = true
          ·subst c47
           rw [if_pos rfl] at H
           have H' := Aside0.mk H
           clear H
           have p378 : 0 ≤ (x62_2 : Int) := of_decide_eq_true (by assumption)
           have q378 : x62_2 < (x11_1.length : Int) := of_decide_eq_true (by assumption)
           obtain ⟨ad378, e378, hx378_0⟩ := Kd.at_int (Kd.R_reads' HO_60.out).2.2 x62_2 p378 q378
           cases e378
           replace p378 := eq_true p378
           replace q378 := eq_true q378
           go_wp2_with (first | ((with_reducible refine gate_callee (f := 59) rfl ?_); refine goesL_ (some 69) rfl rfl Tryd.func59 (by kernel_rfl) rfl #[.int .i64 a0, .int .i64 a1, .int .i64 (rd x11_1 x62_2)] rfl (by (try simp only [List.map_toArray, List.map_cons, List.map_nil]); first | done | rfl) ?_; (with_reducible refine (impl_isWhole.calls k2 a0 a1 (rd x11_1 x62_2) true _ ?side1 A46.out).mono ?_); (case side1 => first | exact hG | (refine ⟨hG.out.drawn ?_⟩; (repeat (first | exact Drawn0.refl _ | apply Drawn0.step)); done) | (refine ⟨hG.out.below ?_⟩; (repeat (first | (with_reducible first | exact HB.out | apply bA | apply bN | apply bD) | exact HB.out)); done)); rintro e w48 ⟨rfl, hb⟩; refine ⟨_, rfl, ?_⟩; have n0_ := Aside0.mk (Kd.R_below (by (with_reducible repeat (first | apply rA | apply rN | apply rD)); exact HO_11.out) hb); have n1_ := Aside0.mk (Kd.R_below (by (with_reducible repeat (first | apply rA | apply rN | apply rD)); exact HO_60.out) hb); have n2_ := Aside0.mk (below_step (by repeat (with_reducible first | exact HB.out | apply bA | apply bN | apply bD)) hb); clear HO_11; clear HO_60; clear HB; have HO_11 := n0_; have HO_60 := n1_; have HB := n2_; clear n0_ n1_ n2_; (try clear hb); (try clear hb2); (try clear hk); (try clear hi)))
           go_roundg k2
           case measure => have := HK1.out; have := HK2.out; omega
           case rel => exact ⟨(wrap64 (x62_2 + 1)), (by first | rfl | (simp; done) | (simp [*]; done)), H', ⟨by have := HK1.out; have := HK2.out; omega⟩, ⟨by (try simp only [hl10_1]); (with_reducible repeat (first | apply rA | apply rN | apply rD)); exact HO_11.out⟩, ⟨by (try simp only [hl10_1]); (with_reducible repeat (first | apply rA | apply rN | apply rD)); exact HO_60.out⟩, ⟨by repeat (with_reducible first | exact HB.out | apply bA | apply bN | apply bD)⟩⟩
          ·replace c47 := Bool.eq_false_iff.mpr c47
           subst c47
           rw [if_neg (show ¬ (false = true) by decide)] at H
           simp only [Option.some.injEq, Prod.mk.injEq] at H
           obtain ⟨rfl, rfl⟩ := H
           have p378 : 0 ≤ (x62_2 : Int) := of_decide_eq_true (by assumption)
           have q378 : x62_2 < (x11_1.length : Int) := of_decide_eq_true (by assumption)
           obtain ⟨ad378, e378, hx378_0⟩ := Kd.at_int (Kd.R_reads' HO_60.out).2.2 x62_2 p378 q378
           cases e378
           replace p378 := eq_true p378
           replace q378 := eq_true q378
           go_wp2_with (first | ((with_reducible refine gate_callee (f := 59) rfl ?_); refine goesL_ (some 69) rfl rfl Tryd.func59 (by kernel_rfl) rfl #[.int .i64 a0, .int .i64 a1, .int .i64 (rd x11_1 x62_2)] rfl (by (try simp only [List.map_toArray, List.map_cons, List.map_nil]); first | done | rfl) ?_; (with_reducible refine (impl_isWhole.calls k2 a0 a1 (rd x11_1 x62_2) false _ ?side1 A46.out).mono ?_); (case side1 => first | exact hG | (refine ⟨hG.out.drawn ?_⟩; (repeat (first | exact Drawn0.refl _ | apply Drawn0.step)); done) | (refine ⟨hG.out.below ?_⟩; (repeat (first | (with_reducible first | exact HB.out | apply bA | apply bN | apply bD) | exact HB.out)); done)); rintro e w49 ⟨rfl, hb⟩; refine ⟨_, rfl, ?_⟩; have n0_ := Aside0.mk (Kd.R_below (by (with_reducible repeat (first | apply rA | apply rN | apply rD)); exact HO_11.out) hb); have n1_ := Aside0.mk (Kd.R_below (by (with_reducible repeat (first | apply rA | apply rN | apply rD)); exact HO_60.out) hb); have n2_ := Aside0.mk (below_step (by repeat (with_reducible first | exact HB.out | apply bA | apply bN | apply bD)) hb); clear HO_11; clear HO_60; clear HB; have HO_11 := n0_; have HO_60 := n1_; have HB := n2_; clear n0_ n1_ n2_; (try clear hb); (try clear hb2); (try clear hk); (try clear hi)))
           go_ret2
           exact ⟨_, by first | rfl | (simp [errW_none, errW_some] <;> rfl) | (simp [*, errW_none, errW_some] <;> rfl), by first | exact Kd.R_nil _ _ _ _ _ | exact Kd.N_nil _ _ _ _ _ | exact Kd.V_nil _ _ _ _ _ | exact Kd.Q_nil _ _ _ _ _ | exact Kd.S_nil _ _ _ _ _, by repeat (with_reducible first | exact HB.out | apply bA | apply bN | apply bD)⟩
         ·rw [if_neg c45] at H
          exact absurd H (by simp)
        ·rw [if_neg c44] at H
         exact absurd H (by simp)
       ·rw [if_neg c43] at H
        have c43b0 : decide (x62_2 < (x11_1.length : Int)) = false := decide_eq_false c43
        clear c43
        (try simp only [hl10_1] at c43b0)
        simp only [Option.some.injEq, Prod.mk.injEq] at H
        obtain ⟨rfl, rfl⟩ := H
        go_wp2
        go_ret2
        exact ⟨_, by first | rfl | (simp [errW_none, errW_some] <;> rfl) | (simp [*, errW_none, errW_some] <;> rfl), by (with_reducible repeat (first | apply rA | apply rN | apply rD)); exact HO_11.out, by repeat (with_reducible first | exact HB.out | apply bA | apply bN | apply bD)⟩
 ·rw [if_neg c6] at H
  have c6b0 : ((l3.length : Int) == (t362.length : Int)) = false := beq_eq_false_iff_ne.mpr c6
  have c6b1 : ((l3.length : Int) != (t362.length : Int)) = true := bne_iff_ne.mpr c6
  have c6b2 : (l3.length == t362.length) = false := by first | simpa using c6 | (simp at c6 ⊢; omega)
  simp only [Option.some.injEq, Prod.mk.injEq] at H
  obtain ⟨rfl, rfl⟩ := H
  go_enter Tryd.func43, Tryd.ntmps43
  go_wp2_with (first | ((with_reducible refine gate_callee (f := 49) rfl ?_); refine goesL_ (some 19) rfl rfl Tryd.func49 (by kernel_rfl) rfl #[.int .i64 a0, .int .i64 a1, .int .i64 a2] rfl (by (try simp only [List.map_toArray, List.map_cons, List.map_nil]); first | done | rfl) ?_; (with_reducible refine (impl_cellList.calls k a0 a1 a2 t362 _ A5.out).mono ?_); rintro e w50 ⟨v363, rfl, ho0, hb⟩; refine ⟨_, rfl, ?_⟩; have n0_ := Aside0.mk (Kd.V_lower (Kd.V_mono (ok' := fun k_ => True) ho0 (fun k_ hk_ => trivial)) (below_size (by repeat (with_reducible first | exact HB.out | apply bA | apply bN | apply bD)))); have n1_ := Aside0.mk (below_step (by repeat (with_reducible first | exact HB.out | apply bA | apply bN | apply bD)) hb); clear HB; have HO364 := n0_; have HB := n1_; clear n0_ n1_; (try clear hb); (try clear hb2); (try clear hk); (try clear hi); (try clear ho0); obtain ⟨Ao51, co51, eo51⟩ := Kd.V_slice HO364.out; subst eo51))
  go_ret2
  exact ⟨_, by first | rfl | (simp [errW_none, errW_some] <;> rfl) | (simp [*, errW_none, errW_some] <;> rfl), by first | exact Kd.R_nil _ _ _ _ _ | exact Kd.N_nil _ _ _ _ _ | exact Kd.V_nil _ _ _ _ _ | exact Kd.Q_nil _ _ _ _ _ | exact Kd.S_nil _ _ _ _ _, by repeat (with_reducible first | exact HB.out | apply bA | apply bN | apply bD)⟩
-- LEFT OUT: function 44
end Go.Proofs.YtmjfigeikiickaaDoor.QFnExactDissect
