/- What each Go function of this text answers, as a plain function, and that the machine comes to just that answer. -/
import Derived.Test.YtmjfigeikiickaaDoorQFnExactDissectx0
import Derived.Test.YtmjfigeikiickaaDoorQFnExactDissectx12
namespace Go.Proofs.YtmjfigeikiickaaDoor.QFnExactDissect
open Go.RowKit Go.Proofs.YtmjfigeikiickaaDoorW.PrintWords Go.Proofs.YtmjfigeikiickaaDoorW.PrintLast Go.Proofs.YtmjfigeikiickaaDoorW.PrintMore
attribute [local go_sem] max2_int min2_int max_two min_two max_three min_three max_four min_four   -- for this text's walks alone
set_option linter.unusedVariables false
set_option maxHeartbeats 8000000
set_option maxRecDepth 100000
set_option linter.unusedSimpArgs false
def impl_nameOf.l0 : Nat → Int → Int → Int → Int → Int → Option (Int)
 | 0, _, _, _, _, _ => none
 | k + 1, x0, x1, x2, x7, x11 => if x11 < 8 then ((impl_movedMask.f k x0 x1 x2 x11).bind fun bt424 => (if bt424.2 = true then (if x7 < 0 then (impl_nameOf.l0 k x0 x1 x2 bt424.1 (wrap64 (x11 + 1))) else (if bt424.1 < x7 then (impl_nameOf.l0 k x0 x1 x2 bt424.1 (wrap64 (x11 + 1))) else (impl_nameOf.l0 k x0 x1 x2 x7 (wrap64 (x11 + 1))))) else (impl_nameOf.l0 k x0 x1 x2 x7 (wrap64 (x11 + 1))))) else (some x7)
def impl_nameOf.f (k : Nat) (a0 : Int) (a1 : Int) (a2 : Int) : Option (Int) := impl_nameOf.l0 k a0 a1 a2 (-1) 0
theorem impl_nameOf.mono_l : ∀ k, (∀ y0 y1 y2 y3 y4, LeO (impl_nameOf.l0 k y0 y1 y2 y3 y4) (impl_nameOf.l0 (k + 1) y0 y1 y2 y3 y4))
 | 0 => fun _ _ _ _ _ r h => by simp [impl_nameOf.l0] at h
 | k + 1 => by
  have ih0 := impl_nameOf.mono_l k
  ·intro y0 y1 y2 y3 y4
   unfold impl_nameOf.l0
   repeat' first
   | (with_reducible exact LeO.refl _)
   | exact ih0 _ _ _ _ _
   | exact impl_movedMask.mono _ _ _ _ _
   | exact LeO.none _
   | refine LeO.ite ?_ ?_
   | refine LeO.bind ?_ (fun _ => ?_)
theorem impl_nameOf.mono : ∀ a0 a1 a2 k, LeO (impl_nameOf.f k a0 a1 a2) (impl_nameOf.f (k + 1) a0 a1 a2) := by
 intro a0 a1 a2 k
 have ih0 := impl_nameOf.mono_l k
 unfold impl_nameOf.f
 repeat' first
  | (with_reducible exact LeO.refl _)
  | exact ih0 _ _ _ _ _
  | exact impl_movedMask.mono _ _ _ _ _
  | exact LeO.none _
  | refine LeO.ite ?_ ?_
  | refine LeO.bind ?_ (fun _ => ?_)
theorem impl_nameOf.calls (k : Nat) (a0 : Int) (a1 : Int) (a2 : Int) (r : Int) (w : World) (h : impl_nameOf.f k a0 a1 a2 = some r) :
 Calls Tryd.prog 63 #[.int .i64 a0, .int .i64 a1, .int .i64 a2] w fun e w' => e = .returned (.int .i64 r) ∧ Below w.heap.size w w' := by
 have HB := Aside0.mk (Below.refl w.heap.size w)
 have H : (impl_nameOf.l0 k a0 a1 a2 (-1) 0) = some r := h
 clear h
 have H' := Aside0.mk H
 clear H
 go_enter Tryd.func63, Tryd.ntmps63
 go_wp2
 go_loopg [7, 11] k (fun kq v7 v11 w' => ∃ (x7_1 : Int) (x11_1 : Int), v7 = .int .i64 x7_1 ∧ v11 = .int .i64 x11_1 ∧ Aside0 (impl_nameOf.l0 kq a0 a1 a2 x7_1 x11_1 = some r) ∧ Aside0 (kq ≤ k) ∧ Aside0 (Below w.heap.size w w'))
 case atStart => exact ⟨((-1)), (0), (by first | rfl | (simp; done) | (simp [*]; done)), (by first | rfl | (simp; done) | (simp [*]; done)), H', ⟨Nat.le_refl _⟩, ⟨by repeat (with_reducible first | exact HB.out | apply bA | apply bN | apply bD)⟩⟩
 case round =>
  clear H'
  try clear p2
  obtain ⟨x7_1, x11_1, rfl, rfl, HA, HK1, HB⟩ := hrel
  cases gk with
  | zero => exact absurd HA.out (by simp [impl_nameOf.l0])
  | succ k1 =>
   have H := HA.out
   clear HA
   simp only [impl_nameOf.l0] at H
   by_cases c4 : x11_1 < 8
   ·rw [if_pos c4] at H
    have c4b0 : decide (x11_1 < 8) = true := decide_eq_true c4
    clear c4
    replace H := Option.bind_eq_some_iff.mp H
    obtain ⟨⟨t424, t425⟩, A50, H⟩ := H
    replace H : (if t425 = true then (if x7_1 < 0 then (impl_nameOf.l0 k1 a0 a1 a2 t424 (wrap64 (x11_1 + 1))) else (if t424 < x7_1 then (impl_nameOf.l0 k1 a0 a1 a2 t424 (wrap64 (x11_1 + 1))) else (impl_nameOf.l0 k1 a0 a1 a2 x7_1 (wrap64 (x11_1 + 1))))) else (impl_nameOf.l0 k1 a0 a1 a2 x7_1 (wrap64 (x11_1 + 1)))) = some r := H
    have A5 := Aside0.mk A50
    clear A50
    by_cases c6 : t425 = true
    ·subst c6
     rw [if_pos rfl] at H
     by_cases c7 : x7_1 < 0
     ·rw [if_pos c7] at H
      have c7b0 : decide (x7_1 < 0) = true := decide_eq_true c7
      clear c7
      have H' := Aside0.mk H
      clear H
      go_wp2_with (first | ((with_reducible refine gate_callee (f := 70) rfl ?_); refine goesL_ (some 19) rfl rfl Tryd.func70 (by kernel_rfl) rfl #[.int .i64 a0, .int .i64 a1, .int .i64 a2, .int .i64 x11_1] rfl (by (try simp only [List.map_toArray, List.map_cons, List.map_nil]); first | done | rfl) ?_; (with_reducible refine (impl_movedMask.calls k1 a0 a1 a2 x11_1 t424 true _ A5.out).mono ?_); rintro e w8 ⟨rfl, hb⟩; refine ⟨_, rfl, ?_⟩; have n0_ := Aside0.mk (below_step (by repeat (with_reducible first | exact HB.out | apply bA | apply bN | apply bD)) hb); clear HB; have HB := n0_; clear n0_; (try clear hb); (try clear hb2); (try clear hk); (try clear hi)))
      go_roundg k1
      case measure => have := HK1.out; omega
      case rel => exact ⟨(t424), (wrap64 (x11_1 + 1)), (by first | rfl | (simp; done) | (simp [*]; done)), (by first | rfl | (simp; done) | (simp [*]; done)), H', ⟨by have := HK1.out; omega⟩, ⟨by repeat (with_reducible first | exact HB.out | apply bA | apply bN | apply bD)⟩⟩
     ·rw [if_neg c7] at H
      have c7b0 : decide (x7_1 < 0) = false := decide_eq_false c7
      clear c7
      by_cases c9 : t424 < x7_1
      ·rw [if_pos c9] at H
       have c9b0 : decide (t424 < x7_1) = true := decide_eq_true c9
       clear c9
       have H' := Aside0.mk H
       clear H
       go_wp2_with (first | ((with_reducible refine gate_callee (f := 70) rfl ?_); refine goesL_ (some 19) rfl rfl Tryd.func70 (by kernel_rfl) rfl #[.int .i64 a0, .int .i64 a1, .int .i64 a2, .int .i64 x11_1] rfl (by (try simp only [List.map_toArray, List.map_cons, List.map_nil]); first | done | rfl) ?_; (with_reducible refine (impl_movedMask.calls k1 a0 a1 a2 x11_1 t424 true _ A5.out).mono ?_); rintro e w10 ⟨rfl, hb⟩; refine ⟨_, rfl, ?_⟩; have n0_ := Aside0.mk (below_step (by repeat (with_reducible first | exact HB.out | apply bA | apply bN | apply bD)) hb); clear HB; have HB := n0_; clear n0_; (try clear hb); (try clear hb2); (try clear hk); (try clear hi)))
       go_roundg k1
       case measure => have := HK1.out; omega
       case rel => exact ⟨(t424), (wrap64 (x11_1 + 1)), (by first | rfl | (simp; done) | (simp [*]; done)), (by first | rfl | (simp; done) | (simp [*]; done)), H', ⟨by have := HK1.out; omega⟩, ⟨by repeat (with_reducible first | exact HB.out | apply bA | apply bN | apply bD)⟩⟩
      ·rw [if_neg c9] at H
       have c9b0 : decide (t424 < x7_1) = false := decide_eq_false c9
       clear c9
       have H' := Aside0.mk H
       clear H
       go_wp2_with (first | ((with_reducible refine gate_callee (f := 70) rfl ?_); refine goesL_ (some 19) rfl rfl Tryd.func70 (by kernel_rfl) rfl #[.int .i64 a0, .int .i64 a1, .int .i64 a2, .int .i64 x11_1] rfl (by (try simp only [List.map_toArray, List.map_cons, List.map_nil]); first | done | rfl) ?_; (with_reducible refine (impl_movedMask.calls k1 a0 a1 a2 x11_1 t424 true _ A5.out).mono ?_); rintro e w11 ⟨rfl, hb⟩; refine ⟨_, rfl, ?_⟩; have n0_ := Aside0.mk (below_step (by repeat (with_reducible first | exact HB.out | apply bA | apply bN | apply bD)) hb); clear HB; have HB := n0_; clear n0_; (try clear hb); (try clear hb2); (try clear hk); (try clear hi)))
       go_roundg k1
       case measure => have := HK1.out; omega
       case rel => exact ⟨(x7_1), (wrap64 (x11_1 + 1)), (by first | rfl | (simp; done) | (simp [*]; done)), (by first | rfl | (simp; done) | (simp [*]; done)), H', ⟨by have := HK1.out; omega⟩, ⟨by repeat (with_reducible first | exact HB.out | apply bA | apply bN | apply bD)⟩⟩
    ·replace c6 := Bool.eq_false_iff.mpr c6
     subst c6
     rw [if_neg (show ¬ (false = true) by decide)] at H
     have H' := Aside0.mk H
     clear H
     go_wp2_with (first | ((with_reducible refine gate_callee (f := 70) rfl ?_); refine goesL_ (some 19) rfl rfl Tryd.func70 (by kernel_rfl) rfl #[.int .i64 a0, .int .i64 a1, .int .i64 a2, .int .i64 x11_1] rfl (by (try simp only [List.map_toArray, List.map_cons, List.map_nil]); first | done | rfl) ?_; (with_reducible refine (impl_movedMask.calls k1 a0 a1 a2 x11_1 t424 false _ A5.out).mono ?_); rintro e w12 ⟨rfl, hb⟩; refine ⟨_, rfl, ?_⟩; have n0_ := Aside0.mk (below_step (by repeat (with_reducible first | exact HB.out | apply bA | apply bN | apply bD)) hb); clear HB; have HB := n0_; clear n0_; (try clear hb); (try clear hb2); (try clear hk); (try clear hi)))
     go_roundg k1
     case measure => have := HK1.out; omega
     case rel => exact ⟨(x7_1), (wrap64 (x11_1 + 1)), (by first | rfl | (simp; done) | (simp [*]; done)), (by first | rfl | (simp; done) | (simp [*]; done)), H', ⟨by have := HK1.out; omega⟩, ⟨by repeat (with_reducible first | exact HB.out | apply bA | apply bN | apply bD)⟩⟩
   ·rw [if_neg c4] at H
    have c4b0 : decide (x11_1 < 8) = false := decide_eq_false c4
    clear c4
    obtain rfl := Option.some.inj H
    go_wp2
    go_ret
    exact ⟨by first | rfl | (simp [errW_none, errW_some] <;> rfl) | (simp [*, errW_none, errW_some] <;> rfl), by repeat (with_reducible first | exact HB.out | apply bA | apply bN | apply bD)⟩
-- LEFT OUT: function 105
-- LEFT OUT: function 86
-- LEFT OUT: function 80
-- LEFT OUT: function 100
-- LEFT OUT: function 81
-- LEFT OUT: function 89
-- LEFT OUT: function 90
-- LEFT OUT: function 72
-- LEFT OUT: function 101
-- LEFT OUT: function 102
-- LEFT OUT: function 82
-- LEFT OUT: function 109
-- LEFT OUT: function 104
-- LEFT OUT: function 103
-- LEFT OUT: function 83
-- LEFT OUT: function 84
-- LEFT OUT: function 85
-- LEFT OUT: function 87
-- LEFT OUT: function 88
-- LEFT OUT: function 71
def ren189 : Go.Shelf.Ren := ⟨fun | 189 => 64 | 125 => 72 | 257 => 71 | 128 => 89 | 129 => 90 | 294 => 80 | 295 => 81 | 296 => 82 | 297 => 83 | 298 => 84 | 299 => 85 | 216 => 86 | 300 => 87 | 301 => 88 | 328 => 100 | 329 => 101 | 330 => 102 | 331 => 103 | 332 => 104 | 215 => 105 | 343 => 109 | n => n, fun | 28 => 24 | 3 => 3 | 46 => 41 | 0 => 0 | 51 => 54 | 53 => 56 | 4 => 4 | 183 => 74 | 182 => 73 | 131 => 65 | 5 => 5 | 9 => 9 | 218 => 92 | 222 => 96 | 228 => 102 | 229 => 103 | n => n, fun | n => n⟩
theorem lay189 : Go.Proofs.Lays.n189 Tryd.prog ren189 := {
 mixed := by kernel_rfl,
 f125 := Tryd.func72.trans (congrArg some (by kernel_rfl)),
 f128 := Tryd.func89.trans (congrArg some (by kernel_rfl)),
 f129 := Tryd.func90.trans (congrArg some (by kernel_rfl)),
 f189 := Tryd.func64.trans (congrArg some (by kernel_rfl)),
 f215 := Tryd.func105.trans (congrArg some (by kernel_rfl)),
 f216 := Tryd.func86.trans (congrArg some (by kernel_rfl)),
 f257 := Tryd.func71.trans (congrArg some (by kernel_rfl)),
 f294 := Tryd.func80.trans (congrArg some (by kernel_rfl)),
 f295 := Tryd.func81.trans (congrArg some (by kernel_rfl)),
 f296 := Tryd.func82.trans (congrArg some (by kernel_rfl)),
 f297 := Tryd.func83.trans (congrArg some (by kernel_rfl)),
 f298 := Tryd.func84.trans (congrArg some (by kernel_rfl)),
 f299 := Tryd.func85.trans (congrArg some (by kernel_rfl)),
 f300 := Tryd.func87.trans (congrArg some (by kernel_rfl)),
 f301 := Tryd.func88.trans (congrArg some (by kernel_rfl)),
 f328 := Tryd.func100.trans (congrArg some (by kernel_rfl)),
 f329 := Tryd.func101.trans (congrArg some (by kernel_rfl)),
 f330 := Tryd.func102.trans (congrArg some (by kernel_rfl)),
 f331 := Tryd.func103.trans (congrArg some (by kernel_rfl)),
 f332 := Tryd.func104.trans (congrArg some (by kernel_rfl)),
 f343 := Tryd.func109.trans (congrArg some (by kernel_rfl)),
 t0 := Tryd.underlying0,
 a0 := Tryd.isAgg0,
 z0 := Tryd.sizeOf0,
 v0 := Tryd.zeroValue0,
 t3 := Tryd.underlying3,
 a3 := Tryd.isAgg3,
 z3 := Tryd.sizeOf3,
 v3 := Tryd.zeroValue3,
 t4 := Tryd.underlying4,
 a4 := Tryd.isAgg4,
 z4 := Tryd.sizeOf4,
 v4 := Tryd.zeroValue4,
 t5 := Tryd.underlying5,
 a5 := Tryd.isAgg5,
 z5 := Tryd.sizeOf5,
 v5 := Tryd.zeroValue5,
 t9 := Tryd.underlying9,
 a9 := Tryd.isAgg9,
 z9 := Tryd.sizeOf9,
 v9 := Tryd.zeroValue9,
 t28 := Tryd.underlying24,
 a28 := Tryd.isAgg24,
 z28 := Tryd.sizeOf24,
 v28 := Tryd.zeroValue24,
 t46 := Tryd.underlying41,
 a46 := Tryd.isAgg41,
 z46 := Tryd.sizeOf41,
 v46 := Tryd.zeroValue41,
 t51 := Tryd.underlying54,
 a51 := Tryd.isAgg54,
 z51 := Tryd.sizeOf54,
 v51 := Tryd.zeroValue54,
 t53 := Tryd.underlying56,
 a53 := Tryd.isAgg56,
 z53 := Tryd.sizeOf56,
 v53 := Tryd.zeroValue56,
 t131 := Tryd.underlying65,
 a131 := Tryd.isAgg65,
 z131 := Tryd.sizeOf65,
 v131 := Tryd.zeroValue65,
 t182 := Tryd.underlying73,
 a182 := Tryd.isAgg73,
 z182 := Tryd.sizeOf73,
 v182 := Tryd.zeroValue73,
 t183 := Tryd.underlying74,
 a183 := Tryd.isAgg74,
 z183 := Tryd.sizeOf74,
 v183 := Tryd.zeroValue74,
 t218 := Tryd.underlying92,
 a218 := Tryd.isAgg92,
 z218 := Tryd.sizeOf92,
 v218 := Tryd.zeroValue92,
 t222 := Tryd.underlying96,
 a222 := Tryd.isAgg96,
 z222 := Tryd.sizeOf96,
 v222 := Tryd.zeroValue96,
 t228 := Tryd.underlying102,
 a228 := Tryd.isAgg102,
 z228 := Tryd.sizeOf102,
 v228 := Tryd.zeroValue102,
 t229 := Tryd.underlying103,
 a229 := Tryd.isAgg103,
 z229 := Tryd.sizeOf103,
 v229 := Tryd.zeroValue103 }
def slices_Sort_int_int.f (l0 : List Int) : Option (List Int) := if l0.length ≤ 17592186044416 then (some (l0.mergeSort fun x y => decide (x ≤ y))) else (none)
theorem sort_len {l0 r : List Int} (h : slices_Sort_int_int.f l0 = some r) : r.length = l0.length := by
 unfold slices_Sort_int_int.f at h
 by_cases h1 : l0.length ≤ 17592186044416
 ·rw [if_pos h1] at h
  obtain rfl := Option.some.inj h
  exact List.length_mergeSort l0
 ·rw [if_neg h1] at h; cases h
theorem sort_own_grow {w : World} {base : Nat} {v : Value} {n : Nat} {xs : List Value} (os : Array Obj) (h : w.ownsRow base 3 1 v n xs) : (Go.Sort.grow w os).ownsRow base 3 1 v n xs := by
 refine own_move h (fun k hk => ?_)
 have hlt := own_lt h k hk
 show (w.heap ++ os)[k]? = _
 rw [Array.getElem?_append_left hlt]
theorem sort_below_grow {B : Nat} {w0 w : World} (os : Array Obj) (h : Below B w0 w) (hB : B ≤ w.heap.size) : Below B w0 (Go.Sort.grow w os) :=
 ⟨h.os, h.tape, h.output, by show _ ≤ (w.heap ++ os).size; rw [Array.size_append]; have := h.size; omega, fun k hk => by
  rw [← h.block k hk]
  show (w.heap ++ os)[k]? = _
  rw [Array.getElem?_append_left (by omega)]⟩
theorem slices_Sort_int_int.calls (P0_ : Nat → Prop) (u9000_ : Value) (l0 r : List Int) (w0 w : World) (hB : Below w0.heap.size w0 w) (ho0 : Kd.R (Kd.int .i64) 3 w w0.heap.size P0_ u9000_ l0) (h : slices_Sort_int_int.f l0 = some r) :
 Calls Tryd.prog 64 #[u9000_] w fun e w' => e = .returned (.tuple #[]) ∧ Kd.R (Kd.int .i64) 3 w' w0.heap.size (fun k_ => (P0_ k_ ∨ w.heap.size ≤ k_)) u9000_ r ∧ Below w0.heap.size w0 w' ∧ Kept w w' (fun k_ => P0_ k_) := by
 unfold slices_Sort_int_int.f at h
 by_cases h1 : l0.length ≤ 17592186044416
 ·rw [if_pos h1] at h
  obtain rfl := Option.some.inj h
  have ho : w.ownsRow w0.heap.size 3 1 u9000_ l0.length (l0.map (Value.int .i64)) := Kd.own_of_R ho0
  have hok := ho0.1
  have hs : (l0.mergeSort fun x y => decide (x ≤ y)).length = l0.length := List.length_mergeSort l0
  by_cases hv : u9000_ = .slice none 0 0
  ·subst hv
   have h0 : l0 = [] := by
    rcases ho.2 with ⟨_, e⟩ | ⟨g, cap, cur, e, _⟩
    ·simpa using e
    ·cases e
   subst h0
   refine (Any.slices_Sort_int_none lay189 none 0 w).mono ?_
   rintro e w' ⟨rfl, rfl⟩
   refine ⟨rfl, ?_, hB, Kept.refl _ _⟩
   rw [show (List.mergeSort ([] : List Int) fun x y => decide (x ≤ y)) = [] from by simp]
   exact Kd.R_mono ho0 (fun k hk => .inl hk)
  ·obtain ⟨g, cap, rfl, hb, hlt, _, _, _, hH⟩ := Lib.holds_of_ownsRow ho hv
   refine (Any.slices_Sort_int lay189 g 0 cap l0 w hH hlt (by omega)).mono ?_
   rintro e w' ⟨rfl, n, os, rfl⟩
   have hr := Lib.ownsRow_putRow (enc := Value.int .i64) (q := n) (k := l0.length) (ys := l0.mergeSort fun x y => decide (x ≤ y)) ho hs (Nat.le_refl _)
   rw [List.take_of_length_le (by omega), ← hs] at hr
   rw [← hs]
   refine ⟨rfl, Kd.R_of_own (sort_own_grow os hr) (fun k hk => .inl (hok k (by simpa [Value.ownBlock] using hk))), sort_below_grow os (Lib.below_putRow hB hb) ?_, Kept.of_grown (Go.grownBy_sortedI _) (Kept.refl _ _) (fun k hk => .inl (hok k hk))⟩
   exact (Lib.below_putRow hB hb).size
 ·rw [if_neg h1] at h; cases h
-- LEFT OUT: function 110
-- LEFT OUT: function 116
-- LEFT OUT: function 117
-- LEFT OUT: function 111
-- LEFT OUT: function 112
-- LEFT OUT: function 118
-- LEFT OUT: function 113
-- LEFT OUT: function 106
-- LEFT OUT: function 91
def ren171 : Go.Shelf.Ren := ⟨fun | 171 => 73 | 243 => 91 | 246 => 106 | 283 => 110 | 284 => 111 | 285 => 112 | 286 => 113 | 129 => 90 | 317 => 116 | 318 => 117 | 319 => 118 | 320 => 75 | 337 => 95 | 338 => 96 | n => n, fun | 3 => 3 | 9 => 9 | 2 => 2 | 4 => 4 | 171 => 105 | 0 => 0 | 53 => 56 | 37 => 80 | 5 => 5 | 173 => 107 | 212 => 113 | 51 => 54 | 20 => 20 | 213 => 114 | 46 => 41 | 232 => 100 | 233 => 101 | n => n, fun | 17 => 2 | 18 => 0 | 19 => 1 | n => n⟩
theorem lay171 : Go.Proofs.LaysM.n171 Tryd.prog ren171 := {
 mixed := by kernel_rfl,
 f129 := Tryd.func90.trans (congrArg some (by kernel_rfl)),
 f171 := Tryd.func73.trans (congrArg some (by kernel_rfl)),
 f243 := Tryd.func91.trans (congrArg some (by kernel_rfl)),
 f246 := Tryd.func106.trans (congrArg some (by kernel_rfl)),
 f283 := Tryd.func110.trans (congrArg some (by kernel_rfl)),
 f284 := Tryd.func111.trans (congrArg some (by kernel_rfl)),
 f285 := Tryd.func112.trans (congrArg some (by kernel_rfl)),
 f286 := Tryd.func113.trans (congrArg some (by kernel_rfl)),
 f317 := Tryd.func116.trans (congrArg some (by kernel_rfl)),
 f318 := Tryd.func117.trans (congrArg some (by kernel_rfl)),
 f319 := Tryd.func118.trans (congrArg some (by kernel_rfl)),
 f320 := Tryd.func75.trans (congrArg some (by kernel_rfl)),
 f337 := Tryd.func95.trans (congrArg some (by kernel_rfl)),
 f338 := Tryd.func96.trans (congrArg some (by kernel_rfl)),
 t0 := Tryd.underlying0,
 a0 := Tryd.isAgg0,
 z0 := Tryd.sizeOf0,
 v0 := Tryd.zeroValue0,
 t2 := Tryd.underlying2,
 a2 := Tryd.isAgg2,
 z2 := Tryd.sizeOf2,
 v2 := Tryd.zeroValue2,
 t3 := Tryd.underlying3,
 a3 := Tryd.isAgg3,
 z3 := Tryd.sizeOf3,
 v3 := Tryd.zeroValue3,
 t4 := Tryd.underlying4,
 a4 := Tryd.isAgg4,
 z4 := Tryd.sizeOf4,
 v4 := Tryd.zeroValue4,
 t5 := Tryd.underlying5,
 a5 := Tryd.isAgg5,
 z5 := Tryd.sizeOf5,
 v5 := Tryd.zeroValue5,
 t9 := Tryd.underlying9,
 a9 := Tryd.isAgg9,
 z9 := Tryd.sizeOf9,
 v9 := Tryd.zeroValue9,
 t20 := Tryd.underlying20,
 a20 := Tryd.isAgg20,
 z20 := Tryd.sizeOf20,
 v20 := Tryd.zeroValue20,
 t37 := Tryd.underlying80,
 a37 := Tryd.isAgg80,
 z37 := Tryd.sizeOf80,
 v37 := Tryd.zeroValue80,
 t46 := Tryd.underlying41,
 a46 := Tryd.isAgg41,
 z46 := Tryd.sizeOf41,
 v46 := Tryd.zeroValue41,
 t51 := Tryd.underlying54,
 a51 := Tryd.isAgg54,
 z51 := Tryd.sizeOf54,
 v51 := Tryd.zeroValue54,
 t53 := Tryd.underlying56,
 a53 := Tryd.isAgg56,
 z53 := Tryd.sizeOf56,
 v53 := Tryd.zeroValue56,
 t171 := Tryd.underlying105,
 a171 := Tryd.isAgg105,
 z171 := Tryd.sizeOf105,
 v171 := Tryd.zeroValue105,
 t173 := Tryd.underlying107,
 a173 := Tryd.isAgg107,
 z173 := Tryd.sizeOf107,
 v173 := Tryd.zeroValue107,
 t212 := Tryd.underlying113,
 a212 := Tryd.isAgg113,
 z212 := Tryd.sizeOf113,
 v212 := Tryd.zeroValue113,
 t213 := Tryd.underlying114,
 a213 := Tryd.isAgg114,
 z213 := Tryd.sizeOf114,
 t232 := Tryd.underlying100,
 a232 := Tryd.isAgg100,
 z232 := Tryd.sizeOf100,
 v232 := Tryd.zeroValue100,
 t233 := Tryd.underlying101,
 a233 := Tryd.isAgg101,
 z233 := Tryd.sizeOf101,
 v233 := Tryd.zeroValue101,
 g17 := by kernel_rfl,
 g18 := by kernel_rfl,
 g19 := by kernel_rfl,
 i0 := by kernel_rfl,
 i2 := by kernel_rfl,
 i3 := by kernel_rfl,
 i4 := by kernel_rfl,
 i5 := by kernel_rfl,
 i9 := by kernel_rfl,
 i20 := by kernel_rfl,
 i37 := by kernel_rfl,
 i46 := by kernel_rfl,
 i51 := by kernel_rfl,
 i53 := by kernel_rfl,
 i171 := by kernel_rfl,
 i173 := by kernel_rfl,
 i212 := by kernel_rfl,
 i232 := by kernel_rfl,
 i233 := by kernel_rfl,
 m17 := by kernel_rfl,
 m18 := by kernel_rfl,
 m19 := by kernel_rfl }
def strconv_Itoa_73.f (a0 : Int) : Option (ByteArray) := if -9223372036854775808 ≤ a0 ∧ a0 ≤ 9223372036854775807 then (some ⟨(Lib.itoa a0).toArray⟩) else (none)
theorem strconv_Itoa_73.calls (a0 : Int) (r : ByteArray) (w : World) (hG : Aside0 (Go.Proofs.YtmjfigeikiickaaDoorLaid.LaidG w)) (h : strconv_Itoa_73.f a0 = some r) :
 Calls Tryd.prog 73 #[.int .i64 a0] w fun e w' => e = .returned (.string r) ∧ Below w.heap.size w w' := by
 unfold strconv_Itoa_73.f at h
 by_cases h1 : -9223372036854775808 ≤ a0 ∧ a0 ≤ 9223372036854775807
 ·rw [if_pos h1] at h
  obtain rfl := Option.some.inj h
  refine (Any.strconv_Itoa lay171 a0 h1.1 h1.2 w hG.out.2).mono ?_
  rintro e w' ⟨rfl, k, os, rfl⟩
  exact ⟨rfl, Lib.below_grow _ w (Nat.le_refl _) k os⟩
 ·rw [if_neg h1] at h; cases h
def impl_FormatInt.f (a0 : Int) : Option (ByteArray) := (strconv_Itoa_73.f a0).bind fun t426 => (some t426)
theorem impl_FormatInt.calls (a0 : Int) (r : ByteArray) (w : World) (hG : Aside0 (Go.Proofs.YtmjfigeikiickaaDoorLaid.LaidG w)) (h : impl_FormatInt.f a0 = some r) :
 Calls Tryd.prog 65 #[.int .i64 a0] w fun e w' => e = .returned (.string r) ∧ Below w.heap.size w w' := by
 have HB := Aside0.mk (Below.refl w.heap.size w)
 have H : ((strconv_Itoa_73.f a0).bind fun t426 => (some t426)) = some r := h
 clear h
 replace H := Option.bind_eq_some_iff.mp H
 obtain ⟨t426, A20, H⟩ := H
 have A2 := Aside0.mk A20
 clear A20
 obtain rfl := Option.some.inj H
 go_enter Tryd.func65, Tryd.ntmps65
 go_wp2_with (first | ((with_reducible refine gate_callee (f := 73) rfl ?_); refine goesL_ (some 4) rfl rfl Tryd.func73 (by kernel_rfl) rfl #[.int .i64 a0] rfl (by (try simp only [List.map_toArray, List.map_cons, List.map_nil]); first | done | rfl) ?_; (with_reducible refine (strconv_Itoa_73.calls a0 t426 _ ?side1 A2.out).mono ?_); (case side1 => first | exact hG | (refine ⟨hG.out.drawn ?_⟩; (repeat (first | exact Drawn0.refl _ | apply Drawn0.step)); done) | (refine ⟨hG.out.below ?_⟩; (repeat (first | (with_reducible first | exact HB.out | apply bA | apply bN | apply bD) | exact HB.out)); done)); rintro e w3 ⟨rfl, hb⟩; refine ⟨_, rfl, ?_⟩; have n0_ := Aside0.mk (below_step (by repeat (with_reducible first | exact HB.out | apply bA | apply bN | apply bD)) hb); clear HB; have HB := n0_; clear n0_; (try clear hb); (try clear hb2); (try clear hk); (try clear hi)))
 go_ret
 exact ⟨by first | rfl | (simp [errW_none, errW_some] <;> rfl) | (simp [*, errW_none, errW_some] <;> rfl), by repeat (with_reducible first | exact HB.out | apply bA | apply bN | apply bD)⟩
-- LEFT OUT: function 114
-- LEFT OUT: function 107
-- LEFT OUT: function 115
-- LEFT OUT: function 108
-- LEFT OUT: function 92
-- LEFT OUT: function 93
-- LEFT OUT: function 94
def ren156 : Go.Shelf.Ren := ⟨fun | 156 => 74 | 165 => 92 | 166 => 93 | 169 => 94 | 240 => 107 | 241 => 108 | 276 => 114 | 277 => 115 | n => n, fun | 31 => 62 | 9 => 9 | 3 => 3 | 4 => 4 | 0 => 0 | 20 => 20 | 72 => 82 | 76 => 86 | 70 => 79 | 37 => 80 | 75 => 85 | 127 => 99 | 164 => 109 | 5 => 5 | 80 => 88 | n => n, fun | n => n⟩
theorem lay156 : Go.Proofs.Lays.n156 Tryd.prog ren156 := {
 mixed := by kernel_rfl,
 f156 := Tryd.func74.trans (congrArg some (by kernel_rfl)),
 f165 := Tryd.func92.trans (congrArg some (by kernel_rfl)),
 f166 := Tryd.func93.trans (congrArg some (by kernel_rfl)),
 f169 := Tryd.func94.trans (congrArg some (by kernel_rfl)),
 f240 := Tryd.func107.trans (congrArg some (by kernel_rfl)),
 f241 := Tryd.func108.trans (congrArg some (by kernel_rfl)),
 f276 := Tryd.func114.trans (congrArg some (by kernel_rfl)),
 f277 := Tryd.func115.trans (congrArg some (by kernel_rfl)),
 t0 := Tryd.underlying0,
 a0 := Tryd.isAgg0,
 z0 := Tryd.sizeOf0,
 v0 := Tryd.zeroValue0,
 t3 := Tryd.underlying3,
 a3 := Tryd.isAgg3,
 z3 := Tryd.sizeOf3,
 v3 := Tryd.zeroValue3,
 t4 := Tryd.underlying4,
 a4 := Tryd.isAgg4,
 z4 := Tryd.sizeOf4,
 v4 := Tryd.zeroValue4,
 t9 := Tryd.underlying9,
 a9 := Tryd.isAgg9,
 z9 := Tryd.sizeOf9,
 v9 := Tryd.zeroValue9,
 t20 := Tryd.underlying20,
 a20 := Tryd.isAgg20,
 z20 := Tryd.sizeOf20,
 v20 := Tryd.zeroValue20,
 t31 := Tryd.underlying62,
 a31 := Tryd.isAgg62,
 z31 := Tryd.sizeOf62,
 v31 := Tryd.zeroValue62,
 t37 := Tryd.underlying80,
 a37 := Tryd.isAgg80,
 z37 := Tryd.sizeOf80,
 v37 := Tryd.zeroValue80,
 t70 := Tryd.underlying79,
 a70 := Tryd.isAgg79,
 z70 := Tryd.sizeOf79,
 v70 := Tryd.zeroValue79,
 t72 := Tryd.underlying82,
 a72 := Tryd.isAgg82,
 z72 := Tryd.sizeOf82,
 v72 := Tryd.zeroValue82,
 t75 := Tryd.underlying85,
 a75 := Tryd.isAgg85,
 z75 := Tryd.sizeOf85,
 v75 := Tryd.zeroValue85,
 t76 := Tryd.underlying86,
 a76 := Tryd.isAgg86,
 z76 := Tryd.sizeOf86,
 v76 := Tryd.zeroValue86,
 t127 := Tryd.underlying99,
 a127 := Tryd.isAgg99,
 z127 := Tryd.sizeOf99,
 v127 := Tryd.zeroValue99,
 t164 := Tryd.underlying109,
 a164 := Tryd.isAgg109,
 z164 := Tryd.sizeOf109,
 v164 := Tryd.zeroValue109 }
theorem extra156 : Go.Proofs.Builder.Extra Tryd.prog ren156 := {
 sizeBuilder := by kernel_rfl,
 liesBuilder := by kernel_rfl,
 t5 := Tryd.underlying5,
 a5 := Tryd.isAgg5,
 z5 := Tryd.sizeOf5,
 v5 := Tryd.zeroValue5,
 infoByte := by kernel_rfl,
 cellsByte := by kernel_rfl,
 sizeByte := by kernel_rfl,
 neB5 := by decide }
def strings_Join.f (l0 : List ByteArray) (a1 : ByteArray) : Option (ByteArray) := if l0.length ≤ 140737488355328 then (if (Lib.join (l0.map (·.data.toList)) a1.data.toList).length ≤ 140737488355328 then (some ⟨(Lib.join (l0.map (·.data.toList)) a1.data.toList).toArray⟩) else (none)) else (none)
theorem strings_Join.calls (A0 : Option Addr) (c0 : Nat) (l0 : List ByteArray) (a1 : ByteArray) (r : ByteArray) (w : World) (hr0 : Kd.C Kd.string w A0 l0.length l0) (hc0 : l0.length ≤ c0) (h : strings_Join.f l0 a1 = some r) :
 Calls Tryd.prog 74 #[.slice A0 l0.length c0, .string a1] w fun e w' => e = .returned (.string r) ∧ Below w.heap.size w w' := by
 unfold strings_Join.f at h
 by_cases h1 : l0.length ≤ 140737488355328
 ·rw [if_pos h1] at h
  by_cases h2 : (Lib.join (l0.map (·.data.toList)) a1.data.toList).length ≤ 140737488355328
  ·rw [if_pos h2] at h
   obtain rfl := Option.some.inj h
   rcases l0 with _ | ⟨x, l0⟩
   ·refine (Any.strings_Join_none lay156 extra156 A0 c0 a1 w).mono ?_
    rintro e w' ⟨rfl, rfl⟩
    exact ⟨rfl, Below.refl _ _⟩
   ·obtain ⟨ad, e, hc⟩ := hr0.2.2 (by simp)
    subst e
    have hcell : ∀ j y, (x :: l0)[j]? = some y → w.cell? (ad.add j) = some (.string y) := by
     intro j y hj
     obtain ⟨c, hsz, hk, hu⟩ := hc j _ hj
     have hk' : c = [Value.string y] := hk
     subst hk'
     have := hu 0 _ rfl
     rw [show (Kd.string).sz = 1 from rfl, Nat.mul_one, Nat.add_zero] at this
     exact this
    obtain ⟨b, off, spot⟩ := ad
    have hspot : spot = none := by simpa [Addr.add] using World.cell?_spot (hcell 0 x rfl)
    subst hspot
    have hlt := World.block_lt_of_cell? w _ (hcell 0 x rfl)
    exact Any.strings_Join lay156 extra156 b off c0 (x :: l0) a1 w (fun j y hj => by rw [← hcell j y hj, Go.WideShapes.add_plain]) hlt h1 hc0 h2
  ·rw [if_neg h2] at h; cases h
 ·rw [if_neg h1] at h; cases h
def impl_Join.f (l0 : List ByteArray) (a1 : ByteArray) : Option (ByteArray) := (strings_Join.f l0 a1).bind fun t427 => (some t427)
theorem impl_Join.calls (A0 : Option Addr) (c0 : Nat) (l0 : List ByteArray) (a1 : ByteArray) (r : ByteArray) (w : World) (hr0 : Kd.C Kd.string w A0 l0.length l0) (hc0 : l0.length ≤ c0) (h : impl_Join.f l0 a1 = some r) :
 Calls Tryd.prog 66 #[.slice A0 l0.length c0, .string a1] w fun e w' => e = .returned (.string r) ∧ Below w.heap.size w w' := by
 have HR0 := Aside0.mk hr0
 have HC0 := Aside0.mk hc0
 clear hr0 hc0
 have HB := Aside0.mk (Below.refl w.heap.size w)
 have H : ((strings_Join.f l0 a1).bind fun t427 => (some t427)) = some r := h
 clear h
 replace H := Option.bind_eq_some_iff.mp H
 obtain ⟨t427, A30, H⟩ := H
 have A3 := Aside0.mk A30
 clear A30
 obtain rfl := Option.some.inj H
 go_enter Tryd.func66, Tryd.ntmps66
 go_wp2_with (first | ((with_reducible refine gate_callee (f := 74) rfl ?_); refine goesL_ (some 7) rfl rfl Tryd.func74 (by kernel_rfl) rfl #[.slice A0 l0.length c0, .string a1] rfl (by (try simp only [List.map_toArray, List.map_cons, List.map_nil]); first | done | rfl) ?_; (with_reducible refine (strings_Join.calls _ _ l0 a1 t427 _ ?side1 ?side2 A3.out).mono ?_); (case side1 => repeat (first | exact HR0.out | (with_reducible refine Kd.C_alloc ?_ _) | (with_reducible refine Kd.C_drewN ?_ _) | (with_reducible refine Kd.C_drew ?_))); (case side2 => exact HC0.out); rintro e w4 ⟨rfl, hb⟩; refine ⟨_, rfl, ?_⟩; have n0_ := Aside0.mk (below_step (by repeat (with_reducible first | exact HB.out | apply bA | apply bN | apply bD)) hb); clear HB; have HB := n0_; clear n0_; (try clear hb); (try clear hb2); (try clear hk); (try clear hi)))
 go_ret
 exact ⟨by first | rfl | (simp [errW_none, errW_some] <;> rfl) | (simp [*, errW_none, errW_some] <;> rfl), by repeat (with_reducible first | exact HB.out | apply bA | apply bN | apply bD)⟩
mutual
def impl_keyOf.l0 : Nat → Int → Int → List Int → List Int → Int → Int → Option (ByteArray)
 | 0, _, _, _, _, _, _ => none
 | k + 1, x0, x1, x7, x14, x15, x16 => if x16 < x15 then (if 0 ≤ x16 then (if x16 < (x14.length : Int) then ((impl_nameOf.f k x0 x1 (rd x14 x16)).bind fun t432 => (if x7.length < 17592186044416 then (impl_keyOf.l0 k x0 x1 (x7 ++ [t432]) x14 x15 (wrap64 (x16 + 1))) else (none))) else (none)) else (none)) else ((slices_Sort_int_int.f x7).bind fun t436 => (impl_keyOf.l1 k (([] : List ByteArray)) t436 (x7.length : Int) 0))
def impl_keyOf.l1 : Nat → List ByteArray → List Int → Int → Int → Option (ByteArray)
 | 0, _, _, _, _ => none
 | k + 1, x10, x31, x32, x33 => if x33 < x32 then (if 0 ≤ x33 then (if x33 < (x31.length : Int) then ((impl_FormatInt.f (rd x31 x33)).bind fun t441 => (if x10.length < 8796093022208 then (impl_keyOf.l1 k (x10 ++ [t441]) x31 x32 (wrap64 (x33 + 1))) else (none))) else (none)) else (none)) else ((impl_Join.f x10 (⟨#[44]⟩ : ByteArray)).bind fun t445 => (some t445))
end
def impl_keyOf.f (k : Nat) (a0 : Int) (a1 : Int) (l2 : List Int) : Option (ByteArray) := impl_keyOf.l0 k a0 a1 (([] : List Int)) l2 (l2.length : Int) 0
theorem impl_keyOf.mono_l : ∀ k, (∀ y0 y1 y2 y3 y4 y5, LeO (impl_keyOf.l0 k y0 y1 y2 y3 y4 y5) (impl_keyOf.l0 (k + 1) y0 y1 y2 y3 y4 y5)) ∧ (∀ y0 y1 y2 y3, LeO (impl_keyOf.l1 k y0 y1 y2 y3) (impl_keyOf.l1 (k + 1) y0 y1 y2 y3))
 | 0 => ⟨fun _ _ _ _ _ _ r h => by simp [impl_keyOf.l0] at h, fun _ _ _ _ r h => by simp [impl_keyOf.l1] at h⟩
 | k + 1 => by
  obtain ⟨ih0, ih1⟩ := impl_keyOf.mono_l k
  refine ⟨?_, ?_⟩
  ·intro y0 y1 y2 y3 y4 y5
   unfold impl_keyOf.l0
   repeat' first
   | (with_reducible exact LeO.refl _)
   | exact ih0 _ _ _ _ _ _
   | exact ih1 _ _ _ _
   | exact impl_nameOf.mono _ _ _ _
   | exact LeO.none _
   | refine LeO.ite ?_ ?_
   | refine LeO.bind ?_ (fun _ => ?_)
  ·intro y0 y1 y2 y3
   unfold impl_keyOf.l1
   repeat' first
   | (with_reducible exact LeO.refl _)
   | exact ih0 _ _ _ _ _ _
   | exact ih1 _ _ _ _
   | exact impl_nameOf.mono _ _ _ _
   | exact LeO.none _
   | refine LeO.ite ?_ ?_
   | refine LeO.bind ?_ (fun _ => ?_)
theorem impl_keyOf.mono : ∀ a0 a1 a2 k, LeO (impl_keyOf.f k a0 a1 a2) (impl_keyOf.f (k + 1) a0 a1 a2) := by
 intro a0 a1 a2 k
 obtain ⟨ih0, ih1⟩ := impl_keyOf.mono_l k
 unfold impl_keyOf.f
 repeat' first
  | (with_reducible exact LeO.refl _)
  | exact ih0 _ _ _ _ _ _
  | exact ih1 _ _ _ _
  | exact impl_nameOf.mono _ _ _ _
  | exact LeO.none _
  | refine LeO.ite ?_ ?_
  | refine LeO.bind ?_ (fun _ => ?_)
theorem impl_keyOf.calls (k : Nat) (a0 : Int) (a1 : Int) (A2 : Option Addr) (c2 : Nat) (l2 : List Int) (r : ByteArray) (w : World) (hG : Aside0 (Go.Proofs.YtmjfigeikiickaaDoorLaid.LaidG w)) (hr2 : Kd.C (Kd.int .i64) w A2 l2.length l2) (hc2 : l2.length ≤ c2) (h : impl_keyOf.f k a0 a1 l2 = some r) :
 Calls Tryd.prog 55 #[.int .i64 a0, .int .i64 a1, .slice A2 l2.length c2] w fun e w' => e = .returned (.string r) ∧ Below w.heap.size w w' := by
 have HR2 := Aside0.mk hr2
 have HC2 := Aside0.mk hc2
 clear hr2 hc2
 have HB := Aside0.mk (Below.refl w.heap.size w)
 have H : (impl_keyOf.l0 k a0 a1 (([] : List Int)) l2 (l2.length : Int) 0) = some r := h
 clear h
 obtain ⟨y428, hy428⟩ : ∃ y_ : List Int, y_ = (([] : List Int)) := ⟨_, rfl⟩
 replace H : (impl_keyOf.l0 k a0 a1 y428 l2 (l2.length : Int) 0) = some r := by first | (rw [hy428]; with_reducible exact H) | (have H2_ := (Option.bind_some _ _).symm.trans H; rw [hy428]; with_reducible exact H2_) | (have H2_ := (Option.bind_some _ _).symm.trans H; with_reducible exact H2_) | with_reducible exact H | (rw [hy428]; exact H) | exact H
 have Ny428 := Aside0.mk hy428
 clear hy428
 have H' := Aside0.mk H
 clear H
 go_enter Tryd.func55, Tryd.ntmps55
 go_wp2_with (first | ((with_reducible refine gate_dst (N := 13) rfl ?_); refine Kd.R_lit (Kd.int .i64) _ 3 ?hg (N := 13) ?hd (xs := ([] : List Int)) (inner := []) (ok := fun _ => True) (okp := fun _ => True) ?hr ?hp (fun _ hk => hk) trivial (Below.refl _ _) (Nat.le_refl _) (by simp) ?_; (case hd => rfl); (case hg => rfl); (case hr => first | (go_simp; done) | (go_simp; rfl)); (case hp => exact (Reps.none _ _)); intro v429 w4 ho5 hb hg_ hnew_; clear hg_ hnew_; (first | rw [← Ny428.out] at ho5 | (simp only [Int.reduceToNat] at ho5; rw [← Ny428.out] at ho5)); have n0_ := Aside0.mk (Kd.R_lower ho5 (below_size (by repeat (with_reducible first | exact HB.out | apply bA | apply bN | apply bD)))); have n1_ := Aside0.mk (below_step (by repeat (with_reducible first | exact HB.out | apply bA | apply bN | apply bD)) hb); clear HB; have HO430 := n0_; have HB := n1_; clear n0_ n1_; clear hb ho5))
 go_loopg [7, 16] k (fun kq v7 v16 w' => ∃ (x7_1 : List Int) (x16_1 : Int), v16 = .int .i64 x16_1 ∧ Aside0 (impl_keyOf.l0 kq a0 a1 x7_1 l2 (l2.length : Int) x16_1 = some r) ∧ Aside0 (kq ≤ k) ∧ Aside0 (Kd.R (Kd.int .i64) 3 w' w.heap.size (fun _ => True) v7 x7_1) ∧ Aside0 (Below w.heap.size w w'))
 case atStart => exact ⟨(y428), (0), (by first | rfl | (simp; done) | (simp [*]; done)), H', ⟨Nat.le_refl _⟩, ⟨by (with_reducible repeat (first | apply rA | apply rN | apply rD)); exact HO430.out⟩, ⟨by repeat (with_reducible first | exact HB.out | apply bA | apply bN | apply bD)⟩⟩
 case round =>
  clear H'
  try clear c2
  try clear p2
  try clear c5
  obtain ⟨x7_1, x16_1, rfl, HA, HK1, HO_7, HB⟩ := hrel
  cases gk with
  | zero => exact absurd HA.out (by simp [impl_keyOf.l0])
  | succ k1 =>
   have H := HA.out
   clear HA
   simp only [impl_keyOf.l0] at H
   by_cases c6 : x16_1 < (l2.length : Int)
   ·rw [if_pos c6] at H
    have c6b0 : decide (x16_1 < (l2.length : Int)) = true := decide_eq_true c6
    clear c6
    by_cases c7 : 0 ≤ x16_1
    ·rw [if_pos c7] at H
     have c7b0 : decide (0 ≤ x16_1) = true := decide_eq_true c7
     clear c7
     by_cases c8 : x16_1 < (l2.length : Int)
     ·rw [if_pos c8] at H
      have c8b0 : decide (x16_1 < (l2.length : Int)) = true := decide_eq_true c8
      clear c8
      replace H := Option.bind_eq_some_iff.mp H
      obtain ⟨t432, A90, H⟩ := H
      have A9 := Aside0.mk A90
      clear A90
      by_cases c10 : x7_1.length < 17592186044416
      ·rw [if_pos c10] at H
       have LMc10 := Aside0.mk c10
       clear c10
       obtain ⟨y433, hy433⟩ : ∃ y_ : List Int, y_ = (x7_1 ++ [t432]) := ⟨_, rfl⟩
       replace H : (impl_keyOf.l0 k1 a0 a1 y433 l2 (l2.length : Int) (wrap64 (x16_1 + 1))) = some r := by first | (rw [hy433]; with_reducible exact H) | (have H2_ := (Option.bind_some _ _).symm.trans H; rw [hy433]; with_reducible exact H2_) | (have H2_ := (Option.bind_some _ _).symm.trans H; with_reducible exact H2_) | with_reducible exact H | (rw [hy433]; exact H) | exact H
       have Ny433 := Aside0.mk hy433
       clear hy433
       have H' := Aside0.mk H
       clear H
       have p431 : 0 ≤ (x16_1 : Int) := of_decide_eq_true (by assumption)
       have q431 : x16_1 < (l2.length : Int) := of_decide_eq_true (by assumption)
       obtain ⟨ad431, e431, hx431_0⟩ := Kd.at_int HR2.out x16_1 p431 q431
       cases e431
       replace hx431_0 := (HB.out.cell (World.block_lt_of_cell? w _ hx431_0)).trans hx431_0
       replace p431 := eq_true p431
       replace q431 := eq_true q431
       go_wp2_with (first | ((with_reducible refine gate_callee (f := 63) rfl ?_); refine goesL_ (some 24) rfl rfl Tryd.func63 (by kernel_rfl) rfl #[.int .i64 a0, .int .i64 a1, .int .i64 (rd l2 x16_1)] rfl (by (try simp only [List.map_toArray, List.map_cons, List.map_nil]); first | done | rfl) ?_; (with_reducible refine (impl_nameOf.calls k1 a0 a1 (rd l2 x16_1) t432 _ A9.out).mono ?_); rintro e w11 ⟨rfl, hb⟩; refine ⟨_, rfl, ?_⟩; have n0_ := Aside0.mk (Kd.R_below (by (with_reducible repeat (first | apply rA | apply rN | apply rD)); exact HO_7.out) hb); have n1_ := Aside0.mk (below_step (by repeat (with_reducible first | exact HB.out | apply bA | apply bN | apply bD)) hb); clear HO_7; clear HB; have HO_7 := n0_; have HB := n1_; clear n0_ n1_; (try clear hb); (try clear hb2); (try clear hk); (try clear hi)) | ((with_reducible refine gate_builtin (b := .append) (xs := #[.tmp 20, .tmp 25]) rfl ?_); at_builtin; refine Kd.R_append (Kd.int .i64) (w0 := w) w.heap.size rfl (.tmp 20) (.tmp 25) 24 3 (.int .i64 0) 8 rfl Tryd.underlying24 info3 rfl (by decide) (by omega) u7 x7_1 t432 [.int .i64 t432] (fun _ => True) (fun _ => False) rfl rfl ?aP (fun _ hk => hk.elim) ?aF ?aO ?aB ?aS ?aL ?_; (case aP => exact rfl); (case aB => exact (by repeat (with_reducible first | exact HB.out | apply bA | apply bN | apply bD))); (case aF => exact (fun _ _ => trivial)); (case aO => exact (by (with_reducible repeat (first | apply rA | apply rN | apply rD)); exact HO_7.out)); (case aS => exact (below_size (by repeat (with_reducible first | exact HB.out | apply bA | apply bN | apply bD)))); (case aL => have := LMc10.out; omega); intro v434 w12 ho hb hg hat; rw [← Ny433.out] at ho; have n0_ := Aside0.mk (hb); have n1_ := Aside0.mk (ho); clear HB; clear HO_7; have HB := n0_; have HO435 := n1_; clear n0_ n1_; clear ho hb hg hat))
       go_roundg k1
       case measure => have := HK1.out; omega
       case rel => exact ⟨(y433), (wrap64 (x16_1 + 1)), (by first | rfl | (simp; done) | (simp [*]; done)), H', ⟨by have := HK1.out; omega⟩, ⟨by (with_reducible repeat (first | apply rA | apply rN | apply rD)); exact HO435.out⟩, ⟨by repeat (with_reducible first | exact HB.out | apply bA | apply bN | apply bD)⟩⟩
      ·rw [if_neg c10] at H
       exact absurd H (by simp)
     ·rw [if_neg c8] at H
      exact absurd H (by simp)
    ·rw [if_neg c7] at H
     exact absurd H (by simp)
   ·rw [if_neg c6] at H
    have c6b0 : decide (x16_1 < (l2.length : Int)) = false := decide_eq_false c6
    clear c6
    replace H := Option.bind_eq_some_iff.mp H
    obtain ⟨t436, A130, H⟩ := H
    have A13 := Aside0.mk A130
    clear A130
    obtain ⟨y437, hy437⟩ : ∃ y_ : List ByteArray, y_ = (([] : List ByteArray)) := ⟨_, rfl⟩
    replace H : (impl_keyOf.l1 k1 y437 t436 (x7_1.length : Int) 0) = some r := by first | (rw [hy437]; with_reducible exact H) | (have H2_ := (Option.bind_some _ _).symm.trans H; rw [hy437]; with_reducible exact H2_) | (have H2_ := (Option.bind_some _ _).symm.trans H; with_reducible exact H2_) | with_reducible exact H | (rw [hy437]; exact H) | exact H
    have Ny437 := Aside0.mk hy437
    clear hy437
    have H' := Aside0.mk H
    clear H
    obtain ⟨Ao14, co14, eo14⟩ := Kd.R_slice HO_7.out
    subst eo14
    go_wp2_with (first | ((with_reducible refine gate_callee (f := 64) rfl ?_); refine goesL_ (some 29) rfl rfl Tryd.func64 (by kernel_rfl) rfl #[.slice Ao14 x7_1.length co14] rfl (by (try simp only [List.map_toArray, List.map_cons, List.map_nil]); first | done | rfl) ?_; (with_reducible refine (slices_Sort_int_int.calls (fun k_ => some k_ = (.slice Ao14 x7_1.length co14 : Value).ownBlock) (.slice Ao14 x7_1.length co14) x7_1 t436 w _ ?side1 ?side2 A13.out).mono ?_); (case side1 => repeat (first | (with_reducible first | exact HB.out | apply bA | apply bN | apply bD) | exact HB.out)); (case side2 => exact Kd.R_tight rfl HO_7.out); rintro e w15 ⟨rfl, hy0, hb, hkp⟩; refine ⟨_, rfl, ?_⟩; have n0_ := Aside0.mk (Kd.R_reok rfl hy0 (fun k_ e_ => HO_7.out.1 k_ e_)); have n1_ := Aside0.mk (hb); clear HO_7; clear HB; have HO_7 := n0_; have HB := n1_; clear n0_ n1_; (try clear hb); (try clear hkp); (try clear hy0)) | ((with_reducible refine gate_dst (N := 30) rfl ?_); refine Kd.R_lit Kd.string _ 9 ?hg (N := 30) ?hd (xs := ([] : List ByteArray)) (inner := []) (ok := fun _ => True) (okp := fun _ => True) ?hr ?hp (fun _ hk => hk) trivial (Below.refl _ _) (Nat.le_refl _) (by simp) ?_; (case hd => rfl); (case hg => rfl); (case hr => first | (go_simp; done) | (go_simp; rfl)); (case hp => exact (Reps.none _ _)); intro v438 w16 ho17 hb hg_ hnew_; clear hg_ hnew_; (first | rw [← Ny437.out] at ho17 | (simp only [Int.reduceToNat] at ho17; rw [← Ny437.out] at ho17)); have n0_ := Aside0.mk (Kd.R_below (by (with_reducible repeat (first | apply rA | apply rN | apply rD)); exact HO_7.out) hb); have n1_ := Aside0.mk (Kd.R_lower ho17 (below_size (by repeat (with_reducible first | exact HB.out | apply bA | apply bN | apply bD)))); have n2_ := Aside0.mk (below_step (by repeat (with_reducible first | exact HB.out | apply bA | apply bN | apply bD)) hb); clear HO_7; clear HB; have HO_7 := n0_; have HO439 := n1_; have HB := n2_; clear n0_ n1_ n2_; clear hb ho17))
    go_loopg [10, 33] k1 (fun kq v10 v33 w' => ∃ (x10_2 : List ByteArray) (x33_2 : Int), v33 = .int .i64 x33_2 ∧ Aside0 (impl_keyOf.l1 kq x10_2 t436 (x7_1.length : Int) x33_2 = some r) ∧ Aside0 (kq ≤ k1) ∧ Aside0 (Kd.R Kd.string 9 w' w.heap.size (fun _ => True) v10 x10_2) ∧ Aside0 (Kd.R (Kd.int .i64) 3 w' w.heap.size (fun _ => True) (.slice Ao14 x7_1.length co14) t436) ∧ Aside0 (Below w.heap.size w w'))
    case atStart => exact ⟨(y437), (0), (by first | rfl | (simp; done) | (simp [*]; done)), H', ⟨Nat.le_refl _⟩, ⟨by (with_reducible repeat (first | apply rA | apply rN | apply rD)); exact HO439.out⟩, ⟨by (with_reducible repeat (first | apply rA | apply rN | apply rD)); exact HO_7.out⟩, ⟨by repeat (with_reducible first | exact HB.out | apply bA | apply bN | apply bD)⟩⟩
    case round =>
     clear H'
     try clear c1
     try clear c2
     try clear p2
     try clear p4
     try clear q4
     try clear hx4
     try clear c5
     try clear c6
     try clear c6b0
     try clear p6
     try clear c7
     try clear c7b0
     try clear c8
     try clear c8b0
     try clear c10
     try clear hx431_0
     try clear p2
     try clear p431
     try clear q431
     obtain ⟨x10_2, x33_2, rfl, HA, HK2, HO_10, HO_31, HB⟩ := hrel
     have hl31_2 := (Kd.R_reads' HO_31.out).1
     rw [hl31_2] at HO_31
     (try simp only [hl31_2])
     (try simp only [hl31_2] at HO_10)
     cases gk with
     | zero => exact absurd HA.out (by simp [impl_keyOf.l1])
     | succ k2 =>
      have H := HA.out
      clear HA
      simp only [impl_keyOf.l1] at H
      by_cases c18 : x33_2 < (x7_1.length : Int)
      ·rw [if_pos c18] at H
       have c18b0 : decide (x33_2 < (x7_1.length : Int)) = true := decide_eq_true c18
       clear c18
       by_cases c19 : 0 ≤ x33_2
       ·rw [if_pos c19] at H
        have c19b0 : decide (0 ≤ x33_2) = true := decide_eq_true c19
        clear c19
        by_cases c20 : x33_2 < (t436.length : Int)
        ·rw [if_pos c20] at H
         have c20b0 : decide (x33_2 < (t436.length : Int)) = true := decide_eq_true c20
         clear c20
         replace H := Option.bind_eq_some_iff.mp H
         obtain ⟨t441, A210, H⟩ := H
         have A21 := Aside0.mk A210
         clear A210
         by_cases c22 : x10_2.length < 8796093022208
         ·rw [if_pos c22] at H
          have LMc22 := Aside0.mk c22
          clear c22
          obtain ⟨y442, hy442⟩ : ∃ y_ : List ByteArray, y_ = (x10_2 ++ [t441]) := ⟨_, rfl⟩
          replace H : (impl_keyOf.l1 k2 y442 t436 (x7_1.length : Int) (wrap64 (x33_2 + 1))) = some r := by first | (rw [hy442]; with_reducible exact H) | (have H2_ := (Option.bind_some _ _).symm.trans H; rw [hy442]; with_reducible exact H2_) | (have H2_ := (Option.bind_some _ _).symm.trans H; with_reducible exact H2_) | with_reducible exact H | (rw [hy442]; exact H) | exact H
          have Ny442 := Aside0.mk hy442
          clear hy442
          have H' := Aside0.mk H
          clear H
          have p440 : 0 ≤ (x33_2 : Int) := of_decide_eq_true (by assumption)
          have q440 : x33_2 < (t436.length : Int) := of_decide_eq_true (by assumption)
          obtain ⟨ad440, e440, hx440_0⟩ := Kd.at_int (Kd.R_reads' HO_31.out).2.2 x33_2 p440 q440
          cases e440
          replace p440 := eq_true p440
          replace q440 := eq_true q440
          go_wp2_with (first | ((with_reducible refine gate_callee (f := 65) rfl ?_); refine goesL_ (some 39) rfl rfl Tryd.func65 (by kernel_rfl) rfl #[.int .i64 (rd t436 x33_2)] rfl (by (try simp only [List.map_toArray, List.map_cons, List.map_nil]); first | done | rfl) ?_; (with_reducible refine (impl_FormatInt.calls (rd t436 x33_2) t441 _ ?side1 A21.out).mono ?_); (case side1 => first | exact hG | (refine ⟨hG.out.drawn ?_⟩; (repeat (first | exact Drawn0.refl _ | apply Drawn0.step)); done) | (refine ⟨hG.out.below ?_⟩; (repeat (first | (with_reducible first | exact HB.out | apply bA | apply bN | apply bD) | exact HB.out)); done)); rintro e w23 ⟨rfl, hb⟩; refine ⟨_, rfl, ?_⟩; have n0_ := Aside0.mk (Kd.R_below (by (with_reducible repeat (first | apply rA | apply rN | apply rD)); exact HO_10.out) hb); have n1_ := Aside0.mk (Kd.R_below (by (with_reducible repeat (first | apply rA | apply rN | apply rD)); exact HO_31.out) hb); have n2_ := Aside0.mk (below_step (by repeat (with_reducible first | exact HB.out | apply bA | apply bN | apply bD)) hb); clear HO_10; clear HO_31; clear HB; have HO_10 := n0_; have HO_31 := n1_; have HB := n2_; clear n0_ n1_ n2_; (try clear hb); (try clear hb2); (try clear hk); (try clear hi)) | ((with_reducible refine gate_builtin (b := .append) (xs := #[.tmp 37, .tmp 40]) rfl ?_); at_builtin; refine Kd.R_append Kd.string (w0 := w) w.heap.size rfl (.tmp 37) (.tmp 40) 62 9 (.string ⟨#[]⟩) 16 rfl Tryd.underlying62 info9 rfl (by decide) (by omega) u10 x10_2 t441 [.string t441] (fun _ => True) (fun _ => False) rfl rfl ?aP (fun _ hk => hk.elim) ?aF ?aO ?aB ?aS ?aL ?_; (case aP => exact rfl); (case aB => exact (by repeat (with_reducible first | exact HB.out | apply bA | apply bN | apply bD))); (case aF => exact (fun _ _ => trivial)); (case aO => exact (by (with_reducible repeat (first | apply rA | apply rN | apply rD)); exact HO_10.out)); (case aS => exact (below_size (by repeat (with_reducible first | exact HB.out | apply bA | apply bN | apply bD)))); (case aL => have := LMc22.out; omega); intro v443 w24 ho hb hg hat; rw [← Ny442.out] at ho; have n0_ := Aside0.mk (Kd.R_over' (by (with_reducible repeat (first | apply rA | apply rN | apply rD)); exact HO_31.out) (Kd.R_typed (by (with_reducible repeat (first | apply rA | apply rN | apply rD)); exact HO_10.out)) (by decide) hg); have n1_ := Aside0.mk (hb); have n2_ := Aside0.mk (ho); clear HO_31; clear HB; clear HO_10; have HO_31 := n0_; have HB := n1_; have HO444 := n2_; clear n0_ n1_ n2_; clear ho hb hg hat))
          (try simp only [← hl31_2])
          go_roundg k2
          case measure => have := HK1.out; have := HK2.out; omega
          case rel => exact ⟨(y442), (wrap64 (x33_2 + 1)), (by first | rfl | (simp; done) | (simp [*]; done)), H', ⟨by have := HK1.out; have := HK2.out; omega⟩, ⟨by (try simp only [hl31_2]); (with_reducible repeat (first | apply rA | apply rN | apply rD)); exact HO444.out⟩, ⟨by (try simp only [hl31_2]); (with_reducible repeat (first | apply rA | apply rN | apply rD)); exact HO_31.out⟩, ⟨by repeat (with_reducible first | exact HB.out | apply bA | apply bN | apply bD)⟩⟩
         ·rw [if_neg c22] at H
          exact absurd H (by simp)
        ·rw [if_neg c20] at H
         exact absurd H (by simp)
       ·rw [if_neg c19] at H
        exact absurd H (by simp)
      ·rw [if_neg c18] at H
       have c18b0 : decide (x33_2 < (x7_1.length : Int)) = false := decide_eq_false c18
       have c18b1 : decide (x33_2 < (t436.length : Int)) = false := by rw [sort_len A13.out]; exact c18b0
       have c18b1 : decide (x33_2 < (t436.length : Int)) = false := by rw [sort_len A13.out]; exact c18b0
       clear c18
       replace H := Option.bind_eq_some_iff.mp H
       obtain ⟨t445, A250, H⟩ := H
       have A25 := Aside0.mk A250
       clear A250
       obtain rfl := Option.some.inj H
       obtain ⟨Ao26, co26, eo26⟩ := Kd.R_slice HO_10.out
       subst eo26
       go_wp2_with (first | ((with_reducible refine gate_callee (f := 66) rfl ?_); refine goesL_ (some 44) rfl rfl Tryd.func66 (by kernel_rfl) rfl #[.slice Ao26 x10_2.length co26, .string (⟨#[44]⟩ : ByteArray)] rfl (by (try simp only [List.map_toArray, List.map_cons, List.map_nil]); first | done | rfl) ?_; (with_reducible refine (impl_Join.calls _ _ x10_2 (⟨#[44]⟩ : ByteArray) t445 _ ?side1 ?side2 A25.out).mono ?_); (case side1 => repeat (first | exact (Kd.R_reads' HO_10.out).2.2 | (with_reducible refine Kd.C_alloc ?_ _) | (with_reducible refine Kd.C_drewN ?_ _) | (with_reducible refine Kd.C_drew ?_))); (case side2 => exact (Kd.R_reads' HO_10.out).2.1); rintro e w27 ⟨rfl, hb⟩; refine ⟨_, rfl, ?_⟩; have n0_ := Aside0.mk (Kd.R_below (by (with_reducible repeat (first | apply rA | apply rN | apply rD)); exact HO_10.out) hb); have n1_ := Aside0.mk (Kd.R_below (by (with_reducible repeat (first | apply rA | apply rN | apply rD)); exact HO_31.out) hb); have n2_ := Aside0.mk (below_step (by repeat (with_reducible first | exact HB.out | apply bA | apply bN | apply bD)) hb); clear HO_10; clear HO_31; clear HB; have HO_10 := n0_; have HO_31 := n1_; have HB := n2_; clear n0_ n1_ n2_; (try clear hb); (try clear hb2); (try clear hk); (try clear hi)))
       go_ret
       exact ⟨by first | rfl | (simp [errW_none, errW_some] <;> rfl) | (simp [*, errW_none, errW_some] <;> rfl), by repeat (with_reducible first | exact HB.out | apply bA | apply bN | apply bD)⟩
end Go.Proofs.YtmjfigeikiickaaDoor.QFnExactDissect
