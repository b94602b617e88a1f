/- What each Go function of this text answers, as a plain function, and that the machine comes to just that answer. -/
import Derived.Test.YtadenfniiihifaaQFnExactSameRectanglex0
import Derived.Test.YtadenfniiihifaaQFnExactSameRectanglex6
import Derived.Test.YtadenfniiihifaaQFnExactSameRectanglex7
import Derived.Test.YtadenfniiihifaaQFnExactSameRectanglex9
import Derived.Test.YtadenfniiihifaaQFnExactSameRectanglex10
import Derived.Test.YtadenfniiihifaaQFnExactSameRectanglex11
namespace Go.Proofs.Ytadenfniiihifaa.QFnExactSameRectangle
open Go.RowKit Go.Proofs.YtadenfniiihifaaW.PrintWords Go.Proofs.YtadenfniiihifaaW.PrintLast Go.Proofs.YtadenfniiihifaaW.PrintMore
attribute [local go_sem] max2_int min2_int max_two min_two max_three min_three max_four min_four   -- for this text's walks alone
set_option linter.unusedVariables false
set_option maxHeartbeats 8000000
set_option maxRecDepth 100000
set_option linter.unusedSimpArgs false
mutual
def impl_Point_58.l0 : Nat → List (List (S40)) → Int → List (List (S40)) → Int → Int → Option ((List (S40)))
 | 0, _, _, _, _, _ => none
 | k + 1, x0, x3, x9, x10, x11 => if x11 < x10 then (if 0 ≤ x11 then (if x11 < (x9.length : Int) then (if (wrap64 (x3 + ((rd_L3 x9 x11).length : Int))) < 0 then (none) else (impl_Point_58.l0 k x0 (wrap64 (x3 + ((rd_L3 x9 x11).length : Int))) x9 x10 (wrap64 (x11 + 1)))) else (none)) else (none)) else ((impl_Point_79.f x3).bind fun t304 => (impl_Point_58.l1 k t304 x0 (x0.length : Int) 0))
def impl_Point_58.l1 : Nat → List (S40) → List (List (S40)) → Int → Int → Option ((List (S40)))
 | 0, _, _, _, _ => none
 | k + 1, x6, x25, x26, x27 => if x27 < x26 then (if 0 ≤ x27 then (if x27 < (x25.length : Int) then (if x6.length + (rd_L3 x25 x27).length < 8796093022208 then (impl_Point_58.l1 k (x6 ++ (rd_L3 x25 x27)) x25 x26 (wrap64 (x27 + 1))) else (none)) else (none)) else (none)) else (some x6)
end
def impl_Point_58.f (k : Nat) (l0 : List (List (S40))) : Option ((List (S40))) := impl_Point_58.l0 k l0 0 l0 (l0.length : Int) 0
theorem impl_Point_58.mono_l : ∀ k, (∀ y0 y1 y2 y3 y4, LeO (impl_Point_58.l0 k y0 y1 y2 y3 y4) (impl_Point_58.l0 (k + 1) y0 y1 y2 y3 y4)) ∧ (∀ y0 y1 y2 y3, LeO (impl_Point_58.l1 k y0 y1 y2 y3) (impl_Point_58.l1 (k + 1) y0 y1 y2 y3))
 | 0 => ⟨fun _ _ _ _ _ r h => by simp [impl_Point_58.l0] at h, fun _ _ _ _ r h => by simp [impl_Point_58.l1] at h⟩
 | k + 1 => by
  obtain ⟨ih0, ih1⟩ := impl_Point_58.mono_l k
  refine ⟨?_, ?_⟩
  ·intro y0 y1 y2 y3 y4
   unfold impl_Point_58.l0
   repeat' first
   | (with_reducible exact LeO.refl _)
   | exact ih0 _ _ _ _ _
   | exact ih1 _ _ _ _
   | exact LeO.none _
   | refine LeO.ite ?_ ?_
   | refine LeO.bind ?_ (fun _ => ?_)
  ·intro y0 y1 y2 y3
   unfold impl_Point_58.l1
   repeat' first
   | (with_reducible exact LeO.refl _)
   | exact ih0 _ _ _ _ _
   | exact ih1 _ _ _ _
   | exact LeO.none _
   | refine LeO.ite ?_ ?_
   | refine LeO.bind ?_ (fun _ => ?_)
theorem impl_Point_58.mono : ∀ a0 k, LeO (impl_Point_58.f k a0) (impl_Point_58.f (k + 1) a0) := by
 intro a0 k
 obtain ⟨ih0, ih1⟩ := impl_Point_58.mono_l k
 unfold impl_Point_58.f
 repeat' first
  | (with_reducible exact LeO.refl _)
  | exact ih0 _ _ _ _ _
  | exact ih1 _ _ _ _
  | exact LeO.none _
  | refine LeO.ite ?_ ?_
  | refine LeO.bind ?_ (fun _ => ?_)
theorem impl_Point_58.calls (k : Nat) (A0 : Option Addr) (c0 : Nat) (l0 : List (List (S40))) (r : List (S40)) (w : World) (hr0 : Kd.C (Kd.slice 40 k40) w A0 l0.length l0) (hc0 : l0.length ≤ c0) (h : impl_Point_58.f k l0 = some r) :
 Calls Try.prog 58 #[.slice A0 l0.length c0] w fun e w' => ∃ v0_ : Value, e = .returned (v0_) ∧ Kd.R k40 40 w' w.heap.size (fun _ => True) v0_ r ∧ Below w.heap.size w w' := by
 have HR0 := Aside0.mk hr0
 have HC0 := Aside0.mk hc0
 clear hr0 hc0
 have HB := Aside0.mk (Below.refl w.heap.size w)
 have H : (impl_Point_58.l0 k l0 0 l0 (l0.length : Int) 0) = some r := h
 clear h
 have H' := Aside0.mk H
 clear H
 go_enter Try.func58, Try.ntmps58
 go_wp2
 go_loopg [3, 11] k (fun kq v3 v11 w' => ∃ (x3_1 : Int) (x11_1 : Int), v3 = .int .i64 x3_1 ∧ v11 = .int .i64 x11_1 ∧ Aside0 (impl_Point_58.l0 kq l0 x3_1 l0 (l0.length : Int) x11_1 = some r) ∧ Aside0 (kq ≤ k) ∧ Aside0 (Below w.heap.size w w'))
 case atStart => exact ⟨(0), (0), (by first | rfl | (simp; done) | (simp [*]; done)), (by first | rfl | (simp; done) | (simp [*]; done)), H', ⟨Nat.le_refl _⟩, ⟨by repeat (with_reducible first | exact HB.out | apply bA | apply bN | apply bD)⟩⟩
 case round =>
  clear H'
  obtain ⟨x3_1, x11_1, rfl, rfl, HA, HK1, HB⟩ := hrel
  cases gk with
  | zero => exact absurd HA.out (by simp [impl_Point_58.l0])
  | succ k1 =>
   have H := HA.out
   clear HA
   simp only [impl_Point_58.l0] at H
   by_cases c2 : x11_1 < (l0.length : Int)
   ·rw [if_pos c2] at H
    have c2b0 : decide (x11_1 < (l0.length : Int)) = true := decide_eq_true c2
    clear c2
    by_cases c3 : 0 ≤ x11_1
    ·rw [if_pos c3] at H
     have c3b0 : decide (0 ≤ x11_1) = true := decide_eq_true c3
     clear c3
     by_cases c4 : x11_1 < (l0.length : Int)
     ·rw [if_pos c4] at H
      have c4b0 : decide (x11_1 < (l0.length : Int)) = true := decide_eq_true c4
      clear c4
      by_cases c5 : (wrap64 (x3_1 + ((rd_L3 l0 x11_1).length : Int))) < 0
      ·rw [if_pos c5] at H
       exact absurd H (by simp)
      ·rw [if_neg c5] at H
       have c5b0 : decide ((wrap64 (x3_1 + ((rd_L3 l0 x11_1).length : Int))) < 0) = false := decide_eq_false c5
       clear c5
       have H' := Aside0.mk H
       clear H
       have p303 : 0 ≤ (x11_1 : Int) := of_decide_eq_true (by assumption)
       have q303 : x11_1 < (l0.length : Int) := of_decide_eq_true (by assumption)
       obtain ⟨ad303, A303_0, c303_0, e303, hx303_0, hl303_0, hi303_0⟩ := at_L3 HR0.out x11_1 p303 q303
       cases e303
       replace hx303_0 := (HB.out.cell (World.block_lt_of_cell? w _ hx303_0)).trans hx303_0
       have HR303_0 := Aside0.mk hi303_0
       have HC303_0 := Aside0.mk hl303_0
       clear hi303_0 hl303_0
       replace p303 := eq_true p303
       replace q303 := eq_true q303
       go_wp2
       go_roundg k1
       case measure => have := HK1.out; omega
       case rel => exact ⟨(wrap64 (x3_1 + ((rd_L3 l0 x11_1).length : Int))), (wrap64 (x11_1 + 1)), (by first | rfl | (simp; done) | (simp [*]; done)), (by first | rfl | (simp; done) | (simp [*]; done)), H', ⟨by have := HK1.out; omega⟩, ⟨by repeat (with_reducible first | exact HB.out | apply bA | apply bN | apply bD)⟩⟩
     ·rw [if_neg c4] at H
      exact absurd H (by simp)
    ·rw [if_neg c3] at H
     exact absurd H (by simp)
   ·rw [if_neg c2] at H
    have c2b0 : decide (x11_1 < (l0.length : Int)) = false := decide_eq_false c2
    clear c2
    replace H := Option.bind_eq_some_iff.mp H
    obtain ⟨t304, A60, H⟩ := H
    have A6 := Aside0.mk A60
    clear A60
    have H' := Aside0.mk H
    clear H
    go_wp2_with (first | ((with_reducible refine gate_callee (f := 79) rfl ?_); refine goesL_ (some 24) rfl rfl Try.func79 (by kernel_rfl) rfl #[.slice none 0 0, .int .i64 x3_1] rfl (by (try simp only [List.map_toArray, List.map_cons, List.map_nil]); first | done | rfl) ?_; (with_reducible refine (impl_Point_79.calls x3_1 t304 _ A6.out).mono ?_); rintro e w7 ⟨v305, rfl, ho0, hb⟩; refine ⟨_, rfl, ?_⟩; have n0_ := Aside0.mk (Kd.R_lower ho0 (below_size (by repeat (with_reducible first | exact HB.out | apply bA | apply bN | apply bD)))); have n1_ := Aside0.mk (below_step (by repeat (with_reducible first | exact HB.out | apply bA | apply bN | apply bD)) hb); clear HB; have HO306 := n0_; have HB := n1_; clear n0_ n1_; (try clear hb); (try clear hb2); (try clear hk); (try clear hi); (try clear ho0)))
    go_loopg [6, 27] k1 (fun kq v6 v27 w' => ∃ (x6_2 : List (S40)) (x27_2 : Int), v27 = .int .i64 x27_2 ∧ Aside0 (impl_Point_58.l1 kq x6_2 l0 (l0.length : Int) x27_2 = some r) ∧ Aside0 (kq ≤ k1) ∧ Aside0 (Kd.R k40 40 w' w.heap.size (fun _ => True) v6 x6_2) ∧ Aside0 (Below w.heap.size w w'))
    case atStart => exact ⟨(t304), (0), (by first | rfl | (simp; done) | (simp [*]; done)), H', ⟨Nat.le_refl _⟩, ⟨by (with_reducible repeat (first | apply rA | apply rN | apply rD)); exact HO306.out⟩, ⟨by repeat (with_reducible first | exact HB.out | apply bA | apply bN | apply bD)⟩⟩
    case round =>
     clear H'
     obtain ⟨x6_2, x27_2, rfl, HA, HK2, HO_6, HB⟩ := hrel
     cases gk with
     | zero => exact absurd HA.out (by simp [impl_Point_58.l1])
     | succ k2 =>
      have H := HA.out
      clear HA
      simp only [impl_Point_58.l1] at H
      by_cases c8 : x27_2 < (l0.length : Int)
      ·rw [if_pos c8] at H
       have c8b0 : decide (x27_2 < (l0.length : Int)) = true := decide_eq_true c8
       clear c8
       by_cases c9 : 0 ≤ x27_2
       ·rw [if_pos c9] at H
        have c9b0 : decide (0 ≤ x27_2) = true := decide_eq_true c9
        clear c9
        by_cases c10 : x27_2 < (l0.length : Int)
        ·rw [if_pos c10] at H
         have c10b0 : decide (x27_2 < (l0.length : Int)) = true := decide_eq_true c10
         clear c10
         by_cases c11 : x6_2.length + (rd_L3 l0 x27_2).length < 8796093022208
         ·rw [if_pos c11] at H
          have LMc11 := Aside0.mk c11
          clear c11
          obtain ⟨y308, hy308⟩ : ∃ y_ : List (S40), y_ = (x6_2 ++ (rd_L3 l0 x27_2)) := ⟨_, rfl⟩
          replace H : (impl_Point_58.l1 k2 y308 l0 (l0.length : Int) (wrap64 (x27_2 + 1))) = some r := by first | (rw [hy308]; with_reducible exact H) | (have H2_ := (Option.bind_some _ _).symm.trans H; rw [hy308]; with_reducible exact H2_) | (have H2_ := (Option.bind_some _ _).symm.trans H; with_reducible exact H2_) | with_reducible exact H | (rw [hy308]; exact H) | exact H
          have Ny308 := Aside0.mk hy308
          clear hy308
          have H' := Aside0.mk H
          clear H
          have p307 : 0 ≤ (x27_2 : Int) := of_decide_eq_true (by assumption)
          have q307 : x27_2 < (l0.length : Int) := of_decide_eq_true (by assumption)
          obtain ⟨ad307, A307_0, c307_0, e307, hx307_0, hl307_0, hi307_0⟩ := at_L3 HR0.out x27_2 p307 q307
          cases e307
          replace hx307_0 := (HB.out.cell (World.block_lt_of_cell? w _ hx307_0)).trans hx307_0
          have HR307_0 := Aside0.mk hi307_0
          have HC307_0 := Aside0.mk hl307_0
          clear hi307_0 hl307_0
          replace p307 := eq_true p307
          replace q307 := eq_true q307
          go_wp2_with (first | ((with_reducible refine gate_builtin (b := .append) (xs := #[.tmp 31, .tmp 32]) rfl ?_); at_builtin; refine Kd.R_append_rows k40 (w0 := w) w.heap.size rfl (.tmp 31) (.tmp 32) 25 40 (.agg #[(.int .i64 0), (.int .i64 0)]) 16 rfl Try.underlying25 info40 rfl (by decide) (by omega) u6 x6_2 (rd_L3 l0 x27_2) _ _ _ (fun _ => True) (fun _ => False) rfl rfl ?aO ?aR (fun _ _ h => h) (fun _ h => h.elim) ?aF ?aB ?aS ?aL ?_; (case aR => repeat (first | exact (Kd.C_below HR307_0.out HB.out) | (with_reducible refine Kd.C_alloc ?_ _) | (with_reducible refine Kd.C_drewN ?_ _) | (with_reducible refine Kd.C_drew ?_))); (case aB => exact (by repeat (with_reducible first | exact HB.out | apply bA | apply bN | apply bD))); (case aF => exact (fun _ _ => trivial)); (case aO => exact (by (with_reducible repeat (first | apply rA | apply rN | apply rD)); exact HO_6.out)); (case aS => exact (below_size (by repeat (with_reducible first | exact HB.out | apply bA | apply bN | apply bD)))); (case aL => have := LMc11.out; omega); intro v309 w12 ho hb hg hat; rw [← Ny308.out] at ho; have n0_ := Aside0.mk (hb); have n1_ := Aside0.mk (ho); clear HB; clear HO_6; have HB := n0_; have HO310 := n1_; clear n0_ n1_; clear ho hb hg hat))
          go_roundg k2
          case measure => have := HK1.out; have := HK2.out; omega
          case rel => exact ⟨(y308), (wrap64 (x27_2 + 1)), (by first | rfl | (simp; done) | (simp [*]; done)), H', ⟨by have := HK1.out; have := HK2.out; omega⟩, ⟨by (with_reducible repeat (first | apply rA | apply rN | apply rD)); exact HO310.out⟩, ⟨by repeat (with_reducible first | exact HB.out | apply bA | apply bN | apply bD)⟩⟩
         ·rw [if_neg c11] at H
          exact absurd H (by simp)
        ·rw [if_neg c10] at H
         exact absurd H (by simp)
       ·rw [if_neg c9] at H
        exact absurd H (by simp)
      ·rw [if_neg c8] at H
       have c8b0 : decide (x27_2 < (l0.length : Int)) = false := decide_eq_false c8
       clear c8
       obtain rfl := Option.some.inj H
       go_wp2
       go_ret
       exact ⟨_, by first | rfl | (simp [errW_none, errW_some] <;> rfl) | (simp [*, errW_none, errW_some] <;> rfl), by (with_reducible repeat (first | apply rA | apply rN | apply rD)); exact HO_6.out, by repeat (with_reducible first | exact HB.out | apply bA | apply bN | apply bD)⟩
def impl_SamePolygon.l0 : Nat → List S40 → List S40 → Nat → Option Bool
 | 0, _, _, _ => none
 | q + 1, a, c, i => if i < c.length then ((impl_Point_57.f q a (c.drop i ++ c.take i)).bind fun t => (if t = true then (some true) else (impl_SamePolygon.l0 q a c (i + 1)))) else (some false)
def impl_SamePolygon.f (k : Nat) (l0 l1 : List S40) : Option Bool := (impl_PolygonOk.f k l0).bind fun t => (if t = true then ((impl_PolygonOk.f k l1).bind fun u => (if u = true then ((impl_straightened.f k l0).bind fun a => ((impl_straightened.f k l1).bind fun b => ((impl_turned.f b).bind fun c => ((impl_SamePolygon.l0 k a b 0).bind fun z => (if z = true then (some true) else (impl_SamePolygon.l0 k a c 0)))))) else (some false))) else (some false))
theorem impl_SamePolygon.mono_0 : ∀ k, ∀ a c i, LeO (impl_SamePolygon.l0 k a c i) (impl_SamePolygon.l0 (k + 1) a c i)
 | 0 => fun _ _ _ r h => by simp [impl_SamePolygon.l0] at h
 | k + 1 => fun a c i => by
  unfold impl_SamePolygon.l0
  exact LeO.ite (LeO.bind (impl_Point_57.mono _ _ _) (fun _ => LeO.ite (LeO.refl _) (impl_SamePolygon.mono_0 k _ _ _))) (LeO.refl _)
theorem impl_SamePolygon.mono : ∀ a0 a1 k, LeO (impl_SamePolygon.f k a0 a1) (impl_SamePolygon.f (k + 1) a0 a1) := by
 intro a0 a1 k
 unfold impl_SamePolygon.f
 exact LeO.bind (impl_PolygonOk.mono _ _) (fun _ => LeO.ite (LeO.bind (impl_PolygonOk.mono _ _) (fun _ => LeO.ite (LeO.bind (impl_straightened.mono _ _) (fun _ => LeO.bind (impl_straightened.mono _ _) (fun _ => LeO.bind (LeO.refl _) (fun _ => LeO.bind (impl_SamePolygon.mono_0 k _ _ _) (fun _ => LeO.ite (LeO.refl _) (impl_SamePolygon.mono_0 k _ _ _)))))) (LeO.refl _))) (LeO.refl _))
theorem concat2 (x y : List S40) (hx : x.length ≤ 2000000) (hy : y.length ≤ 2000000) : impl_Point_58.f 8 [x, y] = some (x ++ y) := by
 have r0 : rd_L3 [x, y] 0 = x := rfl
 have r1 : rd_L3 [x, y] 1 = y := rfl
 have e0 : wrap64 (0 + (x.length : Int)) = (x.length : Int) := by unfold wrap64; omega
 have e1 : wrap64 ((x.length : Int) + (y.length : Int)) = (x.length : Int) + (y.length : Int) := by unfold wrap64; omega
 have e2 : wrap64 ((0 : Int) + 1) = 1 := by unfold wrap64; omega
 have e3 : wrap64 ((1 : Int) + 1) = 2 := by unfold wrap64; omega
 have hl : (([x, y] : List (List S40)).length : Int) = 2 := rfl
 unfold impl_Point_58.f
 rw [hl]
 simp only [impl_Point_58.l0, r0, e0, e2]
 rw [if_pos (by omega), if_pos (by omega), if_pos (by rw [hl]; omega), if_neg (by omega)]
 simp only [r1, e1, e3]
 rw [if_pos (by omega), if_pos (by omega), if_pos (by rw [hl]; omega), if_neg (by omega), if_neg (by omega)]
 unfold impl_Point_79.f
 rw [if_pos (by omega)]
 simp only [Option.bind_some, hl, impl_Point_58.l1, r0, e2]
 rw [if_pos (by omega), if_pos (by omega), if_pos (by omega), if_pos (by simp only [List.length_nil]; omega)]
 simp only [r1, e3, List.nil_append]
 rw [if_pos (by omega), if_pos (by omega), if_pos (by omega), if_pos (by omega), if_neg (by omega)]
theorem lit_step {P : Program} {ops : Array Oper} {o : Oper} {a : Act} {Q : Exit → Act → World → Prop} {Kc : Act → World → Prop} {W : World} (hw : Region.wanted o (yielded ops a.tmps) = true) {N : Tmp} (_hd : o.dst = some N) {cs : Array Value} {t : TypeId} {n : Nat}
 (hrun : (execOp a.eval o).run P W = .ok (.value (.slice (some ⟨W.heap.size, 0, none⟩) n n)) (W.alloc (.cells cs t (0, 0))))
 (h : ∀ g, g = W.heap.size → ∀ w1, w1.heap[g]? = some (.cells cs t (0, 0)) → Below W.heap.size W w1 → Kc (a.put o.dst (.slice (some ⟨g, 0, none⟩) n n)) w1) : if Region.wanted o (yielded ops a.tmps) = true then Oper.wp P o a W Kc Q else Kc (a.put o.dst undef) W :=
 event_step hw hrun (h _ rfl _ (blk_new W _) (below_alloc (Below.refl _ _) _))
theorem two_rows {w : World} {g : Nat} {A1 A2 : Option Addr} {x y : List S40} {c1 c2 : Nat} (h : w.heap[g]? = some (.cells #[.slice A1 x.length c1, .slice A2 y.length c2] 25 (0, 0))) (h1 : Kd.C k40 w A1 x.length x) (k1 : x.length ≤ c1) (h2 : Kd.C k40 w A2 y.length y) (k2 : y.length ≤ c2) :
 Kd.C (Kd.slice 40 k40) w (some ⟨g, 0, none⟩) ([x, y] : List (List S40)).length [x, y] := by
 refine ⟨rfl, by simp, fun _ => ⟨_, rfl, fun j p hj => ?_⟩⟩
 match j, hj with
 | 0, hj =>
  obtain rfl := Option.some.inj hj
  refine ⟨[.slice A1 x.length c1], rfl, ⟨A1, c1, rfl, k1, h1⟩, fun i u hu => ?_⟩
  match i, hu with
  | 0, hu =>
   obtain rfl := Option.some.inj hu
   exact (blk_cell h 0).trans rfl
 | 1, hj =>
  obtain rfl := Option.some.inj hj
  refine ⟨[.slice A2 y.length c2], rfl, ⟨A2, c2, rfl, k2, h2⟩, fun i u hu => ?_⟩
  match i, hu with
  | 0, hu =>
   obtain rfl := Option.some.inj hu
   exact (blk_cell h 1).trans rfl
theorem impl_SamePolygon.calls (k : Nat) (A0 : Option Addr) (c0 : Nat) (l0 : List S40) (A1 : Option Addr) (c1 : Nat) (l1 : List S40) (r : Bool) (w : World) (hr0 : Kd.C k40 w A0 l0.length l0) (hc0 : l0.length ≤ c0) (hr1 : Kd.C k40 w A1 l1.length l1) (hc1 : l1.length ≤ c1) (h : impl_SamePolygon.f k l0 l1 = some r) :
 Calls Try.prog 31 #[.slice A0 l0.length c0, .slice A1 l1.length c1] w fun e w' => e = .returned (.bool r) ∧ Below w.heap.size w w' := by
 have hu40 := Try.underlying40
 have HR0 := Aside0.mk hr0
 have HC0 := Aside0.mk hc0
 have HR1 := Aside0.mk hr1
 have HC1 := Aside0.mk hc1
 clear hr0 hc0 hr1 hc1
 have HB := Aside0.mk (Below.refl w.heap.size w)
 unfold impl_SamePolygon.f at h
 obtain ⟨t, AT, h⟩ := Option.bind_eq_some_iff.mp h
 have HT := Aside0.mk AT
 clear AT
 cases t with
 | false =>
  rw [if_neg (by decide)] at h
  obtain rfl := Option.some.inj h
  clear h
  go_enter Try.func31, Try.ntmps31
  go_wp2_with (first
   | ((with_reducible refine gate_callee (f := 36) rfl ?_); refine goesL_ (some 11) rfl rfl Try.func36 (by kernel_rfl) rfl #[.slice A0 l0.length c0] rfl (by (try simp only [List.map_toArray, List.map_cons, List.map_nil]); first | done | rfl) ?_; (refine (impl_PolygonOk.calls k A0 c0 l0 false _ ?s HC0.out HT.out).mono ?_); (case s => repeat (first | exact (Kd.C_below HR0.out HB.out) | (with_reducible refine Kd.C_alloc ?_ _) | (with_reducible refine Kd.C_drewN ?_ _) | (with_reducible refine Kd.C_drew ?_))); rintro e w1 ⟨rfl, hb⟩; refine ⟨_, rfl, ?_⟩; have n_ := Aside0.mk (below_step (by repeat (with_reducible first | exact HB.out | apply bA | apply bN | apply bD)) hb); clear HB; have HB := n_; clear n_ hb))
  go_ret
  exact ⟨by first | rfl | (simp; done) | (simp [*]; done), (by repeat (with_reducible first | exact HB.out | apply bA | apply bN | apply bD))⟩
 | true =>
  rw [if_pos rfl] at h
  obtain ⟨u, AU, h⟩ := Option.bind_eq_some_iff.mp h
  have HU := Aside0.mk AU
  clear AU
  cases u with
  | false =>
   rw [if_neg (by decide)] at h
   obtain rfl := Option.some.inj h
   clear h
   go_enter Try.func31, Try.ntmps31
   go_wp2_with (first
    | ((with_reducible refine gate_callee (f := 36) rfl ?_); refine goesL_ (some 11) rfl rfl Try.func36 (by kernel_rfl) rfl #[.slice A0 l0.length c0] rfl (by (try simp only [List.map_toArray, List.map_cons, List.map_nil]); first | done | rfl) ?_; (refine (impl_PolygonOk.calls k A0 c0 l0 true _ ?s HC0.out HT.out).mono ?_); (case s => repeat (first | exact (Kd.C_below HR0.out HB.out) | (with_reducible refine Kd.C_alloc ?_ _) | (with_reducible refine Kd.C_drewN ?_ _) | (with_reducible refine Kd.C_drew ?_))); rintro e w1 ⟨rfl, hb⟩; refine ⟨_, rfl, ?_⟩; have n_ := Aside0.mk (below_step (by repeat (with_reducible first | exact HB.out | apply bA | apply bN | apply bD)) hb); clear HB; have HB := n_; clear n_ hb)
    | (go_at_call 36; (with_reducible refine (impl_PolygonOk.calls k A1 c1 l1 false _ ?s HC1.out HU.out).mono ?_); (case s => repeat (first | exact (Kd.C_below HR1.out HB.out) | (with_reducible refine Kd.C_alloc ?_ _) | (with_reducible refine Kd.C_drewN ?_ _) | (with_reducible refine Kd.C_drew ?_))); rintro e w1 ⟨rfl, hb⟩; have n_ := Aside0.mk (below_step (by repeat (with_reducible first | exact HB.out | apply bA | apply bN | apply bD)) hb); clear HB; have HB := n_; clear n_ hb))
   go_ret
   exact ⟨by first | rfl | (simp; done) | (simp [*]; done), (by repeat (with_reducible first | exact HB.out | apply bA | apply bN | apply bD))⟩
  | true =>
   rw [if_pos rfl] at h
   obtain ⟨a, AA, h⟩ := Option.bind_eq_some_iff.mp h
   obtain ⟨b, AB, h⟩ := Option.bind_eq_some_iff.mp h
   obtain ⟨c, AC, h⟩ := Option.bind_eq_some_iff.mp h
   obtain ⟨z, AZ, h⟩ := Option.bind_eq_some_iff.mp h
   have HAA := Aside0.mk AA
   have HAB := Aside0.mk AB
   have HAC := Aside0.mk AC
   have HZ := Aside0.mk AZ
   have HR := Aside0.mk h
   have hbc : b.length ≤ 1000001 ∧ c.length ≤ 1000001 := by
    cases b with
    | nil => cases AC
    | cons x b =>
     have AC2 : (if b.length ≤ 1000000 then some (x :: b.reverse) else none) = some c := AC
     by_cases q : b.length ≤ 1000000
     ·rw [if_pos q] at AC2
      obtain rfl := Option.some.inj AC2
      simp only [List.length_cons, List.length_reverse]
      omega
     ·rw [if_neg q] at AC2
      cases AC2
   have HBC := Aside0.mk hbc
   clear AA AB AC AZ h hbc
   obtain ⟨i0, hi0, _, hsz0, _⟩ := info_parts info40
   go_enter Try.func31, Try.ntmps31
   go_wp2_with (first
    | ((with_reducible refine gate_callee (f := 36) rfl ?_); refine goesL_ (some 11) rfl rfl Try.func36 (by kernel_rfl) rfl #[.slice A0 l0.length c0] rfl (by (try simp only [List.map_toArray, List.map_cons, List.map_nil]); first | done | rfl) ?_; (refine (impl_PolygonOk.calls k A0 c0 l0 true _ ?s HC0.out HT.out).mono ?_); (case s => repeat (first | exact (Kd.C_below HR0.out HB.out) | (with_reducible refine Kd.C_alloc ?_ _) | (with_reducible refine Kd.C_drewN ?_ _) | (with_reducible refine Kd.C_drew ?_))); rintro e w1 ⟨rfl, hb⟩; refine ⟨_, rfl, ?_⟩; have n_ := Aside0.mk (below_step (by repeat (with_reducible first | exact HB.out | apply bA | apply bN | apply bD)) hb); clear HB; have HB := n_; clear n_ hb)
    | (go_at_call 36; (with_reducible refine (impl_PolygonOk.calls k A1 c1 l1 true _ ?s HC1.out HU.out).mono ?_); (case s => repeat (first | exact (Kd.C_below HR1.out HB.out) | (with_reducible refine Kd.C_alloc ?_ _) | (with_reducible refine Kd.C_drewN ?_ _) | (with_reducible refine Kd.C_drew ?_))); rintro e w1 ⟨rfl, hb⟩; have n_ := Aside0.mk (below_step (by repeat (with_reducible first | exact HB.out | apply bA | apply bN | apply bD)) hb); clear HB; have HB := n_; clear n_ hb)
    | ((with_reducible refine gate_callee (f := 55) rfl ?_); refine goesL_ (some 19) rfl rfl Try.func55 (by kernel_rfl) rfl #[.slice A0 l0.length c0] rfl (by (try simp only [List.map_toArray, List.map_cons, List.map_nil]); first | done | rfl) ?_; (refine (impl_straightened.calls k A0 c0 l0 a _ ?s HC0.out HAA.out).mono ?_); (case s => repeat (first | exact (Kd.C_below HR0.out HB.out) | (with_reducible refine Kd.C_alloc ?_ _) | (with_reducible refine Kd.C_drewN ?_ _) | (with_reducible refine Kd.C_drew ?_))); rintro e wa ⟨va, rfl, ho, hb⟩; refine ⟨_, rfl, ?_⟩; obtain ⟨Aa, ca, hv⟩ := Kd.R_slice ho; subst hv; have HCa := Aside0.mk (Kd.R_reads' ho).2.2; have HLa := Aside0.mk (Kd.R_reads' ho).2.1; clear ho; have n_ := Aside0.mk (below_step (by repeat (with_reducible first | exact HB.out | apply bA | apply bN | apply bD)) hb); clear HB; have HB := n_; clear n_ hb)
    | ((with_reducible refine gate_callee (f := 55) rfl ?_); refine goesL_ (some 21) rfl rfl Try.func55 (by kernel_rfl) rfl #[.slice A1 l1.length c1] rfl (by (try simp only [List.map_toArray, List.map_cons, List.map_nil]); first | done | rfl) ?_; (refine (impl_straightened.calls k A1 c1 l1 b _ ?s HC1.out HAB.out).mono ?_); (case s => repeat (first | exact (Kd.C_below HR1.out HB.out) | (with_reducible refine Kd.C_alloc ?_ _) | (with_reducible refine Kd.C_drewN ?_ _) | (with_reducible refine Kd.C_drew ?_))); rintro e wb ⟨vb, rfl, ho, hb⟩; refine ⟨_, rfl, ?_⟩; obtain ⟨Ab, cb, hv⟩ := Kd.R_slice ho; subst hv; have HCb := Aside0.mk (Kd.R_reads' ho).2.2; have HLb := Aside0.mk (Kd.R_reads' ho).2.1; have ma_ := Aside0.mk (Kd.C_below (by (with_reducible repeat (first | refine Kd.C_alloc ?_ _ | refine Kd.C_drewN ?_ _ | refine Kd.C_drew ?_)); exact HCa.out) hb); clear HCa; have HCa := ma_; clear ma_; clear ho; have n_ := Aside0.mk (below_step (by repeat (with_reducible first | exact HB.out | apply bA | apply bN | apply bD)) hb); clear HB; have HB := n_; clear n_ hb)
    | ((with_reducible refine gate_callee (f := 56) rfl ?_); refine goesL_ (some 24) rfl rfl Try.func56 (by kernel_rfl) rfl #[.slice Ab b.length cb] rfl (by (try simp only [List.map_toArray, List.map_cons, List.map_nil]); first | done | rfl) ?_; (refine (impl_turned.calls Ab cb b c _ (by (with_reducible repeat (first | refine Kd.C_alloc ?_ _ | refine Kd.C_drewN ?_ _ | refine Kd.C_drew ?_)); exact HCb.out) HLb.out HAC.out).mono ?_); rintro e wc ⟨vc, rfl, ho, hb⟩; refine ⟨_, rfl, ?_⟩; obtain ⟨Ac, cc, hv⟩ := Kd.R_slice ho; subst hv; have HCc := Aside0.mk (Kd.R_reads' ho).2.2; have HLc := Aside0.mk (Kd.R_reads' ho).2.1; have ma_ := Aside0.mk (Kd.C_below (by (with_reducible repeat (first | refine Kd.C_alloc ?_ _ | refine Kd.C_drewN ?_ _ | refine Kd.C_drew ?_)); exact HCa.out) hb); clear HCa; have HCa := ma_; clear ma_; have mb_ := Aside0.mk (Kd.C_below (by (with_reducible repeat (first | refine Kd.C_alloc ?_ _ | refine Kd.C_drewN ?_ _ | refine Kd.C_drew ?_)); exact HCb.out) hb); clear HCb; have HCb := mb_; clear mb_; clear ho; have n_ := Aside0.mk (below_step (by repeat (with_reducible first | exact HB.out | apply bA | apply bN | apply bD)) hb); clear HB; have HB := n_; clear n_ hb)
    | ((with_reducible refine gate_dst (N := 25) rfl ?_); refine lit_event ?hg (N := 25) ?hd (cs := #[.slice Ab b.length cb, .slice Ac c.length cc]) (t := 25) (n := 2) ?hr ?_; (case hd => rfl); (case hg => rfl); (case hr => first | (go_simp; done) | (go_simp; rfl)); intro gl hg wl hbox hb; have BL_ := Aside0.mk hbox; have ma_ := Aside0.mk (Kd.C_below (by (with_reducible repeat (first | refine Kd.C_alloc ?_ _ | refine Kd.C_drewN ?_ _ | refine Kd.C_drew ?_)); exact HCa.out) hb); clear HCa; have HCa := ma_; clear ma_; have mb_ := Aside0.mk (Kd.C_below (by (with_reducible repeat (first | refine Kd.C_alloc ?_ _ | refine Kd.C_drewN ?_ _ | refine Kd.C_drew ?_)); exact HCb.out) hb); clear HCb; have HCb := mb_; clear mb_; have mc_ := Aside0.mk (Kd.C_below (by (with_reducible repeat (first | refine Kd.C_alloc ?_ _ | refine Kd.C_drewN ?_ _ | refine Kd.C_drew ?_)); exact HCc.out) hb); clear HCc; have HCc := mc_; clear mc_; clear hg hbox; have n_ := Aside0.mk (below_step (by repeat (with_reducible first | exact HB.out | apply bA | apply bN | apply bD)) hb); clear HB; have HB := n_; clear n_ hb))
   clear HT HU HAA HAB HAC HR0 HC0 HR1 HC1
   go_loopg [27] 3 (fun kq v27 w' => ∃ i : Nat, v27 = .int .i64 (i : Int) ∧ Aside0 (i + kq = 3) ∧ Aside0 (i ≤ 2) ∧ Aside0 (1 ≤ i → z = false) ∧ Aside0 (2 ≤ i → r = false) ∧ Aside0 (Below wl.heap.size wl w'))
   case atStart => exact ⟨0, by first | rfl | (simp; done) | (simp [*]; done), ⟨by omega⟩, ⟨by omega⟩, ⟨fun q => by omega⟩, ⟨fun q => by omega⟩, ⟨(by repeat (first | (with_reducible first | exact Below.refl _ _ | apply bA | apply bN | apply bD) | exact Below.refl _ _))⟩⟩
   case round =>
    have HBW := HB
    clear HB
    obtain ⟨i, rfl, HI, HI2, HZ1, HZ2, HB⟩ := hrel
    cases gk with
    | zero =>
     exact absurd HI.out (by have := HI2.out; omega)
    | succ ko =>
     by_cases c5 : i < 2
     ·have c5b := decide_eq_true (show (i : Int) < 2 by omega)
      have c5c : decide (i < 2) = true := decide_eq_true c5
      have c5d := eq_true c5
      have c5e := eq_true (show (i : Int) < 2 by omega)
      have key : ∃ (A8 : Option Addr) (c8 : Nat) (cl : List S40) (zz : Bool), wr.cell? ⟨gl, i, none⟩ = some (.slice A8 cl.length c8) ∧ Kd.C k40 wr A8 cl.length cl ∧ cl.length ≤ c8 ∧ cl.length ≤ 1000001 ∧ impl_SamePolygon.l0 k a cl 0 = some zz ∧ (zz = true → r = true) ∧ (zz = false → z = false) ∧ (1 ≤ i → zz = false → r = false) := by
       have hB := HB.out
       have hR := HR.out
       have hbc := HBC.out
       have hblk := blk_below BL_.out hB
       match i, c5, HZ1.out with
       | 0, _, _ => exact ⟨Ab, cb, b, z, (blk_cell hblk 0).trans rfl, Kd.C_below HCb.out hB, HLb.out, hbc.1, HZ.out, fun q => by rw [if_pos q] at hR; exact (Option.some.inj hR).symm, fun q => q, fun q => by omega⟩
       | 1, _, q1 =>
        have hz := q1 (by omega)
        rw [if_neg (by rw [hz]; decide)] at hR
        exact ⟨Ac, cc, c, r, (blk_cell hblk 1).trans rfl, Kd.C_below HCc.out hB, HLc.out, hbc.2, hR, fun q => q, fun _ => hz, fun _ q => q⟩
      obtain ⟨A8, c8, cl, zz, hx8, hc8, hl8, hm8, hz8, ht8, hf8, hr8⟩ := key
      have HC8 := Aside0.mk hc8
      have HL8 := Aside0.mk hl8
      have HM8 := Aside0.mk hm8
      have H' := Aside0.mk hz8
      have HT8 := Aside0.mk ht8
      have HF8 := Aside0.mk hf8
      have HR8 := Aside0.mk hr8
      have HCa8 := Aside0.mk (Kd.C_below HCa.out HB.out)
      have HB8 := HB
      clear hc8 hl8 hm8 hz8 ht8 hf8 hr8
      have HI5 := Aside0.mk c5
      clear c5
      go_wp2
      go_loopg [33] k (fun kq v33 w' => ∃ j : Nat, v33 = .int .i64 (j : Int) ∧ Aside0 (impl_SamePolygon.l0 kq a cl j = some zz) ∧ Aside0 (kq ≤ k) ∧ Aside0 (j ≤ cl.length) ∧ Aside0 (Below wr.heap.size wr w'))
      case atStart => exact ⟨0, by first | rfl | (simp; done) | (simp [*]; done), H', ⟨Nat.le_refl _⟩, ⟨Nat.zero_le _⟩, ⟨(by repeat (first | (with_reducible first | exact Below.refl _ _ | apply bA | apply bN | apply bD) | exact Below.refl _ _))⟩⟩
      case round =>
       clear H' HB c5b c5c c5d c5e hx8
       obtain ⟨j, rfl, HA, HK, HJ, HB⟩ := hrel
       skip
       cases gk with
       | zero => exact absurd HA.out (by simp [impl_SamePolygon.l0])
       | succ k2 =>
        have H := HA.out
        clear HA
        simp only [impl_SamePolygon.l0] at H
        by_cases c6 : j < cl.length
        ·rw [if_pos c6] at H
         have c6b := decide_eq_true (show (j : Int) < (cl.length : Int) by omega)
         have c6c : decide (j < cl.length) = true := decide_eq_true c6
         obtain ⟨t, AE, H⟩ := Option.bind_eq_some_iff.mp H
         have HE := Aside0.mk AE
         clear AE
         have hm8 := HM8.out
         have hl8 := HL8.out
         have HCr := Aside0.mk (Kd.C_below HC8.out HB.out)
         have HCar := Aside0.mk (Kd.C_below HCa8.out HB.out)
         have hk1 := cut_from (P := Try.prog) 25 40 .i64 Try.underlying25 hi0 2 hsz0 A8 cl.length c8 (j : Int) (by omega) (by omega)
         have hk2 := cut_to (P := Try.prog) 25 40 .i64 Try.underlying25 hi0 A8 cl.length c8 (j : Int) (by omega) (by omega) hl8
         have HD := Aside0.mk (Kd.C_drop (c := c8) (m := j) HCr.out (by omega) hl8)
         have HTK := Aside0.mk (Kd.C_take (m := j) HCr.out (by omega))
         obtain ⟨X, hX⟩ : ∃ X, X = cl.drop j := ⟨_, rfl⟩
         obtain ⟨Y, hY⟩ : ∃ Y, Y = cl.take j := ⟨_, rfl⟩
         obtain ⟨AX, hAX⟩ : ∃ A1, A1 = (if c8 = j then A8 else A8.map (·.add (j * 2))) := ⟨_, rfl⟩
         have hXl : cl.length - j = X.length := by rw [hX, List.length_drop]
         have hYl : j = Y.length := by rw [hY, List.length_take]; omega
         rw [← hX, ← hY] at HE
         have HDX := Aside0.mk (show Kd.C k40 wr AX X.length X from by rw [hAX, hX]; exact HD.out)
         have HTY := Aside0.mk (show Kd.C k40 wr A8 Y.length Y from by rw [hY]; exact HTK.out)
         have hXc : X.length ≤ c8 - j := by omega
         have hYc : Y.length ≤ c8 := by omega
         have HXC := Aside0.mk hXc
         have HYC := Aside0.mk hYc
         have HXY := Aside0.mk (show X.length ≤ 1000000 + 1 ∧ Y.length ≤ 1000000 + 1 from ⟨by omega, by omega⟩)
         rw [Int.toNat_natCast, hXl] at hk1
         rw [Int.toNat_natCast] at hk2
         rw [← hAX] at hk1
         replace hk2 : ∀ W : World, (Instr.slice 25 (.slice A8 cl.length c8) none (some (.int .i64 (j : Int))) none).run Try.prog W = .ok (.slice A8 Y.length c8) W := fun W => by rw [hk2 W, ← hYl]
         have HYL := Aside0.mk hYl
         have HJL := Aside0.mk c6
         clear HD HTK hX hY hAX hXl hYl hXc hYc hm8 hl8 c6 HCr
         cases t with
         | true =>
          rw [if_pos rfl] at H
          have hzz := Option.some.inj H
          obtain rfl := HT8.out hzz.symm
          clear H hzz
          go_upto_region 10 with (fail)
          refine start_ (n := 10) (S := fun _ => True) (ds := []) #[false, false, false, false, false, false, false, false, false, false] (by kernel_rfl) rfl rfl trivial (fun hHeld => ?_)
          refine pure_ (i := 0) (N := some 36) (v := ?_) (a' := ?_) #[true, false, false, false, false, false, false, false, false, false] rfl rfl (by kernel_rfl) (fun _ _ _ h => h) (Or.inl ⟨by rfl, ?_⟩) ?_ ?_
          rotate_left
          ·intro w'
           go_simp
           with_reducible rfl
          rotate_left
          ·simp only [Act.put, List.setIfInBounds_toArray, List.set_cons_zero, List.set_cons_succ, i64_w, i32_w]
           rfl
          refine pure_ (i := 1) (N := some 37) (v := ?_) (a' := ?_) #[true, true, false, false, false, false, false, false, false, false] rfl rfl (by kernel_rfl) (fun _ _ _ h => h) (Or.inl ⟨by rfl, ?_⟩) ?_ ?_
          rotate_left
          ·intro w'
           go_simp
           with_reducible rfl
          rotate_left
          ·simp only [Act.put, List.setIfInBounds_toArray, List.set_cons_zero, List.set_cons_succ, i64_w, i32_w]
           rfl
          refine pure_ (i := 2) (N := some 38) (v := ?_) (a' := ?_) #[true, true, true, false, false, false, false, false, false, false] rfl rfl (by kernel_rfl) (fun _ _ _ h => h) (Or.inl ⟨by rfl, ?_⟩) ?_ ?_
          rotate_left
          ·intro w'
           go_simp
           with_reducible rfl
          rotate_left
          ·simp only [Act.put, List.setIfInBounds_toArray, List.set_cons_zero, List.set_cons_succ, i64_w, i32_w]
           rfl
          refine pure_ (i := 3) (N := some 39) (v := ?_) (a' := ?_) #[true, true, true, true, false, false, false, false, false, false] rfl rfl (by kernel_rfl) (fun _ _ _ h => h) (Or.inl ⟨by rfl, ?_⟩) ?_ ?_
          rotate_left
          ·intro w'
           go_simp
           with_reducible rfl
          rotate_left
          ·simp only [Act.put, List.setIfInBounds_toArray, List.set_cons_zero, List.set_cons_succ, i64_w, i32_w]
           rfl
          refine pure_ (i := 4) (N := some 40) (v := ?_) (a' := ?_) #[true, true, true, true, true, false, false, false, false, false] rfl rfl (by kernel_rfl) (fun _ _ _ h => h) (Or.inl ⟨by rfl, ?_⟩) ?_ ?_
          rotate_left
          ·intro w'
           go_simp
           with_reducible rfl
          rotate_left
          ·simp only [Act.put, List.setIfInBounds_toArray, List.set_cons_zero, List.set_cons_succ, i64_w, i32_w]
           rfl
          refine pure_ (i := 5) (N := some 41) (v := ?_) (a' := ?_) #[true, true, true, true, true, true, false, false, false, false] rfl rfl (by kernel_rfl) (fun _ _ _ h => h) (Or.inl ⟨by rfl, ?_⟩) ?_ ?_
          rotate_left
          ·intro w'
           go_simp
           with_reducible rfl
          rotate_left
          ·simp only [Act.put, List.setIfInBounds_toArray, List.set_cons_zero, List.set_cons_succ, i64_w, i32_w]
           rfl
          refine pure_ (i := 6) (N := some 42) (v := ?_) (a' := ?_) #[true, true, true, true, true, true, true, false, false, false] rfl rfl (by kernel_rfl) (fun _ _ _ h => h) (Or.inl ⟨by rfl, ?_⟩) ?_ ?_
          rotate_left
          ·intro w'
           go_simp
           with_reducible rfl
          rotate_left
          ·simp only [Act.put, List.setIfInBounds_toArray, List.set_cons_zero, List.set_cons_succ, i64_w, i32_w]
           rfl
          refine one_ (i := 7) (N := some 43) #[true, true, true, true, true, true, true, true, false, false] rfl rfl (by kernel_rfl) (by decide) (fun K hK => ?_)
          refine lit_step ?hg (N := 43) ?hd (cs := #[.slice AX X.length (c8 - j), .slice A8 Y.length c8]) (t := 25) (n := 2) ?hr ?_; (case hd => rfl); (case hg => rfl); (case hr => first | (go_simp; done) | (go_simp; rfl))
          intro gz hg wz hbox hb
          have BZ := Aside0.mk hbox
          have HBZ := Aside0.mk (below_step (by repeat (first | (with_reducible first | exact Below.refl _ _ | apply bA | apply bN | apply bD) | exact Below.refl _ _)) hb : Below wr.heap.size wr wz)
          clear hg hbox hb
          refine hK.out _ _ trivial (fun hHeld => ?_)
          clear hK K
          refine norm_ (a' := ?_) ?_ ?_
          rotate_left
          ·show Act.put _ (some 43) _ = _
           simp only [Act.put, List.setIfInBounds_toArray, List.set_cons_zero, List.set_cons_succ, i64_w, i32_w]
           rfl
          refine one_ (i := 8) (N := some 44) #[true, true, true, true, true, true, true, true, true, false] rfl rfl (by kernel_rfl) (by decide) (fun K hK => ?_)
          refine goes_ Try.func58 (by kernel_rfl) rfl #[.slice (some ⟨gz, 0, none⟩) 2 2] (by rfl) rfl rfl (by (try simp only [List.map_toArray, List.map_cons, List.map_nil]); first | done | rfl) ?_
          refine (impl_Point_58.calls 8 (some ⟨gz, 0, none⟩) 2 [X, Y] (X ++ Y) _ (by (with_reducible repeat (first | refine Kd.C_alloc ?_ _ | refine Kd.C_drewN ?_ _ | refine Kd.C_drew ?_)); exact (two_rows BZ.out (Kd.C_below HDX.out HBZ.out) HXC.out (Kd.C_below HTY.out HBZ.out) HYC.out)) (by simp) (concat2 X Y (by have := HXY.out; omega) (by have := HXY.out; omega))).mono ?_
          rintro e wy ⟨vy, rfl, ho, hb⟩
          refine ⟨_, rfl, ?_⟩
          obtain ⟨Z, hZ⟩ : ∃ Z, Z = X ++ Y := ⟨_, rfl⟩
          rw [← hZ] at ho HE
          obtain ⟨Ay, cy, hv⟩ := Kd.R_slice ho
          subst hv
          have HCy := Aside0.mk (Kd.R_reads' ho).2.2
          have HLy := Aside0.mk (Kd.R_reads' ho).2.1
          have HBY := Aside0.mk (below_step (by repeat (first | (with_reducible first | exact HBZ.out | apply bA | apply bN | apply bD) | exact HBZ.out)) hb : Below wr.heap.size wr wy)
          clear ho hb hZ
          refine hK.out _ _ trivial (fun hHeld => ?_)
          clear hK K
          refine norm_ (a' := ?_) ?_ ?_
          rotate_left
          ·show Act.put _ (some 44) _ = _
           simp only [Act.put, List.setIfInBounds_toArray, List.set_cons_zero, List.set_cons_succ, i64_w, i32_w]
           rfl
          refine one_ (i := 9) (N := some 45) #[true, true, true, true, true, true, true, true, true, true] rfl rfl (by kernel_rfl) (by decide) (fun K hK => ?_)
          refine goes_ Try.func57 (by kernel_rfl) rfl #[.slice Aa a.length ca, .slice Ay Z.length cy] (by rfl) rfl rfl (by (try simp only [List.map_toArray, List.map_cons, List.map_nil]); first | done | rfl) ?_
          refine (impl_Point_57.calls k2 Aa ca a Ay cy Z true _ (Kd.C_below HCar.out (by repeat (first | (with_reducible first | exact HBY.out | apply bA | apply bN | apply bD) | exact HBY.out))) HLa.out (by (with_reducible repeat (first | refine Kd.C_alloc ?_ _ | refine Kd.C_drewN ?_ _ | refine Kd.C_drew ?_)); exact HCy.out) HLy.out HE.out).mono ?_
          rintro e wx ⟨rfl, hd⟩
          refine ⟨_, rfl, ?_⟩
          have HBX := Aside0.mk (below_step (by repeat (first | (with_reducible first | exact HBY.out | apply bA | apply bN | apply bD) | exact HBY.out)) (hd.below) : Below wr.heap.size wr wx)
          clear hd
          refine hK.out _ _ trivial (fun hHeld => ?_)
          clear hK K
          refine norm_ (a' := ?_) ?_ ?_
          rotate_left
          ·show Act.put _ (some 45) _ = _
           simp only [Act.put, List.setIfInBounds_toArray, List.set_cons_zero, List.set_cons_succ, i64_w, i32_w]
           rfl
          refine done_ (by kernel_rfl) ?_
          go_wp2
          go_ret
          exact ⟨by first | rfl | (simp; done) | (simp [*]; done), below_step HBW.out (below_step HB8.out (below_step HB.out (by repeat (first | (with_reducible first | exact HBX.out | apply bA | apply bN | apply bD) | exact HBX.out))))⟩
         | false =>
          rw [if_neg (by decide)] at H
          have H' := Aside0.mk H
          clear H
          go_upto_region 10 with (fail)
          refine start_ (n := 10) (S := fun _ => True) (ds := []) #[false, false, false, false, false, false, false, false, false, false] (by kernel_rfl) rfl rfl trivial (fun hHeld => ?_)
          refine pure_ (i := 0) (N := some 36) (v := ?_) (a' := ?_) #[true, false, false, false, false, false, false, false, false, false] rfl rfl (by kernel_rfl) (fun _ _ _ h => h) (Or.inl ⟨by rfl, ?_⟩) ?_ ?_
          rotate_left
          ·intro w'
           go_simp
           with_reducible rfl
          rotate_left
          ·simp only [Act.put, List.setIfInBounds_toArray, List.set_cons_zero, List.set_cons_succ, i64_w, i32_w]
           rfl
          refine pure_ (i := 1) (N := some 37) (v := ?_) (a' := ?_) #[true, true, false, false, false, false, false, false, false, false] rfl rfl (by kernel_rfl) (fun _ _ _ h => h) (Or.inl ⟨by rfl, ?_⟩) ?_ ?_
          rotate_left
          ·intro w'
           go_simp
           with_reducible rfl
          rotate_left
          ·simp only [Act.put, List.setIfInBounds_toArray, List.set_cons_zero, List.set_cons_succ, i64_w, i32_w]
           rfl
          refine pure_ (i := 2) (N := some 38) (v := ?_) (a' := ?_) #[true, true, true, false, false, false, false, false, false, false] rfl rfl (by kernel_rfl) (fun _ _ _ h => h) (Or.inl ⟨by rfl, ?_⟩) ?_ ?_
          rotate_left
          ·intro w'
           go_simp
           with_reducible rfl
          rotate_left
          ·simp only [Act.put, List.setIfInBounds_toArray, List.set_cons_zero, List.set_cons_succ, i64_w, i32_w]
           rfl
          refine pure_ (i := 3) (N := some 39) (v := ?_) (a' := ?_) #[true, true, true, true, false, false, false, false, false, false] rfl rfl (by kernel_rfl) (fun _ _ _ h => h) (Or.inl ⟨by rfl, ?_⟩) ?_ ?_
          rotate_left
          ·intro w'
           go_simp
           with_reducible rfl
          rotate_left
          ·simp only [Act.put, List.setIfInBounds_toArray, List.set_cons_zero, List.set_cons_succ, i64_w, i32_w]
           rfl
          refine pure_ (i := 4) (N := some 40) (v := ?_) (a' := ?_) #[true, true, true, true, true, false, false, false, false, false] rfl rfl (by kernel_rfl) (fun _ _ _ h => h) (Or.inl ⟨by rfl, ?_⟩) ?_ ?_
          rotate_left
          ·intro w'
           go_simp
           with_reducible rfl
          rotate_left
          ·simp only [Act.put, List.setIfInBounds_toArray, List.set_cons_zero, List.set_cons_succ, i64_w, i32_w]
           rfl
          refine pure_ (i := 5) (N := some 41) (v := ?_) (a' := ?_) #[true, true, true, true, true, true, false, false, false, false] rfl rfl (by kernel_rfl) (fun _ _ _ h => h) (Or.inl ⟨by rfl, ?_⟩) ?_ ?_
          rotate_left
          ·intro w'
           go_simp
           with_reducible rfl
          rotate_left
          ·simp only [Act.put, List.setIfInBounds_toArray, List.set_cons_zero, List.set_cons_succ, i64_w, i32_w]
           rfl
          refine pure_ (i := 6) (N := some 42) (v := ?_) (a' := ?_) #[true, true, true, true, true, true, true, false, false, false] rfl rfl (by kernel_rfl) (fun _ _ _ h => h) (Or.inl ⟨by rfl, ?_⟩) ?_ ?_
          rotate_left
          ·intro w'
           go_simp
           with_reducible rfl
          rotate_left
          ·simp only [Act.put, List.setIfInBounds_toArray, List.set_cons_zero, List.set_cons_succ, i64_w, i32_w]
           rfl
          refine one_ (i := 7) (N := some 43) #[true, true, true, true, true, true, true, true, false, false] rfl rfl (by kernel_rfl) (by decide) (fun K hK => ?_)
          refine lit_step ?hg (N := 43) ?hd (cs := #[.slice AX X.length (c8 - j), .slice A8 Y.length c8]) (t := 25) (n := 2) ?hr ?_; (case hd => rfl); (case hg => rfl); (case hr => first | (go_simp; done) | (go_simp; rfl))
          intro gz hg wz hbox hb
          have BZ := Aside0.mk hbox
          have HBZ := Aside0.mk (below_step (by repeat (first | (with_reducible first | exact Below.refl _ _ | apply bA | apply bN | apply bD) | exact Below.refl _ _)) hb : Below wr.heap.size wr wz)
          clear hg hbox hb
          refine hK.out _ _ trivial (fun hHeld => ?_)
          clear hK K
          refine norm_ (a' := ?_) ?_ ?_
          rotate_left
          ·show Act.put _ (some 43) _ = _
           simp only [Act.put, List.setIfInBounds_toArray, List.set_cons_zero, List.set_cons_succ, i64_w, i32_w]
           rfl
          refine one_ (i := 8) (N := some 44) #[true, true, true, true, true, true, true, true, true, false] rfl rfl (by kernel_rfl) (by decide) (fun K hK => ?_)
          refine goes_ Try.func58 (by kernel_rfl) rfl #[.slice (some ⟨gz, 0, none⟩) 2 2] (by rfl) rfl rfl (by (try simp only [List.map_toArray, List.map_cons, List.map_nil]); first | done | rfl) ?_
          refine (impl_Point_58.calls 8 (some ⟨gz, 0, none⟩) 2 [X, Y] (X ++ Y) _ (by (with_reducible repeat (first | refine Kd.C_alloc ?_ _ | refine Kd.C_drewN ?_ _ | refine Kd.C_drew ?_)); exact (two_rows BZ.out (Kd.C_below HDX.out HBZ.out) HXC.out (Kd.C_below HTY.out HBZ.out) HYC.out)) (by simp) (concat2 X Y (by have := HXY.out; omega) (by have := HXY.out; omega))).mono ?_
          rintro e wy ⟨vy, rfl, ho, hb⟩
          refine ⟨_, rfl, ?_⟩
          obtain ⟨Z, hZ⟩ : ∃ Z, Z = X ++ Y := ⟨_, rfl⟩
          rw [← hZ] at ho HE
          obtain ⟨Ay, cy, hv⟩ := Kd.R_slice ho
          subst hv
          have HCy := Aside0.mk (Kd.R_reads' ho).2.2
          have HLy := Aside0.mk (Kd.R_reads' ho).2.1
          have HBY := Aside0.mk (below_step (by repeat (first | (with_reducible first | exact HBZ.out | apply bA | apply bN | apply bD) | exact HBZ.out)) hb : Below wr.heap.size wr wy)
          clear ho hb hZ
          refine hK.out _ _ trivial (fun hHeld => ?_)
          clear hK K
          refine norm_ (a' := ?_) ?_ ?_
          rotate_left
          ·show Act.put _ (some 44) _ = _
           simp only [Act.put, List.setIfInBounds_toArray, List.set_cons_zero, List.set_cons_succ, i64_w, i32_w]
           rfl
          refine one_ (i := 9) (N := some 45) #[true, true, true, true, true, true, true, true, true, true] rfl rfl (by kernel_rfl) (by decide) (fun K hK => ?_)
          refine goes_ Try.func57 (by kernel_rfl) rfl #[.slice Aa a.length ca, .slice Ay Z.length cy] (by rfl) rfl rfl (by (try simp only [List.map_toArray, List.map_cons, List.map_nil]); first | done | rfl) ?_
          refine (impl_Point_57.calls k2 Aa ca a Ay cy Z false _ (Kd.C_below HCar.out (by repeat (first | (with_reducible first | exact HBY.out | apply bA | apply bN | apply bD) | exact HBY.out))) HLa.out (by (with_reducible repeat (first | refine Kd.C_alloc ?_ _ | refine Kd.C_drewN ?_ _ | refine Kd.C_drew ?_)); exact HCy.out) HLy.out HE.out).mono ?_
          rintro e wx ⟨rfl, hd⟩
          refine ⟨_, rfl, ?_⟩
          have HBX := Aside0.mk (below_step (by repeat (first | (with_reducible first | exact HBY.out | apply bA | apply bN | apply bD) | exact HBY.out)) (hd.below) : Below wr.heap.size wr wx)
          clear hd
          refine hK.out _ _ trivial (fun hHeld => ?_)
          clear hK K
          refine norm_ (a' := ?_) ?_ ?_
          rotate_left
          ·show Act.put _ (some 45) _ = _
           simp only [Act.put, List.setIfInBounds_toArray, List.set_cons_zero, List.set_cons_succ, i64_w, i32_w]
           rfl
          refine done_ (by kernel_rfl) ?_
          go_wp2
          go_roundg k2
          case measure => have := HK.out; omega
          case rel => exact ⟨j + 1, by have h1 := HM8.out; have h2 := HJL.out; exact congrArg (Value.int .i64) (by first | (unfold wrap64; omega) | omega), H', ⟨by have := HK.out; omega⟩, ⟨by have := HJL.out; omega⟩, ⟨below_step HB.out (by repeat (first | (with_reducible first | exact HBX.out | apply bA | apply bN | apply bD) | exact HBX.out))⟩⟩
        ·rw [if_neg c6] at H
         have c6b := decide_eq_false (show ¬ (j : Int) < (cl.length : Int) by omega)
         have c6c : decide (j < cl.length) = false := decide_eq_false c6
         have HZZ := Aside0.mk (Option.some.inj H)
         clear H c6
         go_wp2
         go_roundg ko
         case measure => have := HI.out; omega
         case rel => exact ⟨i + 1, by have h1 := HI5.out; exact congrArg (Value.int .i64) (by first | (unfold wrap64; omega) | omega), ⟨by have := HI.out; omega⟩, ⟨by have := HI5.out; omega⟩, ⟨fun _ => HF8.out HZZ.out.symm⟩, ⟨fun q => HR8.out (by omega) HZZ.out.symm⟩, ⟨below_step HB8.out (below_step HB.out (by repeat (first | (with_reducible first | exact Below.refl _ _ | apply bA | apply bN | apply bD) | exact Below.refl _ _)))⟩⟩
     ·have hr2 := HZ2.out (by have := HI2.out; omega)
      subst hr2
      have c5b := decide_eq_false (show ¬ (i : Int) < 2 by omega)
      have c5c : decide (i < 2) = false := decide_eq_false c5
      have c5d := eq_false c5
      have c5e := eq_false (show ¬ (i : Int) < 2 by omega)
      clear c5
      go_wp2
      go_ret
      exact ⟨by first | rfl | (simp; done) | (simp [*]; done), below_step HBW.out (by repeat (with_reducible first | exact HB.out | apply bA | apply bN | apply bD))⟩
def impl_RectangleOf.f (a0 : Int) (a1 : Int) : Option ((List (S40))) := (impl_within.f a0 1 40).bind fun t311 => (if t311 = true then ((impl_within.f a1 1 40).bind fun t312 => (if t312 = true then (some (([(⟨0, 0⟩ : S40), (⟨a0, 0⟩ : S40), (⟨a0, a1⟩ : S40), (⟨0, a1⟩ : S40)] : List (S40)))) else (some ([] : List (S40))))) else (some ([] : List (S40))))
theorem impl_RectangleOf.calls (a0 : Int) (a1 : Int) (r : List (S40)) (w : World) (h : impl_RectangleOf.f a0 a1 = some r) :
 Calls Try.prog 32 #[.int .i64 a0, .int .i64 a1] w fun e w' => ∃ v0_ : Value, e = .returned (v0_) ∧ Kd.R k40 40 w' w.heap.size (fun _ => True) v0_ r ∧ Below w.heap.size w w' := by
 have hu40 := Try.underlying40
 have HB := Aside0.mk (Below.refl w.heap.size w)
 have H : ((impl_within.f a0 1 40).bind fun t311 => (if t311 = true then ((impl_within.f a1 1 40).bind fun t312 => (if t312 = true then (some (([(⟨0, 0⟩ : S40), (⟨a0, 0⟩ : S40), (⟨a0, a1⟩ : S40), (⟨0, a1⟩ : S40)] : List (S40)))) else (some ([] : List (S40))))) else (some ([] : List (S40))))) = some r := h
 clear h
 replace H := Option.bind_eq_some_iff.mp H
 obtain ⟨t311, A30, H⟩ := H
 have A3 := Aside0.mk A30
 clear A30
 by_cases c4 : t311 = true
 ·subst c4
  rw [if_pos rfl] at H
  replace H := Option.bind_eq_some_iff.mp H
  obtain ⟨t312, A50, H⟩ := H
  have A5 := Aside0.mk A50
  clear A50
  by_cases c6 : t312 = true
  ·subst c6
   rw [if_pos rfl] at H
   obtain ⟨y313, hy313⟩ : ∃ y_ : List (S40), y_ = (([(⟨0, 0⟩ : S40), (⟨a0, 0⟩ : S40), (⟨a0, a1⟩ : S40), (⟨0, a1⟩ : S40)] : List (S40))) := ⟨_, rfl⟩
   replace H : (some y313) = some r := by first | (rw [hy313]; with_reducible exact H) | (have H2_ := (Option.bind_some _ _).symm.trans H; rw [hy313]; with_reducible exact H2_) | (have H2_ := (Option.bind_some _ _).symm.trans H; with_reducible exact H2_) | with_reducible exact H | (rw [hy313]; exact H) | exact H
   have Ny313 := Aside0.mk hy313
   clear hy313
   obtain rfl := Option.some.inj H
   go_enter Try.func32, Try.ntmps32
   go_wp2_with (first | ((with_reducible refine gate_callee (f := 59) rfl ?_); refine goesL_ (some 6) rfl rfl Try.func59 (by kernel_rfl) rfl #[.int .i64 a0, .int .i64 1, .int .i64 40] rfl (by (try simp only [List.map_toArray, List.map_cons, List.map_nil]); first | done | rfl) ?_; (with_reducible refine (impl_within.calls a0 1 40 true _ A3.out).mono ?_); rintro e w' ⟨rfl, ⟨nd, rfl⟩⟩; refine ⟨_, rfl, ?_⟩) | (go_at_call 59; (with_reducible refine (impl_within.calls a1 1 40 true _ A5.out).mono ?_); rintro e w' ⟨rfl, ⟨nd, rfl⟩⟩) | ((with_reducible refine gate_dst (N := 21) rfl ?_); refine Kd.R_lit k40 _ 40 ?hg (N := 21) ?hd (xs := ([(⟨0, 0⟩ : S40), (⟨a0, 0⟩ : S40), (⟨a0, a1⟩ : S40), (⟨0, a1⟩ : S40)] : List (S40))) (inner := [.int .i64 0, .int .i64 0, .int .i64 a0, .int .i64 0, .int .i64 a0, .int .i64 a1, .int .i64 0, .int .i64 a1]) (ok := fun _ => True) (okp := fun _ => True) ?hr ?hp (fun _ hk => hk) trivial (Below.refl _ _) (Nat.le_refl _) (by simp) ?_; (case hd => rfl); (case hg => rfl); (case hr => first | (go_simp; done) | (go_simp; rfl)); (case hp => exact (Reps.c2 (show Kd.M k40 _ _ _ (⟨0, 0⟩ : S40) [.int .i64 0, .int .i64 0] from (k40_mkM _ _ _ (⟨0, 0⟩ : S40) )) (Reps.c2 (show Kd.M k40 _ _ _ (⟨a0, 0⟩ : S40) [.int .i64 a0, .int .i64 0] from (k40_mkM _ _ _ (⟨a0, 0⟩ : S40) )) (Reps.c2 (show Kd.M k40 _ _ _ (⟨a0, a1⟩ : S40) [.int .i64 a0, .int .i64 a1] from (k40_mkM _ _ _ (⟨a0, a1⟩ : S40) )) (Reps.c2 (show Kd.M k40 _ _ _ (⟨0, a1⟩ : S40) [.int .i64 0, .int .i64 a1] from (k40_mkM _ _ _ (⟨0, a1⟩ : S40) )) (Reps.none _ _)))))); intro v314 w7 ho8 hb hg_ hnew_; clear hg_ hnew_; (first | rw [← Ny313.out] at ho8 | (simp only [Int.reduceToNat] at ho8; rw [← Ny313.out] at ho8)); have n0_ := Aside0.mk (Kd.R_lower ho8 (below_size (by repeat (with_reducible first | exact HB.out | apply bA | apply bN | apply bD)))); have n1_ := Aside0.mk (below_step (by repeat (with_reducible first | exact HB.out | apply bA | apply bN | apply bD)) hb); clear HB; have HO315 := n0_; have HB := n1_; clear n0_ n1_; clear hb ho8))
   go_ret
   exact ⟨_, by first | rfl | (simp [errW_none, errW_some] <;> rfl) | (simp [*, errW_none, errW_some] <;> rfl), by (with_reducible repeat (first | apply rA | apply rN | apply rD)); exact HO315.out, by repeat (with_reducible first | exact HB.out | apply bA | apply bN | apply bD)⟩
  ·replace c6 := Bool.eq_false_iff.mpr c6
   subst c6
   rw [if_neg (show ¬ (false = true) by decide)] at H
   obtain rfl := Option.some.inj H
   go_enter Try.func32, Try.ntmps32
   go_wp2_with (first | ((with_reducible refine gate_callee (f := 59) rfl ?_); refine goesL_ (some 6) rfl rfl Try.func59 (by kernel_rfl) rfl #[.int .i64 a0, .int .i64 1, .int .i64 40] rfl (by (try simp only [List.map_toArray, List.map_cons, List.map_nil]); first | done | rfl) ?_; (with_reducible refine (impl_within.calls a0 1 40 true _ A3.out).mono ?_); rintro e w' ⟨rfl, ⟨nd, rfl⟩⟩; refine ⟨_, rfl, ?_⟩) | (go_at_call 59; (with_reducible refine (impl_within.calls a1 1 40 false _ A5.out).mono ?_); rintro e w' ⟨rfl, ⟨nd, rfl⟩⟩))
   go_ret
   exact ⟨_, by first | rfl | (simp [errW_none, errW_some] <;> rfl) | (simp [*, errW_none, errW_some] <;> rfl), by first | exact Kd.R_nil _ _ _ _ _ | exact Kd.N_nil _ _ _ _ _ | exact Kd.V_nil _ _ _ _ _ | exact Kd.Q_nil _ _ _ _ _ | exact Kd.S_nil _ _ _ _ _, by repeat (with_reducible first | exact HB.out | apply bA | apply bN | apply bD)⟩
 ·replace c4 := Bool.eq_false_iff.mpr c4
  subst c4
  rw [if_neg (show ¬ (false = true) by decide)] at H
  obtain rfl := Option.some.inj H
  go_enter Try.func32, Try.ntmps32
  go_wp2_with (first | ((with_reducible refine gate_callee (f := 59) rfl ?_); refine goesL_ (some 6) rfl rfl Try.func59 (by kernel_rfl) rfl #[.int .i64 a0, .int .i64 1, .int .i64 40] rfl (by (try simp only [List.map_toArray, List.map_cons, List.map_nil]); first | done | rfl) ?_; (with_reducible refine (impl_within.calls a0 1 40 false _ A3.out).mono ?_); rintro e w' ⟨rfl, ⟨nd, rfl⟩⟩; refine ⟨_, rfl, ?_⟩))
  go_ret
  exact ⟨_, by first | rfl | (simp [errW_none, errW_some] <;> rfl) | (simp [*, errW_none, errW_some] <;> rfl), by first | exact Kd.R_nil _ _ _ _ _ | exact Kd.N_nil _ _ _ _ _ | exact Kd.V_nil _ _ _ _ _ | exact Kd.Q_nil _ _ _ _ _ | exact Kd.S_nil _ _ _ _ _, by repeat (with_reducible first | exact HB.out | apply bA | apply bN | apply bD)⟩
def impl_SameRectangle.f (k : Nat) (l0 : List (S40)) (a1 : Int) (a2 : Int) : Option (Bool) := (impl_RectangleOf.f a1 a2).bind fun t316 => ((impl_SamePolygon.f k l0 t316).bind fun t319 => (some t319))
theorem impl_SameRectangle.mono : ∀ a0 a1 a2 k, LeO (impl_SameRectangle.f k a0 a1 a2) (impl_SameRectangle.f (k + 1) a0 a1 a2) := by
 intro a0 a1 a2 k
 unfold impl_SameRectangle.f
 repeat' first
  | (with_reducible exact LeO.refl _)
  | exact impl_SamePolygon.mono _ _ _
  | exact LeO.none _
  | refine LeO.ite ?_ ?_
  | refine LeO.bind ?_ (fun _ => ?_)
theorem impl_SameRectangle.calls (k : Nat) (A0 : Option Addr) (c0 : Nat) (l0 : List (S40)) (a1 : Int) (a2 : Int) (r : Bool) (w : World) (hr0 : Kd.C k40 w A0 l0.length l0) (hc0 : l0.length ≤ c0) (h : impl_SameRectangle.f k l0 a1 a2 = some r) :
 Calls Try.prog 12 #[.slice A0 l0.length c0, .int .i64 a1, .int .i64 a2] w fun e w' => e = .returned (.bool r) ∧ Below w.heap.size w w' := by
 have HR0 := Aside0.mk hr0
 have HC0 := Aside0.mk hc0
 clear hr0 hc0
 have HB := Aside0.mk (Below.refl w.heap.size w)
 have H : ((impl_RectangleOf.f a1 a2).bind fun t316 => ((impl_SamePolygon.f k l0 t316).bind fun t319 => (some t319))) = some r := h
 clear h
 replace H := Option.bind_eq_some_iff.mp H
 obtain ⟨t316, A40, H⟩ := H
 have A4 := Aside0.mk A40
 clear A40
 replace H := Option.bind_eq_some_iff.mp H
 obtain ⟨t319, A50, H⟩ := H
 have A5 := Aside0.mk A50
 clear A50
 obtain rfl := Option.some.inj H
 go_enter Try.func12, Try.ntmps12
 go_wp2_with (first | ((with_reducible refine gate_callee (f := 32) rfl ?_); refine goesL_ (some 10) rfl rfl Try.func32 (by kernel_rfl) rfl #[.int .i64 a1, .int .i64 a2] rfl (by (try simp only [List.map_toArray, List.map_cons, List.map_nil]); first | done | rfl) ?_; (with_reducible refine (impl_RectangleOf.calls a1 a2 t316 _ A4.out).mono ?_); rintro e w6 ⟨v317, rfl, ho0, hb⟩; refine ⟨_, rfl, ?_⟩; have n0_ := Aside0.mk (Kd.R_lower ho0 (below_size (by repeat (with_reducible first | exact HB.out | apply bA | apply bN | apply bD)))); have n1_ := Aside0.mk (below_step (by repeat (with_reducible first | exact HB.out | apply bA | apply bN | apply bD)) hb); clear HB; have HO318 := n0_; have HB := n1_; clear n0_ n1_; (try clear hb); (try clear hb2); (try clear hk); (try clear hi); (try clear ho0); obtain ⟨Ao7, co7, eo7⟩ := Kd.R_slice HO318.out; subst eo7) | ((with_reducible refine gate_callee (f := 31) rfl ?_); refine goesL_ (some 11) rfl rfl Try.func31 (by kernel_rfl) rfl #[.slice A0 l0.length c0, .slice Ao7 t316.length co7] rfl (by (try simp only [List.map_toArray, List.map_cons, List.map_nil]); first | done | rfl) ?_; (with_reducible refine (impl_SamePolygon.calls k _ _ l0 _ _ t316 t319 _ ?side1 ?side2 ?side3 ?side4 A5.out).mono ?_); (case side1 => repeat (first | exact (Kd.C_below HR0.out HB.out) | (with_reducible refine Kd.C_alloc ?_ _) | (with_reducible refine Kd.C_drewN ?_ _) | (with_reducible refine Kd.C_drew ?_))); (case side2 => exact HC0.out); (case side3 => repeat (first | exact (Kd.R_reads' HO318.out).2.2 | (with_reducible refine Kd.C_alloc ?_ _) | (with_reducible refine Kd.C_drewN ?_ _) | (with_reducible refine Kd.C_drew ?_))); (case side4 => exact (Kd.R_reads' HO318.out).2.1); rintro e w8 ⟨rfl, hb⟩; refine ⟨_, rfl, ?_⟩; have n0_ := Aside0.mk (Kd.R_below (by (with_reducible repeat (first | apply rA | apply rN | apply rD)); exact HO318.out) hb); have n1_ := Aside0.mk (below_step (by repeat (with_reducible first | exact HB.out | apply bA | apply bN | apply bD)) hb); clear HO318; clear HB; have HO318 := n0_; have HB := n1_; clear n0_ n1_; (try clear hb); (try clear hb2); (try clear hk); (try clear hi)))
 go_ret
 exact ⟨by first | rfl | (simp [errW_none, errW_some] <;> rfl) | (simp [*, errW_none, errW_some] <;> rfl), by repeat (with_reducible first | exact HB.out | apply bA | apply bN | apply bD)⟩
def laws_eqPoint.f (a0_0 : Int) (a0_1 : Int) (a1_0 : Int) (a1_1 : Int) : Option (Bool) := if a0_0 = a1_0 then (if a0_1 = a1_1 then (some true) else (some false)) else (some false)
theorem laws_eqPoint.calls (a0_0 : Int) (a0_1 : Int) (a1_0 : Int) (a1_1 : Int) (r : Bool) (w : World) (h : laws_eqPoint.f a0_0 a0_1 a1_0 a1_1 = some r) :
 Calls Try.prog 33 #[.agg #[.int .i64 a0_0, .int .i64 a0_1], .agg #[.int .i64 a1_0, .int .i64 a1_1]] w fun e w' => e = .returned (.bool r) ∧ Below w.heap.size w w' := by
 have hu40 := Try.underlying40
 have HB := Aside0.mk (Below.refl w.heap.size w)
 have H : (if a0_0 = a1_0 then (if a0_1 = a1_1 then (some true) else (some false)) else (some false)) = some r := h
 clear h
 by_cases c3 : a0_0 = a1_0
 ·rw [if_pos c3] at H
  have c3b0 : (a0_0 == a1_0) = true := beq_iff_eq.mpr c3
  have c3b1 : (a0_0 != a1_0) = false := bne_eq_false_iff_eq.mpr c3
  clear c3
  by_cases c4 : a0_1 = a1_1
  ·rw [if_pos c4] at H
   have c4b0 : (a0_1 == a1_1) = true := beq_iff_eq.mpr c4
   have c4b1 : (a0_1 != a1_1) = false := bne_eq_false_iff_eq.mpr c4
   clear c4
   obtain rfl := Option.some.inj H
   go_enter Try.func33, Try.ntmps33
   go_wp2_with (first | ((with_reducible refine gate_dst (N := 2) rfl ?_); refine box_event ?hg (N := 2) ?hd (cs := #[.int .i64 a0_0, .int .i64 a0_1]) (t := 40) ?hr ?_; (case hd => rfl); (case hg => rfl); (case hr => first | (go_simp; done) | (go_simp; rfl)); intro gb320 hg w5 hbox hb; have n0_ := Aside0.mk (below_step (by repeat (with_reducible first | exact HB.out | apply bA | apply bN | apply bD)) hb); have n1_ := Aside0.mk (hbox); have n2_ := Aside0.mk ((by rw [hg]; exact (below_size (by repeat (with_reducible first | exact HB.out | apply bA | apply bN | apply bD))) : w.heap.size ≤ gb320)); have n3_ := Aside0.mk ((by rw [hg]; exact (below_size (by repeat (with_reducible first | exact HB.out | apply bA | apply bN | apply bD))) : w.heap.size ≤ gb320)); clear HB; have HB := n0_; have BK320 := n1_; have GW320 := n2_; have GE320 := n3_; clear n0_ n1_ n2_ n3_; clear hb hbox hg) | ((with_reducible refine gate_dst (N := 3) rfl ?_); refine box_event ?hg (N := 3) ?hd (cs := #[.int .i64 a1_0, .int .i64 a1_1]) (t := 40) ?hr ?_; (case hd => rfl); (case hg => rfl); (case hr => first | (go_simp; done) | (go_simp; rfl)); intro gb321 hg w6 hbox hb; have n0_ := Aside0.mk (blk_below (g := gb320) (o := .cells #[.int .i64 a0_0, .int .i64 a0_1] 40 (0, 0)) (by (with_reducible repeat (first | refine blk_drewN ?_ _ | refine blk_drew ?_ | refine blk_alloc ?_ _)); exact BK320.out) hb); have n1_ := Aside0.mk (below_step (by repeat (first | (with_reducible first | exact HB.out | apply bA | apply bN | apply bD | refine below_set ?_ GE320.out) | exact HB.out)) hb); have n2_ := Aside0.mk (hbox); have n3_ := Aside0.mk ((by rw [hg]; exact (below_size (by repeat (first | (with_reducible first | exact HB.out | apply bA | apply bN | apply bD | refine below_set ?_ GE320.out) | exact HB.out))) : w.heap.size ≤ gb321)); have n4_ := Aside0.mk ((by rw [hg]; exact (below_size (by repeat (first | (with_reducible first | exact HB.out | apply bA | apply bN | apply bD | refine below_set ?_ GE320.out) | exact HB.out))) : w.heap.size ≤ gb321)); have n5_ := Aside0.mk ((by rw [hg]; exact Nat.ne_of_lt (blk_lt (g := gb320) (o := .cells #[.int .i64 a0_0, .int .i64 a0_1] 40 (0, 0)) (by (with_reducible repeat (first | refine blk_drewN ?_ _ | refine blk_drew ?_ | refine blk_alloc ?_ _)); exact BK320.out)) : gb320 ≠ gb321)); have n6_ := Aside0.mk ((by rw [hg]; exact Nat.ne_of_gt (blk_lt (g := gb320) (o := .cells #[.int .i64 a0_0, .int .i64 a0_1] 40 (0, 0)) (by (with_reducible repeat (first | refine blk_drewN ?_ _ | refine blk_drew ?_ | refine blk_alloc ?_ _)); exact BK320.out)) : gb321 ≠ gb320)); clear BK320; clear HB; have BK320 := n0_; have HB := n1_; have BK321 := n2_; have GW321 := n3_; have GE321 := n4_; have NB320_321 := n5_; have NB321_320 := n6_; clear n0_ n1_ n2_ n3_ n4_ n5_ n6_; clear hb hbox hg; have hnb7 := NB320_321.out; have hnc7 := NB321_320.out; have hcz8_0 : w6.cell? ⟨gb320, 0, none⟩ = some (.int .i64 a0_0) := (blk_cell BK320.out 0).trans rfl; have hcz8_1 : w6.cell? ⟨gb320, 1, none⟩ = some (.int .i64 a0_1) := (blk_cell BK320.out 1).trans rfl; have hfz8_0 := blk_frozen BK320.out 0; have hfz8_1 := blk_frozen BK320.out 1; have hcz9_0 : w6.cell? ⟨gb321, 0, none⟩ = some (.int .i64 a1_0) := (blk_cell BK321.out 0).trans rfl; have hcz9_1 : w6.cell? ⟨gb321, 1, none⟩ = some (.int .i64 a1_1) := (blk_cell BK321.out 1).trans rfl; have hfz9_0 := blk_frozen BK321.out 0; have hfz9_1 := blk_frozen BK321.out 1))
   go_ret
   exact ⟨by first | rfl | (simp [errW_none, errW_some] <;> rfl) | (simp [*, errW_none, errW_some] <;> rfl), by repeat (first | (with_reducible first | exact HB.out | apply bA | apply bN | apply bD | refine below_set ?_ GE320.out | refine below_set ?_ GE321.out) | exact HB.out)⟩
  ·rw [if_neg c4] at H
   have c4b0 : (a0_1 == a1_1) = false := beq_eq_false_iff_ne.mpr c4
   have c4b1 : (a0_1 != a1_1) = true := bne_iff_ne.mpr c4
   obtain rfl := Option.some.inj H
   go_enter Try.func33, Try.ntmps33
   go_wp2_with (first | ((with_reducible refine gate_dst (N := 2) rfl ?_); refine box_event ?hg (N := 2) ?hd (cs := #[.int .i64 a0_0, .int .i64 a0_1]) (t := 40) ?hr ?_; (case hd => rfl); (case hg => rfl); (case hr => first | (go_simp; done) | (go_simp; rfl)); intro gb320 hg w10 hbox hb; have n0_ := Aside0.mk (below_step (by repeat (with_reducible first | exact HB.out | apply bA | apply bN | apply bD)) hb); have n1_ := Aside0.mk (hbox); have n2_ := Aside0.mk ((by rw [hg]; exact (below_size (by repeat (with_reducible first | exact HB.out | apply bA | apply bN | apply bD))) : w.heap.size ≤ gb320)); have n3_ := Aside0.mk ((by rw [hg]; exact (below_size (by repeat (with_reducible first | exact HB.out | apply bA | apply bN | apply bD))) : w.heap.size ≤ gb320)); clear HB; have HB := n0_; have BK320 := n1_; have GW320 := n2_; have GE320 := n3_; clear n0_ n1_ n2_ n3_; clear hb hbox hg) | ((with_reducible refine gate_dst (N := 3) rfl ?_); refine box_event ?hg (N := 3) ?hd (cs := #[.int .i64 a1_0, .int .i64 a1_1]) (t := 40) ?hr ?_; (case hd => rfl); (case hg => rfl); (case hr => first | (go_simp; done) | (go_simp; rfl)); intro gb321 hg w11 hbox hb; have n0_ := Aside0.mk (blk_below (g := gb320) (o := .cells #[.int .i64 a0_0, .int .i64 a0_1] 40 (0, 0)) (by (with_reducible repeat (first | refine blk_drewN ?_ _ | refine blk_drew ?_ | refine blk_alloc ?_ _)); exact BK320.out) hb); have n1_ := Aside0.mk (below_step (by repeat (first | (with_reducible first | exact HB.out | apply bA | apply bN | apply bD | refine below_set ?_ GE320.out) | exact HB.out)) hb); have n2_ := Aside0.mk (hbox); have n3_ := Aside0.mk ((by rw [hg]; exact (below_size (by repeat (first | (with_reducible first | exact HB.out | apply bA | apply bN | apply bD | refine below_set ?_ GE320.out) | exact HB.out))) : w.heap.size ≤ gb321)); have n4_ := Aside0.mk ((by rw [hg]; exact (below_size (by repeat (first | (with_reducible first | exact HB.out | apply bA | apply bN | apply bD | refine below_set ?_ GE320.out) | exact HB.out))) : w.heap.size ≤ gb321)); have n5_ := Aside0.mk ((by rw [hg]; exact Nat.ne_of_lt (blk_lt (g := gb320) (o := .cells #[.int .i64 a0_0, .int .i64 a0_1] 40 (0, 0)) (by (with_reducible repeat (first | refine blk_drewN ?_ _ | refine blk_drew ?_ | refine blk_alloc ?_ _)); exact BK320.out)) : gb320 ≠ gb321)); have n6_ := Aside0.mk ((by rw [hg]; exact Nat.ne_of_gt (blk_lt (g := gb320) (o := .cells #[.int .i64 a0_0, .int .i64 a0_1] 40 (0, 0)) (by (with_reducible repeat (first | refine blk_drewN ?_ _ | refine blk_drew ?_ | refine blk_alloc ?_ _)); exact BK320.out)) : gb321 ≠ gb320)); clear BK320; clear HB; have BK320 := n0_; have HB := n1_; have BK321 := n2_; have GW321 := n3_; have GE321 := n4_; have NB320_321 := n5_; have NB321_320 := n6_; clear n0_ n1_ n2_ n3_ n4_ n5_ n6_; clear hb hbox hg; have hnb12 := NB320_321.out; have hnc12 := NB321_320.out; have hcz13_0 : w11.cell? ⟨gb320, 0, none⟩ = some (.int .i64 a0_0) := (blk_cell BK320.out 0).trans rfl; have hcz13_1 : w11.cell? ⟨gb320, 1, none⟩ = some (.int .i64 a0_1) := (blk_cell BK320.out 1).trans rfl; have hfz13_0 := blk_frozen BK320.out 0; have hfz13_1 := blk_frozen BK320.out 1; have hcz14_0 : w11.cell? ⟨gb321, 0, none⟩ = some (.int .i64 a1_0) := (blk_cell BK321.out 0).trans rfl; have hcz14_1 : w11.cell? ⟨gb321, 1, none⟩ = some (.int .i64 a1_1) := (blk_cell BK321.out 1).trans rfl; have hfz14_0 := blk_frozen BK321.out 0; have hfz14_1 := blk_frozen BK321.out 1))
   go_ret
   exact ⟨by first | rfl | (simp [errW_none, errW_some] <;> rfl) | (simp [*, errW_none, errW_some] <;> rfl), by repeat (first | (with_reducible first | exact HB.out | apply bA | apply bN | apply bD | refine below_set ?_ GE320.out | refine below_set ?_ GE321.out) | exact HB.out)⟩
 ·rw [if_neg c3] at H
  have c3b0 : (a0_0 == a1_0) = false := beq_eq_false_iff_ne.mpr c3
  have c3b1 : (a0_0 != a1_0) = true := bne_iff_ne.mpr c3
  obtain rfl := Option.some.inj H
  go_enter Try.func33, Try.ntmps33
  go_wp2_with (first | ((with_reducible refine gate_dst (N := 2) rfl ?_); refine box_event ?hg (N := 2) ?hd (cs := #[.int .i64 a0_0, .int .i64 a0_1]) (t := 40) ?hr ?_; (case hd => rfl); (case hg => rfl); (case hr => first | (go_simp; done) | (go_simp; rfl)); intro gb320 hg w15 hbox hb; have n0_ := Aside0.mk (below_step (by repeat (with_reducible first | exact HB.out | apply bA | apply bN | apply bD)) hb); have n1_ := Aside0.mk (hbox); have n2_ := Aside0.mk ((by rw [hg]; exact (below_size (by repeat (with_reducible first | exact HB.out | apply bA | apply bN | apply bD))) : w.heap.size ≤ gb320)); have n3_ := Aside0.mk ((by rw [hg]; exact (below_size (by repeat (with_reducible first | exact HB.out | apply bA | apply bN | apply bD))) : w.heap.size ≤ gb320)); clear HB; have HB := n0_; have BK320 := n1_; have GW320 := n2_; have GE320 := n3_; clear n0_ n1_ n2_ n3_; clear hb hbox hg) | ((with_reducible refine gate_dst (N := 3) rfl ?_); refine box_event ?hg (N := 3) ?hd (cs := #[.int .i64 a1_0, .int .i64 a1_1]) (t := 40) ?hr ?_; (case hd => rfl); (case hg => rfl); (case hr => first | (go_simp; done) | (go_simp; rfl)); intro gb321 hg w16 hbox hb; have n0_ := Aside0.mk (blk_below (g := gb320) (o := .cells #[.int .i64 a0_0, .int .i64 a0_1] 40 (0, 0)) (by (with_reducible repeat (first | refine blk_drewN ?_ _ | refine blk_drew ?_ | refine blk_alloc ?_ _)); exact BK320.out) hb); have n1_ := Aside0.mk (below_step (by repeat (first | (with_reducible first | exact HB.out | apply bA | apply bN | apply bD | refine below_set ?_ GE320.out) | exact HB.out)) hb); have n2_ := Aside0.mk (hbox); have n3_ := Aside0.mk ((by rw [hg]; exact (below_size (by repeat (first | (with_reducible first | exact HB.out | apply bA | apply bN | apply bD | refine below_set ?_ GE320.out) | exact HB.out))) : w.heap.size ≤ gb321)); have n4_ := Aside0.mk ((by rw [hg]; exact (below_size (by repeat (first | (with_reducible first | exact HB.out | apply bA | apply bN | apply bD | refine below_set ?_ GE320.out) | exact HB.out))) : w.heap.size ≤ gb321)); have n5_ := Aside0.mk ((by rw [hg]; exact Nat.ne_of_lt (blk_lt (g := gb320) (o := .cells #[.int .i64 a0_0, .int .i64 a0_1] 40 (0, 0)) (by (with_reducible repeat (first | refine blk_drewN ?_ _ | refine blk_drew ?_ | refine blk_alloc ?_ _)); exact BK320.out)) : gb320 ≠ gb321)); have n6_ := Aside0.mk ((by rw [hg]; exact Nat.ne_of_gt (blk_lt (g := gb320) (o := .cells #[.int .i64 a0_0, .int .i64 a0_1] 40 (0, 0)) (by (with_reducible repeat (first | refine blk_drewN ?_ _ | refine blk_drew ?_ | refine blk_alloc ?_ _)); exact BK320.out)) : gb321 ≠ gb320)); clear BK320; clear HB; have BK320 := n0_; have HB := n1_; have BK321 := n2_; have GW321 := n3_; have GE321 := n4_; have NB320_321 := n5_; have NB321_320 := n6_; clear n0_ n1_ n2_ n3_ n4_ n5_ n6_; clear hb hbox hg; have hnb17 := NB320_321.out; have hnc17 := NB321_320.out; have hcz18_0 : w16.cell? ⟨gb320, 0, none⟩ = some (.int .i64 a0_0) := (blk_cell BK320.out 0).trans rfl; have hcz18_1 : w16.cell? ⟨gb320, 1, none⟩ = some (.int .i64 a0_1) := (blk_cell BK320.out 1).trans rfl; have hfz18_0 := blk_frozen BK320.out 0; have hfz18_1 := blk_frozen BK320.out 1; have hcz19_0 : w16.cell? ⟨gb321, 0, none⟩ = some (.int .i64 a1_0) := (blk_cell BK321.out 0).trans rfl; have hcz19_1 : w16.cell? ⟨gb321, 1, none⟩ = some (.int .i64 a1_1) := (blk_cell BK321.out 1).trans rfl; have hfz19_0 := blk_frozen BK321.out 0; have hfz19_1 := blk_frozen BK321.out 1))
  go_ret
  exact ⟨by first | rfl | (simp [errW_none, errW_some] <;> rfl) | (simp [*, errW_none, errW_some] <;> rfl), by repeat (first | (with_reducible first | exact HB.out | apply bA | apply bN | apply bD | refine below_set ?_ GE320.out | refine below_set ?_ GE321.out) | exact HB.out)⟩
end Go.Proofs.Ytadenfniiihifaa.QFnExactSameRectangle
