/- What each Go function of this text answers, as a plain function, and that the machine comes to just that answer. -/
import Derived.Test.YtadenfniiihifaaQFnExactMeasuresOfx0
import Derived.Test.YtadenfniiihifaaQFnExactMeasuresOfx1
import Derived.Test.YtadenfniiihifaaQFnExactMeasuresOfx2
import Derived.Test.YtadenfniiihifaaQFnExactMeasuresOfx3
namespace Go.Proofs.Ytadenfniiihifaa.QFnExactMeasuresOf
open Go.RowKit Go.Proofs.YtadenfniiihifaaW.PrintWords Go.Proofs.YtadenfniiihifaaW.PrintLast Go.Proofs.YtadenfniiihifaaW.PrintMore
attribute [local go_sem] max2_int min2_int max_two min_two max_three min_three max_four min_four   -- for this text's walks alone
set_option linter.unusedVariables false
set_option linter.unusedSimpArgs false
attribute [local go_sem high] eqA40
mutual
def spec_PolygonOk.l0:Nat→List (S40)→List (S40)→Int→Int→Option (Bool)
 | 0,_,_,_,_=>none
 | k+1,x0,x14,x15,x16=>if x16 < x15 then (if 0≤x16 then (if x16 < (x14.length:Int) then ((spec_PointOk.f ((rd_T40 x14 x16).f0) ((rd_T40 x14 x16).f1)).bind fun t150=>(if t150=true then (spec_PolygonOk.l0 k x0 x14 x15 (wrap64 (x16+1))) else (some false))) else (none)) else (none)) else (spec_PolygonOk.l1 k x0 (x0.length:Int) (x0.length:Int) 0)
def spec_PolygonOk.l1:Nat→List (S40)→Int→Int→Int→Option (Bool)
 | 0,_,_,_,_=>none
 | k+1,x0,x5,x27,x28=>if x28 < x27 then (if 0≤x28 then (if x28 < (x0.length:Int) then (if x5=0 then (none) else (if 0≤(Int.tmod (wrap64 (x28+1)) x5) then (if (Int.tmod (wrap64 (x28+1)) x5) < (x0.length:Int) then (if (((rd_T40 x0 x28).f0) == ((rd_T40 x0 (Int.tmod (wrap64 (x28+1)) x5)).f0) && (((rd_T40 x0 x28).f1) == ((rd_T40 x0 (Int.tmod (wrap64 (x28+1)) x5)).f1)))=true then (some false) else (spec_PolygonOk.l1 k x0 x5 x27 (wrap64 (x28+1)))) else (none)) else (none))) else (none)) else (none)) else (spec_PolygonOk.l2 k x0 x5 (x0.length:Int) 0)
def spec_PolygonOk.l2:Nat→List (S40)→Int→Int→Int→Option (Bool)
 | 0,_,_,_,_=>none
 | k+1,x0,x5,x45,x46=>if x46 < x45 then (spec_PolygonOk.l3 k x0 x5 x46 (wrap64 (x46+1)) x45 x46) else (some true)
def spec_PolygonOk.l3:Nat→List (S40)→Int→Int→Int→Int→Int→Option (Bool)
 | 0,_,_,_,_,_,_=>none
 | k+1,x0,x5,x7,x8,x45,x46=>if x8 < x5 then (if 0≤x7 then (if x7 < (x0.length:Int) then (if x5=0 then (none) else (if 0≤(Int.tmod (wrap64 (x7+1)) x5) then (if (Int.tmod (wrap64 (x7+1)) x5) < (x0.length:Int) then (if 0≤x8 then (if x8 < (x0.length:Int) then (if 0≤(Int.tmod (wrap64 (x8+1)) x5) then (if (Int.tmod (wrap64 (x8+1)) x5) < (x0.length:Int) then ((spec_l02Meet.f k ((rd_T40 x0 x7).f0) ((rd_T40 x0 x7).f1) ((rd_T40 x0 (Int.tmod (wrap64 (x7+1)) x5)).f0) ((rd_T40 x0 (Int.tmod (wrap64 (x7+1)) x5)).f1) ((rd_T40 x0 x8).f0) ((rd_T40 x0 x8).f1) ((rd_T40 x0 (Int.tmod (wrap64 (x8+1)) x5)).f0) ((rd_T40 x0 (Int.tmod (wrap64 (x8+1)) x5)).f1)).bind fun t157=>(if x8=(wrap64 (x7+1)) then (spec_PolygonOk.j4 k x0 x5 x7 x8 t157 x45 x46 true) else (if x7=0 then (spec_PolygonOk.j4 k x0 x5 x7 x8 t157 x45 x46 (x8 == (wrap64 (x5 - 1)))) else (spec_PolygonOk.j4 k x0 x5 x7 x8 t157 x45 x46 false)))) else (none)) else (none)) else (none)) else (none)) else (none)) else (none))) else (none)) else (none)) else (spec_PolygonOk.l2 k x0 x5 x45 (wrap64 (x46+1)))
def spec_PolygonOk.j4:Nat→List (S40)→Int→Int→Int→Int→Int→Int→Bool→Option (Bool)
 | 0,_,_,_,_,_,_,_,_=>none
 | k+1,x0,x5,x7,x8,x9,x45,x46,x92=>if x92=true then (if x9=1 then (spec_PolygonOk.l3 k x0 x5 x7 (wrap64 (x8+1)) x45 x46) else (some false)) else (if x9=0 then (spec_PolygonOk.l3 k x0 x5 x7 (wrap64 (x8+1)) x45 x46) else (some false))
end
def spec_PolygonOk.f (k:Nat) (l0:List (S40)):Option (Bool):=(spec_l01In.f (l0.length:Int) 3 10).bind fun t147=>(if t147=true then (spec_PolygonOk.l0 k l0 l0 (l0.length:Int) 0) else (some false))
theorem spec_PolygonOk.mono_l:∀ k,(∀ y0 y1 y2 y3,LeO (spec_PolygonOk.l0 k y0 y1 y2 y3) (spec_PolygonOk.l0 (k+1) y0 y1 y2 y3))∧(∀ y0 y1 y2 y3,LeO (spec_PolygonOk.l1 k y0 y1 y2 y3) (spec_PolygonOk.l1 (k+1) y0 y1 y2 y3))∧(∀ y0 y1 y2 y3,LeO (spec_PolygonOk.l2 k y0 y1 y2 y3) (spec_PolygonOk.l2 (k+1) y0 y1 y2 y3))∧(∀ y0 y1 y2 y3 y4 y5,LeO (spec_PolygonOk.l3 k y0 y1 y2 y3 y4 y5) (spec_PolygonOk.l3 (k+1) y0 y1 y2 y3 y4 y5))∧(∀ y0 y1 y2 y3 y4 y5 y6 y7,LeO (spec_PolygonOk.j4 k y0 y1 y2 y3 y4 y5 y6 y7) (spec_PolygonOk.j4 (k+1) y0 y1 y2 y3 y4 y5 y6 y7))
 | 0=>⟨fun _ _ _ _ r h=>by simp [spec_PolygonOk.l0] at h,fun _ _ _ _ r h=>by simp [spec_PolygonOk.l1] at h,fun _ _ _ _ r h=>by simp [spec_PolygonOk.l2] at h,fun _ _ _ _ _ _ r h=>by simp [spec_PolygonOk.l3] at h,fun _ _ _ _ _ _ _ _ r h=>by simp [spec_PolygonOk.j4] at h⟩
 | k+1=>by
  obtain ⟨ih0,ih1,ih2,ih3,ih4⟩:=spec_PolygonOk.mono_l k
  refine ⟨?_,?_,?_,?_,?_⟩
  ·intro y0 y1 y2 y3
   unfold spec_PolygonOk.l0
   repeat' first
   | (with_reducible exact LeO.refl _)
   | exact ih0 _ _ _ _
   | exact ih1 _ _ _ _
   | exact ih2 _ _ _ _
   | exact ih3 _ _ _ _ _ _
   | exact ih4 _ _ _ _ _ _ _ _
   | exact spec_l02Meet.mono _ _ _ _ _ _ _ _ _
   | exact LeO.none _
   | refine LeO.ite ?_ ?_
   | refine LeO.bind ?_ (fun _=>?_)
  ·intro y0 y1 y2 y3
   unfold spec_PolygonOk.l1
   repeat' first
   | (with_reducible exact LeO.refl _)
   | exact ih0 _ _ _ _
   | exact ih1 _ _ _ _
   | exact ih2 _ _ _ _
   | exact ih3 _ _ _ _ _ _
   | exact ih4 _ _ _ _ _ _ _ _
   | exact spec_l02Meet.mono _ _ _ _ _ _ _ _ _
   | exact LeO.none _
   | refine LeO.ite ?_ ?_
   | refine LeO.bind ?_ (fun _=>?_)
  ·intro y0 y1 y2 y3
   unfold spec_PolygonOk.l2
   repeat' first
   | (with_reducible exact LeO.refl _)
   | exact ih0 _ _ _ _
   | exact ih1 _ _ _ _
   | exact ih2 _ _ _ _
   | exact ih3 _ _ _ _ _ _
   | exact ih4 _ _ _ _ _ _ _ _
   | exact spec_l02Meet.mono _ _ _ _ _ _ _ _ _
   | exact LeO.none _
   | refine LeO.ite ?_ ?_
   | refine LeO.bind ?_ (fun _=>?_)
  ·intro y0 y1 y2 y3 y4 y5
   unfold spec_PolygonOk.l3
   repeat' first
   | (with_reducible exact LeO.refl _)
   | exact ih0 _ _ _ _
   | exact ih1 _ _ _ _
   | exact ih2 _ _ _ _
   | exact ih3 _ _ _ _ _ _
   | exact ih4 _ _ _ _ _ _ _ _
   | exact spec_l02Meet.mono _ _ _ _ _ _ _ _ _
   | exact LeO.none _
   | refine LeO.ite ?_ ?_
   | refine LeO.bind ?_ (fun _=>?_)
  ·intro y0 y1 y2 y3 y4 y5 y6 y7
   unfold spec_PolygonOk.j4
   repeat' first
   | (with_reducible exact LeO.refl _)
   | exact ih0 _ _ _ _
   | exact ih1 _ _ _ _
   | exact ih2 _ _ _ _
   | exact ih3 _ _ _ _ _ _
   | exact ih4 _ _ _ _ _ _ _ _
   | exact spec_l02Meet.mono _ _ _ _ _ _ _ _ _
   | exact LeO.none _
   | refine LeO.ite ?_ ?_
   | refine LeO.bind ?_ (fun _=>?_)
theorem spec_PolygonOk.mono:∀ a0 k,LeO (spec_PolygonOk.f k a0) (spec_PolygonOk.f (k+1) a0):=by
 intro a0 k
 obtain ⟨ih0,ih1,ih2,ih3,ih4⟩:=spec_PolygonOk.mono_l k
 unfold spec_PolygonOk.f
 repeat' first
  | (with_reducible exact LeO.refl _)
  | exact ih0 _ _ _ _
  | exact ih1 _ _ _ _
  | exact ih2 _ _ _ _
  | exact ih3 _ _ _ _ _ _
  | exact ih4 _ _ _ _ _ _ _ _
  | exact spec_l02Meet.mono _ _ _ _ _ _ _ _ _
  | exact LeO.none _
  | refine LeO.ite ?_ ?_
  | refine LeO.bind ?_ (fun _=>?_)
def spec_PolygonOk.T13:Bool × List (List Nat × List Nat):=(true,[([],[]),([],[]),([0,1],[0,1]),([2],[2]),([],[]),([],[]),([5],[5]),([],[]),([6,7],[6,7]),([4,8],[4,8]),([9],[9]),([3,10],[3,10])])
def spec_PolygonOk.B13:List Nat:=[0,0,3,7,0,0,32,0,224,496,1008,2047]
theorem spec_PolygonOk.tab13:rtab .any (opsOf Try.f34 13)=spec_PolygonOk.T13:=by kernel_rfl
theorem spec_PolygonOk.bits13:waitsOk spec_PolygonOk.T13.2 spec_PolygonOk.B13=true:=by kernel_rfl
def spec_PolygonOk.T22:Bool × List (List Nat × List Nat):=(true,[([],[]),([],[]),([0,1],[0,1]),([2],[2]),([],[]),([],[]),([5],[5]),([],[]),([6,7],[6,7]),([4,8],[4,8]),([9],[9]),([],[]),([],[]),([11,12],[11,12]),([13],[13]),([],[]),([],[]),([16],[16]),([],[]),([17,18],[17,18]),([15,19],[15,19]),([20],[20]),([3,10,14,21],[3,10,14,21]),([22,22,0,1,2,3,4,5,6,7,8,9,10,11,12,13,14,15,16,17,18,19,20,21,22],[22])])
def spec_PolygonOk.B22:List Nat:=[0,0,3,7,0,0,32,0,224,496,1008,0,0,6144,14336,0,0,65536,0,458752,1015808,2064384,4194303,8388607]
theorem spec_PolygonOk.tab22:rtab .any (opsOf Try.f34 22)=spec_PolygonOk.T22:=by kernel_rfl
theorem spec_PolygonOk.bits22:waitsOk spec_PolygonOk.T22.2 spec_PolygonOk.B22=true:=by kernel_rfl
set_option maxHeartbeats 8000000 in
set_option maxRecDepth 100000 in
theorem spec_PolygonOk.calls (k:Nat) (A0:Option Addr) (c0:Nat) (l0:List (S40)) (r:Bool) (w:World) (hr0:Kd.C k40 w A0 l0.length l0) (hc0:l0.length≤c0) (h:spec_PolygonOk.f k l0=some r) :
 Calls Try.prog 34 #[.slice A0 l0.length c0] w fun e w'=>e=.returned (.bool r)∧Below w.heap.size w w':=by
 have hu40:=Try.underlying40
 have HR0:=Aside0.mk hr0
 have HC0:=Aside0.mk hc0
 clear hr0 hc0
 have HB:=Aside0.mk (Below.refl w.heap.size w)
 have H:((spec_l01In.f (l0.length:Int) 3 10).bind fun t147=>(if t147=true then (spec_PolygonOk.l0 k l0 l0 (l0.length:Int) 0) else (some false)))=some r:=h
 clear h
 replace H:=Option.bind_eq_some_iff.mp H
 obtain ⟨t147,A20,H⟩:=H
 have A2:=Aside0.mk A20
 clear A20
 by_cases c3:t147=true
 ·subst c3
  rw [if_pos rfl] at H
  have H':=Aside0.mk H
  clear H
  go_enter Try.func34,Try.ntmps34
  go_wp2_with (first|((with_reducible refine gate_callee (f:=54) rfl ?_);refine goesL_ (some 12) rfl rfl Try.func54 (by kernel_rfl) rfl #[.int .i64 (l0.length:Int),.int .i64 3,.int .i64 10] rfl (by (try simp only [List.map_toArray,List.map_cons,List.map_nil]);first|done|rfl) ?_;(with_reducible refine (spec_l01In.calls (l0.length:Int) 3 10 true _ A2.out).mono ?_);rintro e w' ⟨rfl,⟨nd,rfl⟩⟩;refine ⟨_,rfl,?_⟩))
  go_loopg [16] k (fun kq v16 w'=>∃ (x16_1:Int),v16=.int .i64 x16_1∧Aside0 (spec_PolygonOk.l0 kq l0 l0 (l0.length:Int) x16_1=some r)∧Aside0 (kq≤k)∧Aside0 (Below w.heap.size w w'))
  case atStart=>exact ⟨(0),(by first|rfl|(simp;done)|(simp [*];done)),H',⟨Nat.le_refl _⟩,⟨by repeat (with_reducible first|exact HB.out|apply bA|apply bN|apply bD)⟩⟩
  case round =>
   clear H'
   obtain ⟨x16_1,rfl,HA,HK1,HB⟩:=hrel
   rcases gk with _|k1
   ·exact absurd HA.out (by simp [spec_PolygonOk.l0])
   have H:=HA.out
   clear HA
   simp only [spec_PolygonOk.l0] at H
   by_cases c4:x16_1 < (l0.length:Int)
   ·rw [if_pos c4] at H
    have c4b0:decide (x16_1 < (l0.length:Int))=true:=decide_eq_true c4
    clear c4
    by_cases c5:0≤x16_1
    rotate_left;·rw [if_neg c5] at H;exact absurd H (by simp)
    rw [if_pos c5] at H
    have c5b0:decide (0≤x16_1)=true:=decide_eq_true c5
    clear c5
    by_cases c6:x16_1 < (l0.length:Int)
    rotate_left;·rw [if_neg c6] at H;exact absurd H (by simp)
    rw [if_pos c6] at H
    have c6b0:decide (x16_1 < (l0.length:Int))=true:=decide_eq_true c6
    clear c6
    replace H:=Option.bind_eq_some_iff.mp H
    obtain ⟨t150,A70,H⟩:=H
    have A7:=Aside0.mk A70
    clear A70
    by_cases c8:t150=true
    ·subst c8
     rw [if_pos rfl] at H
     have H':=Aside0.mk H
     clear H
     have p148:0≤(x16_1:Int):=of_decide_eq_true (by assumption)
     have q148:x16_1 < (l0.length:Int):=of_decide_eq_true (by assumption)
     obtain ⟨ad148,e148,hx148_0,hx148_1⟩:=at_T40 HR0.out x16_1 p148 q148
     cases e148
     replace hx148_0:=cK HB.out hx148_0
     replace hx148_1:=cK HB.out hx148_1
     replace p148:=eq_true p148
     replace q148:=eq_true q148
     go_wp2_with (first|((with_reducible refine gate_dst (N:=4) rfl ?_);refine bE 4 #[.int .i64 0,.int .i64 0] 40 ?_;intro gb149 hg w9 hbox hb;have n0_:=Aside0.mk (below_step (by repeat (with_reducible first|exact HB.out|apply bA|apply bN|apply bD)) hb);have n1_:=Aside0.mk (hbox);have n2_:=Aside0.mk ((by rw [hg];exact (below_size (by repeat (with_reducible first|exact HB.out|apply bA|apply bN|apply bD))):w.heap.size≤gb149));have n3_:=Aside0.mk ((by rw [hg];exact (below_size (by repeat (with_reducible first|exact HB.out|apply bA|apply bN|apply bD))):w.heap.size≤gb149));clear HB;have HB:=n0_;have BK149:=n1_;have GW149:=n2_;have GE149:=n3_;clear n0_ n1_ n2_ n3_;clear hb hbox hg;have hcz10_0:w9.cell? ⟨gb149,0,none⟩=some (.int .i64 0):=(blk_cell BK149.out 0).trans rfl;have hcz10_1:w9.cell? ⟨gb149,1,none⟩=some (.int .i64 0):=(blk_cell BK149.out 1).trans rfl;have hfz10_0:=blk_frozen BK149.out 0;have hfz10_1:=blk_frozen BK149.out 1)|((with_reducible refine gate_callee (f:=60) rfl ?_);refine goesL_ (some 21) rfl rfl Try.func60 (by kernel_rfl) rfl #[.agg #[.int .i64 ((rd_T40 l0 x16_1).f0),.int .i64 ((rd_T40 l0 x16_1).f1)]] rfl (by (try simp only [List.map_toArray,List.map_cons,List.map_nil]);first|done|rfl) ?_;(with_reducible refine (spec_PointOk.calls ((rd_T40 l0 x16_1).f0) ((rd_T40 l0 x16_1).f1) true _ A7.out).mono ?_);rintro e w11 ⟨rfl,hb⟩;refine ⟨_,rfl,?_⟩;have n0_:=Aside0.mk (blk_below (g:=gb149) (o:=.cells #[.int .i64 ((rd_T40 l0 x16_1).f0),.int .i64 ((rd_T40 l0 x16_1).f1)] 40 (0,0)) (by (with_reducible repeat (first|refine kN ?_ _|refine kD ?_|refine kA ?_ _));refine blk_put (cs:=#[.int .i64 ((rd_T40 l0 x16_1).f0),.int .i64 0]) ?_ 1 _ rfl;(with_reducible repeat (first|refine kN ?_ _|refine kD ?_|refine kA ?_ _));refine blk_put (cs:=#[.int .i64 0,.int .i64 0]) ?_ 0 _ rfl;(with_reducible repeat (first|refine kN ?_ _|refine kD ?_|refine kA ?_ _));exact BK149.out) hb);have n1_:=Aside0.mk (below_step (by repeat (first|(with_reducible first|exact HB.out|apply bA|apply bN|apply bD|refine bS ?_ GE149.out)|exact HB.out)) hb);clear BK149;clear HB;have BK149:=n0_;have HB:=n1_;clear n0_ n1_;(try clear hb)))
     go_roundg k1
     case measure=>have:=HK1.out;omega
     case rel=>exact ⟨(wrap64 (x16_1+1)),(by first|rfl|(simp;done)|(simp [*];done)),H',⟨by have:=HK1.out;omega⟩,⟨by repeat (first|(with_reducible first|exact HB.out|apply bA|apply bN|apply bD|refine bS ?_ GE149.out)|exact HB.out)⟩⟩
    ·replace c8:=Bool.eq_false_iff.mpr c8
     subst c8
     rw [if_neg (show ¬ (false=true) by decide)] at H
     obtain rfl:=Option.some.inj H
     have p148:0≤(x16_1:Int):=of_decide_eq_true (by assumption)
     have q148:x16_1 < (l0.length:Int):=of_decide_eq_true (by assumption)
     obtain ⟨ad148,e148,hx148_0,hx148_1⟩:=at_T40 HR0.out x16_1 p148 q148
     cases e148
     replace hx148_0:=cK HB.out hx148_0
     replace hx148_1:=cK HB.out hx148_1
     replace p148:=eq_true p148
     replace q148:=eq_true q148
     go_wp2_with (first|((with_reducible refine gate_dst (N:=4) rfl ?_);refine bE 4 #[.int .i64 0,.int .i64 0] 40 ?_;intro gb149 hg w12 hbox hb;have n0_:=Aside0.mk (below_step (by repeat (with_reducible first|exact HB.out|apply bA|apply bN|apply bD)) hb);have n1_:=Aside0.mk (hbox);have n2_:=Aside0.mk ((by rw [hg];exact (below_size (by repeat (with_reducible first|exact HB.out|apply bA|apply bN|apply bD))):w.heap.size≤gb149));have n3_:=Aside0.mk ((by rw [hg];exact (below_size (by repeat (with_reducible first|exact HB.out|apply bA|apply bN|apply bD))):w.heap.size≤gb149));clear HB;have HB:=n0_;have BK149:=n1_;have GW149:=n2_;have GE149:=n3_;clear n0_ n1_ n2_ n3_;clear hb hbox hg;have hcz13_0:w12.cell? ⟨gb149,0,none⟩=some (.int .i64 0):=(blk_cell BK149.out 0).trans rfl;have hcz13_1:w12.cell? ⟨gb149,1,none⟩=some (.int .i64 0):=(blk_cell BK149.out 1).trans rfl;have hfz13_0:=blk_frozen BK149.out 0;have hfz13_1:=blk_frozen BK149.out 1)|((with_reducible refine gate_callee (f:=60) rfl ?_);refine goesL_ (some 21) rfl rfl Try.func60 (by kernel_rfl) rfl #[.agg #[.int .i64 ((rd_T40 l0 x16_1).f0),.int .i64 ((rd_T40 l0 x16_1).f1)]] rfl (by (try simp only [List.map_toArray,List.map_cons,List.map_nil]);first|done|rfl) ?_;(with_reducible refine (spec_PointOk.calls ((rd_T40 l0 x16_1).f0) ((rd_T40 l0 x16_1).f1) false _ A7.out).mono ?_);rintro e w14 ⟨rfl,hb⟩;refine ⟨_,rfl,?_⟩;have n0_:=Aside0.mk (blk_below (g:=gb149) (o:=.cells #[.int .i64 ((rd_T40 l0 x16_1).f0),.int .i64 ((rd_T40 l0 x16_1).f1)] 40 (0,0)) (by (with_reducible repeat (first|refine kN ?_ _|refine kD ?_|refine kA ?_ _));refine blk_put (cs:=#[.int .i64 ((rd_T40 l0 x16_1).f0),.int .i64 0]) ?_ 1 _ rfl;(with_reducible repeat (first|refine kN ?_ _|refine kD ?_|refine kA ?_ _));refine blk_put (cs:=#[.int .i64 0,.int .i64 0]) ?_ 0 _ rfl;(with_reducible repeat (first|refine kN ?_ _|refine kD ?_|refine kA ?_ _));exact BK149.out) hb);have n1_:=Aside0.mk (below_step (by repeat (first|(with_reducible first|exact HB.out|apply bA|apply bN|apply bD|refine bS ?_ GE149.out)|exact HB.out)) hb);clear BK149;clear HB;have BK149:=n0_;have HB:=n1_;clear n0_ n1_;(try clear hb)))
     go_ret
     exact ⟨by first|rfl|(simp [errW_none,errW_some] <;> rfl)|(simp [*,errW_none,errW_some] <;> rfl),by repeat (first|(with_reducible first|exact HB.out|apply bA|apply bN|apply bD|refine bS ?_ GE149.out)|exact HB.out)⟩
   ·rw [if_neg c4] at H
    have c4b0:decide (x16_1 < (l0.length:Int))=false:=decide_eq_false c4
    clear c4
    have H':=Aside0.mk H
    clear H
    go_wp2
    go_loopg [28] k1 (fun kq v28 w'=>∃ (x28_2:Int),v28=.int .i64 x28_2∧Aside0 (spec_PolygonOk.l1 kq l0 (l0.length:Int) (l0.length:Int) x28_2=some r)∧Aside0 (kq≤k1)∧Aside0 (Below w.heap.size w w'))
    case atStart=>exact ⟨(0),(by first|rfl|(simp;done)|(simp [*];done)),H',⟨Nat.le_refl _⟩,⟨by repeat (with_reducible first|exact HB.out|apply bA|apply bN|apply bD)⟩⟩
    case round =>
     clear H'
     obtain ⟨x28_2,rfl,HA,HK2,HB⟩:=hrel
     rcases gk with _|k2
     ·exact absurd HA.out (by simp [spec_PolygonOk.l1])
     have H:=HA.out
     clear HA
     simp only [spec_PolygonOk.l1] at H
     by_cases c15:x28_2 < (l0.length:Int)
     ·rw [if_pos c15] at H
      have c15b0:decide (x28_2 < (l0.length:Int))=true:=decide_eq_true c15
      clear c15
      by_cases c16:0≤x28_2
      rotate_left;·rw [if_neg c16] at H;exact absurd H (by simp)
      rw [if_pos c16] at H
      have c16b0:decide (0≤x28_2)=true:=decide_eq_true c16
      clear c16
      by_cases c17:x28_2 < (l0.length:Int)
      rotate_left;·rw [if_neg c17] at H;exact absurd H (by simp)
      rw [if_pos c17] at H
      have c17b0:decide (x28_2 < (l0.length:Int))=true:=decide_eq_true c17
      clear c17
      by_cases c18:(l0.length:Int)=0
      ·rw [if_pos c18] at H
       exact absurd H (by simp)
      ·rw [if_neg c18] at H
       have c18b0:((l0.length:Int) == 0)=false:=beq_eq_false_iff_ne.mpr c18
       have c18b1:((l0.length:Int) != 0)=true:=bne_iff_ne.mpr c18
       have c18b2:¬ (l0 = []):=fun h_=>c18 (by rw [h_];rfl)
       obtain ⟨ji19,hji19⟩ : ∃ j_:Int,(Int.tmod (wrap64 (x28_2+1)) (l0.length:Int))=j_:=⟨_,rfl⟩
       replace H:(if 0≤(ji19) then (if (ji19) < (l0.length:Int) then (if (((rd_T40 l0 x28_2).f0) == ((rd_T40 l0 (ji19)).f0) && (((rd_T40 l0 x28_2).f1) == ((rd_T40 l0 (ji19)).f1)))=true then (some false) else (spec_PolygonOk.l1 k2 l0 (l0.length:Int) (l0.length:Int) (wrap64 (x28_2+1)))) else (none)) else (none))=some r:=by first|(rw [hji19] at H;exact H)|(simp only [hji19] at H ⊢;exact H)
       by_cases c20:0≤(ji19)
       rotate_left;·rw [if_neg c20] at H;exact absurd H (by simp)
       rw [if_pos c20] at H
       have c20b0:decide (0≤(ji19))=true:=decide_eq_true c20
       clear c20
       by_cases c21:(ji19) < (l0.length:Int)
       rotate_left;·rw [if_neg c21] at H;exact absurd H (by simp)
       rw [if_pos c21] at H
       have c21b0:decide ((ji19) < (l0.length:Int))=true:=decide_eq_true c21
       clear c21
       by_cases c22:(((rd_T40 l0 x28_2).f0) == ((rd_T40 l0 (ji19)).f0) && (((rd_T40 l0 x28_2).f1) == ((rd_T40 l0 (ji19)).f1)))=true
       ·rw [if_pos c22] at H
        have c22b0:(((rd_T40 l0 x28_2).f0) == ((rd_T40 l0 (ji19)).f0) && (((rd_T40 l0 x28_2).f1) == ((rd_T40 l0 (ji19)).f1)))=true:=c22
        (try (have c22b1:decide (((rd_T40 l0 x28_2).f0)=((rd_T40 l0 (ji19)).f0) && (((rd_T40 l0 x28_2).f1) == ((rd_T40 l0 (ji19)).f1)))=true:=by simpa using c22))
        (try (have c22b2:(((rd_T40 l0 x28_2).f0) == ((rd_T40 l0 (ji19)).f0) && (((rd_T40 l0 x28_2).f1) == ((rd_T40 l0 (ji19)).f1)))=true:=by simpa using c22))
        clear c22
        obtain rfl:=Option.some.inj H
        try go_wp2
        have n0_:=Aside0.mk (below_drew1 HB.out)
        clear HB
        have HB:=n0_
        clear n0_
        have p151:0≤(x28_2:Int):=of_decide_eq_true (by assumption)
        have q151:x28_2 < (l0.length:Int):=of_decide_eq_true (by assumption)
        obtain ⟨ad151,e151,hx151_0,hx151_1⟩:=at_T40 HR0.out x28_2 p151 q151
        have hw151_1:=hx151_1
        have hw151_0:=hx151_0
        cases e151
        replace hx151_0:=cK HB.out hx151_0
        replace hx151_1:=cK HB.out hx151_1
        replace p151:=eq_true p151
        replace q151:=eq_true q151
        have p152:0≤((ji19):Int):=of_decide_eq_true (by assumption)
        have q152:(ji19) < (l0.length:Int):=of_decide_eq_true (by assumption)
        obtain ⟨ad152,e152,hx152_0,hx152_1⟩:=at_T40 HR0.out (ji19) p152 q152
        have hw152_1:=hx152_1
        have hw152_0:=hx152_0
        obtain rfl:ad151=ad152:=(by injection e152)
        replace hx152_0:=cK HB.out hx152_0
        replace hx152_1:=cK HB.out hx152_1
        replace p152:=eq_true p152
        replace q152:=eq_true q152
        refine start_ (n:=12) (S:=fun w'=>w'.cell? (ad151.add ((x28_2).toNat * 2))=some (.int .i64 ((rd_T40 l0 x28_2).f0))∧w'.cell? ⟨(ad151.add ((x28_2).toNat * 2)).block,(ad151.add ((x28_2).toNat * 2)).off+1,none⟩=some (.int .i64 ((rd_T40 l0 x28_2).f1))∧w'.cell? (ad151.add (((ji19)).toNat * 2))=some (.int .i64 ((rd_T40 l0 (ji19)).f0))∧w'.cell? ⟨(ad151.add (((ji19)).toNat * 2)).block,(ad151.add (((ji19)).toNat * 2)).off+1,none⟩=some (.int .i64 ((rd_T40 l0 (ji19)).f1))) (ds:=[]) (bV 12 0) (by kernel_rfl) rfl rfl ⟨(cK HB.out hw151_0),(cK HB.out hw151_1),(cK HB.out hw152_0),(cK HB.out hw152_1)⟩ (fun hHeld=>?_);refine with_tabW spec_PolygonOk.tab13 spec_PolygonOk.bits13 (fun HT_ HW_=>?_)
        generalize wr.drew=w23 at HB hx151_0 hx151_1 hx152_0 hx152_1 hHeld ⊢
        refine pT 0 31 (bV 12 1) HT_.out ?_
        refine pT 1 32 (bV 12 3) HT_.out ?_
        refine pT 2 33 (bV 12 7) HT_.out ?_
        refine pT 4 35 (bV 12 23) HT_.out ?_
        refine pT 5 36 (bV 12 55) HT_.out ?_
        refine pT 6 37 (bV 12 119) HT_.out ?_
        refine pT 7 38 (bV 12 247) HT_.out ?_
        refine pT 8 39 (bV 12 503) HT_.out ?_
        refine pT 9 40 (bV 12 1015) HT_.out ?_
        refine tI 3 34 (bV 12 1023) rfl (take_ofW HT_.out HW_.out (by kernel_rfl)) hHeld (by rintro w' ⟨s0,s1,s2,s3⟩;go_simp;with_reducible rfl) ?_
        refine tI 10 41 (bV 12 2047) rfl (take_ofW HT_.out HW_.out (by kernel_rfl)) hHeld (by rintro w' ⟨s0,s1,s2,s3⟩;go_simp;with_reducible rfl) ?_
        refine pT 11 42 (bV 12 4095) HT_.out ?_
        refine done_ (done_of HT_.out (by kernel_rfl)) ?_
        try go_wp2
        go_ret
        exact ⟨by first|rfl|(simp [errW_none,errW_some] <;> rfl)|(simp only [← hji19];first|rfl|(simp [errW_none,errW_some] <;> rfl))|(simp [*,errW_none,errW_some] <;> rfl),by repeat (with_reducible first|exact HB.out|apply bA|apply bN|apply bD)⟩
       ·rw [if_neg c22] at H
        have c22b0:(((rd_T40 l0 x28_2).f0) == ((rd_T40 l0 (ji19)).f0) && (((rd_T40 l0 x28_2).f1) == ((rd_T40 l0 (ji19)).f1)))=false:=by simpa using c22
        (try (have c22b1:decide (((rd_T40 l0 x28_2).f0)=((rd_T40 l0 (ji19)).f0) && (((rd_T40 l0 x28_2).f1) == ((rd_T40 l0 (ji19)).f1)))=false:=by simpa using c22))
        (try (have c22b2:(((rd_T40 l0 x28_2).f0) == ((rd_T40 l0 (ji19)).f0) && (((rd_T40 l0 x28_2).f1) == ((rd_T40 l0 (ji19)).f1)))=false:=by simpa using c22))
        (try (have c22b3:¬ (((rd_T40 l0 x28_2).f0)=((rd_T40 l0 (ji19)).f0) && (((rd_T40 l0 x28_2).f1) == ((rd_T40 l0 (ji19)).f1))):=by simpa using c22))
        clear c22
        have H':=Aside0.mk H
        clear H
        try go_wp2
        have n0_:=Aside0.mk (below_drew1 HB.out)
        clear HB
        have HB:=n0_
        clear n0_
        have p151:0≤(x28_2:Int):=of_decide_eq_true (by assumption)
        have q151:x28_2 < (l0.length:Int):=of_decide_eq_true (by assumption)
        obtain ⟨ad151,e151,hx151_0,hx151_1⟩:=at_T40 HR0.out x28_2 p151 q151
        have hw151_1:=hx151_1
        have hw151_0:=hx151_0
        cases e151
        replace hx151_0:=cK HB.out hx151_0
        replace hx151_1:=cK HB.out hx151_1
        replace p151:=eq_true p151
        replace q151:=eq_true q151
        have p152:0≤((ji19):Int):=of_decide_eq_true (by assumption)
        have q152:(ji19) < (l0.length:Int):=of_decide_eq_true (by assumption)
        obtain ⟨ad152,e152,hx152_0,hx152_1⟩:=at_T40 HR0.out (ji19) p152 q152
        have hw152_1:=hx152_1
        have hw152_0:=hx152_0
        obtain rfl:ad151=ad152:=(by injection e152)
        replace hx152_0:=cK HB.out hx152_0
        replace hx152_1:=cK HB.out hx152_1
        replace p152:=eq_true p152
        replace q152:=eq_true q152
        refine start_ (n:=12) (S:=fun w'=>w'.cell? (ad151.add ((x28_2).toNat * 2))=some (.int .i64 ((rd_T40 l0 x28_2).f0))∧w'.cell? ⟨(ad151.add ((x28_2).toNat * 2)).block,(ad151.add ((x28_2).toNat * 2)).off+1,none⟩=some (.int .i64 ((rd_T40 l0 x28_2).f1))∧w'.cell? (ad151.add (((ji19)).toNat * 2))=some (.int .i64 ((rd_T40 l0 (ji19)).f0))∧w'.cell? ⟨(ad151.add (((ji19)).toNat * 2)).block,(ad151.add (((ji19)).toNat * 2)).off+1,none⟩=some (.int .i64 ((rd_T40 l0 (ji19)).f1))) (ds:=[]) (bV 12 0) (by kernel_rfl) rfl rfl ⟨(cK HB.out hw151_0),(cK HB.out hw151_1),(cK HB.out hw152_0),(cK HB.out hw152_1)⟩ (fun hHeld=>?_);refine with_tabW spec_PolygonOk.tab13 spec_PolygonOk.bits13 (fun HT_ HW_=>?_)
        generalize wr.drew=w24 at HB hx151_0 hx151_1 hx152_0 hx152_1 hHeld ⊢
        refine pT 0 31 (bV 12 1) HT_.out ?_
        refine pT 1 32 (bV 12 3) HT_.out ?_
        refine pT 2 33 (bV 12 7) HT_.out ?_
        refine pT 4 35 (bV 12 23) HT_.out ?_
        refine pT 5 36 (bV 12 55) HT_.out ?_
        refine pT 6 37 (bV 12 119) HT_.out ?_
        refine pT 7 38 (bV 12 247) HT_.out ?_
        refine pT 8 39 (bV 12 503) HT_.out ?_
        refine pT 9 40 (bV 12 1015) HT_.out ?_
        refine tI 3 34 (bV 12 1023) rfl (take_ofW HT_.out HW_.out (by kernel_rfl)) hHeld (by rintro w' ⟨s0,s1,s2,s3⟩;go_simp;with_reducible rfl) ?_
        refine tI 10 41 (bV 12 2047) rfl (take_ofW HT_.out HW_.out (by kernel_rfl)) hHeld (by rintro w' ⟨s0,s1,s2,s3⟩;go_simp;with_reducible rfl) ?_
        refine pT 11 42 (bV 12 4095) HT_.out ?_
        refine done_ (done_of HT_.out (by kernel_rfl)) ?_
        try go_wp2
        go_roundg k2
        case measure=>have:=HK1.out;have:=HK2.out;omega
        case rel=>exact ⟨(wrap64 (x28_2+1)),(by first|rfl|(simp;done)|(simp [*];done)),H',⟨by have:=HK1.out;have:=HK2.out;omega⟩,⟨by repeat (with_reducible first|exact HB.out|apply bA|apply bN|apply bD)⟩⟩
     ·rw [if_neg c15] at H
      have c15b0:decide (x28_2 < (l0.length:Int))=false:=decide_eq_false c15
      clear c15
      have H':=Aside0.mk H
      clear H
      go_wp2
      go_loopg [46] k2 (fun kq v46 w'=>∃ (x46_3:Int),v46=.int .i64 x46_3∧Aside0 (spec_PolygonOk.l2 kq l0 (l0.length:Int) (l0.length:Int) x46_3=some r)∧Aside0 (kq≤k2)∧Aside0 (Below w.heap.size w w'))
      case atStart=>exact ⟨(0),(by first|rfl|(simp;done)|(simp [*];done)),H',⟨Nat.le_refl _⟩,⟨by repeat (with_reducible first|exact HB.out|apply bA|apply bN|apply bD)⟩⟩
      case round =>
       clear H'
       obtain ⟨x46_3,rfl,HA,HK3,HB⟩:=hrel
       rcases gk with _|k3
       ·exact absurd HA.out (by simp [spec_PolygonOk.l2])
       have H:=HA.out
       clear HA
       simp only [spec_PolygonOk.l2] at H
       by_cases c25:x46_3 < (l0.length:Int)
       ·rw [if_pos c25] at H
        have c25b0:decide (x46_3 < (l0.length:Int))=true:=decide_eq_true c25
        clear c25
        have H':=Aside0.mk H
        clear H
        go_wp2
        go_loopg [8] k3 (fun kq v8 w'=>∃ (x8_4:Int),v8=.int .i64 x8_4∧Aside0 (spec_PolygonOk.l3 kq l0 (l0.length:Int) x46_3 x8_4 (l0.length:Int) x46_3=some r)∧Aside0 (kq≤k3)∧Aside0 (Below w.heap.size w w'))
        case atStart=>exact ⟨(wrap64 (x46_3+1)),(by first|rfl|(simp;done)|(simp [*];done)),H',⟨Nat.le_refl _⟩,⟨by repeat (with_reducible first|exact HB.out|apply bA|apply bN|apply bD)⟩⟩
        case round =>
         clear H'
         obtain ⟨x8_4,rfl,HA,HK4,HB⟩:=hrel
         rcases gk with _|k4
         ·exact absurd HA.out (by simp [spec_PolygonOk.l3])
         have H:=HA.out
         clear HA
         simp only [spec_PolygonOk.l3] at H
         by_cases c26:x8_4 < (l0.length:Int)
         ·rw [if_pos c26] at H
          have c26b0:decide (x8_4 < (l0.length:Int))=true:=decide_eq_true c26
          clear c26
          by_cases c27:0≤x46_3
          rotate_left;·rw [if_neg c27] at H;exact absurd H (by simp)
          rw [if_pos c27] at H
          have c27b0:decide (0≤x46_3)=true:=decide_eq_true c27
          clear c27
          by_cases c28:x46_3 < (l0.length:Int)
          rotate_left;·rw [if_neg c28] at H;exact absurd H (by simp)
          rw [if_pos c28] at H
          have c28b0:decide (x46_3 < (l0.length:Int))=true:=decide_eq_true c28
          clear c28
          by_cases c29:(l0.length:Int)=0
          ·rw [if_pos c29] at H
           exact absurd H (by simp)
          ·rw [if_neg c29] at H
           have c29b0:((l0.length:Int) == 0)=false:=beq_eq_false_iff_ne.mpr c29
           have c29b1:((l0.length:Int) != 0)=true:=bne_iff_ne.mpr c29
           have c29b2:¬ (l0 = []):=fun h_=>c29 (by rw [h_];rfl)
           obtain ⟨ji30,hji30⟩ : ∃ j_:Int,(Int.tmod (wrap64 (x46_3+1)) (l0.length:Int))=j_:=⟨_,rfl⟩
           replace H:(if 0≤(ji30) then (if (ji30) < (l0.length:Int) then (if 0≤x8_4 then (if x8_4 < (l0.length:Int) then (if 0≤(Int.tmod (wrap64 (x8_4+1)) (l0.length:Int)) then (if (Int.tmod (wrap64 (x8_4+1)) (l0.length:Int)) < (l0.length:Int) then ((spec_l02Meet.f k4 ((rd_T40 l0 x46_3).f0) ((rd_T40 l0 x46_3).f1) ((rd_T40 l0 (ji30)).f0) ((rd_T40 l0 (ji30)).f1) ((rd_T40 l0 x8_4).f0) ((rd_T40 l0 x8_4).f1) ((rd_T40 l0 (Int.tmod (wrap64 (x8_4+1)) (l0.length:Int))).f0) ((rd_T40 l0 (Int.tmod (wrap64 (x8_4+1)) (l0.length:Int))).f1)).bind fun t157=>(if x8_4=(wrap64 (x46_3+1)) then (spec_PolygonOk.j4 k4 l0 (l0.length:Int) x46_3 x8_4 t157 (l0.length:Int) x46_3 true) else (if x46_3=0 then (spec_PolygonOk.j4 k4 l0 (l0.length:Int) x46_3 x8_4 t157 (l0.length:Int) x46_3 (x8_4 == (wrap64 ((l0.length:Int) - 1)))) else (spec_PolygonOk.j4 k4 l0 (l0.length:Int) x46_3 x8_4 t157 (l0.length:Int) x46_3 false)))) else (none)) else (none)) else (none)) else (none)) else (none)) else (none))=some r:=by first|(rw [hji30] at H;exact H)|(simp only [hji30] at H ⊢;exact H)
           by_cases c31:0≤(ji30)
           rotate_left;·rw [if_neg c31] at H;exact absurd H (by simp)
           rw [if_pos c31] at H
           have c31b0:decide (0≤(ji30))=true:=decide_eq_true c31
           clear c31
           by_cases c32:(ji30) < (l0.length:Int)
           rotate_left;·rw [if_neg c32] at H;exact absurd H (by simp)
           rw [if_pos c32] at H
           have c32b0:decide ((ji30) < (l0.length:Int))=true:=decide_eq_true c32
           clear c32
           by_cases c33:0≤x8_4
           rotate_left;·rw [if_neg c33] at H;exact absurd H (by simp)
           rw [if_pos c33] at H
           have c33b0:decide (0≤x8_4)=true:=decide_eq_true c33
           clear c33
           by_cases c34:x8_4 < (l0.length:Int)
           rotate_left;·rw [if_neg c34] at H;exact absurd H (by simp)
           rw [if_pos c34] at H
           have c34b0:decide (x8_4 < (l0.length:Int))=true:=decide_eq_true c34
           clear c34
           obtain ⟨ji35,hji35⟩ : ∃ j_:Int,(Int.tmod (wrap64 (x8_4+1)) (l0.length:Int))=j_:=⟨_,rfl⟩
           replace H:(if 0≤(ji35) then (if (ji35) < (l0.length:Int) then ((spec_l02Meet.f k4 ((rd_T40 l0 x46_3).f0) ((rd_T40 l0 x46_3).f1) ((rd_T40 l0 (ji30)).f0) ((rd_T40 l0 (ji30)).f1) ((rd_T40 l0 x8_4).f0) ((rd_T40 l0 x8_4).f1) ((rd_T40 l0 (ji35)).f0) ((rd_T40 l0 (ji35)).f1)).bind fun t157=>(if x8_4=(wrap64 (x46_3+1)) then (spec_PolygonOk.j4 k4 l0 (l0.length:Int) x46_3 x8_4 t157 (l0.length:Int) x46_3 true) else (if x46_3=0 then (spec_PolygonOk.j4 k4 l0 (l0.length:Int) x46_3 x8_4 t157 (l0.length:Int) x46_3 (x8_4 == (wrap64 ((l0.length:Int) - 1)))) else (spec_PolygonOk.j4 k4 l0 (l0.length:Int) x46_3 x8_4 t157 (l0.length:Int) x46_3 false)))) else (none)) else (none))=some r:=by first|(rw [hji35] at H;exact H)|(simp only [hji35] at H ⊢;exact H)
           by_cases c36:0≤(ji35)
           rotate_left;·rw [if_neg c36] at H;exact absurd H (by simp)
           rw [if_pos c36] at H
           have c36b0:decide (0≤(ji35))=true:=decide_eq_true c36
           clear c36
           by_cases c37:(ji35) < (l0.length:Int)
           rotate_left;·rw [if_neg c37] at H;exact absurd H (by simp)
           rw [if_pos c37] at H
           have c37b0:decide ((ji35) < (l0.length:Int))=true:=decide_eq_true c37
           clear c37
           replace H:=Option.bind_eq_some_iff.mp H
           obtain ⟨t157,A380,H⟩:=H
           have A38:=Aside0.mk A380
           clear A380
           have HC39:=Aside0.mk H
           clear H
           try go_wp2
           have n0_:=Aside0.mk (below_drew1 HB.out)
           clear HB
           have HB:=n0_
           clear n0_
           have p153:0≤(x46_3:Int):=of_decide_eq_true (by assumption)
           have q153:x46_3 < (l0.length:Int):=of_decide_eq_true (by assumption)
           obtain ⟨ad153,e153,hx153_0,hx153_1⟩:=at_T40 HR0.out x46_3 p153 q153
           have hw153_1:=hx153_1
           have hw153_0:=hx153_0
           cases e153
           replace hx153_0:=cK HB.out hx153_0
           replace hx153_1:=cK HB.out hx153_1
           replace p153:=eq_true p153
           replace q153:=eq_true q153
           have p154:0≤((ji30):Int):=of_decide_eq_true (by assumption)
           have q154:(ji30) < (l0.length:Int):=of_decide_eq_true (by assumption)
           obtain ⟨ad154,e154,hx154_0,hx154_1⟩:=at_T40 HR0.out (ji30) p154 q154
           have hw154_1:=hx154_1
           have hw154_0:=hx154_0
           obtain rfl:ad153=ad154:=(by injection e154)
           replace hx154_0:=cK HB.out hx154_0
           replace hx154_1:=cK HB.out hx154_1
           replace p154:=eq_true p154
           replace q154:=eq_true q154
           have p155:0≤(x8_4:Int):=of_decide_eq_true (by assumption)
           have q155:x8_4 < (l0.length:Int):=of_decide_eq_true (by assumption)
           obtain ⟨ad155,e155,hx155_0,hx155_1⟩:=at_T40 HR0.out x8_4 p155 q155
           have hw155_1:=hx155_1
           have hw155_0:=hx155_0
           obtain rfl:ad153=ad155:=(by injection e155)
           replace hx155_0:=cK HB.out hx155_0
           replace hx155_1:=cK HB.out hx155_1
           replace p155:=eq_true p155
           replace q155:=eq_true q155
           have p156:0≤((ji35):Int):=of_decide_eq_true (by assumption)
           have q156:(ji35) < (l0.length:Int):=of_decide_eq_true (by assumption)
           obtain ⟨ad156,e156,hx156_0,hx156_1⟩:=at_T40 HR0.out (ji35) p156 q156
           have hw156_1:=hx156_1
           have hw156_0:=hx156_0
           obtain rfl:ad153=ad156:=(by injection e156)
           replace hx156_0:=cK HB.out hx156_0
           replace hx156_1:=cK HB.out hx156_1
           replace p156:=eq_true p156
           replace q156:=eq_true q156
           refine start_ (n:=24) (S:=fun w'=>w'.cell? (ad153.add ((x46_3).toNat * 2))=some (.int .i64 ((rd_T40 l0 x46_3).f0))∧w'.cell? ⟨(ad153.add ((x46_3).toNat * 2)).block,(ad153.add ((x46_3).toNat * 2)).off+1,none⟩=some (.int .i64 ((rd_T40 l0 x46_3).f1))∧w'.cell? (ad153.add (((ji30)).toNat * 2))=some (.int .i64 ((rd_T40 l0 (ji30)).f0))∧w'.cell? ⟨(ad153.add (((ji30)).toNat * 2)).block,(ad153.add (((ji30)).toNat * 2)).off+1,none⟩=some (.int .i64 ((rd_T40 l0 (ji30)).f1))∧w'.cell? (ad153.add ((x8_4).toNat * 2))=some (.int .i64 ((rd_T40 l0 x8_4).f0))∧w'.cell? ⟨(ad153.add ((x8_4).toNat * 2)).block,(ad153.add ((x8_4).toNat * 2)).off+1,none⟩=some (.int .i64 ((rd_T40 l0 x8_4).f1))∧w'.cell? (ad153.add (((ji35)).toNat * 2))=some (.int .i64 ((rd_T40 l0 (ji35)).f0))∧w'.cell? ⟨(ad153.add (((ji35)).toNat * 2)).block,(ad153.add (((ji35)).toNat * 2)).off+1,none⟩=some (.int .i64 ((rd_T40 l0 (ji35)).f1))) (ds:=[]) (bV 24 0) (by kernel_rfl) rfl rfl ⟨(cK HB.out hw153_0),(cK HB.out hw153_1),(cK HB.out hw154_0),(cK HB.out hw154_1),(cK HB.out hw155_0),(cK HB.out hw155_1),(cK HB.out hw156_0),(cK HB.out hw156_1)⟩ (fun hHeld=>?_);refine with_tabW spec_PolygonOk.tab22 spec_PolygonOk.bits22 (fun HT_ HW_=>?_)
           generalize wr.drew=w40 at HB hx153_0 hx153_1 hx154_0 hx154_1 hx155_0 hx155_1 hx156_0 hx156_1 hHeld ⊢
           refine pT 0 56 (bV 24 1) HT_.out ?_
           refine pT 1 57 (bV 24 3) HT_.out ?_
           refine pT 2 58 (bV 24 7) HT_.out ?_
           refine pT 4 60 (bV 24 23) HT_.out ?_
           refine pT 5 61 (bV 24 55) HT_.out ?_
           refine pT 6 62 (bV 24 119) HT_.out ?_
           refine pT 7 63 (bV 24 247) HT_.out ?_
           refine pT 8 64 (bV 24 503) HT_.out ?_
           refine pT 9 65 (bV 24 1015) HT_.out ?_
           refine pT 11 67 (bV 24 3063) HT_.out ?_
           refine pT 12 68 (bV 24 7159) HT_.out ?_
           refine pT 13 69 (bV 24 15351) HT_.out ?_
           refine pT 15 71 (bV 24 48119) HT_.out ?_
           refine pT 16 72 (bV 24 113655) HT_.out ?_
           refine pT 17 73 (bV 24 244727) HT_.out ?_
           refine pT 18 74 (bV 24 506871) HT_.out ?_
           refine pT 19 75 (bV 24 1031159) HT_.out ?_
           refine pT 20 76 (bV 24 2079735) HT_.out ?_
           refine tI 3 59 (bV 24 2079743) rfl (take_ofW HT_.out HW_.out (by kernel_rfl)) hHeld (by rintro w' ⟨s0,s1,s2,s3,s4,s5,s6,s7⟩;go_simp;with_reducible rfl) ?_
           refine tI 10 66 (bV 24 2080767) rfl (take_ofW HT_.out HW_.out (by kernel_rfl)) hHeld (by rintro w' ⟨s0,s1,s2,s3,s4,s5,s6,s7⟩;go_simp;with_reducible rfl) ?_
           refine tI 14 70 (bV 24 2097151) rfl (take_ofW HT_.out HW_.out (by kernel_rfl)) hHeld (by rintro w' ⟨s0,s1,s2,s3,s4,s5,s6,s7⟩;go_simp;with_reducible rfl) ?_
           refine tI 21 77 (bV 24 4194303) rfl (take_ofW HT_.out HW_.out (by kernel_rfl)) hHeld (by rintro w' ⟨s0,s1,s2,s3,s4,s5,s6,s7⟩;go_simp;with_reducible rfl) ?_
           refine one_ (i:=22) (N:=some 78) (bV 24 8388607) rfl rfl (one_of HT_.out (by kernel_rfl)) (by decide) (fun K hK=>?_)
           refine goes_ Try.func61 (by kernel_rfl) rfl #[.agg #[.int .i64 ((rd_T40 l0 x46_3).f0),.int .i64 ((rd_T40 l0 x46_3).f1)],.agg #[.int .i64 ((rd_T40 l0 (ji30)).f0),.int .i64 ((rd_T40 l0 (ji30)).f1)],.agg #[.int .i64 ((rd_T40 l0 x8_4).f0),.int .i64 ((rd_T40 l0 x8_4).f1)],.agg #[.int .i64 ((rd_T40 l0 (ji35)).f0),.int .i64 ((rd_T40 l0 (ji35)).f1)]] (by rfl) rfl rfl (by (try simp only [List.map_toArray,List.map_cons,List.map_nil]);first|done|(simp only [hji30,hji35];rfl)|rfl|(simp only [List.length_drop,List.length_take];rfl)) ?_
           with_reducible refine (spec_l02Meet.calls k4 ((rd_T40 l0 x46_3).f0) ((rd_T40 l0 x46_3).f1) ((rd_T40 l0 (ji30)).f0) ((rd_T40 l0 (ji30)).f1) ((rd_T40 l0 x8_4).f0) ((rd_T40 l0 x8_4).f1) ((rd_T40 l0 (ji35)).f0) ((rd_T40 l0 (ji35)).f1) t157 _ A38.out).mono ?_
           rintro e w41 ⟨rfl,hb⟩
           refine ⟨_,rfl,?_⟩
           have n0_:=Aside0.mk (below_step (by repeat (with_reducible first|exact HB.out|apply bA|apply bN|apply bD)) hb)
           clear HB
           have HB:=n0_
           clear n0_
           (try clear hb)
           (try clear hb2)
           (try clear hk)
           (try clear hi)
           refine hK.out _ _ ⟨(cK HB.out hw153_0),(cK HB.out hw153_1),(cK HB.out hw154_0),(cK HB.out hw154_1),(cK HB.out hw155_0),(cK HB.out hw155_1),(cK HB.out hw156_0),(cK HB.out hw156_1)⟩ (fun hHeld=>?_)
           clear hK K
           refine norm_ (a':=?_) ?_ ?_
           rotate_left
           ·show Act.put _ (some 78) _=_
            simp only [Act.put,sI,sZ,sS,i64_w,i32_w]
            rfl
           refine pT 23 9 (bV 24 16777215) HT_.out ?_
           refine done_ (done_of HT_.out (by kernel_rfl)) ?_
           go_upto_region 23 with (fail)
           go_cut [92] (fun v92 wc=>∃ (kq:Nat) (x92_38:Bool),v92=.bool x92_38∧Aside0 (spec_PolygonOk.j4 kq l0 (l0.length:Int) x46_3 x8_4 t157 (l0.length:Int) x46_3 x92_38=some r)∧Aside0 (kq≤k4)∧Aside0 (Below w.heap.size w wc))
           case first =>
            have H:=HC39.out
            clear HC39
            by_cases c42:x8_4=(wrap64 (x46_3+1))
            ·rw [if_pos c42] at H
             have c42b0:(x8_4 == (wrap64 (x46_3+1)))=true:=beq_iff_eq.mpr c42
             have c42b1:(x8_4 != (wrap64 (x46_3+1)))=false:=bne_eq_false_iff_eq.mpr c42
             clear c42
             (first|rw [c42b0]|(simp only [i64_w,i32_w];rw [c42b0])|skip)
             have H':=Aside0.mk H
             clear H
             go_wp2
             go_meet
             case rel=>exact ⟨_,(true),(by first|rfl|(simp;done)|(simp [*];done)),H',⟨by have:=HK1.out;have:=HK2.out;have:=HK3.out;have:=HK4.out;first|omega|exact Nat.le_refl _⟩,⟨by repeat (with_reducible first|exact HB.out|apply bA|apply bN|apply bD)⟩⟩
            ·rw [if_neg c42] at H
             have c42b0:(x8_4 == (wrap64 (x46_3+1)))=false:=beq_eq_false_iff_ne.mpr c42
             have c42b1:(x8_4 != (wrap64 (x46_3+1)))=true:=bne_iff_ne.mpr c42
             (first|rw [c42b0]|(simp only [i64_w,i32_w];rw [c42b0])|skip)
             by_cases c43:x46_3=0
             ·rw [if_pos c43] at H
              have c43b0:(x46_3 == 0)=true:=beq_iff_eq.mpr c43
              have c43b1:(x46_3 != 0)=false:=bne_eq_false_iff_eq.mpr c43
              clear c43
              have H':=Aside0.mk H
              clear H
              go_wp2
              go_meet
              case rel=>exact ⟨_,((x8_4 == (wrap64 ((l0.length:Int) - 1)))),(by first|rfl|(simp;done)|(simp [*];done)),H',⟨by have:=HK1.out;have:=HK2.out;have:=HK3.out;have:=HK4.out;first|omega|exact Nat.le_refl _⟩,⟨by repeat (with_reducible first|exact HB.out|apply bA|apply bN|apply bD)⟩⟩
             ·rw [if_neg c43] at H
              have c43b0:(x46_3 == 0)=false:=beq_eq_false_iff_ne.mpr c43
              have c43b1:(x46_3 != 0)=true:=bne_iff_ne.mpr c43
              have H':=Aside0.mk H
              clear H
              go_wp2
              go_meet
              case rel=>exact ⟨_,(false),(by first|rfl|(simp;done)|(simp [*];done)),H',⟨by have:=HK1.out;have:=HK2.out;have:=HK3.out;have:=HK4.out;first|omega|exact Nat.le_refl _⟩,⟨by repeat (with_reducible first|exact HB.out|apply bA|apply bN|apply bD)⟩⟩
           case rest =>
            clear HC39
            obtain ⟨kq,x92_38,rfl,HA,HJ38,HB⟩:=hcut
            rcases kq with _|kj38
            ·exact absurd HA.out (by simp [spec_PolygonOk.j4])
            have H:=HA.out
            clear HA
            simp only [spec_PolygonOk.j4] at H
            by_cases c44:x92_38=true
            ·subst c44
             rw [if_pos rfl] at H
             by_cases c45:t157=1
             ·rw [if_pos c45] at H
              have c45b0:(t157 == 1)=true:=beq_iff_eq.mpr c45
              have c45b1:(t157 != 1)=false:=bne_eq_false_iff_eq.mpr c45
              clear c45
              have H':=Aside0.mk H
              clear H
              go_wp2
              go_roundg kj38
              case measure=>have:=HK1.out;have:=HK2.out;have:=HK3.out;have:=HK4.out;have:=HJ38.out;omega
              case rel=>exact ⟨(wrap64 (x8_4+1)),(by first|rfl|(simp;done)|(simp [*];done)),H',⟨by have:=HK1.out;have:=HK2.out;have:=HK3.out;have:=HK4.out;have:=HJ38.out;omega⟩,⟨by repeat (with_reducible first|exact HB.out|apply bA|apply bN|apply bD)⟩⟩
             ·rw [if_neg c45] at H
              have c45b0:(t157 == 1)=false:=beq_eq_false_iff_ne.mpr c45
              have c45b1:(t157 != 1)=true:=bne_iff_ne.mpr c45
              obtain rfl:=Option.some.inj H
              go_wp2
              go_ret
              exact ⟨by first|rfl|(simp [errW_none,errW_some] <;> rfl)|(simp only [← hji30,← hji35];first|rfl|(simp [errW_none,errW_some] <;> rfl))|(simp [*,errW_none,errW_some] <;> rfl),by repeat (with_reducible first|exact HB.out|apply bA|apply bN|apply bD)⟩
            ·replace c44:=Bool.eq_false_iff.mpr c44
             subst c44
             rw [if_neg (show ¬ (false=true) by decide)] at H
             by_cases c46:t157=0
             ·rw [if_pos c46] at H
              have c46b0:(t157 == 0)=true:=beq_iff_eq.mpr c46
              have c46b1:(t157 != 0)=false:=bne_eq_false_iff_eq.mpr c46
              clear c46
              have H':=Aside0.mk H
              clear H
              go_wp2
              go_roundg kj38
              case measure=>have:=HK1.out;have:=HK2.out;have:=HK3.out;have:=HK4.out;have:=HJ38.out;omega
              case rel=>exact ⟨(wrap64 (x8_4+1)),(by first|rfl|(simp;done)|(simp [*];done)),H',⟨by have:=HK1.out;have:=HK2.out;have:=HK3.out;have:=HK4.out;have:=HJ38.out;omega⟩,⟨by repeat (with_reducible first|exact HB.out|apply bA|apply bN|apply bD)⟩⟩
             ·rw [if_neg c46] at H
              have c46b0:(t157 == 0)=false:=beq_eq_false_iff_ne.mpr c46
              have c46b1:(t157 != 0)=true:=bne_iff_ne.mpr c46
              obtain rfl:=Option.some.inj H
              go_wp2
              go_ret
              exact ⟨by first|rfl|(simp [errW_none,errW_some] <;> rfl)|(simp only [← hji30,← hji35];first|rfl|(simp [errW_none,errW_some] <;> rfl))|(simp [*,errW_none,errW_some] <;> rfl),by repeat (with_reducible first|exact HB.out|apply bA|apply bN|apply bD)⟩
         ·rw [if_neg c26] at H
          have c26b0:decide (x8_4 < (l0.length:Int))=false:=decide_eq_false c26
          clear c26
          have H':=Aside0.mk H
          clear H
          go_wp2
          go_roundg k4
          case measure=>have:=HK1.out;have:=HK2.out;have:=HK3.out;have:=HK4.out;omega
          case rel=>exact ⟨(wrap64 (x46_3+1)),(by first|rfl|(simp;done)|(simp [*];done)),H',⟨by have:=HK1.out;have:=HK2.out;have:=HK3.out;have:=HK4.out;omega⟩,⟨by repeat (with_reducible first|exact HB.out|apply bA|apply bN|apply bD)⟩⟩
       ·rw [if_neg c25] at H
        have c25b0:decide (x46_3 < (l0.length:Int))=false:=decide_eq_false c25
        clear c25
        obtain rfl:=Option.some.inj H
        go_wp2
        go_ret
        exact ⟨by first|rfl|(simp [errW_none,errW_some] <;> rfl)|(simp [*,errW_none,errW_some] <;> rfl),by repeat (with_reducible first|exact HB.out|apply bA|apply bN|apply bD)⟩
 ·replace c3:=Bool.eq_false_iff.mpr c3
  subst c3
  rw [if_neg (show ¬ (false=true) by decide)] at H
  obtain rfl:=Option.some.inj H
  go_enter Try.func34,Try.ntmps34
  go_wp2_with (first|((with_reducible refine gate_callee (f:=54) rfl ?_);refine goesL_ (some 12) rfl rfl Try.func54 (by kernel_rfl) rfl #[.int .i64 (l0.length:Int),.int .i64 3,.int .i64 10] rfl (by (try simp only [List.map_toArray,List.map_cons,List.map_nil]);first|done|rfl) ?_;(with_reducible refine (spec_l01In.calls (l0.length:Int) 3 10 false _ A2.out).mono ?_);rintro e w' ⟨rfl,⟨nd,rfl⟩⟩;refine ⟨_,rfl,?_⟩))
  go_ret
  exact ⟨by first|rfl|(simp [errW_none,errW_some] <;> rfl)|(simp [*,errW_none,errW_some] <;> rfl),by repeat (with_reducible first|exact HB.out|apply bA|apply bN|apply bD)⟩
end Go.Proofs.Ytadenfniiihifaa.QFnExactMeasuresOf
