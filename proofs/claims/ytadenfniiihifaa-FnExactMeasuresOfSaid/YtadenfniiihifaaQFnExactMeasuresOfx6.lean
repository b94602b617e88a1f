/- What each Go function of this text answers, as a plain function, and that the machine comes to just that answer. -/
import Derived.Test.YtadenfniiihifaaQFnExactMeasuresOfx0
import Derived.Test.YtadenfniiihifaaQFnExactMeasuresOfx5
namespace Go.Proofs.Ytadenfniiihifaa.QFnExactMeasuresOf
open Go.RowKit Go.Proofs.YtadenfniiihifaaW.PrintWords Go.Proofs.YtadenfniiihifaaW.PrintLast Go.Proofs.YtadenfniiihifaaW.PrintMore
attribute [local go_sem] max2_int min2_int max_two min_two max_three min_three max_four min_four   -- for this text's walks alone
set_option linter.unusedVariables false
set_option linter.unusedSimpArgs false
mutual
def spec_l07Put.j1:Nat→List (List Int)→List Int→Int→Option ((List (List Int)))
 | 0,_,_,_=>none
 | k+1,x0,x1,x5=>(some (([]:List (List Int)):List (List Int))).bind fun y223=>(if 0≤x5 then (if x5≤(x0.length:Int) then ((some (x0.take (x5:Int).toNat:List (List Int))).bind fun y226=>(if y223.length+y226.length < 5864062014805 then ((some (y223++y226:List (List Int))).bind fun y231=>(if 2 < (x1.length:Int) then ((some (x0.drop (x5:Int).toNat:List (List Int))).bind fun y235=>(if x5 < (x0.length:Int) then (if 0 < ((rd_L3 x0 x5).length:Int) then (if 0 < (x1.length:Int) then (if (rd (rd_L3 x0 x5) 0)=(rd x1 0) then (if 1 < ((rd_L3 x0 x5).length:Int) then (if 1 < (x1.length:Int) then (spec_l07Put.j2 k x0 x1 x5 y231 (rd x1 2) y235 ((rd (rd_L3 x0 x5) 1) == (rd x1 1))) else (none)) else (none)) else (spec_l07Put.j2 k x0 x1 x5 y231 (rd x1 2) y235 false)) else (none)) else (none)) else (spec_l07Put.j2 k x0 x1 x5 y231 (rd x1 2) y235 false))) else (none))) else (none))) else (none)) else (none))
def spec_l07Put.j2:Nat→List (List Int)→List Int→Int→List (List Int)→Int→List (List Int)→Bool→Option ((List (List Int)))
 | 0,_,_,_,_,_,_,_=>none
 | k+1,x0,x1,x5,x6,x7,x8,x62=>if x62=true then (if 0≤x5 then (if x5 < (x0.length:Int) then (if 2 < ((rd_L3 x0 x5).length:Int) then (if 0≤(wrap64 (x5+1)) then (if (wrap64 (x5+1))≤(x0.length:Int) then ((some (x0.drop ((wrap64 (x5+1)):Int).toNat:List (List Int))).bind fun y248=>(if (wrap64 (x7+(rd (rd_L3 x0 x5) 2)))=0 then (if x6.length+y248.length < 5864062014805 then (some (x6++y248)) else (none)) else (if 0 < (x1.length:Int) then (if 1 < (x1.length:Int) then (if x6.length < 5864062014805 then ((some (x6++[(([rd x1 0,rd x1 1,wrap64 (x7+(rd (rd_L3 x0 x5) 2))]:List Int))]:List (List Int))).bind fun y261=>(if y261.length+y248.length < 5864062014805 then (some (y261++y248)) else (none))) else (none)) else (none)) else (none)))) else (none)) else (none)) else (none)) else (none)) else (none)) else (if x7=0 then (if x6.length+x8.length < 5864062014805 then (some (x6++x8)) else (none)) else (if 0 < (x1.length:Int) then (if 1 < (x1.length:Int) then (if x6.length < 5864062014805 then ((some (x6++[(([rd x1 0,rd x1 1,x7]:List Int))]:List (List Int))).bind fun y275=>(if y275.length+x8.length < 5864062014805 then (some (y275++x8)) else (none))) else (none)) else (none)) else (none)))
def spec_l07Put.l0:Nat→List (List Int)→List Int→Int→Option ((List (List Int)))
 | 0,_,_,_=>none
 | k+1,x0,x1,x5=>if x5 < (x0.length:Int) then (if 0≤x5 then ((spec_l07Before.f (rd_L3 x0 x5) x1).bind fun t222=>(if t222=true then (spec_l07Put.l0 k x0 x1 (wrap64 (x5+1))) else (spec_l07Put.j1 k x0 x1 x5))) else (none)) else (spec_l07Put.j1 k x0 x1 x5)
end
def spec_l07Put.f (k:Nat) (l0:List (List Int)) (l1:List Int):Option ((List (List Int))):=spec_l07Put.l0 k l0 l1 0
theorem spec_l07Put.mono_l:∀ k,(∀ y0 y1 y2,LeO (spec_l07Put.j1 k y0 y1 y2) (spec_l07Put.j1 (k+1) y0 y1 y2))∧(∀ y0 y1 y2 y3 y4 y5 y6,LeO (spec_l07Put.j2 k y0 y1 y2 y3 y4 y5 y6) (spec_l07Put.j2 (k+1) y0 y1 y2 y3 y4 y5 y6))∧(∀ y0 y1 y2,LeO (spec_l07Put.l0 k y0 y1 y2) (spec_l07Put.l0 (k+1) y0 y1 y2))
 | 0=>⟨fun _ _ _ r h=>by simp [spec_l07Put.j1] at h,fun _ _ _ _ _ _ _ r h=>by simp [spec_l07Put.j2] at h,fun _ _ _ r h=>by simp [spec_l07Put.l0] at h⟩
 | k+1=>by
  obtain ⟨ih0,ih1,ih2⟩:=spec_l07Put.mono_l k
  refine ⟨?_,?_,?_⟩
  ·intro y0 y1 y2
   unfold spec_l07Put.j1
   repeat' first
   | (with_reducible exact LeO.refl _)
   | exact ih0 _ _ _
   | exact ih1 _ _ _ _ _ _ _
   | exact ih2 _ _ _
   | exact LeO.none _
   | refine LeO.ite ?_ ?_
   | refine LeO.bind ?_ (fun _=>?_)
  ·intro y0 y1 y2 y3 y4 y5 y6
   unfold spec_l07Put.j2
   repeat' first
   | (with_reducible exact LeO.refl _)
   | exact ih0 _ _ _
   | exact ih1 _ _ _ _ _ _ _
   | exact ih2 _ _ _
   | exact LeO.none _
   | refine LeO.ite ?_ ?_
   | refine LeO.bind ?_ (fun _=>?_)
  ·intro y0 y1 y2
   unfold spec_l07Put.l0
   repeat' first
   | (with_reducible exact LeO.refl _)
   | exact ih0 _ _ _
   | exact ih1 _ _ _ _ _ _ _
   | exact ih2 _ _ _
   | exact LeO.none _
   | refine LeO.ite ?_ ?_
   | refine LeO.bind ?_ (fun _=>?_)
theorem spec_l07Put.mono:∀ a0 a1 k,LeO (spec_l07Put.f k a0 a1) (spec_l07Put.f (k+1) a0 a1):=by
 intro a0 a1 k
 obtain ⟨ih0,ih1,ih2⟩:=spec_l07Put.mono_l k
 unfold spec_l07Put.f
 repeat' first
  | (with_reducible exact LeO.refl _)
  | exact ih0 _ _ _
  | exact ih1 _ _ _ _ _ _ _
  | exact ih2 _ _ _
  | exact LeO.none _
  | refine LeO.ite ?_ ?_
  | refine LeO.bind ?_ (fun _=>?_)
def spec_l07Put.T8:Bool × List (List Nat × List Nat):=(true,[([],[]),([],[]),([1],[1]),([0,2],[0,2]),([3],[3]),([4],[4]),([4],[4]),([5,6,4],[4,5,6]),([7,4],[4,7]),([8,4],[4,8]),([9,4],[4,9]),([4],[4]),([11,4],[4,11]),([12,4],[4,12]),([10,13,4],[4,10,13]),([4,14],[4,14]),([15,4],[15]),([16],[16]),([16],[16]),([17,18,16],[16,17,18]),([19,16],[16,19]),([20,16],[16,20]),([21,16],[16,21]),([16],[16]),([23,16],[16,23]),([24,16],[16,24]),([22,25,16],[16,22,25]),([16,26],[16,26])])
def spec_l07Put.B8:List Nat:=[0,0,2,7,15,31,31,127,255,511,1023,31,2079,6175,16383,32767,65535,131071,131071,524287,1048575,2097151,4194303,131071,8519679,25296895,67108863,134217727]
theorem spec_l07Put.tab8:rtab .any (opsOf Try.f66 8)=spec_l07Put.T8:=by kernel_rfl
theorem spec_l07Put.bits8:waitsOk spec_l07Put.T8.2 spec_l07Put.B8=true:=by kernel_rfl
def spec_l07Put.T12:Bool × List (List Nat × List Nat):=(true,[([],[]),([],[]),([1],[1]),([2],[2]),([],[]),([4],[4]),([5],[5]),([],[]),([3,6,7],[3,6,7]),([8],[8]),([0,9],[0,9]),([10,10,0,1,2,3,4,5,6,7,8,9,10],[0,10])])
def spec_l07Put.B12:List Nat:=[0,0,2,6,0,16,48,0,254,510,1023,2047]
theorem spec_l07Put.tab12:rtab .any (opsOf Try.f66 12)=spec_l07Put.T12:=by kernel_rfl
theorem spec_l07Put.bits12:waitsOk spec_l07Put.T12.2 spec_l07Put.B12=true:=by kernel_rfl
set_option maxHeartbeats 8000000 in
set_option maxRecDepth 100000 in
theorem spec_l07Put.calls (k:Nat) (P0_:Nat→Prop) (A0:Option Addr) (c0:Nat) (l0:List (List Int)) (A1:Option Addr) (c1:Nat) (l1:List Int) (r:List (List Int)) (w:World) (hs0:Kd.V (Kd.slice 3 (Kd.int .i64)) 45 w w.heap.size (fun k_=>P0_ k_) (.slice A0 l0.length c0) l0) (hr1:Kd.C (Kd.int .i64) w A1 l1.length l1) (hc1:l1.length≤c1) (h:spec_l07Put.f k l0 l1=some r) :
 Calls Try.prog 66 #[.slice A0 l0.length c0,.slice A1 l1.length c1] w fun e w'=>∃ v0_:Value,e=.returned (v0_)∧Kd.N (Kd.slice 3 (Kd.int .i64)) 45 w' w.heap.size (fun k_=>(P0_ k_∨w.heap.size≤k_)) v0_ r∧Below w.heap.size w w':=by
 have HO0:=Aside0.mk (show Kd.V (Kd.slice 3 (Kd.int .i64)) 45 w w.heap.size (fun k_=>(P0_ k_∨w.heap.size≤k_)) (.slice A0 l0.length c0) l0 from Kd.V_mono hs0 (fun k_ hk=>.inl hk))
 have HR1:=Aside0.mk hr1
 have HC1:=Aside0.mk hc1
 clear hr1 hc1
 have HB:=Aside0.mk (Below.refl w.heap.size w)
 have H:(spec_l07Put.l0 k l0 l1 0)=some r:=h
 clear h
 have HC3:=Aside0.mk H
 clear H
 go_enter Try.func66,Try.ntmps66
 go_upto_block 0 with (fail)
 go_cut [5] (fun v5 wc=>∃ (kq:Nat) (x5_2:Int),v5=.int .i64 x5_2∧Aside0 (spec_l07Put.j1 kq l0 l1 x5_2=some r)∧Aside0 (kq≤k)∧Aside0 (Kd.V (Kd.slice 3 (Kd.int .i64)) 45 wc w.heap.size (fun k_=>(P0_ k_∨w.heap.size≤k_)) (.slice A0 l0.length c0) l0)∧Aside0 (Below w.heap.size w wc))
 case first =>
  have H:=HC3.out
  clear HC3
  have H':=Aside0.mk H
  clear H
  go_wp2
  go_loopg [5] k (fun kq v5 w'=>∃ (x5_1:Int),v5=.int .i64 x5_1∧Aside0 (spec_l07Put.l0 kq l0 l1 x5_1=some r)∧Aside0 (kq≤k)∧Aside0 (Kd.V (Kd.slice 3 (Kd.int .i64)) 45 w' w.heap.size (fun k_=>(P0_ k_∨w.heap.size≤k_)) (.slice A0 l0.length c0) l0)∧Aside0 (Below w.heap.size w w'))
  case atStart=>exact ⟨(0),(by first|rfl|(simp;done)|(simp [*];done)),H',⟨Nat.le_refl _⟩,⟨by (with_reducible repeat (first|apply vA|apply vN|apply vD));exact HO0.out⟩,⟨by repeat (with_reducible first|exact HB.out|apply bA|apply bN|apply bD)⟩⟩
  case round =>
   clear H'
   obtain ⟨x5_1,rfl,HA,HK1,HO_0,HB⟩:=hrel
   rcases gk with _|k1
   ·exact absurd HA.out (by simp [spec_l07Put.l0])
   have H:=HA.out
   clear HA
   simp only [spec_l07Put.l0] at H
   by_cases c4:x5_1 < (l0.length:Int)
   ·rw [if_pos c4] at H
    have c4b0:decide (x5_1 < (l0.length:Int))=true:=decide_eq_true c4
    clear c4
    (first|rw [c4b0]|(simp only [i64_w,i32_w];rw [c4b0])|skip)
    by_cases c5:0≤x5_1
    rotate_left;·rw [if_neg c5] at H;exact absurd H (by simp)
    rw [if_pos c5] at H
    have c5b0:decide (0≤x5_1)=true:=decide_eq_true c5
    clear c5
    replace H:=Option.bind_eq_some_iff.mp H
    obtain ⟨t222,A60,H⟩:=H
    have A6:=Aside0.mk A60
    clear A60
    by_cases c7:t222=true
    ·subst c7
     rw [if_pos rfl] at H
     have H':=Aside0.mk H
     clear H
     have p221:0≤(x5_1:Int):=of_decide_eq_true (by assumption)
     have q221:x5_1 < (l0.length:Int):=of_decide_eq_true (by assumption)
     obtain ⟨ad221,A221_0,c221_0,e221,hx221_0,hl221_0,hi221_0⟩:=at_L3 (Kd.V_reads' HO_0.out).2.2 x5_1 p221 q221
     cases e221
     obtain ⟨ce221,hce221,hMe221,hcc221⟩:=Kd.V_get HO_0.out [] x5_1 p221 (by first|exact q221|exact of_decide_eq_true (by assumption)|(have e_:=(Kd.V_reads' HO_0.out).1;omega))
     obtain ⟨ua221_0,uc221_0,rfl,ul221_0,ge221_0⟩:=Kd.FK_slice_open hMe221
     have hv221_0:=hcc221 0 _ rfl
     rw [Nat.add_zero,show ((Kd.slice 3 (Kd.int .i64))).sz=1 from rfl,Nat.mul_one] at hv221_0
     replace hv221_0:=Option.some.inj (hv221_0.symm.trans hx221_0)
     injection hv221_0 with hva_ hvn_ hvc_
     rw [hva_] at ge221_0
     rw [hvc_] at ul221_0
     have HL221_0:=Aside0.mk (show Kd.V (Kd.int .i64) 3 _ w.heap.size _ _ (rd_L3 l0 x5_1) from Kd.V_mk ul221_0 ge221_0)
     clear hva_ hvn_ hvc_ ge221_0 ul221_0
     clear hcc221 hce221
     have HR221_0:=Aside0.mk hi221_0
     have HC221_0:=Aside0.mk hl221_0
     clear hi221_0 hl221_0
     replace p221:=eq_true p221
     replace q221:=eq_true q221
     go_wp2_with (first|(go_at_call 82;(with_reducible refine (spec_l07Before.calls _ _ (rd_L3 l0 x5_1) _ _ l1 true _ ?side1 ?side2 ?side3 ?side4 A6.out).mono ?_);(case side1=>repeat (first|exact (by repeat (first|(with_reducible exact HR221_0.out)|(with_reducible refine Kd.C_alloc ?_ _)|(with_reducible refine Kd.C_drewN ?_ _)|(with_reducible refine Kd.C_drew ?_)|exact HR221_0.out))|(with_reducible refine Kd.C_alloc ?_ _)|(with_reducible refine Kd.C_drewN ?_ _)|(with_reducible refine Kd.C_drew ?_)));(case side2=>exact HC221_0.out);(case side3=>repeat (first|exact (Kd.C_below HR1.out HB.out)|(with_reducible refine Kd.C_alloc ?_ _)|(with_reducible refine Kd.C_drewN ?_ _)|(with_reducible refine Kd.C_drew ?_)));(case side4=>exact HC1.out);rintro e w' ⟨rfl,⟨nd,rfl⟩⟩))
     go_roundg k1
     case measure=>have:=HK1.out;omega
     case rel=>exact ⟨(wrap64 (x5_1+1)),(by first|rfl|(simp;done)|(simp [*];done)),H',⟨by have:=HK1.out;omega⟩,⟨by (with_reducible repeat (first|apply vA|apply vN|apply vD));exact HO_0.out⟩,⟨by repeat (with_reducible first|exact HB.out|apply bA|apply bN|apply bD)⟩⟩
    ·replace c7:=Bool.eq_false_iff.mpr c7
     subst c7
     rw [if_neg (show ¬ (false=true) by decide)] at H
     have H':=Aside0.mk H
     clear H
     have p221:0≤(x5_1:Int):=of_decide_eq_true (by assumption)
     have q221:x5_1 < (l0.length:Int):=of_decide_eq_true (by assumption)
     obtain ⟨ad221,A221_0,c221_0,e221,hx221_0,hl221_0,hi221_0⟩:=at_L3 (Kd.V_reads' HO_0.out).2.2 x5_1 p221 q221
     cases e221
     obtain ⟨ce221,hce221,hMe221,hcc221⟩:=Kd.V_get HO_0.out [] x5_1 p221 (by first|exact q221|exact of_decide_eq_true (by assumption)|(have e_:=(Kd.V_reads' HO_0.out).1;omega))
     obtain ⟨ua221_0,uc221_0,rfl,ul221_0,ge221_0⟩:=Kd.FK_slice_open hMe221
     have hv221_0:=hcc221 0 _ rfl
     rw [Nat.add_zero,show ((Kd.slice 3 (Kd.int .i64))).sz=1 from rfl,Nat.mul_one] at hv221_0
     replace hv221_0:=Option.some.inj (hv221_0.symm.trans hx221_0)
     injection hv221_0 with hva_ hvn_ hvc_
     rw [hva_] at ge221_0
     rw [hvc_] at ul221_0
     have HL221_0:=Aside0.mk (show Kd.V (Kd.int .i64) 3 _ w.heap.size _ _ (rd_L3 l0 x5_1) from Kd.V_mk ul221_0 ge221_0)
     clear hva_ hvn_ hvc_ ge221_0 ul221_0
     clear hcc221 hce221
     have HR221_0:=Aside0.mk hi221_0
     have HC221_0:=Aside0.mk hl221_0
     clear hi221_0 hl221_0
     replace p221:=eq_true p221
     replace q221:=eq_true q221
     go_wp2_with (first|(go_at_call 82;(with_reducible refine (spec_l07Before.calls _ _ (rd_L3 l0 x5_1) _ _ l1 false _ ?side1 ?side2 ?side3 ?side4 A6.out).mono ?_);(case side1=>repeat (first|exact (by repeat (first|(with_reducible exact HR221_0.out)|(with_reducible refine Kd.C_alloc ?_ _)|(with_reducible refine Kd.C_drewN ?_ _)|(with_reducible refine Kd.C_drew ?_)|exact HR221_0.out))|(with_reducible refine Kd.C_alloc ?_ _)|(with_reducible refine Kd.C_drewN ?_ _)|(with_reducible refine Kd.C_drew ?_)));(case side2=>exact HC221_0.out);(case side3=>repeat (first|exact (Kd.C_below HR1.out HB.out)|(with_reducible refine Kd.C_alloc ?_ _)|(with_reducible refine Kd.C_drewN ?_ _)|(with_reducible refine Kd.C_drew ?_)));(case side4=>exact HC1.out);rintro e w' ⟨rfl,⟨nd,rfl⟩⟩))
     go_meet
     case rel=>exact ⟨_,(x5_1),(by first|rfl|(simp;done)|(simp [*];done)),H',⟨by have:=HK1.out;first|omega|exact Nat.le_refl _⟩,⟨by (with_reducible repeat (first|apply vA|apply vN|apply vD));exact HO_0.out⟩,⟨by repeat (with_reducible first|exact HB.out|apply bA|apply bN|apply bD)⟩⟩
   ·rw [if_neg c4] at H
    have c4b0:decide (x5_1 < (l0.length:Int))=false:=decide_eq_false c4
    clear c4
    (first|rw [c4b0]|(simp only [i64_w,i32_w];rw [c4b0])|skip)
    have H':=Aside0.mk H
    clear H
    go_wp2
    go_meet
    case rel=>exact ⟨_,(x5_1),(by first|rfl|(simp;done)|(simp [*];done)),H',⟨by have:=HK1.out;first|omega|exact Nat.le_refl _⟩,⟨by (with_reducible repeat (first|apply vA|apply vN|apply vD));exact HO_0.out⟩,⟨by repeat (with_reducible first|exact HB.out|apply bA|apply bN|apply bD)⟩⟩
 case rest =>
  clear HC3
  obtain ⟨kq,x5_2,rfl,HA,HJ2,HO_0,HB⟩:=hcut
  rcases kq with _|kj2
  ·exact absurd HA.out (by simp [spec_l07Put.j1])
  have H:=HA.out
  clear HA
  simp only [spec_l07Put.j1] at H
  obtain ⟨y223,hy223⟩ : ∃ y_:List (List Int),y_=(([]:List (List Int))):=⟨_,rfl⟩
  replace H:(if 0≤x5_2 then (if x5_2≤(l0.length:Int) then ((some (l0.take (x5_2:Int).toNat:List (List Int))).bind fun y226=>(if y223.length+y226.length < 5864062014805 then ((some (y223++y226:List (List Int))).bind fun y231=>(if 2 < (l1.length:Int) then ((some (l0.drop (x5_2:Int).toNat:List (List Int))).bind fun y235=>(if x5_2 < (l0.length:Int) then (if 0 < ((rd_L3 l0 x5_2).length:Int) then (if 0 < (l1.length:Int) then (if (rd (rd_L3 l0 x5_2) 0)=(rd l1 0) then (if 1 < ((rd_L3 l0 x5_2).length:Int) then (if 1 < (l1.length:Int) then (spec_l07Put.j2 kj2 l0 l1 x5_2 y231 (rd l1 2) y235 ((rd (rd_L3 l0 x5_2) 1) == (rd l1 1))) else (none)) else (none)) else (spec_l07Put.j2 kj2 l0 l1 x5_2 y231 (rd l1 2) y235 false)) else (none)) else (none)) else (spec_l07Put.j2 kj2 l0 l1 x5_2 y231 (rd l1 2) y235 false))) else (none))) else (none))) else (none)) else (none))=some r:=by (try rw [hy223]);first|with_reducible exact H|with_reducible exact (Option.bind_some _ _).symm.trans H|exact H
  have Ny223:=Aside0.mk hy223
  clear hy223
  by_cases c8:0≤x5_2
  rotate_left;·rw [if_neg c8] at H;exact absurd H (by simp)
  rw [if_pos c8] at H
  have c8b0:=eq_true c8
  have c8b1:decide (0≤x5_2)=true:=decide_eq_true c8
  clear c8
  by_cases c9:x5_2≤(l0.length:Int)
  rotate_left;·rw [if_neg c9] at H;exact absurd H (by simp)
  rw [if_pos c9] at H
  have c9b0:=eq_true c9
  have c9b1:decide (x5_2≤(l0.length:Int))=true:=decide_eq_true c9
  clear c9
  obtain ⟨y226,hy226⟩ : ∃ y_:List (List Int),y_=(l0.take (x5_2:Int).toNat):=⟨_,rfl⟩
  replace H:(if y223.length+y226.length < 5864062014805 then ((some (y223++y226:List (List Int))).bind fun y231=>(if 2 < (l1.length:Int) then ((some (l0.drop (x5_2:Int).toNat:List (List Int))).bind fun y235=>(if x5_2 < (l0.length:Int) then (if 0 < ((rd_L3 l0 x5_2).length:Int) then (if 0 < (l1.length:Int) then (if (rd (rd_L3 l0 x5_2) 0)=(rd l1 0) then (if 1 < ((rd_L3 l0 x5_2).length:Int) then (if 1 < (l1.length:Int) then (spec_l07Put.j2 kj2 l0 l1 x5_2 y231 (rd l1 2) y235 ((rd (rd_L3 l0 x5_2) 1) == (rd l1 1))) else (none)) else (none)) else (spec_l07Put.j2 kj2 l0 l1 x5_2 y231 (rd l1 2) y235 false)) else (none)) else (none)) else (spec_l07Put.j2 kj2 l0 l1 x5_2 y231 (rd l1 2) y235 false))) else (none))) else (none))=some r:=by (try rw [hy226]);first|with_reducible exact H|with_reducible exact (Option.bind_some _ _).symm.trans H|exact H
  have Ny226:=Aside0.mk hy226
  clear hy226
  by_cases c10:y223.length+y226.length < 5864062014805
  rotate_left;·rw [if_neg c10] at H;exact absurd H (by simp)
  rw [if_pos c10] at H
  have LMc10:=Aside0.mk c10
  clear c10
  obtain ⟨y231,hy231⟩ : ∃ y_:List (List Int),y_=(y223++y226):=⟨_,rfl⟩
  replace H:(if 2 < (l1.length:Int) then ((some (l0.drop (x5_2:Int).toNat:List (List Int))).bind fun y235=>(if x5_2 < (l0.length:Int) then (if 0 < ((rd_L3 l0 x5_2).length:Int) then (if 0 < (l1.length:Int) then (if (rd (rd_L3 l0 x5_2) 0)=(rd l1 0) then (if 1 < ((rd_L3 l0 x5_2).length:Int) then (if 1 < (l1.length:Int) then (spec_l07Put.j2 kj2 l0 l1 x5_2 y231 (rd l1 2) y235 ((rd (rd_L3 l0 x5_2) 1) == (rd l1 1))) else (none)) else (none)) else (spec_l07Put.j2 kj2 l0 l1 x5_2 y231 (rd l1 2) y235 false)) else (none)) else (none)) else (spec_l07Put.j2 kj2 l0 l1 x5_2 y231 (rd l1 2) y235 false))) else (none))=some r:=by (try rw [hy231]);first|with_reducible exact H|with_reducible exact (Option.bind_some _ _).symm.trans H|exact H
  have Ny231:=Aside0.mk hy231
  clear hy231
  by_cases c11:2 < (l1.length:Int)
  rotate_left;·rw [if_neg c11] at H;exact absurd H (by simp)
  rw [if_pos c11] at H
  have c11b0:decide (2 < (l1.length:Int))=true:=decide_eq_true c11
  have c11b1:decide (2 < l1.length)=true:=decide_eq_true (by omega)
  clear c11
  have c12b0:=eq_true (of_decide_eq_true (by assumption):0≤x5_2)
  have c13b0:=eq_true (of_decide_eq_true (by assumption):x5_2≤(l0.length:Int))
  obtain ⟨y235,hy235⟩ : ∃ y_:List (List Int),y_=(l0.drop (x5_2:Int).toNat):=⟨_,rfl⟩
  replace H:(if x5_2 < (l0.length:Int) then (if 0 < ((rd_L3 l0 x5_2).length:Int) then (if 0 < (l1.length:Int) then (if (rd (rd_L3 l0 x5_2) 0)=(rd l1 0) then (if 1 < ((rd_L3 l0 x5_2).length:Int) then (if 1 < (l1.length:Int) then (spec_l07Put.j2 kj2 l0 l1 x5_2 y231 (rd l1 2) y235 ((rd (rd_L3 l0 x5_2) 1) == (rd l1 1))) else (none)) else (none)) else (spec_l07Put.j2 kj2 l0 l1 x5_2 y231 (rd l1 2) y235 false)) else (none)) else (none)) else (spec_l07Put.j2 kj2 l0 l1 x5_2 y231 (rd l1 2) y235 false))=some r:=by (try rw [hy235]);first|with_reducible exact H|with_reducible exact (Option.bind_some _ _).symm.trans H|exact H
  have Ny235:=Aside0.mk hy235
  clear hy235
  have HC14:=Aside0.mk H
  clear H
  go_upto_region 8 with (first|((with_reducible refine gate_dst (N:=23) rfl ?_);refine Kd.N_lit (Kd.slice 3 (Kd.int .i64)) _ 45 ?hg (N':=23) ?hd (xs:=([]:List (List Int))) (inner:=[]) (ok:=(fun k_=>(P0_ k_∨w.heap.size≤k_))) (okp:=(fun k_=>(P0_ k_∨w.heap.size≤k_))) ?hr ?hp (fun _ hk=>hk) ((show ∀ k_,wc.heap.size≤k_→(fun k_=>(P0_ k_∨w.heap.size≤k_)) k_ from fun k_ hk=>(.inr (Nat.le_trans (below_size (by repeat (with_reducible first|exact HB.out|apply bA|apply bN|apply bD))) hk))) _ (Nat.le_refl _)) (Below.refl _ _) (Nat.le_refl _) (by simp) ?_;(case hd=>rfl);(case hg=>rfl);(case hr=>first|(go_simp;done)|(go_simp;rfl));(case hp=>exact (Reps.none _ _));intro v224 w15 ho16 hb hg_ hnew_;clear hg_ hnew_;(first|rw [← Ny223.out] at ho16|(simp only [Int.reduceToNat] at ho16;rw [← Ny223.out] at ho16));have n0_:=Aside0.mk (Kd.V_elder' (by (with_reducible repeat (first|apply vA|apply vN|apply vD));exact HO_0.out) (Kd.N_base ho16) hb);have n1_:=Aside0.mk (Kd.N_lower ho16 (below_size (by repeat (with_reducible first|exact HB.out|apply bA|apply bN|apply bD))));have n2_:=Aside0.mk (below_step (by repeat (with_reducible first|exact HB.out|apply bA|apply bN|apply bD)) hb);clear HO_0;clear HB;have HO_0:=n0_;have HO225:=n1_;have HB:=n2_;clear n0_ n1_ n2_;clear hb ho16;have q17:(x5_2:Int)≤((l0.length:Int):Int):=of_decide_eq_true (by assumption);obtain ⟨i017,hi017,_,hsz17,_⟩:=info_parts info45;have hroom17:l0.length≤c0:=(Kd.V_reads' HO_0.out).2.1;have hC17:Kd.F (Kd.slice 3 (Kd.int .i64)) _ _ A0 l0.length l0:=(Kd.V_at (base:=w.heap.size) HO_0.out).2.2;have hcut17:=cut_to (P:=Try.prog) 33 45 .i64 Try.underlying33 hi017 A0 l0.length c0 x5_2 (of_decide_eq_true (by assumption)) q17 hroom17;have hr17:=Kd.F_take (m:=(x5_2:Int).toNat) hC17 (by omega);have hy17:y226.length=(x5_2:Int).toNat:=(by rw [Ny226.out,List.length_take];omega);rw [← Ny226.out] at hr17;rw [← hy17] at hcut17;have HO230:=Aside0.mk (show Kd.V (Kd.slice 3 (Kd.int .i64)) 45 _ w.heap.size _ (.slice A0 y226.length c0) y226 from Kd.V_mk (by omega) hr17);have HC230:=Aside0.mk (show y226.length≤c0 from by omega);clear hr17 hC17 hroom17 hi017 hsz17;have KY17:=Aside0.mk hy17;clear hy17;replace q17:=eq_true q17)|((with_reducible refine gate_builtin (b:=.append) (xs:=#[.tmp 24,.tmp 27]) rfl ?_);at_builtin;refine Kd.N_append_rows (Kd.slice 3 (Kd.int .i64)) (w0:=w) w.heap.size rfl (.tmp 24) (.tmp 27) 33 45 (.slice none 0 0) 24 rfl Try.underlying33 info45 rfl (by decide) (by omega) v224 y223 y226 _ _ _ (fun k_=>(P0_ k_∨w.heap.size≤k_)) (fun k_=>((fun k_=>(P0_ k_∨w.heap.size≤k_))) k_∧some k_≠(v224:Value).ownBlock) rfl rfl ?aO ?aR (fun _ hk=>hk) ?aF ?aB ?aS ?aL ?_;(case aR=>exact (by skip;exact Kd.V_F (Kd.V_mono (ok':=(fun k_=>((fun k_=>(P0_ k_∨w.heap.size≤k_))) k_∧some k_≠(v224:Value).ownBlock)) (HO230.out) (fun k_ hk=>⟨hk.1,hk.2⟩))));(case aB=>exact (by repeat (with_reducible first|exact HB.out|apply bA|apply bN|apply bD)));(case aF=>exact (fun k_ hk=>(.inr (Nat.le_trans (below_size (by repeat (with_reducible first|exact HB.out|apply bA|apply bN|apply bD))) hk))));(case aO=>exact (by (with_reducible repeat (first|apply nA|apply nN|apply nD));exact HO225.out));(case aS=>exact (below_size (by repeat (with_reducible first|exact HB.out|apply bA|apply bN|apply bD))));(case aL=>have:=LMc10.out;omega);intro v232 w18 ho hb hg hat;rw [← Ny231.out] at ho;have n0_:=Aside0.mk (Kd.V_afterv (ok:=(fun k_=>(P0_ k_∨w.heap.size≤k_))) (by (with_reducible repeat (first|apply vA|apply vN|apply vD));exact HO_0.out) hg hat);have n1_:=Aside0.mk (Kd.V_afterv (ok:=(fun k_=>(P0_ k_∨w.heap.size≤k_))) (by (with_reducible repeat (first|apply vA|apply vN|apply vD));exact HO230.out) hg hat);have n2_:=Aside0.mk (hb);have n3_:=Aside0.mk (ho);clear HO_0;clear HO230;clear HB;clear HO225;have HO_0:=n0_;have HO230:=n1_;have HB:=n2_;have HO233:=n3_;clear n0_ n1_ n2_ n3_;clear ho hb hg hat;have p234:0≤(2:Int):=(by omega);have q234:2 < (l1.length:Int):=of_decide_eq_true (by assumption);obtain ⟨ad234,e234,hx234_0⟩:=Kd.at_int HR1.out 2 p234 q234;cases e234;(try simp only [show (2:Int).toNat=2 from rfl,Nat.reduceMul,Nat.reduceEqDiff,Go.Addr.add,↓reduceIte] at hx234_0);have qi234:(2 < l1.length)=True:=eq_true (by omega);(try rw [show ((2:Int)).toNat=2 from rfl] at hx234_0);replace hx234_0:=cK HB.out hx234_0;replace p234:=eq_true p234;replace q234:=eq_true q234;have q19:(x5_2:Int)≤((l0.length:Int):Int):=of_decide_eq_true (by assumption);obtain ⟨i019,hi019,_,hsz19,_⟩:=info_parts info45;have hroom19:l0.length≤c0:=(Kd.V_reads' HO_0.out).2.1;have hC19:Kd.F (Kd.slice 3 (Kd.int .i64)) _ _ A0 l0.length l0:=(Kd.V_at (base:=w.heap.size) HO_0.out).2.2;have q019:(0:Int)≤(x5_2:Int):=of_decide_eq_true (by assumption);have hcut19:=cut_from (P:=Try.prog) 33 45 .i64 Try.underlying33 hi019 1 hsz19 A0 l0.length c0 x5_2 q019 q19;have hr19:=Kd.F_cut (m:=(x5_2:Int).toNat) (c:=c0) hC19 (by omega) hroom19;obtain ⟨A19,hA19⟩ : ∃ A1,A1=(if c0=(x5_2:Int).toNat then A0 else (A0:Option Addr).map (·.add ((x5_2:Int).toNat * 1))):=⟨_,rfl⟩;obtain ⟨c19,hc19⟩ : ∃ c1,c1=c0 - (x5_2:Int).toNat:=⟨_,rfl⟩;have hy19:y235.length=l0.length - (x5_2:Int).toNat:=(by rw [Ny235.out,List.length_drop] <;> omega);rw [show (l0).drop (x5_2:Int).toNat=y235 from Ny235.out.symm] at hr19;replace hr19:Kd.F (Kd.slice 3 (Kd.int .i64)) _ _ A19 y235.length y235:=(by rw [hA19];exact hr19);rw [← hy19,← hA19,← hc19] at hcut19;have HO239:=Aside0.mk (show Kd.V (Kd.slice 3 (Kd.int .i64)) 45 _ w.heap.size _ (.slice A19 y235.length c19) y235 from Kd.V_mk (by rw [hy19,hc19];exact Nat.sub_le_sub_right hroom19 _) hr19);have HC239:=Aside0.mk (show y235.length≤c19 from by rw [hy19,hc19];exact Nat.sub_le_sub_right hroom19 _);clear hr19 hC19 hroom19 hi019 hsz19 hc19;have KY19:=Aside0.mk hy19;have KA19:=Aside0.mk hA19;clear hy19 hA19;replace q19:=eq_true q19))
  (try simp only [Act.put,List.setIfInBounds_toArray,List.set_cons_zero,List.set_cons_succ])
  go_cut [62] (fun v62 wc=>∃ (kq:Nat) (x62_13:Bool),v62=.bool x62_13∧Aside0 (spec_l07Put.j2 kq l0 l1 x5_2 y231 (rd l1 2) y235 x62_13=some r)∧Aside0 (kq≤kj2)∧Aside0 (Kd.V (Kd.slice 3 (Kd.int .i64)) 45 wc w.heap.size (fun k_=>(P0_ k_∨w.heap.size≤k_)∧some k_≠(v232:Value).ownBlock) (.slice A0 l0.length c0) l0)∧Aside0 (Kd.N (Kd.slice 3 (Kd.int .i64)) 45 wc w.heap.size (fun k_=>(P0_ k_∨w.heap.size≤k_)) v232 y231)∧Aside0 (Kd.V (Kd.slice 3 (Kd.int .i64)) 45 wc w.heap.size (fun k_=>(P0_ k_∨w.heap.size≤k_)∧some k_≠(v232:Value).ownBlock) (.slice A19 y235.length c19) y235)∧Aside0 (Below w.heap.size w wc))
  case first =>
   have H:=HC14.out
   clear HC14
   by_cases c20:x5_2 < (l0.length:Int)
   ·rw [if_pos c20] at H
    have c20b0:decide (x5_2 < (l0.length:Int))=true:=decide_eq_true c20
    clear c20
    (first|rw [c20b0]|(simp only [i64_w,i32_w];rw [c20b0])|skip)
    by_cases c21:0 < ((rd_L3 l0 x5_2).length:Int)
    rotate_left;·rw [if_neg c21] at H;exact absurd H (by simp)
    rw [if_pos c21] at H
    have c21b0:decide (0 < ((rd_L3 l0 x5_2).length:Int))=true:=decide_eq_true c21
    have c21b1:decide (0 < (rd_L3 l0 x5_2).length)=true:=decide_eq_true (by omega)
    clear c21
    by_cases c22:0 < (l1.length:Int)
    rotate_left;·rw [if_neg c22] at H;exact absurd H (by simp)
    rw [if_pos c22] at H
    have c22b0:decide (0 < (l1.length:Int))=true:=decide_eq_true c22
    have c22b1:decide (0 < l1.length)=true:=decide_eq_true (by omega)
    clear c22
    by_cases c23:(rd (rd_L3 l0 x5_2) 0)=(rd l1 0)
    ·rw [if_pos c23] at H
     have c23b0:((rd (rd_L3 l0 x5_2) 0) == (rd l1 0))=true:=beq_iff_eq.mpr c23
     have c23b1:((rd (rd_L3 l0 x5_2) 0) != (rd l1 0))=false:=bne_eq_false_iff_eq.mpr c23
     clear c23
     by_cases c24:1 < ((rd_L3 l0 x5_2).length:Int)
     rotate_left;·rw [if_neg c24] at H;exact absurd H (by simp)
     rw [if_pos c24] at H
     have c24b0:decide (1 < ((rd_L3 l0 x5_2).length:Int))=true:=decide_eq_true c24
     have c24b1:decide (1 < (rd_L3 l0 x5_2).length)=true:=decide_eq_true (by omega)
     clear c24
     by_cases c25:1 < (l1.length:Int)
     rotate_left;·rw [if_neg c25] at H;exact absurd H (by simp)
     rw [if_pos c25] at H
     have c25b0:decide (1 < (l1.length:Int))=true:=decide_eq_true c25
     have c25b1:decide (1 < l1.length)=true:=decide_eq_true (by omega)
     clear c25
     have H':=Aside0.mk H
     clear H
     try go_wp2
     have n0_:=Aside0.mk (Kd.V_drew HO_0.out)
     have n1_:=Aside0.mk (Kd.V_drew HO230.out)
     have n2_:=Aside0.mk (Kd.N_drew HO233.out)
     have n3_:=Aside0.mk (Kd.V_drew HO239.out)
     have n4_:=Aside0.mk (below_drew1 HB.out)
     clear HO_0
     clear HO230
     clear HO233
     clear HO239
     clear HB
     have HO_0:=n0_
     have HO230:=n1_
     have HO233:=n2_
     have HO239:=n3_
     have HB:=n4_
     clear n0_ n1_ n2_ n3_ n4_
     have p240:0≤(x5_2:Int):=of_decide_eq_true (by assumption)
     have q240:x5_2 < (l0.length:Int):=of_decide_eq_true (by assumption)
     obtain ⟨ad240,A240_0,c240_0,e240,hx240_0,hl240_0,hi240_0⟩:=at_L3 (Kd.V_reads' HO_0.out).2.2 x5_2 p240 q240
     cases e240
     obtain ⟨ce240,hce240,hMe240,hcc240⟩:=Kd.V_get HO_0.out [] x5_2 p240 (by first|exact q240|exact of_decide_eq_true (by assumption)|(have e_:=(Kd.V_reads' HO_0.out).1;omega))
     obtain ⟨ua240_0,uc240_0,rfl,ul240_0,ge240_0⟩:=Kd.FK_slice_open hMe240
     have hv240_0:=hcc240 0 _ rfl
     rw [Nat.add_zero,show ((Kd.slice 3 (Kd.int .i64))).sz=1 from rfl,Nat.mul_one] at hv240_0
     replace hv240_0:=Option.some.inj (hv240_0.symm.trans hx240_0)
     injection hv240_0 with hva_ hvn_ hvc_
     rw [hva_] at ge240_0
     rw [hvc_] at ul240_0
     have HL240_0:=Aside0.mk (show Kd.V (Kd.int .i64) 3 _ w.heap.size _ _ (rd_L3 l0 x5_2) from Kd.V_mk ul240_0 ge240_0)
     clear hva_ hvn_ hvc_ ge240_0 ul240_0
     clear hcc240 hce240
     have HR240_0:=Aside0.mk hi240_0
     have HC240_0:=Aside0.mk hl240_0
     clear hi240_0 hl240_0
     replace p240:=eq_true p240
     replace q240:=eq_true q240
     have p241:0≤(0:Int):=(by omega)
     have q241:0 < ((rd_L3 l0 x5_2).length:Int):=of_decide_eq_true (by assumption)
     obtain ⟨ad241,e241,hx241_0⟩:=Kd.at_int (by repeat (first|(with_reducible exact HR240_0.out)|(with_reducible refine Kd.C_alloc ?_ _)|(with_reducible refine Kd.C_drewN ?_ _)|(with_reducible refine Kd.C_drew ?_)|exact HR240_0.out)) 0 p241 q241
     cases e241
     have qi241:(0 < (rd_L3 l0 x5_2).length)=True:=eq_true (by omega)
     (try rw [show ((0:Int)).toNat=0 from rfl] at hx241_0)
     (try rw [Addr.add_zero'] at hx241_0)
     replace p241:=eq_true p241
     replace q241:=eq_true q241
     have p242:0≤(0:Int):=(by omega)
     have q242:0 < (l1.length:Int):=of_decide_eq_true (by assumption)
     obtain ⟨ad242,e242,hx242_0⟩:=Kd.at_int HR1.out 0 p242 q242
     have hw242_0:=hx242_0
     (try rw [show ((0:Int)).toNat=0 from rfl] at hw242_0)
     (try rw [show 0 * 1=0 from rfl] at hw242_0)
     (try rw [Addr.add_zero'] at hw242_0)
     obtain rfl:ad234=ad242:=(by injection e242)
     have qi242:(0 < l1.length)=True:=eq_true (by omega)
     (try rw [show ((0:Int)).toNat=0 from rfl] at hx242_0)
     (try rw [Addr.add_zero'] at hx242_0)
     replace hx242_0:=cK HB.out hx242_0
     replace p242:=eq_true p242
     replace q242:=eq_true q242
     have p243:0≤(x5_2:Int):=of_decide_eq_true (by assumption)
     have q243:x5_2 < (l0.length:Int):=of_decide_eq_true (by assumption)
     obtain ⟨ad243,A243_0,c243_0,e243,hx243_0,hl243_0,hi243_0⟩:=at_L3 (Kd.V_reads' HO_0.out).2.2 x5_2 p243 q243
     obtain rfl:ad240=ad243:=(by injection e243)
     obtain ⟨ce243,hce243,hMe243,hcc243⟩:=Kd.V_get HO_0.out [] x5_2 p243 (by first|exact q243|exact of_decide_eq_true (by assumption)|(have e_:=(Kd.V_reads' HO_0.out).1;omega))
     obtain ⟨ua243_0,uc243_0,rfl,ul243_0,ge243_0⟩:=Kd.FK_slice_open hMe243
     have hv243_0:=hcc243 0 _ rfl
     rw [Nat.add_zero,show ((Kd.slice 3 (Kd.int .i64))).sz=1 from rfl,Nat.mul_one] at hv243_0
     replace hv243_0:=Option.some.inj (hv243_0.symm.trans hx243_0)
     injection hv243_0 with hva_ hvn_ hvc_
     rw [hva_] at ge243_0
     rw [hvc_] at ul243_0
     have HL243_0:=Aside0.mk (show Kd.V (Kd.int .i64) 3 _ w.heap.size _ _ (rd_L3 l0 x5_2) from Kd.V_mk ul243_0 ge243_0)
     clear hva_ hvn_ hvc_ ge243_0 ul243_0
     clear hcc243 hce243
     have HR243_0:=Aside0.mk hi243_0
     have HC243_0:=Aside0.mk hl243_0
     clear hi243_0 hl243_0
     replace p243:=eq_true p243
     replace q243:=eq_true q243
     have ea_:=Option.some.inj (hx240_0.symm.trans hx243_0)
     injection ea_ with ea_ en_ ec_
     subst ea_
     subst ec_
     clear en_
     have p244:0≤(1:Int):=(by omega)
     have q244:1 < ((rd_L3 l0 x5_2).length:Int):=of_decide_eq_true (by assumption)
     obtain ⟨ad244,e244,hx244_0⟩:=Kd.at_int (by repeat (first|(with_reducible exact HR243_0.out)|(with_reducible refine Kd.C_alloc ?_ _)|(with_reducible refine Kd.C_drewN ?_ _)|(with_reducible refine Kd.C_drew ?_)|exact HR243_0.out)) 1 p244 q244
     obtain rfl:ad241=ad244:=(by injection e244)
     (try simp only [show (1:Int).toNat=1 from rfl,Nat.reduceMul,Nat.reduceEqDiff,Go.Addr.add,↓reduceIte] at hx244_0)
     have qi244:(1 < (rd_L3 l0 x5_2).length)=True:=eq_true (by omega)
     (try rw [show ((1:Int)).toNat=1 from rfl] at hx244_0)
     replace p244:=eq_true p244
     replace q244:=eq_true q244
     have p245:0≤(1:Int):=(by omega)
     have q245:1 < (l1.length:Int):=of_decide_eq_true (by assumption)
     obtain ⟨ad245,e245,hx245_0⟩:=Kd.at_int HR1.out 1 p245 q245
     have hw245_0:=hx245_0
     (try rw [show ((1:Int)).toNat=1 from rfl] at hw245_0)
     (try rw [show 1 * 1=1 from rfl] at hw245_0)
     (try simp only [Nat.reduceMul,Nat.reduceEqDiff,Go.Addr.add,↓reduceIte] at hw245_0)
     obtain rfl:ad234=ad245:=(by injection e245)
     (try simp only [show (1:Int).toNat=1 from rfl,Nat.reduceMul,Nat.reduceEqDiff,Go.Addr.add,↓reduceIte] at hx245_0)
     have qi245:(1 < l1.length)=True:=eq_true (by omega)
     (try rw [show ((1:Int)).toNat=1 from rfl] at hx245_0)
     replace hx245_0:=cK HB.out hx245_0
     replace p245:=eq_true p245
     replace q245:=eq_true q245
     refine start_ (n:=28) (S:=fun w'=>w'.cell? (ad240.add (x5_2).toNat)=some (.slice (some ad241) (rd_L3 l0 x5_2).length c240_0)∧w'.cell? ad241=some (.int .i64 (rd (rd_L3 l0 x5_2) 0))∧w'.cell? ad234=some (.int .i64 (rd l1 0))∧w'.cell? (ad240.add (x5_2).toNat)=some (.slice (some ad241) (rd_L3 l0 x5_2).length c240_0)∧w'.cell? ⟨ad241.block,ad241.off+1,none⟩=some (.int .i64 (rd (rd_L3 l0 x5_2) 1))∧w'.cell? ⟨ad234.block,ad234.off+1,none⟩=some (.int .i64 (rd l1 1))) (ds:=[]) (bV 28 0) (by kernel_rfl) rfl rfl ⟨hx240_0,hx241_0,(cK HB.out hw242_0),hx243_0,hx244_0,(cK HB.out hw245_0)⟩ (fun hHeld=>?_);refine with_tabW spec_l07Put.tab8 spec_l07Put.bits8 (fun HT_ HW_=>?_)
     generalize w18.drew=w26 at HO_0 HO230 HO233 HO239 HB HL240_0 HL243_0 HR240_0 HR243_0 hx240_0 hx241_0 hx242_0 hx243_0 hx244_0 hx245_0 hHeld ⊢
     refine pT 0 35 (bV 28 1) HT_.out ?_
     refine pT 1 36 (bV 28 3) HT_.out ?_
     refine pT 2 37 (bV 28 7) HT_.out ?_
     refine pT 3 38 (bV 28 15) HT_.out ?_
     refine pT 4 39 (bV 28 31) HT_.out ?_
     refine pT 5 40 (bV 28 63) HT_.out ?_
     refine pT 6 41 (bV 28 127) HT_.out ?_
     refine pT 7 42 (bV 28 255) HT_.out ?_
     refine pT 11 46 (bV 28 2303) HT_.out ?_
     refine pT 12 47 (bV 28 6399) HT_.out ?_
     refine tI 8 43 (bV 28 6655) rfl (take_ofW HT_.out HW_.out (by kernel_rfl)) hHeld (by rintro w' ⟨s0,s1,s2,s3,s4,s5⟩;go_simp;with_reducible rfl) ?_
     refine pT 9 44 (bV 28 7167) HT_.out ?_
     refine tI 10 45 (bV 28 8191) rfl (take_ofW HT_.out HW_.out (by kernel_rfl)) hHeld (by rintro w' ⟨s0,s1,s2,s3,s4,s5⟩;go_simp;with_reducible rfl) ?_
     refine tI 13 48 (bV 28 16383) rfl (take_ofW HT_.out HW_.out (by kernel_rfl)) hHeld (by rintro w' ⟨s0,s1,s2,s3,s4,s5⟩;go_simp;with_reducible rfl) ?_
     refine pT 14 49 (bV 28 32767) HT_.out ?_
     refine pT 15 50 (bV 28 65535) HT_.out ?_
     refine pT 16 51 (bV 28 131071) HT_.out ?_
     refine pT 17 52 (bV 28 262143) HT_.out ?_
     refine pT 18 53 (bV 28 524287) HT_.out ?_
     refine pT 19 54 (bV 28 1048575) HT_.out ?_
     refine pT 23 58 (bV 28 9437183) HT_.out ?_
     refine pT 24 59 (bV 28 26214399) HT_.out ?_
     refine tI 20 55 (bV 28 27262975) rfl (take_ofW HT_.out HW_.out (by kernel_rfl)) hHeld (by rintro w' ⟨s0,s1,s2,s3,s4,s5⟩;go_simp;with_reducible rfl) ?_
     refine pT 21 56 (bV 28 29360127) HT_.out ?_
     refine tI 22 57 (bV 28 33554431) rfl (take_ofW HT_.out HW_.out (by kernel_rfl)) hHeld (by rintro w' ⟨s0,s1,s2,s3,s4,s5⟩;go_simp;with_reducible rfl) ?_
     refine tI 25 60 (bV 28 67108863) rfl (take_ofW HT_.out HW_.out (by kernel_rfl)) hHeld (by rintro w' ⟨s0,s1,s2,s3,s4,s5⟩;go_simp;with_reducible rfl) ?_
     refine pT 26 61 (bV 28 134217727) HT_.out ?_
     refine pT 27 62 (bV 28 268435455) HT_.out ?_
     refine done_ (done_of HT_.out (by kernel_rfl)) ?_
     try go_wp2
     go_meet
     case rel=>exact ⟨_,(((rd (rd_L3 l0 x5_2) 1) == (rd l1 1))),(by first|rfl|(simp;done)|(simp [*];done)),H',⟨by have:=HJ2.out;first|omega|exact Nat.le_refl _⟩,⟨by (with_reducible repeat (first|apply vA|apply vN|apply vD));exact HO_0.out⟩,⟨by (with_reducible repeat (first|apply nA|apply nN|apply nD));exact HO233.out⟩,⟨by (with_reducible repeat (first|apply vA|apply vN|apply vD));exact HO239.out⟩,⟨by repeat (with_reducible first|exact HB.out|apply bA|apply bN|apply bD)⟩⟩
    ·rw [if_neg c23] at H
     have c23b0:((rd (rd_L3 l0 x5_2) 0) == (rd l1 0))=false:=beq_eq_false_iff_ne.mpr c23
     have c23b1:((rd (rd_L3 l0 x5_2) 0) != (rd l1 0))=true:=bne_iff_ne.mpr c23
     have H':=Aside0.mk H
     clear H
     try go_wp2
     have n0_:=Aside0.mk (Kd.V_drew HO_0.out)
     have n1_:=Aside0.mk (Kd.V_drew HO230.out)
     have n2_:=Aside0.mk (Kd.N_drew HO233.out)
     have n3_:=Aside0.mk (Kd.V_drew HO239.out)
     have n4_:=Aside0.mk (below_drew1 HB.out)
     clear HO_0
     clear HO230
     clear HO233
     clear HO239
     clear HB
     have HO_0:=n0_
     have HO230:=n1_
     have HO233:=n2_
     have HO239:=n3_
     have HB:=n4_
     clear n0_ n1_ n2_ n3_ n4_
     have p240:0≤(x5_2:Int):=of_decide_eq_true (by assumption)
     have q240:x5_2 < (l0.length:Int):=of_decide_eq_true (by assumption)
     obtain ⟨ad240,A240_0,c240_0,e240,hx240_0,hl240_0,hi240_0⟩:=at_L3 (Kd.V_reads' HO_0.out).2.2 x5_2 p240 q240
     cases e240
     obtain ⟨ce240,hce240,hMe240,hcc240⟩:=Kd.V_get HO_0.out [] x5_2 p240 (by first|exact q240|exact of_decide_eq_true (by assumption)|(have e_:=(Kd.V_reads' HO_0.out).1;omega))
     obtain ⟨ua240_0,uc240_0,rfl,ul240_0,ge240_0⟩:=Kd.FK_slice_open hMe240
     have hv240_0:=hcc240 0 _ rfl
     rw [Nat.add_zero,show ((Kd.slice 3 (Kd.int .i64))).sz=1 from rfl,Nat.mul_one] at hv240_0
     replace hv240_0:=Option.some.inj (hv240_0.symm.trans hx240_0)
     injection hv240_0 with hva_ hvn_ hvc_
     rw [hva_] at ge240_0
     rw [hvc_] at ul240_0
     have HL240_0:=Aside0.mk (show Kd.V (Kd.int .i64) 3 _ w.heap.size _ _ (rd_L3 l0 x5_2) from Kd.V_mk ul240_0 ge240_0)
     clear hva_ hvn_ hvc_ ge240_0 ul240_0
     clear hcc240 hce240
     have HR240_0:=Aside0.mk hi240_0
     have HC240_0:=Aside0.mk hl240_0
     clear hi240_0 hl240_0
     replace p240:=eq_true p240
     replace q240:=eq_true q240
     have p241:0≤(0:Int):=(by omega)
     have q241:0 < ((rd_L3 l0 x5_2).length:Int):=of_decide_eq_true (by assumption)
     obtain ⟨ad241,e241,hx241_0⟩:=Kd.at_int (by repeat (first|(with_reducible exact HR240_0.out)|(with_reducible refine Kd.C_alloc ?_ _)|(with_reducible refine Kd.C_drewN ?_ _)|(with_reducible refine Kd.C_drew ?_)|exact HR240_0.out)) 0 p241 q241
     cases e241
     have qi241:(0 < (rd_L3 l0 x5_2).length)=True:=eq_true (by omega)
     (try rw [show ((0:Int)).toNat=0 from rfl] at hx241_0)
     (try rw [Addr.add_zero'] at hx241_0)
     replace p241:=eq_true p241
     replace q241:=eq_true q241
     have p242:0≤(0:Int):=(by omega)
     have q242:0 < (l1.length:Int):=of_decide_eq_true (by assumption)
     obtain ⟨ad242,e242,hx242_0⟩:=Kd.at_int HR1.out 0 p242 q242
     have hw242_0:=hx242_0
     (try rw [show ((0:Int)).toNat=0 from rfl] at hw242_0)
     (try rw [show 0 * 1=0 from rfl] at hw242_0)
     (try rw [Addr.add_zero'] at hw242_0)
     obtain rfl:ad234=ad242:=(by injection e242)
     have qi242:(0 < l1.length)=True:=eq_true (by omega)
     (try rw [show ((0:Int)).toNat=0 from rfl] at hx242_0)
     (try rw [Addr.add_zero'] at hx242_0)
     replace hx242_0:=cK HB.out hx242_0
     replace p242:=eq_true p242
     replace q242:=eq_true q242
     refine start_ (n:=28) (S:=fun w'=>w'.cell? (ad240.add (x5_2).toNat)=some (.slice (some ad241) (rd_L3 l0 x5_2).length c240_0)∧w'.cell? ad241=some (.int .i64 (rd (rd_L3 l0 x5_2) 0))∧w'.cell? ad234=some (.int .i64 (rd l1 0))) (ds:=[]) (bV 28 0) (by kernel_rfl) rfl rfl ⟨hx240_0,hx241_0,(cK HB.out hw242_0)⟩ (fun hHeld=>?_);refine with_tabW spec_l07Put.tab8 spec_l07Put.bits8 (fun HT_ HW_=>?_)
     generalize w18.drew=w27 at HO_0 HO230 HO233 HO239 HB HL240_0 HR240_0 hx240_0 hx241_0 hx242_0 hHeld ⊢
     refine pT 0 35 (bV 28 1) HT_.out ?_
     refine pT 1 36 (bV 28 3) HT_.out ?_
     refine pT 2 37 (bV 28 7) HT_.out ?_
     refine pT 3 38 (bV 28 15) HT_.out ?_
     refine pT 4 39 (bV 28 31) HT_.out ?_
     refine pT 5 40 (bV 28 63) HT_.out ?_
     refine pT 6 41 (bV 28 127) HT_.out ?_
     refine pT 7 42 (bV 28 255) HT_.out ?_
     refine pT 11 46 (bV 28 2303) HT_.out ?_
     refine pT 12 47 (bV 28 6399) HT_.out ?_
     refine tI 8 43 (bV 28 6655) rfl (take_ofW HT_.out HW_.out (by kernel_rfl)) hHeld (by rintro w' ⟨s0,s1,s2⟩;go_simp;with_reducible rfl) ?_
     refine pT 9 44 (bV 28 7167) HT_.out ?_
     refine tI 10 45 (bV 28 8191) rfl (take_ofW HT_.out HW_.out (by kernel_rfl)) hHeld (by rintro w' ⟨s0,s1,s2⟩;go_simp;with_reducible rfl) ?_
     refine tI 13 48 (bV 28 16383) rfl (take_ofW HT_.out HW_.out (by kernel_rfl)) hHeld (by rintro w' ⟨s0,s1,s2⟩;go_simp;with_reducible rfl) ?_
     refine pT 14 49 (bV 28 32767) HT_.out ?_
     refine pT 15 50 (bV 28 65535) HT_.out ?_
     refine pT 16 51 (bV 28 131071) HT_.out ?_
     refine pU 17 52 (bV 28 262143) HT_.out ?_
     refine pU 18 53 (bV 28 524287) HT_.out ?_
     refine pU 19 54 (bV 28 1048575) HT_.out ?_
     refine pU 20 55 (bV 28 2097151) HT_.out ?_
     refine pU 21 56 (bV 28 4194303) HT_.out ?_
     refine pU 22 57 (bV 28 8388607) HT_.out ?_
     refine pU 23 58 (bV 28 16777215) HT_.out ?_
     refine pU 24 59 (bV 28 33554431) HT_.out ?_
     refine pU 25 60 (bV 28 67108863) HT_.out ?_
     refine pU 26 61 (bV 28 134217727) HT_.out ?_
     refine pT 27 62 (bV 28 268435455) HT_.out ?_
     refine done_ (done_of HT_.out (by kernel_rfl)) ?_
     try go_wp2
     go_meet
     case rel=>exact ⟨_,(false),(by first|rfl|(simp;done)|(simp [*];done)),H',⟨by have:=HJ2.out;first|omega|exact Nat.le_refl _⟩,⟨by (with_reducible repeat (first|apply vA|apply vN|apply vD));exact HO_0.out⟩,⟨by (with_reducible repeat (first|apply nA|apply nN|apply nD));exact HO233.out⟩,⟨by (with_reducible repeat (first|apply vA|apply vN|apply vD));exact HO239.out⟩,⟨by repeat (with_reducible first|exact HB.out|apply bA|apply bN|apply bD)⟩⟩
   ·rw [if_neg c20] at H
    have c20b0:decide (x5_2 < (l0.length:Int))=false:=decide_eq_false c20
    clear c20
    (first|rw [c20b0]|(simp only [i64_w,i32_w];rw [c20b0])|skip)
    have H':=Aside0.mk H
    clear H
    try go_wp2
    have n0_:=Aside0.mk (Kd.V_drew HO_0.out)
    have n1_:=Aside0.mk (Kd.V_drew HO230.out)
    have n2_:=Aside0.mk (Kd.N_drew HO233.out)
    have n3_:=Aside0.mk (Kd.V_drew HO239.out)
    have n4_:=Aside0.mk (below_drew1 HB.out)
    clear HO_0
    clear HO230
    clear HO233
    clear HO239
    clear HB
    have HO_0:=n0_
    have HO230:=n1_
    have HO233:=n2_
    have HO239:=n3_
    have HB:=n4_
    clear n0_ n1_ n2_ n3_ n4_
    refine start_ (n:=28) (S:=fun w'=>True) (ds:=[]) (bV 28 0) (by kernel_rfl) rfl rfl trivial (fun hHeld=>?_);refine with_tabW spec_l07Put.tab8 spec_l07Put.bits8 (fun HT_ HW_=>?_)
    generalize w18.drew=w28 at HO_0 HO230 HO233 HO239 HB hHeld ⊢
    refine pT 0 35 (bV 28 1) HT_.out ?_
    refine pT 1 36 (bV 28 3) HT_.out ?_
    refine pT 2 37 (bV 28 7) HT_.out ?_
    refine pT 3 38 (bV 28 15) HT_.out ?_
    refine pT 4 39 (bV 28 31) HT_.out ?_
    refine pU 5 40 (bV 28 63) HT_.out ?_
    refine pU 6 41 (bV 28 127) HT_.out ?_
    refine pU 7 42 (bV 28 255) HT_.out ?_
    refine pU 8 43 (bV 28 511) HT_.out ?_
    refine pU 9 44 (bV 28 1023) HT_.out ?_
    refine pU 10 45 (bV 28 2047) HT_.out ?_
    refine pU 11 46 (bV 28 4095) HT_.out ?_
    refine pU 12 47 (bV 28 8191) HT_.out ?_
    refine pU 13 48 (bV 28 16383) HT_.out ?_
    refine pU 14 49 (bV 28 32767) HT_.out ?_
    refine pT 15 50 (bV 28 65535) HT_.out ?_
    refine pT 16 51 (bV 28 131071) HT_.out ?_
    refine pU 17 52 (bV 28 262143) HT_.out ?_
    refine pU 18 53 (bV 28 524287) HT_.out ?_
    refine pU 19 54 (bV 28 1048575) HT_.out ?_
    refine pU 20 55 (bV 28 2097151) HT_.out ?_
    refine pU 21 56 (bV 28 4194303) HT_.out ?_
    refine pU 22 57 (bV 28 8388607) HT_.out ?_
    refine pU 23 58 (bV 28 16777215) HT_.out ?_
    refine pU 24 59 (bV 28 33554431) HT_.out ?_
    refine pU 25 60 (bV 28 67108863) HT_.out ?_
    refine pU 26 61 (bV 28 134217727) HT_.out ?_
    refine pT 27 62 (bV 28 268435455) HT_.out ?_
    refine done_ (done_of HT_.out (by kernel_rfl)) ?_
    try go_wp2
    go_meet
    case rel=>exact ⟨_,(false),(by first|rfl|(simp;done)|(simp [*];done)),H',⟨by have:=HJ2.out;first|omega|exact Nat.le_refl _⟩,⟨by (with_reducible repeat (first|apply vA|apply vN|apply vD));exact HO_0.out⟩,⟨by (with_reducible repeat (first|apply nA|apply nN|apply nD));exact HO233.out⟩,⟨by (with_reducible repeat (first|apply vA|apply vN|apply vD));exact HO239.out⟩,⟨by repeat (with_reducible first|exact HB.out|apply bA|apply bN|apply bD)⟩⟩
  case rest =>
   clear HC14
   obtain ⟨kq,x62_13,rfl,HA,HJ13,HO_0,HO_6,HO_8,HB⟩:=hcut
   rcases kq with _|kj13
   ·exact absurd HA.out (by simp [spec_l07Put.j2])
   have H:=HA.out
   clear HA
   simp only [spec_l07Put.j2] at H
   by_cases c29:x62_13=true
   ·subst c29
    rw [if_pos rfl] at H
    by_cases c30:0≤x5_2
    rotate_left;·rw [if_neg c30] at H;exact absurd H (by simp)
    rw [if_pos c30] at H
    have c30b0:decide (0≤x5_2)=true:=decide_eq_true c30
    clear c30
    by_cases c31:x5_2 < (l0.length:Int)
    rotate_left;·rw [if_neg c31] at H;exact absurd H (by simp)
    rw [if_pos c31] at H
    have c31b0:decide (x5_2 < (l0.length:Int))=true:=decide_eq_true c31
    clear c31
    by_cases c32:2 < ((rd_L3 l0 x5_2).length:Int)
    rotate_left;·rw [if_neg c32] at H;exact absurd H (by simp)
    rw [if_pos c32] at H
    have c32b0:decide (2 < ((rd_L3 l0 x5_2).length:Int))=true:=decide_eq_true c32
    have c32b1:decide (2 < (rd_L3 l0 x5_2).length)=true:=decide_eq_true (by omega)
    clear c32
    obtain ⟨ji33,hji33⟩ : ∃ j_:Int,(wrap64 (x5_2+1))=j_:=⟨_,rfl⟩
    replace H:(if 0≤(ji33) then (if (ji33)≤(l0.length:Int) then ((some (l0.drop ((ji33):Int).toNat:List (List Int))).bind fun y248=>(if (wrap64 ((rd l1 2)+(rd (rd_L3 l0 x5_2) 2)))=0 then (if y231.length+y248.length < 5864062014805 then (some (y231++y248)) else (none)) else (if 0 < (l1.length:Int) then (if 1 < (l1.length:Int) then (if y231.length < 5864062014805 then ((some (y231++[(([rd l1 0,rd l1 1,wrap64 ((rd l1 2)+(rd (rd_L3 l0 x5_2) 2))]:List Int))]:List (List Int))).bind fun y261=>(if y261.length+y248.length < 5864062014805 then (some (y261++y248)) else (none))) else (none)) else (none)) else (none)))) else (none)) else (none))=some r:=by first|(rw [hji33] at H;exact H)|(simp only [hji33] at H ⊢;exact H)
    have hji33w:(IntKind.i64.wrap (x5_2+1))=ji33:=(i64_w _).trans hji33
    by_cases c34:0≤(ji33)
    rotate_left;·rw [if_neg c34] at H;exact absurd H (by simp)
    rw [if_pos c34] at H
    have c34b0:=eq_true c34
    have c34b1:decide (0≤(ji33))=true:=decide_eq_true c34
    clear c34
    by_cases c35:(ji33)≤(l0.length:Int)
    rotate_left;·rw [if_neg c35] at H;exact absurd H (by simp)
    rw [if_pos c35] at H
    have c35b0:=eq_true c35
    have c35b1:decide ((ji33)≤(l0.length:Int))=true:=decide_eq_true c35
    clear c35
    obtain ⟨y248,hy248⟩ : ∃ y_:List (List Int),y_=(l0.drop ((ji33):Int).toNat):=⟨_,rfl⟩
    replace H:(if (wrap64 ((rd l1 2)+(rd (rd_L3 l0 x5_2) 2)))=0 then (if y231.length+y248.length < 5864062014805 then (some (y231++y248)) else (none)) else (if 0 < (l1.length:Int) then (if 1 < (l1.length:Int) then (if y231.length < 5864062014805 then ((some (y231++[(([rd l1 0,rd l1 1,wrap64 ((rd l1 2)+(rd (rd_L3 l0 x5_2) 2))]:List Int))]:List (List Int))).bind fun y261=>(if y261.length+y248.length < 5864062014805 then (some (y261++y248)) else (none))) else (none)) else (none)) else (none)))=some r:=by (try rw [hy248]);first|with_reducible exact H|with_reducible exact (Option.bind_some _ _).symm.trans H|exact H
    have Ny248:=Aside0.mk hy248
    clear hy248
    by_cases c36:(wrap64 ((rd l1 2)+(rd (rd_L3 l0 x5_2) 2)))=0
    ·rw [if_pos c36] at H
     have c36b0:((wrap64 ((rd l1 2)+(rd (rd_L3 l0 x5_2) 2))) == 0)=true:=beq_iff_eq.mpr c36
     have c36b1:((wrap64 ((rd l1 2)+(rd (rd_L3 l0 x5_2) 2))) != 0)=false:=bne_eq_false_iff_eq.mpr c36
     clear c36
     by_cases c37:y231.length+y248.length < 5864062014805
     rotate_left;·rw [if_neg c37] at H;exact absurd H (by simp)
     rw [if_pos c37] at H
     have LMc37:=Aside0.mk c37
     clear c37
     obtain ⟨y253,hy253⟩ : ∃ y_:List (List Int),y_=(y231++y248):=⟨_,rfl⟩
     replace H:(some y253)=some r:=by (try rw [hy253]);first|with_reducible exact H|with_reducible exact (Option.bind_some _ _).symm.trans H|exact H
     have Ny253:=Aside0.mk hy253
     clear hy253
     obtain rfl:=Option.some.inj H
     have p246:0≤(x5_2:Int):=of_decide_eq_true (by assumption)
     have q246:x5_2 < (l0.length:Int):=of_decide_eq_true (by assumption)
     obtain ⟨ad246,A246_0,c246_0,e246,hx246_0,hl246_0,hi246_0⟩:=at_L3 (Kd.V_reads' HO_0.out).2.2 x5_2 p246 q246
     cases e246
     obtain ⟨ce246,hce246,hMe246,hcc246⟩:=Kd.V_get HO_0.out [] x5_2 p246 (by first|exact q246|exact of_decide_eq_true (by assumption)|(have e_:=(Kd.V_reads' HO_0.out).1;omega))
     obtain ⟨ua246_0,uc246_0,rfl,ul246_0,ge246_0⟩:=Kd.FK_slice_open hMe246
     have hv246_0:=hcc246 0 _ rfl
     rw [Nat.add_zero,show ((Kd.slice 3 (Kd.int .i64))).sz=1 from rfl,Nat.mul_one] at hv246_0
     replace hv246_0:=Option.some.inj (hv246_0.symm.trans hx246_0)
     injection hv246_0 with hva_ hvn_ hvc_
     rw [hva_] at ge246_0
     rw [hvc_] at ul246_0
     have HL246_0:=Aside0.mk (show Kd.V (Kd.int .i64) 3 _ w.heap.size _ _ (rd_L3 l0 x5_2) from Kd.V_mk ul246_0 ge246_0)
     clear hva_ hvn_ hvc_ ge246_0 ul246_0
     clear hcc246 hce246
     have HR246_0:=Aside0.mk hi246_0
     have HC246_0:=Aside0.mk hl246_0
     clear hi246_0 hl246_0
     replace p246:=eq_true p246
     replace q246:=eq_true q246
     have p247:0≤(2:Int):=(by omega)
     have q247:2 < ((rd_L3 l0 x5_2).length:Int):=of_decide_eq_true (by assumption)
     obtain ⟨ad247,e247,hx247_0⟩:=Kd.at_int (by repeat (first|(with_reducible exact HR246_0.out)|(with_reducible refine Kd.C_alloc ?_ _)|(with_reducible refine Kd.C_drewN ?_ _)|(with_reducible refine Kd.C_drew ?_)|exact HR246_0.out)) 2 p247 q247
     cases e247
     (try simp only [show (2:Int).toNat=2 from rfl,Nat.reduceMul,Nat.reduceEqDiff,Go.Addr.add,↓reduceIte] at hx247_0)
     have qi247:(2 < (rd_L3 l0 x5_2).length)=True:=eq_true (by omega)
     (try rw [show ((2:Int)).toNat=2 from rfl] at hx247_0)
     replace p247:=eq_true p247
     replace q247:=eq_true q247
     have q38:((ji33):Int)≤((l0.length:Int):Int):=of_decide_eq_true (by assumption)
     obtain ⟨i038,hi038,_,hsz38,_⟩:=info_parts info45
     have hroom38:l0.length≤c0:=(Kd.V_reads' HO_0.out).2.1
     have hC38:Kd.F (Kd.slice 3 (Kd.int .i64)) _ _ (some ad246) l0.length l0:=(Kd.V_at (base:=w.heap.size) HO_0.out).2.2
     have q038:(0:Int)≤((ji33):Int):=of_decide_eq_true (by assumption)
     have hcut38:=cut_from (P:=Try.prog) 33 45 .i64 Try.underlying33 hi038 1 hsz38 (some ad246) l0.length c0 (ji33) q038 q38
     have hr38:=Kd.F_cut (m:=((ji33):Int).toNat) (c:=c0) hC38 (by omega) hroom38
     obtain ⟨A38,hA38⟩ : ∃ A1,A1=(if c0=((ji33):Int).toNat then (some ad246) else ((some ad246):Option Addr).map (·.add (((ji33):Int).toNat * 1))):=⟨_,rfl⟩
     obtain ⟨c38,hc38⟩ : ∃ c1,c1=c0 - ((ji33):Int).toNat:=⟨_,rfl⟩
     have hy38:y248.length=l0.length - ((ji33):Int).toNat:=(by rw [Ny248.out,List.length_drop] <;> omega)
     rw [show (l0).drop ((ji33):Int).toNat=y248 from Ny248.out.symm] at hr38
     replace hr38:Kd.F (Kd.slice 3 (Kd.int .i64)) _ _ A38 y248.length y248:=(by rw [hA38];exact hr38)
     rw [← hy38,← hA38,← hc38] at hcut38
     have HO252:=Aside0.mk (show Kd.V (Kd.slice 3 (Kd.int .i64)) 45 _ w.heap.size _ (.slice A38 y248.length c38) y248 from Kd.V_mk (by rw [hy38,hc38];exact Nat.sub_le_sub_right hroom38 _) hr38)
     have HC252:=Aside0.mk (show y248.length≤c38 from by rw [hy38,hc38];exact Nat.sub_le_sub_right hroom38 _)
     clear hr38 hC38 hroom38 hi038 hsz38 hc38
     have KY38:=Aside0.mk hy38
     have KA38:=Aside0.mk hA38
     clear hy38 hA38
     replace q38:=eq_true q38
     go_wp2_with (first|((with_reducible refine gate_builtin (b:=.append) (xs:=#[.tmp 88,.tmp 89]) rfl ?_);at_builtin;refine Kd.N_append_rows (Kd.slice 3 (Kd.int .i64)) (w0:=w) w.heap.size rfl (.tmp 88) (.tmp 89) 33 45 (.slice none 0 0) 24 rfl Try.underlying33 info45 rfl (by decide) (by omega) v232 y231 y248 _ _ _ (fun k_=>(P0_ k_∨w.heap.size≤k_)) (fun k_=>((fun k_=>(P0_ k_∨w.heap.size≤k_))) k_∧some k_≠(v232:Value).ownBlock) rfl rfl ?aO ?aR (fun _ hk=>hk) ?aF ?aB ?aS ?aL ?_;(case aR=>exact (by skip;exact Kd.V_F (Kd.V_mono (ok':=(fun k_=>((fun k_=>(P0_ k_∨w.heap.size≤k_))) k_∧some k_≠(v232:Value).ownBlock)) (HO252.out) (fun k_ hk=>⟨hk.1,hk.2⟩))));(case aB=>exact (by repeat (with_reducible first|exact HB.out|apply bA|apply bN|apply bD)));(case aF=>exact (fun k_ hk=>(.inr (Nat.le_trans (below_size (by repeat (with_reducible first|exact HB.out|apply bA|apply bN|apply bD))) hk))));(case aO=>exact (by (with_reducible repeat (first|apply nA|apply nN|apply nD));exact HO_6.out));(case aS=>exact (below_size (by repeat (with_reducible first|exact HB.out|apply bA|apply bN|apply bD))));(case aL=>have:=LMc37.out;omega);intro v254 w39 ho hb hg hat;rw [← Ny253.out] at ho;have n0_:=Aside0.mk (Kd.V_afterv (ok:=(fun k_=>(P0_ k_∨w.heap.size≤k_))) (by (with_reducible repeat (first|apply vA|apply vN|apply vD));exact HO_0.out) hg hat);have n1_:=Aside0.mk (Kd.V_afterv (ok:=(fun k_=>(P0_ k_∨w.heap.size≤k_))) (by (with_reducible repeat (first|apply vA|apply vN|apply vD));exact HO_8.out) hg hat);have n2_:=Aside0.mk (Kd.V_afterv (ok:=(fun k_=>(P0_ k_∨w.heap.size≤k_))) (by (with_reducible repeat (first|apply vA|apply vN|apply vD));exact HL246_0.out) hg hat);have n3_:=Aside0.mk (Kd.V_afterv (ok:=(fun k_=>(P0_ k_∨w.heap.size≤k_))) (by (with_reducible repeat (first|apply vA|apply vN|apply vD));exact HO252.out) hg hat);have n4_:=Aside0.mk (hb);have n5_:=Aside0.mk (ho);clear HO_0;clear HO_8;clear HL246_0;clear HO252;clear HB;clear HO_6;have HO_0:=n0_;have HO_8:=n1_;have HL246_0:=n2_;have HO252:=n3_;have HB:=n4_;have HO255:=n5_;clear n0_ n1_ n2_ n3_ n4_ n5_;clear ho hb hg hat))
     go_ret
     exact ⟨_,by first|rfl|(simp [errW_none,errW_some] <;> rfl)|(simp only [← hji33];first|rfl|(simp [errW_none,errW_some] <;> rfl))|(simp [*,errW_none,errW_some] <;> rfl),by (with_reducible repeat (first|apply nA|apply nN|apply nD));exact HO255.out,by repeat (with_reducible first|exact HB.out|apply bA|apply bN|apply bD)⟩
    ·rw [if_neg c36] at H
     have c36b0:((wrap64 ((rd l1 2)+(rd (rd_L3 l0 x5_2) 2))) == 0)=false:=beq_eq_false_iff_ne.mpr c36
     have c36b1:((wrap64 ((rd l1 2)+(rd (rd_L3 l0 x5_2) 2))) != 0)=true:=bne_iff_ne.mpr c36
     by_cases c40:0 < (l1.length:Int)
     rotate_left;·rw [if_neg c40] at H;exact absurd H (by simp)
     rw [if_pos c40] at H
     have c40b0:decide (0 < (l1.length:Int))=true:=decide_eq_true c40
     have c40b1:decide (0 < l1.length)=true:=decide_eq_true (by omega)
     clear c40
     by_cases c41:1 < (l1.length:Int)
     rotate_left;·rw [if_neg c41] at H;exact absurd H (by simp)
     rw [if_pos c41] at H
     have c41b0:decide (1 < (l1.length:Int))=true:=decide_eq_true c41
     have c41b1:decide (1 < l1.length)=true:=decide_eq_true (by omega)
     clear c41
     obtain ⟨y258,hy258⟩ : ∃ y_:List Int,y_=(([rd l1 0,rd l1 1,wrap64 ((rd l1 2)+(rd (rd_L3 l0 x5_2) 2))]:List Int)):=⟨_,rfl⟩
     replace H:(if y231.length < 5864062014805 then ((some (y231++[y258]:List (List Int))).bind fun y261=>(if y261.length+y248.length < 5864062014805 then (some (y261++y248)) else (none))) else (none))=some r:=by (try rw [hy258]);first|with_reducible exact H|with_reducible exact (Option.bind_some _ _).symm.trans H|exact H
     have Ny258:=Aside0.mk hy258
     clear hy258
     by_cases c42:y231.length < 5864062014805
     rotate_left;·rw [if_neg c42] at H;exact absurd H (by simp)
     rw [if_pos c42] at H
     have LMc42:=Aside0.mk c42
     clear c42
     obtain ⟨y261,hy261⟩ : ∃ y_:List (List Int),y_=(y231++[y258]):=⟨_,rfl⟩
     replace H:(if y261.length+y248.length < 5864062014805 then (some (y261++y248)) else (none))=some r:=by (try rw [hy261]);first|with_reducible exact H|with_reducible exact (Option.bind_some _ _).symm.trans H|exact H
     have Ny261:=Aside0.mk hy261
     clear hy261
     by_cases c43:y261.length+y248.length < 5864062014805
     rotate_left;·rw [if_neg c43] at H;exact absurd H (by simp)
     rw [if_pos c43] at H
     have LMc43:=Aside0.mk c43
     clear c43
     obtain ⟨y264,hy264⟩ : ∃ y_:List (List Int),y_=(y261++y248):=⟨_,rfl⟩
     replace H:(some y264)=some r:=by (try rw [hy264]);first|with_reducible exact H|with_reducible exact (Option.bind_some _ _).symm.trans H|exact H
     have Ny264:=Aside0.mk hy264
     clear hy264
     obtain rfl:=Option.some.inj H
     have p246:0≤(x5_2:Int):=of_decide_eq_true (by assumption)
     have q246:x5_2 < (l0.length:Int):=of_decide_eq_true (by assumption)
     obtain ⟨ad246,A246_0,c246_0,e246,hx246_0,hl246_0,hi246_0⟩:=at_L3 (Kd.V_reads' HO_0.out).2.2 x5_2 p246 q246
     cases e246
     obtain ⟨ce246,hce246,hMe246,hcc246⟩:=Kd.V_get HO_0.out [] x5_2 p246 (by first|exact q246|exact of_decide_eq_true (by assumption)|(have e_:=(Kd.V_reads' HO_0.out).1;omega))
     obtain ⟨ua246_0,uc246_0,rfl,ul246_0,ge246_0⟩:=Kd.FK_slice_open hMe246
     have hv246_0:=hcc246 0 _ rfl
     rw [Nat.add_zero,show ((Kd.slice 3 (Kd.int .i64))).sz=1 from rfl,Nat.mul_one] at hv246_0
     replace hv246_0:=Option.some.inj (hv246_0.symm.trans hx246_0)
     injection hv246_0 with hva_ hvn_ hvc_
     rw [hva_] at ge246_0
     rw [hvc_] at ul246_0
     have HL246_0:=Aside0.mk (show Kd.V (Kd.int .i64) 3 _ w.heap.size _ _ (rd_L3 l0 x5_2) from Kd.V_mk ul246_0 ge246_0)
     clear hva_ hvn_ hvc_ ge246_0 ul246_0
     clear hcc246 hce246
     have HR246_0:=Aside0.mk hi246_0
     have HC246_0:=Aside0.mk hl246_0
     clear hi246_0 hl246_0
     replace p246:=eq_true p246
     replace q246:=eq_true q246
     have p247:0≤(2:Int):=(by omega)
     have q247:2 < ((rd_L3 l0 x5_2).length:Int):=of_decide_eq_true (by assumption)
     obtain ⟨ad247,e247,hx247_0⟩:=Kd.at_int (by repeat (first|(with_reducible exact HR246_0.out)|(with_reducible refine Kd.C_alloc ?_ _)|(with_reducible refine Kd.C_drewN ?_ _)|(with_reducible refine Kd.C_drew ?_)|exact HR246_0.out)) 2 p247 q247
     cases e247
     (try simp only [show (2:Int).toNat=2 from rfl,Nat.reduceMul,Nat.reduceEqDiff,Go.Addr.add,↓reduceIte] at hx247_0)
     have qi247:(2 < (rd_L3 l0 x5_2).length)=True:=eq_true (by omega)
     (try rw [show ((2:Int)).toNat=2 from rfl] at hx247_0)
     replace p247:=eq_true p247
     replace q247:=eq_true q247
     have q44:((ji33):Int)≤((l0.length:Int):Int):=of_decide_eq_true (by assumption)
     obtain ⟨i044,hi044,_,hsz44,_⟩:=info_parts info45
     have hroom44:l0.length≤c0:=(Kd.V_reads' HO_0.out).2.1
     have hC44:Kd.F (Kd.slice 3 (Kd.int .i64)) _ _ (some ad246) l0.length l0:=(Kd.V_at (base:=w.heap.size) HO_0.out).2.2
     have q044:(0:Int)≤((ji33):Int):=of_decide_eq_true (by assumption)
     have hcut44:=cut_from (P:=Try.prog) 33 45 .i64 Try.underlying33 hi044 1 hsz44 (some ad246) l0.length c0 (ji33) q044 q44
     have hr44:=Kd.F_cut (m:=((ji33):Int).toNat) (c:=c0) hC44 (by omega) hroom44
     obtain ⟨A44,hA44⟩ : ∃ A1,A1=(if c0=((ji33):Int).toNat then (some ad246) else ((some ad246):Option Addr).map (·.add (((ji33):Int).toNat * 1))):=⟨_,rfl⟩
     obtain ⟨c44,hc44⟩ : ∃ c1,c1=c0 - ((ji33):Int).toNat:=⟨_,rfl⟩
     have hy44:y248.length=l0.length - ((ji33):Int).toNat:=(by rw [Ny248.out,List.length_drop] <;> omega)
     rw [show (l0).drop ((ji33):Int).toNat=y248 from Ny248.out.symm] at hr44
     replace hr44:Kd.F (Kd.slice 3 (Kd.int .i64)) _ _ A44 y248.length y248:=(by rw [hA44];exact hr44)
     rw [← hy44,← hA44,← hc44] at hcut44
     have HO252:=Aside0.mk (show Kd.V (Kd.slice 3 (Kd.int .i64)) 45 _ w.heap.size _ (.slice A44 y248.length c44) y248 from Kd.V_mk (by rw [hy44,hc44];exact Nat.sub_le_sub_right hroom44 _) hr44)
     have HC252:=Aside0.mk (show y248.length≤c44 from by rw [hy44,hc44];exact Nat.sub_le_sub_right hroom44 _)
     clear hr44 hC44 hroom44 hi044 hsz44 hc44
     have KY44:=Aside0.mk hy44
     have KA44:=Aside0.mk hA44
     clear hy44 hA44
     replace q44:=eq_true q44
     try go_wp2
     have n0_:=Aside0.mk (Kd.V_drew HO_0.out)
     have n1_:=Aside0.mk (Kd.N_drew HO_6.out)
     have n2_:=Aside0.mk (Kd.V_drew HO_8.out)
     have n3_:=Aside0.mk (Kd.V_drew HL246_0.out)
     have n4_:=Aside0.mk (Kd.V_drew HO252.out)
     have n5_:=Aside0.mk (Kd.C_drew HR246_0.out)
     have n6_:=Aside0.mk (below_drew1 HB.out)
     clear HO_0
     clear HO_6
     clear HO_8
     clear HL246_0
     clear HO252
     clear HR246_0
     clear HB
     have HO_0:=n0_
     have HO_6:=n1_
     have HO_8:=n2_
     have HL246_0:=n3_
     have HO252:=n4_
     have HR246_0:=n5_
     have HB:=n6_
     clear n0_ n1_ n2_ n3_ n4_ n5_ n6_
     have p256:0≤(0:Int):=(by omega)
     have q256:0 < (l1.length:Int):=of_decide_eq_true (by assumption)
     obtain ⟨ad256,e256,hx256_0⟩:=Kd.at_int HR1.out 0 p256 q256
     have hw256_0:=hx256_0
     (try rw [show ((0:Int)).toNat=0 from rfl] at hw256_0)
     (try rw [show 0 * 1=0 from rfl] at hw256_0)
     (try rw [Addr.add_zero'] at hw256_0)
     obtain rfl:ad234=ad256:=(by injection e256)
     have qi256:(0 < l1.length)=True:=eq_true (by omega)
     (try rw [show ((0:Int)).toNat=0 from rfl] at hx256_0)
     (try rw [Addr.add_zero'] at hx256_0)
     replace hx256_0:=cK HB.out hx256_0
     replace p256:=eq_true p256
     replace q256:=eq_true q256
     have p257:0≤(1:Int):=(by omega)
     have q257:1 < (l1.length:Int):=of_decide_eq_true (by assumption)
     obtain ⟨ad257,e257,hx257_0⟩:=Kd.at_int HR1.out 1 p257 q257
     have hw257_0:=hx257_0
     (try rw [show ((1:Int)).toNat=1 from rfl] at hw257_0)
     (try rw [show 1 * 1=1 from rfl] at hw257_0)
     (try simp only [Nat.reduceMul,Nat.reduceEqDiff,Go.Addr.add,↓reduceIte] at hw257_0)
     obtain rfl:ad234=ad257:=(by injection e257)
     (try simp only [show (1:Int).toNat=1 from rfl,Nat.reduceMul,Nat.reduceEqDiff,Go.Addr.add,↓reduceIte] at hx257_0)
     have qi257:(1 < l1.length)=True:=eq_true (by omega)
     (try rw [show ((1:Int)).toNat=1 from rfl] at hx257_0)
     replace hx257_0:=cK HB.out hx257_0
     replace p257:=eq_true p257
     replace q257:=eq_true q257
     refine start_ (n:=12) (S:=fun w'=>w'.cell? ad234=some (.int .i64 (rd l1 0))∧w'.cell? ⟨ad234.block,ad234.off+1,none⟩=some (.int .i64 (rd l1 1))) (ds:=[]) (bV 12 0) (by kernel_rfl) rfl rfl ⟨(cK HB.out hw256_0),(cK HB.out hw257_0)⟩ (fun hHeld=>?_);refine with_tabW spec_l07Put.tab12 spec_l07Put.bits12 (fun HT_ HW_=>?_)
     generalize wc.drew=w45 at HO_0 HO_6 HO_8 HL246_0 HO252 HR246_0 HB hx256_0 hx257_0 hHeld ⊢
     refine pT 0 77 (bV 12 1) HT_.out ?_
     refine pT 1 78 (bV 12 3) HT_.out ?_
     refine pT 2 79 (bV 12 7) HT_.out ?_
     refine pT 4 81 (bV 12 23) HT_.out ?_
     refine pT 5 82 (bV 12 55) HT_.out ?_
     refine pT 7 84 (bV 12 183) HT_.out ?_
     refine tI 3 80 (bV 12 191) rfl (take_ofW HT_.out HW_.out (by kernel_rfl)) hHeld (by rintro w' ⟨s0,s1⟩;go_simp;with_reducible rfl) ?_
     refine tI 6 83 (bV 12 255) rfl (take_ofW HT_.out HW_.out (by kernel_rfl)) hHeld (by rintro w' ⟨s0,s1⟩;go_simp;with_reducible rfl) ?_
     refine one_ (i:=8) (N:=some 85) (bV 12 511) rfl rfl (one_of HT_.out (by kernel_rfl)) (by decide) (fun K hK=>?_)
     refine Kd.R_lit_step (Kd.int .i64) _ 3 ?hg (N:=85) ?hd (xs:=([rd l1 0,rd l1 1,wrap64 ((rd l1 2)+(rd (rd_L3 l0 x5_2) 2))]:List Int)) (inner:=[.int .i64 (rd l1 0),.int .i64 (rd l1 1),.int .i64 (wrap64 ((rd l1 2)+(rd (rd_L3 l0 x5_2) 2)))]) (ok:=fun _=>True) (okp:=fun _=>True) ?hr ?hp (fun _ hk=>hk) trivial (Below.refl _ _) (Nat.le_refl _) (by simp) ?_;(case hd=>rfl);(case hg=>rfl);(case hr=>first|(go_simp;done)|(go_simp;rfl));(case hp=>exact (Reps.one (show Kd.M (Kd.int .i64) _ _ _ (rd l1 0) [.int .i64 (rd l1 0)] from rfl) (Reps.one (show Kd.M (Kd.int .i64) _ _ _ (rd l1 1) [.int .i64 (rd l1 1)] from rfl) (Reps.one (show Kd.M (Kd.int .i64) _ _ _ (wrap64 ((rd l1 2)+(rd (rd_L3 l0 x5_2) 2))) [.int .i64 (wrap64 ((rd l1 2)+(rd (rd_L3 l0 x5_2) 2)))] from rfl) (Reps.none _ _)))))
     intro v259 w46 ho47 hb hg_ hnew_
     clear hg_ hnew_
     (first|rw [← Ny258.out] at ho47|(simp only [Int.reduceToNat] at ho47;rw [← Ny258.out] at ho47))
     have n0_:=Aside0.mk (Kd.V_elder' (by (with_reducible repeat (first|apply vA|apply vN|apply vD));exact HO_0.out) (Kd.R_base ho47) hb)
     have n1_:=Aside0.mk (Kd.N_elder' (by (with_reducible repeat (first|apply nA|apply nN|apply nD));exact HO_6.out) (Kd.R_base ho47) hb)
     have n2_:=Aside0.mk (Kd.V_elder' (by (with_reducible repeat (first|apply vA|apply vN|apply vD));exact HO_8.out) (Kd.R_base ho47) hb)
     have n3_:=Aside0.mk (Kd.V_elder' (by (with_reducible repeat (first|apply vA|apply vN|apply vD));exact HL246_0.out) (Kd.R_base ho47) hb)
     have n4_:=Aside0.mk (Kd.V_elder' (by (with_reducible repeat (first|apply vA|apply vN|apply vD));exact HO252.out) (Kd.R_base ho47) hb)
     have n5_:=Aside0.mk (Kd.R_lower (Kd.R_newM (M:=fun k_=>(w.heap.size≤k_)) ho47 (below_size (by repeat (with_reducible first|exact HB.out|apply bA|apply bN|apply bD))) (fun k_ h_=>h_)) (below_size (by repeat (with_reducible first|exact HB.out|apply bA|apply bN|apply bD))))
     have n6_:=Aside0.mk (Kd.C_below (by repeat (first|(with_reducible exact HR246_0.out)|(with_reducible refine Kd.C_alloc ?_ _)|(with_reducible refine Kd.C_drewN ?_ _)|(with_reducible refine Kd.C_drew ?_)|exact HR246_0.out)) hb)
     have n7_:=Aside0.mk (below_step (by repeat (with_reducible first|exact HB.out|apply bA|apply bN|apply bD)) hb)
     clear HO_0
     clear HO_6
     clear HO_8
     clear HL246_0
     clear HO252
     clear HR246_0
     clear HB
     have HO_0:=n0_
     have HO_6:=n1_
     have HO_8:=n2_
     have HL246_0:=n3_
     have HO252:=n4_
     have HO260:=n5_
     have HR246_0:=n6_
     have HB:=n7_
     clear n0_ n1_ n2_ n3_ n4_ n5_ n6_ n7_
     clear hb ho47
     obtain ⟨Ao49,co49,eo49⟩:=Kd.R_slice HO260.out
     (first|subst eo49|(injection eo49 with f1_ f2_ f3_;have f4_:=f1_.symm;have f5_:=f3_.symm;clear f1_ f2_ f3_;subst f4_;subst f5_))
     refine hK.out _ _ ⟨(cK HB.out hw256_0),(cK HB.out hw257_0)⟩ (fun hHeld=>?_)
     clear hK K
     refine norm_ (a':=?_) ?_ ?_
     rotate_left
     ·show Act.put _ (some 85) _=_
      simp only [Act.put,sI,sZ,sS,i64_w,i32_w]
      rfl
     refine one_ (i:=9) (N:=some 86) (bV 12 1023) rfl rfl (one_of HT_.out (by kernel_rfl)) (by decide) (fun K hK=>?_)
     refine value_ (w1:=?_) (v:=?_) (by rfl) rfl ?_ ?_
     rotate_left 2
     ·go_simp
      constructor
      ·rfl
      ·rfl
     refine hK.out _ _ ⟨(World.cell?_alloc_lt _ _ _ (World.block_lt_of_cell? _ _ ((cK HB.out hw256_0)))).trans ((cK HB.out hw256_0)),(World.cell?_alloc_lt _ _ _ (World.block_lt_of_cell? _ _ ((cK HB.out hw257_0)))).trans ((cK HB.out hw257_0))⟩ (fun hHeld=>?_)
     clear hK K
     refine norm_ (a':=?_) ?_ ?_
     rotate_left
     ·show Act.put _ (some 86) _=_
      simp only [Act.put,sI,sZ,sS,i64_w,i32_w]
      rfl
     refine one_ (i:=10) (N:=some 87) (bV 12 2047) rfl rfl (one_of HT_.out (by kernel_rfl)) (by decide) (fun K hK=>?_)
     refine Kd.N_append_step (Kd.slice 3 (Kd.int .i64)) (w0:=w) w.heap.size (by rfl) (.tmp 77) (.tmp 86) 33 45 (.slice none 0 0) 24 rfl Try.underlying33 info45 rfl (by decide) (by omega) v232 y231 y258 [.slice Ao49 y258.length co49] (fun k_=>(P0_ k_∨w.heap.size≤k_)) (fun k_=>((fun k_=>(P0_ k_∨w.heap.size≤k_))) k_∧some k_≠(v232:Value).ownBlock) rfl rfl ?aP (fun _ hk=>hk) ?aF ?aO ?aB ?aS ?aL ?_
     (case aP=>exact (Kd.FK_slice_mk (Kd.R_reads' (Kd.R_mono (ok':=(fun k_=>((fun k_=>(P0_ k_∨w.heap.size≤k_))) k_∧some k_≠(v232:Value).ownBlock)) (Kd.R_apart' (HO260.out) (Kd.N_typed HO_6.out) (by decide)) (fun k_ hk=>⟨(.inr (hk.1.1)),hk.2⟩))).2.1 (Kd.R_F (Kd.R_mono (ok':=(fun k_=>((fun k_=>(P0_ k_∨w.heap.size≤k_))) k_∧some k_≠(v232:Value).ownBlock)) (Kd.R_apart' (HO260.out) (Kd.N_typed HO_6.out) (by decide)) (fun k_ hk=>⟨(.inr (hk.1.1)),hk.2⟩)))))
     (case aB=>exact (by repeat (with_reducible first|exact HB.out|apply bA|apply bN|apply bD)))
     (case aF=>exact (fun k_ hk=>(.inr (Nat.le_trans (below_size (by repeat (with_reducible first|exact HB.out|apply bA|apply bN|apply bD))) hk))))
     (case aO=>exact (by (with_reducible repeat (first|apply nA|apply nN|apply nD));exact Kd.N_mono HO_6.out (fun _ hk=>hk.1)))
     (case aS=>exact (below_size (by repeat (with_reducible first|exact HB.out|apply bA|apply bN|apply bD))))
     (case aL=>have:=LMc42.out;omega)
     intro v262 w48 ho hb hg hat
     rw [← Ny261.out] at ho
     have n0_:=Aside0.mk (Kd.V_afterv (ok:=(fun k_=>(P0_ k_∨w.heap.size≤k_)∧some k_≠(.slice Ao49 y258.length co49:Value).ownBlock)) (by (with_reducible repeat (first|apply vA|apply vN|apply vD));exact Kd.V_mono HO_0.out (fun _ hk=>⟨⟨hk.1.1,hk.2⟩,hk.1.2⟩)) hg hat)
     have n1_:=Aside0.mk (Kd.V_afterv (ok:=(fun k_=>(P0_ k_∨w.heap.size≤k_)∧some k_≠(.slice Ao49 y258.length co49:Value).ownBlock)) (by (with_reducible repeat (first|apply vA|apply vN|apply vD));exact Kd.V_mono HO_8.out (fun _ hk=>⟨⟨hk.1.1,hk.2⟩,hk.1.2⟩)) hg hat)
     have n2_:=Aside0.mk (Kd.V_afterv (ok:=(fun k_=>(P0_ k_∨w.heap.size≤k_)∧some k_≠(.slice Ao49 y258.length co49:Value).ownBlock)) (by (with_reducible repeat (first|apply vA|apply vN|apply vD));exact Kd.V_mono HL246_0.out (fun _ hk=>⟨⟨hk.1.1,hk.2⟩,hk.1.2⟩)) hg hat)
     have n3_:=Aside0.mk (Kd.V_afterv (ok:=(fun k_=>(P0_ k_∨w.heap.size≤k_)∧some k_≠(.slice Ao49 y258.length co49:Value).ownBlock)) (by (with_reducible repeat (first|apply vA|apply vN|apply vD));exact Kd.V_mono HO252.out (fun _ hk=>⟨⟨hk.1.1,hk.2⟩,hk.1.2⟩)) hg hat)
     have n4_:=Aside0.mk (hb)
     have n5_:=Aside0.mk (ho)
     clear HO_0
     clear HO_8
     clear HL246_0
     clear HO252
     clear HB
     clear HO_6
     clear HO260
     have HO_0:=n0_
     have HO_8:=n1_
     have HL246_0:=n2_
     have HO252:=n3_
     have HB:=n4_
     have HO263:=n5_
     clear n0_ n1_ n2_ n3_ n4_ n5_
     clear ho hb hg hat
     refine hK.out _ _ ⟨(cK HB.out hw256_0),(cK HB.out hw257_0)⟩ (fun hHeld=>?_)
     clear hK K
     refine norm_ (a':=?_) ?_ ?_
     rotate_left
     ·show Act.put _ (some 87) _=_
      simp only [Act.put,sI,sZ,sS,i64_w,i32_w]
      rfl
     refine pT 11 6 (bV 12 4095) HT_.out ?_
     refine done_ (done_of HT_.out (by kernel_rfl)) ?_
     try go_wp2_with (first|((with_reducible refine gate_builtin (b:=.append) (xs:=#[.tmp 88,.tmp 89]) rfl ?_);at_builtin;refine Kd.N_append_rows (Kd.slice 3 (Kd.int .i64)) (w0:=w) w.heap.size rfl (.tmp 88) (.tmp 89) 33 45 (.slice none 0 0) 24 rfl Try.underlying33 info45 rfl (by decide) (by omega) v262 y261 y248 _ _ _ (fun k_=>(P0_ k_∨w.heap.size≤k_)) (fun k_=>((fun k_=>(P0_ k_∨w.heap.size≤k_))) k_∧some k_≠(v262:Value).ownBlock) rfl rfl ?aO ?aR (fun _ hk=>hk) ?aF ?aB ?aS ?aL ?_;(case aR=>exact (by skip;exact Kd.V_F (Kd.V_mono (ok':=(fun k_=>((fun k_=>(P0_ k_∨w.heap.size≤k_))) k_∧some k_≠(v262:Value).ownBlock)) (HO252.out) (fun k_ hk=>⟨hk.1.1,hk.2⟩))));(case aB=>exact (by repeat (with_reducible first|exact HB.out|apply bA|apply bN|apply bD)));(case aF=>exact (fun k_ hk=>(.inr (Nat.le_trans (below_size (by repeat (with_reducible first|exact HB.out|apply bA|apply bN|apply bD))) hk))));(case aO=>exact (by (with_reducible repeat (first|apply nA|apply nN|apply nD));exact HO263.out));(case aS=>exact (below_size (by repeat (with_reducible first|exact HB.out|apply bA|apply bN|apply bD))));(case aL=>have:=LMc43.out;omega);intro v265 w50 ho hb hg hat;rw [← Ny264.out] at ho;have n0_:=Aside0.mk (Kd.V_afterv (ok:=(fun k_=>(P0_ k_∨w.heap.size≤k_))) (by (with_reducible repeat (first|apply vA|apply vN|apply vD));exact Kd.V_mono HO_0.out (fun _ hk=>⟨hk.1.1,hk.2⟩)) hg hat);have n1_:=Aside0.mk (Kd.V_afterv (ok:=(fun k_=>(P0_ k_∨w.heap.size≤k_))) (by (with_reducible repeat (first|apply vA|apply vN|apply vD));exact Kd.V_mono HO_8.out (fun _ hk=>⟨hk.1.1,hk.2⟩)) hg hat);have n2_:=Aside0.mk (Kd.V_afterv (ok:=(fun k_=>(P0_ k_∨w.heap.size≤k_))) (by (with_reducible repeat (first|apply vA|apply vN|apply vD));exact Kd.V_mono HL246_0.out (fun _ hk=>⟨hk.1.1,hk.2⟩)) hg hat);have n3_:=Aside0.mk (Kd.V_afterv (ok:=(fun k_=>(P0_ k_∨w.heap.size≤k_))) (by (with_reducible repeat (first|apply vA|apply vN|apply vD));exact Kd.V_mono HO252.out (fun _ hk=>⟨hk.1.1,hk.2⟩)) hg hat);have n4_:=Aside0.mk (hb);have n5_:=Aside0.mk (ho);clear HO_0;clear HO_8;clear HL246_0;clear HO252;clear HB;clear HO263;have HO_0:=n0_;have HO_8:=n1_;have HL246_0:=n2_;have HO252:=n3_;have HB:=n4_;have HO266:=n5_;clear n0_ n1_ n2_ n3_ n4_ n5_;clear ho hb hg hat))
     go_ret
     exact ⟨_,by first|rfl|(simp [errW_none,errW_some] <;> rfl)|(simp only [← hji33];first|rfl|(simp [errW_none,errW_some] <;> rfl))|(simp [*,errW_none,errW_some] <;> rfl),by (with_reducible repeat (first|apply nA|apply nN|apply nD));exact HO266.out,by repeat (with_reducible first|exact HB.out|apply bA|apply bN|apply bD)⟩
   ·replace c29:=Bool.eq_false_iff.mpr c29
    subst c29
    rw [if_neg (show ¬ (false=true) by decide)] at H
    by_cases c51:(rd l1 2)=0
    ·rw [if_pos c51] at H
     have c51b0:((rd l1 2) == 0)=true:=beq_iff_eq.mpr c51
     have c51b1:((rd l1 2) != 0)=false:=bne_eq_false_iff_eq.mpr c51
     clear c51
     by_cases c52:y231.length+y235.length < 5864062014805
     rotate_left;·rw [if_neg c52] at H;exact absurd H (by simp)
     rw [if_pos c52] at H
     have LMc52:=Aside0.mk c52
     clear c52
     obtain ⟨y267,hy267⟩ : ∃ y_:List (List Int),y_=(y231++y235):=⟨_,rfl⟩
     replace H:(some y267)=some r:=by (try rw [hy267]);first|with_reducible exact H|with_reducible exact (Option.bind_some _ _).symm.trans H|exact H
     have Ny267:=Aside0.mk hy267
     clear hy267
     obtain rfl:=Option.some.inj H
     go_wp2_with (first|((with_reducible refine gate_builtin (b:=.append) (xs:=#[.tmp 88,.tmp 89]) rfl ?_);at_builtin;refine Kd.N_append_rows (Kd.slice 3 (Kd.int .i64)) (w0:=w) w.heap.size rfl (.tmp 88) (.tmp 89) 33 45 (.slice none 0 0) 24 rfl Try.underlying33 info45 rfl (by decide) (by omega) v232 y231 y235 _ _ _ (fun k_=>(P0_ k_∨w.heap.size≤k_)) (fun k_=>((fun k_=>(P0_ k_∨w.heap.size≤k_))) k_∧some k_≠(v232:Value).ownBlock) rfl rfl ?aO ?aR (fun _ hk=>hk) ?aF ?aB ?aS ?aL ?_;(case aR=>exact (by skip;exact Kd.V_F (Kd.V_mono (ok':=(fun k_=>((fun k_=>(P0_ k_∨w.heap.size≤k_))) k_∧some k_≠(v232:Value).ownBlock)) (HO_8.out) (fun k_ hk=>⟨hk.1,hk.2⟩))));(case aB=>exact (by repeat (with_reducible first|exact HB.out|apply bA|apply bN|apply bD)));(case aF=>exact (fun k_ hk=>(.inr (Nat.le_trans (below_size (by repeat (with_reducible first|exact HB.out|apply bA|apply bN|apply bD))) hk))));(case aO=>exact (by (with_reducible repeat (first|apply nA|apply nN|apply nD));exact HO_6.out));(case aS=>exact (below_size (by repeat (with_reducible first|exact HB.out|apply bA|apply bN|apply bD))));(case aL=>have:=LMc52.out;omega);intro v268 w53 ho hb hg hat;rw [← Ny267.out] at ho;have n0_:=Aside0.mk (Kd.V_afterv (ok:=(fun k_=>(P0_ k_∨w.heap.size≤k_))) (by (with_reducible repeat (first|apply vA|apply vN|apply vD));exact HO_0.out) hg hat);have n1_:=Aside0.mk (Kd.V_afterv (ok:=(fun k_=>(P0_ k_∨w.heap.size≤k_))) (by (with_reducible repeat (first|apply vA|apply vN|apply vD));exact HO_8.out) hg hat);have n2_:=Aside0.mk (hb);have n3_:=Aside0.mk (ho);clear HO_0;clear HO_8;clear HB;clear HO_6;have HO_0:=n0_;have HO_8:=n1_;have HB:=n2_;have HO269:=n3_;clear n0_ n1_ n2_ n3_;clear ho hb hg hat))
     go_ret
     exact ⟨_,by first|rfl|(simp [errW_none,errW_some] <;> rfl)|(simp [*,errW_none,errW_some] <;> rfl),by (with_reducible repeat (first|apply nA|apply nN|apply nD));exact HO269.out,by repeat (with_reducible first|exact HB.out|apply bA|apply bN|apply bD)⟩
    ·rw [if_neg c51] at H
     have c51b0:((rd l1 2) == 0)=false:=beq_eq_false_iff_ne.mpr c51
     have c51b1:((rd l1 2) != 0)=true:=bne_iff_ne.mpr c51
     by_cases c54:0 < (l1.length:Int)
     rotate_left;·rw [if_neg c54] at H;exact absurd H (by simp)
     rw [if_pos c54] at H
     have c54b0:decide (0 < (l1.length:Int))=true:=decide_eq_true c54
     have c54b1:decide (0 < l1.length)=true:=decide_eq_true (by omega)
     clear c54
     by_cases c55:1 < (l1.length:Int)
     rotate_left;·rw [if_neg c55] at H;exact absurd H (by simp)
     rw [if_pos c55] at H
     have c55b0:decide (1 < (l1.length:Int))=true:=decide_eq_true c55
     have c55b1:decide (1 < l1.length)=true:=decide_eq_true (by omega)
     clear c55
     obtain ⟨y272,hy272⟩ : ∃ y_:List Int,y_=(([rd l1 0,rd l1 1,(rd l1 2)]:List Int)):=⟨_,rfl⟩
     replace H:(if y231.length < 5864062014805 then ((some (y231++[y272]:List (List Int))).bind fun y275=>(if y275.length+y235.length < 5864062014805 then (some (y275++y235)) else (none))) else (none))=some r:=by (try rw [hy272]);first|with_reducible exact H|with_reducible exact (Option.bind_some _ _).symm.trans H|exact H
     have Ny272:=Aside0.mk hy272
     clear hy272
     by_cases c56:y231.length < 5864062014805
     rotate_left;·rw [if_neg c56] at H;exact absurd H (by simp)
     rw [if_pos c56] at H
     have LMc56:=Aside0.mk c56
     clear c56
     obtain ⟨y275,hy275⟩ : ∃ y_:List (List Int),y_=(y231++[y272]):=⟨_,rfl⟩
     replace H:(if y275.length+y235.length < 5864062014805 then (some (y275++y235)) else (none))=some r:=by (try rw [hy275]);first|with_reducible exact H|with_reducible exact (Option.bind_some _ _).symm.trans H|exact H
     have Ny275:=Aside0.mk hy275
     clear hy275
     by_cases c57:y275.length+y235.length < 5864062014805
     rotate_left;·rw [if_neg c57] at H;exact absurd H (by simp)
     rw [if_pos c57] at H
     have LMc57:=Aside0.mk c57
     clear c57
     obtain ⟨y278,hy278⟩ : ∃ y_:List (List Int),y_=(y275++y235):=⟨_,rfl⟩
     replace H:(some y278)=some r:=by (try rw [hy278]);first|with_reducible exact H|with_reducible exact (Option.bind_some _ _).symm.trans H|exact H
     have Ny278:=Aside0.mk hy278
     clear hy278
     obtain rfl:=Option.some.inj H
     try go_wp2
     have n0_:=Aside0.mk (Kd.V_drew HO_0.out)
     have n1_:=Aside0.mk (Kd.N_drew HO_6.out)
     have n2_:=Aside0.mk (Kd.V_drew HO_8.out)
     have n3_:=Aside0.mk (below_drew1 HB.out)
     clear HO_0
     clear HO_6
     clear HO_8
     clear HB
     have HO_0:=n0_
     have HO_6:=n1_
     have HO_8:=n2_
     have HB:=n3_
     clear n0_ n1_ n2_ n3_
     have p270:0≤(0:Int):=(by omega)
     have q270:0 < (l1.length:Int):=of_decide_eq_true (by assumption)
     obtain ⟨ad270,e270,hx270_0⟩:=Kd.at_int HR1.out 0 p270 q270
     have hw270_0:=hx270_0
     (try rw [show ((0:Int)).toNat=0 from rfl] at hw270_0)
     (try rw [show 0 * 1=0 from rfl] at hw270_0)
     (try rw [Addr.add_zero'] at hw270_0)
     obtain rfl:ad234=ad270:=(by injection e270)
     have qi270:(0 < l1.length)=True:=eq_true (by omega)
     (try rw [show ((0:Int)).toNat=0 from rfl] at hx270_0)
     (try rw [Addr.add_zero'] at hx270_0)
     replace hx270_0:=cK HB.out hx270_0
     replace p270:=eq_true p270
     replace q270:=eq_true q270
     have p271:0≤(1:Int):=(by omega)
     have q271:1 < (l1.length:Int):=of_decide_eq_true (by assumption)
     obtain ⟨ad271,e271,hx271_0⟩:=Kd.at_int HR1.out 1 p271 q271
     have hw271_0:=hx271_0
     (try rw [show ((1:Int)).toNat=1 from rfl] at hw271_0)
     (try rw [show 1 * 1=1 from rfl] at hw271_0)
     (try simp only [Nat.reduceMul,Nat.reduceEqDiff,Go.Addr.add,↓reduceIte] at hw271_0)
     obtain rfl:ad234=ad271:=(by injection e271)
     (try simp only [show (1:Int).toNat=1 from rfl,Nat.reduceMul,Nat.reduceEqDiff,Go.Addr.add,↓reduceIte] at hx271_0)
     have qi271:(1 < l1.length)=True:=eq_true (by omega)
     (try rw [show ((1:Int)).toNat=1 from rfl] at hx271_0)
     replace hx271_0:=cK HB.out hx271_0
     replace p271:=eq_true p271
     replace q271:=eq_true q271
     refine start_ (n:=12) (S:=fun w'=>w'.cell? ad234=some (.int .i64 (rd l1 0))∧w'.cell? ⟨ad234.block,ad234.off+1,none⟩=some (.int .i64 (rd l1 1))) (ds:=[]) (bV 12 0) (by kernel_rfl) rfl rfl ⟨(cK HB.out hw270_0),(cK HB.out hw271_0)⟩ (fun hHeld=>?_);refine with_tabW spec_l07Put.tab12 spec_l07Put.bits12 (fun HT_ HW_=>?_)
     generalize wc.drew=w58 at HO_0 HO_6 HO_8 HB hx270_0 hx271_0 hHeld ⊢
     refine pT 0 77 (bV 12 1) HT_.out ?_
     refine pT 1 78 (bV 12 3) HT_.out ?_
     refine pT 2 79 (bV 12 7) HT_.out ?_
     refine pT 4 81 (bV 12 23) HT_.out ?_
     refine pT 5 82 (bV 12 55) HT_.out ?_
     refine pT 7 84 (bV 12 183) HT_.out ?_
     refine tI 3 80 (bV 12 191) rfl (take_ofW HT_.out HW_.out (by kernel_rfl)) hHeld (by rintro w' ⟨s0,s1⟩;go_simp;with_reducible rfl) ?_
     refine tI 6 83 (bV 12 255) rfl (take_ofW HT_.out HW_.out (by kernel_rfl)) hHeld (by rintro w' ⟨s0,s1⟩;go_simp;with_reducible rfl) ?_
     refine one_ (i:=8) (N:=some 85) (bV 12 511) rfl rfl (one_of HT_.out (by kernel_rfl)) (by decide) (fun K hK=>?_)
     refine Kd.R_lit_step (Kd.int .i64) _ 3 ?hg (N:=85) ?hd (xs:=([rd l1 0,rd l1 1,(rd l1 2)]:List Int)) (inner:=[.int .i64 (rd l1 0),.int .i64 (rd l1 1),.int .i64 (rd l1 2)]) (ok:=fun _=>True) (okp:=fun _=>True) ?hr ?hp (fun _ hk=>hk) trivial (Below.refl _ _) (Nat.le_refl _) (by simp) ?_;(case hd=>rfl);(case hg=>rfl);(case hr=>first|(go_simp;done)|(go_simp;rfl));(case hp=>exact (Reps.one (show Kd.M (Kd.int .i64) _ _ _ (rd l1 0) [.int .i64 (rd l1 0)] from rfl) (Reps.one (show Kd.M (Kd.int .i64) _ _ _ (rd l1 1) [.int .i64 (rd l1 1)] from rfl) (Reps.one (show Kd.M (Kd.int .i64) _ _ _ (rd l1 2) [.int .i64 (rd l1 2)] from rfl) (Reps.none _ _)))))
     intro v273 w59 ho60 hb hg_ hnew_
     clear hg_ hnew_
     (first|rw [← Ny272.out] at ho60|(simp only [Int.reduceToNat] at ho60;rw [← Ny272.out] at ho60))
     have n0_:=Aside0.mk (Kd.V_elder' (by (with_reducible repeat (first|apply vA|apply vN|apply vD));exact HO_0.out) (Kd.R_base ho60) hb)
     have n1_:=Aside0.mk (Kd.N_elder' (by (with_reducible repeat (first|apply nA|apply nN|apply nD));exact HO_6.out) (Kd.R_base ho60) hb)
     have n2_:=Aside0.mk (Kd.V_elder' (by (with_reducible repeat (first|apply vA|apply vN|apply vD));exact HO_8.out) (Kd.R_base ho60) hb)
     have n3_:=Aside0.mk (Kd.R_lower (Kd.R_newM (M:=fun k_=>(w.heap.size≤k_)) ho60 (below_size (by repeat (with_reducible first|exact HB.out|apply bA|apply bN|apply bD))) (fun k_ h_=>h_)) (below_size (by repeat (with_reducible first|exact HB.out|apply bA|apply bN|apply bD))))
     have n4_:=Aside0.mk (below_step (by repeat (with_reducible first|exact HB.out|apply bA|apply bN|apply bD)) hb)
     clear HO_0
     clear HO_6
     clear HO_8
     clear HB
     have HO_0:=n0_
     have HO_6:=n1_
     have HO_8:=n2_
     have HO274:=n3_
     have HB:=n4_
     clear n0_ n1_ n2_ n3_ n4_
     clear hb ho60
     obtain ⟨Ao62,co62,eo62⟩:=Kd.R_slice HO274.out
     (first|subst eo62|(injection eo62 with f1_ f2_ f3_;have f4_:=f1_.symm;have f5_:=f3_.symm;clear f1_ f2_ f3_;subst f4_;subst f5_))
     refine hK.out _ _ ⟨(cK HB.out hw270_0),(cK HB.out hw271_0)⟩ (fun hHeld=>?_)
     clear hK K
     refine norm_ (a':=?_) ?_ ?_
     rotate_left
     ·show Act.put _ (some 85) _=_
      simp only [Act.put,sI,sZ,sS,i64_w,i32_w]
      rfl
     refine one_ (i:=9) (N:=some 86) (bV 12 1023) rfl rfl (one_of HT_.out (by kernel_rfl)) (by decide) (fun K hK=>?_)
     refine value_ (w1:=?_) (v:=?_) (by rfl) rfl ?_ ?_
     rotate_left 2
     ·go_simp
      constructor
      ·rfl
      ·rfl
     refine hK.out _ _ ⟨(World.cell?_alloc_lt _ _ _ (World.block_lt_of_cell? _ _ ((cK HB.out hw270_0)))).trans ((cK HB.out hw270_0)),(World.cell?_alloc_lt _ _ _ (World.block_lt_of_cell? _ _ ((cK HB.out hw271_0)))).trans ((cK HB.out hw271_0))⟩ (fun hHeld=>?_)
     clear hK K
     refine norm_ (a':=?_) ?_ ?_
     rotate_left
     ·show Act.put _ (some 86) _=_
      simp only [Act.put,sI,sZ,sS,i64_w,i32_w]
      rfl
     refine one_ (i:=10) (N:=some 87) (bV 12 2047) rfl rfl (one_of HT_.out (by kernel_rfl)) (by decide) (fun K hK=>?_)
     refine Kd.N_append_step (Kd.slice 3 (Kd.int .i64)) (w0:=w) w.heap.size (by rfl) (.tmp 77) (.tmp 86) 33 45 (.slice none 0 0) 24 rfl Try.underlying33 info45 rfl (by decide) (by omega) v232 y231 y272 [.slice Ao62 y272.length co62] (fun k_=>(P0_ k_∨w.heap.size≤k_)) (fun k_=>((fun k_=>(P0_ k_∨w.heap.size≤k_))) k_∧some k_≠(v232:Value).ownBlock) rfl rfl ?aP (fun _ hk=>hk) ?aF ?aO ?aB ?aS ?aL ?_
     (case aP=>exact (Kd.FK_slice_mk (Kd.R_reads' (Kd.R_mono (ok':=(fun k_=>((fun k_=>(P0_ k_∨w.heap.size≤k_))) k_∧some k_≠(v232:Value).ownBlock)) (Kd.R_apart' (HO274.out) (Kd.N_typed HO_6.out) (by decide)) (fun k_ hk=>⟨(.inr (hk.1.1)),hk.2⟩))).2.1 (Kd.R_F (Kd.R_mono (ok':=(fun k_=>((fun k_=>(P0_ k_∨w.heap.size≤k_))) k_∧some k_≠(v232:Value).ownBlock)) (Kd.R_apart' (HO274.out) (Kd.N_typed HO_6.out) (by decide)) (fun k_ hk=>⟨(.inr (hk.1.1)),hk.2⟩)))))
     (case aB=>exact (by repeat (with_reducible first|exact HB.out|apply bA|apply bN|apply bD)))
     (case aF=>exact (fun k_ hk=>(.inr (Nat.le_trans (below_size (by repeat (with_reducible first|exact HB.out|apply bA|apply bN|apply bD))) hk))))
     (case aO=>exact (by (with_reducible repeat (first|apply nA|apply nN|apply nD));exact Kd.N_mono HO_6.out (fun _ hk=>hk.1)))
     (case aS=>exact (below_size (by repeat (with_reducible first|exact HB.out|apply bA|apply bN|apply bD))))
     (case aL=>have:=LMc56.out;omega)
     intro v276 w61 ho hb hg hat
     rw [← Ny275.out] at ho
     have n0_:=Aside0.mk (Kd.V_afterv (ok:=(fun k_=>(P0_ k_∨w.heap.size≤k_)∧some k_≠(.slice Ao62 y272.length co62:Value).ownBlock)) (by (with_reducible repeat (first|apply vA|apply vN|apply vD));exact Kd.V_mono HO_0.out (fun _ hk=>⟨⟨hk.1.1,hk.2⟩,hk.1.2⟩)) hg hat)
     have n1_:=Aside0.mk (Kd.V_afterv (ok:=(fun k_=>(P0_ k_∨w.heap.size≤k_)∧some k_≠(.slice Ao62 y272.length co62:Value).ownBlock)) (by (with_reducible repeat (first|apply vA|apply vN|apply vD));exact Kd.V_mono HO_8.out (fun _ hk=>⟨⟨hk.1.1,hk.2⟩,hk.1.2⟩)) hg hat)
     have n2_:=Aside0.mk (hb)
     have n3_:=Aside0.mk (ho)
     clear HO_0
     clear HO_8
     clear HB
     clear HO_6
     clear HO274
     have HO_0:=n0_
     have HO_8:=n1_
     have HB:=n2_
     have HO277:=n3_
     clear n0_ n1_ n2_ n3_
     clear ho hb hg hat
     refine hK.out _ _ ⟨(cK HB.out hw270_0),(cK HB.out hw271_0)⟩ (fun hHeld=>?_)
     clear hK K
     refine norm_ (a':=?_) ?_ ?_
     rotate_left
     ·show Act.put _ (some 87) _=_
      simp only [Act.put,sI,sZ,sS,i64_w,i32_w]
      rfl
     refine pT 11 6 (bV 12 4095) HT_.out ?_
     refine done_ (done_of HT_.out (by kernel_rfl)) ?_
     try go_wp2_with (first|((with_reducible refine gate_builtin (b:=.append) (xs:=#[.tmp 88,.tmp 89]) rfl ?_);at_builtin;refine Kd.N_append_rows (Kd.slice 3 (Kd.int .i64)) (w0:=w) w.heap.size rfl (.tmp 88) (.tmp 89) 33 45 (.slice none 0 0) 24 rfl Try.underlying33 info45 rfl (by decide) (by omega) v276 y275 y235 _ _ _ (fun k_=>(P0_ k_∨w.heap.size≤k_)) (fun k_=>((fun k_=>(P0_ k_∨w.heap.size≤k_))) k_∧some k_≠(v276:Value).ownBlock) rfl rfl ?aO ?aR (fun _ hk=>hk) ?aF ?aB ?aS ?aL ?_;(case aR=>exact (by skip;exact Kd.V_F (Kd.V_mono (ok':=(fun k_=>((fun k_=>(P0_ k_∨w.heap.size≤k_))) k_∧some k_≠(v276:Value).ownBlock)) (HO_8.out) (fun k_ hk=>⟨hk.1.1,hk.2⟩))));(case aB=>exact (by repeat (with_reducible first|exact HB.out|apply bA|apply bN|apply bD)));(case aF=>exact (fun k_ hk=>(.inr (Nat.le_trans (below_size (by repeat (with_reducible first|exact HB.out|apply bA|apply bN|apply bD))) hk))));(case aO=>exact (by (with_reducible repeat (first|apply nA|apply nN|apply nD));exact HO277.out));(case aS=>exact (below_size (by repeat (with_reducible first|exact HB.out|apply bA|apply bN|apply bD))));(case aL=>have:=LMc57.out;omega);intro v279 w63 ho hb hg hat;rw [← Ny278.out] at ho;have n0_:=Aside0.mk (Kd.V_afterv (ok:=(fun k_=>(P0_ k_∨w.heap.size≤k_))) (by (with_reducible repeat (first|apply vA|apply vN|apply vD));exact Kd.V_mono HO_0.out (fun _ hk=>⟨hk.1.1,hk.2⟩)) hg hat);have n1_:=Aside0.mk (Kd.V_afterv (ok:=(fun k_=>(P0_ k_∨w.heap.size≤k_))) (by (with_reducible repeat (first|apply vA|apply vN|apply vD));exact Kd.V_mono HO_8.out (fun _ hk=>⟨hk.1.1,hk.2⟩)) hg hat);have n2_:=Aside0.mk (hb);have n3_:=Aside0.mk (ho);clear HO_0;clear HO_8;clear HB;clear HO277;have HO_0:=n0_;have HO_8:=n1_;have HB:=n2_;have HO280:=n3_;clear n0_ n1_ n2_ n3_;clear ho hb hg hat))
     go_ret
     exact ⟨_,by first|rfl|(simp [errW_none,errW_some] <;> rfl)|(simp [*,errW_none,errW_some] <;> rfl),by (with_reducible repeat (first|apply nA|apply nN|apply nD));exact HO280.out,by repeat (with_reducible first|exact HB.out|apply bA|apply bN|apply bD)⟩
end Go.Proofs.Ytadenfniiihifaa.QFnExactMeasuresOf
