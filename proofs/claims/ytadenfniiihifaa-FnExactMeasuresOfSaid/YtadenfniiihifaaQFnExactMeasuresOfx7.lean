/- What each Go function of this text answers, as a plain function, and that the machine comes to just that answer. -/
import Derived.Test.YtadenfniiihifaaQFnExactMeasuresOfx0
import Derived.Test.YtadenfniiihifaaQFnExactMeasuresOfx5
import Derived.Test.YtadenfniiihifaaQFnExactMeasuresOfx6
namespace Go.Proofs.Ytadenfniiihifaa.QFnExactMeasuresOf
open Go.RowKit Go.Proofs.YtadenfniiihifaaW.PrintWords Go.Proofs.YtadenfniiihifaaW.PrintLast Go.Proofs.YtadenfniiihifaaW.PrintMore
attribute [local go_sem] max2_int min2_int max_two min_two max_three min_three max_four min_four   -- for this text's walks alone
set_option linter.unusedVariables false
set_option linter.unusedSimpArgs false
def spec_l07All.l0:Nat→List (List Int)→List (List Int)→Int→Int→Option ((List (List Int)))
 | 0,_,_,_,_=>none
 | k+1,x3,x11,x12,x13=>if x13 < x12 then (if 0≤x13 then (if x13 < (x11.length:Int) then (if 0 < ((rd_L3 x11 x13).length:Int) then (if 1 < ((rd_L3 x11 x13).length:Int) then ((spec_l07Direction.f k (rd (rd_L3 x11 x13) 0) (rd (rd_L3 x11 x13) 1)).bind fun t293=>((spec_l02Gcd.f k (rd (rd_L3 x11 x13) 0) (rd (rd_L3 x11 x13) 1)).bind fun t298=>(if 0 < (t293.length:Int) then (if (rd (rd_L3 x11 x13) 0)=(wrap64 ((rd t293 0) * t298)) then (if 1 < (t293.length:Int) then (if (rd (rd_L3 x11 x13) 1)=(wrap64 ((rd t293 1) * t298)) then ((spec_l07Put.f k x3 (([rd t293 0,rd t293 1,t298]:List Int))).bind fun t308=>(spec_l07All.l0 k t308 x11 x12 (wrap64 (x13+1)))) else ((spec_l07Put.f k x3 (([rd t293 0,rd t293 1,wrap64 (-t298)]:List Int))).bind fun t316=>(spec_l07All.l0 k t316 x11 x12 (wrap64 (x13+1))))) else (none)) else (if 1 < (t293.length:Int) then ((spec_l07Put.f k x3 (([rd t293 0,rd t293 1,wrap64 (-t298)]:List Int))).bind fun t324=>(spec_l07All.l0 k t324 x11 x12 (wrap64 (x13+1)))) else (none))) else (none)))) else (none)) else (none)) else (none)) else (none)) else (some x3)
def spec_l07All.f (k:Nat) (l0:List (S40)):Option ((List (List Int))):=(spec_l07Left.f k l0).bind fun t284=>((spec_l04Sides.f k t284).bind fun t287=>(spec_l07All.l0 k (([]:List (List Int))) t287 (t287.length:Int) 0))
theorem spec_l07All.mono_l:∀ k,(∀ y0 y1 y2 y3,LeO (spec_l07All.l0 k y0 y1 y2 y3) (spec_l07All.l0 (k+1) y0 y1 y2 y3))
 | 0=>fun _ _ _ _ r h=>by simp [spec_l07All.l0] at h
 | k+1=>by
  have ih0:=spec_l07All.mono_l k
  ·intro y0 y1 y2 y3
   unfold spec_l07All.l0
   repeat' first
   | (with_reducible exact LeO.refl _)
   | exact ih0 _ _ _ _
   | exact spec_l02Gcd.mono _ _ _
   | exact spec_l04Sides.mono _ _
   | exact spec_l07Direction.mono _ _ _
   | exact spec_l07Left.mono _ _
   | exact spec_l07Put.mono _ _ _
   | exact LeO.none _
   | refine LeO.ite ?_ ?_
   | refine LeO.bind ?_ (fun _=>?_)
theorem spec_l07All.mono:∀ a0 k,LeO (spec_l07All.f k a0) (spec_l07All.f (k+1) a0):=by
 intro a0 k
 have ih0:=spec_l07All.mono_l k
 unfold spec_l07All.f
 repeat' first
  | (with_reducible exact LeO.refl _)
  | exact ih0 _ _ _ _
  | exact spec_l02Gcd.mono _ _ _
  | exact spec_l04Sides.mono _ _
  | exact spec_l07Direction.mono _ _ _
  | exact spec_l07Left.mono _ _
  | exact spec_l07Put.mono _ _ _
  | exact LeO.none _
  | refine LeO.ite ?_ ?_
  | refine LeO.bind ?_ (fun _=>?_)
def spec_l07All.T5:Bool × List (List Nat × List Nat):=(true,[([],[]),([0],[0]),([1],[1]),([],[]),([3],[3]),([4],[4]),([2,5],[2,5]),([6,6,0,1,2,3,4,5,6],[6])])
def spec_l07All.B5:List Nat:=[0,1,3,0,8,24,63,127]
theorem spec_l07All.tab5:rtab .any (opsOf Try.f35 5)=spec_l07All.T5:=by kernel_rfl
theorem spec_l07All.bits5:waitsOk spec_l07All.T5.2 spec_l07All.B5=true:=by kernel_rfl
def spec_l07All.T6:Bool × List (List Nat × List Nat):=(true,[([],[]),([0],[0]),([1],[1]),([],[]),([3],[3]),([4],[4]),([2,5],[2,5]),([6,6,0,1,2,3,4,5,6],[6])])
def spec_l07All.B6:List Nat:=[0,1,3,0,8,24,63,127]
theorem spec_l07All.tab6:rtab .any (opsOf Try.f35 6)=spec_l07All.T6:=by kernel_rfl
theorem spec_l07All.bits6:waitsOk spec_l07All.T6.2 spec_l07All.B6=true:=by kernel_rfl
def spec_l07All.T7:Bool × List (List Nat × List Nat):=(true,[([],[]),([0],[0]),([1],[1]),([],[]),([3],[3]),([4],[4]),([],[]),([5,6],[5,6]),([2,7],[2,7]),([8],[8]),([9],[9]),([10,9],[9,10]),([11,9],[9,11]),([9],[9]),([13,9],[9,13]),([14,9],[9,14]),([9],[9]),([15,16,9],[9,15,16]),([12,17,9],[9,12,17]),([9,18],[9,18])])
def spec_l07All.B7:List Nat:=[0,1,3,0,8,24,0,120,255,511,1023,2047,4095,1023,9215,25599,1023,123903,262143,524287]
theorem spec_l07All.tab7:rtab .any (opsOf Try.f35 7)=spec_l07All.T7:=by kernel_rfl
theorem spec_l07All.bits7:waitsOk spec_l07All.T7.2 spec_l07All.B7=true:=by kernel_rfl
def spec_l07All.T9:Bool × List (List Nat × List Nat):=(true,[([],[]),([],[]),([1],[1]),([2],[2]),([],[]),([4],[4]),([5],[5]),([],[]),([3,6,7],[3,6,7]),([0,8],[0,8]),([9,9,0,1,2,3,4,5,6,7,8,9],[0,9])])
def spec_l07All.B9:List Nat:=[0,0,2,6,0,16,48,0,254,511,1023]
theorem spec_l07All.tab9:rtab .any (opsOf Try.f35 9)=spec_l07All.T9:=by kernel_rfl
theorem spec_l07All.bits9:waitsOk spec_l07All.T9.2 spec_l07All.B9=true:=by kernel_rfl
set_option maxHeartbeats 8000000 in
set_option maxRecDepth 100000 in
theorem spec_l07All.calls (k:Nat) (P0_:Nat→Prop) (A0:Option Addr) (c0:Nat) (l0:List (S40)) (r:List (List Int)) (w:World) (hs0:Kd.V k40 40 w w.heap.size (fun k_=>P0_ k_) (.slice A0 l0.length c0) l0) (h:spec_l07All.f k l0=some r) :
 Calls Try.prog 35 #[.slice A0 l0.length c0] w fun e w'=>∃ v0_:Value,e=.returned (v0_)∧Kd.N (Kd.slice 3 (Kd.int .i64)) 45 w' w.heap.size (fun k_=>(P0_ k_∨w.heap.size≤k_)) v0_ r∧Below w.heap.size w w':=by
 have HO0:=Aside0.mk (show Kd.V k40 40 w w.heap.size (fun k_=>(P0_ k_∨w.heap.size≤k_)) (.slice A0 l0.length c0) l0 from Kd.V_mono hs0 (fun k_ hk=>.inl hk))
 have HB:=Aside0.mk (Below.refl w.heap.size w)
 have H:((spec_l07Left.f k l0).bind fun t284=>((spec_l04Sides.f k t284).bind fun t287=>(spec_l07All.l0 k (([]:List (List Int))) t287 (t287.length:Int) 0)))=some r:=h
 clear h
 obtain ⟨y281,hy281⟩ : ∃ y_:List (List Int),y_=(([]:List (List Int))):=⟨_,rfl⟩
 replace H:((spec_l07Left.f k l0).bind fun t284=>((spec_l04Sides.f k t284).bind fun t287=>(spec_l07All.l0 k y281 t287 (t287.length:Int) 0)))=some r:=by (try rw [hy281]);first|with_reducible exact H|with_reducible exact (Option.bind_some _ _).symm.trans H|exact H
 have Ny281:=Aside0.mk hy281
 clear hy281
 replace H:=Option.bind_eq_some_iff.mp H
 obtain ⟨t284,A20,H⟩:=H
 have A2:=Aside0.mk A20
 clear A20
 replace H:=Option.bind_eq_some_iff.mp H
 obtain ⟨t287,A30,H⟩:=H
 have A3:=Aside0.mk A30
 clear A30
 have H':=Aside0.mk H
 clear H
 go_enter Try.func35,Try.ntmps35
 go_wp2_with (first|((with_reducible refine gate_dst (N:=8) rfl ?_);refine Kd.N_lit (Kd.slice 3 (Kd.int .i64)) _ 45 ?hg (N':=8) ?hd (xs:=([]:List (List Int))) (inner:=[]) (ok:=(fun k_=>(P0_ k_∨w.heap.size≤k_))) (okp:=(fun k_=>(P0_ k_∨w.heap.size≤k_))) ?hr ?hp (fun _ hk=>hk) ((show ∀ k_,w.heap.size≤k_→(fun k_=>(P0_ k_∨w.heap.size≤k_)) k_ from fun k_ hk=>(.inr (Nat.le_trans (below_size (by repeat (with_reducible first|exact HB.out|apply bA|apply bN|apply bD))) hk))) _ (Nat.le_refl _)) (Below.refl _ _) (Nat.le_refl _) (by simp) ?_;(case hd=>rfl);(case hg=>rfl);(case hr=>first|(go_simp;done)|(go_simp;rfl));(case hp=>exact (Reps.none _ _));intro v282 w4 ho5 hb hg_ hnew_;clear hg_ hnew_;(first|rw [← Ny281.out] at ho5|(simp only [Int.reduceToNat] at ho5;rw [← Ny281.out] at ho5));have n0_:=Aside0.mk (Kd.V_elder' (by (with_reducible repeat (first|apply vA|apply vN|apply vD));exact HO0.out) (Kd.N_base ho5) hb);have n1_:=Aside0.mk (Kd.N_lower ho5 (below_size (by repeat (with_reducible first|exact HB.out|apply bA|apply bN|apply bD))));have n2_:=Aside0.mk (below_step (by repeat (with_reducible first|exact HB.out|apply bA|apply bN|apply bD)) hb);clear HO0;clear HB;have HO0:=n0_;have HO283:=n1_;have HB:=n2_;clear n0_ n1_ n2_;clear hb ho5)|((with_reducible refine gate_callee (f:=63) rfl ?_);refine goesL_ (some 10) rfl rfl Try.func63 (by kernel_rfl) rfl #[.slice A0 l0.length c0] rfl (by (try simp only [List.map_toArray,List.map_cons,List.map_nil]);first|done|rfl) ?_;(with_reducible refine (spec_l07Left.calls k (fun k_=>((P0_ k_∨w.heap.size≤k_)∧some k_≠(v282:Value).ownBlock)) _ _ l0 t284 _ ?side1 A2.out).mono ?_);(case side1=>exact HO0.out);rintro e w6 ⟨v285,rfl,ho0,hb⟩;refine ⟨_,rfl,?_⟩;have n0_:=Aside0.mk (Kd.V_below (by (with_reducible repeat (first|apply vA|apply vN|apply vD));exact HO0.out) hb);have n1_:=Aside0.mk (Kd.N_below (by (with_reducible repeat (first|apply nA|apply nN|apply nD));exact HO283.out) hb);have n2_:=Aside0.mk (Kd.V_lower (Kd.V_mono (ok':=fun k_=>(P0_ k_∨w.heap.size≤k_)∧some k_≠(v282:Value).ownBlock) ho0 (fun k_ hk_=>⟨Or.elim hk_ (fun hs_=>hs_.1) (fun hn_=>(.inr (Nat.le_trans (below_size (by repeat (with_reducible first|exact HB.out|apply bA|apply bN|apply bD))) hn_))),Or.elim hk_ (fun hs_=>hs_.2) (fun hn_=>(Kd.fresh' (Kd.N_lt (by (with_reducible repeat (first|apply nA|apply nN|apply nD));exact HO283.out)) k_ hn_))⟩)) (below_size (by repeat (with_reducible first|exact HB.out|apply bA|apply bN|apply bD))));have n3_:=Aside0.mk (below_step (by repeat (with_reducible first|exact HB.out|apply bA|apply bN|apply bD)) hb);clear HO0;clear HO283;clear HB;have HO0:=n0_;have HO283:=n1_;have HO286:=n2_;have HB:=n3_;clear n0_ n1_ n2_ n3_;(try clear hb);(try clear ho0);obtain ⟨Ao7,co7,eo7⟩:=Kd.V_slice HO286.out;subst eo7)|((with_reducible refine gate_callee (f:=62) rfl ?_);refine goesL_ (some 11) rfl rfl Try.func62 (by kernel_rfl) rfl #[.slice Ao7 t284.length co7] rfl (by (try simp only [List.map_toArray,List.map_cons,List.map_nil]);first|done|rfl) ?_;(with_reducible refine (spec_l04Sides.calls k _ _ t284 t287 _ ?side1 ?side2 A3.out).mono ?_);(case side1=>repeat (first|exact (Kd.V_reads' HO286.out).2.2|(with_reducible refine Kd.C_alloc ?_ _)|(with_reducible refine Kd.C_drewN ?_ _)|(with_reducible refine Kd.C_drew ?_)));(case side2=>exact (Kd.V_reads' HO286.out).2.1);rintro e w8 ⟨v288,rfl,ho0,hb⟩;refine ⟨_,rfl,?_⟩;have n0_:=Aside0.mk (Kd.V_elder' (by (with_reducible repeat (first|apply vA|apply vN|apply vD));exact HO0.out) (by first|exact Kd.N_base ho0|exact Kd.S_base ho0) hb);have n1_:=Aside0.mk (Kd.N_elder' (by (with_reducible repeat (first|apply nA|apply nN|apply nD));exact HO283.out) (by first|exact Kd.N_base ho0|exact Kd.S_base ho0) hb);have n2_:=Aside0.mk (Kd.V_elder' (by (with_reducible repeat (first|apply vA|apply vN|apply vD));exact HO286.out) (by first|exact Kd.N_base ho0|exact Kd.S_base ho0) hb);have n3_:=Aside0.mk (Kd.N_lower (Kd.N_mono (ok':=fun k_=>(P0_ k_∨w.heap.size≤k_)∧some k_≠(v282:Value).ownBlock) (Kd.S_N (Kd.S_bound ho0)) (fun k_ hk_=>⟨(.inr (Nat.le_trans (below_size (by repeat (with_reducible first|exact HB.out|apply bA|apply bN|apply bD))) hk_.2.1)),(Kd.fresh' (Kd.N_lt (by (with_reducible repeat (first|apply nA|apply nN|apply nD));exact HO283.out)) k_ hk_.2.1)⟩)) (below_size (by repeat (with_reducible first|exact HB.out|apply bA|apply bN|apply bD))));have n4_:=Aside0.mk (below_step (by repeat (with_reducible first|exact HB.out|apply bA|apply bN|apply bD)) hb);clear HO0;clear HO283;clear HO286;clear HB;have HO0:=n0_;have HO283:=n1_;have HO286:=n2_;have HO289:=n3_;have HB:=n4_;clear n0_ n1_ n2_ n3_ n4_;(try clear hb);(try clear ho0);obtain ⟨Ao9,co9,eo9⟩:=Kd.N_slice HO289.out;subst eo9))
 go_loopg [3,13] k (fun kq v3 v13 w'=>∃ (x3_1:List (List Int)) (x13_1:Int),v13=.int .i64 x13_1∧Aside0 (spec_l07All.l0 kq x3_1 t287 (t287.length:Int) x13_1=some r)∧Aside0 (kq≤k)∧Aside0 (Kd.N (Kd.slice 3 (Kd.int .i64)) 45 w' w.heap.size (fun k_=>(P0_ k_∨w.heap.size≤k_)∧some k_≠((.slice Ao9 t287.length co9):Value).ownBlock) v3 x3_1)∧Aside0 (Kd.N (Kd.slice 3 (Kd.int .i64)) 45 w' w.heap.size (fun k_=>(P0_ k_∨w.heap.size≤k_)∧some k_≠(v3:Value).ownBlock) (.slice Ao9 t287.length co9) t287)∧Aside0 (Below w.heap.size w w'))
 case atStart=>exact ⟨(y281),(0),(by first|rfl|(simp;done)|(simp [*];done)),H',⟨Nat.le_refl _⟩,⟨by (with_reducible repeat (first|apply nA|apply nN|apply nD));exact HO283.out⟩,⟨by (with_reducible repeat (first|apply nA|apply nN|apply nD));exact HO289.out⟩,⟨by repeat (with_reducible first|exact HB.out|apply bA|apply bN|apply bD)⟩⟩
 case round =>
  clear H'
  obtain ⟨x3_1,x13_1,rfl,HA,HK1,HO_3,HO_11,HB⟩:=hrel
  rcases gk with _|k1
  ·exact absurd HA.out (by simp [spec_l07All.l0])
  have H:=HA.out
  clear HA
  simp only [spec_l07All.l0] at H
  by_cases c10:x13_1 < (t287.length:Int)
  ·rw [if_pos c10] at H
   have c10b0:decide (x13_1 < (t287.length:Int))=true:=decide_eq_true c10
   clear c10
   by_cases c11:0≤x13_1
   rotate_left;·rw [if_neg c11] at H;exact absurd H (by simp)
   rw [if_pos c11] at H
   have c11b0:decide (0≤x13_1)=true:=decide_eq_true c11
   clear c11
   by_cases c12:x13_1 < (t287.length:Int)
   rotate_left;·rw [if_neg c12] at H;exact absurd H (by simp)
   rw [if_pos c12] at H
   have c12b0:decide (x13_1 < (t287.length:Int))=true:=decide_eq_true c12
   clear c12
   by_cases c13:0 < ((rd_L3 t287 x13_1).length:Int)
   rotate_left;·rw [if_neg c13] at H;exact absurd H (by simp)
   rw [if_pos c13] at H
   have c13b0:decide (0 < ((rd_L3 t287 x13_1).length:Int))=true:=decide_eq_true c13
   have c13b1:decide (0 < (rd_L3 t287 x13_1).length)=true:=decide_eq_true (by omega)
   clear c13
   by_cases c14:1 < ((rd_L3 t287 x13_1).length:Int)
   rotate_left;·rw [if_neg c14] at H;exact absurd H (by simp)
   rw [if_pos c14] at H
   have c14b0:decide (1 < ((rd_L3 t287 x13_1).length:Int))=true:=decide_eq_true c14
   have c14b1:decide (1 < (rd_L3 t287 x13_1).length)=true:=decide_eq_true (by omega)
   clear c14
   replace H:=Option.bind_eq_some_iff.mp H
   obtain ⟨t293,A150,H⟩:=H
   have A15:=Aside0.mk A150
   clear A150
   replace H:=Option.bind_eq_some_iff.mp H
   obtain ⟨t298,A160,H⟩:=H
   have A16:=Aside0.mk A160
   clear A160
   by_cases c17:0 < (t293.length:Int)
   rotate_left;·rw [if_neg c17] at H;exact absurd H (by simp)
   rw [if_pos c17] at H
   have c17b0:decide (0 < (t293.length:Int))=true:=decide_eq_true c17
   have c17b1:decide (0 < t293.length)=true:=decide_eq_true (by omega)
   clear c17
   by_cases c18:(rd (rd_L3 t287 x13_1) 0)=(wrap64 ((rd t293 0) * t298))
   ·rw [if_pos c18] at H
    have c18b0:((rd (rd_L3 t287 x13_1) 0) == (wrap64 ((rd t293 0) * t298)))=true:=beq_iff_eq.mpr c18
    have c18b1:((rd (rd_L3 t287 x13_1) 0) != (wrap64 ((rd t293 0) * t298)))=false:=bne_eq_false_iff_eq.mpr c18
    clear c18
    by_cases c19:1 < (t293.length:Int)
    rotate_left;·rw [if_neg c19] at H;exact absurd H (by simp)
    rw [if_pos c19] at H
    have c19b0:decide (1 < (t293.length:Int))=true:=decide_eq_true c19
    have c19b1:decide (1 < t293.length)=true:=decide_eq_true (by omega)
    clear c19
    by_cases c20:(rd (rd_L3 t287 x13_1) 1)=(wrap64 ((rd t293 1) * t298))
    ·rw [if_pos c20] at H
     have c20b0:((rd (rd_L3 t287 x13_1) 1) == (wrap64 ((rd t293 1) * t298)))=true:=beq_iff_eq.mpr c20
     have c20b1:((rd (rd_L3 t287 x13_1) 1) != (wrap64 ((rd t293 1) * t298)))=false:=bne_eq_false_iff_eq.mpr c20
     clear c20
     obtain ⟨y305,hy305⟩ : ∃ y_:List Int,y_=(([rd t293 0,rd t293 1,t298]:List Int)):=⟨_,rfl⟩
     replace H:((spec_l07Put.f k1 x3_1 y305).bind fun t308=>(spec_l07All.l0 k1 t308 t287 (t287.length:Int) (wrap64 (x13_1+1))))=some r:=by (try rw [hy305]);first|with_reducible exact H|with_reducible exact (Option.bind_some _ _).symm.trans H|exact H
     have Ny305:=Aside0.mk hy305
     clear hy305
     replace H:=Option.bind_eq_some_iff.mp H
     obtain ⟨t308,A210,H⟩:=H
     have A21:=Aside0.mk A210
     clear A210
     have H':=Aside0.mk H
     clear H
     have p290:0≤(x13_1:Int):=of_decide_eq_true (by assumption)
     have q290:x13_1 < (t287.length:Int):=of_decide_eq_true (by assumption)
     obtain ⟨ad290,A290_0,c290_0,e290,hx290_0,hl290_0,hi290_0⟩:=at_L3 (Kd.N_reads' HO_11.out).2.2 x13_1 p290 q290
     cases e290
     obtain ⟨ce290,hce290,hMe290,hcc290⟩:=Kd.N_get HO_11.out [] x13_1 p290 (by first|exact q290|exact of_decide_eq_true (by assumption)|(have e_:=(Kd.N_reads' HO_11.out).1;omega))
     obtain ⟨ua290_0,uc290_0,rfl,ul290_0,ge290_0⟩:=Kd.FK_slice_open hMe290
     have hv290_0:=hcc290 0 _ rfl
     rw [Nat.add_zero,show ((Kd.slice 3 (Kd.int .i64))).sz=1 from rfl,Nat.mul_one] at hv290_0
     replace hv290_0:=Option.some.inj (hv290_0.symm.trans hx290_0)
     injection hv290_0 with hva_ hvn_ hvc_
     rw [hva_] at ge290_0
     rw [hvc_] at ul290_0
     have HL290_0:=Aside0.mk (show Kd.V (Kd.int .i64) 3 _ w.heap.size _ _ (rd_L3 t287 x13_1) from Kd.V_mk ul290_0 ge290_0)
     clear hva_ hvn_ hvc_ ge290_0 ul290_0
     clear hcc290 hce290
     have HR290_0:=Aside0.mk hi290_0
     have HC290_0:=Aside0.mk hl290_0
     clear hi290_0 hl290_0
     replace p290:=eq_true p290
     replace q290:=eq_true q290
     try go_wp2
     have n0_:=Aside0.mk (Kd.N_drew HO_3.out)
     have n1_:=Aside0.mk (Kd.N_drew HO_11.out)
     have n2_:=Aside0.mk (Kd.V_drew HL290_0.out)
     have n3_:=Aside0.mk (Kd.C_drew HR290_0.out)
     have n4_:=Aside0.mk (below_drew1 HB.out)
     clear HO_3
     clear HO_11
     clear HL290_0
     clear HR290_0
     clear HB
     have HO_3:=n0_
     have HO_11:=n1_
     have HL290_0:=n2_
     have HR290_0:=n3_
     have HB:=n4_
     clear n0_ n1_ n2_ n3_ n4_
     have p291:0≤(0:Int):=(by omega)
     have q291:0 < ((rd_L3 t287 x13_1).length:Int):=of_decide_eq_true (by assumption)
     obtain ⟨ad291,e291,hx291_0⟩:=Kd.at_int (by repeat (first|(with_reducible exact HR290_0.out)|(with_reducible refine Kd.C_alloc ?_ _)|(with_reducible refine Kd.C_drewN ?_ _)|(with_reducible refine Kd.C_drew ?_)|exact HR290_0.out)) 0 p291 q291
     cases e291
     have qi291:(0 < (rd_L3 t287 x13_1).length)=True:=eq_true (by omega)
     (try rw [show ((0:Int)).toNat=0 from rfl] at hx291_0)
     (try rw [Addr.add_zero'] at hx291_0)
     replace p291:=eq_true p291
     replace q291:=eq_true q291
     have p292:0≤(1:Int):=(by omega)
     have q292:1 < ((rd_L3 t287 x13_1).length:Int):=of_decide_eq_true (by assumption)
     obtain ⟨ad292,e292,hx292_0⟩:=Kd.at_int (by repeat (first|(with_reducible exact HR290_0.out)|(with_reducible refine Kd.C_alloc ?_ _)|(with_reducible refine Kd.C_drewN ?_ _)|(with_reducible refine Kd.C_drew ?_)|exact HR290_0.out)) 1 p292 q292
     obtain rfl:ad291=ad292:=(by injection e292)
     (try simp only [show (1:Int).toNat=1 from rfl,Nat.reduceMul,Nat.reduceEqDiff,Go.Addr.add,↓reduceIte] at hx292_0)
     have qi292:(1 < (rd_L3 t287 x13_1).length)=True:=eq_true (by omega)
     (try rw [show ((1:Int)).toNat=1 from rfl] at hx292_0)
     replace p292:=eq_true p292
     replace q292:=eq_true q292
     refine start_ (n:=8) (S:=fun w'=>w'.cell? ad291=some (.int .i64 (rd (rd_L3 t287 x13_1) 0))∧w'.cell? ⟨ad291.block,ad291.off+1,none⟩=some (.int .i64 (rd (rd_L3 t287 x13_1) 1))) (ds:=[]) (bV 8 0) (by kernel_rfl) rfl rfl ⟨hx291_0,hx292_0⟩ (fun hHeld=>?_);refine with_tabW spec_l07All.tab5 spec_l07All.bits5 (fun HT_ HW_=>?_)
     generalize wr.drew=w22 at HO_3 HO_11 HL290_0 HR290_0 HB hx291_0 hx292_0 hHeld ⊢
     refine pT 0 17 (bV 8 1) HT_.out ?_
     refine pT 1 18 (bV 8 3) HT_.out ?_
     refine pT 3 20 (bV 8 11) HT_.out ?_
     refine pT 4 21 (bV 8 27) HT_.out ?_
     refine tI 2 19 (bV 8 31) rfl (take_ofW HT_.out HW_.out (by kernel_rfl)) hHeld (by rintro w' ⟨s0,s1⟩;go_simp;with_reducible rfl) ?_
     refine tI 5 22 (bV 8 63) rfl (take_ofW HT_.out HW_.out (by kernel_rfl)) hHeld (by rintro w' ⟨s0,s1⟩;go_simp;with_reducible rfl) ?_
     refine one_ (i:=6) (N:=some 23) (bV 8 127) rfl rfl (one_of HT_.out (by kernel_rfl)) (by decide) (fun K hK=>?_)
     refine goes_ Try.func64 (by kernel_rfl) rfl #[.int .i64 (rd (rd_L3 t287 x13_1) 0),.int .i64 (rd (rd_L3 t287 x13_1) 1)] (by rfl) rfl rfl (by (try simp only [List.map_toArray,List.map_cons,List.map_nil]);first|done|rfl) ?_
     with_reducible refine (spec_l07Direction.calls k1 (rd (rd_L3 t287 x13_1) 0) (rd (rd_L3 t287 x13_1) 1) t293 _ A15.out).mono ?_
     rintro e w23 ⟨v294,rfl,ho0,hb⟩
     have HS0_:=(hb.cell (World.block_lt_of_cell? _ _ (hHeld.1))).trans (hHeld.1)
     have HS1_:=(hb.cell (World.block_lt_of_cell? _ _ (hHeld.2))).trans (hHeld.2)
     refine ⟨_,rfl,?_⟩
     have n0_:=Aside0.mk (Kd.N_elder' (by (with_reducible repeat (first|apply nA|apply nN|apply nD));exact HO_3.out) (Kd.R_base ho0) hb)
     have n1_:=Aside0.mk (Kd.N_elder' (by (with_reducible repeat (first|apply nA|apply nN|apply nD));exact HO_11.out) (Kd.R_base ho0) hb)
     have n2_:=Aside0.mk (Kd.V_elder' (by (with_reducible repeat (first|apply vA|apply vN|apply vD));exact HL290_0.out) (Kd.R_base ho0) hb)
     have n3_:=Aside0.mk (Kd.R_lower (Kd.R_newM (M:=fun k_=>(w.heap.size≤k_)) ho0 (below_size (by repeat (with_reducible first|exact HB.out|apply bA|apply bN|apply bD))) (fun k_ h_=>h_)) (below_size (by repeat (with_reducible first|exact HB.out|apply bA|apply bN|apply bD))))
     have n4_:=Aside0.mk (Kd.C_below (by repeat (first|(with_reducible exact HR290_0.out)|(with_reducible refine Kd.C_alloc ?_ _)|(with_reducible refine Kd.C_drewN ?_ _)|(with_reducible refine Kd.C_drew ?_)|exact HR290_0.out)) hb)
     have n5_:=Aside0.mk (below_step (by repeat (with_reducible first|exact HB.out|apply bA|apply bN|apply bD)) hb)
     clear HO_3
     clear HO_11
     clear HL290_0
     clear HR290_0
     clear HB
     have HO_3:=n0_
     have HO_11:=n1_
     have HL290_0:=n2_
     have HO295:=n3_
     have HR290_0:=n4_
     have HB:=n5_
     clear n0_ n1_ n2_ n3_ n4_ n5_
     (try clear hb)
     (try clear hb2)
     (try clear hk)
     (try clear hi)
     (try clear ho0)
     refine hK.out _ _ ⟨HS0_,HS1_⟩ (fun hHeld=>?_)
     clear hK K
     refine norm_ (a':=?_) ?_ ?_
     rotate_left
     ·show Act.put _ (some 23) _=_
      simp only [Act.put,sI,sZ,sS,i64_w,i32_w]
      rfl
     refine pT 7 6 (bV 8 255) HT_.out ?_
     refine done_ (done_of HT_.out (by kernel_rfl)) ?_
     try go_wp2
     have n0_:=Aside0.mk (Kd.N_drew HO_3.out)
     have n1_:=Aside0.mk (Kd.N_drew HO_11.out)
     have n2_:=Aside0.mk (Kd.V_drew HL290_0.out)
     have n3_:=Aside0.mk (Kd.R_drew HO295.out)
     have n4_:=Aside0.mk (Kd.C_drew HR290_0.out)
     have n5_:=Aside0.mk (below_drew1 HB.out)
     clear HO_3
     clear HO_11
     clear HL290_0
     clear HO295
     clear HR290_0
     clear HB
     have HO_3:=n0_
     have HO_11:=n1_
     have HL290_0:=n2_
     have HO295:=n3_
     have HR290_0:=n4_
     have HB:=n5_
     clear n0_ n1_ n2_ n3_ n4_ n5_
     have p296:0≤(0:Int):=(by omega)
     have q296:0 < ((rd_L3 t287 x13_1).length:Int):=of_decide_eq_true (by assumption)
     obtain ⟨ad296,e296,hx296_0⟩:=Kd.at_int (by repeat (first|(with_reducible exact HR290_0.out)|(with_reducible refine Kd.C_alloc ?_ _)|(with_reducible refine Kd.C_drewN ?_ _)|(with_reducible refine Kd.C_drew ?_)|exact HR290_0.out)) 0 p296 q296
     obtain rfl:ad291=ad296:=(by injection e296)
     have qi296:(0 < (rd_L3 t287 x13_1).length)=True:=eq_true (by omega)
     (try rw [show ((0:Int)).toNat=0 from rfl] at hx296_0)
     (try rw [Addr.add_zero'] at hx296_0)
     replace p296:=eq_true p296
     replace q296:=eq_true q296
     have p297:0≤(1:Int):=(by omega)
     have q297:1 < ((rd_L3 t287 x13_1).length:Int):=of_decide_eq_true (by assumption)
     obtain ⟨ad297,e297,hx297_0⟩:=Kd.at_int (by repeat (first|(with_reducible exact HR290_0.out)|(with_reducible refine Kd.C_alloc ?_ _)|(with_reducible refine Kd.C_drewN ?_ _)|(with_reducible refine Kd.C_drew ?_)|exact HR290_0.out)) 1 p297 q297
     obtain rfl:ad291=ad297:=(by injection e297)
     (try simp only [show (1:Int).toNat=1 from rfl,Nat.reduceMul,Nat.reduceEqDiff,Go.Addr.add,↓reduceIte] at hx297_0)
     have qi297:(1 < (rd_L3 t287 x13_1).length)=True:=eq_true (by omega)
     (try rw [show ((1:Int)).toNat=1 from rfl] at hx297_0)
     replace p297:=eq_true p297
     replace q297:=eq_true q297
     refine start_ (n:=8) (S:=fun w'=>w'.cell? ad291=some (.int .i64 (rd (rd_L3 t287 x13_1) 0))∧w'.cell? ⟨ad291.block,ad291.off+1,none⟩=some (.int .i64 (rd (rd_L3 t287 x13_1) 1))) (ds:=[]) (bV 8 0) (by kernel_rfl) rfl rfl ⟨hx296_0,hx297_0⟩ (fun hHeld=>?_);refine with_tabW spec_l07All.tab6 spec_l07All.bits6 (fun HT_ HW_=>?_)
     generalize w23.drew=w24 at HO_3 HO_11 HL290_0 HO295 HR290_0 HB hx296_0 hx297_0 hHeld ⊢
     refine pT 0 24 (bV 8 1) HT_.out ?_
     refine pT 1 25 (bV 8 3) HT_.out ?_
     refine pT 3 27 (bV 8 11) HT_.out ?_
     refine pT 4 28 (bV 8 27) HT_.out ?_
     refine tI 2 26 (bV 8 31) rfl (take_ofW HT_.out HW_.out (by kernel_rfl)) hHeld (by rintro w' ⟨s0,s1⟩;go_simp;with_reducible rfl) ?_
     refine tI 5 29 (bV 8 63) rfl (take_ofW HT_.out HW_.out (by kernel_rfl)) hHeld (by rintro w' ⟨s0,s1⟩;go_simp;with_reducible rfl) ?_
     refine one_ (i:=6) (N:=some 30) (bV 8 127) rfl rfl (one_of HT_.out (by kernel_rfl)) (by decide) (fun K hK=>?_)
     refine goes_ Try.func65 (by kernel_rfl) rfl #[.int .i64 (rd (rd_L3 t287 x13_1) 0),.int .i64 (rd (rd_L3 t287 x13_1) 1)] (by rfl) rfl rfl (by (try simp only [List.map_toArray,List.map_cons,List.map_nil]);first|done|rfl) ?_
     with_reducible refine (spec_l02Gcd.calls k1 (rd (rd_L3 t287 x13_1) 0) (rd (rd_L3 t287 x13_1) 1) t298 _ A16.out).mono ?_
     rintro e w25 ⟨rfl,hb⟩
     have HS0_:=(hb.cell (World.block_lt_of_cell? _ _ (hHeld.1))).trans (hHeld.1)
     have HS1_:=(hb.cell (World.block_lt_of_cell? _ _ (hHeld.2))).trans (hHeld.2)
     refine ⟨_,rfl,?_⟩
     have n0_:=Aside0.mk (Kd.N_below (by (with_reducible repeat (first|apply nA|apply nN|apply nD));exact HO_3.out) hb)
     have n1_:=Aside0.mk (Kd.N_below (by (with_reducible repeat (first|apply nA|apply nN|apply nD));exact HO_11.out) hb)
     have n2_:=Aside0.mk (Kd.V_below (by (with_reducible repeat (first|apply vA|apply vN|apply vD));exact HL290_0.out) hb)
     have n3_:=Aside0.mk (Kd.R_below (by (with_reducible repeat (first|apply rA|apply rN|apply rD));exact HO295.out) hb)
     have n4_:=Aside0.mk (Kd.C_below (by repeat (first|(with_reducible exact HR290_0.out)|(with_reducible refine Kd.C_alloc ?_ _)|(with_reducible refine Kd.C_drewN ?_ _)|(with_reducible refine Kd.C_drew ?_)|exact HR290_0.out)) hb)
     have n5_:=Aside0.mk (below_step (by repeat (with_reducible first|exact HB.out|apply bA|apply bN|apply bD)) hb)
     clear HO_3
     clear HO_11
     clear HL290_0
     clear HO295
     clear HR290_0
     clear HB
     have HO_3:=n0_
     have HO_11:=n1_
     have HL290_0:=n2_
     have HO295:=n3_
     have HR290_0:=n4_
     have HB:=n5_
     clear n0_ n1_ n2_ n3_ n4_ n5_
     (try clear hb)
     (try clear hb2)
     (try clear hk)
     (try clear hi)
     refine hK.out _ _ ⟨HS0_,HS1_⟩ (fun hHeld=>?_)
     clear hK K
     refine norm_ (a':=?_) ?_ ?_
     rotate_left
     ·show Act.put _ (some 30) _=_
      simp only [Act.put,sI,sZ,sS,i64_w,i32_w]
      rfl
     refine pT 7 7 (bV 8 255) HT_.out ?_
     refine done_ (done_of HT_.out (by kernel_rfl)) ?_
     try go_wp2
     have n0_:=Aside0.mk (Kd.N_drew HO_3.out)
     have n1_:=Aside0.mk (Kd.N_drew HO_11.out)
     have n2_:=Aside0.mk (Kd.V_drew HL290_0.out)
     have n3_:=Aside0.mk (Kd.R_drew HO295.out)
     have n4_:=Aside0.mk (Kd.C_drew HR290_0.out)
     have n5_:=Aside0.mk (below_drew1 HB.out)
     clear HO_3
     clear HO_11
     clear HL290_0
     clear HO295
     clear HR290_0
     clear HB
     have HO_3:=n0_
     have HO_11:=n1_
     have HL290_0:=n2_
     have HO295:=n3_
     have HR290_0:=n4_
     have HB:=n5_
     clear n0_ n1_ n2_ n3_ n4_ n5_
     have p299:0≤(0:Int):=(by omega)
     have q299:0 < ((rd_L3 t287 x13_1).length:Int):=of_decide_eq_true (by assumption)
     obtain ⟨ad299,e299,hx299_0⟩:=Kd.at_int (by repeat (first|(with_reducible exact HR290_0.out)|(with_reducible refine Kd.C_alloc ?_ _)|(with_reducible refine Kd.C_drewN ?_ _)|(with_reducible refine Kd.C_drew ?_)|exact HR290_0.out)) 0 p299 q299
     obtain rfl:ad291=ad299:=(by injection e299)
     have qi299:(0 < (rd_L3 t287 x13_1).length)=True:=eq_true (by omega)
     (try rw [show ((0:Int)).toNat=0 from rfl] at hx299_0)
     (try rw [Addr.add_zero'] at hx299_0)
     replace p299:=eq_true p299
     replace q299:=eq_true q299
     obtain ⟨Ao27,co27,eo27⟩:=Kd.R_slice HO295.out
     (first|subst eo27|(injection eo27 with f1_ f2_ f3_;have f4_:=f1_.symm;have f5_:=f3_.symm;clear f1_ f2_ f3_;subst f4_;subst f5_))
     have p300:0≤(0:Int):=(by omega)
     have q300:0 < (t293.length:Int):=of_decide_eq_true (by assumption)
     obtain ⟨ad300,e300,hx300_0⟩:=Kd.at_int (Kd.R_reads' HO295.out).2.2 0 p300 q300
     cases e300
     have qi300:(0 < t293.length)=True:=eq_true (by omega)
     (try rw [show ((0:Int)).toNat=0 from rfl] at hx300_0)
     (try rw [Addr.add_zero'] at hx300_0)
     replace p300:=eq_true p300
     replace q300:=eq_true q300
     have p301:0≤(1:Int):=(by omega)
     have q301:1 < ((rd_L3 t287 x13_1).length:Int):=of_decide_eq_true (by assumption)
     obtain ⟨ad301,e301,hx301_0⟩:=Kd.at_int (by repeat (first|(with_reducible exact HR290_0.out)|(with_reducible refine Kd.C_alloc ?_ _)|(with_reducible refine Kd.C_drewN ?_ _)|(with_reducible refine Kd.C_drew ?_)|exact HR290_0.out)) 1 p301 q301
     obtain rfl:ad291=ad301:=(by injection e301)
     (try simp only [show (1:Int).toNat=1 from rfl,Nat.reduceMul,Nat.reduceEqDiff,Go.Addr.add,↓reduceIte] at hx301_0)
     have qi301:(1 < (rd_L3 t287 x13_1).length)=True:=eq_true (by omega)
     (try rw [show ((1:Int)).toNat=1 from rfl] at hx301_0)
     replace p301:=eq_true p301
     replace q301:=eq_true q301
     have p302:0≤(1:Int):=(by omega)
     have q302:1 < (t293.length:Int):=of_decide_eq_true (by assumption)
     obtain ⟨ad302,e302,hx302_0⟩:=Kd.at_int (Kd.R_reads' HO295.out).2.2 1 p302 q302
     obtain rfl:ad300=ad302:=(by injection e302)
     (try simp only [show (1:Int).toNat=1 from rfl,Nat.reduceMul,Nat.reduceEqDiff,Go.Addr.add,↓reduceIte] at hx302_0)
     have qi302:(1 < t293.length)=True:=eq_true (by omega)
     (try rw [show ((1:Int)).toNat=1 from rfl] at hx302_0)
     replace p302:=eq_true p302
     replace q302:=eq_true q302
     refine start_ (n:=20) (S:=fun w'=>w'.cell? ad291=some (.int .i64 (rd (rd_L3 t287 x13_1) 0))∧w'.cell? ad300=some (.int .i64 (rd t293 0))∧w'.cell? ⟨ad291.block,ad291.off+1,none⟩=some (.int .i64 (rd (rd_L3 t287 x13_1) 1))∧w'.cell? ⟨ad300.block,ad300.off+1,none⟩=some (.int .i64 (rd t293 1))) (ds:=[]) (bV 20 0) (by kernel_rfl) rfl rfl ⟨hx299_0,hx300_0,hx301_0,hx302_0⟩ (fun hHeld=>?_);refine with_tabW spec_l07All.tab7 spec_l07All.bits7 (fun HT_ HW_=>?_)
     generalize w25.drew=w26 at HO_3 HO_11 HL290_0 HO295 HR290_0 HB hx299_0 hx300_0 hx301_0 hx302_0 hHeld ⊢
     refine pT 0 31 (bV 20 1) HT_.out ?_
     refine pT 1 32 (bV 20 3) HT_.out ?_
     refine pT 3 34 (bV 20 11) HT_.out ?_
     refine pT 4 35 (bV 20 27) HT_.out ?_
     refine pT 6 37 (bV 20 91) HT_.out ?_
     refine tI 2 33 (bV 20 95) rfl (take_ofW HT_.out HW_.out (by kernel_rfl)) hHeld (by rintro w' ⟨s0,s1,s2,s3⟩;go_simp;with_reducible rfl) ?_
     refine tI 5 36 (bV 20 127) rfl (take_ofW HT_.out HW_.out (by kernel_rfl)) hHeld (by rintro w' ⟨s0,s1,s2,s3⟩;go_simp;with_reducible rfl) ?_
     refine pT 7 38 (bV 20 255) HT_.out ?_
     refine pT 8 39 (bV 20 511) HT_.out ?_
     refine pT 9 40 (bV 20 1023) HT_.out ?_
     refine pT 10 41 (bV 20 2047) HT_.out ?_
     refine pT 11 42 (bV 20 4095) HT_.out ?_
     refine pT 13 44 (bV 20 12287) HT_.out ?_
     refine pT 14 45 (bV 20 28671) HT_.out ?_
     refine pT 16 47 (bV 20 94207) HT_.out ?_
     refine tI 12 43 (bV 20 98303) rfl (take_ofW HT_.out HW_.out (by kernel_rfl)) hHeld (by rintro w' ⟨s0,s1,s2,s3⟩;go_simp;with_reducible rfl) ?_
     refine tI 15 46 (bV 20 131071) rfl (take_ofW HT_.out HW_.out (by kernel_rfl)) hHeld (by rintro w' ⟨s0,s1,s2,s3⟩;go_simp;with_reducible rfl) ?_
     refine pT 17 48 (bV 20 262143) HT_.out ?_
     refine pT 18 49 (bV 20 524287) HT_.out ?_
     refine pT 19 50 (bV 20 1048575) HT_.out ?_
     refine done_ (done_of HT_.out (by kernel_rfl)) ?_
     try go_wp2
     have n0_:=Aside0.mk (Kd.N_drew HO_3.out)
     have n1_:=Aside0.mk (Kd.N_drew HO_11.out)
     have n2_:=Aside0.mk (Kd.V_drew HL290_0.out)
     have n3_:=Aside0.mk (Kd.R_drew HO295.out)
     have n4_:=Aside0.mk (Kd.C_drew HR290_0.out)
     have n5_:=Aside0.mk (below_drew1 HB.out)
     clear HO_3
     clear HO_11
     clear HL290_0
     clear HO295
     clear HR290_0
     clear HB
     have HO_3:=n0_
     have HO_11:=n1_
     have HL290_0:=n2_
     have HO295:=n3_
     have HR290_0:=n4_
     have HB:=n5_
     clear n0_ n1_ n2_ n3_ n4_ n5_
     have p303:0≤(0:Int):=(by omega)
     have q303:0 < (t293.length:Int):=of_decide_eq_true (by assumption)
     obtain ⟨ad303,e303,hx303_0⟩:=Kd.at_int (Kd.R_reads' HO295.out).2.2 0 p303 q303
     obtain rfl:ad300=ad303:=(by injection e303)
     have qi303:(0 < t293.length)=True:=eq_true (by omega)
     (try rw [show ((0:Int)).toNat=0 from rfl] at hx303_0)
     (try rw [Addr.add_zero'] at hx303_0)
     replace p303:=eq_true p303
     replace q303:=eq_true q303
     have p304:0≤(1:Int):=(by omega)
     have q304:1 < (t293.length:Int):=of_decide_eq_true (by assumption)
     obtain ⟨ad304,e304,hx304_0⟩:=Kd.at_int (Kd.R_reads' HO295.out).2.2 1 p304 q304
     obtain rfl:ad300=ad304:=(by injection e304)
     (try simp only [show (1:Int).toNat=1 from rfl,Nat.reduceMul,Nat.reduceEqDiff,Go.Addr.add,↓reduceIte] at hx304_0)
     have qi304:(1 < t293.length)=True:=eq_true (by omega)
     (try rw [show ((1:Int)).toNat=1 from rfl] at hx304_0)
     replace p304:=eq_true p304
     replace q304:=eq_true q304
     refine start_ (n:=11) (S:=fun w'=>w'.cell? ad300=some (.int .i64 (rd t293 0))∧w'.cell? ⟨ad300.block,ad300.off+1,none⟩=some (.int .i64 (rd t293 1))) (ds:=[]) (bV 11 0) (by kernel_rfl) rfl rfl ⟨hx303_0,hx304_0⟩ (fun hHeld=>?_);refine with_tabW spec_l07All.tab9 spec_l07All.bits9 (fun HT_ HW_=>?_)
     generalize w26.drew=w28 at HO_3 HO_11 HL290_0 HO295 HR290_0 HB hx303_0 hx304_0 hHeld ⊢
     refine pT 0 53 (bV 11 1) HT_.out ?_
     refine pT 1 54 (bV 11 3) HT_.out ?_
     refine pT 2 55 (bV 11 7) HT_.out ?_
     refine pT 4 57 (bV 11 23) HT_.out ?_
     refine pT 5 58 (bV 11 55) HT_.out ?_
     refine pT 7 60 (bV 11 183) HT_.out ?_
     refine tI 3 56 (bV 11 191) rfl (take_ofW HT_.out HW_.out (by kernel_rfl)) hHeld (by rintro w' ⟨s0,s1⟩;go_simp;with_reducible rfl) ?_
     refine tI 6 59 (bV 11 255) rfl (take_ofW HT_.out HW_.out (by kernel_rfl)) hHeld (by rintro w' ⟨s0,s1⟩;go_simp;with_reducible rfl) ?_
     refine one_ (i:=8) (N:=some 61) (bV 11 511) rfl rfl (one_of HT_.out (by kernel_rfl)) (by decide) (fun K hK=>?_)
     refine Kd.R_lit_step (Kd.int .i64) _ 3 ?hg (N:=61) ?hd (xs:=([rd t293 0,rd t293 1,t298]:List Int)) (inner:=[.int .i64 (rd t293 0),.int .i64 (rd t293 1),.int .i64 t298]) (ok:=fun _=>True) (okp:=fun _=>True) ?hr ?hp (fun _ hk=>hk) trivial (Below.refl _ _) (Nat.le_refl _) (by simp) ?_;(case hd=>rfl);(case hg=>rfl);(case hr=>first|(go_simp;done)|(go_simp;rfl));(case hp=>exact (Reps.one (show Kd.M (Kd.int .i64) _ _ _ (rd t293 0) [.int .i64 (rd t293 0)] from rfl) (Reps.one (show Kd.M (Kd.int .i64) _ _ _ (rd t293 1) [.int .i64 (rd t293 1)] from rfl) (Reps.one (show Kd.M (Kd.int .i64) _ _ _ t298 [.int .i64 t298] from rfl) (Reps.none _ _)))))
     intro v306 w29 ho30 hb hg_ hnew_
     have HS0_:=(hb.cell (World.block_lt_of_cell? _ _ (hHeld.1))).trans (hHeld.1)
     have HS1_:=(hb.cell (World.block_lt_of_cell? _ _ (hHeld.2))).trans (hHeld.2)
     clear hg_ hnew_
     (first|rw [← Ny305.out] at ho30|(simp only [Int.reduceToNat] at ho30;rw [← Ny305.out] at ho30))
     have n0_:=Aside0.mk (Kd.N_elder' (by (with_reducible repeat (first|apply nA|apply nN|apply nD));exact HO_3.out) (Kd.R_base ho30) hb)
     have n1_:=Aside0.mk (Kd.N_elder' (by (with_reducible repeat (first|apply nA|apply nN|apply nD));exact HO_11.out) (Kd.R_base ho30) hb)
     have n2_:=Aside0.mk (Kd.V_elder' (by (with_reducible repeat (first|apply vA|apply vN|apply vD));exact HL290_0.out) (Kd.R_base ho30) hb)
     have n3_:=Aside0.mk (Kd.R_elder' (by (with_reducible repeat (first|apply rA|apply rN|apply rD));exact HO295.out) (Kd.R_base ho30) hb)
     have n4_:=Aside0.mk (Kd.R_lower (Kd.R_new' (Kd.R_newM (M:=fun k_=>(w.heap.size≤k_)) ho30 (below_size (by repeat (with_reducible first|exact HB.out|apply bA|apply bN|apply bD))) (fun k_ h_=>h_)) (Kd.R_lt (by (with_reducible repeat (first|apply rA|apply rN|apply rD));exact HO295.out))) (below_size (by repeat (with_reducible first|exact HB.out|apply bA|apply bN|apply bD))))
     have n5_:=Aside0.mk (Kd.C_below (by repeat (first|(with_reducible exact HR290_0.out)|(with_reducible refine Kd.C_alloc ?_ _)|(with_reducible refine Kd.C_drewN ?_ _)|(with_reducible refine Kd.C_drew ?_)|exact HR290_0.out)) hb)
     have n6_:=Aside0.mk (below_step (by repeat (with_reducible first|exact HB.out|apply bA|apply bN|apply bD)) hb)
     clear HO_3
     clear HO_11
     clear HL290_0
     clear HO295
     clear HR290_0
     clear HB
     have HO_3:=n0_
     have HO_11:=n1_
     have HL290_0:=n2_
     have HO295:=n3_
     have HO307:=n4_
     have HR290_0:=n5_
     have HB:=n6_
     clear n0_ n1_ n2_ n3_ n4_ n5_ n6_
     clear hb ho30
     obtain ⟨Ao31,co31,eo31⟩:=Kd.N_slice HO_3.out
     (first|subst eo31|(injection eo31 with f1_ f2_ f3_;have f4_:=f1_.symm;have f5_:=f3_.symm;clear f1_ f2_ f3_;subst f4_;subst f5_))
     obtain ⟨Ao32,co32,eo32⟩:=Kd.R_slice HO307.out
     (first|subst eo32|(injection eo32 with f1_ f2_ f3_;have f4_:=f1_.symm;have f5_:=f3_.symm;clear f1_ f2_ f3_;subst f4_;subst f5_))
     refine hK.out _ _ ⟨HS0_,HS1_⟩ (fun hHeld=>?_)
     clear hK K
     refine norm_ (a':=?_) ?_ ?_
     rotate_left
     ·show Act.put _ (some 61) _=_
      simp only [Act.put,sI,sZ,sS,i64_w,i32_w]
      rfl
     refine one_ (i:=9) (N:=some 62) (bV 11 1023) rfl rfl (one_of HT_.out (by kernel_rfl)) (by decide) (fun K hK=>?_)
     refine goes_ Try.func66 (by kernel_rfl) rfl #[.slice Ao31 x3_1.length co31,.slice Ao32 y305.length co32] (by rfl) rfl rfl (by (try simp only [List.map_toArray,List.map_cons,List.map_nil]);first|done|rfl) ?_
     with_reducible refine (spec_l07Put.calls k1 (fun k_=>((((P0_ k_∨w.heap.size≤k_)∧some k_≠(.slice (some ad290) t287.length co9:Value).ownBlock)∧some k_≠(.slice (some ad300) t293.length co27:Value).ownBlock)∧some k_≠(.slice Ao32 y305.length co32:Value).ownBlock)) _ _ x3_1 _ _ y305 t308 _ ?side1 ?side2 ?side3 A21.out).mono ?_
     (case side1=>exact Kd.N_V (HO_3.out))
     (case side2=>repeat (first|exact (Kd.R_reads' HO307.out).2.2|(with_reducible refine Kd.C_alloc ?_ _)|(with_reducible refine Kd.C_drewN ?_ _)|(with_reducible refine Kd.C_drew ?_)))
     (case side3=>exact (Kd.R_reads' HO307.out).2.1)
     rintro e w33 ⟨v309,rfl,ho0,hb⟩
     have HS0_:=(hb.cell (World.block_lt_of_cell? _ _ (hHeld.1))).trans (hHeld.1)
     have HS1_:=(hb.cell (World.block_lt_of_cell? _ _ (hHeld.2))).trans (hHeld.2)
     refine ⟨_,rfl,?_⟩
     have n0_:=Aside0.mk (Kd.N_elder' (by (with_reducible repeat (first|apply nA|apply nN|apply nD));exact HO_3.out) (by first|exact Kd.N_base ho0|exact Kd.S_base ho0) hb)
     have n1_:=Aside0.mk (Kd.N_elder' (by (with_reducible repeat (first|apply nA|apply nN|apply nD));exact HO_11.out) (by first|exact Kd.N_base ho0|exact Kd.S_base ho0) hb)
     have n2_:=Aside0.mk (Kd.V_elder' (by (with_reducible repeat (first|apply vA|apply vN|apply vD));exact HL290_0.out) (by first|exact Kd.N_base ho0|exact Kd.S_base ho0) hb)
     have n3_:=Aside0.mk (Kd.R_below (by (with_reducible repeat (first|apply rA|apply rN|apply rD));exact HO295.out) hb)
     have n4_:=Aside0.mk (Kd.R_below (by (with_reducible repeat (first|apply rA|apply rN|apply rD));exact HO307.out) hb)
     have n5_:=Aside0.mk (Kd.N_lower (Kd.N_mono (ok':=fun k_=>(P0_ k_∨w.heap.size≤k_)∧some k_≠(.slice (some ad290) t287.length co9:Value).ownBlock∧some k_≠(.slice (some ad300) t293.length co27:Value).ownBlock∧some k_≠(.slice Ao32 y305.length co32:Value).ownBlock) ho0 (fun k_ hk_=>⟨Or.elim hk_ (fun hs_=>hs_.1.1.1) (fun hn_=>(.inr (Nat.le_trans (below_size (by repeat (with_reducible first|exact HB.out|apply bA|apply bN|apply bD))) hn_))),Or.elim hk_ (fun hs_=>hs_.1.1.2) (fun hn_=>(Kd.fresh' (Kd.N_lt (by (with_reducible repeat (first|apply nA|apply nN|apply nD));exact HO_11.out)) k_ hn_)),Or.elim hk_ (fun hs_=>hs_.1.2) (fun hn_=>(Kd.fresh' (Kd.R_lt (by (with_reducible repeat (first|apply rA|apply rN|apply rD));exact HO295.out)) k_ hn_)),Or.elim hk_ (fun hs_=>hs_.2) (fun hn_=>(Kd.fresh' (Kd.R_lt (by (with_reducible repeat (first|apply rA|apply rN|apply rD));exact HO307.out)) k_ hn_))⟩)) (below_size (by repeat (with_reducible first|exact HB.out|apply bA|apply bN|apply bD))))
     have n6_:=Aside0.mk (Kd.C_below (by repeat (first|(with_reducible exact HR290_0.out)|(with_reducible refine Kd.C_alloc ?_ _)|(with_reducible refine Kd.C_drewN ?_ _)|(with_reducible refine Kd.C_drew ?_)|exact HR290_0.out)) hb)
     have n7_:=Aside0.mk (below_step (by repeat (with_reducible first|exact HB.out|apply bA|apply bN|apply bD)) hb)
     clear HO_3
     clear HO_11
     clear HL290_0
     clear HO295
     clear HO307
     clear HR290_0
     clear HB
     have HO_3:=n0_
     have HO_11:=n1_
     have HL290_0:=n2_
     have HO295:=n3_
     have HO307:=n4_
     have HO310:=n5_
     have HR290_0:=n6_
     have HB:=n7_
     clear n0_ n1_ n2_ n3_ n4_ n5_ n6_ n7_
     (try clear hb)
     (try clear hb2)
     (try clear hk)
     (try clear hi)
     (try clear ho0)
     refine hK.out _ _ ⟨HS0_,HS1_⟩ (fun hHeld=>?_)
     clear hK K
     refine norm_ (a':=?_) ?_ ?_
     rotate_left
     ·show Act.put _ (some 62) _=_
      simp only [Act.put,sI,sZ,sS,i64_w,i32_w]
      rfl
     refine pT 10 3 (bV 11 2047) HT_.out ?_
     refine done_ (done_of HT_.out (by kernel_rfl)) ?_
     try go_wp2
     go_roundg k1
     case measure=>have:=HK1.out;omega
     case rel=>exact ⟨(t308),(wrap64 (x13_1+1)),(by first|rfl|(simp;done)|(simp [*];done)),H',⟨by have:=HK1.out;omega⟩,⟨by (with_reducible repeat (first|apply nA|apply nN|apply nD));exact Kd.N_mono HO310.out (fun _ hk=>⟨hk.1,hk.2.1⟩)⟩,⟨by (with_reducible repeat (first|apply nA|apply nN|apply nD));exact Kd.N_mono HO_11.out (fun _ hk=>⟨hk.1.1.1.1,hk.2⟩)⟩,⟨by repeat (with_reducible first|exact HB.out|apply bA|apply bN|apply bD)⟩⟩
    ·rw [if_neg c20] at H
     have c20b0:((rd (rd_L3 t287 x13_1) 1) == (wrap64 ((rd t293 1) * t298)))=false:=beq_eq_false_iff_ne.mpr c20
     have c20b1:((rd (rd_L3 t287 x13_1) 1) != (wrap64 ((rd t293 1) * t298)))=true:=bne_iff_ne.mpr c20
     obtain ⟨y313,hy313⟩ : ∃ y_:List Int,y_=(([rd t293 0,rd t293 1,wrap64 (-t298)]:List Int)):=⟨_,rfl⟩
     replace H:((spec_l07Put.f k1 x3_1 y313).bind fun t316=>(spec_l07All.l0 k1 t316 t287 (t287.length:Int) (wrap64 (x13_1+1))))=some r:=by (try rw [hy313]);first|with_reducible exact H|with_reducible exact (Option.bind_some _ _).symm.trans H|exact H
     have Ny313:=Aside0.mk hy313
     clear hy313
     replace H:=Option.bind_eq_some_iff.mp H
     obtain ⟨t316,A340,H⟩:=H
     have A34:=Aside0.mk A340
     clear A340
     have H':=Aside0.mk H
     clear H
     have p290:0≤(x13_1:Int):=of_decide_eq_true (by assumption)
     have q290:x13_1 < (t287.length:Int):=of_decide_eq_true (by assumption)
     obtain ⟨ad290,A290_0,c290_0,e290,hx290_0,hl290_0,hi290_0⟩:=at_L3 (Kd.N_reads' HO_11.out).2.2 x13_1 p290 q290
     cases e290
     obtain ⟨ce290,hce290,hMe290,hcc290⟩:=Kd.N_get HO_11.out [] x13_1 p290 (by first|exact q290|exact of_decide_eq_true (by assumption)|(have e_:=(Kd.N_reads' HO_11.out).1;omega))
     obtain ⟨ua290_0,uc290_0,rfl,ul290_0,ge290_0⟩:=Kd.FK_slice_open hMe290
     have hv290_0:=hcc290 0 _ rfl
     rw [Nat.add_zero,show ((Kd.slice 3 (Kd.int .i64))).sz=1 from rfl,Nat.mul_one] at hv290_0
     replace hv290_0:=Option.some.inj (hv290_0.symm.trans hx290_0)
     injection hv290_0 with hva_ hvn_ hvc_
     rw [hva_] at ge290_0
     rw [hvc_] at ul290_0
     have HL290_0:=Aside0.mk (show Kd.V (Kd.int .i64) 3 _ w.heap.size _ _ (rd_L3 t287 x13_1) from Kd.V_mk ul290_0 ge290_0)
     clear hva_ hvn_ hvc_ ge290_0 ul290_0
     clear hcc290 hce290
     have HR290_0:=Aside0.mk hi290_0
     have HC290_0:=Aside0.mk hl290_0
     clear hi290_0 hl290_0
     replace p290:=eq_true p290
     replace q290:=eq_true q290
     try go_wp2
     have n0_:=Aside0.mk (Kd.N_drew HO_3.out)
     have n1_:=Aside0.mk (Kd.N_drew HO_11.out)
     have n2_:=Aside0.mk (Kd.V_drew HL290_0.out)
     have n3_:=Aside0.mk (Kd.C_drew HR290_0.out)
     have n4_:=Aside0.mk (below_drew1 HB.out)
     clear HO_3
     clear HO_11
     clear HL290_0
     clear HR290_0
     clear HB
     have HO_3:=n0_
     have HO_11:=n1_
     have HL290_0:=n2_
     have HR290_0:=n3_
     have HB:=n4_
     clear n0_ n1_ n2_ n3_ n4_
     have p291:0≤(0:Int):=(by omega)
     have q291:0 < ((rd_L3 t287 x13_1).length:Int):=of_decide_eq_true (by assumption)
     obtain ⟨ad291,e291,hx291_0⟩:=Kd.at_int (by repeat (first|(with_reducible exact HR290_0.out)|(with_reducible refine Kd.C_alloc ?_ _)|(with_reducible refine Kd.C_drewN ?_ _)|(with_reducible refine Kd.C_drew ?_)|exact HR290_0.out)) 0 p291 q291
     cases e291
     have qi291:(0 < (rd_L3 t287 x13_1).length)=True:=eq_true (by omega)
     (try rw [show ((0:Int)).toNat=0 from rfl] at hx291_0)
     (try rw [Addr.add_zero'] at hx291_0)
     replace p291:=eq_true p291
     replace q291:=eq_true q291
     have p292:0≤(1:Int):=(by omega)
     have q292:1 < ((rd_L3 t287 x13_1).length:Int):=of_decide_eq_true (by assumption)
     obtain ⟨ad292,e292,hx292_0⟩:=Kd.at_int (by repeat (first|(with_reducible exact HR290_0.out)|(with_reducible refine Kd.C_alloc ?_ _)|(with_reducible refine Kd.C_drewN ?_ _)|(with_reducible refine Kd.C_drew ?_)|exact HR290_0.out)) 1 p292 q292
     obtain rfl:ad291=ad292:=(by injection e292)
     (try simp only [show (1:Int).toNat=1 from rfl,Nat.reduceMul,Nat.reduceEqDiff,Go.Addr.add,↓reduceIte] at hx292_0)
     have qi292:(1 < (rd_L3 t287 x13_1).length)=True:=eq_true (by omega)
     (try rw [show ((1:Int)).toNat=1 from rfl] at hx292_0)
     replace p292:=eq_true p292
     replace q292:=eq_true q292
     refine start_ (n:=8) (S:=fun w'=>w'.cell? ad291=some (.int .i64 (rd (rd_L3 t287 x13_1) 0))∧w'.cell? ⟨ad291.block,ad291.off+1,none⟩=some (.int .i64 (rd (rd_L3 t287 x13_1) 1))) (ds:=[]) (bV 8 0) (by kernel_rfl) rfl rfl ⟨hx291_0,hx292_0⟩ (fun hHeld=>?_);refine with_tabW spec_l07All.tab5 spec_l07All.bits5 (fun HT_ HW_=>?_)
     generalize wr.drew=w35 at HO_3 HO_11 HL290_0 HR290_0 HB hx291_0 hx292_0 hHeld ⊢
     refine pT 0 17 (bV 8 1) HT_.out ?_
     refine pT 1 18 (bV 8 3) HT_.out ?_
     refine pT 3 20 (bV 8 11) HT_.out ?_
     refine pT 4 21 (bV 8 27) HT_.out ?_
     refine tI 2 19 (bV 8 31) rfl (take_ofW HT_.out HW_.out (by kernel_rfl)) hHeld (by rintro w' ⟨s0,s1⟩;go_simp;with_reducible rfl) ?_
     refine tI 5 22 (bV 8 63) rfl (take_ofW HT_.out HW_.out (by kernel_rfl)) hHeld (by rintro w' ⟨s0,s1⟩;go_simp;with_reducible rfl) ?_
     refine one_ (i:=6) (N:=some 23) (bV 8 127) rfl rfl (one_of HT_.out (by kernel_rfl)) (by decide) (fun K hK=>?_)
     refine goes_ Try.func64 (by kernel_rfl) rfl #[.int .i64 (rd (rd_L3 t287 x13_1) 0),.int .i64 (rd (rd_L3 t287 x13_1) 1)] (by rfl) rfl rfl (by (try simp only [List.map_toArray,List.map_cons,List.map_nil]);first|done|rfl) ?_
     with_reducible refine (spec_l07Direction.calls k1 (rd (rd_L3 t287 x13_1) 0) (rd (rd_L3 t287 x13_1) 1) t293 _ A15.out).mono ?_
     rintro e w36 ⟨v294,rfl,ho0,hb⟩
     have HS0_:=(hb.cell (World.block_lt_of_cell? _ _ (hHeld.1))).trans (hHeld.1)
     have HS1_:=(hb.cell (World.block_lt_of_cell? _ _ (hHeld.2))).trans (hHeld.2)
     refine ⟨_,rfl,?_⟩
     have n0_:=Aside0.mk (Kd.N_elder' (by (with_reducible repeat (first|apply nA|apply nN|apply nD));exact HO_3.out) (Kd.R_base ho0) hb)
     have n1_:=Aside0.mk (Kd.N_elder' (by (with_reducible repeat (first|apply nA|apply nN|apply nD));exact HO_11.out) (Kd.R_base ho0) hb)
     have n2_:=Aside0.mk (Kd.V_elder' (by (with_reducible repeat (first|apply vA|apply vN|apply vD));exact HL290_0.out) (Kd.R_base ho0) hb)
     have n3_:=Aside0.mk (Kd.R_lower (Kd.R_newM (M:=fun k_=>(w.heap.size≤k_)) ho0 (below_size (by repeat (with_reducible first|exact HB.out|apply bA|apply bN|apply bD))) (fun k_ h_=>h_)) (below_size (by repeat (with_reducible first|exact HB.out|apply bA|apply bN|apply bD))))
     have n4_:=Aside0.mk (Kd.C_below (by repeat (first|(with_reducible exact HR290_0.out)|(with_reducible refine Kd.C_alloc ?_ _)|(with_reducible refine Kd.C_drewN ?_ _)|(with_reducible refine Kd.C_drew ?_)|exact HR290_0.out)) hb)
     have n5_:=Aside0.mk (below_step (by repeat (with_reducible first|exact HB.out|apply bA|apply bN|apply bD)) hb)
     clear HO_3
     clear HO_11
     clear HL290_0
     clear HR290_0
     clear HB
     have HO_3:=n0_
     have HO_11:=n1_
     have HL290_0:=n2_
     have HO295:=n3_
     have HR290_0:=n4_
     have HB:=n5_
     clear n0_ n1_ n2_ n3_ n4_ n5_
     (try clear hb)
     (try clear hb2)
     (try clear hk)
     (try clear hi)
     (try clear ho0)
     refine hK.out _ _ ⟨HS0_,HS1_⟩ (fun hHeld=>?_)
     clear hK K
     refine norm_ (a':=?_) ?_ ?_
     rotate_left
     ·show Act.put _ (some 23) _=_
      simp only [Act.put,sI,sZ,sS,i64_w,i32_w]
      rfl
     refine pT 7 6 (bV 8 255) HT_.out ?_
     refine done_ (done_of HT_.out (by kernel_rfl)) ?_
     try go_wp2
     have n0_:=Aside0.mk (Kd.N_drew HO_3.out)
     have n1_:=Aside0.mk (Kd.N_drew HO_11.out)
     have n2_:=Aside0.mk (Kd.V_drew HL290_0.out)
     have n3_:=Aside0.mk (Kd.R_drew HO295.out)
     have n4_:=Aside0.mk (Kd.C_drew HR290_0.out)
     have n5_:=Aside0.mk (below_drew1 HB.out)
     clear HO_3
     clear HO_11
     clear HL290_0
     clear HO295
     clear HR290_0
     clear HB
     have HO_3:=n0_
     have HO_11:=n1_
     have HL290_0:=n2_
     have HO295:=n3_
     have HR290_0:=n4_
     have HB:=n5_
     clear n0_ n1_ n2_ n3_ n4_ n5_
     have p296:0≤(0:Int):=(by omega)
     have q296:0 < ((rd_L3 t287 x13_1).length:Int):=of_decide_eq_true (by assumption)
     obtain ⟨ad296,e296,hx296_0⟩:=Kd.at_int (by repeat (first|(with_reducible exact HR290_0.out)|(with_reducible refine Kd.C_alloc ?_ _)|(with_reducible refine Kd.C_drewN ?_ _)|(with_reducible refine Kd.C_drew ?_)|exact HR290_0.out)) 0 p296 q296
     obtain rfl:ad291=ad296:=(by injection e296)
     have qi296:(0 < (rd_L3 t287 x13_1).length)=True:=eq_true (by omega)
     (try rw [show ((0:Int)).toNat=0 from rfl] at hx296_0)
     (try rw [Addr.add_zero'] at hx296_0)
     replace p296:=eq_true p296
     replace q296:=eq_true q296
     have p297:0≤(1:Int):=(by omega)
     have q297:1 < ((rd_L3 t287 x13_1).length:Int):=of_decide_eq_true (by assumption)
     obtain ⟨ad297,e297,hx297_0⟩:=Kd.at_int (by repeat (first|(with_reducible exact HR290_0.out)|(with_reducible refine Kd.C_alloc ?_ _)|(with_reducible refine Kd.C_drewN ?_ _)|(with_reducible refine Kd.C_drew ?_)|exact HR290_0.out)) 1 p297 q297
     obtain rfl:ad291=ad297:=(by injection e297)
     (try simp only [show (1:Int).toNat=1 from rfl,Nat.reduceMul,Nat.reduceEqDiff,Go.Addr.add,↓reduceIte] at hx297_0)
     have qi297:(1 < (rd_L3 t287 x13_1).length)=True:=eq_true (by omega)
     (try rw [show ((1:Int)).toNat=1 from rfl] at hx297_0)
     replace p297:=eq_true p297
     replace q297:=eq_true q297
     refine start_ (n:=8) (S:=fun w'=>w'.cell? ad291=some (.int .i64 (rd (rd_L3 t287 x13_1) 0))∧w'.cell? ⟨ad291.block,ad291.off+1,none⟩=some (.int .i64 (rd (rd_L3 t287 x13_1) 1))) (ds:=[]) (bV 8 0) (by kernel_rfl) rfl rfl ⟨hx296_0,hx297_0⟩ (fun hHeld=>?_);refine with_tabW spec_l07All.tab6 spec_l07All.bits6 (fun HT_ HW_=>?_)
     generalize w36.drew=w37 at HO_3 HO_11 HL290_0 HO295 HR290_0 HB hx296_0 hx297_0 hHeld ⊢
     refine pT 0 24 (bV 8 1) HT_.out ?_
     refine pT 1 25 (bV 8 3) HT_.out ?_
     refine pT 3 27 (bV 8 11) HT_.out ?_
     refine pT 4 28 (bV 8 27) HT_.out ?_
     refine tI 2 26 (bV 8 31) rfl (take_ofW HT_.out HW_.out (by kernel_rfl)) hHeld (by rintro w' ⟨s0,s1⟩;go_simp;with_reducible rfl) ?_
     refine tI 5 29 (bV 8 63) rfl (take_ofW HT_.out HW_.out (by kernel_rfl)) hHeld (by rintro w' ⟨s0,s1⟩;go_simp;with_reducible rfl) ?_
     refine one_ (i:=6) (N:=some 30) (bV 8 127) rfl rfl (one_of HT_.out (by kernel_rfl)) (by decide) (fun K hK=>?_)
     refine goes_ Try.func65 (by kernel_rfl) rfl #[.int .i64 (rd (rd_L3 t287 x13_1) 0),.int .i64 (rd (rd_L3 t287 x13_1) 1)] (by rfl) rfl rfl (by (try simp only [List.map_toArray,List.map_cons,List.map_nil]);first|done|rfl) ?_
     with_reducible refine (spec_l02Gcd.calls k1 (rd (rd_L3 t287 x13_1) 0) (rd (rd_L3 t287 x13_1) 1) t298 _ A16.out).mono ?_
     rintro e w38 ⟨rfl,hb⟩
     have HS0_:=(hb.cell (World.block_lt_of_cell? _ _ (hHeld.1))).trans (hHeld.1)
     have HS1_:=(hb.cell (World.block_lt_of_cell? _ _ (hHeld.2))).trans (hHeld.2)
     refine ⟨_,rfl,?_⟩
     have n0_:=Aside0.mk (Kd.N_below (by (with_reducible repeat (first|apply nA|apply nN|apply nD));exact HO_3.out) hb)
     have n1_:=Aside0.mk (Kd.N_below (by (with_reducible repeat (first|apply nA|apply nN|apply nD));exact HO_11.out) hb)
     have n2_:=Aside0.mk (Kd.V_below (by (with_reducible repeat (first|apply vA|apply vN|apply vD));exact HL290_0.out) hb)
     have n3_:=Aside0.mk (Kd.R_below (by (with_reducible repeat (first|apply rA|apply rN|apply rD));exact HO295.out) hb)
     have n4_:=Aside0.mk (Kd.C_below (by repeat (first|(with_reducible exact HR290_0.out)|(with_reducible refine Kd.C_alloc ?_ _)|(with_reducible refine Kd.C_drewN ?_ _)|(with_reducible refine Kd.C_drew ?_)|exact HR290_0.out)) hb)
     have n5_:=Aside0.mk (below_step (by repeat (with_reducible first|exact HB.out|apply bA|apply bN|apply bD)) hb)
     clear HO_3
     clear HO_11
     clear HL290_0
     clear HO295
     clear HR290_0
     clear HB
     have HO_3:=n0_
     have HO_11:=n1_
     have HL290_0:=n2_
     have HO295:=n3_
     have HR290_0:=n4_
     have HB:=n5_
     clear n0_ n1_ n2_ n3_ n4_ n5_
     (try clear hb)
     (try clear hb2)
     (try clear hk)
     (try clear hi)
     refine hK.out _ _ ⟨HS0_,HS1_⟩ (fun hHeld=>?_)
     clear hK K
     refine norm_ (a':=?_) ?_ ?_
     rotate_left
     ·show Act.put _ (some 30) _=_
      simp only [Act.put,sI,sZ,sS,i64_w,i32_w]
      rfl
     refine pT 7 7 (bV 8 255) HT_.out ?_
     refine done_ (done_of HT_.out (by kernel_rfl)) ?_
     try go_wp2
     have n0_:=Aside0.mk (Kd.N_drew HO_3.out)
     have n1_:=Aside0.mk (Kd.N_drew HO_11.out)
     have n2_:=Aside0.mk (Kd.V_drew HL290_0.out)
     have n3_:=Aside0.mk (Kd.R_drew HO295.out)
     have n4_:=Aside0.mk (Kd.C_drew HR290_0.out)
     have n5_:=Aside0.mk (below_drew1 HB.out)
     clear HO_3
     clear HO_11
     clear HL290_0
     clear HO295
     clear HR290_0
     clear HB
     have HO_3:=n0_
     have HO_11:=n1_
     have HL290_0:=n2_
     have HO295:=n3_
     have HR290_0:=n4_
     have HB:=n5_
     clear n0_ n1_ n2_ n3_ n4_ n5_
     have p299:0≤(0:Int):=(by omega)
     have q299:0 < ((rd_L3 t287 x13_1).length:Int):=of_decide_eq_true (by assumption)
     obtain ⟨ad299,e299,hx299_0⟩:=Kd.at_int (by repeat (first|(with_reducible exact HR290_0.out)|(with_reducible refine Kd.C_alloc ?_ _)|(with_reducible refine Kd.C_drewN ?_ _)|(with_reducible refine Kd.C_drew ?_)|exact HR290_0.out)) 0 p299 q299
     obtain rfl:ad291=ad299:=(by injection e299)
     have qi299:(0 < (rd_L3 t287 x13_1).length)=True:=eq_true (by omega)
     (try rw [show ((0:Int)).toNat=0 from rfl] at hx299_0)
     (try rw [Addr.add_zero'] at hx299_0)
     replace p299:=eq_true p299
     replace q299:=eq_true q299
     obtain ⟨Ao40,co40,eo40⟩:=Kd.R_slice HO295.out
     (first|subst eo40|(injection eo40 with f1_ f2_ f3_;have f4_:=f1_.symm;have f5_:=f3_.symm;clear f1_ f2_ f3_;subst f4_;subst f5_))
     have p300:0≤(0:Int):=(by omega)
     have q300:0 < (t293.length:Int):=of_decide_eq_true (by assumption)
     obtain ⟨ad300,e300,hx300_0⟩:=Kd.at_int (Kd.R_reads' HO295.out).2.2 0 p300 q300
     cases e300
     have qi300:(0 < t293.length)=True:=eq_true (by omega)
     (try rw [show ((0:Int)).toNat=0 from rfl] at hx300_0)
     (try rw [Addr.add_zero'] at hx300_0)
     replace p300:=eq_true p300
     replace q300:=eq_true q300
     have p301:0≤(1:Int):=(by omega)
     have q301:1 < ((rd_L3 t287 x13_1).length:Int):=of_decide_eq_true (by assumption)
     obtain ⟨ad301,e301,hx301_0⟩:=Kd.at_int (by repeat (first|(with_reducible exact HR290_0.out)|(with_reducible refine Kd.C_alloc ?_ _)|(with_reducible refine Kd.C_drewN ?_ _)|(with_reducible refine Kd.C_drew ?_)|exact HR290_0.out)) 1 p301 q301
     obtain rfl:ad291=ad301:=(by injection e301)
     (try simp only [show (1:Int).toNat=1 from rfl,Nat.reduceMul,Nat.reduceEqDiff,Go.Addr.add,↓reduceIte] at hx301_0)
     have qi301:(1 < (rd_L3 t287 x13_1).length)=True:=eq_true (by omega)
     (try rw [show ((1:Int)).toNat=1 from rfl] at hx301_0)
     replace p301:=eq_true p301
     replace q301:=eq_true q301
     have p302:0≤(1:Int):=(by omega)
     have q302:1 < (t293.length:Int):=of_decide_eq_true (by assumption)
     obtain ⟨ad302,e302,hx302_0⟩:=Kd.at_int (Kd.R_reads' HO295.out).2.2 1 p302 q302
     obtain rfl:ad300=ad302:=(by injection e302)
     (try simp only [show (1:Int).toNat=1 from rfl,Nat.reduceMul,Nat.reduceEqDiff,Go.Addr.add,↓reduceIte] at hx302_0)
     have qi302:(1 < t293.length)=True:=eq_true (by omega)
     (try rw [show ((1:Int)).toNat=1 from rfl] at hx302_0)
     replace p302:=eq_true p302
     replace q302:=eq_true q302
     refine start_ (n:=20) (S:=fun w'=>w'.cell? ad291=some (.int .i64 (rd (rd_L3 t287 x13_1) 0))∧w'.cell? ad300=some (.int .i64 (rd t293 0))∧w'.cell? ⟨ad291.block,ad291.off+1,none⟩=some (.int .i64 (rd (rd_L3 t287 x13_1) 1))∧w'.cell? ⟨ad300.block,ad300.off+1,none⟩=some (.int .i64 (rd t293 1))) (ds:=[]) (bV 20 0) (by kernel_rfl) rfl rfl ⟨hx299_0,hx300_0,hx301_0,hx302_0⟩ (fun hHeld=>?_);refine with_tabW spec_l07All.tab7 spec_l07All.bits7 (fun HT_ HW_=>?_)
     generalize w38.drew=w39 at HO_3 HO_11 HL290_0 HO295 HR290_0 HB hx299_0 hx300_0 hx301_0 hx302_0 hHeld ⊢
     refine pT 0 31 (bV 20 1) HT_.out ?_
     refine pT 1 32 (bV 20 3) HT_.out ?_
     refine pT 3 34 (bV 20 11) HT_.out ?_
     refine pT 4 35 (bV 20 27) HT_.out ?_
     refine pT 6 37 (bV 20 91) HT_.out ?_
     refine tI 2 33 (bV 20 95) rfl (take_ofW HT_.out HW_.out (by kernel_rfl)) hHeld (by rintro w' ⟨s0,s1,s2,s3⟩;go_simp;with_reducible rfl) ?_
     refine tI 5 36 (bV 20 127) rfl (take_ofW HT_.out HW_.out (by kernel_rfl)) hHeld (by rintro w' ⟨s0,s1,s2,s3⟩;go_simp;with_reducible rfl) ?_
     refine pT 7 38 (bV 20 255) HT_.out ?_
     refine pT 8 39 (bV 20 511) HT_.out ?_
     refine pT 9 40 (bV 20 1023) HT_.out ?_
     refine pT 10 41 (bV 20 2047) HT_.out ?_
     refine pT 11 42 (bV 20 4095) HT_.out ?_
     refine pT 13 44 (bV 20 12287) HT_.out ?_
     refine pT 14 45 (bV 20 28671) HT_.out ?_
     refine pT 16 47 (bV 20 94207) HT_.out ?_
     refine tI 12 43 (bV 20 98303) rfl (take_ofW HT_.out HW_.out (by kernel_rfl)) hHeld (by rintro w' ⟨s0,s1,s2,s3⟩;go_simp;with_reducible rfl) ?_
     refine tI 15 46 (bV 20 131071) rfl (take_ofW HT_.out HW_.out (by kernel_rfl)) hHeld (by rintro w' ⟨s0,s1,s2,s3⟩;go_simp;with_reducible rfl) ?_
     refine pT 17 48 (bV 20 262143) HT_.out ?_
     refine pT 18 49 (bV 20 524287) HT_.out ?_
     refine pT 19 50 (bV 20 1048575) HT_.out ?_
     refine done_ (done_of HT_.out (by kernel_rfl)) ?_
     try go_wp2
     have n0_:=Aside0.mk (Kd.N_drew HO_3.out)
     have n1_:=Aside0.mk (Kd.N_drew HO_11.out)
     have n2_:=Aside0.mk (Kd.V_drew HL290_0.out)
     have n3_:=Aside0.mk (Kd.R_drew HO295.out)
     have n4_:=Aside0.mk (Kd.C_drew HR290_0.out)
     have n5_:=Aside0.mk (below_drew1 HB.out)
     clear HO_3
     clear HO_11
     clear HL290_0
     clear HO295
     clear HR290_0
     clear HB
     have HO_3:=n0_
     have HO_11:=n1_
     have HL290_0:=n2_
     have HO295:=n3_
     have HR290_0:=n4_
     have HB:=n5_
     clear n0_ n1_ n2_ n3_ n4_ n5_
     have p311:0≤(0:Int):=(by omega)
     have q311:0 < (t293.length:Int):=of_decide_eq_true (by assumption)
     obtain ⟨ad311,e311,hx311_0⟩:=Kd.at_int (Kd.R_reads' HO295.out).2.2 0 p311 q311
     obtain rfl:ad300=ad311:=(by injection e311)
     have qi311:(0 < t293.length)=True:=eq_true (by omega)
     (try rw [show ((0:Int)).toNat=0 from rfl] at hx311_0)
     (try rw [Addr.add_zero'] at hx311_0)
     replace p311:=eq_true p311
     replace q311:=eq_true q311
     have p312:0≤(1:Int):=(by omega)
     have q312:1 < (t293.length:Int):=of_decide_eq_true (by assumption)
     obtain ⟨ad312,e312,hx312_0⟩:=Kd.at_int (Kd.R_reads' HO295.out).2.2 1 p312 q312
     obtain rfl:ad300=ad312:=(by injection e312)
     (try simp only [show (1:Int).toNat=1 from rfl,Nat.reduceMul,Nat.reduceEqDiff,Go.Addr.add,↓reduceIte] at hx312_0)
     have qi312:(1 < t293.length)=True:=eq_true (by omega)
     (try rw [show ((1:Int)).toNat=1 from rfl] at hx312_0)
     replace p312:=eq_true p312
     replace q312:=eq_true q312
     refine start_ (n:=11) (S:=fun w'=>w'.cell? ad300=some (.int .i64 (rd t293 0))∧w'.cell? ⟨ad300.block,ad300.off+1,none⟩=some (.int .i64 (rd t293 1))) (ds:=[]) (bV 11 0) (by kernel_rfl) rfl rfl ⟨hx311_0,hx312_0⟩ (fun hHeld=>?_);refine with_tabW spec_l07All.tab9 spec_l07All.bits9 (fun HT_ HW_=>?_)
     generalize w39.drew=w41 at HO_3 HO_11 HL290_0 HO295 HR290_0 HB hx311_0 hx312_0 hHeld ⊢
     refine pT 0 53 (bV 11 1) HT_.out ?_
     refine pT 1 54 (bV 11 3) HT_.out ?_
     refine pT 2 55 (bV 11 7) HT_.out ?_
     refine pT 4 57 (bV 11 23) HT_.out ?_
     refine pT 5 58 (bV 11 55) HT_.out ?_
     refine pT 7 60 (bV 11 183) HT_.out ?_
     refine tI 3 56 (bV 11 191) rfl (take_ofW HT_.out HW_.out (by kernel_rfl)) hHeld (by rintro w' ⟨s0,s1⟩;go_simp;with_reducible rfl) ?_
     refine tI 6 59 (bV 11 255) rfl (take_ofW HT_.out HW_.out (by kernel_rfl)) hHeld (by rintro w' ⟨s0,s1⟩;go_simp;with_reducible rfl) ?_
     refine one_ (i:=8) (N:=some 61) (bV 11 511) rfl rfl (one_of HT_.out (by kernel_rfl)) (by decide) (fun K hK=>?_)
     refine Kd.R_lit_step (Kd.int .i64) _ 3 ?hg (N:=61) ?hd (xs:=([rd t293 0,rd t293 1,wrap64 (-t298)]:List Int)) (inner:=[.int .i64 (rd t293 0),.int .i64 (rd t293 1),.int .i64 (wrap64 (-t298))]) (ok:=fun _=>True) (okp:=fun _=>True) ?hr ?hp (fun _ hk=>hk) trivial (Below.refl _ _) (Nat.le_refl _) (by simp) ?_;(case hd=>rfl);(case hg=>rfl);(case hr=>first|(go_simp;done)|(go_simp;rfl));(case hp=>exact (Reps.one (show Kd.M (Kd.int .i64) _ _ _ (rd t293 0) [.int .i64 (rd t293 0)] from rfl) (Reps.one (show Kd.M (Kd.int .i64) _ _ _ (rd t293 1) [.int .i64 (rd t293 1)] from rfl) (Reps.one (show Kd.M (Kd.int .i64) _ _ _ (wrap64 (-t298)) [.int .i64 (wrap64 (-t298))] from rfl) (Reps.none _ _)))))
     intro v314 w42 ho43 hb hg_ hnew_
     have HS0_:=(hb.cell (World.block_lt_of_cell? _ _ (hHeld.1))).trans (hHeld.1)
     have HS1_:=(hb.cell (World.block_lt_of_cell? _ _ (hHeld.2))).trans (hHeld.2)
     clear hg_ hnew_
     (first|rw [← Ny313.out] at ho43|(simp only [Int.reduceToNat] at ho43;rw [← Ny313.out] at ho43))
     have n0_:=Aside0.mk (Kd.N_elder' (by (with_reducible repeat (first|apply nA|apply nN|apply nD));exact HO_3.out) (Kd.R_base ho43) hb)
     have n1_:=Aside0.mk (Kd.N_elder' (by (with_reducible repeat (first|apply nA|apply nN|apply nD));exact HO_11.out) (Kd.R_base ho43) hb)
     have n2_:=Aside0.mk (Kd.V_elder' (by (with_reducible repeat (first|apply vA|apply vN|apply vD));exact HL290_0.out) (Kd.R_base ho43) hb)
     have n3_:=Aside0.mk (Kd.R_elder' (by (with_reducible repeat (first|apply rA|apply rN|apply rD));exact HO295.out) (Kd.R_base ho43) hb)
     have n4_:=Aside0.mk (Kd.R_lower (Kd.R_new' (Kd.R_newM (M:=fun k_=>(w.heap.size≤k_)) ho43 (below_size (by repeat (with_reducible first|exact HB.out|apply bA|apply bN|apply bD))) (fun k_ h_=>h_)) (Kd.R_lt (by (with_reducible repeat (first|apply rA|apply rN|apply rD));exact HO295.out))) (below_size (by repeat (with_reducible first|exact HB.out|apply bA|apply bN|apply bD))))
     have n5_:=Aside0.mk (Kd.C_below (by repeat (first|(with_reducible exact HR290_0.out)|(with_reducible refine Kd.C_alloc ?_ _)|(with_reducible refine Kd.C_drewN ?_ _)|(with_reducible refine Kd.C_drew ?_)|exact HR290_0.out)) hb)
     have n6_:=Aside0.mk (below_step (by repeat (with_reducible first|exact HB.out|apply bA|apply bN|apply bD)) hb)
     clear HO_3
     clear HO_11
     clear HL290_0
     clear HO295
     clear HR290_0
     clear HB
     have HO_3:=n0_
     have HO_11:=n1_
     have HL290_0:=n2_
     have HO295:=n3_
     have HO315:=n4_
     have HR290_0:=n5_
     have HB:=n6_
     clear n0_ n1_ n2_ n3_ n4_ n5_ n6_
     clear hb ho43
     obtain ⟨Ao44,co44,eo44⟩:=Kd.N_slice HO_3.out
     (first|subst eo44|(injection eo44 with f1_ f2_ f3_;have f4_:=f1_.symm;have f5_:=f3_.symm;clear f1_ f2_ f3_;subst f4_;subst f5_))
     obtain ⟨Ao45,co45,eo45⟩:=Kd.R_slice HO315.out
     (first|subst eo45|(injection eo45 with f1_ f2_ f3_;have f4_:=f1_.symm;have f5_:=f3_.symm;clear f1_ f2_ f3_;subst f4_;subst f5_))
     refine hK.out _ _ ⟨HS0_,HS1_⟩ (fun hHeld=>?_)
     clear hK K
     refine norm_ (a':=?_) ?_ ?_
     rotate_left
     ·show Act.put _ (some 61) _=_
      simp only [Act.put,sI,sZ,sS,i64_w,i32_w]
      rfl
     refine one_ (i:=9) (N:=some 62) (bV 11 1023) rfl rfl (one_of HT_.out (by kernel_rfl)) (by decide) (fun K hK=>?_)
     refine goes_ Try.func66 (by kernel_rfl) rfl #[.slice Ao44 x3_1.length co44,.slice Ao45 y313.length co45] (by rfl) rfl rfl (by (try simp only [List.map_toArray,List.map_cons,List.map_nil]);first|done|rfl) ?_
     with_reducible refine (spec_l07Put.calls k1 (fun k_=>((((P0_ k_∨w.heap.size≤k_)∧some k_≠(.slice (some ad290) t287.length co9:Value).ownBlock)∧some k_≠(.slice (some ad300) t293.length co40:Value).ownBlock)∧some k_≠(.slice Ao45 y313.length co45:Value).ownBlock)) _ _ x3_1 _ _ y313 t316 _ ?side1 ?side2 ?side3 A34.out).mono ?_
     (case side1=>exact Kd.N_V (HO_3.out))
     (case side2=>repeat (first|exact (Kd.R_reads' HO315.out).2.2|(with_reducible refine Kd.C_alloc ?_ _)|(with_reducible refine Kd.C_drewN ?_ _)|(with_reducible refine Kd.C_drew ?_)))
     (case side3=>exact (Kd.R_reads' HO315.out).2.1)
     rintro e w46 ⟨v317,rfl,ho0,hb⟩
     have HS0_:=(hb.cell (World.block_lt_of_cell? _ _ (hHeld.1))).trans (hHeld.1)
     have HS1_:=(hb.cell (World.block_lt_of_cell? _ _ (hHeld.2))).trans (hHeld.2)
     refine ⟨_,rfl,?_⟩
     have n0_:=Aside0.mk (Kd.N_elder' (by (with_reducible repeat (first|apply nA|apply nN|apply nD));exact HO_3.out) (by first|exact Kd.N_base ho0|exact Kd.S_base ho0) hb)
     have n1_:=Aside0.mk (Kd.N_elder' (by (with_reducible repeat (first|apply nA|apply nN|apply nD));exact HO_11.out) (by first|exact Kd.N_base ho0|exact Kd.S_base ho0) hb)
     have n2_:=Aside0.mk (Kd.V_elder' (by (with_reducible repeat (first|apply vA|apply vN|apply vD));exact HL290_0.out) (by first|exact Kd.N_base ho0|exact Kd.S_base ho0) hb)
     have n3_:=Aside0.mk (Kd.R_below (by (with_reducible repeat (first|apply rA|apply rN|apply rD));exact HO295.out) hb)
     have n4_:=Aside0.mk (Kd.R_below (by (with_reducible repeat (first|apply rA|apply rN|apply rD));exact HO315.out) hb)
     have n5_:=Aside0.mk (Kd.N_lower (Kd.N_mono (ok':=fun k_=>(P0_ k_∨w.heap.size≤k_)∧some k_≠(.slice (some ad290) t287.length co9:Value).ownBlock∧some k_≠(.slice (some ad300) t293.length co40:Value).ownBlock∧some k_≠(.slice Ao45 y313.length co45:Value).ownBlock) ho0 (fun k_ hk_=>⟨Or.elim hk_ (fun hs_=>hs_.1.1.1) (fun hn_=>(.inr (Nat.le_trans (below_size (by repeat (with_reducible first|exact HB.out|apply bA|apply bN|apply bD))) hn_))),Or.elim hk_ (fun hs_=>hs_.1.1.2) (fun hn_=>(Kd.fresh' (Kd.N_lt (by (with_reducible repeat (first|apply nA|apply nN|apply nD));exact HO_11.out)) k_ hn_)),Or.elim hk_ (fun hs_=>hs_.1.2) (fun hn_=>(Kd.fresh' (Kd.R_lt (by (with_reducible repeat (first|apply rA|apply rN|apply rD));exact HO295.out)) k_ hn_)),Or.elim hk_ (fun hs_=>hs_.2) (fun hn_=>(Kd.fresh' (Kd.R_lt (by (with_reducible repeat (first|apply rA|apply rN|apply rD));exact HO315.out)) k_ hn_))⟩)) (below_size (by repeat (with_reducible first|exact HB.out|apply bA|apply bN|apply bD))))
     have n6_:=Aside0.mk (Kd.C_below (by repeat (first|(with_reducible exact HR290_0.out)|(with_reducible refine Kd.C_alloc ?_ _)|(with_reducible refine Kd.C_drewN ?_ _)|(with_reducible refine Kd.C_drew ?_)|exact HR290_0.out)) hb)
     have n7_:=Aside0.mk (below_step (by repeat (with_reducible first|exact HB.out|apply bA|apply bN|apply bD)) hb)
     clear HO_3
     clear HO_11
     clear HL290_0
     clear HO295
     clear HO315
     clear HR290_0
     clear HB
     have HO_3:=n0_
     have HO_11:=n1_
     have HL290_0:=n2_
     have HO295:=n3_
     have HO315:=n4_
     have HO318:=n5_
     have HR290_0:=n6_
     have HB:=n7_
     clear n0_ n1_ n2_ n3_ n4_ n5_ n6_ n7_
     (try clear hb)
     (try clear hb2)
     (try clear hk)
     (try clear hi)
     (try clear ho0)
     refine hK.out _ _ ⟨HS0_,HS1_⟩ (fun hHeld=>?_)
     clear hK K
     refine norm_ (a':=?_) ?_ ?_
     rotate_left
     ·show Act.put _ (some 62) _=_
      simp only [Act.put,sI,sZ,sS,i64_w,i32_w]
      rfl
     refine pT 10 3 (bV 11 2047) HT_.out ?_
     refine done_ (done_of HT_.out (by kernel_rfl)) ?_
     try go_wp2
     go_roundg k1
     case measure=>have:=HK1.out;omega
     case rel=>exact ⟨(t316),(wrap64 (x13_1+1)),(by first|rfl|(simp;done)|(simp [*];done)),H',⟨by have:=HK1.out;omega⟩,⟨by (with_reducible repeat (first|apply nA|apply nN|apply nD));exact Kd.N_mono HO318.out (fun _ hk=>⟨hk.1,hk.2.1⟩)⟩,⟨by (with_reducible repeat (first|apply nA|apply nN|apply nD));exact Kd.N_mono HO_11.out (fun _ hk=>⟨hk.1.1.1.1,hk.2⟩)⟩,⟨by repeat (with_reducible first|exact HB.out|apply bA|apply bN|apply bD)⟩⟩
   ·rw [if_neg c18] at H
    have c18b0:((rd (rd_L3 t287 x13_1) 0) == (wrap64 ((rd t293 0) * t298)))=false:=beq_eq_false_iff_ne.mpr c18
    have c18b1:((rd (rd_L3 t287 x13_1) 0) != (wrap64 ((rd t293 0) * t298)))=true:=bne_iff_ne.mpr c18
    by_cases c47:1 < (t293.length:Int)
    rotate_left;·rw [if_neg c47] at H;exact absurd H (by simp)
    rw [if_pos c47] at H
    have c47b0:decide (1 < (t293.length:Int))=true:=decide_eq_true c47
    have c47b1:decide (1 < t293.length)=true:=decide_eq_true (by omega)
    clear c47
    obtain ⟨y321,hy321⟩ : ∃ y_:List Int,y_=(([rd t293 0,rd t293 1,wrap64 (-t298)]:List Int)):=⟨_,rfl⟩
    replace H:((spec_l07Put.f k1 x3_1 y321).bind fun t324=>(spec_l07All.l0 k1 t324 t287 (t287.length:Int) (wrap64 (x13_1+1))))=some r:=by (try rw [hy321]);first|with_reducible exact H|with_reducible exact (Option.bind_some _ _).symm.trans H|exact H
    have Ny321:=Aside0.mk hy321
    clear hy321
    replace H:=Option.bind_eq_some_iff.mp H
    obtain ⟨t324,A480,H⟩:=H
    have A48:=Aside0.mk A480
    clear A480
    have H':=Aside0.mk H
    clear H
    have p290:0≤(x13_1:Int):=of_decide_eq_true (by assumption)
    have q290:x13_1 < (t287.length:Int):=of_decide_eq_true (by assumption)
    obtain ⟨ad290,A290_0,c290_0,e290,hx290_0,hl290_0,hi290_0⟩:=at_L3 (Kd.N_reads' HO_11.out).2.2 x13_1 p290 q290
    cases e290
    obtain ⟨ce290,hce290,hMe290,hcc290⟩:=Kd.N_get HO_11.out [] x13_1 p290 (by first|exact q290|exact of_decide_eq_true (by assumption)|(have e_:=(Kd.N_reads' HO_11.out).1;omega))
    obtain ⟨ua290_0,uc290_0,rfl,ul290_0,ge290_0⟩:=Kd.FK_slice_open hMe290
    have hv290_0:=hcc290 0 _ rfl
    rw [Nat.add_zero,show ((Kd.slice 3 (Kd.int .i64))).sz=1 from rfl,Nat.mul_one] at hv290_0
    replace hv290_0:=Option.some.inj (hv290_0.symm.trans hx290_0)
    injection hv290_0 with hva_ hvn_ hvc_
    rw [hva_] at ge290_0
    rw [hvc_] at ul290_0
    have HL290_0:=Aside0.mk (show Kd.V (Kd.int .i64) 3 _ w.heap.size _ _ (rd_L3 t287 x13_1) from Kd.V_mk ul290_0 ge290_0)
    clear hva_ hvn_ hvc_ ge290_0 ul290_0
    clear hcc290 hce290
    have HR290_0:=Aside0.mk hi290_0
    have HC290_0:=Aside0.mk hl290_0
    clear hi290_0 hl290_0
    replace p290:=eq_true p290
    replace q290:=eq_true q290
    try go_wp2
    have n0_:=Aside0.mk (Kd.N_drew HO_3.out)
    have n1_:=Aside0.mk (Kd.N_drew HO_11.out)
    have n2_:=Aside0.mk (Kd.V_drew HL290_0.out)
    have n3_:=Aside0.mk (Kd.C_drew HR290_0.out)
    have n4_:=Aside0.mk (below_drew1 HB.out)
    clear HO_3
    clear HO_11
    clear HL290_0
    clear HR290_0
    clear HB
    have HO_3:=n0_
    have HO_11:=n1_
    have HL290_0:=n2_
    have HR290_0:=n3_
    have HB:=n4_
    clear n0_ n1_ n2_ n3_ n4_
    have p291:0≤(0:Int):=(by omega)
    have q291:0 < ((rd_L3 t287 x13_1).length:Int):=of_decide_eq_true (by assumption)
    obtain ⟨ad291,e291,hx291_0⟩:=Kd.at_int (by repeat (first|(with_reducible exact HR290_0.out)|(with_reducible refine Kd.C_alloc ?_ _)|(with_reducible refine Kd.C_drewN ?_ _)|(with_reducible refine Kd.C_drew ?_)|exact HR290_0.out)) 0 p291 q291
    cases e291
    have qi291:(0 < (rd_L3 t287 x13_1).length)=True:=eq_true (by omega)
    (try rw [show ((0:Int)).toNat=0 from rfl] at hx291_0)
    (try rw [Addr.add_zero'] at hx291_0)
    replace p291:=eq_true p291
    replace q291:=eq_true q291
    have p292:0≤(1:Int):=(by omega)
    have q292:1 < ((rd_L3 t287 x13_1).length:Int):=of_decide_eq_true (by assumption)
    obtain ⟨ad292,e292,hx292_0⟩:=Kd.at_int (by repeat (first|(with_reducible exact HR290_0.out)|(with_reducible refine Kd.C_alloc ?_ _)|(with_reducible refine Kd.C_drewN ?_ _)|(with_reducible refine Kd.C_drew ?_)|exact HR290_0.out)) 1 p292 q292
    obtain rfl:ad291=ad292:=(by injection e292)
    (try simp only [show (1:Int).toNat=1 from rfl,Nat.reduceMul,Nat.reduceEqDiff,Go.Addr.add,↓reduceIte] at hx292_0)
    have qi292:(1 < (rd_L3 t287 x13_1).length)=True:=eq_true (by omega)
    (try rw [show ((1:Int)).toNat=1 from rfl] at hx292_0)
    replace p292:=eq_true p292
    replace q292:=eq_true q292
    refine start_ (n:=8) (S:=fun w'=>w'.cell? ad291=some (.int .i64 (rd (rd_L3 t287 x13_1) 0))∧w'.cell? ⟨ad291.block,ad291.off+1,none⟩=some (.int .i64 (rd (rd_L3 t287 x13_1) 1))) (ds:=[]) (bV 8 0) (by kernel_rfl) rfl rfl ⟨hx291_0,hx292_0⟩ (fun hHeld=>?_);refine with_tabW spec_l07All.tab5 spec_l07All.bits5 (fun HT_ HW_=>?_)
    generalize wr.drew=w49 at HO_3 HO_11 HL290_0 HR290_0 HB hx291_0 hx292_0 hHeld ⊢
    refine pT 0 17 (bV 8 1) HT_.out ?_
    refine pT 1 18 (bV 8 3) HT_.out ?_
    refine pT 3 20 (bV 8 11) HT_.out ?_
    refine pT 4 21 (bV 8 27) HT_.out ?_
    refine tI 2 19 (bV 8 31) rfl (take_ofW HT_.out HW_.out (by kernel_rfl)) hHeld (by rintro w' ⟨s0,s1⟩;go_simp;with_reducible rfl) ?_
    refine tI 5 22 (bV 8 63) rfl (take_ofW HT_.out HW_.out (by kernel_rfl)) hHeld (by rintro w' ⟨s0,s1⟩;go_simp;with_reducible rfl) ?_
    refine one_ (i:=6) (N:=some 23) (bV 8 127) rfl rfl (one_of HT_.out (by kernel_rfl)) (by decide) (fun K hK=>?_)
    refine goes_ Try.func64 (by kernel_rfl) rfl #[.int .i64 (rd (rd_L3 t287 x13_1) 0),.int .i64 (rd (rd_L3 t287 x13_1) 1)] (by rfl) rfl rfl (by (try simp only [List.map_toArray,List.map_cons,List.map_nil]);first|done|rfl) ?_
    with_reducible refine (spec_l07Direction.calls k1 (rd (rd_L3 t287 x13_1) 0) (rd (rd_L3 t287 x13_1) 1) t293 _ A15.out).mono ?_
    rintro e w50 ⟨v294,rfl,ho0,hb⟩
    have HS0_:=(hb.cell (World.block_lt_of_cell? _ _ (hHeld.1))).trans (hHeld.1)
    have HS1_:=(hb.cell (World.block_lt_of_cell? _ _ (hHeld.2))).trans (hHeld.2)
    refine ⟨_,rfl,?_⟩
    have n0_:=Aside0.mk (Kd.N_elder' (by (with_reducible repeat (first|apply nA|apply nN|apply nD));exact HO_3.out) (Kd.R_base ho0) hb)
    have n1_:=Aside0.mk (Kd.N_elder' (by (with_reducible repeat (first|apply nA|apply nN|apply nD));exact HO_11.out) (Kd.R_base ho0) hb)
    have n2_:=Aside0.mk (Kd.V_elder' (by (with_reducible repeat (first|apply vA|apply vN|apply vD));exact HL290_0.out) (Kd.R_base ho0) hb)
    have n3_:=Aside0.mk (Kd.R_lower (Kd.R_newM (M:=fun k_=>(w.heap.size≤k_)) ho0 (below_size (by repeat (with_reducible first|exact HB.out|apply bA|apply bN|apply bD))) (fun k_ h_=>h_)) (below_size (by repeat (with_reducible first|exact HB.out|apply bA|apply bN|apply bD))))
    have n4_:=Aside0.mk (Kd.C_below (by repeat (first|(with_reducible exact HR290_0.out)|(with_reducible refine Kd.C_alloc ?_ _)|(with_reducible refine Kd.C_drewN ?_ _)|(with_reducible refine Kd.C_drew ?_)|exact HR290_0.out)) hb)
    have n5_:=Aside0.mk (below_step (by repeat (with_reducible first|exact HB.out|apply bA|apply bN|apply bD)) hb)
    clear HO_3
    clear HO_11
    clear HL290_0
    clear HR290_0
    clear HB
    have HO_3:=n0_
    have HO_11:=n1_
    have HL290_0:=n2_
    have HO295:=n3_
    have HR290_0:=n4_
    have HB:=n5_
    clear n0_ n1_ n2_ n3_ n4_ n5_
    (try clear hb)
    (try clear hb2)
    (try clear hk)
    (try clear hi)
    (try clear ho0)
    refine hK.out _ _ ⟨HS0_,HS1_⟩ (fun hHeld=>?_)
    clear hK K
    refine norm_ (a':=?_) ?_ ?_
    rotate_left
    ·show Act.put _ (some 23) _=_
     simp only [Act.put,sI,sZ,sS,i64_w,i32_w]
     rfl
    refine pT 7 6 (bV 8 255) HT_.out ?_
    refine done_ (done_of HT_.out (by kernel_rfl)) ?_
    try go_wp2
    have n0_:=Aside0.mk (Kd.N_drew HO_3.out)
    have n1_:=Aside0.mk (Kd.N_drew HO_11.out)
    have n2_:=Aside0.mk (Kd.V_drew HL290_0.out)
    have n3_:=Aside0.mk (Kd.R_drew HO295.out)
    have n4_:=Aside0.mk (Kd.C_drew HR290_0.out)
    have n5_:=Aside0.mk (below_drew1 HB.out)
    clear HO_3
    clear HO_11
    clear HL290_0
    clear HO295
    clear HR290_0
    clear HB
    have HO_3:=n0_
    have HO_11:=n1_
    have HL290_0:=n2_
    have HO295:=n3_
    have HR290_0:=n4_
    have HB:=n5_
    clear n0_ n1_ n2_ n3_ n4_ n5_
    have p296:0≤(0:Int):=(by omega)
    have q296:0 < ((rd_L3 t287 x13_1).length:Int):=of_decide_eq_true (by assumption)
    obtain ⟨ad296,e296,hx296_0⟩:=Kd.at_int (by repeat (first|(with_reducible exact HR290_0.out)|(with_reducible refine Kd.C_alloc ?_ _)|(with_reducible refine Kd.C_drewN ?_ _)|(with_reducible refine Kd.C_drew ?_)|exact HR290_0.out)) 0 p296 q296
    obtain rfl:ad291=ad296:=(by injection e296)
    have qi296:(0 < (rd_L3 t287 x13_1).length)=True:=eq_true (by omega)
    (try rw [show ((0:Int)).toNat=0 from rfl] at hx296_0)
    (try rw [Addr.add_zero'] at hx296_0)
    replace p296:=eq_true p296
    replace q296:=eq_true q296
    have p297:0≤(1:Int):=(by omega)
    have q297:1 < ((rd_L3 t287 x13_1).length:Int):=of_decide_eq_true (by assumption)
    obtain ⟨ad297,e297,hx297_0⟩:=Kd.at_int (by repeat (first|(with_reducible exact HR290_0.out)|(with_reducible refine Kd.C_alloc ?_ _)|(with_reducible refine Kd.C_drewN ?_ _)|(with_reducible refine Kd.C_drew ?_)|exact HR290_0.out)) 1 p297 q297
    obtain rfl:ad291=ad297:=(by injection e297)
    (try simp only [show (1:Int).toNat=1 from rfl,Nat.reduceMul,Nat.reduceEqDiff,Go.Addr.add,↓reduceIte] at hx297_0)
    have qi297:(1 < (rd_L3 t287 x13_1).length)=True:=eq_true (by omega)
    (try rw [show ((1:Int)).toNat=1 from rfl] at hx297_0)
    replace p297:=eq_true p297
    replace q297:=eq_true q297
    refine start_ (n:=8) (S:=fun w'=>w'.cell? ad291=some (.int .i64 (rd (rd_L3 t287 x13_1) 0))∧w'.cell? ⟨ad291.block,ad291.off+1,none⟩=some (.int .i64 (rd (rd_L3 t287 x13_1) 1))) (ds:=[]) (bV 8 0) (by kernel_rfl) rfl rfl ⟨hx296_0,hx297_0⟩ (fun hHeld=>?_);refine with_tabW spec_l07All.tab6 spec_l07All.bits6 (fun HT_ HW_=>?_)
    generalize w50.drew=w51 at HO_3 HO_11 HL290_0 HO295 HR290_0 HB hx296_0 hx297_0 hHeld ⊢
    refine pT 0 24 (bV 8 1) HT_.out ?_
    refine pT 1 25 (bV 8 3) HT_.out ?_
    refine pT 3 27 (bV 8 11) HT_.out ?_
    refine pT 4 28 (bV 8 27) HT_.out ?_
    refine tI 2 26 (bV 8 31) rfl (take_ofW HT_.out HW_.out (by kernel_rfl)) hHeld (by rintro w' ⟨s0,s1⟩;go_simp;with_reducible rfl) ?_
    refine tI 5 29 (bV 8 63) rfl (take_ofW HT_.out HW_.out (by kernel_rfl)) hHeld (by rintro w' ⟨s0,s1⟩;go_simp;with_reducible rfl) ?_
    refine one_ (i:=6) (N:=some 30) (bV 8 127) rfl rfl (one_of HT_.out (by kernel_rfl)) (by decide) (fun K hK=>?_)
    refine goes_ Try.func65 (by kernel_rfl) rfl #[.int .i64 (rd (rd_L3 t287 x13_1) 0),.int .i64 (rd (rd_L3 t287 x13_1) 1)] (by rfl) rfl rfl (by (try simp only [List.map_toArray,List.map_cons,List.map_nil]);first|done|rfl) ?_
    with_reducible refine (spec_l02Gcd.calls k1 (rd (rd_L3 t287 x13_1) 0) (rd (rd_L3 t287 x13_1) 1) t298 _ A16.out).mono ?_
    rintro e w52 ⟨rfl,hb⟩
    have HS0_:=(hb.cell (World.block_lt_of_cell? _ _ (hHeld.1))).trans (hHeld.1)
    have HS1_:=(hb.cell (World.block_lt_of_cell? _ _ (hHeld.2))).trans (hHeld.2)
    refine ⟨_,rfl,?_⟩
    have n0_:=Aside0.mk (Kd.N_below (by (with_reducible repeat (first|apply nA|apply nN|apply nD));exact HO_3.out) hb)
    have n1_:=Aside0.mk (Kd.N_below (by (with_reducible repeat (first|apply nA|apply nN|apply nD));exact HO_11.out) hb)
    have n2_:=Aside0.mk (Kd.V_below (by (with_reducible repeat (first|apply vA|apply vN|apply vD));exact HL290_0.out) hb)
    have n3_:=Aside0.mk (Kd.R_below (by (with_reducible repeat (first|apply rA|apply rN|apply rD));exact HO295.out) hb)
    have n4_:=Aside0.mk (Kd.C_below (by repeat (first|(with_reducible exact HR290_0.out)|(with_reducible refine Kd.C_alloc ?_ _)|(with_reducible refine Kd.C_drewN ?_ _)|(with_reducible refine Kd.C_drew ?_)|exact HR290_0.out)) hb)
    have n5_:=Aside0.mk (below_step (by repeat (with_reducible first|exact HB.out|apply bA|apply bN|apply bD)) hb)
    clear HO_3
    clear HO_11
    clear HL290_0
    clear HO295
    clear HR290_0
    clear HB
    have HO_3:=n0_
    have HO_11:=n1_
    have HL290_0:=n2_
    have HO295:=n3_
    have HR290_0:=n4_
    have HB:=n5_
    clear n0_ n1_ n2_ n3_ n4_ n5_
    (try clear hb)
    (try clear hb2)
    (try clear hk)
    (try clear hi)
    refine hK.out _ _ ⟨HS0_,HS1_⟩ (fun hHeld=>?_)
    clear hK K
    refine norm_ (a':=?_) ?_ ?_
    rotate_left
    ·show Act.put _ (some 30) _=_
     simp only [Act.put,sI,sZ,sS,i64_w,i32_w]
     rfl
    refine pT 7 7 (bV 8 255) HT_.out ?_
    refine done_ (done_of HT_.out (by kernel_rfl)) ?_
    try go_wp2
    have n0_:=Aside0.mk (Kd.N_drew HO_3.out)
    have n1_:=Aside0.mk (Kd.N_drew HO_11.out)
    have n2_:=Aside0.mk (Kd.V_drew HL290_0.out)
    have n3_:=Aside0.mk (Kd.R_drew HO295.out)
    have n4_:=Aside0.mk (Kd.C_drew HR290_0.out)
    have n5_:=Aside0.mk (below_drew1 HB.out)
    clear HO_3
    clear HO_11
    clear HL290_0
    clear HO295
    clear HR290_0
    clear HB
    have HO_3:=n0_
    have HO_11:=n1_
    have HL290_0:=n2_
    have HO295:=n3_
    have HR290_0:=n4_
    have HB:=n5_
    clear n0_ n1_ n2_ n3_ n4_ n5_
    have p299:0≤(0:Int):=(by omega)
    have q299:0 < ((rd_L3 t287 x13_1).length:Int):=of_decide_eq_true (by assumption)
    obtain ⟨ad299,e299,hx299_0⟩:=Kd.at_int (by repeat (first|(with_reducible exact HR290_0.out)|(with_reducible refine Kd.C_alloc ?_ _)|(with_reducible refine Kd.C_drewN ?_ _)|(with_reducible refine Kd.C_drew ?_)|exact HR290_0.out)) 0 p299 q299
    obtain rfl:ad291=ad299:=(by injection e299)
    have qi299:(0 < (rd_L3 t287 x13_1).length)=True:=eq_true (by omega)
    (try rw [show ((0:Int)).toNat=0 from rfl] at hx299_0)
    (try rw [Addr.add_zero'] at hx299_0)
    replace p299:=eq_true p299
    replace q299:=eq_true q299
    obtain ⟨Ao54,co54,eo54⟩:=Kd.R_slice HO295.out
    (first|subst eo54|(injection eo54 with f1_ f2_ f3_;have f4_:=f1_.symm;have f5_:=f3_.symm;clear f1_ f2_ f3_;subst f4_;subst f5_))
    have p300:0≤(0:Int):=(by omega)
    have q300:0 < (t293.length:Int):=of_decide_eq_true (by assumption)
    obtain ⟨ad300,e300,hx300_0⟩:=Kd.at_int (Kd.R_reads' HO295.out).2.2 0 p300 q300
    cases e300
    have qi300:(0 < t293.length)=True:=eq_true (by omega)
    (try rw [show ((0:Int)).toNat=0 from rfl] at hx300_0)
    (try rw [Addr.add_zero'] at hx300_0)
    replace p300:=eq_true p300
    replace q300:=eq_true q300
    refine start_ (n:=20) (S:=fun w'=>w'.cell? ad291=some (.int .i64 (rd (rd_L3 t287 x13_1) 0))∧w'.cell? ad300=some (.int .i64 (rd t293 0))) (ds:=[]) (bV 20 0) (by kernel_rfl) rfl rfl ⟨hx299_0,hx300_0⟩ (fun hHeld=>?_);refine with_tabW spec_l07All.tab7 spec_l07All.bits7 (fun HT_ HW_=>?_)
    generalize w52.drew=w53 at HO_3 HO_11 HL290_0 HO295 HR290_0 HB hx299_0 hx300_0 hHeld ⊢
    refine pT 0 31 (bV 20 1) HT_.out ?_
    refine pT 1 32 (bV 20 3) HT_.out ?_
    refine pT 3 34 (bV 20 11) HT_.out ?_
    refine pT 4 35 (bV 20 27) HT_.out ?_
    refine pT 6 37 (bV 20 91) HT_.out ?_
    refine tI 2 33 (bV 20 95) rfl (take_ofW HT_.out HW_.out (by kernel_rfl)) hHeld (by rintro w' ⟨s0,s1⟩;go_simp;with_reducible rfl) ?_
    refine tI 5 36 (bV 20 127) rfl (take_ofW HT_.out HW_.out (by kernel_rfl)) hHeld (by rintro w' ⟨s0,s1⟩;go_simp;with_reducible rfl) ?_
    refine pT 7 38 (bV 20 255) HT_.out ?_
    refine pT 8 39 (bV 20 511) HT_.out ?_
    refine pT 9 40 (bV 20 1023) HT_.out ?_
    refine pU 10 41 (bV 20 2047) HT_.out ?_
    refine pU 11 42 (bV 20 4095) HT_.out ?_
    refine pU 12 43 (bV 20 8191) HT_.out ?_
    refine pU 13 44 (bV 20 16383) HT_.out ?_
    refine pU 14 45 (bV 20 32767) HT_.out ?_
    refine pU 15 46 (bV 20 65535) HT_.out ?_
    refine pU 16 47 (bV 20 131071) HT_.out ?_
    refine pU 17 48 (bV 20 262143) HT_.out ?_
    refine pU 18 49 (bV 20 524287) HT_.out ?_
    refine pT 19 50 (bV 20 1048575) HT_.out ?_
    refine done_ (done_of HT_.out (by kernel_rfl)) ?_
    try go_wp2
    have n0_:=Aside0.mk (Kd.N_drew HO_3.out)
    have n1_:=Aside0.mk (Kd.N_drew HO_11.out)
    have n2_:=Aside0.mk (Kd.V_drew HL290_0.out)
    have n3_:=Aside0.mk (Kd.R_drew HO295.out)
    have n4_:=Aside0.mk (Kd.C_drew HR290_0.out)
    have n5_:=Aside0.mk (below_drew1 HB.out)
    clear HO_3
    clear HO_11
    clear HL290_0
    clear HO295
    clear HR290_0
    clear HB
    have HO_3:=n0_
    have HO_11:=n1_
    have HL290_0:=n2_
    have HO295:=n3_
    have HR290_0:=n4_
    have HB:=n5_
    clear n0_ n1_ n2_ n3_ n4_ n5_
    have p319:0≤(0:Int):=(by omega)
    have q319:0 < (t293.length:Int):=of_decide_eq_true (by assumption)
    obtain ⟨ad319,e319,hx319_0⟩:=Kd.at_int (Kd.R_reads' HO295.out).2.2 0 p319 q319
    obtain rfl:ad300=ad319:=(by injection e319)
    have qi319:(0 < t293.length)=True:=eq_true (by omega)
    (try rw [show ((0:Int)).toNat=0 from rfl] at hx319_0)
    (try rw [Addr.add_zero'] at hx319_0)
    replace p319:=eq_true p319
    replace q319:=eq_true q319
    have p320:0≤(1:Int):=(by omega)
    have q320:1 < (t293.length:Int):=of_decide_eq_true (by assumption)
    obtain ⟨ad320,e320,hx320_0⟩:=Kd.at_int (Kd.R_reads' HO295.out).2.2 1 p320 q320
    obtain rfl:ad300=ad320:=(by injection e320)
    (try simp only [show (1:Int).toNat=1 from rfl,Nat.reduceMul,Nat.reduceEqDiff,Go.Addr.add,↓reduceIte] at hx320_0)
    have qi320:(1 < t293.length)=True:=eq_true (by omega)
    (try rw [show ((1:Int)).toNat=1 from rfl] at hx320_0)
    replace p320:=eq_true p320
    replace q320:=eq_true q320
    refine start_ (n:=11) (S:=fun w'=>w'.cell? ad300=some (.int .i64 (rd t293 0))∧w'.cell? ⟨ad300.block,ad300.off+1,none⟩=some (.int .i64 (rd t293 1))) (ds:=[]) (bV 11 0) (by kernel_rfl) rfl rfl ⟨hx319_0,hx320_0⟩ (fun hHeld=>?_);refine with_tabW spec_l07All.tab9 spec_l07All.bits9 (fun HT_ HW_=>?_)
    generalize w53.drew=w55 at HO_3 HO_11 HL290_0 HO295 HR290_0 HB hx319_0 hx320_0 hHeld ⊢
    refine pT 0 53 (bV 11 1) HT_.out ?_
    refine pT 1 54 (bV 11 3) HT_.out ?_
    refine pT 2 55 (bV 11 7) HT_.out ?_
    refine pT 4 57 (bV 11 23) HT_.out ?_
    refine pT 5 58 (bV 11 55) HT_.out ?_
    refine pT 7 60 (bV 11 183) HT_.out ?_
    refine tI 3 56 (bV 11 191) rfl (take_ofW HT_.out HW_.out (by kernel_rfl)) hHeld (by rintro w' ⟨s0,s1⟩;go_simp;with_reducible rfl) ?_
    refine tI 6 59 (bV 11 255) rfl (take_ofW HT_.out HW_.out (by kernel_rfl)) hHeld (by rintro w' ⟨s0,s1⟩;go_simp;with_reducible rfl) ?_
    refine one_ (i:=8) (N:=some 61) (bV 11 511) rfl rfl (one_of HT_.out (by kernel_rfl)) (by decide) (fun K hK=>?_)
    refine Kd.R_lit_step (Kd.int .i64) _ 3 ?hg (N:=61) ?hd (xs:=([rd t293 0,rd t293 1,wrap64 (-t298)]:List Int)) (inner:=[.int .i64 (rd t293 0),.int .i64 (rd t293 1),.int .i64 (wrap64 (-t298))]) (ok:=fun _=>True) (okp:=fun _=>True) ?hr ?hp (fun _ hk=>hk) trivial (Below.refl _ _) (Nat.le_refl _) (by simp) ?_;(case hd=>rfl);(case hg=>rfl);(case hr=>first|(go_simp;done)|(go_simp;rfl));(case hp=>exact (Reps.one (show Kd.M (Kd.int .i64) _ _ _ (rd t293 0) [.int .i64 (rd t293 0)] from rfl) (Reps.one (show Kd.M (Kd.int .i64) _ _ _ (rd t293 1) [.int .i64 (rd t293 1)] from rfl) (Reps.one (show Kd.M (Kd.int .i64) _ _ _ (wrap64 (-t298)) [.int .i64 (wrap64 (-t298))] from rfl) (Reps.none _ _)))))
    intro v322 w56 ho57 hb hg_ hnew_
    have HS0_:=(hb.cell (World.block_lt_of_cell? _ _ (hHeld.1))).trans (hHeld.1)
    have HS1_:=(hb.cell (World.block_lt_of_cell? _ _ (hHeld.2))).trans (hHeld.2)
    clear hg_ hnew_
    (first|rw [← Ny321.out] at ho57|(simp only [Int.reduceToNat] at ho57;rw [← Ny321.out] at ho57))
    have n0_:=Aside0.mk (Kd.N_elder' (by (with_reducible repeat (first|apply nA|apply nN|apply nD));exact HO_3.out) (Kd.R_base ho57) hb)
    have n1_:=Aside0.mk (Kd.N_elder' (by (with_reducible repeat (first|apply nA|apply nN|apply nD));exact HO_11.out) (Kd.R_base ho57) hb)
    have n2_:=Aside0.mk (Kd.V_elder' (by (with_reducible repeat (first|apply vA|apply vN|apply vD));exact HL290_0.out) (Kd.R_base ho57) hb)
    have n3_:=Aside0.mk (Kd.R_elder' (by (with_reducible repeat (first|apply rA|apply rN|apply rD));exact HO295.out) (Kd.R_base ho57) hb)
    have n4_:=Aside0.mk (Kd.R_lower (Kd.R_new' (Kd.R_newM (M:=fun k_=>(w.heap.size≤k_)) ho57 (below_size (by repeat (with_reducible first|exact HB.out|apply bA|apply bN|apply bD))) (fun k_ h_=>h_)) (Kd.R_lt (by (with_reducible repeat (first|apply rA|apply rN|apply rD));exact HO295.out))) (below_size (by repeat (with_reducible first|exact HB.out|apply bA|apply bN|apply bD))))
    have n5_:=Aside0.mk (Kd.C_below (by repeat (first|(with_reducible exact HR290_0.out)|(with_reducible refine Kd.C_alloc ?_ _)|(with_reducible refine Kd.C_drewN ?_ _)|(with_reducible refine Kd.C_drew ?_)|exact HR290_0.out)) hb)
    have n6_:=Aside0.mk (below_step (by repeat (with_reducible first|exact HB.out|apply bA|apply bN|apply bD)) hb)
    clear HO_3
    clear HO_11
    clear HL290_0
    clear HO295
    clear HR290_0
    clear HB
    have HO_3:=n0_
    have HO_11:=n1_
    have HL290_0:=n2_
    have HO295:=n3_
    have HO323:=n4_
    have HR290_0:=n5_
    have HB:=n6_
    clear n0_ n1_ n2_ n3_ n4_ n5_ n6_
    clear hb ho57
    obtain ⟨Ao58,co58,eo58⟩:=Kd.N_slice HO_3.out
    (first|subst eo58|(injection eo58 with f1_ f2_ f3_;have f4_:=f1_.symm;have f5_:=f3_.symm;clear f1_ f2_ f3_;subst f4_;subst f5_))
    obtain ⟨Ao59,co59,eo59⟩:=Kd.R_slice HO323.out
    (first|subst eo59|(injection eo59 with f1_ f2_ f3_;have f4_:=f1_.symm;have f5_:=f3_.symm;clear f1_ f2_ f3_;subst f4_;subst f5_))
    refine hK.out _ _ ⟨HS0_,HS1_⟩ (fun hHeld=>?_)
    clear hK K
    refine norm_ (a':=?_) ?_ ?_
    rotate_left
    ·show Act.put _ (some 61) _=_
     simp only [Act.put,sI,sZ,sS,i64_w,i32_w]
     rfl
    refine one_ (i:=9) (N:=some 62) (bV 11 1023) rfl rfl (one_of HT_.out (by kernel_rfl)) (by decide) (fun K hK=>?_)
    refine goes_ Try.func66 (by kernel_rfl) rfl #[.slice Ao58 x3_1.length co58,.slice Ao59 y321.length co59] (by rfl) rfl rfl (by (try simp only [List.map_toArray,List.map_cons,List.map_nil]);first|done|rfl) ?_
    with_reducible refine (spec_l07Put.calls k1 (fun k_=>((((P0_ k_∨w.heap.size≤k_)∧some k_≠(.slice (some ad290) t287.length co9:Value).ownBlock)∧some k_≠(.slice (some ad300) t293.length co54:Value).ownBlock)∧some k_≠(.slice Ao59 y321.length co59:Value).ownBlock)) _ _ x3_1 _ _ y321 t324 _ ?side1 ?side2 ?side3 A48.out).mono ?_
    (case side1=>exact Kd.N_V (HO_3.out))
    (case side2=>repeat (first|exact (Kd.R_reads' HO323.out).2.2|(with_reducible refine Kd.C_alloc ?_ _)|(with_reducible refine Kd.C_drewN ?_ _)|(with_reducible refine Kd.C_drew ?_)))
    (case side3=>exact (Kd.R_reads' HO323.out).2.1)
    rintro e w60 ⟨v325,rfl,ho0,hb⟩
    have HS0_:=(hb.cell (World.block_lt_of_cell? _ _ (hHeld.1))).trans (hHeld.1)
    have HS1_:=(hb.cell (World.block_lt_of_cell? _ _ (hHeld.2))).trans (hHeld.2)
    refine ⟨_,rfl,?_⟩
    have n0_:=Aside0.mk (Kd.N_elder' (by (with_reducible repeat (first|apply nA|apply nN|apply nD));exact HO_3.out) (by first|exact Kd.N_base ho0|exact Kd.S_base ho0) hb)
    have n1_:=Aside0.mk (Kd.N_elder' (by (with_reducible repeat (first|apply nA|apply nN|apply nD));exact HO_11.out) (by first|exact Kd.N_base ho0|exact Kd.S_base ho0) hb)
    have n2_:=Aside0.mk (Kd.V_elder' (by (with_reducible repeat (first|apply vA|apply vN|apply vD));exact HL290_0.out) (by first|exact Kd.N_base ho0|exact Kd.S_base ho0) hb)
    have n3_:=Aside0.mk (Kd.R_below (by (with_reducible repeat (first|apply rA|apply rN|apply rD));exact HO295.out) hb)
    have n4_:=Aside0.mk (Kd.R_below (by (with_reducible repeat (first|apply rA|apply rN|apply rD));exact HO323.out) hb)
    have n5_:=Aside0.mk (Kd.N_lower (Kd.N_mono (ok':=fun k_=>(P0_ k_∨w.heap.size≤k_)∧some k_≠(.slice (some ad290) t287.length co9:Value).ownBlock∧some k_≠(.slice (some ad300) t293.length co54:Value).ownBlock∧some k_≠(.slice Ao59 y321.length co59:Value).ownBlock) ho0 (fun k_ hk_=>⟨Or.elim hk_ (fun hs_=>hs_.1.1.1) (fun hn_=>(.inr (Nat.le_trans (below_size (by repeat (with_reducible first|exact HB.out|apply bA|apply bN|apply bD))) hn_))),Or.elim hk_ (fun hs_=>hs_.1.1.2) (fun hn_=>(Kd.fresh' (Kd.N_lt (by (with_reducible repeat (first|apply nA|apply nN|apply nD));exact HO_11.out)) k_ hn_)),Or.elim hk_ (fun hs_=>hs_.1.2) (fun hn_=>(Kd.fresh' (Kd.R_lt (by (with_reducible repeat (first|apply rA|apply rN|apply rD));exact HO295.out)) k_ hn_)),Or.elim hk_ (fun hs_=>hs_.2) (fun hn_=>(Kd.fresh' (Kd.R_lt (by (with_reducible repeat (first|apply rA|apply rN|apply rD));exact HO323.out)) k_ hn_))⟩)) (below_size (by repeat (with_reducible first|exact HB.out|apply bA|apply bN|apply bD))))
    have n6_:=Aside0.mk (Kd.C_below (by repeat (first|(with_reducible exact HR290_0.out)|(with_reducible refine Kd.C_alloc ?_ _)|(with_reducible refine Kd.C_drewN ?_ _)|(with_reducible refine Kd.C_drew ?_)|exact HR290_0.out)) hb)
    have n7_:=Aside0.mk (below_step (by repeat (with_reducible first|exact HB.out|apply bA|apply bN|apply bD)) hb)
    clear HO_3
    clear HO_11
    clear HL290_0
    clear HO295
    clear HO323
    clear HR290_0
    clear HB
    have HO_3:=n0_
    have HO_11:=n1_
    have HL290_0:=n2_
    have HO295:=n3_
    have HO323:=n4_
    have HO326:=n5_
    have HR290_0:=n6_
    have HB:=n7_
    clear n0_ n1_ n2_ n3_ n4_ n5_ n6_ n7_
    (try clear hb)
    (try clear hb2)
    (try clear hk)
    (try clear hi)
    (try clear ho0)
    refine hK.out _ _ ⟨HS0_,HS1_⟩ (fun hHeld=>?_)
    clear hK K
    refine norm_ (a':=?_) ?_ ?_
    rotate_left
    ·show Act.put _ (some 62) _=_
     simp only [Act.put,sI,sZ,sS,i64_w,i32_w]
     rfl
    refine pT 10 3 (bV 11 2047) HT_.out ?_
    refine done_ (done_of HT_.out (by kernel_rfl)) ?_
    try go_wp2
    go_roundg k1
    case measure=>have:=HK1.out;omega
    case rel=>exact ⟨(t324),(wrap64 (x13_1+1)),(by first|rfl|(simp;done)|(simp [*];done)),H',⟨by have:=HK1.out;omega⟩,⟨by (with_reducible repeat (first|apply nA|apply nN|apply nD));exact Kd.N_mono HO326.out (fun _ hk=>⟨hk.1,hk.2.1⟩)⟩,⟨by (with_reducible repeat (first|apply nA|apply nN|apply nD));exact Kd.N_mono HO_11.out (fun _ hk=>⟨hk.1.1.1.1,hk.2⟩)⟩,⟨by repeat (with_reducible first|exact HB.out|apply bA|apply bN|apply bD)⟩⟩
  ·rw [if_neg c10] at H
   have c10b0:decide (x13_1 < (t287.length:Int))=false:=decide_eq_false c10
   clear c10
   obtain rfl:=Option.some.inj H
   go_wp2
   go_ret
   exact ⟨_,by first|rfl|(simp [errW_none,errW_some] <;> rfl)|(simp [*,errW_none,errW_some] <;> rfl),by (with_reducible repeat (first|apply nA|apply nN|apply nD));exact Kd.N_mono HO_3.out (fun _ hk=>hk.1),by repeat (with_reducible first|exact HB.out|apply bA|apply bN|apply bD)⟩
end Go.Proofs.Ytadenfniiihifaa.QFnExactMeasuresOf
