/- What each Go function of this text answers, as a plain function, and that the machine comes to just that answer. -/
import Derived.Test.YtadenfniiihifaaQFnExactMeasuresOfx0
import Derived.Test.YtadenfniiihifaaQFnExactMeasuresOfx4
import Derived.Test.YtadenfniiihifaaQFnExactMeasuresOfx7
namespace Go.Proofs.Ytadenfniiihifaa.QFnExactMeasuresOf
open Go.RowKit Go.Proofs.YtadenfniiihifaaW.PrintWords Go.Proofs.YtadenfniiihifaaW.PrintLast Go.Proofs.YtadenfniiihifaaW.PrintMore
attribute [local go_sem] max2_int min2_int max_two min_two max_three min_three max_four min_four   -- for this text's walks alone
set_option linter.unusedVariables false
set_option maxHeartbeats 8000000
set_option maxRecDepth 100000
set_option linter.unusedSimpArgs false
def spec_MeasuresOf.f (k:Nat) (l0:List (S40)):Option ((List (List Int))):=(spec_PolygonOk.f k l0).bind fun t327=>(if t327=true then ((spec_l07All.f k l0).bind fun t328=>(some t328)) else (some ([]:List (List Int))))
theorem spec_MeasuresOf.mono:∀ a0 k,LeO (spec_MeasuresOf.f k a0) (spec_MeasuresOf.f (k+1) a0):=by
 intro a0 k
 unfold spec_MeasuresOf.f
 repeat' first
  | (with_reducible exact LeO.refl _)
  | exact spec_PolygonOk.mono _ _
  | exact spec_l07All.mono _ _
  | exact LeO.none _
  | refine LeO.ite ?_ ?_
  | refine LeO.bind ?_ (fun _=>?_)
theorem spec_MeasuresOf.calls (k:Nat) (P0_:Nat→Prop) (A0:Option Addr) (c0:Nat) (l0:List (S40)) (r:List (List Int)) (w:World) (hs0:Kd.V k40 40 w w.heap.size (fun k_=>P0_ k_) (.slice A0 l0.length c0) l0) (h:spec_MeasuresOf.f k l0=some r) :
 Calls Try.prog 22 #[.slice A0 l0.length c0] w fun e w'=>∃ v0_:Value,e=.returned (v0_)∧Kd.N (Kd.slice 3 (Kd.int .i64)) 45 w' w.heap.size (fun k_=>(P0_ k_∨w.heap.size≤k_)) v0_ r∧Below w.heap.size w w':=by
 have HO0:=Aside0.mk (show Kd.V k40 40 w w.heap.size (fun k_=>(P0_ k_∨w.heap.size≤k_)) (.slice A0 l0.length c0) l0 from Kd.V_mono hs0 (fun k_ hk=>.inl hk))
 have HB:=Aside0.mk (Below.refl w.heap.size w)
 have H:((spec_PolygonOk.f k l0).bind fun t327=>(if t327=true then ((spec_l07All.f k l0).bind fun t328=>(some t328)) else (some ([]:List (List Int)))))=some r:=h
 clear h
 replace H:=Option.bind_eq_some_iff.mp H
 obtain ⟨t327,A20,H⟩:=H
 have A2:=Aside0.mk A20
 clear A20
 by_cases c3:t327=true
 ·subst c3
  rw [if_pos rfl] at H
  replace H:=Option.bind_eq_some_iff.mp H
  obtain ⟨t328,A40,H⟩:=H
  have A4:=Aside0.mk A40
  clear A40
  obtain rfl:=Option.some.inj H
  go_enter Try.func22,Try.ntmps22
  go_wp2_with (first|((with_reducible refine gate_callee (f:=34) rfl ?_);refine goesL_ (some 4) rfl rfl Try.func34 (by kernel_rfl) rfl #[.slice A0 l0.length c0] rfl (by (try simp only [List.map_toArray,List.map_cons,List.map_nil]);first|done|rfl) ?_;(with_reducible refine (spec_PolygonOk.calls k _ _ l0 true _ ?side1 ?side2 A2.out).mono ?_);(case side1=>repeat (first|exact (Kd.V_reads' HO0.out).2.2|(with_reducible refine Kd.C_alloc ?_ _)|(with_reducible refine Kd.C_drewN ?_ _)|(with_reducible refine Kd.C_drew ?_)));(case side2=>exact (Kd.V_reads' HO0.out).2.1);rintro e w5 ⟨rfl,hb⟩;refine ⟨_,rfl,?_⟩;have n0_:=Aside0.mk (Kd.V_below (by (with_reducible repeat (first|apply vA|apply vN|apply vD));exact HO0.out) hb);have n1_:=Aside0.mk (below_step (by repeat (with_reducible first|exact HB.out|apply bA|apply bN|apply bD)) hb);clear HO0;clear HB;have HO0:=n0_;have HB:=n1_;clear n0_ n1_;(try clear hb))|((with_reducible refine gate_callee (f:=35) rfl ?_);refine goesL_ (some 7) rfl rfl Try.func35 (by kernel_rfl) rfl #[.slice A0 l0.length c0] rfl (by (try simp only [List.map_toArray,List.map_cons,List.map_nil]);first|done|rfl) ?_;(with_reducible refine (spec_l07All.calls k (fun k_=>(P0_ k_∨w.heap.size≤k_)) _ _ l0 t328 _ ?side1 A4.out).mono ?_);(case side1=>exact HO0.out);rintro e w6 ⟨v329,rfl,ho0,hb⟩;refine ⟨_,rfl,?_⟩;have n0_:=Aside0.mk (Kd.V_elder' (by (with_reducible repeat (first|apply vA|apply vN|apply vD));exact HO0.out) (Kd.N_base ho0) hb);have n1_:=Aside0.mk (Kd.N_lower (Kd.N_mono (ok':=fun k_=>(P0_ k_∨w.heap.size≤k_)) ho0 (fun k_ hk_=>Or.elim hk_ (fun hs_=>hs_) (fun hn_=>(.inr (Nat.le_trans (below_size (by repeat (with_reducible first|exact HB.out|apply bA|apply bN|apply bD))) hn_))))) (below_size (by repeat (with_reducible first|exact HB.out|apply bA|apply bN|apply bD))));have n2_:=Aside0.mk (below_step (by repeat (with_reducible first|exact HB.out|apply bA|apply bN|apply bD)) hb);clear HO0;clear HB;have HO0:=n0_;have HO330:=n1_;have HB:=n2_;clear n0_ n1_ n2_;(try clear hb);(try clear ho0)))
  go_ret
  exact ⟨_,by first|rfl|(simp [errW_none,errW_some] <;> rfl)|(simp [*,errW_none,errW_some] <;> rfl),by (with_reducible repeat (first|apply nA|apply nN|apply nD));exact HO330.out,by repeat (with_reducible first|exact HB.out|apply bA|apply bN|apply bD)⟩
 ·replace c3:=Bool.eq_false_iff.mpr c3
  subst c3
  rw [if_neg (show ¬ (false=true) by decide)] at H
  obtain rfl:=Option.some.inj H
  go_enter Try.func22,Try.ntmps22
  go_wp2_with (first|((with_reducible refine gate_callee (f:=34) rfl ?_);refine goesL_ (some 4) rfl rfl Try.func34 (by kernel_rfl) rfl #[.slice A0 l0.length c0] rfl (by (try simp only [List.map_toArray,List.map_cons,List.map_nil]);first|done|rfl) ?_;(with_reducible refine (spec_PolygonOk.calls k _ _ l0 false _ ?side1 ?side2 A2.out).mono ?_);(case side1=>repeat (first|exact (Kd.V_reads' HO0.out).2.2|(with_reducible refine Kd.C_alloc ?_ _)|(with_reducible refine Kd.C_drewN ?_ _)|(with_reducible refine Kd.C_drew ?_)));(case side2=>exact (Kd.V_reads' HO0.out).2.1);rintro e w7 ⟨rfl,hb⟩;refine ⟨_,rfl,?_⟩;have n0_:=Aside0.mk (Kd.V_below (by (with_reducible repeat (first|apply vA|apply vN|apply vD));exact HO0.out) hb);have n1_:=Aside0.mk (below_step (by repeat (with_reducible first|exact HB.out|apply bA|apply bN|apply bD)) hb);clear HO0;clear HB;have HO0:=n0_;have HB:=n1_;clear n0_ n1_;(try clear hb)))
  go_ret
  exact ⟨_,by first|rfl|(simp [errW_none,errW_some] <;> rfl)|(simp [*,errW_none,errW_some] <;> rfl),by first|exact Kd.S_nil _ _ _ _ _|exact Kd.N_nil _ _ _ _ _|exact Kd.V_nil _ _ _ _ _|exact Kd.Q_nil _ _ _ _ _|exact Kd.R_nil _ _ _ _ _,by repeat (with_reducible first|exact HB.out|apply bA|apply bN|apply bD)⟩
def impl_within.f (a0:Int) (a1:Int) (a2:Int):Option (Bool):=if a0 ≥ a1 then (some (decide (a0≤a2))) else (some false)
theorem impl_within.calls (a0:Int) (a1:Int) (a2:Int) (r:Bool) (w:World) (h:impl_within.f a0 a1 a2=some r) :
 Calls Try.prog 59 #[.int .i64 a0,.int .i64 a1,.int .i64 a2] w fun e w'=>e=.returned (.bool r)∧Drawn0 w w':=by
 have H:(if a0 ≥ a1 then (some (decide (a0≤a2))) else (some false))=some r:=h
 clear h
 by_cases c4:a0 ≥ a1
 ·rw [if_pos c4] at H
  have c4b0:decide (a1≤a0)=true:=decide_eq_true c4
  clear c4
  obtain rfl:=Option.some.inj H
  go_enter Try.func59,Try.ntmps59
  go_wp2
  go_ret
  exact ⟨by first|rfl|(simp;done)|(simp [*];done),by repeat (first|exact Drawn0.refl _|apply Drawn0.step)⟩
 ·rw [if_neg c4] at H
  have c4b0:decide (a1≤a0)=false:=decide_eq_false c4
  clear c4
  obtain rfl:=Option.some.inj H
  go_enter Try.func59,Try.ntmps59
  go_wp2
  go_ret
  exact ⟨by first|rfl|(simp;done)|(simp [*];done),by repeat (first|exact Drawn0.refl _|apply Drawn0.step)⟩
def impl_PointOk.f (a0_0:Int) (a0_1:Int):Option (Bool):=(impl_within.f a0_0 0 40).bind fun t233=>(if t233=true then ((impl_within.f a0_1 0 40).bind fun t234=>(some t234)) else (some false))
theorem impl_PointOk.calls (a0_0:Int) (a0_1:Int) (r:Bool) (w:World) (h:impl_PointOk.f a0_0 a0_1=some r) :
 Calls Try.prog 83 #[.agg #[.int .i64 a0_0,.int .i64 a0_1]] w fun e w'=>e=.returned (.bool r)∧Below w.heap.size w w':=by
 have hu40:=Try.underlying40
 have HB:=Aside0.mk (Below.refl w.heap.size w)
 have H:((impl_within.f a0_0 0 40).bind fun t233=>(if t233=true then ((impl_within.f a0_1 0 40).bind fun t234=>(some t234)) else (some false)))=some r:=h
 clear h
 replace H:=Option.bind_eq_some_iff.mp H
 obtain ⟨t233,A20,H⟩:=H
 have A2:=Aside0.mk A20
 clear A20
 by_cases c3:t233=true
 ·subst c3
  rw [if_pos rfl] at H
  replace H:=Option.bind_eq_some_iff.mp H
  obtain ⟨t234,A40,H⟩:=H
  have A4:=Aside0.mk A40
  clear A40
  obtain rfl:=Option.some.inj H
  go_enter Try.func83,Try.ntmps83
  go_wp2_with (first|((with_reducible refine gate_dst (N:=1) rfl ?_);refine bE 1 #[.int .i64 a0_0,.int .i64 a0_1] 40 ?_;intro gb232 hg w5 hbox hb;have n0_:=Aside0.mk (below_step (by repeat (with_reducible first|exact HB.out|apply bA|apply bN|apply bD)) hb);have n1_:=Aside0.mk (hbox);have n2_:=Aside0.mk ((by rw [hg];exact (below_size (by repeat (with_reducible first|exact HB.out|apply bA|apply bN|apply bD))):w.heap.size≤gb232));have n3_:=Aside0.mk ((by rw [hg];exact (below_size (by repeat (with_reducible first|exact HB.out|apply bA|apply bN|apply bD))):w.heap.size≤gb232));clear HB;have HB:=n0_;have BK232:=n1_;have GW232:=n2_;have GE232:=n3_;clear n0_ n1_ n2_ n3_;clear hb hbox hg;have hcz6_0:w5.cell? ⟨gb232,0,none⟩=some (.int .i64 a0_0):=(blk_cell BK232.out 0).trans rfl;have hcz6_1:w5.cell? ⟨gb232,1,none⟩=some (.int .i64 a0_1):=(blk_cell BK232.out 1).trans rfl;have hfz6_0:=blk_frozen BK232.out 0;have hfz6_1:=blk_frozen BK232.out 1)|((with_reducible refine gate_callee (f:=59) rfl ?_);refine goesL_ (some 5) rfl rfl Try.func59 (by kernel_rfl) rfl #[.int .i64 a0_0,.int .i64 0,.int .i64 40] rfl (by (try simp only [List.map_toArray,List.map_cons,List.map_nil]);first|done|rfl) ?_;(with_reducible refine (impl_within.calls a0_0 0 40 true _ A2.out).mono ?_);rintro e w' ⟨rfl,⟨nd,rfl⟩⟩;refine ⟨_,rfl,?_⟩)|(go_at_call 59;(with_reducible refine (impl_within.calls a0_1 0 40 t234 _ A4.out).mono ?_);rintro e w' ⟨rfl,⟨nd,rfl⟩⟩))
  go_ret
  exact ⟨by first|rfl|(simp [errW_none,errW_some] <;> rfl)|(simp [*,errW_none,errW_some] <;> rfl),by repeat (first|(with_reducible first|exact HB.out|apply bA|apply bN|apply bD|refine bS ?_ GE232.out)|exact HB.out)⟩
 ·replace c3:=Bool.eq_false_iff.mpr c3
  subst c3
  rw [if_neg (show ¬ (false=true) by decide)] at H
  obtain rfl:=Option.some.inj H
  go_enter Try.func83,Try.ntmps83
  go_wp2_with (first|((with_reducible refine gate_dst (N:=1) rfl ?_);refine bE 1 #[.int .i64 a0_0,.int .i64 a0_1] 40 ?_;intro gb232 hg w7 hbox hb;have n0_:=Aside0.mk (below_step (by repeat (with_reducible first|exact HB.out|apply bA|apply bN|apply bD)) hb);have n1_:=Aside0.mk (hbox);have n2_:=Aside0.mk ((by rw [hg];exact (below_size (by repeat (with_reducible first|exact HB.out|apply bA|apply bN|apply bD))):w.heap.size≤gb232));have n3_:=Aside0.mk ((by rw [hg];exact (below_size (by repeat (with_reducible first|exact HB.out|apply bA|apply bN|apply bD))):w.heap.size≤gb232));clear HB;have HB:=n0_;have BK232:=n1_;have GW232:=n2_;have GE232:=n3_;clear n0_ n1_ n2_ n3_;clear hb hbox hg;have hcz8_0:w7.cell? ⟨gb232,0,none⟩=some (.int .i64 a0_0):=(blk_cell BK232.out 0).trans rfl;have hcz8_1:w7.cell? ⟨gb232,1,none⟩=some (.int .i64 a0_1):=(blk_cell BK232.out 1).trans rfl;have hfz8_0:=blk_frozen BK232.out 0;have hfz8_1:=blk_frozen BK232.out 1)|((with_reducible refine gate_callee (f:=59) rfl ?_);refine goesL_ (some 5) rfl rfl Try.func59 (by kernel_rfl) rfl #[.int .i64 a0_0,.int .i64 0,.int .i64 40] rfl (by (try simp only [List.map_toArray,List.map_cons,List.map_nil]);first|done|rfl) ?_;(with_reducible refine (impl_within.calls a0_0 0 40 false _ A2.out).mono ?_);rintro e w' ⟨rfl,⟨nd,rfl⟩⟩;refine ⟨_,rfl,?_⟩))
  go_ret
  exact ⟨by first|rfl|(simp [errW_none,errW_some] <;> rfl)|(simp [*,errW_none,errW_some] <;> rfl),by repeat (first|(with_reducible first|exact HB.out|apply bA|apply bN|apply bD|refine bS ?_ GE232.out)|exact HB.out)⟩
def impl_arePoints.l0:Nat→List (S40)→Int→Int→Option (Bool)
 | 0,_,_,_=>none
 | k+1,x5,x6,x7=>if x7 < x6 then (if 0≤x7 then (if x7 < (x5.length:Int) then ((impl_PointOk.f ((rd_T40 x5 x7).f0) ((rd_T40 x5 x7).f1)).bind fun t237=>(if t237=true then (impl_arePoints.l0 k x5 x6 (wrap64 (x7+1))) else (some false))) else (none)) else (none)) else (some true)
def impl_arePoints.f (k:Nat) (l0:List (S40)):Option (Bool):=impl_arePoints.l0 k l0 (l0.length:Int) 0
theorem impl_arePoints.mono_l:∀ k,(∀ y0 y1 y2,LeO (impl_arePoints.l0 k y0 y1 y2) (impl_arePoints.l0 (k+1) y0 y1 y2))
 | 0=>fun _ _ _ r h=>by simp [impl_arePoints.l0] at h
 | k+1=>by
  have ih0:=impl_arePoints.mono_l k
  ·intro y0 y1 y2
   unfold impl_arePoints.l0
   repeat' first
   | (with_reducible exact LeO.refl _)
   | exact ih0 _ _ _
   | exact LeO.none _
   | refine LeO.ite ?_ ?_
   | refine LeO.bind ?_ (fun _=>?_)
theorem impl_arePoints.mono:∀ a0 k,LeO (impl_arePoints.f k a0) (impl_arePoints.f (k+1) a0):=by
 intro a0 k
 have ih0:=impl_arePoints.mono_l k
 unfold impl_arePoints.f
 repeat' first
  | (with_reducible exact LeO.refl _)
  | exact ih0 _ _ _
  | exact LeO.none _
  | refine LeO.ite ?_ ?_
  | refine LeO.bind ?_ (fun _=>?_)
theorem impl_arePoints.calls (k:Nat) (A0:Option Addr) (c0:Nat) (l0:List (S40)) (r:Bool) (w:World) (hr0:Kd.C k40 w A0 l0.length l0) (hc0:l0.length≤c0) (h:impl_arePoints.f k l0=some r) :
 Calls Try.prog 67 #[.slice A0 l0.length c0] w fun e w'=>e=.returned (.bool r)∧Below w.heap.size w w':=by
 have hu40:=Try.underlying40
 have HR0:=Aside0.mk hr0
 have HC0:=Aside0.mk hc0
 clear hr0 hc0
 have HB:=Aside0.mk (Below.refl w.heap.size w)
 have H:(impl_arePoints.l0 k l0 (l0.length:Int) 0)=some r:=h
 clear h
 have H':=Aside0.mk H
 clear H
 go_enter Try.func67,Try.ntmps67
 go_wp2
 go_loopg [7] k (fun kq v7 w'=>∃ (x7_1:Int),v7=.int .i64 x7_1∧Aside0 (impl_arePoints.l0 kq l0 (l0.length:Int) x7_1=some r)∧Aside0 (kq≤k)∧Aside0 (Below w.heap.size w w'))
 case atStart=>exact ⟨(0),(by first|rfl|(simp;done)|(simp [*];done)),H',⟨Nat.le_refl _⟩,⟨by repeat (with_reducible first|exact HB.out|apply bA|apply bN|apply bD)⟩⟩
 case round =>
  clear H'
  obtain ⟨x7_1,rfl,HA,HK1,HB⟩:=hrel
  rcases gk with _|k1
  ·exact absurd HA.out (by simp [impl_arePoints.l0])
  have H:=HA.out
  clear HA
  simp only [impl_arePoints.l0] at H
  by_cases c2:x7_1 < (l0.length:Int)
  ·rw [if_pos c2] at H
   have c2b0:decide (x7_1 < (l0.length:Int))=true:=decide_eq_true c2
   clear c2
   by_cases c3:0≤x7_1
   rotate_left;·rw [if_neg c3] at H;exact absurd H (by simp)
   rw [if_pos c3] at H
   have c3b0:decide (0≤x7_1)=true:=decide_eq_true c3
   clear c3
   by_cases c4:x7_1 < (l0.length:Int)
   rotate_left;·rw [if_neg c4] at H;exact absurd H (by simp)
   rw [if_pos c4] at H
   have c4b0:decide (x7_1 < (l0.length:Int))=true:=decide_eq_true c4
   clear c4
   replace H:=Option.bind_eq_some_iff.mp H
   obtain ⟨t237,A50,H⟩:=H
   have A5:=Aside0.mk A50
   clear A50
   by_cases c6:t237=true
   ·subst c6
    rw [if_pos rfl] at H
    have H':=Aside0.mk H
    clear H
    have p235:0≤(x7_1:Int):=of_decide_eq_true (by assumption)
    have q235:x7_1 < (l0.length:Int):=of_decide_eq_true (by assumption)
    obtain ⟨ad235,e235,hx235_0,hx235_1⟩:=at_T40 HR0.out x7_1 p235 q235
    cases e235
    replace hx235_0:=cK HB.out hx235_0
    replace hx235_1:=cK HB.out hx235_1
    replace p235:=eq_true p235
    replace q235:=eq_true q235
    go_wp2_with (first|((with_reducible refine gate_dst (N:=4) rfl ?_);refine bE 4 #[.int .i64 0,.int .i64 0] 40 ?_;intro gb236 hg w7 hbox hb;have n0_:=Aside0.mk (below_step (by repeat (with_reducible first|exact HB.out|apply bA|apply bN|apply bD)) hb);have n1_:=Aside0.mk (hbox);have n2_:=Aside0.mk ((by rw [hg];exact (below_size (by repeat (with_reducible first|exact HB.out|apply bA|apply bN|apply bD))):w.heap.size≤gb236));have n3_:=Aside0.mk ((by rw [hg];exact (below_size (by repeat (with_reducible first|exact HB.out|apply bA|apply bN|apply bD))):w.heap.size≤gb236));clear HB;have HB:=n0_;have BK236:=n1_;have GW236:=n2_;have GE236:=n3_;clear n0_ n1_ n2_ n3_;clear hb hbox hg;have hcz8_0:w7.cell? ⟨gb236,0,none⟩=some (.int .i64 0):=(blk_cell BK236.out 0).trans rfl;have hcz8_1:w7.cell? ⟨gb236,1,none⟩=some (.int .i64 0):=(blk_cell BK236.out 1).trans rfl;have hfz8_0:=blk_frozen BK236.out 0;have hfz8_1:=blk_frozen BK236.out 1)|((with_reducible refine gate_callee (f:=83) rfl ?_);refine goesL_ (some 12) rfl rfl Try.func83 (by kernel_rfl) rfl #[.agg #[.int .i64 ((rd_T40 l0 x7_1).f0),.int .i64 ((rd_T40 l0 x7_1).f1)]] rfl (by (try simp only [List.map_toArray,List.map_cons,List.map_nil]);first|done|rfl) ?_;(with_reducible refine (impl_PointOk.calls ((rd_T40 l0 x7_1).f0) ((rd_T40 l0 x7_1).f1) true _ A5.out).mono ?_);rintro e w9 ⟨rfl,hb⟩;refine ⟨_,rfl,?_⟩;have n0_:=Aside0.mk (blk_below (g:=gb236) (o:=.cells #[.int .i64 ((rd_T40 l0 x7_1).f0),.int .i64 ((rd_T40 l0 x7_1).f1)] 40 (0,0)) (by (with_reducible repeat (first|refine kN ?_ _|refine kD ?_|refine kA ?_ _));refine blk_put (cs:=#[.int .i64 ((rd_T40 l0 x7_1).f0),.int .i64 0]) ?_ 1 _ rfl;(with_reducible repeat (first|refine kN ?_ _|refine kD ?_|refine kA ?_ _));refine blk_put (cs:=#[.int .i64 0,.int .i64 0]) ?_ 0 _ rfl;(with_reducible repeat (first|refine kN ?_ _|refine kD ?_|refine kA ?_ _));exact BK236.out) hb);have n1_:=Aside0.mk (below_step (by repeat (first|(with_reducible first|exact HB.out|apply bA|apply bN|apply bD|refine bS ?_ GE236.out)|exact HB.out)) hb);clear BK236;clear HB;have BK236:=n0_;have HB:=n1_;clear n0_ n1_;(try clear hb)))
    go_roundg k1
    case measure=>have:=HK1.out;omega
    case rel=>exact ⟨(wrap64 (x7_1+1)),(by first|rfl|(simp;done)|(simp [*];done)),H',⟨by have:=HK1.out;omega⟩,⟨by repeat (first|(with_reducible first|exact HB.out|apply bA|apply bN|apply bD|refine bS ?_ GE236.out)|exact HB.out)⟩⟩
   ·replace c6:=Bool.eq_false_iff.mpr c6
    subst c6
    rw [if_neg (show ¬ (false=true) by decide)] at H
    obtain rfl:=Option.some.inj H
    have p235:0≤(x7_1:Int):=of_decide_eq_true (by assumption)
    have q235:x7_1 < (l0.length:Int):=of_decide_eq_true (by assumption)
    obtain ⟨ad235,e235,hx235_0,hx235_1⟩:=at_T40 HR0.out x7_1 p235 q235
    cases e235
    replace hx235_0:=cK HB.out hx235_0
    replace hx235_1:=cK HB.out hx235_1
    replace p235:=eq_true p235
    replace q235:=eq_true q235
    go_wp2_with (first|((with_reducible refine gate_dst (N:=4) rfl ?_);refine bE 4 #[.int .i64 0,.int .i64 0] 40 ?_;intro gb236 hg w10 hbox hb;have n0_:=Aside0.mk (below_step (by repeat (with_reducible first|exact HB.out|apply bA|apply bN|apply bD)) hb);have n1_:=Aside0.mk (hbox);have n2_:=Aside0.mk ((by rw [hg];exact (below_size (by repeat (with_reducible first|exact HB.out|apply bA|apply bN|apply bD))):w.heap.size≤gb236));have n3_:=Aside0.mk ((by rw [hg];exact (below_size (by repeat (with_reducible first|exact HB.out|apply bA|apply bN|apply bD))):w.heap.size≤gb236));clear HB;have HB:=n0_;have BK236:=n1_;have GW236:=n2_;have GE236:=n3_;clear n0_ n1_ n2_ n3_;clear hb hbox hg;have hcz11_0:w10.cell? ⟨gb236,0,none⟩=some (.int .i64 0):=(blk_cell BK236.out 0).trans rfl;have hcz11_1:w10.cell? ⟨gb236,1,none⟩=some (.int .i64 0):=(blk_cell BK236.out 1).trans rfl;have hfz11_0:=blk_frozen BK236.out 0;have hfz11_1:=blk_frozen BK236.out 1)|((with_reducible refine gate_callee (f:=83) rfl ?_);refine goesL_ (some 12) rfl rfl Try.func83 (by kernel_rfl) rfl #[.agg #[.int .i64 ((rd_T40 l0 x7_1).f0),.int .i64 ((rd_T40 l0 x7_1).f1)]] rfl (by (try simp only [List.map_toArray,List.map_cons,List.map_nil]);first|done|rfl) ?_;(with_reducible refine (impl_PointOk.calls ((rd_T40 l0 x7_1).f0) ((rd_T40 l0 x7_1).f1) false _ A5.out).mono ?_);rintro e w12 ⟨rfl,hb⟩;refine ⟨_,rfl,?_⟩;have n0_:=Aside0.mk (blk_below (g:=gb236) (o:=.cells #[.int .i64 ((rd_T40 l0 x7_1).f0),.int .i64 ((rd_T40 l0 x7_1).f1)] 40 (0,0)) (by (with_reducible repeat (first|refine kN ?_ _|refine kD ?_|refine kA ?_ _));refine blk_put (cs:=#[.int .i64 ((rd_T40 l0 x7_1).f0),.int .i64 0]) ?_ 1 _ rfl;(with_reducible repeat (first|refine kN ?_ _|refine kD ?_|refine kA ?_ _));refine blk_put (cs:=#[.int .i64 0,.int .i64 0]) ?_ 0 _ rfl;(with_reducible repeat (first|refine kN ?_ _|refine kD ?_|refine kA ?_ _));exact BK236.out) hb);have n1_:=Aside0.mk (below_step (by repeat (first|(with_reducible first|exact HB.out|apply bA|apply bN|apply bD|refine bS ?_ GE236.out)|exact HB.out)) hb);clear BK236;clear HB;have BK236:=n0_;have HB:=n1_;clear n0_ n1_;(try clear hb)))
    go_ret
    exact ⟨by first|rfl|(simp [errW_none,errW_some] <;> rfl)|(simp [*,errW_none,errW_some] <;> rfl),by repeat (first|(with_reducible first|exact HB.out|apply bA|apply bN|apply bD|refine bS ?_ GE236.out)|exact HB.out)⟩
  ·rw [if_neg c2] at H
   have c2b0:decide (x7_1 < (l0.length:Int))=false:=decide_eq_false c2
   clear c2
   obtain rfl:=Option.some.inj H
   go_wp2
   go_ret
   exact ⟨by first|rfl|(simp [errW_none,errW_some] <;> rfl)|(simp [*,errW_none,errW_some] <;> rfl),by repeat (with_reducible first|exact HB.out|apply bA|apply bN|apply bD)⟩
def impl_cross.f (a0_0:Int) (a0_1:Int) (a1_0:Int) (a1_1:Int) (a2_0:Int) (a2_1:Int):Option (Int):=some (wrap64 ((wrap64 ((wrap64 (a1_0 - a0_0)) * (wrap64 (a2_1 - a0_1)))) - (wrap64 ((wrap64 (a1_1 - a0_1)) * (wrap64 (a2_0 - a0_0))))))
theorem impl_cross.calls (a0_0:Int) (a0_1:Int) (a1_0:Int) (a1_1:Int) (a2_0:Int) (a2_1:Int) (r:Int) (w:World) (h:impl_cross.f a0_0 a0_1 a1_0 a1_1 a2_0 a2_1=some r) :
 Calls Try.prog 86 #[.agg #[.int .i64 a0_0,.int .i64 a0_1],.agg #[.int .i64 a1_0,.int .i64 a1_1],.agg #[.int .i64 a2_0,.int .i64 a2_1]] w fun e w'=>e=.returned (.int .i64 r)∧Below w.heap.size w w':=by
 have hu40:=Try.underlying40
 have HB:=Aside0.mk (Below.refl w.heap.size w)
 have H:(some (wrap64 ((wrap64 ((wrap64 (a1_0 - a0_0)) * (wrap64 (a2_1 - a0_1)))) - (wrap64 ((wrap64 (a1_1 - a0_1)) * (wrap64 (a2_0 - a0_0)))))))=some r:=h
 clear h
 obtain rfl:=Option.some.inj H
 go_enter Try.func86,Try.ntmps86
 go_wp2_with (first|((with_reducible refine gate_dst (N:=3) rfl ?_);refine bE 3 #[.int .i64 a0_0,.int .i64 a0_1] 40 ?_;intro gb238 hg w4 hbox hb;have n0_:=Aside0.mk (below_step (by repeat (with_reducible first|exact HB.out|apply bA|apply bN|apply bD)) hb);have n1_:=Aside0.mk (hbox);have n2_:=Aside0.mk ((by rw [hg];exact (below_size (by repeat (with_reducible first|exact HB.out|apply bA|apply bN|apply bD))):w.heap.size≤gb238));have n3_:=Aside0.mk ((by rw [hg];exact (below_size (by repeat (with_reducible first|exact HB.out|apply bA|apply bN|apply bD))):w.heap.size≤gb238));clear HB;have HB:=n0_;have BK238:=n1_;have GW238:=n2_;have GE238:=n3_;clear n0_ n1_ n2_ n3_;clear hb hbox hg)|((with_reducible refine gate_dst (N:=4) rfl ?_);refine bE 4 #[.int .i64 a1_0,.int .i64 a1_1] 40 ?_;intro gb239 hg w5 hbox hb;have n0_:=Aside0.mk (blk_below (by repeat (with_reducible first|exact BK238.out|apply kN|apply kD|apply kA)) hb);have n1_:=Aside0.mk (below_step (by repeat (first|(with_reducible first|exact HB.out|apply bA|apply bN|apply bD|refine bS ?_ GE238.out)|exact HB.out)) hb);have n2_:=Aside0.mk (hbox);have n3_:=Aside0.mk ((by rw [hg];exact (below_size (by repeat (first|(with_reducible first|exact HB.out|apply bA|apply bN|apply bD|refine bS ?_ GE238.out)|exact HB.out))):w.heap.size≤gb239));have n4_:=Aside0.mk ((by rw [hg];exact (below_size (by repeat (first|(with_reducible first|exact HB.out|apply bA|apply bN|apply bD|refine bS ?_ GE238.out)|exact HB.out))):w.heap.size≤gb239));have n5_:=Aside0.mk ((by rw [hg];exact Nat.ne_of_lt (blk_lt (by repeat (with_reducible first|exact BK238.out|apply kN|apply kD|apply kA))):gb238≠gb239));have n6_:=Aside0.mk ((by rw [hg];exact Nat.ne_of_gt (blk_lt (by repeat (with_reducible first|exact BK238.out|apply kN|apply kD|apply kA))):gb239≠gb238));clear BK238;clear HB;have BK238:=n0_;have HB:=n1_;have BK239:=n2_;have GW239:=n3_;have GE239:=n4_;have NB238_239:=n5_;have NB239_238:=n6_;clear n0_ n1_ n2_ n3_ n4_ n5_ n6_;clear hb hbox hg)|((with_reducible refine gate_dst (N:=5) rfl ?_);refine bE 5 #[.int .i64 a2_0,.int .i64 a2_1] 40 ?_;intro gb240 hg w6 hbox hb;have n0_:=Aside0.mk (blk_below (by repeat (with_reducible first|exact BK238.out|apply kN|apply kD|apply kA)) hb);have n1_:=Aside0.mk (blk_below (by repeat (with_reducible first|exact BK239.out|apply kN|apply kD|apply kA)) hb);have n2_:=Aside0.mk (below_step (by repeat (first|(with_reducible first|exact HB.out|apply bA|apply bN|apply bD|refine bS ?_ GE238.out|refine bS ?_ GE239.out)|exact HB.out)) hb);have n3_:=Aside0.mk (hbox);have n4_:=Aside0.mk ((by rw [hg];exact (below_size (by repeat (first|(with_reducible first|exact HB.out|apply bA|apply bN|apply bD|refine bS ?_ GE238.out|refine bS ?_ GE239.out)|exact HB.out))):w.heap.size≤gb240));have n5_:=Aside0.mk ((by rw [hg];exact (below_size (by repeat (first|(with_reducible first|exact HB.out|apply bA|apply bN|apply bD|refine bS ?_ GE238.out|refine bS ?_ GE239.out)|exact HB.out))):w.heap.size≤gb240));have n6_:=Aside0.mk ((by rw [hg];exact Nat.ne_of_lt (blk_lt (by repeat (with_reducible first|exact BK238.out|apply kN|apply kD|apply kA))):gb238≠gb240));have n7_:=Aside0.mk ((by rw [hg];exact Nat.ne_of_gt (blk_lt (by repeat (with_reducible first|exact BK238.out|apply kN|apply kD|apply kA))):gb240≠gb238));have n8_:=Aside0.mk ((by rw [hg];exact Nat.ne_of_lt (blk_lt (by repeat (with_reducible first|exact BK239.out|apply kN|apply kD|apply kA))):gb239≠gb240));have n9_:=Aside0.mk ((by rw [hg];exact Nat.ne_of_gt (blk_lt (by repeat (with_reducible first|exact BK239.out|apply kN|apply kD|apply kA))):gb240≠gb239));clear BK238;clear BK239;clear HB;have BK238:=n0_;have BK239:=n1_;have HB:=n2_;have BK240:=n3_;have GW240:=n4_;have GE240:=n5_;have NB238_240:=n6_;have NB240_238:=n7_;have NB239_240:=n8_;have NB240_239:=n9_;clear n0_ n1_ n2_ n3_ n4_ n5_ n6_ n7_ n8_ n9_;clear hb hbox hg;have hnb7:=NB239_238.out;have hnc7:=NB238_239.out;have hnb8:=NB239_240.out;have hnc8:=NB240_239.out;have hcz9_0:w6.cell? ⟨gb239,0,none⟩=some (.int .i64 a1_0):=(blk_cell BK239.out 0).trans rfl;have hcz9_1:w6.cell? ⟨gb239,1,none⟩=some (.int .i64 a1_1):=(blk_cell BK239.out 1).trans rfl;have hfz9_0:=blk_frozen BK239.out 0;have hfz9_1:=blk_frozen BK239.out 1;have hnb10:=NB238_240.out;have hnc10:=NB240_238.out;have hcz11_0:w6.cell? ⟨gb238,0,none⟩=some (.int .i64 a0_0):=(blk_cell BK238.out 0).trans rfl;have hcz11_1:w6.cell? ⟨gb238,1,none⟩=some (.int .i64 a0_1):=(blk_cell BK238.out 1).trans rfl;have hfz11_0:=blk_frozen BK238.out 0;have hfz11_1:=blk_frozen BK238.out 1;have hcz12_0:w6.cell? ⟨gb240,0,none⟩=some (.int .i64 a2_0):=(blk_cell BK240.out 0).trans rfl;have hcz12_1:w6.cell? ⟨gb240,1,none⟩=some (.int .i64 a2_1):=(blk_cell BK240.out 1).trans rfl;have hfz12_0:=blk_frozen BK240.out 0;have hfz12_1:=blk_frozen BK240.out 1))
 go_ret
 exact ⟨by first|rfl|(simp [errW_none,errW_some] <;> rfl)|(simp [*,errW_none,errW_some] <;> rfl),by repeat (first|(with_reducible first|exact HB.out|apply bA|apply bN|apply bD|refine bS ?_ GE238.out|refine bS ?_ GE239.out|refine bS ?_ GE240.out)|exact HB.out)⟩
def impl_isOn.f (a0_0:Int) (a0_1:Int) (a1_0:Int) (a1_1:Int) (a2_0:Int) (a2_1:Int):Option (Bool):=(impl_cross.f a0_0 a0_1 a1_0 a1_1 a2_0 a2_1).bind fun t244=>(if t244=0 then ((impl_within.f a2_0 (mn a0_0 a1_0) (mx a0_0 a1_0)).bind fun t245=>(if t245=true then ((impl_within.f a2_1 (mn a0_1 a1_1) (mx a0_1 a1_1)).bind fun t246=>(some t246)) else (some false))) else (some false))
theorem impl_isOn.calls (a0_0:Int) (a0_1:Int) (a1_0:Int) (a1_1:Int) (a2_0:Int) (a2_1:Int) (r:Bool) (w:World) (h:impl_isOn.f a0_0 a0_1 a1_0 a1_1 a2_0 a2_1=some r) :
 Calls Try.prog 76 #[.agg #[.int .i64 a0_0,.int .i64 a0_1],.agg #[.int .i64 a1_0,.int .i64 a1_1],.agg #[.int .i64 a2_0,.int .i64 a2_1]] w fun e w'=>e=.returned (.bool r)∧Below w.heap.size w w':=by
 have hu40:=Try.underlying40
 have HB:=Aside0.mk (Below.refl w.heap.size w)
 have H:((impl_cross.f a0_0 a0_1 a1_0 a1_1 a2_0 a2_1).bind fun t244=>(if t244=0 then ((impl_within.f a2_0 (mn a0_0 a1_0) (mx a0_0 a1_0)).bind fun t245=>(if t245=true then ((impl_within.f a2_1 (mn a0_1 a1_1) (mx a0_1 a1_1)).bind fun t246=>(some t246)) else (some false))) else (some false)))=some r:=h
 clear h
 replace H:=Option.bind_eq_some_iff.mp H
 obtain ⟨t244,A40,H⟩:=H
 have A4:=Aside0.mk A40
 clear A40
 by_cases c5:t244=0
 ·rw [if_pos c5] at H
  have c5b0:(t244 == 0)=true:=beq_iff_eq.mpr c5
  have c5b1:(t244 != 0)=false:=bne_eq_false_iff_eq.mpr c5
  clear c5
  obtain ⟨ji6,hji6⟩ : ∃ j_:Int,(mn a0_0 a1_0)=j_:=⟨_,rfl⟩
  replace H:((impl_within.f a2_0 (ji6) (mx a0_0 a1_0)).bind fun t245=>(if t245=true then ((impl_within.f a2_1 (mn a0_1 a1_1) (mx a0_1 a1_1)).bind fun t246=>(some t246)) else (some false)))=some r:=by first|(rw [hji6] at H;exact H)|(simp only [hji6] at H ⊢;exact H)
  (try rw [hji6] at A4)
  have hji6_:(if a1_0 < a0_0 then a1_0 else a0_0)=ji6:=hji6
  obtain ⟨ji7,hji7⟩ : ∃ j_:Int,(mx a0_0 a1_0)=j_:=⟨_,rfl⟩
  replace H:((impl_within.f a2_0 (ji6) (ji7)).bind fun t245=>(if t245=true then ((impl_within.f a2_1 (mn a0_1 a1_1) (mx a0_1 a1_1)).bind fun t246=>(some t246)) else (some false)))=some r:=by first|(rw [hji7] at H;exact H)|(simp only [hji7] at H ⊢;exact H)
  (try rw [hji7] at A4)
  have hji7_:(if a0_0 < a1_0 then a1_0 else a0_0)=ji7:=hji7
  replace H:=Option.bind_eq_some_iff.mp H
  obtain ⟨t245,A80,H⟩:=H
  have A8:=Aside0.mk A80
  clear A80
  by_cases c9:t245=true
  ·subst c9
   rw [if_pos rfl] at H
   obtain ⟨ji10,hji10⟩ : ∃ j_:Int,(mn a0_1 a1_1)=j_:=⟨_,rfl⟩
   replace H:((impl_within.f a2_1 (ji10) (mx a0_1 a1_1)).bind fun t246=>(some t246))=some r:=by first|(rw [hji10] at H;exact H)|(simp only [hji10] at H ⊢;exact H)
   (try rw [hji10] at A4)
   (try rw [hji10] at A8)
   have hji10_:(if a1_1 < a0_1 then a1_1 else a0_1)=ji10:=hji10
   obtain ⟨ji11,hji11⟩ : ∃ j_:Int,(mx a0_1 a1_1)=j_:=⟨_,rfl⟩
   replace H:((impl_within.f a2_1 (ji10) (ji11)).bind fun t246=>(some t246))=some r:=by first|(rw [hji11] at H;exact H)|(simp only [hji11] at H ⊢;exact H)
   (try rw [hji11] at A4)
   (try rw [hji11] at A8)
   have hji11_:(if a0_1 < a1_1 then a1_1 else a0_1)=ji11:=hji11
   replace H:=Option.bind_eq_some_iff.mp H
   obtain ⟨t246,A120,H⟩:=H
   have A12:=Aside0.mk A120
   clear A120
   obtain rfl:=Option.some.inj H
   go_enter Try.func76,Try.ntmps76
   go_wp2_with (first|((with_reducible refine gate_dst (N:=3) rfl ?_);(try (refine gate_guard (by rfl) ?_;dsimp only));refine bE 3 #[.int .i64 a0_0,.int .i64 a0_1] 40 ?_;intro gb241 hg w13 hbox hb;have n0_:=Aside0.mk (below_step (by repeat (with_reducible first|exact HB.out|apply bA|apply bN|apply bD)) hb);have n1_:=Aside0.mk (hbox);have n2_:=Aside0.mk ((by rw [hg];exact (below_size (by repeat (with_reducible first|exact HB.out|apply bA|apply bN|apply bD))):w.heap.size≤gb241));have n3_:=Aside0.mk ((by rw [hg];exact (below_size (by repeat (with_reducible first|exact HB.out|apply bA|apply bN|apply bD))):w.heap.size≤gb241));clear HB;have HB:=n0_;have BK241:=n1_;have GW241:=n2_;have GE241:=n3_;clear n0_ n1_ n2_ n3_;clear hb hbox hg)|((with_reducible refine gate_dst (N:=4) rfl ?_);(try (refine gate_guard (by rfl) ?_;dsimp only));refine bE 4 #[.int .i64 a1_0,.int .i64 a1_1] 40 ?_;intro gb242 hg w14 hbox hb;have n0_:=Aside0.mk (blk_below (by repeat (with_reducible first|exact BK241.out|apply kN|apply kD|apply kA)) hb);have n1_:=Aside0.mk (below_step (by repeat (first|(with_reducible first|exact HB.out|apply bA|apply bN|apply bD|refine bS ?_ GE241.out)|exact HB.out)) hb);have n2_:=Aside0.mk (hbox);have n3_:=Aside0.mk ((by rw [hg];exact (below_size (by repeat (first|(with_reducible first|exact HB.out|apply bA|apply bN|apply bD|refine bS ?_ GE241.out)|exact HB.out))):w.heap.size≤gb242));have n4_:=Aside0.mk ((by rw [hg];exact (below_size (by repeat (first|(with_reducible first|exact HB.out|apply bA|apply bN|apply bD|refine bS ?_ GE241.out)|exact HB.out))):w.heap.size≤gb242));have n5_:=Aside0.mk ((by rw [hg];exact Nat.ne_of_lt (blk_lt (by repeat (with_reducible first|exact BK241.out|apply kN|apply kD|apply kA))):gb241≠gb242));have n6_:=Aside0.mk ((by rw [hg];exact Nat.ne_of_gt (blk_lt (by repeat (with_reducible first|exact BK241.out|apply kN|apply kD|apply kA))):gb242≠gb241));clear BK241;clear HB;have BK241:=n0_;have HB:=n1_;have BK242:=n2_;have GW242:=n3_;have GE242:=n4_;have NB241_242:=n5_;have NB242_241:=n6_;clear n0_ n1_ n2_ n3_ n4_ n5_ n6_;clear hb hbox hg)|((with_reducible refine gate_dst (N:=5) rfl ?_);(try (refine gate_guard (by rfl) ?_;dsimp only));refine bE 5 #[.int .i64 a2_0,.int .i64 a2_1] 40 ?_;intro gb243 hg w15 hbox hb;have n0_:=Aside0.mk (blk_below (by repeat (with_reducible first|exact BK241.out|apply kN|apply kD|apply kA)) hb);have n1_:=Aside0.mk (blk_below (by repeat (with_reducible first|exact BK242.out|apply kN|apply kD|apply kA)) hb);have n2_:=Aside0.mk (below_step (by repeat (first|(with_reducible first|exact HB.out|apply bA|apply bN|apply bD|refine bS ?_ GE241.out|refine bS ?_ GE242.out)|exact HB.out)) hb);have n3_:=Aside0.mk (hbox);have n4_:=Aside0.mk ((by rw [hg];exact (below_size (by repeat (first|(with_reducible first|exact HB.out|apply bA|apply bN|apply bD|refine bS ?_ GE241.out|refine bS ?_ GE242.out)|exact HB.out))):w.heap.size≤gb243));have n5_:=Aside0.mk ((by rw [hg];exact (below_size (by repeat (first|(with_reducible first|exact HB.out|apply bA|apply bN|apply bD|refine bS ?_ GE241.out|refine bS ?_ GE242.out)|exact HB.out))):w.heap.size≤gb243));have n6_:=Aside0.mk ((by rw [hg];exact Nat.ne_of_lt (blk_lt (by repeat (with_reducible first|exact BK241.out|apply kN|apply kD|apply kA))):gb241≠gb243));have n7_:=Aside0.mk ((by rw [hg];exact Nat.ne_of_gt (blk_lt (by repeat (with_reducible first|exact BK241.out|apply kN|apply kD|apply kA))):gb243≠gb241));have n8_:=Aside0.mk ((by rw [hg];exact Nat.ne_of_lt (blk_lt (by repeat (with_reducible first|exact BK242.out|apply kN|apply kD|apply kA))):gb242≠gb243));have n9_:=Aside0.mk ((by rw [hg];exact Nat.ne_of_gt (blk_lt (by repeat (with_reducible first|exact BK242.out|apply kN|apply kD|apply kA))):gb243≠gb242));clear BK241;clear BK242;clear HB;have BK241:=n0_;have BK242:=n1_;have HB:=n2_;have BK243:=n3_;have GW243:=n4_;have GE243:=n5_;have NB241_243:=n6_;have NB243_241:=n7_;have NB242_243:=n8_;have NB243_242:=n9_;clear n0_ n1_ n2_ n3_ n4_ n5_ n6_ n7_ n8_ n9_;clear hb hbox hg;have hnb16:=NB241_242.out;have hnc16:=NB242_241.out;have hnb17:=NB241_243.out;have hnc17:=NB243_241.out;have hcz18_0:w15.cell? ⟨gb241,0,none⟩=some (.int .i64 a0_0):=(blk_cell BK241.out 0).trans rfl;have hcz18_1:w15.cell? ⟨gb241,1,none⟩=some (.int .i64 a0_1):=(blk_cell BK241.out 1).trans rfl;have hfz18_0:=blk_frozen BK241.out 0;have hfz18_1:=blk_frozen BK241.out 1;have hnb19:=NB242_243.out;have hnc19:=NB243_242.out;have hcz20_0:w15.cell? ⟨gb242,0,none⟩=some (.int .i64 a1_0):=(blk_cell BK242.out 0).trans rfl;have hcz20_1:w15.cell? ⟨gb242,1,none⟩=some (.int .i64 a1_1):=(blk_cell BK242.out 1).trans rfl;have hfz20_0:=blk_frozen BK242.out 0;have hfz20_1:=blk_frozen BK242.out 1;have hcz21_0:w15.cell? ⟨gb243,0,none⟩=some (.int .i64 a2_0):=(blk_cell BK243.out 0).trans rfl;have hcz21_1:w15.cell? ⟨gb243,1,none⟩=some (.int .i64 a2_1):=(blk_cell BK243.out 1).trans rfl;have hfz21_0:=blk_frozen BK243.out 0;have hfz21_1:=blk_frozen BK243.out 1)|((with_reducible refine gate_callee (f:=86) rfl ?_);refine goesL_ (some 10) rfl rfl Try.func86 (by kernel_rfl) rfl #[.agg #[.int .i64 a0_0,.int .i64 a0_1],.agg #[.int .i64 a1_0,.int .i64 a1_1],.agg #[.int .i64 a2_0,.int .i64 a2_1]] rfl (by (try simp only [List.map_toArray,List.map_cons,List.map_nil]);first|done|rfl) ?_;(with_reducible refine (impl_cross.calls a0_0 a0_1 a1_0 a1_1 a2_0 a2_1 t244 _ A4.out).mono ?_);rintro e w22 ⟨rfl,hb⟩;refine ⟨_,rfl,?_⟩;have n0_:=Aside0.mk (blk_below (by repeat (with_reducible first|exact BK241.out|apply kN|apply kD|apply kA)) hb);have n1_:=Aside0.mk (blk_below (by repeat (with_reducible first|exact BK242.out|apply kN|apply kD|apply kA)) hb);have n2_:=Aside0.mk (blk_below (by repeat (with_reducible first|exact BK243.out|apply kN|apply kD|apply kA)) hb);have n3_:=Aside0.mk (below_step (by repeat (first|(with_reducible first|exact HB.out|apply bA|apply bN|apply bD|refine bS ?_ GE241.out|refine bS ?_ GE242.out|refine bS ?_ GE243.out)|exact HB.out)) hb);clear BK241;clear BK242;clear BK243;clear HB;have BK241:=n0_;have BK242:=n1_;have BK243:=n2_;have HB:=n3_;clear n0_ n1_ n2_ n3_;(try clear hb);have hcz23_0:w22.cell? ⟨gb243,0,none⟩=some (.int .i64 a2_0):=(blk_cell BK243.out 0).trans rfl;have hcz23_1:w22.cell? ⟨gb243,1,none⟩=some (.int .i64 a2_1):=(blk_cell BK243.out 1).trans rfl;have hfz23_0:=blk_frozen BK243.out 0;have hfz23_1:=blk_frozen BK243.out 1;have hcz24_0:w22.cell? ⟨gb241,0,none⟩=some (.int .i64 a0_0):=(blk_cell BK241.out 0).trans rfl;have hcz24_1:w22.cell? ⟨gb241,1,none⟩=some (.int .i64 a0_1):=(blk_cell BK241.out 1).trans rfl;have hfz24_0:=blk_frozen BK241.out 0;have hfz24_1:=blk_frozen BK241.out 1;have hcz25_0:w22.cell? ⟨gb242,0,none⟩=some (.int .i64 a1_0):=(blk_cell BK242.out 0).trans rfl;have hcz25_1:w22.cell? ⟨gb242,1,none⟩=some (.int .i64 a1_1):=(blk_cell BK242.out 1).trans rfl;have hfz25_0:=blk_frozen BK242.out 0;have hfz25_1:=blk_frozen BK242.out 1)|(go_at_call 59;(with_reducible refine (impl_within.calls a2_0 ji6 ji7 true _ A8.out).mono ?_);rintro e w' ⟨rfl,⟨nd,rfl⟩⟩)|(go_at_call 59;(with_reducible refine (impl_within.calls a2_1 ji10 ji11 t246 _ A12.out).mono ?_);rintro e w' ⟨rfl,⟨nd,rfl⟩⟩))
   go_ret
   exact ⟨by first|rfl|(simp [errW_none,errW_some] <;> rfl)|(simp only [← hji6,← hji7,← hji10,← hji11];first|rfl|(simp [errW_none,errW_some] <;> rfl))|(simp [*,errW_none,errW_some] <;> rfl),by repeat (first|(with_reducible first|exact HB.out|apply bA|apply bN|apply bD|refine bS ?_ GE241.out|refine bS ?_ GE242.out|refine bS ?_ GE243.out)|exact HB.out)⟩
  ·replace c9:=Bool.eq_false_iff.mpr c9
   subst c9
   rw [if_neg (show ¬ (false=true) by decide)] at H
   obtain rfl:=Option.some.inj H
   go_enter Try.func76,Try.ntmps76
   go_wp2_with (first|((with_reducible refine gate_dst (N:=3) rfl ?_);(try (refine gate_guard (by rfl) ?_;dsimp only));refine bE 3 #[.int .i64 a0_0,.int .i64 a0_1] 40 ?_;intro gb241 hg w26 hbox hb;have n0_:=Aside0.mk (below_step (by repeat (with_reducible first|exact HB.out|apply bA|apply bN|apply bD)) hb);have n1_:=Aside0.mk (hbox);have n2_:=Aside0.mk ((by rw [hg];exact (below_size (by repeat (with_reducible first|exact HB.out|apply bA|apply bN|apply bD))):w.heap.size≤gb241));have n3_:=Aside0.mk ((by rw [hg];exact (below_size (by repeat (with_reducible first|exact HB.out|apply bA|apply bN|apply bD))):w.heap.size≤gb241));clear HB;have HB:=n0_;have BK241:=n1_;have GW241:=n2_;have GE241:=n3_;clear n0_ n1_ n2_ n3_;clear hb hbox hg)|((with_reducible refine gate_dst (N:=4) rfl ?_);(try (refine gate_guard (by rfl) ?_;dsimp only));refine bE 4 #[.int .i64 a1_0,.int .i64 a1_1] 40 ?_;intro gb242 hg w27 hbox hb;have n0_:=Aside0.mk (blk_below (by repeat (with_reducible first|exact BK241.out|apply kN|apply kD|apply kA)) hb);have n1_:=Aside0.mk (below_step (by repeat (first|(with_reducible first|exact HB.out|apply bA|apply bN|apply bD|refine bS ?_ GE241.out)|exact HB.out)) hb);have n2_:=Aside0.mk (hbox);have n3_:=Aside0.mk ((by rw [hg];exact (below_size (by repeat (first|(with_reducible first|exact HB.out|apply bA|apply bN|apply bD|refine bS ?_ GE241.out)|exact HB.out))):w.heap.size≤gb242));have n4_:=Aside0.mk ((by rw [hg];exact (below_size (by repeat (first|(with_reducible first|exact HB.out|apply bA|apply bN|apply bD|refine bS ?_ GE241.out)|exact HB.out))):w.heap.size≤gb242));have n5_:=Aside0.mk ((by rw [hg];exact Nat.ne_of_lt (blk_lt (by repeat (with_reducible first|exact BK241.out|apply kN|apply kD|apply kA))):gb241≠gb242));have n6_:=Aside0.mk ((by rw [hg];exact Nat.ne_of_gt (blk_lt (by repeat (with_reducible first|exact BK241.out|apply kN|apply kD|apply kA))):gb242≠gb241));clear BK241;clear HB;have BK241:=n0_;have HB:=n1_;have BK242:=n2_;have GW242:=n3_;have GE242:=n4_;have NB241_242:=n5_;have NB242_241:=n6_;clear n0_ n1_ n2_ n3_ n4_ n5_ n6_;clear hb hbox hg)|((with_reducible refine gate_dst (N:=5) rfl ?_);(try (refine gate_guard (by rfl) ?_;dsimp only));refine bE 5 #[.int .i64 a2_0,.int .i64 a2_1] 40 ?_;intro gb243 hg w28 hbox hb;have n0_:=Aside0.mk (blk_below (by repeat (with_reducible first|exact BK241.out|apply kN|apply kD|apply kA)) hb);have n1_:=Aside0.mk (blk_below (by repeat (with_reducible first|exact BK242.out|apply kN|apply kD|apply kA)) hb);have n2_:=Aside0.mk (below_step (by repeat (first|(with_reducible first|exact HB.out|apply bA|apply bN|apply bD|refine bS ?_ GE241.out|refine bS ?_ GE242.out)|exact HB.out)) hb);have n3_:=Aside0.mk (hbox);have n4_:=Aside0.mk ((by rw [hg];exact (below_size (by repeat (first|(with_reducible first|exact HB.out|apply bA|apply bN|apply bD|refine bS ?_ GE241.out|refine bS ?_ GE242.out)|exact HB.out))):w.heap.size≤gb243));have n5_:=Aside0.mk ((by rw [hg];exact (below_size (by repeat (first|(with_reducible first|exact HB.out|apply bA|apply bN|apply bD|refine bS ?_ GE241.out|refine bS ?_ GE242.out)|exact HB.out))):w.heap.size≤gb243));have n6_:=Aside0.mk ((by rw [hg];exact Nat.ne_of_lt (blk_lt (by repeat (with_reducible first|exact BK241.out|apply kN|apply kD|apply kA))):gb241≠gb243));have n7_:=Aside0.mk ((by rw [hg];exact Nat.ne_of_gt (blk_lt (by repeat (with_reducible first|exact BK241.out|apply kN|apply kD|apply kA))):gb243≠gb241));have n8_:=Aside0.mk ((by rw [hg];exact Nat.ne_of_lt (blk_lt (by repeat (with_reducible first|exact BK242.out|apply kN|apply kD|apply kA))):gb242≠gb243));have n9_:=Aside0.mk ((by rw [hg];exact Nat.ne_of_gt (blk_lt (by repeat (with_reducible first|exact BK242.out|apply kN|apply kD|apply kA))):gb243≠gb242));clear BK241;clear BK242;clear HB;have BK241:=n0_;have BK242:=n1_;have HB:=n2_;have BK243:=n3_;have GW243:=n4_;have GE243:=n5_;have NB241_243:=n6_;have NB243_241:=n7_;have NB242_243:=n8_;have NB243_242:=n9_;clear n0_ n1_ n2_ n3_ n4_ n5_ n6_ n7_ n8_ n9_;clear hb hbox hg;have hnb29:=NB241_242.out;have hnc29:=NB242_241.out;have hnb30:=NB241_243.out;have hnc30:=NB243_241.out;have hcz31_0:w28.cell? ⟨gb241,0,none⟩=some (.int .i64 a0_0):=(blk_cell BK241.out 0).trans rfl;have hcz31_1:w28.cell? ⟨gb241,1,none⟩=some (.int .i64 a0_1):=(blk_cell BK241.out 1).trans rfl;have hfz31_0:=blk_frozen BK241.out 0;have hfz31_1:=blk_frozen BK241.out 1;have hnb32:=NB242_243.out;have hnc32:=NB243_242.out;have hcz33_0:w28.cell? ⟨gb242,0,none⟩=some (.int .i64 a1_0):=(blk_cell BK242.out 0).trans rfl;have hcz33_1:w28.cell? ⟨gb242,1,none⟩=some (.int .i64 a1_1):=(blk_cell BK242.out 1).trans rfl;have hfz33_0:=blk_frozen BK242.out 0;have hfz33_1:=blk_frozen BK242.out 1;have hcz34_0:w28.cell? ⟨gb243,0,none⟩=some (.int .i64 a2_0):=(blk_cell BK243.out 0).trans rfl;have hcz34_1:w28.cell? ⟨gb243,1,none⟩=some (.int .i64 a2_1):=(blk_cell BK243.out 1).trans rfl;have hfz34_0:=blk_frozen BK243.out 0;have hfz34_1:=blk_frozen BK243.out 1)|((with_reducible refine gate_callee (f:=86) rfl ?_);refine goesL_ (some 10) rfl rfl Try.func86 (by kernel_rfl) rfl #[.agg #[.int .i64 a0_0,.int .i64 a0_1],.agg #[.int .i64 a1_0,.int .i64 a1_1],.agg #[.int .i64 a2_0,.int .i64 a2_1]] rfl (by (try simp only [List.map_toArray,List.map_cons,List.map_nil]);first|done|rfl) ?_;(with_reducible refine (impl_cross.calls a0_0 a0_1 a1_0 a1_1 a2_0 a2_1 t244 _ A4.out).mono ?_);rintro e w35 ⟨rfl,hb⟩;refine ⟨_,rfl,?_⟩;have n0_:=Aside0.mk (blk_below (by repeat (with_reducible first|exact BK241.out|apply kN|apply kD|apply kA)) hb);have n1_:=Aside0.mk (blk_below (by repeat (with_reducible first|exact BK242.out|apply kN|apply kD|apply kA)) hb);have n2_:=Aside0.mk (blk_below (by repeat (with_reducible first|exact BK243.out|apply kN|apply kD|apply kA)) hb);have n3_:=Aside0.mk (below_step (by repeat (first|(with_reducible first|exact HB.out|apply bA|apply bN|apply bD|refine bS ?_ GE241.out|refine bS ?_ GE242.out|refine bS ?_ GE243.out)|exact HB.out)) hb);clear BK241;clear BK242;clear BK243;clear HB;have BK241:=n0_;have BK242:=n1_;have BK243:=n2_;have HB:=n3_;clear n0_ n1_ n2_ n3_;(try clear hb);have hcz36_0:w35.cell? ⟨gb243,0,none⟩=some (.int .i64 a2_0):=(blk_cell BK243.out 0).trans rfl;have hcz36_1:w35.cell? ⟨gb243,1,none⟩=some (.int .i64 a2_1):=(blk_cell BK243.out 1).trans rfl;have hfz36_0:=blk_frozen BK243.out 0;have hfz36_1:=blk_frozen BK243.out 1;have hcz37_0:w35.cell? ⟨gb241,0,none⟩=some (.int .i64 a0_0):=(blk_cell BK241.out 0).trans rfl;have hcz37_1:w35.cell? ⟨gb241,1,none⟩=some (.int .i64 a0_1):=(blk_cell BK241.out 1).trans rfl;have hfz37_0:=blk_frozen BK241.out 0;have hfz37_1:=blk_frozen BK241.out 1;have hcz38_0:w35.cell? ⟨gb242,0,none⟩=some (.int .i64 a1_0):=(blk_cell BK242.out 0).trans rfl;have hcz38_1:w35.cell? ⟨gb242,1,none⟩=some (.int .i64 a1_1):=(blk_cell BK242.out 1).trans rfl;have hfz38_0:=blk_frozen BK242.out 0;have hfz38_1:=blk_frozen BK242.out 1)|(go_at_call 59;(with_reducible refine (impl_within.calls a2_0 ji6 ji7 false _ A8.out).mono ?_);rintro e w' ⟨rfl,⟨nd,rfl⟩⟩))
   go_ret
   exact ⟨by first|rfl|(simp [errW_none,errW_some] <;> rfl)|(simp only [← hji6,← hji7];first|rfl|(simp [errW_none,errW_some] <;> rfl))|(simp [*,errW_none,errW_some] <;> rfl),by repeat (first|(with_reducible first|exact HB.out|apply bA|apply bN|apply bD|refine bS ?_ GE241.out|refine bS ?_ GE242.out|refine bS ?_ GE243.out)|exact HB.out)⟩
 ·rw [if_neg c5] at H
  have c5b0:(t244 == 0)=false:=beq_eq_false_iff_ne.mpr c5
  have c5b1:(t244 != 0)=true:=bne_iff_ne.mpr c5
  obtain rfl:=Option.some.inj H
  go_enter Try.func76,Try.ntmps76
  go_wp2_with (first|((with_reducible refine gate_dst (N:=3) rfl ?_);(try (refine gate_guard (by rfl) ?_;dsimp only));refine bE 3 #[.int .i64 a0_0,.int .i64 a0_1] 40 ?_;intro gb241 hg w39 hbox hb;have n0_:=Aside0.mk (below_step (by repeat (with_reducible first|exact HB.out|apply bA|apply bN|apply bD)) hb);have n1_:=Aside0.mk (hbox);have n2_:=Aside0.mk ((by rw [hg];exact (below_size (by repeat (with_reducible first|exact HB.out|apply bA|apply bN|apply bD))):w.heap.size≤gb241));have n3_:=Aside0.mk ((by rw [hg];exact (below_size (by repeat (with_reducible first|exact HB.out|apply bA|apply bN|apply bD))):w.heap.size≤gb241));clear HB;have HB:=n0_;have BK241:=n1_;have GW241:=n2_;have GE241:=n3_;clear n0_ n1_ n2_ n3_;clear hb hbox hg)|((with_reducible refine gate_dst (N:=4) rfl ?_);(try (refine gate_guard (by rfl) ?_;dsimp only));refine bE 4 #[.int .i64 a1_0,.int .i64 a1_1] 40 ?_;intro gb242 hg w40 hbox hb;have n0_:=Aside0.mk (blk_below (by repeat (with_reducible first|exact BK241.out|apply kN|apply kD|apply kA)) hb);have n1_:=Aside0.mk (below_step (by repeat (first|(with_reducible first|exact HB.out|apply bA|apply bN|apply bD|refine bS ?_ GE241.out)|exact HB.out)) hb);have n2_:=Aside0.mk (hbox);have n3_:=Aside0.mk ((by rw [hg];exact (below_size (by repeat (first|(with_reducible first|exact HB.out|apply bA|apply bN|apply bD|refine bS ?_ GE241.out)|exact HB.out))):w.heap.size≤gb242));have n4_:=Aside0.mk ((by rw [hg];exact (below_size (by repeat (first|(with_reducible first|exact HB.out|apply bA|apply bN|apply bD|refine bS ?_ GE241.out)|exact HB.out))):w.heap.size≤gb242));have n5_:=Aside0.mk ((by rw [hg];exact Nat.ne_of_lt (blk_lt (by repeat (with_reducible first|exact BK241.out|apply kN|apply kD|apply kA))):gb241≠gb242));have n6_:=Aside0.mk ((by rw [hg];exact Nat.ne_of_gt (blk_lt (by repeat (with_reducible first|exact BK241.out|apply kN|apply kD|apply kA))):gb242≠gb241));clear BK241;clear HB;have BK241:=n0_;have HB:=n1_;have BK242:=n2_;have GW242:=n3_;have GE242:=n4_;have NB241_242:=n5_;have NB242_241:=n6_;clear n0_ n1_ n2_ n3_ n4_ n5_ n6_;clear hb hbox hg)|((with_reducible refine gate_dst (N:=5) rfl ?_);(try (refine gate_guard (by rfl) ?_;dsimp only));refine bE 5 #[.int .i64 a2_0,.int .i64 a2_1] 40 ?_;intro gb243 hg w41 hbox hb;have n0_:=Aside0.mk (blk_below (by repeat (with_reducible first|exact BK241.out|apply kN|apply kD|apply kA)) hb);have n1_:=Aside0.mk (blk_below (by repeat (with_reducible first|exact BK242.out|apply kN|apply kD|apply kA)) hb);have n2_:=Aside0.mk (below_step (by repeat (first|(with_reducible first|exact HB.out|apply bA|apply bN|apply bD|refine bS ?_ GE241.out|refine bS ?_ GE242.out)|exact HB.out)) hb);have n3_:=Aside0.mk (hbox);have n4_:=Aside0.mk ((by rw [hg];exact (below_size (by repeat (first|(with_reducible first|exact HB.out|apply bA|apply bN|apply bD|refine bS ?_ GE241.out|refine bS ?_ GE242.out)|exact HB.out))):w.heap.size≤gb243));have n5_:=Aside0.mk ((by rw [hg];exact (below_size (by repeat (first|(with_reducible first|exact HB.out|apply bA|apply bN|apply bD|refine bS ?_ GE241.out|refine bS ?_ GE242.out)|exact HB.out))):w.heap.size≤gb243));have n6_:=Aside0.mk ((by rw [hg];exact Nat.ne_of_lt (blk_lt (by repeat (with_reducible first|exact BK241.out|apply kN|apply kD|apply kA))):gb241≠gb243));have n7_:=Aside0.mk ((by rw [hg];exact Nat.ne_of_gt (blk_lt (by repeat (with_reducible first|exact BK241.out|apply kN|apply kD|apply kA))):gb243≠gb241));have n8_:=Aside0.mk ((by rw [hg];exact Nat.ne_of_lt (blk_lt (by repeat (with_reducible first|exact BK242.out|apply kN|apply kD|apply kA))):gb242≠gb243));have n9_:=Aside0.mk ((by rw [hg];exact Nat.ne_of_gt (blk_lt (by repeat (with_reducible first|exact BK242.out|apply kN|apply kD|apply kA))):gb243≠gb242));clear BK241;clear BK242;clear HB;have BK241:=n0_;have BK242:=n1_;have HB:=n2_;have BK243:=n3_;have GW243:=n4_;have GE243:=n5_;have NB241_243:=n6_;have NB243_241:=n7_;have NB242_243:=n8_;have NB243_242:=n9_;clear n0_ n1_ n2_ n3_ n4_ n5_ n6_ n7_ n8_ n9_;clear hb hbox hg;have hnb42:=NB241_242.out;have hnc42:=NB242_241.out;have hnb43:=NB241_243.out;have hnc43:=NB243_241.out;have hcz44_0:w41.cell? ⟨gb241,0,none⟩=some (.int .i64 a0_0):=(blk_cell BK241.out 0).trans rfl;have hcz44_1:w41.cell? ⟨gb241,1,none⟩=some (.int .i64 a0_1):=(blk_cell BK241.out 1).trans rfl;have hfz44_0:=blk_frozen BK241.out 0;have hfz44_1:=blk_frozen BK241.out 1;have hnb45:=NB242_243.out;have hnc45:=NB243_242.out;have hcz46_0:w41.cell? ⟨gb242,0,none⟩=some (.int .i64 a1_0):=(blk_cell BK242.out 0).trans rfl;have hcz46_1:w41.cell? ⟨gb242,1,none⟩=some (.int .i64 a1_1):=(blk_cell BK242.out 1).trans rfl;have hfz46_0:=blk_frozen BK242.out 0;have hfz46_1:=blk_frozen BK242.out 1;have hcz47_0:w41.cell? ⟨gb243,0,none⟩=some (.int .i64 a2_0):=(blk_cell BK243.out 0).trans rfl;have hcz47_1:w41.cell? ⟨gb243,1,none⟩=some (.int .i64 a2_1):=(blk_cell BK243.out 1).trans rfl;have hfz47_0:=blk_frozen BK243.out 0;have hfz47_1:=blk_frozen BK243.out 1)|((with_reducible refine gate_callee (f:=86) rfl ?_);refine goesL_ (some 10) rfl rfl Try.func86 (by kernel_rfl) rfl #[.agg #[.int .i64 a0_0,.int .i64 a0_1],.agg #[.int .i64 a1_0,.int .i64 a1_1],.agg #[.int .i64 a2_0,.int .i64 a2_1]] rfl (by (try simp only [List.map_toArray,List.map_cons,List.map_nil]);first|done|rfl) ?_;(with_reducible refine (impl_cross.calls a0_0 a0_1 a1_0 a1_1 a2_0 a2_1 t244 _ A4.out).mono ?_);rintro e w48 ⟨rfl,hb⟩;refine ⟨_,rfl,?_⟩;have n0_:=Aside0.mk (blk_below (by repeat (with_reducible first|exact BK241.out|apply kN|apply kD|apply kA)) hb);have n1_:=Aside0.mk (blk_below (by repeat (with_reducible first|exact BK242.out|apply kN|apply kD|apply kA)) hb);have n2_:=Aside0.mk (blk_below (by repeat (with_reducible first|exact BK243.out|apply kN|apply kD|apply kA)) hb);have n3_:=Aside0.mk (below_step (by repeat (first|(with_reducible first|exact HB.out|apply bA|apply bN|apply bD|refine bS ?_ GE241.out|refine bS ?_ GE242.out|refine bS ?_ GE243.out)|exact HB.out)) hb);clear BK241;clear BK242;clear BK243;clear HB;have BK241:=n0_;have BK242:=n1_;have BK243:=n2_;have HB:=n3_;clear n0_ n1_ n2_ n3_;(try clear hb)))
  go_ret
  exact ⟨by first|rfl|(simp [errW_none,errW_some] <;> rfl)|(simp [*,errW_none,errW_some] <;> rfl),by repeat (first|(with_reducible first|exact HB.out|apply bA|apply bN|apply bD|refine bS ?_ GE241.out|refine bS ?_ GE242.out|refine bS ?_ GE243.out)|exact HB.out)⟩
/-- Blocks outside of S stay as they are. -/
structure Keeps (S:Nat→Prop) (w w':World):Prop where
 os:w'.os=w.os
 tape:w'.tape=w.tape
 output:w'.output=w.output
 size:w.heap.size≤w'.heap.size
 block:∀ k,k < w.heap.size→¬ S k→w'.heap[k]? = w.heap[k]?
theorem Keeps.refl (S:Nat→Prop) (w:World):Keeps S w w:=⟨rfl,rfl,rfl,Nat.le_refl _,fun _ _ _=>rfl⟩
theorem Keeps.trans {S:Nat→Prop} {a b c:World} (h:Keeps S a b) (k:Keeps S b c):Keeps S a c :=
 ⟨k.os.trans h.os,k.tape.trans h.tape,k.output.trans h.output,Nat.le_trans h.size k.size,fun i hi hs=>(k.block i (Nat.lt_of_lt_of_le hi h.size) hs).trans (h.block i hi hs)⟩
theorem Keeps.mono {S S':Nat→Prop} {a b:World} (h:Keeps S a b) (hs:∀ k,S k→S' k):Keeps S' a b:=⟨h.os,h.tape,h.output,h.size,fun i hi g=>h.block i hi (fun q=>g (hs i q))⟩
theorem Keeps.of_below {S:Nat→Prop} {a b:World} (h:Below a.heap.size a b):Keeps S a b:=⟨h.os,h.tape,h.output,h.size,fun i hi _=>h.block i hi⟩
theorem Keeps.of_grown {a b:World} {row:Option Nat} (h:a.grownBy b row):Keeps (fun k=>some k=row) a b:=⟨h.os,h.tape,h.output,h.size,fun i hi g=>h.block i hi g⟩
theorem Keeps.of_set {w:World} {b j:Nat} {v:Value}:Keeps (fun k=>k=b) w (w.setCell ⟨b,j,none⟩ v):=by
 exact ⟨rfl,rfl,rfl,by simp [World.setCell],fun k _ g=>Below.heap_setCell _ _ _ _ g⟩
theorem Keeps.cell {S:Nat→Prop} {w w':World} (h:Keeps S w w') {a:Addr} {v:Value} (hc:w.cell? a=some v) (ha:¬ S a.block):w'.cell? a=some v:=by
 rw [World.cell?_of_block (h.block a.block (World.block_lt_of_cell? w a hc) ha)];exact hc
theorem Keeps.frozen {S:Nat→Prop} {w w':World} (h:Keeps S w w') {a:Addr} {v:Value} (hc:w.cell? a=some v) (ha:¬ S a.block) {f:Bool} (hf:w.frozen? a=f):w'.frozen? a=f:=by
 rw [World.frozen?_of_block (h.block a.block (World.block_lt_of_cell? w a hc) ha)];exact hf
theorem keeps_below {w0 W W':World} {X:Nat→Prop} (hb:Below w0.heap.size w0 W) (hk:Keeps X W W') (hx:∀ k,X k→w0.heap.size≤k):Below w0.heap.size w0 W' :=
 hb.trans ⟨hk.os,hk.tape,hk.output,hk.size,fun k h=>hk.block k (Nat.lt_of_lt_of_le h hb.size) (fun g=>by have:=hx k g;omega)⟩
def meet1.l0:Nat→Int→Int→List S40→Int→Option Bool
 | 0,_,_,_,_=>none
 | k+1,a0,a1,l,i=>if i < (l.length:Int) then (if 0≤i then (if (a0 == (rd_T40 l i).f0 && a1 == (rd_T40 l i).f1)=true then some true else meet1.l0 k a0 a1 l (wrap64 (i+1))) else none) else some false
theorem meet1.calls (k:Nat) (a0_0 a0_1:Int) (b:Bool) (g:Nat) (A:Option Addr) (cA:Nat) (l:List S40) (ok:Nat→Prop) (w0 w:World) (hB:Below w0.heap.size w0 w) (hgb:w0.heap.size≤g) (hx:w.cell? ⟨g,0,none⟩=some (.slice A l.length cA)) (hf:w.frozen? ⟨g,0,none⟩=false)
 (hok:∀ k_,w.heap.size≤k_→ok k_) (hng:¬ ok g) (ho:Kd.R k40 40 w w0.heap.size ok (.slice A l.length cA) l) (hl:l.length < 8796093022208) (h:meet1.l0 k a0_0 a0_1 l 0=some b) :
 Calls Try.prog 84 #[.agg #[.int .i64 a0_0,.int .i64 a0_1],.pointer (some ⟨g,0,none⟩)] w fun e w'=>e=.returned (.tuple #[])∧∃ A' c',w'.cell? ⟨g,0,none⟩=some (.slice A' (if b=true then l else l++[⟨a0_0,a0_1⟩]).length c')∧w'.frozen? ⟨g,0,none⟩=false ∧
  Kd.R k40 40 w' w0.heap.size ok (.slice A' (if b=true then l else l++[⟨a0_0,a0_1⟩]).length c') (if b=true then l else l++[⟨a0_0,a0_1⟩])∧Below w0.heap.size w0 w'∧Keeps (fun k_=>k_=g∨some k_=(Value.slice A l.length cA).ownBlock) w w':=by
 have hu40:=Try.underlying40
 have HX:=Aside0.mk hx
 have HO:=Aside0.mk ho
 have HF:=Aside0.mk hf
 have H':=Aside0.mk h
 have HL:=Aside0.mk hl
 have HOK:=Aside0.mk hok
 have HNG:=Aside0.mk hng
 have HB0:=Aside0.mk hB
 have HGB:=Aside0.mk hgb
 have hgl:g < w.heap.size:=by have:=World.block_lt_of_cell? w _ hx;simpa using this
 have HG:=Aside0.mk hgl
 clear hf ho h hl hgl hok hng hB hgb
 go_enter Try.func84,Try.ntmps84
 go_wp2_with (first
  | ((with_reducible refine gate_dst (N:=2) rfl ?_);refine bE 2 #[.int .i64 a0_0,.int .i64 a0_1] 40 ?_;intro gb hg w3 hbox hb;have BK:=Aside0.mk hbox;have GW:=Aside0.mk (Nat.le_of_eq hg.symm);have HB3:=Aside0.mk hb;have HO3:=Aside0.mk (Kd.R_below HO.out hb);have hx3:w3.cell? ⟨g,0,none⟩=some (.slice A l.length cA):=(Below.cell hb (p:=⟨g,0,none⟩) HG.out).trans hx;clear hx hbox hg hb))
 go_loopg [7] k (fun kq v7 w'=>∃ (x7:Int),v7=.int .i64 x7∧Aside0 (meet1.l0 kq a0_0 a0_1 l x7=some b)∧Aside0 (kq≤k)∧Aside0 (Below w3.heap.size w3 w'))
 case atStart=>exact ⟨0,by first|rfl|(simp;done)|(simp [*];done),H',⟨Nat.le_refl _⟩,⟨by repeat (first|(with_reducible first|exact Below.refl _ _|apply bA|apply bN|apply bD)|exact Below.refl _ _)⟩⟩
 case round =>
  clear H'
  obtain ⟨x7,rfl,HA,HK1,HB⟩:=hrel
  rcases gk with _|k1
  ·exact absurd HA.out (by simp [meet1.l0])
  have H:=HA.out
  clear HA
  simp only [meet1.l0] at H
  by_cases c5:x7 < (l.length:Int)
  ·rw [if_pos c5] at H
   have c5b0:decide (x7 < (l.length:Int))=true:=decide_eq_true c5
   by_cases c6:0≤x7
   rotate_left;·rw [if_neg c6] at H;exact absurd H (by simp)
   rw [if_pos c6] at H
   have c6b0:decide (0≤x7)=true:=decide_eq_true c6
   by_cases c8:(a0_0 == ((rd_T40 l x7).f0) && (a0_1 == ((rd_T40 l x7).f1)))=true
   ·rw [if_pos c8] at H
    obtain rfl:=Option.some.inj H
    rw [Bool.and_eq_true,beq_iff_eq,beq_iff_eq] at c8
    have t1:=eq_true c8.1
    have t2:=eq_true c8.2
    have u1:(a0_0 == (rd_T40 l x7).f0)=true:=beq_iff_eq.mpr c8.1
    have u2:(a0_1 == (rd_T40 l x7).f1)=true:=beq_iff_eq.mpr c8.2
    clear c8
    have BKr:=Aside0.mk (blk_below (g:=gb) (o:=.cells #[.int .i64 a0_0,.int .i64 a0_1] 40 (0,0)) BK.out HB.out)
    have HOr:=Aside0.mk (Kd.R_below HO3.out HB.out)
    obtain ⟨ad,e,hx0,hx1⟩:=at_T40 (Kd.R_reads' HOr.out).2.2 x7 c6 c5
    cases e
    have p5:=eq_true c5
    have p6:=eq_true c6
    clear c5 c6
    go_wp2_with (first
     | ((with_reducible refine gate_dst (N:=4) rfl ?_);refine bE 4 #[.int .i64 0,.int .i64 0] 40 ?_;intro gq hg w9 hbox hb;have BP:=Aside0.mk (blk_below (g:=gb) (o:=.cells #[.int .i64 a0_0,.int .i64 a0_1] 40 (0,0)) (by (with_reducible repeat (first|refine kN ?_ _|refine kD ?_|refine kA ?_ _));exact BKr.out) hb);have HB9:=Aside0.mk (below_step HB.out hb);have BQ:=Aside0.mk hbox;have GE:=Aside0.mk ((by rw [hg];exact below_size HB.out):w3.heap.size≤gq);have NQ:=Aside0.mk ((by rw [hg];exact Nat.ne_of_lt (blk_lt (g:=gb) (o:=.cells #[.int .i64 a0_0,.int .i64 a0_1] 40 (0,0)) BKr.out)):gb≠gq);clear hb hbox hg;have hnb:=NQ.out;have hnc:=hnb.symm;have hq0:w9.cell? ⟨gq,0,none⟩=some (.int .i64 0):=(blk_cell BQ.out 0).trans rfl;have hq1:w9.cell? ⟨gq,1,none⟩=some (.int .i64 0):=(blk_cell BQ.out 1).trans rfl;have hfq0:=blk_frozen BQ.out 0;have hfq1:=blk_frozen BQ.out 1;have hp0:w9.cell? ⟨gb,0,none⟩=some (.int .i64 a0_0):=(blk_cell BP.out 0).trans rfl;have hp1:w9.cell? ⟨gb,1,none⟩=some (.int .i64 a0_1):=(blk_cell BP.out 1).trans rfl;have hfp0:=blk_frozen BP.out 0;have hfp1:=blk_frozen BP.out 1))
    (try simp only [Exit.inBlock,Exit.then])
    refine bodyPost_ret (results_none rfl _ _ _) rfl ?_
    have fin:∀ W':World,Below w3.heap.size w3 W'→(∃ A' c',W'.cell? ⟨g,0,none⟩=some (.slice A' l.length c')∧W'.frozen? ⟨g,0,none⟩=false∧Kd.R k40 40 W' w0.heap.size ok (.slice A' l.length c') l∧Below w0.heap.size w0 W'∧Keeps (fun k_=>k_=g∨some k_=(Value.slice (some ad) l.length cA).ownBlock) w W'):=fun W' h=>by
     have HW:=below_step HB3.out h
     exact ⟨_,_,(Below.cell HW (p:=⟨g,0,none⟩) HG.out).trans HX.out,(Keeps.of_below (S:=fun _=>False) HW).frozen HX.out (fun h=>h) HF.out,Kd.R_below HO.out HW,below_step HB0.out HW,Keeps.of_below HW⟩
    refine ⟨rfl,fin _ ?_⟩
    repeat (first|(with_reducible first|exact HB9.out|apply bA|apply bN|apply bD|refine bS ?_ GE.out)|exact HB9.out)
   ·rw [if_neg c8] at H
    have HN:=Aside0.mk H
    clear H
    by_cases d1:a0_0=(rd_T40 l x7).f0
    ·have d2:¬ a0_1=(rd_T40 l x7).f1:=fun z=>c8 (by rw [Bool.and_eq_true,beq_iff_eq,beq_iff_eq];exact ⟨d1,z⟩)
     have t1:=eq_true d1
     have t2:=eq_false d2
     have u1:(a0_0 == (rd_T40 l x7).f0)=true:=beq_iff_eq.mpr d1
     have u2:(a0_1 == (rd_T40 l x7).f1)=false:=beq_eq_false_iff_ne.mpr d2
     clear c8 d1 d2
     have BKr:=Aside0.mk (blk_below (g:=gb) (o:=.cells #[.int .i64 a0_0,.int .i64 a0_1] 40 (0,0)) BK.out HB.out)
     have HOr:=Aside0.mk (Kd.R_below HO3.out HB.out)
     obtain ⟨ad,e,hx0,hx1⟩:=at_T40 (Kd.R_reads' HOr.out).2.2 x7 c6 c5
     cases e
     have p5:=eq_true c5
     have p6:=eq_true c6
     clear c5 c6
     go_wp2_with (first
      | ((with_reducible refine gate_dst (N:=4) rfl ?_);refine bE 4 #[.int .i64 0,.int .i64 0] 40 ?_;intro gq hg w9 hbox hb;have BP:=Aside0.mk (blk_below (g:=gb) (o:=.cells #[.int .i64 a0_0,.int .i64 a0_1] 40 (0,0)) (by (with_reducible repeat (first|refine kN ?_ _|refine kD ?_|refine kA ?_ _));exact BKr.out) hb);have HB9:=Aside0.mk (below_step HB.out hb);have BQ:=Aside0.mk hbox;have GE:=Aside0.mk ((by rw [hg];exact below_size HB.out):w3.heap.size≤gq);have NQ:=Aside0.mk ((by rw [hg];exact Nat.ne_of_lt (blk_lt (g:=gb) (o:=.cells #[.int .i64 a0_0,.int .i64 a0_1] 40 (0,0)) BKr.out)):gb≠gq);clear hb hbox hg;have hnb:=NQ.out;have hnc:=hnb.symm;have hq0:w9.cell? ⟨gq,0,none⟩=some (.int .i64 0):=(blk_cell BQ.out 0).trans rfl;have hq1:w9.cell? ⟨gq,1,none⟩=some (.int .i64 0):=(blk_cell BQ.out 1).trans rfl;have hfq0:=blk_frozen BQ.out 0;have hfq1:=blk_frozen BQ.out 1;have hp0:w9.cell? ⟨gb,0,none⟩=some (.int .i64 a0_0):=(blk_cell BP.out 0).trans rfl;have hp1:w9.cell? ⟨gb,1,none⟩=some (.int .i64 a0_1):=(blk_cell BP.out 1).trans rfl;have hfp0:=blk_frozen BP.out 0;have hfp1:=blk_frozen BP.out 1))
     go_roundg k1
     case measure=>have:=HK1.out;omega
     case rel=>exact ⟨wrap64 (x7+1),by first|rfl|(simp;done)|(simp [*];done),HN,⟨by have:=HK1.out;omega⟩,⟨by repeat (first|(with_reducible first|exact HB9.out|apply bA|apply bN|apply bD|refine bS ?_ GE.out)|exact HB9.out)⟩⟩
    ·have t1:=eq_false d1
     have u1:(a0_0 == (rd_T40 l x7).f0)=false:=beq_eq_false_iff_ne.mpr d1
     clear c8 d1
     have BKr:=Aside0.mk (blk_below (g:=gb) (o:=.cells #[.int .i64 a0_0,.int .i64 a0_1] 40 (0,0)) BK.out HB.out)
     have HOr:=Aside0.mk (Kd.R_below HO3.out HB.out)
     obtain ⟨ad,e,hx0,hx1⟩:=at_T40 (Kd.R_reads' HOr.out).2.2 x7 c6 c5
     cases e
     have p5:=eq_true c5
     have p6:=eq_true c6
     clear c5 c6
     go_wp2_with (first
      | ((with_reducible refine gate_dst (N:=4) rfl ?_);refine bE 4 #[.int .i64 0,.int .i64 0] 40 ?_;intro gq hg w9 hbox hb;have BP:=Aside0.mk (blk_below (g:=gb) (o:=.cells #[.int .i64 a0_0,.int .i64 a0_1] 40 (0,0)) (by (with_reducible repeat (first|refine kN ?_ _|refine kD ?_|refine kA ?_ _));exact BKr.out) hb);have HB9:=Aside0.mk (below_step HB.out hb);have BQ:=Aside0.mk hbox;have GE:=Aside0.mk ((by rw [hg];exact below_size HB.out):w3.heap.size≤gq);have NQ:=Aside0.mk ((by rw [hg];exact Nat.ne_of_lt (blk_lt (g:=gb) (o:=.cells #[.int .i64 a0_0,.int .i64 a0_1] 40 (0,0)) BKr.out)):gb≠gq);clear hb hbox hg;have hnb:=NQ.out;have hnc:=hnb.symm;have hq0:w9.cell? ⟨gq,0,none⟩=some (.int .i64 0):=(blk_cell BQ.out 0).trans rfl;have hq1:w9.cell? ⟨gq,1,none⟩=some (.int .i64 0):=(blk_cell BQ.out 1).trans rfl;have hfq0:=blk_frozen BQ.out 0;have hfq1:=blk_frozen BQ.out 1;have hp0:w9.cell? ⟨gb,0,none⟩=some (.int .i64 a0_0):=(blk_cell BP.out 0).trans rfl;have hp1:w9.cell? ⟨gb,1,none⟩=some (.int .i64 a0_1):=(blk_cell BP.out 1).trans rfl;have hfp0:=blk_frozen BP.out 0;have hfp1:=blk_frozen BP.out 1))
     go_roundg k1
     case measure=>have:=HK1.out;omega
     case rel=>exact ⟨wrap64 (x7+1),by first|rfl|(simp;done)|(simp [*];done),HN,⟨by have:=HK1.out;omega⟩,⟨by repeat (first|(with_reducible first|exact HB9.out|apply bA|apply bN|apply bD|refine bS ?_ GE.out)|exact HB9.out)⟩⟩
  ·rw [if_neg c5] at H
   have c5b0:decide (x7 < (l.length:Int))=false:=decide_eq_false c5
   obtain rfl:=Option.some.inj H
   have BKr:=Aside0.mk (blk_below (g:=gb) (o:=.cells #[.int .i64 a0_0,.int .i64 a0_1] 40 (0,0)) BK.out HB.out)
   have HOr:=Aside0.mk (Kd.R_below HO3.out HB.out)
   have HB3r:=Aside0.mk (below_step HB3.out HB.out)
   have hxr:wr.cell? ⟨g,0,none⟩=some (.slice A l.length cA):=(Below.cell HB3r.out (p:=⟨g,0,none⟩) HG.out).trans HX.out
   have hfr:wr.frozen? ⟨g,0,none⟩=false:=(Keeps.of_below (S:=fun _=>False) HB3r.out).frozen HX.out (fun h=>h) HF.out
   have HXr:=Aside0.mk hxr
   have HFr:=Aside0.mk hfr
   have hb0:wr.cell? ⟨gb,0,none⟩=some (.int .i64 a0_0):=(blk_cell BKr.out 0).trans rfl
   have hb1:wr.cell? ⟨gb,1,none⟩=some (.int .i64 a0_1):=(blk_cell BKr.out 1).trans rfl
   have HWB:=Aside0.mk (Below.refl wr.heap.size wr)
   obtain ⟨Y,hY⟩ : ∃ Y,Y=l++[(⟨a0_0,a0_1⟩ : S40)]:=⟨_,rfl⟩
   have HY:=Aside0.mk hY
   clear c5 hY
   go_wp2_with (first
    | ((with_reducible refine gate_builtin (b:=.append) (xs:=#[.tmp 15,.tmp 17]) rfl ?_);at_builtin;refine Kd.R_append k40 (w0:=w0) w0.heap.size rfl (.tmp 15) (.tmp 17) 25 40 (.agg #[(.int .i64 0),(.int .i64 0)]) 16 rfl Try.underlying25 info40 rfl (by decide) (by omega) (.slice A l.length cA) l (⟨a0_0,a0_1⟩ : S40) [.int .i64 a0_0,.int .i64 a0_1] ok (fun _=>False) rfl rfl ?aP (fun _ hk=>hk.elim) ?aF ?aO ?aB ?aS ?aL ?_;(case aP=>exact k40_mkM _ _ _ (⟨a0_0,a0_1⟩ : S40));(case aF=>exact fun k_ hk=>HOK.out k_ (Nat.le_trans (Nat.le_trans HB3r.out.size (below_size (w:=wr) (by repeat (first|(with_reducible first|exact HWB.out|apply bA|apply bN|apply bD)|exact HWB.out)))) hk));(case aO=>exact (by (with_reducible repeat (first|apply rA|apply rN|apply rD));exact HOr.out));(case aB=>exact below_step HB0.out (below_step HB3r.out (by repeat (first|(with_reducible first|exact HWB.out|apply bA|apply bN|apply bD)|exact HWB.out))));(case aS=>exact Nat.le_trans HB0.out.size (Nat.le_trans HB3r.out.size (below_size (w:=wr) (by repeat (first|(with_reducible first|exact HWB.out|apply bA|apply bN|apply bD)|exact HWB.out)))));(case aL=>have:=HL.out;omega);intro v18 w18 ho hb hg hat;rw [← HY.out] at ho;obtain ⟨A18,c18,hv18⟩:=Kd.R_slice ho;subst hv18;have HO18:=Aside0.mk ho;have HB18:=Aside0.mk hb;have HK18:=Aside0.mk (((Keeps.of_below (S:=fun k_=>some k_=(Value.slice A l.length cA).ownBlock) (below_step HB3r.out (by repeat (first|(with_reducible first|exact HWB.out|apply bA|apply bN|apply bD)|exact HWB.out)))).trans (Keeps.of_grown hg)));have NG18:=Aside0.mk ((fun e=>HNG.out (HOr.out.1 g e.symm)):¬ some g=(Value.slice A l.length cA).ownBlock);have hx18:w18.cell? ⟨g,0,none⟩=some (.slice A l.length cA):=HK18.out.cell HX.out NG18.out;have hf18:w18.frozen? ⟨g,0,none⟩=false:=HK18.out.frozen HX.out NG18.out HF.out;have HX18:=Aside0.mk hx18;have HF18:=Aside0.mk hf18;clear ho hb hg hat)
    | ((with_reducible refine gate_store (t:=25) (p:=1) rfl ?_);refine store_event (by rfl) (t:=25) (p:=1) (v:=.tmp 18) (w1:=w18.setCell ⟨g,0,none⟩ (.slice A18 Y.length c18)) rfl rfl ?hr ?_;(case hr=>first|(go_simp;done)|(go_simp;rfl));intro w19 hw;have HW19:=Aside0.mk hw;clear hw))
   go_end0
   have hw:=HW19.out
   have hyl:l.length+1=Y.length:=by rw [HY.out];simp
   rw [hyl,← HY.out]
   subst hw
   refine ⟨rfl,A18,c18,?_,?_,Kd.R_far (p:=⟨g,0,none⟩) HO18.out (fun k_ hk e=>HNG.out (show ok g from by have e2:k_=g:=e;rw [← e2];exact hk)) _,below_set HB18.out HGB.out,(HK18.out.mono (fun _ h=>.inr h)).trans (Keeps.of_set.mono (fun _ h=>.inl h))⟩
   ·exact World.cell?_setCell_same _ _ _ HX18.out
   ·rw [World.frozen?_setCell]
    exact HF18.out
def impl_meet_1.f (a0_0 a0_1:Int) (l1:List S40):Option (List S40):=if l1.length < 8796093022208 then (some (if l1.any (fun q=>q.f0 == a0_0 && q.f1 == a0_1)=true then l1 else l1++[⟨a0_0,a0_1⟩])) else (none)
theorem meet1_any (a0 a1:Int) (l:List S40) (hl:l.length < 8796093022208):∀ (suf pre:List S40),l=pre++suf→∃ k,meet1.l0 k a0 a1 l (pre.length:Int)=some (suf.any (fun q=>q.f0 == a0 && q.f1 == a1))
 | [],pre,h=>⟨1,by
  have h2:¬ ((pre.length:Int) < (l.length:Int)):=by rw [h];simp
  simp only [meet1.l0,if_neg h2,List.any_nil]⟩
 | q :: suf,pre,h=>by
  have hr:rd_T40 l (pre.length:Int)=q:=by rw [h];simp [rd_T40]
  have hlen:l.length=pre.length+(suf.length+1):=by rw [h];simp
  have h2:(pre.length:Int) < (l.length:Int):=by omega
  have h3:(0:Int)≤(pre.length:Int):=by omega
  have h4:wrap64 ((pre.length:Int)+1)=((pre++[q]).length:Int):=by
   rw [show ((pre++[q]).length:Int)=(pre.length:Int)+1 from by simp]
   unfold wrap64;omega
  by_cases c:(a0 == q.f0 && a1 == q.f1)=true
  ·refine ⟨1,?_⟩
   have c2:=c
   rw [Bool.and_eq_true,beq_iff_eq,beq_iff_eq] at c2
   simp only [meet1.l0,if_pos h2,if_pos h3,hr,if_pos c,List.any_cons]
   rw [beq_iff_eq.mpr c2.1.symm,beq_iff_eq.mpr c2.2.symm]
   rfl
  ·obtain ⟨k,hk⟩:=meet1_any a0 a1 l hl suf (pre++[q]) (by rw [h];simp)
   refine ⟨k+1,?_⟩
   simp only [meet1.l0,if_pos h2,if_pos h3,hr,if_neg c,h4,hk,List.any_cons]
   have c3:(q.f0 == a0 && q.f1 == a1)=false:=by
    rw [← Bool.not_eq_true]
    intro z
    rw [Bool.and_eq_true,beq_iff_eq,beq_iff_eq] at z
    exact c (by rw [Bool.and_eq_true,beq_iff_eq,beq_iff_eq];exact ⟨z.1.symm,z.2.symm⟩)
   rw [c3]
   rfl
/-- The row of the ends lies in a box of its own; what S tells stays as it was in W1. -/
structure EInv (w0 W1:World) (S:Nat→Prop) (g9:Nat) (l:List S40) (w:World):Prop where
 same:∀ k,S k→w.heap[k]? = W1.heap[k]?
 bound:∀ k,S k→k < w.heap.size
 nin:¬ S g9
 row:∃ A cA,w.cell? ⟨g9,0,none⟩=some (.slice A l.length cA)∧w.frozen? ⟨g9,0,none⟩=false∧Kd.R k40 40 w w0.heap.size (fun k=>¬ S k∧k≠g9) (.slice A l.length cA) l
 ge:w0.heap.size≤g9
 below:Below w0.heap.size w0 w
theorem EInv.step {w0 W1:World} {S:Nat→Prop} {g9:Nat} {l:List S40} {w w':World} (h:EInv w0 W1 S g9 l w) (hb:Below w.heap.size w w'):EInv w0 W1 S g9 l w':=by
 obtain ⟨A,cA,h1,h2,h3⟩:=h.row
 have K:Keeps (fun _=>False) w w':=Keeps.of_below hb
 exact ⟨fun k hk=>(hb.block k (h.bound k hk)).trans (h.same k hk),fun k hk=>Nat.lt_of_lt_of_le (h.bound k hk) hb.size,h.nin,⟨A,cA,K.cell h1 (fun h=>h),K.frozen h1 (fun h=>h) h2,Kd.R_below h3 hb⟩,h.ge,below_step h.below hb⟩
theorem EInv.next {w0 W1:World} {S S':Nat→Prop} {g9:Nat} {l:List S40} {w w':World} (h:EInv w0 W1 S g9 l w) (hb:Below w.heap.size w w') (hS:∀ k,S' k→S k∨(w.heap.size≤k∧k < w'.heap.size)):EInv w0 w' S' g9 l w':=by
 obtain ⟨A,cA,h1,h2,h3⟩:=h.row
 have K:Keeps (fun _=>False) w w':=Keeps.of_below hb
 have hg:g9 < w.heap.size:=by have:=World.block_lt_of_cell? w _ h1;simpa using this
 refine ⟨fun _ _=>rfl,fun k hk=>?_,fun hk=>?_,⟨A,cA,K.cell h1 (fun h=>h),K.frozen h1 (fun h=>h) h2,Kd.R_below (Kd.R_mono (Kd.R_bound h3) (fun k hk=>⟨fun g=>?_,hk.1.2⟩)) hb⟩,h.ge,below_step h.below hb⟩
 ·rcases hS k hk with g|g
  ·exact Nat.lt_of_lt_of_le (h.bound k g) hb.size
  ·exact g.2
 ·rcases hS _ hk with g|g
  ·exact h.nin g
  ·omega
 ·rcases hS k g with g|g
  ·exact hk.1.1 g
  ·have:=hk.2.2.1;omega
theorem EInv.cell {w0 W1:World} {S:Nat→Prop} {g9:Nat} {l:List S40} {w:World} (h:EInv w0 W1 S g9 l w) {g j:Nat} {v:Value} (hS:S g) (hc:W1.cell? ⟨g,j,none⟩=some v):w.cell? ⟨g,j,none⟩=some v:=by
 rw [World.cell?_of_block (h.same g hS)];exact hc
theorem EInv.len {w0 W1:World} {S:Nat→Prop} {g9:Nat} {l:List S40} {w:World} (h:EInv w0 W1 S g9 l w):∃ A cA,w.cell? ⟨g9,0,none⟩=some (.slice A l.length cA):=by
 obtain ⟨A,cA,h1,_⟩:=h.row
 exact ⟨A,cA,h1⟩
theorem impl_meet_1.calls (a0_0 a0_1:Int) {w0 W1:World} {S:Nat→Prop} {g9:Nat} {l l':List S40} {w:World} (H:EInv w0 W1 S g9 l w) (h:impl_meet_1.f a0_0 a0_1 l=some l') :
 Calls Try.prog 84 #[.agg #[.int .i64 a0_0,.int .i64 a0_1],.pointer (some ⟨g9,0,none⟩)] w fun e w'=>e=.returned (.tuple #[])∧EInv w0 W1 S g9 l' w':=by
 unfold impl_meet_1.f at h
 by_cases hl:l.length < 8796093022208
 ·rw [if_pos hl] at h
  obtain ⟨k,hk⟩:=meet1_any a0_0 a0_1 l hl l [] rfl
  obtain ⟨A,cA,h1,h2,h3⟩:=H.row
  have hg:g9 < w.heap.size:=by have:=World.block_lt_of_cell? w _ h1;simpa using this
  have hi:=Option.some.inj h
  refine (meet1.calls k a0_0 a0_1 _ g9 A cA l (fun k=>¬ S k∧k≠g9) w0 w H.below H.ge h1 h2 (fun k_ hk_=>⟨fun g=>by have:=H.bound k_ g;omega,by omega⟩) (fun z=>z.2 rfl) h3 hl hk).mono ?_
  rintro e w' ⟨rfl,A',c',q1,q2,q3,q4,q5⟩
  rw [hi] at q1 q3
  have ns:∀ j,S j→¬ (j=g9∨some j=(Value.slice A l.length cA).ownBlock):=fun j hj z=>by
   rcases z with z|z
   ·exact H.nin (z ▸ hj)
   ·exact (h3.1 j z.symm).1 hj
  exact ⟨rfl,fun j hj=>(q5.block j (H.bound j hj) (ns j hj)).trans (H.same j hj),fun j hj=>Nat.lt_of_lt_of_le (H.bound j hj) q5.size,H.nin,⟨A',c',q1,q2,q3⟩,H.ge,q4⟩
 ·rw [if_neg hl] at h
  cases h
theorem two_at {w:World} {g:Nat} {c0 c1 d0 d1:Int} (h:w.heap[g]? = some (.cells #[.int .i64 c0,.int .i64 c1,.int .i64 d0,.int .i64 d1] 40 (0,0))) {y:List S40} (hy:y = [⟨c0,c1⟩,⟨d0,d1⟩]) (i:Int) (h0:0≤i) (h1:i < (y.length:Int)) :
 w.cell? ⟨g,i.toNat * 2,none⟩=some (.int .i64 (rd_T40 y i).f0)∧w.cell? ⟨g,i.toNat * 2+1,none⟩=some (.int .i64 (rd_T40 y i).f1):=by
 subst hy
 have h2:i < 2:=by simpa using h1
 obtain rfl|rfl:i=0∨i=1:=by omega
 ·exact ⟨(blk_cell h 0).trans rfl,(blk_cell h 1).trans rfl⟩
 ·exact ⟨(blk_cell h 2).trans rfl,(blk_cell h 3).trans rfl⟩
theorem lit_event {P:Program} {ops:Array Oper} {rest:List Oper} {o:Oper} {a:Act} {Q:Exit→Act→World→Prop} {W:World} (hgd:o.guard=none) {N:Tmp} (_hd:o.dst=some N) {cs:Array Value} {t:TypeId} {n:Nat}
 (hrun:(execOp a.eval o).run P W=.ok (.value (.slice (some ⟨W.heap.size,0,none⟩) n n)) (W.alloc (.cells cs t (0,0))))
 (h:∀ g,g=W.heap.size→∀ w1,w1.heap[g]? = some (.cells cs t (0,0))→Below W.heap.size W w1→wpList P ops Q rest (a.put o.dst (.slice (some ⟨g,0,none⟩) n n)) w1):wpList P ops Q (o :: rest) a W :=
 Kd.event_run hgd hrun (h _ rfl _ (blk_new W _) (below_alloc (Below.refl _ _) _))
/-- The boxes of four points. -/
structure Four (g4 g5 g6 g7:Nat) (a0 a1 b0 b1 c0 c1 d0 d1:Int) (w:World):Prop where
 b4:w.heap[g4]? = some (.cells #[.int .i64 a0,.int .i64 a1] 40 (0,0))
 b5:w.heap[g5]? = some (.cells #[.int .i64 b0,.int .i64 b1] 40 (0,0))
 b6:w.heap[g6]? = some (.cells #[.int .i64 c0,.int .i64 c1] 40 (0,0))
 b7:w.heap[g7]? = some (.cells #[.int .i64 d0,.int .i64 d1] 40 (0,0))
theorem Four.step {g4 g5 g6 g7:Nat} {a0 a1 b0 b1 c0 c1 d0 d1:Int} {w w':World} (h:Four g4 g5 g6 g7 a0 a1 b0 b1 c0 c1 d0 d1 w) (hb:Below w.heap.size w w'):Four g4 g5 g6 g7 a0 a1 b0 b1 c0 c1 d0 d1 w' :=
 ⟨blk_below h.b4 hb,blk_below h.b5 hb,blk_below h.b6 hb,blk_below h.b7 hb⟩
def S4 (g4 g5 g6 g7:Nat) (k:Nat):Prop:=k=g4∨k=g5∨k=g6∨k=g7
theorem Four.lt {g4 g5 g6 g7:Nat} {a0 a1 b0 b1 c0 c1 d0 d1:Int} {w:World} (h:Four g4 g5 g6 g7 a0 a1 b0 b1 c0 c1 d0 d1 w) {k:Nat} (hk:S4 g4 g5 g6 g7 k):k < w.heap.size:=by
 have h4:=blk_lt h.b4
 have h5:=blk_lt h.b5
 have h6:=blk_lt h.b6
 have h7:=blk_lt h.b7
 rcases hk with z|z|z|z <;> omega
theorem Four.same {g4 g5 g6 g7:Nat} {a0 a1 b0 b1 c0 c1 d0 d1:Int} {w w':World} (h:Four g4 g5 g6 g7 a0 a1 b0 b1 c0 c1 d0 d1 w) (hs:∀ k,S4 g4 g5 g6 g7 k→w'.heap[k]? = w.heap[k]?):Four g4 g5 g6 g7 a0 a1 b0 b1 c0 c1 d0 d1 w' :=
 ⟨(hs _ (.inl rfl)).trans h.b4,(hs _ (.inr (.inl rfl))).trans h.b5,(hs _ (.inr (.inr (.inl rfl)))).trans h.b6,(hs _ (.inr (.inr (.inr rfl)))).trans h.b7⟩
theorem EInv.start {w0 w15 W w9 w10:World} {g4 g5 g6 g7 g9:Nat} {a0 a1 b0 b1 c0 c1 d0 d1:Int} {A:Option Addr} {c:Nat} (hb:Below w0.heap.size w0 w15) (hr:Kd.R k40 40 w15 w0.heap.size (fun k=>¬ S4 g4 g5 g6 g7 k) (.slice A 0 c) [])
 (hf:Four g4 g5 g6 g7 a0 a1 b0 b1 c0 c1 d0 d1 w15) (hW:Below w15.heap.size w15 W) (be:w9.heap[g9]? = some (.cells #[.slice none 0 0] 25 (0,0))) (hg:g9=W.heap.size) (hb9:Below W.heap.size W w9) (hw:w10=w9.setCell ⟨g9,0,none⟩ (.slice A 0 c)) :
 EInv w0 w10 (S4 g4 g5 g6 g7) g9 [] w10∧Four g4 g5 g6 g7 a0 a1 b0 b1 c0 c1 d0 d1 w10:=by
 subst hw
 have hB:Below w15.heap.size w15 w9:=below_step hW hb9
 have h15:w15.heap.size≤g9:=by rw [hg];exact hW.size
 have hgl:=blk_lt be
 have hc:w9.cell? ⟨g9,0,none⟩=some (.slice none 0 0):=(blk_cell be 0).trans rfl
 have hn:∀ k,S4 g4 g5 g6 g7 k→k≠g9:=fun k hk e=>by have:=hf.lt hk;omega
 have hF:Four g4 g5 g6 g7 a0 a1 b0 b1 c0 c1 d0 d1 (w9.setCell ⟨g9,0,none⟩ (.slice A 0 c)):=(hf.step hB).same (fun k hk=>Below.heap_setCell _ _ _ _ (hn k hk))
 refine ⟨⟨fun _ _=>rfl,fun k hk=>hF.lt hk,fun z=>hn _ z rfl,⟨A,c,World.cell?_setCell_same _ _ _ hc,?_,?_⟩,Nat.le_trans hb.size h15,?_⟩,hF⟩
 ·rw [World.frozen?_setCell]
  exact blk_frozen be 0
 ·exact Kd.R_far (p:=⟨g9,0,none⟩) (Kd.R_mono (Kd.R_bound (Kd.R_below (Kd.R_mono (Kd.R_bound hr) (fun k hk=>(⟨hk.1,by have:=hk.2.2.1;omega⟩ : ¬ S4 g4 g5 g6 g7 k∧k≠g9))) hB)) (fun k hk=>hk.1)) (fun k hk=>hk.2) _
 ·exact below_set (below_step hb hB) (Nat.le_trans hb.size h15)
def impl_sign.f (a0:Int):Option (Int):=if a0 > 0 then (some 1) else (if a0 < 0 then (some (-1)) else (some 0))
theorem impl_sign.calls (a0:Int) (r:Int) (w:World) (h:impl_sign.f a0=some r) :
 Calls Try.prog 85 #[.int .i64 a0] w fun e w'=>e=.returned (.int .i64 r)∧Drawn0 w w':=by
 have H:(if a0 > 0 then (some 1) else (if a0 < 0 then (some (-1)) else (some 0)))=some r:=h
 clear h
 by_cases c2:a0 > 0
 ·rw [if_pos c2] at H
  have c2b0:decide (0 < a0)=true:=decide_eq_true c2
  clear c2
  obtain rfl:=Option.some.inj H
  go_enter Try.func85,Try.ntmps85
  go_wp2
  go_ret
  exact ⟨by first|rfl|(simp;done)|(simp [*];done),by repeat (first|exact Drawn0.refl _|apply Drawn0.step)⟩
 ·rw [if_neg c2] at H
  have c2b0:decide (0 < a0)=false:=decide_eq_false c2
  clear c2
  by_cases c3:a0 < 0
  ·rw [if_pos c3] at H
   have c3b0:decide (a0 < 0)=true:=decide_eq_true c3
   clear c3
   obtain rfl:=Option.some.inj H
   go_enter Try.func85,Try.ntmps85
   go_wp2
   go_ret
   exact ⟨by first|rfl|(simp;done)|(simp [*];done),by repeat (first|exact Drawn0.refl _|apply Drawn0.step)⟩
  ·rw [if_neg c3] at H
   have c3b0:decide (a0 < 0)=false:=decide_eq_false c3
   clear c3
   obtain rfl:=Option.some.inj H
   go_enter Try.func85,Try.ntmps85
   go_wp2
   go_ret
   exact ⟨by first|rfl|(simp;done)|(simp [*];done),by repeat (first|exact Drawn0.refl _|apply Drawn0.step)⟩
end Go.Proofs.Ytadenfniiihifaa.QFnExactMeasuresOf
