/- What each Go function of this text answers, as a plain function, and that the machine comes to just that answer. -/
import Derived.Test.YtadenfniiihifaaQFnExactMeasuresOfx0
import Derived.Test.YtadenfniiihifaaQFnExactMeasuresOfx8
namespace Go.Proofs.Ytadenfniiihifaa.QFnExactMeasuresOf
open Go.RowKit Go.Proofs.YtadenfniiihifaaW.PrintWords Go.Proofs.YtadenfniiihifaaW.PrintLast Go.Proofs.YtadenfniiihifaaW.PrintMore
attribute [local go_sem] max2_int min2_int max_two min_two max_three min_three max_four min_four   -- for this text's walks alone
set_option linter.unusedVariables false
set_option linter.unusedSimpArgs false
mutual
def impl_meet.l0:Nat→List (S40)→List (S40)→Int→Int→Int→Int→Int→Int→Int→Int→Int→Int→Option (Int)
 | 0,_,_,_,_,_,_,_,_,_,_,_,_=>none
 | k+1,x9,x19,x20,x21,x248000,x248001,x249000,x249001,x250000,x250001,x251000,x251001=>if x21 < x20 then (if 0≤x21 then (if x21 < (x19.length:Int) then ((impl_isOn.f x248000 x248001 x249000 x249001 ((rd_T40 x19 x21).f0) ((rd_T40 x19 x21).f1)).bind fun t259=>(if t259=true then ((impl_meet_1.f ((rd_T40 x19 x21).f0) ((rd_T40 x19 x21).f1) x9).bind fun t260=>(impl_meet.l0 k t260 x19 x20 (wrap64 (x21+1)) x248000 x248001 x249000 x249001 x250000 x250001 x251000 x251001)) else (impl_meet.l0 k x9 x19 x20 (wrap64 (x21+1)) x248000 x248001 x249000 x249001 x250000 x250001 x251000 x251001))) else (none)) else (none)) else ((some (([(⟨x248000,x248001⟩ : S40),(⟨x249000,x249001⟩ : S40)]:List (S40)):List (S40))).bind fun y263=>(impl_meet.l1 k x9 y263 (y263.length:Int) 0 x248000 x248001 x249000 x249001 x250000 x250001 x251000 x251001))
def impl_meet.l1:Nat→List (S40)→List (S40)→Int→Int→Int→Int→Int→Int→Int→Int→Int→Int→Option (Int)
 | 0,_,_,_,_,_,_,_,_,_,_,_,_=>none
 | k+1,x9,x35,x36,x37,x248000,x248001,x249000,x249001,x250000,x250001,x251000,x251001=>if x37 < x36 then (if 0≤x37 then (if x37 < (x35.length:Int) then ((impl_isOn.f x250000 x250001 x251000 x251001 ((rd_T40 x35 x37).f0) ((rd_T40 x35 x37).f1)).bind fun t268=>(if t268=true then ((impl_meet_1.f ((rd_T40 x35 x37).f0) ((rd_T40 x35 x37).f1) x9).bind fun t269=>(impl_meet.l1 k t269 x35 x36 (wrap64 (x37+1)) x248000 x248001 x249000 x249001 x250000 x250001 x251000 x251001)) else (impl_meet.l1 k x9 x35 x36 (wrap64 (x37+1)) x248000 x248001 x249000 x249001 x250000 x250001 x251000 x251001))) else (none)) else (none)) else (if (x9.length:Int) > 1 then (some 3) else (if (x9.length:Int)=1 then (some 1) else ((impl_cross.f x248000 x248001 x249000 x249001 x250000 x250001).bind fun t272=>((impl_sign.f t272).bind fun t273=>((impl_cross.f x248000 x248001 x249000 x249001 x251000 x251001).bind fun t274=>((impl_sign.f t274).bind fun t275=>(if (wrap64 (t273 * t275)) < 0 then ((impl_cross.f x250000 x250001 x251000 x251001 x248000 x248001).bind fun t276=>((impl_sign.f t276).bind fun t277=>((impl_cross.f x250000 x250001 x251000 x251001 x249000 x249001).bind fun t278=>((impl_sign.f t278).bind fun t279=>(if (wrap64 (t277 * t279)) < 0 then (some 2) else (some 0)))))) else (some 0))))))))
end
def impl_meet.f (k:Nat) (a0_0:Int) (a0_1:Int) (a1_0:Int) (a1_1:Int) (a2_0:Int) (a2_1:Int) (a3_0:Int) (a3_1:Int):Option (Int):=(some (([(⟨a2_0,a2_1⟩ : S40),(⟨a3_0,a3_1⟩ : S40)]:List (S40)):List (S40))).bind fun y254=>(impl_meet.l0 k (([]:List (S40))) y254 (y254.length:Int) 0 a0_0 a0_1 a1_0 a1_1 a2_0 a2_1 a3_0 a3_1)
theorem impl_meet.mono_l:∀ k,(∀ y0 y1 y2 y3 y4 y5 y6 y7 y8 y9 y10 y11,LeO (impl_meet.l0 k y0 y1 y2 y3 y4 y5 y6 y7 y8 y9 y10 y11) (impl_meet.l0 (k+1) y0 y1 y2 y3 y4 y5 y6 y7 y8 y9 y10 y11))∧(∀ y0 y1 y2 y3 y4 y5 y6 y7 y8 y9 y10 y11,LeO (impl_meet.l1 k y0 y1 y2 y3 y4 y5 y6 y7 y8 y9 y10 y11) (impl_meet.l1 (k+1) y0 y1 y2 y3 y4 y5 y6 y7 y8 y9 y10 y11))
 | 0=>⟨fun _ _ _ _ _ _ _ _ _ _ _ _ r h=>by simp [impl_meet.l0] at h,fun _ _ _ _ _ _ _ _ _ _ _ _ r h=>by simp [impl_meet.l1] at h⟩
 | k+1=>by
  obtain ⟨ih0,ih1⟩:=impl_meet.mono_l k
  refine ⟨?_,?_⟩
  ·intro y0 y1 y2 y3 y4 y5 y6 y7 y8 y9 y10 y11
   unfold impl_meet.l0
   repeat' first
   | (with_reducible exact LeO.refl _)
   | exact ih0 _ _ _ _ _ _ _ _ _ _ _ _
   | exact ih1 _ _ _ _ _ _ _ _ _ _ _ _
   | exact LeO.none _
   | refine LeO.ite ?_ ?_
   | refine LeO.bind ?_ (fun _=>?_)
  ·intro y0 y1 y2 y3 y4 y5 y6 y7 y8 y9 y10 y11
   unfold impl_meet.l1
   repeat' first
   | (with_reducible exact LeO.refl _)
   | exact ih0 _ _ _ _ _ _ _ _ _ _ _ _
   | exact ih1 _ _ _ _ _ _ _ _ _ _ _ _
   | exact LeO.none _
   | refine LeO.ite ?_ ?_
   | refine LeO.bind ?_ (fun _=>?_)
theorem impl_meet.mono:∀ a0 a1 a2 a3 a4 a5 a6 a7 k,LeO (impl_meet.f k a0 a1 a2 a3 a4 a5 a6 a7) (impl_meet.f (k+1) a0 a1 a2 a3 a4 a5 a6 a7):=by
 intro a0 a1 a2 a3 a4 a5 a6 a7 k
 obtain ⟨ih0,ih1⟩:=impl_meet.mono_l k
 unfold impl_meet.f
 repeat' first
  | (with_reducible exact LeO.refl _)
  | exact ih0 _ _ _ _ _ _ _ _ _ _ _ _
  | exact ih1 _ _ _ _ _ _ _ _ _ _ _ _
  | exact LeO.none _
  | refine LeO.ite ?_ ?_
  | refine LeO.bind ?_ (fun _=>?_)
def impl_meet.T19:Bool × List (List Nat × List Nat):=(true,[([],[]),([],[]),([],[]),([0,1,2],[0,1,2]),([3,3],[3]),([],[]),([],[]),([],[]),([5,6,7,4],[5,6,7]),([8,8],[8]),([4,9],[4,9]),([10],[10]),([11,9],[11]),([12],[12]),([12],[12]),([12],[12]),([13,14,15,12,12],[12,13,14,15]),([16,16,12],[12,16]),([12],[12]),([12],[12]),([12],[12]),([18,19,20,17,12],[12,18,19,20]),([21,21,12],[12,21]),([17,22,12],[12,17,22]),([23,12],[12,23]),([12,24],[12,24]),([25,22],[25])])
def impl_meet.B19:List Nat:=[0,0,0,7,15,0,0,0,255,511,1023,2047,4095,8191,8191,8191,65535,131071,8191,8191,8191,2097151,4194303,8388607,16777215,33554431,67108863]
theorem impl_meet.tab19:rtab .any (opsOf Try.f68 19)=impl_meet.T19:=by kernel_rfl
theorem impl_meet.bits19:waitsOk impl_meet.T19.2 impl_meet.B19=true:=by kernel_rfl
set_option maxHeartbeats 8000000 in
set_option maxRecDepth 100000 in
theorem impl_meet.calls (k:Nat) (a0_0:Int) (a0_1:Int) (a1_0:Int) (a1_1:Int) (a2_0:Int) (a2_1:Int) (a3_0:Int) (a3_1:Int) (r:Int) (w:World) (h:impl_meet.f k a0_0 a0_1 a1_0 a1_1 a2_0 a2_1 a3_0 a3_1=some r) :
 Calls Try.prog 68 #[.agg #[.int .i64 a0_0,.int .i64 a0_1],.agg #[.int .i64 a1_0,.int .i64 a1_1],.agg #[.int .i64 a2_0,.int .i64 a2_1],.agg #[.int .i64 a3_0,.int .i64 a3_1]] w fun e w'=>e=.returned (.int .i64 r)∧Below w.heap.size w w':=by
 have hu40:=Try.underlying40
 have e84:∀ args w,(callFunc 84 args).run Try.prog w=.ok (.enter 84 args) w:=enters_of Try.func84 (by kernel_rfl) rfl
 have HB:=Aside0.mk (Below.refl w.heap.size w)
 obtain ⟨y254,hy⟩ : ∃ y:List S40,y = [(⟨a2_0,a2_1⟩ : S40),⟨a3_0,a3_1⟩]:=⟨_,rfl⟩
 have H':=Aside0.mk (show impl_meet.l0 k [] y254 (y254.length:Int) 0 a0_0 a0_1 a1_0 a1_1 a2_0 a2_1 a3_0 a3_1=some r from by rw [hy];exact h)
 have HY:=Aside0.mk hy
 have HYL:=Aside0.mk (show y254.length=2 from by rw [hy];rfl)
 clear h hy
 go_enter Try.func68,Try.ntmps68
 go_wp2_with (first
  | ((with_reducible refine gate_dst (N:=4) rfl ?_);refine bE 4 #[.int .i64 a0_0,.int .i64 a0_1] 40 ?_;intro gb247 hg w4 hbox hb;have n_:=Aside0.mk (below_step (by repeat (with_reducible first|exact HB.out|apply bA|apply bN|apply bD)) hb);have GE247:=Aside0.mk (show w.heap.size≤gb247 from by rw [hg];exact below_size (by repeat (with_reducible first|exact HB.out|apply bA|apply bN|apply bD)));clear HB;have HB:=n_;clear n_;have BX0:=Aside0.mk hbox;clear hb hbox hg)
  | ((with_reducible refine gate_dst (N:=5) rfl ?_);refine bE 5 #[.int .i64 a1_0,.int .i64 a1_1] 40 ?_;intro gb248 hg w5 hbox hb;have n_:=Aside0.mk (below_step (by repeat (with_reducible first|exact HB.out|apply bA|apply bN|apply bD)) hb);have GE248:=Aside0.mk (show w.heap.size≤gb248 from by rw [hg];exact below_size (by repeat (with_reducible first|exact HB.out|apply bA|apply bN|apply bD)));have m0_:=Aside0.mk (blk_below (g:=gb247) (o:=.cells #[.int .i64 a0_0,.int .i64 a0_1] 40 (0,0)) (by (with_reducible repeat (first|refine kN ?_ _|refine kD ?_|refine kA ?_ _));exact BX0.out) hb);clear HB;have HB:=n_;clear n_;clear BX0;have BX0:=m0_;clear m0_;have BX1:=Aside0.mk hbox;clear hb hbox hg)
  | ((with_reducible refine gate_dst (N:=6) rfl ?_);refine bE 6 #[.int .i64 a2_0,.int .i64 a2_1] 40 ?_;intro gb249 hg w6 hbox hb;have n_:=Aside0.mk (below_step (by repeat (with_reducible first|exact HB.out|apply bA|apply bN|apply bD)) hb);have GE249:=Aside0.mk (show w.heap.size≤gb249 from by rw [hg];exact below_size (by repeat (with_reducible first|exact HB.out|apply bA|apply bN|apply bD)));have m0_:=Aside0.mk (blk_below (g:=gb247) (o:=.cells #[.int .i64 a0_0,.int .i64 a0_1] 40 (0,0)) (by (with_reducible repeat (first|refine kN ?_ _|refine kD ?_|refine kA ?_ _));exact BX0.out) hb);have m1_:=Aside0.mk (blk_below (g:=gb248) (o:=.cells #[.int .i64 a1_0,.int .i64 a1_1] 40 (0,0)) (by (with_reducible repeat (first|refine kN ?_ _|refine kD ?_|refine kA ?_ _));exact BX1.out) hb);clear HB;have HB:=n_;clear n_;clear BX0;have BX0:=m0_;clear m0_;clear BX1;have BX1:=m1_;clear m1_;have BX2:=Aside0.mk hbox;clear hb hbox hg)
  | ((with_reducible refine gate_dst (N:=7) rfl ?_);refine bE 7 #[.int .i64 a3_0,.int .i64 a3_1] 40 ?_;intro gb250 hg w7 hbox hb;have n_:=Aside0.mk (below_step (by repeat (with_reducible first|exact HB.out|apply bA|apply bN|apply bD)) hb);have GE250:=Aside0.mk (show w.heap.size≤gb250 from by rw [hg];exact below_size (by repeat (with_reducible first|exact HB.out|apply bA|apply bN|apply bD)));have m0_:=Aside0.mk (blk_below (g:=gb247) (o:=.cells #[.int .i64 a0_0,.int .i64 a0_1] 40 (0,0)) (by (with_reducible repeat (first|refine kN ?_ _|refine kD ?_|refine kA ?_ _));exact BX0.out) hb);have m1_:=Aside0.mk (blk_below (g:=gb248) (o:=.cells #[.int .i64 a1_0,.int .i64 a1_1] 40 (0,0)) (by (with_reducible repeat (first|refine kN ?_ _|refine kD ?_|refine kA ?_ _));exact BX1.out) hb);have m2_:=Aside0.mk (blk_below (g:=gb249) (o:=.cells #[.int .i64 a2_0,.int .i64 a2_1] 40 (0,0)) (by (with_reducible repeat (first|refine kN ?_ _|refine kD ?_|refine kA ?_ _));exact BX2.out) hb);clear HB;have HB:=n_;clear n_;clear BX0;have BX0:=m0_;clear m0_;clear BX1;have BX1:=m1_;clear m1_;clear BX2;have BX2:=m2_;clear m2_;have BX3:=Aside0.mk hbox;clear hb hbox hg)
  | ((with_reducible refine gate_dst (N:=15) rfl ?_);refine Kd.R_lit k40 _ 40 ?hg (N:=15) ?hd (xs:=([]:List S40)) (inner:=[]) (ok:=fun _=>True) (okp:=fun _=>True) ?hr ?hp (fun _ hk=>hk) trivial (Below.refl _ _) (Nat.le_refl _) (by simp) ?_;(case hd=>rfl);(case hg=>rfl);(case hr=>first|(go_simp;done)|(go_simp;rfl));(case hp=>exact (Reps.none _ _));intro v15 w15 ho hb hg_ hnew_;clear hg_ hnew_;obtain ⟨A15,c15,hv15⟩:=Kd.R_slice ho;subst hv15;have HF15:=Aside0.mk (⟨blk_below (by (with_reducible repeat (first|refine kN ?_ _|refine kD ?_|refine kA ?_ _));exact BX0.out) hb,blk_below (by (with_reducible repeat (first|refine kN ?_ _|refine kD ?_|refine kA ?_ _));exact BX1.out) hb,blk_below (by (with_reducible repeat (first|refine kN ?_ _|refine kD ?_|refine kA ?_ _));exact BX2.out) hb,blk_below (by (with_reducible repeat (first|refine kN ?_ _|refine kD ?_|refine kA ?_ _));exact BX3.out) hb⟩ : Four gb247 gb248 gb249 gb250 a0_0 a0_1 a1_0 a1_1 a2_0 a2_1 a3_0 a3_1 w15);have n_:=Aside0.mk (below_step (by repeat (with_reducible first|exact HB.out|apply bA|apply bN|apply bD)) hb);have HR15:=Aside0.mk (Kd.R_lower (Kd.R_mono (Kd.R_bound ho) (ok':=fun k_=>¬ S4 gb247 gb248 gb249 gb250 k_) (fun k_ hk z=>by have q0:=Nat.lt_of_lt_of_le (blk_lt (g:=gb247) (o:=.cells #[.int .i64 a0_0,.int .i64 a0_1] 40 (0,0)) (by (with_reducible repeat (first|refine kN ?_ _|refine kD ?_|refine kA ?_ _));exact BX0.out)) hk.2.1;have q1:=Nat.lt_of_lt_of_le (blk_lt (g:=gb248) (o:=.cells #[.int .i64 a1_0,.int .i64 a1_1] 40 (0,0)) (by (with_reducible repeat (first|refine kN ?_ _|refine kD ?_|refine kA ?_ _));exact BX1.out)) hk.2.1;have q2:=Nat.lt_of_lt_of_le (blk_lt (g:=gb249) (o:=.cells #[.int .i64 a2_0,.int .i64 a2_1] 40 (0,0)) (by (with_reducible repeat (first|refine kN ?_ _|refine kD ?_|refine kA ?_ _));exact BX2.out)) hk.2.1;have q3:=Nat.lt_of_lt_of_le (blk_lt (g:=gb250) (o:=.cells #[.int .i64 a3_0,.int .i64 a3_1] 40 (0,0)) (by (with_reducible repeat (first|refine kN ?_ _|refine kD ?_|refine kA ?_ _));exact BX3.out)) hk.2.1;rcases z with e|e|e|e <;> omega)) (below_size (by repeat (with_reducible first|exact HB.out|apply bA|apply bN|apply bD))));clear HB;have HB:=n_;clear n_;clear ho hb BX0 BX1 BX2 BX3)
  | ((with_reducible refine gate_dst (N:=9) rfl ?_);refine bE 9 #[.slice none 0 0] 25 ?_;intro g9 hg w9 hbox hb;have HX9:=Aside0.mk hbox;have HE9:=Aside0.mk (fun w10 hw=>EInv.start (w10:=w10) HB.out HR15.out HF15.out (by repeat (first|(with_reducible first|exact Below.refl _ _|apply bA|apply bN|apply bD)|exact Below.refl _ _)) hbox hg hb hw);clear hg hbox hb)
  | ((with_reducible refine gate_store (t:=25) (p:=9) rfl ?_);refine store_event (by rfl) (t:=25) (p:=9) (v:=.tmp 15) (w1:=w9.setCell ⟨g9,0,none⟩ (.slice A15 0 c15)) rfl rfl ?hr ?_;(case hr=>have hb0:w9.cell? ⟨g9,0,none⟩=some (.slice none 0 0):=(blk_cell HX9.out 0).trans rfl;have hbf:=blk_frozen HX9.out 0;first|(go_simp;done)|(go_simp;rfl));intro w10 hw;obtain ⟨q1,q2⟩:=HE9.out w10 hw;have HE:=Aside0.mk q1;have HF:=Aside0.mk q2;clear hw q1 q2 HX9 HE9 HR15 HF15 HB;have hc6_0:w10.cell? ⟨gb249,0,none⟩=some (.int .i64 a2_0):=(blk_cell HF.out.b6 0).trans rfl;have hc6_1:w10.cell? ⟨gb249,1,none⟩=some (.int .i64 a2_1):=(blk_cell HF.out.b6 1).trans rfl;have hc7_0:w10.cell? ⟨gb250,0,none⟩=some (.int .i64 a3_0):=(blk_cell HF.out.b7 0).trans rfl;have hc7_1:w10.cell? ⟨gb250,1,none⟩=some (.int .i64 a3_1):=(blk_cell HF.out.b7 1).trans rfl)
  | ((with_reducible refine gate_dst (N:=19) rfl ?_);refine lit_event ?hg (N:=19) ?hd (cs:=#[.int .i64 a2_0,.int .i64 a2_1,.int .i64 a3_0,.int .i64 a3_1]) (t:=40) (n:=2) ?hr ?_;(case hd=>rfl);(case hg=>rfl);(case hr=>first|(go_simp;done)|(go_simp;rfl));intro gy hg w19 hbox hb;have BY:=Aside0.mk hbox;have n_:=Aside0.mk ((HE.out.step (by repeat (first|(with_reducible first|exact Below.refl _ _|apply bA|apply bN|apply bD)|exact Below.refl _ _))).next (S':=fun k_=>S4 gb247 gb248 gb249 gb250 k_∨k_=gy) hb (fun k_ z=>z.elim .inl (fun e=>.inr ⟨by rw [e,hg];exact Nat.le_refl _,by rw [e];exact blk_lt hbox⟩)));have m_:=Aside0.mk ((HF.out.step (by repeat (first|(with_reducible first|exact Below.refl _ _|apply bA|apply bN|apply bD)|exact Below.refl _ _))).step hb);clear HE HF;have HE:=n_;have HF:=m_;clear n_ m_ hg hbox hb))
 go_loopg [21] k (fun kq v21 w'=>∃ (l:List S40) (i:Int),v21=.int .i64 i∧Aside0 (impl_meet.l0 kq l y254 (y254.length:Int) i a0_0 a0_1 a1_0 a1_1 a2_0 a2_1 a3_0 a3_1=some r)∧Aside0 (kq≤k)∧Aside0 (EInv w w19 (fun k_=>S4 gb247 gb248 gb249 gb250 k_∨k_=gy) g9 l w'))
 case atStart=>exact ⟨[],0,by first|rfl|(simp;done)|(simp [*];done),H',⟨Nat.le_refl _⟩,⟨HE.out.step (by repeat (first|(with_reducible first|exact Below.refl _ _|apply bA|apply bN|apply bD)|exact Below.refl _ _))⟩⟩
 case round =>
  clear H' HE
  clear hc6_0 hc6_1 hc7_0 hc7_1
  obtain ⟨x9_1,i,rfl,HA,HK1,HE⟩:=hrel
  have HFr:=Aside0.mk (HF.out.same (fun k_ hk=>HE.out.same k_ (.inl hk)))
  have BYr:=Aside0.mk ((HE.out.same gy (.inr rfl)).trans BY.out)
  rcases gk with _|k1
  ·exact absurd HA.out (by simp [impl_meet.l0])
  have H:=HA.out
  clear HA
  simp only [impl_meet.l0] at H
  by_cases c1:i < (y254.length:Int)
  ·rw [if_pos c1] at H
   have c2:i < 2:=by rw [HYL.out] at c1;exact c1
   have c1b:=decide_eq_true c1
   have c2b:=decide_eq_true c2
   have c2c:=eq_true c2
   by_cases c3:0≤i
   ·rw [if_pos c3,if_pos c1] at H
    have c3b:=decide_eq_true c3
    have c3c:=eq_true c3
    obtain ⟨hx0,hx1⟩:=two_at BYr.out HY.out i c3 c1
    obtain ⟨p,hp⟩ : ∃ p,p=rd_T40 y254 i:=⟨_,rfl⟩
    rw [← hp] at hx0 hx1 H
    clear hp c1
    obtain ⟨t,A24,H⟩:=Option.bind_eq_some_iff.mp H
    have HIS:=Aside0.mk A24
    clear A24
    cases t with
    | true =>
     rw [if_pos rfl] at H
     obtain ⟨l2,A26,H⟩:=Option.bind_eq_some_iff.mp H
     have HC:=Aside0.mk A26
     have H':=Aside0.mk H
     clear H A26
     go_wp2_with (first
      | ((with_reducible refine gate_dst (N:=12) rfl ?_);refine bE 12 #[.int .i64 0,.int .i64 0] 40 ?_;intro gx hg wb hbox hb;have BQ:=Aside0.mk hbox;have HBX:=Aside0.mk (below_step (by repeat (first|(with_reducible first|exact Below.refl _ _|apply bA|apply bN|apply bD)|exact Below.refl _ _)) hb:Below wr.heap.size wr wb);have GX:=Aside0.mk (show wr.heap.size≤gx from by rw [hg];exact below_size (by repeat (first|(with_reducible first|exact Below.refl _ _|apply bA|apply bN|apply bD)|exact Below.refl _ _)));clear hg hbox hb)
      | ((with_reducible refine gate_store (t:=40) (p:=12) rfl ?_);refine store_event (by rfl) (t:=40) (p:=12) (v:=.tmp 24) (w1:=(wb.setCell ⟨gx,0,none⟩ (.int .i64 p.f0)).setCell ⟨gx,1,none⟩ (.int .i64 p.f1)) rfl rfl ?hr ?_;(case hr=>have hb0:wb.cell? ⟨gx,0,none⟩=some (.int .i64 0):=(blk_cell BQ.out 0).trans rfl;have hb1:wb.cell? ⟨gx,1,none⟩=some (.int .i64 0):=(blk_cell BQ.out 1).trans rfl;have hf0:=blk_frozen BQ.out 0;have hf1:=blk_frozen BQ.out 1;first|(go_simp;done)|(go_simp;rfl));intro wc hw;have BXc:=Aside0.mk (show wc.heap[gx]? = some (.cells #[.int .i64 p.f0,.int .i64 p.f1] 40 (0,0)) from by rw [hw];exact blk_put (blk_put BQ.out 0 _ rfl) 1 _ rfl);have HBc:=Aside0.mk (show Below wr.heap.size wr wc from by rw [hw];exact below_set (below_set HBX.out GX.out) GX.out);have HFc:=Aside0.mk (HFr.out.step HBc.out);clear hw;have hq00:wc.cell? ⟨gb247,0,none⟩=some (.int .i64 a0_0):=(blk_cell HFc.out.b4 0).trans rfl;have hq01:wc.cell? ⟨gb247,1,none⟩=some (.int .i64 a0_1):=(blk_cell HFc.out.b4 1).trans rfl;have hq10:wc.cell? ⟨gb248,0,none⟩=some (.int .i64 a1_0):=(blk_cell HFc.out.b5 0).trans rfl;have hq11:wc.cell? ⟨gb248,1,none⟩=some (.int .i64 a1_1):=(blk_cell HFc.out.b5 1).trans rfl;have hg0:wc.cell? ⟨gx,0,none⟩=some (.int .i64 p.f0):=(blk_cell BXc.out 0).trans rfl;have hg1:wc.cell? ⟨gx,1,none⟩=some (.int .i64 p.f1):=(blk_cell BXc.out 1).trans rfl)
      | ((with_reducible refine gate_callee (f:=76) rfl ?_);refine goesL_ (some 28) rfl rfl Try.func76 (by kernel_rfl) rfl #[.agg #[.int .i64 a0_0,.int .i64 a0_1],.agg #[.int .i64 a1_0,.int .i64 a1_1],.agg #[.int .i64 p.f0,.int .i64 p.f1]] rfl (by (try simp only [List.map_toArray,List.map_cons,List.map_nil]);first|done|rfl) ?_;(with_reducible refine (impl_isOn.calls a0_0 a0_1 a1_0 a1_1 p.f0 p.f1 true _ HIS.out).mono ?_);rintro e wd ⟨rfl,hb⟩;refine ⟨_,rfl,?_⟩;have HBd:=Aside0.mk (below_step (by repeat (first|(with_reducible first|exact HBc.out|apply bA|apply bN|apply bD)|exact HBc.out)) hb:Below wr.heap.size wr wd);have BXd:=Aside0.mk (blk_below (g:=gx) (o:=.cells #[.int .i64 p.f0,.int .i64 p.f1] 40 (0,0)) (by (with_reducible repeat (first|refine kN ?_ _|refine kD ?_|refine kA ?_ _));exact BXc.out) hb);clear hb;have hh0:wd.cell? ⟨gx,0,none⟩=some (.int .i64 p.f0):=(blk_cell BXd.out 0).trans rfl;have hh1:wd.cell? ⟨gx,1,none⟩=some (.int .i64 p.f1):=(blk_cell BXd.out 1).trans rfl)
      | (go_at_fn 84;(refine (impl_meet_1.calls p.f0 p.f1 (HE.out.step (by repeat (first|(with_reducible first|exact HBd.out|apply bA|apply bN|apply bD)|exact HBd.out))) HC.out).mono ?_);rintro e we ⟨rfl,he⟩;have HEe:=Aside0.mk he;clear he))
     go_roundg k1
     case measure=>have:=HK1.out;omega
     case rel=>exact ⟨l2,wrap64 (i+1),by first|rfl|exact congrArg (Value.int .i64) (by unfold wrap64;omega)|(simp;done)|(simp [*];done),H',⟨by have:=HK1.out;omega⟩,⟨HEe.out.step (by repeat (first|(with_reducible first|exact Below.refl _ _|apply bA|apply bN|apply bD)|exact Below.refl _ _))⟩⟩
    | false =>
     rw [if_neg (by decide)] at H
     have H':=Aside0.mk H
     clear H
     go_wp2_with (first
      | ((with_reducible refine gate_dst (N:=12) rfl ?_);refine bE 12 #[.int .i64 0,.int .i64 0] 40 ?_;intro gx hg wb hbox hb;have BQ:=Aside0.mk hbox;have HBX:=Aside0.mk (below_step (by repeat (first|(with_reducible first|exact Below.refl _ _|apply bA|apply bN|apply bD)|exact Below.refl _ _)) hb:Below wr.heap.size wr wb);have GX:=Aside0.mk (show wr.heap.size≤gx from by rw [hg];exact below_size (by repeat (first|(with_reducible first|exact Below.refl _ _|apply bA|apply bN|apply bD)|exact Below.refl _ _)));clear hg hbox hb)
      | ((with_reducible refine gate_store (t:=40) (p:=12) rfl ?_);refine store_event (by rfl) (t:=40) (p:=12) (v:=.tmp 24) (w1:=(wb.setCell ⟨gx,0,none⟩ (.int .i64 p.f0)).setCell ⟨gx,1,none⟩ (.int .i64 p.f1)) rfl rfl ?hr ?_;(case hr=>have hb0:wb.cell? ⟨gx,0,none⟩=some (.int .i64 0):=(blk_cell BQ.out 0).trans rfl;have hb1:wb.cell? ⟨gx,1,none⟩=some (.int .i64 0):=(blk_cell BQ.out 1).trans rfl;have hf0:=blk_frozen BQ.out 0;have hf1:=blk_frozen BQ.out 1;first|(go_simp;done)|(go_simp;rfl));intro wc hw;have BXc:=Aside0.mk (show wc.heap[gx]? = some (.cells #[.int .i64 p.f0,.int .i64 p.f1] 40 (0,0)) from by rw [hw];exact blk_put (blk_put BQ.out 0 _ rfl) 1 _ rfl);have HBc:=Aside0.mk (show Below wr.heap.size wr wc from by rw [hw];exact below_set (below_set HBX.out GX.out) GX.out);have HFc:=Aside0.mk (HFr.out.step HBc.out);clear hw;have hq00:wc.cell? ⟨gb247,0,none⟩=some (.int .i64 a0_0):=(blk_cell HFc.out.b4 0).trans rfl;have hq01:wc.cell? ⟨gb247,1,none⟩=some (.int .i64 a0_1):=(blk_cell HFc.out.b4 1).trans rfl;have hq10:wc.cell? ⟨gb248,0,none⟩=some (.int .i64 a1_0):=(blk_cell HFc.out.b5 0).trans rfl;have hq11:wc.cell? ⟨gb248,1,none⟩=some (.int .i64 a1_1):=(blk_cell HFc.out.b5 1).trans rfl;have hg0:wc.cell? ⟨gx,0,none⟩=some (.int .i64 p.f0):=(blk_cell BXc.out 0).trans rfl;have hg1:wc.cell? ⟨gx,1,none⟩=some (.int .i64 p.f1):=(blk_cell BXc.out 1).trans rfl)
      | ((with_reducible refine gate_callee (f:=76) rfl ?_);refine goesL_ (some 28) rfl rfl Try.func76 (by kernel_rfl) rfl #[.agg #[.int .i64 a0_0,.int .i64 a0_1],.agg #[.int .i64 a1_0,.int .i64 a1_1],.agg #[.int .i64 p.f0,.int .i64 p.f1]] rfl (by (try simp only [List.map_toArray,List.map_cons,List.map_nil]);first|done|rfl) ?_;(with_reducible refine (impl_isOn.calls a0_0 a0_1 a1_0 a1_1 p.f0 p.f1 false _ HIS.out).mono ?_);rintro e wd ⟨rfl,hb⟩;refine ⟨_,rfl,?_⟩;have HBd:=Aside0.mk (below_step (by repeat (first|(with_reducible first|exact HBc.out|apply bA|apply bN|apply bD)|exact HBc.out)) hb:Below wr.heap.size wr wd);have BXd:=Aside0.mk (blk_below (g:=gx) (o:=.cells #[.int .i64 p.f0,.int .i64 p.f1] 40 (0,0)) (by (with_reducible repeat (first|refine kN ?_ _|refine kD ?_|refine kA ?_ _));exact BXc.out) hb);clear hb;have hh0:wd.cell? ⟨gx,0,none⟩=some (.int .i64 p.f0):=(blk_cell BXd.out 0).trans rfl;have hh1:wd.cell? ⟨gx,1,none⟩=some (.int .i64 p.f1):=(blk_cell BXd.out 1).trans rfl))
     go_roundg k1
     case measure=>have:=HK1.out;omega
     case rel=>exact ⟨x9_1,wrap64 (i+1),by first|rfl|exact congrArg (Value.int .i64) (by unfold wrap64;omega)|(simp;done)|(simp [*];done),H',⟨by have:=HK1.out;omega⟩,⟨HE.out.step (by repeat (first|(with_reducible first|exact HBd.out|apply bA|apply bN|apply bD)|exact HBd.out))⟩⟩
   ·rw [if_neg c3] at H
    exact absurd H (by simp)
  ·rw [if_neg c1] at H
   have c2:¬ i < 2:=by rw [HYL.out] at c1;exact c1
   have c1b:=decide_eq_false c1
   have c2b:=decide_eq_false c2
   have c2c:=eq_false c2
   clear c1 c2
   obtain ⟨y263,hz⟩ : ∃ y:List S40,y = [(⟨a0_0,a0_1⟩ : S40),⟨a1_0,a1_1⟩]:=⟨_,rfl⟩
   have H':=Aside0.mk (show impl_meet.l1 k1 x9_1 y263 (y263.length:Int) 0 a0_0 a0_1 a1_0 a1_1 a2_0 a2_1 a3_0 a3_1=some r from by rw [hz];exact H)
   have HZ:=Aside0.mk hz
   have HZL:=Aside0.mk (show y263.length=2 from by rw [hz];rfl)
   clear H hz HF
   have HF:=HFr
   clear BYr HFr
   have h40:wr.cell? ⟨gb247,0,none⟩=some (.int .i64 a0_0):=(blk_cell HF.out.b4 0).trans rfl
   have h41:wr.cell? ⟨gb247,1,none⟩=some (.int .i64 a0_1):=(blk_cell HF.out.b4 1).trans rfl
   have h50:wr.cell? ⟨gb248,0,none⟩=some (.int .i64 a1_0):=(blk_cell HF.out.b5 0).trans rfl
   have h51:wr.cell? ⟨gb248,1,none⟩=some (.int .i64 a1_1):=(blk_cell HF.out.b5 1).trans rfl
   go_wp2_with (first
    | ((with_reducible refine gate_dst (N:=35) rfl ?_);refine lit_event ?hg (N:=35) ?hd (cs:=#[.int .i64 a0_0,.int .i64 a0_1,.int .i64 a1_0,.int .i64 a1_1]) (t:=40) (n:=2) ?hr ?_;(case hd=>rfl);(case hg=>rfl);(case hr=>first|(go_simp;done)|(go_simp;rfl));intro gz hg w35 hbox hb;have BY2:=Aside0.mk hbox;have n_:=Aside0.mk ((HE.out.step (by repeat (first|(with_reducible first|exact Below.refl _ _|apply bA|apply bN|apply bD)|exact Below.refl _ _))).next (S':=fun k_=>S4 gb247 gb248 gb249 gb250 k_∨k_=gz) hb (fun k_ z=>z.elim (fun z=>.inl (.inl z)) (fun e=>.inr ⟨by rw [e,hg];exact Nat.le_refl _,by rw [e];exact blk_lt hbox⟩)));have m_:=Aside0.mk ((HF.out.step (by repeat (first|(with_reducible first|exact Below.refl _ _|apply bA|apply bN|apply bD)|exact Below.refl _ _))).step hb);clear HE HF;have HE:=n_;have HF:=m_;clear n_ m_ hg hbox hb))
   go_loopg [37] k1 (fun kq v37 w'=>∃ (l:List S40) (i:Int),v37=.int .i64 i∧Aside0 (impl_meet.l1 kq l y263 (y263.length:Int) i a0_0 a0_1 a1_0 a1_1 a2_0 a2_1 a3_0 a3_1=some r)∧Aside0 (kq≤k1)∧Aside0 (EInv w w35 (fun k_=>S4 gb247 gb248 gb249 gb250 k_∨k_=gz) g9 l w'))
   case atStart=>exact ⟨x9_1,0,by first|rfl|(simp;done)|(simp [*];done),H',⟨Nat.le_refl _⟩,⟨HE.out.step (by repeat (first|(with_reducible first|exact Below.refl _ _|apply bA|apply bN|apply bD)|exact Below.refl _ _))⟩⟩
   case round =>
    clear H' HE
    clear h40 h41 h50 h51
    obtain ⟨x9_2,i,rfl,HA,HK2,HE⟩:=hrel
    have HFr:=Aside0.mk (HF.out.same (fun k_ hk=>HE.out.same k_ (.inl hk)))
    have BYr:=Aside0.mk ((HE.out.same gz (.inr rfl)).trans BY2.out)
    rcases gk with _|k2
    ·exact absurd HA.out (by simp [impl_meet.l1])
    have H:=HA.out
    clear HA
    simp only [impl_meet.l1] at H
    by_cases c1:i < (y263.length:Int)
    ·rw [if_pos c1] at H
     have c2:i < 2:=by rw [HZL.out] at c1;exact c1
     have c1b:=decide_eq_true c1
     have c2b:=decide_eq_true c2
     have c2c:=eq_true c2
     by_cases c3:0≤i
     ·rw [if_pos c3,if_pos c1] at H
      have c3b:=decide_eq_true c3
      have c3c:=eq_true c3
      obtain ⟨hx0,hx1⟩:=two_at BYr.out HZ.out i c3 c1
      obtain ⟨p,hp⟩ : ∃ p,p=rd_T40 y263 i:=⟨_,rfl⟩
      rw [← hp] at hx0 hx1 H
      clear hp c1
      obtain ⟨t,A24,H⟩:=Option.bind_eq_some_iff.mp H
      have HIS:=Aside0.mk A24
      clear A24
      cases t with
      | true =>
       rw [if_pos rfl] at H
       obtain ⟨l2,A26,H⟩:=Option.bind_eq_some_iff.mp H
       have HC:=Aside0.mk A26
       have H':=Aside0.mk H
       clear H A26
       go_wp2_with (first
        | ((with_reducible refine gate_dst (N:=14) rfl ?_);refine bE 14 #[.int .i64 0,.int .i64 0] 40 ?_;intro gx hg wb hbox hb;have BQ:=Aside0.mk hbox;have HBX:=Aside0.mk (below_step (by repeat (first|(with_reducible first|exact Below.refl _ _|apply bA|apply bN|apply bD)|exact Below.refl _ _)) hb:Below wr.heap.size wr wb);have GX:=Aside0.mk (show wr.heap.size≤gx from by rw [hg];exact below_size (by repeat (first|(with_reducible first|exact Below.refl _ _|apply bA|apply bN|apply bD)|exact Below.refl _ _)));clear hg hbox hb)
        | ((with_reducible refine gate_store (t:=40) (p:=14) rfl ?_);refine store_event (by rfl) (t:=40) (p:=14) (v:=.tmp 40) (w1:=(wb.setCell ⟨gx,0,none⟩ (.int .i64 p.f0)).setCell ⟨gx,1,none⟩ (.int .i64 p.f1)) rfl rfl ?hr ?_;(case hr=>have hb0:wb.cell? ⟨gx,0,none⟩=some (.int .i64 0):=(blk_cell BQ.out 0).trans rfl;have hb1:wb.cell? ⟨gx,1,none⟩=some (.int .i64 0):=(blk_cell BQ.out 1).trans rfl;have hf0:=blk_frozen BQ.out 0;have hf1:=blk_frozen BQ.out 1;first|(go_simp;done)|(go_simp;rfl));intro wc hw;have BXc:=Aside0.mk (show wc.heap[gx]? = some (.cells #[.int .i64 p.f0,.int .i64 p.f1] 40 (0,0)) from by rw [hw];exact blk_put (blk_put BQ.out 0 _ rfl) 1 _ rfl);have HBc:=Aside0.mk (show Below wr.heap.size wr wc from by rw [hw];exact below_set (below_set HBX.out GX.out) GX.out);have HFc:=Aside0.mk (HFr.out.step HBc.out);clear hw;have hq20:wc.cell? ⟨gb249,0,none⟩=some (.int .i64 a2_0):=(blk_cell HFc.out.b6 0).trans rfl;have hq21:wc.cell? ⟨gb249,1,none⟩=some (.int .i64 a2_1):=(blk_cell HFc.out.b6 1).trans rfl;have hq30:wc.cell? ⟨gb250,0,none⟩=some (.int .i64 a3_0):=(blk_cell HFc.out.b7 0).trans rfl;have hq31:wc.cell? ⟨gb250,1,none⟩=some (.int .i64 a3_1):=(blk_cell HFc.out.b7 1).trans rfl;have hg0:wc.cell? ⟨gx,0,none⟩=some (.int .i64 p.f0):=(blk_cell BXc.out 0).trans rfl;have hg1:wc.cell? ⟨gx,1,none⟩=some (.int .i64 p.f1):=(blk_cell BXc.out 1).trans rfl)
        | ((with_reducible refine gate_callee (f:=76) rfl ?_);refine goesL_ (some 44) rfl rfl Try.func76 (by kernel_rfl) rfl #[.agg #[.int .i64 a2_0,.int .i64 a2_1],.agg #[.int .i64 a3_0,.int .i64 a3_1],.agg #[.int .i64 p.f0,.int .i64 p.f1]] rfl (by (try simp only [List.map_toArray,List.map_cons,List.map_nil]);first|done|rfl) ?_;(with_reducible refine (impl_isOn.calls a2_0 a2_1 a3_0 a3_1 p.f0 p.f1 true _ HIS.out).mono ?_);rintro e wd ⟨rfl,hb⟩;refine ⟨_,rfl,?_⟩;have HBd:=Aside0.mk (below_step (by repeat (first|(with_reducible first|exact HBc.out|apply bA|apply bN|apply bD)|exact HBc.out)) hb:Below wr.heap.size wr wd);have BXd:=Aside0.mk (blk_below (g:=gx) (o:=.cells #[.int .i64 p.f0,.int .i64 p.f1] 40 (0,0)) (by (with_reducible repeat (first|refine kN ?_ _|refine kD ?_|refine kA ?_ _));exact BXc.out) hb);clear hb;have hh0:wd.cell? ⟨gx,0,none⟩=some (.int .i64 p.f0):=(blk_cell BXd.out 0).trans rfl;have hh1:wd.cell? ⟨gx,1,none⟩=some (.int .i64 p.f1):=(blk_cell BXd.out 1).trans rfl)
        | (go_at_fn 84;(refine (impl_meet_1.calls p.f0 p.f1 (HE.out.step (by repeat (first|(with_reducible first|exact HBd.out|apply bA|apply bN|apply bD)|exact HBd.out))) HC.out).mono ?_);rintro e we ⟨rfl,he⟩;have HEe:=Aside0.mk he;clear he))
       go_roundg k2
       case measure=>have:=HK1.out;have:=HK2.out;omega
       case rel=>exact ⟨l2,wrap64 (i+1),by first|rfl|exact congrArg (Value.int .i64) (by unfold wrap64;omega)|(simp;done)|(simp [*];done),H',⟨by have:=HK1.out;have:=HK2.out;omega⟩,⟨HEe.out.step (by repeat (first|(with_reducible first|exact Below.refl _ _|apply bA|apply bN|apply bD)|exact Below.refl _ _))⟩⟩
      | false =>
       rw [if_neg (by decide)] at H
       have H':=Aside0.mk H
       clear H
       go_wp2_with (first
        | ((with_reducible refine gate_dst (N:=14) rfl ?_);refine bE 14 #[.int .i64 0,.int .i64 0] 40 ?_;intro gx hg wb hbox hb;have BQ:=Aside0.mk hbox;have HBX:=Aside0.mk (below_step (by repeat (first|(with_reducible first|exact Below.refl _ _|apply bA|apply bN|apply bD)|exact Below.refl _ _)) hb:Below wr.heap.size wr wb);have GX:=Aside0.mk (show wr.heap.size≤gx from by rw [hg];exact below_size (by repeat (first|(with_reducible first|exact Below.refl _ _|apply bA|apply bN|apply bD)|exact Below.refl _ _)));clear hg hbox hb)
        | ((with_reducible refine gate_store (t:=40) (p:=14) rfl ?_);refine store_event (by rfl) (t:=40) (p:=14) (v:=.tmp 40) (w1:=(wb.setCell ⟨gx,0,none⟩ (.int .i64 p.f0)).setCell ⟨gx,1,none⟩ (.int .i64 p.f1)) rfl rfl ?hr ?_;(case hr=>have hb0:wb.cell? ⟨gx,0,none⟩=some (.int .i64 0):=(blk_cell BQ.out 0).trans rfl;have hb1:wb.cell? ⟨gx,1,none⟩=some (.int .i64 0):=(blk_cell BQ.out 1).trans rfl;have hf0:=blk_frozen BQ.out 0;have hf1:=blk_frozen BQ.out 1;first|(go_simp;done)|(go_simp;rfl));intro wc hw;have BXc:=Aside0.mk (show wc.heap[gx]? = some (.cells #[.int .i64 p.f0,.int .i64 p.f1] 40 (0,0)) from by rw [hw];exact blk_put (blk_put BQ.out 0 _ rfl) 1 _ rfl);have HBc:=Aside0.mk (show Below wr.heap.size wr wc from by rw [hw];exact below_set (below_set HBX.out GX.out) GX.out);have HFc:=Aside0.mk (HFr.out.step HBc.out);clear hw;have hq20:wc.cell? ⟨gb249,0,none⟩=some (.int .i64 a2_0):=(blk_cell HFc.out.b6 0).trans rfl;have hq21:wc.cell? ⟨gb249,1,none⟩=some (.int .i64 a2_1):=(blk_cell HFc.out.b6 1).trans rfl;have hq30:wc.cell? ⟨gb250,0,none⟩=some (.int .i64 a3_0):=(blk_cell HFc.out.b7 0).trans rfl;have hq31:wc.cell? ⟨gb250,1,none⟩=some (.int .i64 a3_1):=(blk_cell HFc.out.b7 1).trans rfl;have hg0:wc.cell? ⟨gx,0,none⟩=some (.int .i64 p.f0):=(blk_cell BXc.out 0).trans rfl;have hg1:wc.cell? ⟨gx,1,none⟩=some (.int .i64 p.f1):=(blk_cell BXc.out 1).trans rfl)
        | ((with_reducible refine gate_callee (f:=76) rfl ?_);refine goesL_ (some 44) rfl rfl Try.func76 (by kernel_rfl) rfl #[.agg #[.int .i64 a2_0,.int .i64 a2_1],.agg #[.int .i64 a3_0,.int .i64 a3_1],.agg #[.int .i64 p.f0,.int .i64 p.f1]] rfl (by (try simp only [List.map_toArray,List.map_cons,List.map_nil]);first|done|rfl) ?_;(with_reducible refine (impl_isOn.calls a2_0 a2_1 a3_0 a3_1 p.f0 p.f1 false _ HIS.out).mono ?_);rintro e wd ⟨rfl,hb⟩;refine ⟨_,rfl,?_⟩;have HBd:=Aside0.mk (below_step (by repeat (first|(with_reducible first|exact HBc.out|apply bA|apply bN|apply bD)|exact HBc.out)) hb:Below wr.heap.size wr wd);have BXd:=Aside0.mk (blk_below (g:=gx) (o:=.cells #[.int .i64 p.f0,.int .i64 p.f1] 40 (0,0)) (by (with_reducible repeat (first|refine kN ?_ _|refine kD ?_|refine kA ?_ _));exact BXc.out) hb);clear hb;have hh0:wd.cell? ⟨gx,0,none⟩=some (.int .i64 p.f0):=(blk_cell BXd.out 0).trans rfl;have hh1:wd.cell? ⟨gx,1,none⟩=some (.int .i64 p.f1):=(blk_cell BXd.out 1).trans rfl))
       go_roundg k2
       case measure=>have:=HK1.out;have:=HK2.out;omega
       case rel=>exact ⟨x9_2,wrap64 (i+1),by first|rfl|exact congrArg (Value.int .i64) (by unfold wrap64;omega)|(simp;done)|(simp [*];done),H',⟨by have:=HK1.out;have:=HK2.out;omega⟩,⟨HE.out.step (by repeat (first|(with_reducible first|exact HBd.out|apply bA|apply bN|apply bD)|exact HBd.out))⟩⟩
     ·rw [if_neg c3] at H
      exact absurd H (by simp)
    ·rw [if_neg c1] at H
     have c2:¬ i < 2:=by rw [HZL.out] at c1;exact c1
     have c1b:=decide_eq_false c1
     have c2b:=decide_eq_false c2
     have c2c:=eq_false c2
     clear c1 c2
     obtain ⟨A9,c9,hx9,hf9,hr9⟩:=HE.out.row
     obtain ⟨v9,hv9⟩ : ∃ v,v=Value.slice A9 x9_2.length c9:=⟨_,rfl⟩
     rw [← hv9] at hx9 hr9
     have HO_9:=Aside0.mk hr9
     have HO_35:=Aside0.mk hr9
     have BK247:=Aside0.mk HFr.out.b4
     have BK248:=Aside0.mk HFr.out.b5
     have BK249:=Aside0.mk HFr.out.b6
     have BK250:=Aside0.mk HFr.out.b7
     have HB:=Aside0.mk HE.out.below
     clear hv9 hf9 hr9 HE HF HFr BYr BY BY2
     by_cases c105:(x9_2.length:Int) > 1
     ·rw [if_pos c105] at H
      have c105b0:decide (1 < (x9_2.length:Int))=true:=decide_eq_true c105
      have c105b1:decide (1 < x9_2.length)=true:=decide_eq_true (by omega)
      clear c105
      obtain rfl:=Option.some.inj H
      obtain ⟨Ao106,co106,eo106⟩:=Kd.R_slice HO_9.out
      subst eo106
      go_wp2
      go_ret
      exact ⟨by first|rfl|(simp [errW_none,errW_some] <;> rfl)|(simp [*,errW_none,errW_some] <;> rfl),by repeat (first|(with_reducible first|exact HB.out|apply bA|apply bN|apply bD|refine bS ?_ GE247.out|refine bS ?_ GE248.out|refine bS ?_ GE249.out|refine bS ?_ GE250.out)|exact HB.out)⟩
     ·rw [if_neg c105] at H
      have c105b0:decide (1 < (x9_2.length:Int))=false:=decide_eq_false c105
      have c105b1:decide (1 < x9_2.length)=false:=decide_eq_false (by omega)
      clear c105
      by_cases c107:(x9_2.length:Int)=1
      ·rw [if_pos c107] at H
       have c107b0:((x9_2.length:Int) == 1)=true:=beq_iff_eq.mpr c107
       have c107b1:((x9_2.length:Int) != 1)=false:=bne_eq_false_iff_eq.mpr c107
       clear c107
       obtain rfl:=Option.some.inj H
       obtain ⟨Ao108,co108,eo108⟩:=Kd.R_slice HO_9.out
       subst eo108
       go_wp2
       go_ret
       exact ⟨by first|rfl|(simp [errW_none,errW_some] <;> rfl)|(simp [*,errW_none,errW_some] <;> rfl),by repeat (first|(with_reducible first|exact HB.out|apply bA|apply bN|apply bD|refine bS ?_ GE247.out|refine bS ?_ GE248.out|refine bS ?_ GE249.out|refine bS ?_ GE250.out)|exact HB.out)⟩
      ·rw [if_neg c107] at H
       have c107b0:((x9_2.length:Int) == 1)=false:=beq_eq_false_iff_ne.mpr c107
       have c107b1:((x9_2.length:Int) != 1)=true:=bne_iff_ne.mpr c107
       replace H:=Option.bind_eq_some_iff.mp H
       obtain ⟨t272,A1090,H⟩:=H
       have A109:=Aside0.mk A1090
       clear A1090
       replace H:=Option.bind_eq_some_iff.mp H
       obtain ⟨t273,A1100,H⟩:=H
       have A110:=Aside0.mk A1100
       clear A1100
       replace H:=Option.bind_eq_some_iff.mp H
       obtain ⟨t274,A1110,H⟩:=H
       have A111:=Aside0.mk A1110
       clear A1110
       replace H:=Option.bind_eq_some_iff.mp H
       obtain ⟨t275,A1120,H⟩:=H
       have A112:=Aside0.mk A1120
       clear A1120
       by_cases c113:(wrap64 (t273 * t275)) < 0
       ·rw [if_pos c113] at H
        have c113b0:decide ((wrap64 (t273 * t275)) < 0)=true:=decide_eq_true c113
        clear c113
        replace H:=Option.bind_eq_some_iff.mp H
        obtain ⟨t276,A1140,H⟩:=H
        have A114:=Aside0.mk A1140
        clear A1140
        replace H:=Option.bind_eq_some_iff.mp H
        obtain ⟨t277,A1150,H⟩:=H
        have A115:=Aside0.mk A1150
        clear A1150
        replace H:=Option.bind_eq_some_iff.mp H
        obtain ⟨t278,A1160,H⟩:=H
        have A116:=Aside0.mk A1160
        clear A1160
        replace H:=Option.bind_eq_some_iff.mp H
        obtain ⟨t279,A1170,H⟩:=H
        have A117:=Aside0.mk A1170
        clear A1170
        obtain ⟨bv,c118b0⟩ : ∃ bv,decide ((wrap64 (t277 * t279)) < 0)=bv:=⟨_,rfl⟩
        obtain ⟨Ao119,co119,eo119⟩:=Kd.R_slice HO_9.out
        subst eo119
        try go_wp2
        have n0_:=Aside0.mk (Kd.R_drew HO_9.out)
        have n1_:=Aside0.mk (Kd.R_drew HO_35.out)
        have n2_:=Aside0.mk (blk_drew BK247.out)
        have n3_:=Aside0.mk (blk_drew BK248.out)
        have n4_:=Aside0.mk (blk_drew BK249.out)
        have n5_:=Aside0.mk (blk_drew BK250.out)
        have n6_:=Aside0.mk (below_drew1 HB.out)
        clear HO_9
        clear HO_35
        clear BK247
        clear BK248
        clear BK249
        clear BK250
        clear HB
        have HO_9:=n0_
        have HO_35:=n1_
        have BK247:=n2_
        have BK248:=n3_
        have BK249:=n4_
        have BK250:=n5_
        have HB:=n6_
        clear n0_ n1_ n2_ n3_ n4_ n5_ n6_
        refine start_ (n:=27) (S:=fun w'=>w'.cell? ⟨gb247,0,none⟩=some (.int .i64 a0_0)∧w'.cell? ⟨gb247,1,none⟩=some (.int .i64 a0_1)∧w'.cell? ⟨gb248,0,none⟩=some (.int .i64 a1_0)∧w'.cell? ⟨gb248,1,none⟩=some (.int .i64 a1_1)∧w'.cell? ⟨gb249,0,none⟩=some (.int .i64 a2_0)∧w'.cell? ⟨gb249,1,none⟩=some (.int .i64 a2_1)∧w'.cell? ⟨gb250,0,none⟩=some (.int .i64 a3_0)∧w'.cell? ⟨gb250,1,none⟩=some (.int .i64 a3_1)) (ds:=[]) (bV 27 0) (by kernel_rfl) rfl rfl ⟨(blk_cell BK247.out 0).trans rfl,(blk_cell BK247.out 1).trans rfl,(blk_cell BK248.out 0).trans rfl,(blk_cell BK248.out 1).trans rfl,(blk_cell BK249.out 0).trans rfl,(blk_cell BK249.out 1).trans rfl,(blk_cell BK250.out 0).trans rfl,(blk_cell BK250.out 1).trans rfl⟩ (fun hHeld=>?_);refine with_tabW impl_meet.tab19 impl_meet.bits19 (fun HT_ HW_=>?_)
        generalize wr.drew=w120 at HO_9 HO_35 BK247 BK248 BK249 BK250 HB hHeld ⊢
        refine tI 0 58 (bV 27 1) rfl (take_ofW HT_.out HW_.out (by kernel_rfl)) hHeld (by rintro w' ⟨s0,s1,s2,s3,s4,s5,s6,s7⟩;go_simp;with_reducible rfl) ?_
        refine tI 1 59 (bV 27 3) rfl (take_ofW HT_.out HW_.out (by kernel_rfl)) hHeld (by rintro w' ⟨s0,s1,s2,s3,s4,s5,s6,s7⟩;go_simp;with_reducible rfl) ?_
        refine tI 2 60 (bV 27 7) rfl (take_ofW HT_.out HW_.out (by kernel_rfl)) hHeld (by rintro w' ⟨s0,s1,s2,s3,s4,s5,s6,s7⟩;go_simp;with_reducible rfl) ?_
        refine tI 5 63 (bV 27 39) rfl (take_ofW HT_.out HW_.out (by kernel_rfl)) hHeld (by rintro w' ⟨s0,s1,s2,s3,s4,s5,s6,s7⟩;go_simp;with_reducible rfl) ?_
        refine tI 6 64 (bV 27 103) rfl (take_ofW HT_.out HW_.out (by kernel_rfl)) hHeld (by rintro w' ⟨s0,s1,s2,s3,s4,s5,s6,s7⟩;go_simp;with_reducible rfl) ?_
        refine tI 7 65 (bV 27 231) rfl (take_ofW HT_.out HW_.out (by kernel_rfl)) hHeld (by rintro w' ⟨s0,s1,s2,s3,s4,s5,s6,s7⟩;go_simp;with_reducible rfl) ?_
        refine one_ (i:=3) (N:=some 61) (bV 27 239) rfl rfl (one_of HT_.out (by kernel_rfl)) (by decide) (fun K hK=>?_)
        refine goes_ Try.func86 (by kernel_rfl) rfl #[.agg #[.int .i64 a0_0,.int .i64 a0_1],.agg #[.int .i64 a1_0,.int .i64 a1_1],.agg #[.int .i64 a2_0,.int .i64 a2_1]] (by rfl) rfl rfl (by (try simp only [List.map_toArray,List.map_cons,List.map_nil]);first|done|rfl) ?_
        with_reducible refine (impl_cross.calls a0_0 a0_1 a1_0 a1_1 a2_0 a2_1 t272 _ A109.out).mono ?_
        rintro e w121 ⟨rfl,hb⟩
        refine ⟨_,rfl,?_⟩
        have n0_:=Aside0.mk (Kd.R_below (by (with_reducible repeat (first|apply rA|apply rN|apply rD));exact HO_9.out) hb)
        have n1_:=Aside0.mk (Kd.R_below (by (with_reducible repeat (first|apply rA|apply rN|apply rD));exact HO_35.out) hb)
        have n2_:=Aside0.mk (blk_below (g:=gb247) (o:=.cells #[.int .i64 a0_0,.int .i64 a0_1] 40 (0,0)) (by repeat (with_reducible first|exact BK247.out|apply kN|apply kD|apply kA)) hb)
        have n3_:=Aside0.mk (blk_below (g:=gb248) (o:=.cells #[.int .i64 a1_0,.int .i64 a1_1] 40 (0,0)) (by repeat (with_reducible first|exact BK248.out|apply kN|apply kD|apply kA)) hb)
        have n4_:=Aside0.mk (blk_below (g:=gb249) (o:=.cells #[.int .i64 a2_0,.int .i64 a2_1] 40 (0,0)) (by repeat (with_reducible first|exact BK249.out|apply kN|apply kD|apply kA)) hb)
        have n5_:=Aside0.mk (blk_below (g:=gb250) (o:=.cells #[.int .i64 a3_0,.int .i64 a3_1] 40 (0,0)) (by repeat (with_reducible first|exact BK250.out|apply kN|apply kD|apply kA)) hb)
        have n6_:=Aside0.mk (below_step (by repeat (first|(with_reducible first|exact HB.out|apply bA|apply bN|apply bD|refine bS ?_ GE247.out|refine bS ?_ GE248.out|refine bS ?_ GE249.out|refine bS ?_ GE250.out)|exact HB.out)) hb)
        clear HO_9
        clear HO_35
        clear BK247
        clear BK248
        clear BK249
        clear BK250
        clear HB
        have HO_9:=n0_
        have HO_35:=n1_
        have BK247:=n2_
        have BK248:=n3_
        have BK249:=n4_
        have BK250:=n5_
        have HB:=n6_
        clear n0_ n1_ n2_ n3_ n4_ n5_ n6_
        (try clear hb)
        (try clear hb2)
        (try clear hk)
        (try clear hi)
        refine hK.out _ _ ⟨(blk_cell BK247.out 0).trans rfl,(blk_cell BK247.out 1).trans rfl,(blk_cell BK248.out 0).trans rfl,(blk_cell BK248.out 1).trans rfl,(blk_cell BK249.out 0).trans rfl,(blk_cell BK249.out 1).trans rfl,(blk_cell BK250.out 0).trans rfl,(blk_cell BK250.out 1).trans rfl⟩ (fun hHeld=>?_)
        clear hK K
        refine norm_ (a':=?_) ?_ ?_
        rotate_left
        ·show Act.put _ (some 61) _=_
         simp only [Act.put,sI,sZ,sS,i64_w,i32_w]
         rfl
        refine one_ (i:=4) (N:=some 62) (bV 27 255) rfl rfl (one_of HT_.out (by kernel_rfl)) (by decide) (fun K hK=>?_)
        refine goes_ Try.func85 (by kernel_rfl) rfl #[.int .i64 t272] (by rfl) rfl rfl (by (try simp only [List.map_toArray,List.map_cons,List.map_nil]);first|done|rfl) ?_
        with_reducible refine (impl_sign.calls t272 t273 _ A110.out).mono ?_
        rintro e w' ⟨rfl,⟨nd,rfl⟩⟩
        refine ⟨_,rfl,?_⟩
        refine hK.out _ _ ⟨(blk_cell BK247.out 0).trans rfl,(blk_cell BK247.out 1).trans rfl,(blk_cell BK248.out 0).trans rfl,(blk_cell BK248.out 1).trans rfl,(blk_cell BK249.out 0).trans rfl,(blk_cell BK249.out 1).trans rfl,(blk_cell BK250.out 0).trans rfl,(blk_cell BK250.out 1).trans rfl⟩ (fun hHeld=>?_)
        clear hK K
        refine norm_ (a':=?_) ?_ ?_
        rotate_left
        ·show Act.put _ (some 62) _=_
         simp only [Act.put,sI,sZ,sS,i64_w,i32_w]
         rfl
        refine one_ (i:=8) (N:=some 66) (bV 27 511) rfl rfl (one_of HT_.out (by kernel_rfl)) (by decide) (fun K hK=>?_)
        refine goes_ Try.func86 (by kernel_rfl) rfl #[.agg #[.int .i64 a0_0,.int .i64 a0_1],.agg #[.int .i64 a1_0,.int .i64 a1_1],.agg #[.int .i64 a3_0,.int .i64 a3_1]] (by rfl) rfl rfl (by (try simp only [List.map_toArray,List.map_cons,List.map_nil]);first|done|rfl) ?_
        with_reducible refine (impl_cross.calls a0_0 a0_1 a1_0 a1_1 a3_0 a3_1 t274 _ A111.out).mono ?_
        rintro e w122 ⟨rfl,hb⟩
        refine ⟨_,rfl,?_⟩
        have n0_:=Aside0.mk (Kd.R_below (by (with_reducible repeat (first|apply rA|apply rN|apply rD));exact HO_9.out) hb)
        have n1_:=Aside0.mk (Kd.R_below (by (with_reducible repeat (first|apply rA|apply rN|apply rD));exact HO_35.out) hb)
        have n2_:=Aside0.mk (blk_below (g:=gb247) (o:=.cells #[.int .i64 a0_0,.int .i64 a0_1] 40 (0,0)) (by repeat (with_reducible first|exact BK247.out|apply kN|apply kD|apply kA)) hb)
        have n3_:=Aside0.mk (blk_below (g:=gb248) (o:=.cells #[.int .i64 a1_0,.int .i64 a1_1] 40 (0,0)) (by repeat (with_reducible first|exact BK248.out|apply kN|apply kD|apply kA)) hb)
        have n4_:=Aside0.mk (blk_below (g:=gb249) (o:=.cells #[.int .i64 a2_0,.int .i64 a2_1] 40 (0,0)) (by repeat (with_reducible first|exact BK249.out|apply kN|apply kD|apply kA)) hb)
        have n5_:=Aside0.mk (blk_below (g:=gb250) (o:=.cells #[.int .i64 a3_0,.int .i64 a3_1] 40 (0,0)) (by repeat (with_reducible first|exact BK250.out|apply kN|apply kD|apply kA)) hb)
        have n6_:=Aside0.mk (below_step (by repeat (first|(with_reducible first|exact HB.out|apply bA|apply bN|apply bD|refine bS ?_ GE247.out|refine bS ?_ GE248.out|refine bS ?_ GE249.out|refine bS ?_ GE250.out)|exact HB.out)) hb)
        clear HO_9
        clear HO_35
        clear BK247
        clear BK248
        clear BK249
        clear BK250
        clear HB
        have HO_9:=n0_
        have HO_35:=n1_
        have BK247:=n2_
        have BK248:=n3_
        have BK249:=n4_
        have BK250:=n5_
        have HB:=n6_
        clear n0_ n1_ n2_ n3_ n4_ n5_ n6_
        (try clear hb)
        (try clear hb2)
        (try clear hk)
        (try clear hi)
        refine hK.out _ _ ⟨(blk_cell BK247.out 0).trans rfl,(blk_cell BK247.out 1).trans rfl,(blk_cell BK248.out 0).trans rfl,(blk_cell BK248.out 1).trans rfl,(blk_cell BK249.out 0).trans rfl,(blk_cell BK249.out 1).trans rfl,(blk_cell BK250.out 0).trans rfl,(blk_cell BK250.out 1).trans rfl⟩ (fun hHeld=>?_)
        clear hK K
        refine norm_ (a':=?_) ?_ ?_
        rotate_left
        ·show Act.put _ (some 66) _=_
         simp only [Act.put,sI,sZ,sS,i64_w,i32_w]
         rfl
        refine one_ (i:=9) (N:=some 67) (bV 27 1023) rfl rfl (one_of HT_.out (by kernel_rfl)) (by decide) (fun K hK=>?_)
        refine goes_ Try.func85 (by kernel_rfl) rfl #[.int .i64 t274] (by rfl) rfl rfl (by (try simp only [List.map_toArray,List.map_cons,List.map_nil]);first|done|rfl) ?_
        with_reducible refine (impl_sign.calls t274 t275 _ A112.out).mono ?_
        rintro e w' ⟨rfl,⟨nd,rfl⟩⟩
        refine ⟨_,rfl,?_⟩
        refine hK.out _ _ ⟨(blk_cell BK247.out 0).trans rfl,(blk_cell BK247.out 1).trans rfl,(blk_cell BK248.out 0).trans rfl,(blk_cell BK248.out 1).trans rfl,(blk_cell BK249.out 0).trans rfl,(blk_cell BK249.out 1).trans rfl,(blk_cell BK250.out 0).trans rfl,(blk_cell BK250.out 1).trans rfl⟩ (fun hHeld=>?_)
        clear hK K
        refine norm_ (a':=?_) ?_ ?_
        rotate_left
        ·show Act.put _ (some 67) _=_
         simp only [Act.put,sI,sZ,sS,i64_w,i32_w]
         rfl
        refine pT 10 68 (bV 27 2047) HT_.out ?_
        refine pT 11 69 (bV 27 4095) HT_.out ?_
        refine pT 12 70 (bV 27 8191) HT_.out ?_
        refine tI 13 71 (bV 27 16383) rfl (take_ofW HT_.out HW_.out (by kernel_rfl)) hHeld (by rintro w' ⟨s0,s1,s2,s3,s4,s5,s6,s7⟩;go_simp;with_reducible rfl) ?_
        refine tI 14 72 (bV 27 32767) rfl (take_ofW HT_.out HW_.out (by kernel_rfl)) hHeld (by rintro w' ⟨s0,s1,s2,s3,s4,s5,s6,s7⟩;go_simp;with_reducible rfl) ?_
        refine tI 15 73 (bV 27 65535) rfl (take_ofW HT_.out HW_.out (by kernel_rfl)) hHeld (by rintro w' ⟨s0,s1,s2,s3,s4,s5,s6,s7⟩;go_simp;with_reducible rfl) ?_
        refine tI 18 76 (bV 27 327679) rfl (take_ofW HT_.out HW_.out (by kernel_rfl)) hHeld (by rintro w' ⟨s0,s1,s2,s3,s4,s5,s6,s7⟩;go_simp;with_reducible rfl) ?_
        refine tI 19 77 (bV 27 851967) rfl (take_ofW HT_.out HW_.out (by kernel_rfl)) hHeld (by rintro w' ⟨s0,s1,s2,s3,s4,s5,s6,s7⟩;go_simp;with_reducible rfl) ?_
        refine tI 20 78 (bV 27 1900543) rfl (take_ofW HT_.out HW_.out (by kernel_rfl)) hHeld (by rintro w' ⟨s0,s1,s2,s3,s4,s5,s6,s7⟩;go_simp;with_reducible rfl) ?_
        refine one_ (i:=16) (N:=some 74) (bV 27 1966079) rfl rfl (one_of HT_.out (by kernel_rfl)) (by decide) (fun K hK=>?_)
        refine goes_ Try.func86 (by kernel_rfl) rfl #[.agg #[.int .i64 a2_0,.int .i64 a2_1],.agg #[.int .i64 a3_0,.int .i64 a3_1],.agg #[.int .i64 a0_0,.int .i64 a0_1]] (by rfl) rfl rfl (by (try simp only [List.map_toArray,List.map_cons,List.map_nil]);first|done|rfl) ?_
        with_reducible refine (impl_cross.calls a2_0 a2_1 a3_0 a3_1 a0_0 a0_1 t276 _ A114.out).mono ?_
        rintro e w123 ⟨rfl,hb⟩
        refine ⟨_,rfl,?_⟩
        have n0_:=Aside0.mk (Kd.R_below (by (with_reducible repeat (first|apply rA|apply rN|apply rD));exact HO_9.out) hb)
        have n1_:=Aside0.mk (Kd.R_below (by (with_reducible repeat (first|apply rA|apply rN|apply rD));exact HO_35.out) hb)
        have n2_:=Aside0.mk (blk_below (g:=gb247) (o:=.cells #[.int .i64 a0_0,.int .i64 a0_1] 40 (0,0)) (by repeat (with_reducible first|exact BK247.out|apply kN|apply kD|apply kA)) hb)
        have n3_:=Aside0.mk (blk_below (g:=gb248) (o:=.cells #[.int .i64 a1_0,.int .i64 a1_1] 40 (0,0)) (by repeat (with_reducible first|exact BK248.out|apply kN|apply kD|apply kA)) hb)
        have n4_:=Aside0.mk (blk_below (g:=gb249) (o:=.cells #[.int .i64 a2_0,.int .i64 a2_1] 40 (0,0)) (by repeat (with_reducible first|exact BK249.out|apply kN|apply kD|apply kA)) hb)
        have n5_:=Aside0.mk (blk_below (g:=gb250) (o:=.cells #[.int .i64 a3_0,.int .i64 a3_1] 40 (0,0)) (by repeat (with_reducible first|exact BK250.out|apply kN|apply kD|apply kA)) hb)
        have n6_:=Aside0.mk (below_step (by repeat (first|(with_reducible first|exact HB.out|apply bA|apply bN|apply bD|refine bS ?_ GE247.out|refine bS ?_ GE248.out|refine bS ?_ GE249.out|refine bS ?_ GE250.out)|exact HB.out)) hb)
        clear HO_9
        clear HO_35
        clear BK247
        clear BK248
        clear BK249
        clear BK250
        clear HB
        have HO_9:=n0_
        have HO_35:=n1_
        have BK247:=n2_
        have BK248:=n3_
        have BK249:=n4_
        have BK250:=n5_
        have HB:=n6_
        clear n0_ n1_ n2_ n3_ n4_ n5_ n6_
        (try clear hb)
        (try clear hb2)
        (try clear hk)
        (try clear hi)
        refine hK.out _ _ ⟨(blk_cell BK247.out 0).trans rfl,(blk_cell BK247.out 1).trans rfl,(blk_cell BK248.out 0).trans rfl,(blk_cell BK248.out 1).trans rfl,(blk_cell BK249.out 0).trans rfl,(blk_cell BK249.out 1).trans rfl,(blk_cell BK250.out 0).trans rfl,(blk_cell BK250.out 1).trans rfl⟩ (fun hHeld=>?_)
        clear hK K
        refine norm_ (a':=?_) ?_ ?_
        rotate_left
        ·show Act.put _ (some 74) _=_
         simp only [Act.put,sI,sZ,sS,i64_w,i32_w]
         rfl
        refine one_ (i:=17) (N:=some 75) (bV 27 2097151) rfl rfl (one_of HT_.out (by kernel_rfl)) (by decide) (fun K hK=>?_)
        refine goes_ Try.func85 (by kernel_rfl) rfl #[.int .i64 t276] (by rfl) rfl rfl (by (try simp only [List.map_toArray,List.map_cons,List.map_nil]);first|done|rfl) ?_
        with_reducible refine (impl_sign.calls t276 t277 _ A115.out).mono ?_
        rintro e w' ⟨rfl,⟨nd,rfl⟩⟩
        refine ⟨_,rfl,?_⟩
        refine hK.out _ _ ⟨(blk_cell BK247.out 0).trans rfl,(blk_cell BK247.out 1).trans rfl,(blk_cell BK248.out 0).trans rfl,(blk_cell BK248.out 1).trans rfl,(blk_cell BK249.out 0).trans rfl,(blk_cell BK249.out 1).trans rfl,(blk_cell BK250.out 0).trans rfl,(blk_cell BK250.out 1).trans rfl⟩ (fun hHeld=>?_)
        clear hK K
        refine norm_ (a':=?_) ?_ ?_
        rotate_left
        ·show Act.put _ (some 75) _=_
         simp only [Act.put,sI,sZ,sS,i64_w,i32_w]
         rfl
        refine one_ (i:=21) (N:=some 79) (bV 27 4194303) rfl rfl (one_of HT_.out (by kernel_rfl)) (by decide) (fun K hK=>?_)
        refine goes_ Try.func86 (by kernel_rfl) rfl #[.agg #[.int .i64 a2_0,.int .i64 a2_1],.agg #[.int .i64 a3_0,.int .i64 a3_1],.agg #[.int .i64 a1_0,.int .i64 a1_1]] (by rfl) rfl rfl (by (try simp only [List.map_toArray,List.map_cons,List.map_nil]);first|done|rfl) ?_
        with_reducible refine (impl_cross.calls a2_0 a2_1 a3_0 a3_1 a1_0 a1_1 t278 _ A116.out).mono ?_
        rintro e w124 ⟨rfl,hb⟩
        refine ⟨_,rfl,?_⟩
        have n0_:=Aside0.mk (Kd.R_below (by (with_reducible repeat (first|apply rA|apply rN|apply rD));exact HO_9.out) hb)
        have n1_:=Aside0.mk (Kd.R_below (by (with_reducible repeat (first|apply rA|apply rN|apply rD));exact HO_35.out) hb)
        have n2_:=Aside0.mk (blk_below (g:=gb247) (o:=.cells #[.int .i64 a0_0,.int .i64 a0_1] 40 (0,0)) (by repeat (with_reducible first|exact BK247.out|apply kN|apply kD|apply kA)) hb)
        have n3_:=Aside0.mk (blk_below (g:=gb248) (o:=.cells #[.int .i64 a1_0,.int .i64 a1_1] 40 (0,0)) (by repeat (with_reducible first|exact BK248.out|apply kN|apply kD|apply kA)) hb)
        have n4_:=Aside0.mk (blk_below (g:=gb249) (o:=.cells #[.int .i64 a2_0,.int .i64 a2_1] 40 (0,0)) (by repeat (with_reducible first|exact BK249.out|apply kN|apply kD|apply kA)) hb)
        have n5_:=Aside0.mk (blk_below (g:=gb250) (o:=.cells #[.int .i64 a3_0,.int .i64 a3_1] 40 (0,0)) (by repeat (with_reducible first|exact BK250.out|apply kN|apply kD|apply kA)) hb)
        have n6_:=Aside0.mk (below_step (by repeat (first|(with_reducible first|exact HB.out|apply bA|apply bN|apply bD|refine bS ?_ GE247.out|refine bS ?_ GE248.out|refine bS ?_ GE249.out|refine bS ?_ GE250.out)|exact HB.out)) hb)
        clear HO_9
        clear HO_35
        clear BK247
        clear BK248
        clear BK249
        clear BK250
        clear HB
        have HO_9:=n0_
        have HO_35:=n1_
        have BK247:=n2_
        have BK248:=n3_
        have BK249:=n4_
        have BK250:=n5_
        have HB:=n6_
        clear n0_ n1_ n2_ n3_ n4_ n5_ n6_
        (try clear hb)
        (try clear hb2)
        (try clear hk)
        (try clear hi)
        refine hK.out _ _ ⟨(blk_cell BK247.out 0).trans rfl,(blk_cell BK247.out 1).trans rfl,(blk_cell BK248.out 0).trans rfl,(blk_cell BK248.out 1).trans rfl,(blk_cell BK249.out 0).trans rfl,(blk_cell BK249.out 1).trans rfl,(blk_cell BK250.out 0).trans rfl,(blk_cell BK250.out 1).trans rfl⟩ (fun hHeld=>?_)
        clear hK K
        refine norm_ (a':=?_) ?_ ?_
        rotate_left
        ·show Act.put _ (some 79) _=_
         simp only [Act.put,sI,sZ,sS,i64_w,i32_w]
         rfl
        refine one_ (i:=22) (N:=some 80) (bV 27 8388607) rfl rfl (one_of HT_.out (by kernel_rfl)) (by decide) (fun K hK=>?_)
        refine goes_ Try.func85 (by kernel_rfl) rfl #[.int .i64 t278] (by rfl) rfl rfl (by (try simp only [List.map_toArray,List.map_cons,List.map_nil]);first|done|rfl) ?_
        with_reducible refine (impl_sign.calls t278 t279 _ A117.out).mono ?_
        rintro e w' ⟨rfl,⟨nd,rfl⟩⟩
        refine ⟨_,rfl,?_⟩
        refine hK.out _ _ ⟨(blk_cell BK247.out 0).trans rfl,(blk_cell BK247.out 1).trans rfl,(blk_cell BK248.out 0).trans rfl,(blk_cell BK248.out 1).trans rfl,(blk_cell BK249.out 0).trans rfl,(blk_cell BK249.out 1).trans rfl,(blk_cell BK250.out 0).trans rfl,(blk_cell BK250.out 1).trans rfl⟩ (fun hHeld=>?_)
        clear hK K
        refine norm_ (a':=?_) ?_ ?_
        rotate_left
        ·show Act.put _ (some 80) _=_
         simp only [Act.put,sI,sZ,sS,i64_w,i32_w]
         rfl
        refine pT 23 81 (bV 27 16777215) HT_.out ?_
        refine pT 24 82 (bV 27 33554431) HT_.out ?_
        refine pT 25 83 (bV 27 67108863) HT_.out ?_
        refine pT 26 57 (bV 27 134217727) HT_.out ?_
        refine done_ (done_of HT_.out (by kernel_rfl)) ?_
        cases bv with
        | true =>
         rw [if_pos (of_decide_eq_true c118b0)] at H
         clear c118b0
         obtain rfl:=Option.some.inj H
         try go_wp2
         go_ret
         exact ⟨by first|rfl|(simp [errW_none,errW_some] <;> rfl)|(simp [*,errW_none,errW_some] <;> rfl),by repeat (first|(with_reducible first|exact HB.out|apply bA|apply bN|apply bD|refine bS ?_ GE247.out|refine bS ?_ GE248.out|refine bS ?_ GE249.out|refine bS ?_ GE250.out)|exact HB.out)⟩
        | false =>
         rw [if_neg (of_decide_eq_false c118b0)] at H
         clear c118b0
         obtain rfl:=Option.some.inj H
         try go_wp2
         go_ret
         exact ⟨by first|rfl|(simp [errW_none,errW_some] <;> rfl)|(simp [*,errW_none,errW_some] <;> rfl),by repeat (first|(with_reducible first|exact HB.out|apply bA|apply bN|apply bD|refine bS ?_ GE247.out|refine bS ?_ GE248.out|refine bS ?_ GE249.out|refine bS ?_ GE250.out)|exact HB.out)⟩
       ·rw [if_neg c113] at H
        have c113b0:decide ((wrap64 (t273 * t275)) < 0)=false:=decide_eq_false c113
        clear c113
        obtain rfl:=Option.some.inj H
        obtain ⟨Ao131,co131,eo131⟩:=Kd.R_slice HO_9.out
        subst eo131
        try go_wp2
        have n0_:=Aside0.mk (Kd.R_drew HO_9.out)
        have n1_:=Aside0.mk (Kd.R_drew HO_35.out)
        have n2_:=Aside0.mk (blk_drew BK247.out)
        have n3_:=Aside0.mk (blk_drew BK248.out)
        have n4_:=Aside0.mk (blk_drew BK249.out)
        have n5_:=Aside0.mk (blk_drew BK250.out)
        have n6_:=Aside0.mk (below_drew1 HB.out)
        clear HO_9
        clear HO_35
        clear BK247
        clear BK248
        clear BK249
        clear BK250
        clear HB
        have HO_9:=n0_
        have HO_35:=n1_
        have BK247:=n2_
        have BK248:=n3_
        have BK249:=n4_
        have BK250:=n5_
        have HB:=n6_
        clear n0_ n1_ n2_ n3_ n4_ n5_ n6_
        refine start_ (n:=27) (S:=fun w'=>w'.cell? ⟨gb247,0,none⟩=some (.int .i64 a0_0)∧w'.cell? ⟨gb247,1,none⟩=some (.int .i64 a0_1)∧w'.cell? ⟨gb248,0,none⟩=some (.int .i64 a1_0)∧w'.cell? ⟨gb248,1,none⟩=some (.int .i64 a1_1)∧w'.cell? ⟨gb249,0,none⟩=some (.int .i64 a2_0)∧w'.cell? ⟨gb249,1,none⟩=some (.int .i64 a2_1)∧w'.cell? ⟨gb250,0,none⟩=some (.int .i64 a3_0)∧w'.cell? ⟨gb250,1,none⟩=some (.int .i64 a3_1)) (ds:=[]) (bV 27 0) (by kernel_rfl) rfl rfl ⟨(blk_cell BK247.out 0).trans rfl,(blk_cell BK247.out 1).trans rfl,(blk_cell BK248.out 0).trans rfl,(blk_cell BK248.out 1).trans rfl,(blk_cell BK249.out 0).trans rfl,(blk_cell BK249.out 1).trans rfl,(blk_cell BK250.out 0).trans rfl,(blk_cell BK250.out 1).trans rfl⟩ (fun hHeld=>?_);refine with_tabW impl_meet.tab19 impl_meet.bits19 (fun HT_ HW_=>?_)
        generalize wr.drew=w132 at HO_9 HO_35 BK247 BK248 BK249 BK250 HB hHeld ⊢
        refine tI 0 58 (bV 27 1) rfl (take_ofW HT_.out HW_.out (by kernel_rfl)) hHeld (by rintro w' ⟨s0,s1,s2,s3,s4,s5,s6,s7⟩;go_simp;with_reducible rfl) ?_
        refine tI 1 59 (bV 27 3) rfl (take_ofW HT_.out HW_.out (by kernel_rfl)) hHeld (by rintro w' ⟨s0,s1,s2,s3,s4,s5,s6,s7⟩;go_simp;with_reducible rfl) ?_
        refine tI 2 60 (bV 27 7) rfl (take_ofW HT_.out HW_.out (by kernel_rfl)) hHeld (by rintro w' ⟨s0,s1,s2,s3,s4,s5,s6,s7⟩;go_simp;with_reducible rfl) ?_
        refine tI 5 63 (bV 27 39) rfl (take_ofW HT_.out HW_.out (by kernel_rfl)) hHeld (by rintro w' ⟨s0,s1,s2,s3,s4,s5,s6,s7⟩;go_simp;with_reducible rfl) ?_
        refine tI 6 64 (bV 27 103) rfl (take_ofW HT_.out HW_.out (by kernel_rfl)) hHeld (by rintro w' ⟨s0,s1,s2,s3,s4,s5,s6,s7⟩;go_simp;with_reducible rfl) ?_
        refine tI 7 65 (bV 27 231) rfl (take_ofW HT_.out HW_.out (by kernel_rfl)) hHeld (by rintro w' ⟨s0,s1,s2,s3,s4,s5,s6,s7⟩;go_simp;with_reducible rfl) ?_
        refine one_ (i:=3) (N:=some 61) (bV 27 239) rfl rfl (one_of HT_.out (by kernel_rfl)) (by decide) (fun K hK=>?_)
        refine goes_ Try.func86 (by kernel_rfl) rfl #[.agg #[.int .i64 a0_0,.int .i64 a0_1],.agg #[.int .i64 a1_0,.int .i64 a1_1],.agg #[.int .i64 a2_0,.int .i64 a2_1]] (by rfl) rfl rfl (by (try simp only [List.map_toArray,List.map_cons,List.map_nil]);first|done|rfl) ?_
        with_reducible refine (impl_cross.calls a0_0 a0_1 a1_0 a1_1 a2_0 a2_1 t272 _ A109.out).mono ?_
        rintro e w133 ⟨rfl,hb⟩
        refine ⟨_,rfl,?_⟩
        have n0_:=Aside0.mk (Kd.R_below (by (with_reducible repeat (first|apply rA|apply rN|apply rD));exact HO_9.out) hb)
        have n1_:=Aside0.mk (Kd.R_below (by (with_reducible repeat (first|apply rA|apply rN|apply rD));exact HO_35.out) hb)
        have n2_:=Aside0.mk (blk_below (g:=gb247) (o:=.cells #[.int .i64 a0_0,.int .i64 a0_1] 40 (0,0)) (by repeat (with_reducible first|exact BK247.out|apply kN|apply kD|apply kA)) hb)
        have n3_:=Aside0.mk (blk_below (g:=gb248) (o:=.cells #[.int .i64 a1_0,.int .i64 a1_1] 40 (0,0)) (by repeat (with_reducible first|exact BK248.out|apply kN|apply kD|apply kA)) hb)
        have n4_:=Aside0.mk (blk_below (g:=gb249) (o:=.cells #[.int .i64 a2_0,.int .i64 a2_1] 40 (0,0)) (by repeat (with_reducible first|exact BK249.out|apply kN|apply kD|apply kA)) hb)
        have n5_:=Aside0.mk (blk_below (g:=gb250) (o:=.cells #[.int .i64 a3_0,.int .i64 a3_1] 40 (0,0)) (by repeat (with_reducible first|exact BK250.out|apply kN|apply kD|apply kA)) hb)
        have n6_:=Aside0.mk (below_step (by repeat (first|(with_reducible first|exact HB.out|apply bA|apply bN|apply bD|refine bS ?_ GE247.out|refine bS ?_ GE248.out|refine bS ?_ GE249.out|refine bS ?_ GE250.out)|exact HB.out)) hb)
        clear HO_9
        clear HO_35
        clear BK247
        clear BK248
        clear BK249
        clear BK250
        clear HB
        have HO_9:=n0_
        have HO_35:=n1_
        have BK247:=n2_
        have BK248:=n3_
        have BK249:=n4_
        have BK250:=n5_
        have HB:=n6_
        clear n0_ n1_ n2_ n3_ n4_ n5_ n6_
        (try clear hb)
        (try clear hb2)
        (try clear hk)
        (try clear hi)
        refine hK.out _ _ ⟨(blk_cell BK247.out 0).trans rfl,(blk_cell BK247.out 1).trans rfl,(blk_cell BK248.out 0).trans rfl,(blk_cell BK248.out 1).trans rfl,(blk_cell BK249.out 0).trans rfl,(blk_cell BK249.out 1).trans rfl,(blk_cell BK250.out 0).trans rfl,(blk_cell BK250.out 1).trans rfl⟩ (fun hHeld=>?_)
        clear hK K
        refine norm_ (a':=?_) ?_ ?_
        rotate_left
        ·show Act.put _ (some 61) _=_
         simp only [Act.put,sI,sZ,sS,i64_w,i32_w]
         rfl
        refine one_ (i:=4) (N:=some 62) (bV 27 255) rfl rfl (one_of HT_.out (by kernel_rfl)) (by decide) (fun K hK=>?_)
        refine goes_ Try.func85 (by kernel_rfl) rfl #[.int .i64 t272] (by rfl) rfl rfl (by (try simp only [List.map_toArray,List.map_cons,List.map_nil]);first|done|rfl) ?_
        with_reducible refine (impl_sign.calls t272 t273 _ A110.out).mono ?_
        rintro e w' ⟨rfl,⟨nd,rfl⟩⟩
        refine ⟨_,rfl,?_⟩
        refine hK.out _ _ ⟨(blk_cell BK247.out 0).trans rfl,(blk_cell BK247.out 1).trans rfl,(blk_cell BK248.out 0).trans rfl,(blk_cell BK248.out 1).trans rfl,(blk_cell BK249.out 0).trans rfl,(blk_cell BK249.out 1).trans rfl,(blk_cell BK250.out 0).trans rfl,(blk_cell BK250.out 1).trans rfl⟩ (fun hHeld=>?_)
        clear hK K
        refine norm_ (a':=?_) ?_ ?_
        rotate_left
        ·show Act.put _ (some 62) _=_
         simp only [Act.put,sI,sZ,sS,i64_w,i32_w]
         rfl
        refine one_ (i:=8) (N:=some 66) (bV 27 511) rfl rfl (one_of HT_.out (by kernel_rfl)) (by decide) (fun K hK=>?_)
        refine goes_ Try.func86 (by kernel_rfl) rfl #[.agg #[.int .i64 a0_0,.int .i64 a0_1],.agg #[.int .i64 a1_0,.int .i64 a1_1],.agg #[.int .i64 a3_0,.int .i64 a3_1]] (by rfl) rfl rfl (by (try simp only [List.map_toArray,List.map_cons,List.map_nil]);first|done|rfl) ?_
        with_reducible refine (impl_cross.calls a0_0 a0_1 a1_0 a1_1 a3_0 a3_1 t274 _ A111.out).mono ?_
        rintro e w134 ⟨rfl,hb⟩
        refine ⟨_,rfl,?_⟩
        have n0_:=Aside0.mk (Kd.R_below (by (with_reducible repeat (first|apply rA|apply rN|apply rD));exact HO_9.out) hb)
        have n1_:=Aside0.mk (Kd.R_below (by (with_reducible repeat (first|apply rA|apply rN|apply rD));exact HO_35.out) hb)
        have n2_:=Aside0.mk (blk_below (g:=gb247) (o:=.cells #[.int .i64 a0_0,.int .i64 a0_1] 40 (0,0)) (by repeat (with_reducible first|exact BK247.out|apply kN|apply kD|apply kA)) hb)
        have n3_:=Aside0.mk (blk_below (g:=gb248) (o:=.cells #[.int .i64 a1_0,.int .i64 a1_1] 40 (0,0)) (by repeat (with_reducible first|exact BK248.out|apply kN|apply kD|apply kA)) hb)
        have n4_:=Aside0.mk (blk_below (g:=gb249) (o:=.cells #[.int .i64 a2_0,.int .i64 a2_1] 40 (0,0)) (by repeat (with_reducible first|exact BK249.out|apply kN|apply kD|apply kA)) hb)
        have n5_:=Aside0.mk (blk_below (g:=gb250) (o:=.cells #[.int .i64 a3_0,.int .i64 a3_1] 40 (0,0)) (by repeat (with_reducible first|exact BK250.out|apply kN|apply kD|apply kA)) hb)
        have n6_:=Aside0.mk (below_step (by repeat (first|(with_reducible first|exact HB.out|apply bA|apply bN|apply bD|refine bS ?_ GE247.out|refine bS ?_ GE248.out|refine bS ?_ GE249.out|refine bS ?_ GE250.out)|exact HB.out)) hb)
        clear HO_9
        clear HO_35
        clear BK247
        clear BK248
        clear BK249
        clear BK250
        clear HB
        have HO_9:=n0_
        have HO_35:=n1_
        have BK247:=n2_
        have BK248:=n3_
        have BK249:=n4_
        have BK250:=n5_
        have HB:=n6_
        clear n0_ n1_ n2_ n3_ n4_ n5_ n6_
        (try clear hb)
        (try clear hb2)
        (try clear hk)
        (try clear hi)
        refine hK.out _ _ ⟨(blk_cell BK247.out 0).trans rfl,(blk_cell BK247.out 1).trans rfl,(blk_cell BK248.out 0).trans rfl,(blk_cell BK248.out 1).trans rfl,(blk_cell BK249.out 0).trans rfl,(blk_cell BK249.out 1).trans rfl,(blk_cell BK250.out 0).trans rfl,(blk_cell BK250.out 1).trans rfl⟩ (fun hHeld=>?_)
        clear hK K
        refine norm_ (a':=?_) ?_ ?_
        rotate_left
        ·show Act.put _ (some 66) _=_
         simp only [Act.put,sI,sZ,sS,i64_w,i32_w]
         rfl
        refine one_ (i:=9) (N:=some 67) (bV 27 1023) rfl rfl (one_of HT_.out (by kernel_rfl)) (by decide) (fun K hK=>?_)
        refine goes_ Try.func85 (by kernel_rfl) rfl #[.int .i64 t274] (by rfl) rfl rfl (by (try simp only [List.map_toArray,List.map_cons,List.map_nil]);first|done|rfl) ?_
        with_reducible refine (impl_sign.calls t274 t275 _ A112.out).mono ?_
        rintro e w' ⟨rfl,⟨nd,rfl⟩⟩
        refine ⟨_,rfl,?_⟩
        refine hK.out _ _ ⟨(blk_cell BK247.out 0).trans rfl,(blk_cell BK247.out 1).trans rfl,(blk_cell BK248.out 0).trans rfl,(blk_cell BK248.out 1).trans rfl,(blk_cell BK249.out 0).trans rfl,(blk_cell BK249.out 1).trans rfl,(blk_cell BK250.out 0).trans rfl,(blk_cell BK250.out 1).trans rfl⟩ (fun hHeld=>?_)
        clear hK K
        refine norm_ (a':=?_) ?_ ?_
        rotate_left
        ·show Act.put _ (some 67) _=_
         simp only [Act.put,sI,sZ,sS,i64_w,i32_w]
         rfl
        refine pT 10 68 (bV 27 2047) HT_.out ?_
        refine pT 11 69 (bV 27 4095) HT_.out ?_
        refine pT 12 70 (bV 27 8191) HT_.out ?_
        refine pU 13 71 (bV 27 16383) HT_.out ?_
        refine pU 14 72 (bV 27 32767) HT_.out ?_
        refine pU 15 73 (bV 27 65535) HT_.out ?_
        refine pU 16 74 (bV 27 131071) HT_.out ?_
        refine pU 17 75 (bV 27 262143) HT_.out ?_
        refine pU 18 76 (bV 27 524287) HT_.out ?_
        refine pU 19 77 (bV 27 1048575) HT_.out ?_
        refine pU 20 78 (bV 27 2097151) HT_.out ?_
        refine pU 21 79 (bV 27 4194303) HT_.out ?_
        refine pU 22 80 (bV 27 8388607) HT_.out ?_
        refine pU 23 81 (bV 27 16777215) HT_.out ?_
        refine pU 24 82 (bV 27 33554431) HT_.out ?_
        refine pT 25 83 (bV 27 67108863) HT_.out ?_
        refine pT 26 57 (bV 27 134217727) HT_.out ?_
        refine done_ (done_of HT_.out (by kernel_rfl)) ?_
        try go_wp2
        go_ret
        exact ⟨by first|rfl|(simp [errW_none,errW_some] <;> rfl)|(simp [*,errW_none,errW_some] <;> rfl),by repeat (first|(with_reducible first|exact HB.out|apply bA|apply bN|apply bD|refine bS ?_ GE247.out|refine bS ?_ GE248.out|refine bS ?_ GE249.out|refine bS ?_ GE250.out)|exact HB.out)⟩
end Go.Proofs.Ytadenfniiihifaa.QFnExactMeasuresOf
