/- What each Go function of this text answers, as a plain function, and that the machine comes to just that answer. -/
import Derived.Test.YtadenfniiihifaaQFnExactMeasuresOfx0
namespace Go.Proofs.Ytadenfniiihifaa.QFnExactMeasuresOf
open Go.RowKit Go.Proofs.YtadenfniiihifaaW.PrintWords Go.Proofs.YtadenfniiihifaaW.PrintLast Go.Proofs.YtadenfniiihifaaW.PrintMore
attribute [local go_sem] max2_int min2_int max_two min_two max_three min_three max_four min_four   -- for this text's walks alone
set_option linter.unusedVariables false
set_option maxHeartbeats 8000000
set_option maxRecDepth 100000
set_option linter.unusedSimpArgs false
def laws_szPointS.f (l0:List (S42)) (a1:Int):Option (Int):=if (wrap64 (a1 - (l0.length:Int))) < 0 then (some (-1)) else (some (wrap64 (a1 - (l0.length:Int))))
theorem laws_szPointS.calls (A0:Option Addr) (c0:Nat) (l0:List (S42)) (a1:Int) (r:Int) (w:World) (hr0:Kd.C k42 w A0 l0.length l0) (hc0:l0.length≤c0) (h:laws_szPointS.f l0 a1=some r) :
 Calls Try.prog 9 #[.slice A0 l0.length c0,.int .i64 a1] w fun e w'=>e=.returned (.int .i64 r)∧Drawn0 w w':=by
 have HR0:=Aside0.mk hr0
 have HC0:=Aside0.mk hc0
 clear hr0 hc0
 have H:(if (wrap64 (a1 - (l0.length:Int))) < 0 then (some (-1)) else (some (wrap64 (a1 - (l0.length:Int)))))=some r:=h
 clear h
 by_cases c3:(wrap64 (a1 - (l0.length:Int))) < 0
 ·rw [if_pos c3] at H
  have c3b0:decide ((wrap64 (a1 - (l0.length:Int))) < 0)=true:=decide_eq_true c3
  clear c3
  obtain rfl:=Option.some.inj H
  go_enter Try.func9,Try.ntmps9
  go_wp2
  go_ret
  exact ⟨by first|rfl|(simp;done)|(simp [*];done),by repeat (first|exact Drawn0.refl _|apply Drawn0.step)⟩
 ·rw [if_neg c3] at H
  have c3b0:decide ((wrap64 (a1 - (l0.length:Int))) < 0)=false:=decide_eq_false c3
  clear c3
  obtain rfl:=Option.some.inj H
  go_enter Try.func9,Try.ntmps9
  go_wp2
  go_ret
  exact ⟨by first|rfl|(simp;done)|(simp [*];done),by repeat (first|exact Drawn0.refl _|apply Drawn0.step)⟩
def laws_toPoint.f (a0_0:Int) (a0_1:Int):Option (Int × Int):=some (a0_0,a0_1)
theorem laws_toPoint.calls (a0_0:Int) (a0_1:Int) (r1:Int) (r2:Int) (w:World) (h:laws_toPoint.f a0_0 a0_1=some (r1,r2)) :
 Calls Try.prog 30 #[.agg #[.int .i64 a0_0,.int .i64 a0_1]] w fun e w'=>e=.returned (.agg #[.int .i64 r1,.int .i64 r2])∧Below w.heap.size w w':=by
 have hu42:=Try.underlying42
 have hu40:=Try.underlying40
 have HB:=Aside0.mk (Below.refl w.heap.size w)
 have H:(some (a0_0,a0_1))=some (r1,r2):=h
 clear h
 simp only [Option.some.injEq,Prod.mk.injEq] at H
 obtain ⟨rfl,rfl⟩:=H
 go_enter Try.func30,Try.ntmps30
 go_wp2_with (first|((with_reducible refine gate_dst (N:=1) rfl ?_);refine bE 1 #[.int .i64 a0_0,.int .i64 a0_1] 42 ?_;intro gb222 hg w2 hbox hb;have n0_:=Aside0.mk (below_step (by repeat (with_reducible first|exact HB.out|apply bA|apply bN|apply bD)) hb);have n1_:=Aside0.mk (hbox);have n2_:=Aside0.mk ((by rw [hg];exact (below_size (by repeat (with_reducible first|exact HB.out|apply bA|apply bN|apply bD))):w.heap.size≤gb222));have n3_:=Aside0.mk ((by rw [hg];exact (below_size (by repeat (with_reducible first|exact HB.out|apply bA|apply bN|apply bD))):w.heap.size≤gb222));clear HB;have HB:=n0_;have BK222:=n1_;have GW222:=n2_;have GE222:=n3_;clear n0_ n1_ n2_ n3_;clear hb hbox hg)|((with_reducible refine gate_dst (N:=2) rfl ?_);refine bE 2 #[.int .i64 0,.int .i64 0] 40 ?_;intro gb223 hg w3 hbox hb;have n0_:=Aside0.mk (blk_below (by repeat (with_reducible first|exact BK222.out|apply kN|apply kD|apply kA)) hb);have n1_:=Aside0.mk (below_step (by repeat (first|(with_reducible first|exact HB.out|apply bA|apply bN|apply bD|refine bS ?_ GE222.out)|exact HB.out)) hb);have n2_:=Aside0.mk (hbox);have n3_:=Aside0.mk ((by rw [hg];exact (below_size (by repeat (first|(with_reducible first|exact HB.out|apply bA|apply bN|apply bD|refine bS ?_ GE222.out)|exact HB.out))):w.heap.size≤gb223));have n4_:=Aside0.mk ((by rw [hg];exact (below_size (by repeat (first|(with_reducible first|exact HB.out|apply bA|apply bN|apply bD|refine bS ?_ GE222.out)|exact HB.out))):w.heap.size≤gb223));have n5_:=Aside0.mk ((by rw [hg];exact Nat.ne_of_lt (blk_lt (by repeat (with_reducible first|exact BK222.out|apply kN|apply kD|apply kA))):gb222≠gb223));have n6_:=Aside0.mk ((by rw [hg];exact Nat.ne_of_gt (blk_lt (by repeat (with_reducible first|exact BK222.out|apply kN|apply kD|apply kA))):gb223≠gb222));clear BK222;clear HB;have BK222:=n0_;have HB:=n1_;have BK223:=n2_;have GW223:=n3_;have GE223:=n4_;have NB222_223:=n5_;have NB223_222:=n6_;clear n0_ n1_ n2_ n3_ n4_ n5_ n6_;clear hb hbox hg)|((with_reducible refine gate_dst (N:=3) rfl ?_);refine bE 3 #[.int .i64 0,.int .i64 0] 40 ?_;intro gb224 hg w4 hbox hb;have n0_:=Aside0.mk (blk_below (by repeat (with_reducible first|exact BK222.out|apply kN|apply kD|apply kA)) hb);have n1_:=Aside0.mk (blk_below (by repeat (with_reducible first|exact BK223.out|apply kN|apply kD|apply kA)) hb);have n2_:=Aside0.mk (below_step (by repeat (first|(with_reducible first|exact HB.out|apply bA|apply bN|apply bD|refine bS ?_ GE222.out|refine bS ?_ GE223.out)|exact HB.out)) hb);have n3_:=Aside0.mk (hbox);have n4_:=Aside0.mk ((by rw [hg];exact (below_size (by repeat (first|(with_reducible first|exact HB.out|apply bA|apply bN|apply bD|refine bS ?_ GE222.out|refine bS ?_ GE223.out)|exact HB.out))):w.heap.size≤gb224));have n5_:=Aside0.mk ((by rw [hg];exact (below_size (by repeat (first|(with_reducible first|exact HB.out|apply bA|apply bN|apply bD|refine bS ?_ GE222.out|refine bS ?_ GE223.out)|exact HB.out))):w.heap.size≤gb224));have n6_:=Aside0.mk ((by rw [hg];exact Nat.ne_of_lt (blk_lt (by repeat (with_reducible first|exact BK222.out|apply kN|apply kD|apply kA))):gb222≠gb224));have n7_:=Aside0.mk ((by rw [hg];exact Nat.ne_of_gt (blk_lt (by repeat (with_reducible first|exact BK222.out|apply kN|apply kD|apply kA))):gb224≠gb222));have n8_:=Aside0.mk ((by rw [hg];exact Nat.ne_of_lt (blk_lt (by repeat (with_reducible first|exact BK223.out|apply kN|apply kD|apply kA))):gb223≠gb224));have n9_:=Aside0.mk ((by rw [hg];exact Nat.ne_of_gt (blk_lt (by repeat (with_reducible first|exact BK223.out|apply kN|apply kD|apply kA))):gb224≠gb223));clear BK222;clear BK223;clear HB;have BK222:=n0_;have BK223:=n1_;have HB:=n2_;have BK224:=n3_;have GW224:=n4_;have GE224:=n5_;have NB222_224:=n6_;have NB224_222:=n7_;have NB223_224:=n8_;have NB224_223:=n9_;clear n0_ n1_ n2_ n3_ n4_ n5_ n6_ n7_ n8_ n9_;clear hb hbox hg;have hnb5:=NB222_223.out;have hnc5:=NB223_222.out;have hnb6:=NB222_224.out;have hnc6:=NB224_222.out;have hcz7_0:w4.cell? ⟨gb222,0,none⟩=some (.int .i64 a0_0):=(blk_cell BK222.out 0).trans rfl;have hcz7_1:w4.cell? ⟨gb222,1,none⟩=some (.int .i64 a0_1):=(blk_cell BK222.out 1).trans rfl;have hfz7_0:=blk_frozen BK222.out 0;have hfz7_1:=blk_frozen BK222.out 1;have hnb8:=NB224_223.out;have hnc8:=NB223_224.out;have hcz9_0:w4.cell? ⟨gb224,0,none⟩=some (.int .i64 0):=(blk_cell BK224.out 0).trans rfl;have hcz9_1:w4.cell? ⟨gb224,1,none⟩=some (.int .i64 0):=(blk_cell BK224.out 1).trans rfl;have hfz9_0:=blk_frozen BK224.out 0;have hfz9_1:=blk_frozen BK224.out 1;have hcz10_0:w4.cell? ⟨gb223,0,none⟩=some (.int .i64 0):=(blk_cell BK223.out 0).trans rfl;have hcz10_1:w4.cell? ⟨gb223,1,none⟩=some (.int .i64 0):=(blk_cell BK223.out 1).trans rfl;have hfz10_0:=blk_frozen BK223.out 0;have hfz10_1:=blk_frozen BK223.out 1))
 refine bodyPost_ret (results_cell_row rfl _ _ gb223 40 #[.int .i64 a0_0,.int .i64 a0_1] (0,0) _ rfl (by (with_reducible repeat (first|refine kN ?_ _|refine kD ?_|refine kA ?_ _));refine blk_put (cs:=#[.int .i64 a0_0,.int .i64 0]) ?_ 1 _ rfl;(with_reducible repeat (first|refine kN ?_ _|refine kD ?_|refine kA ?_ _));refine blk_put (cs:=#[.int .i64 0,.int .i64 0]) ?_ 0 _ rfl;(with_reducible repeat (first|refine kN ?_ _|refine kD ?_|refine kA ?_ _));refine blk_far ?_ NB223_224.out _;(with_reducible repeat (first|refine kN ?_ _|refine kD ?_|refine kA ?_ _));refine blk_far ?_ NB223_224.out _;(with_reducible repeat (first|refine kN ?_ _|refine kD ?_|refine kA ?_ _));exact BK223.out) Try.underlying40 rfl (by kernel_rfl)) rfl ?_
 exact ⟨by first|rfl|(simp [errW_none,errW_some] <;> rfl)|(simp [*,errW_none,errW_some] <;> rfl),by repeat (first|(with_reducible first|exact HB.out|apply bA|apply bN|apply bD|refine bS ?_ GE222.out|refine bS ?_ GE223.out|refine bS ?_ GE224.out)|exact HB.out)⟩
def laws_toPointS.l0:Nat→List (S42)→List (S40)→Int→Option ((List (S40)))
 | 0,_,_,_=>none
 | k+1,x0,x3,x4=>if x4 < (x0.length:Int) then (if 0≤x4 then ((laws_toPoint.f ((rd_T42 x0 x4).f0) ((rd_T42 x0 x4).f1)).bind fun bt229=>(if x4 < (x3.length:Int) then (laws_toPointS.l0 k x0 (x3.set (x4:Int).toNat (⟨bt229.1,bt229.2⟩ : S40)) (wrap64 (x4+1))) else (none))) else (none)) else (some x3)
def laws_toPointS.f (k:Nat) (l0:List (S42)):Option ((List (S40))):=if 0≤(l0.length:Int) then (if ((l0.length:Int):Int).toNat≤17592186044416 then (laws_toPointS.l0 k l0 (List.replicate ((l0.length:Int):Int).toNat z40) 0) else (none)) else (none)
theorem laws_toPointS.mono_l:∀ k,(∀ y0 y1 y2,LeO (laws_toPointS.l0 k y0 y1 y2) (laws_toPointS.l0 (k+1) y0 y1 y2))
 | 0=>fun _ _ _ r h=>by simp [laws_toPointS.l0] at h
 | k+1=>by
  have ih0:=laws_toPointS.mono_l k
  ·intro y0 y1 y2
   unfold laws_toPointS.l0
   repeat' first
   | (with_reducible exact LeO.refl _)
   | exact ih0 _ _ _
   | exact LeO.none _
   | refine LeO.ite ?_ ?_
   | refine LeO.bind ?_ (fun _=>?_)
theorem laws_toPointS.mono:∀ a0 k,LeO (laws_toPointS.f k a0) (laws_toPointS.f (k+1) a0):=by
 intro a0 k
 have ih0:=laws_toPointS.mono_l k
 unfold laws_toPointS.f
 repeat' first
  | (with_reducible exact LeO.refl _)
  | exact ih0 _ _ _
  | exact LeO.none _
  | refine LeO.ite ?_ ?_
  | refine LeO.bind ?_ (fun _=>?_)
theorem laws_toPointS.calls (k:Nat) (A0:Option Addr) (c0:Nat) (l0:List (S42)) (r:List (S40)) (w:World) (hr0:Kd.C k42 w A0 l0.length l0) (hc0:l0.length≤c0) (h:laws_toPointS.f k l0=some r) :
 Calls Try.prog 11 #[.slice A0 l0.length c0] w fun e w'=>∃ v0_:Value,e=.returned (v0_)∧Kd.R k40 40 w' w.heap.size (fun _=>True) v0_ r∧Below w.heap.size w w':=by
 have hu42:=Try.underlying42
 have hu40:=Try.underlying40
 have HR0:=Aside0.mk hr0
 have HC0:=Aside0.mk hc0
 clear hr0 hc0
 have HB:=Aside0.mk (Below.refl w.heap.size w)
 have H:(if 0≤(l0.length:Int) then (if ((l0.length:Int):Int).toNat≤17592186044416 then (laws_toPointS.l0 k l0 (List.replicate ((l0.length:Int):Int).toNat z40) 0) else (none)) else (none))=some r:=h
 clear h
 by_cases c2:0≤(l0.length:Int)
 rotate_left;·rw [if_neg c2] at H;exact absurd H (by simp)
 rw [if_pos c2] at H
 have c2b0:=eq_true c2
 have c2b1:decide (0≤(l0.length:Int))=true:=decide_eq_true c2
 clear c2
 by_cases c3:((l0.length:Int):Int).toNat≤17592186044416
 rotate_left;·rw [if_neg c3] at H;exact absurd H (by simp)
 rw [if_pos c3] at H
 have c3b0:=eq_true c3
 have c3b1:decide (((l0.length:Int):Int).toNat≤17592186044416)=true:=decide_eq_true c3
 clear c3
 obtain ⟨y225,hy225⟩ : ∃ y_:List (S40),y_=(List.replicate ((l0.length:Int):Int).toNat z40):=⟨_,rfl⟩
 replace H:(laws_toPointS.l0 k l0 y225 0)=some r:=by (try rw [hy225]);first|with_reducible exact H|with_reducible exact (Option.bind_some _ _).symm.trans H|exact H
 have Ny225:=Aside0.mk hy225
 clear hy225
 have H':=Aside0.mk H
 clear H
 go_enter Try.func11,Try.ntmps11
 go_wp2_with (first|((with_reducible refine gate_dst (N:=7) rfl ?_);refine Kd.R_make k40 _ 40 rfl (N:=7) rfl 25 _ _ rfl (l0.length:Int) rfl rfl Try.underlying25 (.agg #[(.int .i64 0),(.int .i64 0)]) 16 info40 rfl (by decide) (by omega) z40 (ok:=fun _=>True) (okp:=fun _=>True) (k40_mkM _ _ _ z40 ) (fun _ hk=>hk) trivial (of_decide_eq_true (by assumption)) (Nat.le_trans (Nat.mul_le_mul_right _ (of_decide_eq_true (by assumption):(l0.length:Int).toNat≤17592186044416)) (by omega)) (Below.refl _ _) (Nat.le_refl _) ?_;intro v226 w4 ho5 hb hg_ hnew_;clear hg_ hnew_;(first|rw [← Ny225.out] at ho5|(simp only [Int.reduceToNat] at ho5;rw [← Ny225.out] at ho5));have n0_:=Aside0.mk (Kd.R_lower ho5 (below_size (by repeat (with_reducible first|exact HB.out|apply bA|apply bN|apply bD))));have n1_:=Aside0.mk (below_step (by repeat (with_reducible first|exact HB.out|apply bA|apply bN|apply bD)) hb);clear HB;have HO227:=n0_;have HB:=n1_;clear n0_ n1_;clear hb ho5))
 go_loopg [4] k (fun kq v4 w'=>∃ (x3_1:List (S40)) (x4_1:Int),v4=.int .i64 x4_1∧Aside0 (laws_toPointS.l0 kq l0 x3_1 x4_1=some r)∧Aside0 (kq≤k)∧Aside0 (Kd.R k40 40 w' w.heap.size (fun _=>True) v226 x3_1)∧Aside0 (Below w.heap.size w w'))
 case atStart=>exact ⟨(y225),(0),(by first|rfl|(simp;done)|(simp [*];done)),H',⟨Nat.le_refl _⟩,⟨by (with_reducible repeat (first|apply rA|apply rN|apply rD));exact HO227.out⟩,⟨by repeat (with_reducible first|exact HB.out|apply bA|apply bN|apply bD)⟩⟩
 case round =>
  clear H'
  obtain ⟨x3_1,x4_1,rfl,HA,HK1,HO_3,HB⟩:=hrel
  rcases gk with _|k1
  ·exact absurd HA.out (by simp [laws_toPointS.l0])
  have H:=HA.out
  clear HA
  simp only [laws_toPointS.l0] at H
  by_cases c6:x4_1 < (l0.length:Int)
  ·rw [if_pos c6] at H
   have c6b0:decide (x4_1 < (l0.length:Int))=true:=decide_eq_true c6
   clear c6
   by_cases c7:0≤x4_1
   rotate_left;·rw [if_neg c7] at H;exact absurd H (by simp)
   rw [if_pos c7] at H
   have c7b0:decide (0≤x4_1)=true:=decide_eq_true c7
   clear c7
   replace H:=Option.bind_eq_some_iff.mp H
   obtain ⟨⟨t229,t230⟩,A80,H⟩:=H
   replace H:(if x4_1 < (x3_1.length:Int) then (laws_toPointS.l0 k1 l0 (x3_1.set (x4_1:Int).toNat (⟨t229,t230⟩ : S40)) (wrap64 (x4_1+1))) else (none))=some r:=H
   have A8:=Aside0.mk A80
   clear A80
   by_cases c9:x4_1 < (x3_1.length:Int)
   rotate_left;·rw [if_neg c9] at H;exact absurd H (by simp)
   rw [if_pos c9] at H
   have c9b0:decide (x4_1 < (x3_1.length:Int))=true:=decide_eq_true c9
   clear c9
   obtain ⟨y231,hy231⟩ : ∃ y_:List (S40),y_=(x3_1.set (x4_1:Int).toNat (⟨t229,t230⟩ : S40)):=⟨_,rfl⟩
   replace H:(laws_toPointS.l0 k1 l0 y231 (wrap64 (x4_1+1)))=some r:=by (try rw [hy231]);first|with_reducible exact H|with_reducible exact (Option.bind_some _ _).symm.trans H|exact H
   have Ny231:=Aside0.mk hy231
   clear hy231
   have H':=Aside0.mk H
   clear H
   have p228:0≤(x4_1:Int):=of_decide_eq_true (by assumption)
   have q228:x4_1 < (l0.length:Int):=of_decide_eq_true (by assumption)
   obtain ⟨ad228,e228,hx228_0,hx228_1⟩:=at_T42 HR0.out x4_1 p228 q228
   cases e228
   replace hx228_0:=cK HB.out hx228_0
   replace hx228_1:=cK HB.out hx228_1
   replace p228:=eq_true p228
   replace q228:=eq_true q228
   go_wp2_with (first|((with_reducible refine gate_callee (f:=30) rfl ?_);refine goesL_ (some 20) rfl rfl Try.func30 (by kernel_rfl) rfl #[.agg #[.int .i64 ((rd_T42 l0 x4_1).f0),.int .i64 ((rd_T42 l0 x4_1).f1)]] rfl (by (try simp only [List.map_toArray,List.map_cons,List.map_nil]);first|done|rfl) ?_;(with_reducible refine (laws_toPoint.calls ((rd_T42 l0 x4_1).f0) ((rd_T42 l0 x4_1).f1) t229 t230 _ A8.out).mono ?_);rintro e w11 ⟨rfl,hb⟩;refine ⟨_,rfl,?_⟩;have n0_:=Aside0.mk (Kd.R_below (by (with_reducible repeat (first|apply rA|apply rN|apply rD));exact HO_3.out) hb);have n1_:=Aside0.mk (below_step (by repeat (with_reducible first|exact HB.out|apply bA|apply bN|apply bD)) hb);clear HO_3;clear HB;have HO_3:=n0_;have HB:=n1_;clear n0_ n1_;(try clear hb);have p10:0≤(x4_1:Int):=of_decide_eq_true (by assumption);have q10:(x4_1:Int) < ((x3_1.length:Int):Int):=of_decide_eq_true (by assumption);obtain ⟨go10,co10,eo10,gb10,gl10,cl10,HG10⟩:=Kd.R_form HO_3.out (by omega);(first|cases eo10|(injection eo10 with ea_ en_ ec_;(first|subst ea_|(injection ea_ with ea_;subst ea_));subst ec_;clear en_));have GB10:=Aside0.mk gb10;have GG10:=Aside0.mk HG10;clear gb10 gl10 HG10;obtain ⟨ce10,hcl10,hM10,hcc10,hfr10⟩:=Kd.R_elem HO_3.out z40 (x4_1:Int) p10 q10;obtain rfl:=k40_openM hM10;have hx10_0:w11.cell? ⟨go10,(x4_1:Int).toNat * 2,none⟩=some (.int .i64 ((rd_T40 x3_1 x4_1).f0)):=hcc10 0 _ rfl;have hx10_1:w11.cell? ⟨go10,(x4_1:Int).toNat * 2+1,none⟩=some (.int .i64 ((rd_T40 x3_1 x4_1).f1)):=hcc10 1 _ rfl;have hf10_0:w11.frozen? ⟨go10,(x4_1:Int).toNat * 2,none⟩=false:=hfr10 0;have hf10_1:w11.frozen? ⟨go10,(x4_1:Int).toNat * 2+1,none⟩=false:=hfr10 1;clear hcl10 hcc10 hfr10 hM10;replace p10:=eq_true p10;replace q10:=eq_true q10;have HX12:=Aside0.mk (show Kd.R k40 40 w11 w.heap.size (fun _=>True) (.slice (some ⟨go10,0,none⟩) x3_1.length co10) x3_1 from (by (with_reducible repeat (first|apply rA|apply rN|apply rD));exact HO_3.out));obtain ⟨ce12,hcl12,hM12,hcc12,hfr12⟩:=Kd.R_elem HX12.out z40 (x4_1:Int) (of_decide_eq_true (by assumption)) (by have h_:(x4_1:Int) < ((x3_1.length:Int):Int):=of_decide_eq_true (by assumption);first|exact h_|(have e_:=(Kd.R_reads' HO_3.out).1;omega)|simpa using h_);obtain rfl:=k40_openM hM12;have HP12:=Kd.R_seg HX12.out (x4_1:Int) (of_decide_eq_true (by assumption)) (by have h_:(x4_1:Int) < ((x3_1.length:Int):Int):=of_decide_eq_true (by assumption);first|exact h_|(have e_:=(Kd.R_reads' HO_3.out).1;omega)|simpa using h_) (seg:=[.int .i64 t229,.int .i64 t230]) (j:=0) hcl12 hcc12 (show 2≤2 from by decide) (x':=(⟨t229,t230⟩ : S40)) (k40_mkM _ _ _ (⟨t229,t230⟩ : S40) ) (fun _ hk=>hk);have hx12_0:=hcc12 0 _ rfl;(try simp only [show (k40).sz=2 from rfl,Nat.mul_one,Nat.add_zero] at hx12_0);have hf12_0:=hfr12 0;(try simp only [show (k40).sz=2 from rfl,Nat.mul_one,Nat.add_zero] at hf12_0);have hx12_1:=hcc12 1 _ rfl;(try simp only [show (k40).sz=2 from rfl,Nat.mul_one,Nat.add_zero] at hx12_1);have hf12_1:=hfr12 1;(try simp only [show (k40).sz=2 from rfl,Nat.mul_one,Nat.add_zero] at hf12_1);clear hcl12 hcc12 hfr12 hM12)|((with_reducible refine gate_store (t:=40) (p:=21) rfl ?_);refine store_event (t:=40) (p:=21) (v:=?vo_w13) (w1:=((w11.setCell ⟨go10,(x4_1:Int).toNat * 2,none⟩ (.int .i64 t229)).setCell ⟨go10,(x4_1:Int).toNat * 2+1,none⟩ (.int .i64 t230))) ?hg ?ho ?hn ?hr ?_;(case ho=>rfl);(case hg=>rfl);(case hn=>rfl);(case hr=>first|(go_simp;done)|(go_simp;rfl));intro w13 hw;have hg:w11.grownBy w13 (some go10):=(by rw [hw];exact HP12.2);have hp_:Kd.R k40 40 w13 w.heap.size (fun _=>True) (.slice (some ⟨go10,0,none⟩) x3_1.length co10) y231:=(by rw [hw,Ny231.out];exact HP12.1);clear HP12;have n0_:=Aside0.mk (hp_);have n1_:=Aside0.mk ((by rw [hw];exact below_set (below_set (HB.out) GB10.out) GB10.out:Below w.heap.size w w13));clear HO_3;clear HB;have HO_3:=n0_;have HB:=n1_;clear n0_ n1_;clear hg hw hp_))
   go_roundg k1
   case measure=>have:=HK1.out;omega
   case rel=>exact ⟨(y231),(wrap64 (x4_1+1)),(by first|rfl|(simp;done)|(simp [*];done)),H',⟨by have:=HK1.out;omega⟩,⟨by (with_reducible repeat (first|apply rA|apply rN|apply rD));exact HO_3.out⟩,⟨by repeat (with_reducible first|exact HB.out|apply bA|apply bN|apply bD)⟩⟩
  ·rw [if_neg c6] at H
   have c6b0:decide (x4_1 < (l0.length:Int))=false:=decide_eq_false c6
   clear c6
   obtain rfl:=Option.some.inj H
   go_wp2
   go_ret
   exact ⟨_,by first|rfl|(simp [errW_none,errW_some] <;> rfl)|(simp [*,errW_none,errW_some] <;> rfl),by (with_reducible repeat (first|apply rA|apply rN|apply rD));exact HO_3.out,by repeat (with_reducible first|exact HB.out|apply bA|apply bN|apply bD)⟩
def laws_eqPoint.f (a0_0:Int) (a0_1:Int) (a1_0:Int) (a1_1:Int):Option (Bool):=if a0_0=a1_0 then (if a0_1=a1_1 then (some true) else (some false)) else (some false)
theorem laws_eqPoint.calls (a0_0:Int) (a0_1:Int) (a1_0:Int) (a1_1:Int) (r:Bool) (w:World) (h:laws_eqPoint.f a0_0 a0_1 a1_0 a1_1=some r) :
 Calls Try.prog 33 #[.agg #[.int .i64 a0_0,.int .i64 a0_1],.agg #[.int .i64 a1_0,.int .i64 a1_1]] w fun e w'=>e=.returned (.bool r)∧Below w.heap.size w w':=by
 have hu40:=Try.underlying40
 have HB:=Aside0.mk (Below.refl w.heap.size w)
 have H:(if a0_0=a1_0 then (if a0_1=a1_1 then (some true) else (some false)) else (some false))=some r:=h
 clear h
 by_cases c3:a0_0=a1_0
 ·rw [if_pos c3] at H
  have c3b0:(a0_0 == a1_0)=true:=beq_iff_eq.mpr c3
  have c3b1:(a0_0 != a1_0)=false:=bne_eq_false_iff_eq.mpr c3
  clear c3
  by_cases c4:a0_1=a1_1
  ·rw [if_pos c4] at H
   have c4b0:(a0_1 == a1_1)=true:=beq_iff_eq.mpr c4
   have c4b1:(a0_1 != a1_1)=false:=bne_eq_false_iff_eq.mpr c4
   clear c4
   obtain rfl:=Option.some.inj H
   go_enter Try.func33,Try.ntmps33
   go_wp2_with (first|((with_reducible refine gate_dst (N:=2) rfl ?_);refine bE 2 #[.int .i64 a0_0,.int .i64 a0_1] 40 ?_;intro gb320 hg w5 hbox hb;have n0_:=Aside0.mk (below_step (by repeat (with_reducible first|exact HB.out|apply bA|apply bN|apply bD)) hb);have n1_:=Aside0.mk (hbox);have n2_:=Aside0.mk ((by rw [hg];exact (below_size (by repeat (with_reducible first|exact HB.out|apply bA|apply bN|apply bD))):w.heap.size≤gb320));have n3_:=Aside0.mk ((by rw [hg];exact (below_size (by repeat (with_reducible first|exact HB.out|apply bA|apply bN|apply bD))):w.heap.size≤gb320));clear HB;have HB:=n0_;have BK320:=n1_;have GW320:=n2_;have GE320:=n3_;clear n0_ n1_ n2_ n3_;clear hb hbox hg)|((with_reducible refine gate_dst (N:=3) rfl ?_);refine bE 3 #[.int .i64 a1_0,.int .i64 a1_1] 40 ?_;intro gb321 hg w6 hbox hb;have n0_:=Aside0.mk (blk_below (by repeat (with_reducible first|exact BK320.out|apply kN|apply kD|apply kA)) hb);have n1_:=Aside0.mk (below_step (by repeat (first|(with_reducible first|exact HB.out|apply bA|apply bN|apply bD|refine bS ?_ GE320.out)|exact HB.out)) hb);have n2_:=Aside0.mk (hbox);have n3_:=Aside0.mk ((by rw [hg];exact (below_size (by repeat (first|(with_reducible first|exact HB.out|apply bA|apply bN|apply bD|refine bS ?_ GE320.out)|exact HB.out))):w.heap.size≤gb321));have n4_:=Aside0.mk ((by rw [hg];exact (below_size (by repeat (first|(with_reducible first|exact HB.out|apply bA|apply bN|apply bD|refine bS ?_ GE320.out)|exact HB.out))):w.heap.size≤gb321));have n5_:=Aside0.mk ((by rw [hg];exact Nat.ne_of_lt (blk_lt (by repeat (with_reducible first|exact BK320.out|apply kN|apply kD|apply kA))):gb320≠gb321));have n6_:=Aside0.mk ((by rw [hg];exact Nat.ne_of_gt (blk_lt (by repeat (with_reducible first|exact BK320.out|apply kN|apply kD|apply kA))):gb321≠gb320));clear BK320;clear HB;have BK320:=n0_;have HB:=n1_;have BK321:=n2_;have GW321:=n3_;have GE321:=n4_;have NB320_321:=n5_;have NB321_320:=n6_;clear n0_ n1_ n2_ n3_ n4_ n5_ n6_;clear hb hbox hg;have hnb7:=NB320_321.out;have hnc7:=NB321_320.out;have hcz8_0:w6.cell? ⟨gb320,0,none⟩=some (.int .i64 a0_0):=(blk_cell BK320.out 0).trans rfl;have hcz8_1:w6.cell? ⟨gb320,1,none⟩=some (.int .i64 a0_1):=(blk_cell BK320.out 1).trans rfl;have hfz8_0:=blk_frozen BK320.out 0;have hfz8_1:=blk_frozen BK320.out 1;have hcz9_0:w6.cell? ⟨gb321,0,none⟩=some (.int .i64 a1_0):=(blk_cell BK321.out 0).trans rfl;have hcz9_1:w6.cell? ⟨gb321,1,none⟩=some (.int .i64 a1_1):=(blk_cell BK321.out 1).trans rfl;have hfz9_0:=blk_frozen BK321.out 0;have hfz9_1:=blk_frozen BK321.out 1))
   go_ret
   exact ⟨by first|rfl|(simp [errW_none,errW_some] <;> rfl)|(simp [*,errW_none,errW_some] <;> rfl),by repeat (first|(with_reducible first|exact HB.out|apply bA|apply bN|apply bD|refine bS ?_ GE320.out|refine bS ?_ GE321.out)|exact HB.out)⟩
  ·rw [if_neg c4] at H
   have c4b0:(a0_1 == a1_1)=false:=beq_eq_false_iff_ne.mpr c4
   have c4b1:(a0_1 != a1_1)=true:=bne_iff_ne.mpr c4
   obtain rfl:=Option.some.inj H
   go_enter Try.func33,Try.ntmps33
   go_wp2_with (first|((with_reducible refine gate_dst (N:=2) rfl ?_);refine bE 2 #[.int .i64 a0_0,.int .i64 a0_1] 40 ?_;intro gb320 hg w10 hbox hb;have n0_:=Aside0.mk (below_step (by repeat (with_reducible first|exact HB.out|apply bA|apply bN|apply bD)) hb);have n1_:=Aside0.mk (hbox);have n2_:=Aside0.mk ((by rw [hg];exact (below_size (by repeat (with_reducible first|exact HB.out|apply bA|apply bN|apply bD))):w.heap.size≤gb320));have n3_:=Aside0.mk ((by rw [hg];exact (below_size (by repeat (with_reducible first|exact HB.out|apply bA|apply bN|apply bD))):w.heap.size≤gb320));clear HB;have HB:=n0_;have BK320:=n1_;have GW320:=n2_;have GE320:=n3_;clear n0_ n1_ n2_ n3_;clear hb hbox hg)|((with_reducible refine gate_dst (N:=3) rfl ?_);refine bE 3 #[.int .i64 a1_0,.int .i64 a1_1] 40 ?_;intro gb321 hg w11 hbox hb;have n0_:=Aside0.mk (blk_below (by repeat (with_reducible first|exact BK320.out|apply kN|apply kD|apply kA)) hb);have n1_:=Aside0.mk (below_step (by repeat (first|(with_reducible first|exact HB.out|apply bA|apply bN|apply bD|refine bS ?_ GE320.out)|exact HB.out)) hb);have n2_:=Aside0.mk (hbox);have n3_:=Aside0.mk ((by rw [hg];exact (below_size (by repeat (first|(with_reducible first|exact HB.out|apply bA|apply bN|apply bD|refine bS ?_ GE320.out)|exact HB.out))):w.heap.size≤gb321));have n4_:=Aside0.mk ((by rw [hg];exact (below_size (by repeat (first|(with_reducible first|exact HB.out|apply bA|apply bN|apply bD|refine bS ?_ GE320.out)|exact HB.out))):w.heap.size≤gb321));have n5_:=Aside0.mk ((by rw [hg];exact Nat.ne_of_lt (blk_lt (by repeat (with_reducible first|exact BK320.out|apply kN|apply kD|apply kA))):gb320≠gb321));have n6_:=Aside0.mk ((by rw [hg];exact Nat.ne_of_gt (blk_lt (by repeat (with_reducible first|exact BK320.out|apply kN|apply kD|apply kA))):gb321≠gb320));clear BK320;clear HB;have BK320:=n0_;have HB:=n1_;have BK321:=n2_;have GW321:=n3_;have GE321:=n4_;have NB320_321:=n5_;have NB321_320:=n6_;clear n0_ n1_ n2_ n3_ n4_ n5_ n6_;clear hb hbox hg;have hnb12:=NB320_321.out;have hnc12:=NB321_320.out;have hcz13_0:w11.cell? ⟨gb320,0,none⟩=some (.int .i64 a0_0):=(blk_cell BK320.out 0).trans rfl;have hcz13_1:w11.cell? ⟨gb320,1,none⟩=some (.int .i64 a0_1):=(blk_cell BK320.out 1).trans rfl;have hfz13_0:=blk_frozen BK320.out 0;have hfz13_1:=blk_frozen BK320.out 1;have hcz14_0:w11.cell? ⟨gb321,0,none⟩=some (.int .i64 a1_0):=(blk_cell BK321.out 0).trans rfl;have hcz14_1:w11.cell? ⟨gb321,1,none⟩=some (.int .i64 a1_1):=(blk_cell BK321.out 1).trans rfl;have hfz14_0:=blk_frozen BK321.out 0;have hfz14_1:=blk_frozen BK321.out 1))
   go_ret
   exact ⟨by first|rfl|(simp [errW_none,errW_some] <;> rfl)|(simp [*,errW_none,errW_some] <;> rfl),by repeat (first|(with_reducible first|exact HB.out|apply bA|apply bN|apply bD|refine bS ?_ GE320.out|refine bS ?_ GE321.out)|exact HB.out)⟩
 ·rw [if_neg c3] at H
  have c3b0:(a0_0 == a1_0)=false:=beq_eq_false_iff_ne.mpr c3
  have c3b1:(a0_0 != a1_0)=true:=bne_iff_ne.mpr c3
  obtain rfl:=Option.some.inj H
  go_enter Try.func33,Try.ntmps33
  go_wp2_with (first|((with_reducible refine gate_dst (N:=2) rfl ?_);refine bE 2 #[.int .i64 a0_0,.int .i64 a0_1] 40 ?_;intro gb320 hg w15 hbox hb;have n0_:=Aside0.mk (below_step (by repeat (with_reducible first|exact HB.out|apply bA|apply bN|apply bD)) hb);have n1_:=Aside0.mk (hbox);have n2_:=Aside0.mk ((by rw [hg];exact (below_size (by repeat (with_reducible first|exact HB.out|apply bA|apply bN|apply bD))):w.heap.size≤gb320));have n3_:=Aside0.mk ((by rw [hg];exact (below_size (by repeat (with_reducible first|exact HB.out|apply bA|apply bN|apply bD))):w.heap.size≤gb320));clear HB;have HB:=n0_;have BK320:=n1_;have GW320:=n2_;have GE320:=n3_;clear n0_ n1_ n2_ n3_;clear hb hbox hg)|((with_reducible refine gate_dst (N:=3) rfl ?_);refine bE 3 #[.int .i64 a1_0,.int .i64 a1_1] 40 ?_;intro gb321 hg w16 hbox hb;have n0_:=Aside0.mk (blk_below (by repeat (with_reducible first|exact BK320.out|apply kN|apply kD|apply kA)) hb);have n1_:=Aside0.mk (below_step (by repeat (first|(with_reducible first|exact HB.out|apply bA|apply bN|apply bD|refine bS ?_ GE320.out)|exact HB.out)) hb);have n2_:=Aside0.mk (hbox);have n3_:=Aside0.mk ((by rw [hg];exact (below_size (by repeat (first|(with_reducible first|exact HB.out|apply bA|apply bN|apply bD|refine bS ?_ GE320.out)|exact HB.out))):w.heap.size≤gb321));have n4_:=Aside0.mk ((by rw [hg];exact (below_size (by repeat (first|(with_reducible first|exact HB.out|apply bA|apply bN|apply bD|refine bS ?_ GE320.out)|exact HB.out))):w.heap.size≤gb321));have n5_:=Aside0.mk ((by rw [hg];exact Nat.ne_of_lt (blk_lt (by repeat (with_reducible first|exact BK320.out|apply kN|apply kD|apply kA))):gb320≠gb321));have n6_:=Aside0.mk ((by rw [hg];exact Nat.ne_of_gt (blk_lt (by repeat (with_reducible first|exact BK320.out|apply kN|apply kD|apply kA))):gb321≠gb320));clear BK320;clear HB;have BK320:=n0_;have HB:=n1_;have BK321:=n2_;have GW321:=n3_;have GE321:=n4_;have NB320_321:=n5_;have NB321_320:=n6_;clear n0_ n1_ n2_ n3_ n4_ n5_ n6_;clear hb hbox hg;have hnb17:=NB320_321.out;have hnc17:=NB321_320.out;have hcz18_0:w16.cell? ⟨gb320,0,none⟩=some (.int .i64 a0_0):=(blk_cell BK320.out 0).trans rfl;have hcz18_1:w16.cell? ⟨gb320,1,none⟩=some (.int .i64 a0_1):=(blk_cell BK320.out 1).trans rfl;have hfz18_0:=blk_frozen BK320.out 0;have hfz18_1:=blk_frozen BK320.out 1;have hcz19_0:w16.cell? ⟨gb321,0,none⟩=some (.int .i64 a1_0):=(blk_cell BK321.out 0).trans rfl;have hcz19_1:w16.cell? ⟨gb321,1,none⟩=some (.int .i64 a1_1):=(blk_cell BK321.out 1).trans rfl;have hfz19_0:=blk_frozen BK321.out 0;have hfz19_1:=blk_frozen BK321.out 1))
  go_ret
  exact ⟨by first|rfl|(simp [errW_none,errW_some] <;> rfl)|(simp [*,errW_none,errW_some] <;> rfl),by repeat (first|(with_reducible first|exact HB.out|apply bA|apply bN|apply bD|refine bS ?_ GE320.out|refine bS ?_ GE321.out)|exact HB.out)⟩
def laws_eqPointS.l0:Nat→List (S40)→List (S40)→Int→Option (Bool)
 | 0,_,_,_=>none
 | k+1,x0,x1,x5=>if x5 < (x0.length:Int) then (if 0≤x5 then (if x5 < (x1.length:Int) then ((laws_eqPoint.f ((rd_T40 x0 x5).f0) ((rd_T40 x0 x5).f1) ((rd_T40 x1 x5).f0) ((rd_T40 x1 x5).f1)).bind fun t324=>(if t324=true then (laws_eqPointS.l0 k x0 x1 (wrap64 (x5+1))) else (some false))) else (none)) else (none)) else (some true)
def laws_eqPointS.f (k:Nat) (l0:List (S40)) (l1:List (S40)):Option (Bool):=if (l0.length:Int)=(l1.length:Int) then (laws_eqPointS.l0 k l0 l1 0) else (some false)
theorem laws_eqPointS.mono_l:∀ k,(∀ y0 y1 y2,LeO (laws_eqPointS.l0 k y0 y1 y2) (laws_eqPointS.l0 (k+1) y0 y1 y2))
 | 0=>fun _ _ _ r h=>by simp [laws_eqPointS.l0] at h
 | k+1=>by
  have ih0:=laws_eqPointS.mono_l k
  ·intro y0 y1 y2
   unfold laws_eqPointS.l0
   repeat' first
   | (with_reducible exact LeO.refl _)
   | exact ih0 _ _ _
   | exact LeO.none _
   | refine LeO.ite ?_ ?_
   | refine LeO.bind ?_ (fun _=>?_)
theorem laws_eqPointS.mono:∀ a0 a1 k,LeO (laws_eqPointS.f k a0 a1) (laws_eqPointS.f (k+1) a0 a1):=by
 intro a0 a1 k
 have ih0:=laws_eqPointS.mono_l k
 unfold laws_eqPointS.f
 repeat' first
  | (with_reducible exact LeO.refl _)
  | exact ih0 _ _ _
  | exact LeO.none _
  | refine LeO.ite ?_ ?_
  | refine LeO.bind ?_ (fun _=>?_)
def laws_eqPointS.T6:Bool × List (List Nat × List Nat):=(true,[([],[]),([],[]),([0,1],[0,1]),([2],[2]),([],[]),([],[]),([4,5],[4,5]),([6],[6]),([3,7],[3,7]),([8],[8])])
def laws_eqPointS.B6:List Nat:=[0,0,3,7,0,0,48,112,255,511]
theorem laws_eqPointS.tab6:rtab .any (opsOf Try.f13 6)=laws_eqPointS.T6:=by kernel_rfl
theorem laws_eqPointS.bits6:waitsOk laws_eqPointS.T6.2 laws_eqPointS.B6=true:=by kernel_rfl
theorem laws_eqPointS.calls (k:Nat) (A0:Option Addr) (c0:Nat) (l0:List (S40)) (A1:Option Addr) (c1:Nat) (l1:List (S40)) (r:Bool) (w:World) (hr0:Kd.C k40 w A0 l0.length l0) (hc0:l0.length≤c0) (hr1:Kd.C k40 w A1 l1.length l1) (hc1:l1.length≤c1) (h:laws_eqPointS.f k l0 l1=some r) :
 Calls Try.prog 13 #[.slice A0 l0.length c0,.slice A1 l1.length c1] w fun e w'=>e=.returned (.bool r)∧Below w.heap.size w w':=by
 have hu40:=Try.underlying40
 have HR0:=Aside0.mk hr0
 have HC0:=Aside0.mk hc0
 clear hr0 hc0
 have HR1:=Aside0.mk hr1
 have HC1:=Aside0.mk hc1
 clear hr1 hc1
 have HB:=Aside0.mk (Below.refl w.heap.size w)
 have H:(if (l0.length:Int)=(l1.length:Int) then (laws_eqPointS.l0 k l0 l1 0) else (some false))=some r:=h
 clear h
 by_cases c3:(l0.length:Int)=(l1.length:Int)
 ·rw [if_pos c3] at H
  have c3b0:((l0.length:Int) == (l1.length:Int))=true:=beq_iff_eq.mpr c3
  have c3b1:((l0.length:Int) != (l1.length:Int))=false:=bne_eq_false_iff_eq.mpr c3
  have c3b2:(l0.length == l1.length)=true:=by first|simpa using c3|(simp at c3 ⊢;omega)
  clear c3
  have H':=Aside0.mk H
  clear H
  go_enter Try.func13,Try.ntmps13
  go_wp2
  go_loopg [5] k (fun kq v5 w'=>∃ (x5_1:Int),v5=.int .i64 x5_1∧Aside0 (laws_eqPointS.l0 kq l0 l1 x5_1=some r)∧Aside0 (kq≤k)∧Aside0 (Below w.heap.size w w'))
  case atStart=>exact ⟨(0),(by first|rfl|(simp;done)|(simp [*];done)),H',⟨Nat.le_refl _⟩,⟨by repeat (with_reducible first|exact HB.out|apply bA|apply bN|apply bD)⟩⟩
  case round =>
   clear H'
   obtain ⟨x5_1,rfl,HA,HK1,HB⟩:=hrel
   rcases gk with _|k1
   ·exact absurd HA.out (by simp [laws_eqPointS.l0])
   have H:=HA.out
   clear HA
   simp only [laws_eqPointS.l0] at H
   by_cases c4:x5_1 < (l0.length:Int)
   ·rw [if_pos c4] at H
    have c4b0:decide (x5_1 < (l0.length:Int))=true:=decide_eq_true c4
    clear c4
    by_cases c5:0≤x5_1
    rotate_left;·rw [if_neg c5] at H;exact absurd H (by simp)
    rw [if_pos c5] at H
    have c5b0:decide (0≤x5_1)=true:=decide_eq_true c5
    clear c5
    by_cases c6:x5_1 < (l1.length:Int)
    rotate_left;·rw [if_neg c6] at H;exact absurd H (by simp)
    rw [if_pos c6] at H
    have c6b0:decide (x5_1 < (l1.length:Int))=true:=decide_eq_true c6
    clear c6
    replace H:=Option.bind_eq_some_iff.mp H
    obtain ⟨t324,A70,H⟩:=H
    have A7:=Aside0.mk A70
    clear A70
    by_cases c8:t324=true
    ·subst c8
     rw [if_pos rfl] at H
     have H':=Aside0.mk H
     clear H
     try go_wp2
     have n0_:=Aside0.mk (below_drew1 HB.out)
     clear HB
     have HB:=n0_
     clear n0_
     have p322:0≤(x5_1:Int):=of_decide_eq_true (by assumption)
     have q322:x5_1 < (l0.length:Int):=of_decide_eq_true (by assumption)
     obtain ⟨ad322,e322,hx322_0,hx322_1⟩:=at_T40 HR0.out x5_1 p322 q322
     have hw322_1:=hx322_1
     have hw322_0:=hx322_0
     cases e322
     replace hx322_0:=cK HB.out hx322_0
     replace hx322_1:=cK HB.out hx322_1
     replace p322:=eq_true p322
     replace q322:=eq_true q322
     have p323:0≤(x5_1:Int):=of_decide_eq_true (by assumption)
     have q323:x5_1 < (l1.length:Int):=of_decide_eq_true (by assumption)
     obtain ⟨ad323,e323,hx323_0,hx323_1⟩:=at_T40 HR1.out x5_1 p323 q323
     have hw323_1:=hx323_1
     have hw323_0:=hx323_0
     cases e323
     replace hx323_0:=cK HB.out hx323_0
     replace hx323_1:=cK HB.out hx323_1
     replace p323:=eq_true p323
     replace q323:=eq_true q323
     refine start_ (n:=10) (S:=fun w'=>w'.cell? (ad322.add ((x5_1).toNat * 2))=some (.int .i64 ((rd_T40 l0 x5_1).f0))∧w'.cell? ⟨(ad322.add ((x5_1).toNat * 2)).block,(ad322.add ((x5_1).toNat * 2)).off+1,none⟩=some (.int .i64 ((rd_T40 l0 x5_1).f1))∧w'.cell? (ad323.add ((x5_1).toNat * 2))=some (.int .i64 ((rd_T40 l1 x5_1).f0))∧w'.cell? ⟨(ad323.add ((x5_1).toNat * 2)).block,(ad323.add ((x5_1).toNat * 2)).off+1,none⟩=some (.int .i64 ((rd_T40 l1 x5_1).f1))) (ds:=[]) (bV 10 0) (by kernel_rfl) rfl rfl ⟨(cK HB.out hw322_0),(cK HB.out hw322_1),(cK HB.out hw323_0),(cK HB.out hw323_1)⟩ (fun hHeld=>?_);refine with_tabW laws_eqPointS.tab6 laws_eqPointS.bits6 (fun HT_ HW_=>?_)
     generalize wr.drew=w9 at HB hx322_0 hx322_1 hx323_0 hx323_1 hHeld ⊢
     refine pT 0 17 (bV 10 1) HT_.out ?_
     refine pT 1 18 (bV 10 3) HT_.out ?_
     refine pT 2 19 (bV 10 7) HT_.out ?_
     refine pT 4 21 (bV 10 23) HT_.out ?_
     refine pT 5 22 (bV 10 55) HT_.out ?_
     refine pT 6 23 (bV 10 119) HT_.out ?_
     refine tI 3 20 (bV 10 127) rfl (take_ofW HT_.out HW_.out (by kernel_rfl)) hHeld (by rintro w' ⟨s0,s1,s2,s3⟩;go_simp;with_reducible rfl) ?_
     refine tI 7 24 (bV 10 255) rfl (take_ofW HT_.out HW_.out (by kernel_rfl)) hHeld (by rintro w' ⟨s0,s1,s2,s3⟩;go_simp;with_reducible rfl) ?_
     refine one_ (i:=8) (N:=some 25) (bV 10 511) rfl rfl (one_of HT_.out (by kernel_rfl)) (by decide) (fun K hK=>?_)
     refine goes_ Try.func33 (by kernel_rfl) rfl #[.agg #[.int .i64 ((rd_T40 l0 x5_1).f0),.int .i64 ((rd_T40 l0 x5_1).f1)],.agg #[.int .i64 ((rd_T40 l1 x5_1).f0),.int .i64 ((rd_T40 l1 x5_1).f1)]] (by rfl) rfl rfl (by (try simp only [List.map_toArray,List.map_cons,List.map_nil]);first|done|rfl) ?_
     with_reducible refine (laws_eqPoint.calls ((rd_T40 l0 x5_1).f0) ((rd_T40 l0 x5_1).f1) ((rd_T40 l1 x5_1).f0) ((rd_T40 l1 x5_1).f1) true _ A7.out).mono ?_
     rintro e w10 ⟨rfl,hb⟩
     refine ⟨_,rfl,?_⟩
     have n0_:=Aside0.mk (below_step (by repeat (with_reducible first|exact HB.out|apply bA|apply bN|apply bD)) hb)
     clear HB
     have HB:=n0_
     clear n0_
     (try clear hb)
     (try clear hb2)
     (try clear hk)
     (try clear hi)
     refine hK.out _ _ ⟨(cK HB.out hw322_0),(cK HB.out hw322_1),(cK HB.out hw323_0),(cK HB.out hw323_1)⟩ (fun hHeld=>?_)
     clear hK K
     refine norm_ (a':=?_) ?_ ?_
     rotate_left
     ·show Act.put _ (some 25) _=_
      simp only [Act.put,sI,sZ,sS,i64_w,i32_w]
      rfl
     refine pT 9 26 (bV 10 1023) HT_.out ?_
     refine done_ (done_of HT_.out (by kernel_rfl)) ?_
     try go_wp2
     go_roundg k1
     case measure=>have:=HK1.out;omega
     case rel=>exact ⟨(wrap64 (x5_1+1)),(by first|rfl|(simp;done)|(simp [*];done)),H',⟨by have:=HK1.out;omega⟩,⟨by repeat (with_reducible first|exact HB.out|apply bA|apply bN|apply bD)⟩⟩
    ·replace c8:=Bool.eq_false_iff.mpr c8
     subst c8
     rw [if_neg (show ¬ (false=true) by decide)] at H
     obtain rfl:=Option.some.inj H
     try go_wp2
     have n0_:=Aside0.mk (below_drew1 HB.out)
     clear HB
     have HB:=n0_
     clear n0_
     have p322:0≤(x5_1:Int):=of_decide_eq_true (by assumption)
     have q322:x5_1 < (l0.length:Int):=of_decide_eq_true (by assumption)
     obtain ⟨ad322,e322,hx322_0,hx322_1⟩:=at_T40 HR0.out x5_1 p322 q322
     have hw322_1:=hx322_1
     have hw322_0:=hx322_0
     cases e322
     replace hx322_0:=cK HB.out hx322_0
     replace hx322_1:=cK HB.out hx322_1
     replace p322:=eq_true p322
     replace q322:=eq_true q322
     have p323:0≤(x5_1:Int):=of_decide_eq_true (by assumption)
     have q323:x5_1 < (l1.length:Int):=of_decide_eq_true (by assumption)
     obtain ⟨ad323,e323,hx323_0,hx323_1⟩:=at_T40 HR1.out x5_1 p323 q323
     have hw323_1:=hx323_1
     have hw323_0:=hx323_0
     cases e323
     replace hx323_0:=cK HB.out hx323_0
     replace hx323_1:=cK HB.out hx323_1
     replace p323:=eq_true p323
     replace q323:=eq_true q323
     refine start_ (n:=10) (S:=fun w'=>w'.cell? (ad322.add ((x5_1).toNat * 2))=some (.int .i64 ((rd_T40 l0 x5_1).f0))∧w'.cell? ⟨(ad322.add ((x5_1).toNat * 2)).block,(ad322.add ((x5_1).toNat * 2)).off+1,none⟩=some (.int .i64 ((rd_T40 l0 x5_1).f1))∧w'.cell? (ad323.add ((x5_1).toNat * 2))=some (.int .i64 ((rd_T40 l1 x5_1).f0))∧w'.cell? ⟨(ad323.add ((x5_1).toNat * 2)).block,(ad323.add ((x5_1).toNat * 2)).off+1,none⟩=some (.int .i64 ((rd_T40 l1 x5_1).f1))) (ds:=[]) (bV 10 0) (by kernel_rfl) rfl rfl ⟨(cK HB.out hw322_0),(cK HB.out hw322_1),(cK HB.out hw323_0),(cK HB.out hw323_1)⟩ (fun hHeld=>?_);refine with_tabW laws_eqPointS.tab6 laws_eqPointS.bits6 (fun HT_ HW_=>?_)
     generalize wr.drew=w11 at HB hx322_0 hx322_1 hx323_0 hx323_1 hHeld ⊢
     refine pT 0 17 (bV 10 1) HT_.out ?_
     refine pT 1 18 (bV 10 3) HT_.out ?_
     refine pT 2 19 (bV 10 7) HT_.out ?_
     refine pT 4 21 (bV 10 23) HT_.out ?_
     refine pT 5 22 (bV 10 55) HT_.out ?_
     refine pT 6 23 (bV 10 119) HT_.out ?_
     refine tI 3 20 (bV 10 127) rfl (take_ofW HT_.out HW_.out (by kernel_rfl)) hHeld (by rintro w' ⟨s0,s1,s2,s3⟩;go_simp;with_reducible rfl) ?_
     refine tI 7 24 (bV 10 255) rfl (take_ofW HT_.out HW_.out (by kernel_rfl)) hHeld (by rintro w' ⟨s0,s1,s2,s3⟩;go_simp;with_reducible rfl) ?_
     refine one_ (i:=8) (N:=some 25) (bV 10 511) rfl rfl (one_of HT_.out (by kernel_rfl)) (by decide) (fun K hK=>?_)
     refine goes_ Try.func33 (by kernel_rfl) rfl #[.agg #[.int .i64 ((rd_T40 l0 x5_1).f0),.int .i64 ((rd_T40 l0 x5_1).f1)],.agg #[.int .i64 ((rd_T40 l1 x5_1).f0),.int .i64 ((rd_T40 l1 x5_1).f1)]] (by rfl) rfl rfl (by (try simp only [List.map_toArray,List.map_cons,List.map_nil]);first|done|rfl) ?_
     with_reducible refine (laws_eqPoint.calls ((rd_T40 l0 x5_1).f0) ((rd_T40 l0 x5_1).f1) ((rd_T40 l1 x5_1).f0) ((rd_T40 l1 x5_1).f1) false _ A7.out).mono ?_
     rintro e w12 ⟨rfl,hb⟩
     refine ⟨_,rfl,?_⟩
     have n0_:=Aside0.mk (below_step (by repeat (with_reducible first|exact HB.out|apply bA|apply bN|apply bD)) hb)
     clear HB
     have HB:=n0_
     clear n0_
     (try clear hb)
     (try clear hb2)
     (try clear hk)
     (try clear hi)
     refine hK.out _ _ ⟨(cK HB.out hw322_0),(cK HB.out hw322_1),(cK HB.out hw323_0),(cK HB.out hw323_1)⟩ (fun hHeld=>?_)
     clear hK K
     refine norm_ (a':=?_) ?_ ?_
     rotate_left
     ·show Act.put _ (some 25) _=_
      simp only [Act.put,sI,sZ,sS,i64_w,i32_w]
      rfl
     refine pT 9 26 (bV 10 1023) HT_.out ?_
     refine done_ (done_of HT_.out (by kernel_rfl)) ?_
     try go_wp2
     go_ret
     exact ⟨by first|rfl|(simp [errW_none,errW_some] <;> rfl)|(simp [*,errW_none,errW_some] <;> rfl),by repeat (with_reducible first|exact HB.out|apply bA|apply bN|apply bD)⟩
   ·rw [if_neg c4] at H
    have c4b0:decide (x5_1 < (l0.length:Int))=false:=decide_eq_false c4
    clear c4
    obtain rfl:=Option.some.inj H
    go_wp2
    go_ret
    exact ⟨by first|rfl|(simp [errW_none,errW_some] <;> rfl)|(simp [*,errW_none,errW_some] <;> rfl),by repeat (with_reducible first|exact HB.out|apply bA|apply bN|apply bD)⟩
 ·rw [if_neg c3] at H
  have c3b0:((l0.length:Int) == (l1.length:Int))=false:=beq_eq_false_iff_ne.mpr c3
  have c3b1:((l0.length:Int) != (l1.length:Int))=true:=bne_iff_ne.mpr c3
  have c3b2:(l0.length == l1.length)=false:=by first|simpa using c3|(simp at c3 ⊢;omega)
  obtain rfl:=Option.some.inj H
  go_enter Try.func13,Try.ntmps13
  go_wp2
  go_ret
  exact ⟨by first|rfl|(simp [errW_none,errW_some] <;> rfl)|(simp [*,errW_none,errW_some] <;> rfl),by repeat (with_reducible first|exact HB.out|apply bA|apply bN|apply bD)⟩
def spec_l01In.f (a0:Int) (a1:Int) (a2:Int):Option (Bool):=if a0 ≥ a1 then (some (decide (a0≤a2))) else (some false)
theorem spec_l01In.calls (a0:Int) (a1:Int) (a2:Int) (r:Bool) (w:World) (h:spec_l01In.f a0 a1 a2=some r) :
 Calls Try.prog 54 #[.int .i64 a0,.int .i64 a1,.int .i64 a2] w fun e w'=>e=.returned (.bool r)∧Drawn0 w w':=by
 have H:(if a0 ≥ a1 then (some (decide (a0≤a2))) else (some false))=some r:=h
 clear h
 by_cases c4:a0 ≥ a1
 ·rw [if_pos c4] at H
  have c4b0:decide (a1≤a0)=true:=decide_eq_true c4
  clear c4
  obtain rfl:=Option.some.inj H
  go_enter Try.func54,Try.ntmps54
  go_wp2
  go_ret
  exact ⟨by first|rfl|(simp;done)|(simp [*];done),by repeat (first|exact Drawn0.refl _|apply Drawn0.step)⟩
 ·rw [if_neg c4] at H
  have c4b0:decide (a1≤a0)=false:=decide_eq_false c4
  clear c4
  obtain rfl:=Option.some.inj H
  go_enter Try.func54,Try.ntmps54
  go_wp2
  go_ret
  exact ⟨by first|rfl|(simp;done)|(simp [*];done),by repeat (first|exact Drawn0.refl _|apply Drawn0.step)⟩
def spec_PointOk.f (a0_0:Int) (a0_1:Int):Option (Bool):=(spec_l01In.f a0_0 0 40).bind fun t102=>(if t102=true then ((spec_l01In.f a0_1 0 40).bind fun t103=>(some t103)) else (some false))
theorem spec_PointOk.calls (a0_0:Int) (a0_1:Int) (r:Bool) (w:World) (h:spec_PointOk.f a0_0 a0_1=some r) :
 Calls Try.prog 60 #[.agg #[.int .i64 a0_0,.int .i64 a0_1]] w fun e w'=>e=.returned (.bool r)∧Below w.heap.size w w':=by
 have hu40:=Try.underlying40
 have HB:=Aside0.mk (Below.refl w.heap.size w)
 have H:((spec_l01In.f a0_0 0 40).bind fun t102=>(if t102=true then ((spec_l01In.f a0_1 0 40).bind fun t103=>(some t103)) else (some false)))=some r:=h
 clear h
 replace H:=Option.bind_eq_some_iff.mp H
 obtain ⟨t102,A20,H⟩:=H
 have A2:=Aside0.mk A20
 clear A20
 by_cases c3:t102=true
 ·subst c3
  rw [if_pos rfl] at H
  replace H:=Option.bind_eq_some_iff.mp H
  obtain ⟨t103,A40,H⟩:=H
  have A4:=Aside0.mk A40
  clear A40
  obtain rfl:=Option.some.inj H
  go_enter Try.func60,Try.ntmps60
  go_wp2_with (first|((with_reducible refine gate_dst (N:=1) rfl ?_);refine bE 1 #[.int .i64 a0_0,.int .i64 a0_1] 40 ?_;intro gb101 hg w5 hbox hb;have n0_:=Aside0.mk (below_step (by repeat (with_reducible first|exact HB.out|apply bA|apply bN|apply bD)) hb);have n1_:=Aside0.mk (hbox);have n2_:=Aside0.mk ((by rw [hg];exact (below_size (by repeat (with_reducible first|exact HB.out|apply bA|apply bN|apply bD))):w.heap.size≤gb101));have n3_:=Aside0.mk ((by rw [hg];exact (below_size (by repeat (with_reducible first|exact HB.out|apply bA|apply bN|apply bD))):w.heap.size≤gb101));clear HB;have HB:=n0_;have BK101:=n1_;have GW101:=n2_;have GE101:=n3_;clear n0_ n1_ n2_ n3_;clear hb hbox hg;have hcz6_0:w5.cell? ⟨gb101,0,none⟩=some (.int .i64 a0_0):=(blk_cell BK101.out 0).trans rfl;have hcz6_1:w5.cell? ⟨gb101,1,none⟩=some (.int .i64 a0_1):=(blk_cell BK101.out 1).trans rfl;have hfz6_0:=blk_frozen BK101.out 0;have hfz6_1:=blk_frozen BK101.out 1)|((with_reducible refine gate_callee (f:=54) rfl ?_);refine goesL_ (some 5) rfl rfl Try.func54 (by kernel_rfl) rfl #[.int .i64 a0_0,.int .i64 0,.int .i64 40] rfl (by (try simp only [List.map_toArray,List.map_cons,List.map_nil]);first|done|rfl) ?_;(with_reducible refine (spec_l01In.calls a0_0 0 40 true _ A2.out).mono ?_);rintro e w' ⟨rfl,⟨nd,rfl⟩⟩;refine ⟨_,rfl,?_⟩)|(go_at_call 54;(with_reducible refine (spec_l01In.calls a0_1 0 40 t103 _ A4.out).mono ?_);rintro e w' ⟨rfl,⟨nd,rfl⟩⟩))
  go_ret
  exact ⟨by first|rfl|(simp [errW_none,errW_some] <;> rfl)|(simp [*,errW_none,errW_some] <;> rfl),by repeat (first|(with_reducible first|exact HB.out|apply bA|apply bN|apply bD|refine bS ?_ GE101.out)|exact HB.out)⟩
 ·replace c3:=Bool.eq_false_iff.mpr c3
  subst c3
  rw [if_neg (show ¬ (false=true) by decide)] at H
  obtain rfl:=Option.some.inj H
  go_enter Try.func60,Try.ntmps60
  go_wp2_with (first|((with_reducible refine gate_dst (N:=1) rfl ?_);refine bE 1 #[.int .i64 a0_0,.int .i64 a0_1] 40 ?_;intro gb101 hg w7 hbox hb;have n0_:=Aside0.mk (below_step (by repeat (with_reducible first|exact HB.out|apply bA|apply bN|apply bD)) hb);have n1_:=Aside0.mk (hbox);have n2_:=Aside0.mk ((by rw [hg];exact (below_size (by repeat (with_reducible first|exact HB.out|apply bA|apply bN|apply bD))):w.heap.size≤gb101));have n3_:=Aside0.mk ((by rw [hg];exact (below_size (by repeat (with_reducible first|exact HB.out|apply bA|apply bN|apply bD))):w.heap.size≤gb101));clear HB;have HB:=n0_;have BK101:=n1_;have GW101:=n2_;have GE101:=n3_;clear n0_ n1_ n2_ n3_;clear hb hbox hg;have hcz8_0:w7.cell? ⟨gb101,0,none⟩=some (.int .i64 a0_0):=(blk_cell BK101.out 0).trans rfl;have hcz8_1:w7.cell? ⟨gb101,1,none⟩=some (.int .i64 a0_1):=(blk_cell BK101.out 1).trans rfl;have hfz8_0:=blk_frozen BK101.out 0;have hfz8_1:=blk_frozen BK101.out 1)|((with_reducible refine gate_callee (f:=54) rfl ?_);refine goesL_ (some 5) rfl rfl Try.func54 (by kernel_rfl) rfl #[.int .i64 a0_0,.int .i64 0,.int .i64 40] rfl (by (try simp only [List.map_toArray,List.map_cons,List.map_nil]);first|done|rfl) ?_;(with_reducible refine (spec_l01In.calls a0_0 0 40 false _ A2.out).mono ?_);rintro e w' ⟨rfl,⟨nd,rfl⟩⟩;refine ⟨_,rfl,?_⟩))
  go_ret
  exact ⟨by first|rfl|(simp [errW_none,errW_some] <;> rfl)|(simp [*,errW_none,errW_some] <;> rfl),by repeat (first|(with_reducible first|exact HB.out|apply bA|apply bN|apply bD|refine bS ?_ GE101.out)|exact HB.out)⟩
def spec_l02Cross.f (a0_0:Int) (a0_1:Int) (a1_0:Int) (a1_1:Int) (a2_0:Int) (a2_1:Int):Option (Int):=some (wrap64 ((wrap64 ((wrap64 (a1_0 - a0_0)) * (wrap64 (a2_1 - a0_1)))) - (wrap64 ((wrap64 (a1_1 - a0_1)) * (wrap64 (a2_0 - a0_0))))))
theorem spec_l02Cross.calls (a0_0:Int) (a0_1:Int) (a1_0:Int) (a1_1:Int) (a2_0:Int) (a2_1:Int) (r:Int) (w:World) (h:spec_l02Cross.f a0_0 a0_1 a1_0 a1_1 a2_0 a2_1=some r) :
 Calls Try.prog 75 #[.agg #[.int .i64 a0_0,.int .i64 a0_1],.agg #[.int .i64 a1_0,.int .i64 a1_1],.agg #[.int .i64 a2_0,.int .i64 a2_1]] w fun e w'=>e=.returned (.int .i64 r)∧Below w.heap.size w w':=by
 have hu40:=Try.underlying40
 have HB:=Aside0.mk (Below.refl w.heap.size w)
 have H:(some (wrap64 ((wrap64 ((wrap64 (a1_0 - a0_0)) * (wrap64 (a2_1 - a0_1)))) - (wrap64 ((wrap64 (a1_1 - a0_1)) * (wrap64 (a2_0 - a0_0)))))))=some r:=h
 clear h
 obtain rfl:=Option.some.inj H
 go_enter Try.func75,Try.ntmps75
 go_wp2_with (first|((with_reducible refine gate_dst (N:=3) rfl ?_);refine bE 3 #[.int .i64 a0_0,.int .i64 a0_1] 40 ?_;intro gb104 hg w4 hbox hb;have n0_:=Aside0.mk (below_step (by repeat (with_reducible first|exact HB.out|apply bA|apply bN|apply bD)) hb);have n1_:=Aside0.mk (hbox);have n2_:=Aside0.mk ((by rw [hg];exact (below_size (by repeat (with_reducible first|exact HB.out|apply bA|apply bN|apply bD))):w.heap.size≤gb104));have n3_:=Aside0.mk ((by rw [hg];exact (below_size (by repeat (with_reducible first|exact HB.out|apply bA|apply bN|apply bD))):w.heap.size≤gb104));clear HB;have HB:=n0_;have BK104:=n1_;have GW104:=n2_;have GE104:=n3_;clear n0_ n1_ n2_ n3_;clear hb hbox hg)|((with_reducible refine gate_dst (N:=4) rfl ?_);refine bE 4 #[.int .i64 a1_0,.int .i64 a1_1] 40 ?_;intro gb105 hg w5 hbox hb;have n0_:=Aside0.mk (blk_below (by repeat (with_reducible first|exact BK104.out|apply kN|apply kD|apply kA)) hb);have n1_:=Aside0.mk (below_step (by repeat (first|(with_reducible first|exact HB.out|apply bA|apply bN|apply bD|refine bS ?_ GE104.out)|exact HB.out)) hb);have n2_:=Aside0.mk (hbox);have n3_:=Aside0.mk ((by rw [hg];exact (below_size (by repeat (first|(with_reducible first|exact HB.out|apply bA|apply bN|apply bD|refine bS ?_ GE104.out)|exact HB.out))):w.heap.size≤gb105));have n4_:=Aside0.mk ((by rw [hg];exact (below_size (by repeat (first|(with_reducible first|exact HB.out|apply bA|apply bN|apply bD|refine bS ?_ GE104.out)|exact HB.out))):w.heap.size≤gb105));have n5_:=Aside0.mk ((by rw [hg];exact Nat.ne_of_lt (blk_lt (by repeat (with_reducible first|exact BK104.out|apply kN|apply kD|apply kA))):gb104≠gb105));have n6_:=Aside0.mk ((by rw [hg];exact Nat.ne_of_gt (blk_lt (by repeat (with_reducible first|exact BK104.out|apply kN|apply kD|apply kA))):gb105≠gb104));clear BK104;clear HB;have BK104:=n0_;have HB:=n1_;have BK105:=n2_;have GW105:=n3_;have GE105:=n4_;have NB104_105:=n5_;have NB105_104:=n6_;clear n0_ n1_ n2_ n3_ n4_ n5_ n6_;clear hb hbox hg)|((with_reducible refine gate_dst (N:=5) rfl ?_);refine bE 5 #[.int .i64 a2_0,.int .i64 a2_1] 40 ?_;intro gb106 hg w6 hbox hb;have n0_:=Aside0.mk (blk_below (by repeat (with_reducible first|exact BK104.out|apply kN|apply kD|apply kA)) hb);have n1_:=Aside0.mk (blk_below (by repeat (with_reducible first|exact BK105.out|apply kN|apply kD|apply kA)) hb);have n2_:=Aside0.mk (below_step (by repeat (first|(with_reducible first|exact HB.out|apply bA|apply bN|apply bD|refine bS ?_ GE104.out|refine bS ?_ GE105.out)|exact HB.out)) hb);have n3_:=Aside0.mk (hbox);have n4_:=Aside0.mk ((by rw [hg];exact (below_size (by repeat (first|(with_reducible first|exact HB.out|apply bA|apply bN|apply bD|refine bS ?_ GE104.out|refine bS ?_ GE105.out)|exact HB.out))):w.heap.size≤gb106));have n5_:=Aside0.mk ((by rw [hg];exact (below_size (by repeat (first|(with_reducible first|exact HB.out|apply bA|apply bN|apply bD|refine bS ?_ GE104.out|refine bS ?_ GE105.out)|exact HB.out))):w.heap.size≤gb106));have n6_:=Aside0.mk ((by rw [hg];exact Nat.ne_of_lt (blk_lt (by repeat (with_reducible first|exact BK104.out|apply kN|apply kD|apply kA))):gb104≠gb106));have n7_:=Aside0.mk ((by rw [hg];exact Nat.ne_of_gt (blk_lt (by repeat (with_reducible first|exact BK104.out|apply kN|apply kD|apply kA))):gb106≠gb104));have n8_:=Aside0.mk ((by rw [hg];exact Nat.ne_of_lt (blk_lt (by repeat (with_reducible first|exact BK105.out|apply kN|apply kD|apply kA))):gb105≠gb106));have n9_:=Aside0.mk ((by rw [hg];exact Nat.ne_of_gt (blk_lt (by repeat (with_reducible first|exact BK105.out|apply kN|apply kD|apply kA))):gb106≠gb105));clear BK104;clear BK105;clear HB;have BK104:=n0_;have BK105:=n1_;have HB:=n2_;have BK106:=n3_;have GW106:=n4_;have GE106:=n5_;have NB104_106:=n6_;have NB106_104:=n7_;have NB105_106:=n8_;have NB106_105:=n9_;clear n0_ n1_ n2_ n3_ n4_ n5_ n6_ n7_ n8_ n9_;clear hb hbox hg;have hnb7:=NB105_104.out;have hnc7:=NB104_105.out;have hnb8:=NB105_106.out;have hnc8:=NB106_105.out;have hcz9_0:w6.cell? ⟨gb105,0,none⟩=some (.int .i64 a1_0):=(blk_cell BK105.out 0).trans rfl;have hcz9_1:w6.cell? ⟨gb105,1,none⟩=some (.int .i64 a1_1):=(blk_cell BK105.out 1).trans rfl;have hfz9_0:=blk_frozen BK105.out 0;have hfz9_1:=blk_frozen BK105.out 1;have hnb10:=NB104_106.out;have hnc10:=NB106_104.out;have hcz11_0:w6.cell? ⟨gb104,0,none⟩=some (.int .i64 a0_0):=(blk_cell BK104.out 0).trans rfl;have hcz11_1:w6.cell? ⟨gb104,1,none⟩=some (.int .i64 a0_1):=(blk_cell BK104.out 1).trans rfl;have hfz11_0:=blk_frozen BK104.out 0;have hfz11_1:=blk_frozen BK104.out 1;have hcz12_0:w6.cell? ⟨gb106,0,none⟩=some (.int .i64 a2_0):=(blk_cell BK106.out 0).trans rfl;have hcz12_1:w6.cell? ⟨gb106,1,none⟩=some (.int .i64 a2_1):=(blk_cell BK106.out 1).trans rfl;have hfz12_0:=blk_frozen BK106.out 0;have hfz12_1:=blk_frozen BK106.out 1))
 go_ret
 exact ⟨by first|rfl|(simp [errW_none,errW_some] <;> rfl)|(simp [*,errW_none,errW_some] <;> rfl),by repeat (first|(with_reducible first|exact HB.out|apply bA|apply bN|apply bD|refine bS ?_ GE104.out|refine bS ?_ GE105.out|refine bS ?_ GE106.out)|exact HB.out)⟩
def spec_l02Sign.f (a0:Int):Option (Int):=if a0 > 0 then (some 1) else (if a0 < 0 then (some (-1)) else (some 0))
theorem spec_l02Sign.calls (a0:Int) (r:Int) (w:World) (h:spec_l02Sign.f a0=some r) :
 Calls Try.prog 80 #[.int .i64 a0] w fun e w'=>e=.returned (.int .i64 r)∧Drawn0 w w':=by
 have H:(if a0 > 0 then (some 1) else (if a0 < 0 then (some (-1)) else (some 0)))=some r:=h
 clear h
 by_cases c2:a0 > 0
 ·rw [if_pos c2] at H
  have c2b0:decide (0 < a0)=true:=decide_eq_true c2
  clear c2
  obtain rfl:=Option.some.inj H
  go_enter Try.func80,Try.ntmps80
  go_wp2
  go_ret
  exact ⟨by first|rfl|(simp;done)|(simp [*];done),by repeat (first|exact Drawn0.refl _|apply Drawn0.step)⟩
 ·rw [if_neg c2] at H
  have c2b0:decide (0 < a0)=false:=decide_eq_false c2
  clear c2
  by_cases c3:a0 < 0
  ·rw [if_pos c3] at H
   have c3b0:decide (a0 < 0)=true:=decide_eq_true c3
   clear c3
   obtain rfl:=Option.some.inj H
   go_enter Try.func80,Try.ntmps80
   go_wp2
   go_ret
   exact ⟨by first|rfl|(simp;done)|(simp [*];done),by repeat (first|exact Drawn0.refl _|apply Drawn0.step)⟩
  ·rw [if_neg c3] at H
   have c3b0:decide (a0 < 0)=false:=decide_eq_false c3
   clear c3
   obtain rfl:=Option.some.inj H
   go_enter Try.func80,Try.ntmps80
   go_wp2
   go_ret
   exact ⟨by first|rfl|(simp;done)|(simp [*];done),by repeat (first|exact Drawn0.refl _|apply Drawn0.step)⟩
def spec_l02On.f (a0_0:Int) (a0_1:Int) (a1_0:Int) (a1_1:Int) (a2_0:Int) (a2_1:Int):Option (Bool):=(spec_l02Cross.f a0_0 a0_1 a1_0 a1_1 a2_0 a2_1).bind fun t110=>(if t110=0 then (if a2_0 ≥ (mn a0_0 a1_0) then (if a2_0≤(mx a0_0 a1_0) then (if a2_1 ≥ (mn a0_1 a1_1) then (some (decide (a2_1≤(mx a0_1 a1_1)))) else (some false)) else (some false)) else (some false)) else (some false))
theorem spec_l02On.calls (a0_0:Int) (a0_1:Int) (a1_0:Int) (a1_1:Int) (a2_0:Int) (a2_1:Int) (r:Bool) (w:World) (h:spec_l02On.f a0_0 a0_1 a1_0 a1_1 a2_0 a2_1=some r) :
 Calls Try.prog 81 #[.agg #[.int .i64 a0_0,.int .i64 a0_1],.agg #[.int .i64 a1_0,.int .i64 a1_1],.agg #[.int .i64 a2_0,.int .i64 a2_1]] w fun e w'=>e=.returned (.bool r)∧Below w.heap.size w w':=by
 have hu40:=Try.underlying40
 have HB:=Aside0.mk (Below.refl w.heap.size w)
 have H:((spec_l02Cross.f a0_0 a0_1 a1_0 a1_1 a2_0 a2_1).bind fun t110=>(if t110=0 then (if a2_0 ≥ (mn a0_0 a1_0) then (if a2_0≤(mx a0_0 a1_0) then (if a2_1 ≥ (mn a0_1 a1_1) then (some (decide (a2_1≤(mx a0_1 a1_1)))) else (some false)) else (some false)) else (some false)) else (some false)))=some r:=h
 clear h
 replace H:=Option.bind_eq_some_iff.mp H
 obtain ⟨t110,A40,H⟩:=H
 have A4:=Aside0.mk A40
 clear A40
 by_cases c5:t110=0
 ·rw [if_pos c5] at H
  have c5b0:(t110 == 0)=true:=beq_iff_eq.mpr c5
  have c5b1:(t110 != 0)=false:=bne_eq_false_iff_eq.mpr c5
  clear c5
  obtain ⟨ji6,hji6⟩ : ∃ j_:Int,(mn a0_0 a1_0)=j_:=⟨_,rfl⟩
  replace H:(if a2_0 ≥ (ji6) then (if a2_0≤(mx a0_0 a1_0) then (if a2_1 ≥ (mn a0_1 a1_1) then (some (decide (a2_1≤(mx a0_1 a1_1)))) else (some false)) else (some false)) else (some false))=some r:=by first|(rw [hji6] at H;exact H)|(simp only [hji6] at H ⊢;exact H)
  (try rw [hji6] at A4)
  have hji6_:(if a1_0 < a0_0 then a1_0 else a0_0)=ji6:=hji6
  by_cases c7:a2_0 ≥ (ji6)
  ·rw [if_pos c7] at H
   have c7b0:decide ((ji6)≤a2_0)=true:=decide_eq_true c7
   clear c7
   obtain ⟨ji8,hji8⟩ : ∃ j_:Int,(mx a0_0 a1_0)=j_:=⟨_,rfl⟩
   replace H:(if a2_0≤(ji8) then (if a2_1 ≥ (mn a0_1 a1_1) then (some (decide (a2_1≤(mx a0_1 a1_1)))) else (some false)) else (some false))=some r:=by first|(rw [hji8] at H;exact H)|(simp only [hji8] at H ⊢;exact H)
   (try rw [hji8] at A4)
   have hji8_:(if a0_0 < a1_0 then a1_0 else a0_0)=ji8:=hji8
   by_cases c9:a2_0≤(ji8)
   ·rw [if_pos c9] at H
    have c9b0:decide (a2_0≤(ji8))=true:=decide_eq_true c9
    clear c9
    obtain ⟨ji10,hji10⟩ : ∃ j_:Int,(mn a0_1 a1_1)=j_:=⟨_,rfl⟩
    replace H:(if a2_1 ≥ (ji10) then (some (decide (a2_1≤(mx a0_1 a1_1)))) else (some false))=some r:=by first|(rw [hji10] at H;exact H)|(simp only [hji10] at H ⊢;exact H)
    (try rw [hji10] at A4)
    have hji10_:(if a1_1 < a0_1 then a1_1 else a0_1)=ji10:=hji10
    by_cases c11:a2_1 ≥ (ji10)
    ·rw [if_pos c11] at H
     have c11b0:decide ((ji10)≤a2_1)=true:=decide_eq_true c11
     clear c11
     obtain ⟨ji12,hji12⟩ : ∃ j_:Int,(mx a0_1 a1_1)=j_:=⟨_,rfl⟩
     replace H:(some (decide (a2_1≤(ji12))))=some r:=by first|(rw [hji12] at H;exact H)|(simp only [hji12] at H ⊢;exact H)
     (try rw [hji12] at A4)
     have hji12_:(if a0_1 < a1_1 then a1_1 else a0_1)=ji12:=hji12
     obtain rfl:=Option.some.inj H
     go_enter Try.func81,Try.ntmps81
     go_wp2_with (first|((with_reducible refine gate_dst (N:=3) rfl ?_);(try (refine gate_guard (by rfl) ?_;dsimp only));refine bE 3 #[.int .i64 a0_0,.int .i64 a0_1] 40 ?_;intro gb107 hg w13 hbox hb;have n0_:=Aside0.mk (below_step (by repeat (with_reducible first|exact HB.out|apply bA|apply bN|apply bD)) hb);have n1_:=Aside0.mk (hbox);have n2_:=Aside0.mk ((by rw [hg];exact (below_size (by repeat (with_reducible first|exact HB.out|apply bA|apply bN|apply bD))):w.heap.size≤gb107));have n3_:=Aside0.mk ((by rw [hg];exact (below_size (by repeat (with_reducible first|exact HB.out|apply bA|apply bN|apply bD))):w.heap.size≤gb107));clear HB;have HB:=n0_;have BK107:=n1_;have GW107:=n2_;have GE107:=n3_;clear n0_ n1_ n2_ n3_;clear hb hbox hg)|((with_reducible refine gate_dst (N:=4) rfl ?_);(try (refine gate_guard (by rfl) ?_;dsimp only));refine bE 4 #[.int .i64 a1_0,.int .i64 a1_1] 40 ?_;intro gb108 hg w14 hbox hb;have n0_:=Aside0.mk (blk_below (by repeat (with_reducible first|exact BK107.out|apply kN|apply kD|apply kA)) hb);have n1_:=Aside0.mk (below_step (by repeat (first|(with_reducible first|exact HB.out|apply bA|apply bN|apply bD|refine bS ?_ GE107.out)|exact HB.out)) hb);have n2_:=Aside0.mk (hbox);have n3_:=Aside0.mk ((by rw [hg];exact (below_size (by repeat (first|(with_reducible first|exact HB.out|apply bA|apply bN|apply bD|refine bS ?_ GE107.out)|exact HB.out))):w.heap.size≤gb108));have n4_:=Aside0.mk ((by rw [hg];exact (below_size (by repeat (first|(with_reducible first|exact HB.out|apply bA|apply bN|apply bD|refine bS ?_ GE107.out)|exact HB.out))):w.heap.size≤gb108));have n5_:=Aside0.mk ((by rw [hg];exact Nat.ne_of_lt (blk_lt (by repeat (with_reducible first|exact BK107.out|apply kN|apply kD|apply kA))):gb107≠gb108));have n6_:=Aside0.mk ((by rw [hg];exact Nat.ne_of_gt (blk_lt (by repeat (with_reducible first|exact BK107.out|apply kN|apply kD|apply kA))):gb108≠gb107));clear BK107;clear HB;have BK107:=n0_;have HB:=n1_;have BK108:=n2_;have GW108:=n3_;have GE108:=n4_;have NB107_108:=n5_;have NB108_107:=n6_;clear n0_ n1_ n2_ n3_ n4_ n5_ n6_;clear hb hbox hg)|((with_reducible refine gate_dst (N:=5) rfl ?_);(try (refine gate_guard (by rfl) ?_;dsimp only));refine bE 5 #[.int .i64 a2_0,.int .i64 a2_1] 40 ?_;intro gb109 hg w15 hbox hb;have n0_:=Aside0.mk (blk_below (by repeat (with_reducible first|exact BK107.out|apply kN|apply kD|apply kA)) hb);have n1_:=Aside0.mk (blk_below (by repeat (with_reducible first|exact BK108.out|apply kN|apply kD|apply kA)) hb);have n2_:=Aside0.mk (below_step (by repeat (first|(with_reducible first|exact HB.out|apply bA|apply bN|apply bD|refine bS ?_ GE107.out|refine bS ?_ GE108.out)|exact HB.out)) hb);have n3_:=Aside0.mk (hbox);have n4_:=Aside0.mk ((by rw [hg];exact (below_size (by repeat (first|(with_reducible first|exact HB.out|apply bA|apply bN|apply bD|refine bS ?_ GE107.out|refine bS ?_ GE108.out)|exact HB.out))):w.heap.size≤gb109));have n5_:=Aside0.mk ((by rw [hg];exact (below_size (by repeat (first|(with_reducible first|exact HB.out|apply bA|apply bN|apply bD|refine bS ?_ GE107.out|refine bS ?_ GE108.out)|exact HB.out))):w.heap.size≤gb109));have n6_:=Aside0.mk ((by rw [hg];exact Nat.ne_of_lt (blk_lt (by repeat (with_reducible first|exact BK107.out|apply kN|apply kD|apply kA))):gb107≠gb109));have n7_:=Aside0.mk ((by rw [hg];exact Nat.ne_of_gt (blk_lt (by repeat (with_reducible first|exact BK107.out|apply kN|apply kD|apply kA))):gb109≠gb107));have n8_:=Aside0.mk ((by rw [hg];exact Nat.ne_of_lt (blk_lt (by repeat (with_reducible first|exact BK108.out|apply kN|apply kD|apply kA))):gb108≠gb109));have n9_:=Aside0.mk ((by rw [hg];exact Nat.ne_of_gt (blk_lt (by repeat (with_reducible first|exact BK108.out|apply kN|apply kD|apply kA))):gb109≠gb108));clear BK107;clear BK108;clear HB;have BK107:=n0_;have BK108:=n1_;have HB:=n2_;have BK109:=n3_;have GW109:=n4_;have GE109:=n5_;have NB107_109:=n6_;have NB109_107:=n7_;have NB108_109:=n8_;have NB109_108:=n9_;clear n0_ n1_ n2_ n3_ n4_ n5_ n6_ n7_ n8_ n9_;clear hb hbox hg;have hnb16:=NB107_108.out;have hnc16:=NB108_107.out;have hnb17:=NB107_109.out;have hnc17:=NB109_107.out;have hcz18_0:w15.cell? ⟨gb107,0,none⟩=some (.int .i64 a0_0):=(blk_cell BK107.out 0).trans rfl;have hcz18_1:w15.cell? ⟨gb107,1,none⟩=some (.int .i64 a0_1):=(blk_cell BK107.out 1).trans rfl;have hfz18_0:=blk_frozen BK107.out 0;have hfz18_1:=blk_frozen BK107.out 1;have hnb19:=NB108_109.out;have hnc19:=NB109_108.out;have hcz20_0:w15.cell? ⟨gb108,0,none⟩=some (.int .i64 a1_0):=(blk_cell BK108.out 0).trans rfl;have hcz20_1:w15.cell? ⟨gb108,1,none⟩=some (.int .i64 a1_1):=(blk_cell BK108.out 1).trans rfl;have hfz20_0:=blk_frozen BK108.out 0;have hfz20_1:=blk_frozen BK108.out 1;have hcz21_0:w15.cell? ⟨gb109,0,none⟩=some (.int .i64 a2_0):=(blk_cell BK109.out 0).trans rfl;have hcz21_1:w15.cell? ⟨gb109,1,none⟩=some (.int .i64 a2_1):=(blk_cell BK109.out 1).trans rfl;have hfz21_0:=blk_frozen BK109.out 0;have hfz21_1:=blk_frozen BK109.out 1)|((with_reducible refine gate_callee (f:=75) rfl ?_);refine goesL_ (some 10) rfl rfl Try.func75 (by kernel_rfl) rfl #[.agg #[.int .i64 a0_0,.int .i64 a0_1],.agg #[.int .i64 a1_0,.int .i64 a1_1],.agg #[.int .i64 a2_0,.int .i64 a2_1]] rfl (by (try simp only [List.map_toArray,List.map_cons,List.map_nil]);first|done|rfl) ?_;(with_reducible refine (spec_l02Cross.calls a0_0 a0_1 a1_0 a1_1 a2_0 a2_1 t110 _ A4.out).mono ?_);rintro e w22 ⟨rfl,hb⟩;refine ⟨_,rfl,?_⟩;have n0_:=Aside0.mk (blk_below (by repeat (with_reducible first|exact BK107.out|apply kN|apply kD|apply kA)) hb);have n1_:=Aside0.mk (blk_below (by repeat (with_reducible first|exact BK108.out|apply kN|apply kD|apply kA)) hb);have n2_:=Aside0.mk (blk_below (by repeat (with_reducible first|exact BK109.out|apply kN|apply kD|apply kA)) hb);have n3_:=Aside0.mk (below_step (by repeat (first|(with_reducible first|exact HB.out|apply bA|apply bN|apply bD|refine bS ?_ GE107.out|refine bS ?_ GE108.out|refine bS ?_ GE109.out)|exact HB.out)) hb);clear BK107;clear BK108;clear BK109;clear HB;have BK107:=n0_;have BK108:=n1_;have BK109:=n2_;have HB:=n3_;clear n0_ n1_ n2_ n3_;(try clear hb);have hcz23_0:w22.cell? ⟨gb109,0,none⟩=some (.int .i64 a2_0):=(blk_cell BK109.out 0).trans rfl;have hcz23_1:w22.cell? ⟨gb109,1,none⟩=some (.int .i64 a2_1):=(blk_cell BK109.out 1).trans rfl;have hfz23_0:=blk_frozen BK109.out 0;have hfz23_1:=blk_frozen BK109.out 1;have hcz24_0:w22.cell? ⟨gb107,0,none⟩=some (.int .i64 a0_0):=(blk_cell BK107.out 0).trans rfl;have hcz24_1:w22.cell? ⟨gb107,1,none⟩=some (.int .i64 a0_1):=(blk_cell BK107.out 1).trans rfl;have hfz24_0:=blk_frozen BK107.out 0;have hfz24_1:=blk_frozen BK107.out 1;have hcz25_0:w22.cell? ⟨gb108,0,none⟩=some (.int .i64 a1_0):=(blk_cell BK108.out 0).trans rfl;have hcz25_1:w22.cell? ⟨gb108,1,none⟩=some (.int .i64 a1_1):=(blk_cell BK108.out 1).trans rfl;have hfz25_0:=blk_frozen BK108.out 0;have hfz25_1:=blk_frozen BK108.out 1))
     go_ret
     exact ⟨by first|rfl|(simp [errW_none,errW_some] <;> rfl)|(simp only [← hji6,← hji8,← hji10,← hji12];first|rfl|(simp [errW_none,errW_some] <;> rfl))|(simp [*,errW_none,errW_some] <;> rfl),by repeat (first|(with_reducible first|exact HB.out|apply bA|apply bN|apply bD|refine bS ?_ GE107.out|refine bS ?_ GE108.out|refine bS ?_ GE109.out)|exact HB.out)⟩
    ·rw [if_neg c11] at H
     have c11b0:decide ((ji10)≤a2_1)=false:=decide_eq_false c11
     clear c11
     obtain rfl:=Option.some.inj H
     go_enter Try.func81,Try.ntmps81
     go_wp2_with (first|((with_reducible refine gate_dst (N:=3) rfl ?_);(try (refine gate_guard (by rfl) ?_;dsimp only));refine bE 3 #[.int .i64 a0_0,.int .i64 a0_1] 40 ?_;intro gb107 hg w26 hbox hb;have n0_:=Aside0.mk (below_step (by repeat (with_reducible first|exact HB.out|apply bA|apply bN|apply bD)) hb);have n1_:=Aside0.mk (hbox);have n2_:=Aside0.mk ((by rw [hg];exact (below_size (by repeat (with_reducible first|exact HB.out|apply bA|apply bN|apply bD))):w.heap.size≤gb107));have n3_:=Aside0.mk ((by rw [hg];exact (below_size (by repeat (with_reducible first|exact HB.out|apply bA|apply bN|apply bD))):w.heap.size≤gb107));clear HB;have HB:=n0_;have BK107:=n1_;have GW107:=n2_;have GE107:=n3_;clear n0_ n1_ n2_ n3_;clear hb hbox hg)|((with_reducible refine gate_dst (N:=4) rfl ?_);(try (refine gate_guard (by rfl) ?_;dsimp only));refine bE 4 #[.int .i64 a1_0,.int .i64 a1_1] 40 ?_;intro gb108 hg w27 hbox hb;have n0_:=Aside0.mk (blk_below (by repeat (with_reducible first|exact BK107.out|apply kN|apply kD|apply kA)) hb);have n1_:=Aside0.mk (below_step (by repeat (first|(with_reducible first|exact HB.out|apply bA|apply bN|apply bD|refine bS ?_ GE107.out)|exact HB.out)) hb);have n2_:=Aside0.mk (hbox);have n3_:=Aside0.mk ((by rw [hg];exact (below_size (by repeat (first|(with_reducible first|exact HB.out|apply bA|apply bN|apply bD|refine bS ?_ GE107.out)|exact HB.out))):w.heap.size≤gb108));have n4_:=Aside0.mk ((by rw [hg];exact (below_size (by repeat (first|(with_reducible first|exact HB.out|apply bA|apply bN|apply bD|refine bS ?_ GE107.out)|exact HB.out))):w.heap.size≤gb108));have n5_:=Aside0.mk ((by rw [hg];exact Nat.ne_of_lt (blk_lt (by repeat (with_reducible first|exact BK107.out|apply kN|apply kD|apply kA))):gb107≠gb108));have n6_:=Aside0.mk ((by rw [hg];exact Nat.ne_of_gt (blk_lt (by repeat (with_reducible first|exact BK107.out|apply kN|apply kD|apply kA))):gb108≠gb107));clear BK107;clear HB;have BK107:=n0_;have HB:=n1_;have BK108:=n2_;have GW108:=n3_;have GE108:=n4_;have NB107_108:=n5_;have NB108_107:=n6_;clear n0_ n1_ n2_ n3_ n4_ n5_ n6_;clear hb hbox hg)|((with_reducible refine gate_dst (N:=5) rfl ?_);(try (refine gate_guard (by rfl) ?_;dsimp only));refine bE 5 #[.int .i64 a2_0,.int .i64 a2_1] 40 ?_;intro gb109 hg w28 hbox hb;have n0_:=Aside0.mk (blk_below (by repeat (with_reducible first|exact BK107.out|apply kN|apply kD|apply kA)) hb);have n1_:=Aside0.mk (blk_below (by repeat (with_reducible first|exact BK108.out|apply kN|apply kD|apply kA)) hb);have n2_:=Aside0.mk (below_step (by repeat (first|(with_reducible first|exact HB.out|apply bA|apply bN|apply bD|refine bS ?_ GE107.out|refine bS ?_ GE108.out)|exact HB.out)) hb);have n3_:=Aside0.mk (hbox);have n4_:=Aside0.mk ((by rw [hg];exact (below_size (by repeat (first|(with_reducible first|exact HB.out|apply bA|apply bN|apply bD|refine bS ?_ GE107.out|refine bS ?_ GE108.out)|exact HB.out))):w.heap.size≤gb109));have n5_:=Aside0.mk ((by rw [hg];exact (below_size (by repeat (first|(with_reducible first|exact HB.out|apply bA|apply bN|apply bD|refine bS ?_ GE107.out|refine bS ?_ GE108.out)|exact HB.out))):w.heap.size≤gb109));have n6_:=Aside0.mk ((by rw [hg];exact Nat.ne_of_lt (blk_lt (by repeat (with_reducible first|exact BK107.out|apply kN|apply kD|apply kA))):gb107≠gb109));have n7_:=Aside0.mk ((by rw [hg];exact Nat.ne_of_gt (blk_lt (by repeat (with_reducible first|exact BK107.out|apply kN|apply kD|apply kA))):gb109≠gb107));have n8_:=Aside0.mk ((by rw [hg];exact Nat.ne_of_lt (blk_lt (by repeat (with_reducible first|exact BK108.out|apply kN|apply kD|apply kA))):gb108≠gb109));have n9_:=Aside0.mk ((by rw [hg];exact Nat.ne_of_gt (blk_lt (by repeat (with_reducible first|exact BK108.out|apply kN|apply kD|apply kA))):gb109≠gb108));clear BK107;clear BK108;clear HB;have BK107:=n0_;have BK108:=n1_;have HB:=n2_;have BK109:=n3_;have GW109:=n4_;have GE109:=n5_;have NB107_109:=n6_;have NB109_107:=n7_;have NB108_109:=n8_;have NB109_108:=n9_;clear n0_ n1_ n2_ n3_ n4_ n5_ n6_ n7_ n8_ n9_;clear hb hbox hg;have hnb29:=NB107_108.out;have hnc29:=NB108_107.out;have hnb30:=NB107_109.out;have hnc30:=NB109_107.out;have hcz31_0:w28.cell? ⟨gb107,0,none⟩=some (.int .i64 a0_0):=(blk_cell BK107.out 0).trans rfl;have hcz31_1:w28.cell? ⟨gb107,1,none⟩=some (.int .i64 a0_1):=(blk_cell BK107.out 1).trans rfl;have hfz31_0:=blk_frozen BK107.out 0;have hfz31_1:=blk_frozen BK107.out 1;have hnb32:=NB108_109.out;have hnc32:=NB109_108.out;have hcz33_0:w28.cell? ⟨gb108,0,none⟩=some (.int .i64 a1_0):=(blk_cell BK108.out 0).trans rfl;have hcz33_1:w28.cell? ⟨gb108,1,none⟩=some (.int .i64 a1_1):=(blk_cell BK108.out 1).trans rfl;have hfz33_0:=blk_frozen BK108.out 0;have hfz33_1:=blk_frozen BK108.out 1;have hcz34_0:w28.cell? ⟨gb109,0,none⟩=some (.int .i64 a2_0):=(blk_cell BK109.out 0).trans rfl;have hcz34_1:w28.cell? ⟨gb109,1,none⟩=some (.int .i64 a2_1):=(blk_cell BK109.out 1).trans rfl;have hfz34_0:=blk_frozen BK109.out 0;have hfz34_1:=blk_frozen BK109.out 1)|((with_reducible refine gate_callee (f:=75) rfl ?_);refine goesL_ (some 10) rfl rfl Try.func75 (by kernel_rfl) rfl #[.agg #[.int .i64 a0_0,.int .i64 a0_1],.agg #[.int .i64 a1_0,.int .i64 a1_1],.agg #[.int .i64 a2_0,.int .i64 a2_1]] rfl (by (try simp only [List.map_toArray,List.map_cons,List.map_nil]);first|done|rfl) ?_;(with_reducible refine (spec_l02Cross.calls a0_0 a0_1 a1_0 a1_1 a2_0 a2_1 t110 _ A4.out).mono ?_);rintro e w35 ⟨rfl,hb⟩;refine ⟨_,rfl,?_⟩;have n0_:=Aside0.mk (blk_below (by repeat (with_reducible first|exact BK107.out|apply kN|apply kD|apply kA)) hb);have n1_:=Aside0.mk (blk_below (by repeat (with_reducible first|exact BK108.out|apply kN|apply kD|apply kA)) hb);have n2_:=Aside0.mk (blk_below (by repeat (with_reducible first|exact BK109.out|apply kN|apply kD|apply kA)) hb);have n3_:=Aside0.mk (below_step (by repeat (first|(with_reducible first|exact HB.out|apply bA|apply bN|apply bD|refine bS ?_ GE107.out|refine bS ?_ GE108.out|refine bS ?_ GE109.out)|exact HB.out)) hb);clear BK107;clear BK108;clear BK109;clear HB;have BK107:=n0_;have BK108:=n1_;have BK109:=n2_;have HB:=n3_;clear n0_ n1_ n2_ n3_;(try clear hb);have hcz36_0:w35.cell? ⟨gb109,0,none⟩=some (.int .i64 a2_0):=(blk_cell BK109.out 0).trans rfl;have hcz36_1:w35.cell? ⟨gb109,1,none⟩=some (.int .i64 a2_1):=(blk_cell BK109.out 1).trans rfl;have hfz36_0:=blk_frozen BK109.out 0;have hfz36_1:=blk_frozen BK109.out 1;have hcz37_0:w35.cell? ⟨gb107,0,none⟩=some (.int .i64 a0_0):=(blk_cell BK107.out 0).trans rfl;have hcz37_1:w35.cell? ⟨gb107,1,none⟩=some (.int .i64 a0_1):=(blk_cell BK107.out 1).trans rfl;have hfz37_0:=blk_frozen BK107.out 0;have hfz37_1:=blk_frozen BK107.out 1;have hcz38_0:w35.cell? ⟨gb108,0,none⟩=some (.int .i64 a1_0):=(blk_cell BK108.out 0).trans rfl;have hcz38_1:w35.cell? ⟨gb108,1,none⟩=some (.int .i64 a1_1):=(blk_cell BK108.out 1).trans rfl;have hfz38_0:=blk_frozen BK108.out 0;have hfz38_1:=blk_frozen BK108.out 1))
     go_ret
     exact ⟨by first|rfl|(simp [errW_none,errW_some] <;> rfl)|(simp only [← hji6,← hji8,← hji10];first|rfl|(simp [errW_none,errW_some] <;> rfl))|(simp [*,errW_none,errW_some] <;> rfl),by repeat (first|(with_reducible first|exact HB.out|apply bA|apply bN|apply bD|refine bS ?_ GE107.out|refine bS ?_ GE108.out|refine bS ?_ GE109.out)|exact HB.out)⟩
   ·rw [if_neg c9] at H
    have c9b0:decide (a2_0≤(ji8))=false:=decide_eq_false c9
    clear c9
    obtain rfl:=Option.some.inj H
    go_enter Try.func81,Try.ntmps81
    go_wp2_with (first|((with_reducible refine gate_dst (N:=3) rfl ?_);(try (refine gate_guard (by rfl) ?_;dsimp only));refine bE 3 #[.int .i64 a0_0,.int .i64 a0_1] 40 ?_;intro gb107 hg w39 hbox hb;have n0_:=Aside0.mk (below_step (by repeat (with_reducible first|exact HB.out|apply bA|apply bN|apply bD)) hb);have n1_:=Aside0.mk (hbox);have n2_:=Aside0.mk ((by rw [hg];exact (below_size (by repeat (with_reducible first|exact HB.out|apply bA|apply bN|apply bD))):w.heap.size≤gb107));have n3_:=Aside0.mk ((by rw [hg];exact (below_size (by repeat (with_reducible first|exact HB.out|apply bA|apply bN|apply bD))):w.heap.size≤gb107));clear HB;have HB:=n0_;have BK107:=n1_;have GW107:=n2_;have GE107:=n3_;clear n0_ n1_ n2_ n3_;clear hb hbox hg)|((with_reducible refine gate_dst (N:=4) rfl ?_);(try (refine gate_guard (by rfl) ?_;dsimp only));refine bE 4 #[.int .i64 a1_0,.int .i64 a1_1] 40 ?_;intro gb108 hg w40 hbox hb;have n0_:=Aside0.mk (blk_below (by repeat (with_reducible first|exact BK107.out|apply kN|apply kD|apply kA)) hb);have n1_:=Aside0.mk (below_step (by repeat (first|(with_reducible first|exact HB.out|apply bA|apply bN|apply bD|refine bS ?_ GE107.out)|exact HB.out)) hb);have n2_:=Aside0.mk (hbox);have n3_:=Aside0.mk ((by rw [hg];exact (below_size (by repeat (first|(with_reducible first|exact HB.out|apply bA|apply bN|apply bD|refine bS ?_ GE107.out)|exact HB.out))):w.heap.size≤gb108));have n4_:=Aside0.mk ((by rw [hg];exact (below_size (by repeat (first|(with_reducible first|exact HB.out|apply bA|apply bN|apply bD|refine bS ?_ GE107.out)|exact HB.out))):w.heap.size≤gb108));have n5_:=Aside0.mk ((by rw [hg];exact Nat.ne_of_lt (blk_lt (by repeat (with_reducible first|exact BK107.out|apply kN|apply kD|apply kA))):gb107≠gb108));have n6_:=Aside0.mk ((by rw [hg];exact Nat.ne_of_gt (blk_lt (by repeat (with_reducible first|exact BK107.out|apply kN|apply kD|apply kA))):gb108≠gb107));clear BK107;clear HB;have BK107:=n0_;have HB:=n1_;have BK108:=n2_;have GW108:=n3_;have GE108:=n4_;have NB107_108:=n5_;have NB108_107:=n6_;clear n0_ n1_ n2_ n3_ n4_ n5_ n6_;clear hb hbox hg)|((with_reducible refine gate_dst (N:=5) rfl ?_);(try (refine gate_guard (by rfl) ?_;dsimp only));refine bE 5 #[.int .i64 a2_0,.int .i64 a2_1] 40 ?_;intro gb109 hg w41 hbox hb;have n0_:=Aside0.mk (blk_below (by repeat (with_reducible first|exact BK107.out|apply kN|apply kD|apply kA)) hb);have n1_:=Aside0.mk (blk_below (by repeat (with_reducible first|exact BK108.out|apply kN|apply kD|apply kA)) hb);have n2_:=Aside0.mk (below_step (by repeat (first|(with_reducible first|exact HB.out|apply bA|apply bN|apply bD|refine bS ?_ GE107.out|refine bS ?_ GE108.out)|exact HB.out)) hb);have n3_:=Aside0.mk (hbox);have n4_:=Aside0.mk ((by rw [hg];exact (below_size (by repeat (first|(with_reducible first|exact HB.out|apply bA|apply bN|apply bD|refine bS ?_ GE107.out|refine bS ?_ GE108.out)|exact HB.out))):w.heap.size≤gb109));have n5_:=Aside0.mk ((by rw [hg];exact (below_size (by repeat (first|(with_reducible first|exact HB.out|apply bA|apply bN|apply bD|refine bS ?_ GE107.out|refine bS ?_ GE108.out)|exact HB.out))):w.heap.size≤gb109));have n6_:=Aside0.mk ((by rw [hg];exact Nat.ne_of_lt (blk_lt (by repeat (with_reducible first|exact BK107.out|apply kN|apply kD|apply kA))):gb107≠gb109));have n7_:=Aside0.mk ((by rw [hg];exact Nat.ne_of_gt (blk_lt (by repeat (with_reducible first|exact BK107.out|apply kN|apply kD|apply kA))):gb109≠gb107));have n8_:=Aside0.mk ((by rw [hg];exact Nat.ne_of_lt (blk_lt (by repeat (with_reducible first|exact BK108.out|apply kN|apply kD|apply kA))):gb108≠gb109));have n9_:=Aside0.mk ((by rw [hg];exact Nat.ne_of_gt (blk_lt (by repeat (with_reducible first|exact BK108.out|apply kN|apply kD|apply kA))):gb109≠gb108));clear BK107;clear BK108;clear HB;have BK107:=n0_;have BK108:=n1_;have HB:=n2_;have BK109:=n3_;have GW109:=n4_;have GE109:=n5_;have NB107_109:=n6_;have NB109_107:=n7_;have NB108_109:=n8_;have NB109_108:=n9_;clear n0_ n1_ n2_ n3_ n4_ n5_ n6_ n7_ n8_ n9_;clear hb hbox hg;have hnb42:=NB107_108.out;have hnc42:=NB108_107.out;have hnb43:=NB107_109.out;have hnc43:=NB109_107.out;have hcz44_0:w41.cell? ⟨gb107,0,none⟩=some (.int .i64 a0_0):=(blk_cell BK107.out 0).trans rfl;have hcz44_1:w41.cell? ⟨gb107,1,none⟩=some (.int .i64 a0_1):=(blk_cell BK107.out 1).trans rfl;have hfz44_0:=blk_frozen BK107.out 0;have hfz44_1:=blk_frozen BK107.out 1;have hnb45:=NB108_109.out;have hnc45:=NB109_108.out;have hcz46_0:w41.cell? ⟨gb108,0,none⟩=some (.int .i64 a1_0):=(blk_cell BK108.out 0).trans rfl;have hcz46_1:w41.cell? ⟨gb108,1,none⟩=some (.int .i64 a1_1):=(blk_cell BK108.out 1).trans rfl;have hfz46_0:=blk_frozen BK108.out 0;have hfz46_1:=blk_frozen BK108.out 1;have hcz47_0:w41.cell? ⟨gb109,0,none⟩=some (.int .i64 a2_0):=(blk_cell BK109.out 0).trans rfl;have hcz47_1:w41.cell? ⟨gb109,1,none⟩=some (.int .i64 a2_1):=(blk_cell BK109.out 1).trans rfl;have hfz47_0:=blk_frozen BK109.out 0;have hfz47_1:=blk_frozen BK109.out 1)|((with_reducible refine gate_callee (f:=75) rfl ?_);refine goesL_ (some 10) rfl rfl Try.func75 (by kernel_rfl) rfl #[.agg #[.int .i64 a0_0,.int .i64 a0_1],.agg #[.int .i64 a1_0,.int .i64 a1_1],.agg #[.int .i64 a2_0,.int .i64 a2_1]] rfl (by (try simp only [List.map_toArray,List.map_cons,List.map_nil]);first|done|rfl) ?_;(with_reducible refine (spec_l02Cross.calls a0_0 a0_1 a1_0 a1_1 a2_0 a2_1 t110 _ A4.out).mono ?_);rintro e w48 ⟨rfl,hb⟩;refine ⟨_,rfl,?_⟩;have n0_:=Aside0.mk (blk_below (by repeat (with_reducible first|exact BK107.out|apply kN|apply kD|apply kA)) hb);have n1_:=Aside0.mk (blk_below (by repeat (with_reducible first|exact BK108.out|apply kN|apply kD|apply kA)) hb);have n2_:=Aside0.mk (blk_below (by repeat (with_reducible first|exact BK109.out|apply kN|apply kD|apply kA)) hb);have n3_:=Aside0.mk (below_step (by repeat (first|(with_reducible first|exact HB.out|apply bA|apply bN|apply bD|refine bS ?_ GE107.out|refine bS ?_ GE108.out|refine bS ?_ GE109.out)|exact HB.out)) hb);clear BK107;clear BK108;clear BK109;clear HB;have BK107:=n0_;have BK108:=n1_;have BK109:=n2_;have HB:=n3_;clear n0_ n1_ n2_ n3_;(try clear hb);have hcz49_0:w48.cell? ⟨gb109,0,none⟩=some (.int .i64 a2_0):=(blk_cell BK109.out 0).trans rfl;have hcz49_1:w48.cell? ⟨gb109,1,none⟩=some (.int .i64 a2_1):=(blk_cell BK109.out 1).trans rfl;have hfz49_0:=blk_frozen BK109.out 0;have hfz49_1:=blk_frozen BK109.out 1;have hcz50_0:w48.cell? ⟨gb107,0,none⟩=some (.int .i64 a0_0):=(blk_cell BK107.out 0).trans rfl;have hcz50_1:w48.cell? ⟨gb107,1,none⟩=some (.int .i64 a0_1):=(blk_cell BK107.out 1).trans rfl;have hfz50_0:=blk_frozen BK107.out 0;have hfz50_1:=blk_frozen BK107.out 1;have hcz51_0:w48.cell? ⟨gb108,0,none⟩=some (.int .i64 a1_0):=(blk_cell BK108.out 0).trans rfl;have hcz51_1:w48.cell? ⟨gb108,1,none⟩=some (.int .i64 a1_1):=(blk_cell BK108.out 1).trans rfl;have hfz51_0:=blk_frozen BK108.out 0;have hfz51_1:=blk_frozen BK108.out 1))
    go_ret
    exact ⟨by first|rfl|(simp [errW_none,errW_some] <;> rfl)|(simp only [← hji6,← hji8];first|rfl|(simp [errW_none,errW_some] <;> rfl))|(simp [*,errW_none,errW_some] <;> rfl),by repeat (first|(with_reducible first|exact HB.out|apply bA|apply bN|apply bD|refine bS ?_ GE107.out|refine bS ?_ GE108.out|refine bS ?_ GE109.out)|exact HB.out)⟩
  ·rw [if_neg c7] at H
   have c7b0:decide ((ji6)≤a2_0)=false:=decide_eq_false c7
   clear c7
   obtain rfl:=Option.some.inj H
   go_enter Try.func81,Try.ntmps81
   go_wp2_with (first|((with_reducible refine gate_dst (N:=3) rfl ?_);(try (refine gate_guard (by rfl) ?_;dsimp only));refine bE 3 #[.int .i64 a0_0,.int .i64 a0_1] 40 ?_;intro gb107 hg w52 hbox hb;have n0_:=Aside0.mk (below_step (by repeat (with_reducible first|exact HB.out|apply bA|apply bN|apply bD)) hb);have n1_:=Aside0.mk (hbox);have n2_:=Aside0.mk ((by rw [hg];exact (below_size (by repeat (with_reducible first|exact HB.out|apply bA|apply bN|apply bD))):w.heap.size≤gb107));have n3_:=Aside0.mk ((by rw [hg];exact (below_size (by repeat (with_reducible first|exact HB.out|apply bA|apply bN|apply bD))):w.heap.size≤gb107));clear HB;have HB:=n0_;have BK107:=n1_;have GW107:=n2_;have GE107:=n3_;clear n0_ n1_ n2_ n3_;clear hb hbox hg)|((with_reducible refine gate_dst (N:=4) rfl ?_);(try (refine gate_guard (by rfl) ?_;dsimp only));refine bE 4 #[.int .i64 a1_0,.int .i64 a1_1] 40 ?_;intro gb108 hg w53 hbox hb;have n0_:=Aside0.mk (blk_below (by repeat (with_reducible first|exact BK107.out|apply kN|apply kD|apply kA)) hb);have n1_:=Aside0.mk (below_step (by repeat (first|(with_reducible first|exact HB.out|apply bA|apply bN|apply bD|refine bS ?_ GE107.out)|exact HB.out)) hb);have n2_:=Aside0.mk (hbox);have n3_:=Aside0.mk ((by rw [hg];exact (below_size (by repeat (first|(with_reducible first|exact HB.out|apply bA|apply bN|apply bD|refine bS ?_ GE107.out)|exact HB.out))):w.heap.size≤gb108));have n4_:=Aside0.mk ((by rw [hg];exact (below_size (by repeat (first|(with_reducible first|exact HB.out|apply bA|apply bN|apply bD|refine bS ?_ GE107.out)|exact HB.out))):w.heap.size≤gb108));have n5_:=Aside0.mk ((by rw [hg];exact Nat.ne_of_lt (blk_lt (by repeat (with_reducible first|exact BK107.out|apply kN|apply kD|apply kA))):gb107≠gb108));have n6_:=Aside0.mk ((by rw [hg];exact Nat.ne_of_gt (blk_lt (by repeat (with_reducible first|exact BK107.out|apply kN|apply kD|apply kA))):gb108≠gb107));clear BK107;clear HB;have BK107:=n0_;have HB:=n1_;have BK108:=n2_;have GW108:=n3_;have GE108:=n4_;have NB107_108:=n5_;have NB108_107:=n6_;clear n0_ n1_ n2_ n3_ n4_ n5_ n6_;clear hb hbox hg)|((with_reducible refine gate_dst (N:=5) rfl ?_);(try (refine gate_guard (by rfl) ?_;dsimp only));refine bE 5 #[.int .i64 a2_0,.int .i64 a2_1] 40 ?_;intro gb109 hg w54 hbox hb;have n0_:=Aside0.mk (blk_below (by repeat (with_reducible first|exact BK107.out|apply kN|apply kD|apply kA)) hb);have n1_:=Aside0.mk (blk_below (by repeat (with_reducible first|exact BK108.out|apply kN|apply kD|apply kA)) hb);have n2_:=Aside0.mk (below_step (by repeat (first|(with_reducible first|exact HB.out|apply bA|apply bN|apply bD|refine bS ?_ GE107.out|refine bS ?_ GE108.out)|exact HB.out)) hb);have n3_:=Aside0.mk (hbox);have n4_:=Aside0.mk ((by rw [hg];exact (below_size (by repeat (first|(with_reducible first|exact HB.out|apply bA|apply bN|apply bD|refine bS ?_ GE107.out|refine bS ?_ GE108.out)|exact HB.out))):w.heap.size≤gb109));have n5_:=Aside0.mk ((by rw [hg];exact (below_size (by repeat (first|(with_reducible first|exact HB.out|apply bA|apply bN|apply bD|refine bS ?_ GE107.out|refine bS ?_ GE108.out)|exact HB.out))):w.heap.size≤gb109));have n6_:=Aside0.mk ((by rw [hg];exact Nat.ne_of_lt (blk_lt (by repeat (with_reducible first|exact BK107.out|apply kN|apply kD|apply kA))):gb107≠gb109));have n7_:=Aside0.mk ((by rw [hg];exact Nat.ne_of_gt (blk_lt (by repeat (with_reducible first|exact BK107.out|apply kN|apply kD|apply kA))):gb109≠gb107));have n8_:=Aside0.mk ((by rw [hg];exact Nat.ne_of_lt (blk_lt (by repeat (with_reducible first|exact BK108.out|apply kN|apply kD|apply kA))):gb108≠gb109));have n9_:=Aside0.mk ((by rw [hg];exact Nat.ne_of_gt (blk_lt (by repeat (with_reducible first|exact BK108.out|apply kN|apply kD|apply kA))):gb109≠gb108));clear BK107;clear BK108;clear HB;have BK107:=n0_;have BK108:=n1_;have HB:=n2_;have BK109:=n3_;have GW109:=n4_;have GE109:=n5_;have NB107_109:=n6_;have NB109_107:=n7_;have NB108_109:=n8_;have NB109_108:=n9_;clear n0_ n1_ n2_ n3_ n4_ n5_ n6_ n7_ n8_ n9_;clear hb hbox hg;have hnb55:=NB107_108.out;have hnc55:=NB108_107.out;have hnb56:=NB107_109.out;have hnc56:=NB109_107.out;have hcz57_0:w54.cell? ⟨gb107,0,none⟩=some (.int .i64 a0_0):=(blk_cell BK107.out 0).trans rfl;have hcz57_1:w54.cell? ⟨gb107,1,none⟩=some (.int .i64 a0_1):=(blk_cell BK107.out 1).trans rfl;have hfz57_0:=blk_frozen BK107.out 0;have hfz57_1:=blk_frozen BK107.out 1;have hnb58:=NB108_109.out;have hnc58:=NB109_108.out;have hcz59_0:w54.cell? ⟨gb108,0,none⟩=some (.int .i64 a1_0):=(blk_cell BK108.out 0).trans rfl;have hcz59_1:w54.cell? ⟨gb108,1,none⟩=some (.int .i64 a1_1):=(blk_cell BK108.out 1).trans rfl;have hfz59_0:=blk_frozen BK108.out 0;have hfz59_1:=blk_frozen BK108.out 1;have hcz60_0:w54.cell? ⟨gb109,0,none⟩=some (.int .i64 a2_0):=(blk_cell BK109.out 0).trans rfl;have hcz60_1:w54.cell? ⟨gb109,1,none⟩=some (.int .i64 a2_1):=(blk_cell BK109.out 1).trans rfl;have hfz60_0:=blk_frozen BK109.out 0;have hfz60_1:=blk_frozen BK109.out 1)|((with_reducible refine gate_callee (f:=75) rfl ?_);refine goesL_ (some 10) rfl rfl Try.func75 (by kernel_rfl) rfl #[.agg #[.int .i64 a0_0,.int .i64 a0_1],.agg #[.int .i64 a1_0,.int .i64 a1_1],.agg #[.int .i64 a2_0,.int .i64 a2_1]] rfl (by (try simp only [List.map_toArray,List.map_cons,List.map_nil]);first|done|rfl) ?_;(with_reducible refine (spec_l02Cross.calls a0_0 a0_1 a1_0 a1_1 a2_0 a2_1 t110 _ A4.out).mono ?_);rintro e w61 ⟨rfl,hb⟩;refine ⟨_,rfl,?_⟩;have n0_:=Aside0.mk (blk_below (by repeat (with_reducible first|exact BK107.out|apply kN|apply kD|apply kA)) hb);have n1_:=Aside0.mk (blk_below (by repeat (with_reducible first|exact BK108.out|apply kN|apply kD|apply kA)) hb);have n2_:=Aside0.mk (blk_below (by repeat (with_reducible first|exact BK109.out|apply kN|apply kD|apply kA)) hb);have n3_:=Aside0.mk (below_step (by repeat (first|(with_reducible first|exact HB.out|apply bA|apply bN|apply bD|refine bS ?_ GE107.out|refine bS ?_ GE108.out|refine bS ?_ GE109.out)|exact HB.out)) hb);clear BK107;clear BK108;clear BK109;clear HB;have BK107:=n0_;have BK108:=n1_;have BK109:=n2_;have HB:=n3_;clear n0_ n1_ n2_ n3_;(try clear hb);have hcz62_0:w61.cell? ⟨gb109,0,none⟩=some (.int .i64 a2_0):=(blk_cell BK109.out 0).trans rfl;have hcz62_1:w61.cell? ⟨gb109,1,none⟩=some (.int .i64 a2_1):=(blk_cell BK109.out 1).trans rfl;have hfz62_0:=blk_frozen BK109.out 0;have hfz62_1:=blk_frozen BK109.out 1;have hcz63_0:w61.cell? ⟨gb107,0,none⟩=some (.int .i64 a0_0):=(blk_cell BK107.out 0).trans rfl;have hcz63_1:w61.cell? ⟨gb107,1,none⟩=some (.int .i64 a0_1):=(blk_cell BK107.out 1).trans rfl;have hfz63_0:=blk_frozen BK107.out 0;have hfz63_1:=blk_frozen BK107.out 1;have hcz64_0:w61.cell? ⟨gb108,0,none⟩=some (.int .i64 a1_0):=(blk_cell BK108.out 0).trans rfl;have hcz64_1:w61.cell? ⟨gb108,1,none⟩=some (.int .i64 a1_1):=(blk_cell BK108.out 1).trans rfl;have hfz64_0:=blk_frozen BK108.out 0;have hfz64_1:=blk_frozen BK108.out 1))
   go_ret
   exact ⟨by first|rfl|(simp [errW_none,errW_some] <;> rfl)|(simp only [← hji6];first|rfl|(simp [errW_none,errW_some] <;> rfl))|(simp [*,errW_none,errW_some] <;> rfl),by repeat (first|(with_reducible first|exact HB.out|apply bA|apply bN|apply bD|refine bS ?_ GE107.out|refine bS ?_ GE108.out|refine bS ?_ GE109.out)|exact HB.out)⟩
 ·rw [if_neg c5] at H
  have c5b0:(t110 == 0)=false:=beq_eq_false_iff_ne.mpr c5
  have c5b1:(t110 != 0)=true:=bne_iff_ne.mpr c5
  obtain rfl:=Option.some.inj H
  go_enter Try.func81,Try.ntmps81
  go_wp2_with (first|((with_reducible refine gate_dst (N:=3) rfl ?_);(try (refine gate_guard (by rfl) ?_;dsimp only));refine bE 3 #[.int .i64 a0_0,.int .i64 a0_1] 40 ?_;intro gb107 hg w65 hbox hb;have n0_:=Aside0.mk (below_step (by repeat (with_reducible first|exact HB.out|apply bA|apply bN|apply bD)) hb);have n1_:=Aside0.mk (hbox);have n2_:=Aside0.mk ((by rw [hg];exact (below_size (by repeat (with_reducible first|exact HB.out|apply bA|apply bN|apply bD))):w.heap.size≤gb107));have n3_:=Aside0.mk ((by rw [hg];exact (below_size (by repeat (with_reducible first|exact HB.out|apply bA|apply bN|apply bD))):w.heap.size≤gb107));clear HB;have HB:=n0_;have BK107:=n1_;have GW107:=n2_;have GE107:=n3_;clear n0_ n1_ n2_ n3_;clear hb hbox hg)|((with_reducible refine gate_dst (N:=4) rfl ?_);(try (refine gate_guard (by rfl) ?_;dsimp only));refine bE 4 #[.int .i64 a1_0,.int .i64 a1_1] 40 ?_;intro gb108 hg w66 hbox hb;have n0_:=Aside0.mk (blk_below (by repeat (with_reducible first|exact BK107.out|apply kN|apply kD|apply kA)) hb);have n1_:=Aside0.mk (below_step (by repeat (first|(with_reducible first|exact HB.out|apply bA|apply bN|apply bD|refine bS ?_ GE107.out)|exact HB.out)) hb);have n2_:=Aside0.mk (hbox);have n3_:=Aside0.mk ((by rw [hg];exact (below_size (by repeat (first|(with_reducible first|exact HB.out|apply bA|apply bN|apply bD|refine bS ?_ GE107.out)|exact HB.out))):w.heap.size≤gb108));have n4_:=Aside0.mk ((by rw [hg];exact (below_size (by repeat (first|(with_reducible first|exact HB.out|apply bA|apply bN|apply bD|refine bS ?_ GE107.out)|exact HB.out))):w.heap.size≤gb108));have n5_:=Aside0.mk ((by rw [hg];exact Nat.ne_of_lt (blk_lt (by repeat (with_reducible first|exact BK107.out|apply kN|apply kD|apply kA))):gb107≠gb108));have n6_:=Aside0.mk ((by rw [hg];exact Nat.ne_of_gt (blk_lt (by repeat (with_reducible first|exact BK107.out|apply kN|apply kD|apply kA))):gb108≠gb107));clear BK107;clear HB;have BK107:=n0_;have HB:=n1_;have BK108:=n2_;have GW108:=n3_;have GE108:=n4_;have NB107_108:=n5_;have NB108_107:=n6_;clear n0_ n1_ n2_ n3_ n4_ n5_ n6_;clear hb hbox hg)|((with_reducible refine gate_dst (N:=5) rfl ?_);(try (refine gate_guard (by rfl) ?_;dsimp only));refine bE 5 #[.int .i64 a2_0,.int .i64 a2_1] 40 ?_;intro gb109 hg w67 hbox hb;have n0_:=Aside0.mk (blk_below (by repeat (with_reducible first|exact BK107.out|apply kN|apply kD|apply kA)) hb);have n1_:=Aside0.mk (blk_below (by repeat (with_reducible first|exact BK108.out|apply kN|apply kD|apply kA)) hb);have n2_:=Aside0.mk (below_step (by repeat (first|(with_reducible first|exact HB.out|apply bA|apply bN|apply bD|refine bS ?_ GE107.out|refine bS ?_ GE108.out)|exact HB.out)) hb);have n3_:=Aside0.mk (hbox);have n4_:=Aside0.mk ((by rw [hg];exact (below_size (by repeat (first|(with_reducible first|exact HB.out|apply bA|apply bN|apply bD|refine bS ?_ GE107.out|refine bS ?_ GE108.out)|exact HB.out))):w.heap.size≤gb109));have n5_:=Aside0.mk ((by rw [hg];exact (below_size (by repeat (first|(with_reducible first|exact HB.out|apply bA|apply bN|apply bD|refine bS ?_ GE107.out|refine bS ?_ GE108.out)|exact HB.out))):w.heap.size≤gb109));have n6_:=Aside0.mk ((by rw [hg];exact Nat.ne_of_lt (blk_lt (by repeat (with_reducible first|exact BK107.out|apply kN|apply kD|apply kA))):gb107≠gb109));have n7_:=Aside0.mk ((by rw [hg];exact Nat.ne_of_gt (blk_lt (by repeat (with_reducible first|exact BK107.out|apply kN|apply kD|apply kA))):gb109≠gb107));have n8_:=Aside0.mk ((by rw [hg];exact Nat.ne_of_lt (blk_lt (by repeat (with_reducible first|exact BK108.out|apply kN|apply kD|apply kA))):gb108≠gb109));have n9_:=Aside0.mk ((by rw [hg];exact Nat.ne_of_gt (blk_lt (by repeat (with_reducible first|exact BK108.out|apply kN|apply kD|apply kA))):gb109≠gb108));clear BK107;clear BK108;clear HB;have BK107:=n0_;have BK108:=n1_;have HB:=n2_;have BK109:=n3_;have GW109:=n4_;have GE109:=n5_;have NB107_109:=n6_;have NB109_107:=n7_;have NB108_109:=n8_;have NB109_108:=n9_;clear n0_ n1_ n2_ n3_ n4_ n5_ n6_ n7_ n8_ n9_;clear hb hbox hg;have hnb68:=NB107_108.out;have hnc68:=NB108_107.out;have hnb69:=NB107_109.out;have hnc69:=NB109_107.out;have hcz70_0:w67.cell? ⟨gb107,0,none⟩=some (.int .i64 a0_0):=(blk_cell BK107.out 0).trans rfl;have hcz70_1:w67.cell? ⟨gb107,1,none⟩=some (.int .i64 a0_1):=(blk_cell BK107.out 1).trans rfl;have hfz70_0:=blk_frozen BK107.out 0;have hfz70_1:=blk_frozen BK107.out 1;have hnb71:=NB108_109.out;have hnc71:=NB109_108.out;have hcz72_0:w67.cell? ⟨gb108,0,none⟩=some (.int .i64 a1_0):=(blk_cell BK108.out 0).trans rfl;have hcz72_1:w67.cell? ⟨gb108,1,none⟩=some (.int .i64 a1_1):=(blk_cell BK108.out 1).trans rfl;have hfz72_0:=blk_frozen BK108.out 0;have hfz72_1:=blk_frozen BK108.out 1;have hcz73_0:w67.cell? ⟨gb109,0,none⟩=some (.int .i64 a2_0):=(blk_cell BK109.out 0).trans rfl;have hcz73_1:w67.cell? ⟨gb109,1,none⟩=some (.int .i64 a2_1):=(blk_cell BK109.out 1).trans rfl;have hfz73_0:=blk_frozen BK109.out 0;have hfz73_1:=blk_frozen BK109.out 1)|((with_reducible refine gate_callee (f:=75) rfl ?_);refine goesL_ (some 10) rfl rfl Try.func75 (by kernel_rfl) rfl #[.agg #[.int .i64 a0_0,.int .i64 a0_1],.agg #[.int .i64 a1_0,.int .i64 a1_1],.agg #[.int .i64 a2_0,.int .i64 a2_1]] rfl (by (try simp only [List.map_toArray,List.map_cons,List.map_nil]);first|done|rfl) ?_;(with_reducible refine (spec_l02Cross.calls a0_0 a0_1 a1_0 a1_1 a2_0 a2_1 t110 _ A4.out).mono ?_);rintro e w74 ⟨rfl,hb⟩;refine ⟨_,rfl,?_⟩;have n0_:=Aside0.mk (blk_below (by repeat (with_reducible first|exact BK107.out|apply kN|apply kD|apply kA)) hb);have n1_:=Aside0.mk (blk_below (by repeat (with_reducible first|exact BK108.out|apply kN|apply kD|apply kA)) hb);have n2_:=Aside0.mk (blk_below (by repeat (with_reducible first|exact BK109.out|apply kN|apply kD|apply kA)) hb);have n3_:=Aside0.mk (below_step (by repeat (first|(with_reducible first|exact HB.out|apply bA|apply bN|apply bD|refine bS ?_ GE107.out|refine bS ?_ GE108.out|refine bS ?_ GE109.out)|exact HB.out)) hb);clear BK107;clear BK108;clear BK109;clear HB;have BK107:=n0_;have BK108:=n1_;have BK109:=n2_;have HB:=n3_;clear n0_ n1_ n2_ n3_;(try clear hb)))
  go_ret
  exact ⟨by first|rfl|(simp [errW_none,errW_some] <;> rfl)|(simp [*,errW_none,errW_some] <;> rfl),by repeat (first|(with_reducible first|exact HB.out|apply bA|apply bN|apply bD|refine bS ?_ GE107.out|refine bS ?_ GE108.out|refine bS ?_ GE109.out)|exact HB.out)⟩
end Go.Proofs.Ytadenfniiihifaa.QFnExactMeasuresOf
