/- What each Go function of this text answers, as a plain function, and that the machine comes to just that answer. -/
import Derived.Test.YtadenfniiihifaaQFnExactMeasuresOfx0
namespace Go.Proofs.Ytadenfniiihifaa.QFnExactMeasuresOf
open Go.RowKit Go.Proofs.YtadenfniiihifaaW.PrintWords Go.Proofs.YtadenfniiihifaaW.PrintLast Go.Proofs.YtadenfniiihifaaW.PrintMore
attribute [local go_sem] max2_int min2_int max_two min_two max_three min_three max_four min_four   -- for this text's walks alone
set_option linter.unusedVariables false
set_option maxHeartbeats 8000000
set_option maxRecDepth 100000
set_option linter.unusedSimpArgs false
def impl_twice.l0:Nat→List (S40)→Int→List (S40)→Int→Int→Option (Int)
 | 0,_,_,_,_,_=>none
 | k+1,x0,x3,x7,x8,x9=>if x9 < x8 then (if 0≤x9 then (if x9 < (x7.length:Int) then (if (x0.length:Int)=0 then (none) else (if 0≤(Int.tmod (wrap64 (x9+1)) (x0.length:Int)) then (if (Int.tmod (wrap64 (x9+1)) (x0.length:Int)) < (x0.length:Int) then (impl_twice.l0 k x0 (wrap64 (x3+(wrap64 ((wrap64 (((rd_T40 x7 x9).f0) * ((rd_T40 x0 (Int.tmod (wrap64 (x9+1)) (x0.length:Int))).f1))) - (wrap64 (((rd_T40 x7 x9).f1) * ((rd_T40 x0 (Int.tmod (wrap64 (x9+1)) (x0.length:Int))).f0))))))) x7 x8 (wrap64 (x9+1))) else (none)) else (none))) else (none)) else (none)) else (some x3)
def impl_twice.f (k:Nat) (l0:List (S40)):Option (Int):=impl_twice.l0 k l0 0 l0 (l0.length:Int) 0
theorem impl_twice.mono_l:∀ k,(∀ y0 y1 y2 y3 y4,LeO (impl_twice.l0 k y0 y1 y2 y3 y4) (impl_twice.l0 (k+1) y0 y1 y2 y3 y4))
 | 0=>fun _ _ _ _ _ r h=>by simp [impl_twice.l0] at h
 | k+1=>by
  have ih0:=impl_twice.mono_l k
  ·intro y0 y1 y2 y3 y4
   unfold impl_twice.l0
   repeat' first
   | (with_reducible exact LeO.refl _)
   | exact ih0 _ _ _ _ _
   | exact LeO.none _
   | refine LeO.ite ?_ ?_
   | refine LeO.bind ?_ (fun _=>?_)
theorem impl_twice.mono:∀ a0 k,LeO (impl_twice.f k a0) (impl_twice.f (k+1) a0):=by
 intro a0 k
 have ih0:=impl_twice.mono_l k
 unfold impl_twice.f
 repeat' first
  | (with_reducible exact LeO.refl _)
  | exact ih0 _ _ _ _ _
  | exact LeO.none _
  | refine LeO.ite ?_ ?_
  | refine LeO.bind ?_ (fun _=>?_)
theorem impl_twice.calls (k:Nat) (A0:Option Addr) (c0:Nat) (l0:List (S40)) (r:Int) (w:World) (hr0:Kd.C k40 w A0 l0.length l0) (hc0:l0.length≤c0) (h:impl_twice.f k l0=some r) :
 Calls Try.prog 46 #[.slice A0 l0.length c0] w fun e w'=>e=.returned (.int .i64 r)∧Below w.heap.size w w':=by
 have hu40:=Try.underlying40
 have HR0:=Aside0.mk hr0
 have HC0:=Aside0.mk hc0
 clear hr0 hc0
 have HB:=Aside0.mk (Below.refl w.heap.size w)
 have H:(impl_twice.l0 k l0 0 l0 (l0.length:Int) 0)=some r:=h
 clear h
 have H':=Aside0.mk H
 clear H
 go_enter Try.func46,Try.ntmps46
 go_wp2
 go_loopg [3,9] k (fun kq v3 v9 w'=>∃ (x3_1:Int) (x9_1:Int),v3=.int .i64 x3_1∧v9=.int .i64 x9_1∧Aside0 (impl_twice.l0 kq l0 x3_1 l0 (l0.length:Int) x9_1=some r)∧Aside0 (kq≤k)∧Aside0 (Below w.heap.size w w'))
 case atStart=>exact ⟨(0),(0),(by first|rfl|(simp;done)|(simp [*];done)),(by first|rfl|(simp;done)|(simp [*];done)),H',⟨Nat.le_refl _⟩,⟨by repeat (with_reducible first|exact HB.out|apply bA|apply bN|apply bD)⟩⟩
 case round =>
  clear H'
  obtain ⟨x3_1,x9_1,rfl,rfl,HA,HK1,HB⟩:=hrel
  rcases gk with _|k1
  ·exact absurd HA.out (by simp [impl_twice.l0])
  have H:=HA.out
  clear HA
  simp only [impl_twice.l0] at H
  by_cases c2:x9_1 < (l0.length:Int)
  ·rw [if_pos c2] at H
   have c2b0:decide (x9_1 < (l0.length:Int))=true:=decide_eq_true c2
   clear c2
   by_cases c3:0≤x9_1
   rotate_left;·rw [if_neg c3] at H;exact absurd H (by simp)
   rw [if_pos c3] at H
   have c3b0:decide (0≤x9_1)=true:=decide_eq_true c3
   clear c3
   by_cases c4:x9_1 < (l0.length:Int)
   rotate_left;·rw [if_neg c4] at H;exact absurd H (by simp)
   rw [if_pos c4] at H
   have c4b0:decide (x9_1 < (l0.length:Int))=true:=decide_eq_true c4
   clear c4
   by_cases c5:(l0.length:Int)=0
   ·rw [if_pos c5] at H
    exact absurd H (by simp)
   ·rw [if_neg c5] at H
    have c5b0:((l0.length:Int) == 0)=false:=beq_eq_false_iff_ne.mpr c5
    have c5b1:((l0.length:Int) != 0)=true:=bne_iff_ne.mpr c5
    have c5b2:¬ (l0 = []):=fun h_=>c5 (by rw [h_];rfl)
    obtain ⟨ji6,hji6⟩ : ∃ j_:Int,(Int.tmod (wrap64 (x9_1+1)) (l0.length:Int))=j_:=⟨_,rfl⟩
    replace H:(if 0≤(ji6) then (if (ji6) < (l0.length:Int) then (impl_twice.l0 k1 l0 (wrap64 (x3_1+(wrap64 ((wrap64 (((rd_T40 l0 x9_1).f0) * ((rd_T40 l0 (ji6)).f1))) - (wrap64 (((rd_T40 l0 x9_1).f1) * ((rd_T40 l0 (ji6)).f0))))))) l0 (l0.length:Int) (wrap64 (x9_1+1))) else (none)) else (none))=some r:=by first|(rw [hji6] at H;exact H)|(simp only [hji6] at H ⊢;exact H)
    by_cases c7:0≤(ji6)
    rotate_left;·rw [if_neg c7] at H;exact absurd H (by simp)
    rw [if_pos c7] at H
    have c7b0:decide (0≤(ji6))=true:=decide_eq_true c7
    clear c7
    by_cases c8:(ji6) < (l0.length:Int)
    rotate_left;·rw [if_neg c8] at H;exact absurd H (by simp)
    rw [if_pos c8] at H
    have c8b0:decide ((ji6) < (l0.length:Int))=true:=decide_eq_true c8
    clear c8
    have H':=Aside0.mk H
    clear H
    have p346:0≤(x9_1:Int):=of_decide_eq_true (by assumption)
    have q346:x9_1 < (l0.length:Int):=of_decide_eq_true (by assumption)
    obtain ⟨ad346,e346,hx346_0,hx346_1⟩:=at_T40 HR0.out x9_1 p346 q346
    cases e346
    replace hx346_0:=cK HB.out hx346_0
    replace hx346_1:=cK HB.out hx346_1
    replace p346:=eq_true p346
    replace q346:=eq_true q346
    go_wp2_with (first|((with_reducible refine gate_dst (N:=5) rfl ?_);refine bE 5 #[.int .i64 0,.int .i64 0] 40 ?_;intro gb347 hg w9 hbox hb;have n0_:=Aside0.mk (below_step (by repeat (with_reducible first|exact HB.out|apply bA|apply bN|apply bD)) hb);have n1_:=Aside0.mk (hbox);have n2_:=Aside0.mk ((by rw [hg];exact (below_size (by repeat (with_reducible first|exact HB.out|apply bA|apply bN|apply bD))):w.heap.size≤gb347));have n3_:=Aside0.mk ((by rw [hg];exact (below_size (by repeat (with_reducible first|exact HB.out|apply bA|apply bN|apply bD))):w.heap.size≤gb347));clear HB;have HB:=n0_;have BK347:=n1_;have GW347:=n2_;have GE347:=n3_;clear n0_ n1_ n2_ n3_;clear hb hbox hg;have hcz10_0:w9.cell? ⟨gb347,0,none⟩=some (.int .i64 0):=(blk_cell BK347.out 0).trans rfl;have hcz10_1:w9.cell? ⟨gb347,1,none⟩=some (.int .i64 0):=(blk_cell BK347.out 1).trans rfl;have hfz10_0:=blk_frozen BK347.out 0;have hfz10_1:=blk_frozen BK347.out 1;have p348:0≤((ji6):Int):=of_decide_eq_true (by assumption);have q348:(ji6) < (l0.length:Int):=of_decide_eq_true (by assumption);obtain ⟨ad348,e348,hx348_0,hx348_1⟩:=at_T40 HR0.out (ji6) p348 q348;obtain rfl:ad346=ad348:=(by injection e348);have hn348_0:ad346.block≠gb347:=Nat.ne_of_lt (Nat.lt_of_lt_of_le (by have:=World.block_lt_of_cell? _ _ hx348_0;first|rwa [add_block] at this|exact this) GW347.out);have hn348_1:ad346.block≠gb347:=Nat.ne_of_lt (Nat.lt_of_lt_of_le (by have:=World.block_lt_of_cell? _ _ hx348_0;first|rwa [add_block] at this|exact this) GW347.out);replace hx348_0:=cK HB.out hx348_0;replace hx348_1:=cK HB.out hx348_1;replace hx348_0:=(cell_far (p:=⟨gb347,0,none⟩) (by first|(rw [add_block];exact hn348_0)|(show (Addr.add _ _).block≠_;rw [add_block];exact hn348_0)|exact hn348_0) (.int .i64 ((rd_T40 l0 x9_1).f0))).trans hx348_0;replace hx348_1:=(cell_far (p:=⟨gb347,0,none⟩) (by first|(rw [add_block];exact hn348_0)|(show (Addr.add _ _).block≠_;rw [add_block];exact hn348_0)|exact hn348_0) (.int .i64 ((rd_T40 l0 x9_1).f0))).trans hx348_1;replace hx348_0:=(cell_far (p:=⟨gb347,1,none⟩) (by first|(rw [add_block];exact hn348_1)|(show (Addr.add _ _).block≠_;rw [add_block];exact hn348_1)|exact hn348_1) (.int .i64 ((rd_T40 l0 x9_1).f1))).trans hx348_0;replace hx348_1:=(cell_far (p:=⟨gb347,1,none⟩) (by first|(rw [add_block];exact hn348_1)|(show (Addr.add _ _).block≠_;rw [add_block];exact hn348_1)|exact hn348_1) (.int .i64 ((rd_T40 l0 x9_1).f1))).trans hx348_1;clear hn348_0;clear hn348_1;replace p348:=eq_true p348;replace q348:=eq_true q348)|((with_reducible refine gate_dst (N:=6) rfl ?_);refine bE 6 #[.int .i64 0,.int .i64 0] 40 ?_;intro gb349 hg w11 hbox hb;have n0_:=Aside0.mk (blk_below (g:=gb347) (o:=.cells #[.int .i64 ((rd_T40 l0 x9_1).f0),.int .i64 ((rd_T40 l0 x9_1).f1)] 40 (0,0)) (by (with_reducible repeat (first|refine kN ?_ _|refine kD ?_|refine kA ?_ _));refine blk_put (cs:=#[.int .i64 ((rd_T40 l0 x9_1).f0),.int .i64 0]) ?_ 1 _ rfl;(with_reducible repeat (first|refine kN ?_ _|refine kD ?_|refine kA ?_ _));refine blk_put (cs:=#[.int .i64 0,.int .i64 0]) ?_ 0 _ rfl;(with_reducible repeat (first|refine kN ?_ _|refine kD ?_|refine kA ?_ _));exact BK347.out) hb);have n1_:=Aside0.mk (below_step (by repeat (first|(with_reducible first|exact HB.out|apply bA|apply bN|apply bD|refine bS ?_ GE347.out)|exact HB.out)) hb);have n2_:=Aside0.mk (hbox);have n3_:=Aside0.mk ((by rw [hg];exact (below_size (by repeat (first|(with_reducible first|exact HB.out|apply bA|apply bN|apply bD|refine bS ?_ GE347.out)|exact HB.out))):w.heap.size≤gb349));have n4_:=Aside0.mk ((by rw [hg];exact (below_size (by repeat (first|(with_reducible first|exact HB.out|apply bA|apply bN|apply bD|refine bS ?_ GE347.out)|exact HB.out))):w.heap.size≤gb349));have n5_:=Aside0.mk ((by rw [hg];exact Nat.ne_of_lt (blk_lt (g:=gb347) (o:=.cells #[.int .i64 ((rd_T40 l0 x9_1).f0),.int .i64 ((rd_T40 l0 x9_1).f1)] 40 (0,0)) (by (with_reducible repeat (first|refine kN ?_ _|refine kD ?_|refine kA ?_ _));refine blk_put (cs:=#[.int .i64 ((rd_T40 l0 x9_1).f0),.int .i64 0]) ?_ 1 _ rfl;(with_reducible repeat (first|refine kN ?_ _|refine kD ?_|refine kA ?_ _));refine blk_put (cs:=#[.int .i64 0,.int .i64 0]) ?_ 0 _ rfl;(with_reducible repeat (first|refine kN ?_ _|refine kD ?_|refine kA ?_ _));exact BK347.out)):gb347≠gb349));have n6_:=Aside0.mk ((by rw [hg];exact Nat.ne_of_gt (blk_lt (g:=gb347) (o:=.cells #[.int .i64 ((rd_T40 l0 x9_1).f0),.int .i64 ((rd_T40 l0 x9_1).f1)] 40 (0,0)) (by (with_reducible repeat (first|refine kN ?_ _|refine kD ?_|refine kA ?_ _));refine blk_put (cs:=#[.int .i64 ((rd_T40 l0 x9_1).f0),.int .i64 0]) ?_ 1 _ rfl;(with_reducible repeat (first|refine kN ?_ _|refine kD ?_|refine kA ?_ _));refine blk_put (cs:=#[.int .i64 0,.int .i64 0]) ?_ 0 _ rfl;(with_reducible repeat (first|refine kN ?_ _|refine kD ?_|refine kA ?_ _));exact BK347.out)):gb349≠gb347));clear BK347;clear HB;have BK347:=n0_;have HB:=n1_;have BK349:=n2_;have GW349:=n3_;have GE349:=n4_;have NB347_349:=n5_;have NB349_347:=n6_;clear n0_ n1_ n2_ n3_ n4_ n5_ n6_;clear hb hbox hg;have hnb12:=NB349_347.out;have hnc12:=NB347_349.out;have hcz13_0:w11.cell? ⟨gb349,0,none⟩=some (.int .i64 0):=(blk_cell BK349.out 0).trans rfl;have hcz13_1:w11.cell? ⟨gb349,1,none⟩=some (.int .i64 0):=(blk_cell BK349.out 1).trans rfl;have hfz13_0:=blk_frozen BK349.out 0;have hfz13_1:=blk_frozen BK349.out 1;have hcz14_0:w11.cell? ⟨gb347,0,none⟩=some (.int .i64 ((rd_T40 l0 x9_1).f0)):=(blk_cell BK347.out 0).trans rfl;have hcz14_1:w11.cell? ⟨gb347,1,none⟩=some (.int .i64 ((rd_T40 l0 x9_1).f1)):=(blk_cell BK347.out 1).trans rfl;have hfz14_0:=blk_frozen BK347.out 0;have hfz14_1:=blk_frozen BK347.out 1))
    go_roundg k1
    case measure=>have:=HK1.out;omega
    case rel=>exact ⟨(wrap64 (x3_1+(wrap64 ((wrap64 (((rd_T40 l0 x9_1).f0) * ((rd_T40 l0 (ji6)).f1))) - (wrap64 (((rd_T40 l0 x9_1).f1) * ((rd_T40 l0 (ji6)).f0))))))),(wrap64 (x9_1+1)),(by first|rfl|(simp;done)|(simp only [← hji6] <;> (first|rfl|simp))|(simp [*];done)),(by first|rfl|(simp;done)|(simp [*];done)),H',⟨by have:=HK1.out;omega⟩,⟨by repeat (first|(with_reducible first|exact HB.out|apply bA|apply bN|apply bD|refine bS ?_ GE347.out|refine bS ?_ GE349.out)|exact HB.out)⟩⟩
  ·rw [if_neg c2] at H
   have c2b0:decide (x9_1 < (l0.length:Int))=false:=decide_eq_false c2
   clear c2
   obtain rfl:=Option.some.inj H
   go_wp2
   go_ret
   exact ⟨by first|rfl|(simp [errW_none,errW_some] <;> rfl)|(simp [*,errW_none,errW_some] <;> rfl),by repeat (with_reducible first|exact HB.out|apply bA|apply bN|apply bD)⟩
def impl_Point_77.f (l0:List (S40)):Option ((List (S40))):=(some (([]:List (S40)):List (S40))).bind fun y291=>(if y291.length+l0.length < 8796093022208 then (some (y291++l0)) else (none))
theorem impl_Point_77.calls (A0:Option Addr) (c0:Nat) (l0:List (S40)) (r:List (S40)) (w:World) (hr0:Kd.C k40 w A0 l0.length l0) (hc0:l0.length≤c0) (h:impl_Point_77.f l0=some r) :
 Calls Try.prog 77 #[.slice A0 l0.length c0] w fun e w'=>∃ v0_:Value,e=.returned (v0_)∧Kd.R k40 40 w' w.heap.size (fun _=>True) v0_ r∧Below w.heap.size w w':=by
 have HR0:=Aside0.mk hr0
 have HC0:=Aside0.mk hc0
 clear hr0 hc0
 have HB:=Aside0.mk (Below.refl w.heap.size w)
 have H:((some (([]:List (S40)):List (S40))).bind fun y291=>(if y291.length+l0.length < 8796093022208 then (some (y291++l0)) else (none)))=some r:=h
 clear h
 obtain ⟨y291,hy291⟩ : ∃ y_:List (S40),y_=(([]:List (S40))):=⟨_,rfl⟩
 replace H:(if y291.length+l0.length < 8796093022208 then (some (y291++l0)) else (none))=some r:=by (try rw [hy291]);first|with_reducible exact H|with_reducible exact (Option.bind_some _ _).symm.trans H|exact H
 have Ny291:=Aside0.mk hy291
 clear hy291
 by_cases c2:y291.length+l0.length < 8796093022208
 rotate_left;·rw [if_neg c2] at H;exact absurd H (by simp)
 rw [if_pos c2] at H
 have LMc2:=Aside0.mk c2
 clear c2
 obtain ⟨y294,hy294⟩ : ∃ y_:List (S40),y_=(y291++l0):=⟨_,rfl⟩
 replace H:(some y294)=some r:=by (try rw [hy294]);first|with_reducible exact H|with_reducible exact (Option.bind_some _ _).symm.trans H|exact H
 have Ny294:=Aside0.mk hy294
 clear hy294
 obtain rfl:=Option.some.inj H
 have hnil:∀ (A:Option Addr) (n c:Nat) (w:World),(binOp BinOp.eql 25 (Value.slice A n c) (Value.slice none 0 0)).run Try.prog w=.ok (.bool A.isNone) w:=fun A _ _ _=>by cases A <;> rfl
 cases A0 with
 | none =>
  have h0:l0 = []:=by
   cases l0 with
   | nil=>rfl
   | cons x l =>
    obtain ⟨ad,e,_⟩:=HR0.out.2.2 (by simp)
    cases e
  have hr_:y294 = []:=by rw [Ny294.out,Ny291.out,h0];rfl
  subst hr_
  go_enter Try.func77,Try.ntmps77
  go_wp2
  go_ret
  exact ⟨_,rfl,Kd.R_nil _ _ _ _ _,by repeat (with_reducible first|exact HB.out|apply bA|apply bN|apply bD)⟩
 | some adN =>
  go_enter Try.func77,Try.ntmps77
  go_wp2_with (first|((with_reducible refine gate_dst (N:=5) rfl ?_);refine Kd.R_lit k40 _ 40 ?hg (N:=5) ?hd (xs:=([]:List (S40))) (inner:=[]) (ok:=fun _=>True) (okp:=fun _=>True) ?hr ?hp (fun _ hk=>hk) trivial (Below.refl _ _) (Nat.le_refl _) (by simp) ?_;(case hd=>rfl);(case hg=>rfl);(case hr=>first|(go_simp;done)|(go_simp;rfl));(case hp=>exact (Reps.none _ _));intro v292 w3 ho4 hb hg_ hnew_;clear hg_ hnew_;(first|rw [← Ny291.out] at ho4|(simp only [Int.reduceToNat] at ho4;rw [← Ny291.out] at ho4));have n0_:=Aside0.mk (Kd.R_lower ho4 (below_size (by repeat (with_reducible first|exact HB.out|apply bA|apply bN|apply bD))));have n1_:=Aside0.mk (below_step (by repeat (with_reducible first|exact HB.out|apply bA|apply bN|apply bD)) hb);clear HB;have HO293:=n0_;have HB:=n1_;clear n0_ n1_;clear hb ho4)|((with_reducible refine gate_builtin (b:=.append) (xs:=#[.tmp 5,.tmp 6]) rfl ?_);at_builtin;refine Kd.R_append_rows k40 (w0:=w) w.heap.size rfl (.tmp 5) (.tmp 6) 25 40 (.agg #[(.int .i64 0),(.int .i64 0)]) 16 rfl Try.underlying25 info40 rfl (by decide) (by omega) v292 y291 l0 _ _ _ (fun _=>True) (fun _=>False) rfl rfl ?aO ?aR (fun _ _ h=>h) (fun _ h=>h.elim) ?aF ?aB ?aS ?aL ?_;(case aR=>repeat (first|exact (Kd.C_below HR0.out HB.out)|(with_reducible refine Kd.C_alloc ?_ _)|(with_reducible refine Kd.C_drewN ?_ _)|(with_reducible refine Kd.C_drew ?_)));(case aB=>exact (by repeat (with_reducible first|exact HB.out|apply bA|apply bN|apply bD)));(case aF=>exact (fun _ _=>trivial));(case aO=>exact (by (with_reducible repeat (first|apply rA|apply rN|apply rD));exact HO293.out));(case aS=>exact (below_size (by repeat (with_reducible first|exact HB.out|apply bA|apply bN|apply bD))));(case aL=>have:=LMc2.out;omega);intro v295 w5 ho hb hg hat;rw [← Ny294.out] at ho;have n0_:=Aside0.mk (hb);have n1_:=Aside0.mk (ho);clear HB;clear HO293;have HB:=n0_;have HO296:=n1_;clear n0_ n1_;clear ho hb hg hat))
  go_ret
  exact ⟨_,by first|rfl|(simp [errW_none,errW_some] <;> rfl)|(simp [*,errW_none,errW_some] <;> rfl),by (with_reducible repeat (first|apply rA|apply rN|apply rD));exact HO296.out,by repeat (with_reducible first|exact HB.out|apply bA|apply bN|apply bD)⟩
def impl_Point_78.l0:Nat→List (S40)→Int→Int→Option ((List (S40)))
 | 0,_,_,_=>none
 | k+1,x0,x2,x3=>if x2 < x3 then (if 0≤x3 then (if x3 < (x0.length:Int) then (if 0≤x2 then (if x2 < (x0.length:Int) then (impl_Point_78.l0 k ((x0.set (x2:Int).toNat (⟨(rd_T40 x0 x3).f0,(rd_T40 x0 x3).f1⟩ : S40)).set (x3:Int).toNat (⟨(rd_T40 x0 x2).f0,(rd_T40 x0 x2).f1⟩ : S40)) (wrap64 (x2+1)) (wrap64 (x3 - 1))) else (none)) else (none)) else (none)) else (none)) else (some x0)
def impl_Point_78.f (k:Nat) (l0:List (S40)):Option ((List (S40))):=impl_Point_78.l0 k l0 0 (wrap64 ((l0.length:Int) - 1))
theorem impl_Point_78.mono_l:∀ k,(∀ y0 y1 y2,LeO (impl_Point_78.l0 k y0 y1 y2) (impl_Point_78.l0 (k+1) y0 y1 y2))
 | 0=>fun _ _ _ r h=>by simp [impl_Point_78.l0] at h
 | k+1=>by
  have ih0:=impl_Point_78.mono_l k
  ·intro y0 y1 y2
   unfold impl_Point_78.l0
   repeat' first
   | (with_reducible exact LeO.refl _)
   | exact ih0 _ _ _
   | exact LeO.none _
   | refine LeO.ite ?_ ?_
   | refine LeO.bind ?_ (fun _=>?_)
theorem impl_Point_78.mono:∀ a0 k,LeO (impl_Point_78.f k a0) (impl_Point_78.f (k+1) a0):=by
 intro a0 k
 have ih0:=impl_Point_78.mono_l k
 unfold impl_Point_78.f
 repeat' first
  | (with_reducible exact LeO.refl _)
  | exact ih0 _ _ _
  | exact LeO.none _
  | refine LeO.ite ?_ ?_
  | refine LeO.bind ?_ (fun _=>?_)
def impl_Point_78.T3:Bool × List (List Nat × List Nat):=(true,[([],[]),([],[]),([],[]),([],[]),([],[]),([],[]),([4,5],[4,5]),([6],[6]),([],[]),([],[]),([8,9],[8,9]),([10],[10]),([0,1,0,1,4,5,6,7,11],[0,1]),([12,7,0,1,4,5,6,7,11],[7,12]),([2,3,0,1,2,3,4,5,6,7,8,9,10,11,12,13],[2,3]),([14,11,13,0,1,2,3,4,5,6,7,8,9,10,11,12,13],[11,14])])
def impl_Point_78.B3:List Nat:=[0,0,0,0,0,0,48,112,0,0,768,1792,4083,8179,16383,32767]
theorem impl_Point_78.tab3:rtab .any (opsOf Try.f78 3)=impl_Point_78.T3:=by kernel_rfl
theorem impl_Point_78.bits3:waitsOk impl_Point_78.T3.2 impl_Point_78.B3=true:=by kernel_rfl
theorem impl_Point_78.calls (k:Nat) (P0_:Nat→Prop) (u9000_:Value) (l0:List (S40)) (r:List (S40)) (w0 w:World) (hB:Below w0.heap.size w0 w) (ho0:Kd.R k40 40 w w0.heap.size P0_ u9000_ l0) (h:impl_Point_78.f k l0=some r) :
 Calls Try.prog 78 #[u9000_] w fun e w'=>e=.returned (.tuple #[])∧Kd.R k40 40 w' w0.heap.size (fun k_=>(P0_ k_∨w.heap.size≤k_)) u9000_ r∧Below w0.heap.size w0 w'∧Kept w w' (fun k_=>P0_ k_):=by
 have hu40:=Try.underlying40
 have HO0:=Aside0.mk (show Kd.R k40 40 w w0.heap.size (fun k_=>(P0_ k_∨w.heap.size≤k_)) u9000_ l0 from Kd.R_mono ho0 (fun k_ hk=>(.inl hk)))
 have HK:=Aside0.mk (Kept.refl w (fun k_=>P0_ k_))
 have HW0:=Aside0.mk hB.size
 have HB:=Aside0.mk hB
 clear hB
 have H:(impl_Point_78.l0 k l0 0 (wrap64 ((l0.length:Int) - 1)))=some r:=h
 clear h
 have H':=Aside0.mk H
 clear H
 obtain ⟨Ao2,co2,eo2⟩:=Kd.R_slice HO0.out
 subst eo2
 go_enter Try.func78,Try.ntmps78
 go_wp2
 go_loopg [2,3] k (fun kq v2 v3 w'=>∃ (x0_1:List (S40)) (x2_1:Int) (x3_1:Int),v2=.int .i64 x2_1∧v3=.int .i64 x3_1∧Aside0 (impl_Point_78.l0 kq x0_1 x2_1 x3_1=some r)∧Aside0 (kq≤k)∧Aside0 (Kd.R k40 40 w' w0.heap.size (fun k_=>(P0_ k_∨w.heap.size≤k_)) (.slice Ao2 l0.length co2) x0_1)∧Aside0 (Kept w w' (fun k_=>P0_ k_))∧Aside0 (Below w0.heap.size w0 w'))
 case atStart=>exact ⟨(l0),(0),(wrap64 ((l0.length:Int) - 1)),(by first|rfl|(simp;done)|(simp [*];done)),(by first|rfl|(simp;done)|(simp [*];done)),H',⟨Nat.le_refl _⟩,⟨by (with_reducible repeat (first|apply rA|apply rN|apply rD));exact HO0.out⟩,⟨by repeat (first|(with_reducible first|exact HK.out|apply Kept.alloc|apply Kept.drewN|apply Kept.drew)|exact HK.out)⟩,⟨by repeat (with_reducible first|exact HB.out|apply bA|apply bN|apply bD)⟩⟩
 case round =>
  clear H'
  obtain ⟨x0_1,x2_1,x3_1,rfl,rfl,HA,HK1,HO_0,HK,HB⟩:=hrel
  have hl0_1:=(Kd.R_reads' HO_0.out).1
  rw [hl0_1] at HO_0
  (try simp only [hl0_1])
  rcases gk with _|k1
  ·exact absurd HA.out (by simp [impl_Point_78.l0])
  have H:=HA.out
  clear HA
  simp only [impl_Point_78.l0] at H
  by_cases c3:x2_1 < x3_1
  ·rw [if_pos c3] at H
   have c3b0:decide (x2_1 < x3_1)=true:=decide_eq_true c3
   clear c3
   by_cases c4:0≤x3_1
   rotate_left;·rw [if_neg c4] at H;exact absurd H (by simp)
   rw [if_pos c4] at H
   have c4b0:decide (0≤x3_1)=true:=decide_eq_true c4
   clear c4
   by_cases c5:x3_1 < (x0_1.length:Int)
   rotate_left;·rw [if_neg c5] at H;exact absurd H (by simp)
   rw [if_pos c5] at H
   have c5b0:decide (x3_1 < (x0_1.length:Int))=true:=decide_eq_true c5
   clear c5
   by_cases c6:0≤x2_1
   rotate_left;·rw [if_neg c6] at H;exact absurd H (by simp)
   rw [if_pos c6] at H
   have c6b0:decide (0≤x2_1)=true:=decide_eq_true c6
   clear c6
   by_cases c7:x2_1 < (x0_1.length:Int)
   rotate_left;·rw [if_neg c7] at H;exact absurd H (by simp)
   rw [if_pos c7] at H
   have c7b0:decide (x2_1 < (x0_1.length:Int))=true:=decide_eq_true c7
   clear c7
   obtain ⟨y299,hy299⟩ : ∃ y_:List (S40),y_=(x0_1.set (x2_1:Int).toNat (⟨(rd_T40 x0_1 x3_1).f0,(rd_T40 x0_1 x3_1).f1⟩ : S40)):=⟨_,rfl⟩
   replace H:(impl_Point_78.l0 k1 (y299.set (x3_1:Int).toNat (⟨(rd_T40 x0_1 x2_1).f0,(rd_T40 x0_1 x2_1).f1⟩ : S40)) (wrap64 (x2_1+1)) (wrap64 (x3_1 - 1)))=some r:=by (try rw [hy299]);first|with_reducible exact H|with_reducible exact (Option.bind_some _ _).symm.trans H|exact H
   have Ny299:=Aside0.mk hy299
   clear hy299
   obtain ⟨y300,hy300⟩ : ∃ y_:List (S40),y_=(y299.set (x3_1:Int).toNat (⟨(rd_T40 x0_1 x2_1).f0,(rd_T40 x0_1 x2_1).f1⟩ : S40)):=⟨_,rfl⟩
   replace H:(impl_Point_78.l0 k1 y300 (wrap64 (x2_1+1)) (wrap64 (x3_1 - 1)))=some r:=by (try rw [hy300]);first|with_reducible exact H|with_reducible exact (Option.bind_some _ _).symm.trans H|exact H
   have Ny300:=Aside0.mk hy300
   clear hy300
   have H':=Aside0.mk H
   clear H
   try go_wp2
   have n0_:=Aside0.mk (Kd.R_drew HO_0.out)
   have n1_:=Aside0.mk (Kept.drew HK.out)
   have n2_:=Aside0.mk (below_drew1 HB.out)
   clear HO_0
   clear HK
   clear HB
   have HO_0:=n0_
   have HK:=n1_
   have HB:=n2_
   clear n0_ n1_ n2_
   have p297:0≤(x3_1:Int):=of_decide_eq_true (by assumption)
   have q297:x3_1 < (x0_1.length:Int):=of_decide_eq_true (by assumption)
   obtain ⟨ad297,e297,hx297_0,hx297_1⟩:=at_T40 (Kd.R_reads' HO_0.out).2.2 x3_1 p297 q297
   cases e297
   replace p297:=eq_true p297
   replace q297:=eq_true q297
   have p298:0≤(x2_1:Int):=of_decide_eq_true (by assumption)
   have q298:x2_1 < (x0_1.length:Int):=of_decide_eq_true (by assumption)
   obtain ⟨ad298,e298,hx298_0,hx298_1⟩:=at_T40 (Kd.R_reads' HO_0.out).2.2 x2_1 p298 q298
   obtain rfl:ad297=ad298:=(by injection e298)
   replace p298:=eq_true p298
   replace q298:=eq_true q298
   have p8:0≤(x2_1:Int):=of_decide_eq_true (by assumption)
   have q8:(x2_1:Int) < ((x0_1.length:Int):Int):=of_decide_eq_true (by assumption)
   obtain ⟨go8,co8,eo8,gb8,gl8,cl8,HG8⟩:=Kd.R_form HO_0.out (by omega)
   (first|cases eo8|(injection eo8 with ea_ en_ ec_;(first|subst ea_|(injection ea_ with ea_;subst ea_));subst ec_;clear en_))
   have GB8:=Aside0.mk gb8
   have GG8:=Aside0.mk HG8
   clear gb8 gl8 HG8
   have HMgo8:=Aside0.mk (show (P0_ go8∨w.heap.size≤go8) from (HO_0.out.1 _ rfl))
   (first|simp only [add_plain] at hx297_0|skip)
   (first|simp only [add_plain] at hx297_1|skip)
   (first|simp only [add_plain] at hx298_0|skip)
   (first|simp only [add_plain] at hx298_1|skip)
   obtain ⟨ce8,hcl8,hM8,hcc8,hfr8⟩:=Kd.R_elem HO_0.out z40 (x2_1:Int) p8 q8
   obtain rfl:=k40_openM hM8
   have hx8_0:World.cell? _ ⟨go8,(x2_1:Int).toNat * 2,none⟩=some (.int .i64 ((rd_T40 x0_1 x2_1).f0)):=hcc8 0 _ rfl
   have hx8_1:World.cell? _ ⟨go8,(x2_1:Int).toNat * 2+1,none⟩=some (.int .i64 ((rd_T40 x0_1 x2_1).f1)):=hcc8 1 _ rfl
   have hf8_0:World.frozen? _ ⟨go8,(x2_1:Int).toNat * 2,none⟩=false:=hfr8 0
   have hf8_1:World.frozen? _ ⟨go8,(x2_1:Int).toNat * 2+1,none⟩=false:=hfr8 1
   clear hcl8 hcc8 hfr8 hM8
   replace p8:=eq_true p8
   replace q8:=eq_true q8
   obtain ⟨ce11,hcl11,hM11,hcc11,hfr11⟩:=Kd.R_elem HO_0.out z40 (x2_1:Int) (of_decide_eq_true (by assumption)) (by have h_:(x2_1:Int) < ((x0_1.length:Int):Int):=of_decide_eq_true (by assumption);first|exact h_|(have e_:=(Kd.R_reads' HO_0.out).1;omega)|simpa using h_)
   obtain rfl:=k40_openM hM11
   have HP11:=(Kd.R_seg HO_0.out (x2_1:Int) (of_decide_eq_true (by assumption)) (by have h_:(x2_1:Int) < ((x0_1.length:Int):Int):=of_decide_eq_true (by assumption);first|exact h_|(have e_:=(Kd.R_reads' HO_0.out).1;omega)|simpa using h_) (seg:=[.int .i64 ((rd_T40 x0_1 x3_1).f0),.int .i64 ((rd_T40 x0_1 x3_1).f1)]) (j:=0) hcl11 hcc11 (show 2≤2 from by decide) (x':=(⟨(rd_T40 x0_1 x3_1).f0,(rd_T40 x0_1 x3_1).f1⟩ : S40)) (k40_mkM _ _ _ (⟨(rd_T40 x0_1 x3_1).f0,(rd_T40 x0_1 x3_1).f1⟩ : S40) ) (fun _ hk=>hk)).1
   rw [← Ny299.out] at HP11
   have HQ11:=Aside0.mk HP11
   clear hcl11 hcc11 hfr11 hM11 HP11
   have p9:0≤(x3_1:Int):=of_decide_eq_true (by assumption)
   have q9:(x3_1:Int) < ((x0_1.length:Int):Int):=of_decide_eq_true (by assumption)
   obtain ⟨ce9,hcl9,hM9,hcc9,hfr9⟩:=Kd.R_elem HQ11.out z40 (x3_1:Int) p9 q9
   obtain rfl:=k40_openM hM9
   have hx9_0:World.cell? _ ⟨go8,(x3_1:Int).toNat * 2,none⟩=some (.int .i64 ((rd_T40 y299 x3_1).f0)):=hcc9 0 _ rfl
   have hx9_1:World.cell? _ ⟨go8,(x3_1:Int).toNat * 2+1,none⟩=some (.int .i64 ((rd_T40 y299 x3_1).f1)):=hcc9 1 _ rfl
   have hf9_0:World.frozen? _ ⟨go8,(x3_1:Int).toNat * 2,none⟩=false:=hfr9 0
   have hf9_1:World.frozen? _ ⟨go8,(x3_1:Int).toNat * 2+1,none⟩=false:=hfr9 1
   clear hcl9 hcc9 hfr9 hM9
   replace p9:=eq_true p9
   replace q9:=eq_true q9
   obtain ⟨ce12,hcl12,hM12,hcc12,hfr12⟩:=Kd.R_elem HQ11.out z40 (x3_1:Int) (of_decide_eq_true (by assumption)) (by have h_:(x3_1:Int) < ((x0_1.length:Int):Int):=of_decide_eq_true (by assumption);first|exact h_|(have e_:=(Kd.R_reads' HO_0.out).1;omega)|simpa using h_)
   obtain rfl:=k40_openM hM12
   have HP12:=(Kd.R_seg HQ11.out (x3_1:Int) (of_decide_eq_true (by assumption)) (by have h_:(x3_1:Int) < ((x0_1.length:Int):Int):=of_decide_eq_true (by assumption);first|exact h_|(have e_:=(Kd.R_reads' HO_0.out).1;omega)|simpa using h_) (seg:=[.int .i64 ((rd_T40 x0_1 x2_1).f0),.int .i64 ((rd_T40 x0_1 x2_1).f1)]) (j:=0) hcl12 hcc12 (show 2≤2 from by decide) (x':=(⟨(rd_T40 x0_1 x2_1).f0,(rd_T40 x0_1 x2_1).f1⟩ : S40)) (k40_mkM _ _ _ (⟨(rd_T40 x0_1 x2_1).f0,(rd_T40 x0_1 x2_1).f1⟩ : S40) ) (fun _ hk=>hk)).1
   rw [← Ny300.out] at HP12
   have HQ12:=Aside0.mk HP12
   clear hcl12 hcc12 hfr12 hM12 HP12
   refine start_ (n:=16) (S:=fun w'=>w'.cell? ⟨go8,((x3_1).toNat * 2),none⟩=some (.int .i64 ((rd_T40 x0_1 x3_1).f0))∧w'.cell? ⟨go8,((x3_1).toNat * 2)+1,none⟩=some (.int .i64 ((rd_T40 x0_1 x3_1).f1))∧w'.cell? ⟨go8,((x2_1).toNat * 2),none⟩=some (.int .i64 ((rd_T40 x0_1 x2_1).f0))∧w'.cell? ⟨go8,((x2_1).toNat * 2)+1,none⟩=some (.int .i64 ((rd_T40 x0_1 x2_1).f1))) (ds:=[13,15]) (bV 16 0) (by kernel_rfl) rfl rfl ⟨hx297_0,hx297_1,hx298_0,hx298_1⟩ (fun hHeld=>?_);refine with_tabW impl_Point_78.tab3 impl_Point_78.bits3 (fun HT_ HW_=>?_)
   generalize wr.drew=w10 at HO_0 HK HB GG8 HQ11 HQ12 hf8_0 hf8_1 hf9_0 hf9_1 hx297_0 hx297_1 hx298_0 hx298_1 hx8_0 hx8_1 hx9_0 hx9_1 hHeld ⊢
   refine pT 0 14 (bV 16 1) HT_.out ?_
   refine pT 1 15 (bV 16 3) HT_.out ?_
   refine pT 2 16 (bV 16 7) HT_.out ?_
   refine pT 3 17 (bV 16 15) HT_.out ?_
   refine pT 4 18 (bV 16 31) HT_.out ?_
   refine pT 5 19 (bV 16 63) HT_.out ?_
   refine pT 6 20 (bV 16 127) HT_.out ?_
   refine pT 8 22 (bV 16 383) HT_.out ?_
   refine pT 9 23 (bV 16 895) HT_.out ?_
   refine pT 10 24 (bV 16 1919) HT_.out ?_
   refine tI 7 21 (bV 16 2047) rfl (take_ofW HT_.out HW_.out (by kernel_rfl)) hHeld (by rintro w' ⟨s0,s1,s2,s3⟩;go_simp;with_reducible rfl) ?_
   refine tI 11 25 (bV 16 4095) rfl (take_ofW HT_.out HW_.out (by kernel_rfl)) hHeld (by rintro w' ⟨s0,s1,s2,s3⟩;go_simp;with_reducible rfl) ?_
   refine pT 12 26 (bV 16 8191) HT_.out ?_
   refine last_ (i:=13) (N:=none) (bV 16 16383) rfl rfl (one_of HT_.out (by kernel_rfl)) (by decide) (fun K hK=>?_)
   refine skip_ (w1:=?_) (by rfl) rfl ?_ ?_
   rotate_left
   ·go_simp
    rfl
   refine hK.out _ _ ?_
   clear hK K
   refine pT 14 27 (bV 16 32767) HT_.out ?_
   refine last_ (i:=15) (N:=none) (bV 16 65535) rfl rfl (one_of HT_.out (by kernel_rfl)) (by decide) (fun K hK=>?_)
   refine skip_ (w1:=?_) (by rfl) rfl ?_ ?_
   rotate_left
   ·have hlt_:=of_decide_eq_true c3b0
    have hge_:0≤x2_1:=of_decide_eq_true (by assumption)
    have hne1:(x3_1.toNat=x2_1.toNat)=False:=eq_false (by omega)
    have hne2:(x3_1.toNat * 2=x2_1.toNat * 2)=False:=eq_false (by omega)
    have hne3:(x3_1.toNat * 2=x2_1.toNat * 2+1)=False:=eq_false (by omega)
    have hne4:(x3_1.toNat * 2+1=x2_1.toNat * 2)=False:=eq_false (by omega)
    have hne5:(x2_1.toNat=x3_1.toNat)=False:=eq_false (by omega)
    have hne6:(x2_1.toNat * 2=x3_1.toNat * 2)=False:=eq_false (by omega)
    have hne7:(x2_1.toNat * 2=x3_1.toNat * 2+1)=False:=eq_false (by omega)
    have hne8:(x2_1.toNat * 2+1=x3_1.toNat * 2)=False:=eq_false (by omega)
    clear hlt_ hge_
    (try simp only [World.frozen?_setCells,World.frozen?_setCell] at hf9_0 hf9_1)
    go_simp
    rfl
   refine hK.out _ _ ?_
   clear hK K
   refine done_ (done_of HT_.out (by kernel_rfl)) ?_
   try go_wp2
   (try simp only [← hl0_1])
   go_roundg k1
   case measure=>have:=HK1.out;omega
   case rel=>exact ⟨(y300),(wrap64 (x2_1+1)),(wrap64 (x3_1 - 1)),(by first|rfl|(simp;done)|(simp [*];done)),(by first|rfl|(simp;done)|(simp [*];done)),H',⟨by have:=HK1.out;omega⟩,⟨by (try simp only [hl0_1]);(with_reducible repeat (first|apply rA|apply rN|apply rD));exact HQ12.out⟩,⟨by repeat (first|(with_reducible first|exact HK.out|apply Kept.alloc|apply Kept.drewN|apply Kept.drew|refine Kept.setCell ?_ HMgo8.out _|refine Kept.setCell ?_ HMgo8.out _|refine Kept.setCell ?_ HMgo8.out _|refine Kept.setCell ?_ HMgo8.out _)|exact HK.out)⟩,⟨by repeat (first|(with_reducible first|exact HB.out|apply bA|apply bN|apply bD|refine bS ?_ GB8.out|refine bS ?_ GB8.out|refine bS ?_ GB8.out|refine bS ?_ GB8.out)|exact HB.out)⟩⟩
  ·rw [if_neg c3] at H
   have c3b0:decide (x2_1 < x3_1)=false:=decide_eq_false c3
   clear c3
   (try simp only [hl0_1] at c3b0)
   obtain rfl:=Option.some.inj H
   go_wp2
   first|go_end0|((try simp only [Exit.inBlock,Exit.then]);refine bodyPost_ret (results_none rfl _ _ _) rfl ?_)
   exact ⟨by first|rfl|(simp [errW_none,errW_some] <;> rfl)|(simp [*,errW_none,errW_some] <;> rfl),(by first|exact (by (with_reducible repeat (first|apply rA|apply rN|apply rD));exact HO_0.out)|(simp only [hl0_1];exact (by (with_reducible repeat (first|apply rA|apply rN|apply rD));exact HO_0.out))),by repeat (with_reducible first|exact HB.out|apply bA|apply bN|apply bD),by repeat (first|(with_reducible first|exact HK.out|apply Kept.alloc|apply Kept.drewN|apply Kept.drew)|exact HK.out)⟩
theorem rev_get {W:World} {base:Nat} {ok:Nat→Prop} {g n cap:Nat} {x:S40} {xs:List S40} (h:Kd.R k40 40 W base ok (.slice (some ⟨g,0,none⟩) n cap) (x :: xs)) (i:Int) (h0:0≤i) (h1:i < (xs.length:Int)) :
 W.cell? ⟨g,2+i.toNat * 2,none⟩=some (.int .i64 (rd_T40 xs i).f0)∧W.cell? ⟨g,2+i.toNat * 2+1,none⟩=some (.int .i64 (rd_T40 xs i).f1)∧W.frozen? ⟨g,2+i.toNat * 2,none⟩=false∧W.frozen? ⟨g,2+i.toNat * 2+1,none⟩=false:=by
 have hn:=(Kd.R_reads' h).1
 simp only [List.length_cons] at hn
 have e:(i+1).toNat=i.toNat+1:=by omega
 obtain ⟨c,hc,hM,hcc,hf⟩:=Kd.R_elem h z40 (i+1) (by omega) (by omega)
 rw [e,List.getD_cons_succ] at hM
 obtain rfl:=k40_openM hM
 rw [e] at hcc hf
 have q:∀ j,(i.toNat+1) * k40.sz+j=2+i.toNat * 2+j:=fun j=>by show (i.toNat+1) * 2+j=_;omega
 refine ⟨?_,?_,?_,?_⟩
 ·have z:=hcc 0 _ rfl
  rw [q] at z
  exact z
 ·have z:=hcc 1 _ rfl
  rw [q] at z
  exact z
 ·have z:=hf 0
  rw [q] at z
  exact z
 ·have z:=hf 1
  rw [q] at z
  exact z
theorem rev_set {W:World} {base:Nat} {ok:Nat→Prop} {g n cap:Nat} {x:S40} {xs:List S40} (h:Kd.R k40 40 W base ok (.slice (some ⟨g,0,none⟩) n cap) (x :: xs)) (i:Int) (h0:0≤i) (h1:i < (xs.length:Int)) (p0 p1:Int) :
 Kd.R k40 40 ((W.setCell ⟨g,2+i.toNat * 2,none⟩ (.int .i64 p0)).setCell ⟨g,2+i.toNat * 2+1,none⟩ (.int .i64 p1)) base ok (.slice (some ⟨g,0,none⟩) n cap) (x :: xs.set i.toNat ⟨p0,p1⟩):=by
 have hn:=(Kd.R_reads' h).1
 simp only [List.length_cons] at hn
 have e:(i+1).toNat=i.toNat+1:=by omega
 obtain ⟨c,hc,hM,hcc,hf⟩:=Kd.R_elem h z40 (i+1) (by omega) (by omega)
 obtain rfl:=k40_openM hM
 have z:=(Kd.R_seg h (i+1) (by omega) (by omega) (seg:=[.int .i64 p0,.int .i64 p1]) (j:=0) hc hcc (show 2≤2 from by decide) (x':=(⟨p0,p1⟩ : S40)) (k40_mkM _ _ _ (⟨p0,p1⟩ : S40)) (fun _ hk=>hk)).1
 rw [e,List.set_cons_succ,show (i.toNat+1) * k40.sz+0=2+i.toNat * 2 from by show (i.toNat+1) * 2+0=_;omega] at z
 exact z
theorem impl_rev1.calls (k:Nat) (A:Option Addr) (g c1:Nat) (x:S40) (l0 r:List S40) (ok:Nat→Prop) (n c:Nat) (w0 w:World) (hB:Below w0.heap.size w0 w) (ho:Kd.R k40 40 w w0.heap.size ok (.slice (some ⟨g,0,none⟩) n c) (x :: l0)) (hg:w0.heap.size≤g) (hA:l0≠[]→A=some ⟨g,2,none⟩) (h:impl_Point_78.f k l0=some r) :
 Calls Try.prog 78 #[.slice A l0.length c1] w fun e w'=>e=.returned (.tuple #[])∧Kd.R k40 40 w' w0.heap.size ok (.slice (some ⟨g,0,none⟩) n c) (x :: r)∧Below w0.heap.size w0 w':=by
 have hu40:=Try.underlying40
 have HO0:=Aside0.mk ho
 have HB:=Aside0.mk hB
 have HG:=Aside0.mk hg
 have HAA:=Aside0.mk hA
 clear ho hB hg hA
 have H':=Aside0.mk (show impl_Point_78.l0 k l0 0 (wrap64 ((l0.length:Int) - 1))=some r from h)
 clear h
 go_enter Try.func78,Try.ntmps78
 go_wp2
 go_loopg [2,3] k (fun kq v2 v3 w'=>∃ (x0_1:List S40) (x2_1:Int) (x3_1:Int),v2=.int .i64 x2_1∧v3=.int .i64 x3_1∧Aside0 (impl_Point_78.l0 kq x0_1 x2_1 x3_1=some r)∧Aside0 (kq≤k)∧Aside0 (Kd.R k40 40 w' w0.heap.size ok (.slice (some ⟨g,0,none⟩) n c) (x :: x0_1))∧Aside0 (x0_1.length=l0.length)∧Aside0 (Below w0.heap.size w0 w'))
 case atStart=>exact ⟨l0,0,(wrap64 ((l0.length:Int) - 1)),(by first|rfl|(simp;done)|(simp [*];done)),(by first|rfl|(simp;done)|(simp [*];done)),H',⟨Nat.le_refl _⟩,⟨(by (with_reducible repeat (first|apply rA|apply rN|apply rD));exact HO0.out)⟩,⟨rfl⟩,⟨(by repeat (first|(with_reducible first|exact HB.out|apply bA|apply bN|apply bD|refine bS ?_ HG.out)|exact HB.out))⟩⟩
 case round =>
  clear H' HO0 HB
  obtain ⟨x0_1,x2_1,x3_1,rfl,rfl,HA,HK1,HO_0,HL,HB⟩:=hrel
  rcases gk with _|k1
  ·exact absurd HA.out (by simp [impl_Point_78.l0])
  have H:=HA.out
  clear HA
  simp only [impl_Point_78.l0] at H
  by_cases c3:x2_1 < x3_1
  ·rw [if_pos c3] at H
   have c3b0:decide (x2_1 < x3_1)=true:=decide_eq_true c3
   by_cases c4:0≤x3_1∧x3_1 < (x0_1.length:Int)∧0≤x2_1∧x2_1 < (x0_1.length:Int)
   ·obtain ⟨c4,c5,c6,c7⟩:=c4
    rw [if_pos c4,if_pos c5,if_pos c6,if_pos c7] at H
    have hL:=HL.out
    obtain rfl:=HAA.out (fun z=>by rw [z] at hL;simp at hL;rw [hL] at c7;simp at c7;omega)
    obtain ⟨y299,hy299⟩ : ∃ y_:List S40,y_=(x0_1.set (x2_1:Int).toNat (⟨(rd_T40 x0_1 x3_1).f0,(rd_T40 x0_1 x3_1).f1⟩ : S40)):=⟨_,rfl⟩
    obtain ⟨y300,hy300⟩ : ∃ y_:List S40,y_=(y299.set (x3_1:Int).toNat (⟨(rd_T40 x0_1 x2_1).f0,(rd_T40 x0_1 x2_1).f1⟩ : S40)):=⟨_,rfl⟩
    rw [← hy299,← hy300] at H
    have H':=Aside0.mk H
    clear H
    have hl299:y299.length=x0_1.length:=by rw [hy299];simp
    have HL3:=Aside0.mk (show y300.length=l0.length from by rw [hy300];simp [hl299,hL])
    try go_wp2
    have n0_:=Aside0.mk (Kd.R_drew HO_0.out)
    have n2_:=Aside0.mk (below_drew1 HB.out)
    clear HO_0 HB
    have HO_0:=n0_
    have HB:=n2_
    clear n0_ n2_
    obtain ⟨hx297_0,hx297_1,hf7_0,hf7_1⟩:=rev_get HO_0.out x3_1 c4 c5
    obtain ⟨hx298_0,hx298_1,hf8_0,hf8_1⟩:=rev_get HO_0.out x2_1 c6 c7
    have HP11:=rev_set HO_0.out x2_1 c6 c7 (rd_T40 x0_1 x3_1).f0 (rd_T40 x0_1 x3_1).f1
    rw [← hy299] at HP11
    have HQ11:=Aside0.mk HP11
    obtain ⟨hx9_0,hx9_1,hf9_0,hf9_1⟩:=rev_get HQ11.out x3_1 c4 (by omega)
    have HP12:=rev_set HQ11.out x3_1 c4 (by omega) (rd_T40 x0_1 x2_1).f0 (rd_T40 x0_1 x2_1).f1
    rw [← hy300] at HP12
    have HQ12:=Aside0.mk HP12
    have p4:=eq_true c4
    have p6:=eq_true c6
    have q5:(x3_1 < (l0.length:Int))=True:=eq_true (by omega)
    have q7:(x2_1 < (l0.length:Int))=True:=eq_true (by omega)
    clear HP11 HP12 hy299 hy300 hl299 hL
    refine start_ (n:=16) (S:=fun w'=>w'.cell? ⟨g,2+(x3_1).toNat * 2,none⟩=some (.int .i64 ((rd_T40 x0_1 x3_1).f0))∧w'.cell? ⟨g,2+(x3_1).toNat * 2+1,none⟩=some (.int .i64 ((rd_T40 x0_1 x3_1).f1))∧w'.cell? ⟨g,2+(x2_1).toNat * 2,none⟩=some (.int .i64 ((rd_T40 x0_1 x2_1).f0))∧w'.cell? ⟨g,2+(x2_1).toNat * 2+1,none⟩=some (.int .i64 ((rd_T40 x0_1 x2_1).f1))) (ds:=[13,15]) (bV 16 0) (by kernel_rfl) rfl rfl ⟨hx297_0,hx297_1,hx298_0,hx298_1⟩ (fun hHeld=>?_);refine with_tabW impl_Point_78.tab3 impl_Point_78.bits3 (fun HT_ HW_=>?_)
    generalize wr.drew=w10 at HO_0 HB HQ11 HQ12 hf7_0 hf7_1 hf8_0 hf8_1 hf9_0 hf9_1 hx297_0 hx297_1 hx298_0 hx298_1 hx9_0 hx9_1 hHeld ⊢
    refine pT 0 14 (bV 16 1) HT_.out ?_
    refine pT 1 15 (bV 16 3) HT_.out ?_
    refine pT 2 16 (bV 16 7) HT_.out ?_
    refine pT 3 17 (bV 16 15) HT_.out ?_
    refine pT 4 18 (bV 16 31) HT_.out ?_
    refine pT 5 19 (bV 16 63) HT_.out ?_
    refine pT 6 20 (bV 16 127) HT_.out ?_
    refine pT 8 22 (bV 16 383) HT_.out ?_
    refine pT 9 23 (bV 16 895) HT_.out ?_
    refine pT 10 24 (bV 16 1919) HT_.out ?_
    refine tI 7 21 (bV 16 2047) rfl (take_ofW HT_.out HW_.out (by kernel_rfl)) hHeld (by rintro w' ⟨s0,s1,s2,s3⟩;go_simp;with_reducible rfl) ?_
    refine tI 11 25 (bV 16 4095) rfl (take_ofW HT_.out HW_.out (by kernel_rfl)) hHeld (by rintro w' ⟨s0,s1,s2,s3⟩;go_simp;with_reducible rfl) ?_
    refine pT 12 26 (bV 16 8191) HT_.out ?_
    refine last_ (i:=13) (N:=none) (bV 16 16383) rfl rfl (one_of HT_.out (by kernel_rfl)) (by decide) (fun K hK=>?_)
    refine skip_ (w1:=?_) (by rfl) rfl ?_ ?_
    rotate_left
    ·go_simp
     rfl
    refine hK.out _ _ ?_
    clear hK K
    refine pT 14 27 (bV 16 32767) HT_.out ?_
    refine last_ (i:=15) (N:=none) (bV 16 65535) rfl rfl (one_of HT_.out (by kernel_rfl)) (by decide) (fun K hK=>?_)
    refine skip_ (w1:=?_) (by rfl) rfl ?_ ?_
    rotate_left
    ·have hlt_:=of_decide_eq_true c3b0
     have hge_:0≤x2_1:=c6
     have hne1:(x3_1.toNat=x2_1.toNat)=False:=eq_false (by omega)
     have hne2:(x3_1.toNat * 2=x2_1.toNat * 2)=False:=eq_false (by omega)
     have hne3:(x3_1.toNat * 2=x2_1.toNat * 2+1)=False:=eq_false (by omega)
     have hne4:(x3_1.toNat * 2+1=x2_1.toNat * 2)=False:=eq_false (by omega)
     have hne5:(x2_1.toNat=x3_1.toNat)=False:=eq_false (by omega)
     have hne6:(x2_1.toNat * 2=x3_1.toNat * 2)=False:=eq_false (by omega)
     have hne7:(x2_1.toNat * 2=x3_1.toNat * 2+1)=False:=eq_false (by omega)
     have hne8:(x2_1.toNat * 2+1=x3_1.toNat * 2)=False:=eq_false (by omega)
     have hne9:(2+x3_1.toNat * 2=2+x2_1.toNat * 2)=False:=eq_false (by omega)
     have hne10:(2+x3_1.toNat * 2=2+x2_1.toNat * 2+1)=False:=eq_false (by omega)
     have hne11:(2+x3_1.toNat * 2+1=2+x2_1.toNat * 2)=False:=eq_false (by omega)
     have hne12:(2+x3_1.toNat * 2+1=2+x2_1.toNat * 2+1)=False:=eq_false (by omega)
     have hne13:(2+x2_1.toNat * 2=2+x3_1.toNat * 2)=False:=eq_false (by omega)
     have hne14:(2+x2_1.toNat * 2=2+x3_1.toNat * 2+1)=False:=eq_false (by omega)
     have hne15:(2+x2_1.toNat * 2+1=2+x3_1.toNat * 2)=False:=eq_false (by omega)
     have hne16:(2+x2_1.toNat * 2+1=2+x3_1.toNat * 2+1)=False:=eq_false (by omega)
     clear hlt_ hge_
     (try simp only [World.frozen?_setCells,World.frozen?_setCell] at hf9_0 hf9_1)
     go_simp
     rfl
    refine hK.out _ _ ?_
    clear hK K
    refine done_ (done_of HT_.out (by kernel_rfl)) ?_
    try go_wp2
    go_roundg k1
    case measure=>have:=HK1.out;omega
    case rel=>exact ⟨y300,(wrap64 (x2_1+1)),(wrap64 (x3_1 - 1)),(by first|rfl|(simp;done)|(simp [*];done)),(by first|rfl|(simp;done)|(simp [*];done)),H',⟨by have:=HK1.out;omega⟩,⟨(by (with_reducible repeat (first|apply rA|apply rN|apply rD));exact HQ12.out)⟩,HL3,⟨(by repeat (first|(with_reducible first|exact HB.out|apply bA|apply bN|apply bD|refine bS ?_ HG.out)|exact HB.out))⟩⟩
   ·exfalso
    by_cases z1:0≤x3_1
    ·rw [if_pos z1] at H
     by_cases z2:x3_1 < (x0_1.length:Int)
     ·rw [if_pos z2] at H
      by_cases z3:0≤x2_1
      ·rw [if_pos z3,if_neg (fun z4=>c4 ⟨z1,z2,z3,z4⟩)] at H
       cases H
      ·rw [if_neg z3] at H
       cases H
     ·rw [if_neg z2] at H
      cases H
    ·rw [if_neg z1] at H
     cases H
  ·rw [if_neg c3] at H
   have c3b0:decide (x2_1 < x3_1)=false:=decide_eq_false c3
   clear c3
   obtain rfl:=Option.some.inj H
   go_wp2
   first|go_end0|((try simp only [Exit.inBlock,Exit.then]);refine bodyPost_ret (results_none rfl _ _ _) rfl ?_)
   exact ⟨rfl,(by (with_reducible repeat (first|apply rA|apply rN|apply rD));exact HO_0.out),(by repeat (first|(with_reducible first|exact HB.out|apply bA|apply bN|apply bD|refine bS ?_ HG.out)|exact HB.out))⟩
def impl_turned.f (l0:List S40):Option (List S40):=match l0 with|[]=>none|x :: l=>if l.length≤1000000 then some (x :: l.reverse) else none
theorem rev_from:∀ (m:Nat) (A M B:List S40),M.length≤m→A.length+M.length+B.length≤2000000→∃ k,impl_Point_78.l0 k (A++M++B) (A.length:Int) ((A.length:Int)+(M.length:Int) - 1)=some (A++M.reverse++B)
 | 0,A,M,B,h,_=>by
  obtain rfl:=List.eq_nil_of_length_eq_zero (Nat.le_zero.mp h)
  exact ⟨1,by simp only [impl_Point_78.l0];rw [if_neg (by simp only [List.length_nil];omega)];rfl⟩
 | m+1,A,M,B,h,hb=>by
  match M,h,hb with
  | [],_,_=>exact ⟨1,by simp only [impl_Point_78.l0];rw [if_neg (by simp only [List.length_nil];omega)];rfl⟩
  | x :: R,h,hb =>
   rcases List.eq_nil_or_concat R with hR|⟨M',y,hR⟩
   ·subst hR
    exact ⟨1,by simp only [impl_Point_78.l0];rw [if_neg (by simp only [List.length_cons,List.length_nil];omega)];rfl⟩
   ·subst hR
    simp only [List.concat_eq_append,List.length_cons,List.length_append,List.length_nil] at h hb ⊢
    obtain ⟨k,hk⟩:=rev_from m (A++[y]) M' ([x]++B) (by omega) (by simp only [List.length_append,List.length_cons,List.length_nil];omega)
    refine ⟨k+1,?_⟩
    have hl:(A++(x :: (M'++[y]))++B).length=A.length+(M'.length+2)+B.length:=by simp;omega
    have r1:rd_T40 (A++(x :: (M'++[y]))++B) (A.length:Int)=x:=by simp [rd_T40,List.getD_eq_getElem?_getD]
    have i2:((A.length:Int)+((M'.length+(0+1)+1:Nat):Int) - 1).toNat=A.length+(M'.length+1):=by omega
    have r2:rd_T40 (A++(x :: (M'++[y]))++B) ((A.length:Int)+((M'.length+(0+1)+1:Nat):Int) - 1)=y:=by
     unfold rd_T40
     rw [i2,List.getD_eq_getElem?_getD,List.append_assoc,List.getElem?_append_right (by omega),Nat.add_sub_cancel_left]
     rw [List.cons_append,List.getElem?_cons_succ,List.append_assoc,List.getElem?_append_right (Nat.le_refl _),Nat.sub_self]
     rfl
    have s1:(A++(x :: (M'++[y]))++B).set A.length y=A++(y :: (M'++[y]))++B:=by
     rw [List.append_assoc,List.set_append_right _ _ (Nat.le_refl _),Nat.sub_self,List.append_assoc]
     rfl
    have s2:(A++(y :: (M'++[y]))++B).set (A.length+(M'.length+1)) x=(A++[y])++M'++([x]++B):=by
     rw [List.append_assoc,List.set_append_right _ _ (by omega),Nat.add_sub_cancel_left,List.cons_append,List.set_cons_succ,List.append_assoc,List.set_append_right _ _ (Nat.le_refl _),Nat.sub_self]
     simp
    simp only [impl_Point_78.l0]
    rw [if_pos (by omega),if_pos (by omega),if_pos (by rw [hl];omega),if_pos (by omega),if_pos (by rw [hl];omega),r1,r2,Int.toNat_natCast,i2]
    rw [show (⟨y.f0,y.f1⟩ : S40)=y from rfl,show (⟨x.f0,x.f1⟩ : S40)=x from rfl,s1,s2]
    rw [show wrap64 ((A.length:Int)+1)=((A++[y]).length:Int) from by simp only [List.length_append,List.length_cons,List.length_nil];unfold wrap64;omega]
    rw [show wrap64 ((A.length:Int)+((M'.length+(0+1)+1:Nat):Int) - 1 - 1)=((A++[y]).length:Int)+(M'.length:Int) - 1 from by simp only [List.length_append,List.length_cons,List.length_nil];unfold wrap64;omega]
    rw [hk]
    simp
theorem rev_all (l:List S40) (h:l.length≤1000000):∃ k,impl_Point_78.f k l=some l.reverse:=by
 obtain ⟨k,hk⟩:=rev_from l.length [] l [] (Nat.le_refl _) (by simp;omega)
 refine ⟨k,?_⟩
 unfold impl_Point_78.f
 simp only [List.nil_append,List.append_nil,List.length_nil] at hk
 rw [show wrap64 ((l.length:Int) - 1)=(((0:Nat):Int))+(l.length:Int) - 1 from by unfold wrap64;omega]
 exact hk
theorem impl_turned.calls (A0:Option Addr) (c0:Nat) (l0:List S40) (r:List S40) (w:World) (hr0:Kd.C k40 w A0 l0.length l0) (hc0:l0.length≤c0) (h:impl_turned.f l0=some r) :
 Calls Try.prog 56 #[.slice A0 l0.length c0] w fun e w'=>∃ v0_:Value,e=.returned (v0_)∧Kd.R k40 40 w' w.heap.size (fun _=>True) v0_ r∧Below w.heap.size w w':=by
 cases l0 with
 | nil=>cases h
 | cons x l =>
  have h2:(if l.length≤1000000 then some (x :: l.reverse) else none)=some r:=h
  by_cases hl:l.length≤1000000
  ·rw [if_pos hl] at h2
   obtain rfl:=Option.some.inj h2
   have HR0:=Aside0.mk hr0
   have HC0:=Aside0.mk hc0
   have HB:=Aside0.mk (Below.refl w.heap.size w)
   have hcl:impl_Point_77.f (x :: l)=some (x :: l):=by
    unfold impl_Point_77.f
    simp only [Option.bind_some,List.length_nil,List.nil_append]
    rw [if_pos (by simp only [List.length_cons];omega)]
   have HCL:=Aside0.mk hcl
   obtain ⟨kr,hkr⟩:=rev_all l hl
   have HKR:=Aside0.mk hkr
   obtain ⟨i0,hi0,_,hsz0,_⟩:=info_parts info40
   obtain ⟨y,hy⟩ : ∃ y,y=x :: l:=⟨_,rfl⟩
   rw [← hy] at HR0 HC0 HCL ⊢
   have HY:=Aside0.mk hy
   clear hr0 hc0 h h2 hcl hkr hl hy
   go_enter Try.func56,Try.ntmps56
   go_wp2_with (first
    | ((with_reducible refine gate_callee (f:=77) rfl ?_);refine goesL_ (some 5) rfl rfl Try.func77 (by kernel_rfl) rfl #[.slice A0 y.length c0] rfl (by (try simp only [List.map_toArray,List.map_cons,List.map_nil]);first|done|rfl) ?_;(refine (impl_Point_77.calls A0 c0 y y _ ?side1 HC0.out HCL.out).mono ?_);(case side1=>repeat (first|exact HR0.out|(with_reducible refine Kd.C_alloc ?_ _)|(with_reducible refine Kd.C_drewN ?_ _)|(with_reducible refine Kd.C_drew ?_)));rintro e w1 ⟨v1,rfl,ho,hb⟩;refine ⟨_,rfl,?_⟩;obtain ⟨g,cap,hv,hge,hlt,_⟩:=Kd.R_form ho (by rw [HY.out];simp);subst hv;have HO1:=Aside0.mk (Kd.R_lower ho (below_size (by repeat (with_reducible first|exact HB.out|apply bA|apply bN|apply bD))));have HG:=Aside0.mk (show w.heap.size≤g from Nat.le_trans (below_size (by repeat (with_reducible first|exact HB.out|apply bA|apply bN|apply bD))) hge);have n_:=Aside0.mk (below_step (by repeat (with_reducible first|exact HB.out|apply bA|apply bN|apply bD)) hb);clear HB;have HB:=n_;clear n_ hge hlt hb;have hcap:=(Kd.R_reads' ho).2.1;have HCP:=Aside0.mk hcap;have hk1:=cut_from (P:=Try.prog) 25 40 .i64 Try.underlying25 hi0 2 hsz0 (some ⟨g,0,none⟩) y.length cap 1 (by omega) (by rw [HY.out];simp only [List.length_cons];omega);obtain ⟨A7,hA7⟩ : ∃ A1,A1=(if cap=(1:Int).toNat then (some ⟨g,0,none⟩) else ((some ⟨g,0,none⟩):Option Addr).map (·.add ((1:Int).toNat * 2))):=⟨_,rfl⟩;obtain ⟨c7,hc7⟩ : ∃ c1,c1=cap - (1:Int).toNat:=⟨_,rfl⟩;have hyl:l.length=y.length - (1:Int).toNat:=(by rw [HY.out,List.length_cons];rfl);rw [← hyl,← hA7,← hc7] at hk1;have HA7:=Aside0.mk hA7;clear ho hcap hA7 hc7 hyl)
    | (go_at_call 78;(refine (impl_rev1.calls kr A7 g c7 x l l.reverse (fun _=>True) y.length cap w _ ?hB ?ho HG.out ?hA HKR.out).mono ?_);(case hB=>(repeat (first|(with_reducible first|exact HB.out|apply bA|apply bN|apply bD)|exact HB.out)));(case ho=>rw [← HY.out];(with_reducible repeat (first|apply rA|apply rN|apply rD));exact HO1.out);(case hA=>intro z;have h1:=HCP.out;have h2:=HA7.out;rw [HY.out,List.length_cons] at h1;have h3:0 < l.length:=List.length_pos_iff.mpr z;rw [if_neg (by have:(1:Int).toNat=1:=rfl;omega)] at h2;rw [h2];rfl);rintro e w2 ⟨rfl,ho2,hb2⟩;have HO2:=Aside0.mk ho2;have HB2:=Aside0.mk hb2;clear ho2 hb2))
   go_ret
   exact ⟨_,rfl,by (with_reducible repeat (first|apply rA|apply rN|apply rD));exact HO2.out,by repeat (first|(with_reducible first|exact HB2.out|apply bA|apply bN|apply bD)|exact HB2.out)⟩
  ·rw [if_neg hl] at h2
   cases h2
end Go.Proofs.Ytadenfniiihifaa.QFnExactMeasuresOf
