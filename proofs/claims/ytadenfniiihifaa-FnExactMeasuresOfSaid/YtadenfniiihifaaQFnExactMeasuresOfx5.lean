/- What each Go function of this text answers, as a plain function, and that the machine comes to just that answer. -/
import Derived.Test.YtadenfniiihifaaQFnExactMeasuresOfx0
namespace Go.Proofs.Ytadenfniiihifaa.QFnExactMeasuresOf
open Go.RowKit Go.Proofs.YtadenfniiihifaaW.PrintWords Go.Proofs.YtadenfniiihifaaW.PrintLast Go.Proofs.YtadenfniiihifaaW.PrintMore
attribute [local go_sem] max2_int min2_int max_two min_two max_three min_three max_four min_four   -- for this text's walks alone
set_option linter.unusedVariables false
set_option maxHeartbeats 8000000
set_option maxRecDepth 100000
set_option linter.unusedSimpArgs false
def spec_l04Sides.l0:Nat→List (S40)→List (List Int)→List (S40)→Int→Int→Option ((List (List Int)))
 | 0,_,_,_,_,_=>none
 | k+1,x0,x3,x8,x9,x10=>if x10 < x9 then (if 0≤x10 then (if x10 < (x8.length:Int) then (if (x0.length:Int)=0 then (none) else (if 0≤(Int.tmod (wrap64 (x10+1)) (x0.length:Int)) then (if (Int.tmod (wrap64 (x10+1)) (x0.length:Int)) < (x0.length:Int) then (if x3.length < 5864062014805 then (spec_l04Sides.l0 k x0 (x3++[(([wrap64 (((rd_T40 x0 (Int.tmod (wrap64 (x10+1)) (x0.length:Int))).f0) - ((rd_T40 x8 x10).f0)),wrap64 (((rd_T40 x0 (Int.tmod (wrap64 (x10+1)) (x0.length:Int))).f1) - ((rd_T40 x8 x10).f1))]:List Int))]) x8 x9 (wrap64 (x10+1))) else (none)) else (none)) else (none))) else (none)) else (none)) else (some x3)
def spec_l04Sides.f (k:Nat) (l0:List (S40)):Option ((List (List Int))):=spec_l04Sides.l0 k l0 (([]:List (List Int))) l0 (l0.length:Int) 0
theorem spec_l04Sides.mono_l:∀ k,(∀ y0 y1 y2 y3 y4,LeO (spec_l04Sides.l0 k y0 y1 y2 y3 y4) (spec_l04Sides.l0 (k+1) y0 y1 y2 y3 y4))
 | 0=>fun _ _ _ _ _ r h=>by simp [spec_l04Sides.l0] at h
 | k+1=>by
  have ih0:=spec_l04Sides.mono_l k
  ·intro y0 y1 y2 y3 y4
   unfold spec_l04Sides.l0
   repeat' first
   | (with_reducible exact LeO.refl _)
   | exact ih0 _ _ _ _ _
   | exact LeO.none _
   | refine LeO.ite ?_ ?_
   | refine LeO.bind ?_ (fun _=>?_)
theorem spec_l04Sides.mono:∀ a0 k,LeO (spec_l04Sides.f k a0) (spec_l04Sides.f (k+1) a0):=by
 intro a0 k
 have ih0:=spec_l04Sides.mono_l k
 unfold spec_l04Sides.f
 repeat' first
  | (with_reducible exact LeO.refl _)
  | exact ih0 _ _ _ _ _
  | exact LeO.none _
  | refine LeO.ite ?_ ?_
  | refine LeO.bind ?_ (fun _=>?_)
theorem spec_l04Sides.calls (k:Nat) (A0:Option Addr) (c0:Nat) (l0:List (S40)) (r:List (List Int)) (w:World) (hr0:Kd.C k40 w A0 l0.length l0) (hc0:l0.length≤c0) (h:spec_l04Sides.f k l0=some r) :
 Calls Try.prog 62 #[.slice A0 l0.length c0] w fun e w'=>∃ v0_:Value,e=.returned (v0_)∧Kd.S (Kd.slice 3 (Kd.int .i64)) 45 w' w.heap.size (fun _=>True) v0_ r∧Below w.heap.size w w':=by
 have hu40:=Try.underlying40
 have HR0:=Aside0.mk hr0
 have HC0:=Aside0.mk hc0
 clear hr0 hc0
 have HB:=Aside0.mk (Below.refl w.heap.size w)
 have H:(spec_l04Sides.l0 k l0 (([]:List (List Int))) l0 (l0.length:Int) 0)=some r:=h
 clear h
 obtain ⟨y173,hy173⟩ : ∃ y_:List (List Int),y_=(([]:List (List Int))):=⟨_,rfl⟩
 replace H:(spec_l04Sides.l0 k l0 y173 l0 (l0.length:Int) 0)=some r:=by (try rw [hy173]);first|with_reducible exact H|with_reducible exact (Option.bind_some _ _).symm.trans H|exact H
 have Ny173:=Aside0.mk hy173
 clear hy173
 have H':=Aside0.mk H
 clear H
 go_enter Try.func62,Try.ntmps62
 go_wp2_with (first|((with_reducible refine gate_dst (N:=7) rfl ?_);refine Kd.S_lit (Kd.slice 3 (Kd.int .i64)) _ 45 ?hg (N:=7) ?hd (xs:=([]:List (List Int))) (inner:=[]) (ok:=fun _=>True) (okp:=fun _=>True) ?hr ?hp (fun _ hk=>hk) trivial (Below.refl _ _) (Nat.le_refl _) (by simp) ?_;(case hd=>rfl);(case hg=>rfl);(case hr=>first|(go_simp;done)|(go_simp;rfl));(case hp=>exact (Reps.none _ _));intro v174 w2 ho3 hb hg_ hnew_;clear hg_ hnew_;(first|rw [← Ny173.out] at ho3|(simp only [Int.reduceToNat] at ho3;rw [← Ny173.out] at ho3));have n0_:=Aside0.mk (Kd.S_lower ho3 (below_size (by repeat (with_reducible first|exact HB.out|apply bA|apply bN|apply bD))));have n1_:=Aside0.mk (below_step (by repeat (with_reducible first|exact HB.out|apply bA|apply bN|apply bD)) hb);clear HB;have HO175:=n0_;have HB:=n1_;clear n0_ n1_;clear hb ho3))
 go_loopg [3,10] k (fun kq v3 v10 w'=>∃ (x3_1:List (List Int)) (x10_1:Int),v10=.int .i64 x10_1∧Aside0 (spec_l04Sides.l0 kq l0 x3_1 l0 (l0.length:Int) x10_1=some r)∧Aside0 (kq≤k)∧Aside0 (Kd.S (Kd.slice 3 (Kd.int .i64)) 45 w' w.heap.size (fun _=>True) v3 x3_1)∧Aside0 (Below w.heap.size w w'))
 case atStart=>exact ⟨(y173),(0),(by first|rfl|(simp;done)|(simp [*];done)),H',⟨Nat.le_refl _⟩,⟨by (with_reducible repeat (first|apply Kd.S_alloc|apply Kd.S_drewN|apply Kd.S_drew));exact HO175.out⟩,⟨by repeat (with_reducible first|exact HB.out|apply bA|apply bN|apply bD)⟩⟩
 case round =>
  clear H'
  obtain ⟨x3_1,x10_1,rfl,HA,HK1,HO_3,HB⟩:=hrel
  rcases gk with _|k1
  ·exact absurd HA.out (by simp [spec_l04Sides.l0])
  have H:=HA.out
  clear HA
  simp only [spec_l04Sides.l0] at H
  by_cases c4:x10_1 < (l0.length:Int)
  ·rw [if_pos c4] at H
   have c4b0:decide (x10_1 < (l0.length:Int))=true:=decide_eq_true c4
   clear c4
   by_cases c5:0≤x10_1
   rotate_left;·rw [if_neg c5] at H;exact absurd H (by simp)
   rw [if_pos c5] at H
   have c5b0:decide (0≤x10_1)=true:=decide_eq_true c5
   clear c5
   by_cases c6:x10_1 < (l0.length:Int)
   rotate_left;·rw [if_neg c6] at H;exact absurd H (by simp)
   rw [if_pos c6] at H
   have c6b0:decide (x10_1 < (l0.length:Int))=true:=decide_eq_true c6
   clear c6
   by_cases c7:(l0.length:Int)=0
   ·rw [if_pos c7] at H
    exact absurd H (by simp)
   ·rw [if_neg c7] at H
    have c7b0:((l0.length:Int) == 0)=false:=beq_eq_false_iff_ne.mpr c7
    have c7b1:((l0.length:Int) != 0)=true:=bne_iff_ne.mpr c7
    have c7b2:¬ (l0 = []):=fun h_=>c7 (by rw [h_];rfl)
    obtain ⟨ji8,hji8⟩ : ∃ j_:Int,(Int.tmod (wrap64 (x10_1+1)) (l0.length:Int))=j_:=⟨_,rfl⟩
    replace H:(if 0≤(ji8) then (if (ji8) < (l0.length:Int) then (if x3_1.length < 5864062014805 then (spec_l04Sides.l0 k1 l0 (x3_1++[(([wrap64 (((rd_T40 l0 (ji8)).f0) - ((rd_T40 l0 x10_1).f0)),wrap64 (((rd_T40 l0 (ji8)).f1) - ((rd_T40 l0 x10_1).f1))]:List Int))]) l0 (l0.length:Int) (wrap64 (x10_1+1))) else (none)) else (none)) else (none))=some r:=by first|(rw [hji8] at H;exact H)|(simp only [hji8] at H ⊢;exact H)
    by_cases c9:0≤(ji8)
    rotate_left;·rw [if_neg c9] at H;exact absurd H (by simp)
    rw [if_pos c9] at H
    have c9b0:decide (0≤(ji8))=true:=decide_eq_true c9
    clear c9
    by_cases c10:(ji8) < (l0.length:Int)
    rotate_left;·rw [if_neg c10] at H;exact absurd H (by simp)
    rw [if_pos c10] at H
    have c10b0:decide ((ji8) < (l0.length:Int))=true:=decide_eq_true c10
    clear c10
    obtain ⟨y180,hy180⟩ : ∃ y_:List Int,y_=(([wrap64 (((rd_T40 l0 (ji8)).f0) - ((rd_T40 l0 x10_1).f0)),wrap64 (((rd_T40 l0 (ji8)).f1) - ((rd_T40 l0 x10_1).f1))]:List Int)):=⟨_,rfl⟩
    replace H:(if x3_1.length < 5864062014805 then (spec_l04Sides.l0 k1 l0 (x3_1++[y180]) l0 (l0.length:Int) (wrap64 (x10_1+1))) else (none))=some r:=by (try rw [hy180]);first|with_reducible exact H|with_reducible exact (Option.bind_some _ _).symm.trans H|exact H
    have Ny180:=Aside0.mk hy180
    clear hy180
    by_cases c11:x3_1.length < 5864062014805
    rotate_left;·rw [if_neg c11] at H;exact absurd H (by simp)
    rw [if_pos c11] at H
    have LMc11:=Aside0.mk c11
    clear c11
    obtain ⟨y183,hy183⟩ : ∃ y_:List (List Int),y_=(x3_1++[y180]):=⟨_,rfl⟩
    replace H:(spec_l04Sides.l0 k1 l0 y183 l0 (l0.length:Int) (wrap64 (x10_1+1)))=some r:=by (try rw [hy183]);first|with_reducible exact H|with_reducible exact (Option.bind_some _ _).symm.trans H|exact H
    have Ny183:=Aside0.mk hy183
    clear hy183
    have H':=Aside0.mk H
    clear H
    have p176:0≤(x10_1:Int):=of_decide_eq_true (by assumption)
    have q176:x10_1 < (l0.length:Int):=of_decide_eq_true (by assumption)
    obtain ⟨ad176,e176,hx176_0,hx176_1⟩:=at_T40 HR0.out x10_1 p176 q176
    cases e176
    replace hx176_0:=cK HB.out hx176_0
    replace hx176_1:=cK HB.out hx176_1
    replace p176:=eq_true p176
    replace q176:=eq_true q176
    go_wp2_with (first|((with_reducible refine gate_dst (N:=5) rfl ?_);refine bE 5 #[.int .i64 0,.int .i64 0] 40 ?_;intro gb177 hg w12 hbox hb;have n0_:=Aside0.mk (Kd.S_below (by (with_reducible repeat (first|apply Kd.S_alloc|apply Kd.S_drewN|apply Kd.S_drew));exact HO_3.out) hb);have n1_:=Aside0.mk (below_step (by repeat (with_reducible first|exact HB.out|apply bA|apply bN|apply bD)) hb);have n2_:=Aside0.mk (hbox);have n3_:=Aside0.mk ((by rw [hg];exact (below_size (by repeat (with_reducible first|exact HB.out|apply bA|apply bN|apply bD))):w.heap.size≤gb177));have n4_:=Aside0.mk ((by rw [hg];exact (below_size (by repeat (with_reducible first|exact HB.out|apply bA|apply bN|apply bD))):w.heap.size≤gb177));clear HO_3;clear HB;have HO_3:=n0_;have HB:=n1_;have BK177:=n2_;have GW177:=n3_;have GE177:=n4_;clear n0_ n1_ n2_ n3_ n4_;clear hb hbox hg;have hcz13_0:w12.cell? ⟨gb177,0,none⟩=some (.int .i64 0):=(blk_cell BK177.out 0).trans rfl;have hcz13_1:w12.cell? ⟨gb177,1,none⟩=some (.int .i64 0):=(blk_cell BK177.out 1).trans rfl;have hfz13_0:=blk_frozen BK177.out 0;have hfz13_1:=blk_frozen BK177.out 1;have p178:0≤((ji8):Int):=of_decide_eq_true (by assumption);have q178:(ji8) < (l0.length:Int):=of_decide_eq_true (by assumption);obtain ⟨ad178,e178,hx178_0,hx178_1⟩:=at_T40 HR0.out (ji8) p178 q178;obtain rfl:ad176=ad178:=(by injection e178);have hn178_0:ad176.block≠gb177:=Nat.ne_of_lt (Nat.lt_of_lt_of_le (by have:=World.block_lt_of_cell? _ _ hx178_0;first|rwa [add_block] at this|exact this) GW177.out);have hn178_1:ad176.block≠gb177:=Nat.ne_of_lt (Nat.lt_of_lt_of_le (by have:=World.block_lt_of_cell? _ _ hx178_0;first|rwa [add_block] at this|exact this) GW177.out);replace hx178_0:=cK HB.out hx178_0;replace hx178_1:=cK HB.out hx178_1;replace hx178_0:=(cell_far (p:=⟨gb177,0,none⟩) (by first|(rw [add_block];exact hn178_0)|(show (Addr.add _ _).block≠_;rw [add_block];exact hn178_0)|exact hn178_0) (.int .i64 ((rd_T40 l0 x10_1).f0))).trans hx178_0;replace hx178_1:=(cell_far (p:=⟨gb177,0,none⟩) (by first|(rw [add_block];exact hn178_0)|(show (Addr.add _ _).block≠_;rw [add_block];exact hn178_0)|exact hn178_0) (.int .i64 ((rd_T40 l0 x10_1).f0))).trans hx178_1;replace hx178_0:=(cell_far (p:=⟨gb177,1,none⟩) (by first|(rw [add_block];exact hn178_1)|(show (Addr.add _ _).block≠_;rw [add_block];exact hn178_1)|exact hn178_1) (.int .i64 ((rd_T40 l0 x10_1).f1))).trans hx178_0;replace hx178_1:=(cell_far (p:=⟨gb177,1,none⟩) (by first|(rw [add_block];exact hn178_1)|(show (Addr.add _ _).block≠_;rw [add_block];exact hn178_1)|exact hn178_1) (.int .i64 ((rd_T40 l0 x10_1).f1))).trans hx178_1;clear hn178_0;clear hn178_1;replace p178:=eq_true p178;replace q178:=eq_true q178)|((with_reducible refine gate_dst (N:=6) rfl ?_);refine bE 6 #[.int .i64 0,.int .i64 0] 40 ?_;intro gb179 hg w14 hbox hb;have n0_:=Aside0.mk (Kd.S_below (by (with_reducible repeat (first|apply Kd.S_alloc|apply Kd.S_drewN|apply Kd.S_drew));exact (Kd.S_mono (Kd.S_far (p:=⟨gb177,1,none⟩) (Kd.S_far (p:=⟨gb177,0,none⟩) (Kd.S_types HO_3.out BK177.out (by decide)) (fun _ hk=>hk.2) (.int .i64 ((rd_T40 l0 x10_1).f0))) (fun _ hk=>hk.2) (.int .i64 ((rd_T40 l0 x10_1).f1))) (fun _ h_=>h_.1))) hb);have n1_:=Aside0.mk (blk_below (g:=gb177) (o:=.cells #[.int .i64 ((rd_T40 l0 x10_1).f0),.int .i64 ((rd_T40 l0 x10_1).f1)] 40 (0,0)) (by (with_reducible repeat (first|refine kN ?_ _|refine kD ?_|refine kA ?_ _));refine blk_put (cs:=#[.int .i64 ((rd_T40 l0 x10_1).f0),.int .i64 0]) ?_ 1 _ rfl;(with_reducible repeat (first|refine kN ?_ _|refine kD ?_|refine kA ?_ _));refine blk_put (cs:=#[.int .i64 0,.int .i64 0]) ?_ 0 _ rfl;(with_reducible repeat (first|refine kN ?_ _|refine kD ?_|refine kA ?_ _));exact BK177.out) hb);have n2_:=Aside0.mk (below_step (by repeat (first|(with_reducible first|exact HB.out|apply bA|apply bN|apply bD|refine bS ?_ GE177.out)|exact HB.out)) hb);have n3_:=Aside0.mk (hbox);have n4_:=Aside0.mk ((by rw [hg];exact (below_size (by repeat (first|(with_reducible first|exact HB.out|apply bA|apply bN|apply bD|refine bS ?_ GE177.out)|exact HB.out))):w.heap.size≤gb179));have n5_:=Aside0.mk ((by rw [hg];exact (below_size (by repeat (first|(with_reducible first|exact HB.out|apply bA|apply bN|apply bD|refine bS ?_ GE177.out)|exact HB.out))):w.heap.size≤gb179));have n6_:=Aside0.mk ((by rw [hg];exact Nat.ne_of_lt (blk_lt (g:=gb177) (o:=.cells #[.int .i64 ((rd_T40 l0 x10_1).f0),.int .i64 ((rd_T40 l0 x10_1).f1)] 40 (0,0)) (by (with_reducible repeat (first|refine kN ?_ _|refine kD ?_|refine kA ?_ _));refine blk_put (cs:=#[.int .i64 ((rd_T40 l0 x10_1).f0),.int .i64 0]) ?_ 1 _ rfl;(with_reducible repeat (first|refine kN ?_ _|refine kD ?_|refine kA ?_ _));refine blk_put (cs:=#[.int .i64 0,.int .i64 0]) ?_ 0 _ rfl;(with_reducible repeat (first|refine kN ?_ _|refine kD ?_|refine kA ?_ _));exact BK177.out)):gb177≠gb179));have n7_:=Aside0.mk ((by rw [hg];exact Nat.ne_of_gt (blk_lt (g:=gb177) (o:=.cells #[.int .i64 ((rd_T40 l0 x10_1).f0),.int .i64 ((rd_T40 l0 x10_1).f1)] 40 (0,0)) (by (with_reducible repeat (first|refine kN ?_ _|refine kD ?_|refine kA ?_ _));refine blk_put (cs:=#[.int .i64 ((rd_T40 l0 x10_1).f0),.int .i64 0]) ?_ 1 _ rfl;(with_reducible repeat (first|refine kN ?_ _|refine kD ?_|refine kA ?_ _));refine blk_put (cs:=#[.int .i64 0,.int .i64 0]) ?_ 0 _ rfl;(with_reducible repeat (first|refine kN ?_ _|refine kD ?_|refine kA ?_ _));exact BK177.out)):gb179≠gb177));clear HO_3;clear BK177;clear HB;have HO_3:=n0_;have BK177:=n1_;have HB:=n2_;have BK179:=n3_;have GW179:=n4_;have GE179:=n5_;have NB177_179:=n6_;have NB179_177:=n7_;clear n0_ n1_ n2_ n3_ n4_ n5_ n6_ n7_;clear hb hbox hg;have hnb15:=NB179_177.out;have hnc15:=NB177_179.out;have hcz16_0:w14.cell? ⟨gb179,0,none⟩=some (.int .i64 0):=(blk_cell BK179.out 0).trans rfl;have hcz16_1:w14.cell? ⟨gb179,1,none⟩=some (.int .i64 0):=(blk_cell BK179.out 1).trans rfl;have hfz16_0:=blk_frozen BK179.out 0;have hfz16_1:=blk_frozen BK179.out 1;have hcz17_0:w14.cell? ⟨gb177,0,none⟩=some (.int .i64 ((rd_T40 l0 x10_1).f0)):=(blk_cell BK177.out 0).trans rfl;have hcz17_1:w14.cell? ⟨gb177,1,none⟩=some (.int .i64 ((rd_T40 l0 x10_1).f1)):=(blk_cell BK177.out 1).trans rfl;have hfz17_0:=blk_frozen BK177.out 0;have hfz17_1:=blk_frozen BK177.out 1)|((with_reducible refine gate_dst (N:=34) rfl ?_);refine Kd.R_lit (Kd.int .i64) _ 3 ?hg (N:=34) ?hd (xs:=([wrap64 (((rd_T40 l0 (ji8)).f0) - ((rd_T40 l0 x10_1).f0)),wrap64 (((rd_T40 l0 (ji8)).f1) - ((rd_T40 l0 x10_1).f1))]:List Int)) (inner:=[.int .i64 (wrap64 (((rd_T40 l0 (ji8)).f0) - ((rd_T40 l0 x10_1).f0))),.int .i64 (wrap64 (((rd_T40 l0 (ji8)).f1) - ((rd_T40 l0 x10_1).f1)))]) (ok:=fun _=>True) (okp:=fun _=>True) ?hr ?hp (fun _ hk=>hk) trivial (Below.refl _ _) (Nat.le_refl _) (by simp) ?_;(case hd=>rfl);(case hg=>rfl);(case hr=>first|(go_simp;done)|(go_simp;rfl));(case hp=>exact (Reps.one (show Kd.M (Kd.int .i64) _ _ _ (wrap64 (((rd_T40 l0 (ji8)).f0) - ((rd_T40 l0 x10_1).f0))) [.int .i64 (wrap64 (((rd_T40 l0 (ji8)).f0) - ((rd_T40 l0 x10_1).f0)))] from rfl) (Reps.one (show Kd.M (Kd.int .i64) _ _ _ (wrap64 (((rd_T40 l0 (ji8)).f1) - ((rd_T40 l0 x10_1).f1))) [.int .i64 (wrap64 (((rd_T40 l0 (ji8)).f1) - ((rd_T40 l0 x10_1).f1)))] from rfl) (Reps.none _ _))));intro v181 w18 ho19 hb hg_ hnew_;clear hg_ hnew_;(first|rw [← Ny180.out] at ho19|(simp only [Int.reduceToNat] at ho19;rw [← Ny180.out] at ho19));have n0_:=Aside0.mk (Kd.S_elder' (by (with_reducible repeat (first|apply Kd.S_alloc|apply Kd.S_drewN|apply Kd.S_drew));exact (Kd.S_mono (Kd.S_far (p:=⟨gb179,1,none⟩) (Kd.S_far (p:=⟨gb179,0,none⟩) (Kd.S_types HO_3.out BK179.out (by decide)) (fun _ hk=>hk.2) (.int .i64 ((rd_T40 l0 (ji8)).f0))) (fun _ hk=>hk.2) (.int .i64 ((rd_T40 l0 (ji8)).f1))) (fun _ h_=>h_.1))) (Kd.R_base ho19) hb);have n1_:=Aside0.mk (Kd.R_lower ho19 (below_size (by repeat (first|(with_reducible first|exact HB.out|apply bA|apply bN|apply bD|refine bS ?_ GE177.out|refine bS ?_ GE179.out)|exact HB.out))));have n2_:=Aside0.mk (blk_below (g:=gb177) (o:=.cells #[.int .i64 ((rd_T40 l0 x10_1).f0),.int .i64 ((rd_T40 l0 x10_1).f1)] 40 (0,0)) (by (with_reducible repeat (first|refine kN ?_ _|refine kD ?_|refine kA ?_ _));refine blk_far ?_ NB177_179.out _;(with_reducible repeat (first|refine kN ?_ _|refine kD ?_|refine kA ?_ _));refine blk_far ?_ NB177_179.out _;(with_reducible repeat (first|refine kN ?_ _|refine kD ?_|refine kA ?_ _));exact BK177.out) hb);have n3_:=Aside0.mk (blk_below (g:=gb179) (o:=.cells #[.int .i64 ((rd_T40 l0 (ji8)).f0),.int .i64 ((rd_T40 l0 (ji8)).f1)] 40 (0,0)) (by (with_reducible repeat (first|refine kN ?_ _|refine kD ?_|refine kA ?_ _));refine blk_put (cs:=#[.int .i64 ((rd_T40 l0 (ji8)).f0),.int .i64 0]) ?_ 1 _ rfl;(with_reducible repeat (first|refine kN ?_ _|refine kD ?_|refine kA ?_ _));refine blk_put (cs:=#[.int .i64 0,.int .i64 0]) ?_ 0 _ rfl;(with_reducible repeat (first|refine kN ?_ _|refine kD ?_|refine kA ?_ _));exact BK179.out) hb);have n4_:=Aside0.mk (below_step (by repeat (first|(with_reducible first|exact HB.out|apply bA|apply bN|apply bD|refine bS ?_ GE177.out|refine bS ?_ GE179.out)|exact HB.out)) hb);clear HO_3;clear BK177;clear BK179;clear HB;have HO_3:=n0_;have HO182:=n1_;have BK177:=n2_;have BK179:=n3_;have HB:=n4_;clear n0_ n1_ n2_ n3_ n4_;clear hb ho19;obtain ⟨Ao21,co21,eo21⟩:=Kd.R_slice HO182.out;subst eo21)|((with_reducible refine gate_builtin (b:=.append) (xs:=#[.tmp 23,.tmp 35]) rfl ?_);at_builtin;refine Kd.S_append (Kd.slice 3 (Kd.int .i64)) (w0:=w) w.heap.size rfl (.tmp 23) (.tmp 35) 33 45 (.slice none 0 0) 24 rfl Try.underlying33 info45 rfl (by decide) (by omega) u3 x3_1 y180 [.slice Ao21 y180.length co21] (fun _=>True) (fun k_=>some k_=(.slice Ao21 y180.length co21:Value).ownBlock) rfl rfl ?aP (fun k_ hk_=>((Kd.R_mono (ok':=fun k_=>((fun _=>True)) k_∧some k_≠(u3:Value).ownBlock) (Kd.R_apart' (HO182.out) (Kd.S_typed HO_3.out) (by decide)) (fun k_ hk=>⟨trivial,hk.2⟩))).1 k_ hk_.symm) ?aF ?aO ?aB ?aS ?aL ?_;(case aP=>exact Kd.M_row (Kd.R_mono (Kd.R_tight rfl (Kd.R_mono (ok':=fun k_=>((fun _=>True)) k_∧some k_≠(u3:Value).ownBlock) (Kd.R_apart' (HO182.out) (Kd.S_typed HO_3.out) (by decide)) (fun k_ hk=>⟨trivial,hk.2⟩))) (fun _ h_=>h_)));(case aB=>exact (by repeat (first|(with_reducible first|exact HB.out|apply bA|apply bN|apply bD|refine bS ?_ GE177.out|refine bS ?_ GE179.out)|exact HB.out)));(case aF=>exact (fun _ _=>trivial));(case aO=>exact (by (with_reducible repeat (first|apply Kd.S_alloc|apply Kd.S_drewN|apply Kd.S_drew));exact Kd.S_mono HO_3.out (fun k_ hk=>⟨trivial,fun e_=>hk.2 e_⟩)));(case aS=>exact (below_size (by repeat (first|(with_reducible first|exact HB.out|apply bA|apply bN|apply bD|refine bS ?_ GE177.out|refine bS ?_ GE179.out)|exact HB.out))));(case aL=>have:=LMc11.out;omega);intro v184 w20 ho hb hg hat;rw [← Ny183.out] at ho;have n0_:=Aside0.mk (blk_grown (by repeat (with_reducible first|exact BK177.out|apply kN|apply kD|apply kA)) hg (Kd.S_ne HO_3.out BK177.out (by decide)));have n1_:=Aside0.mk (blk_grown (by repeat (with_reducible first|exact BK179.out|apply kN|apply kD|apply kA)) hg (Kd.S_ne HO_3.out BK179.out (by decide)));have n2_:=Aside0.mk (hb);have n3_:=Aside0.mk (ho);clear BK177;clear BK179;clear HB;clear HO_3;clear HO182;have BK177:=n0_;have BK179:=n1_;have HB:=n2_;have HO185:=n3_;clear n0_ n1_ n2_ n3_;clear ho hb hg hat))
    go_roundg k1
    case measure=>have:=HK1.out;omega
    case rel=>exact ⟨(y183),(wrap64 (x10_1+1)),(by first|rfl|(simp;done)|(simp [*];done)),H',⟨by have:=HK1.out;omega⟩,⟨by (with_reducible repeat (first|apply Kd.S_alloc|apply Kd.S_drewN|apply Kd.S_drew));exact HO185.out⟩,⟨by repeat (first|(with_reducible first|exact HB.out|apply bA|apply bN|apply bD|refine bS ?_ GE177.out|refine bS ?_ GE179.out)|exact HB.out)⟩⟩
  ·rw [if_neg c4] at H
   have c4b0:decide (x10_1 < (l0.length:Int))=false:=decide_eq_false c4
   clear c4
   obtain rfl:=Option.some.inj H
   go_wp2
   go_ret
   exact ⟨_,by first|rfl|(simp [errW_none,errW_some] <;> rfl)|(simp [*,errW_none,errW_some] <;> rfl),by (with_reducible repeat (first|apply Kd.S_alloc|apply Kd.S_drewN|apply Kd.S_drew));exact HO_3.out,by repeat (with_reducible first|exact HB.out|apply bA|apply bN|apply bD)⟩
def spec_l03Twice.l0:Nat→List (S40)→Int→List (S40)→Int→Int→Option (Int)
 | 0,_,_,_,_,_=>none
 | k+1,x0,x3,x7,x8,x9=>if x9 < x8 then (if 0≤x9 then (if x9 < (x7.length:Int) then (if (x0.length:Int)=0 then (none) else (if 0≤(Int.tmod (wrap64 (x9+1)) (x0.length:Int)) then (if (Int.tmod (wrap64 (x9+1)) (x0.length:Int)) < (x0.length:Int) then (spec_l03Twice.l0 k x0 (wrap64 ((wrap64 (x3+(wrap64 (((rd_T40 x7 x9).f0) * ((rd_T40 x0 (Int.tmod (wrap64 (x9+1)) (x0.length:Int))).f1))))) - (wrap64 (((rd_T40 x7 x9).f1) * ((rd_T40 x0 (Int.tmod (wrap64 (x9+1)) (x0.length:Int))).f0))))) x7 x8 (wrap64 (x9+1))) else (none)) else (none))) else (none)) else (none)) else (some x3)
def spec_l03Twice.f (k:Nat) (l0:List (S40)):Option (Int):=spec_l03Twice.l0 k l0 0 l0 (l0.length:Int) 0
theorem spec_l03Twice.mono_l:∀ k,(∀ y0 y1 y2 y3 y4,LeO (spec_l03Twice.l0 k y0 y1 y2 y3 y4) (spec_l03Twice.l0 (k+1) y0 y1 y2 y3 y4))
 | 0=>fun _ _ _ _ _ r h=>by simp [spec_l03Twice.l0] at h
 | k+1=>by
  have ih0:=spec_l03Twice.mono_l k
  ·intro y0 y1 y2 y3 y4
   unfold spec_l03Twice.l0
   repeat' first
   | (with_reducible exact LeO.refl _)
   | exact ih0 _ _ _ _ _
   | exact LeO.none _
   | refine LeO.ite ?_ ?_
   | refine LeO.bind ?_ (fun _=>?_)
theorem spec_l03Twice.mono:∀ a0 k,LeO (spec_l03Twice.f k a0) (spec_l03Twice.f (k+1) a0):=by
 intro a0 k
 have ih0:=spec_l03Twice.mono_l k
 unfold spec_l03Twice.f
 repeat' first
  | (with_reducible exact LeO.refl _)
  | exact ih0 _ _ _ _ _
  | exact LeO.none _
  | refine LeO.ite ?_ ?_
  | refine LeO.bind ?_ (fun _=>?_)
theorem spec_l03Twice.calls (k:Nat) (A0:Option Addr) (c0:Nat) (l0:List (S40)) (r:Int) (w:World) (hr0:Kd.C k40 w A0 l0.length l0) (hc0:l0.length≤c0) (h:spec_l03Twice.f k l0=some r) :
 Calls Try.prog 44 #[.slice A0 l0.length c0] w fun e w'=>e=.returned (.int .i64 r)∧Below w.heap.size w w':=by
 have hu40:=Try.underlying40
 have HR0:=Aside0.mk hr0
 have HC0:=Aside0.mk hc0
 clear hr0 hc0
 have HB:=Aside0.mk (Below.refl w.heap.size w)
 have H:(spec_l03Twice.l0 k l0 0 l0 (l0.length:Int) 0)=some r:=h
 clear h
 have H':=Aside0.mk H
 clear H
 go_enter Try.func44,Try.ntmps44
 go_wp2
 go_loopg [3,9] k (fun kq v3 v9 w'=>∃ (x3_1:Int) (x9_1:Int),v3=.int .i64 x3_1∧v9=.int .i64 x9_1∧Aside0 (spec_l03Twice.l0 kq l0 x3_1 l0 (l0.length:Int) x9_1=some r)∧Aside0 (kq≤k)∧Aside0 (Below w.heap.size w w'))
 case atStart=>exact ⟨(0),(0),(by first|rfl|(simp;done)|(simp [*];done)),(by first|rfl|(simp;done)|(simp [*];done)),H',⟨Nat.le_refl _⟩,⟨by repeat (with_reducible first|exact HB.out|apply bA|apply bN|apply bD)⟩⟩
 case round =>
  clear H'
  obtain ⟨x3_1,x9_1,rfl,rfl,HA,HK1,HB⟩:=hrel
  rcases gk with _|k1
  ·exact absurd HA.out (by simp [spec_l03Twice.l0])
  have H:=HA.out
  clear HA
  simp only [spec_l03Twice.l0] at H
  by_cases c2:x9_1 < (l0.length:Int)
  ·rw [if_pos c2] at H
   have c2b0:decide (x9_1 < (l0.length:Int))=true:=decide_eq_true c2
   clear c2
   by_cases c3:0≤x9_1
   rotate_left;·rw [if_neg c3] at H;exact absurd H (by simp)
   rw [if_pos c3] at H
   have c3b0:decide (0≤x9_1)=true:=decide_eq_true c3
   clear c3
   by_cases c4:x9_1 < (l0.length:Int)
   rotate_left;·rw [if_neg c4] at H;exact absurd H (by simp)
   rw [if_pos c4] at H
   have c4b0:decide (x9_1 < (l0.length:Int))=true:=decide_eq_true c4
   clear c4
   by_cases c5:(l0.length:Int)=0
   ·rw [if_pos c5] at H
    exact absurd H (by simp)
   ·rw [if_neg c5] at H
    have c5b0:((l0.length:Int) == 0)=false:=beq_eq_false_iff_ne.mpr c5
    have c5b1:((l0.length:Int) != 0)=true:=bne_iff_ne.mpr c5
    have c5b2:¬ (l0 = []):=fun h_=>c5 (by rw [h_];rfl)
    obtain ⟨ji6,hji6⟩ : ∃ j_:Int,(Int.tmod (wrap64 (x9_1+1)) (l0.length:Int))=j_:=⟨_,rfl⟩
    replace H:(if 0≤(ji6) then (if (ji6) < (l0.length:Int) then (spec_l03Twice.l0 k1 l0 (wrap64 ((wrap64 (x3_1+(wrap64 (((rd_T40 l0 x9_1).f0) * ((rd_T40 l0 (ji6)).f1))))) - (wrap64 (((rd_T40 l0 x9_1).f1) * ((rd_T40 l0 (ji6)).f0))))) l0 (l0.length:Int) (wrap64 (x9_1+1))) else (none)) else (none))=some r:=by first|(rw [hji6] at H;exact H)|(simp only [hji6] at H ⊢;exact H)
    by_cases c7:0≤(ji6)
    rotate_left;·rw [if_neg c7] at H;exact absurd H (by simp)
    rw [if_pos c7] at H
    have c7b0:decide (0≤(ji6))=true:=decide_eq_true c7
    clear c7
    by_cases c8:(ji6) < (l0.length:Int)
    rotate_left;·rw [if_neg c8] at H;exact absurd H (by simp)
    rw [if_pos c8] at H
    have c8b0:decide ((ji6) < (l0.length:Int))=true:=decide_eq_true c8
    clear c8
    have H':=Aside0.mk H
    clear H
    have p186:0≤(x9_1:Int):=of_decide_eq_true (by assumption)
    have q186:x9_1 < (l0.length:Int):=of_decide_eq_true (by assumption)
    obtain ⟨ad186,e186,hx186_0,hx186_1⟩:=at_T40 HR0.out x9_1 p186 q186
    cases e186
    replace hx186_0:=cK HB.out hx186_0
    replace hx186_1:=cK HB.out hx186_1
    replace p186:=eq_true p186
    replace q186:=eq_true q186
    go_wp2_with (first|((with_reducible refine gate_dst (N:=5) rfl ?_);refine bE 5 #[.int .i64 0,.int .i64 0] 40 ?_;intro gb187 hg w9 hbox hb;have n0_:=Aside0.mk (below_step (by repeat (with_reducible first|exact HB.out|apply bA|apply bN|apply bD)) hb);have n1_:=Aside0.mk (hbox);have n2_:=Aside0.mk ((by rw [hg];exact (below_size (by repeat (with_reducible first|exact HB.out|apply bA|apply bN|apply bD))):w.heap.size≤gb187));have n3_:=Aside0.mk ((by rw [hg];exact (below_size (by repeat (with_reducible first|exact HB.out|apply bA|apply bN|apply bD))):w.heap.size≤gb187));clear HB;have HB:=n0_;have BK187:=n1_;have GW187:=n2_;have GE187:=n3_;clear n0_ n1_ n2_ n3_;clear hb hbox hg;have hcz10_0:w9.cell? ⟨gb187,0,none⟩=some (.int .i64 0):=(blk_cell BK187.out 0).trans rfl;have hcz10_1:w9.cell? ⟨gb187,1,none⟩=some (.int .i64 0):=(blk_cell BK187.out 1).trans rfl;have hfz10_0:=blk_frozen BK187.out 0;have hfz10_1:=blk_frozen BK187.out 1;have p188:0≤((ji6):Int):=of_decide_eq_true (by assumption);have q188:(ji6) < (l0.length:Int):=of_decide_eq_true (by assumption);obtain ⟨ad188,e188,hx188_0,hx188_1⟩:=at_T40 HR0.out (ji6) p188 q188;obtain rfl:ad186=ad188:=(by injection e188);have hn188_0:ad186.block≠gb187:=Nat.ne_of_lt (Nat.lt_of_lt_of_le (by have:=World.block_lt_of_cell? _ _ hx188_0;first|rwa [add_block] at this|exact this) GW187.out);have hn188_1:ad186.block≠gb187:=Nat.ne_of_lt (Nat.lt_of_lt_of_le (by have:=World.block_lt_of_cell? _ _ hx188_0;first|rwa [add_block] at this|exact this) GW187.out);replace hx188_0:=cK HB.out hx188_0;replace hx188_1:=cK HB.out hx188_1;replace hx188_0:=(cell_far (p:=⟨gb187,0,none⟩) (by first|(rw [add_block];exact hn188_0)|(show (Addr.add _ _).block≠_;rw [add_block];exact hn188_0)|exact hn188_0) (.int .i64 ((rd_T40 l0 x9_1).f0))).trans hx188_0;replace hx188_1:=(cell_far (p:=⟨gb187,0,none⟩) (by first|(rw [add_block];exact hn188_0)|(show (Addr.add _ _).block≠_;rw [add_block];exact hn188_0)|exact hn188_0) (.int .i64 ((rd_T40 l0 x9_1).f0))).trans hx188_1;replace hx188_0:=(cell_far (p:=⟨gb187,1,none⟩) (by first|(rw [add_block];exact hn188_1)|(show (Addr.add _ _).block≠_;rw [add_block];exact hn188_1)|exact hn188_1) (.int .i64 ((rd_T40 l0 x9_1).f1))).trans hx188_0;replace hx188_1:=(cell_far (p:=⟨gb187,1,none⟩) (by first|(rw [add_block];exact hn188_1)|(show (Addr.add _ _).block≠_;rw [add_block];exact hn188_1)|exact hn188_1) (.int .i64 ((rd_T40 l0 x9_1).f1))).trans hx188_1;clear hn188_0;clear hn188_1;replace p188:=eq_true p188;replace q188:=eq_true q188)|((with_reducible refine gate_dst (N:=6) rfl ?_);refine bE 6 #[.int .i64 0,.int .i64 0] 40 ?_;intro gb189 hg w11 hbox hb;have n0_:=Aside0.mk (blk_below (g:=gb187) (o:=.cells #[.int .i64 ((rd_T40 l0 x9_1).f0),.int .i64 ((rd_T40 l0 x9_1).f1)] 40 (0,0)) (by (with_reducible repeat (first|refine kN ?_ _|refine kD ?_|refine kA ?_ _));refine blk_put (cs:=#[.int .i64 ((rd_T40 l0 x9_1).f0),.int .i64 0]) ?_ 1 _ rfl;(with_reducible repeat (first|refine kN ?_ _|refine kD ?_|refine kA ?_ _));refine blk_put (cs:=#[.int .i64 0,.int .i64 0]) ?_ 0 _ rfl;(with_reducible repeat (first|refine kN ?_ _|refine kD ?_|refine kA ?_ _));exact BK187.out) hb);have n1_:=Aside0.mk (below_step (by repeat (first|(with_reducible first|exact HB.out|apply bA|apply bN|apply bD|refine bS ?_ GE187.out)|exact HB.out)) hb);have n2_:=Aside0.mk (hbox);have n3_:=Aside0.mk ((by rw [hg];exact (below_size (by repeat (first|(with_reducible first|exact HB.out|apply bA|apply bN|apply bD|refine bS ?_ GE187.out)|exact HB.out))):w.heap.size≤gb189));have n4_:=Aside0.mk ((by rw [hg];exact (below_size (by repeat (first|(with_reducible first|exact HB.out|apply bA|apply bN|apply bD|refine bS ?_ GE187.out)|exact HB.out))):w.heap.size≤gb189));have n5_:=Aside0.mk ((by rw [hg];exact Nat.ne_of_lt (blk_lt (g:=gb187) (o:=.cells #[.int .i64 ((rd_T40 l0 x9_1).f0),.int .i64 ((rd_T40 l0 x9_1).f1)] 40 (0,0)) (by (with_reducible repeat (first|refine kN ?_ _|refine kD ?_|refine kA ?_ _));refine blk_put (cs:=#[.int .i64 ((rd_T40 l0 x9_1).f0),.int .i64 0]) ?_ 1 _ rfl;(with_reducible repeat (first|refine kN ?_ _|refine kD ?_|refine kA ?_ _));refine blk_put (cs:=#[.int .i64 0,.int .i64 0]) ?_ 0 _ rfl;(with_reducible repeat (first|refine kN ?_ _|refine kD ?_|refine kA ?_ _));exact BK187.out)):gb187≠gb189));have n6_:=Aside0.mk ((by rw [hg];exact Nat.ne_of_gt (blk_lt (g:=gb187) (o:=.cells #[.int .i64 ((rd_T40 l0 x9_1).f0),.int .i64 ((rd_T40 l0 x9_1).f1)] 40 (0,0)) (by (with_reducible repeat (first|refine kN ?_ _|refine kD ?_|refine kA ?_ _));refine blk_put (cs:=#[.int .i64 ((rd_T40 l0 x9_1).f0),.int .i64 0]) ?_ 1 _ rfl;(with_reducible repeat (first|refine kN ?_ _|refine kD ?_|refine kA ?_ _));refine blk_put (cs:=#[.int .i64 0,.int .i64 0]) ?_ 0 _ rfl;(with_reducible repeat (first|refine kN ?_ _|refine kD ?_|refine kA ?_ _));exact BK187.out)):gb189≠gb187));clear BK187;clear HB;have BK187:=n0_;have HB:=n1_;have BK189:=n2_;have GW189:=n3_;have GE189:=n4_;have NB187_189:=n5_;have NB189_187:=n6_;clear n0_ n1_ n2_ n3_ n4_ n5_ n6_;clear hb hbox hg;have hnb12:=NB189_187.out;have hnc12:=NB187_189.out;have hcz13_0:w11.cell? ⟨gb189,0,none⟩=some (.int .i64 0):=(blk_cell BK189.out 0).trans rfl;have hcz13_1:w11.cell? ⟨gb189,1,none⟩=some (.int .i64 0):=(blk_cell BK189.out 1).trans rfl;have hfz13_0:=blk_frozen BK189.out 0;have hfz13_1:=blk_frozen BK189.out 1;have hcz14_0:w11.cell? ⟨gb187,0,none⟩=some (.int .i64 ((rd_T40 l0 x9_1).f0)):=(blk_cell BK187.out 0).trans rfl;have hcz14_1:w11.cell? ⟨gb187,1,none⟩=some (.int .i64 ((rd_T40 l0 x9_1).f1)):=(blk_cell BK187.out 1).trans rfl;have hfz14_0:=blk_frozen BK187.out 0;have hfz14_1:=blk_frozen BK187.out 1))
    go_roundg k1
    case measure=>have:=HK1.out;omega
    case rel=>exact ⟨(wrap64 ((wrap64 (x3_1+(wrap64 (((rd_T40 l0 x9_1).f0) * ((rd_T40 l0 (ji6)).f1))))) - (wrap64 (((rd_T40 l0 x9_1).f1) * ((rd_T40 l0 (ji6)).f0))))),(wrap64 (x9_1+1)),(by first|rfl|(simp;done)|(simp only [← hji6] <;> (first|rfl|simp))|(simp [*];done)),(by first|rfl|(simp;done)|(simp [*];done)),H',⟨by have:=HK1.out;omega⟩,⟨by repeat (first|(with_reducible first|exact HB.out|apply bA|apply bN|apply bD|refine bS ?_ GE187.out|refine bS ?_ GE189.out)|exact HB.out)⟩⟩
  ·rw [if_neg c2] at H
   have c2b0:decide (x9_1 < (l0.length:Int))=false:=decide_eq_false c2
   clear c2
   obtain rfl:=Option.some.inj H
   go_wp2
   go_ret
   exact ⟨by first|rfl|(simp [errW_none,errW_some] <;> rfl)|(simp [*,errW_none,errW_some] <;> rfl),by repeat (with_reducible first|exact HB.out|apply bA|apply bN|apply bD)⟩
def spec_l03Turn.l0:Nat→List (S40)→List (S40)→Int→Option ((List (S40)))
 | 0,_,_,_=>none
 | k+1,x0,x3,x4=>if x4 > 0 then (if 0≤x4 then (if x4 < (x0.length:Int) then (if x3.length < 8796093022208 then (spec_l03Turn.l0 k x0 (x3++[(⟨(rd_T40 x0 x4).f0,(rd_T40 x0 x4).f1⟩ : S40)]) (wrap64 (x4 - 1))) else (none)) else (none)) else (none)) else (some x3)
def spec_l03Turn.f (k:Nat) (l0:List (S40)):Option ((List (S40))):=if 0 < (l0.length:Int) then (spec_l03Turn.l0 k l0 (([(⟨(rd_T40 l0 0).f0,(rd_T40 l0 0).f1⟩ : S40)]:List (S40))) (wrap64 ((l0.length:Int) - 1))) else (none)
theorem spec_l03Turn.mono_l:∀ k,(∀ y0 y1 y2,LeO (spec_l03Turn.l0 k y0 y1 y2) (spec_l03Turn.l0 (k+1) y0 y1 y2))
 | 0=>fun _ _ _ r h=>by simp [spec_l03Turn.l0] at h
 | k+1=>by
  have ih0:=spec_l03Turn.mono_l k
  ·intro y0 y1 y2
   unfold spec_l03Turn.l0
   repeat' first
   | (with_reducible exact LeO.refl _)
   | exact ih0 _ _ _
   | exact LeO.none _
   | refine LeO.ite ?_ ?_
   | refine LeO.bind ?_ (fun _=>?_)
theorem spec_l03Turn.mono:∀ a0 k,LeO (spec_l03Turn.f k a0) (spec_l03Turn.f (k+1) a0):=by
 intro a0 k
 have ih0:=spec_l03Turn.mono_l k
 unfold spec_l03Turn.f
 repeat' first
  | (with_reducible exact LeO.refl _)
  | exact ih0 _ _ _
  | exact LeO.none _
  | refine LeO.ite ?_ ?_
  | refine LeO.bind ?_ (fun _=>?_)
theorem spec_l03Turn.calls (k:Nat) (A0:Option Addr) (c0:Nat) (l0:List (S40)) (r:List (S40)) (w:World) (hr0:Kd.C k40 w A0 l0.length l0) (hc0:l0.length≤c0) (h:spec_l03Turn.f k l0=some r) :
 Calls Try.prog 53 #[.slice A0 l0.length c0] w fun e w'=>∃ v0_:Value,e=.returned (v0_)∧Kd.R k40 40 w' w.heap.size (fun _=>True) v0_ r∧Below w.heap.size w w':=by
 have hu40:=Try.underlying40
 have HR0:=Aside0.mk hr0
 have HC0:=Aside0.mk hc0
 clear hr0 hc0
 have HB:=Aside0.mk (Below.refl w.heap.size w)
 have H:(if 0 < (l0.length:Int) then (spec_l03Turn.l0 k l0 (([(⟨(rd_T40 l0 0).f0,(rd_T40 l0 0).f1⟩ : S40)]:List (S40))) (wrap64 ((l0.length:Int) - 1))) else (none))=some r:=h
 clear h
 by_cases c2:0 < (l0.length:Int)
 rotate_left;·rw [if_neg c2] at H;exact absurd H (by simp)
 rw [if_pos c2] at H
 have c2b0:decide (0 < (l0.length:Int))=true:=decide_eq_true c2
 have c2b1:decide (0 < l0.length)=true:=decide_eq_true (by omega)
 clear c2
 obtain ⟨y190,hy190⟩ : ∃ y_:List (S40),y_=(([(⟨(rd_T40 l0 0).f0,(rd_T40 l0 0).f1⟩ : S40)]:List (S40))):=⟨_,rfl⟩
 replace H:(spec_l03Turn.l0 k l0 y190 (wrap64 ((l0.length:Int) - 1)))=some r:=by (try rw [hy190]);first|with_reducible exact H|with_reducible exact (Option.bind_some _ _).symm.trans H|exact H
 have Ny190:=Aside0.mk hy190
 clear hy190
 have H':=Aside0.mk H
 clear H
 have p189:0≤(0:Int):=(by omega)
 have q189:0 < (l0.length:Int):=of_decide_eq_true (by assumption)
 obtain ⟨ad189,e189,hx189_0,hx189_1⟩:=at_T40 HR0.out 0 p189 q189
 cases e189
 have qi189:(0 < l0.length)=True:=eq_true (by omega)
 (try rw [show ((0:Int)).toNat=0 from rfl] at hx189_0)
 (try rw [show 0 * 2=0 from rfl] at hx189_0)
 (try rw [Addr.add_zero'] at hx189_0)
 (try rw [show ((0:Int)).toNat=0 from rfl] at hx189_1)
 (try rw [show 0 * 2=0 from rfl] at hx189_1)
 (try rw [Addr.add_zero'] at hx189_1)
 replace p189:=eq_true p189
 replace q189:=eq_true q189
 go_enter Try.func53,Try.ntmps53
 go_wp2_with (first|((with_reducible refine gate_dst (N:=8) rfl ?_);refine Kd.R_lit k40 _ 40 ?hg (N:=8) ?hd (xs:=([(⟨(rd_T40 l0 0).f0,(rd_T40 l0 0).f1⟩ : S40)]:List (S40))) (inner:=[.int .i64 ((rd_T40 l0 0).f0),.int .i64 ((rd_T40 l0 0).f1)]) (ok:=fun _=>True) (okp:=fun _=>True) ?hr ?hp (fun _ hk=>hk) trivial (Below.refl _ _) (Nat.le_refl _) (by simp) ?_;(case hd=>rfl);(case hg=>rfl);(case hr=>first|(go_simp;done)|(go_simp;rfl));(case hp=>exact (Reps.c2 (show Kd.M k40 _ _ _ (⟨(rd_T40 l0 0).f0,(rd_T40 l0 0).f1⟩ : S40) [.int .i64 ((rd_T40 l0 0).f0),.int .i64 ((rd_T40 l0 0).f1)] from (k40_mkM _ _ _ (⟨(rd_T40 l0 0).f0,(rd_T40 l0 0).f1⟩ : S40) )) (Reps.none _ _)));intro v191 w3 ho4 hb hg_ hnew_;clear hg_ hnew_;(first|rw [← Ny190.out] at ho4|(simp only [Int.reduceToNat] at ho4;rw [← Ny190.out] at ho4));have n0_:=Aside0.mk (Kd.R_lower ho4 (below_size (by repeat (with_reducible first|exact HB.out|apply bA|apply bN|apply bD))));have n1_:=Aside0.mk (below_step (by repeat (with_reducible first|exact HB.out|apply bA|apply bN|apply bD)) hb);clear HB;have HO192:=n0_;have HB:=n1_;clear n0_ n1_;clear hb ho4))
 go_loopg [3,4] k (fun kq v3 v4 w'=>∃ (x3_1:List (S40)) (x4_1:Int),v4=.int .i64 x4_1∧Aside0 (spec_l03Turn.l0 kq l0 x3_1 x4_1=some r)∧Aside0 (kq≤k)∧Aside0 (Kd.R k40 40 w' w.heap.size (fun _=>True) v3 x3_1)∧Aside0 (Below w.heap.size w w'))
 case atStart=>exact ⟨(y190),(wrap64 ((l0.length:Int) - 1)),(by first|rfl|(simp;done)|(simp [*];done)),H',⟨Nat.le_refl _⟩,⟨by (with_reducible repeat (first|apply rA|apply rN|apply rD));exact HO192.out⟩,⟨by repeat (with_reducible first|exact HB.out|apply bA|apply bN|apply bD)⟩⟩
 case round =>
  clear H'
  obtain ⟨x3_1,x4_1,rfl,HA,HK1,HO_3,HB⟩:=hrel
  rcases gk with _|k1
  ·exact absurd HA.out (by simp [spec_l03Turn.l0])
  have H:=HA.out
  clear HA
  simp only [spec_l03Turn.l0] at H
  by_cases c5:x4_1 > 0
  ·rw [if_pos c5] at H
   have c5b0:decide (0 < x4_1)=true:=decide_eq_true c5
   clear c5
   by_cases c6:0≤x4_1
   rotate_left;·rw [if_neg c6] at H;exact absurd H (by simp)
   rw [if_pos c6] at H
   have c6b0:decide (0≤x4_1)=true:=decide_eq_true c6
   clear c6
   by_cases c7:x4_1 < (l0.length:Int)
   rotate_left;·rw [if_neg c7] at H;exact absurd H (by simp)
   rw [if_pos c7] at H
   have c7b0:decide (x4_1 < (l0.length:Int))=true:=decide_eq_true c7
   clear c7
   by_cases c8:x3_1.length < 8796093022208
   rotate_left;·rw [if_neg c8] at H;exact absurd H (by simp)
   rw [if_pos c8] at H
   have LMc8:=Aside0.mk c8
   clear c8
   obtain ⟨y194,hy194⟩ : ∃ y_:List (S40),y_=(x3_1++[(⟨(rd_T40 l0 x4_1).f0,(rd_T40 l0 x4_1).f1⟩ : S40)]):=⟨_,rfl⟩
   replace H:(spec_l03Turn.l0 k1 l0 y194 (wrap64 (x4_1 - 1)))=some r:=by (try rw [hy194]);first|with_reducible exact H|with_reducible exact (Option.bind_some _ _).symm.trans H|exact H
   have Ny194:=Aside0.mk hy194
   clear hy194
   have H':=Aside0.mk H
   clear H
   have p193:0≤(x4_1:Int):=of_decide_eq_true (by assumption)
   have q193:x4_1 < (l0.length:Int):=of_decide_eq_true (by assumption)
   obtain ⟨ad193,e193,hx193_0,hx193_1⟩:=at_T40 HR0.out x4_1 p193 q193
   obtain rfl:ad189=ad193:=(by injection e193)
   replace hx193_0:=cK HB.out hx193_0
   replace hx193_1:=cK HB.out hx193_1
   replace p193:=eq_true p193
   replace q193:=eq_true q193
   go_wp2_with (first|((with_reducible refine gate_builtin (b:=.append) (xs:=#[.tmp 16,.tmp 21]) rfl ?_);at_builtin;refine Kd.R_append k40 (w0:=w) w.heap.size rfl (.tmp 16) (.tmp 21) 25 40 (.agg #[(.int .i64 0),(.int .i64 0)]) 16 rfl Try.underlying25 info40 rfl (by decide) (by omega) u3 x3_1 (⟨(rd_T40 l0 x4_1).f0,(rd_T40 l0 x4_1).f1⟩ : S40) [.int .i64 ((rd_T40 l0 x4_1).f0),.int .i64 ((rd_T40 l0 x4_1).f1)] (fun _=>True) (fun _=>False) rfl rfl ?aP (fun _ hk=>hk.elim) ?aF ?aO ?aB ?aS ?aL ?_;(case aP=>exact k40_mkM _ _ _ (⟨(rd_T40 l0 x4_1).f0,(rd_T40 l0 x4_1).f1⟩ : S40));(case aB=>exact (by repeat (with_reducible first|exact HB.out|apply bA|apply bN|apply bD)));(case aF=>exact (fun _ _=>trivial));(case aO=>exact (by (with_reducible repeat (first|apply rA|apply rN|apply rD));exact HO_3.out));(case aS=>exact (below_size (by repeat (with_reducible first|exact HB.out|apply bA|apply bN|apply bD))));(case aL=>have:=LMc8.out;omega);intro v195 w9 ho hb hg hat;rw [← Ny194.out] at ho;have n0_:=Aside0.mk (hb);have n1_:=Aside0.mk (ho);clear HB;clear HO_3;have HB:=n0_;have HO196:=n1_;clear n0_ n1_;clear ho hb hg hat))
   go_roundg k1
   case measure=>have:=HK1.out;omega
   case rel=>exact ⟨(y194),(wrap64 (x4_1 - 1)),(by first|rfl|(simp;done)|(simp [*];done)),H',⟨by have:=HK1.out;omega⟩,⟨by (with_reducible repeat (first|apply rA|apply rN|apply rD));exact HO196.out⟩,⟨by repeat (with_reducible first|exact HB.out|apply bA|apply bN|apply bD)⟩⟩
  ·rw [if_neg c5] at H
   have c5b0:decide (0 < x4_1)=false:=decide_eq_false c5
   clear c5
   obtain rfl:=Option.some.inj H
   go_wp2
   go_ret
   exact ⟨_,by first|rfl|(simp [errW_none,errW_some] <;> rfl)|(simp [*,errW_none,errW_some] <;> rfl),by (with_reducible repeat (first|apply rA|apply rN|apply rD));exact HO_3.out,by repeat (with_reducible first|exact HB.out|apply bA|apply bN|apply bD)⟩
def spec_l07Left.f (k:Nat) (l0:List (S40)):Option ((List (S40))):=(spec_l03Twice.f k l0).bind fun t198=>(if t198 < 0 then ((spec_l03Turn.f k l0).bind fun t199=>(some t199)) else (some l0))
theorem spec_l07Left.mono:∀ a0 k,LeO (spec_l07Left.f k a0) (spec_l07Left.f (k+1) a0):=by
 intro a0 k
 unfold spec_l07Left.f
 repeat' first
  | (with_reducible exact LeO.refl _)
  | exact spec_l03Turn.mono _ _
  | exact spec_l03Twice.mono _ _
  | exact LeO.none _
  | refine LeO.ite ?_ ?_
  | refine LeO.bind ?_ (fun _=>?_)
theorem spec_l07Left.calls (k:Nat) (P0_:Nat→Prop) (A0:Option Addr) (c0:Nat) (l0:List (S40)) (r:List (S40)) (w:World) (hs0:Kd.V k40 40 w w.heap.size (fun k_=>P0_ k_) (.slice A0 l0.length c0) l0) (h:spec_l07Left.f k l0=some r) :
 Calls Try.prog 63 #[.slice A0 l0.length c0] w fun e w'=>∃ v0_:Value,e=.returned (v0_)∧Kd.V k40 40 w' w.heap.size (fun k_=>(P0_ k_∨w.heap.size≤k_)) v0_ r∧Below w.heap.size w w':=by
 have HO0:=Aside0.mk (show Kd.V k40 40 w w.heap.size (fun k_=>(P0_ k_∨w.heap.size≤k_)) (.slice A0 l0.length c0) l0 from Kd.V_mono hs0 (fun k_ hk=>.inl hk))
 have HB:=Aside0.mk (Below.refl w.heap.size w)
 have H:((spec_l03Twice.f k l0).bind fun t198=>(if t198 < 0 then ((spec_l03Turn.f k l0).bind fun t199=>(some t199)) else (some l0)))=some r:=h
 clear h
 replace H:=Option.bind_eq_some_iff.mp H
 obtain ⟨t198,A20,H⟩:=H
 have A2:=Aside0.mk A20
 clear A20
 by_cases c3:t198 < 0
 ·rw [if_pos c3] at H
  have c3b0:decide (t198 < 0)=true:=decide_eq_true c3
  clear c3
  replace H:=Option.bind_eq_some_iff.mp H
  obtain ⟨t199,A40,H⟩:=H
  have A4:=Aside0.mk A40
  clear A40
  obtain rfl:=Option.some.inj H
  go_enter Try.func63,Try.ntmps63
  go_wp2_with (first|((with_reducible refine gate_callee (f:=44) rfl ?_);refine goesL_ (some 4) rfl rfl Try.func44 (by kernel_rfl) rfl #[.slice A0 l0.length c0] rfl (by (try simp only [List.map_toArray,List.map_cons,List.map_nil]);first|done|rfl) ?_;(with_reducible refine (spec_l03Twice.calls k _ _ l0 t198 _ ?side1 ?side2 A2.out).mono ?_);(case side1=>repeat (first|exact (Kd.V_reads' HO0.out).2.2|(with_reducible refine Kd.C_alloc ?_ _)|(with_reducible refine Kd.C_drewN ?_ _)|(with_reducible refine Kd.C_drew ?_)));(case side2=>exact (Kd.V_reads' HO0.out).2.1);rintro e w5 ⟨rfl,hb⟩;refine ⟨_,rfl,?_⟩;have n0_:=Aside0.mk (Kd.V_below (by (with_reducible repeat (first|apply vA|apply vN|apply vD));exact HO0.out) hb);have n1_:=Aside0.mk (below_step (by repeat (with_reducible first|exact HB.out|apply bA|apply bN|apply bD)) hb);clear HO0;clear HB;have HO0:=n0_;have HB:=n1_;clear n0_ n1_;(try clear hb))|((with_reducible refine gate_callee (f:=53) rfl ?_);refine goesL_ (some 7) rfl rfl Try.func53 (by kernel_rfl) rfl #[.slice A0 l0.length c0] rfl (by (try simp only [List.map_toArray,List.map_cons,List.map_nil]);first|done|rfl) ?_;(with_reducible refine (spec_l03Turn.calls k _ _ l0 t199 _ ?side1 ?side2 A4.out).mono ?_);(case side1=>repeat (first|exact (Kd.V_reads' HO0.out).2.2|(with_reducible refine Kd.C_alloc ?_ _)|(with_reducible refine Kd.C_drewN ?_ _)|(with_reducible refine Kd.C_drew ?_)));(case side2=>exact (Kd.V_reads' HO0.out).2.1);rintro e w6 ⟨v200,rfl,ho0,hb⟩;refine ⟨_,rfl,?_⟩;have n0_:=Aside0.mk (Kd.V_elder' (by (with_reducible repeat (first|apply vA|apply vN|apply vD));exact HO0.out) (Kd.R_base ho0) hb);have n1_:=Aside0.mk (Kd.R_lower (Kd.R_newM (M:=fun k_=>(w.heap.size≤k_)) ho0 (below_size (by repeat (with_reducible first|exact HB.out|apply bA|apply bN|apply bD))) (fun k_ h_=>h_)) (below_size (by repeat (with_reducible first|exact HB.out|apply bA|apply bN|apply bD))));have n2_:=Aside0.mk (below_step (by repeat (with_reducible first|exact HB.out|apply bA|apply bN|apply bD)) hb);clear HO0;clear HB;have HO0:=n0_;have HO201:=n1_;have HB:=n2_;clear n0_ n1_ n2_;(try clear hb);(try clear ho0)))
  go_ret
  exact ⟨_,by first|rfl|(simp [errW_none,errW_some] <;> rfl)|(simp [*,errW_none,errW_some] <;> rfl),Kd.V_mono (Kd.R_V (by (with_reducible repeat (first|apply rA|apply rN|apply rD));exact Kd.R_mono HO201.out (fun _ hk=>hk.1))) (fun k_ hk=>by first|exact ⟨(.inr (hk.1)),hk.2⟩|exact (.inr (hk))),by repeat (with_reducible first|exact HB.out|apply bA|apply bN|apply bD)⟩
 ·rw [if_neg c3] at H
  have c3b0:decide (t198 < 0)=false:=decide_eq_false c3
  clear c3
  obtain rfl:=Option.some.inj H
  go_enter Try.func63,Try.ntmps63
  go_wp2_with (first|((with_reducible refine gate_callee (f:=44) rfl ?_);refine goesL_ (some 4) rfl rfl Try.func44 (by kernel_rfl) rfl #[.slice A0 l0.length c0] rfl (by (try simp only [List.map_toArray,List.map_cons,List.map_nil]);first|done|rfl) ?_;(with_reducible refine (spec_l03Twice.calls k _ _ l0 t198 _ ?side1 ?side2 A2.out).mono ?_);(case side1=>repeat (first|exact (Kd.V_reads' HO0.out).2.2|(with_reducible refine Kd.C_alloc ?_ _)|(with_reducible refine Kd.C_drewN ?_ _)|(with_reducible refine Kd.C_drew ?_)));(case side2=>exact (Kd.V_reads' HO0.out).2.1);rintro e w7 ⟨rfl,hb⟩;refine ⟨_,rfl,?_⟩;have n0_:=Aside0.mk (Kd.V_below (by (with_reducible repeat (first|apply vA|apply vN|apply vD));exact HO0.out) hb);have n1_:=Aside0.mk (below_step (by repeat (with_reducible first|exact HB.out|apply bA|apply bN|apply bD)) hb);clear HO0;clear HB;have HO0:=n0_;have HB:=n1_;clear n0_ n1_;(try clear hb)))
  go_ret
  exact ⟨_,by first|rfl|(simp [errW_none,errW_some] <;> rfl)|(simp [*,errW_none,errW_some] <;> rfl),by (with_reducible repeat (first|apply vA|apply vN|apply vD));exact HO0.out,by repeat (with_reducible first|exact HB.out|apply bA|apply bN|apply bD)⟩
def spec_l02Gcd.l0:Nat→Int→Int→Option (Int)
 | 0,_,_=>none
 | k+1,x0,x1=>if x1 > 0 then (if x1=0 then (none) else (spec_l02Gcd.l0 k x1 (Int.tmod x0 x1))) else (some x0)
def spec_l02Gcd.f (k:Nat) (a0:Int) (a1:Int):Option (Int):=spec_l02Gcd.l0 k (mx a0 (wrap64 (-a0))) (mx a1 (wrap64 (-a1)))
theorem spec_l02Gcd.mono_l:∀ k,(∀ y0 y1,LeO (spec_l02Gcd.l0 k y0 y1) (spec_l02Gcd.l0 (k+1) y0 y1))
 | 0=>fun _ _ r h=>by simp [spec_l02Gcd.l0] at h
 | k+1=>by
  have ih0:=spec_l02Gcd.mono_l k
  ·intro y0 y1
   unfold spec_l02Gcd.l0
   repeat' first
   | (with_reducible exact LeO.refl _)
   | exact ih0 _ _
   | exact LeO.none _
   | refine LeO.ite ?_ ?_
   | refine LeO.bind ?_ (fun _=>?_)
theorem spec_l02Gcd.mono:∀ a0 a1 k,LeO (spec_l02Gcd.f k a0 a1) (spec_l02Gcd.f (k+1) a0 a1):=by
 intro a0 a1 k
 have ih0:=spec_l02Gcd.mono_l k
 unfold spec_l02Gcd.f
 repeat' first
  | (with_reducible exact LeO.refl _)
  | exact ih0 _ _
  | exact LeO.none _
  | refine LeO.ite ?_ ?_
  | refine LeO.bind ?_ (fun _=>?_)
theorem spec_l02Gcd.calls (k:Nat) (a0:Int) (a1:Int) (r:Int) (w:World) (h:spec_l02Gcd.f k a0 a1=some r) :
 Calls Try.prog 65 #[.int .i64 a0,.int .i64 a1] w fun e w'=>e=.returned (.int .i64 r)∧Below w.heap.size w w':=by
 have HB:=Aside0.mk (Below.refl w.heap.size w)
 have H:(spec_l02Gcd.l0 k (mx a0 (wrap64 (-a0))) (mx a1 (wrap64 (-a1))))=some r:=h
 clear h
 obtain ⟨ji3,hji3⟩ : ∃ j_:Int,(mx a0 (wrap64 (-a0)))=j_:=⟨_,rfl⟩
 replace H:(spec_l02Gcd.l0 k ji3 (mx a1 (wrap64 (-a1))))=some r:=by first|(rw [hji3] at H;exact H)|(simp only [hji3] at H ⊢;exact H)
 have hji3_:(if a0 < (wrap64 (-a0)) then (wrap64 (-a0)) else a0)=ji3:=hji3
 obtain ⟨ji4,hji4⟩ : ∃ j_:Int,(mx a1 (wrap64 (-a1)))=j_:=⟨_,rfl⟩
 replace H:(spec_l02Gcd.l0 k ji3 ji4)=some r:=by first|(rw [hji4] at H;exact H)|(simp only [hji4] at H ⊢;exact H)
 have hji4_:(if a1 < (wrap64 (-a1)) then (wrap64 (-a1)) else a1)=ji4:=hji4
 have H':=Aside0.mk H
 clear H
 go_enter Try.func65,Try.ntmps65
 go_wp2
 go_loopg [0,1] k (fun kq v0 v1 w'=>∃ (x0_1:Int) (x1_1:Int),v0=.int .i64 x0_1∧v1=.int .i64 x1_1∧Aside0 (spec_l02Gcd.l0 kq x0_1 x1_1=some r)∧Aside0 (kq≤k)∧Aside0 (Below w.heap.size w w'))
 case atStart=>exact ⟨(ji3),(ji4),(by first|rfl|(simp;done)|(simp only [← hji3] <;> (first|rfl|simp))|(simp [*];done)),(by first|rfl|(simp;done)|(simp only [← hji4] <;> (first|rfl|simp))|(simp [*];done)),H',⟨Nat.le_refl _⟩,⟨by repeat (with_reducible first|exact HB.out|apply bA|apply bN|apply bD)⟩⟩
 case round =>
  clear H'
  obtain ⟨x0_1,x1_1,rfl,rfl,HA,HK1,HB⟩:=hrel
  rcases gk with _|k1
  ·exact absurd HA.out (by simp [spec_l02Gcd.l0])
  have H:=HA.out
  clear HA
  simp only [spec_l02Gcd.l0] at H
  by_cases c5:x1_1 > 0
  ·rw [if_pos c5] at H
   have c5b0:decide (0 < x1_1)=true:=decide_eq_true c5
   clear c5
   by_cases c6:x1_1=0
   ·rw [if_pos c6] at H
    exact absurd H (by simp)
   ·rw [if_neg c6] at H
    have c6b0:(x1_1 == 0)=false:=beq_eq_false_iff_ne.mpr c6
    have c6b1:(x1_1 != 0)=true:=bne_iff_ne.mpr c6
    have H':=Aside0.mk H
    clear H
    go_wp2
    go_roundg k1
    case measure=>have:=HK1.out;omega
    case rel=>exact ⟨(x1_1),(Int.tmod x0_1 x1_1),(by first|rfl|(simp;done)|(simp [*];done)),(by first|rfl|(simp;done)|(simp [*];done)),H',⟨by have:=HK1.out;omega⟩,⟨by repeat (with_reducible first|exact HB.out|apply bA|apply bN|apply bD)⟩⟩
  ·rw [if_neg c5] at H
   have c5b0:decide (0 < x1_1)=false:=decide_eq_false c5
   clear c5
   obtain rfl:=Option.some.inj H
   go_wp2
   go_ret
   exact ⟨by first|rfl|(simp [errW_none,errW_some] <;> rfl)|(simp only [← hji3,← hji4];first|rfl|(simp [errW_none,errW_some] <;> rfl))|(simp [*,errW_none,errW_some] <;> rfl),by repeat (with_reducible first|exact HB.out|apply bA|apply bN|apply bD)⟩
def spec_l07Direction.f (k:Nat) (a0:Int) (a1:Int):Option (List Int):=(spec_l02Gcd.f k a0 a1).bind fun t202=>(if t202=0 then (none) else (if (wrap64 (Int.tdiv a1 t202)) < 0 then (some (([wrap64 (-(wrap64 (Int.tdiv a0 t202))),wrap64 (-(wrap64 (Int.tdiv a1 t202)))]:List Int))) else (if (wrap64 (Int.tdiv a1 t202))=0 then (if (wrap64 (Int.tdiv a0 t202)) < 0 then (some (([wrap64 (-(wrap64 (Int.tdiv a0 t202))),wrap64 (-(wrap64 (Int.tdiv a1 t202)))]:List Int))) else (some (([wrap64 (Int.tdiv a0 t202),wrap64 (Int.tdiv a1 t202)]:List Int)))) else (some (([wrap64 (Int.tdiv a0 t202),wrap64 (Int.tdiv a1 t202)]:List Int))))))
theorem spec_l07Direction.mono:∀ a0 a1 k,LeO (spec_l07Direction.f k a0 a1) (spec_l07Direction.f (k+1) a0 a1):=by
 intro a0 a1 k
 unfold spec_l07Direction.f
 repeat' first
  | (with_reducible exact LeO.refl _)
  | exact spec_l02Gcd.mono _ _ _
  | exact LeO.none _
  | refine LeO.ite ?_ ?_
  | refine LeO.bind ?_ (fun _=>?_)
theorem spec_l07Direction.calls (k:Nat) (a0:Int) (a1:Int) (r:List Int) (w:World) (h:spec_l07Direction.f k a0 a1=some r) :
 Calls Try.prog 64 #[.int .i64 a0,.int .i64 a1] w fun e w'=>∃ v0_:Value,e=.returned (v0_)∧Kd.R (Kd.int .i64) 3 w' w.heap.size (fun _=>True) v0_ r∧Below w.heap.size w w':=by
 have HB:=Aside0.mk (Below.refl w.heap.size w)
 have H:((spec_l02Gcd.f k a0 a1).bind fun t202=>(if t202=0 then (none) else (if (wrap64 (Int.tdiv a1 t202)) < 0 then (some (([wrap64 (-(wrap64 (Int.tdiv a0 t202))),wrap64 (-(wrap64 (Int.tdiv a1 t202)))]:List Int))) else (if (wrap64 (Int.tdiv a1 t202))=0 then (if (wrap64 (Int.tdiv a0 t202)) < 0 then (some (([wrap64 (-(wrap64 (Int.tdiv a0 t202))),wrap64 (-(wrap64 (Int.tdiv a1 t202)))]:List Int))) else (some (([wrap64 (Int.tdiv a0 t202),wrap64 (Int.tdiv a1 t202)]:List Int)))) else (some (([wrap64 (Int.tdiv a0 t202),wrap64 (Int.tdiv a1 t202)]:List Int)))))))=some r:=h
 clear h
 replace H:=Option.bind_eq_some_iff.mp H
 obtain ⟨t202,A30,H⟩:=H
 have A3:=Aside0.mk A30
 clear A30
 by_cases c4:t202=0
 ·rw [if_pos c4] at H
  exact absurd H (by simp)
 ·rw [if_neg c4] at H
  have c4b0:(t202 == 0)=false:=beq_eq_false_iff_ne.mpr c4
  have c4b1:(t202 != 0)=true:=bne_iff_ne.mpr c4
  by_cases c5:(wrap64 (Int.tdiv a1 t202)) < 0
  ·rw [if_pos c5] at H
   have c5b0:decide ((wrap64 (Int.tdiv a1 t202)) < 0)=true:=decide_eq_true c5
   clear c5
   obtain ⟨y203,hy203⟩ : ∃ y_:List Int,y_=(([wrap64 (-(wrap64 (Int.tdiv a0 t202))),wrap64 (-(wrap64 (Int.tdiv a1 t202)))]:List Int)):=⟨_,rfl⟩
   replace H:(some y203)=some r:=by (try rw [hy203]);first|with_reducible exact H|with_reducible exact (Option.bind_some _ _).symm.trans H|exact H
   have Ny203:=Aside0.mk hy203
   clear hy203
   obtain rfl:=Option.some.inj H
   go_enter Try.func64,Try.ntmps64
   go_wp2_with (first|((with_reducible refine gate_callee (f:=65) rfl ?_);refine goesL_ (some 8) rfl rfl Try.func65 (by kernel_rfl) rfl #[.int .i64 a0,.int .i64 a1] rfl (by (try simp only [List.map_toArray,List.map_cons,List.map_nil]);first|done|rfl) ?_;(with_reducible refine (spec_l02Gcd.calls k a0 a1 t202 _ A3.out).mono ?_);rintro e w6 ⟨rfl,hb⟩;refine ⟨_,rfl,?_⟩;have n0_:=Aside0.mk (below_step (by repeat (with_reducible first|exact HB.out|apply bA|apply bN|apply bD)) hb);clear HB;have HB:=n0_;clear n0_;(try clear hb))|((with_reducible refine gate_dst (N:=31) rfl ?_);refine Kd.R_lit (Kd.int .i64) _ 3 ?hg (N:=31) ?hd (xs:=([wrap64 (-(wrap64 (Int.tdiv a0 t202))),wrap64 (-(wrap64 (Int.tdiv a1 t202)))]:List Int)) (inner:=[.int .i64 (wrap64 (-(wrap64 (Int.tdiv a0 t202)))),.int .i64 (wrap64 (-(wrap64 (Int.tdiv a1 t202))))]) (ok:=fun _=>True) (okp:=fun _=>True) ?hr ?hp (fun _ hk=>hk) trivial (Below.refl _ _) (Nat.le_refl _) (by simp) ?_;(case hd=>rfl);(case hg=>rfl);(case hr=>first|(go_simp;done)|(go_simp;rfl));(case hp=>exact (Reps.one (show Kd.M (Kd.int .i64) _ _ _ (wrap64 (-(wrap64 (Int.tdiv a0 t202)))) [.int .i64 (wrap64 (-(wrap64 (Int.tdiv a0 t202))))] from rfl) (Reps.one (show Kd.M (Kd.int .i64) _ _ _ (wrap64 (-(wrap64 (Int.tdiv a1 t202)))) [.int .i64 (wrap64 (-(wrap64 (Int.tdiv a1 t202))))] from rfl) (Reps.none _ _))));intro v204 w7 ho8 hb hg_ hnew_;clear hg_ hnew_;(first|rw [← Ny203.out] at ho8|(simp only [Int.reduceToNat] at ho8;rw [← Ny203.out] at ho8));have n0_:=Aside0.mk (Kd.R_lower ho8 (below_size (by repeat (with_reducible first|exact HB.out|apply bA|apply bN|apply bD))));have n1_:=Aside0.mk (below_step (by repeat (with_reducible first|exact HB.out|apply bA|apply bN|apply bD)) hb);clear HB;have HO205:=n0_;have HB:=n1_;clear n0_ n1_;clear hb ho8))
   go_ret
   exact ⟨_,by first|rfl|(simp [errW_none,errW_some] <;> rfl)|(simp [*,errW_none,errW_some] <;> rfl),by (with_reducible repeat (first|apply rA|apply rN|apply rD));exact HO205.out,by repeat (with_reducible first|exact HB.out|apply bA|apply bN|apply bD)⟩
  ·rw [if_neg c5] at H
   have c5b0:decide ((wrap64 (Int.tdiv a1 t202)) < 0)=false:=decide_eq_false c5
   clear c5
   by_cases c9:(wrap64 (Int.tdiv a1 t202))=0
   ·rw [if_pos c9] at H
    have c9b0:((wrap64 (Int.tdiv a1 t202)) == 0)=true:=beq_iff_eq.mpr c9
    have c9b1:((wrap64 (Int.tdiv a1 t202)) != 0)=false:=bne_eq_false_iff_eq.mpr c9
    clear c9
    by_cases c10:(wrap64 (Int.tdiv a0 t202)) < 0
    ·rw [if_pos c10] at H
     have c10b0:decide ((wrap64 (Int.tdiv a0 t202)) < 0)=true:=decide_eq_true c10
     clear c10
     obtain ⟨y206,hy206⟩ : ∃ y_:List Int,y_=(([wrap64 (-(wrap64 (Int.tdiv a0 t202))),wrap64 (-(wrap64 (Int.tdiv a1 t202)))]:List Int)):=⟨_,rfl⟩
     replace H:(some y206)=some r:=by (try rw [hy206]);first|with_reducible exact H|with_reducible exact (Option.bind_some _ _).symm.trans H|exact H
     have Ny206:=Aside0.mk hy206
     clear hy206
     obtain rfl:=Option.some.inj H
     go_enter Try.func64,Try.ntmps64
     go_wp2_with (first|((with_reducible refine gate_callee (f:=65) rfl ?_);refine goesL_ (some 8) rfl rfl Try.func65 (by kernel_rfl) rfl #[.int .i64 a0,.int .i64 a1] rfl (by (try simp only [List.map_toArray,List.map_cons,List.map_nil]);first|done|rfl) ?_;(with_reducible refine (spec_l02Gcd.calls k a0 a1 t202 _ A3.out).mono ?_);rintro e w11 ⟨rfl,hb⟩;refine ⟨_,rfl,?_⟩;have n0_:=Aside0.mk (below_step (by repeat (with_reducible first|exact HB.out|apply bA|apply bN|apply bD)) hb);clear HB;have HB:=n0_;clear n0_;(try clear hb))|((with_reducible refine gate_dst (N:=31) rfl ?_);refine Kd.R_lit (Kd.int .i64) _ 3 ?hg (N:=31) ?hd (xs:=([wrap64 (-(wrap64 (Int.tdiv a0 t202))),wrap64 (-(wrap64 (Int.tdiv a1 t202)))]:List Int)) (inner:=[.int .i64 (wrap64 (-(wrap64 (Int.tdiv a0 t202)))),.int .i64 (wrap64 (-(wrap64 (Int.tdiv a1 t202))))]) (ok:=fun _=>True) (okp:=fun _=>True) ?hr ?hp (fun _ hk=>hk) trivial (Below.refl _ _) (Nat.le_refl _) (by simp) ?_;(case hd=>rfl);(case hg=>rfl);(case hr=>first|(go_simp;done)|(go_simp;rfl));(case hp=>exact (Reps.one (show Kd.M (Kd.int .i64) _ _ _ (wrap64 (-(wrap64 (Int.tdiv a0 t202)))) [.int .i64 (wrap64 (-(wrap64 (Int.tdiv a0 t202))))] from rfl) (Reps.one (show Kd.M (Kd.int .i64) _ _ _ (wrap64 (-(wrap64 (Int.tdiv a1 t202)))) [.int .i64 (wrap64 (-(wrap64 (Int.tdiv a1 t202))))] from rfl) (Reps.none _ _))));intro v207 w12 ho13 hb hg_ hnew_;clear hg_ hnew_;(first|rw [← Ny206.out] at ho13|(simp only [Int.reduceToNat] at ho13;rw [← Ny206.out] at ho13));have n0_:=Aside0.mk (Kd.R_lower ho13 (below_size (by repeat (with_reducible first|exact HB.out|apply bA|apply bN|apply bD))));have n1_:=Aside0.mk (below_step (by repeat (with_reducible first|exact HB.out|apply bA|apply bN|apply bD)) hb);clear HB;have HO208:=n0_;have HB:=n1_;clear n0_ n1_;clear hb ho13))
     go_ret
     exact ⟨_,by first|rfl|(simp [errW_none,errW_some] <;> rfl)|(simp [*,errW_none,errW_some] <;> rfl),by (with_reducible repeat (first|apply rA|apply rN|apply rD));exact HO208.out,by repeat (with_reducible first|exact HB.out|apply bA|apply bN|apply bD)⟩
    ·rw [if_neg c10] at H
     have c10b0:decide ((wrap64 (Int.tdiv a0 t202)) < 0)=false:=decide_eq_false c10
     clear c10
     obtain ⟨y209,hy209⟩ : ∃ y_:List Int,y_=(([wrap64 (Int.tdiv a0 t202),wrap64 (Int.tdiv a1 t202)]:List Int)):=⟨_,rfl⟩
     replace H:(some y209)=some r:=by (try rw [hy209]);first|with_reducible exact H|with_reducible exact (Option.bind_some _ _).symm.trans H|exact H
     have Ny209:=Aside0.mk hy209
     clear hy209
     obtain rfl:=Option.some.inj H
     go_enter Try.func64,Try.ntmps64
     go_wp2_with (first|((with_reducible refine gate_callee (f:=65) rfl ?_);refine goesL_ (some 8) rfl rfl Try.func65 (by kernel_rfl) rfl #[.int .i64 a0,.int .i64 a1] rfl (by (try simp only [List.map_toArray,List.map_cons,List.map_nil]);first|done|rfl) ?_;(with_reducible refine (spec_l02Gcd.calls k a0 a1 t202 _ A3.out).mono ?_);rintro e w14 ⟨rfl,hb⟩;refine ⟨_,rfl,?_⟩;have n0_:=Aside0.mk (below_step (by repeat (with_reducible first|exact HB.out|apply bA|apply bN|apply bD)) hb);clear HB;have HB:=n0_;clear n0_;(try clear hb))|((with_reducible refine gate_dst (N:=31) rfl ?_);refine Kd.R_lit (Kd.int .i64) _ 3 ?hg (N:=31) ?hd (xs:=([wrap64 (Int.tdiv a0 t202),wrap64 (Int.tdiv a1 t202)]:List Int)) (inner:=[.int .i64 (wrap64 (Int.tdiv a0 t202)),.int .i64 (wrap64 (Int.tdiv a1 t202))]) (ok:=fun _=>True) (okp:=fun _=>True) ?hr ?hp (fun _ hk=>hk) trivial (Below.refl _ _) (Nat.le_refl _) (by simp) ?_;(case hd=>rfl);(case hg=>rfl);(case hr=>first|(go_simp;done)|(go_simp;rfl));(case hp=>exact (Reps.one (show Kd.M (Kd.int .i64) _ _ _ (wrap64 (Int.tdiv a0 t202)) [.int .i64 (wrap64 (Int.tdiv a0 t202))] from rfl) (Reps.one (show Kd.M (Kd.int .i64) _ _ _ (wrap64 (Int.tdiv a1 t202)) [.int .i64 (wrap64 (Int.tdiv a1 t202))] from rfl) (Reps.none _ _))));intro v210 w15 ho16 hb hg_ hnew_;clear hg_ hnew_;(first|rw [← Ny209.out] at ho16|(simp only [Int.reduceToNat] at ho16;rw [← Ny209.out] at ho16));have n0_:=Aside0.mk (Kd.R_lower ho16 (below_size (by repeat (with_reducible first|exact HB.out|apply bA|apply bN|apply bD))));have n1_:=Aside0.mk (below_step (by repeat (with_reducible first|exact HB.out|apply bA|apply bN|apply bD)) hb);clear HB;have HO211:=n0_;have HB:=n1_;clear n0_ n1_;clear hb ho16))
     go_ret
     exact ⟨_,by first|rfl|(simp [errW_none,errW_some] <;> rfl)|(simp [*,errW_none,errW_some] <;> rfl),by (with_reducible repeat (first|apply rA|apply rN|apply rD));exact HO211.out,by repeat (with_reducible first|exact HB.out|apply bA|apply bN|apply bD)⟩
   ·rw [if_neg c9] at H
    have c9b0:((wrap64 (Int.tdiv a1 t202)) == 0)=false:=beq_eq_false_iff_ne.mpr c9
    have c9b1:((wrap64 (Int.tdiv a1 t202)) != 0)=true:=bne_iff_ne.mpr c9
    obtain ⟨y212,hy212⟩ : ∃ y_:List Int,y_=(([wrap64 (Int.tdiv a0 t202),wrap64 (Int.tdiv a1 t202)]:List Int)):=⟨_,rfl⟩
    replace H:(some y212)=some r:=by (try rw [hy212]);first|with_reducible exact H|with_reducible exact (Option.bind_some _ _).symm.trans H|exact H
    have Ny212:=Aside0.mk hy212
    clear hy212
    obtain rfl:=Option.some.inj H
    go_enter Try.func64,Try.ntmps64
    go_wp2_with (first|((with_reducible refine gate_callee (f:=65) rfl ?_);refine goesL_ (some 8) rfl rfl Try.func65 (by kernel_rfl) rfl #[.int .i64 a0,.int .i64 a1] rfl (by (try simp only [List.map_toArray,List.map_cons,List.map_nil]);first|done|rfl) ?_;(with_reducible refine (spec_l02Gcd.calls k a0 a1 t202 _ A3.out).mono ?_);rintro e w17 ⟨rfl,hb⟩;refine ⟨_,rfl,?_⟩;have n0_:=Aside0.mk (below_step (by repeat (with_reducible first|exact HB.out|apply bA|apply bN|apply bD)) hb);clear HB;have HB:=n0_;clear n0_;(try clear hb))|((with_reducible refine gate_dst (N:=31) rfl ?_);refine Kd.R_lit (Kd.int .i64) _ 3 ?hg (N:=31) ?hd (xs:=([wrap64 (Int.tdiv a0 t202),wrap64 (Int.tdiv a1 t202)]:List Int)) (inner:=[.int .i64 (wrap64 (Int.tdiv a0 t202)),.int .i64 (wrap64 (Int.tdiv a1 t202))]) (ok:=fun _=>True) (okp:=fun _=>True) ?hr ?hp (fun _ hk=>hk) trivial (Below.refl _ _) (Nat.le_refl _) (by simp) ?_;(case hd=>rfl);(case hg=>rfl);(case hr=>first|(go_simp;done)|(go_simp;rfl));(case hp=>exact (Reps.one (show Kd.M (Kd.int .i64) _ _ _ (wrap64 (Int.tdiv a0 t202)) [.int .i64 (wrap64 (Int.tdiv a0 t202))] from rfl) (Reps.one (show Kd.M (Kd.int .i64) _ _ _ (wrap64 (Int.tdiv a1 t202)) [.int .i64 (wrap64 (Int.tdiv a1 t202))] from rfl) (Reps.none _ _))));intro v213 w18 ho19 hb hg_ hnew_;clear hg_ hnew_;(first|rw [← Ny212.out] at ho19|(simp only [Int.reduceToNat] at ho19;rw [← Ny212.out] at ho19));have n0_:=Aside0.mk (Kd.R_lower ho19 (below_size (by repeat (with_reducible first|exact HB.out|apply bA|apply bN|apply bD))));have n1_:=Aside0.mk (below_step (by repeat (with_reducible first|exact HB.out|apply bA|apply bN|apply bD)) hb);clear HB;have HO214:=n0_;have HB:=n1_;clear n0_ n1_;clear hb ho19))
    go_ret
    exact ⟨_,by first|rfl|(simp [errW_none,errW_some] <;> rfl)|(simp [*,errW_none,errW_some] <;> rfl),by (with_reducible repeat (first|apply rA|apply rN|apply rD));exact HO214.out,by repeat (with_reducible first|exact HB.out|apply bA|apply bN|apply bD)⟩
def spec_l07Before.f (l0:List Int) (l1:List Int):Option (Bool):=if 1 < (l0.length:Int) then (if 1 < (l1.length:Int) then (if (rd l0 1) < (rd l1 1) then (some true) else (if (rd l0 1)=(rd l1 1) then (if 0 < (l0.length:Int) then (if 0 < (l1.length:Int) then (some (decide ((rd l0 0) < (rd l1 0)))) else (none)) else (none)) else (some false))) else (none)) else (none)
theorem spec_l07Before.calls (A0:Option Addr) (c0:Nat) (l0:List Int) (A1:Option Addr) (c1:Nat) (l1:List Int) (r:Bool) (w:World) (hr0:Kd.C (Kd.int .i64) w A0 l0.length l0) (hc0:l0.length≤c0) (hr1:Kd.C (Kd.int .i64) w A1 l1.length l1) (hc1:l1.length≤c1) (h:spec_l07Before.f l0 l1=some r) :
 Calls Try.prog 82 #[.slice A0 l0.length c0,.slice A1 l1.length c1] w fun e w'=>e=.returned (.bool r)∧Drawn0 w w':=by
 have HR0:=Aside0.mk hr0
 have HC0:=Aside0.mk hc0
 clear hr0 hc0
 have HR1:=Aside0.mk hr1
 have HC1:=Aside0.mk hc1
 clear hr1 hc1
 have H:(if 1 < (l0.length:Int) then (if 1 < (l1.length:Int) then (if (rd l0 1) < (rd l1 1) then (some true) else (if (rd l0 1)=(rd l1 1) then (if 0 < (l0.length:Int) then (if 0 < (l1.length:Int) then (some (decide ((rd l0 0) < (rd l1 0)))) else (none)) else (none)) else (some false))) else (none)) else (none))=some r:=h
 clear h
 by_cases c3:1 < (l0.length:Int)
 rotate_left;·rw [if_neg c3] at H;exact absurd H (by simp)
 rw [if_pos c3] at H
 have c3b0:decide (1 < (l0.length:Int))=true:=decide_eq_true c3
 have c3b1:decide (1 < l0.length)=true:=decide_eq_true (by omega)
 clear c3
 by_cases c4:1 < (l1.length:Int)
 rotate_left;·rw [if_neg c4] at H;exact absurd H (by simp)
 rw [if_pos c4] at H
 have c4b0:decide (1 < (l1.length:Int))=true:=decide_eq_true c4
 have c4b1:decide (1 < l1.length)=true:=decide_eq_true (by omega)
 clear c4
 by_cases c5:(rd l0 1) < (rd l1 1)
 ·rw [if_pos c5] at H
  have c5b0:decide ((rd l0 1) < (rd l1 1))=true:=decide_eq_true c5
  clear c5
  obtain rfl:=Option.some.inj H
  have p215:0≤(1:Int):=(by omega)
  have q215:1 < (l0.length:Int):=of_decide_eq_true (by assumption)
  obtain ⟨ad215,e215,hx215_0⟩:=Kd.at_int HR0.out 1 p215 q215
  cases e215
  (try simp only [show (1:Int).toNat=1 from rfl,Nat.reduceMul,Nat.reduceEqDiff,Go.Addr.add,↓reduceIte] at hx215_0)
  have qi215:(1 < l0.length)=True:=eq_true (by omega)
  (try rw [show ((1:Int)).toNat=1 from rfl] at hx215_0)
  replace p215:=eq_true p215
  replace q215:=eq_true q215
  have p216:0≤(1:Int):=(by omega)
  have q216:1 < (l1.length:Int):=of_decide_eq_true (by assumption)
  obtain ⟨ad216,e216,hx216_0⟩:=Kd.at_int HR1.out 1 p216 q216
  cases e216
  (try simp only [show (1:Int).toNat=1 from rfl,Nat.reduceMul,Nat.reduceEqDiff,Go.Addr.add,↓reduceIte] at hx216_0)
  have qi216:(1 < l1.length)=True:=eq_true (by omega)
  (try rw [show ((1:Int)).toNat=1 from rfl] at hx216_0)
  replace p216:=eq_true p216
  replace q216:=eq_true q216
  go_enter Try.func82,Try.ntmps82
  go_wp2
  repeat (go_quiet (fail);try go_wp2)
  go_ret
  exact ⟨by first|rfl|(simp;done)|(simp [*];done),by repeat (first|exact Drawn0.refl _|apply Drawn0.step)⟩
 ·rw [if_neg c5] at H
  have c5b0:decide ((rd l0 1) < (rd l1 1))=false:=decide_eq_false c5
  clear c5
  by_cases c6:(rd l0 1)=(rd l1 1)
  ·rw [if_pos c6] at H
   have c6b0:((rd l0 1) == (rd l1 1))=true:=beq_iff_eq.mpr c6
   have c6b1:((rd l0 1) != (rd l1 1))=false:=bne_eq_false_iff_eq.mpr c6
   clear c6
   by_cases c7:0 < (l0.length:Int)
   rotate_left;·rw [if_neg c7] at H;exact absurd H (by simp)
   rw [if_pos c7] at H
   have c7b0:decide (0 < (l0.length:Int))=true:=decide_eq_true c7
   have c7b1:decide (0 < l0.length)=true:=decide_eq_true (by omega)
   clear c7
   by_cases c8:0 < (l1.length:Int)
   rotate_left;·rw [if_neg c8] at H;exact absurd H (by simp)
   rw [if_pos c8] at H
   have c8b0:decide (0 < (l1.length:Int))=true:=decide_eq_true c8
   have c8b1:decide (0 < l1.length)=true:=decide_eq_true (by omega)
   clear c8
   obtain rfl:=Option.some.inj H
   have p215:0≤(1:Int):=(by omega)
   have q215:1 < (l0.length:Int):=of_decide_eq_true (by assumption)
   obtain ⟨ad215,e215,hx215_0⟩:=Kd.at_int HR0.out 1 p215 q215
   cases e215
   (try simp only [show (1:Int).toNat=1 from rfl,Nat.reduceMul,Nat.reduceEqDiff,Go.Addr.add,↓reduceIte] at hx215_0)
   have qi215:(1 < l0.length)=True:=eq_true (by omega)
   (try rw [show ((1:Int)).toNat=1 from rfl] at hx215_0)
   replace p215:=eq_true p215
   replace q215:=eq_true q215
   have p216:0≤(1:Int):=(by omega)
   have q216:1 < (l1.length:Int):=of_decide_eq_true (by assumption)
   obtain ⟨ad216,e216,hx216_0⟩:=Kd.at_int HR1.out 1 p216 q216
   cases e216
   (try simp only [show (1:Int).toNat=1 from rfl,Nat.reduceMul,Nat.reduceEqDiff,Go.Addr.add,↓reduceIte] at hx216_0)
   have qi216:(1 < l1.length)=True:=eq_true (by omega)
   (try rw [show ((1:Int)).toNat=1 from rfl] at hx216_0)
   replace p216:=eq_true p216
   replace q216:=eq_true q216
   have p217:0≤(1:Int):=(by omega)
   have q217:1 < (l0.length:Int):=of_decide_eq_true (by assumption)
   obtain ⟨ad217,e217,hx217_0⟩:=Kd.at_int HR0.out 1 p217 q217
   obtain rfl:ad215=ad217:=(by injection e217)
   (try simp only [show (1:Int).toNat=1 from rfl,Nat.reduceMul,Nat.reduceEqDiff,Go.Addr.add,↓reduceIte] at hx217_0)
   have qi217:(1 < l0.length)=True:=eq_true (by omega)
   (try rw [show ((1:Int)).toNat=1 from rfl] at hx217_0)
   replace p217:=eq_true p217
   replace q217:=eq_true q217
   have p218:0≤(1:Int):=(by omega)
   have q218:1 < (l1.length:Int):=of_decide_eq_true (by assumption)
   obtain ⟨ad218,e218,hx218_0⟩:=Kd.at_int HR1.out 1 p218 q218
   obtain rfl:ad216=ad218:=(by injection e218)
   (try simp only [show (1:Int).toNat=1 from rfl,Nat.reduceMul,Nat.reduceEqDiff,Go.Addr.add,↓reduceIte] at hx218_0)
   have qi218:(1 < l1.length)=True:=eq_true (by omega)
   (try rw [show ((1:Int)).toNat=1 from rfl] at hx218_0)
   replace p218:=eq_true p218
   replace q218:=eq_true q218
   have p219:0≤(0:Int):=(by omega)
   have q219:0 < (l0.length:Int):=of_decide_eq_true (by assumption)
   obtain ⟨ad219,e219,hx219_0⟩:=Kd.at_int HR0.out 0 p219 q219
   obtain rfl:ad215=ad219:=(by injection e219)
   have qi219:(0 < l0.length)=True:=eq_true (by omega)
   (try rw [show ((0:Int)).toNat=0 from rfl] at hx219_0)
   (try rw [Addr.add_zero'] at hx219_0)
   replace p219:=eq_true p219
   replace q219:=eq_true q219
   have p220:0≤(0:Int):=(by omega)
   have q220:0 < (l1.length:Int):=of_decide_eq_true (by assumption)
   obtain ⟨ad220,e220,hx220_0⟩:=Kd.at_int HR1.out 0 p220 q220
   obtain rfl:ad216=ad220:=(by injection e220)
   have qi220:(0 < l1.length)=True:=eq_true (by omega)
   (try rw [show ((0:Int)).toNat=0 from rfl] at hx220_0)
   (try rw [Addr.add_zero'] at hx220_0)
   replace p220:=eq_true p220
   replace q220:=eq_true q220
   go_enter Try.func82,Try.ntmps82
   go_wp2
   repeat (go_quiet (fail);try go_wp2)
   go_ret
   exact ⟨by first|rfl|(simp;done)|(simp [*];done),by repeat (first|exact Drawn0.refl _|apply Drawn0.step)⟩
  ·rw [if_neg c6] at H
   have c6b0:((rd l0 1) == (rd l1 1))=false:=beq_eq_false_iff_ne.mpr c6
   have c6b1:((rd l0 1) != (rd l1 1))=true:=bne_iff_ne.mpr c6
   obtain rfl:=Option.some.inj H
   have p215:0≤(1:Int):=(by omega)
   have q215:1 < (l0.length:Int):=of_decide_eq_true (by assumption)
   obtain ⟨ad215,e215,hx215_0⟩:=Kd.at_int HR0.out 1 p215 q215
   cases e215
   (try simp only [show (1:Int).toNat=1 from rfl,Nat.reduceMul,Nat.reduceEqDiff,Go.Addr.add,↓reduceIte] at hx215_0)
   have qi215:(1 < l0.length)=True:=eq_true (by omega)
   (try rw [show ((1:Int)).toNat=1 from rfl] at hx215_0)
   replace p215:=eq_true p215
   replace q215:=eq_true q215
   have p216:0≤(1:Int):=(by omega)
   have q216:1 < (l1.length:Int):=of_decide_eq_true (by assumption)
   obtain ⟨ad216,e216,hx216_0⟩:=Kd.at_int HR1.out 1 p216 q216
   cases e216
   (try simp only [show (1:Int).toNat=1 from rfl,Nat.reduceMul,Nat.reduceEqDiff,Go.Addr.add,↓reduceIte] at hx216_0)
   have qi216:(1 < l1.length)=True:=eq_true (by omega)
   (try rw [show ((1:Int)).toNat=1 from rfl] at hx216_0)
   replace p216:=eq_true p216
   replace q216:=eq_true q216
   have p217:0≤(1:Int):=(by omega)
   have q217:1 < (l0.length:Int):=of_decide_eq_true (by assumption)
   obtain ⟨ad217,e217,hx217_0⟩:=Kd.at_int HR0.out 1 p217 q217
   obtain rfl:ad215=ad217:=(by injection e217)
   (try simp only [show (1:Int).toNat=1 from rfl,Nat.reduceMul,Nat.reduceEqDiff,Go.Addr.add,↓reduceIte] at hx217_0)
   have qi217:(1 < l0.length)=True:=eq_true (by omega)
   (try rw [show ((1:Int)).toNat=1 from rfl] at hx217_0)
   replace p217:=eq_true p217
   replace q217:=eq_true q217
   have p218:0≤(1:Int):=(by omega)
   have q218:1 < (l1.length:Int):=of_decide_eq_true (by assumption)
   obtain ⟨ad218,e218,hx218_0⟩:=Kd.at_int HR1.out 1 p218 q218
   obtain rfl:ad216=ad218:=(by injection e218)
   (try simp only [show (1:Int).toNat=1 from rfl,Nat.reduceMul,Nat.reduceEqDiff,Go.Addr.add,↓reduceIte] at hx218_0)
   have qi218:(1 < l1.length)=True:=eq_true (by omega)
   (try rw [show ((1:Int)).toNat=1 from rfl] at hx218_0)
   replace p218:=eq_true p218
   replace q218:=eq_true q218
   go_enter Try.func82,Try.ntmps82
   go_wp2
   repeat (go_quiet (fail);try go_wp2)
   go_ret
   exact ⟨by first|rfl|(simp;done)|(simp [*];done),by repeat (first|exact Drawn0.refl _|apply Drawn0.step)⟩
end Go.Proofs.Ytadenfniiihifaa.QFnExactMeasuresOf
