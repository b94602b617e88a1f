/- What each Go function of this text answers, as a plain function, and that the machine comes to just that answer. -/
import Derived.Test.YtadenfniiihifaaQFnExactMeasuresOfx0
namespace Go.Proofs.Ytadenfniiihifaa.QFnExactMeasuresOf
open Go.RowKit Go.Proofs.YtadenfniiihifaaW.PrintWords Go.Proofs.YtadenfniiihifaaW.PrintLast Go.Proofs.YtadenfniiihifaaW.PrintMore
attribute [local go_sem] max2_int min2_int max_two min_two max_three min_three max_four min_four   -- for this text's walks alone
set_option linter.unusedVariables false
set_option maxHeartbeats 8000000
set_option maxRecDepth 100000
set_option linter.unusedSimpArgs false
def impl_common.l0:Nat→Int→Int→Option (Int)
 | 0,_,_=>none
 | k+1,x0,x1=>if x1=0 then (some (mx x0 (wrap64 (-x0)))) else (impl_common.l0 k x1 (Int.tmod x0 x1))
def impl_common.f (k:Nat) (a0:Int) (a1:Int):Option (Int):=impl_common.l0 k a0 a1
theorem impl_common.mono_l:∀ k,(∀ y0 y1,LeO (impl_common.l0 k y0 y1) (impl_common.l0 (k+1) y0 y1))
 | 0=>fun _ _ r h=>by simp [impl_common.l0] at h
 | k+1=>by
  have ih0:=impl_common.mono_l k
  ·intro y0 y1
   unfold impl_common.l0
   repeat' first
   | (with_reducible exact LeO.refl _)
   | exact ih0 _ _
   | exact LeO.none _
   | refine LeO.ite ?_ ?_
   | refine LeO.bind ?_ (fun _=>?_)
theorem impl_common.mono:∀ a0 a1 k,LeO (impl_common.f k a0 a1) (impl_common.f (k+1) a0 a1):=by
 intro a0 a1 k
 have ih0:=impl_common.mono_l k
 unfold impl_common.f
 repeat' first
  | (with_reducible exact LeO.refl _)
  | exact ih0 _ _
  | exact LeO.none _
  | refine LeO.ite ?_ ?_
  | refine LeO.bind ?_ (fun _=>?_)
theorem impl_common.calls (k:Nat) (a0:Int) (a1:Int) (r:Int) (w:World) (h:impl_common.f k a0 a1=some r) :
 Calls Try.prog 71 #[.int .i64 a0,.int .i64 a1] w fun e w'=>e=.returned (.int .i64 r)∧Below w.heap.size w w':=by
 have HB:=Aside0.mk (Below.refl w.heap.size w)
 have H:(impl_common.l0 k a0 a1)=some r:=h
 clear h
 have H':=Aside0.mk H
 clear H
 go_enter Try.func71,Try.ntmps71
 go_wp2
 repeat (go_quiet (fail);try go_wp2)
 go_loopg [0,1] k (fun kq v0 v1 w'=>∃ (x0_1:Int) (x1_1:Int),v0=.int .i64 x0_1∧v1=.int .i64 x1_1∧Aside0 (impl_common.l0 kq x0_1 x1_1=some r)∧Aside0 (kq≤k)∧Aside0 (Below w.heap.size w w'))
 case atStart=>exact ⟨(a0),(a1),(by first|rfl|(simp;done)|(simp [*];done)),(by first|rfl|(simp;done)|(simp [*];done)),H',⟨Nat.le_refl _⟩,⟨by repeat (with_reducible first|exact HB.out|apply bA|apply bN|apply bD)⟩⟩
 case round =>
  clear H'
  obtain ⟨x0_1,x1_1,rfl,rfl,HA,HK1,HB⟩:=hrel
  rcases gk with _|k1
  ·exact absurd HA.out (by simp [impl_common.l0])
  have H:=HA.out
  clear HA
  simp only [impl_common.l0] at H
  by_cases c3:x1_1=0
  ·rw [if_pos c3] at H
   have c3b0:(x1_1 == 0)=true:=beq_iff_eq.mpr c3
   have c3b1:(x1_1 != 0)=false:=bne_eq_false_iff_eq.mpr c3
   clear c3
   obtain ⟨ji4,hji4⟩ : ∃ j_:Int,(mx x0_1 (wrap64 (-x0_1)))=j_:=⟨_,rfl⟩
   replace H:(some ji4)=some r:=by first|(rw [hji4] at H;exact H)|(simp only [hji4] at H ⊢;exact H)
   have hji4_:(if x0_1 < (wrap64 (-x0_1)) then (wrap64 (-x0_1)) else x0_1)=ji4:=hji4
   obtain rfl:=Option.some.inj H
   go_wp2
   repeat (go_quiet (fail);try go_wp2)
   go_ret
   exact ⟨by first|rfl|(simp [errW_none,errW_some] <;> rfl)|(simp only [← hji4];first|rfl|(simp [errW_none,errW_some] <;> rfl))|(simp [*,errW_none,errW_some] <;> rfl),by repeat (with_reducible first|exact HB.out|apply bA|apply bN|apply bD)⟩
  ·rw [if_neg c3] at H
   have c3b0:(x1_1 == 0)=false:=beq_eq_false_iff_ne.mpr c3
   have c3b1:(x1_1 != 0)=true:=bne_iff_ne.mpr c3
   have H':=Aside0.mk H
   clear H
   go_wp2
   repeat (go_quiet (fail);try go_wp2)
   go_roundg k1
   case measure=>have:=HK1.out;omega
   case rel=>exact ⟨(x1_1),(Int.tmod x0_1 x1_1),(by first|rfl|(simp;done)|(simp [*];done)),(by first|rfl|(simp;done)|(simp [*];done)),H',⟨by have:=HK1.out;omega⟩,⟨by repeat (with_reducible first|exact HB.out|apply bA|apply bN|apply bD)⟩⟩
def impl_isDirection.f (k:Nat) (a0:Int) (a1:Int):Option (Bool):=(impl_common.f k a0 a1).bind fun t360=>(if t360=1 then (if a1 > 0 then (some true) else (if a1=0 then (some (a0 == 1)) else (some false))) else (some false))
theorem impl_isDirection.mono:∀ a0 a1 k,LeO (impl_isDirection.f k a0 a1) (impl_isDirection.f (k+1) a0 a1):=by
 intro a0 a1 k
 unfold impl_isDirection.f
 repeat' first
  | (with_reducible exact LeO.refl _)
  | exact impl_common.mono _ _ _
  | exact LeO.none _
  | refine LeO.ite ?_ ?_
  | refine LeO.bind ?_ (fun _=>?_)
theorem impl_isDirection.calls (k:Nat) (a0:Int) (a1:Int) (r:Bool) (w:World) (h:impl_isDirection.f k a0 a1=some r) :
 Calls Try.prog 40 #[.int .i64 a0,.int .i64 a1] w fun e w'=>e=.returned (.bool r)∧Below w.heap.size w w':=by
 have HB:=Aside0.mk (Below.refl w.heap.size w)
 have H:((impl_common.f k a0 a1).bind fun t360=>(if t360=1 then (if a1 > 0 then (some true) else (if a1=0 then (some (a0 == 1)) else (some false))) else (some false)))=some r:=h
 clear h
 replace H:=Option.bind_eq_some_iff.mp H
 obtain ⟨t360,A30,H⟩:=H
 have A3:=Aside0.mk A30
 clear A30
 by_cases c4:t360=1
 ·rw [if_pos c4] at H
  have c4b0:(t360 == 1)=true:=beq_iff_eq.mpr c4
  have c4b1:(t360 != 1)=false:=bne_eq_false_iff_eq.mpr c4
  clear c4
  by_cases c5:a1 > 0
  ·rw [if_pos c5] at H
   have c5b0:decide (0 < a1)=true:=decide_eq_true c5
   clear c5
   obtain rfl:=Option.some.inj H
   go_enter Try.func40,Try.ntmps40
   go_wp2_with (first|((with_reducible refine gate_callee (f:=71) rfl ?_);refine goesL_ (some 7) rfl rfl Try.func71 (by kernel_rfl) rfl #[.int .i64 a0,.int .i64 a1] rfl (by (try simp only [List.map_toArray,List.map_cons,List.map_nil]);first|done|rfl) ?_;(with_reducible refine (impl_common.calls k a0 a1 t360 _ A3.out).mono ?_);rintro e w6 ⟨rfl,hb⟩;refine ⟨_,rfl,?_⟩;have n0_:=Aside0.mk (below_step (by repeat (with_reducible first|exact HB.out|apply bA|apply bN|apply bD)) hb);clear HB;have HB:=n0_;clear n0_;(try clear hb)))
   go_ret
   exact ⟨by first|rfl|(simp [errW_none,errW_some] <;> rfl)|(simp [*,errW_none,errW_some] <;> rfl),by repeat (with_reducible first|exact HB.out|apply bA|apply bN|apply bD)⟩
  ·rw [if_neg c5] at H
   have c5b0:decide (0 < a1)=false:=decide_eq_false c5
   clear c5
   by_cases c7:a1=0
   ·rw [if_pos c7] at H
    have c7b0:(a1 == 0)=true:=beq_iff_eq.mpr c7
    have c7b1:(a1 != 0)=false:=bne_eq_false_iff_eq.mpr c7
    clear c7
    obtain rfl:=Option.some.inj H
    go_enter Try.func40,Try.ntmps40
    go_wp2_with (first|((with_reducible refine gate_callee (f:=71) rfl ?_);refine goesL_ (some 7) rfl rfl Try.func71 (by kernel_rfl) rfl #[.int .i64 a0,.int .i64 a1] rfl (by (try simp only [List.map_toArray,List.map_cons,List.map_nil]);first|done|rfl) ?_;(with_reducible refine (impl_common.calls k a0 a1 t360 _ A3.out).mono ?_);rintro e w8 ⟨rfl,hb⟩;refine ⟨_,rfl,?_⟩;have n0_:=Aside0.mk (below_step (by repeat (with_reducible first|exact HB.out|apply bA|apply bN|apply bD)) hb);clear HB;have HB:=n0_;clear n0_;(try clear hb)))
    go_ret
    exact ⟨by first|rfl|(simp [errW_none,errW_some] <;> rfl)|(simp [*,errW_none,errW_some] <;> rfl),by repeat (with_reducible first|exact HB.out|apply bA|apply bN|apply bD)⟩
   ·rw [if_neg c7] at H
    have c7b0:(a1 == 0)=false:=beq_eq_false_iff_ne.mpr c7
    have c7b1:(a1 != 0)=true:=bne_iff_ne.mpr c7
    obtain rfl:=Option.some.inj H
    go_enter Try.func40,Try.ntmps40
    go_wp2_with (first|((with_reducible refine gate_callee (f:=71) rfl ?_);refine goesL_ (some 7) rfl rfl Try.func71 (by kernel_rfl) rfl #[.int .i64 a0,.int .i64 a1] rfl (by (try simp only [List.map_toArray,List.map_cons,List.map_nil]);first|done|rfl) ?_;(with_reducible refine (impl_common.calls k a0 a1 t360 _ A3.out).mono ?_);rintro e w9 ⟨rfl,hb⟩;refine ⟨_,rfl,?_⟩;have n0_:=Aside0.mk (below_step (by repeat (with_reducible first|exact HB.out|apply bA|apply bN|apply bD)) hb);clear HB;have HB:=n0_;clear n0_;(try clear hb)))
    go_ret
    exact ⟨by first|rfl|(simp [errW_none,errW_some] <;> rfl)|(simp [*,errW_none,errW_some] <;> rfl),by repeat (with_reducible first|exact HB.out|apply bA|apply bN|apply bD)⟩
 ·rw [if_neg c4] at H
  have c4b0:(t360 == 1)=false:=beq_eq_false_iff_ne.mpr c4
  have c4b1:(t360 != 1)=true:=bne_iff_ne.mpr c4
  obtain rfl:=Option.some.inj H
  go_enter Try.func40,Try.ntmps40
  go_wp2_with (first|((with_reducible refine gate_callee (f:=71) rfl ?_);refine goesL_ (some 7) rfl rfl Try.func71 (by kernel_rfl) rfl #[.int .i64 a0,.int .i64 a1] rfl (by (try simp only [List.map_toArray,List.map_cons,List.map_nil]);first|done|rfl) ?_;(with_reducible refine (impl_common.calls k a0 a1 t360 _ A3.out).mono ?_);rintro e w10 ⟨rfl,hb⟩;refine ⟨_,rfl,?_⟩;have n0_:=Aside0.mk (below_step (by repeat (with_reducible first|exact HB.out|apply bA|apply bN|apply bD)) hb);clear HB;have HB:=n0_;clear n0_;(try clear hb)))
  go_ret
  exact ⟨by first|rfl|(simp [errW_none,errW_some] <;> rfl)|(simp [*,errW_none,errW_some] <;> rfl),by repeat (with_reducible first|exact HB.out|apply bA|apply bN|apply bD)⟩
def impl_directionOf.f (k:Nat) (a0_0:Int) (a0_1:Int) (a1_0:Int) (a1_1:Int):Option (Int × Int × Int):=(impl_common.f k (wrap64 (a1_0 - a0_0)) (wrap64 (a1_1 - a0_1))).bind fun t363=>(if t363=0 then (none) else ((impl_isDirection.f k (wrap64 (Int.tdiv (wrap64 (a1_0 - a0_0)) t363)) (wrap64 (Int.tdiv (wrap64 (a1_1 - a0_1)) t363))).bind fun t364=>(if t364=true then (some (wrap64 (Int.tdiv (wrap64 (a1_0 - a0_0)) t363),wrap64 (Int.tdiv (wrap64 (a1_1 - a0_1)) t363),t363)) else (some (wrap64 (-(wrap64 (Int.tdiv (wrap64 (a1_0 - a0_0)) t363))),wrap64 (-(wrap64 (Int.tdiv (wrap64 (a1_1 - a0_1)) t363))),wrap64 (-t363))))))
theorem impl_directionOf.mono:∀ a0 a1 a2 a3 k,LeO (impl_directionOf.f k a0 a1 a2 a3) (impl_directionOf.f (k+1) a0 a1 a2 a3):=by
 intro a0 a1 a2 a3 k
 unfold impl_directionOf.f
 repeat' first
  | (with_reducible exact LeO.refl _)
  | exact impl_common.mono _ _ _
  | exact impl_isDirection.mono _ _ _
  | exact LeO.none _
  | refine LeO.ite ?_ ?_
  | refine LeO.bind ?_ (fun _=>?_)
theorem impl_directionOf.calls (k:Nat) (a0_0:Int) (a0_1:Int) (a1_0:Int) (a1_1:Int) (r1:Int) (r2:Int) (r3:Int) (w:World) (h:impl_directionOf.f k a0_0 a0_1 a1_0 a1_1=some (r1,r2,r3)) :
 Calls Try.prog 69 #[.agg #[.int .i64 a0_0,.int .i64 a0_1],.agg #[.int .i64 a1_0,.int .i64 a1_1]] w fun e w'=>e=.returned (.tuple #[.int .i64 r1,.int .i64 r2,.int .i64 r3])∧Below w.heap.size w w':=by
 have hu40:=Try.underlying40
 have HB:=Aside0.mk (Below.refl w.heap.size w)
 have H:((impl_common.f k (wrap64 (a1_0 - a0_0)) (wrap64 (a1_1 - a0_1))).bind fun t363=>(if t363=0 then (none) else ((impl_isDirection.f k (wrap64 (Int.tdiv (wrap64 (a1_0 - a0_0)) t363)) (wrap64 (Int.tdiv (wrap64 (a1_1 - a0_1)) t363))).bind fun t364=>(if t364=true then (some (wrap64 (Int.tdiv (wrap64 (a1_0 - a0_0)) t363),wrap64 (Int.tdiv (wrap64 (a1_1 - a0_1)) t363),t363)) else (some (wrap64 (-(wrap64 (Int.tdiv (wrap64 (a1_0 - a0_0)) t363))),wrap64 (-(wrap64 (Int.tdiv (wrap64 (a1_1 - a0_1)) t363))),wrap64 (-t363)))))))=some (r1,r2,r3):=h
 clear h
 replace H:=Option.bind_eq_some_iff.mp H
 obtain ⟨t363,A30,H⟩:=H
 have A3:=Aside0.mk A30
 clear A30
 by_cases c4:t363=0
 ·rw [if_pos c4] at H
  exact absurd H (by simp)
 ·rw [if_neg c4] at H
  have c4b0:(t363 == 0)=false:=beq_eq_false_iff_ne.mpr c4
  have c4b1:(t363 != 0)=true:=bne_iff_ne.mpr c4
  replace H:=Option.bind_eq_some_iff.mp H
  obtain ⟨t364,A50,H⟩:=H
  have A5:=Aside0.mk A50
  clear A50
  by_cases c6:t364=true
  ·subst c6
   rw [if_pos rfl] at H
   simp only [Option.some.injEq,Prod.mk.injEq] at H
   obtain ⟨rfl,rfl,rfl⟩:=H
   go_enter Try.func69,Try.ntmps69
   go_wp2_with (first|((with_reducible refine gate_dst (N:=2) rfl ?_);refine bE 2 #[.int .i64 a0_0,.int .i64 a0_1] 40 ?_;intro gb361 hg w7 hbox hb;have n0_:=Aside0.mk (below_step (by repeat (with_reducible first|exact HB.out|apply bA|apply bN|apply bD)) hb);have n1_:=Aside0.mk (hbox);have n2_:=Aside0.mk ((by rw [hg];exact (below_size (by repeat (with_reducible first|exact HB.out|apply bA|apply bN|apply bD))):w.heap.size≤gb361));have n3_:=Aside0.mk ((by rw [hg];exact (below_size (by repeat (with_reducible first|exact HB.out|apply bA|apply bN|apply bD))):w.heap.size≤gb361));clear HB;have HB:=n0_;have BK361:=n1_;have GW361:=n2_;have GE361:=n3_;clear n0_ n1_ n2_ n3_;clear hb hbox hg)|((with_reducible refine gate_dst (N:=3) rfl ?_);refine bE 3 #[.int .i64 a1_0,.int .i64 a1_1] 40 ?_;intro gb362 hg w8 hbox hb;have n0_:=Aside0.mk (blk_below (by repeat (with_reducible first|exact BK361.out|apply kN|apply kD|apply kA)) hb);have n1_:=Aside0.mk (below_step (by repeat (first|(with_reducible first|exact HB.out|apply bA|apply bN|apply bD|refine bS ?_ GE361.out)|exact HB.out)) hb);have n2_:=Aside0.mk (hbox);have n3_:=Aside0.mk ((by rw [hg];exact (below_size (by repeat (first|(with_reducible first|exact HB.out|apply bA|apply bN|apply bD|refine bS ?_ GE361.out)|exact HB.out))):w.heap.size≤gb362));have n4_:=Aside0.mk ((by rw [hg];exact (below_size (by repeat (first|(with_reducible first|exact HB.out|apply bA|apply bN|apply bD|refine bS ?_ GE361.out)|exact HB.out))):w.heap.size≤gb362));have n5_:=Aside0.mk ((by rw [hg];exact Nat.ne_of_lt (blk_lt (by repeat (with_reducible first|exact BK361.out|apply kN|apply kD|apply kA))):gb361≠gb362));have n6_:=Aside0.mk ((by rw [hg];exact Nat.ne_of_gt (blk_lt (by repeat (with_reducible first|exact BK361.out|apply kN|apply kD|apply kA))):gb362≠gb361));clear BK361;clear HB;have BK361:=n0_;have HB:=n1_;have BK362:=n2_;have GW362:=n3_;have GE362:=n4_;have NB361_362:=n5_;have NB362_361:=n6_;clear n0_ n1_ n2_ n3_ n4_ n5_ n6_;clear hb hbox hg;have hnb9:=NB362_361.out;have hnc9:=NB361_362.out;have hcz10_0:w8.cell? ⟨gb362,0,none⟩=some (.int .i64 a1_0):=(blk_cell BK362.out 0).trans rfl;have hcz10_1:w8.cell? ⟨gb362,1,none⟩=some (.int .i64 a1_1):=(blk_cell BK362.out 1).trans rfl;have hfz10_0:=blk_frozen BK362.out 0;have hfz10_1:=blk_frozen BK362.out 1;have hcz11_0:w8.cell? ⟨gb361,0,none⟩=some (.int .i64 a0_0):=(blk_cell BK361.out 0).trans rfl;have hcz11_1:w8.cell? ⟨gb361,1,none⟩=some (.int .i64 a0_1):=(blk_cell BK361.out 1).trans rfl;have hfz11_0:=blk_frozen BK361.out 0;have hfz11_1:=blk_frozen BK361.out 1)|(go_at_call 71;(with_reducible refine (impl_common.calls k (wrap64 (a1_0 - a0_0)) (wrap64 (a1_1 - a0_1)) t363 _ A3.out).mono ?_);rintro e w12 ⟨rfl,hb⟩;have n0_:=Aside0.mk (blk_below (by repeat (with_reducible first|exact BK361.out|apply kN|apply kD|apply kA)) hb);have n1_:=Aside0.mk (blk_below (by repeat (with_reducible first|exact BK362.out|apply kN|apply kD|apply kA)) hb);have n2_:=Aside0.mk (below_step (by repeat (first|(with_reducible first|exact HB.out|apply bA|apply bN|apply bD|refine bS ?_ GE361.out|refine bS ?_ GE362.out)|exact HB.out)) hb);clear BK361;clear BK362;clear HB;have BK361:=n0_;have BK362:=n1_;have HB:=n2_;clear n0_ n1_ n2_;(try clear hb);have hcz13_0:w12.cell? ⟨gb362,0,none⟩=some (.int .i64 a1_0):=(blk_cell BK362.out 0).trans rfl;have hcz13_1:w12.cell? ⟨gb362,1,none⟩=some (.int .i64 a1_1):=(blk_cell BK362.out 1).trans rfl;have hfz13_0:=blk_frozen BK362.out 0;have hfz13_1:=blk_frozen BK362.out 1;have hcz14_0:w12.cell? ⟨gb361,0,none⟩=some (.int .i64 a0_0):=(blk_cell BK361.out 0).trans rfl;have hcz14_1:w12.cell? ⟨gb361,1,none⟩=some (.int .i64 a0_1):=(blk_cell BK361.out 1).trans rfl;have hfz14_0:=blk_frozen BK361.out 0;have hfz14_1:=blk_frozen BK361.out 1)|(go_at_call 40;(with_reducible refine (impl_isDirection.calls k (wrap64 (Int.tdiv (wrap64 (a1_0 - a0_0)) t363)) (wrap64 (Int.tdiv (wrap64 (a1_1 - a0_1)) t363)) true _ A5.out).mono ?_);rintro e w15 ⟨rfl,hb⟩;have n0_:=Aside0.mk (blk_below (by repeat (with_reducible first|exact BK361.out|apply kN|apply kD|apply kA)) hb);have n1_:=Aside0.mk (blk_below (by repeat (with_reducible first|exact BK362.out|apply kN|apply kD|apply kA)) hb);have n2_:=Aside0.mk (below_step (by repeat (first|(with_reducible first|exact HB.out|apply bA|apply bN|apply bD|refine bS ?_ GE361.out|refine bS ?_ GE362.out)|exact HB.out)) hb);clear BK361;clear BK362;clear HB;have BK361:=n0_;have BK362:=n1_;have HB:=n2_;clear n0_ n1_ n2_;(try clear hb)))
   repeat (go_quiet (first|((with_reducible refine gate_dst (N:=2) rfl ?_);refine bE 2 #[.int .i64 a0_0,.int .i64 a0_1] 40 ?_;intro gb361 hg w7 hbox hb;have n0_:=Aside0.mk (below_step (by repeat (with_reducible first|exact HB.out|apply bA|apply bN|apply bD)) hb);have n1_:=Aside0.mk (hbox);have n2_:=Aside0.mk ((by rw [hg];exact (below_size (by repeat (with_reducible first|exact HB.out|apply bA|apply bN|apply bD))):w.heap.size≤gb361));have n3_:=Aside0.mk ((by rw [hg];exact (below_size (by repeat (with_reducible first|exact HB.out|apply bA|apply bN|apply bD))):w.heap.size≤gb361));clear HB;have HB:=n0_;have BK361:=n1_;have GW361:=n2_;have GE361:=n3_;clear n0_ n1_ n2_ n3_;clear hb hbox hg)|((with_reducible refine gate_dst (N:=3) rfl ?_);refine bE 3 #[.int .i64 a1_0,.int .i64 a1_1] 40 ?_;intro gb362 hg w8 hbox hb;have n0_:=Aside0.mk (blk_below (by repeat (with_reducible first|exact BK361.out|apply kN|apply kD|apply kA)) hb);have n1_:=Aside0.mk (below_step (by repeat (first|(with_reducible first|exact HB.out|apply bA|apply bN|apply bD|refine bS ?_ GE361.out)|exact HB.out)) hb);have n2_:=Aside0.mk (hbox);have n3_:=Aside0.mk ((by rw [hg];exact (below_size (by repeat (first|(with_reducible first|exact HB.out|apply bA|apply bN|apply bD|refine bS ?_ GE361.out)|exact HB.out))):w.heap.size≤gb362));have n4_:=Aside0.mk ((by rw [hg];exact (below_size (by repeat (first|(with_reducible first|exact HB.out|apply bA|apply bN|apply bD|refine bS ?_ GE361.out)|exact HB.out))):w.heap.size≤gb362));have n5_:=Aside0.mk ((by rw [hg];exact Nat.ne_of_lt (blk_lt (by repeat (with_reducible first|exact BK361.out|apply kN|apply kD|apply kA))):gb361≠gb362));have n6_:=Aside0.mk ((by rw [hg];exact Nat.ne_of_gt (blk_lt (by repeat (with_reducible first|exact BK361.out|apply kN|apply kD|apply kA))):gb362≠gb361));clear BK361;clear HB;have BK361:=n0_;have HB:=n1_;have BK362:=n2_;have GW362:=n3_;have GE362:=n4_;have NB361_362:=n5_;have NB362_361:=n6_;clear n0_ n1_ n2_ n3_ n4_ n5_ n6_;clear hb hbox hg;have hnb9:=NB362_361.out;have hnc9:=NB361_362.out;have hcz10_0:w8.cell? ⟨gb362,0,none⟩=some (.int .i64 a1_0):=(blk_cell BK362.out 0).trans rfl;have hcz10_1:w8.cell? ⟨gb362,1,none⟩=some (.int .i64 a1_1):=(blk_cell BK362.out 1).trans rfl;have hfz10_0:=blk_frozen BK362.out 0;have hfz10_1:=blk_frozen BK362.out 1;have hcz11_0:w8.cell? ⟨gb361,0,none⟩=some (.int .i64 a0_0):=(blk_cell BK361.out 0).trans rfl;have hcz11_1:w8.cell? ⟨gb361,1,none⟩=some (.int .i64 a0_1):=(blk_cell BK361.out 1).trans rfl;have hfz11_0:=blk_frozen BK361.out 0;have hfz11_1:=blk_frozen BK361.out 1)|(go_at_call 71;(with_reducible refine (impl_common.calls k (wrap64 (a1_0 - a0_0)) (wrap64 (a1_1 - a0_1)) t363 _ A3.out).mono ?_);rintro e w12 ⟨rfl,hb⟩;have n0_:=Aside0.mk (blk_below (by repeat (with_reducible first|exact BK361.out|apply kN|apply kD|apply kA)) hb);have n1_:=Aside0.mk (blk_below (by repeat (with_reducible first|exact BK362.out|apply kN|apply kD|apply kA)) hb);have n2_:=Aside0.mk (below_step (by repeat (first|(with_reducible first|exact HB.out|apply bA|apply bN|apply bD|refine bS ?_ GE361.out|refine bS ?_ GE362.out)|exact HB.out)) hb);clear BK361;clear BK362;clear HB;have BK361:=n0_;have BK362:=n1_;have HB:=n2_;clear n0_ n1_ n2_;(try clear hb);have hcz13_0:w12.cell? ⟨gb362,0,none⟩=some (.int .i64 a1_0):=(blk_cell BK362.out 0).trans rfl;have hcz13_1:w12.cell? ⟨gb362,1,none⟩=some (.int .i64 a1_1):=(blk_cell BK362.out 1).trans rfl;have hfz13_0:=blk_frozen BK362.out 0;have hfz13_1:=blk_frozen BK362.out 1;have hcz14_0:w12.cell? ⟨gb361,0,none⟩=some (.int .i64 a0_0):=(blk_cell BK361.out 0).trans rfl;have hcz14_1:w12.cell? ⟨gb361,1,none⟩=some (.int .i64 a0_1):=(blk_cell BK361.out 1).trans rfl;have hfz14_0:=blk_frozen BK361.out 0;have hfz14_1:=blk_frozen BK361.out 1)|(go_at_call 40;(with_reducible refine (impl_isDirection.calls k (wrap64 (Int.tdiv (wrap64 (a1_0 - a0_0)) t363)) (wrap64 (Int.tdiv (wrap64 (a1_1 - a0_1)) t363)) true _ A5.out).mono ?_);rintro e w15 ⟨rfl,hb⟩;have n0_:=Aside0.mk (blk_below (by repeat (with_reducible first|exact BK361.out|apply kN|apply kD|apply kA)) hb);have n1_:=Aside0.mk (blk_below (by repeat (with_reducible first|exact BK362.out|apply kN|apply kD|apply kA)) hb);have n2_:=Aside0.mk (below_step (by repeat (first|(with_reducible first|exact HB.out|apply bA|apply bN|apply bD|refine bS ?_ GE361.out|refine bS ?_ GE362.out)|exact HB.out)) hb);clear BK361;clear BK362;clear HB;have BK361:=n0_;have BK362:=n1_;have HB:=n2_;clear n0_ n1_ n2_;(try clear hb)));try go_wp2_with (first|((with_reducible refine gate_dst (N:=2) rfl ?_);refine bE 2 #[.int .i64 a0_0,.int .i64 a0_1] 40 ?_;intro gb361 hg w7 hbox hb;have n0_:=Aside0.mk (below_step (by repeat (with_reducible first|exact HB.out|apply bA|apply bN|apply bD)) hb);have n1_:=Aside0.mk (hbox);have n2_:=Aside0.mk ((by rw [hg];exact (below_size (by repeat (with_reducible first|exact HB.out|apply bA|apply bN|apply bD))):w.heap.size≤gb361));have n3_:=Aside0.mk ((by rw [hg];exact (below_size (by repeat (with_reducible first|exact HB.out|apply bA|apply bN|apply bD))):w.heap.size≤gb361));clear HB;have HB:=n0_;have BK361:=n1_;have GW361:=n2_;have GE361:=n3_;clear n0_ n1_ n2_ n3_;clear hb hbox hg)|((with_reducible refine gate_dst (N:=3) rfl ?_);refine bE 3 #[.int .i64 a1_0,.int .i64 a1_1] 40 ?_;intro gb362 hg w8 hbox hb;have n0_:=Aside0.mk (blk_below (by repeat (with_reducible first|exact BK361.out|apply kN|apply kD|apply kA)) hb);have n1_:=Aside0.mk (below_step (by repeat (first|(with_reducible first|exact HB.out|apply bA|apply bN|apply bD|refine bS ?_ GE361.out)|exact HB.out)) hb);have n2_:=Aside0.mk (hbox);have n3_:=Aside0.mk ((by rw [hg];exact (below_size (by repeat (first|(with_reducible first|exact HB.out|apply bA|apply bN|apply bD|refine bS ?_ GE361.out)|exact HB.out))):w.heap.size≤gb362));have n4_:=Aside0.mk ((by rw [hg];exact (below_size (by repeat (first|(with_reducible first|exact HB.out|apply bA|apply bN|apply bD|refine bS ?_ GE361.out)|exact HB.out))):w.heap.size≤gb362));have n5_:=Aside0.mk ((by rw [hg];exact Nat.ne_of_lt (blk_lt (by repeat (with_reducible first|exact BK361.out|apply kN|apply kD|apply kA))):gb361≠gb362));have n6_:=Aside0.mk ((by rw [hg];exact Nat.ne_of_gt (blk_lt (by repeat (with_reducible first|exact BK361.out|apply kN|apply kD|apply kA))):gb362≠gb361));clear BK361;clear HB;have BK361:=n0_;have HB:=n1_;have BK362:=n2_;have GW362:=n3_;have GE362:=n4_;have NB361_362:=n5_;have NB362_361:=n6_;clear n0_ n1_ n2_ n3_ n4_ n5_ n6_;clear hb hbox hg;have hnb9:=NB362_361.out;have hnc9:=NB361_362.out;have hcz10_0:w8.cell? ⟨gb362,0,none⟩=some (.int .i64 a1_0):=(blk_cell BK362.out 0).trans rfl;have hcz10_1:w8.cell? ⟨gb362,1,none⟩=some (.int .i64 a1_1):=(blk_cell BK362.out 1).trans rfl;have hfz10_0:=blk_frozen BK362.out 0;have hfz10_1:=blk_frozen BK362.out 1;have hcz11_0:w8.cell? ⟨gb361,0,none⟩=some (.int .i64 a0_0):=(blk_cell BK361.out 0).trans rfl;have hcz11_1:w8.cell? ⟨gb361,1,none⟩=some (.int .i64 a0_1):=(blk_cell BK361.out 1).trans rfl;have hfz11_0:=blk_frozen BK361.out 0;have hfz11_1:=blk_frozen BK361.out 1)|(go_at_call 71;(with_reducible refine (impl_common.calls k (wrap64 (a1_0 - a0_0)) (wrap64 (a1_1 - a0_1)) t363 _ A3.out).mono ?_);rintro e w12 ⟨rfl,hb⟩;have n0_:=Aside0.mk (blk_below (by repeat (with_reducible first|exact BK361.out|apply kN|apply kD|apply kA)) hb);have n1_:=Aside0.mk (blk_below (by repeat (with_reducible first|exact BK362.out|apply kN|apply kD|apply kA)) hb);have n2_:=Aside0.mk (below_step (by repeat (first|(with_reducible first|exact HB.out|apply bA|apply bN|apply bD|refine bS ?_ GE361.out|refine bS ?_ GE362.out)|exact HB.out)) hb);clear BK361;clear BK362;clear HB;have BK361:=n0_;have BK362:=n1_;have HB:=n2_;clear n0_ n1_ n2_;(try clear hb);have hcz13_0:w12.cell? ⟨gb362,0,none⟩=some (.int .i64 a1_0):=(blk_cell BK362.out 0).trans rfl;have hcz13_1:w12.cell? ⟨gb362,1,none⟩=some (.int .i64 a1_1):=(blk_cell BK362.out 1).trans rfl;have hfz13_0:=blk_frozen BK362.out 0;have hfz13_1:=blk_frozen BK362.out 1;have hcz14_0:w12.cell? ⟨gb361,0,none⟩=some (.int .i64 a0_0):=(blk_cell BK361.out 0).trans rfl;have hcz14_1:w12.cell? ⟨gb361,1,none⟩=some (.int .i64 a0_1):=(blk_cell BK361.out 1).trans rfl;have hfz14_0:=blk_frozen BK361.out 0;have hfz14_1:=blk_frozen BK361.out 1)|(go_at_call 40;(with_reducible refine (impl_isDirection.calls k (wrap64 (Int.tdiv (wrap64 (a1_0 - a0_0)) t363)) (wrap64 (Int.tdiv (wrap64 (a1_1 - a0_1)) t363)) true _ A5.out).mono ?_);rintro e w15 ⟨rfl,hb⟩;have n0_:=Aside0.mk (blk_below (by repeat (with_reducible first|exact BK361.out|apply kN|apply kD|apply kA)) hb);have n1_:=Aside0.mk (blk_below (by repeat (with_reducible first|exact BK362.out|apply kN|apply kD|apply kA)) hb);have n2_:=Aside0.mk (below_step (by repeat (first|(with_reducible first|exact HB.out|apply bA|apply bN|apply bD|refine bS ?_ GE361.out|refine bS ?_ GE362.out)|exact HB.out)) hb);clear BK361;clear BK362;clear HB;have BK361:=n0_;have BK362:=n1_;have HB:=n2_;clear n0_ n1_ n2_;(try clear hb))))
   go_ret3
   exact ⟨by first|rfl|(simp [errW_none,errW_some] <;> rfl)|(simp [*,errW_none,errW_some] <;> rfl),by repeat (first|(with_reducible first|exact HB.out|apply bA|apply bN|apply bD|refine bS ?_ GE361.out|refine bS ?_ GE362.out)|exact HB.out)⟩
  ·replace c6:=Bool.eq_false_iff.mpr c6
   subst c6
   rw [if_neg (show ¬ (false=true) by decide)] at H
   simp only [Option.some.injEq,Prod.mk.injEq] at H
   obtain ⟨rfl,rfl,rfl⟩:=H
   go_enter Try.func69,Try.ntmps69
   go_wp2_with (first|((with_reducible refine gate_dst (N:=2) rfl ?_);refine bE 2 #[.int .i64 a0_0,.int .i64 a0_1] 40 ?_;intro gb361 hg w16 hbox hb;have n0_:=Aside0.mk (below_step (by repeat (with_reducible first|exact HB.out|apply bA|apply bN|apply bD)) hb);have n1_:=Aside0.mk (hbox);have n2_:=Aside0.mk ((by rw [hg];exact (below_size (by repeat (with_reducible first|exact HB.out|apply bA|apply bN|apply bD))):w.heap.size≤gb361));have n3_:=Aside0.mk ((by rw [hg];exact (below_size (by repeat (with_reducible first|exact HB.out|apply bA|apply bN|apply bD))):w.heap.size≤gb361));clear HB;have HB:=n0_;have BK361:=n1_;have GW361:=n2_;have GE361:=n3_;clear n0_ n1_ n2_ n3_;clear hb hbox hg)|((with_reducible refine gate_dst (N:=3) rfl ?_);refine bE 3 #[.int .i64 a1_0,.int .i64 a1_1] 40 ?_;intro gb362 hg w17 hbox hb;have n0_:=Aside0.mk (blk_below (by repeat (with_reducible first|exact BK361.out|apply kN|apply kD|apply kA)) hb);have n1_:=Aside0.mk (below_step (by repeat (first|(with_reducible first|exact HB.out|apply bA|apply bN|apply bD|refine bS ?_ GE361.out)|exact HB.out)) hb);have n2_:=Aside0.mk (hbox);have n3_:=Aside0.mk ((by rw [hg];exact (below_size (by repeat (first|(with_reducible first|exact HB.out|apply bA|apply bN|apply bD|refine bS ?_ GE361.out)|exact HB.out))):w.heap.size≤gb362));have n4_:=Aside0.mk ((by rw [hg];exact (below_size (by repeat (first|(with_reducible first|exact HB.out|apply bA|apply bN|apply bD|refine bS ?_ GE361.out)|exact HB.out))):w.heap.size≤gb362));have n5_:=Aside0.mk ((by rw [hg];exact Nat.ne_of_lt (blk_lt (by repeat (with_reducible first|exact BK361.out|apply kN|apply kD|apply kA))):gb361≠gb362));have n6_:=Aside0.mk ((by rw [hg];exact Nat.ne_of_gt (blk_lt (by repeat (with_reducible first|exact BK361.out|apply kN|apply kD|apply kA))):gb362≠gb361));clear BK361;clear HB;have BK361:=n0_;have HB:=n1_;have BK362:=n2_;have GW362:=n3_;have GE362:=n4_;have NB361_362:=n5_;have NB362_361:=n6_;clear n0_ n1_ n2_ n3_ n4_ n5_ n6_;clear hb hbox hg;have hnb18:=NB362_361.out;have hnc18:=NB361_362.out;have hcz19_0:w17.cell? ⟨gb362,0,none⟩=some (.int .i64 a1_0):=(blk_cell BK362.out 0).trans rfl;have hcz19_1:w17.cell? ⟨gb362,1,none⟩=some (.int .i64 a1_1):=(blk_cell BK362.out 1).trans rfl;have hfz19_0:=blk_frozen BK362.out 0;have hfz19_1:=blk_frozen BK362.out 1;have hcz20_0:w17.cell? ⟨gb361,0,none⟩=some (.int .i64 a0_0):=(blk_cell BK361.out 0).trans rfl;have hcz20_1:w17.cell? ⟨gb361,1,none⟩=some (.int .i64 a0_1):=(blk_cell BK361.out 1).trans rfl;have hfz20_0:=blk_frozen BK361.out 0;have hfz20_1:=blk_frozen BK361.out 1)|(go_at_call 71;(with_reducible refine (impl_common.calls k (wrap64 (a1_0 - a0_0)) (wrap64 (a1_1 - a0_1)) t363 _ A3.out).mono ?_);rintro e w21 ⟨rfl,hb⟩;have n0_:=Aside0.mk (blk_below (by repeat (with_reducible first|exact BK361.out|apply kN|apply kD|apply kA)) hb);have n1_:=Aside0.mk (blk_below (by repeat (with_reducible first|exact BK362.out|apply kN|apply kD|apply kA)) hb);have n2_:=Aside0.mk (below_step (by repeat (first|(with_reducible first|exact HB.out|apply bA|apply bN|apply bD|refine bS ?_ GE361.out|refine bS ?_ GE362.out)|exact HB.out)) hb);clear BK361;clear BK362;clear HB;have BK361:=n0_;have BK362:=n1_;have HB:=n2_;clear n0_ n1_ n2_;(try clear hb);have hcz22_0:w21.cell? ⟨gb362,0,none⟩=some (.int .i64 a1_0):=(blk_cell BK362.out 0).trans rfl;have hcz22_1:w21.cell? ⟨gb362,1,none⟩=some (.int .i64 a1_1):=(blk_cell BK362.out 1).trans rfl;have hfz22_0:=blk_frozen BK362.out 0;have hfz22_1:=blk_frozen BK362.out 1;have hcz23_0:w21.cell? ⟨gb361,0,none⟩=some (.int .i64 a0_0):=(blk_cell BK361.out 0).trans rfl;have hcz23_1:w21.cell? ⟨gb361,1,none⟩=some (.int .i64 a0_1):=(blk_cell BK361.out 1).trans rfl;have hfz23_0:=blk_frozen BK361.out 0;have hfz23_1:=blk_frozen BK361.out 1)|(go_at_call 40;(with_reducible refine (impl_isDirection.calls k (wrap64 (Int.tdiv (wrap64 (a1_0 - a0_0)) t363)) (wrap64 (Int.tdiv (wrap64 (a1_1 - a0_1)) t363)) false _ A5.out).mono ?_);rintro e w24 ⟨rfl,hb⟩;have n0_:=Aside0.mk (blk_below (by repeat (with_reducible first|exact BK361.out|apply kN|apply kD|apply kA)) hb);have n1_:=Aside0.mk (blk_below (by repeat (with_reducible first|exact BK362.out|apply kN|apply kD|apply kA)) hb);have n2_:=Aside0.mk (below_step (by repeat (first|(with_reducible first|exact HB.out|apply bA|apply bN|apply bD|refine bS ?_ GE361.out|refine bS ?_ GE362.out)|exact HB.out)) hb);clear BK361;clear BK362;clear HB;have BK361:=n0_;have BK362:=n1_;have HB:=n2_;clear n0_ n1_ n2_;(try clear hb)))
   repeat (go_quiet (first|((with_reducible refine gate_dst (N:=2) rfl ?_);refine bE 2 #[.int .i64 a0_0,.int .i64 a0_1] 40 ?_;intro gb361 hg w16 hbox hb;have n0_:=Aside0.mk (below_step (by repeat (with_reducible first|exact HB.out|apply bA|apply bN|apply bD)) hb);have n1_:=Aside0.mk (hbox);have n2_:=Aside0.mk ((by rw [hg];exact (below_size (by repeat (with_reducible first|exact HB.out|apply bA|apply bN|apply bD))):w.heap.size≤gb361));have n3_:=Aside0.mk ((by rw [hg];exact (below_size (by repeat (with_reducible first|exact HB.out|apply bA|apply bN|apply bD))):w.heap.size≤gb361));clear HB;have HB:=n0_;have BK361:=n1_;have GW361:=n2_;have GE361:=n3_;clear n0_ n1_ n2_ n3_;clear hb hbox hg)|((with_reducible refine gate_dst (N:=3) rfl ?_);refine bE 3 #[.int .i64 a1_0,.int .i64 a1_1] 40 ?_;intro gb362 hg w17 hbox hb;have n0_:=Aside0.mk (blk_below (by repeat (with_reducible first|exact BK361.out|apply kN|apply kD|apply kA)) hb);have n1_:=Aside0.mk (below_step (by repeat (first|(with_reducible first|exact HB.out|apply bA|apply bN|apply bD|refine bS ?_ GE361.out)|exact HB.out)) hb);have n2_:=Aside0.mk (hbox);have n3_:=Aside0.mk ((by rw [hg];exact (below_size (by repeat (first|(with_reducible first|exact HB.out|apply bA|apply bN|apply bD|refine bS ?_ GE361.out)|exact HB.out))):w.heap.size≤gb362));have n4_:=Aside0.mk ((by rw [hg];exact (below_size (by repeat (first|(with_reducible first|exact HB.out|apply bA|apply bN|apply bD|refine bS ?_ GE361.out)|exact HB.out))):w.heap.size≤gb362));have n5_:=Aside0.mk ((by rw [hg];exact Nat.ne_of_lt (blk_lt (by repeat (with_reducible first|exact BK361.out|apply kN|apply kD|apply kA))):gb361≠gb362));have n6_:=Aside0.mk ((by rw [hg];exact Nat.ne_of_gt (blk_lt (by repeat (with_reducible first|exact BK361.out|apply kN|apply kD|apply kA))):gb362≠gb361));clear BK361;clear HB;have BK361:=n0_;have HB:=n1_;have BK362:=n2_;have GW362:=n3_;have GE362:=n4_;have NB361_362:=n5_;have NB362_361:=n6_;clear n0_ n1_ n2_ n3_ n4_ n5_ n6_;clear hb hbox hg;have hnb18:=NB362_361.out;have hnc18:=NB361_362.out;have hcz19_0:w17.cell? ⟨gb362,0,none⟩=some (.int .i64 a1_0):=(blk_cell BK362.out 0).trans rfl;have hcz19_1:w17.cell? ⟨gb362,1,none⟩=some (.int .i64 a1_1):=(blk_cell BK362.out 1).trans rfl;have hfz19_0:=blk_frozen BK362.out 0;have hfz19_1:=blk_frozen BK362.out 1;have hcz20_0:w17.cell? ⟨gb361,0,none⟩=some (.int .i64 a0_0):=(blk_cell BK361.out 0).trans rfl;have hcz20_1:w17.cell? ⟨gb361,1,none⟩=some (.int .i64 a0_1):=(blk_cell BK361.out 1).trans rfl;have hfz20_0:=blk_frozen BK361.out 0;have hfz20_1:=blk_frozen BK361.out 1)|(go_at_call 71;(with_reducible refine (impl_common.calls k (wrap64 (a1_0 - a0_0)) (wrap64 (a1_1 - a0_1)) t363 _ A3.out).mono ?_);rintro e w21 ⟨rfl,hb⟩;have n0_:=Aside0.mk (blk_below (by repeat (with_reducible first|exact BK361.out|apply kN|apply kD|apply kA)) hb);have n1_:=Aside0.mk (blk_below (by repeat (with_reducible first|exact BK362.out|apply kN|apply kD|apply kA)) hb);have n2_:=Aside0.mk (below_step (by repeat (first|(with_reducible first|exact HB.out|apply bA|apply bN|apply bD|refine bS ?_ GE361.out|refine bS ?_ GE362.out)|exact HB.out)) hb);clear BK361;clear BK362;clear HB;have BK361:=n0_;have BK362:=n1_;have HB:=n2_;clear n0_ n1_ n2_;(try clear hb);have hcz22_0:w21.cell? ⟨gb362,0,none⟩=some (.int .i64 a1_0):=(blk_cell BK362.out 0).trans rfl;have hcz22_1:w21.cell? ⟨gb362,1,none⟩=some (.int .i64 a1_1):=(blk_cell BK362.out 1).trans rfl;have hfz22_0:=blk_frozen BK362.out 0;have hfz22_1:=blk_frozen BK362.out 1;have hcz23_0:w21.cell? ⟨gb361,0,none⟩=some (.int .i64 a0_0):=(blk_cell BK361.out 0).trans rfl;have hcz23_1:w21.cell? ⟨gb361,1,none⟩=some (.int .i64 a0_1):=(blk_cell BK361.out 1).trans rfl;have hfz23_0:=blk_frozen BK361.out 0;have hfz23_1:=blk_frozen BK361.out 1)|(go_at_call 40;(with_reducible refine (impl_isDirection.calls k (wrap64 (Int.tdiv (wrap64 (a1_0 - a0_0)) t363)) (wrap64 (Int.tdiv (wrap64 (a1_1 - a0_1)) t363)) false _ A5.out).mono ?_);rintro e w24 ⟨rfl,hb⟩;have n0_:=Aside0.mk (blk_below (by repeat (with_reducible first|exact BK361.out|apply kN|apply kD|apply kA)) hb);have n1_:=Aside0.mk (blk_below (by repeat (with_reducible first|exact BK362.out|apply kN|apply kD|apply kA)) hb);have n2_:=Aside0.mk (below_step (by repeat (first|(with_reducible first|exact HB.out|apply bA|apply bN|apply bD|refine bS ?_ GE361.out|refine bS ?_ GE362.out)|exact HB.out)) hb);clear BK361;clear BK362;clear HB;have BK361:=n0_;have BK362:=n1_;have HB:=n2_;clear n0_ n1_ n2_;(try clear hb)));try go_wp2_with (first|((with_reducible refine gate_dst (N:=2) rfl ?_);refine bE 2 #[.int .i64 a0_0,.int .i64 a0_1] 40 ?_;intro gb361 hg w16 hbox hb;have n0_:=Aside0.mk (below_step (by repeat (with_reducible first|exact HB.out|apply bA|apply bN|apply bD)) hb);have n1_:=Aside0.mk (hbox);have n2_:=Aside0.mk ((by rw [hg];exact (below_size (by repeat (with_reducible first|exact HB.out|apply bA|apply bN|apply bD))):w.heap.size≤gb361));have n3_:=Aside0.mk ((by rw [hg];exact (below_size (by repeat (with_reducible first|exact HB.out|apply bA|apply bN|apply bD))):w.heap.size≤gb361));clear HB;have HB:=n0_;have BK361:=n1_;have GW361:=n2_;have GE361:=n3_;clear n0_ n1_ n2_ n3_;clear hb hbox hg)|((with_reducible refine gate_dst (N:=3) rfl ?_);refine bE 3 #[.int .i64 a1_0,.int .i64 a1_1] 40 ?_;intro gb362 hg w17 hbox hb;have n0_:=Aside0.mk (blk_below (by repeat (with_reducible first|exact BK361.out|apply kN|apply kD|apply kA)) hb);have n1_:=Aside0.mk (below_step (by repeat (first|(with_reducible first|exact HB.out|apply bA|apply bN|apply bD|refine bS ?_ GE361.out)|exact HB.out)) hb);have n2_:=Aside0.mk (hbox);have n3_:=Aside0.mk ((by rw [hg];exact (below_size (by repeat (first|(with_reducible first|exact HB.out|apply bA|apply bN|apply bD|refine bS ?_ GE361.out)|exact HB.out))):w.heap.size≤gb362));have n4_:=Aside0.mk ((by rw [hg];exact (below_size (by repeat (first|(with_reducible first|exact HB.out|apply bA|apply bN|apply bD|refine bS ?_ GE361.out)|exact HB.out))):w.heap.size≤gb362));have n5_:=Aside0.mk ((by rw [hg];exact Nat.ne_of_lt (blk_lt (by repeat (with_reducible first|exact BK361.out|apply kN|apply kD|apply kA))):gb361≠gb362));have n6_:=Aside0.mk ((by rw [hg];exact Nat.ne_of_gt (blk_lt (by repeat (with_reducible first|exact BK361.out|apply kN|apply kD|apply kA))):gb362≠gb361));clear BK361;clear HB;have BK361:=n0_;have HB:=n1_;have BK362:=n2_;have GW362:=n3_;have GE362:=n4_;have NB361_362:=n5_;have NB362_361:=n6_;clear n0_ n1_ n2_ n3_ n4_ n5_ n6_;clear hb hbox hg;have hnb18:=NB362_361.out;have hnc18:=NB361_362.out;have hcz19_0:w17.cell? ⟨gb362,0,none⟩=some (.int .i64 a1_0):=(blk_cell BK362.out 0).trans rfl;have hcz19_1:w17.cell? ⟨gb362,1,none⟩=some (.int .i64 a1_1):=(blk_cell BK362.out 1).trans rfl;have hfz19_0:=blk_frozen BK362.out 0;have hfz19_1:=blk_frozen BK362.out 1;have hcz20_0:w17.cell? ⟨gb361,0,none⟩=some (.int .i64 a0_0):=(blk_cell BK361.out 0).trans rfl;have hcz20_1:w17.cell? ⟨gb361,1,none⟩=some (.int .i64 a0_1):=(blk_cell BK361.out 1).trans rfl;have hfz20_0:=blk_frozen BK361.out 0;have hfz20_1:=blk_frozen BK361.out 1)|(go_at_call 71;(with_reducible refine (impl_common.calls k (wrap64 (a1_0 - a0_0)) (wrap64 (a1_1 - a0_1)) t363 _ A3.out).mono ?_);rintro e w21 ⟨rfl,hb⟩;have n0_:=Aside0.mk (blk_below (by repeat (with_reducible first|exact BK361.out|apply kN|apply kD|apply kA)) hb);have n1_:=Aside0.mk (blk_below (by repeat (with_reducible first|exact BK362.out|apply kN|apply kD|apply kA)) hb);have n2_:=Aside0.mk (below_step (by repeat (first|(with_reducible first|exact HB.out|apply bA|apply bN|apply bD|refine bS ?_ GE361.out|refine bS ?_ GE362.out)|exact HB.out)) hb);clear BK361;clear BK362;clear HB;have BK361:=n0_;have BK362:=n1_;have HB:=n2_;clear n0_ n1_ n2_;(try clear hb);have hcz22_0:w21.cell? ⟨gb362,0,none⟩=some (.int .i64 a1_0):=(blk_cell BK362.out 0).trans rfl;have hcz22_1:w21.cell? ⟨gb362,1,none⟩=some (.int .i64 a1_1):=(blk_cell BK362.out 1).trans rfl;have hfz22_0:=blk_frozen BK362.out 0;have hfz22_1:=blk_frozen BK362.out 1;have hcz23_0:w21.cell? ⟨gb361,0,none⟩=some (.int .i64 a0_0):=(blk_cell BK361.out 0).trans rfl;have hcz23_1:w21.cell? ⟨gb361,1,none⟩=some (.int .i64 a0_1):=(blk_cell BK361.out 1).trans rfl;have hfz23_0:=blk_frozen BK361.out 0;have hfz23_1:=blk_frozen BK361.out 1)|(go_at_call 40;(with_reducible refine (impl_isDirection.calls k (wrap64 (Int.tdiv (wrap64 (a1_0 - a0_0)) t363)) (wrap64 (Int.tdiv (wrap64 (a1_1 - a0_1)) t363)) false _ A5.out).mono ?_);rintro e w24 ⟨rfl,hb⟩;have n0_:=Aside0.mk (blk_below (by repeat (with_reducible first|exact BK361.out|apply kN|apply kD|apply kA)) hb);have n1_:=Aside0.mk (blk_below (by repeat (with_reducible first|exact BK362.out|apply kN|apply kD|apply kA)) hb);have n2_:=Aside0.mk (below_step (by repeat (first|(with_reducible first|exact HB.out|apply bA|apply bN|apply bD|refine bS ?_ GE361.out|refine bS ?_ GE362.out)|exact HB.out)) hb);clear BK361;clear BK362;clear HB;have BK361:=n0_;have BK362:=n1_;have HB:=n2_;clear n0_ n1_ n2_;(try clear hb))))
   go_ret3
   exact ⟨by first|rfl|(simp [errW_none,errW_some] <;> rfl)|(simp [*,errW_none,errW_some] <;> rfl),by repeat (first|(with_reducible first|exact HB.out|apply bA|apply bN|apply bD|refine bS ?_ GE361.out|refine bS ?_ GE362.out)|exact HB.out)⟩
-- NOT PRINTED: function 91 (slices_insertionSortCmpFunc_int)
-- NOT PRINTED: function 101 (slices_siftDownCmpFunc_int)
-- NOT PRINTED: function 92 (slices_heapSortCmpFunc_int)
-- LEFT OUT: function 99 (bits_Len32)
-- LEFT OUT: function 100 (bits_Len64)
-- LEFT OUT: function 90 (bits_Len)
-- LEFT OUT: function 102 (slices_nextPowerOfTwo)
-- NOT PRINTED: function 103 (slices_xorshift_Next)
-- NOT PRINTED: function 93 (slices_breakPatternsCmpFunc_int)
-- NOT PRINTED: function 106 (slices_order2CmpFunc_int)
-- NOT PRINTED: function 105 (slices_medianCmpFunc_int)
-- NOT PRINTED: function 104 (slices_medianAdjacentCmpFunc_int)
-- NOT PRINTED: function 94 (slices_choosePivotCmpFunc_int)
-- NOT PRINTED: function 95 (slices_reverseRangeCmpFunc_int)
-- NOT PRINTED: function 96 (slices_partialInsertionSortCmpFunc_int)
-- NOT PRINTED: function 97 (slices_partitionEqualCmpFunc_int)
-- NOT PRINTED: function 98 (slices_partitionCmpFunc_int)
-- NOT PRINTED: function 89 (slices_pdqsortCmpFunc_int)
-- NOT PRINTED: function 87 (slices_SortFunc_int_int)
def impl_compareMeasures.f (l0:List Int) (l1:List Int):Option (Int):=if 1 < (l0.length:Int) then (if 1 < (l1.length:Int) then (if (rd l0 1)=(rd l1 1) then (if 0 < (l0.length:Int) then (if 0 < (l1.length:Int) then (some (wrap64 ((rd l0 0) - (rd l1 0)))) else (none)) else (none)) else (some (wrap64 ((rd l0 1) - (rd l1 1))))) else (none)) else (none)
theorem impl_compareMeasures.calls (A0:Option Addr) (c0:Nat) (l0:List Int) (A1:Option Addr) (c1:Nat) (l1:List Int) (r:Int) (w:World) (hr0:Kd.C (Kd.int .i64) w A0 l0.length l0) (hc0:l0.length≤c0) (hr1:Kd.C (Kd.int .i64) w A1 l1.length l1) (hc1:l1.length≤c1) (h:impl_compareMeasures.f l0 l1=some r) :
 Calls Try.prog 88 #[.slice A0 l0.length c0,.slice A1 l1.length c1] w fun e w'=>e=.returned (.int .i64 r)∧Drawn0 w w':=by
 have HR0:=Aside0.mk hr0
 have HC0:=Aside0.mk hc0
 clear hr0 hc0
 have HR1:=Aside0.mk hr1
 have HC1:=Aside0.mk hc1
 clear hr1 hc1
 have H:(if 1 < (l0.length:Int) then (if 1 < (l1.length:Int) then (if (rd l0 1)=(rd l1 1) then (if 0 < (l0.length:Int) then (if 0 < (l1.length:Int) then (some (wrap64 ((rd l0 0) - (rd l1 0)))) else (none)) else (none)) else (some (wrap64 ((rd l0 1) - (rd l1 1))))) else (none)) else (none))=some r:=h
 clear h
 by_cases c3:1 < (l0.length:Int)
 rotate_left;·rw [if_neg c3] at H;exact absurd H (by simp)
 rw [if_pos c3] at H
 have c3b0:decide (1 < (l0.length:Int))=true:=decide_eq_true c3
 have c3b1:decide (1 < l0.length)=true:=decide_eq_true (by omega)
 clear c3
 by_cases c4:1 < (l1.length:Int)
 rotate_left;·rw [if_neg c4] at H;exact absurd H (by simp)
 rw [if_pos c4] at H
 have c4b0:decide (1 < (l1.length:Int))=true:=decide_eq_true c4
 have c4b1:decide (1 < l1.length)=true:=decide_eq_true (by omega)
 clear c4
 by_cases c5:(rd l0 1)=(rd l1 1)
 ·rw [if_pos c5] at H
  have c5b0:((rd l0 1) == (rd l1 1))=true:=beq_iff_eq.mpr c5
  have c5b1:((rd l0 1) != (rd l1 1))=false:=bne_eq_false_iff_eq.mpr c5
  clear c5
  by_cases c6:0 < (l0.length:Int)
  rotate_left;·rw [if_neg c6] at H;exact absurd H (by simp)
  rw [if_pos c6] at H
  have c6b0:decide (0 < (l0.length:Int))=true:=decide_eq_true c6
  have c6b1:decide (0 < l0.length)=true:=decide_eq_true (by omega)
  clear c6
  by_cases c7:0 < (l1.length:Int)
  rotate_left;·rw [if_neg c7] at H;exact absurd H (by simp)
  rw [if_pos c7] at H
  have c7b0:decide (0 < (l1.length:Int))=true:=decide_eq_true c7
  have c7b1:decide (0 < l1.length)=true:=decide_eq_true (by omega)
  clear c7
  obtain rfl:=Option.some.inj H
  have p365:0≤(1:Int):=(by omega)
  have q365:1 < (l0.length:Int):=of_decide_eq_true (by assumption)
  obtain ⟨ad365,e365,hx365_0⟩:=Kd.at_int HR0.out 1 p365 q365
  cases e365
  (try simp only [show (1:Int).toNat=1 from rfl,Nat.reduceMul,Nat.reduceEqDiff,Go.Addr.add,↓reduceIte] at hx365_0)
  have qi365:(1 < l0.length)=True:=eq_true (by omega)
  (try rw [show ((1:Int)).toNat=1 from rfl] at hx365_0)
  replace p365:=eq_true p365
  replace q365:=eq_true q365
  have p366:0≤(1:Int):=(by omega)
  have q366:1 < (l1.length:Int):=of_decide_eq_true (by assumption)
  obtain ⟨ad366,e366,hx366_0⟩:=Kd.at_int HR1.out 1 p366 q366
  cases e366
  (try simp only [show (1:Int).toNat=1 from rfl,Nat.reduceMul,Nat.reduceEqDiff,Go.Addr.add,↓reduceIte] at hx366_0)
  have qi366:(1 < l1.length)=True:=eq_true (by omega)
  (try rw [show ((1:Int)).toNat=1 from rfl] at hx366_0)
  replace p366:=eq_true p366
  replace q366:=eq_true q366
  have p367:0≤(0:Int):=(by omega)
  have q367:0 < (l0.length:Int):=of_decide_eq_true (by assumption)
  obtain ⟨ad367,e367,hx367_0⟩:=Kd.at_int HR0.out 0 p367 q367
  obtain rfl:ad365=ad367:=(by injection e367)
  have qi367:(0 < l0.length)=True:=eq_true (by omega)
  (try rw [show ((0:Int)).toNat=0 from rfl] at hx367_0)
  (try rw [Addr.add_zero'] at hx367_0)
  replace p367:=eq_true p367
  replace q367:=eq_true q367
  have p368:0≤(0:Int):=(by omega)
  have q368:0 < (l1.length:Int):=of_decide_eq_true (by assumption)
  obtain ⟨ad368,e368,hx368_0⟩:=Kd.at_int HR1.out 0 p368 q368
  obtain rfl:ad366=ad368:=(by injection e368)
  have qi368:(0 < l1.length)=True:=eq_true (by omega)
  (try rw [show ((0:Int)).toNat=0 from rfl] at hx368_0)
  (try rw [Addr.add_zero'] at hx368_0)
  replace p368:=eq_true p368
  replace q368:=eq_true q368
  go_enter Try.func88,Try.ntmps88
  go_wp2
  repeat (go_quiet (fail);try go_wp2)
  go_ret
  exact ⟨by first|rfl|(simp;done)|(simp [*];done),by repeat (first|exact Drawn0.refl _|apply Drawn0.step)⟩
 ·rw [if_neg c5] at H
  have c5b0:((rd l0 1) == (rd l1 1))=false:=beq_eq_false_iff_ne.mpr c5
  have c5b1:((rd l0 1) != (rd l1 1))=true:=bne_iff_ne.mpr c5
  obtain rfl:=Option.some.inj H
  have p365:0≤(1:Int):=(by omega)
  have q365:1 < (l0.length:Int):=of_decide_eq_true (by assumption)
  obtain ⟨ad365,e365,hx365_0⟩:=Kd.at_int HR0.out 1 p365 q365
  cases e365
  (try simp only [show (1:Int).toNat=1 from rfl,Nat.reduceMul,Nat.reduceEqDiff,Go.Addr.add,↓reduceIte] at hx365_0)
  have qi365:(1 < l0.length)=True:=eq_true (by omega)
  (try rw [show ((1:Int)).toNat=1 from rfl] at hx365_0)
  replace p365:=eq_true p365
  replace q365:=eq_true q365
  have p366:0≤(1:Int):=(by omega)
  have q366:1 < (l1.length:Int):=of_decide_eq_true (by assumption)
  obtain ⟨ad366,e366,hx366_0⟩:=Kd.at_int HR1.out 1 p366 q366
  cases e366
  (try simp only [show (1:Int).toNat=1 from rfl,Nat.reduceMul,Nat.reduceEqDiff,Go.Addr.add,↓reduceIte] at hx366_0)
  have qi366:(1 < l1.length)=True:=eq_true (by omega)
  (try rw [show ((1:Int)).toNat=1 from rfl] at hx366_0)
  replace p366:=eq_true p366
  replace q366:=eq_true q366
  have p369:0≤(1:Int):=(by omega)
  have q369:1 < (l0.length:Int):=of_decide_eq_true (by assumption)
  obtain ⟨ad369,e369,hx369_0⟩:=Kd.at_int HR0.out 1 p369 q369
  obtain rfl:ad365=ad369:=(by injection e369)
  (try simp only [show (1:Int).toNat=1 from rfl,Nat.reduceMul,Nat.reduceEqDiff,Go.Addr.add,↓reduceIte] at hx369_0)
  have qi369:(1 < l0.length)=True:=eq_true (by omega)
  (try rw [show ((1:Int)).toNat=1 from rfl] at hx369_0)
  replace p369:=eq_true p369
  replace q369:=eq_true q369
  have p370:0≤(1:Int):=(by omega)
  have q370:1 < (l1.length:Int):=of_decide_eq_true (by assumption)
  obtain ⟨ad370,e370,hx370_0⟩:=Kd.at_int HR1.out 1 p370 q370
  obtain rfl:ad366=ad370:=(by injection e370)
  (try simp only [show (1:Int).toNat=1 from rfl,Nat.reduceMul,Nat.reduceEqDiff,Go.Addr.add,↓reduceIte] at hx370_0)
  have qi370:(1 < l1.length)=True:=eq_true (by omega)
  (try rw [show ((1:Int)).toNat=1 from rfl] at hx370_0)
  replace p370:=eq_true p370
  replace q370:=eq_true q370
  go_enter Try.func88,Try.ntmps88
  go_wp2
  repeat (go_quiet (fail);try go_wp2)
  go_ret
  exact ⟨by first|rfl|(simp;done)|(simp [*];done),by repeat (first|exact Drawn0.refl _|apply Drawn0.step)⟩
-- NOT PRINTED: function 70 (impl_measuresOf)
end Go.Proofs.Ytadenfniiihifaa.QFnExactMeasuresOf
