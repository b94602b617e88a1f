/- What each Go function of this text answers, as a plain function, and that the machine comes to just that answer. -/
import Derived.Test.YtadenfniiihifaaQFnExactIsBalancedx0
import Derived.Test.YtadenfniiihifaaQFnExactIsBalancedx2
import Derived.Test.YtadenfniiihifaaQFnExactIsBalancedx8
import Derived.Test.YtadenfniiihifaaQFnExactIsBalancedx10
import Derived.Test.YtadenfniiihifaaQFnExactIsBalancedx13
namespace Go.Proofs.Ytadenfniiihifaa.QFnExactIsBalanced
open Go.RowKit Go.Proofs.YtadenfniiihifaaW.PrintWords Go.Proofs.YtadenfniiihifaaW.PrintLast Go.Proofs.YtadenfniiihifaaW.PrintMore
attribute [local go_sem] max2_int min2_int max_two min_two max_three min_three max_four min_four   -- for this text's walks alone
set_option linter.unusedVariables false
set_option maxHeartbeats 8000000
set_option maxRecDepth 100000
set_option linter.unusedSimpArgs false
def impl_IsBalanced.f (k:Nat) (l0:List (S40)):Option (Bool):=(impl_PolygonOk.f k l0).bind fun t371=>(if t371=true then ((impl_measures.f k l0).bind fun t372=>(some ((t372.length:Int) == 0))) else (some false))
theorem impl_IsBalanced.mono:∀ a0 k,LeO (impl_IsBalanced.f k a0) (impl_IsBalanced.f (k+1) a0):=by
 intro a0 k
 unfold impl_IsBalanced.f
 repeat' first
  | (with_reducible exact LeO.refl _)
  | exact impl_PolygonOk.mono _ _
  | exact impl_measures.mono _ _
  | exact LeO.none _
  | refine LeO.ite ?_ ?_
  | refine LeO.bind ?_ (fun _=>?_)
theorem impl_IsBalanced.calls (k:Nat) (A0:Option Addr) (c0:Nat) (l0:List (S40)) (r:Bool) (w:World) (hr0:Kd.C k40 w A0 l0.length l0) (hc0:l0.length≤c0) (h:impl_IsBalanced.f k l0=some r) :
 Calls Try.prog 15 #[.slice A0 l0.length c0] w fun e w'=>e=.returned (.bool r)∧Below w.heap.size w w':=by
 have HR0:=Aside0.mk hr0
 have HC0:=Aside0.mk hc0
 clear hr0 hc0
 have HB:=Aside0.mk (Below.refl w.heap.size w)
 have H:((impl_PolygonOk.f k l0).bind fun t371=>(if t371=true then ((impl_measures.f k l0).bind fun t372=>(some ((t372.length:Int) == 0))) else (some false)))=some r:=h
 clear h
 replace H:=Option.bind_eq_some_iff.mp H
 obtain ⟨t371,A20,H⟩:=H
 have A2:=Aside0.mk A20
 clear A20
 by_cases c3:t371=true
 ·subst c3
  rw [if_pos rfl] at H
  replace H:=Option.bind_eq_some_iff.mp H
  obtain ⟨t372,A40,H⟩:=H
  have A4:=Aside0.mk A40
  clear A40
  obtain rfl:=Option.some.inj H
  go_enter Try.func15,Try.ntmps15
  go_wp2_with (first|((with_reducible refine gate_callee (f:=36) rfl ?_);refine goesL_ (some 4) rfl rfl Try.func36 (by kernel_rfl) rfl #[.slice A0 l0.length c0] rfl (by (try simp only [List.map_toArray,List.map_cons,List.map_nil]);first|done|rfl) ?_;(with_reducible refine (impl_PolygonOk.calls k _ _ l0 true _ ?side1 ?side2 A2.out).mono ?_);(case side1=>repeat (first|exact HR0.out|(with_reducible refine Kd.C_alloc ?_ _)|(with_reducible refine Kd.C_drewN ?_ _)|(with_reducible refine Kd.C_drew ?_)));(case side2=>exact HC0.out);rintro e w5 ⟨rfl,hb⟩;refine ⟨_,rfl,?_⟩;have n0_:=Aside0.mk (below_step (by repeat (with_reducible first|exact HB.out|apply bA|apply bN|apply bD)) hb);clear HB;have HB:=n0_;clear n0_;(try clear hb))|(go_at_call 37;(with_reducible refine (impl_measures.calls k _ _ l0 t372 _ ?side1 ?side2 A4.out).mono ?_);(case side1=>repeat (first|exact (Kd.C_below HR0.out HB.out)|(with_reducible refine Kd.C_alloc ?_ _)|(with_reducible refine Kd.C_drewN ?_ _)|(with_reducible refine Kd.C_drew ?_)));(case side2=>exact HC0.out);rintro e w6 ⟨v373,rfl,ho0,hb⟩;have n0_:=Aside0.mk (Kd.N_lower (Kd.N_mono (ok':=fun k_=>True) ho0 (fun k_ hk_=>trivial)) (below_size (by repeat (with_reducible first|exact HB.out|apply bA|apply bN|apply bD))));have n1_:=Aside0.mk (below_step (by repeat (with_reducible first|exact HB.out|apply bA|apply bN|apply bD)) hb);clear HB;have HO374:=n0_;have HB:=n1_;clear n0_ n1_;(try clear hb);(try clear ho0);obtain ⟨Ao7,co7,eo7⟩:=Kd.N_slice HO374.out;subst eo7))
  go_ret
  exact ⟨by first|rfl|(simp [errW_none,errW_some] <;> rfl)|(simp [*,errW_none,errW_some] <;> rfl),by repeat (with_reducible first|exact HB.out|apply bA|apply bN|apply bD)⟩
 ·replace c3:=Bool.eq_false_iff.mpr c3
  subst c3
  rw [if_neg (show ¬ (false=true) by decide)] at H
  obtain rfl:=Option.some.inj H
  go_enter Try.func15,Try.ntmps15
  go_wp2_with (first|((with_reducible refine gate_callee (f:=36) rfl ?_);refine goesL_ (some 4) rfl rfl Try.func36 (by kernel_rfl) rfl #[.slice A0 l0.length c0] rfl (by (try simp only [List.map_toArray,List.map_cons,List.map_nil]);first|done|rfl) ?_;(with_reducible refine (impl_PolygonOk.calls k _ _ l0 false _ ?side1 ?side2 A2.out).mono ?_);(case side1=>repeat (first|exact HR0.out|(with_reducible refine Kd.C_alloc ?_ _)|(with_reducible refine Kd.C_drewN ?_ _)|(with_reducible refine Kd.C_drew ?_)));(case side2=>exact HC0.out);rintro e w8 ⟨rfl,hb⟩;refine ⟨_,rfl,?_⟩;have n0_:=Aside0.mk (below_step (by repeat (with_reducible first|exact HB.out|apply bA|apply bN|apply bD)) hb);clear HB;have HB:=n0_;clear n0_;(try clear hb)))
  go_ret
  exact ⟨by first|rfl|(simp [errW_none,errW_some] <;> rfl)|(simp [*,errW_none,errW_some] <;> rfl),by repeat (with_reducible first|exact HB.out|apply bA|apply bN|apply bD)⟩
def laws_FnExactIsBalanced.f (k:Nat) (l0:List (S42)):Option (Bool):=(laws_szPointS.f l0 1048576).bind fun t375=>(if t375 < 0 then (some true) else ((laws_toPointS.f k l0).bind fun t376=>((spec_IsBalanced.f k t376).bind fun t379=>((laws_toPointS.f k l0).bind fun t380=>((impl_IsBalanced.f k t380).bind fun t383=>(if (t383 != t379)=true then (some false) else ((laws_toPointS.f k l0).bind fun t384=>((laws_eqPointS.f k t380 t384).bind fun t387=>(if t387=true then (some true) else (some false))))))))))
theorem laws_FnExactIsBalanced.mono:∀ a0 k,LeO (laws_FnExactIsBalanced.f k a0) (laws_FnExactIsBalanced.f (k+1) a0):=by
 intro a0 k
 unfold laws_FnExactIsBalanced.f
 repeat' first
  | (with_reducible exact LeO.refl _)
  | exact impl_IsBalanced.mono _ _
  | exact laws_eqPointS.mono _ _ _
  | exact laws_toPointS.mono _ _
  | exact spec_IsBalanced.mono _ _
  | exact LeO.none _
  | refine LeO.ite ?_ ?_
  | refine LeO.bind ?_ (fun _=>?_)
theorem laws_FnExactIsBalanced.calls (k:Nat) (A0:Option Addr) (c0:Nat) (l0:List (S42)) (r:Bool) (w:World) (hr0:Kd.C k42 w A0 l0.length l0) (hc0:l0.length≤c0) (h:laws_FnExactIsBalanced.f k l0=some r) :
 Calls Try.prog 4 #[.slice A0 l0.length c0] w fun e w'=>e=.returned (.bool r)∧Below w.heap.size w w':=by
 have HR0:=Aside0.mk hr0
 have HC0:=Aside0.mk hc0
 clear hr0 hc0
 have HB:=Aside0.mk (Below.refl w.heap.size w)
 have H:((laws_szPointS.f l0 1048576).bind fun t375=>(if t375 < 0 then (some true) else ((laws_toPointS.f k l0).bind fun t376=>((spec_IsBalanced.f k t376).bind fun t379=>((laws_toPointS.f k l0).bind fun t380=>((impl_IsBalanced.f k t380).bind fun t383=>(if (t383 != t379)=true then (some false) else ((laws_toPointS.f k l0).bind fun t384=>((laws_eqPointS.f k t380 t384).bind fun t387=>(if t387=true then (some true) else (some false)))))))))))=some r:=h
 clear h
 replace H:=Option.bind_eq_some_iff.mp H
 obtain ⟨t375,A20,H⟩:=H
 have A2:=Aside0.mk A20
 clear A20
 by_cases c3:t375 < 0
 ·rw [if_pos c3] at H
  have c3b0:decide (t375 < 0)=true:=decide_eq_true c3
  clear c3
  obtain rfl:=Option.some.inj H
  go_enter Try.func4,Try.ntmps4
  go_wp2_with (first|((with_reducible refine gate_callee (f:=9) rfl ?_);refine goesL_ (some 9) rfl rfl Try.func9 (by kernel_rfl) rfl #[.slice A0 l0.length c0,.int .i64 1048576] rfl (by (try simp only [List.map_toArray,List.map_cons,List.map_nil]);first|done|rfl) ?_;(with_reducible refine (laws_szPointS.calls _ _ l0 1048576 t375 _ ?side1 ?side2 A2.out).mono ?_);(case side1=>repeat (first|exact HR0.out|(with_reducible refine Kd.C_alloc ?_ _)|(with_reducible refine Kd.C_drewN ?_ _)|(with_reducible refine Kd.C_drew ?_)));(case side2=>exact HC0.out);rintro e w' ⟨rfl,⟨nd,rfl⟩⟩;refine ⟨_,rfl,?_⟩))
  go_ret
  exact ⟨by first|rfl|(simp [errW_none,errW_some] <;> rfl)|(simp [*,errW_none,errW_some] <;> rfl),by repeat (with_reducible first|exact HB.out|apply bA|apply bN|apply bD)⟩
 ·rw [if_neg c3] at H
  have c3b0:decide (t375 < 0)=false:=decide_eq_false c3
  clear c3
  replace H:=Option.bind_eq_some_iff.mp H
  obtain ⟨t376,A40,H⟩:=H
  have A4:=Aside0.mk A40
  clear A40
  replace H:=Option.bind_eq_some_iff.mp H
  obtain ⟨t379,A50,H⟩:=H
  have A5:=Aside0.mk A50
  clear A50
  replace H:=Option.bind_eq_some_iff.mp H
  obtain ⟨t380,A60,H⟩:=H
  have A6:=Aside0.mk A60
  clear A60
  replace H:=Option.bind_eq_some_iff.mp H
  obtain ⟨t383,A70,H⟩:=H
  have A7:=Aside0.mk A70
  clear A70
  by_cases c8:(t383 != t379)=true
  ·rw [if_pos c8] at H
   have c8b0:(t383 != t379)=true:=c8
   (try (have c8b1:decide (t383=t379)=false:=by simpa using c8))
   (try (have c8b2:(t383 == t379)=false:=by simpa using c8))
   (try (have c8b3:¬ (t383=t379):=by simpa using c8))
   clear c8
   obtain rfl:=Option.some.inj H
   go_enter Try.func4,Try.ntmps4
   go_wp2_with (first|((with_reducible refine gate_callee (f:=9) rfl ?_);refine goesL_ (some 9) rfl rfl Try.func9 (by kernel_rfl) rfl #[.slice A0 l0.length c0,.int .i64 1048576] rfl (by (try simp only [List.map_toArray,List.map_cons,List.map_nil]);first|done|rfl) ?_;(with_reducible refine (laws_szPointS.calls _ _ l0 1048576 t375 _ ?side1 ?side2 A2.out).mono ?_);(case side1=>repeat (first|exact HR0.out|(with_reducible refine Kd.C_alloc ?_ _)|(with_reducible refine Kd.C_drewN ?_ _)|(with_reducible refine Kd.C_drew ?_)));(case side2=>exact HC0.out);rintro e w' ⟨rfl,⟨nd,rfl⟩⟩;refine ⟨_,rfl,?_⟩)|((with_reducible refine gate_callee (f:=11) rfl ?_);refine goesL_ (some 13) rfl rfl Try.func11 (by kernel_rfl) rfl #[.slice A0 l0.length c0] rfl (by (try simp only [List.map_toArray,List.map_cons,List.map_nil]);first|done|rfl) ?_;(with_reducible refine (laws_toPointS.calls k _ _ l0 t376 _ ?side1 ?side2 A4.out).mono ?_);(case side1=>repeat (first|exact HR0.out|(with_reducible refine Kd.C_alloc ?_ _)|(with_reducible refine Kd.C_drewN ?_ _)|(with_reducible refine Kd.C_drew ?_)));(case side2=>exact HC0.out);rintro e w9 ⟨v377,rfl,ho0,hb⟩;refine ⟨_,rfl,?_⟩;have n0_:=Aside0.mk (Kd.R_lower ho0 (below_size (by repeat (with_reducible first|exact HB.out|apply bA|apply bN|apply bD))));have n1_:=Aside0.mk (below_step (by repeat (with_reducible first|exact HB.out|apply bA|apply bN|apply bD)) hb);clear HB;have HO378:=n0_;have HB:=n1_;clear n0_ n1_;(try clear hb);(try clear ho0);obtain ⟨Ao10,co10,eo10⟩:=Kd.R_slice HO378.out;subst eo10)|((with_reducible refine gate_callee (f:=14) rfl ?_);refine goesL_ (some 14) rfl rfl Try.func14 (by kernel_rfl) rfl #[.slice Ao10 t376.length co10] rfl (by (try simp only [List.map_toArray,List.map_cons,List.map_nil]);first|done|rfl) ?_;(with_reducible refine (spec_IsBalanced.calls k (fun k_=>some k_=(.slice Ao10 t376.length co10:Value).ownBlock) (.slice Ao10 t376.length co10) t376 t379 w _ ?side1 ?side2 A5.out).mono ?_);(case side1=>repeat (first|(with_reducible first|exact HB.out|apply bA|apply bN|apply bD)|exact HB.out));(case side2=>exact Kd.R_tight rfl HO378.out);rintro e w11 ⟨rfl,hb,hkp⟩;refine ⟨_,rfl,?_⟩;have n0_:=Aside0.mk (hb);clear HB;clear HO378;have HB:=n0_;clear n0_;(try clear hb);(try clear hkp))|((with_reducible refine gate_callee (f:=11) rfl ?_);refine goesL_ (some 16) rfl rfl Try.func11 (by kernel_rfl) rfl #[.slice A0 l0.length c0] rfl (by (try simp only [List.map_toArray,List.map_cons,List.map_nil]);first|done|rfl) ?_;(with_reducible refine (laws_toPointS.calls k _ _ l0 t380 _ ?side1 ?side2 A6.out).mono ?_);(case side1=>repeat (first|exact (Kd.C_below HR0.out HB.out)|(with_reducible refine Kd.C_alloc ?_ _)|(with_reducible refine Kd.C_drewN ?_ _)|(with_reducible refine Kd.C_drew ?_)));(case side2=>exact HC0.out);rintro e w12 ⟨v381,rfl,ho0,hb⟩;refine ⟨_,rfl,?_⟩;have n0_:=Aside0.mk (Kd.R_lower ho0 (below_size (by repeat (with_reducible first|exact HB.out|apply bA|apply bN|apply bD))));have n1_:=Aside0.mk (below_step (by repeat (with_reducible first|exact HB.out|apply bA|apply bN|apply bD)) hb);clear HB;have HO382:=n0_;have HB:=n1_;clear n0_ n1_;(try clear hb);(try clear ho0);obtain ⟨Ao13,co13,eo13⟩:=Kd.R_slice HO382.out;subst eo13)|((with_reducible refine gate_callee (f:=15) rfl ?_);refine goesL_ (some 18) rfl rfl Try.func15 (by kernel_rfl) rfl #[.slice Ao13 t380.length co13] rfl (by (try simp only [List.map_toArray,List.map_cons,List.map_nil]);first|done|rfl) ?_;(with_reducible refine (impl_IsBalanced.calls k _ _ t380 t383 _ ?side1 ?side2 A7.out).mono ?_);(case side1=>repeat (first|exact (Kd.R_reads' HO382.out).2.2|(with_reducible refine Kd.C_alloc ?_ _)|(with_reducible refine Kd.C_drewN ?_ _)|(with_reducible refine Kd.C_drew ?_)));(case side2=>exact (Kd.R_reads' HO382.out).2.1);rintro e w14 ⟨rfl,hb⟩;refine ⟨_,rfl,?_⟩;have n0_:=Aside0.mk (Kd.R_below (by (with_reducible repeat (first|apply rA|apply rN|apply rD));exact HO382.out) hb);have n1_:=Aside0.mk (below_step (by repeat (with_reducible first|exact HB.out|apply bA|apply bN|apply bD)) hb);clear HO382;clear HB;have HO382:=n0_;have HB:=n1_;clear n0_ n1_;(try clear hb)))
   go_ret
   exact ⟨by first|rfl|(simp [errW_none,errW_some] <;> rfl)|(simp [*,errW_none,errW_some] <;> rfl),by repeat (with_reducible first|exact HB.out|apply bA|apply bN|apply bD)⟩
  ·rw [if_neg c8] at H
   have c8b0:(t383 != t379)=false:=by simpa using c8
   (try (have c8b1:decide (t383=t379)=true:=by simpa using c8))
   (try (have c8b2:(t383 == t379)=true:=by simpa using c8))
   clear c8
   replace H:=Option.bind_eq_some_iff.mp H
   obtain ⟨t384,A150,H⟩:=H
   have A15:=Aside0.mk A150
   clear A150
   replace H:=Option.bind_eq_some_iff.mp H
   obtain ⟨t387,A160,H⟩:=H
   have A16:=Aside0.mk A160
   clear A160
   by_cases c17:t387=true
   ·subst c17
    rw [if_pos rfl] at H
    obtain rfl:=Option.some.inj H
    go_enter Try.func4,Try.ntmps4
    go_wp2_with (first|((with_reducible refine gate_callee (f:=9) rfl ?_);refine goesL_ (some 9) rfl rfl Try.func9 (by kernel_rfl) rfl #[.slice A0 l0.length c0,.int .i64 1048576] rfl (by (try simp only [List.map_toArray,List.map_cons,List.map_nil]);first|done|rfl) ?_;(with_reducible refine (laws_szPointS.calls _ _ l0 1048576 t375 _ ?side1 ?side2 A2.out).mono ?_);(case side1=>repeat (first|exact HR0.out|(with_reducible refine Kd.C_alloc ?_ _)|(with_reducible refine Kd.C_drewN ?_ _)|(with_reducible refine Kd.C_drew ?_)));(case side2=>exact HC0.out);rintro e w' ⟨rfl,⟨nd,rfl⟩⟩;refine ⟨_,rfl,?_⟩)|((with_reducible refine gate_callee (f:=11) rfl ?_);refine goesL_ (some 13) rfl rfl Try.func11 (by kernel_rfl) rfl #[.slice A0 l0.length c0] rfl (by (try simp only [List.map_toArray,List.map_cons,List.map_nil]);first|done|rfl) ?_;(with_reducible refine (laws_toPointS.calls k _ _ l0 t376 _ ?side1 ?side2 A4.out).mono ?_);(case side1=>repeat (first|exact HR0.out|(with_reducible refine Kd.C_alloc ?_ _)|(with_reducible refine Kd.C_drewN ?_ _)|(with_reducible refine Kd.C_drew ?_)));(case side2=>exact HC0.out);rintro e w18 ⟨v377,rfl,ho0,hb⟩;refine ⟨_,rfl,?_⟩;have n0_:=Aside0.mk (Kd.R_lower ho0 (below_size (by repeat (with_reducible first|exact HB.out|apply bA|apply bN|apply bD))));have n1_:=Aside0.mk (below_step (by repeat (with_reducible first|exact HB.out|apply bA|apply bN|apply bD)) hb);clear HB;have HO378:=n0_;have HB:=n1_;clear n0_ n1_;(try clear hb);(try clear ho0);obtain ⟨Ao19,co19,eo19⟩:=Kd.R_slice HO378.out;subst eo19)|((with_reducible refine gate_callee (f:=14) rfl ?_);refine goesL_ (some 14) rfl rfl Try.func14 (by kernel_rfl) rfl #[.slice Ao19 t376.length co19] rfl (by (try simp only [List.map_toArray,List.map_cons,List.map_nil]);first|done|rfl) ?_;(with_reducible refine (spec_IsBalanced.calls k (fun k_=>some k_=(.slice Ao19 t376.length co19:Value).ownBlock) (.slice Ao19 t376.length co19) t376 t379 w _ ?side1 ?side2 A5.out).mono ?_);(case side1=>repeat (first|(with_reducible first|exact HB.out|apply bA|apply bN|apply bD)|exact HB.out));(case side2=>exact Kd.R_tight rfl HO378.out);rintro e w20 ⟨rfl,hb,hkp⟩;refine ⟨_,rfl,?_⟩;have n0_:=Aside0.mk (hb);clear HB;clear HO378;have HB:=n0_;clear n0_;(try clear hb);(try clear hkp))|((with_reducible refine gate_callee (f:=11) rfl ?_);refine goesL_ (some 16) rfl rfl Try.func11 (by kernel_rfl) rfl #[.slice A0 l0.length c0] rfl (by (try simp only [List.map_toArray,List.map_cons,List.map_nil]);first|done|rfl) ?_;(with_reducible refine (laws_toPointS.calls k _ _ l0 t380 _ ?side1 ?side2 A6.out).mono ?_);(case side1=>repeat (first|exact (Kd.C_below HR0.out HB.out)|(with_reducible refine Kd.C_alloc ?_ _)|(with_reducible refine Kd.C_drewN ?_ _)|(with_reducible refine Kd.C_drew ?_)));(case side2=>exact HC0.out);rintro e w21 ⟨v381,rfl,ho0,hb⟩;refine ⟨_,rfl,?_⟩;have n0_:=Aside0.mk (Kd.R_lower ho0 (below_size (by repeat (with_reducible first|exact HB.out|apply bA|apply bN|apply bD))));have n1_:=Aside0.mk (below_step (by repeat (with_reducible first|exact HB.out|apply bA|apply bN|apply bD)) hb);clear HB;have HO382:=n0_;have HB:=n1_;clear n0_ n1_;(try clear hb);(try clear ho0);obtain ⟨Ao22,co22,eo22⟩:=Kd.R_slice HO382.out;subst eo22)|((with_reducible refine gate_callee (f:=15) rfl ?_);refine goesL_ (some 18) rfl rfl Try.func15 (by kernel_rfl) rfl #[.slice Ao22 t380.length co22] rfl (by (try simp only [List.map_toArray,List.map_cons,List.map_nil]);first|done|rfl) ?_;(with_reducible refine (impl_IsBalanced.calls k _ _ t380 t383 _ ?side1 ?side2 A7.out).mono ?_);(case side1=>repeat (first|exact (Kd.R_reads' HO382.out).2.2|(with_reducible refine Kd.C_alloc ?_ _)|(with_reducible refine Kd.C_drewN ?_ _)|(with_reducible refine Kd.C_drew ?_)));(case side2=>exact (Kd.R_reads' HO382.out).2.1);rintro e w23 ⟨rfl,hb⟩;refine ⟨_,rfl,?_⟩;have n0_:=Aside0.mk (Kd.R_below (by (with_reducible repeat (first|apply rA|apply rN|apply rD));exact HO382.out) hb);have n1_:=Aside0.mk (below_step (by repeat (with_reducible first|exact HB.out|apply bA|apply bN|apply bD)) hb);clear HO382;clear HB;have HO382:=n0_;have HB:=n1_;clear n0_ n1_;(try clear hb))|((with_reducible refine gate_callee (f:=11) rfl ?_);refine goesL_ (some 24) rfl rfl Try.func11 (by kernel_rfl) rfl #[.slice A0 l0.length c0] rfl (by (try simp only [List.map_toArray,List.map_cons,List.map_nil]);first|done|rfl) ?_;(with_reducible refine (laws_toPointS.calls k _ _ l0 t384 _ ?side1 ?side2 A15.out).mono ?_);(case side1=>repeat (first|exact (Kd.C_below HR0.out HB.out)|(with_reducible refine Kd.C_alloc ?_ _)|(with_reducible refine Kd.C_drewN ?_ _)|(with_reducible refine Kd.C_drew ?_)));(case side2=>exact HC0.out);rintro e w24 ⟨v385,rfl,ho0,hb⟩;refine ⟨_,rfl,?_⟩;have n0_:=Aside0.mk (Kd.R_elder' (by (with_reducible repeat (first|apply rA|apply rN|apply rD));exact HO382.out) (Kd.R_base ho0) hb);have n1_:=Aside0.mk (Kd.R_lower (Kd.R_new' ho0 (Kd.R_lt (by (with_reducible repeat (first|apply rA|apply rN|apply rD));exact HO382.out))) (below_size (by repeat (with_reducible first|exact HB.out|apply bA|apply bN|apply bD))));have n2_:=Aside0.mk (below_step (by repeat (with_reducible first|exact HB.out|apply bA|apply bN|apply bD)) hb);clear HO382;clear HB;have HO382:=n0_;have HO386:=n1_;have HB:=n2_;clear n0_ n1_ n2_;(try clear hb);(try clear ho0);obtain ⟨Ao25,co25,eo25⟩:=Kd.R_slice HO386.out;subst eo25)|((with_reducible refine gate_callee (f:=13) rfl ?_);refine goesL_ (some 25) rfl rfl Try.func13 (by kernel_rfl) rfl #[.slice Ao22 t380.length co22,.slice Ao25 t384.length co25] rfl (by (try simp only [List.map_toArray,List.map_cons,List.map_nil]);first|done|rfl) ?_;(with_reducible refine (laws_eqPointS.calls k _ _ t380 _ _ t384 true _ ?side1 ?side2 ?side3 ?side4 A16.out).mono ?_);(case side1=>repeat (first|exact (Kd.R_reads' HO382.out).2.2|(with_reducible refine Kd.C_alloc ?_ _)|(with_reducible refine Kd.C_drewN ?_ _)|(with_reducible refine Kd.C_drew ?_)));(case side2=>exact (Kd.R_reads' HO382.out).2.1);(case side3=>repeat (first|exact (Kd.R_reads' HO386.out).2.2|(with_reducible refine Kd.C_alloc ?_ _)|(with_reducible refine Kd.C_drewN ?_ _)|(with_reducible refine Kd.C_drew ?_)));(case side4=>exact (Kd.R_reads' HO386.out).2.1);rintro e w26 ⟨rfl,hb⟩;refine ⟨_,rfl,?_⟩;have n0_:=Aside0.mk (Kd.R_below (by (with_reducible repeat (first|apply rA|apply rN|apply rD));exact HO382.out) hb);have n1_:=Aside0.mk (Kd.R_below (by (with_reducible repeat (first|apply rA|apply rN|apply rD));exact HO386.out) hb);have n2_:=Aside0.mk (below_step (by repeat (with_reducible first|exact HB.out|apply bA|apply bN|apply bD)) hb);clear HO382;clear HO386;clear HB;have HO382:=n0_;have HO386:=n1_;have HB:=n2_;clear n0_ n1_ n2_;(try clear hb)))
    go_ret
    exact ⟨by first|rfl|(simp [errW_none,errW_some] <;> rfl)|(simp [*,errW_none,errW_some] <;> rfl),by repeat (with_reducible first|exact HB.out|apply bA|apply bN|apply bD)⟩
   ·replace c17:=Bool.eq_false_iff.mpr c17
    subst c17
    rw [if_neg (show ¬ (false=true) by decide)] at H
    obtain rfl:=Option.some.inj H
    go_enter Try.func4,Try.ntmps4
    go_wp2_with (first|((with_reducible refine gate_callee (f:=9) rfl ?_);refine goesL_ (some 9) rfl rfl Try.func9 (by kernel_rfl) rfl #[.slice A0 l0.length c0,.int .i64 1048576] rfl (by (try simp only [List.map_toArray,List.map_cons,List.map_nil]);first|done|rfl) ?_;(with_reducible refine (laws_szPointS.calls _ _ l0 1048576 t375 _ ?side1 ?side2 A2.out).mono ?_);(case side1=>repeat (first|exact HR0.out|(with_reducible refine Kd.C_alloc ?_ _)|(with_reducible refine Kd.C_drewN ?_ _)|(with_reducible refine Kd.C_drew ?_)));(case side2=>exact HC0.out);rintro e w' ⟨rfl,⟨nd,rfl⟩⟩;refine ⟨_,rfl,?_⟩)|((with_reducible refine gate_callee (f:=11) rfl ?_);refine goesL_ (some 13) rfl rfl Try.func11 (by kernel_rfl) rfl #[.slice A0 l0.length c0] rfl (by (try simp only [List.map_toArray,List.map_cons,List.map_nil]);first|done|rfl) ?_;(with_reducible refine (laws_toPointS.calls k _ _ l0 t376 _ ?side1 ?side2 A4.out).mono ?_);(case side1=>repeat (first|exact HR0.out|(with_reducible refine Kd.C_alloc ?_ _)|(with_reducible refine Kd.C_drewN ?_ _)|(with_reducible refine Kd.C_drew ?_)));(case side2=>exact HC0.out);rintro e w27 ⟨v377,rfl,ho0,hb⟩;refine ⟨_,rfl,?_⟩;have n0_:=Aside0.mk (Kd.R_lower ho0 (below_size (by repeat (with_reducible first|exact HB.out|apply bA|apply bN|apply bD))));have n1_:=Aside0.mk (below_step (by repeat (with_reducible first|exact HB.out|apply bA|apply bN|apply bD)) hb);clear HB;have HO378:=n0_;have HB:=n1_;clear n0_ n1_;(try clear hb);(try clear ho0);obtain ⟨Ao28,co28,eo28⟩:=Kd.R_slice HO378.out;subst eo28)|((with_reducible refine gate_callee (f:=14) rfl ?_);refine goesL_ (some 14) rfl rfl Try.func14 (by kernel_rfl) rfl #[.slice Ao28 t376.length co28] rfl (by (try simp only [List.map_toArray,List.map_cons,List.map_nil]);first|done|rfl) ?_;(with_reducible refine (spec_IsBalanced.calls k (fun k_=>some k_=(.slice Ao28 t376.length co28:Value).ownBlock) (.slice Ao28 t376.length co28) t376 t379 w _ ?side1 ?side2 A5.out).mono ?_);(case side1=>repeat (first|(with_reducible first|exact HB.out|apply bA|apply bN|apply bD)|exact HB.out));(case side2=>exact Kd.R_tight rfl HO378.out);rintro e w29 ⟨rfl,hb,hkp⟩;refine ⟨_,rfl,?_⟩;have n0_:=Aside0.mk (hb);clear HB;clear HO378;have HB:=n0_;clear n0_;(try clear hb);(try clear hkp))|((with_reducible refine gate_callee (f:=11) rfl ?_);refine goesL_ (some 16) rfl rfl Try.func11 (by kernel_rfl) rfl #[.slice A0 l0.length c0] rfl (by (try simp only [List.map_toArray,List.map_cons,List.map_nil]);first|done|rfl) ?_;(with_reducible refine (laws_toPointS.calls k _ _ l0 t380 _ ?side1 ?side2 A6.out).mono ?_);(case side1=>repeat (first|exact (Kd.C_below HR0.out HB.out)|(with_reducible refine Kd.C_alloc ?_ _)|(with_reducible refine Kd.C_drewN ?_ _)|(with_reducible refine Kd.C_drew ?_)));(case side2=>exact HC0.out);rintro e w30 ⟨v381,rfl,ho0,hb⟩;refine ⟨_,rfl,?_⟩;have n0_:=Aside0.mk (Kd.R_lower ho0 (below_size (by repeat (with_reducible first|exact HB.out|apply bA|apply bN|apply bD))));have n1_:=Aside0.mk (below_step (by repeat (with_reducible first|exact HB.out|apply bA|apply bN|apply bD)) hb);clear HB;have HO382:=n0_;have HB:=n1_;clear n0_ n1_;(try clear hb);(try clear ho0);obtain ⟨Ao31,co31,eo31⟩:=Kd.R_slice HO382.out;subst eo31)|((with_reducible refine gate_callee (f:=15) rfl ?_);refine goesL_ (some 18) rfl rfl Try.func15 (by kernel_rfl) rfl #[.slice Ao31 t380.length co31] rfl (by (try simp only [List.map_toArray,List.map_cons,List.map_nil]);first|done|rfl) ?_;(with_reducible refine (impl_IsBalanced.calls k _ _ t380 t383 _ ?side1 ?side2 A7.out).mono ?_);(case side1=>repeat (first|exact (Kd.R_reads' HO382.out).2.2|(with_reducible refine Kd.C_alloc ?_ _)|(with_reducible refine Kd.C_drewN ?_ _)|(with_reducible refine Kd.C_drew ?_)));(case side2=>exact (Kd.R_reads' HO382.out).2.1);rintro e w32 ⟨rfl,hb⟩;refine ⟨_,rfl,?_⟩;have n0_:=Aside0.mk (Kd.R_below (by (with_reducible repeat (first|apply rA|apply rN|apply rD));exact HO382.out) hb);have n1_:=Aside0.mk (below_step (by repeat (with_reducible first|exact HB.out|apply bA|apply bN|apply bD)) hb);clear HO382;clear HB;have HO382:=n0_;have HB:=n1_;clear n0_ n1_;(try clear hb))|((with_reducible refine gate_callee (f:=11) rfl ?_);refine goesL_ (some 24) rfl rfl Try.func11 (by kernel_rfl) rfl #[.slice A0 l0.length c0] rfl (by (try simp only [List.map_toArray,List.map_cons,List.map_nil]);first|done|rfl) ?_;(with_reducible refine (laws_toPointS.calls k _ _ l0 t384 _ ?side1 ?side2 A15.out).mono ?_);(case side1=>repeat (first|exact (Kd.C_below HR0.out HB.out)|(with_reducible refine Kd.C_alloc ?_ _)|(with_reducible refine Kd.C_drewN ?_ _)|(with_reducible refine Kd.C_drew ?_)));(case side2=>exact HC0.out);rintro e w33 ⟨v385,rfl,ho0,hb⟩;refine ⟨_,rfl,?_⟩;have n0_:=Aside0.mk (Kd.R_elder' (by (with_reducible repeat (first|apply rA|apply rN|apply rD));exact HO382.out) (Kd.R_base ho0) hb);have n1_:=Aside0.mk (Kd.R_lower (Kd.R_new' ho0 (Kd.R_lt (by (with_reducible repeat (first|apply rA|apply rN|apply rD));exact HO382.out))) (below_size (by repeat (with_reducible first|exact HB.out|apply bA|apply bN|apply bD))));have n2_:=Aside0.mk (below_step (by repeat (with_reducible first|exact HB.out|apply bA|apply bN|apply bD)) hb);clear HO382;clear HB;have HO382:=n0_;have HO386:=n1_;have HB:=n2_;clear n0_ n1_ n2_;(try clear hb);(try clear ho0);obtain ⟨Ao34,co34,eo34⟩:=Kd.R_slice HO386.out;subst eo34)|((with_reducible refine gate_callee (f:=13) rfl ?_);refine goesL_ (some 25) rfl rfl Try.func13 (by kernel_rfl) rfl #[.slice Ao31 t380.length co31,.slice Ao34 t384.length co34] rfl (by (try simp only [List.map_toArray,List.map_cons,List.map_nil]);first|done|rfl) ?_;(with_reducible refine (laws_eqPointS.calls k _ _ t380 _ _ t384 false _ ?side1 ?side2 ?side3 ?side4 A16.out).mono ?_);(case side1=>repeat (first|exact (Kd.R_reads' HO382.out).2.2|(with_reducible refine Kd.C_alloc ?_ _)|(with_reducible refine Kd.C_drewN ?_ _)|(with_reducible refine Kd.C_drew ?_)));(case side2=>exact (Kd.R_reads' HO382.out).2.1);(case side3=>repeat (first|exact (Kd.R_reads' HO386.out).2.2|(with_reducible refine Kd.C_alloc ?_ _)|(with_reducible refine Kd.C_drewN ?_ _)|(with_reducible refine Kd.C_drew ?_)));(case side4=>exact (Kd.R_reads' HO386.out).2.1);rintro e w35 ⟨rfl,hb⟩;refine ⟨_,rfl,?_⟩;have n0_:=Aside0.mk (Kd.R_below (by (with_reducible repeat (first|apply rA|apply rN|apply rD));exact HO382.out) hb);have n1_:=Aside0.mk (Kd.R_below (by (with_reducible repeat (first|apply rA|apply rN|apply rD));exact HO386.out) hb);have n2_:=Aside0.mk (below_step (by repeat (with_reducible first|exact HB.out|apply bA|apply bN|apply bD)) hb);clear HO382;clear HO386;clear HB;have HO382:=n0_;have HO386:=n1_;have HB:=n2_;clear n0_ n1_ n2_;(try clear hb)))
    go_ret
    exact ⟨by first|rfl|(simp [errW_none,errW_some] <;> rfl)|(simp [*,errW_none,errW_some] <;> rfl),by repeat (with_reducible first|exact HB.out|apply bA|apply bN|apply bD)⟩
end Go.Proofs.Ytadenfniiihifaa.QFnExactIsBalanced
