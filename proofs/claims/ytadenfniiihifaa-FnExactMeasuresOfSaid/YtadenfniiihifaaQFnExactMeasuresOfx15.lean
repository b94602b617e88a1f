/- What each Go function of this text answers, as a plain function, and that the machine comes to just that answer. -/
import Derived.Test.YtadenfniiihifaaQFnExactMeasuresOfx0
import Derived.Test.YtadenfniiihifaaQFnExactMeasuresOfx2
import Derived.Test.YtadenfniiihifaaQFnExactMeasuresOfx8
import Derived.Test.YtadenfniiihifaaQFnExactMeasuresOfx14
namespace Go.Proofs.Ytadenfniiihifaa.QFnExactMeasuresOf
open Go.RowKit Go.Proofs.YtadenfniiihifaaW.PrintWords Go.Proofs.YtadenfniiihifaaW.PrintLast Go.Proofs.YtadenfniiihifaaW.PrintMore
attribute [local go_sem] max2_int min2_int max_two min_two max_three min_three max_four min_four   -- for this text's walks alone
set_option linter.unusedVariables false
set_option maxHeartbeats 8000000
set_option maxRecDepth 100000
set_option linter.unusedSimpArgs false
def laws_heldIntSS.l0:Nat→List (List Int)→Int→Int→Option (Int)
 | 0,_,_,_=>none
 | k+1,x0,x1,x5=>if x5 < (x0.length:Int) then (if 0≤x5 then ((laws_heldIntS.f k (rd_L3 x0 x5) x1).bind fun t385=>(if t385 < 0 then (some (-1)) else (laws_heldIntSS.l0 k x0 t385 (wrap64 (x5+1))))) else (none)) else (some x1)
def laws_heldIntSS.f (k:Nat) (l0:List (List Int)) (a1:Int):Option (Int):=laws_heldIntSS.l0 k l0 a1 0
theorem laws_heldIntSS.mono_l:∀ k,(∀ y0 y1 y2,LeO (laws_heldIntSS.l0 k y0 y1 y2) (laws_heldIntSS.l0 (k+1) y0 y1 y2))
 | 0=>fun _ _ _ r h=>by simp [laws_heldIntSS.l0] at h
 | k+1=>by
  have ih0:=laws_heldIntSS.mono_l k
  ·intro y0 y1 y2
   unfold laws_heldIntSS.l0
   repeat' first
   | (with_reducible exact LeO.refl _)
   | exact ih0 _ _ _
   | exact laws_heldIntS.mono _ _ _
   | exact LeO.none _
   | refine LeO.ite ?_ ?_
   | refine LeO.bind ?_ (fun _=>?_)
theorem laws_heldIntSS.mono:∀ a0 a1 k,LeO (laws_heldIntSS.f k a0 a1) (laws_heldIntSS.f (k+1) a0 a1):=by
 intro a0 a1 k
 have ih0:=laws_heldIntSS.mono_l k
 unfold laws_heldIntSS.f
 repeat' first
  | (with_reducible exact LeO.refl _)
  | exact ih0 _ _ _
  | exact laws_heldIntS.mono _ _ _
  | exact LeO.none _
  | refine LeO.ite ?_ ?_
  | refine LeO.bind ?_ (fun _=>?_)
theorem laws_heldIntSS.calls (k:Nat) (A0:Option Addr) (c0:Nat) (l0:List (List Int)) (a1:Int) (r:Int) (w:World) (hr0:Kd.C (Kd.slice 3 (Kd.int .i64)) w A0 l0.length l0) (hc0:l0.length≤c0) (h:laws_heldIntSS.f k l0 a1=some r) :
 Calls Try.prog 27 #[.slice A0 l0.length c0,.int .i64 a1] w fun e w'=>e=.returned (.int .i64 r)∧Drawn0 w w':=by
 have HR0:=Aside0.mk hr0
 have HC0:=Aside0.mk hc0
 clear hr0 hc0
 have H:(laws_heldIntSS.l0 k l0 a1 0)=some r:=h
 clear h
 have H':=Aside0.mk H
 clear H
 go_enter Try.func27,Try.ntmps27
 go_wp2
 go_loopg [1,5] k (fun kq v1 v5 w'=>∃ (x1_1:Int) (x5_1:Int),v1=.int .i64 x1_1∧v5=.int .i64 x5_1∧Aside0 (laws_heldIntSS.l0 kq l0 x1_1 x5_1=some r)∧Aside0 (kq≤k)∧Drawn0 w w')
 case atStart=>exact ⟨(a1),(0),(by first|rfl|(simp;done)|(simp [*];done)),(by first|rfl|(simp;done)|(simp [*];done)),H',⟨Nat.le_refl _⟩,by repeat (first|exact Drawn0.refl _|apply Drawn0.step)⟩
 case round =>
  clear H'
  obtain ⟨x1_1,x5_1,rfl,rfl,HA,HK1,⟨m1,rfl⟩⟩:=hrel
  rcases gk with _|k1
  ·exact absurd HA.out (by simp [laws_heldIntSS.l0])
  have H:=HA.out
  clear HA
  simp only [laws_heldIntSS.l0] at H
  by_cases c3:x5_1 < (l0.length:Int)
  ·rw [if_pos c3] at H
   have c3b0:decide (x5_1 < (l0.length:Int))=true:=decide_eq_true c3
   clear c3
   by_cases c4:0≤x5_1
   rotate_left;·rw [if_neg c4] at H;exact absurd H (by simp)
   rw [if_pos c4] at H
   have c4b0:decide (0≤x5_1)=true:=decide_eq_true c4
   clear c4
   replace H:=Option.bind_eq_some_iff.mp H
   obtain ⟨t385,A50,H⟩:=H
   have A5:=Aside0.mk A50
   clear A50
   by_cases c6:t385 < 0
   ·rw [if_pos c6] at H
    have c6b0:decide (t385 < 0)=true:=decide_eq_true c6
    clear c6
    obtain rfl:=Option.some.inj H
    have p384:0≤(x5_1:Int):=of_decide_eq_true (by assumption)
    have q384:x5_1 < (l0.length:Int):=of_decide_eq_true (by assumption)
    obtain ⟨ad384,A384_0,c384_0,e384,hx384_0,hl384_0,hi384_0⟩:=at_L3 HR0.out x5_1 p384 q384
    cases e384
    have HR384_0:=Aside0.mk hi384_0
    have HC384_0:=Aside0.mk hl384_0
    clear hi384_0 hl384_0
    replace p384:=eq_true p384
    replace q384:=eq_true q384
    go_wp2_with (first|((with_reducible refine gate_callee (f:=49) rfl ?_);refine goesL_ (some 17) rfl rfl Try.func49 (by kernel_rfl) rfl #[.slice A384_0 (rd_L3 l0 x5_1).length c384_0,.int .i64 x1_1] rfl (by (try simp only [List.map_toArray,List.map_cons,List.map_nil]);first|done|rfl) ?_;(with_reducible refine (laws_heldIntS.calls k1 _ _ (rd_L3 l0 x5_1) x1_1 t385 _ ?side1 ?side2 A5.out).mono ?_);(case side1=>repeat (first|exact HR384_0.out|(with_reducible refine Kd.C_alloc ?_ _)|(with_reducible refine Kd.C_drewN ?_ _)|(with_reducible refine Kd.C_drew ?_)));(case side2=>exact HC384_0.out);rintro e w' ⟨rfl,⟨nd,rfl⟩⟩;refine ⟨_,rfl,?_⟩))
    go_ret
    exact ⟨by first|rfl|(simp;done)|(simp [*];done),by repeat (first|exact Drawn0.refl _|apply Drawn0.step)⟩
   ·rw [if_neg c6] at H
    have c6b0:decide (t385 < 0)=false:=decide_eq_false c6
    clear c6
    have H':=Aside0.mk H
    clear H
    have p384:0≤(x5_1:Int):=of_decide_eq_true (by assumption)
    have q384:x5_1 < (l0.length:Int):=of_decide_eq_true (by assumption)
    obtain ⟨ad384,A384_0,c384_0,e384,hx384_0,hl384_0,hi384_0⟩:=at_L3 HR0.out x5_1 p384 q384
    cases e384
    have HR384_0:=Aside0.mk hi384_0
    have HC384_0:=Aside0.mk hl384_0
    clear hi384_0 hl384_0
    replace p384:=eq_true p384
    replace q384:=eq_true q384
    go_wp2_with (first|((with_reducible refine gate_callee (f:=49) rfl ?_);refine goesL_ (some 17) rfl rfl Try.func49 (by kernel_rfl) rfl #[.slice A384_0 (rd_L3 l0 x5_1).length c384_0,.int .i64 x1_1] rfl (by (try simp only [List.map_toArray,List.map_cons,List.map_nil]);first|done|rfl) ?_;(with_reducible refine (laws_heldIntS.calls k1 _ _ (rd_L3 l0 x5_1) x1_1 t385 _ ?side1 ?side2 A5.out).mono ?_);(case side1=>repeat (first|exact HR384_0.out|(with_reducible refine Kd.C_alloc ?_ _)|(with_reducible refine Kd.C_drewN ?_ _)|(with_reducible refine Kd.C_drew ?_)));(case side2=>exact HC384_0.out);rintro e w' ⟨rfl,⟨nd,rfl⟩⟩;refine ⟨_,rfl,?_⟩))
    go_roundg k1
    case measure=>have:=HK1.out;omega
    case rel=>exact ⟨(t385),(wrap64 (x5_1+1)),(by first|rfl|(simp;done)|(simp [*];done)),(by first|rfl|(simp;done)|(simp [*];done)),H',⟨by have:=HK1.out;omega⟩,by repeat (first|exact Drawn0.refl _|apply Drawn0.step)⟩
  ·rw [if_neg c3] at H
   have c3b0:decide (x5_1 < (l0.length:Int))=false:=decide_eq_false c3
   clear c3
   obtain rfl:=Option.some.inj H
   go_wp2
   go_ret
   exact ⟨by first|rfl|(simp;done)|(simp [*];done),by repeat (first|exact Drawn0.refl _|apply Drawn0.step)⟩
/-! What was made since, and what was there: parted at a size of the heap. -/
theorem mo_pair {α β:Type} {d:Kd α} {d':Kd β} {e e':Nat} {W w1:World} {base:Nat} {ok:Nat→Prop} {u v x:Value} {xs:List α} {ys:List β} (hN:Kd.N d e W base ok u xs) (hS:Kd.S d' e' w1 W.heap.size (fun _=>True) v ys) (hb:Below W.heap.size W w1)
 (hx:∀ k,x.ownBlock=some k→k < W.heap.size) (hok:∀ k,ok k→some k≠x.ownBlock) (hle:base≤W.heap.size) :
 ∃ n:Nat,Kd.N d e w1 base (fun k_=>some k_≠x.ownBlock∧k_ < n) u xs∧Kd.S d' e' w1 base (fun k_=>some k_≠x.ownBlock∧n≤k_) v ys :=
 ⟨W.heap.size,Kd.N_mono (Kd.N_old hN hb) (fun k hk=>⟨hok k hk.1,hk.2⟩),Kd.S_lower (Kd.S_mono (Kd.S_bound hS) (fun k hk=>⟨Kd.fresh' hx k hk.2.1,hk.2.1⟩)) hle⟩
theorem laws_heldIntSS.held (k:Nat) (A:Option Addr) (n c:Nat) (l0:List (List Int)) (a1 r:Int) (w:World) {base:Nat} {ok:Nat→Prop} (hS:Kd.S (Kd.slice 3 (Kd.int .i64)) 45 w base ok (.slice A n c) l0) (h:laws_heldIntSS.f k l0 a1=some r) :
 Calls Try.prog 27 #[.slice A n c,.int .i64 a1] w fun e w'=>e=.returned (.int .i64 r)∧Drawn0 w w':=by
 obtain ⟨h1,h2,h3⟩:=Kd.S_reads' hS
 subst h1
 exact laws_heldIntSS.calls k A c l0 a1 r w h3 h2 h
def laws_FnExactMeasuresOf.j0:Nat→List (S42)→List (List Int)→List (List Int)→Bool→Option (Bool)
 | 0,_,_,_,_=>none
 | k+1,x0,x4,x6,x42=>if x42=true then (some false) else ((laws_markIntSS.f k x6 1).bind fun bt407=>((laws_heldIntSS.f k bt407.2 1).bind fun t408=>(if t408 < 0 then (some false) else (if t408=bt407.1 then ((laws_toPointS.f k x0).bind fun t409=>((impl_MeasuresOf.f k t409).bind fun t412=>((laws_eqIntSS.f k t412 x4).bind fun t415=>(if t415=true then ((laws_heldIntSS.f k bt407.2 1).bind fun t416=>(if t416 < 0 then (some false) else (if t416=bt407.1 then (some true) else (some false)))) else (some false))))) else (some false)))))
def laws_FnExactMeasuresOf.f (k:Nat) (l0:List (S42)):Option (Bool):=(laws_szPointS.f l0 1048576).bind fun t386=>(if t386 < 0 then (some true) else ((laws_toPointS.f k l0).bind fun t387=>((spec_MeasuresOf.f k t387).bind fun t390=>((laws_toPointS.f k l0).bind fun t393=>((impl_MeasuresOf.f k t393).bind fun t396=>((laws_eqIntSS.f k t396 t390).bind fun t399=>(if t399=true then ((laws_toPointS.f k l0).bind fun t400=>((laws_eqPointS.f k t393 t400).bind fun t403=>(if t403=true then ((laws_markPointS.f k t393 1).bind fun bt404=>(if bt404.1 < 0 then (laws_FnExactMeasuresOf.j0 k l0 t390 t396 true) else ((laws_eqIntSS.f k t396 t390).bind fun t406=>(laws_FnExactMeasuresOf.j0 k l0 t390 t396 (!t406))))) else (some false)))) else (some false))))))))
theorem laws_FnExactMeasuresOf.mono_l:∀ k,(∀ y0 y1 y2 y3,LeO (laws_FnExactMeasuresOf.j0 k y0 y1 y2 y3) (laws_FnExactMeasuresOf.j0 (k+1) y0 y1 y2 y3))
 | 0=>fun _ _ _ _ r h=>by simp [laws_FnExactMeasuresOf.j0] at h
 | k+1=>by
  have ih0:=laws_FnExactMeasuresOf.mono_l k
  ·intro y0 y1 y2 y3
   unfold laws_FnExactMeasuresOf.j0
   repeat' first
   | (with_reducible exact LeO.refl _)
   | exact ih0 _ _ _ _
   | exact impl_MeasuresOf.mono _ _
   | exact laws_eqIntSS.mono _ _ _
   | exact laws_eqPointS.mono _ _ _
   | exact laws_heldIntSS.mono _ _ _
   | exact laws_markIntSS.mono _ _ _
   | exact laws_markPointS.mono _ _ _
   | exact laws_toPointS.mono _ _
   | exact spec_MeasuresOf.mono _ _
   | exact LeO.none _
   | refine LeO.ite ?_ ?_
   | refine LeO.bind ?_ (fun _=>?_)
theorem laws_FnExactMeasuresOf.mono:∀ a0 k,LeO (laws_FnExactMeasuresOf.f k a0) (laws_FnExactMeasuresOf.f (k+1) a0):=by
 intro a0 k
 have ih0:=laws_FnExactMeasuresOf.mono_l k
 unfold laws_FnExactMeasuresOf.f
 repeat' first
  | (with_reducible exact LeO.refl _)
  | exact ih0 _ _ _ _
  | exact impl_MeasuresOf.mono _ _
  | exact laws_eqIntSS.mono _ _ _
  | exact laws_eqPointS.mono _ _ _
  | exact laws_heldIntSS.mono _ _ _
  | exact laws_markIntSS.mono _ _ _
  | exact laws_markPointS.mono _ _ _
  | exact laws_toPointS.mono _ _
  | exact spec_MeasuresOf.mono _ _
  | exact LeO.none _
  | refine LeO.ite ?_ ?_
  | refine LeO.bind ?_ (fun _=>?_)
theorem laws_FnExactMeasuresOf.calls (k:Nat) (A0:Option Addr) (c0:Nat) (l0:List (S42)) (r:Bool) (w:World) (hr0:Kd.C k42 w A0 l0.length l0) (hc0:l0.length≤c0) (h:laws_FnExactMeasuresOf.f k l0=some true) :
 Calls Try.prog 8 #[.slice A0 l0.length c0] w fun e w'=>e=.returned (.bool true)∧Below w.heap.size w w':=by
 have HR0:=Aside0.mk hr0
 have HC0:=Aside0.mk hc0
 clear hr0 hc0
 have HB:=Aside0.mk (Below.refl w.heap.size w)
 have H:((laws_szPointS.f l0 1048576).bind fun t386=>(if t386 < 0 then (some true) else ((laws_toPointS.f k l0).bind fun t387=>((spec_MeasuresOf.f k t387).bind fun t390=>((laws_toPointS.f k l0).bind fun t393=>((impl_MeasuresOf.f k t393).bind fun t396=>((laws_eqIntSS.f k t396 t390).bind fun t399=>(if t399=true then ((laws_toPointS.f k l0).bind fun t400=>((laws_eqPointS.f k t393 t400).bind fun t403=>(if t403=true then ((laws_markPointS.f k t393 1).bind fun bt404=>(if bt404.1 < 0 then (laws_FnExactMeasuresOf.j0 k l0 t390 t396 true) else ((laws_eqIntSS.f k t396 t390).bind fun t406=>(laws_FnExactMeasuresOf.j0 k l0 t390 t396 (!t406))))) else (some false)))) else (some false)))))))))=some true:=h
 clear h
 replace H:=Option.bind_eq_some_iff.mp H
 obtain ⟨t386,A20,H⟩:=H
 have A2:=Aside0.mk A20
 clear A20
 by_cases c3:t386 < 0
 ·rw [if_pos c3] at H
  have c3b0:decide (t386 < 0)=true:=decide_eq_true c3
  clear c3
  clear H
  go_enter Try.func8,Try.ntmps8
  go_wp2_with (first|((with_reducible refine gate_callee (f:=9) rfl ?_);refine goesL_ (some 13) rfl rfl Try.func9 (by kernel_rfl) rfl #[.slice A0 l0.length c0,.int .i64 1048576] rfl (by (try simp only [List.map_toArray,List.map_cons,List.map_nil]);first|done|rfl) ?_;(with_reducible refine (laws_szPointS.calls _ _ l0 1048576 t386 _ ?side1 ?side2 A2.out).mono ?_);(case side1=>repeat (first|exact HR0.out|(with_reducible refine Kd.C_alloc ?_ _)|(with_reducible refine Kd.C_drewN ?_ _)|(with_reducible refine Kd.C_drew ?_)));(case side2=>exact HC0.out);rintro e w' ⟨rfl,⟨nd,rfl⟩⟩;refine ⟨_,rfl,?_⟩))
  go_ret
  exact ⟨by first|rfl|(simp [errW_none,errW_some] <;> rfl)|(simp [*,errW_none,errW_some] <;> rfl),by repeat (with_reducible first|exact HB.out|apply bA|apply bN|apply bD)⟩
 ·rw [if_neg c3] at H
  have c3b0:decide (t386 < 0)=false:=decide_eq_false c3
  clear c3
  replace H:=Option.bind_eq_some_iff.mp H
  obtain ⟨t387,A40,H⟩:=H
  have A4:=Aside0.mk A40
  clear A40
  replace H:=Option.bind_eq_some_iff.mp H
  obtain ⟨t390,A50,H⟩:=H
  have A5:=Aside0.mk A50
  clear A50
  replace H:=Option.bind_eq_some_iff.mp H
  obtain ⟨t393,A60,H⟩:=H
  have A6:=Aside0.mk A60
  clear A60
  replace H:=Option.bind_eq_some_iff.mp H
  obtain ⟨t396,A70,H⟩:=H
  have A7:=Aside0.mk A70
  clear A70
  replace H:=Option.bind_eq_some_iff.mp H
  obtain ⟨t399,A80,H⟩:=H
  have A8:=Aside0.mk A80
  clear A80
  by_cases c9:t399=true
  ·subst c9
   rw [if_pos rfl] at H
   replace H:=Option.bind_eq_some_iff.mp H
   obtain ⟨t400,A100,H⟩:=H
   have A10:=Aside0.mk A100
   clear A100
   replace H:=Option.bind_eq_some_iff.mp H
   obtain ⟨t403,A110,H⟩:=H
   have A11:=Aside0.mk A110
   clear A110
   by_cases c12:t403=true
   ·subst c12
    rw [if_pos rfl] at H
    replace H:=Option.bind_eq_some_iff.mp H
    obtain ⟨⟨t404,t405⟩,A130,H⟩:=H
    replace H:(if t404 < 0 then (laws_FnExactMeasuresOf.j0 k l0 t390 t396 true) else ((laws_eqIntSS.f k t396 t390).bind fun t406=>(laws_FnExactMeasuresOf.j0 k l0 t390 t396 (!t406))))=some true:=H
    have A13:=Aside0.mk A130
    clear A130
    have HC14:=Aside0.mk H
    clear H
    go_enter Try.func8,Try.ntmps8
    go_upto_region 14 with (first|((with_reducible refine gate_callee (f:=9) rfl ?_);refine goesL_ (some 13) rfl rfl Try.func9 (by kernel_rfl) rfl #[.slice A0 l0.length c0,.int .i64 1048576] rfl (by (try simp only [List.map_toArray,List.map_cons,List.map_nil]);first|done|rfl) ?_;(with_reducible refine (laws_szPointS.calls _ _ l0 1048576 t386 _ ?side1 ?side2 A2.out).mono ?_);(case side1=>repeat (first|exact HR0.out|(with_reducible refine Kd.C_alloc ?_ _)|(with_reducible refine Kd.C_drewN ?_ _)|(with_reducible refine Kd.C_drew ?_)));(case side2=>exact HC0.out);rintro e w' ⟨rfl,⟨nd,rfl⟩⟩;refine ⟨_,rfl,?_⟩)|((with_reducible refine gate_callee (f:=11) rfl ?_);refine goesL_ (some 17) rfl rfl Try.func11 (by kernel_rfl) rfl #[.slice A0 l0.length c0] rfl (by (try simp only [List.map_toArray,List.map_cons,List.map_nil]);first|done|rfl) ?_;(with_reducible refine (laws_toPointS.calls k _ _ l0 t387 _ ?side1 ?side2 A4.out).mono ?_);(case side1=>repeat (first|exact HR0.out|(with_reducible refine Kd.C_alloc ?_ _)|(with_reducible refine Kd.C_drewN ?_ _)|(with_reducible refine Kd.C_drew ?_)));(case side2=>exact HC0.out);rintro e w15 ⟨v388,rfl,ho0,hb⟩;refine ⟨_,rfl,?_⟩;have n0_:=Aside0.mk (Kd.R_lower ho0 (below_size (by repeat (with_reducible first|exact HB.out|apply bA|apply bN|apply bD))));have n1_:=Aside0.mk (below_step (by repeat (with_reducible first|exact HB.out|apply bA|apply bN|apply bD)) hb);clear HB;have HO389:=n0_;have HB:=n1_;clear n0_ n1_;(try clear hb);(try clear ho0);obtain ⟨Ao16,co16,eo16⟩:=Kd.R_slice HO389.out;subst eo16)|((with_reducible refine gate_callee (f:=22) rfl ?_);refine goesL_ (some 18) rfl rfl Try.func22 (by kernel_rfl) rfl #[.slice Ao16 t387.length co16] rfl (by (try simp only [List.map_toArray,List.map_cons,List.map_nil]);first|done|rfl) ?_;(with_reducible refine (spec_MeasuresOf.calls k (fun k_=>some k_=(.slice Ao16 t387.length co16:Value).ownBlock) _ _ t387 t390 _ ?side1 A5.out).mono ?_);(case side1=>exact Kd.R_V (Kd.R_tight rfl (HO389.out)));rintro e w17 ⟨v391,rfl,ho0,hb⟩;refine ⟨_,rfl,?_⟩;have n0_:=Aside0.mk (Kd.R_below (by (with_reducible repeat (first|apply rA|apply rN|apply rD));exact HO389.out) hb);have n1_:=Aside0.mk (Kd.N_lower (Kd.N_mono (ok':=fun k_=>True) ho0 (fun k_ hk_=>trivial)) (below_size (by repeat (with_reducible first|exact HB.out|apply bA|apply bN|apply bD))));have n2_:=Aside0.mk (below_step (by repeat (with_reducible first|exact HB.out|apply bA|apply bN|apply bD)) hb);clear HO389;clear HB;have HO389:=n0_;have HO392:=n1_;have HB:=n2_;clear n0_ n1_ n2_;(try clear hb);(try clear ho0))|((with_reducible refine gate_callee (f:=11) rfl ?_);refine goesL_ (some 20) rfl rfl Try.func11 (by kernel_rfl) rfl #[.slice A0 l0.length c0] rfl (by (try simp only [List.map_toArray,List.map_cons,List.map_nil]);first|done|rfl) ?_;(with_reducible refine (laws_toPointS.calls k _ _ l0 t393 _ ?side1 ?side2 A6.out).mono ?_);(case side1=>repeat (first|exact (Kd.C_below HR0.out HB.out)|(with_reducible refine Kd.C_alloc ?_ _)|(with_reducible refine Kd.C_drewN ?_ _)|(with_reducible refine Kd.C_drew ?_)));(case side2=>exact HC0.out);rintro e w18 ⟨v394,rfl,ho0,hb⟩;refine ⟨_,rfl,?_⟩;have n0_:=Aside0.mk (Kd.R_elder' (by (with_reducible repeat (first|apply rA|apply rN|apply rD));exact HO389.out) (Kd.R_base ho0) hb);have n1_:=Aside0.mk (Kd.N_elder' (by (with_reducible repeat (first|apply nA|apply nN|apply nD));exact HO392.out) (Kd.R_base ho0) hb);have n2_:=Aside0.mk (Kd.R_lower (Kd.R_new' ho0 (Kd.R_lt (by (with_reducible repeat (first|apply rA|apply rN|apply rD));exact HO389.out))) (below_size (by repeat (with_reducible first|exact HB.out|apply bA|apply bN|apply bD))));have n3_:=Aside0.mk (below_step (by repeat (with_reducible first|exact HB.out|apply bA|apply bN|apply bD)) hb);clear HO389;clear HO392;clear HB;have HO389:=n0_;have HO392:=n1_;have HO395:=n2_;have HB:=n3_;clear n0_ n1_ n2_ n3_;(try clear hb);(try clear ho0);obtain ⟨Ao19,co19,eo19⟩:=Kd.R_slice HO395.out;subst eo19)|((with_reducible refine gate_callee (f:=23) rfl ?_);refine goesL_ (some 22) rfl rfl Try.func23 (by kernel_rfl) rfl #[.slice Ao19 t393.length co19] rfl (by (try simp only [List.map_toArray,List.map_cons,List.map_nil]);first|done|rfl) ?_;(with_reducible refine (impl_MeasuresOf.calls k _ _ t393 t396 _ ?side1 ?side2 A7.out).mono ?_);(case side1=>repeat (first|exact (Kd.R_reads' HO395.out).2.2|(with_reducible refine Kd.C_alloc ?_ _)|(with_reducible refine Kd.C_drewN ?_ _)|(with_reducible refine Kd.C_drew ?_)));(case side2=>exact (Kd.R_reads' HO395.out).2.1);rintro e w20 ⟨v397,rfl,ho0,hb⟩;refine ⟨_,rfl,?_⟩;obtain ⟨nq_,hN_,hS_⟩:=mo_pair (by (with_reducible repeat (first|apply nA|apply nN|apply nD));exact HO392.out) ho0 hb (Kd.R_lt (by (with_reducible repeat (first|apply rA|apply rN|apply rD));exact HO395.out)) (by exact fun _ hk=>hk.2) (below_size (by repeat (with_reducible first|exact HB.out|apply bA|apply bN|apply bD)));have n0_:=Aside0.mk (Kd.R_below (by (with_reducible repeat (first|apply rA|apply rN|apply rD));exact HO389.out) hb);have n1_:=Aside0.mk hN_;have n2_:=Aside0.mk (Kd.R_below (by (with_reducible repeat (first|apply rA|apply rN|apply rD));exact HO395.out) hb);have n3_:=Aside0.mk hS_;have n4_:=Aside0.mk (below_step (by repeat (with_reducible first|exact HB.out|apply bA|apply bN|apply bD)) hb);clear HO389;clear HO392;clear HO395;clear HB;have HO389:=n0_;have HO392:=n1_;have HO395:=n2_;have HO398:=n3_;have HB:=n4_;clear n0_ n1_ n2_ n3_ n4_;(try clear hb);(try clear ho0);clear hN_ hS_;obtain ⟨Ao21,co21,eo21⟩:=Kd.S_slice HO398.out;subst eo21;obtain ⟨Ao22,co22,eo22⟩:=Kd.N_slice HO392.out;subst eo22)|((with_reducible refine gate_callee (f:=24) rfl ?_);refine goesL_ (some 25) rfl rfl Try.func24 (by kernel_rfl) rfl #[.slice Ao21 t396.length co21,.slice Ao22 t390.length co22] rfl (by (try simp only [List.map_toArray,List.map_cons,List.map_nil]);first|done|rfl) ?_;(with_reducible refine (laws_eqIntSS.calls k _ _ t396 _ _ t390 true _ ?side1 ?side2 ?side3 ?side4 A8.out).mono ?_);(case side1=>repeat (first|exact (Kd.S_reads' HO398.out).2.2|(with_reducible refine Kd.C_alloc ?_ _)|(with_reducible refine Kd.C_drewN ?_ _)|(with_reducible refine Kd.C_drew ?_)));(case side2=>exact (Kd.S_reads' HO398.out).2.1);(case side3=>repeat (first|exact (Kd.N_reads' HO392.out).2.2|(with_reducible refine Kd.C_alloc ?_ _)|(with_reducible refine Kd.C_drewN ?_ _)|(with_reducible refine Kd.C_drew ?_)));(case side4=>exact (Kd.N_reads' HO392.out).2.1);rintro e w' ⟨rfl,⟨nd,rfl⟩⟩;refine ⟨_,rfl,?_⟩)|((with_reducible refine gate_callee (f:=11) rfl ?_);refine goesL_ (some 29) rfl rfl Try.func11 (by kernel_rfl) rfl #[.slice A0 l0.length c0] rfl (by (try simp only [List.map_toArray,List.map_cons,List.map_nil]);first|done|rfl) ?_;(with_reducible refine (laws_toPointS.calls k _ _ l0 t400 _ ?side1 ?side2 A10.out).mono ?_);(case side1=>repeat (first|exact (Kd.C_below HR0.out (by repeat (with_reducible first|exact HB.out|apply bA|apply bN|apply bD)))|(with_reducible refine Kd.C_alloc ?_ _)|(with_reducible refine Kd.C_drewN ?_ _)|(with_reducible refine Kd.C_drew ?_)));(case side2=>exact HC0.out);rintro e w23 ⟨v401,rfl,ho0,hb⟩;refine ⟨_,rfl,?_⟩;have n0_:=Aside0.mk (Kd.R_elder' (by (with_reducible repeat (first|apply rA|apply rN|apply rD));exact HO389.out) (Kd.R_base ho0) hb);have n1_:=Aside0.mk (Kd.N_below (by (with_reducible repeat (first|apply nA|apply nN|apply nD));exact HO392.out) hb);have n2_:=Aside0.mk (Kd.R_elder' (by (with_reducible repeat (first|apply rA|apply rN|apply rD));exact HO395.out) (Kd.R_base ho0) hb);have n3_:=Aside0.mk (Kd.S_below (by (with_reducible repeat (first|apply Kd.S_alloc|apply Kd.S_drewN|apply Kd.S_drew));exact HO398.out) hb);have n4_:=Aside0.mk (Kd.R_lower (Kd.R_new' (Kd.R_new' ho0 (Kd.R_lt (by (with_reducible repeat (first|apply rA|apply rN|apply rD));exact HO389.out))) (Kd.R_lt (by (with_reducible repeat (first|apply rA|apply rN|apply rD));exact HO395.out))) (below_size (by repeat (with_reducible first|exact HB.out|apply bA|apply bN|apply bD))));have n5_:=Aside0.mk (below_step (by repeat (with_reducible first|exact HB.out|apply bA|apply bN|apply bD)) hb);clear HO389;clear HO392;clear HO395;clear HO398;clear HB;have HO389:=n0_;have HO392:=n1_;have HO395:=n2_;have HO398:=n3_;have HO402:=n4_;have HB:=n5_;clear n0_ n1_ n2_ n3_ n4_ n5_;(try clear hb);(try clear ho0);obtain ⟨Ao24,co24,eo24⟩:=Kd.R_slice HO402.out;subst eo24)|((with_reducible refine gate_callee (f:=13) rfl ?_);refine goesL_ (some 30) rfl rfl Try.func13 (by kernel_rfl) rfl #[.slice Ao19 t393.length co19,.slice Ao24 t400.length co24] rfl (by (try simp only [List.map_toArray,List.map_cons,List.map_nil]);first|done|rfl) ?_;(with_reducible refine (laws_eqPointS.calls k _ _ t393 _ _ t400 true _ ?side1 ?side2 ?side3 ?side4 A11.out).mono ?_);(case side1=>repeat (first|exact (Kd.R_reads' HO395.out).2.2|(with_reducible refine Kd.C_alloc ?_ _)|(with_reducible refine Kd.C_drewN ?_ _)|(with_reducible refine Kd.C_drew ?_)));(case side2=>exact (Kd.R_reads' HO395.out).2.1);(case side3=>repeat (first|exact (Kd.R_reads' HO402.out).2.2|(with_reducible refine Kd.C_alloc ?_ _)|(with_reducible refine Kd.C_drewN ?_ _)|(with_reducible refine Kd.C_drew ?_)));(case side4=>exact (Kd.R_reads' HO402.out).2.1);rintro e w25 ⟨rfl,hb⟩;refine ⟨_,rfl,?_⟩;have n0_:=Aside0.mk (Kd.R_below (by (with_reducible repeat (first|apply rA|apply rN|apply rD));exact HO389.out) hb);have n1_:=Aside0.mk (Kd.N_below (by (with_reducible repeat (first|apply nA|apply nN|apply nD));exact HO392.out) hb);have n2_:=Aside0.mk (Kd.R_below (by (with_reducible repeat (first|apply rA|apply rN|apply rD));exact HO395.out) hb);have n3_:=Aside0.mk (Kd.S_below (by (with_reducible repeat (first|apply Kd.S_alloc|apply Kd.S_drewN|apply Kd.S_drew));exact HO398.out) hb);have n4_:=Aside0.mk (Kd.R_below (by (with_reducible repeat (first|apply rA|apply rN|apply rD));exact HO402.out) hb);have n5_:=Aside0.mk (below_step (by repeat (with_reducible first|exact HB.out|apply bA|apply bN|apply bD)) hb);clear HO389;clear HO392;clear HO395;clear HO398;clear HO402;clear HB;have HO389:=n0_;have HO392:=n1_;have HO395:=n2_;have HO398:=n3_;have HO402:=n4_;have HB:=n5_;clear n0_ n1_ n2_ n3_ n4_ n5_;(try clear hb))|((with_reducible refine gate_callee (f:=25) rfl ?_);refine goesL_ (some 34) rfl rfl Try.func25 (by kernel_rfl) rfl #[.slice Ao19 t393.length co19,.int .i64 1] rfl (by (try simp only [List.map_toArray,List.map_cons,List.map_nil]);first|done|rfl) ?_;(with_reducible refine (laws_markPointS.calls k (fun k_=>some k_=(.slice Ao19 t393.length co19:Value).ownBlock) (.slice Ao19 t393.length co19) t393 1 t404 t405 w _ ?side1 ?side2 A13.out).mono ?_);(case side1=>repeat (first|(with_reducible first|exact HB.out|apply bA|apply bN|apply bD)|exact HB.out));(case side2=>exact Kd.R_tight rfl HO395.out);rintro e w26 ⟨rfl,hy0,hb,hkp⟩;refine ⟨_,rfl,?_⟩;have n0_:=Aside0.mk (Kd.R_mono (ok':=fun k_=>some k_≠(.slice Ao19 t393.length co19:Value).ownBlock∧some k_≠(.slice Ao24 t400.length co24:Value).ownBlock) (Kd.R_keptB (HO389.out) hkp (fun k_ hk_ hs_=>(hk_.1.2) hs_)) (fun k_ hk_=>⟨hk_.1.1.2,hk_.1.2⟩));have n1_:=Aside0.mk (Kd.N_kept (HO392.out) hkp (fun k_ hk_ hs_=>hk_.1 hs_));have n2_:=Aside0.mk (Kd.R_reok rfl hy0 (fun k_ e_=>HO395.out.1 k_ e_));have n3_:=Aside0.mk (Kd.S_kept (HO398.out) hkp (fun k_ hk_ hs_=>hk_.1 hs_));have n4_:=Aside0.mk (Kd.R_mono (ok':=fun k_=>some k_≠(.slice Ao16 t387.length co16:Value).ownBlock∧some k_≠(.slice Ao19 t393.length co19:Value).ownBlock) (Kd.R_keptB (HO402.out) hkp (fun k_ hk_ hs_=>(hk_.2) hs_)) (fun k_ hk_=>⟨hk_.1.1.2,hk_.1.2⟩));have n5_:=Aside0.mk (hb);clear HO389;clear HO392;clear HO395;clear HO398;clear HO402;clear HB;have HO389:=n0_;have HO392:=n1_;have HO395:=n2_;have HO398:=n3_;have HO402:=n4_;have HB:=n5_;clear n0_ n1_ n2_ n3_ n4_ n5_;(try clear hb);(try clear hkp);(try clear hy0)))
    (try simp only [Act.put,List.setIfInBounds_toArray,List.set_cons_zero,List.set_cons_succ])
    go_cut [42] (fun v42 wc=>∃ (kq:Nat) (x42_13:Bool),v42=.bool x42_13∧Aside0 (laws_FnExactMeasuresOf.j0 kq l0 t390 t396 x42_13=some true)∧Aside0 (kq≤k)∧Aside0 (Kd.N (Kd.slice 3 (Kd.int .i64)) 45 wc w.heap.size (fun k_=>k_ < nq_) (.slice Ao22 t390.length co22) t390)∧Aside0 (Kd.S (Kd.slice 3 (Kd.int .i64)) 45 wc w.heap.size (fun k_=>nq_≤k_) (.slice Ao21 t396.length co21) t396)∧Aside0 (Below w.heap.size w wc))
    case first =>
     have H:=HC14.out
     clear HC14
     by_cases c27:t404 < 0
     ·rw [if_pos c27] at H
      have c27b0:decide (t404 < 0)=true:=decide_eq_true c27
      clear c27
      (first|rw [c27b0]|(simp only [i64_w,i32_w];rw [c27b0])|skip)
      have H':=Aside0.mk H
      clear H
      go_wp2
      go_meet
      case rel=>exact ⟨_,(true),(by first|rfl|(simp;done)|(simp [*];done)),H',⟨by first|omega|exact Nat.le_refl _⟩,⟨by (with_reducible repeat (first|apply nA|apply nN|apply nD));exact Kd.N_mono HO392.out (fun _ hk=>hk.2)⟩,⟨by (with_reducible repeat (first|apply Kd.S_alloc|apply Kd.S_drewN|apply Kd.S_drew));exact Kd.S_mono HO398.out (fun _ hk=>hk.2)⟩,⟨by repeat (with_reducible first|exact HB.out|apply bA|apply bN|apply bD)⟩⟩
     ·rw [if_neg c27] at H
      have c27b0:decide (t404 < 0)=false:=decide_eq_false c27
      clear c27
      (first|rw [c27b0]|(simp only [i64_w,i32_w];rw [c27b0])|skip)
      replace H:=Option.bind_eq_some_iff.mp H
      obtain ⟨t406,A280,H⟩:=H
      have A28:=Aside0.mk A280
      clear A280
      have H':=Aside0.mk H
      clear H
      go_wp2_with (first|(go_at_call 24;(with_reducible refine (laws_eqIntSS.calls k _ _ t396 _ _ t390 t406 _ ?side1 ?side2 ?side3 ?side4 A28.out).mono ?_);(case side1=>repeat (first|exact (Kd.S_reads' HO398.out).2.2|(with_reducible refine Kd.C_alloc ?_ _)|(with_reducible refine Kd.C_drewN ?_ _)|(with_reducible refine Kd.C_drew ?_)));(case side2=>exact (Kd.S_reads' HO398.out).2.1);(case side3=>repeat (first|exact (Kd.N_reads' HO392.out).2.2|(with_reducible refine Kd.C_alloc ?_ _)|(with_reducible refine Kd.C_drewN ?_ _)|(with_reducible refine Kd.C_drew ?_)));(case side4=>exact (Kd.N_reads' HO392.out).2.1);rintro e w' ⟨rfl,⟨nd,rfl⟩⟩))
      go_meet
      case rel=>exact ⟨_,(!t406),(by first|rfl|(simp;done)|(simp [*];done)),H',⟨by first|omega|exact Nat.le_refl _⟩,⟨by (with_reducible repeat (first|apply nA|apply nN|apply nD));exact Kd.N_mono HO392.out (fun _ hk=>hk.2)⟩,⟨by (with_reducible repeat (first|apply Kd.S_alloc|apply Kd.S_drewN|apply Kd.S_drew));exact Kd.S_mono HO398.out (fun _ hk=>hk.2)⟩,⟨by repeat (with_reducible first|exact HB.out|apply bA|apply bN|apply bD)⟩⟩
    case rest =>
     clear HC14
     obtain ⟨kq,x42_13,rfl,HA,HJ13,HO_4,HO_6,HB⟩:=hcut
     rcases kq with _|kj13
     ·exact absurd HA.out (by simp [laws_FnExactMeasuresOf.j0])
     have H:=HA.out
     clear HA
     simp only [laws_FnExactMeasuresOf.j0] at H
     by_cases c29:x42_13=true
     ·subst c29
      rw [if_pos rfl] at H
      exact absurd (Option.some.inj H) (by decide)
     ·replace c29:=Bool.eq_false_iff.mpr c29
      subst c29
      rw [if_neg (show ¬ (false=true) by decide)] at H
      replace H:=Option.bind_eq_some_iff.mp H
      obtain ⟨⟨t407,tq_⟩,A300,H⟩:=H
      replace H:((laws_heldIntSS.f kj13 tq_ 1).bind fun t408=>(if t408 < 0 then (some false) else (if t408=t407 then ((laws_toPointS.f kj13 l0).bind fun t409=>((impl_MeasuresOf.f kj13 t409).bind fun t412=>((laws_eqIntSS.f kj13 t412 t390).bind fun t415=>(if t415=true then ((laws_heldIntSS.f kj13 tq_ 1).bind fun t416=>(if t416 < 0 then (some false) else (if t416=t407 then (some true) else (some false)))) else (some false))))) else (some false))))=some true:=H
      have A30:=Aside0.mk A300
      clear A300
      replace H:=Option.bind_eq_some_iff.mp H
      obtain ⟨t408,A310,H⟩:=H
      have A31:=Aside0.mk A310
      clear A310
      by_cases c32:t408 < 0
      ·rw [if_pos c32] at H
       have c32b0:decide (t408 < 0)=true:=decide_eq_true c32
       clear c32
       exact absurd (Option.some.inj H) (by decide)
      ·rw [if_neg c32] at H
       have c32b0:decide (t408 < 0)=false:=decide_eq_false c32
       clear c32
       by_cases c34:t408=t407
       ·rw [if_pos c34] at H
        have c34b0:(t408 == t407)=true:=beq_iff_eq.mpr c34
        have c34b1:(t408 != t407)=false:=bne_eq_false_iff_eq.mpr c34
        clear c34
        replace H:=Option.bind_eq_some_iff.mp H
        obtain ⟨t409,A350,H⟩:=H
        have A35:=Aside0.mk A350
        clear A350
        replace H:=Option.bind_eq_some_iff.mp H
        obtain ⟨t412,A360,H⟩:=H
        have A36:=Aside0.mk A360
        clear A360
        replace H:=Option.bind_eq_some_iff.mp H
        obtain ⟨t415,A370,H⟩:=H
        have A37:=Aside0.mk A370
        clear A370
        by_cases c38:t415=true
        ·subst c38
         rw [if_pos rfl] at H
         replace H:=Option.bind_eq_some_iff.mp H
         obtain ⟨t416,A390,H⟩:=H
         have A39:=Aside0.mk A390
         clear A390
         by_cases c40:t416 < 0
         ·rw [if_pos c40] at H
          have c40b0:decide (t416 < 0)=true:=decide_eq_true c40
          clear c40
          exact absurd (Option.some.inj H) (by decide)
         ·rw [if_neg c40] at H
          have c40b0:decide (t416 < 0)=false:=decide_eq_false c40
          clear c40
          by_cases c46:t416=t407
          ·rw [if_pos c46] at H
           have c46b0:(t416 == t407)=true:=beq_iff_eq.mpr c46
           have c46b1:(t416 != t407)=false:=bne_eq_false_iff_eq.mpr c46
           clear c46
           clear H
           go_wp2_with (first|((with_reducible refine gate_callee (f:=26) rfl ?_);refine goesL_ (some 45) rfl rfl Try.func26 (by kernel_rfl) rfl #[.slice Ao21 t396.length co21,.int .i64 1] rfl (by (try simp only [List.map_toArray,List.map_cons,List.map_nil]);first|done|rfl) ?_;(refine (laws_markIntSS.calls kj13 (fun k_=>nq_≤k_) (.slice Ao21 t396.length co21) t396 1 t407 tq_ w _ ?side1 ?side2 A30.out).mono ?_);(case side1=>exact (by repeat (with_reducible first|exact HB.out|apply bA|apply bN|apply bD)));(case side2=>exact (by (with_reducible repeat (first|apply Kd.S_alloc|apply Kd.S_drewN|apply Kd.S_drew));exact HO_6.out));rintro e w47 ⟨rfl,hy0,hb,hkp⟩;refine ⟨_,rfl,?_⟩;have n0_:=Aside0.mk (Kd.N_kept (by (with_reducible repeat (first|apply nA|apply nN|apply nD));exact HO_4.out) hkp (by exact fun k_ hk_ hs_=>Nat.not_le.2 hk_ hs_));have n1_:=Aside0.mk hy0;have n2_:=Aside0.mk hb;clear hy0 hkp;clear HO_4;clear HO_6;clear HB;have HO_4:=n0_;have HO_6:=n1_;have HB:=n2_;clear n0_ n1_ n2_;(try clear hb))|((with_reducible refine gate_callee (f:=27) rfl ?_);refine goesL_ (some 48) rfl rfl Try.func27 (by kernel_rfl) rfl #[.slice Ao21 t396.length co21,.int .i64 1] rfl (by (try simp only [List.map_toArray,List.map_cons,List.map_nil]);first|done|rfl) ?_;(refine (laws_heldIntSS.held kj13 _ _ _ tq_ 1 t408 _ (by (with_reducible repeat (first|apply Kd.S_alloc|apply Kd.S_drewN|apply Kd.S_drew));exact HO_6.out) A31.out).mono ?_);rintro e w' ⟨rfl,⟨nd,rfl⟩⟩;refine ⟨_,rfl,?_⟩)|((with_reducible refine gate_callee (f:=11) rfl ?_);refine goesL_ (some 55) rfl rfl Try.func11 (by kernel_rfl) rfl #[.slice A0 l0.length c0] rfl (by (try simp only [List.map_toArray,List.map_cons,List.map_nil]);first|done|rfl) ?_;(with_reducible refine (laws_toPointS.calls kj13 _ _ l0 t409 _ ?side1 ?side2 A35.out).mono ?_);(case side1=>repeat (first|exact (Kd.C_below HR0.out (by repeat (with_reducible first|exact HB.out|apply bA|apply bN|apply bD)))|(with_reducible refine Kd.C_alloc ?_ _)|(with_reducible refine Kd.C_drewN ?_ _)|(with_reducible refine Kd.C_drew ?_)));(case side2=>exact HC0.out);rintro e w48 ⟨v410,rfl,ho0,hb⟩;refine ⟨_,rfl,?_⟩;have n0_:=Aside0.mk (Kd.N_elder' (by (with_reducible repeat (first|apply nA|apply nN|apply nD));exact HO_4.out) (Kd.R_base ho0) hb);have n1_:=Aside0.mk (Kd.S_below (by (with_reducible repeat (first|apply Kd.S_alloc|apply Kd.S_drewN|apply Kd.S_drew));exact HO_6.out) hb);have n2_:=Aside0.mk (Kd.R_lower ho0 (below_size (by repeat (with_reducible first|exact HB.out|apply bA|apply bN|apply bD))));have n3_:=Aside0.mk (below_step (by repeat (with_reducible first|exact HB.out|apply bA|apply bN|apply bD)) hb);clear HO_4;clear HO_6;clear HB;have HO_4:=n0_;have HO_6:=n1_;have HO411:=n2_;have HB:=n3_;clear n0_ n1_ n2_ n3_;(try clear hb);(try clear ho0);obtain ⟨Ao49,co49,eo49⟩:=Kd.R_slice HO411.out;subst eo49)|((with_reducible refine gate_callee (f:=23) rfl ?_);refine goesL_ (some 56) rfl rfl Try.func23 (by kernel_rfl) rfl #[.slice Ao49 t409.length co49] rfl (by (try simp only [List.map_toArray,List.map_cons,List.map_nil]);first|done|rfl) ?_;(with_reducible refine (impl_MeasuresOf.calls kj13 _ _ t409 t412 _ ?side1 ?side2 A36.out).mono ?_);(case side1=>repeat (first|exact (Kd.R_reads' HO411.out).2.2|(with_reducible refine Kd.C_alloc ?_ _)|(with_reducible refine Kd.C_drewN ?_ _)|(with_reducible refine Kd.C_drew ?_)));(case side2=>exact (Kd.R_reads' HO411.out).2.1);rintro e w50 ⟨v413,rfl,ho0,hb⟩;refine ⟨_,rfl,?_⟩;have n0_:=Aside0.mk (Kd.N_elder' (by (with_reducible repeat (first|apply nA|apply nN|apply nD));exact HO_4.out) (by first|exact Kd.S_base ho0|exact Kd.N_base ho0) hb);have n1_:=Aside0.mk (Kd.S_below (by (with_reducible repeat (first|apply Kd.S_alloc|apply Kd.S_drewN|apply Kd.S_drew));exact HO_6.out) hb);have n2_:=Aside0.mk (Kd.R_below (by (with_reducible repeat (first|apply rA|apply rN|apply rD));exact HO411.out) hb);have n3_:=Aside0.mk (Kd.N_lower (Kd.S_N ho0) (below_size (by repeat (with_reducible first|exact HB.out|apply bA|apply bN|apply bD))));have n4_:=Aside0.mk (below_step (by repeat (with_reducible first|exact HB.out|apply bA|apply bN|apply bD)) hb);clear HO_4;clear HO_6;clear HO411;clear HB;have HO_4:=n0_;have HO_6:=n1_;have HO411:=n2_;have HO414:=n3_;have HB:=n4_;clear n0_ n1_ n2_ n3_ n4_;(try clear hb);(try clear ho0);obtain ⟨Ao51,co51,eo51⟩:=Kd.N_slice HO414.out;subst eo51)|((with_reducible refine gate_callee (f:=24) rfl ?_);refine goesL_ (some 59) rfl rfl Try.func24 (by kernel_rfl) rfl #[.slice Ao51 t412.length co51,.slice Ao22 t390.length co22] rfl (by (try simp only [List.map_toArray,List.map_cons,List.map_nil]);first|done|rfl) ?_;(with_reducible refine (laws_eqIntSS.calls kj13 _ _ t412 _ _ t390 true _ ?side1 ?side2 ?side3 ?side4 A37.out).mono ?_);(case side1=>repeat (first|exact (Kd.N_reads' HO414.out).2.2|(with_reducible refine Kd.C_alloc ?_ _)|(with_reducible refine Kd.C_drewN ?_ _)|(with_reducible refine Kd.C_drew ?_)));(case side2=>exact (Kd.N_reads' HO414.out).2.1);(case side3=>repeat (first|exact (Kd.N_reads' HO_4.out).2.2|(with_reducible refine Kd.C_alloc ?_ _)|(with_reducible refine Kd.C_drewN ?_ _)|(with_reducible refine Kd.C_drew ?_)));(case side4=>exact (Kd.N_reads' HO_4.out).2.1);rintro e w' ⟨rfl,⟨nd,rfl⟩⟩;refine ⟨_,rfl,?_⟩)|((with_reducible refine gate_callee (f:=27) rfl ?_);refine goesL_ (some 63) rfl rfl Try.func27 (by kernel_rfl) rfl #[.slice Ao21 t396.length co21,.int .i64 1] rfl (by (try simp only [List.map_toArray,List.map_cons,List.map_nil]);first|done|rfl) ?_;(refine (laws_heldIntSS.held kj13 _ _ _ tq_ 1 t416 _ (by (with_reducible repeat (first|apply Kd.S_alloc|apply Kd.S_drewN|apply Kd.S_drew));exact HO_6.out) A39.out).mono ?_);rintro e w' ⟨rfl,⟨nd,rfl⟩⟩;refine ⟨_,rfl,?_⟩))
           go_ret
           exact ⟨by first|rfl|(simp [errW_none,errW_some] <;> rfl)|(simp [*,errW_none,errW_some] <;> rfl),by repeat (with_reducible first|exact HB.out|apply bA|apply bN|apply bD)⟩
          ·rw [if_neg c46] at H
           have c46b0:(t416 == t407)=false:=beq_eq_false_iff_ne.mpr c46
           have c46b1:(t416 != t407)=true:=bne_iff_ne.mpr c46
           exact absurd (Option.some.inj H) (by decide)
        ·replace c38:=Bool.eq_false_iff.mpr c38
         subst c38
         rw [if_neg (show ¬ (false=true) by decide)] at H
         exact absurd (Option.some.inj H) (by decide)
       ·rw [if_neg c34] at H
        have c34b0:(t408 == t407)=false:=beq_eq_false_iff_ne.mpr c34
        have c34b1:(t408 != t407)=true:=bne_iff_ne.mpr c34
        exact absurd (Option.some.inj H) (by decide)
   ·replace c12:=Bool.eq_false_iff.mpr c12
    subst c12
    rw [if_neg (show ¬ (false=true) by decide)] at H
    exact absurd (Option.some.inj H) (by decide)
  ·replace c9:=Bool.eq_false_iff.mpr c9
   subst c9
   rw [if_neg (show ¬ (false=true) by decide)] at H
   exact absurd (Option.some.inj H) (by decide)
end Go.Proofs.Ytadenfniiihifaa.QFnExactMeasuresOf
