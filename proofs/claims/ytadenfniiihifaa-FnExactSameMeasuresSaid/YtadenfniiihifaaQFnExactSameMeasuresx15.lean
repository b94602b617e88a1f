/- What each Go function of this text answers, as a plain function, and that the machine comes to just that answer. -/
import Derived.Test.YtadenfniiihifaaQFnExactSameMeasuresx0
import Derived.Test.YtadenfniiihifaaQFnExactSameMeasuresx2
import Derived.Test.YtadenfniiihifaaQFnExactSameMeasuresx8
import Derived.Test.YtadenfniiihifaaQFnExactSameMeasuresx11
import Derived.Test.YtadenfniiihifaaQFnExactSameMeasuresx14
namespace Go.Proofs.Ytadenfniiihifaa.QFnExactSameMeasures
open Go.RowKit Go.Proofs.YtadenfniiihifaaW.PrintWords Go.Proofs.YtadenfniiihifaaW.PrintLast Go.Proofs.YtadenfniiihifaaW.PrintMore
attribute [local go_sem] max2_int min2_int max_two min_two max_three min_three max_four min_four   -- for this text's walks alone
set_option linter.unusedVariables false
set_option maxHeartbeats 8000000
set_option maxRecDepth 100000
set_option linter.unusedSimpArgs false
def slices_Equal_int_int.l0:Nat→List Int→List Int→Int→Int→Option (Bool)
 | 0,_,_,_,_=>none
 | k+1,x0,x1,x12,x13=>if x13 < x12 then (if 0≤x13 then (if x13 < (x0.length:Int) then (if x13 < (x1.length:Int) then (if (rd x0 x13)=(rd x1 x13) then (slices_Equal_int_int.l0 k x0 x1 x12 (wrap64 (x13+1))) else (some false)) else (none)) else (none)) else (none)) else (some true)
def slices_Equal_int_int.f (k:Nat) (l0:List Int) (l1:List Int):Option (Bool):=if (l0.length:Int)=(l1.length:Int) then (slices_Equal_int_int.l0 k l0 l1 (l0.length:Int) 0) else (some false)
theorem slices_Equal_int_int.mono_l:∀ k,(∀ y0 y1 y2 y3,LeO (slices_Equal_int_int.l0 k y0 y1 y2 y3) (slices_Equal_int_int.l0 (k+1) y0 y1 y2 y3))
 | 0=>fun _ _ _ _ r h=>by simp [slices_Equal_int_int.l0] at h
 | k+1=>by
  have ih0:=slices_Equal_int_int.mono_l k
  ·intro y0 y1 y2 y3
   unfold slices_Equal_int_int.l0
   repeat' first
   | (with_reducible exact LeO.refl _)
   | exact ih0 _ _ _ _
   | exact LeO.none _
   | refine LeO.ite ?_ ?_
   | refine LeO.bind ?_ (fun _=>?_)
theorem slices_Equal_int_int.mono:∀ a0 a1 k,LeO (slices_Equal_int_int.f k a0 a1) (slices_Equal_int_int.f (k+1) a0 a1):=by
 intro a0 a1 k
 have ih0:=slices_Equal_int_int.mono_l k
 unfold slices_Equal_int_int.f
 repeat' first
  | (with_reducible exact LeO.refl _)
  | exact ih0 _ _ _ _
  | exact LeO.none _
  | refine LeO.ite ?_ ?_
  | refine LeO.bind ?_ (fun _=>?_)
theorem slices_Equal_int_int.calls (k:Nat) (A0:Option Addr) (c0:Nat) (l0:List Int) (A1:Option Addr) (c1:Nat) (l1:List Int) (r:Bool) (w:World) (hr0:Kd.C (Kd.int .i64) w A0 l0.length l0) (hc0:l0.length≤c0) (hr1:Kd.C (Kd.int .i64) w A1 l1.length l1) (hc1:l1.length≤c1) (h:slices_Equal_int_int.f k l0 l1=some r) :
 Calls Try.prog 74 #[.slice A0 l0.length c0,.slice A1 l1.length c1] w fun e w'=>e=.returned (.bool r)∧Drawn0 w w':=by
 have HR0:=Aside0.mk hr0
 have HC0:=Aside0.mk hc0
 clear hr0 hc0
 have HR1:=Aside0.mk hr1
 have HC1:=Aside0.mk hc1
 clear hr1 hc1
 have H:(if (l0.length:Int)=(l1.length:Int) then (slices_Equal_int_int.l0 k l0 l1 (l0.length:Int) 0) else (some false))=some r:=h
 clear h
 by_cases c3:(l0.length:Int)=(l1.length:Int)
 ·rw [if_pos c3] at H
  have c3b0:((l0.length:Int) == (l1.length:Int))=true:=beq_iff_eq.mpr c3
  have c3b1:((l0.length:Int) != (l1.length:Int))=false:=bne_eq_false_iff_eq.mpr c3
  have c3b2:(l0.length == l1.length)=true:=by first|simpa using c3|(simp at c3 ⊢;omega)
  clear c3
  have H':=Aside0.mk H
  clear H
  go_enter Try.func74,Try.ntmps74
  go_wp2
  repeat (go_quiet (fail);try go_wp2)
  go_loopg [13] k (fun kq v13 w'=>∃ (x13_1:Int),v13=.int .i64 x13_1∧Aside0 (slices_Equal_int_int.l0 kq l0 l1 (l0.length:Int) x13_1=some r)∧Aside0 (kq≤k)∧Drawn0 w w')
  case atStart=>exact ⟨(0),(by first|rfl|(simp;done)|(simp [*];done)),H',⟨Nat.le_refl _⟩,by repeat (first|exact Drawn0.refl _|apply Drawn0.step)⟩
  case round =>
   clear H'
   obtain ⟨x13_1,rfl,HA,HK1,⟨m1,rfl⟩⟩:=hrel
   rcases gk with _|k1
   ·exact absurd HA.out (by simp [slices_Equal_int_int.l0])
   have H:=HA.out
   clear HA
   simp only [slices_Equal_int_int.l0] at H
   by_cases c4:x13_1 < (l0.length:Int)
   ·rw [if_pos c4] at H
    have c4b0:decide (x13_1 < (l0.length:Int))=true:=decide_eq_true c4
    clear c4
    by_cases c5:0≤x13_1
    rotate_left;·rw [if_neg c5] at H;exact absurd H (by simp)
    rw [if_pos c5] at H
    have c5b0:decide (0≤x13_1)=true:=decide_eq_true c5
    clear c5
    by_cases c6:x13_1 < (l0.length:Int)
    rotate_left;·rw [if_neg c6] at H;exact absurd H (by simp)
    rw [if_pos c6] at H
    have c6b0:decide (x13_1 < (l0.length:Int))=true:=decide_eq_true c6
    clear c6
    by_cases c7:x13_1 < (l1.length:Int)
    rotate_left;·rw [if_neg c7] at H;exact absurd H (by simp)
    rw [if_pos c7] at H
    have c7b0:decide (x13_1 < (l1.length:Int))=true:=decide_eq_true c7
    clear c7
    by_cases c8:(rd l0 x13_1)=(rd l1 x13_1)
    ·rw [if_pos c8] at H
     have c8b0:((rd l0 x13_1) == (rd l1 x13_1))=true:=beq_iff_eq.mpr c8
     have c8b1:((rd l0 x13_1) != (rd l1 x13_1))=false:=bne_eq_false_iff_eq.mpr c8
     clear c8
     have H':=Aside0.mk H
     clear H
     have p386:0≤(x13_1:Int):=of_decide_eq_true (by assumption)
     have q386:x13_1 < (l0.length:Int):=of_decide_eq_true (by assumption)
     obtain ⟨ad386,e386,hx386_0⟩:=Kd.at_int HR0.out x13_1 p386 q386
     cases e386
     replace p386:=eq_true p386
     replace q386:=eq_true q386
     have p387:0≤(x13_1:Int):=of_decide_eq_true (by assumption)
     have q387:x13_1 < (l1.length:Int):=of_decide_eq_true (by assumption)
     obtain ⟨ad387,e387,hx387_0⟩:=Kd.at_int HR1.out x13_1 p387 q387
     cases e387
     replace p387:=eq_true p387
     replace q387:=eq_true q387
     go_wp2
     repeat (go_quiet (fail);try go_wp2)
     go_roundg k1
     case measure=>have:=HK1.out;omega
     case rel=>exact ⟨(wrap64 (x13_1+1)),(by first|rfl|(simp;done)|(simp [*];done)),H',⟨by have:=HK1.out;omega⟩,by repeat (first|exact Drawn0.refl _|apply Drawn0.step)⟩
    ·rw [if_neg c8] at H
     have c8b0:((rd l0 x13_1) == (rd l1 x13_1))=false:=beq_eq_false_iff_ne.mpr c8
     have c8b1:((rd l0 x13_1) != (rd l1 x13_1))=true:=bne_iff_ne.mpr c8
     obtain rfl:=Option.some.inj H
     have p386:0≤(x13_1:Int):=of_decide_eq_true (by assumption)
     have q386:x13_1 < (l0.length:Int):=of_decide_eq_true (by assumption)
     obtain ⟨ad386,e386,hx386_0⟩:=Kd.at_int HR0.out x13_1 p386 q386
     cases e386
     replace p386:=eq_true p386
     replace q386:=eq_true q386
     have p387:0≤(x13_1:Int):=of_decide_eq_true (by assumption)
     have q387:x13_1 < (l1.length:Int):=of_decide_eq_true (by assumption)
     obtain ⟨ad387,e387,hx387_0⟩:=Kd.at_int HR1.out x13_1 p387 q387
     cases e387
     replace p387:=eq_true p387
     replace q387:=eq_true q387
     go_wp2
     repeat (go_quiet (fail);try go_wp2)
     go_ret
     exact ⟨by first|rfl|(simp;done)|(simp [*];done),by repeat (first|exact Drawn0.refl _|apply Drawn0.step)⟩
   ·rw [if_neg c4] at H
    have c4b0:decide (x13_1 < (l0.length:Int))=false:=decide_eq_false c4
    clear c4
    obtain rfl:=Option.some.inj H
    go_wp2
    repeat (go_quiet (fail);try go_wp2)
    go_ret
    exact ⟨by first|rfl|(simp;done)|(simp [*];done),by repeat (first|exact Drawn0.refl _|apply Drawn0.step)⟩
 ·rw [if_neg c3] at H
  have c3b0:((l0.length:Int) == (l1.length:Int))=false:=beq_eq_false_iff_ne.mpr c3
  have c3b1:((l0.length:Int) != (l1.length:Int))=true:=bne_iff_ne.mpr c3
  have c3b2:(l0.length == l1.length)=false:=by first|simpa using c3|(simp at c3 ⊢;omega)
  obtain rfl:=Option.some.inj H
  go_enter Try.func74,Try.ntmps74
  go_wp2
  repeat (go_quiet (fail);try go_wp2)
  go_ret
  exact ⟨by first|rfl|(simp;done)|(simp [*];done),by repeat (first|exact Drawn0.refl _|apply Drawn0.step)⟩
def impl_sameLists_1.f (k:Nat) (l0:List Int) (l1:List Int):Option (Bool):=(slices_Equal_int_int.f k l0 l1).bind fun t388=>(some t388)
theorem impl_sameLists_1.mono:∀ a0 a1 k,LeO (impl_sameLists_1.f k a0 a1) (impl_sameLists_1.f (k+1) a0 a1):=by
 intro a0 a1 k
 unfold impl_sameLists_1.f
 repeat' first
  | (with_reducible exact LeO.refl _)
  | exact slices_Equal_int_int.mono _ _ _
  | exact LeO.none _
  | refine LeO.ite ?_ ?_
  | refine LeO.bind ?_ (fun _=>?_)
theorem impl_sameLists_1.calls (k:Nat) (A0:Option Addr) (c0:Nat) (l0:List Int) (A1:Option Addr) (c1:Nat) (l1:List Int) (r:Bool) (w:World) (hr0:Kd.C (Kd.int .i64) w A0 l0.length l0) (hc0:l0.length≤c0) (hr1:Kd.C (Kd.int .i64) w A1 l1.length l1) (hc1:l1.length≤c1) (h:impl_sameLists_1.f k l0 l1=some r) :
 Calls Try.prog 73 #[.slice A0 l0.length c0,.slice A1 l1.length c1] w fun e w'=>e=.returned (.bool r)∧Drawn0 w w':=by
 have HR0:=Aside0.mk hr0
 have HC0:=Aside0.mk hc0
 clear hr0 hc0
 have HR1:=Aside0.mk hr1
 have HC1:=Aside0.mk hc1
 clear hr1 hc1
 have H:((slices_Equal_int_int.f k l0 l1).bind fun t388=>(some t388))=some r:=h
 clear h
 replace H:=Option.bind_eq_some_iff.mp H
 obtain ⟨t388,A30,H⟩:=H
 have A3:=Aside0.mk A30
 clear A30
 obtain rfl:=Option.some.inj H
 go_enter Try.func73,Try.ntmps73
 go_wp2_with (first|((with_reducible refine gate_callee (f:=74) rfl ?_);refine goesL_ (some 7) rfl rfl Try.func74 (by kernel_rfl) rfl #[.slice A0 l0.length c0,.slice A1 l1.length c1] rfl (by (try simp only [List.map_toArray,List.map_cons,List.map_nil]);first|done|rfl) ?_;(with_reducible refine (slices_Equal_int_int.calls k _ _ l0 _ _ l1 t388 _ ?side1 ?side2 ?side3 ?side4 A3.out).mono ?_);(case side1=>repeat (first|exact HR0.out|(with_reducible refine Kd.C_alloc ?_ _)|(with_reducible refine Kd.C_drewN ?_ _)|(with_reducible refine Kd.C_drew ?_)));(case side2=>exact HC0.out);(case side3=>repeat (first|exact HR1.out|(with_reducible refine Kd.C_alloc ?_ _)|(with_reducible refine Kd.C_drewN ?_ _)|(with_reducible refine Kd.C_drew ?_)));(case side4=>exact HC1.out);rintro e w' ⟨rfl,⟨nd,rfl⟩⟩;refine ⟨_,rfl,?_⟩))
 go_ret
 exact ⟨by first|rfl|(simp;done)|(simp [*];done),by repeat (first|exact Drawn0.refl _|apply Drawn0.step)⟩
def slices_EqualFunc_int_int_int_int.l0:Nat→List (List Int)→List (List Int)→Int→Int→Option (Bool)
 | 0,_,_,_,_=>none
 | k+1,x1,x15,x16,x17=>if x17 < x16 then (if 0≤x17 then (if x17 < (x15.length:Int) then (if x17 < (x1.length:Int) then ((impl_sameLists_1.f k (rd_L3 x15 x17) (rd_L3 x1 x17)).bind fun t391=>(if t391=true then (slices_EqualFunc_int_int_int_int.l0 k x1 x15 x16 (wrap64 (x17+1))) else (some false))) else (none)) else (none)) else (none)) else (some true)
def slices_EqualFunc_int_int_int_int.f (k:Nat) (l0:List (List Int)) (l1:List (List Int)):Option (Bool):=if (l0.length:Int)=(l1.length:Int) then (slices_EqualFunc_int_int_int_int.l0 k l1 l0 (l0.length:Int) 0) else (some false)
theorem slices_EqualFunc_int_int_int_int.mono_l:∀ k,(∀ y0 y1 y2 y3,LeO (slices_EqualFunc_int_int_int_int.l0 k y0 y1 y2 y3) (slices_EqualFunc_int_int_int_int.l0 (k+1) y0 y1 y2 y3))
 | 0=>fun _ _ _ _ r h=>by simp [slices_EqualFunc_int_int_int_int.l0] at h
 | k+1=>by
  have ih0:=slices_EqualFunc_int_int_int_int.mono_l k
  ·intro y0 y1 y2 y3
   unfold slices_EqualFunc_int_int_int_int.l0
   repeat' first
   | (with_reducible exact LeO.refl _)
   | exact ih0 _ _ _ _
   | exact impl_sameLists_1.mono _ _ _
   | exact LeO.none _
   | refine LeO.ite ?_ ?_
   | refine LeO.bind ?_ (fun _=>?_)
theorem slices_EqualFunc_int_int_int_int.mono:∀ a0 a1 k,LeO (slices_EqualFunc_int_int_int_int.f k a0 a1) (slices_EqualFunc_int_int_int_int.f (k+1) a0 a1):=by
 intro a0 a1 k
 have ih0:=slices_EqualFunc_int_int_int_int.mono_l k
 unfold slices_EqualFunc_int_int_int_int.f
 repeat' first
  | (with_reducible exact LeO.refl _)
  | exact ih0 _ _ _ _
  | exact impl_sameLists_1.mono _ _ _
  | exact LeO.none _
  | refine LeO.ite ?_ ?_
  | refine LeO.bind ?_ (fun _=>?_)
theorem slices_EqualFunc_int_int_int_int.calls (k:Nat) (A0:Option Addr) (c0:Nat) (l0:List (List Int)) (A1:Option Addr) (c1:Nat) (l1:List (List Int)) (r:Bool) (w:World) (hr0:Kd.C (Kd.slice 3 (Kd.int .i64)) w A0 l0.length l0) (hc0:l0.length≤c0) (hr1:Kd.C (Kd.slice 3 (Kd.int .i64)) w A1 l1.length l1) (hc1:l1.length≤c1) (h:slices_EqualFunc_int_int_int_int.f k l0 l1=some r) :
 Calls Try.prog 72 #[.slice A0 l0.length c0,.slice A1 l1.length c1,.func (.func 73) #[] #[]] w fun e w'=>e=.returned (.bool r)∧Drawn0 w w':=by
 have HR0:=Aside0.mk hr0
 have HC0:=Aside0.mk hc0
 clear hr0 hc0
 have HR1:=Aside0.mk hr1
 have HC1:=Aside0.mk hc1
 clear hr1 hc1
 have H:(if (l0.length:Int)=(l1.length:Int) then (slices_EqualFunc_int_int_int_int.l0 k l1 l0 (l0.length:Int) 0) else (some false))=some r:=h
 clear h
 by_cases c3:(l0.length:Int)=(l1.length:Int)
 ·rw [if_pos c3] at H
  have c3b0:((l0.length:Int) == (l1.length:Int))=true:=beq_iff_eq.mpr c3
  have c3b1:((l0.length:Int) != (l1.length:Int))=false:=bne_eq_false_iff_eq.mpr c3
  have c3b2:(l0.length == l1.length)=true:=by first|simpa using c3|(simp at c3 ⊢;omega)
  clear c3
  have H':=Aside0.mk H
  clear H
  go_enter Try.func72,Try.ntmps72
  go_wp2
  go_loopg [17] k (fun kq v17 w'=>∃ (x17_1:Int),v17=.int .i64 x17_1∧Aside0 (slices_EqualFunc_int_int_int_int.l0 kq l1 l0 (l0.length:Int) x17_1=some r)∧Aside0 (kq≤k)∧Drawn0 w w')
  case atStart=>exact ⟨(0),(by first|rfl|(simp;done)|(simp [*];done)),H',⟨Nat.le_refl _⟩,by repeat (first|exact Drawn0.refl _|apply Drawn0.step)⟩
  case round =>
   clear H'
   obtain ⟨x17_1,rfl,HA,HK1,⟨m1,rfl⟩⟩:=hrel
   rcases gk with _|k1
   ·exact absurd HA.out (by simp [slices_EqualFunc_int_int_int_int.l0])
   have H:=HA.out
   clear HA
   simp only [slices_EqualFunc_int_int_int_int.l0] at H
   by_cases c4:x17_1 < (l0.length:Int)
   ·rw [if_pos c4] at H
    have c4b0:decide (x17_1 < (l0.length:Int))=true:=decide_eq_true c4
    clear c4
    by_cases c5:0≤x17_1
    rotate_left;·rw [if_neg c5] at H;exact absurd H (by simp)
    rw [if_pos c5] at H
    have c5b0:decide (0≤x17_1)=true:=decide_eq_true c5
    clear c5
    by_cases c6:x17_1 < (l0.length:Int)
    rotate_left;·rw [if_neg c6] at H;exact absurd H (by simp)
    rw [if_pos c6] at H
    have c6b0:decide (x17_1 < (l0.length:Int))=true:=decide_eq_true c6
    clear c6
    by_cases c7:x17_1 < (l1.length:Int)
    rotate_left;·rw [if_neg c7] at H;exact absurd H (by simp)
    rw [if_pos c7] at H
    have c7b0:decide (x17_1 < (l1.length:Int))=true:=decide_eq_true c7
    clear c7
    replace H:=Option.bind_eq_some_iff.mp H
    obtain ⟨t391,A80,H⟩:=H
    have A8:=Aside0.mk A80
    clear A80
    by_cases c9:t391=true
    ·subst c9
     rw [if_pos rfl] at H
     have H':=Aside0.mk H
     clear H
     have p389:0≤(x17_1:Int):=of_decide_eq_true (by assumption)
     have q389:x17_1 < (l0.length:Int):=of_decide_eq_true (by assumption)
     obtain ⟨ad389,A389_0,c389_0,e389,hx389_0,hl389_0,hi389_0⟩:=at_L3 HR0.out x17_1 p389 q389
     cases e389
     have HR389_0:=Aside0.mk hi389_0
     have HC389_0:=Aside0.mk hl389_0
     clear hi389_0 hl389_0
     replace p389:=eq_true p389
     replace q389:=eq_true q389
     have p390:0≤(x17_1:Int):=of_decide_eq_true (by assumption)
     have q390:x17_1 < (l1.length:Int):=of_decide_eq_true (by assumption)
     obtain ⟨ad390,A390_0,c390_0,e390,hx390_0,hl390_0,hi390_0⟩:=at_L3 HR1.out x17_1 p390 q390
     cases e390
     have HR390_0:=Aside0.mk hi390_0
     have HC390_0:=Aside0.mk hl390_0
     clear hi390_0 hl390_0
     replace p390:=eq_true p390
     replace q390:=eq_true q390
     go_wp2_with (first|((refine (impl_sameLists_1.calls k1 _ _ (rd_L3 l0 x17_1) _ _ (rd_L3 l1 x17_1) true _ ?side1 ?side2 ?side3 ?side4 A8.out).mono ?_);(case side1=>repeat (first|exact HR389_0.out|(with_reducible refine Kd.C_alloc ?_ _)|(with_reducible refine Kd.C_drewN ?_ _)|(with_reducible refine Kd.C_drew ?_)));(case side2=>exact HC389_0.out);(case side3=>repeat (first|exact HR390_0.out|(with_reducible refine Kd.C_alloc ?_ _)|(with_reducible refine Kd.C_drewN ?_ _)|(with_reducible refine Kd.C_drew ?_)));(case side4=>exact HC390_0.out);rintro e w' ⟨rfl,⟨nd,rfl⟩⟩))
     go_roundg k1
     case measure=>have:=HK1.out;omega
     case rel=>exact ⟨(wrap64 (x17_1+1)),(by first|rfl|(simp;done)|(simp [*];done)),H',⟨by have:=HK1.out;omega⟩,by repeat (first|exact Drawn0.refl _|apply Drawn0.step)⟩
    ·replace c9:=Bool.eq_false_iff.mpr c9
     subst c9
     rw [if_neg (show ¬ (false=true) by decide)] at H
     obtain rfl:=Option.some.inj H
     have p389:0≤(x17_1:Int):=of_decide_eq_true (by assumption)
     have q389:x17_1 < (l0.length:Int):=of_decide_eq_true (by assumption)
     obtain ⟨ad389,A389_0,c389_0,e389,hx389_0,hl389_0,hi389_0⟩:=at_L3 HR0.out x17_1 p389 q389
     cases e389
     have HR389_0:=Aside0.mk hi389_0
     have HC389_0:=Aside0.mk hl389_0
     clear hi389_0 hl389_0
     replace p389:=eq_true p389
     replace q389:=eq_true q389
     have p390:0≤(x17_1:Int):=of_decide_eq_true (by assumption)
     have q390:x17_1 < (l1.length:Int):=of_decide_eq_true (by assumption)
     obtain ⟨ad390,A390_0,c390_0,e390,hx390_0,hl390_0,hi390_0⟩:=at_L3 HR1.out x17_1 p390 q390
     cases e390
     have HR390_0:=Aside0.mk hi390_0
     have HC390_0:=Aside0.mk hl390_0
     clear hi390_0 hl390_0
     replace p390:=eq_true p390
     replace q390:=eq_true q390
     go_wp2_with (first|((refine (impl_sameLists_1.calls k1 _ _ (rd_L3 l0 x17_1) _ _ (rd_L3 l1 x17_1) false _ ?side1 ?side2 ?side3 ?side4 A8.out).mono ?_);(case side1=>repeat (first|exact HR389_0.out|(with_reducible refine Kd.C_alloc ?_ _)|(with_reducible refine Kd.C_drewN ?_ _)|(with_reducible refine Kd.C_drew ?_)));(case side2=>exact HC389_0.out);(case side3=>repeat (first|exact HR390_0.out|(with_reducible refine Kd.C_alloc ?_ _)|(with_reducible refine Kd.C_drewN ?_ _)|(with_reducible refine Kd.C_drew ?_)));(case side4=>exact HC390_0.out);rintro e w' ⟨rfl,⟨nd,rfl⟩⟩))
     go_ret
     exact ⟨by first|rfl|(simp;done)|(simp [*];done),by repeat (first|exact Drawn0.refl _|apply Drawn0.step)⟩
   ·rw [if_neg c4] at H
    have c4b0:decide (x17_1 < (l0.length:Int))=false:=decide_eq_false c4
    clear c4
    obtain rfl:=Option.some.inj H
    go_wp2
    go_ret
    exact ⟨by first|rfl|(simp;done)|(simp [*];done),by repeat (first|exact Drawn0.refl _|apply Drawn0.step)⟩
 ·rw [if_neg c3] at H
  have c3b0:((l0.length:Int) == (l1.length:Int))=false:=beq_eq_false_iff_ne.mpr c3
  have c3b1:((l0.length:Int) != (l1.length:Int))=true:=bne_iff_ne.mpr c3
  have c3b2:(l0.length == l1.length)=false:=by first|simpa using c3|(simp at c3 ⊢;omega)
  obtain rfl:=Option.some.inj H
  go_enter Try.func72,Try.ntmps72
  go_wp2
  go_ret
  exact ⟨by first|rfl|(simp;done)|(simp [*];done),by repeat (first|exact Drawn0.refl _|apply Drawn0.step)⟩
def impl_sameLists.f (k:Nat) (l0:List (List Int)) (l1:List (List Int)):Option (Bool):=(slices_EqualFunc_int_int_int_int.f k l0 l1).bind fun t392=>(some t392)
theorem impl_sameLists.mono:∀ a0 a1 k,LeO (impl_sameLists.f k a0 a1) (impl_sameLists.f (k+1) a0 a1):=by
 intro a0 a1 k
 unfold impl_sameLists.f
 repeat' first
  | (with_reducible exact LeO.refl _)
  | exact slices_EqualFunc_int_int_int_int.mono _ _ _
  | exact LeO.none _
  | refine LeO.ite ?_ ?_
  | refine LeO.bind ?_ (fun _=>?_)
theorem impl_sameLists.calls (k:Nat) (A0:Option Addr) (c0:Nat) (l0:List (List Int)) (A1:Option Addr) (c1:Nat) (l1:List (List Int)) (r:Bool) (w:World) (hr0:Kd.C (Kd.slice 3 (Kd.int .i64)) w A0 l0.length l0) (hc0:l0.length≤c0) (hr1:Kd.C (Kd.slice 3 (Kd.int .i64)) w A1 l1.length l1) (hc1:l1.length≤c1) (h:impl_sameLists.f k l0 l1=some r) :
 Calls Try.prog 42 #[.slice A0 l0.length c0,.slice A1 l1.length c1] w fun e w'=>e=.returned (.bool r)∧Drawn0 w w':=by
 have HR0:=Aside0.mk hr0
 have HC0:=Aside0.mk hc0
 clear hr0 hc0
 have HR1:=Aside0.mk hr1
 have HC1:=Aside0.mk hc1
 clear hr1 hc1
 have H:((slices_EqualFunc_int_int_int_int.f k l0 l1).bind fun t392=>(some t392))=some r:=h
 clear h
 replace H:=Option.bind_eq_some_iff.mp H
 obtain ⟨t392,A30,H⟩:=H
 have A3:=Aside0.mk A30
 clear A30
 obtain rfl:=Option.some.inj H
 go_enter Try.func42,Try.ntmps42
 go_wp2_with (first|((with_reducible refine gate_callee (f:=72) rfl ?_);refine goesL_ (some 7) rfl rfl Try.func72 (by kernel_rfl) rfl #[.slice A0 l0.length c0,.slice A1 l1.length c1,.func (.func 73) #[] #[]] rfl (by (try simp only [List.map_toArray,List.map_cons,List.map_nil]);first|done|rfl) ?_;(with_reducible refine (slices_EqualFunc_int_int_int_int.calls k _ _ l0 _ _ l1 t392 _ ?side1 ?side2 ?side3 ?side4 A3.out).mono ?_);(case side1=>repeat (first|exact HR0.out|(with_reducible refine Kd.C_alloc ?_ _)|(with_reducible refine Kd.C_drewN ?_ _)|(with_reducible refine Kd.C_drew ?_)));(case side2=>exact HC0.out);(case side3=>repeat (first|exact HR1.out|(with_reducible refine Kd.C_alloc ?_ _)|(with_reducible refine Kd.C_drewN ?_ _)|(with_reducible refine Kd.C_drew ?_)));(case side4=>exact HC1.out);rintro e w' ⟨rfl,⟨nd,rfl⟩⟩;refine ⟨_,rfl,?_⟩))
 go_ret
 exact ⟨by first|rfl|(simp;done)|(simp [*];done),by repeat (first|exact Drawn0.refl _|apply Drawn0.step)⟩
def impl_SameMeasures.f (k:Nat) (l0:List (S40)) (l1:List (S40)):Option (Bool):=(impl_PolygonOk.f k l0).bind fun t393=>(if t393=true then ((impl_PolygonOk.f k l1).bind fun t394=>(if t394=true then ((impl_measures.f k l0).bind fun t395=>((impl_measures.f k l1).bind fun t398=>((impl_sameLists.f k t395 t398).bind fun t401=>(some t401)))) else (some false))) else (some false))
theorem impl_SameMeasures.mono:∀ a0 a1 k,LeO (impl_SameMeasures.f k a0 a1) (impl_SameMeasures.f (k+1) a0 a1):=by
 intro a0 a1 k
 unfold impl_SameMeasures.f
 repeat' first
  | (with_reducible exact LeO.refl _)
  | exact impl_PolygonOk.mono _ _
  | exact impl_measures.mono _ _
  | exact impl_sameLists.mono _ _ _
  | exact LeO.none _
  | refine LeO.ite ?_ ?_
  | refine LeO.bind ?_ (fun _=>?_)
theorem impl_SameMeasures.calls (k:Nat) (A0:Option Addr) (c0:Nat) (l0:List (S40)) (A1:Option Addr) (c1:Nat) (l1:List (S40)) (r:Bool) (w:World) (hr0:Kd.C k40 w A0 l0.length l0) (hc0:l0.length≤c0) (hr1:Kd.C k40 w A1 l1.length l1) (hc1:l1.length≤c1) (h:impl_SameMeasures.f k l0 l1=some r) :
 Calls Try.prog 19 #[.slice A0 l0.length c0,.slice A1 l1.length c1] w fun e w'=>e=.returned (.bool r)∧Below w.heap.size w w':=by
 have HR0:=Aside0.mk hr0
 have HC0:=Aside0.mk hc0
 clear hr0 hc0
 have HR1:=Aside0.mk hr1
 have HC1:=Aside0.mk hc1
 clear hr1 hc1
 have HB:=Aside0.mk (Below.refl w.heap.size w)
 have H:((impl_PolygonOk.f k l0).bind fun t393=>(if t393=true then ((impl_PolygonOk.f k l1).bind fun t394=>(if t394=true then ((impl_measures.f k l0).bind fun t395=>((impl_measures.f k l1).bind fun t398=>((impl_sameLists.f k t395 t398).bind fun t401=>(some t401)))) else (some false))) else (some false)))=some r:=h
 clear h
 replace H:=Option.bind_eq_some_iff.mp H
 obtain ⟨t393,A30,H⟩:=H
 have A3:=Aside0.mk A30
 clear A30
 by_cases c4:t393=true
 ·subst c4
  rw [if_pos rfl] at H
  replace H:=Option.bind_eq_some_iff.mp H
  obtain ⟨t394,A50,H⟩:=H
  have A5:=Aside0.mk A50
  clear A50
  by_cases c6:t394=true
  ·subst c6
   rw [if_pos rfl] at H
   replace H:=Option.bind_eq_some_iff.mp H
   obtain ⟨t395,A70,H⟩:=H
   have A7:=Aside0.mk A70
   clear A70
   replace H:=Option.bind_eq_some_iff.mp H
   obtain ⟨t398,A80,H⟩:=H
   have A8:=Aside0.mk A80
   clear A80
   replace H:=Option.bind_eq_some_iff.mp H
   obtain ⟨t401,A90,H⟩:=H
   have A9:=Aside0.mk A90
   clear A90
   obtain rfl:=Option.some.inj H
   go_enter Try.func19,Try.ntmps19
   go_wp2_with (first|((with_reducible refine gate_callee (f:=36) rfl ?_);refine goesL_ (some 6) rfl rfl Try.func36 (by kernel_rfl) rfl #[.slice A0 l0.length c0] rfl (by (try simp only [List.map_toArray,List.map_cons,List.map_nil]);first|done|rfl) ?_;(with_reducible refine (impl_PolygonOk.calls k _ _ l0 true _ ?side1 ?side2 A3.out).mono ?_);(case side1=>repeat (first|exact HR0.out|(with_reducible refine Kd.C_alloc ?_ _)|(with_reducible refine Kd.C_drewN ?_ _)|(with_reducible refine Kd.C_drew ?_)));(case side2=>exact HC0.out);rintro e w10 ⟨rfl,hb⟩;refine ⟨_,rfl,?_⟩;have n0_:=Aside0.mk (below_step (by repeat (with_reducible first|exact HB.out|apply bA|apply bN|apply bD)) hb);clear HB;have HB:=n0_;clear n0_;(try clear hb))|(go_at_call 36;(with_reducible refine (impl_PolygonOk.calls k _ _ l1 true _ ?side1 ?side2 A5.out).mono ?_);(case side1=>repeat (first|exact (Kd.C_below HR1.out HB.out)|(with_reducible refine Kd.C_alloc ?_ _)|(with_reducible refine Kd.C_drewN ?_ _)|(with_reducible refine Kd.C_drew ?_)));(case side2=>exact HC1.out);rintro e w11 ⟨rfl,hb⟩;have n0_:=Aside0.mk (below_step (by repeat (with_reducible first|exact HB.out|apply bA|apply bN|apply bD)) hb);clear HB;have HB:=n0_;clear n0_;(try clear hb))|(go_at_call 37;(with_reducible refine (impl_measures.calls k _ _ l0 t395 _ ?side1 ?side2 A7.out).mono ?_);(case side1=>repeat (first|exact (Kd.C_below HR0.out HB.out)|(with_reducible refine Kd.C_alloc ?_ _)|(with_reducible refine Kd.C_drewN ?_ _)|(with_reducible refine Kd.C_drew ?_)));(case side2=>exact HC0.out);rintro e w12 ⟨v396,rfl,ho0,hb⟩;have n0_:=Aside0.mk (Kd.N_lower (Kd.N_mono (ok':=fun k_=>True) ho0 (fun k_ hk_=>trivial)) (below_size (by repeat (with_reducible first|exact HB.out|apply bA|apply bN|apply bD))));have n1_:=Aside0.mk (below_step (by repeat (with_reducible first|exact HB.out|apply bA|apply bN|apply bD)) hb);clear HB;have HO397:=n0_;have HB:=n1_;clear n0_ n1_;(try clear hb);(try clear ho0))|(go_at_call 37;(with_reducible refine (impl_measures.calls k _ _ l1 t398 _ ?side1 ?side2 A8.out).mono ?_);(case side1=>repeat (first|exact (Kd.C_below HR1.out HB.out)|(with_reducible refine Kd.C_alloc ?_ _)|(with_reducible refine Kd.C_drewN ?_ _)|(with_reducible refine Kd.C_drew ?_)));(case side2=>exact HC1.out);rintro e w13 ⟨v399,rfl,ho0,hb⟩;have n0_:=Aside0.mk (Kd.N_elder' (by (with_reducible repeat (first|apply nA|apply nN|apply nD));exact HO397.out) (Kd.N_base ho0) hb);have n1_:=Aside0.mk (Kd.N_lower (Kd.N_mono (ok':=fun k_=>some k_≠(v396:Value).ownBlock) ho0 (fun k_ hk_=>(Kd.fresh' (Kd.N_lt (by (with_reducible repeat (first|apply nA|apply nN|apply nD));exact HO397.out)) k_ hk_))) (below_size (by repeat (with_reducible first|exact HB.out|apply bA|apply bN|apply bD))));have n2_:=Aside0.mk (below_step (by repeat (with_reducible first|exact HB.out|apply bA|apply bN|apply bD)) hb);clear HO397;clear HB;have HO397:=n0_;have HO400:=n1_;have HB:=n2_;clear n0_ n1_ n2_;(try clear hb);(try clear ho0);obtain ⟨Ao14,co14,eo14⟩:=Kd.N_slice HO397.out;subst eo14;obtain ⟨Ao15,co15,eo15⟩:=Kd.N_slice HO400.out;subst eo15)|(go_at_call 42;(with_reducible refine (impl_sameLists.calls k _ _ t395 _ _ t398 t401 _ ?side1 ?side2 ?side3 ?side4 A9.out).mono ?_);(case side1=>repeat (first|exact (Kd.N_reads' HO397.out).2.2|(with_reducible refine Kd.C_alloc ?_ _)|(with_reducible refine Kd.C_drewN ?_ _)|(with_reducible refine Kd.C_drew ?_)));(case side2=>exact (Kd.N_reads' HO397.out).2.1);(case side3=>repeat (first|exact (Kd.N_reads' HO400.out).2.2|(with_reducible refine Kd.C_alloc ?_ _)|(with_reducible refine Kd.C_drewN ?_ _)|(with_reducible refine Kd.C_drew ?_)));(case side4=>exact (Kd.N_reads' HO400.out).2.1);rintro e w' ⟨rfl,⟨nd,rfl⟩⟩))
   go_ret
   exact ⟨by first|rfl|(simp [errW_none,errW_some] <;> rfl)|(simp [*,errW_none,errW_some] <;> rfl),by repeat (with_reducible first|exact HB.out|apply bA|apply bN|apply bD)⟩
  ·replace c6:=Bool.eq_false_iff.mpr c6
   subst c6
   rw [if_neg (show ¬ (false=true) by decide)] at H
   obtain rfl:=Option.some.inj H
   go_enter Try.func19,Try.ntmps19
   go_wp2_with (first|((with_reducible refine gate_callee (f:=36) rfl ?_);refine goesL_ (some 6) rfl rfl Try.func36 (by kernel_rfl) rfl #[.slice A0 l0.length c0] rfl (by (try simp only [List.map_toArray,List.map_cons,List.map_nil]);first|done|rfl) ?_;(with_reducible refine (impl_PolygonOk.calls k _ _ l0 true _ ?side1 ?side2 A3.out).mono ?_);(case side1=>repeat (first|exact HR0.out|(with_reducible refine Kd.C_alloc ?_ _)|(with_reducible refine Kd.C_drewN ?_ _)|(with_reducible refine Kd.C_drew ?_)));(case side2=>exact HC0.out);rintro e w16 ⟨rfl,hb⟩;refine ⟨_,rfl,?_⟩;have n0_:=Aside0.mk (below_step (by repeat (with_reducible first|exact HB.out|apply bA|apply bN|apply bD)) hb);clear HB;have HB:=n0_;clear n0_;(try clear hb))|(go_at_call 36;(with_reducible refine (impl_PolygonOk.calls k _ _ l1 false _ ?side1 ?side2 A5.out).mono ?_);(case side1=>repeat (first|exact (Kd.C_below HR1.out HB.out)|(with_reducible refine Kd.C_alloc ?_ _)|(with_reducible refine Kd.C_drewN ?_ _)|(with_reducible refine Kd.C_drew ?_)));(case side2=>exact HC1.out);rintro e w17 ⟨rfl,hb⟩;have n0_:=Aside0.mk (below_step (by repeat (with_reducible first|exact HB.out|apply bA|apply bN|apply bD)) hb);clear HB;have HB:=n0_;clear n0_;(try clear hb)))
   go_ret
   exact ⟨by first|rfl|(simp [errW_none,errW_some] <;> rfl)|(simp [*,errW_none,errW_some] <;> rfl),by repeat (with_reducible first|exact HB.out|apply bA|apply bN|apply bD)⟩
 ·replace c4:=Bool.eq_false_iff.mpr c4
  subst c4
  rw [if_neg (show ¬ (false=true) by decide)] at H
  obtain rfl:=Option.some.inj H
  go_enter Try.func19,Try.ntmps19
  go_wp2_with (first|((with_reducible refine gate_callee (f:=36) rfl ?_);refine goesL_ (some 6) rfl rfl Try.func36 (by kernel_rfl) rfl #[.slice A0 l0.length c0] rfl (by (try simp only [List.map_toArray,List.map_cons,List.map_nil]);first|done|rfl) ?_;(with_reducible refine (impl_PolygonOk.calls k _ _ l0 false _ ?side1 ?side2 A3.out).mono ?_);(case side1=>repeat (first|exact HR0.out|(with_reducible refine Kd.C_alloc ?_ _)|(with_reducible refine Kd.C_drewN ?_ _)|(with_reducible refine Kd.C_drew ?_)));(case side2=>exact HC0.out);rintro e w18 ⟨rfl,hb⟩;refine ⟨_,rfl,?_⟩;have n0_:=Aside0.mk (below_step (by repeat (with_reducible first|exact HB.out|apply bA|apply bN|apply bD)) hb);clear HB;have HB:=n0_;clear n0_;(try clear hb)))
  go_ret
  exact ⟨by first|rfl|(simp [errW_none,errW_some] <;> rfl)|(simp [*,errW_none,errW_some] <;> rfl),by repeat (with_reducible first|exact HB.out|apply bA|apply bN|apply bD)⟩
def laws_FnExactSameMeasures.f (k:Nat) (l0:List (S42)) (l1:List (S42)):Option (Bool):=(laws_szPointS.f l0 1048576).bind fun t402=>(if t402 < 0 then (some true) else ((laws_szPointS.f l1 t402).bind fun t403=>(if t403 < 0 then (some true) else ((laws_toPointS.f k l0).bind fun t404=>((laws_toPointS.f k l1).bind fun t407=>((spec_SameMeasures.f k t404 t407).bind fun t410=>((laws_toPointS.f k l0).bind fun t411=>((laws_toPointS.f k l1).bind fun t414=>((impl_SameMeasures.f k t411 t414).bind fun t417=>(if (t417 != t410)=true then (some false) else ((laws_toPointS.f k l0).bind fun t418=>((laws_eqPointS.f k t411 t418).bind fun t421=>(if t421=true then ((laws_toPointS.f k l1).bind fun t422=>((laws_eqPointS.f k t414 t422).bind fun t425=>(if t425=true then (some true) else (some false)))) else (some false))))))))))))))
theorem laws_FnExactSameMeasures.mono:∀ a0 a1 k,LeO (laws_FnExactSameMeasures.f k a0 a1) (laws_FnExactSameMeasures.f (k+1) a0 a1):=by
 intro a0 a1 k
 unfold laws_FnExactSameMeasures.f
 repeat' first
  | (with_reducible exact LeO.refl _)
  | exact impl_SameMeasures.mono _ _ _
  | exact laws_eqPointS.mono _ _ _
  | exact laws_toPointS.mono _ _
  | exact spec_SameMeasures.mono _ _ _
  | exact LeO.none _
  | refine LeO.ite ?_ ?_
  | refine LeO.bind ?_ (fun _=>?_)
theorem laws_FnExactSameMeasures.calls (k:Nat) (A0:Option Addr) (c0:Nat) (l0:List (S42)) (A1:Option Addr) (c1:Nat) (l1:List (S42)) (r:Bool) (w:World) (hr0:Kd.C k42 w A0 l0.length l0) (hc0:l0.length≤c0) (hr1:Kd.C k42 w A1 l1.length l1) (hc1:l1.length≤c1) (h:laws_FnExactSameMeasures.f k l0 l1=some r) :
 Calls Try.prog 6 #[.slice A0 l0.length c0,.slice A1 l1.length c1] w fun e w'=>e=.returned (.bool r)∧Below w.heap.size w w':=by
 have HR0:=Aside0.mk hr0
 have HC0:=Aside0.mk hc0
 clear hr0 hc0
 have HR1:=Aside0.mk hr1
 have HC1:=Aside0.mk hc1
 clear hr1 hc1
 have HB:=Aside0.mk (Below.refl w.heap.size w)
 have H:((laws_szPointS.f l0 1048576).bind fun t402=>(if t402 < 0 then (some true) else ((laws_szPointS.f l1 t402).bind fun t403=>(if t403 < 0 then (some true) else ((laws_toPointS.f k l0).bind fun t404=>((laws_toPointS.f k l1).bind fun t407=>((spec_SameMeasures.f k t404 t407).bind fun t410=>((laws_toPointS.f k l0).bind fun t411=>((laws_toPointS.f k l1).bind fun t414=>((impl_SameMeasures.f k t411 t414).bind fun t417=>(if (t417 != t410)=true then (some false) else ((laws_toPointS.f k l0).bind fun t418=>((laws_eqPointS.f k t411 t418).bind fun t421=>(if t421=true then ((laws_toPointS.f k l1).bind fun t422=>((laws_eqPointS.f k t414 t422).bind fun t425=>(if t425=true then (some true) else (some false)))) else (some false)))))))))))))))=some r:=h
 clear h
 replace H:=Option.bind_eq_some_iff.mp H
 obtain ⟨t402,A30,H⟩:=H
 have A3:=Aside0.mk A30
 clear A30
 by_cases c4:t402 < 0
 ·rw [if_pos c4] at H
  have c4b0:decide (t402 < 0)=true:=decide_eq_true c4
  clear c4
  obtain rfl:=Option.some.inj H
  go_enter Try.func6,Try.ntmps6
  go_wp2_with (first|((with_reducible refine gate_callee (f:=9) rfl ?_);refine goesL_ (some 12) rfl rfl Try.func9 (by kernel_rfl) rfl #[.slice A0 l0.length c0,.int .i64 1048576] rfl (by (try simp only [List.map_toArray,List.map_cons,List.map_nil]);first|done|rfl) ?_;(with_reducible refine (laws_szPointS.calls _ _ l0 1048576 t402 _ ?side1 ?side2 A3.out).mono ?_);(case side1=>repeat (first|exact HR0.out|(with_reducible refine Kd.C_alloc ?_ _)|(with_reducible refine Kd.C_drewN ?_ _)|(with_reducible refine Kd.C_drew ?_)));(case side2=>exact HC0.out);rintro e w' ⟨rfl,⟨nd,rfl⟩⟩;refine ⟨_,rfl,?_⟩))
  go_ret
  exact ⟨by first|rfl|(simp [errW_none,errW_some] <;> rfl)|(simp [*,errW_none,errW_some] <;> rfl),by repeat (with_reducible first|exact HB.out|apply bA|apply bN|apply bD)⟩
 ·rw [if_neg c4] at H
  have c4b0:decide (t402 < 0)=false:=decide_eq_false c4
  clear c4
  replace H:=Option.bind_eq_some_iff.mp H
  obtain ⟨t403,A50,H⟩:=H
  have A5:=Aside0.mk A50
  clear A50
  by_cases c6:t403 < 0
  ·rw [if_pos c6] at H
   have c6b0:decide (t403 < 0)=true:=decide_eq_true c6
   clear c6
   obtain rfl:=Option.some.inj H
   go_enter Try.func6,Try.ntmps6
   go_wp2_with (first|((with_reducible refine gate_callee (f:=9) rfl ?_);refine goesL_ (some 12) rfl rfl Try.func9 (by kernel_rfl) rfl #[.slice A0 l0.length c0,.int .i64 1048576] rfl (by (try simp only [List.map_toArray,List.map_cons,List.map_nil]);first|done|rfl) ?_;(with_reducible refine (laws_szPointS.calls _ _ l0 1048576 t402 _ ?side1 ?side2 A3.out).mono ?_);(case side1=>repeat (first|exact HR0.out|(with_reducible refine Kd.C_alloc ?_ _)|(with_reducible refine Kd.C_drewN ?_ _)|(with_reducible refine Kd.C_drew ?_)));(case side2=>exact HC0.out);rintro e w' ⟨rfl,⟨nd,rfl⟩⟩;refine ⟨_,rfl,?_⟩)|((with_reducible refine gate_callee (f:=9) rfl ?_);refine goesL_ (some 17) rfl rfl Try.func9 (by kernel_rfl) rfl #[.slice A1 l1.length c1,.int .i64 t402] rfl (by (try simp only [List.map_toArray,List.map_cons,List.map_nil]);first|done|rfl) ?_;(with_reducible refine (laws_szPointS.calls _ _ l1 t402 t403 _ ?side1 ?side2 A5.out).mono ?_);(case side1=>repeat (first|exact HR1.out|(with_reducible refine Kd.C_alloc ?_ _)|(with_reducible refine Kd.C_drewN ?_ _)|(with_reducible refine Kd.C_drew ?_)));(case side2=>exact HC1.out);rintro e w' ⟨rfl,⟨nd,rfl⟩⟩;refine ⟨_,rfl,?_⟩))
   go_ret
   exact ⟨by first|rfl|(simp [errW_none,errW_some] <;> rfl)|(simp [*,errW_none,errW_some] <;> rfl),by repeat (with_reducible first|exact HB.out|apply bA|apply bN|apply bD)⟩
  ·rw [if_neg c6] at H
   have c6b0:decide (t403 < 0)=false:=decide_eq_false c6
   clear c6
   replace H:=Option.bind_eq_some_iff.mp H
   obtain ⟨t404,A70,H⟩:=H
   have A7:=Aside0.mk A70
   clear A70
   replace H:=Option.bind_eq_some_iff.mp H
   obtain ⟨t407,A80,H⟩:=H
   have A8:=Aside0.mk A80
   clear A80
   replace H:=Option.bind_eq_some_iff.mp H
   obtain ⟨t410,A90,H⟩:=H
   have A9:=Aside0.mk A90
   clear A90
   replace H:=Option.bind_eq_some_iff.mp H
   obtain ⟨t411,A100,H⟩:=H
   have A10:=Aside0.mk A100
   clear A100
   replace H:=Option.bind_eq_some_iff.mp H
   obtain ⟨t414,A110,H⟩:=H
   have A11:=Aside0.mk A110
   clear A110
   replace H:=Option.bind_eq_some_iff.mp H
   obtain ⟨t417,A120,H⟩:=H
   have A12:=Aside0.mk A120
   clear A120
   by_cases c13:(t417 != t410)=true
   ·rw [if_pos c13] at H
    have c13b0:(t417 != t410)=true:=c13
    (try (have c13b1:decide (t417=t410)=false:=by simpa using c13))
    (try (have c13b2:(t417 == t410)=false:=by simpa using c13))
    (try (have c13b3:¬ (t417=t410):=by simpa using c13))
    clear c13
    obtain rfl:=Option.some.inj H
    go_enter Try.func6,Try.ntmps6
    go_wp2_with (first|((with_reducible refine gate_callee (f:=9) rfl ?_);refine goesL_ (some 12) rfl rfl Try.func9 (by kernel_rfl) rfl #[.slice A0 l0.length c0,.int .i64 1048576] rfl (by (try simp only [List.map_toArray,List.map_cons,List.map_nil]);first|done|rfl) ?_;(with_reducible refine (laws_szPointS.calls _ _ l0 1048576 t402 _ ?side1 ?side2 A3.out).mono ?_);(case side1=>repeat (first|exact HR0.out|(with_reducible refine Kd.C_alloc ?_ _)|(with_reducible refine Kd.C_drewN ?_ _)|(with_reducible refine Kd.C_drew ?_)));(case side2=>exact HC0.out);rintro e w' ⟨rfl,⟨nd,rfl⟩⟩;refine ⟨_,rfl,?_⟩)|((with_reducible refine gate_callee (f:=9) rfl ?_);refine goesL_ (some 17) rfl rfl Try.func9 (by kernel_rfl) rfl #[.slice A1 l1.length c1,.int .i64 t402] rfl (by (try simp only [List.map_toArray,List.map_cons,List.map_nil]);first|done|rfl) ?_;(with_reducible refine (laws_szPointS.calls _ _ l1 t402 t403 _ ?side1 ?side2 A5.out).mono ?_);(case side1=>repeat (first|exact HR1.out|(with_reducible refine Kd.C_alloc ?_ _)|(with_reducible refine Kd.C_drewN ?_ _)|(with_reducible refine Kd.C_drew ?_)));(case side2=>exact HC1.out);rintro e w' ⟨rfl,⟨nd,rfl⟩⟩;refine ⟨_,rfl,?_⟩)|((with_reducible refine gate_callee (f:=11) rfl ?_);refine goesL_ (some 21) rfl rfl Try.func11 (by kernel_rfl) rfl #[.slice A0 l0.length c0] rfl (by (try simp only [List.map_toArray,List.map_cons,List.map_nil]);first|done|rfl) ?_;(with_reducible refine (laws_toPointS.calls k _ _ l0 t404 _ ?side1 ?side2 A7.out).mono ?_);(case side1=>repeat (first|exact HR0.out|(with_reducible refine Kd.C_alloc ?_ _)|(with_reducible refine Kd.C_drewN ?_ _)|(with_reducible refine Kd.C_drew ?_)));(case side2=>exact HC0.out);rintro e w14 ⟨v405,rfl,ho0,hb⟩;refine ⟨_,rfl,?_⟩;have n0_:=Aside0.mk (Kd.R_lower ho0 (below_size (by repeat (with_reducible first|exact HB.out|apply bA|apply bN|apply bD))));have n1_:=Aside0.mk (below_step (by repeat (with_reducible first|exact HB.out|apply bA|apply bN|apply bD)) hb);clear HB;have HO406:=n0_;have HB:=n1_;clear n0_ n1_;(try clear hb);(try clear ho0))|((with_reducible refine gate_callee (f:=11) rfl ?_);refine goesL_ (some 23) rfl rfl Try.func11 (by kernel_rfl) rfl #[.slice A1 l1.length c1] rfl (by (try simp only [List.map_toArray,List.map_cons,List.map_nil]);first|done|rfl) ?_;(with_reducible refine (laws_toPointS.calls k _ _ l1 t407 _ ?side1 ?side2 A8.out).mono ?_);(case side1=>repeat (first|exact (Kd.C_below HR1.out HB.out)|(with_reducible refine Kd.C_alloc ?_ _)|(with_reducible refine Kd.C_drewN ?_ _)|(with_reducible refine Kd.C_drew ?_)));(case side2=>exact HC1.out);rintro e w15 ⟨v408,rfl,ho0,hb⟩;refine ⟨_,rfl,?_⟩;have n0_:=Aside0.mk (Kd.R_elder' (by (with_reducible repeat (first|apply rA|apply rN|apply rD));exact HO406.out) (Kd.R_base ho0) hb);have n1_:=Aside0.mk (Kd.R_lower (Kd.R_new' ho0 (Kd.R_lt (by (with_reducible repeat (first|apply rA|apply rN|apply rD));exact HO406.out))) (below_size (by repeat (with_reducible first|exact HB.out|apply bA|apply bN|apply bD))));have n2_:=Aside0.mk (below_step (by repeat (with_reducible first|exact HB.out|apply bA|apply bN|apply bD)) hb);clear HO406;clear HB;have HO406:=n0_;have HO409:=n1_;have HB:=n2_;clear n0_ n1_ n2_;(try clear hb);(try clear ho0);obtain ⟨Ao16,co16,eo16⟩:=Kd.R_slice HO406.out;subst eo16;obtain ⟨Ao17,co17,eo17⟩:=Kd.R_slice HO409.out;subst eo17)|((with_reducible refine gate_callee (f:=18) rfl ?_);refine goesL_ (some 24) rfl rfl Try.func18 (by kernel_rfl) rfl #[.slice Ao16 t404.length co16,.slice Ao17 t407.length co17] rfl (by (try simp only [List.map_toArray,List.map_cons,List.map_nil]);first|done|rfl) ?_;(with_reducible refine (spec_SameMeasures.calls k (fun k_=>some k_=(.slice Ao16 t404.length co16:Value).ownBlock) (.slice Ao16 t404.length co16) t404 (fun k_=>some k_=(.slice Ao17 t407.length co17:Value).ownBlock) (.slice Ao17 t407.length co17) t407 t410 w _ ?side1 ?side2 ?side3 ?side4 ?side5 A9.out).mono ?_);(case side1=>repeat (first|(with_reducible first|exact HB.out|apply bA|apply bN|apply bD)|exact HB.out));(case side2=>exact Kd.R_tight rfl HO406.out);(case side3=>exact fun k_ e_=>(HO406.out.1 k_ e_.symm).2);(case side4=>exact Kd.R_tight rfl HO409.out);(case side5=>exact fun k_ e_=>(HO409.out.1 k_ e_.symm).2);rintro e w18 ⟨rfl,hb,hkp⟩;refine ⟨_,rfl,?_⟩;have n0_:=Aside0.mk (hb);clear HB;clear HO406;clear HO409;have HB:=n0_;clear n0_;(try clear hb);(try clear hkp))|((with_reducible refine gate_callee (f:=11) rfl ?_);refine goesL_ (some 26) rfl rfl Try.func11 (by kernel_rfl) rfl #[.slice A0 l0.length c0] rfl (by (try simp only [List.map_toArray,List.map_cons,List.map_nil]);first|done|rfl) ?_;(with_reducible refine (laws_toPointS.calls k _ _ l0 t411 _ ?side1 ?side2 A10.out).mono ?_);(case side1=>repeat (first|exact (Kd.C_below HR0.out HB.out)|(with_reducible refine Kd.C_alloc ?_ _)|(with_reducible refine Kd.C_drewN ?_ _)|(with_reducible refine Kd.C_drew ?_)));(case side2=>exact HC0.out);rintro e w19 ⟨v412,rfl,ho0,hb⟩;refine ⟨_,rfl,?_⟩;have n0_:=Aside0.mk (Kd.R_lower ho0 (below_size (by repeat (with_reducible first|exact HB.out|apply bA|apply bN|apply bD))));have n1_:=Aside0.mk (below_step (by repeat (with_reducible first|exact HB.out|apply bA|apply bN|apply bD)) hb);clear HB;have HO413:=n0_;have HB:=n1_;clear n0_ n1_;(try clear hb);(try clear ho0))|((with_reducible refine gate_callee (f:=11) rfl ?_);refine goesL_ (some 28) rfl rfl Try.func11 (by kernel_rfl) rfl #[.slice A1 l1.length c1] rfl (by (try simp only [List.map_toArray,List.map_cons,List.map_nil]);first|done|rfl) ?_;(with_reducible refine (laws_toPointS.calls k _ _ l1 t414 _ ?side1 ?side2 A11.out).mono ?_);(case side1=>repeat (first|exact (Kd.C_below HR1.out HB.out)|(with_reducible refine Kd.C_alloc ?_ _)|(with_reducible refine Kd.C_drewN ?_ _)|(with_reducible refine Kd.C_drew ?_)));(case side2=>exact HC1.out);rintro e w20 ⟨v415,rfl,ho0,hb⟩;refine ⟨_,rfl,?_⟩;have n0_:=Aside0.mk (Kd.R_elder' (by (with_reducible repeat (first|apply rA|apply rN|apply rD));exact HO413.out) (Kd.R_base ho0) hb);have n1_:=Aside0.mk (Kd.R_lower (Kd.R_new' ho0 (Kd.R_lt (by (with_reducible repeat (first|apply rA|apply rN|apply rD));exact HO413.out))) (below_size (by repeat (with_reducible first|exact HB.out|apply bA|apply bN|apply bD))));have n2_:=Aside0.mk (below_step (by repeat (with_reducible first|exact HB.out|apply bA|apply bN|apply bD)) hb);clear HO413;clear HB;have HO413:=n0_;have HO416:=n1_;have HB:=n2_;clear n0_ n1_ n2_;(try clear hb);(try clear ho0);obtain ⟨Ao21,co21,eo21⟩:=Kd.R_slice HO413.out;subst eo21;obtain ⟨Ao22,co22,eo22⟩:=Kd.R_slice HO416.out;subst eo22)|((with_reducible refine gate_callee (f:=19) rfl ?_);refine goesL_ (some 31) rfl rfl Try.func19 (by kernel_rfl) rfl #[.slice Ao21 t411.length co21,.slice Ao22 t414.length co22] rfl (by (try simp only [List.map_toArray,List.map_cons,List.map_nil]);first|done|rfl) ?_;(with_reducible refine (impl_SameMeasures.calls k _ _ t411 _ _ t414 t417 _ ?side1 ?side2 ?side3 ?side4 A12.out).mono ?_);(case side1=>repeat (first|exact (Kd.R_reads' HO413.out).2.2|(with_reducible refine Kd.C_alloc ?_ _)|(with_reducible refine Kd.C_drewN ?_ _)|(with_reducible refine Kd.C_drew ?_)));(case side2=>exact (Kd.R_reads' HO413.out).2.1);(case side3=>repeat (first|exact (Kd.R_reads' HO416.out).2.2|(with_reducible refine Kd.C_alloc ?_ _)|(with_reducible refine Kd.C_drewN ?_ _)|(with_reducible refine Kd.C_drew ?_)));(case side4=>exact (Kd.R_reads' HO416.out).2.1);rintro e w23 ⟨rfl,hb⟩;refine ⟨_,rfl,?_⟩;have n0_:=Aside0.mk (Kd.R_below (by (with_reducible repeat (first|apply rA|apply rN|apply rD));exact HO413.out) hb);have n1_:=Aside0.mk (Kd.R_below (by (with_reducible repeat (first|apply rA|apply rN|apply rD));exact HO416.out) hb);have n2_:=Aside0.mk (below_step (by repeat (with_reducible first|exact HB.out|apply bA|apply bN|apply bD)) hb);clear HO413;clear HO416;clear HB;have HO413:=n0_;have HO416:=n1_;have HB:=n2_;clear n0_ n1_ n2_;(try clear hb)))
    go_ret
    exact ⟨by first|rfl|(simp [errW_none,errW_some] <;> rfl)|(simp [*,errW_none,errW_some] <;> rfl),by repeat (with_reducible first|exact HB.out|apply bA|apply bN|apply bD)⟩
   ·rw [if_neg c13] at H
    have c13b0:(t417 != t410)=false:=by simpa using c13
    (try (have c13b1:decide (t417=t410)=true:=by simpa using c13))
    (try (have c13b2:(t417 == t410)=true:=by simpa using c13))
    clear c13
    replace H:=Option.bind_eq_some_iff.mp H
    obtain ⟨t418,A240,H⟩:=H
    have A24:=Aside0.mk A240
    clear A240
    replace H:=Option.bind_eq_some_iff.mp H
    obtain ⟨t421,A250,H⟩:=H
    have A25:=Aside0.mk A250
    clear A250
    by_cases c26:t421=true
    ·subst c26
     rw [if_pos rfl] at H
     replace H:=Option.bind_eq_some_iff.mp H
     obtain ⟨t422,A270,H⟩:=H
     have A27:=Aside0.mk A270
     clear A270
     replace H:=Option.bind_eq_some_iff.mp H
     obtain ⟨t425,A280,H⟩:=H
     have A28:=Aside0.mk A280
     clear A280
     by_cases c29:t425=true
     ·subst c29
      rw [if_pos rfl] at H
      obtain rfl:=Option.some.inj H
      go_enter Try.func6,Try.ntmps6
      go_wp2_with (first|((with_reducible refine gate_callee (f:=9) rfl ?_);refine goesL_ (some 12) rfl rfl Try.func9 (by kernel_rfl) rfl #[.slice A0 l0.length c0,.int .i64 1048576] rfl (by (try simp only [List.map_toArray,List.map_cons,List.map_nil]);first|done|rfl) ?_;(with_reducible refine (laws_szPointS.calls _ _ l0 1048576 t402 _ ?side1 ?side2 A3.out).mono ?_);(case side1=>repeat (first|exact HR0.out|(with_reducible refine Kd.C_alloc ?_ _)|(with_reducible refine Kd.C_drewN ?_ _)|(with_reducible refine Kd.C_drew ?_)));(case side2=>exact HC0.out);rintro e w' ⟨rfl,⟨nd,rfl⟩⟩;refine ⟨_,rfl,?_⟩)|((with_reducible refine gate_callee (f:=9) rfl ?_);refine goesL_ (some 17) rfl rfl Try.func9 (by kernel_rfl) rfl #[.slice A1 l1.length c1,.int .i64 t402] rfl (by (try simp only [List.map_toArray,List.map_cons,List.map_nil]);first|done|rfl) ?_;(with_reducible refine (laws_szPointS.calls _ _ l1 t402 t403 _ ?side1 ?side2 A5.out).mono ?_);(case side1=>repeat (first|exact HR1.out|(with_reducible refine Kd.C_alloc ?_ _)|(with_reducible refine Kd.C_drewN ?_ _)|(with_reducible refine Kd.C_drew ?_)));(case side2=>exact HC1.out);rintro e w' ⟨rfl,⟨nd,rfl⟩⟩;refine ⟨_,rfl,?_⟩)|((with_reducible refine gate_callee (f:=11) rfl ?_);refine goesL_ (some 21) rfl rfl Try.func11 (by kernel_rfl) rfl #[.slice A0 l0.length c0] rfl (by (try simp only [List.map_toArray,List.map_cons,List.map_nil]);first|done|rfl) ?_;(with_reducible refine (laws_toPointS.calls k _ _ l0 t404 _ ?side1 ?side2 A7.out).mono ?_);(case side1=>repeat (first|exact HR0.out|(with_reducible refine Kd.C_alloc ?_ _)|(with_reducible refine Kd.C_drewN ?_ _)|(with_reducible refine Kd.C_drew ?_)));(case side2=>exact HC0.out);rintro e w30 ⟨v405,rfl,ho0,hb⟩;refine ⟨_,rfl,?_⟩;have n0_:=Aside0.mk (Kd.R_lower ho0 (below_size (by repeat (with_reducible first|exact HB.out|apply bA|apply bN|apply bD))));have n1_:=Aside0.mk (below_step (by repeat (with_reducible first|exact HB.out|apply bA|apply bN|apply bD)) hb);clear HB;have HO406:=n0_;have HB:=n1_;clear n0_ n1_;(try clear hb);(try clear ho0))|((with_reducible refine gate_callee (f:=11) rfl ?_);refine goesL_ (some 23) rfl rfl Try.func11 (by kernel_rfl) rfl #[.slice A1 l1.length c1] rfl (by (try simp only [List.map_toArray,List.map_cons,List.map_nil]);first|done|rfl) ?_;(with_reducible refine (laws_toPointS.calls k _ _ l1 t407 _ ?side1 ?side2 A8.out).mono ?_);(case side1=>repeat (first|exact (Kd.C_below HR1.out HB.out)|(with_reducible refine Kd.C_alloc ?_ _)|(with_reducible refine Kd.C_drewN ?_ _)|(with_reducible refine Kd.C_drew ?_)));(case side2=>exact HC1.out);rintro e w31 ⟨v408,rfl,ho0,hb⟩;refine ⟨_,rfl,?_⟩;have n0_:=Aside0.mk (Kd.R_elder' (by (with_reducible repeat (first|apply rA|apply rN|apply rD));exact HO406.out) (Kd.R_base ho0) hb);have n1_:=Aside0.mk (Kd.R_lower (Kd.R_new' ho0 (Kd.R_lt (by (with_reducible repeat (first|apply rA|apply rN|apply rD));exact HO406.out))) (below_size (by repeat (with_reducible first|exact HB.out|apply bA|apply bN|apply bD))));have n2_:=Aside0.mk (below_step (by repeat (with_reducible first|exact HB.out|apply bA|apply bN|apply bD)) hb);clear HO406;clear HB;have HO406:=n0_;have HO409:=n1_;have HB:=n2_;clear n0_ n1_ n2_;(try clear hb);(try clear ho0);obtain ⟨Ao32,co32,eo32⟩:=Kd.R_slice HO406.out;subst eo32;obtain ⟨Ao33,co33,eo33⟩:=Kd.R_slice HO409.out;subst eo33)|((with_reducible refine gate_callee (f:=18) rfl ?_);refine goesL_ (some 24) rfl rfl Try.func18 (by kernel_rfl) rfl #[.slice Ao32 t404.length co32,.slice Ao33 t407.length co33] rfl (by (try simp only [List.map_toArray,List.map_cons,List.map_nil]);first|done|rfl) ?_;(with_reducible refine (spec_SameMeasures.calls k (fun k_=>some k_=(.slice Ao32 t404.length co32:Value).ownBlock) (.slice Ao32 t404.length co32) t404 (fun k_=>some k_=(.slice Ao33 t407.length co33:Value).ownBlock) (.slice Ao33 t407.length co33) t407 t410 w _ ?side1 ?side2 ?side3 ?side4 ?side5 A9.out).mono ?_);(case side1=>repeat (first|(with_reducible first|exact HB.out|apply bA|apply bN|apply bD)|exact HB.out));(case side2=>exact Kd.R_tight rfl HO406.out);(case side3=>exact fun k_ e_=>(HO406.out.1 k_ e_.symm).2);(case side4=>exact Kd.R_tight rfl HO409.out);(case side5=>exact fun k_ e_=>(HO409.out.1 k_ e_.symm).2);rintro e w34 ⟨rfl,hb,hkp⟩;refine ⟨_,rfl,?_⟩;have n0_:=Aside0.mk (hb);clear HB;clear HO406;clear HO409;have HB:=n0_;clear n0_;(try clear hb);(try clear hkp))|((with_reducible refine gate_callee (f:=11) rfl ?_);refine goesL_ (some 26) rfl rfl Try.func11 (by kernel_rfl) rfl #[.slice A0 l0.length c0] rfl (by (try simp only [List.map_toArray,List.map_cons,List.map_nil]);first|done|rfl) ?_;(with_reducible refine (laws_toPointS.calls k _ _ l0 t411 _ ?side1 ?side2 A10.out).mono ?_);(case side1=>repeat (first|exact (Kd.C_below HR0.out HB.out)|(with_reducible refine Kd.C_alloc ?_ _)|(with_reducible refine Kd.C_drewN ?_ _)|(with_reducible refine Kd.C_drew ?_)));(case side2=>exact HC0.out);rintro e w35 ⟨v412,rfl,ho0,hb⟩;refine ⟨_,rfl,?_⟩;have n0_:=Aside0.mk (Kd.R_lower ho0 (below_size (by repeat (with_reducible first|exact HB.out|apply bA|apply bN|apply bD))));have n1_:=Aside0.mk (below_step (by repeat (with_reducible first|exact HB.out|apply bA|apply bN|apply bD)) hb);clear HB;have HO413:=n0_;have HB:=n1_;clear n0_ n1_;(try clear hb);(try clear ho0))|((with_reducible refine gate_callee (f:=11) rfl ?_);refine goesL_ (some 28) rfl rfl Try.func11 (by kernel_rfl) rfl #[.slice A1 l1.length c1] rfl (by (try simp only [List.map_toArray,List.map_cons,List.map_nil]);first|done|rfl) ?_;(with_reducible refine (laws_toPointS.calls k _ _ l1 t414 _ ?side1 ?side2 A11.out).mono ?_);(case side1=>repeat (first|exact (Kd.C_below HR1.out HB.out)|(with_reducible refine Kd.C_alloc ?_ _)|(with_reducible refine Kd.C_drewN ?_ _)|(with_reducible refine Kd.C_drew ?_)));(case side2=>exact HC1.out);rintro e w36 ⟨v415,rfl,ho0,hb⟩;refine ⟨_,rfl,?_⟩;have n0_:=Aside0.mk (Kd.R_elder' (by (with_reducible repeat (first|apply rA|apply rN|apply rD));exact HO413.out) (Kd.R_base ho0) hb);have n1_:=Aside0.mk (Kd.R_lower (Kd.R_new' ho0 (Kd.R_lt (by (with_reducible repeat (first|apply rA|apply rN|apply rD));exact HO413.out))) (below_size (by repeat (with_reducible first|exact HB.out|apply bA|apply bN|apply bD))));have n2_:=Aside0.mk (below_step (by repeat (with_reducible first|exact HB.out|apply bA|apply bN|apply bD)) hb);clear HO413;clear HB;have HO413:=n0_;have HO416:=n1_;have HB:=n2_;clear n0_ n1_ n2_;(try clear hb);(try clear ho0);obtain ⟨Ao37,co37,eo37⟩:=Kd.R_slice HO413.out;subst eo37;obtain ⟨Ao38,co38,eo38⟩:=Kd.R_slice HO416.out;subst eo38)|((with_reducible refine gate_callee (f:=19) rfl ?_);refine goesL_ (some 31) rfl rfl Try.func19 (by kernel_rfl) rfl #[.slice Ao37 t411.length co37,.slice Ao38 t414.length co38] rfl (by (try simp only [List.map_toArray,List.map_cons,List.map_nil]);first|done|rfl) ?_;(with_reducible refine (impl_SameMeasures.calls k _ _ t411 _ _ t414 t417 _ ?side1 ?side2 ?side3 ?side4 A12.out).mono ?_);(case side1=>repeat (first|exact (Kd.R_reads' HO413.out).2.2|(with_reducible refine Kd.C_alloc ?_ _)|(with_reducible refine Kd.C_drewN ?_ _)|(with_reducible refine Kd.C_drew ?_)));(case side2=>exact (Kd.R_reads' HO413.out).2.1);(case side3=>repeat (first|exact (Kd.R_reads' HO416.out).2.2|(with_reducible refine Kd.C_alloc ?_ _)|(with_reducible refine Kd.C_drewN ?_ _)|(with_reducible refine Kd.C_drew ?_)));(case side4=>exact (Kd.R_reads' HO416.out).2.1);rintro e w39 ⟨rfl,hb⟩;refine ⟨_,rfl,?_⟩;have n0_:=Aside0.mk (Kd.R_below (by (with_reducible repeat (first|apply rA|apply rN|apply rD));exact HO413.out) hb);have n1_:=Aside0.mk (Kd.R_below (by (with_reducible repeat (first|apply rA|apply rN|apply rD));exact HO416.out) hb);have n2_:=Aside0.mk (below_step (by repeat (with_reducible first|exact HB.out|apply bA|apply bN|apply bD)) hb);clear HO413;clear HO416;clear HB;have HO413:=n0_;have HO416:=n1_;have HB:=n2_;clear n0_ n1_ n2_;(try clear hb))|((with_reducible refine gate_callee (f:=11) rfl ?_);refine goesL_ (some 37) rfl rfl Try.func11 (by kernel_rfl) rfl #[.slice A0 l0.length c0] rfl (by (try simp only [List.map_toArray,List.map_cons,List.map_nil]);first|done|rfl) ?_;(with_reducible refine (laws_toPointS.calls k _ _ l0 t418 _ ?side1 ?side2 A24.out).mono ?_);(case side1=>repeat (first|exact (Kd.C_below HR0.out HB.out)|(with_reducible refine Kd.C_alloc ?_ _)|(with_reducible refine Kd.C_drewN ?_ _)|(with_reducible refine Kd.C_drew ?_)));(case side2=>exact HC0.out);rintro e w40 ⟨v419,rfl,ho0,hb⟩;refine ⟨_,rfl,?_⟩;have n0_:=Aside0.mk (Kd.R_elder' (by (with_reducible repeat (first|apply rA|apply rN|apply rD));exact HO413.out) (Kd.R_base ho0) hb);have n1_:=Aside0.mk (Kd.R_elder' (by (with_reducible repeat (first|apply rA|apply rN|apply rD));exact HO416.out) (Kd.R_base ho0) hb);have n2_:=Aside0.mk (Kd.R_lower (Kd.R_new' (Kd.R_new' ho0 (Kd.R_lt (by (with_reducible repeat (first|apply rA|apply rN|apply rD));exact HO413.out))) (Kd.R_lt (by (with_reducible repeat (first|apply rA|apply rN|apply rD));exact HO416.out))) (below_size (by repeat (with_reducible first|exact HB.out|apply bA|apply bN|apply bD))));have n3_:=Aside0.mk (below_step (by repeat (with_reducible first|exact HB.out|apply bA|apply bN|apply bD)) hb);clear HO413;clear HO416;clear HB;have HO413:=n0_;have HO416:=n1_;have HO420:=n2_;have HB:=n3_;clear n0_ n1_ n2_ n3_;(try clear hb);(try clear ho0);obtain ⟨Ao41,co41,eo41⟩:=Kd.R_slice HO420.out;subst eo41)|((with_reducible refine gate_callee (f:=13) rfl ?_);refine goesL_ (some 38) rfl rfl Try.func13 (by kernel_rfl) rfl #[.slice Ao37 t411.length co37,.slice Ao41 t418.length co41] rfl (by (try simp only [List.map_toArray,List.map_cons,List.map_nil]);first|done|rfl) ?_;(with_reducible refine (laws_eqPointS.calls k _ _ t411 _ _ t418 true _ ?side1 ?side2 ?side3 ?side4 A25.out).mono ?_);(case side1=>repeat (first|exact (Kd.R_reads' HO413.out).2.2|(with_reducible refine Kd.C_alloc ?_ _)|(with_reducible refine Kd.C_drewN ?_ _)|(with_reducible refine Kd.C_drew ?_)));(case side2=>exact (Kd.R_reads' HO413.out).2.1);(case side3=>repeat (first|exact (Kd.R_reads' HO420.out).2.2|(with_reducible refine Kd.C_alloc ?_ _)|(with_reducible refine Kd.C_drewN ?_ _)|(with_reducible refine Kd.C_drew ?_)));(case side4=>exact (Kd.R_reads' HO420.out).2.1);rintro e w42 ⟨rfl,hb⟩;refine ⟨_,rfl,?_⟩;have n0_:=Aside0.mk (Kd.R_below (by (with_reducible repeat (first|apply rA|apply rN|apply rD));exact HO413.out) hb);have n1_:=Aside0.mk (Kd.R_below (by (with_reducible repeat (first|apply rA|apply rN|apply rD));exact HO416.out) hb);have n2_:=Aside0.mk (Kd.R_below (by (with_reducible repeat (first|apply rA|apply rN|apply rD));exact HO420.out) hb);have n3_:=Aside0.mk (below_step (by repeat (with_reducible first|exact HB.out|apply bA|apply bN|apply bD)) hb);clear HO413;clear HO416;clear HO420;clear HB;have HO413:=n0_;have HO416:=n1_;have HO420:=n2_;have HB:=n3_;clear n0_ n1_ n2_ n3_;(try clear hb))|((with_reducible refine gate_callee (f:=11) rfl ?_);refine goesL_ (some 42) rfl rfl Try.func11 (by kernel_rfl) rfl #[.slice A1 l1.length c1] rfl (by (try simp only [List.map_toArray,List.map_cons,List.map_nil]);first|done|rfl) ?_;(with_reducible refine (laws_toPointS.calls k _ _ l1 t422 _ ?side1 ?side2 A27.out).mono ?_);(case side1=>repeat (first|exact (Kd.C_below HR1.out HB.out)|(with_reducible refine Kd.C_alloc ?_ _)|(with_reducible refine Kd.C_drewN ?_ _)|(with_reducible refine Kd.C_drew ?_)));(case side2=>exact HC1.out);rintro e w43 ⟨v423,rfl,ho0,hb⟩;refine ⟨_,rfl,?_⟩;have n0_:=Aside0.mk (Kd.R_elder' (by (with_reducible repeat (first|apply rA|apply rN|apply rD));exact HO413.out) (Kd.R_base ho0) hb);have n1_:=Aside0.mk (Kd.R_elder' (by (with_reducible repeat (first|apply rA|apply rN|apply rD));exact HO416.out) (Kd.R_base ho0) hb);have n2_:=Aside0.mk (Kd.R_elder' (by (with_reducible repeat (first|apply rA|apply rN|apply rD));exact HO420.out) (Kd.R_base ho0) hb);have n3_:=Aside0.mk (Kd.R_lower (Kd.R_new' (Kd.R_new' (Kd.R_new' ho0 (Kd.R_lt (by (with_reducible repeat (first|apply rA|apply rN|apply rD));exact HO413.out))) (Kd.R_lt (by (with_reducible repeat (first|apply rA|apply rN|apply rD));exact HO416.out))) (Kd.R_lt (by (with_reducible repeat (first|apply rA|apply rN|apply rD));exact HO420.out))) (below_size (by repeat (with_reducible first|exact HB.out|apply bA|apply bN|apply bD))));have n4_:=Aside0.mk (below_step (by repeat (with_reducible first|exact HB.out|apply bA|apply bN|apply bD)) hb);clear HO413;clear HO416;clear HO420;clear HB;have HO413:=n0_;have HO416:=n1_;have HO420:=n2_;have HO424:=n3_;have HB:=n4_;clear n0_ n1_ n2_ n3_ n4_;(try clear hb);(try clear ho0);obtain ⟨Ao44,co44,eo44⟩:=Kd.R_slice HO424.out;subst eo44)|((with_reducible refine gate_callee (f:=13) rfl ?_);refine goesL_ (some 43) rfl rfl Try.func13 (by kernel_rfl) rfl #[.slice Ao38 t414.length co38,.slice Ao44 t422.length co44] rfl (by (try simp only [List.map_toArray,List.map_cons,List.map_nil]);first|done|rfl) ?_;(with_reducible refine (laws_eqPointS.calls k _ _ t414 _ _ t422 true _ ?side1 ?side2 ?side3 ?side4 A28.out).mono ?_);(case side1=>repeat (first|exact (Kd.R_reads' HO416.out).2.2|(with_reducible refine Kd.C_alloc ?_ _)|(with_reducible refine Kd.C_drewN ?_ _)|(with_reducible refine Kd.C_drew ?_)));(case side2=>exact (Kd.R_reads' HO416.out).2.1);(case side3=>repeat (first|exact (Kd.R_reads' HO424.out).2.2|(with_reducible refine Kd.C_alloc ?_ _)|(with_reducible refine Kd.C_drewN ?_ _)|(with_reducible refine Kd.C_drew ?_)));(case side4=>exact (Kd.R_reads' HO424.out).2.1);rintro e w45 ⟨rfl,hb⟩;refine ⟨_,rfl,?_⟩;have n0_:=Aside0.mk (Kd.R_below (by (with_reducible repeat (first|apply rA|apply rN|apply rD));exact HO413.out) hb);have n1_:=Aside0.mk (Kd.R_below (by (with_reducible repeat (first|apply rA|apply rN|apply rD));exact HO416.out) hb);have n2_:=Aside0.mk (Kd.R_below (by (with_reducible repeat (first|apply rA|apply rN|apply rD));exact HO420.out) hb);have n3_:=Aside0.mk (Kd.R_below (by (with_reducible repeat (first|apply rA|apply rN|apply rD));exact HO424.out) hb);have n4_:=Aside0.mk (below_step (by repeat (with_reducible first|exact HB.out|apply bA|apply bN|apply bD)) hb);clear HO413;clear HO416;clear HO420;clear HO424;clear HB;have HO413:=n0_;have HO416:=n1_;have HO420:=n2_;have HO424:=n3_;have HB:=n4_;clear n0_ n1_ n2_ n3_ n4_;(try clear hb)))
      go_ret
      exact ⟨by first|rfl|(simp [errW_none,errW_some] <;> rfl)|(simp [*,errW_none,errW_some] <;> rfl),by repeat (with_reducible first|exact HB.out|apply bA|apply bN|apply bD)⟩
     ·replace c29:=Bool.eq_false_iff.mpr c29
      subst c29
      rw [if_neg (show ¬ (false=true) by decide)] at H
      obtain rfl:=Option.some.inj H
      go_enter Try.func6,Try.ntmps6
      go_wp2_with (first|((with_reducible refine gate_callee (f:=9) rfl ?_);refine goesL_ (some 12) rfl rfl Try.func9 (by kernel_rfl) rfl #[.slice A0 l0.length c0,.int .i64 1048576] rfl (by (try simp only [List.map_toArray,List.map_cons,List.map_nil]);first|done|rfl) ?_;(with_reducible refine (laws_szPointS.calls _ _ l0 1048576 t402 _ ?side1 ?side2 A3.out).mono ?_);(case side1=>repeat (first|exact HR0.out|(with_reducible refine Kd.C_alloc ?_ _)|(with_reducible refine Kd.C_drewN ?_ _)|(with_reducible refine Kd.C_drew ?_)));(case side2=>exact HC0.out);rintro e w' ⟨rfl,⟨nd,rfl⟩⟩;refine ⟨_,rfl,?_⟩)|((with_reducible refine gate_callee (f:=9) rfl ?_);refine goesL_ (some 17) rfl rfl Try.func9 (by kernel_rfl) rfl #[.slice A1 l1.length c1,.int .i64 t402] rfl (by (try simp only [List.map_toArray,List.map_cons,List.map_nil]);first|done|rfl) ?_;(with_reducible refine (laws_szPointS.calls _ _ l1 t402 t403 _ ?side1 ?side2 A5.out).mono ?_);(case side1=>repeat (first|exact HR1.out|(with_reducible refine Kd.C_alloc ?_ _)|(with_reducible refine Kd.C_drewN ?_ _)|(with_reducible refine Kd.C_drew ?_)));(case side2=>exact HC1.out);rintro e w' ⟨rfl,⟨nd,rfl⟩⟩;refine ⟨_,rfl,?_⟩)|((with_reducible refine gate_callee (f:=11) rfl ?_);refine goesL_ (some 21) rfl rfl Try.func11 (by kernel_rfl) rfl #[.slice A0 l0.length c0] rfl (by (try simp only [List.map_toArray,List.map_cons,List.map_nil]);first|done|rfl) ?_;(with_reducible refine (laws_toPointS.calls k _ _ l0 t404 _ ?side1 ?side2 A7.out).mono ?_);(case side1=>repeat (first|exact HR0.out|(with_reducible refine Kd.C_alloc ?_ _)|(with_reducible refine Kd.C_drewN ?_ _)|(with_reducible refine Kd.C_drew ?_)));(case side2=>exact HC0.out);rintro e w46 ⟨v405,rfl,ho0,hb⟩;refine ⟨_,rfl,?_⟩;have n0_:=Aside0.mk (Kd.R_lower ho0 (below_size (by repeat (with_reducible first|exact HB.out|apply bA|apply bN|apply bD))));have n1_:=Aside0.mk (below_step (by repeat (with_reducible first|exact HB.out|apply bA|apply bN|apply bD)) hb);clear HB;have HO406:=n0_;have HB:=n1_;clear n0_ n1_;(try clear hb);(try clear ho0))|((with_reducible refine gate_callee (f:=11) rfl ?_);refine goesL_ (some 23) rfl rfl Try.func11 (by kernel_rfl) rfl #[.slice A1 l1.length c1] rfl (by (try simp only [List.map_toArray,List.map_cons,List.map_nil]);first|done|rfl) ?_;(with_reducible refine (laws_toPointS.calls k _ _ l1 t407 _ ?side1 ?side2 A8.out).mono ?_);(case side1=>repeat (first|exact (Kd.C_below HR1.out HB.out)|(with_reducible refine Kd.C_alloc ?_ _)|(with_reducible refine Kd.C_drewN ?_ _)|(with_reducible refine Kd.C_drew ?_)));(case side2=>exact HC1.out);rintro e w47 ⟨v408,rfl,ho0,hb⟩;refine ⟨_,rfl,?_⟩;have n0_:=Aside0.mk (Kd.R_elder' (by (with_reducible repeat (first|apply rA|apply rN|apply rD));exact HO406.out) (Kd.R_base ho0) hb);have n1_:=Aside0.mk (Kd.R_lower (Kd.R_new' ho0 (Kd.R_lt (by (with_reducible repeat (first|apply rA|apply rN|apply rD));exact HO406.out))) (below_size (by repeat (with_reducible first|exact HB.out|apply bA|apply bN|apply bD))));have n2_:=Aside0.mk (below_step (by repeat (with_reducible first|exact HB.out|apply bA|apply bN|apply bD)) hb);clear HO406;clear HB;have HO406:=n0_;have HO409:=n1_;have HB:=n2_;clear n0_ n1_ n2_;(try clear hb);(try clear ho0);obtain ⟨Ao48,co48,eo48⟩:=Kd.R_slice HO406.out;subst eo48;obtain ⟨Ao49,co49,eo49⟩:=Kd.R_slice HO409.out;subst eo49)|((with_reducible refine gate_callee (f:=18) rfl ?_);refine goesL_ (some 24) rfl rfl Try.func18 (by kernel_rfl) rfl #[.slice Ao48 t404.length co48,.slice Ao49 t407.length co49] rfl (by (try simp only [List.map_toArray,List.map_cons,List.map_nil]);first|done|rfl) ?_;(with_reducible refine (spec_SameMeasures.calls k (fun k_=>some k_=(.slice Ao48 t404.length co48:Value).ownBlock) (.slice Ao48 t404.length co48) t404 (fun k_=>some k_=(.slice Ao49 t407.length co49:Value).ownBlock) (.slice Ao49 t407.length co49) t407 t410 w _ ?side1 ?side2 ?side3 ?side4 ?side5 A9.out).mono ?_);(case side1=>repeat (first|(with_reducible first|exact HB.out|apply bA|apply bN|apply bD)|exact HB.out));(case side2=>exact Kd.R_tight rfl HO406.out);(case side3=>exact fun k_ e_=>(HO406.out.1 k_ e_.symm).2);(case side4=>exact Kd.R_tight rfl HO409.out);(case side5=>exact fun k_ e_=>(HO409.out.1 k_ e_.symm).2);rintro e w50 ⟨rfl,hb,hkp⟩;refine ⟨_,rfl,?_⟩;have n0_:=Aside0.mk (hb);clear HB;clear HO406;clear HO409;have HB:=n0_;clear n0_;(try clear hb);(try clear hkp))|((with_reducible refine gate_callee (f:=11) rfl ?_);refine goesL_ (some 26) rfl rfl Try.func11 (by kernel_rfl) rfl #[.slice A0 l0.length c0] rfl (by (try simp only [List.map_toArray,List.map_cons,List.map_nil]);first|done|rfl) ?_;(with_reducible refine (laws_toPointS.calls k _ _ l0 t411 _ ?side1 ?side2 A10.out).mono ?_);(case side1=>repeat (first|exact (Kd.C_below HR0.out HB.out)|(with_reducible refine Kd.C_alloc ?_ _)|(with_reducible refine Kd.C_drewN ?_ _)|(with_reducible refine Kd.C_drew ?_)));(case side2=>exact HC0.out);rintro e w51 ⟨v412,rfl,ho0,hb⟩;refine ⟨_,rfl,?_⟩;have n0_:=Aside0.mk (Kd.R_lower ho0 (below_size (by repeat (with_reducible first|exact HB.out|apply bA|apply bN|apply bD))));have n1_:=Aside0.mk (below_step (by repeat (with_reducible first|exact HB.out|apply bA|apply bN|apply bD)) hb);clear HB;have HO413:=n0_;have HB:=n1_;clear n0_ n1_;(try clear hb);(try clear ho0))|((with_reducible refine gate_callee (f:=11) rfl ?_);refine goesL_ (some 28) rfl rfl Try.func11 (by kernel_rfl) rfl #[.slice A1 l1.length c1] rfl (by (try simp only [List.map_toArray,List.map_cons,List.map_nil]);first|done|rfl) ?_;(with_reducible refine (laws_toPointS.calls k _ _ l1 t414 _ ?side1 ?side2 A11.out).mono ?_);(case side1=>repeat (first|exact (Kd.C_below HR1.out HB.out)|(with_reducible refine Kd.C_alloc ?_ _)|(with_reducible refine Kd.C_drewN ?_ _)|(with_reducible refine Kd.C_drew ?_)));(case side2=>exact HC1.out);rintro e w52 ⟨v415,rfl,ho0,hb⟩;refine ⟨_,rfl,?_⟩;have n0_:=Aside0.mk (Kd.R_elder' (by (with_reducible repeat (first|apply rA|apply rN|apply rD));exact HO413.out) (Kd.R_base ho0) hb);have n1_:=Aside0.mk (Kd.R_lower (Kd.R_new' ho0 (Kd.R_lt (by (with_reducible repeat (first|apply rA|apply rN|apply rD));exact HO413.out))) (below_size (by repeat (with_reducible first|exact HB.out|apply bA|apply bN|apply bD))));have n2_:=Aside0.mk (below_step (by repeat (with_reducible first|exact HB.out|apply bA|apply bN|apply bD)) hb);clear HO413;clear HB;have HO413:=n0_;have HO416:=n1_;have HB:=n2_;clear n0_ n1_ n2_;(try clear hb);(try clear ho0);obtain ⟨Ao53,co53,eo53⟩:=Kd.R_slice HO413.out;subst eo53;obtain ⟨Ao54,co54,eo54⟩:=Kd.R_slice HO416.out;subst eo54)|((with_reducible refine gate_callee (f:=19) rfl ?_);refine goesL_ (some 31) rfl rfl Try.func19 (by kernel_rfl) rfl #[.slice Ao53 t411.length co53,.slice Ao54 t414.length co54] rfl (by (try simp only [List.map_toArray,List.map_cons,List.map_nil]);first|done|rfl) ?_;(with_reducible refine (impl_SameMeasures.calls k _ _ t411 _ _ t414 t417 _ ?side1 ?side2 ?side3 ?side4 A12.out).mono ?_);(case side1=>repeat (first|exact (Kd.R_reads' HO413.out).2.2|(with_reducible refine Kd.C_alloc ?_ _)|(with_reducible refine Kd.C_drewN ?_ _)|(with_reducible refine Kd.C_drew ?_)));(case side2=>exact (Kd.R_reads' HO413.out).2.1);(case side3=>repeat (first|exact (Kd.R_reads' HO416.out).2.2|(with_reducible refine Kd.C_alloc ?_ _)|(with_reducible refine Kd.C_drewN ?_ _)|(with_reducible refine Kd.C_drew ?_)));(case side4=>exact (Kd.R_reads' HO416.out).2.1);rintro e w55 ⟨rfl,hb⟩;refine ⟨_,rfl,?_⟩;have n0_:=Aside0.mk (Kd.R_below (by (with_reducible repeat (first|apply rA|apply rN|apply rD));exact HO413.out) hb);have n1_:=Aside0.mk (Kd.R_below (by (with_reducible repeat (first|apply rA|apply rN|apply rD));exact HO416.out) hb);have n2_:=Aside0.mk (below_step (by repeat (with_reducible first|exact HB.out|apply bA|apply bN|apply bD)) hb);clear HO413;clear HO416;clear HB;have HO413:=n0_;have HO416:=n1_;have HB:=n2_;clear n0_ n1_ n2_;(try clear hb))|((with_reducible refine gate_callee (f:=11) rfl ?_);refine goesL_ (some 37) rfl rfl Try.func11 (by kernel_rfl) rfl #[.slice A0 l0.length c0] rfl (by (try simp only [List.map_toArray,List.map_cons,List.map_nil]);first|done|rfl) ?_;(with_reducible refine (laws_toPointS.calls k _ _ l0 t418 _ ?side1 ?side2 A24.out).mono ?_);(case side1=>repeat (first|exact (Kd.C_below HR0.out HB.out)|(with_reducible refine Kd.C_alloc ?_ _)|(with_reducible refine Kd.C_drewN ?_ _)|(with_reducible refine Kd.C_drew ?_)));(case side2=>exact HC0.out);rintro e w56 ⟨v419,rfl,ho0,hb⟩;refine ⟨_,rfl,?_⟩;have n0_:=Aside0.mk (Kd.R_elder' (by (with_reducible repeat (first|apply rA|apply rN|apply rD));exact HO413.out) (Kd.R_base ho0) hb);have n1_:=Aside0.mk (Kd.R_elder' (by (with_reducible repeat (first|apply rA|apply rN|apply rD));exact HO416.out) (Kd.R_base ho0) hb);have n2_:=Aside0.mk (Kd.R_lower (Kd.R_new' (Kd.R_new' ho0 (Kd.R_lt (by (with_reducible repeat (first|apply rA|apply rN|apply rD));exact HO413.out))) (Kd.R_lt (by (with_reducible repeat (first|apply rA|apply rN|apply rD));exact HO416.out))) (below_size (by repeat (with_reducible first|exact HB.out|apply bA|apply bN|apply bD))));have n3_:=Aside0.mk (below_step (by repeat (with_reducible first|exact HB.out|apply bA|apply bN|apply bD)) hb);clear HO413;clear HO416;clear HB;have HO413:=n0_;have HO416:=n1_;have HO420:=n2_;have HB:=n3_;clear n0_ n1_ n2_ n3_;(try clear hb);(try clear ho0);obtain ⟨Ao57,co57,eo57⟩:=Kd.R_slice HO420.out;subst eo57)|((with_reducible refine gate_callee (f:=13) rfl ?_);refine goesL_ (some 38) rfl rfl Try.func13 (by kernel_rfl) rfl #[.slice Ao53 t411.length co53,.slice Ao57 t418.length co57] rfl (by (try simp only [List.map_toArray,List.map_cons,List.map_nil]);first|done|rfl) ?_;(with_reducible refine (laws_eqPointS.calls k _ _ t411 _ _ t418 true _ ?side1 ?side2 ?side3 ?side4 A25.out).mono ?_);(case side1=>repeat (first|exact (Kd.R_reads' HO413.out).2.2|(with_reducible refine Kd.C_alloc ?_ _)|(with_reducible refine Kd.C_drewN ?_ _)|(with_reducible refine Kd.C_drew ?_)));(case side2=>exact (Kd.R_reads' HO413.out).2.1);(case side3=>repeat (first|exact (Kd.R_reads' HO420.out).2.2|(with_reducible refine Kd.C_alloc ?_ _)|(with_reducible refine Kd.C_drewN ?_ _)|(with_reducible refine Kd.C_drew ?_)));(case side4=>exact (Kd.R_reads' HO420.out).2.1);rintro e w58 ⟨rfl,hb⟩;refine ⟨_,rfl,?_⟩;have n0_:=Aside0.mk (Kd.R_below (by (with_reducible repeat (first|apply rA|apply rN|apply rD));exact HO413.out) hb);have n1_:=Aside0.mk (Kd.R_below (by (with_reducible repeat (first|apply rA|apply rN|apply rD));exact HO416.out) hb);have n2_:=Aside0.mk (Kd.R_below (by (with_reducible repeat (first|apply rA|apply rN|apply rD));exact HO420.out) hb);have n3_:=Aside0.mk (below_step (by repeat (with_reducible first|exact HB.out|apply bA|apply bN|apply bD)) hb);clear HO413;clear HO416;clear HO420;clear HB;have HO413:=n0_;have HO416:=n1_;have HO420:=n2_;have HB:=n3_;clear n0_ n1_ n2_ n3_;(try clear hb))|((with_reducible refine gate_callee (f:=11) rfl ?_);refine goesL_ (some 42) rfl rfl Try.func11 (by kernel_rfl) rfl #[.slice A1 l1.length c1] rfl (by (try simp only [List.map_toArray,List.map_cons,List.map_nil]);first|done|rfl) ?_;(with_reducible refine (laws_toPointS.calls k _ _ l1 t422 _ ?side1 ?side2 A27.out).mono ?_);(case side1=>repeat (first|exact (Kd.C_below HR1.out HB.out)|(with_reducible refine Kd.C_alloc ?_ _)|(with_reducible refine Kd.C_drewN ?_ _)|(with_reducible refine Kd.C_drew ?_)));(case side2=>exact HC1.out);rintro e w59 ⟨v423,rfl,ho0,hb⟩;refine ⟨_,rfl,?_⟩;have n0_:=Aside0.mk (Kd.R_elder' (by (with_reducible repeat (first|apply rA|apply rN|apply rD));exact HO413.out) (Kd.R_base ho0) hb);have n1_:=Aside0.mk (Kd.R_elder' (by (with_reducible repeat (first|apply rA|apply rN|apply rD));exact HO416.out) (Kd.R_base ho0) hb);have n2_:=Aside0.mk (Kd.R_elder' (by (with_reducible repeat (first|apply rA|apply rN|apply rD));exact HO420.out) (Kd.R_base ho0) hb);have n3_:=Aside0.mk (Kd.R_lower (Kd.R_new' (Kd.R_new' (Kd.R_new' ho0 (Kd.R_lt (by (with_reducible repeat (first|apply rA|apply rN|apply rD));exact HO413.out))) (Kd.R_lt (by (with_reducible repeat (first|apply rA|apply rN|apply rD));exact HO416.out))) (Kd.R_lt (by (with_reducible repeat (first|apply rA|apply rN|apply rD));exact HO420.out))) (below_size (by repeat (with_reducible first|exact HB.out|apply bA|apply bN|apply bD))));have n4_:=Aside0.mk (below_step (by repeat (with_reducible first|exact HB.out|apply bA|apply bN|apply bD)) hb);clear HO413;clear HO416;clear HO420;clear HB;have HO413:=n0_;have HO416:=n1_;have HO420:=n2_;have HO424:=n3_;have HB:=n4_;clear n0_ n1_ n2_ n3_ n4_;(try clear hb);(try clear ho0);obtain ⟨Ao60,co60,eo60⟩:=Kd.R_slice HO424.out;subst eo60)|((with_reducible refine gate_callee (f:=13) rfl ?_);refine goesL_ (some 43) rfl rfl Try.func13 (by kernel_rfl) rfl #[.slice Ao54 t414.length co54,.slice Ao60 t422.length co60] rfl (by (try simp only [List.map_toArray,List.map_cons,List.map_nil]);first|done|rfl) ?_;(with_reducible refine (laws_eqPointS.calls k _ _ t414 _ _ t422 false _ ?side1 ?side2 ?side3 ?side4 A28.out).mono ?_);(case side1=>repeat (first|exact (Kd.R_reads' HO416.out).2.2|(with_reducible refine Kd.C_alloc ?_ _)|(with_reducible refine Kd.C_drewN ?_ _)|(with_reducible refine Kd.C_drew ?_)));(case side2=>exact (Kd.R_reads' HO416.out).2.1);(case side3=>repeat (first|exact (Kd.R_reads' HO424.out).2.2|(with_reducible refine Kd.C_alloc ?_ _)|(with_reducible refine Kd.C_drewN ?_ _)|(with_reducible refine Kd.C_drew ?_)));(case side4=>exact (Kd.R_reads' HO424.out).2.1);rintro e w61 ⟨rfl,hb⟩;refine ⟨_,rfl,?_⟩;have n0_:=Aside0.mk (Kd.R_below (by (with_reducible repeat (first|apply rA|apply rN|apply rD));exact HO413.out) hb);have n1_:=Aside0.mk (Kd.R_below (by (with_reducible repeat (first|apply rA|apply rN|apply rD));exact HO416.out) hb);have n2_:=Aside0.mk (Kd.R_below (by (with_reducible repeat (first|apply rA|apply rN|apply rD));exact HO420.out) hb);have n3_:=Aside0.mk (Kd.R_below (by (with_reducible repeat (first|apply rA|apply rN|apply rD));exact HO424.out) hb);have n4_:=Aside0.mk (below_step (by repeat (with_reducible first|exact HB.out|apply bA|apply bN|apply bD)) hb);clear HO413;clear HO416;clear HO420;clear HO424;clear HB;have HO413:=n0_;have HO416:=n1_;have HO420:=n2_;have HO424:=n3_;have HB:=n4_;clear n0_ n1_ n2_ n3_ n4_;(try clear hb)))
      go_ret
      exact ⟨by first|rfl|(simp [errW_none,errW_some] <;> rfl)|(simp [*,errW_none,errW_some] <;> rfl),by repeat (with_reducible first|exact HB.out|apply bA|apply bN|apply bD)⟩
    ·replace c26:=Bool.eq_false_iff.mpr c26
     subst c26
     rw [if_neg (show ¬ (false=true) by decide)] at H
     obtain rfl:=Option.some.inj H
     go_enter Try.func6,Try.ntmps6
     go_wp2_with (first|((with_reducible refine gate_callee (f:=9) rfl ?_);refine goesL_ (some 12) rfl rfl Try.func9 (by kernel_rfl) rfl #[.slice A0 l0.length c0,.int .i64 1048576] rfl (by (try simp only [List.map_toArray,List.map_cons,List.map_nil]);first|done|rfl) ?_;(with_reducible refine (laws_szPointS.calls _ _ l0 1048576 t402 _ ?side1 ?side2 A3.out).mono ?_);(case side1=>repeat (first|exact HR0.out|(with_reducible refine Kd.C_alloc ?_ _)|(with_reducible refine Kd.C_drewN ?_ _)|(with_reducible refine Kd.C_drew ?_)));(case side2=>exact HC0.out);rintro e w' ⟨rfl,⟨nd,rfl⟩⟩;refine ⟨_,rfl,?_⟩)|((with_reducible refine gate_callee (f:=9) rfl ?_);refine goesL_ (some 17) rfl rfl Try.func9 (by kernel_rfl) rfl #[.slice A1 l1.length c1,.int .i64 t402] rfl (by (try simp only [List.map_toArray,List.map_cons,List.map_nil]);first|done|rfl) ?_;(with_reducible refine (laws_szPointS.calls _ _ l1 t402 t403 _ ?side1 ?side2 A5.out).mono ?_);(case side1=>repeat (first|exact HR1.out|(with_reducible refine Kd.C_alloc ?_ _)|(with_reducible refine Kd.C_drewN ?_ _)|(with_reducible refine Kd.C_drew ?_)));(case side2=>exact HC1.out);rintro e w' ⟨rfl,⟨nd,rfl⟩⟩;refine ⟨_,rfl,?_⟩)|((with_reducible refine gate_callee (f:=11) rfl ?_);refine goesL_ (some 21) rfl rfl Try.func11 (by kernel_rfl) rfl #[.slice A0 l0.length c0] rfl (by (try simp only [List.map_toArray,List.map_cons,List.map_nil]);first|done|rfl) ?_;(with_reducible refine (laws_toPointS.calls k _ _ l0 t404 _ ?side1 ?side2 A7.out).mono ?_);(case side1=>repeat (first|exact HR0.out|(with_reducible refine Kd.C_alloc ?_ _)|(with_reducible refine Kd.C_drewN ?_ _)|(with_reducible refine Kd.C_drew ?_)));(case side2=>exact HC0.out);rintro e w62 ⟨v405,rfl,ho0,hb⟩;refine ⟨_,rfl,?_⟩;have n0_:=Aside0.mk (Kd.R_lower ho0 (below_size (by repeat (with_reducible first|exact HB.out|apply bA|apply bN|apply bD))));have n1_:=Aside0.mk (below_step (by repeat (with_reducible first|exact HB.out|apply bA|apply bN|apply bD)) hb);clear HB;have HO406:=n0_;have HB:=n1_;clear n0_ n1_;(try clear hb);(try clear ho0))|((with_reducible refine gate_callee (f:=11) rfl ?_);refine goesL_ (some 23) rfl rfl Try.func11 (by kernel_rfl) rfl #[.slice A1 l1.length c1] rfl (by (try simp only [List.map_toArray,List.map_cons,List.map_nil]);first|done|rfl) ?_;(with_reducible refine (laws_toPointS.calls k _ _ l1 t407 _ ?side1 ?side2 A8.out).mono ?_);(case side1=>repeat (first|exact (Kd.C_below HR1.out HB.out)|(with_reducible refine Kd.C_alloc ?_ _)|(with_reducible refine Kd.C_drewN ?_ _)|(with_reducible refine Kd.C_drew ?_)));(case side2=>exact HC1.out);rintro e w63 ⟨v408,rfl,ho0,hb⟩;refine ⟨_,rfl,?_⟩;have n0_:=Aside0.mk (Kd.R_elder' (by (with_reducible repeat (first|apply rA|apply rN|apply rD));exact HO406.out) (Kd.R_base ho0) hb);have n1_:=Aside0.mk (Kd.R_lower (Kd.R_new' ho0 (Kd.R_lt (by (with_reducible repeat (first|apply rA|apply rN|apply rD));exact HO406.out))) (below_size (by repeat (with_reducible first|exact HB.out|apply bA|apply bN|apply bD))));have n2_:=Aside0.mk (below_step (by repeat (with_reducible first|exact HB.out|apply bA|apply bN|apply bD)) hb);clear HO406;clear HB;have HO406:=n0_;have HO409:=n1_;have HB:=n2_;clear n0_ n1_ n2_;(try clear hb);(try clear ho0);obtain ⟨Ao64,co64,eo64⟩:=Kd.R_slice HO406.out;subst eo64;obtain ⟨Ao65,co65,eo65⟩:=Kd.R_slice HO409.out;subst eo65)|((with_reducible refine gate_callee (f:=18) rfl ?_);refine goesL_ (some 24) rfl rfl Try.func18 (by kernel_rfl) rfl #[.slice Ao64 t404.length co64,.slice Ao65 t407.length co65] rfl (by (try simp only [List.map_toArray,List.map_cons,List.map_nil]);first|done|rfl) ?_;(with_reducible refine (spec_SameMeasures.calls k (fun k_=>some k_=(.slice Ao64 t404.length co64:Value).ownBlock) (.slice Ao64 t404.length co64) t404 (fun k_=>some k_=(.slice Ao65 t407.length co65:Value).ownBlock) (.slice Ao65 t407.length co65) t407 t410 w _ ?side1 ?side2 ?side3 ?side4 ?side5 A9.out).mono ?_);(case side1=>repeat (first|(with_reducible first|exact HB.out|apply bA|apply bN|apply bD)|exact HB.out));(case side2=>exact Kd.R_tight rfl HO406.out);(case side3=>exact fun k_ e_=>(HO406.out.1 k_ e_.symm).2);(case side4=>exact Kd.R_tight rfl HO409.out);(case side5=>exact fun k_ e_=>(HO409.out.1 k_ e_.symm).2);rintro e w66 ⟨rfl,hb,hkp⟩;refine ⟨_,rfl,?_⟩;have n0_:=Aside0.mk (hb);clear HB;clear HO406;clear HO409;have HB:=n0_;clear n0_;(try clear hb);(try clear hkp))|((with_reducible refine gate_callee (f:=11) rfl ?_);refine goesL_ (some 26) rfl rfl Try.func11 (by kernel_rfl) rfl #[.slice A0 l0.length c0] rfl (by (try simp only [List.map_toArray,List.map_cons,List.map_nil]);first|done|rfl) ?_;(with_reducible refine (laws_toPointS.calls k _ _ l0 t411 _ ?side1 ?side2 A10.out).mono ?_);(case side1=>repeat (first|exact (Kd.C_below HR0.out HB.out)|(with_reducible refine Kd.C_alloc ?_ _)|(with_reducible refine Kd.C_drewN ?_ _)|(with_reducible refine Kd.C_drew ?_)));(case side2=>exact HC0.out);rintro e w67 ⟨v412,rfl,ho0,hb⟩;refine ⟨_,rfl,?_⟩;have n0_:=Aside0.mk (Kd.R_lower ho0 (below_size (by repeat (with_reducible first|exact HB.out|apply bA|apply bN|apply bD))));have n1_:=Aside0.mk (below_step (by repeat (with_reducible first|exact HB.out|apply bA|apply bN|apply bD)) hb);clear HB;have HO413:=n0_;have HB:=n1_;clear n0_ n1_;(try clear hb);(try clear ho0))|((with_reducible refine gate_callee (f:=11) rfl ?_);refine goesL_ (some 28) rfl rfl Try.func11 (by kernel_rfl) rfl #[.slice A1 l1.length c1] rfl (by (try simp only [List.map_toArray,List.map_cons,List.map_nil]);first|done|rfl) ?_;(with_reducible refine (laws_toPointS.calls k _ _ l1 t414 _ ?side1 ?side2 A11.out).mono ?_);(case side1=>repeat (first|exact (Kd.C_below HR1.out HB.out)|(with_reducible refine Kd.C_alloc ?_ _)|(with_reducible refine Kd.C_drewN ?_ _)|(with_reducible refine Kd.C_drew ?_)));(case side2=>exact HC1.out);rintro e w68 ⟨v415,rfl,ho0,hb⟩;refine ⟨_,rfl,?_⟩;have n0_:=Aside0.mk (Kd.R_elder' (by (with_reducible repeat (first|apply rA|apply rN|apply rD));exact HO413.out) (Kd.R_base ho0) hb);have n1_:=Aside0.mk (Kd.R_lower (Kd.R_new' ho0 (Kd.R_lt (by (with_reducible repeat (first|apply rA|apply rN|apply rD));exact HO413.out))) (below_size (by repeat (with_reducible first|exact HB.out|apply bA|apply bN|apply bD))));have n2_:=Aside0.mk (below_step (by repeat (with_reducible first|exact HB.out|apply bA|apply bN|apply bD)) hb);clear HO413;clear HB;have HO413:=n0_;have HO416:=n1_;have HB:=n2_;clear n0_ n1_ n2_;(try clear hb);(try clear ho0);obtain ⟨Ao69,co69,eo69⟩:=Kd.R_slice HO413.out;subst eo69;obtain ⟨Ao70,co70,eo70⟩:=Kd.R_slice HO416.out;subst eo70)|((with_reducible refine gate_callee (f:=19) rfl ?_);refine goesL_ (some 31) rfl rfl Try.func19 (by kernel_rfl) rfl #[.slice Ao69 t411.length co69,.slice Ao70 t414.length co70] rfl (by (try simp only [List.map_toArray,List.map_cons,List.map_nil]);first|done|rfl) ?_;(with_reducible refine (impl_SameMeasures.calls k _ _ t411 _ _ t414 t417 _ ?side1 ?side2 ?side3 ?side4 A12.out).mono ?_);(case side1=>repeat (first|exact (Kd.R_reads' HO413.out).2.2|(with_reducible refine Kd.C_alloc ?_ _)|(with_reducible refine Kd.C_drewN ?_ _)|(with_reducible refine Kd.C_drew ?_)));(case side2=>exact (Kd.R_reads' HO413.out).2.1);(case side3=>repeat (first|exact (Kd.R_reads' HO416.out).2.2|(with_reducible refine Kd.C_alloc ?_ _)|(with_reducible refine Kd.C_drewN ?_ _)|(with_reducible refine Kd.C_drew ?_)));(case side4=>exact (Kd.R_reads' HO416.out).2.1);rintro e w71 ⟨rfl,hb⟩;refine ⟨_,rfl,?_⟩;have n0_:=Aside0.mk (Kd.R_below (by (with_reducible repeat (first|apply rA|apply rN|apply rD));exact HO413.out) hb);have n1_:=Aside0.mk (Kd.R_below (by (with_reducible repeat (first|apply rA|apply rN|apply rD));exact HO416.out) hb);have n2_:=Aside0.mk (below_step (by repeat (with_reducible first|exact HB.out|apply bA|apply bN|apply bD)) hb);clear HO413;clear HO416;clear HB;have HO413:=n0_;have HO416:=n1_;have HB:=n2_;clear n0_ n1_ n2_;(try clear hb))|((with_reducible refine gate_callee (f:=11) rfl ?_);refine goesL_ (some 37) rfl rfl Try.func11 (by kernel_rfl) rfl #[.slice A0 l0.length c0] rfl (by (try simp only [List.map_toArray,List.map_cons,List.map_nil]);first|done|rfl) ?_;(with_reducible refine (laws_toPointS.calls k _ _ l0 t418 _ ?side1 ?side2 A24.out).mono ?_);(case side1=>repeat (first|exact (Kd.C_below HR0.out HB.out)|(with_reducible refine Kd.C_alloc ?_ _)|(with_reducible refine Kd.C_drewN ?_ _)|(with_reducible refine Kd.C_drew ?_)));(case side2=>exact HC0.out);rintro e w72 ⟨v419,rfl,ho0,hb⟩;refine ⟨_,rfl,?_⟩;have n0_:=Aside0.mk (Kd.R_elder' (by (with_reducible repeat (first|apply rA|apply rN|apply rD));exact HO413.out) (Kd.R_base ho0) hb);have n1_:=Aside0.mk (Kd.R_elder' (by (with_reducible repeat (first|apply rA|apply rN|apply rD));exact HO416.out) (Kd.R_base ho0) hb);have n2_:=Aside0.mk (Kd.R_lower (Kd.R_new' (Kd.R_new' ho0 (Kd.R_lt (by (with_reducible repeat (first|apply rA|apply rN|apply rD));exact HO413.out))) (Kd.R_lt (by (with_reducible repeat (first|apply rA|apply rN|apply rD));exact HO416.out))) (below_size (by repeat (with_reducible first|exact HB.out|apply bA|apply bN|apply bD))));have n3_:=Aside0.mk (below_step (by repeat (with_reducible first|exact HB.out|apply bA|apply bN|apply bD)) hb);clear HO413;clear HO416;clear HB;have HO413:=n0_;have HO416:=n1_;have HO420:=n2_;have HB:=n3_;clear n0_ n1_ n2_ n3_;(try clear hb);(try clear ho0);obtain ⟨Ao73,co73,eo73⟩:=Kd.R_slice HO420.out;subst eo73)|((with_reducible refine gate_callee (f:=13) rfl ?_);refine goesL_ (some 38) rfl rfl Try.func13 (by kernel_rfl) rfl #[.slice Ao69 t411.length co69,.slice Ao73 t418.length co73] rfl (by (try simp only [List.map_toArray,List.map_cons,List.map_nil]);first|done|rfl) ?_;(with_reducible refine (laws_eqPointS.calls k _ _ t411 _ _ t418 false _ ?side1 ?side2 ?side3 ?side4 A25.out).mono ?_);(case side1=>repeat (first|exact (Kd.R_reads' HO413.out).2.2|(with_reducible refine Kd.C_alloc ?_ _)|(with_reducible refine Kd.C_drewN ?_ _)|(with_reducible refine Kd.C_drew ?_)));(case side2=>exact (Kd.R_reads' HO413.out).2.1);(case side3=>repeat (first|exact (Kd.R_reads' HO420.out).2.2|(with_reducible refine Kd.C_alloc ?_ _)|(with_reducible refine Kd.C_drewN ?_ _)|(with_reducible refine Kd.C_drew ?_)));(case side4=>exact (Kd.R_reads' HO420.out).2.1);rintro e w74 ⟨rfl,hb⟩;refine ⟨_,rfl,?_⟩;have n0_:=Aside0.mk (Kd.R_below (by (with_reducible repeat (first|apply rA|apply rN|apply rD));exact HO413.out) hb);have n1_:=Aside0.mk (Kd.R_below (by (with_reducible repeat (first|apply rA|apply rN|apply rD));exact HO416.out) hb);have n2_:=Aside0.mk (Kd.R_below (by (with_reducible repeat (first|apply rA|apply rN|apply rD));exact HO420.out) hb);have n3_:=Aside0.mk (below_step (by repeat (with_reducible first|exact HB.out|apply bA|apply bN|apply bD)) hb);clear HO413;clear HO416;clear HO420;clear HB;have HO413:=n0_;have HO416:=n1_;have HO420:=n2_;have HB:=n3_;clear n0_ n1_ n2_ n3_;(try clear hb)))
     go_ret
     exact ⟨by first|rfl|(simp [errW_none,errW_some] <;> rfl)|(simp [*,errW_none,errW_some] <;> rfl),by repeat (with_reducible first|exact HB.out|apply bA|apply bN|apply bD)⟩
end Go.Proofs.Ytadenfniiihifaa.QFnExactSameMeasures
