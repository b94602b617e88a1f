/- What each Go function of this text answers, as a plain function, and that the machine comes to just that answer. -/
import Derived.Test.YtadenfniiihifaaQFnExactCanExchangex0
import Derived.Test.YtadenfniiihifaaQFnExactCanExchangex4
import Derived.Test.YtadenfniiihifaaQFnExactCanExchangex5
import Derived.Test.YtadenfniiihifaaQFnExactCanExchangex7
namespace Go.Proofs.Ytadenfniiihifaa.QFnExactCanExchange
open Go.RowKit Go.Proofs.YtadenfniiihifaaW.PrintWords Go.Proofs.YtadenfniiihifaaW.PrintLast Go.Proofs.YtadenfniiihifaaW.PrintMore
attribute [local go_sem] max2_int min2_int max_two min_two max_three min_three max_four min_four
set_option linter.unusedVariables false
set_option maxHeartbeats 8000000
set_option maxRecDepth 100000
set_option linter.unusedSimpArgs false
def spec_l07Same.l0:Nat→List (List Int)→List (List Int)→Int→Int→Option (Bool)
 | 0,_,_,_,_=>none
 | k+1,x1,x12,x13,x14=>if x14 < x13 then (if 0≤x14 then (if x14 < (x12.length:Int) then (if 0 < ((rd_L3 x12 x14).length:Int) then (if x14 < (x1.length:Int) then (if 0 < ((rd_L3 x1 x14).length:Int) then (if (rd (rd_L3 x12 x14) 0)=(rd (rd_L3 x1 x14) 0) then (if 1 < ((rd_L3 x12 x14).length:Int) then (if 1 < ((rd_L3 x1 x14).length:Int) then (if (rd (rd_L3 x12 x14) 1)=(rd (rd_L3 x1 x14) 1) then (if 2 < ((rd_L3 x12 x14).length:Int) then (if 2 < ((rd_L3 x1 x14).length:Int) then (if (rd (rd_L3 x12 x14) 2)=(rd (rd_L3 x1 x14) 2) then (spec_l07Same.l0 k x1 x12 x13 (wrap64 (x14+1))) else (some false)) else (none)) else (none)) else (some false)) else (none)) else (none)) else (some false)) else (none)) else (none)) else (none)) else (none)) else (none)) else (some true)
def spec_l07Same.f (k:Nat) (l0:List (List Int)) (l1:List (List Int)):Option (Bool):=if (l0.length:Int)=(l1.length:Int) then (spec_l07Same.l0 k l1 l0 (l0.length:Int) 0) else (some false)
theorem spec_l07Same.mono_l:∀ k,(∀ y0 y1 y2 y3,LeO (spec_l07Same.l0 k y0 y1 y2 y3) (spec_l07Same.l0 (k+1) y0 y1 y2 y3))
 | 0=>fun _ _ _ _ r h=>by simp [spec_l07Same.l0] at h
 | k+1=>by
  have ih0:=spec_l07Same.mono_l k
  ·intro y0 y1 y2 y3
   unfold spec_l07Same.l0
   repeat' first
   | (with_reducible exact LeO.refl _)
   | exact ih0 _ _ _ _
   | exact LeO.none _
   | refine LeO.ite ?_ ?_
   | refine LeO.bind ?_ (fun _=>?_)
theorem spec_l07Same.mono:∀ a0 a1 k,LeO (spec_l07Same.f k a0 a1) (spec_l07Same.f (k+1) a0 a1):=by
 intro a0 a1 k
 have ih0:=spec_l07Same.mono_l k
 unfold spec_l07Same.f
 repeat' first
  | (with_reducible exact LeO.refl _)
  | exact ih0 _ _ _ _
  | exact LeO.none _
  | refine LeO.ite ?_ ?_
  | refine LeO.bind ?_ (fun _=>?_)
theorem spec_l07Same.calls (k:Nat) (A0:Option Addr) (c0:Nat) (l0:List (List Int)) (A1:Option Addr) (c1:Nat) (l1:List (List Int)) (r:Bool) (w:World) (hr0:Kd.C (Kd.slice 3 (Kd.int .i64)) w A0 l0.length l0) (hc0:l0.length≤c0) (hr1:Kd.C (Kd.slice 3 (Kd.int .i64)) w A1 l1.length l1) (hc1:l1.length≤c1) (h:spec_l07Same.f k l0 l1=some r) :
 Calls Try.prog 41 #[.slice A0 l0.length c0,.slice A1 l1.length c1] w fun e w'=>e=.returned (.bool r)∧Drawn0 w w':=by
 have HR0:=Aside0.mk hr0
 have HC0:=Aside0.mk hc0
 clear hr0 hc0
 have HR1:=Aside0.mk hr1
 have HC1:=Aside0.mk hc1
 clear hr1 hc1
 have H:(if (l0.length:Int)=(l1.length:Int) then (spec_l07Same.l0 k l1 l0 (l0.length:Int) 0) else (some false))=some r:=h
 clear h
 by_cases c3:(l0.length:Int)=(l1.length:Int)
 ·rw [if_pos c3] at H
  have c3b0:((l0.length:Int) == (l1.length:Int))=true:=beq_iff_eq.mpr c3
  have c3b1:((l0.length:Int) != (l1.length:Int))=false:=bne_eq_false_iff_eq.mpr c3
  have c3b2:(l0.length == l1.length)=true:=by first|simpa using c3|(simp at c3 ⊢;omega)
  clear c3
  have H':=Aside0.mk H
  clear H
  go_enter Try.func41,Try.ntmps41
  go_wp2
  repeat (go_quiet (fail);try go_wp2)
  go_loopg [14] k (fun kq v14 w'=>∃ (x14_1:Int),v14=.int .i64 x14_1∧Aside0 (spec_l07Same.l0 kq l1 l0 (l0.length:Int) x14_1=some r)∧Aside0 (kq≤k)∧Drawn0 w w')
  case atStart=>exact ⟨(0),(by first|rfl|(simp;done)|(simp [*];done)),H',⟨Nat.le_refl _⟩,by repeat (first|exact Drawn0.refl _|apply Drawn0.step)⟩
  case round =>
   clear H'
   obtain ⟨x14_1,rfl,HA,HK1,⟨m1,rfl⟩⟩:=hrel
   rcases gk with _|k1
   ·exact absurd HA.out (by simp [spec_l07Same.l0])
   have H:=HA.out
   clear HA
   simp only [spec_l07Same.l0] at H
   by_cases c4:x14_1 < (l0.length:Int)
   ·rw [if_pos c4] at H
    have c4b0:decide (x14_1 < (l0.length:Int))=true:=decide_eq_true c4
    clear c4
    by_cases c5:0≤x14_1
    rotate_left;·rw [if_neg c5] at H;exact absurd H (by simp)
    rw [if_pos c5] at H
    have c5b0:decide (0≤x14_1)=true:=decide_eq_true c5
    clear c5
    by_cases c6:x14_1 < (l0.length:Int)
    rotate_left;·rw [if_neg c6] at H;exact absurd H (by simp)
    rw [if_pos c6] at H
    have c6b0:decide (x14_1 < (l0.length:Int))=true:=decide_eq_true c6
    clear c6
    by_cases c7:0 < ((rd_L3 l0 x14_1).length:Int)
    rotate_left;·rw [if_neg c7] at H;exact absurd H (by simp)
    rw [if_pos c7] at H
    have c7b0:decide (0 < ((rd_L3 l0 x14_1).length:Int))=true:=decide_eq_true c7
    have c7b1:decide (0 < (rd_L3 l0 x14_1).length)=true:=decide_eq_true (by omega)
    clear c7
    by_cases c8:x14_1 < (l1.length:Int)
    rotate_left;·rw [if_neg c8] at H;exact absurd H (by simp)
    rw [if_pos c8] at H
    have c8b0:decide (x14_1 < (l1.length:Int))=true:=decide_eq_true c8
    clear c8
    by_cases c9:0 < ((rd_L3 l1 x14_1).length:Int)
    rotate_left;·rw [if_neg c9] at H;exact absurd H (by simp)
    rw [if_pos c9] at H
    have c9b0:decide (0 < ((rd_L3 l1 x14_1).length:Int))=true:=decide_eq_true c9
    have c9b1:decide (0 < (rd_L3 l1 x14_1).length)=true:=decide_eq_true (by omega)
    clear c9
    by_cases c10:(rd (rd_L3 l0 x14_1) 0)=(rd (rd_L3 l1 x14_1) 0)
    ·rw [if_pos c10] at H
     have c10b0:((rd (rd_L3 l0 x14_1) 0) == (rd (rd_L3 l1 x14_1) 0))=true:=beq_iff_eq.mpr c10
     have c10b1:((rd (rd_L3 l0 x14_1) 0) != (rd (rd_L3 l1 x14_1) 0))=false:=bne_eq_false_iff_eq.mpr c10
     clear c10
     by_cases c11:1 < ((rd_L3 l0 x14_1).length:Int)
     rotate_left;·rw [if_neg c11] at H;exact absurd H (by simp)
     rw [if_pos c11] at H
     have c11b0:decide (1 < ((rd_L3 l0 x14_1).length:Int))=true:=decide_eq_true c11
     have c11b1:decide (1 < (rd_L3 l0 x14_1).length)=true:=decide_eq_true (by omega)
     clear c11
     by_cases c12:1 < ((rd_L3 l1 x14_1).length:Int)
     rotate_left;·rw [if_neg c12] at H;exact absurd H (by simp)
     rw [if_pos c12] at H
     have c12b0:decide (1 < ((rd_L3 l1 x14_1).length:Int))=true:=decide_eq_true c12
     have c12b1:decide (1 < (rd_L3 l1 x14_1).length)=true:=decide_eq_true (by omega)
     clear c12
     by_cases c13:(rd (rd_L3 l0 x14_1) 1)=(rd (rd_L3 l1 x14_1) 1)
     ·rw [if_pos c13] at H
      have c13b0:((rd (rd_L3 l0 x14_1) 1) == (rd (rd_L3 l1 x14_1) 1))=true:=beq_iff_eq.mpr c13
      have c13b1:((rd (rd_L3 l0 x14_1) 1) != (rd (rd_L3 l1 x14_1) 1))=false:=bne_eq_false_iff_eq.mpr c13
      clear c13
      by_cases c14:2 < ((rd_L3 l0 x14_1).length:Int)
      rotate_left;·rw [if_neg c14] at H;exact absurd H (by simp)
      rw [if_pos c14] at H
      have c14b0:decide (2 < ((rd_L3 l0 x14_1).length:Int))=true:=decide_eq_true c14
      have c14b1:decide (2 < (rd_L3 l0 x14_1).length)=true:=decide_eq_true (by omega)
      clear c14
      by_cases c15:2 < ((rd_L3 l1 x14_1).length:Int)
      rotate_left;·rw [if_neg c15] at H;exact absurd H (by simp)
      rw [if_pos c15] at H
      have c15b0:decide (2 < ((rd_L3 l1 x14_1).length:Int))=true:=decide_eq_true c15
      have c15b1:decide (2 < (rd_L3 l1 x14_1).length)=true:=decide_eq_true (by omega)
      clear c15
      by_cases c16:(rd (rd_L3 l0 x14_1) 2)=(rd (rd_L3 l1 x14_1) 2)
      ·rw [if_pos c16] at H
       have c16b0:((rd (rd_L3 l0 x14_1) 2) == (rd (rd_L3 l1 x14_1) 2))=true:=beq_iff_eq.mpr c16
       have c16b1:((rd (rd_L3 l0 x14_1) 2) != (rd (rd_L3 l1 x14_1) 2))=false:=bne_eq_false_iff_eq.mpr c16
       clear c16
       have H':=Aside0.mk H
       clear H
       have p327:0≤(x14_1:Int):=of_decide_eq_true (by assumption)
       have q327:x14_1 < (l0.length:Int):=of_decide_eq_true (by assumption)
       obtain ⟨ad327,A327_0,c327_0,e327,hx327_0,hl327_0,hi327_0⟩:=at_L3 HR0.out x14_1 p327 q327
       cases e327
       have HR327_0:=Aside0.mk hi327_0
       have HC327_0:=Aside0.mk hl327_0
       clear hi327_0 hl327_0
       replace p327:=eq_true p327
       replace q327:=eq_true q327
       have p328:0≤(0:Int):=(by omega)
       have q328:0 < ((rd_L3 l0 x14_1).length:Int):=of_decide_eq_true (by assumption)
       obtain ⟨ad328,e328,hx328_0⟩:=Kd.at_int HR327_0.out 0 p328 q328
       cases e328
       have qi328:(0 < (rd_L3 l0 x14_1).length)=True:=eq_true (by omega)
       (try rw [show ((0:Int)).toNat=0 from rfl] at hx328_0)
       (try rw [Addr.add_zero'] at hx328_0)
       replace p328:=eq_true p328
       replace q328:=eq_true q328
       have p329:0≤(x14_1:Int):=of_decide_eq_true (by assumption)
       have q329:x14_1 < (l1.length:Int):=of_decide_eq_true (by assumption)
       obtain ⟨ad329,A329_0,c329_0,e329,hx329_0,hl329_0,hi329_0⟩:=at_L3 HR1.out x14_1 p329 q329
       cases e329
       have HR329_0:=Aside0.mk hi329_0
       have HC329_0:=Aside0.mk hl329_0
       clear hi329_0 hl329_0
       replace p329:=eq_true p329
       replace q329:=eq_true q329
       have p330:0≤(0:Int):=(by omega)
       have q330:0 < ((rd_L3 l1 x14_1).length:Int):=of_decide_eq_true (by assumption)
       obtain ⟨ad330,e330,hx330_0⟩:=Kd.at_int HR329_0.out 0 p330 q330
       cases e330
       have qi330:(0 < (rd_L3 l1 x14_1).length)=True:=eq_true (by omega)
       (try rw [show ((0:Int)).toNat=0 from rfl] at hx330_0)
       (try rw [Addr.add_zero'] at hx330_0)
       replace p330:=eq_true p330
       replace q330:=eq_true q330
       have p331:0≤(1:Int):=(by omega)
       have q331:1 < ((rd_L3 l0 x14_1).length:Int):=of_decide_eq_true (by assumption)
       obtain ⟨ad331,e331,hx331_0⟩:=Kd.at_int HR327_0.out 1 p331 q331
       obtain rfl:ad328=ad331:=(by injection e331)
       (try simp only [show (1:Int).toNat=1 from rfl,Nat.reduceMul,Nat.reduceEqDiff,Go.Addr.add,↓reduceIte] at hx331_0)
       have qi331:(1 < (rd_L3 l0 x14_1).length)=True:=eq_true (by omega)
       (try rw [show ((1:Int)).toNat=1 from rfl] at hx331_0)
       replace p331:=eq_true p331
       replace q331:=eq_true q331
       have p332:0≤(x14_1:Int):=of_decide_eq_true (by assumption)
       have q332:x14_1 < (l1.length:Int):=of_decide_eq_true (by assumption)
       obtain ⟨ad332,A332_0,c332_0,e332,hx332_0,hl332_0,hi332_0⟩:=at_L3 HR1.out x14_1 p332 q332
       obtain rfl:ad329=ad332:=(by injection e332)
       have HR332_0:=Aside0.mk hi332_0
       have HC332_0:=Aside0.mk hl332_0
       clear hi332_0 hl332_0
       replace p332:=eq_true p332
       replace q332:=eq_true q332
       have ea_:=Option.some.inj (hx329_0.symm.trans hx332_0)
       injection ea_ with ea_ en_ ec_
       subst ea_
       subst ec_
       clear en_
       have p333:0≤(1:Int):=(by omega)
       have q333:1 < ((rd_L3 l1 x14_1).length:Int):=of_decide_eq_true (by assumption)
       obtain ⟨ad333,e333,hx333_0⟩:=Kd.at_int HR332_0.out 1 p333 q333
       cases e333
       (try simp only [show (1:Int).toNat=1 from rfl,Nat.reduceMul,Nat.reduceEqDiff,Go.Addr.add,↓reduceIte] at hx333_0)
       have qi333:(1 < (rd_L3 l1 x14_1).length)=True:=eq_true (by omega)
       (try rw [show ((1:Int)).toNat=1 from rfl] at hx333_0)
       replace p333:=eq_true p333
       replace q333:=eq_true q333
       have p334:0≤(2:Int):=(by omega)
       have q334:2 < ((rd_L3 l0 x14_1).length:Int):=of_decide_eq_true (by assumption)
       obtain ⟨ad334,e334,hx334_0⟩:=Kd.at_int HR327_0.out 2 p334 q334
       obtain rfl:ad328=ad334:=(by injection e334)
       (try simp only [show (2:Int).toNat=2 from rfl,Nat.reduceMul,Nat.reduceEqDiff,Go.Addr.add,↓reduceIte] at hx334_0)
       have qi334:(2 < (rd_L3 l0 x14_1).length)=True:=eq_true (by omega)
       (try rw [show ((2:Int)).toNat=2 from rfl] at hx334_0)
       replace p334:=eq_true p334
       replace q334:=eq_true q334
       have p335:0≤(x14_1:Int):=of_decide_eq_true (by assumption)
       have q335:x14_1 < (l1.length:Int):=of_decide_eq_true (by assumption)
       obtain ⟨ad335,A335_0,c335_0,e335,hx335_0,hl335_0,hi335_0⟩:=at_L3 HR1.out x14_1 p335 q335
       obtain rfl:ad329=ad335:=(by injection e335)
       have HR335_0:=Aside0.mk hi335_0
       have HC335_0:=Aside0.mk hl335_0
       clear hi335_0 hl335_0
       replace p335:=eq_true p335
       replace q335:=eq_true q335
       have ea_:=Option.some.inj (hx329_0.symm.trans hx335_0)
       injection ea_ with ea_ en_ ec_
       subst ea_
       subst ec_
       clear en_
       have p336:0≤(2:Int):=(by omega)
       have q336:2 < ((rd_L3 l1 x14_1).length:Int):=of_decide_eq_true (by assumption)
       obtain ⟨ad336,e336,hx336_0⟩:=Kd.at_int HR335_0.out 2 p336 q336
       cases e336
       (try simp only [show (2:Int).toNat=2 from rfl,Nat.reduceMul,Nat.reduceEqDiff,Go.Addr.add,↓reduceIte] at hx336_0)
       have qi336:(2 < (rd_L3 l1 x14_1).length)=True:=eq_true (by omega)
       (try rw [show ((2:Int)).toNat=2 from rfl] at hx336_0)
       replace p336:=eq_true p336
       replace q336:=eq_true q336
       go_wp2
       repeat (go_quiet (fail);try go_wp2)
       go_roundg k1
       case measure=>have:=HK1.out;omega
       case rel=>exact ⟨(wrap64 (x14_1+1)),(by first|rfl|(simp;done)|(simp [*];done)),H',⟨by have:=HK1.out;omega⟩,by repeat (first|exact Drawn0.refl _|apply Drawn0.step)⟩
      ·rw [if_neg c16] at H
       have c16b0:((rd (rd_L3 l0 x14_1) 2) == (rd (rd_L3 l1 x14_1) 2))=false:=beq_eq_false_iff_ne.mpr c16
       have c16b1:((rd (rd_L3 l0 x14_1) 2) != (rd (rd_L3 l1 x14_1) 2))=true:=bne_iff_ne.mpr c16
       obtain rfl:=Option.some.inj H
       have p327:0≤(x14_1:Int):=of_decide_eq_true (by assumption)
       have q327:x14_1 < (l0.length:Int):=of_decide_eq_true (by assumption)
       obtain ⟨ad327,A327_0,c327_0,e327,hx327_0,hl327_0,hi327_0⟩:=at_L3 HR0.out x14_1 p327 q327
       cases e327
       have HR327_0:=Aside0.mk hi327_0
       have HC327_0:=Aside0.mk hl327_0
       clear hi327_0 hl327_0
       replace p327:=eq_true p327
       replace q327:=eq_true q327
       have p328:0≤(0:Int):=(by omega)
       have q328:0 < ((rd_L3 l0 x14_1).length:Int):=of_decide_eq_true (by assumption)
       obtain ⟨ad328,e328,hx328_0⟩:=Kd.at_int HR327_0.out 0 p328 q328
       cases e328
       have qi328:(0 < (rd_L3 l0 x14_1).length)=True:=eq_true (by omega)
       (try rw [show ((0:Int)).toNat=0 from rfl] at hx328_0)
       (try rw [Addr.add_zero'] at hx328_0)
       replace p328:=eq_true p328
       replace q328:=eq_true q328
       have p329:0≤(x14_1:Int):=of_decide_eq_true (by assumption)
       have q329:x14_1 < (l1.length:Int):=of_decide_eq_true (by assumption)
       obtain ⟨ad329,A329_0,c329_0,e329,hx329_0,hl329_0,hi329_0⟩:=at_L3 HR1.out x14_1 p329 q329
       cases e329
       have HR329_0:=Aside0.mk hi329_0
       have HC329_0:=Aside0.mk hl329_0
       clear hi329_0 hl329_0
       replace p329:=eq_true p329
       replace q329:=eq_true q329
       have p330:0≤(0:Int):=(by omega)
       have q330:0 < ((rd_L3 l1 x14_1).length:Int):=of_decide_eq_true (by assumption)
       obtain ⟨ad330,e330,hx330_0⟩:=Kd.at_int HR329_0.out 0 p330 q330
       cases e330
       have qi330:(0 < (rd_L3 l1 x14_1).length)=True:=eq_true (by omega)
       (try rw [show ((0:Int)).toNat=0 from rfl] at hx330_0)
       (try rw [Addr.add_zero'] at hx330_0)
       replace p330:=eq_true p330
       replace q330:=eq_true q330
       have p331:0≤(1:Int):=(by omega)
       have q331:1 < ((rd_L3 l0 x14_1).length:Int):=of_decide_eq_true (by assumption)
       obtain ⟨ad331,e331,hx331_0⟩:=Kd.at_int HR327_0.out 1 p331 q331
       obtain rfl:ad328=ad331:=(by injection e331)
       (try simp only [show (1:Int).toNat=1 from rfl,Nat.reduceMul,Nat.reduceEqDiff,Go.Addr.add,↓reduceIte] at hx331_0)
       have qi331:(1 < (rd_L3 l0 x14_1).length)=True:=eq_true (by omega)
       (try rw [show ((1:Int)).toNat=1 from rfl] at hx331_0)
       replace p331:=eq_true p331
       replace q331:=eq_true q331
       have p332:0≤(x14_1:Int):=of_decide_eq_true (by assumption)
       have q332:x14_1 < (l1.length:Int):=of_decide_eq_true (by assumption)
       obtain ⟨ad332,A332_0,c332_0,e332,hx332_0,hl332_0,hi332_0⟩:=at_L3 HR1.out x14_1 p332 q332
       obtain rfl:ad329=ad332:=(by injection e332)
       have HR332_0:=Aside0.mk hi332_0
       have HC332_0:=Aside0.mk hl332_0
       clear hi332_0 hl332_0
       replace p332:=eq_true p332
       replace q332:=eq_true q332
       have ea_:=Option.some.inj (hx329_0.symm.trans hx332_0)
       injection ea_ with ea_ en_ ec_
       subst ea_
       subst ec_
       clear en_
       have p333:0≤(1:Int):=(by omega)
       have q333:1 < ((rd_L3 l1 x14_1).length:Int):=of_decide_eq_true (by assumption)
       obtain ⟨ad333,e333,hx333_0⟩:=Kd.at_int HR332_0.out 1 p333 q333
       cases e333
       (try simp only [show (1:Int).toNat=1 from rfl,Nat.reduceMul,Nat.reduceEqDiff,Go.Addr.add,↓reduceIte] at hx333_0)
       have qi333:(1 < (rd_L3 l1 x14_1).length)=True:=eq_true (by omega)
       (try rw [show ((1:Int)).toNat=1 from rfl] at hx333_0)
       replace p333:=eq_true p333
       replace q333:=eq_true q333
       have p334:0≤(2:Int):=(by omega)
       have q334:2 < ((rd_L3 l0 x14_1).length:Int):=of_decide_eq_true (by assumption)
       obtain ⟨ad334,e334,hx334_0⟩:=Kd.at_int HR327_0.out 2 p334 q334
       obtain rfl:ad328=ad334:=(by injection e334)
       (try simp only [show (2:Int).toNat=2 from rfl,Nat.reduceMul,Nat.reduceEqDiff,Go.Addr.add,↓reduceIte] at hx334_0)
       have qi334:(2 < (rd_L3 l0 x14_1).length)=True:=eq_true (by omega)
       (try rw [show ((2:Int)).toNat=2 from rfl] at hx334_0)
       replace p334:=eq_true p334
       replace q334:=eq_true q334
       have p335:0≤(x14_1:Int):=of_decide_eq_true (by assumption)
       have q335:x14_1 < (l1.length:Int):=of_decide_eq_true (by assumption)
       obtain ⟨ad335,A335_0,c335_0,e335,hx335_0,hl335_0,hi335_0⟩:=at_L3 HR1.out x14_1 p335 q335
       obtain rfl:ad329=ad335:=(by injection e335)
       have HR335_0:=Aside0.mk hi335_0
       have HC335_0:=Aside0.mk hl335_0
       clear hi335_0 hl335_0
       replace p335:=eq_true p335
       replace q335:=eq_true q335
       have ea_:=Option.some.inj (hx329_0.symm.trans hx335_0)
       injection ea_ with ea_ en_ ec_
       subst ea_
       subst ec_
       clear en_
       have p336:0≤(2:Int):=(by omega)
       have q336:2 < ((rd_L3 l1 x14_1).length:Int):=of_decide_eq_true (by assumption)
       obtain ⟨ad336,e336,hx336_0⟩:=Kd.at_int HR335_0.out 2 p336 q336
       cases e336
       (try simp only [show (2:Int).toNat=2 from rfl,Nat.reduceMul,Nat.reduceEqDiff,Go.Addr.add,↓reduceIte] at hx336_0)
       have qi336:(2 < (rd_L3 l1 x14_1).length)=True:=eq_true (by omega)
       (try rw [show ((2:Int)).toNat=2 from rfl] at hx336_0)
       replace p336:=eq_true p336
       replace q336:=eq_true q336
       go_wp2
       repeat (go_quiet (fail);try go_wp2)
       go_ret
       exact ⟨by first|rfl|(simp;done)|(simp [*];done),by repeat (first|exact Drawn0.refl _|apply Drawn0.step)⟩
     ·rw [if_neg c13] at H
      have c13b0:((rd (rd_L3 l0 x14_1) 1) == (rd (rd_L3 l1 x14_1) 1))=false:=beq_eq_false_iff_ne.mpr c13
      have c13b1:((rd (rd_L3 l0 x14_1) 1) != (rd (rd_L3 l1 x14_1) 1))=true:=bne_iff_ne.mpr c13
      obtain rfl:=Option.some.inj H
      have p327:0≤(x14_1:Int):=of_decide_eq_true (by assumption)
      have q327:x14_1 < (l0.length:Int):=of_decide_eq_true (by assumption)
      obtain ⟨ad327,A327_0,c327_0,e327,hx327_0,hl327_0,hi327_0⟩:=at_L3 HR0.out x14_1 p327 q327
      cases e327
      have HR327_0:=Aside0.mk hi327_0
      have HC327_0:=Aside0.mk hl327_0
      clear hi327_0 hl327_0
      replace p327:=eq_true p327
      replace q327:=eq_true q327
      have p328:0≤(0:Int):=(by omega)
      have q328:0 < ((rd_L3 l0 x14_1).length:Int):=of_decide_eq_true (by assumption)
      obtain ⟨ad328,e328,hx328_0⟩:=Kd.at_int HR327_0.out 0 p328 q328
      cases e328
      have qi328:(0 < (rd_L3 l0 x14_1).length)=True:=eq_true (by omega)
      (try rw [show ((0:Int)).toNat=0 from rfl] at hx328_0)
      (try rw [Addr.add_zero'] at hx328_0)
      replace p328:=eq_true p328
      replace q328:=eq_true q328
      have p329:0≤(x14_1:Int):=of_decide_eq_true (by assumption)
      have q329:x14_1 < (l1.length:Int):=of_decide_eq_true (by assumption)
      obtain ⟨ad329,A329_0,c329_0,e329,hx329_0,hl329_0,hi329_0⟩:=at_L3 HR1.out x14_1 p329 q329
      cases e329
      have HR329_0:=Aside0.mk hi329_0
      have HC329_0:=Aside0.mk hl329_0
      clear hi329_0 hl329_0
      replace p329:=eq_true p329
      replace q329:=eq_true q329
      have p330:0≤(0:Int):=(by omega)
      have q330:0 < ((rd_L3 l1 x14_1).length:Int):=of_decide_eq_true (by assumption)
      obtain ⟨ad330,e330,hx330_0⟩:=Kd.at_int HR329_0.out 0 p330 q330
      cases e330
      have qi330:(0 < (rd_L3 l1 x14_1).length)=True:=eq_true (by omega)
      (try rw [show ((0:Int)).toNat=0 from rfl] at hx330_0)
      (try rw [Addr.add_zero'] at hx330_0)
      replace p330:=eq_true p330
      replace q330:=eq_true q330
      have p331:0≤(1:Int):=(by omega)
      have q331:1 < ((rd_L3 l0 x14_1).length:Int):=of_decide_eq_true (by assumption)
      obtain ⟨ad331,e331,hx331_0⟩:=Kd.at_int HR327_0.out 1 p331 q331
      obtain rfl:ad328=ad331:=(by injection e331)
      (try simp only [show (1:Int).toNat=1 from rfl,Nat.reduceMul,Nat.reduceEqDiff,Go.Addr.add,↓reduceIte] at hx331_0)
      have qi331:(1 < (rd_L3 l0 x14_1).length)=True:=eq_true (by omega)
      (try rw [show ((1:Int)).toNat=1 from rfl] at hx331_0)
      replace p331:=eq_true p331
      replace q331:=eq_true q331
      have p332:0≤(x14_1:Int):=of_decide_eq_true (by assumption)
      have q332:x14_1 < (l1.length:Int):=of_decide_eq_true (by assumption)
      obtain ⟨ad332,A332_0,c332_0,e332,hx332_0,hl332_0,hi332_0⟩:=at_L3 HR1.out x14_1 p332 q332
      obtain rfl:ad329=ad332:=(by injection e332)
      have HR332_0:=Aside0.mk hi332_0
      have HC332_0:=Aside0.mk hl332_0
      clear hi332_0 hl332_0
      replace p332:=eq_true p332
      replace q332:=eq_true q332
      have ea_:=Option.some.inj (hx329_0.symm.trans hx332_0)
      injection ea_ with ea_ en_ ec_
      subst ea_
      subst ec_
      clear en_
      have p333:0≤(1:Int):=(by omega)
      have q333:1 < ((rd_L3 l1 x14_1).length:Int):=of_decide_eq_true (by assumption)
      obtain ⟨ad333,e333,hx333_0⟩:=Kd.at_int HR332_0.out 1 p333 q333
      cases e333
      (try simp only [show (1:Int).toNat=1 from rfl,Nat.reduceMul,Nat.reduceEqDiff,Go.Addr.add,↓reduceIte] at hx333_0)
      have qi333:(1 < (rd_L3 l1 x14_1).length)=True:=eq_true (by omega)
      (try rw [show ((1:Int)).toNat=1 from rfl] at hx333_0)
      replace p333:=eq_true p333
      replace q333:=eq_true q333
      go_wp2
      repeat (go_quiet (fail);try go_wp2)
      go_ret
      exact ⟨by first|rfl|(simp;done)|(simp [*];done),by repeat (first|exact Drawn0.refl _|apply Drawn0.step)⟩
    ·rw [if_neg c10] at H
     have c10b0:((rd (rd_L3 l0 x14_1) 0) == (rd (rd_L3 l1 x14_1) 0))=false:=beq_eq_false_iff_ne.mpr c10
     have c10b1:((rd (rd_L3 l0 x14_1) 0) != (rd (rd_L3 l1 x14_1) 0))=true:=bne_iff_ne.mpr c10
     obtain rfl:=Option.some.inj H
     have p327:0≤(x14_1:Int):=of_decide_eq_true (by assumption)
     have q327:x14_1 < (l0.length:Int):=of_decide_eq_true (by assumption)
     obtain ⟨ad327,A327_0,c327_0,e327,hx327_0,hl327_0,hi327_0⟩:=at_L3 HR0.out x14_1 p327 q327
     cases e327
     have HR327_0:=Aside0.mk hi327_0
     have HC327_0:=Aside0.mk hl327_0
     clear hi327_0 hl327_0
     replace p327:=eq_true p327
     replace q327:=eq_true q327
     have p328:0≤(0:Int):=(by omega)
     have q328:0 < ((rd_L3 l0 x14_1).length:Int):=of_decide_eq_true (by assumption)
     obtain ⟨ad328,e328,hx328_0⟩:=Kd.at_int HR327_0.out 0 p328 q328
     cases e328
     have qi328:(0 < (rd_L3 l0 x14_1).length)=True:=eq_true (by omega)
     (try rw [show ((0:Int)).toNat=0 from rfl] at hx328_0)
     (try rw [Addr.add_zero'] at hx328_0)
     replace p328:=eq_true p328
     replace q328:=eq_true q328
     have p329:0≤(x14_1:Int):=of_decide_eq_true (by assumption)
     have q329:x14_1 < (l1.length:Int):=of_decide_eq_true (by assumption)
     obtain ⟨ad329,A329_0,c329_0,e329,hx329_0,hl329_0,hi329_0⟩:=at_L3 HR1.out x14_1 p329 q329
     cases e329
     have HR329_0:=Aside0.mk hi329_0
     have HC329_0:=Aside0.mk hl329_0
     clear hi329_0 hl329_0
     replace p329:=eq_true p329
     replace q329:=eq_true q329
     have p330:0≤(0:Int):=(by omega)
     have q330:0 < ((rd_L3 l1 x14_1).length:Int):=of_decide_eq_true (by assumption)
     obtain ⟨ad330,e330,hx330_0⟩:=Kd.at_int HR329_0.out 0 p330 q330
     cases e330
     have qi330:(0 < (rd_L3 l1 x14_1).length)=True:=eq_true (by omega)
     (try rw [show ((0:Int)).toNat=0 from rfl] at hx330_0)
     (try rw [Addr.add_zero'] at hx330_0)
     replace p330:=eq_true p330
     replace q330:=eq_true q330
     go_wp2
     repeat (go_quiet (fail);try go_wp2)
     go_ret
     exact ⟨by first|rfl|(simp;done)|(simp [*];done),by repeat (first|exact Drawn0.refl _|apply Drawn0.step)⟩
   ·rw [if_neg c4] at H
    have c4b0:decide (x14_1 < (l0.length:Int))=false:=decide_eq_false c4
    clear c4
    obtain rfl:=Option.some.inj H
    go_wp2
    repeat (go_quiet (fail);try go_wp2)
    go_ret
    exact ⟨by first|rfl|(simp;done)|(simp [*];done),by repeat (first|exact Drawn0.refl _|apply Drawn0.step)⟩
 ·rw [if_neg c3] at H
  have c3b0:((l0.length:Int) == (l1.length:Int))=false:=beq_eq_false_iff_ne.mpr c3
  have c3b1:((l0.length:Int) != (l1.length:Int))=true:=bne_iff_ne.mpr c3
  have c3b2:(l0.length == l1.length)=false:=by first|simpa using c3|(simp at c3 ⊢;omega)
  obtain rfl:=Option.some.inj H
  go_enter Try.func41,Try.ntmps41
  go_wp2
  repeat (go_quiet (fail);try go_wp2)
  go_ret
  exact ⟨by first|rfl|(simp;done)|(simp [*];done),by repeat (first|exact Drawn0.refl _|apply Drawn0.step)⟩
def spec_SameMeasures.f (k:Nat) (l0:List (S40)) (l1:List (S40)):Option (Bool):=(spec_PolygonOk.f k l0).bind fun t337=>(if t337=true then ((spec_PolygonOk.f k l1).bind fun t338=>(if t338=true then ((spec_l07All.f k l0).bind fun t339=>((spec_l07All.f k l1).bind fun t342=>((spec_l07Same.f k t339 t342).bind fun t345=>(some t345)))) else (some false))) else (some false))
theorem spec_SameMeasures.mono:∀ a0 a1 k,LeO (spec_SameMeasures.f k a0 a1) (spec_SameMeasures.f (k+1) a0 a1):=by
 intro a0 a1 k
 unfold spec_SameMeasures.f
 repeat' first
  | (with_reducible exact LeO.refl _)
  | exact spec_PolygonOk.mono _ _
  | exact spec_l07All.mono _ _
  | exact spec_l07Same.mono _ _ _
  | exact LeO.none _
  | refine LeO.ite ?_ ?_
  | refine LeO.bind ?_ (fun _=>?_)
theorem spec_SameMeasures.calls (k:Nat) (A0:Option Addr) (c0:Nat) (l0:List (S40)) (A1:Option Addr) (c1:Nat) (l1:List (S40)) (r:Bool) (w:World) (hr0:Kd.C k40 w A0 l0.length l0) (hc0:l0.length≤c0) (hr1:Kd.C k40 w A1 l1.length l1) (hc1:l1.length≤c1) (h:spec_SameMeasures.f k l0 l1=some r) :
 Calls Try.prog 18 #[.slice A0 l0.length c0,.slice A1 l1.length c1] w fun e w'=>e=.returned (.bool r)∧Below w.heap.size w w':=by
 have HR0:=Aside0.mk hr0
 have HC0:=Aside0.mk hc0
 clear hr0 hc0
 have HR1:=Aside0.mk hr1
 have HC1:=Aside0.mk hc1
 clear hr1 hc1
 have HB:=Aside0.mk (Below.refl w.heap.size w)
 have H:((spec_PolygonOk.f k l0).bind fun t337=>(if t337=true then ((spec_PolygonOk.f k l1).bind fun t338=>(if t338=true then ((spec_l07All.f k l0).bind fun t339=>((spec_l07All.f k l1).bind fun t342=>((spec_l07Same.f k t339 t342).bind fun t345=>(some t345)))) else (some false))) else (some false)))=some r:=h
 clear h
 replace H:=Option.bind_eq_some_iff.mp H
 obtain ⟨t337,A30,H⟩:=H
 have A3:=Aside0.mk A30
 clear A30
 by_cases c4:t337=true
 ·subst c4
  rw [if_pos rfl] at H
  replace H:=Option.bind_eq_some_iff.mp H
  obtain ⟨t338,A50,H⟩:=H
  have A5:=Aside0.mk A50
  clear A50
  by_cases c6:t338=true
  ·subst c6
   rw [if_pos rfl] at H
   replace H:=Option.bind_eq_some_iff.mp H
   obtain ⟨t339,A70,H⟩:=H
   have A7:=Aside0.mk A70
   clear A70
   replace H:=Option.bind_eq_some_iff.mp H
   obtain ⟨t342,A80,H⟩:=H
   have A8:=Aside0.mk A80
   clear A80
   replace H:=Option.bind_eq_some_iff.mp H
   obtain ⟨t345,A90,H⟩:=H
   have A9:=Aside0.mk A90
   clear A90
   obtain rfl:=Option.some.inj H
   go_enter Try.func18,Try.ntmps18
   go_wp2_with (first|((with_reducible refine gate_callee (f:=34) rfl ?_);refine goesL_ (some 6) rfl rfl Try.func34 (by kernel_rfl) rfl #[.slice A0 l0.length c0] rfl (by (try simp only [List.map_toArray,List.map_cons,List.map_nil]);first|done|rfl) ?_;(with_reducible refine (spec_PolygonOk.calls k _ _ l0 true _ ?side1 ?side2 A3.out).mono ?_);(case side1=>repeat (first|exact HR0.out|(with_reducible refine Kd.C_alloc ?_ _)|(with_reducible refine Kd.C_drewN ?_ _)|(with_reducible refine Kd.C_drew ?_)));(case side2=>exact HC0.out);rintro e w10 ⟨rfl,hb⟩;refine ⟨_,rfl,?_⟩;replace HB:=Aside0.mk (below_step (by repeat (with_reducible first|exact HB.out|apply bA|apply bN|apply bD)) hb);(try clear hb))|(go_at_call 34;(with_reducible refine (spec_PolygonOk.calls k _ _ l1 true _ ?side1 ?side2 A5.out).mono ?_);(case side1=>repeat (first|exact (Kd.C_below HR1.out HB.out)|(with_reducible refine Kd.C_alloc ?_ _)|(with_reducible refine Kd.C_drewN ?_ _)|(with_reducible refine Kd.C_drew ?_)));(case side2=>exact HC1.out);rintro e w11 ⟨rfl,hb⟩;replace HB:=Aside0.mk (below_step (by repeat (with_reducible first|exact HB.out|apply bA|apply bN|apply bD)) hb);(try clear hb))|(go_at_call 35;(with_reducible refine (spec_l07All.calls k (fun k_=>k_ < w.heap.size) _ _ l0 t339 _ ?side1 A7.out).mono ?_);(case side1=>exact Kd.V_mk HC0.out (Kd.F_below (Kd.C_F k40_heap HR0.out) (by repeat (with_reducible first|exact HB.out|apply bA|apply bN|apply bD))));rintro e w12 ⟨v340,rfl,ho0,hb⟩;have n0_:=Aside0.mk (Kd.N_lower (Kd.N_mono (ok':=fun k_=>True) ho0 (fun k_ hk_=>trivial)) (below_size (by repeat (with_reducible first|exact HB.out|apply bA|apply bN|apply bD))));have n1_:=Aside0.mk (below_step (by repeat (with_reducible first|exact HB.out|apply bA|apply bN|apply bD)) hb);clear HB;have HO341:=n0_;have HB:=n1_;clear n0_ n1_;(try clear hb);(try clear ho0))|(go_at_call 35;(with_reducible refine (spec_l07All.calls k (fun k_=>k_ < w.heap.size) _ _ l1 t342 _ ?side1 A8.out).mono ?_);(case side1=>exact Kd.V_mk HC1.out (Kd.F_below (Kd.C_F k40_heap HR1.out) (by repeat (with_reducible first|exact HB.out|apply bA|apply bN|apply bD))));rintro e w13 ⟨v343,rfl,ho0,hb⟩;have n0_:=Aside0.mk (Kd.N_elder' (by (with_reducible repeat (first|apply nA|apply nN|apply nD));exact HO341.out) (Kd.N_base ho0) hb);have n1_:=Aside0.mk (Kd.N_lower (Kd.N_mono (ok':=fun k_=>some k_≠(v340:Value).ownBlock) ho0 (fun k_ hk_=>Or.elim hk_ (fun hs_=>fun e_=>Nat.not_le.2 hs_ (Kd.N_base HO341.out k_ e_.symm)) (fun hn_=>(Kd.fresh' (Kd.N_lt (by (with_reducible repeat (first|apply nA|apply nN|apply nD));exact HO341.out)) k_ hn_)))) (below_size (by repeat (with_reducible first|exact HB.out|apply bA|apply bN|apply bD))));have n2_:=Aside0.mk (below_step (by repeat (with_reducible first|exact HB.out|apply bA|apply bN|apply bD)) hb);clear HO341;clear HB;have HO341:=n0_;have HO344:=n1_;have HB:=n2_;clear n0_ n1_ n2_;(try clear hb);(try clear ho0);obtain ⟨Ao14,co14,eo14⟩:=Kd.N_slice HO341.out;subst eo14;obtain ⟨Ao15,co15,eo15⟩:=Kd.N_slice HO344.out;subst eo15)|(go_at_call 41;(with_reducible refine (spec_l07Same.calls k _ _ t339 _ _ t342 t345 _ ?side1 ?side2 ?side3 ?side4 A9.out).mono ?_);(case side1=>repeat (first|exact (Kd.N_reads' HO341.out).2.2|(with_reducible refine Kd.C_alloc ?_ _)|(with_reducible refine Kd.C_drewN ?_ _)|(with_reducible refine Kd.C_drew ?_)));(case side2=>exact (Kd.N_reads' HO341.out).2.1);(case side3=>repeat (first|exact (Kd.N_reads' HO344.out).2.2|(with_reducible refine Kd.C_alloc ?_ _)|(with_reducible refine Kd.C_drewN ?_ _)|(with_reducible refine Kd.C_drew ?_)));(case side4=>exact (Kd.N_reads' HO344.out).2.1);rintro e w' ⟨rfl,⟨nd,rfl⟩⟩))
   go_ret
   exact ⟨by first|rfl|(simp [errW_none,errW_some] <;> rfl)|(simp [*,errW_none,errW_some] <;> rfl),by repeat (with_reducible first|exact HB.out|apply bA|apply bN|apply bD)⟩
  ·replace c6:=Bool.eq_false_iff.mpr c6
   subst c6
   rw [if_neg (show ¬ (false=true) by decide)] at H
   obtain rfl:=Option.some.inj H
   go_enter Try.func18,Try.ntmps18
   go_wp2_with (first|((with_reducible refine gate_callee (f:=34) rfl ?_);refine goesL_ (some 6) rfl rfl Try.func34 (by kernel_rfl) rfl #[.slice A0 l0.length c0] rfl (by (try simp only [List.map_toArray,List.map_cons,List.map_nil]);first|done|rfl) ?_;(with_reducible refine (spec_PolygonOk.calls k _ _ l0 true _ ?side1 ?side2 A3.out).mono ?_);(case side1=>repeat (first|exact HR0.out|(with_reducible refine Kd.C_alloc ?_ _)|(with_reducible refine Kd.C_drewN ?_ _)|(with_reducible refine Kd.C_drew ?_)));(case side2=>exact HC0.out);rintro e w16 ⟨rfl,hb⟩;refine ⟨_,rfl,?_⟩;replace HB:=Aside0.mk (below_step (by repeat (with_reducible first|exact HB.out|apply bA|apply bN|apply bD)) hb);(try clear hb))|(go_at_call 34;(with_reducible refine (spec_PolygonOk.calls k _ _ l1 false _ ?side1 ?side2 A5.out).mono ?_);(case side1=>repeat (first|exact (Kd.C_below HR1.out HB.out)|(with_reducible refine Kd.C_alloc ?_ _)|(with_reducible refine Kd.C_drewN ?_ _)|(with_reducible refine Kd.C_drew ?_)));(case side2=>exact HC1.out);rintro e w17 ⟨rfl,hb⟩;replace HB:=Aside0.mk (below_step (by repeat (with_reducible first|exact HB.out|apply bA|apply bN|apply bD)) hb);(try clear hb)))
   go_ret
   exact ⟨by first|rfl|(simp [errW_none,errW_some] <;> rfl)|(simp [*,errW_none,errW_some] <;> rfl),by repeat (with_reducible first|exact HB.out|apply bA|apply bN|apply bD)⟩
 ·replace c4:=Bool.eq_false_iff.mpr c4
  subst c4
  rw [if_neg (show ¬ (false=true) by decide)] at H
  obtain rfl:=Option.some.inj H
  go_enter Try.func18,Try.ntmps18
  go_wp2_with (first|((with_reducible refine gate_callee (f:=34) rfl ?_);refine goesL_ (some 6) rfl rfl Try.func34 (by kernel_rfl) rfl #[.slice A0 l0.length c0] rfl (by (try simp only [List.map_toArray,List.map_cons,List.map_nil]);first|done|rfl) ?_;(with_reducible refine (spec_PolygonOk.calls k _ _ l0 false _ ?side1 ?side2 A3.out).mono ?_);(case side1=>repeat (first|exact HR0.out|(with_reducible refine Kd.C_alloc ?_ _)|(with_reducible refine Kd.C_drewN ?_ _)|(with_reducible refine Kd.C_drew ?_)));(case side2=>exact HC0.out);rintro e w18 ⟨rfl,hb⟩;refine ⟨_,rfl,?_⟩;replace HB:=Aside0.mk (below_step (by repeat (with_reducible first|exact HB.out|apply bA|apply bN|apply bD)) hb);(try clear hb)))
  go_ret
  exact ⟨by first|rfl|(simp [errW_none,errW_some] <;> rfl)|(simp [*,errW_none,errW_some] <;> rfl),by repeat (with_reducible first|exact HB.out|apply bA|apply bN|apply bD)⟩
def spec_l04Mag.f (a0:Int):Option (Int):=some (mx a0 (wrap64 (-a0)))
theorem spec_l04Mag.calls (a0:Int) (r:Int) (w:World) (h:spec_l04Mag.f a0=some r) :
 Calls Try.prog 43 #[.int .i64 a0] w fun e w'=>e=.returned (.int .i64 r)∧Below w.heap.size w w':=by
 have HB:=Aside0.mk (Below.refl w.heap.size w)
 have H:(some (mx a0 (wrap64 (-a0))))=some r:=h
 clear h
 obtain ⟨ji2,hji2⟩ : ∃ j_:Int,(mx a0 (wrap64 (-a0)))=j_:=⟨_,rfl⟩
 replace H:(some ji2)=some r:=by first|(rw [hji2] at H;exact H)|(simp only [hji2] at H ⊢;exact H)
 have hji2_:(if a0 < (wrap64 (-a0)) then (wrap64 (-a0)) else a0)=ji2:=hji2
 obtain rfl:=Option.some.inj H
 go_enter Try.func43,Try.ntmps43
 go_wp2
 go_ret
 exact ⟨by first|rfl|(simp [errW_none,errW_some] <;> rfl)|(simp only [← hji2];first|rfl|(simp [errW_none,errW_some] <;> rfl))|(simp [*,errW_none,errW_some] <;> rfl),by repeat (with_reducible first|exact HB.out|apply bA|apply bN|apply bD)⟩
def spec_CanExchange.f (k:Nat) (l0:List (S40)) (l1:List (S40)):Option (Bool):=(spec_SameMeasures.f k l0 l1).bind fun t346=>(if t346=true then ((spec_l03Twice.f k l0).bind fun t347=>((spec_l04Mag.f t347).bind fun t348=>((spec_l03Twice.f k l1).bind fun t349=>((spec_l04Mag.f t349).bind fun t350=>(some (t348 == t350)))))) else (some false))
theorem spec_CanExchange.mono:∀ a0 a1 k,LeO (spec_CanExchange.f k a0 a1) (spec_CanExchange.f (k+1) a0 a1):=by
 intro a0 a1 k
 unfold spec_CanExchange.f
 repeat' first
  | (with_reducible exact LeO.refl _)
  | exact spec_SameMeasures.mono _ _ _
  | exact spec_l03Twice.mono _ _
  | exact LeO.none _
  | refine LeO.ite ?_ ?_
  | refine LeO.bind ?_ (fun _=>?_)
theorem spec_CanExchange.calls (k:Nat) (A0:Option Addr) (c0:Nat) (l0:List (S40)) (A1:Option Addr) (c1:Nat) (l1:List (S40)) (r:Bool) (w:World) (hr0:Kd.C k40 w A0 l0.length l0) (hc0:l0.length≤c0) (hr1:Kd.C k40 w A1 l1.length l1) (hc1:l1.length≤c1) (h:spec_CanExchange.f k l0 l1=some r) :
 Calls Try.prog 20 #[.slice A0 l0.length c0,.slice A1 l1.length c1] w fun e w'=>e=.returned (.bool r)∧Below w.heap.size w w':=by
 have HR0:=Aside0.mk hr0
 have HC0:=Aside0.mk hc0
 clear hr0 hc0
 have HR1:=Aside0.mk hr1
 have HC1:=Aside0.mk hc1
 clear hr1 hc1
 have HB:=Aside0.mk (Below.refl w.heap.size w)
 have H:((spec_SameMeasures.f k l0 l1).bind fun t346=>(if t346=true then ((spec_l03Twice.f k l0).bind fun t347=>((spec_l04Mag.f t347).bind fun t348=>((spec_l03Twice.f k l1).bind fun t349=>((spec_l04Mag.f t349).bind fun t350=>(some (t348 == t350)))))) else (some false)))=some r:=h
 clear h
 replace H:=Option.bind_eq_some_iff.mp H
 obtain ⟨t346,A30,H⟩:=H
 have A3:=Aside0.mk A30
 clear A30
 by_cases c4:t346=true
 ·subst c4
  rw [if_pos rfl] at H
  replace H:=Option.bind_eq_some_iff.mp H
  obtain ⟨t347,A50,H⟩:=H
  have A5:=Aside0.mk A50
  clear A50
  replace H:=Option.bind_eq_some_iff.mp H
  obtain ⟨t348,A60,H⟩:=H
  have A6:=Aside0.mk A60
  clear A60
  replace H:=Option.bind_eq_some_iff.mp H
  obtain ⟨t349,A70,H⟩:=H
  have A7:=Aside0.mk A70
  clear A70
  replace H:=Option.bind_eq_some_iff.mp H
  obtain ⟨t350,A80,H⟩:=H
  have A8:=Aside0.mk A80
  clear A80
  obtain rfl:=Option.some.inj H
  go_enter Try.func20,Try.ntmps20
  go_wp2_with (first|((with_reducible refine gate_callee (f:=18) rfl ?_);refine goesL_ (some 7) rfl rfl Try.func18 (by kernel_rfl) rfl #[.slice A0 l0.length c0,.slice A1 l1.length c1] rfl (by (try simp only [List.map_toArray,List.map_cons,List.map_nil]);first|done|rfl) ?_;(with_reducible refine (spec_SameMeasures.calls k _ _ l0 _ _ l1 true _ ?side1 ?side2 ?side3 ?side4 A3.out).mono ?_);(case side1=>repeat (first|exact HR0.out|(with_reducible refine Kd.C_alloc ?_ _)|(with_reducible refine Kd.C_drewN ?_ _)|(with_reducible refine Kd.C_drew ?_)));(case side2=>exact HC0.out);(case side3=>repeat (first|exact HR1.out|(with_reducible refine Kd.C_alloc ?_ _)|(with_reducible refine Kd.C_drewN ?_ _)|(with_reducible refine Kd.C_drew ?_)));(case side4=>exact HC1.out);rintro e w9 ⟨rfl,hb⟩;refine ⟨_,rfl,?_⟩;replace HB:=Aside0.mk (below_step (by repeat (with_reducible first|exact HB.out|apply bA|apply bN|apply bD)) hb);(try clear hb))|(go_at_call 44;(with_reducible refine (spec_l03Twice.calls k _ _ l0 t347 _ ?side1 ?side2 A5.out).mono ?_);(case side1=>repeat (first|exact (Kd.C_below HR0.out HB.out)|(with_reducible refine Kd.C_alloc ?_ _)|(with_reducible refine Kd.C_drewN ?_ _)|(with_reducible refine Kd.C_drew ?_)));(case side2=>exact HC0.out);rintro e w10 ⟨rfl,hb⟩;replace HB:=Aside0.mk (below_step (by repeat (with_reducible first|exact HB.out|apply bA|apply bN|apply bD)) hb);(try clear hb))|(go_at_call 43;(with_reducible refine (spec_l04Mag.calls t347 t348 _ A6.out).mono ?_);rintro e w11 ⟨rfl,hb⟩;replace HB:=Aside0.mk (below_step (by repeat (with_reducible first|exact HB.out|apply bA|apply bN|apply bD)) hb);(try clear hb))|(go_at_call 44;(with_reducible refine (spec_l03Twice.calls k _ _ l1 t349 _ ?side1 ?side2 A7.out).mono ?_);(case side1=>repeat (first|exact (Kd.C_below HR1.out HB.out)|(with_reducible refine Kd.C_alloc ?_ _)|(with_reducible refine Kd.C_drewN ?_ _)|(with_reducible refine Kd.C_drew ?_)));(case side2=>exact HC1.out);rintro e w12 ⟨rfl,hb⟩;replace HB:=Aside0.mk (below_step (by repeat (with_reducible first|exact HB.out|apply bA|apply bN|apply bD)) hb);(try clear hb))|(go_at_call 43;(with_reducible refine (spec_l04Mag.calls t349 t350 _ A8.out).mono ?_);rintro e w13 ⟨rfl,hb⟩;replace HB:=Aside0.mk (below_step (by repeat (with_reducible first|exact HB.out|apply bA|apply bN|apply bD)) hb);(try clear hb)))
  go_ret
  exact ⟨by first|rfl|(simp [errW_none,errW_some] <;> rfl)|(simp [*,errW_none,errW_some] <;> rfl),by repeat (with_reducible first|exact HB.out|apply bA|apply bN|apply bD)⟩
 ·replace c4:=Bool.eq_false_iff.mpr c4
  subst c4
  rw [if_neg (show ¬ (false=true) by decide)] at H
  obtain rfl:=Option.some.inj H
  go_enter Try.func20,Try.ntmps20
  go_wp2_with (first|((with_reducible refine gate_callee (f:=18) rfl ?_);refine goesL_ (some 7) rfl rfl Try.func18 (by kernel_rfl) rfl #[.slice A0 l0.length c0,.slice A1 l1.length c1] rfl (by (try simp only [List.map_toArray,List.map_cons,List.map_nil]);first|done|rfl) ?_;(with_reducible refine (spec_SameMeasures.calls k _ _ l0 _ _ l1 false _ ?side1 ?side2 ?side3 ?side4 A3.out).mono ?_);(case side1=>repeat (first|exact HR0.out|(with_reducible refine Kd.C_alloc ?_ _)|(with_reducible refine Kd.C_drewN ?_ _)|(with_reducible refine Kd.C_drew ?_)));(case side2=>exact HC0.out);(case side3=>repeat (first|exact HR1.out|(with_reducible refine Kd.C_alloc ?_ _)|(with_reducible refine Kd.C_drewN ?_ _)|(with_reducible refine Kd.C_drew ?_)));(case side4=>exact HC1.out);rintro e w14 ⟨rfl,hb⟩;refine ⟨_,rfl,?_⟩;replace HB:=Aside0.mk (below_step (by repeat (with_reducible first|exact HB.out|apply bA|apply bN|apply bD)) hb);(try clear hb)))
  go_ret
  exact ⟨by first|rfl|(simp [errW_none,errW_some] <;> rfl)|(simp [*,errW_none,errW_some] <;> rfl),by repeat (with_reducible first|exact HB.out|apply bA|apply bN|apply bD)⟩
def impl_within.f (a0:Int) (a1:Int) (a2:Int):Option (Bool):=if a0 ≥ a1 then (some (decide (a0≤a2))) else (some false)
theorem impl_within.calls (a0:Int) (a1:Int) (a2:Int) (r:Bool) (w:World) (h:impl_within.f a0 a1 a2=some r) :
 Calls Try.prog 59 #[.int .i64 a0,.int .i64 a1,.int .i64 a2] w fun e w'=>e=.returned (.bool r)∧Drawn0 w w':=by
 have H:(if a0 ≥ a1 then (some (decide (a0≤a2))) else (some false))=some r:=h
 clear h
 by_cases c4:a0 ≥ a1
 ·rw [if_pos c4] at H
  have c4b0:decide (a1≤a0)=true:=decide_eq_true c4
  clear c4
  obtain rfl:=Option.some.inj H
  go_enter Try.func59,Try.ntmps59
  go_wp2
  go_ret
  exact ⟨by first|rfl|(simp;done)|(simp [*];done),by repeat (first|exact Drawn0.refl _|apply Drawn0.step)⟩
 ·rw [if_neg c4] at H
  have c4b0:decide (a1≤a0)=false:=decide_eq_false c4
  clear c4
  obtain rfl:=Option.some.inj H
  go_enter Try.func59,Try.ntmps59
  go_wp2
  go_ret
  exact ⟨by first|rfl|(simp;done)|(simp [*];done),by repeat (first|exact Drawn0.refl _|apply Drawn0.step)⟩
def impl_PointOk.f (a0_0:Int) (a0_1:Int):Option (Bool):=(impl_within.f a0_0 0 40).bind fun t233=>(if t233=true then ((impl_within.f a0_1 0 40).bind fun t234=>(some t234)) else (some false))
theorem impl_PointOk.calls (a0_0:Int) (a0_1:Int) (r:Bool) (w:World) (h:impl_PointOk.f a0_0 a0_1=some r) :
 Calls Try.prog 83 #[.agg #[.int .i64 a0_0,.int .i64 a0_1]] w fun e w'=>e=.returned (.bool r)∧Below w.heap.size w w':=by
 have hu40:=Try.underlying40
 have HB:=Aside0.mk (Below.refl w.heap.size w)
 have H:((impl_within.f a0_0 0 40).bind fun t233=>(if t233=true then ((impl_within.f a0_1 0 40).bind fun t234=>(some t234)) else (some false)))=some r:=h
 clear h
 replace H:=Option.bind_eq_some_iff.mp H
 obtain ⟨t233,A20,H⟩:=H
 have A2:=Aside0.mk A20
 clear A20
 by_cases c3:t233=true
 ·subst c3
  rw [if_pos rfl] at H
  replace H:=Option.bind_eq_some_iff.mp H
  obtain ⟨t234,A40,H⟩:=H
  have A4:=Aside0.mk A40
  clear A40
  obtain rfl:=Option.some.inj H
  go_enter Try.func83,Try.ntmps83
  go_wp2_with (first|((with_reducible refine gate_dst (N:=1) rfl ?_);refine bE 1 #[.int .i64 a0_0,.int .i64 a0_1] 40 ?_;intro gb232 hg w5 hbox hb;have n0_:=Aside0.mk (below_step (by repeat (with_reducible first|exact HB.out|apply bA|apply bN|apply bD)) hb);have n1_:=Aside0.mk (hbox);have n2_:=Aside0.mk ((by rw [hg];exact (below_size (by repeat (with_reducible first|exact HB.out|apply bA|apply bN|apply bD))):w.heap.size≤gb232));have n3_:=Aside0.mk ((by rw [hg];exact (below_size (by repeat (with_reducible first|exact HB.out|apply bA|apply bN|apply bD))):w.heap.size≤gb232));clear HB;have HB:=n0_;have BK232:=n1_;have GW232:=n2_;have GE232:=n3_;clear n0_ n1_ n2_ n3_;clear hb hbox hg;have hcz6_0:w5.cell? ⟨gb232,0,none⟩=some (.int .i64 a0_0):=(blk_cell BK232.out 0).trans rfl;have hcz6_1:w5.cell? ⟨gb232,1,none⟩=some (.int .i64 a0_1):=(blk_cell BK232.out 1).trans rfl;have hfz6_0:=blk_frozen BK232.out 0;have hfz6_1:=blk_frozen BK232.out 1)|((with_reducible refine gate_callee (f:=59) rfl ?_);refine goesL_ (some 5) rfl rfl Try.func59 (by kernel_rfl) rfl #[.int .i64 a0_0,.int .i64 0,.int .i64 40] rfl (by (try simp only [List.map_toArray,List.map_cons,List.map_nil]);first|done|rfl) ?_;(with_reducible refine (impl_within.calls a0_0 0 40 true _ A2.out).mono ?_);rintro e w' ⟨rfl,⟨nd,rfl⟩⟩;refine ⟨_,rfl,?_⟩)|(go_at_call 59;(with_reducible refine (impl_within.calls a0_1 0 40 t234 _ A4.out).mono ?_);rintro e w' ⟨rfl,⟨nd,rfl⟩⟩))
  go_ret
  exact ⟨by first|rfl|(simp [errW_none,errW_some] <;> rfl)|(simp [*,errW_none,errW_some] <;> rfl),by repeat (first|(with_reducible first|exact HB.out|apply bA|apply bN|apply bD|refine bS ?_ GE232.out)|exact HB.out)⟩
 ·replace c3:=Bool.eq_false_iff.mpr c3
  subst c3
  rw [if_neg (show ¬ (false=true) by decide)] at H
  obtain rfl:=Option.some.inj H
  go_enter Try.func83,Try.ntmps83
  go_wp2_with (first|((with_reducible refine gate_dst (N:=1) rfl ?_);refine bE 1 #[.int .i64 a0_0,.int .i64 a0_1] 40 ?_;intro gb232 hg w7 hbox hb;have n0_:=Aside0.mk (below_step (by repeat (with_reducible first|exact HB.out|apply bA|apply bN|apply bD)) hb);have n1_:=Aside0.mk (hbox);have n2_:=Aside0.mk ((by rw [hg];exact (below_size (by repeat (with_reducible first|exact HB.out|apply bA|apply bN|apply bD))):w.heap.size≤gb232));have n3_:=Aside0.mk ((by rw [hg];exact (below_size (by repeat (with_reducible first|exact HB.out|apply bA|apply bN|apply bD))):w.heap.size≤gb232));clear HB;have HB:=n0_;have BK232:=n1_;have GW232:=n2_;have GE232:=n3_;clear n0_ n1_ n2_ n3_;clear hb hbox hg;have hcz8_0:w7.cell? ⟨gb232,0,none⟩=some (.int .i64 a0_0):=(blk_cell BK232.out 0).trans rfl;have hcz8_1:w7.cell? ⟨gb232,1,none⟩=some (.int .i64 a0_1):=(blk_cell BK232.out 1).trans rfl;have hfz8_0:=blk_frozen BK232.out 0;have hfz8_1:=blk_frozen BK232.out 1)|((with_reducible refine gate_callee (f:=59) rfl ?_);refine goesL_ (some 5) rfl rfl Try.func59 (by kernel_rfl) rfl #[.int .i64 a0_0,.int .i64 0,.int .i64 40] rfl (by (try simp only [List.map_toArray,List.map_cons,List.map_nil]);first|done|rfl) ?_;(with_reducible refine (impl_within.calls a0_0 0 40 false _ A2.out).mono ?_);rintro e w' ⟨rfl,⟨nd,rfl⟩⟩;refine ⟨_,rfl,?_⟩))
  go_ret
  exact ⟨by first|rfl|(simp [errW_none,errW_some] <;> rfl)|(simp [*,errW_none,errW_some] <;> rfl),by repeat (first|(with_reducible first|exact HB.out|apply bA|apply bN|apply bD|refine bS ?_ GE232.out)|exact HB.out)⟩
def impl_arePoints.l0:Nat→List (S40)→Int→Int→Option (Bool)
 | 0,_,_,_=>none
 | k+1,x5,x6,x7=>if x7 < x6 then (if 0≤x7 then (if x7 < (x5.length:Int) then ((impl_PointOk.f ((rd_T40 x5 x7).f0) ((rd_T40 x5 x7).f1)).bind fun t237=>(if t237=true then (impl_arePoints.l0 k x5 x6 (wrap64 (x7+1))) else (some false))) else (none)) else (none)) else (some true)
def impl_arePoints.f (k:Nat) (l0:List (S40)):Option (Bool):=impl_arePoints.l0 k l0 (l0.length:Int) 0
theorem impl_arePoints.mono_l:∀ k,(∀ y0 y1 y2,LeO (impl_arePoints.l0 k y0 y1 y2) (impl_arePoints.l0 (k+1) y0 y1 y2))
 | 0=>fun _ _ _ r h=>by simp [impl_arePoints.l0] at h
 | k+1=>by
  have ih0:=impl_arePoints.mono_l k
  ·intro y0 y1 y2
   unfold impl_arePoints.l0
   repeat' first
   | (with_reducible exact LeO.refl _)
   | exact ih0 _ _ _
   | exact LeO.none _
   | refine LeO.ite ?_ ?_
   | refine LeO.bind ?_ (fun _=>?_)
theorem impl_arePoints.mono:∀ a0 k,LeO (impl_arePoints.f k a0) (impl_arePoints.f (k+1) a0):=by
 intro a0 k
 have ih0:=impl_arePoints.mono_l k
 unfold impl_arePoints.f
 repeat' first
  | (with_reducible exact LeO.refl _)
  | exact ih0 _ _ _
  | exact LeO.none _
  | refine LeO.ite ?_ ?_
  | refine LeO.bind ?_ (fun _=>?_)
theorem impl_arePoints.calls (k:Nat) (A0:Option Addr) (c0:Nat) (l0:List (S40)) (r:Bool) (w:World) (hr0:Kd.C k40 w A0 l0.length l0) (hc0:l0.length≤c0) (h:impl_arePoints.f k l0=some r) :
 Calls Try.prog 67 #[.slice A0 l0.length c0] w fun e w'=>e=.returned (.bool r)∧Below w.heap.size w w':=by
 have hu40:=Try.underlying40
 have HR0:=Aside0.mk hr0
 have HC0:=Aside0.mk hc0
 clear hr0 hc0
 have HB:=Aside0.mk (Below.refl w.heap.size w)
 have H:(impl_arePoints.l0 k l0 (l0.length:Int) 0)=some r:=h
 clear h
 have H':=Aside0.mk H
 clear H
 go_enter Try.func67,Try.ntmps67
 go_wp2
 go_loopg [7] k (fun kq v7 w'=>∃ (x7_1:Int),v7=.int .i64 x7_1∧Aside0 (impl_arePoints.l0 kq l0 (l0.length:Int) x7_1=some r)∧Aside0 (kq≤k)∧Aside0 (Below w.heap.size w w'))
 case atStart=>exact ⟨(0),(by first|rfl|(simp;done)|(simp [*];done)),H',⟨Nat.le_refl _⟩,⟨by repeat (with_reducible first|exact HB.out|apply bA|apply bN|apply bD)⟩⟩
 case round =>
  clear H'
  obtain ⟨x7_1,rfl,HA,HK1,HB⟩:=hrel
  rcases gk with _|k1
  ·exact absurd HA.out (by simp [impl_arePoints.l0])
  have H:=HA.out
  clear HA
  simp only [impl_arePoints.l0] at H
  by_cases c2:x7_1 < (l0.length:Int)
  ·rw [if_pos c2] at H
   have c2b0:decide (x7_1 < (l0.length:Int))=true:=decide_eq_true c2
   clear c2
   by_cases c3:0≤x7_1
   rotate_left;·rw [if_neg c3] at H;exact absurd H (by simp)
   rw [if_pos c3] at H
   have c3b0:decide (0≤x7_1)=true:=decide_eq_true c3
   clear c3
   by_cases c4:x7_1 < (l0.length:Int)
   rotate_left;·rw [if_neg c4] at H;exact absurd H (by simp)
   rw [if_pos c4] at H
   have c4b0:decide (x7_1 < (l0.length:Int))=true:=decide_eq_true c4
   clear c4
   replace H:=Option.bind_eq_some_iff.mp H
   obtain ⟨t237,A50,H⟩:=H
   have A5:=Aside0.mk A50
   clear A50
   by_cases c6:t237=true
   ·subst c6
    rw [if_pos rfl] at H
    have H':=Aside0.mk H
    clear H
    have p235:0≤(x7_1:Int):=of_decide_eq_true (by assumption)
    have q235:x7_1 < (l0.length:Int):=of_decide_eq_true (by assumption)
    obtain ⟨ad235,e235,hx235_0,hx235_1⟩:=at_T40 HR0.out x7_1 p235 q235
    cases e235
    replace hx235_0:=cK HB.out hx235_0
    replace hx235_1:=cK HB.out hx235_1
    replace p235:=eq_true p235
    replace q235:=eq_true q235
    go_wp2_with (first|((with_reducible refine gate_dst (N:=4) rfl ?_);refine bE 4 #[.int .i64 0,.int .i64 0] 40 ?_;intro gb236 hg w7 hbox hb;have n0_:=Aside0.mk (below_step (by repeat (with_reducible first|exact HB.out|apply bA|apply bN|apply bD)) hb);have n1_:=Aside0.mk (hbox);have n2_:=Aside0.mk ((by rw [hg];exact (below_size (by repeat (with_reducible first|exact HB.out|apply bA|apply bN|apply bD))):w.heap.size≤gb236));have n3_:=Aside0.mk ((by rw [hg];exact (below_size (by repeat (with_reducible first|exact HB.out|apply bA|apply bN|apply bD))):w.heap.size≤gb236));clear HB;have HB:=n0_;have BK236:=n1_;have GW236:=n2_;have GE236:=n3_;clear n0_ n1_ n2_ n3_;clear hb hbox hg;have hcz8_0:w7.cell? ⟨gb236,0,none⟩=some (.int .i64 0):=(blk_cell BK236.out 0).trans rfl;have hcz8_1:w7.cell? ⟨gb236,1,none⟩=some (.int .i64 0):=(blk_cell BK236.out 1).trans rfl;have hfz8_0:=blk_frozen BK236.out 0;have hfz8_1:=blk_frozen BK236.out 1)|((with_reducible refine gate_callee (f:=83) rfl ?_);refine goesL_ (some 12) rfl rfl Try.func83 (by kernel_rfl) rfl #[.agg #[.int .i64 ((rd_T40 l0 x7_1).f0),.int .i64 ((rd_T40 l0 x7_1).f1)]] rfl (by (try simp only [List.map_toArray,List.map_cons,List.map_nil]);first|done|rfl) ?_;(with_reducible refine (impl_PointOk.calls ((rd_T40 l0 x7_1).f0) ((rd_T40 l0 x7_1).f1) true _ A5.out).mono ?_);rintro e w9 ⟨rfl,hb⟩;refine ⟨_,rfl,?_⟩;have n0_:=Aside0.mk (blk_below (g:=gb236) (o:=.cells #[.int .i64 ((rd_T40 l0 x7_1).f0),.int .i64 ((rd_T40 l0 x7_1).f1)] 40 (0,0)) (by (with_reducible repeat (first|refine kN ?_ _|refine kD ?_|refine kA ?_ _));refine blk_put (cs:=#[.int .i64 ((rd_T40 l0 x7_1).f0),.int .i64 0]) ?_ 1 _ rfl;(with_reducible repeat (first|refine kN ?_ _|refine kD ?_|refine kA ?_ _));refine blk_put (cs:=#[.int .i64 0,.int .i64 0]) ?_ 0 _ rfl;(with_reducible repeat (first|refine kN ?_ _|refine kD ?_|refine kA ?_ _));exact BK236.out) hb);have n1_:=Aside0.mk (below_step (by repeat (first|(with_reducible first|exact HB.out|apply bA|apply bN|apply bD|refine bS ?_ GE236.out)|exact HB.out)) hb);clear BK236;clear HB;have BK236:=n0_;have HB:=n1_;clear n0_ n1_;(try clear hb)))
    go_roundg k1
    case measure=>have:=HK1.out;omega
    case rel=>exact ⟨(wrap64 (x7_1+1)),(by first|rfl|(simp;done)|(simp [*];done)),H',⟨by have:=HK1.out;omega⟩,⟨by repeat (first|(with_reducible first|exact HB.out|apply bA|apply bN|apply bD|refine bS ?_ GE236.out)|exact HB.out)⟩⟩
   ·replace c6:=Bool.eq_false_iff.mpr c6
    subst c6
    rw [if_neg (show ¬ (false=true) by decide)] at H
    obtain rfl:=Option.some.inj H
    have p235:0≤(x7_1:Int):=of_decide_eq_true (by assumption)
    have q235:x7_1 < (l0.length:Int):=of_decide_eq_true (by assumption)
    obtain ⟨ad235,e235,hx235_0,hx235_1⟩:=at_T40 HR0.out x7_1 p235 q235
    cases e235
    replace hx235_0:=cK HB.out hx235_0
    replace hx235_1:=cK HB.out hx235_1
    replace p235:=eq_true p235
    replace q235:=eq_true q235
    go_wp2_with (first|((with_reducible refine gate_dst (N:=4) rfl ?_);refine bE 4 #[.int .i64 0,.int .i64 0] 40 ?_;intro gb236 hg w10 hbox hb;have n0_:=Aside0.mk (below_step (by repeat (with_reducible first|exact HB.out|apply bA|apply bN|apply bD)) hb);have n1_:=Aside0.mk (hbox);have n2_:=Aside0.mk ((by rw [hg];exact (below_size (by repeat (with_reducible first|exact HB.out|apply bA|apply bN|apply bD))):w.heap.size≤gb236));have n3_:=Aside0.mk ((by rw [hg];exact (below_size (by repeat (with_reducible first|exact HB.out|apply bA|apply bN|apply bD))):w.heap.size≤gb236));clear HB;have HB:=n0_;have BK236:=n1_;have GW236:=n2_;have GE236:=n3_;clear n0_ n1_ n2_ n3_;clear hb hbox hg;have hcz11_0:w10.cell? ⟨gb236,0,none⟩=some (.int .i64 0):=(blk_cell BK236.out 0).trans rfl;have hcz11_1:w10.cell? ⟨gb236,1,none⟩=some (.int .i64 0):=(blk_cell BK236.out 1).trans rfl;have hfz11_0:=blk_frozen BK236.out 0;have hfz11_1:=blk_frozen BK236.out 1)|((with_reducible refine gate_callee (f:=83) rfl ?_);refine goesL_ (some 12) rfl rfl Try.func83 (by kernel_rfl) rfl #[.agg #[.int .i64 ((rd_T40 l0 x7_1).f0),.int .i64 ((rd_T40 l0 x7_1).f1)]] rfl (by (try simp only [List.map_toArray,List.map_cons,List.map_nil]);first|done|rfl) ?_;(with_reducible refine (impl_PointOk.calls ((rd_T40 l0 x7_1).f0) ((rd_T40 l0 x7_1).f1) false _ A5.out).mono ?_);rintro e w12 ⟨rfl,hb⟩;refine ⟨_,rfl,?_⟩;have n0_:=Aside0.mk (blk_below (g:=gb236) (o:=.cells #[.int .i64 ((rd_T40 l0 x7_1).f0),.int .i64 ((rd_T40 l0 x7_1).f1)] 40 (0,0)) (by (with_reducible repeat (first|refine kN ?_ _|refine kD ?_|refine kA ?_ _));refine blk_put (cs:=#[.int .i64 ((rd_T40 l0 x7_1).f0),.int .i64 0]) ?_ 1 _ rfl;(with_reducible repeat (first|refine kN ?_ _|refine kD ?_|refine kA ?_ _));refine blk_put (cs:=#[.int .i64 0,.int .i64 0]) ?_ 0 _ rfl;(with_reducible repeat (first|refine kN ?_ _|refine kD ?_|refine kA ?_ _));exact BK236.out) hb);have n1_:=Aside0.mk (below_step (by repeat (first|(with_reducible first|exact HB.out|apply bA|apply bN|apply bD|refine bS ?_ GE236.out)|exact HB.out)) hb);clear BK236;clear HB;have BK236:=n0_;have HB:=n1_;clear n0_ n1_;(try clear hb)))
    go_ret
    exact ⟨by first|rfl|(simp [errW_none,errW_some] <;> rfl)|(simp [*,errW_none,errW_some] <;> rfl),by repeat (first|(with_reducible first|exact HB.out|apply bA|apply bN|apply bD|refine bS ?_ GE236.out)|exact HB.out)⟩
  ·rw [if_neg c2] at H
   have c2b0:decide (x7_1 < (l0.length:Int))=false:=decide_eq_false c2
   clear c2
   obtain rfl:=Option.some.inj H
   go_wp2
   go_ret
   exact ⟨by first|rfl|(simp [errW_none,errW_some] <;> rfl)|(simp [*,errW_none,errW_some] <;> rfl),by repeat (with_reducible first|exact HB.out|apply bA|apply bN|apply bD)⟩
end Go.Proofs.Ytadenfniiihifaa.QFnExactCanExchange
