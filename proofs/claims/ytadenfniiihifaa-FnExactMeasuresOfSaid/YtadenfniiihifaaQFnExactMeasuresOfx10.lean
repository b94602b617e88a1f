/- What each Go function of this text answers, as a plain function, and that the machine comes to just that answer. -/
import Derived.Test.YtadenfniiihifaaQFnExactMeasuresOfx0
import Derived.Test.YtadenfniiihifaaQFnExactMeasuresOfx8
import Derived.Test.YtadenfniiihifaaQFnExactMeasuresOfx9
namespace Go.Proofs.Ytadenfniiihifaa.QFnExactMeasuresOf
open Go.RowKit Go.Proofs.YtadenfniiihifaaW.PrintWords Go.Proofs.YtadenfniiihifaaW.PrintLast Go.Proofs.YtadenfniiihifaaW.PrintMore
attribute [local go_sem] max2_int min2_int max_two min_two max_three min_three max_four min_four   -- for this text's walks alone
set_option linter.unusedVariables false
set_option linter.unusedSimpArgs false
def impl_PolygonOk.l1:Nat→List S40→Nat→Nat→Option Bool
 | 0,_,_,_=>none
 | q+1,l,i,k=>if k < l.length then (if ((rd_T40 l i).f0 == (rd_T40 l (i+1:Nat)).f0 && (rd_T40 l i).f1 == (rd_T40 l (i+1:Nat)).f1)=true then (some false) else (if ((rd_T40 l k).f0 == (rd_T40 l ((k+1) % l.length:Nat)).f0 && (rd_T40 l k).f1 == (rd_T40 l ((k+1) % l.length:Nat)).f1)=true then (some false) else ((impl_meet.f q (rd_T40 l i).f0 (rd_T40 l i).f1 (rd_T40 l (i+1:Nat)).f0 (rd_T40 l (i+1:Nat)).f1 (rd_T40 l k).f0 (rd_T40 l k).f1 (rd_T40 l ((k+1) % l.length:Nat)).f0 (rd_T40 l ((k+1) % l.length:Nat)).f1).bind fun m=>(if m=(if k=i+1∨(i=0∧k+1=l.length) then 1 else 0) then (impl_PolygonOk.l1 q l i (k+1)) else (some false))))) else (some true)
def impl_PolygonOk.l0:Nat→List S40→Nat→Option Bool
 | 0,_,_=>none
 | q+1,l,i=>if i < l.length then ((impl_PolygonOk.l1 q l i (i+1)).bind fun b=>(if b=true then (impl_PolygonOk.l0 q l (i+1)) else (some false))) else (some true)
def impl_PolygonOk.f (k:Nat) (l0:List S40):Option Bool:=if l0.length < 3 then (some false) else (if l0.length > 10 then (some false) else ((impl_arePoints.f k l0).bind fun b=>(if b=true then (impl_PolygonOk.l0 k l0 0) else (some false))))
theorem impl_PolygonOk.mono_1:∀ k,∀ l i j,LeO (impl_PolygonOk.l1 k l i j) (impl_PolygonOk.l1 (k+1) l i j)
 | 0=>fun _ _ _ r h=>by simp [impl_PolygonOk.l1] at h
 | k+1=>fun l i j=>by
  unfold impl_PolygonOk.l1
  exact LeO.ite (LeO.ite (LeO.refl _) (LeO.ite (LeO.refl _) (LeO.bind (impl_meet.mono _ _ _ _ _ _ _ _ _) (fun _=>LeO.ite (impl_PolygonOk.mono_1 k _ _ _) (LeO.refl _))))) (LeO.refl _)
theorem impl_PolygonOk.mono_0:∀ k,∀ l i,LeO (impl_PolygonOk.l0 k l i) (impl_PolygonOk.l0 (k+1) l i)
 | 0=>fun _ _ r h=>by simp [impl_PolygonOk.l0] at h
 | k+1=>fun l i=>by
  unfold impl_PolygonOk.l0
  exact LeO.ite (LeO.bind (impl_PolygonOk.mono_1 k _ _ _) (fun _=>LeO.ite (impl_PolygonOk.mono_0 k _ _) (LeO.refl _))) (LeO.refl _)
theorem impl_PolygonOk.mono:∀ a0 k,LeO (impl_PolygonOk.f k a0) (impl_PolygonOk.f (k+1) a0):=by
 intro a0 k
 unfold impl_PolygonOk.f
 exact LeO.ite (LeO.refl _) (LeO.ite (LeO.refl _) (LeO.bind (impl_arePoints.mono _ _) (fun _=>LeO.ite (impl_PolygonOk.mono_0 k _ _) (LeO.refl _))))
theorem far2 {w W:World} {x:Addr} {v:Value} {g j:Nat} (hw:w.cell? x=some v) (hg:w.heap.size≤g) (u:Value):(W.setCell ⟨g,j,none⟩ u).cell? x=W.cell? x:=cell_far (p:=⟨g,j,none⟩) (Nat.ne_of_lt (Nat.lt_of_lt_of_le (World.block_lt_of_cell? _ _ hw) hg)) u
theorem blk_other {w:World} {g:Nat} {o:Obj} (h:w.heap[g]? = some o) {p:Addr} (hne:g≠p.block) (v:Value):(w.setCell p v).heap[g]? = some o:=(Below.heap_setCell _ _ _ _ hne).trans h
def impl_PolygonOk.T13:Bool × List (List Nat × List Nat):=(true,[([],[]),([],[]),([0,1],[0,1]),([2],[2]),([],[]),([],[]),([5],[5]),([4,6],[4,6]),([7],[7]),([],[]),([],[]),([9,10],[9,10]),([11],[11]),([],[]),([],[]),([14],[14]),([],[]),([15,16],[15,16]),([13,17],[13,17]),([18],[18]),([],[]),([],[]),([],[]),([],[]),([20,3,0,1,2,3,20,21,22,23],[3,20]),([21,8,24,0,1,2,3,4,5,6,7,8,20,21,22,23,24],[8,21]),([22,12,25,0,1,2,3,4,5,6,7,8,9,10,11,12,20,21,22,23,24,25],[12,22]),([23,19,26,0,1,2,3,4,5,6,7,8,9,10,11,12,13,14,15,16,17,18,19,20,21,22,23,24,25,26],[19,23])])
def impl_PolygonOk.B13:List Nat:=[0,0,3,7,0,0,32,112,240,0,0,1536,3584,0,0,16384,0,114688,253952,516096,0,0,0,0,15728655,32506367,66068479,134217727]
theorem impl_PolygonOk.tab13:rtab .any (opsOf Try.f36 13)=impl_PolygonOk.T13:=by kernel_rfl
theorem impl_PolygonOk.bits13:waitsOk impl_PolygonOk.T13.2 impl_PolygonOk.B13=true:=by kernel_rfl
set_option maxHeartbeats 8000000 in
set_option maxRecDepth 100000 in
theorem impl_PolygonOk.calls (k:Nat) (A0:Option Addr) (c0:Nat) (l0:List (S40)) (r:Bool) (w:World) (hr0:Kd.C k40 w A0 l0.length l0) (hc0:l0.length≤c0) (h:impl_PolygonOk.f k l0=some r) :
 Calls Try.prog 36 #[.slice A0 l0.length c0] w fun e w'=>e=.returned (.bool r)∧Below w.heap.size w w':=by
 have hu40:=Try.underlying40
 have HR0:=Aside0.mk hr0
 have HC0:=Aside0.mk hc0
 clear hr0 hc0
 have HB:=Aside0.mk (Below.refl w.heap.size w)
 unfold impl_PolygonOk.f at h
 by_cases c3:l0.length < 3
 ·rw [if_pos c3] at h
  obtain rfl:=Option.some.inj h
  have c3b0:decide ((l0.length:Int) < 3)=true:=decide_eq_true (by omega)
  have c3b1:decide (l0.length < 3)=true:=decide_eq_true c3
  clear h c3
  go_enter Try.func36,Try.ntmps36
  go_wp2
  go_ret
  exact ⟨by first|rfl|(simp;done)|(simp [*];done),(by repeat (with_reducible first|exact HB.out|apply bA|apply bN|apply bD))⟩
 ·rw [if_neg c3] at h
  have c3b0:decide ((l0.length:Int) < 3)=false:=decide_eq_false (by omega)
  have c3b1:decide (l0.length < 3)=false:=decide_eq_false c3
  by_cases c4:l0.length > 10
  ·rw [if_pos c4] at h
   obtain rfl:=Option.some.inj h
   have c4b0:decide (10 < (l0.length:Int))=true:=decide_eq_true (by omega)
   have c4b1:decide (10 < l0.length)=true:=decide_eq_true c4
   clear h c4 c3
   go_enter Try.func36,Try.ntmps36
   go_wp2
   go_ret
   exact ⟨by first|rfl|(simp;done)|(simp [*];done),(by repeat (with_reducible first|exact HB.out|apply bA|apply bN|apply bD))⟩
  ·rw [if_neg c4] at h
   have c4b0:decide (10 < (l0.length:Int))=false:=decide_eq_false (by omega)
   have c4b1:decide (10 < l0.length)=false:=decide_eq_false c4
   have HN:=Aside0.mk (show 3≤l0.length∧l0.length≤10 from ⟨by omega,by omega⟩)
   clear c3 c4
   obtain ⟨t,A5,h⟩:=Option.bind_eq_some_iff.mp h
   have HA5:=Aside0.mk A5
   clear A5
   cases t with
   | false =>
    rw [if_neg (by decide)] at h
    obtain rfl:=Option.some.inj h
    clear h
    go_enter Try.func36,Try.ntmps36
    go_wp2_with (first|(go_at_call 67;(with_reducible refine (impl_arePoints.calls k _ _ l0 false _ ?side1 ?side2 HA5.out).mono ?_);(case side1=>repeat (first|exact (Kd.C_below HR0.out HB.out)|(with_reducible refine Kd.C_alloc ?_ _)|(with_reducible refine Kd.C_drewN ?_ _)|(with_reducible refine Kd.C_drew ?_)));(case side2=>exact HC0.out);rintro e w6 ⟨rfl,hb⟩;have n0_:=Aside0.mk (below_step (by repeat (with_reducible first|exact HB.out|apply bA|apply bN|apply bD)) hb);clear HB;have HB:=n0_;clear n0_ hb))
    go_ret
    exact ⟨by first|rfl|(simp;done)|(simp [*];done),(by repeat (with_reducible first|exact HB.out|apply bA|apply bN|apply bD))⟩
   | true =>
    rw [if_pos rfl] at h
    have H':=Aside0.mk h
    clear h
    go_enter Try.func36,Try.ntmps36
    go_wp2_with (first|(go_at_call 67;(with_reducible refine (impl_arePoints.calls k _ _ l0 true _ ?side1 ?side2 HA5.out).mono ?_);(case side1=>repeat (first|exact (Kd.C_below HR0.out HB.out)|(with_reducible refine Kd.C_alloc ?_ _)|(with_reducible refine Kd.C_drewN ?_ _)|(with_reducible refine Kd.C_drew ?_)));(case side2=>exact HC0.out);rintro e w6 ⟨rfl,hb⟩;have n0_:=Aside0.mk (below_step (by repeat (with_reducible first|exact HB.out|apply bA|apply bN|apply bD)) hb);clear HB;have HB:=n0_;clear n0_ hb))
    go_loopg [25] k (fun kq v25 w'=>∃ i:Nat,v25=.int .i64 (i:Int)∧Aside0 (impl_PolygonOk.l0 kq l0 i=some r)∧Aside0 (kq≤k)∧Aside0 (Below w.heap.size w w'))
    case atStart=>exact ⟨0,by first|rfl|(simp;done)|(simp [*];done),H',⟨Nat.le_refl _⟩,⟨(by repeat (with_reducible first|exact HB.out|apply bA|apply bN|apply bD))⟩⟩
    case round =>
     clear H' HB HA5
     obtain ⟨i,rfl,HA,HK1,HB⟩:=hrel
     rcases gk with _|k1
     ·exact absurd HA.out (by simp [impl_PolygonOk.l0])
     have H:=HA.out
     clear HA
     simp only [impl_PolygonOk.l0] at H
     by_cases c8:i < l0.length
     ·rw [if_pos c8] at H
      have c8b0:decide ((i:Int) < (l0.length:Int))=true:=decide_eq_true (by omega)
      have c8b1:decide (i < l0.length)=true:=decide_eq_true c8
      obtain ⟨b,H1,H⟩:=Option.bind_eq_some_iff.mp H
      have HI:=Aside0.mk H
      have H':=Aside0.mk H1
      have HIL:=Aside0.mk c8
      clear H H1 c8
      go_wp2
      go_loopg [5] k1 (fun kq v5 w'=>∃ j:Nat,v5=.int .i64 (j:Int)∧Aside0 (impl_PolygonOk.l1 kq l0 i j=some b)∧Aside0 (kq≤k1)∧Aside0 (i+1≤j)∧Aside0 (Below w.heap.size w w'))
      case atStart=>exact ⟨i+1,by have h1:=HN.out;have h2:=HIL.out;exact congrArg (Value.int .i64) (by first|(unfold wrap64;omega)|omega),H',⟨Nat.le_refl _⟩,⟨Nat.le_refl _⟩,⟨(by repeat (with_reducible first|exact HB.out|apply bA|apply bN|apply bD))⟩⟩
      case round =>
       clear H' HB c8b0 c8b1
       obtain ⟨j,rfl,HA,HK2,HIJ,HB⟩:=hrel
       rcases gk with _|k2
       ·exact absurd HA.out (by simp [impl_PolygonOk.l1])
       have H:=HA.out
       clear HA
       simp only [impl_PolygonOk.l1] at H
       by_cases c9:j < l0.length
       ·rw [if_pos c9] at H
        obtain ⟨x25_2,h25⟩ : ∃ x:Int,(i:Int)=x:=⟨_,rfl⟩
        obtain ⟨x5_3,h5⟩ : ∃ x:Int,(j:Int)=x:=⟨_,rfl⟩
        obtain ⟨ji16,h16⟩ : ∃ x:Int,((i+1:Nat):Int)=x:=⟨_,rfl⟩
        obtain ⟨ji22,h22⟩ : ∃ x:Int,(((j+1) % l0.length:Nat):Int)=x:=⟨_,rfl⟩
        rw [h25,h5,h16,h22] at H
        rw [h25,h5]
        have hN:=HN.out
        have hIJ:=HIJ.out
        have hml:=Nat.mod_lt (j+1) (show 0 < l0.length by omega)
        have hji16:wrap64 (x25_2+1)=ji16:=by rw [← h25,← h16];unfold wrap64;omega
        have hw5:wrap64 (x5_3+1)=((j+1:Nat):Int):=by rw [← h5];unfold wrap64;omega
        have hji22:Int.tmod (wrap64 (x5_3+1)) (l0.length:Int)=ji22:=by rw [hw5,← h22];rfl
        have hji16w:(IntKind.i64.wrap (x25_2+1))=ji16:=(i64_w _).trans hji16
        have c9b0:decide (x5_3 < (l0.length:Int))=true:=decide_eq_true (by omega)
        have c15b0:decide (x25_2 < (l0.length:Int))=true:=decide_eq_true (by omega)
        have c18b0:decide (ji16 < (l0.length:Int))=true:=decide_eq_true (by omega)
        have c24b0:decide (ji22 < (l0.length:Int))=true:=decide_eq_true (by omega)
        have c14b0:decide (0≤x25_2)=true:=decide_eq_true (by omega)
        have c17b0:decide (0≤ji16)=true:=decide_eq_true (by omega)
        have c19b0:decide (0≤x5_3)=true:=decide_eq_true (by omega)
        have c23b0:decide (0≤ji22)=true:=decide_eq_true (by omega)
        have c21:¬ (l0.length:Int)=0:=by omega
        have c21b0:((l0.length:Int) == 0)=false:=beq_eq_false_iff_ne.mpr c21
        have c21b1:((l0.length:Int) != 0)=true:=bne_iff_ne.mpr c21
        have c21b2:¬ (l0 = []):=fun h_=>c21 (by rw [h_];rfl)
        obtain ⟨want,hwant⟩ : ∃ m:Int,m=(if j=i+1∨(i=0∧j+1=l0.length) then 1 else 0):=⟨_,rfl⟩
        rw [← hwant] at H
        have HW:=Aside0.mk hwant
        have HJL:=Aside0.mk c9
        have HH:=Aside0.mk H
        have H5:=Aside0.mk (show (i:Int)=x25_2∧(j:Int)=x5_3 from ⟨h25,h5⟩)
        clear H hwant hN hIJ hml h25 h5 h16 h22 c9 hw5
        go_upto_region 11 with (fail)
        go_cut [48] (fun v48 wc=>v48=.bool (want == 1)∧Aside0 (Below w.heap.size w wc))
        case first =>
         have hw:=HW.out
         have hil:=HIL.out
         have h55:=H5.out
         have hij:=HIJ.out
         have hnn:=HN.out
         by_cases c11:x5_3=wrap64 (x25_2+1)
         ·have hj:j=i+1:=by rw [← h55.1,← h55.2] at c11;unfold wrap64 at c11;omega
          have hv:want=1:=by rw [hw,if_pos (.inl hj)]
          have c11b0:(x5_3 == (wrap64 (x25_2+1)))=true:=beq_iff_eq.mpr c11
          have c11b1:(x5_3 == ji16)=true:=by rw [← hji16];exact c11b0
          subst hv
          clear hil c11 hw h55 hij hnn hj
          go_wp2
          go_meet
          case rel=>exact ⟨rfl,⟨(by repeat (with_reducible first|exact HB.out|apply bA|apply bN|apply bD))⟩⟩
         ·have hj:¬ j=i+1:=fun z=>c11 (by rw [← h55.1,← h55.2,z];unfold wrap64;omega)
          have c11b0:(x5_3 == (wrap64 (x25_2+1)))=false:=beq_eq_false_iff_ne.mpr c11
          have c11b1:(x5_3 == ji16)=false:=by rw [← hji16];exact c11b0
          by_cases c12:i=0
          ·have c12a:x25_2=0:=by omega
           have c12b0:(x25_2 == 0)=true:=beq_iff_eq.mpr c12a
           by_cases c13:j+1=l0.length
           ·have hv:want=1:=by rw [hw,if_pos (.inr ⟨c12,c13⟩)]
            have hq:wrap64 ((l0.length:Int) - 1)=(l0.length:Int) - 1:=by unfold wrap64;omega
            have c13b0:(x5_3 == (wrap64 ((l0.length:Int) - 1)))=true:=beq_iff_eq.mpr (by rw [hq];omega)
            have c13b1:(x5_3 == ((l0.length:Int) - 1))=true:=beq_iff_eq.mpr (by omega)
            subst hv
            clear hil hq c11 hw h55 hij hnn hj c12 c12a c13
            go_wp2
            go_meet
            case rel=>exact ⟨rfl,⟨(by repeat (with_reducible first|exact HB.out|apply bA|apply bN|apply bD))⟩⟩
           ·have hv:want=0:=by rw [hw,if_neg (fun z=>z.elim hj (fun z=>c13 z.2))]
            have hq:wrap64 ((l0.length:Int) - 1)=(l0.length:Int) - 1:=by unfold wrap64;omega
            have c13b0:(x5_3 == (wrap64 ((l0.length:Int) - 1)))=false:=beq_eq_false_iff_ne.mpr (by rw [hq];omega)
            have c13b1:(x5_3 == ((l0.length:Int) - 1))=false:=beq_eq_false_iff_ne.mpr (by omega)
            subst hv
            clear hil hq c11 hw h55 hij hnn hj c12 c12a c13
            go_wp2
            go_meet
            case rel=>exact ⟨rfl,⟨(by repeat (with_reducible first|exact HB.out|apply bA|apply bN|apply bD))⟩⟩
          ·have c12a:¬ x25_2=0:=by omega
           have c12b0:(x25_2 == 0)=false:=beq_eq_false_iff_ne.mpr c12a
           have hv:want=0:=by rw [hw,if_neg (fun z=>z.elim hj (fun z=>c12 z.1))]
           subst hv
           clear hil c11 hw h55 hij hnn hj c12 c12a
           go_wp2
           go_meet
           case rel=>exact ⟨rfl,⟨(by repeat (with_reducible first|exact HB.out|apply bA|apply bN|apply bD))⟩⟩
        case rest =>
         clear HB
         obtain ⟨rfl,HB⟩:=hcut
         refine (by assumption:∀ (a_:Act) (w_:World),Code.wp Try.prog _ _ a_ w_→_) _ _ ?_
         go_cut [6] (fun v6 wc=>v6=.int .i64 want∧Aside0 (Below w.heap.size w wc))
         case first =>
          have hw:=HW.out
          have hv:want=1∨want=0:=by rw [hw];split <;> simp
          clear hw
          rcases hv with hv|hv
          ·subst hv
           go_wp2
           go_meet
           case rel=>exact ⟨rfl,⟨(by repeat (with_reducible first|exact HB.out|apply bA|apply bN|apply bD))⟩⟩
          ·subst hv
           go_wp2
           go_meet
           case rel=>exact ⟨rfl,⟨(by repeat (with_reducible first|exact HB.out|apply bA|apply bN|apply bD))⟩⟩
         case rest =>
          clear HB
          obtain ⟨rfl,HB⟩:=hcut
          refine (by assumption:∀ (a_:Act) (w_:World),Code.wp Try.prog _ _ a_ w_→_) _ _ ?_
          go_upto_region 13 with (fail)
          go_cut [7,8,9,10] (fun v7 v8 v9 v10 wc=>∃ g7 g8 g9 g10:Nat,v7=.pointer (some ⟨g7,0,none⟩)∧v8=.pointer (some ⟨g8,0,none⟩)∧v9=.pointer (some ⟨g9,0,none⟩)∧v10=.pointer (some ⟨g10,0,none⟩)∧Aside0 (wc.heap[g7]? = some (.cells #[.int .i64 (rd_T40 l0 x25_2).f0,.int .i64 (rd_T40 l0 x25_2).f1] 40 (0,0)))∧Aside0 (wc.heap[g8]? = some (.cells #[.int .i64 (rd_T40 l0 ji16).f0,.int .i64 (rd_T40 l0 ji16).f1] 40 (0,0)))∧Aside0 (wc.heap[g9]? = some (.cells #[.int .i64 (rd_T40 l0 x5_3).f0,.int .i64 (rd_T40 l0 x5_3).f1] 40 (0,0)))∧Aside0 (wc.heap[g10]? = some (.cells #[.int .i64 (rd_T40 l0 ji22).f0,.int .i64 (rd_T40 l0 ji22).f1] 40 (0,0)))∧Aside0 (Below w.heap.size w wc))
          case first =>
           try go_wp2
           have n0_:=Aside0.mk (below_drew1 HB.out)
           clear HB
           have HB:=n0_
           clear n0_
           have p281:0≤(x25_2:Int):=of_decide_eq_true (by assumption)
           have q281:x25_2 < (l0.length:Int):=of_decide_eq_true (by assumption)
           obtain ⟨ad281,e281,hx281_0,hx281_1⟩:=at_T40 HR0.out x25_2 p281 q281
           have hw281_1:=hx281_1
           have hw281_0:=hx281_0
           cases e281
           replace hx281_0:=cK HB.out hx281_0
           replace hx281_1:=cK HB.out hx281_1
           replace p281:=eq_true p281
           replace q281:=eq_true q281
           have p282:0≤((ji16):Int):=of_decide_eq_true (by assumption)
           have q282:(ji16) < (l0.length:Int):=of_decide_eq_true (by assumption)
           obtain ⟨ad282,e282,hx282_0,hx282_1⟩:=at_T40 HR0.out (ji16) p282 q282
           have hw282_1:=hx282_1
           have hw282_0:=hx282_0
           obtain rfl:ad281=ad282:=(by injection e282)
           replace hx282_0:=cK HB.out hx282_0
           replace hx282_1:=cK HB.out hx282_1
           replace p282:=eq_true p282
           replace q282:=eq_true q282
           have p283:0≤(x5_3:Int):=of_decide_eq_true (by assumption)
           have q283:x5_3 < (l0.length:Int):=of_decide_eq_true (by assumption)
           obtain ⟨ad283,e283,hx283_0,hx283_1⟩:=at_T40 HR0.out x5_3 p283 q283
           have hw283_1:=hx283_1
           have hw283_0:=hx283_0
           obtain rfl:ad281=ad283:=(by injection e283)
           replace hx283_0:=cK HB.out hx283_0
           replace hx283_1:=cK HB.out hx283_1
           replace p283:=eq_true p283
           replace q283:=eq_true q283
           have p284:0≤((ji22):Int):=of_decide_eq_true (by assumption)
           have q284:(ji22) < (l0.length:Int):=of_decide_eq_true (by assumption)
           obtain ⟨ad284,e284,hx284_0,hx284_1⟩:=at_T40 HR0.out (ji22) p284 q284
           have hw284_1:=hx284_1
           have hw284_0:=hx284_0
           obtain rfl:ad281=ad284:=(by injection e284)
           replace hx284_0:=cK HB.out hx284_0
           replace hx284_1:=cK HB.out hx284_1
           replace p284:=eq_true p284
           replace q284:=eq_true q284
           refine start_ (n:=28) (S:=fun w'=>w'.cell? (ad281.add ((x25_2).toNat * 2))=some (.int .i64 ((rd_T40 l0 x25_2).f0))∧w'.cell? ⟨(ad281.add ((x25_2).toNat * 2)).block,(ad281.add ((x25_2).toNat * 2)).off+1,none⟩=some (.int .i64 ((rd_T40 l0 x25_2).f1))∧w'.cell? (ad281.add (((ji16)).toNat * 2))=some (.int .i64 ((rd_T40 l0 (ji16)).f0))∧w'.cell? ⟨(ad281.add (((ji16)).toNat * 2)).block,(ad281.add (((ji16)).toNat * 2)).off+1,none⟩=some (.int .i64 ((rd_T40 l0 (ji16)).f1))∧w'.cell? (ad281.add ((x5_3).toNat * 2))=some (.int .i64 ((rd_T40 l0 x5_3).f0))∧w'.cell? ⟨(ad281.add ((x5_3).toNat * 2)).block,(ad281.add ((x5_3).toNat * 2)).off+1,none⟩=some (.int .i64 ((rd_T40 l0 x5_3).f1))∧w'.cell? (ad281.add (((ji22)).toNat * 2))=some (.int .i64 ((rd_T40 l0 (ji22)).f0))∧w'.cell? ⟨(ad281.add (((ji22)).toNat * 2)).block,(ad281.add (((ji22)).toNat * 2)).off+1,none⟩=some (.int .i64 ((rd_T40 l0 (ji22)).f1))) (ds:=[]) (bV 28 0) (by kernel_rfl) rfl rfl ⟨(cK HB.out hw281_0),(cK HB.out hw281_1),(cK HB.out hw282_0),(cK HB.out hw282_1),(cK HB.out hw283_0),(cK HB.out hw283_1),(cK HB.out hw284_0),(cK HB.out hw284_1)⟩ (fun hHeld=>?_);refine with_tabW impl_PolygonOk.tab13 impl_PolygonOk.bits13 (fun HT_ HW_=>?_)
           generalize wc.drew=w26 at HB hx281_0 hx281_1 hx282_0 hx282_1 hx283_0 hx283_1 hx284_0 hx284_1 hHeld ⊢
           refine pT 0 49 (bV 28 1) HT_.out ?_
           refine pT 1 50 (bV 28 3) HT_.out ?_
           refine pT 2 51 (bV 28 7) HT_.out ?_
           refine pT 4 53 (bV 28 23) HT_.out ?_
           refine pT 5 54 (bV 28 55) HT_.out ?_
           refine pT 6 55 (bV 28 119) HT_.out ?_
           refine pT 7 56 (bV 28 247) HT_.out ?_
           refine pT 9 58 (bV 28 759) HT_.out ?_
           refine pT 10 59 (bV 28 1783) HT_.out ?_
           refine pT 11 60 (bV 28 3831) HT_.out ?_
           refine pT 13 62 (bV 28 12023) HT_.out ?_
           refine pT 14 63 (bV 28 28407) HT_.out ?_
           refine pT 15 64 (bV 28 61175) HT_.out ?_
           refine pT 16 65 (bV 28 126711) HT_.out ?_
           refine pT 17 66 (bV 28 257783) HT_.out ?_
           refine pT 18 67 (bV 28 519927) HT_.out ?_
           refine tI 3 52 (bV 28 519935) rfl (take_ofW HT_.out HW_.out (by kernel_rfl)) hHeld (by rintro w' ⟨s0,s1,s2,s3,s4,s5,s6,s7⟩;go_simp;with_reducible rfl) ?_
           refine tI 8 57 (bV 28 520191) rfl (take_ofW HT_.out HW_.out (by kernel_rfl)) hHeld (by rintro w' ⟨s0,s1,s2,s3,s4,s5,s6,s7⟩;go_simp;with_reducible rfl) ?_
           refine tI 12 61 (bV 28 524287) rfl (take_ofW HT_.out HW_.out (by kernel_rfl)) hHeld (by rintro w' ⟨s0,s1,s2,s3,s4,s5,s6,s7⟩;go_simp;with_reducible rfl) ?_
           refine tI 19 68 (bV 28 1048575) rfl (take_ofW HT_.out HW_.out (by kernel_rfl)) hHeld (by rintro w' ⟨s0,s1,s2,s3,s4,s5,s6,s7⟩;go_simp;with_reducible rfl) ?_
           refine join_ (σ:=Nat × Nat × Nat × Nat) 4 (bV 28 16777215) (fun s_=>[(7,.pointer (some ⟨s_.1,0,none⟩)),(8,.pointer (some ⟨s_.2.1,0,none⟩)),(9,.pointer (some ⟨s_.2.2.1,0,none⟩)),(10,.pointer (some ⟨s_.2.2.2,0,none⟩))]) (fun s_ w'=>(w'.cell? (ad281.add ((x25_2).toNat * 2))=some (.int .i64 ((rd_T40 l0 x25_2).f0))∧w'.cell? ⟨(ad281.add ((x25_2).toNat * 2)).block,(ad281.add ((x25_2).toNat * 2)).off+1,none⟩=some (.int .i64 ((rd_T40 l0 x25_2).f1))∧w'.cell? (ad281.add (((ji16)).toNat * 2))=some (.int .i64 ((rd_T40 l0 (ji16)).f0))∧w'.cell? ⟨(ad281.add (((ji16)).toNat * 2)).block,(ad281.add (((ji16)).toNat * 2)).off+1,none⟩=some (.int .i64 ((rd_T40 l0 (ji16)).f1))∧w'.cell? (ad281.add ((x5_3).toNat * 2))=some (.int .i64 ((rd_T40 l0 x5_3).f0))∧w'.cell? ⟨(ad281.add ((x5_3).toNat * 2)).block,(ad281.add ((x5_3).toNat * 2)).off+1,none⟩=some (.int .i64 ((rd_T40 l0 x5_3).f1))∧w'.cell? (ad281.add (((ji22)).toNat * 2))=some (.int .i64 ((rd_T40 l0 (ji22)).f0))∧w'.cell? ⟨(ad281.add (((ji22)).toNat * 2)).block,(ad281.add (((ji22)).toNat * 2)).off+1,none⟩=some (.int .i64 ((rd_T40 l0 (ji22)).f1)))∧(w'.heap[s_.1]? = some (.cells #[.int .i64 0,.int .i64 0] 40 (0,0)))∧(w'.heap[s_.2.1]? = some (.cells #[.int .i64 0,.int .i64 0] 40 (0,0)))∧(w'.heap[s_.2.2.1]? = some (.cells #[.int .i64 0,.int .i64 0] 40 (0,0)))∧(w'.heap[s_.2.2.2]? = some (.cells #[.int .i64 0,.int .i64 0] 40 (0,0)))∧(w.heap.size≤s_.1)∧(w.heap.size≤s_.1)∧(s_.2.1≠s_.1)∧(s_.1≠s_.2.1)∧(s_.2.2.1≠s_.1)∧(s_.1≠s_.2.2.1)∧(s_.2.2.2≠s_.1)∧(s_.1≠s_.2.2.2)∧(w.heap.size≤s_.2.1)∧(w.heap.size≤s_.2.1)∧(s_.2.2.1≠s_.2.1)∧(s_.2.1≠s_.2.2.1)∧(s_.2.2.2≠s_.2.1)∧(s_.2.1≠s_.2.2.2)∧(w.heap.size≤s_.2.2.1)∧(w.heap.size≤s_.2.2.1)∧(s_.2.2.2≠s_.2.2.1)∧(s_.2.2.1≠s_.2.2.2)∧(w.heap.size≤s_.2.2.2)∧(w.heap.size≤s_.2.2.2)∧(Below w.heap.size w w')) ?_ ?_
           rotate_left
           ·intro hJ20_21_22_23
            refine join_ (σ:=Nat × Nat × Nat) 5 (bV 28 8388607) (fun s_=>[(7,.pointer (some ⟨s_.1,0,none⟩)),(8,.pointer (some ⟨s_.2.1,0,none⟩)),(9,.pointer (some ⟨s_.2.2,0,none⟩))]) (fun s_ w'=>(w'.cell? (ad281.add ((x25_2).toNat * 2))=some (.int .i64 ((rd_T40 l0 x25_2).f0))∧w'.cell? ⟨(ad281.add ((x25_2).toNat * 2)).block,(ad281.add ((x25_2).toNat * 2)).off+1,none⟩=some (.int .i64 ((rd_T40 l0 x25_2).f1))∧w'.cell? (ad281.add (((ji16)).toNat * 2))=some (.int .i64 ((rd_T40 l0 (ji16)).f0))∧w'.cell? ⟨(ad281.add (((ji16)).toNat * 2)).block,(ad281.add (((ji16)).toNat * 2)).off+1,none⟩=some (.int .i64 ((rd_T40 l0 (ji16)).f1))∧w'.cell? (ad281.add ((x5_3).toNat * 2))=some (.int .i64 ((rd_T40 l0 x5_3).f0))∧w'.cell? ⟨(ad281.add ((x5_3).toNat * 2)).block,(ad281.add ((x5_3).toNat * 2)).off+1,none⟩=some (.int .i64 ((rd_T40 l0 x5_3).f1))∧w'.cell? (ad281.add (((ji22)).toNat * 2))=some (.int .i64 ((rd_T40 l0 (ji22)).f0))∧w'.cell? ⟨(ad281.add (((ji22)).toNat * 2)).block,(ad281.add (((ji22)).toNat * 2)).off+1,none⟩=some (.int .i64 ((rd_T40 l0 (ji22)).f1)))∧(w'.heap[s_.1]? = some (.cells #[.int .i64 0,.int .i64 0] 40 (0,0)))∧(w'.heap[s_.2.1]? = some (.cells #[.int .i64 0,.int .i64 0] 40 (0,0)))∧(w'.heap[s_.2.2]? = some (.cells #[.int .i64 0,.int .i64 0] 40 (0,0)))∧(w.heap.size≤s_.1)∧(w.heap.size≤s_.1)∧(s_.2.1≠s_.1)∧(s_.1≠s_.2.1)∧(s_.2.2≠s_.1)∧(s_.1≠s_.2.2)∧(w.heap.size≤s_.2.1)∧(w.heap.size≤s_.2.1)∧(s_.2.2≠s_.2.1)∧(s_.2.1≠s_.2.2)∧(w.heap.size≤s_.2.2)∧(w.heap.size≤s_.2.2)∧(Below w.heap.size w w')) ?_ ?_
            rotate_left
            ·intro hJ20_21_22
             refine join_ (σ:=Nat × Nat × Nat) 5 (bV 28 12582911) (fun s_=>[(7,.pointer (some ⟨s_.1,0,none⟩)),(8,.pointer (some ⟨s_.2.1,0,none⟩)),(10,.pointer (some ⟨s_.2.2,0,none⟩))]) (fun s_ w'=>(w'.cell? (ad281.add ((x25_2).toNat * 2))=some (.int .i64 ((rd_T40 l0 x25_2).f0))∧w'.cell? ⟨(ad281.add ((x25_2).toNat * 2)).block,(ad281.add ((x25_2).toNat * 2)).off+1,none⟩=some (.int .i64 ((rd_T40 l0 x25_2).f1))∧w'.cell? (ad281.add (((ji16)).toNat * 2))=some (.int .i64 ((rd_T40 l0 (ji16)).f0))∧w'.cell? ⟨(ad281.add (((ji16)).toNat * 2)).block,(ad281.add (((ji16)).toNat * 2)).off+1,none⟩=some (.int .i64 ((rd_T40 l0 (ji16)).f1))∧w'.cell? (ad281.add ((x5_3).toNat * 2))=some (.int .i64 ((rd_T40 l0 x5_3).f0))∧w'.cell? ⟨(ad281.add ((x5_3).toNat * 2)).block,(ad281.add ((x5_3).toNat * 2)).off+1,none⟩=some (.int .i64 ((rd_T40 l0 x5_3).f1))∧w'.cell? (ad281.add (((ji22)).toNat * 2))=some (.int .i64 ((rd_T40 l0 (ji22)).f0))∧w'.cell? ⟨(ad281.add (((ji22)).toNat * 2)).block,(ad281.add (((ji22)).toNat * 2)).off+1,none⟩=some (.int .i64 ((rd_T40 l0 (ji22)).f1)))∧(w'.heap[s_.1]? = some (.cells #[.int .i64 0,.int .i64 0] 40 (0,0)))∧(w'.heap[s_.2.1]? = some (.cells #[.int .i64 0,.int .i64 0] 40 (0,0)))∧(w'.heap[s_.2.2]? = some (.cells #[.int .i64 0,.int .i64 0] 40 (0,0)))∧(w.heap.size≤s_.1)∧(w.heap.size≤s_.1)∧(s_.2.1≠s_.1)∧(s_.1≠s_.2.1)∧(s_.2.2≠s_.1)∧(s_.1≠s_.2.2)∧(w.heap.size≤s_.2.1)∧(w.heap.size≤s_.2.1)∧(s_.2.2≠s_.2.1)∧(s_.2.1≠s_.2.2)∧(w.heap.size≤s_.2.2)∧(w.heap.size≤s_.2.2)∧(Below w.heap.size w w')) ?_ ?_
             rotate_left
             ·intro hJ20_21_23
              refine join_ (σ:=Nat × Nat × Nat) 5 (bV 28 14680063) (fun s_=>[(7,.pointer (some ⟨s_.1,0,none⟩)),(9,.pointer (some ⟨s_.2.1,0,none⟩)),(10,.pointer (some ⟨s_.2.2,0,none⟩))]) (fun s_ w'=>(w'.cell? (ad281.add ((x25_2).toNat * 2))=some (.int .i64 ((rd_T40 l0 x25_2).f0))∧w'.cell? ⟨(ad281.add ((x25_2).toNat * 2)).block,(ad281.add ((x25_2).toNat * 2)).off+1,none⟩=some (.int .i64 ((rd_T40 l0 x25_2).f1))∧w'.cell? (ad281.add (((ji16)).toNat * 2))=some (.int .i64 ((rd_T40 l0 (ji16)).f0))∧w'.cell? ⟨(ad281.add (((ji16)).toNat * 2)).block,(ad281.add (((ji16)).toNat * 2)).off+1,none⟩=some (.int .i64 ((rd_T40 l0 (ji16)).f1))∧w'.cell? (ad281.add ((x5_3).toNat * 2))=some (.int .i64 ((rd_T40 l0 x5_3).f0))∧w'.cell? ⟨(ad281.add ((x5_3).toNat * 2)).block,(ad281.add ((x5_3).toNat * 2)).off+1,none⟩=some (.int .i64 ((rd_T40 l0 x5_3).f1))∧w'.cell? (ad281.add (((ji22)).toNat * 2))=some (.int .i64 ((rd_T40 l0 (ji22)).f0))∧w'.cell? ⟨(ad281.add (((ji22)).toNat * 2)).block,(ad281.add (((ji22)).toNat * 2)).off+1,none⟩=some (.int .i64 ((rd_T40 l0 (ji22)).f1)))∧(w'.heap[s_.1]? = some (.cells #[.int .i64 0,.int .i64 0] 40 (0,0)))∧(w'.heap[s_.2.1]? = some (.cells #[.int .i64 0,.int .i64 0] 40 (0,0)))∧(w'.heap[s_.2.2]? = some (.cells #[.int .i64 0,.int .i64 0] 40 (0,0)))∧(w.heap.size≤s_.1)∧(w.heap.size≤s_.1)∧(s_.2.1≠s_.1)∧(s_.1≠s_.2.1)∧(s_.2.2≠s_.1)∧(s_.1≠s_.2.2)∧(w.heap.size≤s_.2.1)∧(w.heap.size≤s_.2.1)∧(s_.2.2≠s_.2.1)∧(s_.2.1≠s_.2.2)∧(w.heap.size≤s_.2.2)∧(w.heap.size≤s_.2.2)∧(Below w.heap.size w w')) ?_ ?_
              rotate_left
              ·intro hJ20_22_23
               refine join_ (σ:=Nat × Nat × Nat) 5 (bV 28 15728639) (fun s_=>[(8,.pointer (some ⟨s_.1,0,none⟩)),(9,.pointer (some ⟨s_.2.1,0,none⟩)),(10,.pointer (some ⟨s_.2.2,0,none⟩))]) (fun s_ w'=>(w'.cell? (ad281.add ((x25_2).toNat * 2))=some (.int .i64 ((rd_T40 l0 x25_2).f0))∧w'.cell? ⟨(ad281.add ((x25_2).toNat * 2)).block,(ad281.add ((x25_2).toNat * 2)).off+1,none⟩=some (.int .i64 ((rd_T40 l0 x25_2).f1))∧w'.cell? (ad281.add (((ji16)).toNat * 2))=some (.int .i64 ((rd_T40 l0 (ji16)).f0))∧w'.cell? ⟨(ad281.add (((ji16)).toNat * 2)).block,(ad281.add (((ji16)).toNat * 2)).off+1,none⟩=some (.int .i64 ((rd_T40 l0 (ji16)).f1))∧w'.cell? (ad281.add ((x5_3).toNat * 2))=some (.int .i64 ((rd_T40 l0 x5_3).f0))∧w'.cell? ⟨(ad281.add ((x5_3).toNat * 2)).block,(ad281.add ((x5_3).toNat * 2)).off+1,none⟩=some (.int .i64 ((rd_T40 l0 x5_3).f1))∧w'.cell? (ad281.add (((ji22)).toNat * 2))=some (.int .i64 ((rd_T40 l0 (ji22)).f0))∧w'.cell? ⟨(ad281.add (((ji22)).toNat * 2)).block,(ad281.add (((ji22)).toNat * 2)).off+1,none⟩=some (.int .i64 ((rd_T40 l0 (ji22)).f1)))∧(w'.heap[s_.1]? = some (.cells #[.int .i64 0,.int .i64 0] 40 (0,0)))∧(w'.heap[s_.2.1]? = some (.cells #[.int .i64 0,.int .i64 0] 40 (0,0)))∧(w'.heap[s_.2.2]? = some (.cells #[.int .i64 0,.int .i64 0] 40 (0,0)))∧(w.heap.size≤s_.1)∧(w.heap.size≤s_.1)∧(s_.2.1≠s_.1)∧(s_.1≠s_.2.1)∧(s_.2.2≠s_.1)∧(s_.1≠s_.2.2)∧(w.heap.size≤s_.2.1)∧(w.heap.size≤s_.2.1)∧(s_.2.2≠s_.2.1)∧(s_.2.1≠s_.2.2)∧(w.heap.size≤s_.2.2)∧(w.heap.size≤s_.2.2)∧(Below w.heap.size w w')) ?_ ?_
               rotate_left
               ·intro hJ21_22_23
                refine join_ (σ:=Nat × Nat) 6 (bV 28 4194303) (fun s_=>[(7,.pointer (some ⟨s_.1,0,none⟩)),(8,.pointer (some ⟨s_.2,0,none⟩))]) (fun s_ w'=>(w'.cell? (ad281.add ((x25_2).toNat * 2))=some (.int .i64 ((rd_T40 l0 x25_2).f0))∧w'.cell? ⟨(ad281.add ((x25_2).toNat * 2)).block,(ad281.add ((x25_2).toNat * 2)).off+1,none⟩=some (.int .i64 ((rd_T40 l0 x25_2).f1))∧w'.cell? (ad281.add (((ji16)).toNat * 2))=some (.int .i64 ((rd_T40 l0 (ji16)).f0))∧w'.cell? ⟨(ad281.add (((ji16)).toNat * 2)).block,(ad281.add (((ji16)).toNat * 2)).off+1,none⟩=some (.int .i64 ((rd_T40 l0 (ji16)).f1))∧w'.cell? (ad281.add ((x5_3).toNat * 2))=some (.int .i64 ((rd_T40 l0 x5_3).f0))∧w'.cell? ⟨(ad281.add ((x5_3).toNat * 2)).block,(ad281.add ((x5_3).toNat * 2)).off+1,none⟩=some (.int .i64 ((rd_T40 l0 x5_3).f1))∧w'.cell? (ad281.add (((ji22)).toNat * 2))=some (.int .i64 ((rd_T40 l0 (ji22)).f0))∧w'.cell? ⟨(ad281.add (((ji22)).toNat * 2)).block,(ad281.add (((ji22)).toNat * 2)).off+1,none⟩=some (.int .i64 ((rd_T40 l0 (ji22)).f1)))∧(w'.heap[s_.1]? = some (.cells #[.int .i64 0,.int .i64 0] 40 (0,0)))∧(w'.heap[s_.2]? = some (.cells #[.int .i64 0,.int .i64 0] 40 (0,0)))∧(w.heap.size≤s_.1)∧(w.heap.size≤s_.1)∧(s_.2≠s_.1)∧(s_.1≠s_.2)∧(w.heap.size≤s_.2)∧(w.heap.size≤s_.2)∧(Below w.heap.size w w')) ?_ ?_
                rotate_left
                ·intro hJ20_21
                 refine join_ (σ:=Nat × Nat) 6 (bV 28 6291455) (fun s_=>[(7,.pointer (some ⟨s_.1,0,none⟩)),(9,.pointer (some ⟨s_.2,0,none⟩))]) (fun s_ w'=>(w'.cell? (ad281.add ((x25_2).toNat * 2))=some (.int .i64 ((rd_T40 l0 x25_2).f0))∧w'.cell? ⟨(ad281.add ((x25_2).toNat * 2)).block,(ad281.add ((x25_2).toNat * 2)).off+1,none⟩=some (.int .i64 ((rd_T40 l0 x25_2).f1))∧w'.cell? (ad281.add (((ji16)).toNat * 2))=some (.int .i64 ((rd_T40 l0 (ji16)).f0))∧w'.cell? ⟨(ad281.add (((ji16)).toNat * 2)).block,(ad281.add (((ji16)).toNat * 2)).off+1,none⟩=some (.int .i64 ((rd_T40 l0 (ji16)).f1))∧w'.cell? (ad281.add ((x5_3).toNat * 2))=some (.int .i64 ((rd_T40 l0 x5_3).f0))∧w'.cell? ⟨(ad281.add ((x5_3).toNat * 2)).block,(ad281.add ((x5_3).toNat * 2)).off+1,none⟩=some (.int .i64 ((rd_T40 l0 x5_3).f1))∧w'.cell? (ad281.add (((ji22)).toNat * 2))=some (.int .i64 ((rd_T40 l0 (ji22)).f0))∧w'.cell? ⟨(ad281.add (((ji22)).toNat * 2)).block,(ad281.add (((ji22)).toNat * 2)).off+1,none⟩=some (.int .i64 ((rd_T40 l0 (ji22)).f1)))∧(w'.heap[s_.1]? = some (.cells #[.int .i64 0,.int .i64 0] 40 (0,0)))∧(w'.heap[s_.2]? = some (.cells #[.int .i64 0,.int .i64 0] 40 (0,0)))∧(w.heap.size≤s_.1)∧(w.heap.size≤s_.1)∧(s_.2≠s_.1)∧(s_.1≠s_.2)∧(w.heap.size≤s_.2)∧(w.heap.size≤s_.2)∧(Below w.heap.size w w')) ?_ ?_
                 rotate_left
                 ·intro hJ20_22
                  refine join_ (σ:=Nat × Nat) 6 (bV 28 10485759) (fun s_=>[(7,.pointer (some ⟨s_.1,0,none⟩)),(10,.pointer (some ⟨s_.2,0,none⟩))]) (fun s_ w'=>(w'.cell? (ad281.add ((x25_2).toNat * 2))=some (.int .i64 ((rd_T40 l0 x25_2).f0))∧w'.cell? ⟨(ad281.add ((x25_2).toNat * 2)).block,(ad281.add ((x25_2).toNat * 2)).off+1,none⟩=some (.int .i64 ((rd_T40 l0 x25_2).f1))∧w'.cell? (ad281.add (((ji16)).toNat * 2))=some (.int .i64 ((rd_T40 l0 (ji16)).f0))∧w'.cell? ⟨(ad281.add (((ji16)).toNat * 2)).block,(ad281.add (((ji16)).toNat * 2)).off+1,none⟩=some (.int .i64 ((rd_T40 l0 (ji16)).f1))∧w'.cell? (ad281.add ((x5_3).toNat * 2))=some (.int .i64 ((rd_T40 l0 x5_3).f0))∧w'.cell? ⟨(ad281.add ((x5_3).toNat * 2)).block,(ad281.add ((x5_3).toNat * 2)).off+1,none⟩=some (.int .i64 ((rd_T40 l0 x5_3).f1))∧w'.cell? (ad281.add (((ji22)).toNat * 2))=some (.int .i64 ((rd_T40 l0 (ji22)).f0))∧w'.cell? ⟨(ad281.add (((ji22)).toNat * 2)).block,(ad281.add (((ji22)).toNat * 2)).off+1,none⟩=some (.int .i64 ((rd_T40 l0 (ji22)).f1)))∧(w'.heap[s_.1]? = some (.cells #[.int .i64 0,.int .i64 0] 40 (0,0)))∧(w'.heap[s_.2]? = some (.cells #[.int .i64 0,.int .i64 0] 40 (0,0)))∧(w.heap.size≤s_.1)∧(w.heap.size≤s_.1)∧(s_.2≠s_.1)∧(s_.1≠s_.2)∧(w.heap.size≤s_.2)∧(w.heap.size≤s_.2)∧(Below w.heap.size w w')) ?_ ?_
                  rotate_left
                  ·intro hJ20_23
                   refine join_ (σ:=Nat × Nat) 6 (bV 28 7340031) (fun s_=>[(8,.pointer (some ⟨s_.1,0,none⟩)),(9,.pointer (some ⟨s_.2,0,none⟩))]) (fun s_ w'=>(w'.cell? (ad281.add ((x25_2).toNat * 2))=some (.int .i64 ((rd_T40 l0 x25_2).f0))∧w'.cell? ⟨(ad281.add ((x25_2).toNat * 2)).block,(ad281.add ((x25_2).toNat * 2)).off+1,none⟩=some (.int .i64 ((rd_T40 l0 x25_2).f1))∧w'.cell? (ad281.add (((ji16)).toNat * 2))=some (.int .i64 ((rd_T40 l0 (ji16)).f0))∧w'.cell? ⟨(ad281.add (((ji16)).toNat * 2)).block,(ad281.add (((ji16)).toNat * 2)).off+1,none⟩=some (.int .i64 ((rd_T40 l0 (ji16)).f1))∧w'.cell? (ad281.add ((x5_3).toNat * 2))=some (.int .i64 ((rd_T40 l0 x5_3).f0))∧w'.cell? ⟨(ad281.add ((x5_3).toNat * 2)).block,(ad281.add ((x5_3).toNat * 2)).off+1,none⟩=some (.int .i64 ((rd_T40 l0 x5_3).f1))∧w'.cell? (ad281.add (((ji22)).toNat * 2))=some (.int .i64 ((rd_T40 l0 (ji22)).f0))∧w'.cell? ⟨(ad281.add (((ji22)).toNat * 2)).block,(ad281.add (((ji22)).toNat * 2)).off+1,none⟩=some (.int .i64 ((rd_T40 l0 (ji22)).f1)))∧(w'.heap[s_.1]? = some (.cells #[.int .i64 0,.int .i64 0] 40 (0,0)))∧(w'.heap[s_.2]? = some (.cells #[.int .i64 0,.int .i64 0] 40 (0,0)))∧(w.heap.size≤s_.1)∧(w.heap.size≤s_.1)∧(s_.2≠s_.1)∧(s_.1≠s_.2)∧(w.heap.size≤s_.2)∧(w.heap.size≤s_.2)∧(Below w.heap.size w w')) ?_ ?_
                   rotate_left
                   ·intro hJ21_22
                    refine join_ (σ:=Nat × Nat) 6 (bV 28 11534335) (fun s_=>[(8,.pointer (some ⟨s_.1,0,none⟩)),(10,.pointer (some ⟨s_.2,0,none⟩))]) (fun s_ w'=>(w'.cell? (ad281.add ((x25_2).toNat * 2))=some (.int .i64 ((rd_T40 l0 x25_2).f0))∧w'.cell? ⟨(ad281.add ((x25_2).toNat * 2)).block,(ad281.add ((x25_2).toNat * 2)).off+1,none⟩=some (.int .i64 ((rd_T40 l0 x25_2).f1))∧w'.cell? (ad281.add (((ji16)).toNat * 2))=some (.int .i64 ((rd_T40 l0 (ji16)).f0))∧w'.cell? ⟨(ad281.add (((ji16)).toNat * 2)).block,(ad281.add (((ji16)).toNat * 2)).off+1,none⟩=some (.int .i64 ((rd_T40 l0 (ji16)).f1))∧w'.cell? (ad281.add ((x5_3).toNat * 2))=some (.int .i64 ((rd_T40 l0 x5_3).f0))∧w'.cell? ⟨(ad281.add ((x5_3).toNat * 2)).block,(ad281.add ((x5_3).toNat * 2)).off+1,none⟩=some (.int .i64 ((rd_T40 l0 x5_3).f1))∧w'.cell? (ad281.add (((ji22)).toNat * 2))=some (.int .i64 ((rd_T40 l0 (ji22)).f0))∧w'.cell? ⟨(ad281.add (((ji22)).toNat * 2)).block,(ad281.add (((ji22)).toNat * 2)).off+1,none⟩=some (.int .i64 ((rd_T40 l0 (ji22)).f1)))∧(w'.heap[s_.1]? = some (.cells #[.int .i64 0,.int .i64 0] 40 (0,0)))∧(w'.heap[s_.2]? = some (.cells #[.int .i64 0,.int .i64 0] 40 (0,0)))∧(w.heap.size≤s_.1)∧(w.heap.size≤s_.1)∧(s_.2≠s_.1)∧(s_.1≠s_.2)∧(w.heap.size≤s_.2)∧(w.heap.size≤s_.2)∧(Below w.heap.size w w')) ?_ ?_
                    rotate_left
                    ·intro hJ21_23
                     refine join_ (σ:=Nat × Nat) 6 (bV 28 13631487) (fun s_=>[(9,.pointer (some ⟨s_.1,0,none⟩)),(10,.pointer (some ⟨s_.2,0,none⟩))]) (fun s_ w'=>(w'.cell? (ad281.add ((x25_2).toNat * 2))=some (.int .i64 ((rd_T40 l0 x25_2).f0))∧w'.cell? ⟨(ad281.add ((x25_2).toNat * 2)).block,(ad281.add ((x25_2).toNat * 2)).off+1,none⟩=some (.int .i64 ((rd_T40 l0 x25_2).f1))∧w'.cell? (ad281.add (((ji16)).toNat * 2))=some (.int .i64 ((rd_T40 l0 (ji16)).f0))∧w'.cell? ⟨(ad281.add (((ji16)).toNat * 2)).block,(ad281.add (((ji16)).toNat * 2)).off+1,none⟩=some (.int .i64 ((rd_T40 l0 (ji16)).f1))∧w'.cell? (ad281.add ((x5_3).toNat * 2))=some (.int .i64 ((rd_T40 l0 x5_3).f0))∧w'.cell? ⟨(ad281.add ((x5_3).toNat * 2)).block,(ad281.add ((x5_3).toNat * 2)).off+1,none⟩=some (.int .i64 ((rd_T40 l0 x5_3).f1))∧w'.cell? (ad281.add (((ji22)).toNat * 2))=some (.int .i64 ((rd_T40 l0 (ji22)).f0))∧w'.cell? ⟨(ad281.add (((ji22)).toNat * 2)).block,(ad281.add (((ji22)).toNat * 2)).off+1,none⟩=some (.int .i64 ((rd_T40 l0 (ji22)).f1)))∧(w'.heap[s_.1]? = some (.cells #[.int .i64 0,.int .i64 0] 40 (0,0)))∧(w'.heap[s_.2]? = some (.cells #[.int .i64 0,.int .i64 0] 40 (0,0)))∧(w.heap.size≤s_.1)∧(w.heap.size≤s_.1)∧(s_.2≠s_.1)∧(s_.1≠s_.2)∧(w.heap.size≤s_.2)∧(w.heap.size≤s_.2)∧(Below w.heap.size w w')) ?_ ?_
                     rotate_left
                     ·intro hJ22_23
                      refine join_ (σ:=Nat) 7 (bV 28 2097151) (fun s_=>[(7,.pointer (some ⟨s_,0,none⟩))]) (fun s_ w'=>(w'.cell? (ad281.add ((x25_2).toNat * 2))=some (.int .i64 ((rd_T40 l0 x25_2).f0))∧w'.cell? ⟨(ad281.add ((x25_2).toNat * 2)).block,(ad281.add ((x25_2).toNat * 2)).off+1,none⟩=some (.int .i64 ((rd_T40 l0 x25_2).f1))∧w'.cell? (ad281.add (((ji16)).toNat * 2))=some (.int .i64 ((rd_T40 l0 (ji16)).f0))∧w'.cell? ⟨(ad281.add (((ji16)).toNat * 2)).block,(ad281.add (((ji16)).toNat * 2)).off+1,none⟩=some (.int .i64 ((rd_T40 l0 (ji16)).f1))∧w'.cell? (ad281.add ((x5_3).toNat * 2))=some (.int .i64 ((rd_T40 l0 x5_3).f0))∧w'.cell? ⟨(ad281.add ((x5_3).toNat * 2)).block,(ad281.add ((x5_3).toNat * 2)).off+1,none⟩=some (.int .i64 ((rd_T40 l0 x5_3).f1))∧w'.cell? (ad281.add (((ji22)).toNat * 2))=some (.int .i64 ((rd_T40 l0 (ji22)).f0))∧w'.cell? ⟨(ad281.add (((ji22)).toNat * 2)).block,(ad281.add (((ji22)).toNat * 2)).off+1,none⟩=some (.int .i64 ((rd_T40 l0 (ji22)).f1)))∧(w'.heap[s_]? = some (.cells #[.int .i64 0,.int .i64 0] 40 (0,0)))∧(w.heap.size≤s_)∧(w.heap.size≤s_)∧(Below w.heap.size w w')) ?_ ?_
                      rotate_left
                      ·intro hJ20
                       refine join_ (σ:=Nat) 7 (bV 28 3145727) (fun s_=>[(8,.pointer (some ⟨s_,0,none⟩))]) (fun s_ w'=>(w'.cell? (ad281.add ((x25_2).toNat * 2))=some (.int .i64 ((rd_T40 l0 x25_2).f0))∧w'.cell? ⟨(ad281.add ((x25_2).toNat * 2)).block,(ad281.add ((x25_2).toNat * 2)).off+1,none⟩=some (.int .i64 ((rd_T40 l0 x25_2).f1))∧w'.cell? (ad281.add (((ji16)).toNat * 2))=some (.int .i64 ((rd_T40 l0 (ji16)).f0))∧w'.cell? ⟨(ad281.add (((ji16)).toNat * 2)).block,(ad281.add (((ji16)).toNat * 2)).off+1,none⟩=some (.int .i64 ((rd_T40 l0 (ji16)).f1))∧w'.cell? (ad281.add ((x5_3).toNat * 2))=some (.int .i64 ((rd_T40 l0 x5_3).f0))∧w'.cell? ⟨(ad281.add ((x5_3).toNat * 2)).block,(ad281.add ((x5_3).toNat * 2)).off+1,none⟩=some (.int .i64 ((rd_T40 l0 x5_3).f1))∧w'.cell? (ad281.add (((ji22)).toNat * 2))=some (.int .i64 ((rd_T40 l0 (ji22)).f0))∧w'.cell? ⟨(ad281.add (((ji22)).toNat * 2)).block,(ad281.add (((ji22)).toNat * 2)).off+1,none⟩=some (.int .i64 ((rd_T40 l0 (ji22)).f1)))∧(w'.heap[s_]? = some (.cells #[.int .i64 0,.int .i64 0] 40 (0,0)))∧(w.heap.size≤s_)∧(w.heap.size≤s_)∧(Below w.heap.size w w')) ?_ ?_
                       rotate_left
                       ·intro hJ21
                        refine join_ (σ:=Nat) 7 (bV 28 5242879) (fun s_=>[(9,.pointer (some ⟨s_,0,none⟩))]) (fun s_ w'=>(w'.cell? (ad281.add ((x25_2).toNat * 2))=some (.int .i64 ((rd_T40 l0 x25_2).f0))∧w'.cell? ⟨(ad281.add ((x25_2).toNat * 2)).block,(ad281.add ((x25_2).toNat * 2)).off+1,none⟩=some (.int .i64 ((rd_T40 l0 x25_2).f1))∧w'.cell? (ad281.add (((ji16)).toNat * 2))=some (.int .i64 ((rd_T40 l0 (ji16)).f0))∧w'.cell? ⟨(ad281.add (((ji16)).toNat * 2)).block,(ad281.add (((ji16)).toNat * 2)).off+1,none⟩=some (.int .i64 ((rd_T40 l0 (ji16)).f1))∧w'.cell? (ad281.add ((x5_3).toNat * 2))=some (.int .i64 ((rd_T40 l0 x5_3).f0))∧w'.cell? ⟨(ad281.add ((x5_3).toNat * 2)).block,(ad281.add ((x5_3).toNat * 2)).off+1,none⟩=some (.int .i64 ((rd_T40 l0 x5_3).f1))∧w'.cell? (ad281.add (((ji22)).toNat * 2))=some (.int .i64 ((rd_T40 l0 (ji22)).f0))∧w'.cell? ⟨(ad281.add (((ji22)).toNat * 2)).block,(ad281.add (((ji22)).toNat * 2)).off+1,none⟩=some (.int .i64 ((rd_T40 l0 (ji22)).f1)))∧(w'.heap[s_]? = some (.cells #[.int .i64 0,.int .i64 0] 40 (0,0)))∧(w.heap.size≤s_)∧(w.heap.size≤s_)∧(Below w.heap.size w w')) ?_ ?_
                        rotate_left
                        ·intro hJ22
                         refine join_ (σ:=Nat) 7 (bV 28 9437183) (fun s_=>[(10,.pointer (some ⟨s_,0,none⟩))]) (fun s_ w'=>(w'.cell? (ad281.add ((x25_2).toNat * 2))=some (.int .i64 ((rd_T40 l0 x25_2).f0))∧w'.cell? ⟨(ad281.add ((x25_2).toNat * 2)).block,(ad281.add ((x25_2).toNat * 2)).off+1,none⟩=some (.int .i64 ((rd_T40 l0 x25_2).f1))∧w'.cell? (ad281.add (((ji16)).toNat * 2))=some (.int .i64 ((rd_T40 l0 (ji16)).f0))∧w'.cell? ⟨(ad281.add (((ji16)).toNat * 2)).block,(ad281.add (((ji16)).toNat * 2)).off+1,none⟩=some (.int .i64 ((rd_T40 l0 (ji16)).f1))∧w'.cell? (ad281.add ((x5_3).toNat * 2))=some (.int .i64 ((rd_T40 l0 x5_3).f0))∧w'.cell? ⟨(ad281.add ((x5_3).toNat * 2)).block,(ad281.add ((x5_3).toNat * 2)).off+1,none⟩=some (.int .i64 ((rd_T40 l0 x5_3).f1))∧w'.cell? (ad281.add (((ji22)).toNat * 2))=some (.int .i64 ((rd_T40 l0 (ji22)).f0))∧w'.cell? ⟨(ad281.add (((ji22)).toNat * 2)).block,(ad281.add (((ji22)).toNat * 2)).off+1,none⟩=some (.int .i64 ((rd_T40 l0 (ji22)).f1)))∧(w'.heap[s_]? = some (.cells #[.int .i64 0,.int .i64 0] 40 (0,0)))∧(w.heap.size≤s_)∧(w.heap.size≤s_)∧(Below w.heap.size w w')) ?_ ?_
                         rotate_left
                         ·intro hJ23
                          refine four_ (i:=20) (j:=21) (k:=22) (m:=23) (Ni:=some 7) (Nj:=some 8) (Nk:=some 9) (Nm:=some 10) (bV 28 2097151) (bV 28 3145727) (bV 28 5242879) (bV 28 9437183) rfl rfl rfl rfl rfl rfl rfl rfl (four_of HT_.out (by kernel_rfl)) (by decide) (by decide) (by decide) (by decide) (fun K hK=>?_) (fun K hK=>?_) (fun K hK=>?_) (fun K hK=>?_)
                          ·skip
                           refine box_step ?hg (N:=7) ?hd (cs:=#[.int .i64 0,.int .i64 0]) (t:=40) ?hr ?_;(case hd=>rfl);(case hg=>rfl);(case hr=>first|(go_simp;done)|(go_simp;rfl))
                           intro gb285 hg w27 hbox hb
                           have n0_:=Aside0.mk (below_step (by repeat (with_reducible first|exact HB.out|apply bA|apply bN|apply bD)) hb)
                           have n1_:=Aside0.mk (hbox)
                           have n2_:=Aside0.mk ((by rw [hg];exact (below_size (by repeat (with_reducible first|exact HB.out|apply bA|apply bN|apply bD))):w.heap.size≤gb285))
                           have n3_:=Aside0.mk ((by rw [hg];exact (below_size (by repeat (with_reducible first|exact HB.out|apply bA|apply bN|apply bD))):w.heap.size≤gb285))
                           clear HB
                           have HB:=n0_
                           have BK285:=n1_
                           have GW285:=n2_
                           have GE285:=n3_
                           clear n0_ n1_ n2_ n3_
                           clear hb hbox hg
                           refine hK.out _ _ ⟨(cK HB.out hw281_0),(cK HB.out hw281_1),(cK HB.out hw282_0),(cK HB.out hw282_1),(cK HB.out hw283_0),(cK HB.out hw283_1),(cK HB.out hw284_0),(cK HB.out hw284_1)⟩ (fun hHeld=>?_)
                           clear hK K
                           refine norm_ (a':=?_) ?_ ?_
                           rotate_left
                           ·show Act.put _ (some 7) _=_
                            simp only [Act.put,sI,sZ,sS,i64_w,i32_w]
                            rfl
                           exact norm_ (by first|(simp only [putAll,Act.put,List.setIfInBounds_toArray,List.set_cons_zero,List.set_cons_succ];done)|(simp only [putAll,Act.put,List.setIfInBounds_toArray,List.set_cons_zero,List.set_cons_succ];rfl)) (hJ20 (gb285) _ ⟨hHeld,BK285.out,GW285.out,GE285.out,(by repeat (first|(with_reducible first|exact HB.out|apply bA|apply bN|apply bD|refine bS ?_ GE285.out)|exact HB.out))⟩)
                          ·skip
                           refine box_step ?hg (N:=8) ?hd (cs:=#[.int .i64 0,.int .i64 0]) (t:=40) ?hr ?_;(case hd=>rfl);(case hg=>rfl);(case hr=>first|(go_simp;done)|(go_simp;rfl))
                           intro gb286 hg w27 hbox hb
                           have n0_:=Aside0.mk (below_step (by repeat (with_reducible first|exact HB.out|apply bA|apply bN|apply bD)) hb)
                           have n1_:=Aside0.mk (hbox)
                           have n2_:=Aside0.mk ((by rw [hg];exact (below_size (by repeat (with_reducible first|exact HB.out|apply bA|apply bN|apply bD))):w.heap.size≤gb286))
                           have n3_:=Aside0.mk ((by rw [hg];exact (below_size (by repeat (with_reducible first|exact HB.out|apply bA|apply bN|apply bD))):w.heap.size≤gb286))
                           clear HB
                           have HB:=n0_
                           have BK286:=n1_
                           have GW286:=n2_
                           have GE286:=n3_
                           clear n0_ n1_ n2_ n3_
                           clear hb hbox hg
                           refine hK.out _ _ ⟨(cK HB.out hw281_0),(cK HB.out hw281_1),(cK HB.out hw282_0),(cK HB.out hw282_1),(cK HB.out hw283_0),(cK HB.out hw283_1),(cK HB.out hw284_0),(cK HB.out hw284_1)⟩ (fun hHeld=>?_)
                           clear hK K
                           refine norm_ (a':=?_) ?_ ?_
                           rotate_left
                           ·show Act.put _ (some 8) _=_
                            simp only [Act.put,sI,sZ,sS,i64_w,i32_w]
                            rfl
                           exact norm_ (by first|(simp only [putAll,Act.put,List.setIfInBounds_toArray,List.set_cons_zero,List.set_cons_succ];done)|(simp only [putAll,Act.put,List.setIfInBounds_toArray,List.set_cons_zero,List.set_cons_succ];rfl)) (hJ21 (gb286) _ ⟨hHeld,BK286.out,GW286.out,GE286.out,(by repeat (first|(with_reducible first|exact HB.out|apply bA|apply bN|apply bD|refine bS ?_ GE286.out)|exact HB.out))⟩)
                          ·skip
                           refine box_step ?hg (N:=9) ?hd (cs:=#[.int .i64 0,.int .i64 0]) (t:=40) ?hr ?_;(case hd=>rfl);(case hg=>rfl);(case hr=>first|(go_simp;done)|(go_simp;rfl))
                           intro gb287 hg w27 hbox hb
                           have n0_:=Aside0.mk (below_step (by repeat (with_reducible first|exact HB.out|apply bA|apply bN|apply bD)) hb)
                           have n1_:=Aside0.mk (hbox)
                           have n2_:=Aside0.mk ((by rw [hg];exact (below_size (by repeat (with_reducible first|exact HB.out|apply bA|apply bN|apply bD))):w.heap.size≤gb287))
                           have n3_:=Aside0.mk ((by rw [hg];exact (below_size (by repeat (with_reducible first|exact HB.out|apply bA|apply bN|apply bD))):w.heap.size≤gb287))
                           clear HB
                           have HB:=n0_
                           have BK287:=n1_
                           have GW287:=n2_
                           have GE287:=n3_
                           clear n0_ n1_ n2_ n3_
                           clear hb hbox hg
                           refine hK.out _ _ ⟨(cK HB.out hw281_0),(cK HB.out hw281_1),(cK HB.out hw282_0),(cK HB.out hw282_1),(cK HB.out hw283_0),(cK HB.out hw283_1),(cK HB.out hw284_0),(cK HB.out hw284_1)⟩ (fun hHeld=>?_)
                           clear hK K
                           refine norm_ (a':=?_) ?_ ?_
                           rotate_left
                           ·show Act.put _ (some 9) _=_
                            simp only [Act.put,sI,sZ,sS,i64_w,i32_w]
                            rfl
                           exact norm_ (by first|(simp only [putAll,Act.put,List.setIfInBounds_toArray,List.set_cons_zero,List.set_cons_succ];done)|(simp only [putAll,Act.put,List.setIfInBounds_toArray,List.set_cons_zero,List.set_cons_succ];rfl)) (hJ22 (gb287) _ ⟨hHeld,BK287.out,GW287.out,GE287.out,(by repeat (first|(with_reducible first|exact HB.out|apply bA|apply bN|apply bD|refine bS ?_ GE287.out)|exact HB.out))⟩)
                          ·skip
                           refine box_step ?hg (N:=10) ?hd (cs:=#[.int .i64 0,.int .i64 0]) (t:=40) ?hr ?_;(case hd=>rfl);(case hg=>rfl);(case hr=>first|(go_simp;done)|(go_simp;rfl))
                           intro gb288 hg w27 hbox hb
                           have n0_:=Aside0.mk (below_step (by repeat (with_reducible first|exact HB.out|apply bA|apply bN|apply bD)) hb)
                           have n1_:=Aside0.mk (hbox)
                           have n2_:=Aside0.mk ((by rw [hg];exact (below_size (by repeat (with_reducible first|exact HB.out|apply bA|apply bN|apply bD))):w.heap.size≤gb288))
                           have n3_:=Aside0.mk ((by rw [hg];exact (below_size (by repeat (with_reducible first|exact HB.out|apply bA|apply bN|apply bD))):w.heap.size≤gb288))
                           clear HB
                           have HB:=n0_
                           have BK288:=n1_
                           have GW288:=n2_
                           have GE288:=n3_
                           clear n0_ n1_ n2_ n3_
                           clear hb hbox hg
                           refine hK.out _ _ ⟨(cK HB.out hw281_0),(cK HB.out hw281_1),(cK HB.out hw282_0),(cK HB.out hw282_1),(cK HB.out hw283_0),(cK HB.out hw283_1),(cK HB.out hw284_0),(cK HB.out hw284_1)⟩ (fun hHeld=>?_)
                           clear hK K
                           refine norm_ (a':=?_) ?_ ?_
                           rotate_left
                           ·show Act.put _ (some 10) _=_
                            simp only [Act.put,sI,sZ,sS,i64_w,i32_w]
                            rfl
                           exact norm_ (by first|(simp only [putAll,Act.put,List.setIfInBounds_toArray,List.set_cons_zero,List.set_cons_succ];done)|(simp only [putAll,Act.put,List.setIfInBounds_toArray,List.set_cons_zero,List.set_cons_succ];rfl)) (hJ23 (gb288) _ ⟨hHeld,BK288.out,GW288.out,GE288.out,(by repeat (first|(with_reducible first|exact HB.out|apply bA|apply bN|apply bD|refine bS ?_ GE288.out)|exact HB.out))⟩)
                         ·skip
                          rintro gb288 w28 ⟨hS_,h0_,h1_,h2_,h3_⟩
                          have n0_:Aside0 (w28.heap[gb288]? = some (.cells #[.int .i64 0,.int .i64 0] 40 (0,0))):=⟨h0_⟩
                          have n1_:Aside0 (w.heap.size≤gb288):=⟨h1_⟩
                          have n2_:Aside0 (w.heap.size≤gb288):=⟨h2_⟩
                          have n3_:Aside0 (Below w.heap.size w w28):=⟨h3_⟩
                          clear HB
                          clear h0_ h1_ h2_ h3_
                          have BK288:=n0_
                          have GW288:=n1_
                          have GE288:=n2_
                          have HB:=n3_
                          clear n0_ n1_ n2_ n3_
                          have hHeld:w28.cell? (ad281.add ((x25_2).toNat * 2))=some (.int .i64 ((rd_T40 l0 x25_2).f0))∧w28.cell? ⟨(ad281.add ((x25_2).toNat * 2)).block,(ad281.add ((x25_2).toNat * 2)).off+1,none⟩=some (.int .i64 ((rd_T40 l0 x25_2).f1))∧w28.cell? (ad281.add (((ji16)).toNat * 2))=some (.int .i64 ((rd_T40 l0 (ji16)).f0))∧w28.cell? ⟨(ad281.add (((ji16)).toNat * 2)).block,(ad281.add (((ji16)).toNat * 2)).off+1,none⟩=some (.int .i64 ((rd_T40 l0 (ji16)).f1))∧w28.cell? (ad281.add ((x5_3).toNat * 2))=some (.int .i64 ((rd_T40 l0 x5_3).f0))∧w28.cell? ⟨(ad281.add ((x5_3).toNat * 2)).block,(ad281.add ((x5_3).toNat * 2)).off+1,none⟩=some (.int .i64 ((rd_T40 l0 x5_3).f1))∧w28.cell? (ad281.add (((ji22)).toNat * 2))=some (.int .i64 ((rd_T40 l0 (ji22)).f0))∧w28.cell? ⟨(ad281.add (((ji22)).toNat * 2)).block,(ad281.add (((ji22)).toNat * 2)).off+1,none⟩=some (.int .i64 ((rd_T40 l0 (ji22)).f1)):=hS_
                          refine norm_ (a':=?_) ?_ ?_
                          rotate_left
                          ·simp only [putAll,Act.put,List.setIfInBounds_toArray,List.set_cons_zero,List.set_cons_succ]
                           rfl
                          refine three_ (i:=20) (j:=21) (k:=22) (Ni:=some 7) (Nj:=some 8) (Nk:=some 9) (bV 28 10485759) (bV 28 11534335) (bV 28 13631487) rfl rfl rfl rfl rfl rfl (three_of HT_.out (by kernel_rfl)) (by decide) (by decide) (by decide) (fun K hK=>?_) (fun K hK=>?_) (fun K hK=>?_)
                          ·skip
                           refine box_step ?hg (N:=7) ?hd (cs:=#[.int .i64 0,.int .i64 0]) (t:=40) ?hr ?_;(case hd=>rfl);(case hg=>rfl);(case hr=>first|(go_simp;done)|(go_simp;rfl))
                           intro gb285 hg w29 hbox hb
                           have n0_:=Aside0.mk (blk_below BK288.out hb)
                           have n1_:=Aside0.mk (below_step (by repeat (first|(with_reducible first|exact HB.out|apply bA|apply bN|apply bD|refine bS ?_ GE288.out)|exact HB.out)) hb)
                           have n2_:=Aside0.mk (hbox)
                           have n3_:=Aside0.mk ((by rw [hg];exact (below_size (by repeat (first|(with_reducible first|exact HB.out|apply bA|apply bN|apply bD|refine bS ?_ GE288.out)|exact HB.out))):w.heap.size≤gb285))
                           have n4_:=Aside0.mk ((by rw [hg];exact (below_size (by repeat (first|(with_reducible first|exact HB.out|apply bA|apply bN|apply bD|refine bS ?_ GE288.out)|exact HB.out))):w.heap.size≤gb285))
                           have n5_:=Aside0.mk ((by rw [hg];exact Nat.ne_of_lt (blk_lt BK288.out):gb288≠gb285))
                           have n6_:=Aside0.mk ((by rw [hg];exact Nat.ne_of_gt (blk_lt BK288.out):gb285≠gb288))
                           clear BK288
                           clear HB
                           have BK288:=n0_
                           have HB:=n1_
                           have BK285:=n2_
                           have GW285:=n3_
                           have GE285:=n4_
                           have NB288_285:=n5_
                           have NB285_288:=n6_
                           clear n0_ n1_ n2_ n3_ n4_ n5_ n6_
                           clear hb hbox hg
                           refine hK.out _ _ ⟨(cK HB.out hw281_0),(cK HB.out hw281_1),(cK HB.out hw282_0),(cK HB.out hw282_1),(cK HB.out hw283_0),(cK HB.out hw283_1),(cK HB.out hw284_0),(cK HB.out hw284_1)⟩ (fun hHeld=>?_)
                           clear hK K
                           refine norm_ (a':=?_) ?_ ?_
                           rotate_left
                           ·show Act.put _ (some 7) _=_
                            simp only [Act.put,sI,sZ,sS,i64_w,i32_w]
                            rfl
                           exact norm_ (by first|(simp only [putAll,Act.put,List.setIfInBounds_toArray,List.set_cons_zero,List.set_cons_succ];done)|(simp only [putAll,Act.put,List.setIfInBounds_toArray,List.set_cons_zero,List.set_cons_succ];rfl)) (hJ20_23 (gb285,gb288) _ ⟨hHeld,BK285.out,BK288.out,GW285.out,GE285.out,NB288_285.out,NB285_288.out,GW288.out,GE288.out,(by repeat (first|(with_reducible first|exact HB.out|apply bA|apply bN|apply bD|refine bS ?_ GE288.out|refine bS ?_ GE285.out)|exact HB.out))⟩)
                          ·skip
                           refine box_step ?hg (N:=8) ?hd (cs:=#[.int .i64 0,.int .i64 0]) (t:=40) ?hr ?_;(case hd=>rfl);(case hg=>rfl);(case hr=>first|(go_simp;done)|(go_simp;rfl))
                           intro gb286 hg w29 hbox hb
                           have n0_:=Aside0.mk (blk_below BK288.out hb)
                           have n1_:=Aside0.mk (below_step (by repeat (first|(with_reducible first|exact HB.out|apply bA|apply bN|apply bD|refine bS ?_ GE288.out)|exact HB.out)) hb)
                           have n2_:=Aside0.mk (hbox)
                           have n3_:=Aside0.mk ((by rw [hg];exact (below_size (by repeat (first|(with_reducible first|exact HB.out|apply bA|apply bN|apply bD|refine bS ?_ GE288.out)|exact HB.out))):w.heap.size≤gb286))
                           have n4_:=Aside0.mk ((by rw [hg];exact (below_size (by repeat (first|(with_reducible first|exact HB.out|apply bA|apply bN|apply bD|refine bS ?_ GE288.out)|exact HB.out))):w.heap.size≤gb286))
                           have n5_:=Aside0.mk ((by rw [hg];exact Nat.ne_of_lt (blk_lt BK288.out):gb288≠gb286))
                           have n6_:=Aside0.mk ((by rw [hg];exact Nat.ne_of_gt (blk_lt BK288.out):gb286≠gb288))
                           clear BK288
                           clear HB
                           have BK288:=n0_
                           have HB:=n1_
                           have BK286:=n2_
                           have GW286:=n3_
                           have GE286:=n4_
                           have NB288_286:=n5_
                           have NB286_288:=n6_
                           clear n0_ n1_ n2_ n3_ n4_ n5_ n6_
                           clear hb hbox hg
                           refine hK.out _ _ ⟨(cK HB.out hw281_0),(cK HB.out hw281_1),(cK HB.out hw282_0),(cK HB.out hw282_1),(cK HB.out hw283_0),(cK HB.out hw283_1),(cK HB.out hw284_0),(cK HB.out hw284_1)⟩ (fun hHeld=>?_)
                           clear hK K
                           refine norm_ (a':=?_) ?_ ?_
                           rotate_left
                           ·show Act.put _ (some 8) _=_
                            simp only [Act.put,sI,sZ,sS,i64_w,i32_w]
                            rfl
                           exact norm_ (by first|(simp only [putAll,Act.put,List.setIfInBounds_toArray,List.set_cons_zero,List.set_cons_succ];done)|(simp only [putAll,Act.put,List.setIfInBounds_toArray,List.set_cons_zero,List.set_cons_succ];rfl)) (hJ21_23 (gb286,gb288) _ ⟨hHeld,BK286.out,BK288.out,GW286.out,GE286.out,NB288_286.out,NB286_288.out,GW288.out,GE288.out,(by repeat (first|(with_reducible first|exact HB.out|apply bA|apply bN|apply bD|refine bS ?_ GE288.out|refine bS ?_ GE286.out)|exact HB.out))⟩)
                          ·skip
                           refine box_step ?hg (N:=9) ?hd (cs:=#[.int .i64 0,.int .i64 0]) (t:=40) ?hr ?_;(case hd=>rfl);(case hg=>rfl);(case hr=>first|(go_simp;done)|(go_simp;rfl))
                           intro gb287 hg w29 hbox hb
                           have n0_:=Aside0.mk (blk_below BK288.out hb)
                           have n1_:=Aside0.mk (below_step (by repeat (first|(with_reducible first|exact HB.out|apply bA|apply bN|apply bD|refine bS ?_ GE288.out)|exact HB.out)) hb)
                           have n2_:=Aside0.mk (hbox)
                           have n3_:=Aside0.mk ((by rw [hg];exact (below_size (by repeat (first|(with_reducible first|exact HB.out|apply bA|apply bN|apply bD|refine bS ?_ GE288.out)|exact HB.out))):w.heap.size≤gb287))
                           have n4_:=Aside0.mk ((by rw [hg];exact (below_size (by repeat (first|(with_reducible first|exact HB.out|apply bA|apply bN|apply bD|refine bS ?_ GE288.out)|exact HB.out))):w.heap.size≤gb287))
                           have n5_:=Aside0.mk ((by rw [hg];exact Nat.ne_of_lt (blk_lt BK288.out):gb288≠gb287))
                           have n6_:=Aside0.mk ((by rw [hg];exact Nat.ne_of_gt (blk_lt BK288.out):gb287≠gb288))
                           clear BK288
                           clear HB
                           have BK288:=n0_
                           have HB:=n1_
                           have BK287:=n2_
                           have GW287:=n3_
                           have GE287:=n4_
                           have NB288_287:=n5_
                           have NB287_288:=n6_
                           clear n0_ n1_ n2_ n3_ n4_ n5_ n6_
                           clear hb hbox hg
                           refine hK.out _ _ ⟨(cK HB.out hw281_0),(cK HB.out hw281_1),(cK HB.out hw282_0),(cK HB.out hw282_1),(cK HB.out hw283_0),(cK HB.out hw283_1),(cK HB.out hw284_0),(cK HB.out hw284_1)⟩ (fun hHeld=>?_)
                           clear hK K
                           refine norm_ (a':=?_) ?_ ?_
                           rotate_left
                           ·show Act.put _ (some 9) _=_
                            simp only [Act.put,sI,sZ,sS,i64_w,i32_w]
                            rfl
                           exact norm_ (by first|(simp only [putAll,Act.put,List.setIfInBounds_toArray,List.set_cons_zero,List.set_cons_succ];done)|(simp only [putAll,Act.put,List.setIfInBounds_toArray,List.set_cons_zero,List.set_cons_succ];rfl)) (hJ22_23 (gb287,gb288) _ ⟨hHeld,BK287.out,BK288.out,GW287.out,GE287.out,NB288_287.out,NB287_288.out,GW288.out,GE288.out,(by repeat (first|(with_reducible first|exact HB.out|apply bA|apply bN|apply bD|refine bS ?_ GE288.out|refine bS ?_ GE287.out)|exact HB.out))⟩)
                        ·skip
                         rintro gb287 w28 ⟨hS_,h0_,h1_,h2_,h3_⟩
                         have n0_:Aside0 (w28.heap[gb287]? = some (.cells #[.int .i64 0,.int .i64 0] 40 (0,0))):=⟨h0_⟩
                         have n1_:Aside0 (w.heap.size≤gb287):=⟨h1_⟩
                         have n2_:Aside0 (w.heap.size≤gb287):=⟨h2_⟩
                         have n3_:Aside0 (Below w.heap.size w w28):=⟨h3_⟩
                         clear HB
                         clear h0_ h1_ h2_ h3_
                         have BK287:=n0_
                         have GW287:=n1_
                         have GE287:=n2_
                         have HB:=n3_
                         clear n0_ n1_ n2_ n3_
                         have hHeld:w28.cell? (ad281.add ((x25_2).toNat * 2))=some (.int .i64 ((rd_T40 l0 x25_2).f0))∧w28.cell? ⟨(ad281.add ((x25_2).toNat * 2)).block,(ad281.add ((x25_2).toNat * 2)).off+1,none⟩=some (.int .i64 ((rd_T40 l0 x25_2).f1))∧w28.cell? (ad281.add (((ji16)).toNat * 2))=some (.int .i64 ((rd_T40 l0 (ji16)).f0))∧w28.cell? ⟨(ad281.add (((ji16)).toNat * 2)).block,(ad281.add (((ji16)).toNat * 2)).off+1,none⟩=some (.int .i64 ((rd_T40 l0 (ji16)).f1))∧w28.cell? (ad281.add ((x5_3).toNat * 2))=some (.int .i64 ((rd_T40 l0 x5_3).f0))∧w28.cell? ⟨(ad281.add ((x5_3).toNat * 2)).block,(ad281.add ((x5_3).toNat * 2)).off+1,none⟩=some (.int .i64 ((rd_T40 l0 x5_3).f1))∧w28.cell? (ad281.add (((ji22)).toNat * 2))=some (.int .i64 ((rd_T40 l0 (ji22)).f0))∧w28.cell? ⟨(ad281.add (((ji22)).toNat * 2)).block,(ad281.add (((ji22)).toNat * 2)).off+1,none⟩=some (.int .i64 ((rd_T40 l0 (ji22)).f1)):=hS_
                         refine norm_ (a':=?_) ?_ ?_
                         rotate_left
                         ·simp only [putAll,Act.put,List.setIfInBounds_toArray,List.set_cons_zero,List.set_cons_succ]
                          rfl
                         refine three_ (i:=20) (j:=21) (k:=23) (Ni:=some 7) (Nj:=some 8) (Nk:=some 10) (bV 28 6291455) (bV 28 7340031) (bV 28 13631487) rfl rfl rfl rfl rfl rfl (three_of HT_.out (by kernel_rfl)) (by decide) (by decide) (by decide) (fun K hK=>?_) (fun K hK=>?_) (fun K hK=>?_)
                         ·skip
                          refine box_step ?hg (N:=7) ?hd (cs:=#[.int .i64 0,.int .i64 0]) (t:=40) ?hr ?_;(case hd=>rfl);(case hg=>rfl);(case hr=>first|(go_simp;done)|(go_simp;rfl))
                          intro gb285 hg w29 hbox hb
                          have n0_:=Aside0.mk (blk_below BK287.out hb)
                          have n1_:=Aside0.mk (below_step (by repeat (first|(with_reducible first|exact HB.out|apply bA|apply bN|apply bD|refine bS ?_ GE287.out)|exact HB.out)) hb)
                          have n2_:=Aside0.mk (hbox)
                          have n3_:=Aside0.mk ((by rw [hg];exact (below_size (by repeat (first|(with_reducible first|exact HB.out|apply bA|apply bN|apply bD|refine bS ?_ GE287.out)|exact HB.out))):w.heap.size≤gb285))
                          have n4_:=Aside0.mk ((by rw [hg];exact (below_size (by repeat (first|(with_reducible first|exact HB.out|apply bA|apply bN|apply bD|refine bS ?_ GE287.out)|exact HB.out))):w.heap.size≤gb285))
                          have n5_:=Aside0.mk ((by rw [hg];exact Nat.ne_of_lt (blk_lt BK287.out):gb287≠gb285))
                          have n6_:=Aside0.mk ((by rw [hg];exact Nat.ne_of_gt (blk_lt BK287.out):gb285≠gb287))
                          clear BK287
                          clear HB
                          have BK287:=n0_
                          have HB:=n1_
                          have BK285:=n2_
                          have GW285:=n3_
                          have GE285:=n4_
                          have NB287_285:=n5_
                          have NB285_287:=n6_
                          clear n0_ n1_ n2_ n3_ n4_ n5_ n6_
                          clear hb hbox hg
                          refine hK.out _ _ ⟨(cK HB.out hw281_0),(cK HB.out hw281_1),(cK HB.out hw282_0),(cK HB.out hw282_1),(cK HB.out hw283_0),(cK HB.out hw283_1),(cK HB.out hw284_0),(cK HB.out hw284_1)⟩ (fun hHeld=>?_)
                          clear hK K
                          refine norm_ (a':=?_) ?_ ?_
                          rotate_left
                          ·show Act.put _ (some 7) _=_
                           simp only [Act.put,sI,sZ,sS,i64_w,i32_w]
                           rfl
                          exact norm_ (by first|(simp only [putAll,Act.put,List.setIfInBounds_toArray,List.set_cons_zero,List.set_cons_succ];done)|(simp only [putAll,Act.put,List.setIfInBounds_toArray,List.set_cons_zero,List.set_cons_succ];rfl)) (hJ20_22 (gb285,gb287) _ ⟨hHeld,BK285.out,BK287.out,GW285.out,GE285.out,NB287_285.out,NB285_287.out,GW287.out,GE287.out,(by repeat (first|(with_reducible first|exact HB.out|apply bA|apply bN|apply bD|refine bS ?_ GE287.out|refine bS ?_ GE285.out)|exact HB.out))⟩)
                         ·skip
                          refine box_step ?hg (N:=8) ?hd (cs:=#[.int .i64 0,.int .i64 0]) (t:=40) ?hr ?_;(case hd=>rfl);(case hg=>rfl);(case hr=>first|(go_simp;done)|(go_simp;rfl))
                          intro gb286 hg w29 hbox hb
                          have n0_:=Aside0.mk (blk_below BK287.out hb)
                          have n1_:=Aside0.mk (below_step (by repeat (first|(with_reducible first|exact HB.out|apply bA|apply bN|apply bD|refine bS ?_ GE287.out)|exact HB.out)) hb)
                          have n2_:=Aside0.mk (hbox)
                          have n3_:=Aside0.mk ((by rw [hg];exact (below_size (by repeat (first|(with_reducible first|exact HB.out|apply bA|apply bN|apply bD|refine bS ?_ GE287.out)|exact HB.out))):w.heap.size≤gb286))
                          have n4_:=Aside0.mk ((by rw [hg];exact (below_size (by repeat (first|(with_reducible first|exact HB.out|apply bA|apply bN|apply bD|refine bS ?_ GE287.out)|exact HB.out))):w.heap.size≤gb286))
                          have n5_:=Aside0.mk ((by rw [hg];exact Nat.ne_of_lt (blk_lt BK287.out):gb287≠gb286))
                          have n6_:=Aside0.mk ((by rw [hg];exact Nat.ne_of_gt (blk_lt BK287.out):gb286≠gb287))
                          clear BK287
                          clear HB
                          have BK287:=n0_
                          have HB:=n1_
                          have BK286:=n2_
                          have GW286:=n3_
                          have GE286:=n4_
                          have NB287_286:=n5_
                          have NB286_287:=n6_
                          clear n0_ n1_ n2_ n3_ n4_ n5_ n6_
                          clear hb hbox hg
                          refine hK.out _ _ ⟨(cK HB.out hw281_0),(cK HB.out hw281_1),(cK HB.out hw282_0),(cK HB.out hw282_1),(cK HB.out hw283_0),(cK HB.out hw283_1),(cK HB.out hw284_0),(cK HB.out hw284_1)⟩ (fun hHeld=>?_)
                          clear hK K
                          refine norm_ (a':=?_) ?_ ?_
                          rotate_left
                          ·show Act.put _ (some 8) _=_
                           simp only [Act.put,sI,sZ,sS,i64_w,i32_w]
                           rfl
                          exact norm_ (by first|(simp only [putAll,Act.put,List.setIfInBounds_toArray,List.set_cons_zero,List.set_cons_succ];done)|(simp only [putAll,Act.put,List.setIfInBounds_toArray,List.set_cons_zero,List.set_cons_succ];rfl)) (hJ21_22 (gb286,gb287) _ ⟨hHeld,BK286.out,BK287.out,GW286.out,GE286.out,NB287_286.out,NB286_287.out,GW287.out,GE287.out,(by repeat (first|(with_reducible first|exact HB.out|apply bA|apply bN|apply bD|refine bS ?_ GE287.out|refine bS ?_ GE286.out)|exact HB.out))⟩)
                         ·skip
                          refine box_step ?hg (N:=10) ?hd (cs:=#[.int .i64 0,.int .i64 0]) (t:=40) ?hr ?_;(case hd=>rfl);(case hg=>rfl);(case hr=>first|(go_simp;done)|(go_simp;rfl))
                          intro gb288 hg w29 hbox hb
                          have n0_:=Aside0.mk (blk_below BK287.out hb)
                          have n1_:=Aside0.mk (below_step (by repeat (first|(with_reducible first|exact HB.out|apply bA|apply bN|apply bD|refine bS ?_ GE287.out)|exact HB.out)) hb)
                          have n2_:=Aside0.mk (hbox)
                          have n3_:=Aside0.mk ((by rw [hg];exact (below_size (by repeat (first|(with_reducible first|exact HB.out|apply bA|apply bN|apply bD|refine bS ?_ GE287.out)|exact HB.out))):w.heap.size≤gb288))
                          have n4_:=Aside0.mk ((by rw [hg];exact (below_size (by repeat (first|(with_reducible first|exact HB.out|apply bA|apply bN|apply bD|refine bS ?_ GE287.out)|exact HB.out))):w.heap.size≤gb288))
                          have n5_:=Aside0.mk ((by rw [hg];exact Nat.ne_of_lt (blk_lt BK287.out):gb287≠gb288))
                          have n6_:=Aside0.mk ((by rw [hg];exact Nat.ne_of_gt (blk_lt BK287.out):gb288≠gb287))
                          clear BK287
                          clear HB
                          have BK287:=n0_
                          have HB:=n1_
                          have BK288:=n2_
                          have GW288:=n3_
                          have GE288:=n4_
                          have NB287_288:=n5_
                          have NB288_287:=n6_
                          clear n0_ n1_ n2_ n3_ n4_ n5_ n6_
                          clear hb hbox hg
                          refine hK.out _ _ ⟨(cK HB.out hw281_0),(cK HB.out hw281_1),(cK HB.out hw282_0),(cK HB.out hw282_1),(cK HB.out hw283_0),(cK HB.out hw283_1),(cK HB.out hw284_0),(cK HB.out hw284_1)⟩ (fun hHeld=>?_)
                          clear hK K
                          refine norm_ (a':=?_) ?_ ?_
                          rotate_left
                          ·show Act.put _ (some 10) _=_
                           simp only [Act.put,sI,sZ,sS,i64_w,i32_w]
                           rfl
                          exact norm_ (by first|(simp only [putAll,Act.put,List.setIfInBounds_toArray,List.set_cons_zero,List.set_cons_succ];done)|(simp only [putAll,Act.put,List.setIfInBounds_toArray,List.set_cons_zero,List.set_cons_succ];rfl)) (hJ22_23 (gb287,gb288) _ ⟨hHeld,BK287.out,BK288.out,GW287.out,GE287.out,NB288_287.out,NB287_288.out,GW288.out,GE288.out,(by repeat (first|(with_reducible first|exact HB.out|apply bA|apply bN|apply bD|refine bS ?_ GE287.out|refine bS ?_ GE288.out)|exact HB.out))⟩)
                       ·skip
                        rintro gb286 w28 ⟨hS_,h0_,h1_,h2_,h3_⟩
                        have n0_:Aside0 (w28.heap[gb286]? = some (.cells #[.int .i64 0,.int .i64 0] 40 (0,0))):=⟨h0_⟩
                        have n1_:Aside0 (w.heap.size≤gb286):=⟨h1_⟩
                        have n2_:Aside0 (w.heap.size≤gb286):=⟨h2_⟩
                        have n3_:Aside0 (Below w.heap.size w w28):=⟨h3_⟩
                        clear HB
                        clear h0_ h1_ h2_ h3_
                        have BK286:=n0_
                        have GW286:=n1_
                        have GE286:=n2_
                        have HB:=n3_
                        clear n0_ n1_ n2_ n3_
                        have hHeld:w28.cell? (ad281.add ((x25_2).toNat * 2))=some (.int .i64 ((rd_T40 l0 x25_2).f0))∧w28.cell? ⟨(ad281.add ((x25_2).toNat * 2)).block,(ad281.add ((x25_2).toNat * 2)).off+1,none⟩=some (.int .i64 ((rd_T40 l0 x25_2).f1))∧w28.cell? (ad281.add (((ji16)).toNat * 2))=some (.int .i64 ((rd_T40 l0 (ji16)).f0))∧w28.cell? ⟨(ad281.add (((ji16)).toNat * 2)).block,(ad281.add (((ji16)).toNat * 2)).off+1,none⟩=some (.int .i64 ((rd_T40 l0 (ji16)).f1))∧w28.cell? (ad281.add ((x5_3).toNat * 2))=some (.int .i64 ((rd_T40 l0 x5_3).f0))∧w28.cell? ⟨(ad281.add ((x5_3).toNat * 2)).block,(ad281.add ((x5_3).toNat * 2)).off+1,none⟩=some (.int .i64 ((rd_T40 l0 x5_3).f1))∧w28.cell? (ad281.add (((ji22)).toNat * 2))=some (.int .i64 ((rd_T40 l0 (ji22)).f0))∧w28.cell? ⟨(ad281.add (((ji22)).toNat * 2)).block,(ad281.add (((ji22)).toNat * 2)).off+1,none⟩=some (.int .i64 ((rd_T40 l0 (ji22)).f1)):=hS_
                        refine norm_ (a':=?_) ?_ ?_
                        rotate_left
                        ·simp only [putAll,Act.put,List.setIfInBounds_toArray,List.set_cons_zero,List.set_cons_succ]
                         rfl
                        refine three_ (i:=20) (j:=22) (k:=23) (Ni:=some 7) (Nj:=some 9) (Nk:=some 10) (bV 28 4194303) (bV 28 7340031) (bV 28 11534335) rfl rfl rfl rfl rfl rfl (three_of HT_.out (by kernel_rfl)) (by decide) (by decide) (by decide) (fun K hK=>?_) (fun K hK=>?_) (fun K hK=>?_)
                        ·skip
                         refine box_step ?hg (N:=7) ?hd (cs:=#[.int .i64 0,.int .i64 0]) (t:=40) ?hr ?_;(case hd=>rfl);(case hg=>rfl);(case hr=>first|(go_simp;done)|(go_simp;rfl))
                         intro gb285 hg w29 hbox hb
                         have n0_:=Aside0.mk (blk_below BK286.out hb)
                         have n1_:=Aside0.mk (below_step (by repeat (first|(with_reducible first|exact HB.out|apply bA|apply bN|apply bD|refine bS ?_ GE286.out)|exact HB.out)) hb)
                         have n2_:=Aside0.mk (hbox)
                         have n3_:=Aside0.mk ((by rw [hg];exact (below_size (by repeat (first|(with_reducible first|exact HB.out|apply bA|apply bN|apply bD|refine bS ?_ GE286.out)|exact HB.out))):w.heap.size≤gb285))
                         have n4_:=Aside0.mk ((by rw [hg];exact (below_size (by repeat (first|(with_reducible first|exact HB.out|apply bA|apply bN|apply bD|refine bS ?_ GE286.out)|exact HB.out))):w.heap.size≤gb285))
                         have n5_:=Aside0.mk ((by rw [hg];exact Nat.ne_of_lt (blk_lt BK286.out):gb286≠gb285))
                         have n6_:=Aside0.mk ((by rw [hg];exact Nat.ne_of_gt (blk_lt BK286.out):gb285≠gb286))
                         clear BK286
                         clear HB
                         have BK286:=n0_
                         have HB:=n1_
                         have BK285:=n2_
                         have GW285:=n3_
                         have GE285:=n4_
                         have NB286_285:=n5_
                         have NB285_286:=n6_
                         clear n0_ n1_ n2_ n3_ n4_ n5_ n6_
                         clear hb hbox hg
                         refine hK.out _ _ ⟨(cK HB.out hw281_0),(cK HB.out hw281_1),(cK HB.out hw282_0),(cK HB.out hw282_1),(cK HB.out hw283_0),(cK HB.out hw283_1),(cK HB.out hw284_0),(cK HB.out hw284_1)⟩ (fun hHeld=>?_)
                         clear hK K
                         refine norm_ (a':=?_) ?_ ?_
                         rotate_left
                         ·show Act.put _ (some 7) _=_
                          simp only [Act.put,sI,sZ,sS,i64_w,i32_w]
                          rfl
                         exact norm_ (by first|(simp only [putAll,Act.put,List.setIfInBounds_toArray,List.set_cons_zero,List.set_cons_succ];done)|(simp only [putAll,Act.put,List.setIfInBounds_toArray,List.set_cons_zero,List.set_cons_succ];rfl)) (hJ20_21 (gb285,gb286) _ ⟨hHeld,BK285.out,BK286.out,GW285.out,GE285.out,NB286_285.out,NB285_286.out,GW286.out,GE286.out,(by repeat (first|(with_reducible first|exact HB.out|apply bA|apply bN|apply bD|refine bS ?_ GE286.out|refine bS ?_ GE285.out)|exact HB.out))⟩)
                        ·skip
                         refine box_step ?hg (N:=9) ?hd (cs:=#[.int .i64 0,.int .i64 0]) (t:=40) ?hr ?_;(case hd=>rfl);(case hg=>rfl);(case hr=>first|(go_simp;done)|(go_simp;rfl))
                         intro gb287 hg w29 hbox hb
                         have n0_:=Aside0.mk (blk_below BK286.out hb)
                         have n1_:=Aside0.mk (below_step (by repeat (first|(with_reducible first|exact HB.out|apply bA|apply bN|apply bD|refine bS ?_ GE286.out)|exact HB.out)) hb)
                         have n2_:=Aside0.mk (hbox)
                         have n3_:=Aside0.mk ((by rw [hg];exact (below_size (by repeat (first|(with_reducible first|exact HB.out|apply bA|apply bN|apply bD|refine bS ?_ GE286.out)|exact HB.out))):w.heap.size≤gb287))
                         have n4_:=Aside0.mk ((by rw [hg];exact (below_size (by repeat (first|(with_reducible first|exact HB.out|apply bA|apply bN|apply bD|refine bS ?_ GE286.out)|exact HB.out))):w.heap.size≤gb287))
                         have n5_:=Aside0.mk ((by rw [hg];exact Nat.ne_of_lt (blk_lt BK286.out):gb286≠gb287))
                         have n6_:=Aside0.mk ((by rw [hg];exact Nat.ne_of_gt (blk_lt BK286.out):gb287≠gb286))
                         clear BK286
                         clear HB
                         have BK286:=n0_
                         have HB:=n1_
                         have BK287:=n2_
                         have GW287:=n3_
                         have GE287:=n4_
                         have NB286_287:=n5_
                         have NB287_286:=n6_
                         clear n0_ n1_ n2_ n3_ n4_ n5_ n6_
                         clear hb hbox hg
                         refine hK.out _ _ ⟨(cK HB.out hw281_0),(cK HB.out hw281_1),(cK HB.out hw282_0),(cK HB.out hw282_1),(cK HB.out hw283_0),(cK HB.out hw283_1),(cK HB.out hw284_0),(cK HB.out hw284_1)⟩ (fun hHeld=>?_)
                         clear hK K
                         refine norm_ (a':=?_) ?_ ?_
                         rotate_left
                         ·show Act.put _ (some 9) _=_
                          simp only [Act.put,sI,sZ,sS,i64_w,i32_w]
                          rfl
                         exact norm_ (by first|(simp only [putAll,Act.put,List.setIfInBounds_toArray,List.set_cons_zero,List.set_cons_succ];done)|(simp only [putAll,Act.put,List.setIfInBounds_toArray,List.set_cons_zero,List.set_cons_succ];rfl)) (hJ21_22 (gb286,gb287) _ ⟨hHeld,BK286.out,BK287.out,GW286.out,GE286.out,NB287_286.out,NB286_287.out,GW287.out,GE287.out,(by repeat (first|(with_reducible first|exact HB.out|apply bA|apply bN|apply bD|refine bS ?_ GE286.out|refine bS ?_ GE287.out)|exact HB.out))⟩)
                        ·skip
                         refine box_step ?hg (N:=10) ?hd (cs:=#[.int .i64 0,.int .i64 0]) (t:=40) ?hr ?_;(case hd=>rfl);(case hg=>rfl);(case hr=>first|(go_simp;done)|(go_simp;rfl))
                         intro gb288 hg w29 hbox hb
                         have n0_:=Aside0.mk (blk_below BK286.out hb)
                         have n1_:=Aside0.mk (below_step (by repeat (first|(with_reducible first|exact HB.out|apply bA|apply bN|apply bD|refine bS ?_ GE286.out)|exact HB.out)) hb)
                         have n2_:=Aside0.mk (hbox)
                         have n3_:=Aside0.mk ((by rw [hg];exact (below_size (by repeat (first|(with_reducible first|exact HB.out|apply bA|apply bN|apply bD|refine bS ?_ GE286.out)|exact HB.out))):w.heap.size≤gb288))
                         have n4_:=Aside0.mk ((by rw [hg];exact (below_size (by repeat (first|(with_reducible first|exact HB.out|apply bA|apply bN|apply bD|refine bS ?_ GE286.out)|exact HB.out))):w.heap.size≤gb288))
                         have n5_:=Aside0.mk ((by rw [hg];exact Nat.ne_of_lt (blk_lt BK286.out):gb286≠gb288))
                         have n6_:=Aside0.mk ((by rw [hg];exact Nat.ne_of_gt (blk_lt BK286.out):gb288≠gb286))
                         clear BK286
                         clear HB
                         have BK286:=n0_
                         have HB:=n1_
                         have BK288:=n2_
                         have GW288:=n3_
                         have GE288:=n4_
                         have NB286_288:=n5_
                         have NB288_286:=n6_
                         clear n0_ n1_ n2_ n3_ n4_ n5_ n6_
                         clear hb hbox hg
                         refine hK.out _ _ ⟨(cK HB.out hw281_0),(cK HB.out hw281_1),(cK HB.out hw282_0),(cK HB.out hw282_1),(cK HB.out hw283_0),(cK HB.out hw283_1),(cK HB.out hw284_0),(cK HB.out hw284_1)⟩ (fun hHeld=>?_)
                         clear hK K
                         refine norm_ (a':=?_) ?_ ?_
                         rotate_left
                         ·show Act.put _ (some 10) _=_
                          simp only [Act.put,sI,sZ,sS,i64_w,i32_w]
                          rfl
                         exact norm_ (by first|(simp only [putAll,Act.put,List.setIfInBounds_toArray,List.set_cons_zero,List.set_cons_succ];done)|(simp only [putAll,Act.put,List.setIfInBounds_toArray,List.set_cons_zero,List.set_cons_succ];rfl)) (hJ21_23 (gb286,gb288) _ ⟨hHeld,BK286.out,BK288.out,GW286.out,GE286.out,NB288_286.out,NB286_288.out,GW288.out,GE288.out,(by repeat (first|(with_reducible first|exact HB.out|apply bA|apply bN|apply bD|refine bS ?_ GE286.out|refine bS ?_ GE288.out)|exact HB.out))⟩)
                      ·skip
                       rintro gb285 w28 ⟨hS_,h0_,h1_,h2_,h3_⟩
                       have n0_:Aside0 (w28.heap[gb285]? = some (.cells #[.int .i64 0,.int .i64 0] 40 (0,0))):=⟨h0_⟩
                       have n1_:Aside0 (w.heap.size≤gb285):=⟨h1_⟩
                       have n2_:Aside0 (w.heap.size≤gb285):=⟨h2_⟩
                       have n3_:Aside0 (Below w.heap.size w w28):=⟨h3_⟩
                       clear HB
                       clear h0_ h1_ h2_ h3_
                       have BK285:=n0_
                       have GW285:=n1_
                       have GE285:=n2_
                       have HB:=n3_
                       clear n0_ n1_ n2_ n3_
                       have hHeld:w28.cell? (ad281.add ((x25_2).toNat * 2))=some (.int .i64 ((rd_T40 l0 x25_2).f0))∧w28.cell? ⟨(ad281.add ((x25_2).toNat * 2)).block,(ad281.add ((x25_2).toNat * 2)).off+1,none⟩=some (.int .i64 ((rd_T40 l0 x25_2).f1))∧w28.cell? (ad281.add (((ji16)).toNat * 2))=some (.int .i64 ((rd_T40 l0 (ji16)).f0))∧w28.cell? ⟨(ad281.add (((ji16)).toNat * 2)).block,(ad281.add (((ji16)).toNat * 2)).off+1,none⟩=some (.int .i64 ((rd_T40 l0 (ji16)).f1))∧w28.cell? (ad281.add ((x5_3).toNat * 2))=some (.int .i64 ((rd_T40 l0 x5_3).f0))∧w28.cell? ⟨(ad281.add ((x5_3).toNat * 2)).block,(ad281.add ((x5_3).toNat * 2)).off+1,none⟩=some (.int .i64 ((rd_T40 l0 x5_3).f1))∧w28.cell? (ad281.add (((ji22)).toNat * 2))=some (.int .i64 ((rd_T40 l0 (ji22)).f0))∧w28.cell? ⟨(ad281.add (((ji22)).toNat * 2)).block,(ad281.add (((ji22)).toNat * 2)).off+1,none⟩=some (.int .i64 ((rd_T40 l0 (ji22)).f1)):=hS_
                       refine norm_ (a':=?_) ?_ ?_
                       rotate_left
                       ·simp only [putAll,Act.put,List.setIfInBounds_toArray,List.set_cons_zero,List.set_cons_succ]
                        rfl
                       refine three_ (i:=21) (j:=22) (k:=23) (Ni:=some 8) (Nj:=some 9) (Nk:=some 10) (bV 28 4194303) (bV 28 6291455) (bV 28 10485759) rfl rfl rfl rfl rfl rfl (three_of HT_.out (by kernel_rfl)) (by decide) (by decide) (by decide) (fun K hK=>?_) (fun K hK=>?_) (fun K hK=>?_)
                       ·skip
                        refine box_step ?hg (N:=8) ?hd (cs:=#[.int .i64 0,.int .i64 0]) (t:=40) ?hr ?_;(case hd=>rfl);(case hg=>rfl);(case hr=>first|(go_simp;done)|(go_simp;rfl))
                        intro gb286 hg w29 hbox hb
                        have n0_:=Aside0.mk (blk_below BK285.out hb)
                        have n1_:=Aside0.mk (below_step (by repeat (first|(with_reducible first|exact HB.out|apply bA|apply bN|apply bD|refine bS ?_ GE285.out)|exact HB.out)) hb)
                        have n2_:=Aside0.mk (hbox)
                        have n3_:=Aside0.mk ((by rw [hg];exact (below_size (by repeat (first|(with_reducible first|exact HB.out|apply bA|apply bN|apply bD|refine bS ?_ GE285.out)|exact HB.out))):w.heap.size≤gb286))
                        have n4_:=Aside0.mk ((by rw [hg];exact (below_size (by repeat (first|(with_reducible first|exact HB.out|apply bA|apply bN|apply bD|refine bS ?_ GE285.out)|exact HB.out))):w.heap.size≤gb286))
                        have n5_:=Aside0.mk ((by rw [hg];exact Nat.ne_of_lt (blk_lt BK285.out):gb285≠gb286))
                        have n6_:=Aside0.mk ((by rw [hg];exact Nat.ne_of_gt (blk_lt BK285.out):gb286≠gb285))
                        clear BK285
                        clear HB
                        have BK285:=n0_
                        have HB:=n1_
                        have BK286:=n2_
                        have GW286:=n3_
                        have GE286:=n4_
                        have NB285_286:=n5_
                        have NB286_285:=n6_
                        clear n0_ n1_ n2_ n3_ n4_ n5_ n6_
                        clear hb hbox hg
                        refine hK.out _ _ ⟨(cK HB.out hw281_0),(cK HB.out hw281_1),(cK HB.out hw282_0),(cK HB.out hw282_1),(cK HB.out hw283_0),(cK HB.out hw283_1),(cK HB.out hw284_0),(cK HB.out hw284_1)⟩ (fun hHeld=>?_)
                        clear hK K
                        refine norm_ (a':=?_) ?_ ?_
                        rotate_left
                        ·show Act.put _ (some 8) _=_
                         simp only [Act.put,sI,sZ,sS,i64_w,i32_w]
                         rfl
                        exact norm_ (by first|(simp only [putAll,Act.put,List.setIfInBounds_toArray,List.set_cons_zero,List.set_cons_succ];done)|(simp only [putAll,Act.put,List.setIfInBounds_toArray,List.set_cons_zero,List.set_cons_succ];rfl)) (hJ20_21 (gb285,gb286) _ ⟨hHeld,BK285.out,BK286.out,GW285.out,GE285.out,NB286_285.out,NB285_286.out,GW286.out,GE286.out,(by repeat (first|(with_reducible first|exact HB.out|apply bA|apply bN|apply bD|refine bS ?_ GE285.out|refine bS ?_ GE286.out)|exact HB.out))⟩)
                       ·skip
                        refine box_step ?hg (N:=9) ?hd (cs:=#[.int .i64 0,.int .i64 0]) (t:=40) ?hr ?_;(case hd=>rfl);(case hg=>rfl);(case hr=>first|(go_simp;done)|(go_simp;rfl))
                        intro gb287 hg w29 hbox hb
                        have n0_:=Aside0.mk (blk_below BK285.out hb)
                        have n1_:=Aside0.mk (below_step (by repeat (first|(with_reducible first|exact HB.out|apply bA|apply bN|apply bD|refine bS ?_ GE285.out)|exact HB.out)) hb)
                        have n2_:=Aside0.mk (hbox)
                        have n3_:=Aside0.mk ((by rw [hg];exact (below_size (by repeat (first|(with_reducible first|exact HB.out|apply bA|apply bN|apply bD|refine bS ?_ GE285.out)|exact HB.out))):w.heap.size≤gb287))
                        have n4_:=Aside0.mk ((by rw [hg];exact (below_size (by repeat (first|(with_reducible first|exact HB.out|apply bA|apply bN|apply bD|refine bS ?_ GE285.out)|exact HB.out))):w.heap.size≤gb287))
                        have n5_:=Aside0.mk ((by rw [hg];exact Nat.ne_of_lt (blk_lt BK285.out):gb285≠gb287))
                        have n6_:=Aside0.mk ((by rw [hg];exact Nat.ne_of_gt (blk_lt BK285.out):gb287≠gb285))
                        clear BK285
                        clear HB
                        have BK285:=n0_
                        have HB:=n1_
                        have BK287:=n2_
                        have GW287:=n3_
                        have GE287:=n4_
                        have NB285_287:=n5_
                        have NB287_285:=n6_
                        clear n0_ n1_ n2_ n3_ n4_ n5_ n6_
                        clear hb hbox hg
                        refine hK.out _ _ ⟨(cK HB.out hw281_0),(cK HB.out hw281_1),(cK HB.out hw282_0),(cK HB.out hw282_1),(cK HB.out hw283_0),(cK HB.out hw283_1),(cK HB.out hw284_0),(cK HB.out hw284_1)⟩ (fun hHeld=>?_)
                        clear hK K
                        refine norm_ (a':=?_) ?_ ?_
                        rotate_left
                        ·show Act.put _ (some 9) _=_
                         simp only [Act.put,sI,sZ,sS,i64_w,i32_w]
                         rfl
                        exact norm_ (by first|(simp only [putAll,Act.put,List.setIfInBounds_toArray,List.set_cons_zero,List.set_cons_succ];done)|(simp only [putAll,Act.put,List.setIfInBounds_toArray,List.set_cons_zero,List.set_cons_succ];rfl)) (hJ20_22 (gb285,gb287) _ ⟨hHeld,BK285.out,BK287.out,GW285.out,GE285.out,NB287_285.out,NB285_287.out,GW287.out,GE287.out,(by repeat (first|(with_reducible first|exact HB.out|apply bA|apply bN|apply bD|refine bS ?_ GE285.out|refine bS ?_ GE287.out)|exact HB.out))⟩)
                       ·skip
                        refine box_step ?hg (N:=10) ?hd (cs:=#[.int .i64 0,.int .i64 0]) (t:=40) ?hr ?_;(case hd=>rfl);(case hg=>rfl);(case hr=>first|(go_simp;done)|(go_simp;rfl))
                        intro gb288 hg w29 hbox hb
                        have n0_:=Aside0.mk (blk_below BK285.out hb)
                        have n1_:=Aside0.mk (below_step (by repeat (first|(with_reducible first|exact HB.out|apply bA|apply bN|apply bD|refine bS ?_ GE285.out)|exact HB.out)) hb)
                        have n2_:=Aside0.mk (hbox)
                        have n3_:=Aside0.mk ((by rw [hg];exact (below_size (by repeat (first|(with_reducible first|exact HB.out|apply bA|apply bN|apply bD|refine bS ?_ GE285.out)|exact HB.out))):w.heap.size≤gb288))
                        have n4_:=Aside0.mk ((by rw [hg];exact (below_size (by repeat (first|(with_reducible first|exact HB.out|apply bA|apply bN|apply bD|refine bS ?_ GE285.out)|exact HB.out))):w.heap.size≤gb288))
                        have n5_:=Aside0.mk ((by rw [hg];exact Nat.ne_of_lt (blk_lt BK285.out):gb285≠gb288))
                        have n6_:=Aside0.mk ((by rw [hg];exact Nat.ne_of_gt (blk_lt BK285.out):gb288≠gb285))
                        clear BK285
                        clear HB
                        have BK285:=n0_
                        have HB:=n1_
                        have BK288:=n2_
                        have GW288:=n3_
                        have GE288:=n4_
                        have NB285_288:=n5_
                        have NB288_285:=n6_
                        clear n0_ n1_ n2_ n3_ n4_ n5_ n6_
                        clear hb hbox hg
                        refine hK.out _ _ ⟨(cK HB.out hw281_0),(cK HB.out hw281_1),(cK HB.out hw282_0),(cK HB.out hw282_1),(cK HB.out hw283_0),(cK HB.out hw283_1),(cK HB.out hw284_0),(cK HB.out hw284_1)⟩ (fun hHeld=>?_)
                        clear hK K
                        refine norm_ (a':=?_) ?_ ?_
                        rotate_left
                        ·show Act.put _ (some 10) _=_
                         simp only [Act.put,sI,sZ,sS,i64_w,i32_w]
                         rfl
                        exact norm_ (by first|(simp only [putAll,Act.put,List.setIfInBounds_toArray,List.set_cons_zero,List.set_cons_succ];done)|(simp only [putAll,Act.put,List.setIfInBounds_toArray,List.set_cons_zero,List.set_cons_succ];rfl)) (hJ20_23 (gb285,gb288) _ ⟨hHeld,BK285.out,BK288.out,GW285.out,GE285.out,NB288_285.out,NB285_288.out,GW288.out,GE288.out,(by repeat (first|(with_reducible first|exact HB.out|apply bA|apply bN|apply bD|refine bS ?_ GE285.out|refine bS ?_ GE288.out)|exact HB.out))⟩)
                     ·skip
                      rintro ⟨gb287,gb288⟩ w29 ⟨hS_,h0_,h1_,h2_,h3_,h4_,h5_,h6_,h7_,h8_⟩
                      have n0_:Aside0 (w29.heap[gb287]? = some (.cells #[.int .i64 0,.int .i64 0] 40 (0,0))):=⟨h0_⟩
                      have n1_:Aside0 (w29.heap[gb288]? = some (.cells #[.int .i64 0,.int .i64 0] 40 (0,0))):=⟨h1_⟩
                      have n2_:Aside0 (w.heap.size≤gb287):=⟨h2_⟩
                      have n3_:Aside0 (w.heap.size≤gb287):=⟨h3_⟩
                      have n4_:Aside0 (gb288≠gb287):=⟨h4_⟩
                      have n5_:Aside0 (gb287≠gb288):=⟨h5_⟩
                      have n6_:Aside0 (w.heap.size≤gb288):=⟨h6_⟩
                      have n7_:Aside0 (w.heap.size≤gb288):=⟨h7_⟩
                      have n8_:Aside0 (Below w.heap.size w w29):=⟨h8_⟩
                      clear HB
                      clear h0_ h1_ h2_ h3_ h4_ h5_ h6_ h7_ h8_
                      have BK287:=n0_
                      have BK288:=n1_
                      have GW287:=n2_
                      have GE287:=n3_
                      have NB288_287:=n4_
                      have NB287_288:=n5_
                      have GW288:=n6_
                      have GE288:=n7_
                      have HB:=n8_
                      clear n0_ n1_ n2_ n3_ n4_ n5_ n6_ n7_ n8_
                      have hHeld:w29.cell? (ad281.add ((x25_2).toNat * 2))=some (.int .i64 ((rd_T40 l0 x25_2).f0))∧w29.cell? ⟨(ad281.add ((x25_2).toNat * 2)).block,(ad281.add ((x25_2).toNat * 2)).off+1,none⟩=some (.int .i64 ((rd_T40 l0 x25_2).f1))∧w29.cell? (ad281.add (((ji16)).toNat * 2))=some (.int .i64 ((rd_T40 l0 (ji16)).f0))∧w29.cell? ⟨(ad281.add (((ji16)).toNat * 2)).block,(ad281.add (((ji16)).toNat * 2)).off+1,none⟩=some (.int .i64 ((rd_T40 l0 (ji16)).f1))∧w29.cell? (ad281.add ((x5_3).toNat * 2))=some (.int .i64 ((rd_T40 l0 x5_3).f0))∧w29.cell? ⟨(ad281.add ((x5_3).toNat * 2)).block,(ad281.add ((x5_3).toNat * 2)).off+1,none⟩=some (.int .i64 ((rd_T40 l0 x5_3).f1))∧w29.cell? (ad281.add (((ji22)).toNat * 2))=some (.int .i64 ((rd_T40 l0 (ji22)).f0))∧w29.cell? ⟨(ad281.add (((ji22)).toNat * 2)).block,(ad281.add (((ji22)).toNat * 2)).off+1,none⟩=some (.int .i64 ((rd_T40 l0 (ji22)).f1)):=hS_
                      refine norm_ (a':=?_) ?_ ?_
                      rotate_left
                      ·simp only [putAll,Act.put,List.setIfInBounds_toArray,List.set_cons_zero,List.set_cons_succ]
                       rfl
                      refine two_ (i:=20) (j:=21) (Ni:=some 7) (Nj:=some 8) (bV 28 14680063) (bV 28 15728639) rfl rfl rfl rfl (two_of HT_.out (by kernel_rfl)) (by decide) (by decide) (fun K hK=>?_) (fun K hK=>?_)
                      ·skip
                       refine box_step ?hg (N:=7) ?hd (cs:=#[.int .i64 0,.int .i64 0]) (t:=40) ?hr ?_;(case hd=>rfl);(case hg=>rfl);(case hr=>first|(go_simp;done)|(go_simp;rfl))
                       intro gb285 hg w30 hbox hb
                       have n0_:=Aside0.mk (blk_below BK287.out hb)
                       have n1_:=Aside0.mk (blk_below BK288.out hb)
                       have n2_:=Aside0.mk (below_step (by repeat (first|(with_reducible first|exact HB.out|apply bA|apply bN|apply bD|refine bS ?_ GE287.out|refine bS ?_ GE288.out)|exact HB.out)) hb)
                       have n3_:=Aside0.mk (hbox)
                       have n4_:=Aside0.mk ((by rw [hg];exact (below_size (by repeat (first|(with_reducible first|exact HB.out|apply bA|apply bN|apply bD|refine bS ?_ GE287.out|refine bS ?_ GE288.out)|exact HB.out))):w.heap.size≤gb285))
                       have n5_:=Aside0.mk ((by rw [hg];exact (below_size (by repeat (first|(with_reducible first|exact HB.out|apply bA|apply bN|apply bD|refine bS ?_ GE287.out|refine bS ?_ GE288.out)|exact HB.out))):w.heap.size≤gb285))
                       have n6_:=Aside0.mk ((by rw [hg];exact Nat.ne_of_lt (blk_lt BK287.out):gb287≠gb285))
                       have n7_:=Aside0.mk ((by rw [hg];exact Nat.ne_of_gt (blk_lt BK287.out):gb285≠gb287))
                       have n8_:=Aside0.mk ((by rw [hg];exact Nat.ne_of_lt (blk_lt BK288.out):gb288≠gb285))
                       have n9_:=Aside0.mk ((by rw [hg];exact Nat.ne_of_gt (blk_lt BK288.out):gb285≠gb288))
                       clear BK287
                       clear BK288
                       clear HB
                       have BK287:=n0_
                       have BK288:=n1_
                       have HB:=n2_
                       have BK285:=n3_
                       have GW285:=n4_
                       have GE285:=n5_
                       have NB287_285:=n6_
                       have NB285_287:=n7_
                       have NB288_285:=n8_
                       have NB285_288:=n9_
                       clear n0_ n1_ n2_ n3_ n4_ n5_ n6_ n7_ n8_ n9_
                       clear hb hbox hg
                       refine hK.out _ _ ⟨(cK HB.out hw281_0),(cK HB.out hw281_1),(cK HB.out hw282_0),(cK HB.out hw282_1),(cK HB.out hw283_0),(cK HB.out hw283_1),(cK HB.out hw284_0),(cK HB.out hw284_1)⟩ (fun hHeld=>?_)
                       clear hK K
                       refine norm_ (a':=?_) ?_ ?_
                       rotate_left
                       ·show Act.put _ (some 7) _=_
                        simp only [Act.put,sI,sZ,sS,i64_w,i32_w]
                        rfl
                       exact norm_ (by first|(simp only [putAll,Act.put,List.setIfInBounds_toArray,List.set_cons_zero,List.set_cons_succ];done)|(simp only [putAll,Act.put,List.setIfInBounds_toArray,List.set_cons_zero,List.set_cons_succ];rfl)) (hJ20_22_23 (gb285,gb287,gb288) _ ⟨hHeld,BK285.out,BK287.out,BK288.out,GW285.out,GE285.out,NB287_285.out,NB285_287.out,NB288_285.out,NB285_288.out,GW287.out,GE287.out,NB288_287.out,NB287_288.out,GW288.out,GE288.out,(by repeat (first|(with_reducible first|exact HB.out|apply bA|apply bN|apply bD|refine bS ?_ GE287.out|refine bS ?_ GE288.out|refine bS ?_ GE285.out)|exact HB.out))⟩)
                      ·skip
                       refine box_step ?hg (N:=8) ?hd (cs:=#[.int .i64 0,.int .i64 0]) (t:=40) ?hr ?_;(case hd=>rfl);(case hg=>rfl);(case hr=>first|(go_simp;done)|(go_simp;rfl))
                       intro gb286 hg w30 hbox hb
                       have n0_:=Aside0.mk (blk_below BK287.out hb)
                       have n1_:=Aside0.mk (blk_below BK288.out hb)
                       have n2_:=Aside0.mk (below_step (by repeat (first|(with_reducible first|exact HB.out|apply bA|apply bN|apply bD|refine bS ?_ GE287.out|refine bS ?_ GE288.out)|exact HB.out)) hb)
                       have n3_:=Aside0.mk (hbox)
                       have n4_:=Aside0.mk ((by rw [hg];exact (below_size (by repeat (first|(with_reducible first|exact HB.out|apply bA|apply bN|apply bD|refine bS ?_ GE287.out|refine bS ?_ GE288.out)|exact HB.out))):w.heap.size≤gb286))
                       have n5_:=Aside0.mk ((by rw [hg];exact (below_size (by repeat (first|(with_reducible first|exact HB.out|apply bA|apply bN|apply bD|refine bS ?_ GE287.out|refine bS ?_ GE288.out)|exact HB.out))):w.heap.size≤gb286))
                       have n6_:=Aside0.mk ((by rw [hg];exact Nat.ne_of_lt (blk_lt BK287.out):gb287≠gb286))
                       have n7_:=Aside0.mk ((by rw [hg];exact Nat.ne_of_gt (blk_lt BK287.out):gb286≠gb287))
                       have n8_:=Aside0.mk ((by rw [hg];exact Nat.ne_of_lt (blk_lt BK288.out):gb288≠gb286))
                       have n9_:=Aside0.mk ((by rw [hg];exact Nat.ne_of_gt (blk_lt BK288.out):gb286≠gb288))
                       clear BK287
                       clear BK288
                       clear HB
                       have BK287:=n0_
                       have BK288:=n1_
                       have HB:=n2_
                       have BK286:=n3_
                       have GW286:=n4_
                       have GE286:=n5_
                       have NB287_286:=n6_
                       have NB286_287:=n7_
                       have NB288_286:=n8_
                       have NB286_288:=n9_
                       clear n0_ n1_ n2_ n3_ n4_ n5_ n6_ n7_ n8_ n9_
                       clear hb hbox hg
                       refine hK.out _ _ ⟨(cK HB.out hw281_0),(cK HB.out hw281_1),(cK HB.out hw282_0),(cK HB.out hw282_1),(cK HB.out hw283_0),(cK HB.out hw283_1),(cK HB.out hw284_0),(cK HB.out hw284_1)⟩ (fun hHeld=>?_)
                       clear hK K
                       refine norm_ (a':=?_) ?_ ?_
                       rotate_left
                       ·show Act.put _ (some 8) _=_
                        simp only [Act.put,sI,sZ,sS,i64_w,i32_w]
                        rfl
                       exact norm_ (by first|(simp only [putAll,Act.put,List.setIfInBounds_toArray,List.set_cons_zero,List.set_cons_succ];done)|(simp only [putAll,Act.put,List.setIfInBounds_toArray,List.set_cons_zero,List.set_cons_succ];rfl)) (hJ21_22_23 (gb286,gb287,gb288) _ ⟨hHeld,BK286.out,BK287.out,BK288.out,GW286.out,GE286.out,NB287_286.out,NB286_287.out,NB288_286.out,NB286_288.out,GW287.out,GE287.out,NB288_287.out,NB287_288.out,GW288.out,GE288.out,(by repeat (first|(with_reducible first|exact HB.out|apply bA|apply bN|apply bD|refine bS ?_ GE287.out|refine bS ?_ GE288.out|refine bS ?_ GE286.out)|exact HB.out))⟩)
                    ·skip
                     rintro ⟨gb286,gb288⟩ w29 ⟨hS_,h0_,h1_,h2_,h3_,h4_,h5_,h6_,h7_,h8_⟩
                     have n0_:Aside0 (w29.heap[gb286]? = some (.cells #[.int .i64 0,.int .i64 0] 40 (0,0))):=⟨h0_⟩
                     have n1_:Aside0 (w29.heap[gb288]? = some (.cells #[.int .i64 0,.int .i64 0] 40 (0,0))):=⟨h1_⟩
                     have n2_:Aside0 (w.heap.size≤gb286):=⟨h2_⟩
                     have n3_:Aside0 (w.heap.size≤gb286):=⟨h3_⟩
                     have n4_:Aside0 (gb288≠gb286):=⟨h4_⟩
                     have n5_:Aside0 (gb286≠gb288):=⟨h5_⟩
                     have n6_:Aside0 (w.heap.size≤gb288):=⟨h6_⟩
                     have n7_:Aside0 (w.heap.size≤gb288):=⟨h7_⟩
                     have n8_:Aside0 (Below w.heap.size w w29):=⟨h8_⟩
                     clear HB
                     clear h0_ h1_ h2_ h3_ h4_ h5_ h6_ h7_ h8_
                     have BK286:=n0_
                     have BK288:=n1_
                     have GW286:=n2_
                     have GE286:=n3_
                     have NB288_286:=n4_
                     have NB286_288:=n5_
                     have GW288:=n6_
                     have GE288:=n7_
                     have HB:=n8_
                     clear n0_ n1_ n2_ n3_ n4_ n5_ n6_ n7_ n8_
                     have hHeld:w29.cell? (ad281.add ((x25_2).toNat * 2))=some (.int .i64 ((rd_T40 l0 x25_2).f0))∧w29.cell? ⟨(ad281.add ((x25_2).toNat * 2)).block,(ad281.add ((x25_2).toNat * 2)).off+1,none⟩=some (.int .i64 ((rd_T40 l0 x25_2).f1))∧w29.cell? (ad281.add (((ji16)).toNat * 2))=some (.int .i64 ((rd_T40 l0 (ji16)).f0))∧w29.cell? ⟨(ad281.add (((ji16)).toNat * 2)).block,(ad281.add (((ji16)).toNat * 2)).off+1,none⟩=some (.int .i64 ((rd_T40 l0 (ji16)).f1))∧w29.cell? (ad281.add ((x5_3).toNat * 2))=some (.int .i64 ((rd_T40 l0 x5_3).f0))∧w29.cell? ⟨(ad281.add ((x5_3).toNat * 2)).block,(ad281.add ((x5_3).toNat * 2)).off+1,none⟩=some (.int .i64 ((rd_T40 l0 x5_3).f1))∧w29.cell? (ad281.add (((ji22)).toNat * 2))=some (.int .i64 ((rd_T40 l0 (ji22)).f0))∧w29.cell? ⟨(ad281.add (((ji22)).toNat * 2)).block,(ad281.add (((ji22)).toNat * 2)).off+1,none⟩=some (.int .i64 ((rd_T40 l0 (ji22)).f1)):=hS_
                     refine norm_ (a':=?_) ?_ ?_
                     rotate_left
                     ·simp only [putAll,Act.put,List.setIfInBounds_toArray,List.set_cons_zero,List.set_cons_succ]
                      rfl
                     refine two_ (i:=20) (j:=22) (Ni:=some 7) (Nj:=some 9) (bV 28 12582911) (bV 28 15728639) rfl rfl rfl rfl (two_of HT_.out (by kernel_rfl)) (by decide) (by decide) (fun K hK=>?_) (fun K hK=>?_)
                     ·skip
                      refine box_step ?hg (N:=7) ?hd (cs:=#[.int .i64 0,.int .i64 0]) (t:=40) ?hr ?_;(case hd=>rfl);(case hg=>rfl);(case hr=>first|(go_simp;done)|(go_simp;rfl))
                      intro gb285 hg w30 hbox hb
                      have n0_:=Aside0.mk (blk_below BK286.out hb)
                      have n1_:=Aside0.mk (blk_below BK288.out hb)
                      have n2_:=Aside0.mk (below_step (by repeat (first|(with_reducible first|exact HB.out|apply bA|apply bN|apply bD|refine bS ?_ GE286.out|refine bS ?_ GE288.out)|exact HB.out)) hb)
                      have n3_:=Aside0.mk (hbox)
                      have n4_:=Aside0.mk ((by rw [hg];exact (below_size (by repeat (first|(with_reducible first|exact HB.out|apply bA|apply bN|apply bD|refine bS ?_ GE286.out|refine bS ?_ GE288.out)|exact HB.out))):w.heap.size≤gb285))
                      have n5_:=Aside0.mk ((by rw [hg];exact (below_size (by repeat (first|(with_reducible first|exact HB.out|apply bA|apply bN|apply bD|refine bS ?_ GE286.out|refine bS ?_ GE288.out)|exact HB.out))):w.heap.size≤gb285))
                      have n6_:=Aside0.mk ((by rw [hg];exact Nat.ne_of_lt (blk_lt BK286.out):gb286≠gb285))
                      have n7_:=Aside0.mk ((by rw [hg];exact Nat.ne_of_gt (blk_lt BK286.out):gb285≠gb286))
                      have n8_:=Aside0.mk ((by rw [hg];exact Nat.ne_of_lt (blk_lt BK288.out):gb288≠gb285))
                      have n9_:=Aside0.mk ((by rw [hg];exact Nat.ne_of_gt (blk_lt BK288.out):gb285≠gb288))
                      clear BK286
                      clear BK288
                      clear HB
                      have BK286:=n0_
                      have BK288:=n1_
                      have HB:=n2_
                      have BK285:=n3_
                      have GW285:=n4_
                      have GE285:=n5_
                      have NB286_285:=n6_
                      have NB285_286:=n7_
                      have NB288_285:=n8_
                      have NB285_288:=n9_
                      clear n0_ n1_ n2_ n3_ n4_ n5_ n6_ n7_ n8_ n9_
                      clear hb hbox hg
                      refine hK.out _ _ ⟨(cK HB.out hw281_0),(cK HB.out hw281_1),(cK HB.out hw282_0),(cK HB.out hw282_1),(cK HB.out hw283_0),(cK HB.out hw283_1),(cK HB.out hw284_0),(cK HB.out hw284_1)⟩ (fun hHeld=>?_)
                      clear hK K
                      refine norm_ (a':=?_) ?_ ?_
                      rotate_left
                      ·show Act.put _ (some 7) _=_
                       simp only [Act.put,sI,sZ,sS,i64_w,i32_w]
                       rfl
                      exact norm_ (by first|(simp only [putAll,Act.put,List.setIfInBounds_toArray,List.set_cons_zero,List.set_cons_succ];done)|(simp only [putAll,Act.put,List.setIfInBounds_toArray,List.set_cons_zero,List.set_cons_succ];rfl)) (hJ20_21_23 (gb285,gb286,gb288) _ ⟨hHeld,BK285.out,BK286.out,BK288.out,GW285.out,GE285.out,NB286_285.out,NB285_286.out,NB288_285.out,NB285_288.out,GW286.out,GE286.out,NB288_286.out,NB286_288.out,GW288.out,GE288.out,(by repeat (first|(with_reducible first|exact HB.out|apply bA|apply bN|apply bD|refine bS ?_ GE286.out|refine bS ?_ GE288.out|refine bS ?_ GE285.out)|exact HB.out))⟩)
                     ·skip
                      refine box_step ?hg (N:=9) ?hd (cs:=#[.int .i64 0,.int .i64 0]) (t:=40) ?hr ?_;(case hd=>rfl);(case hg=>rfl);(case hr=>first|(go_simp;done)|(go_simp;rfl))
                      intro gb287 hg w30 hbox hb
                      have n0_:=Aside0.mk (blk_below BK286.out hb)
                      have n1_:=Aside0.mk (blk_below BK288.out hb)
                      have n2_:=Aside0.mk (below_step (by repeat (first|(with_reducible first|exact HB.out|apply bA|apply bN|apply bD|refine bS ?_ GE286.out|refine bS ?_ GE288.out)|exact HB.out)) hb)
                      have n3_:=Aside0.mk (hbox)
                      have n4_:=Aside0.mk ((by rw [hg];exact (below_size (by repeat (first|(with_reducible first|exact HB.out|apply bA|apply bN|apply bD|refine bS ?_ GE286.out|refine bS ?_ GE288.out)|exact HB.out))):w.heap.size≤gb287))
                      have n5_:=Aside0.mk ((by rw [hg];exact (below_size (by repeat (first|(with_reducible first|exact HB.out|apply bA|apply bN|apply bD|refine bS ?_ GE286.out|refine bS ?_ GE288.out)|exact HB.out))):w.heap.size≤gb287))
                      have n6_:=Aside0.mk ((by rw [hg];exact Nat.ne_of_lt (blk_lt BK286.out):gb286≠gb287))
                      have n7_:=Aside0.mk ((by rw [hg];exact Nat.ne_of_gt (blk_lt BK286.out):gb287≠gb286))
                      have n8_:=Aside0.mk ((by rw [hg];exact Nat.ne_of_lt (blk_lt BK288.out):gb288≠gb287))
                      have n9_:=Aside0.mk ((by rw [hg];exact Nat.ne_of_gt (blk_lt BK288.out):gb287≠gb288))
                      clear BK286
                      clear BK288
                      clear HB
                      have BK286:=n0_
                      have BK288:=n1_
                      have HB:=n2_
                      have BK287:=n3_
                      have GW287:=n4_
                      have GE287:=n5_
                      have NB286_287:=n6_
                      have NB287_286:=n7_
                      have NB288_287:=n8_
                      have NB287_288:=n9_
                      clear n0_ n1_ n2_ n3_ n4_ n5_ n6_ n7_ n8_ n9_
                      clear hb hbox hg
                      refine hK.out _ _ ⟨(cK HB.out hw281_0),(cK HB.out hw281_1),(cK HB.out hw282_0),(cK HB.out hw282_1),(cK HB.out hw283_0),(cK HB.out hw283_1),(cK HB.out hw284_0),(cK HB.out hw284_1)⟩ (fun hHeld=>?_)
                      clear hK K
                      refine norm_ (a':=?_) ?_ ?_
                      rotate_left
                      ·show Act.put _ (some 9) _=_
                       simp only [Act.put,sI,sZ,sS,i64_w,i32_w]
                       rfl
                      exact norm_ (by first|(simp only [putAll,Act.put,List.setIfInBounds_toArray,List.set_cons_zero,List.set_cons_succ];done)|(simp only [putAll,Act.put,List.setIfInBounds_toArray,List.set_cons_zero,List.set_cons_succ];rfl)) (hJ21_22_23 (gb286,gb287,gb288) _ ⟨hHeld,BK286.out,BK287.out,BK288.out,GW286.out,GE286.out,NB287_286.out,NB286_287.out,NB288_286.out,NB286_288.out,GW287.out,GE287.out,NB288_287.out,NB287_288.out,GW288.out,GE288.out,(by repeat (first|(with_reducible first|exact HB.out|apply bA|apply bN|apply bD|refine bS ?_ GE286.out|refine bS ?_ GE288.out|refine bS ?_ GE287.out)|exact HB.out))⟩)
                   ·skip
                    rintro ⟨gb286,gb287⟩ w29 ⟨hS_,h0_,h1_,h2_,h3_,h4_,h5_,h6_,h7_,h8_⟩
                    have n0_:Aside0 (w29.heap[gb286]? = some (.cells #[.int .i64 0,.int .i64 0] 40 (0,0))):=⟨h0_⟩
                    have n1_:Aside0 (w29.heap[gb287]? = some (.cells #[.int .i64 0,.int .i64 0] 40 (0,0))):=⟨h1_⟩
                    have n2_:Aside0 (w.heap.size≤gb286):=⟨h2_⟩
                    have n3_:Aside0 (w.heap.size≤gb286):=⟨h3_⟩
                    have n4_:Aside0 (gb287≠gb286):=⟨h4_⟩
                    have n5_:Aside0 (gb286≠gb287):=⟨h5_⟩
                    have n6_:Aside0 (w.heap.size≤gb287):=⟨h6_⟩
                    have n7_:Aside0 (w.heap.size≤gb287):=⟨h7_⟩
                    have n8_:Aside0 (Below w.heap.size w w29):=⟨h8_⟩
                    clear HB
                    clear h0_ h1_ h2_ h3_ h4_ h5_ h6_ h7_ h8_
                    have BK286:=n0_
                    have BK287:=n1_
                    have GW286:=n2_
                    have GE286:=n3_
                    have NB287_286:=n4_
                    have NB286_287:=n5_
                    have GW287:=n6_
                    have GE287:=n7_
                    have HB:=n8_
                    clear n0_ n1_ n2_ n3_ n4_ n5_ n6_ n7_ n8_
                    have hHeld:w29.cell? (ad281.add ((x25_2).toNat * 2))=some (.int .i64 ((rd_T40 l0 x25_2).f0))∧w29.cell? ⟨(ad281.add ((x25_2).toNat * 2)).block,(ad281.add ((x25_2).toNat * 2)).off+1,none⟩=some (.int .i64 ((rd_T40 l0 x25_2).f1))∧w29.cell? (ad281.add (((ji16)).toNat * 2))=some (.int .i64 ((rd_T40 l0 (ji16)).f0))∧w29.cell? ⟨(ad281.add (((ji16)).toNat * 2)).block,(ad281.add (((ji16)).toNat * 2)).off+1,none⟩=some (.int .i64 ((rd_T40 l0 (ji16)).f1))∧w29.cell? (ad281.add ((x5_3).toNat * 2))=some (.int .i64 ((rd_T40 l0 x5_3).f0))∧w29.cell? ⟨(ad281.add ((x5_3).toNat * 2)).block,(ad281.add ((x5_3).toNat * 2)).off+1,none⟩=some (.int .i64 ((rd_T40 l0 x5_3).f1))∧w29.cell? (ad281.add (((ji22)).toNat * 2))=some (.int .i64 ((rd_T40 l0 (ji22)).f0))∧w29.cell? ⟨(ad281.add (((ji22)).toNat * 2)).block,(ad281.add (((ji22)).toNat * 2)).off+1,none⟩=some (.int .i64 ((rd_T40 l0 (ji22)).f1)):=hS_
                    refine norm_ (a':=?_) ?_ ?_
                    rotate_left
                    ·simp only [putAll,Act.put,List.setIfInBounds_toArray,List.set_cons_zero,List.set_cons_succ]
                     rfl
                    refine two_ (i:=20) (j:=23) (Ni:=some 7) (Nj:=some 10) (bV 28 8388607) (bV 28 15728639) rfl rfl rfl rfl (two_of HT_.out (by kernel_rfl)) (by decide) (by decide) (fun K hK=>?_) (fun K hK=>?_)
                    ·skip
                     refine box_step ?hg (N:=7) ?hd (cs:=#[.int .i64 0,.int .i64 0]) (t:=40) ?hr ?_;(case hd=>rfl);(case hg=>rfl);(case hr=>first|(go_simp;done)|(go_simp;rfl))
                     intro gb285 hg w30 hbox hb
                     have n0_:=Aside0.mk (blk_below BK286.out hb)
                     have n1_:=Aside0.mk (blk_below BK287.out hb)
                     have n2_:=Aside0.mk (below_step (by repeat (first|(with_reducible first|exact HB.out|apply bA|apply bN|apply bD|refine bS ?_ GE286.out|refine bS ?_ GE287.out)|exact HB.out)) hb)
                     have n3_:=Aside0.mk (hbox)
                     have n4_:=Aside0.mk ((by rw [hg];exact (below_size (by repeat (first|(with_reducible first|exact HB.out|apply bA|apply bN|apply bD|refine bS ?_ GE286.out|refine bS ?_ GE287.out)|exact HB.out))):w.heap.size≤gb285))
                     have n5_:=Aside0.mk ((by rw [hg];exact (below_size (by repeat (first|(with_reducible first|exact HB.out|apply bA|apply bN|apply bD|refine bS ?_ GE286.out|refine bS ?_ GE287.out)|exact HB.out))):w.heap.size≤gb285))
                     have n6_:=Aside0.mk ((by rw [hg];exact Nat.ne_of_lt (blk_lt BK286.out):gb286≠gb285))
                     have n7_:=Aside0.mk ((by rw [hg];exact Nat.ne_of_gt (blk_lt BK286.out):gb285≠gb286))
                     have n8_:=Aside0.mk ((by rw [hg];exact Nat.ne_of_lt (blk_lt BK287.out):gb287≠gb285))
                     have n9_:=Aside0.mk ((by rw [hg];exact Nat.ne_of_gt (blk_lt BK287.out):gb285≠gb287))
                     clear BK286
                     clear BK287
                     clear HB
                     have BK286:=n0_
                     have BK287:=n1_
                     have HB:=n2_
                     have BK285:=n3_
                     have GW285:=n4_
                     have GE285:=n5_
                     have NB286_285:=n6_
                     have NB285_286:=n7_
                     have NB287_285:=n8_
                     have NB285_287:=n9_
                     clear n0_ n1_ n2_ n3_ n4_ n5_ n6_ n7_ n8_ n9_
                     clear hb hbox hg
                     refine hK.out _ _ ⟨(cK HB.out hw281_0),(cK HB.out hw281_1),(cK HB.out hw282_0),(cK HB.out hw282_1),(cK HB.out hw283_0),(cK HB.out hw283_1),(cK HB.out hw284_0),(cK HB.out hw284_1)⟩ (fun hHeld=>?_)
                     clear hK K
                     refine norm_ (a':=?_) ?_ ?_
                     rotate_left
                     ·show Act.put _ (some 7) _=_
                      simp only [Act.put,sI,sZ,sS,i64_w,i32_w]
                      rfl
                     exact norm_ (by first|(simp only [putAll,Act.put,List.setIfInBounds_toArray,List.set_cons_zero,List.set_cons_succ];done)|(simp only [putAll,Act.put,List.setIfInBounds_toArray,List.set_cons_zero,List.set_cons_succ];rfl)) (hJ20_21_22 (gb285,gb286,gb287) _ ⟨hHeld,BK285.out,BK286.out,BK287.out,GW285.out,GE285.out,NB286_285.out,NB285_286.out,NB287_285.out,NB285_287.out,GW286.out,GE286.out,NB287_286.out,NB286_287.out,GW287.out,GE287.out,(by repeat (first|(with_reducible first|exact HB.out|apply bA|apply bN|apply bD|refine bS ?_ GE286.out|refine bS ?_ GE287.out|refine bS ?_ GE285.out)|exact HB.out))⟩)
                    ·skip
                     refine box_step ?hg (N:=10) ?hd (cs:=#[.int .i64 0,.int .i64 0]) (t:=40) ?hr ?_;(case hd=>rfl);(case hg=>rfl);(case hr=>first|(go_simp;done)|(go_simp;rfl))
                     intro gb288 hg w30 hbox hb
                     have n0_:=Aside0.mk (blk_below BK286.out hb)
                     have n1_:=Aside0.mk (blk_below BK287.out hb)
                     have n2_:=Aside0.mk (below_step (by repeat (first|(with_reducible first|exact HB.out|apply bA|apply bN|apply bD|refine bS ?_ GE286.out|refine bS ?_ GE287.out)|exact HB.out)) hb)
                     have n3_:=Aside0.mk (hbox)
                     have n4_:=Aside0.mk ((by rw [hg];exact (below_size (by repeat (first|(with_reducible first|exact HB.out|apply bA|apply bN|apply bD|refine bS ?_ GE286.out|refine bS ?_ GE287.out)|exact HB.out))):w.heap.size≤gb288))
                     have n5_:=Aside0.mk ((by rw [hg];exact (below_size (by repeat (first|(with_reducible first|exact HB.out|apply bA|apply bN|apply bD|refine bS ?_ GE286.out|refine bS ?_ GE287.out)|exact HB.out))):w.heap.size≤gb288))
                     have n6_:=Aside0.mk ((by rw [hg];exact Nat.ne_of_lt (blk_lt BK286.out):gb286≠gb288))
                     have n7_:=Aside0.mk ((by rw [hg];exact Nat.ne_of_gt (blk_lt BK286.out):gb288≠gb286))
                     have n8_:=Aside0.mk ((by rw [hg];exact Nat.ne_of_lt (blk_lt BK287.out):gb287≠gb288))
                     have n9_:=Aside0.mk ((by rw [hg];exact Nat.ne_of_gt (blk_lt BK287.out):gb288≠gb287))
                     clear BK286
                     clear BK287
                     clear HB
                     have BK286:=n0_
                     have BK287:=n1_
                     have HB:=n2_
                     have BK288:=n3_
                     have GW288:=n4_
                     have GE288:=n5_
                     have NB286_288:=n6_
                     have NB288_286:=n7_
                     have NB287_288:=n8_
                     have NB288_287:=n9_
                     clear n0_ n1_ n2_ n3_ n4_ n5_ n6_ n7_ n8_ n9_
                     clear hb hbox hg
                     refine hK.out _ _ ⟨(cK HB.out hw281_0),(cK HB.out hw281_1),(cK HB.out hw282_0),(cK HB.out hw282_1),(cK HB.out hw283_0),(cK HB.out hw283_1),(cK HB.out hw284_0),(cK HB.out hw284_1)⟩ (fun hHeld=>?_)
                     clear hK K
                     refine norm_ (a':=?_) ?_ ?_
                     rotate_left
                     ·show Act.put _ (some 10) _=_
                      simp only [Act.put,sI,sZ,sS,i64_w,i32_w]
                      rfl
                     exact norm_ (by first|(simp only [putAll,Act.put,List.setIfInBounds_toArray,List.set_cons_zero,List.set_cons_succ];done)|(simp only [putAll,Act.put,List.setIfInBounds_toArray,List.set_cons_zero,List.set_cons_succ];rfl)) (hJ21_22_23 (gb286,gb287,gb288) _ ⟨hHeld,BK286.out,BK287.out,BK288.out,GW286.out,GE286.out,NB287_286.out,NB286_287.out,NB288_286.out,NB286_288.out,GW287.out,GE287.out,NB288_287.out,NB287_288.out,GW288.out,GE288.out,(by repeat (first|(with_reducible first|exact HB.out|apply bA|apply bN|apply bD|refine bS ?_ GE286.out|refine bS ?_ GE287.out|refine bS ?_ GE288.out)|exact HB.out))⟩)
                  ·skip
                   rintro ⟨gb285,gb288⟩ w29 ⟨hS_,h0_,h1_,h2_,h3_,h4_,h5_,h6_,h7_,h8_⟩
                   have n0_:Aside0 (w29.heap[gb285]? = some (.cells #[.int .i64 0,.int .i64 0] 40 (0,0))):=⟨h0_⟩
                   have n1_:Aside0 (w29.heap[gb288]? = some (.cells #[.int .i64 0,.int .i64 0] 40 (0,0))):=⟨h1_⟩
                   have n2_:Aside0 (w.heap.size≤gb285):=⟨h2_⟩
                   have n3_:Aside0 (w.heap.size≤gb285):=⟨h3_⟩
                   have n4_:Aside0 (gb288≠gb285):=⟨h4_⟩
                   have n5_:Aside0 (gb285≠gb288):=⟨h5_⟩
                   have n6_:Aside0 (w.heap.size≤gb288):=⟨h6_⟩
                   have n7_:Aside0 (w.heap.size≤gb288):=⟨h7_⟩
                   have n8_:Aside0 (Below w.heap.size w w29):=⟨h8_⟩
                   clear HB
                   clear h0_ h1_ h2_ h3_ h4_ h5_ h6_ h7_ h8_
                   have BK285:=n0_
                   have BK288:=n1_
                   have GW285:=n2_
                   have GE285:=n3_
                   have NB288_285:=n4_
                   have NB285_288:=n5_
                   have GW288:=n6_
                   have GE288:=n7_
                   have HB:=n8_
                   clear n0_ n1_ n2_ n3_ n4_ n5_ n6_ n7_ n8_
                   have hHeld:w29.cell? (ad281.add ((x25_2).toNat * 2))=some (.int .i64 ((rd_T40 l0 x25_2).f0))∧w29.cell? ⟨(ad281.add ((x25_2).toNat * 2)).block,(ad281.add ((x25_2).toNat * 2)).off+1,none⟩=some (.int .i64 ((rd_T40 l0 x25_2).f1))∧w29.cell? (ad281.add (((ji16)).toNat * 2))=some (.int .i64 ((rd_T40 l0 (ji16)).f0))∧w29.cell? ⟨(ad281.add (((ji16)).toNat * 2)).block,(ad281.add (((ji16)).toNat * 2)).off+1,none⟩=some (.int .i64 ((rd_T40 l0 (ji16)).f1))∧w29.cell? (ad281.add ((x5_3).toNat * 2))=some (.int .i64 ((rd_T40 l0 x5_3).f0))∧w29.cell? ⟨(ad281.add ((x5_3).toNat * 2)).block,(ad281.add ((x5_3).toNat * 2)).off+1,none⟩=some (.int .i64 ((rd_T40 l0 x5_3).f1))∧w29.cell? (ad281.add (((ji22)).toNat * 2))=some (.int .i64 ((rd_T40 l0 (ji22)).f0))∧w29.cell? ⟨(ad281.add (((ji22)).toNat * 2)).block,(ad281.add (((ji22)).toNat * 2)).off+1,none⟩=some (.int .i64 ((rd_T40 l0 (ji22)).f1)):=hS_
                   refine norm_ (a':=?_) ?_ ?_
                   rotate_left
                   ·simp only [putAll,Act.put,List.setIfInBounds_toArray,List.set_cons_zero,List.set_cons_succ]
                    rfl
                   refine two_ (i:=21) (j:=22) (Ni:=some 8) (Nj:=some 9) (bV 28 12582911) (bV 28 14680063) rfl rfl rfl rfl (two_of HT_.out (by kernel_rfl)) (by decide) (by decide) (fun K hK=>?_) (fun K hK=>?_)
                   ·skip
                    refine box_step ?hg (N:=8) ?hd (cs:=#[.int .i64 0,.int .i64 0]) (t:=40) ?hr ?_;(case hd=>rfl);(case hg=>rfl);(case hr=>first|(go_simp;done)|(go_simp;rfl))
                    intro gb286 hg w30 hbox hb
                    have n0_:=Aside0.mk (blk_below BK285.out hb)
                    have n1_:=Aside0.mk (blk_below BK288.out hb)
                    have n2_:=Aside0.mk (below_step (by repeat (first|(with_reducible first|exact HB.out|apply bA|apply bN|apply bD|refine bS ?_ GE285.out|refine bS ?_ GE288.out)|exact HB.out)) hb)
                    have n3_:=Aside0.mk (hbox)
                    have n4_:=Aside0.mk ((by rw [hg];exact (below_size (by repeat (first|(with_reducible first|exact HB.out|apply bA|apply bN|apply bD|refine bS ?_ GE285.out|refine bS ?_ GE288.out)|exact HB.out))):w.heap.size≤gb286))
                    have n5_:=Aside0.mk ((by rw [hg];exact (below_size (by repeat (first|(with_reducible first|exact HB.out|apply bA|apply bN|apply bD|refine bS ?_ GE285.out|refine bS ?_ GE288.out)|exact HB.out))):w.heap.size≤gb286))
                    have n6_:=Aside0.mk ((by rw [hg];exact Nat.ne_of_lt (blk_lt BK285.out):gb285≠gb286))
                    have n7_:=Aside0.mk ((by rw [hg];exact Nat.ne_of_gt (blk_lt BK285.out):gb286≠gb285))
                    have n8_:=Aside0.mk ((by rw [hg];exact Nat.ne_of_lt (blk_lt BK288.out):gb288≠gb286))
                    have n9_:=Aside0.mk ((by rw [hg];exact Nat.ne_of_gt (blk_lt BK288.out):gb286≠gb288))
                    clear BK285
                    clear BK288
                    clear HB
                    have BK285:=n0_
                    have BK288:=n1_
                    have HB:=n2_
                    have BK286:=n3_
                    have GW286:=n4_
                    have GE286:=n5_
                    have NB285_286:=n6_
                    have NB286_285:=n7_
                    have NB288_286:=n8_
                    have NB286_288:=n9_
                    clear n0_ n1_ n2_ n3_ n4_ n5_ n6_ n7_ n8_ n9_
                    clear hb hbox hg
                    refine hK.out _ _ ⟨(cK HB.out hw281_0),(cK HB.out hw281_1),(cK HB.out hw282_0),(cK HB.out hw282_1),(cK HB.out hw283_0),(cK HB.out hw283_1),(cK HB.out hw284_0),(cK HB.out hw284_1)⟩ (fun hHeld=>?_)
                    clear hK K
                    refine norm_ (a':=?_) ?_ ?_
                    rotate_left
                    ·show Act.put _ (some 8) _=_
                     simp only [Act.put,sI,sZ,sS,i64_w,i32_w]
                     rfl
                    exact norm_ (by first|(simp only [putAll,Act.put,List.setIfInBounds_toArray,List.set_cons_zero,List.set_cons_succ];done)|(simp only [putAll,Act.put,List.setIfInBounds_toArray,List.set_cons_zero,List.set_cons_succ];rfl)) (hJ20_21_23 (gb285,gb286,gb288) _ ⟨hHeld,BK285.out,BK286.out,BK288.out,GW285.out,GE285.out,NB286_285.out,NB285_286.out,NB288_285.out,NB285_288.out,GW286.out,GE286.out,NB288_286.out,NB286_288.out,GW288.out,GE288.out,(by repeat (first|(with_reducible first|exact HB.out|apply bA|apply bN|apply bD|refine bS ?_ GE285.out|refine bS ?_ GE288.out|refine bS ?_ GE286.out)|exact HB.out))⟩)
                   ·skip
                    refine box_step ?hg (N:=9) ?hd (cs:=#[.int .i64 0,.int .i64 0]) (t:=40) ?hr ?_;(case hd=>rfl);(case hg=>rfl);(case hr=>first|(go_simp;done)|(go_simp;rfl))
                    intro gb287 hg w30 hbox hb
                    have n0_:=Aside0.mk (blk_below BK285.out hb)
                    have n1_:=Aside0.mk (blk_below BK288.out hb)
                    have n2_:=Aside0.mk (below_step (by repeat (first|(with_reducible first|exact HB.out|apply bA|apply bN|apply bD|refine bS ?_ GE285.out|refine bS ?_ GE288.out)|exact HB.out)) hb)
                    have n3_:=Aside0.mk (hbox)
                    have n4_:=Aside0.mk ((by rw [hg];exact (below_size (by repeat (first|(with_reducible first|exact HB.out|apply bA|apply bN|apply bD|refine bS ?_ GE285.out|refine bS ?_ GE288.out)|exact HB.out))):w.heap.size≤gb287))
                    have n5_:=Aside0.mk ((by rw [hg];exact (below_size (by repeat (first|(with_reducible first|exact HB.out|apply bA|apply bN|apply bD|refine bS ?_ GE285.out|refine bS ?_ GE288.out)|exact HB.out))):w.heap.size≤gb287))
                    have n6_:=Aside0.mk ((by rw [hg];exact Nat.ne_of_lt (blk_lt BK285.out):gb285≠gb287))
                    have n7_:=Aside0.mk ((by rw [hg];exact Nat.ne_of_gt (blk_lt BK285.out):gb287≠gb285))
                    have n8_:=Aside0.mk ((by rw [hg];exact Nat.ne_of_lt (blk_lt BK288.out):gb288≠gb287))
                    have n9_:=Aside0.mk ((by rw [hg];exact Nat.ne_of_gt (blk_lt BK288.out):gb287≠gb288))
                    clear BK285
                    clear BK288
                    clear HB
                    have BK285:=n0_
                    have BK288:=n1_
                    have HB:=n2_
                    have BK287:=n3_
                    have GW287:=n4_
                    have GE287:=n5_
                    have NB285_287:=n6_
                    have NB287_285:=n7_
                    have NB288_287:=n8_
                    have NB287_288:=n9_
                    clear n0_ n1_ n2_ n3_ n4_ n5_ n6_ n7_ n8_ n9_
                    clear hb hbox hg
                    refine hK.out _ _ ⟨(cK HB.out hw281_0),(cK HB.out hw281_1),(cK HB.out hw282_0),(cK HB.out hw282_1),(cK HB.out hw283_0),(cK HB.out hw283_1),(cK HB.out hw284_0),(cK HB.out hw284_1)⟩ (fun hHeld=>?_)
                    clear hK K
                    refine norm_ (a':=?_) ?_ ?_
                    rotate_left
                    ·show Act.put _ (some 9) _=_
                     simp only [Act.put,sI,sZ,sS,i64_w,i32_w]
                     rfl
                    exact norm_ (by first|(simp only [putAll,Act.put,List.setIfInBounds_toArray,List.set_cons_zero,List.set_cons_succ];done)|(simp only [putAll,Act.put,List.setIfInBounds_toArray,List.set_cons_zero,List.set_cons_succ];rfl)) (hJ20_22_23 (gb285,gb287,gb288) _ ⟨hHeld,BK285.out,BK287.out,BK288.out,GW285.out,GE285.out,NB287_285.out,NB285_287.out,NB288_285.out,NB285_288.out,GW287.out,GE287.out,NB288_287.out,NB287_288.out,GW288.out,GE288.out,(by repeat (first|(with_reducible first|exact HB.out|apply bA|apply bN|apply bD|refine bS ?_ GE285.out|refine bS ?_ GE288.out|refine bS ?_ GE287.out)|exact HB.out))⟩)
                 ·skip
                  rintro ⟨gb285,gb287⟩ w29 ⟨hS_,h0_,h1_,h2_,h3_,h4_,h5_,h6_,h7_,h8_⟩
                  have n0_:Aside0 (w29.heap[gb285]? = some (.cells #[.int .i64 0,.int .i64 0] 40 (0,0))):=⟨h0_⟩
                  have n1_:Aside0 (w29.heap[gb287]? = some (.cells #[.int .i64 0,.int .i64 0] 40 (0,0))):=⟨h1_⟩
                  have n2_:Aside0 (w.heap.size≤gb285):=⟨h2_⟩
                  have n3_:Aside0 (w.heap.size≤gb285):=⟨h3_⟩
                  have n4_:Aside0 (gb287≠gb285):=⟨h4_⟩
                  have n5_:Aside0 (gb285≠gb287):=⟨h5_⟩
                  have n6_:Aside0 (w.heap.size≤gb287):=⟨h6_⟩
                  have n7_:Aside0 (w.heap.size≤gb287):=⟨h7_⟩
                  have n8_:Aside0 (Below w.heap.size w w29):=⟨h8_⟩
                  clear HB
                  clear h0_ h1_ h2_ h3_ h4_ h5_ h6_ h7_ h8_
                  have BK285:=n0_
                  have BK287:=n1_
                  have GW285:=n2_
                  have GE285:=n3_
                  have NB287_285:=n4_
                  have NB285_287:=n5_
                  have GW287:=n6_
                  have GE287:=n7_
                  have HB:=n8_
                  clear n0_ n1_ n2_ n3_ n4_ n5_ n6_ n7_ n8_
                  have hHeld:w29.cell? (ad281.add ((x25_2).toNat * 2))=some (.int .i64 ((rd_T40 l0 x25_2).f0))∧w29.cell? ⟨(ad281.add ((x25_2).toNat * 2)).block,(ad281.add ((x25_2).toNat * 2)).off+1,none⟩=some (.int .i64 ((rd_T40 l0 x25_2).f1))∧w29.cell? (ad281.add (((ji16)).toNat * 2))=some (.int .i64 ((rd_T40 l0 (ji16)).f0))∧w29.cell? ⟨(ad281.add (((ji16)).toNat * 2)).block,(ad281.add (((ji16)).toNat * 2)).off+1,none⟩=some (.int .i64 ((rd_T40 l0 (ji16)).f1))∧w29.cell? (ad281.add ((x5_3).toNat * 2))=some (.int .i64 ((rd_T40 l0 x5_3).f0))∧w29.cell? ⟨(ad281.add ((x5_3).toNat * 2)).block,(ad281.add ((x5_3).toNat * 2)).off+1,none⟩=some (.int .i64 ((rd_T40 l0 x5_3).f1))∧w29.cell? (ad281.add (((ji22)).toNat * 2))=some (.int .i64 ((rd_T40 l0 (ji22)).f0))∧w29.cell? ⟨(ad281.add (((ji22)).toNat * 2)).block,(ad281.add (((ji22)).toNat * 2)).off+1,none⟩=some (.int .i64 ((rd_T40 l0 (ji22)).f1)):=hS_
                  refine norm_ (a':=?_) ?_ ?_
                  rotate_left
                  ·simp only [putAll,Act.put,List.setIfInBounds_toArray,List.set_cons_zero,List.set_cons_succ]
                   rfl
                  refine two_ (i:=21) (j:=23) (Ni:=some 8) (Nj:=some 10) (bV 28 8388607) (bV 28 14680063) rfl rfl rfl rfl (two_of HT_.out (by kernel_rfl)) (by decide) (by decide) (fun K hK=>?_) (fun K hK=>?_)
                  ·skip
                   refine box_step ?hg (N:=8) ?hd (cs:=#[.int .i64 0,.int .i64 0]) (t:=40) ?hr ?_;(case hd=>rfl);(case hg=>rfl);(case hr=>first|(go_simp;done)|(go_simp;rfl))
                   intro gb286 hg w30 hbox hb
                   have n0_:=Aside0.mk (blk_below BK285.out hb)
                   have n1_:=Aside0.mk (blk_below BK287.out hb)
                   have n2_:=Aside0.mk (below_step (by repeat (first|(with_reducible first|exact HB.out|apply bA|apply bN|apply bD|refine bS ?_ GE285.out|refine bS ?_ GE287.out)|exact HB.out)) hb)
                   have n3_:=Aside0.mk (hbox)
                   have n4_:=Aside0.mk ((by rw [hg];exact (below_size (by repeat (first|(with_reducible first|exact HB.out|apply bA|apply bN|apply bD|refine bS ?_ GE285.out|refine bS ?_ GE287.out)|exact HB.out))):w.heap.size≤gb286))
                   have n5_:=Aside0.mk ((by rw [hg];exact (below_size (by repeat (first|(with_reducible first|exact HB.out|apply bA|apply bN|apply bD|refine bS ?_ GE285.out|refine bS ?_ GE287.out)|exact HB.out))):w.heap.size≤gb286))
                   have n6_:=Aside0.mk ((by rw [hg];exact Nat.ne_of_lt (blk_lt BK285.out):gb285≠gb286))
                   have n7_:=Aside0.mk ((by rw [hg];exact Nat.ne_of_gt (blk_lt BK285.out):gb286≠gb285))
                   have n8_:=Aside0.mk ((by rw [hg];exact Nat.ne_of_lt (blk_lt BK287.out):gb287≠gb286))
                   have n9_:=Aside0.mk ((by rw [hg];exact Nat.ne_of_gt (blk_lt BK287.out):gb286≠gb287))
                   clear BK285
                   clear BK287
                   clear HB
                   have BK285:=n0_
                   have BK287:=n1_
                   have HB:=n2_
                   have BK286:=n3_
                   have GW286:=n4_
                   have GE286:=n5_
                   have NB285_286:=n6_
                   have NB286_285:=n7_
                   have NB287_286:=n8_
                   have NB286_287:=n9_
                   clear n0_ n1_ n2_ n3_ n4_ n5_ n6_ n7_ n8_ n9_
                   clear hb hbox hg
                   refine hK.out _ _ ⟨(cK HB.out hw281_0),(cK HB.out hw281_1),(cK HB.out hw282_0),(cK HB.out hw282_1),(cK HB.out hw283_0),(cK HB.out hw283_1),(cK HB.out hw284_0),(cK HB.out hw284_1)⟩ (fun hHeld=>?_)
                   clear hK K
                   refine norm_ (a':=?_) ?_ ?_
                   rotate_left
                   ·show Act.put _ (some 8) _=_
                    simp only [Act.put,sI,sZ,sS,i64_w,i32_w]
                    rfl
                   exact norm_ (by first|(simp only [putAll,Act.put,List.setIfInBounds_toArray,List.set_cons_zero,List.set_cons_succ];done)|(simp only [putAll,Act.put,List.setIfInBounds_toArray,List.set_cons_zero,List.set_cons_succ];rfl)) (hJ20_21_22 (gb285,gb286,gb287) _ ⟨hHeld,BK285.out,BK286.out,BK287.out,GW285.out,GE285.out,NB286_285.out,NB285_286.out,NB287_285.out,NB285_287.out,GW286.out,GE286.out,NB287_286.out,NB286_287.out,GW287.out,GE287.out,(by repeat (first|(with_reducible first|exact HB.out|apply bA|apply bN|apply bD|refine bS ?_ GE285.out|refine bS ?_ GE287.out|refine bS ?_ GE286.out)|exact HB.out))⟩)
                  ·skip
                   refine box_step ?hg (N:=10) ?hd (cs:=#[.int .i64 0,.int .i64 0]) (t:=40) ?hr ?_;(case hd=>rfl);(case hg=>rfl);(case hr=>first|(go_simp;done)|(go_simp;rfl))
                   intro gb288 hg w30 hbox hb
                   have n0_:=Aside0.mk (blk_below BK285.out hb)
                   have n1_:=Aside0.mk (blk_below BK287.out hb)
                   have n2_:=Aside0.mk (below_step (by repeat (first|(with_reducible first|exact HB.out|apply bA|apply bN|apply bD|refine bS ?_ GE285.out|refine bS ?_ GE287.out)|exact HB.out)) hb)
                   have n3_:=Aside0.mk (hbox)
                   have n4_:=Aside0.mk ((by rw [hg];exact (below_size (by repeat (first|(with_reducible first|exact HB.out|apply bA|apply bN|apply bD|refine bS ?_ GE285.out|refine bS ?_ GE287.out)|exact HB.out))):w.heap.size≤gb288))
                   have n5_:=Aside0.mk ((by rw [hg];exact (below_size (by repeat (first|(with_reducible first|exact HB.out|apply bA|apply bN|apply bD|refine bS ?_ GE285.out|refine bS ?_ GE287.out)|exact HB.out))):w.heap.size≤gb288))
                   have n6_:=Aside0.mk ((by rw [hg];exact Nat.ne_of_lt (blk_lt BK285.out):gb285≠gb288))
                   have n7_:=Aside0.mk ((by rw [hg];exact Nat.ne_of_gt (blk_lt BK285.out):gb288≠gb285))
                   have n8_:=Aside0.mk ((by rw [hg];exact Nat.ne_of_lt (blk_lt BK287.out):gb287≠gb288))
                   have n9_:=Aside0.mk ((by rw [hg];exact Nat.ne_of_gt (blk_lt BK287.out):gb288≠gb287))
                   clear BK285
                   clear BK287
                   clear HB
                   have BK285:=n0_
                   have BK287:=n1_
                   have HB:=n2_
                   have BK288:=n3_
                   have GW288:=n4_
                   have GE288:=n5_
                   have NB285_288:=n6_
                   have NB288_285:=n7_
                   have NB287_288:=n8_
                   have NB288_287:=n9_
                   clear n0_ n1_ n2_ n3_ n4_ n5_ n6_ n7_ n8_ n9_
                   clear hb hbox hg
                   refine hK.out _ _ ⟨(cK HB.out hw281_0),(cK HB.out hw281_1),(cK HB.out hw282_0),(cK HB.out hw282_1),(cK HB.out hw283_0),(cK HB.out hw283_1),(cK HB.out hw284_0),(cK HB.out hw284_1)⟩ (fun hHeld=>?_)
                   clear hK K
                   refine norm_ (a':=?_) ?_ ?_
                   rotate_left
                   ·show Act.put _ (some 10) _=_
                    simp only [Act.put,sI,sZ,sS,i64_w,i32_w]
                    rfl
                   exact norm_ (by first|(simp only [putAll,Act.put,List.setIfInBounds_toArray,List.set_cons_zero,List.set_cons_succ];done)|(simp only [putAll,Act.put,List.setIfInBounds_toArray,List.set_cons_zero,List.set_cons_succ];rfl)) (hJ20_22_23 (gb285,gb287,gb288) _ ⟨hHeld,BK285.out,BK287.out,BK288.out,GW285.out,GE285.out,NB287_285.out,NB285_287.out,NB288_285.out,NB285_288.out,GW287.out,GE287.out,NB288_287.out,NB287_288.out,GW288.out,GE288.out,(by repeat (first|(with_reducible first|exact HB.out|apply bA|apply bN|apply bD|refine bS ?_ GE285.out|refine bS ?_ GE287.out|refine bS ?_ GE288.out)|exact HB.out))⟩)
                ·skip
                 rintro ⟨gb285,gb286⟩ w29 ⟨hS_,h0_,h1_,h2_,h3_,h4_,h5_,h6_,h7_,h8_⟩
                 have n0_:Aside0 (w29.heap[gb285]? = some (.cells #[.int .i64 0,.int .i64 0] 40 (0,0))):=⟨h0_⟩
                 have n1_:Aside0 (w29.heap[gb286]? = some (.cells #[.int .i64 0,.int .i64 0] 40 (0,0))):=⟨h1_⟩
                 have n2_:Aside0 (w.heap.size≤gb285):=⟨h2_⟩
                 have n3_:Aside0 (w.heap.size≤gb285):=⟨h3_⟩
                 have n4_:Aside0 (gb286≠gb285):=⟨h4_⟩
                 have n5_:Aside0 (gb285≠gb286):=⟨h5_⟩
                 have n6_:Aside0 (w.heap.size≤gb286):=⟨h6_⟩
                 have n7_:Aside0 (w.heap.size≤gb286):=⟨h7_⟩
                 have n8_:Aside0 (Below w.heap.size w w29):=⟨h8_⟩
                 clear HB
                 clear h0_ h1_ h2_ h3_ h4_ h5_ h6_ h7_ h8_
                 have BK285:=n0_
                 have BK286:=n1_
                 have GW285:=n2_
                 have GE285:=n3_
                 have NB286_285:=n4_
                 have NB285_286:=n5_
                 have GW286:=n6_
                 have GE286:=n7_
                 have HB:=n8_
                 clear n0_ n1_ n2_ n3_ n4_ n5_ n6_ n7_ n8_
                 have hHeld:w29.cell? (ad281.add ((x25_2).toNat * 2))=some (.int .i64 ((rd_T40 l0 x25_2).f0))∧w29.cell? ⟨(ad281.add ((x25_2).toNat * 2)).block,(ad281.add ((x25_2).toNat * 2)).off+1,none⟩=some (.int .i64 ((rd_T40 l0 x25_2).f1))∧w29.cell? (ad281.add (((ji16)).toNat * 2))=some (.int .i64 ((rd_T40 l0 (ji16)).f0))∧w29.cell? ⟨(ad281.add (((ji16)).toNat * 2)).block,(ad281.add (((ji16)).toNat * 2)).off+1,none⟩=some (.int .i64 ((rd_T40 l0 (ji16)).f1))∧w29.cell? (ad281.add ((x5_3).toNat * 2))=some (.int .i64 ((rd_T40 l0 x5_3).f0))∧w29.cell? ⟨(ad281.add ((x5_3).toNat * 2)).block,(ad281.add ((x5_3).toNat * 2)).off+1,none⟩=some (.int .i64 ((rd_T40 l0 x5_3).f1))∧w29.cell? (ad281.add (((ji22)).toNat * 2))=some (.int .i64 ((rd_T40 l0 (ji22)).f0))∧w29.cell? ⟨(ad281.add (((ji22)).toNat * 2)).block,(ad281.add (((ji22)).toNat * 2)).off+1,none⟩=some (.int .i64 ((rd_T40 l0 (ji22)).f1)):=hS_
                 refine norm_ (a':=?_) ?_ ?_
                 rotate_left
                 ·simp only [putAll,Act.put,List.setIfInBounds_toArray,List.set_cons_zero,List.set_cons_succ]
                  rfl
                 refine two_ (i:=22) (j:=23) (Ni:=some 9) (Nj:=some 10) (bV 28 8388607) (bV 28 12582911) rfl rfl rfl rfl (two_of HT_.out (by kernel_rfl)) (by decide) (by decide) (fun K hK=>?_) (fun K hK=>?_)
                 ·skip
                  refine box_step ?hg (N:=9) ?hd (cs:=#[.int .i64 0,.int .i64 0]) (t:=40) ?hr ?_;(case hd=>rfl);(case hg=>rfl);(case hr=>first|(go_simp;done)|(go_simp;rfl))
                  intro gb287 hg w30 hbox hb
                  have n0_:=Aside0.mk (blk_below BK285.out hb)
                  have n1_:=Aside0.mk (blk_below BK286.out hb)
                  have n2_:=Aside0.mk (below_step (by repeat (first|(with_reducible first|exact HB.out|apply bA|apply bN|apply bD|refine bS ?_ GE285.out|refine bS ?_ GE286.out)|exact HB.out)) hb)
                  have n3_:=Aside0.mk (hbox)
                  have n4_:=Aside0.mk ((by rw [hg];exact (below_size (by repeat (first|(with_reducible first|exact HB.out|apply bA|apply bN|apply bD|refine bS ?_ GE285.out|refine bS ?_ GE286.out)|exact HB.out))):w.heap.size≤gb287))
                  have n5_:=Aside0.mk ((by rw [hg];exact (below_size (by repeat (first|(with_reducible first|exact HB.out|apply bA|apply bN|apply bD|refine bS ?_ GE285.out|refine bS ?_ GE286.out)|exact HB.out))):w.heap.size≤gb287))
                  have n6_:=Aside0.mk ((by rw [hg];exact Nat.ne_of_lt (blk_lt BK285.out):gb285≠gb287))
                  have n7_:=Aside0.mk ((by rw [hg];exact Nat.ne_of_gt (blk_lt BK285.out):gb287≠gb285))
                  have n8_:=Aside0.mk ((by rw [hg];exact Nat.ne_of_lt (blk_lt BK286.out):gb286≠gb287))
                  have n9_:=Aside0.mk ((by rw [hg];exact Nat.ne_of_gt (blk_lt BK286.out):gb287≠gb286))
                  clear BK285
                  clear BK286
                  clear HB
                  have BK285:=n0_
                  have BK286:=n1_
                  have HB:=n2_
                  have BK287:=n3_
                  have GW287:=n4_
                  have GE287:=n5_
                  have NB285_287:=n6_
                  have NB287_285:=n7_
                  have NB286_287:=n8_
                  have NB287_286:=n9_
                  clear n0_ n1_ n2_ n3_ n4_ n5_ n6_ n7_ n8_ n9_
                  clear hb hbox hg
                  refine hK.out _ _ ⟨(cK HB.out hw281_0),(cK HB.out hw281_1),(cK HB.out hw282_0),(cK HB.out hw282_1),(cK HB.out hw283_0),(cK HB.out hw283_1),(cK HB.out hw284_0),(cK HB.out hw284_1)⟩ (fun hHeld=>?_)
                  clear hK K
                  refine norm_ (a':=?_) ?_ ?_
                  rotate_left
                  ·show Act.put _ (some 9) _=_
                   simp only [Act.put,sI,sZ,sS,i64_w,i32_w]
                   rfl
                  exact norm_ (by first|(simp only [putAll,Act.put,List.setIfInBounds_toArray,List.set_cons_zero,List.set_cons_succ];done)|(simp only [putAll,Act.put,List.setIfInBounds_toArray,List.set_cons_zero,List.set_cons_succ];rfl)) (hJ20_21_22 (gb285,gb286,gb287) _ ⟨hHeld,BK285.out,BK286.out,BK287.out,GW285.out,GE285.out,NB286_285.out,NB285_286.out,NB287_285.out,NB285_287.out,GW286.out,GE286.out,NB287_286.out,NB286_287.out,GW287.out,GE287.out,(by repeat (first|(with_reducible first|exact HB.out|apply bA|apply bN|apply bD|refine bS ?_ GE285.out|refine bS ?_ GE286.out|refine bS ?_ GE287.out)|exact HB.out))⟩)
                 ·skip
                  refine box_step ?hg (N:=10) ?hd (cs:=#[.int .i64 0,.int .i64 0]) (t:=40) ?hr ?_;(case hd=>rfl);(case hg=>rfl);(case hr=>first|(go_simp;done)|(go_simp;rfl))
                  intro gb288 hg w30 hbox hb
                  have n0_:=Aside0.mk (blk_below BK285.out hb)
                  have n1_:=Aside0.mk (blk_below BK286.out hb)
                  have n2_:=Aside0.mk (below_step (by repeat (first|(with_reducible first|exact HB.out|apply bA|apply bN|apply bD|refine bS ?_ GE285.out|refine bS ?_ GE286.out)|exact HB.out)) hb)
                  have n3_:=Aside0.mk (hbox)
                  have n4_:=Aside0.mk ((by rw [hg];exact (below_size (by repeat (first|(with_reducible first|exact HB.out|apply bA|apply bN|apply bD|refine bS ?_ GE285.out|refine bS ?_ GE286.out)|exact HB.out))):w.heap.size≤gb288))
                  have n5_:=Aside0.mk ((by rw [hg];exact (below_size (by repeat (first|(with_reducible first|exact HB.out|apply bA|apply bN|apply bD|refine bS ?_ GE285.out|refine bS ?_ GE286.out)|exact HB.out))):w.heap.size≤gb288))
                  have n6_:=Aside0.mk ((by rw [hg];exact Nat.ne_of_lt (blk_lt BK285.out):gb285≠gb288))
                  have n7_:=Aside0.mk ((by rw [hg];exact Nat.ne_of_gt (blk_lt BK285.out):gb288≠gb285))
                  have n8_:=Aside0.mk ((by rw [hg];exact Nat.ne_of_lt (blk_lt BK286.out):gb286≠gb288))
                  have n9_:=Aside0.mk ((by rw [hg];exact Nat.ne_of_gt (blk_lt BK286.out):gb288≠gb286))
                  clear BK285
                  clear BK286
                  clear HB
                  have BK285:=n0_
                  have BK286:=n1_
                  have HB:=n2_
                  have BK288:=n3_
                  have GW288:=n4_
                  have GE288:=n5_
                  have NB285_288:=n6_
                  have NB288_285:=n7_
                  have NB286_288:=n8_
                  have NB288_286:=n9_
                  clear n0_ n1_ n2_ n3_ n4_ n5_ n6_ n7_ n8_ n9_
                  clear hb hbox hg
                  refine hK.out _ _ ⟨(cK HB.out hw281_0),(cK HB.out hw281_1),(cK HB.out hw282_0),(cK HB.out hw282_1),(cK HB.out hw283_0),(cK HB.out hw283_1),(cK HB.out hw284_0),(cK HB.out hw284_1)⟩ (fun hHeld=>?_)
                  clear hK K
                  refine norm_ (a':=?_) ?_ ?_
                  rotate_left
                  ·show Act.put _ (some 10) _=_
                   simp only [Act.put,sI,sZ,sS,i64_w,i32_w]
                   rfl
                  exact norm_ (by first|(simp only [putAll,Act.put,List.setIfInBounds_toArray,List.set_cons_zero,List.set_cons_succ];done)|(simp only [putAll,Act.put,List.setIfInBounds_toArray,List.set_cons_zero,List.set_cons_succ];rfl)) (hJ20_21_23 (gb285,gb286,gb288) _ ⟨hHeld,BK285.out,BK286.out,BK288.out,GW285.out,GE285.out,NB286_285.out,NB285_286.out,NB288_285.out,NB285_288.out,GW286.out,GE286.out,NB288_286.out,NB286_288.out,GW288.out,GE288.out,(by repeat (first|(with_reducible first|exact HB.out|apply bA|apply bN|apply bD|refine bS ?_ GE285.out|refine bS ?_ GE286.out|refine bS ?_ GE288.out)|exact HB.out))⟩)
               ·skip
                rintro ⟨gb286,gb287,gb288⟩ w30 ⟨hS_,h0_,h1_,h2_,h3_,h4_,h5_,h6_,h7_,h8_,h9_,h10_,h11_,h12_,h13_,h14_,h15_⟩
                have n0_:Aside0 (w30.heap[gb286]? = some (.cells #[.int .i64 0,.int .i64 0] 40 (0,0))):=⟨h0_⟩
                have n1_:Aside0 (w30.heap[gb287]? = some (.cells #[.int .i64 0,.int .i64 0] 40 (0,0))):=⟨h1_⟩
                have n2_:Aside0 (w30.heap[gb288]? = some (.cells #[.int .i64 0,.int .i64 0] 40 (0,0))):=⟨h2_⟩
                have n3_:Aside0 (w.heap.size≤gb286):=⟨h3_⟩
                have n4_:Aside0 (w.heap.size≤gb286):=⟨h4_⟩
                have n5_:Aside0 (gb287≠gb286):=⟨h5_⟩
                have n6_:Aside0 (gb286≠gb287):=⟨h6_⟩
                have n7_:Aside0 (gb288≠gb286):=⟨h7_⟩
                have n8_:Aside0 (gb286≠gb288):=⟨h8_⟩
                have n9_:Aside0 (w.heap.size≤gb287):=⟨h9_⟩
                have n10_:Aside0 (w.heap.size≤gb287):=⟨h10_⟩
                have n11_:Aside0 (gb288≠gb287):=⟨h11_⟩
                have n12_:Aside0 (gb287≠gb288):=⟨h12_⟩
                have n13_:Aside0 (w.heap.size≤gb288):=⟨h13_⟩
                have n14_:Aside0 (w.heap.size≤gb288):=⟨h14_⟩
                have n15_:Aside0 (Below w.heap.size w w30):=⟨h15_⟩
                clear HB
                clear h0_ h1_ h2_ h3_ h4_ h5_ h6_ h7_ h8_ h9_ h10_ h11_ h12_ h13_ h14_ h15_
                have BK286:=n0_
                have BK287:=n1_
                have BK288:=n2_
                have GW286:=n3_
                have GE286:=n4_
                have NB287_286:=n5_
                have NB286_287:=n6_
                have NB288_286:=n7_
                have NB286_288:=n8_
                have GW287:=n9_
                have GE287:=n10_
                have NB288_287:=n11_
                have NB287_288:=n12_
                have GW288:=n13_
                have GE288:=n14_
                have HB:=n15_
                clear n0_ n1_ n2_ n3_ n4_ n5_ n6_ n7_ n8_ n9_ n10_ n11_ n12_ n13_ n14_ n15_
                have hHeld:w30.cell? (ad281.add ((x25_2).toNat * 2))=some (.int .i64 ((rd_T40 l0 x25_2).f0))∧w30.cell? ⟨(ad281.add ((x25_2).toNat * 2)).block,(ad281.add ((x25_2).toNat * 2)).off+1,none⟩=some (.int .i64 ((rd_T40 l0 x25_2).f1))∧w30.cell? (ad281.add (((ji16)).toNat * 2))=some (.int .i64 ((rd_T40 l0 (ji16)).f0))∧w30.cell? ⟨(ad281.add (((ji16)).toNat * 2)).block,(ad281.add (((ji16)).toNat * 2)).off+1,none⟩=some (.int .i64 ((rd_T40 l0 (ji16)).f1))∧w30.cell? (ad281.add ((x5_3).toNat * 2))=some (.int .i64 ((rd_T40 l0 x5_3).f0))∧w30.cell? ⟨(ad281.add ((x5_3).toNat * 2)).block,(ad281.add ((x5_3).toNat * 2)).off+1,none⟩=some (.int .i64 ((rd_T40 l0 x5_3).f1))∧w30.cell? (ad281.add (((ji22)).toNat * 2))=some (.int .i64 ((rd_T40 l0 (ji22)).f0))∧w30.cell? ⟨(ad281.add (((ji22)).toNat * 2)).block,(ad281.add (((ji22)).toNat * 2)).off+1,none⟩=some (.int .i64 ((rd_T40 l0 (ji22)).f1)):=hS_
                refine norm_ (a':=?_) ?_ ?_
                rotate_left
                ·simp only [putAll,Act.put,List.setIfInBounds_toArray,List.set_cons_zero,List.set_cons_succ]
                 rfl
                refine one_ (i:=20) (N:=some 7) (bV 28 16777215) rfl rfl (one_of HT_.out (by kernel_rfl)) (by decide) (fun K hK=>?_)
                refine box_step ?hg (N:=7) ?hd (cs:=#[.int .i64 0,.int .i64 0]) (t:=40) ?hr ?_;(case hd=>rfl);(case hg=>rfl);(case hr=>first|(go_simp;done)|(go_simp;rfl))
                intro gb285 hg w31 hbox hb
                have n0_:=Aside0.mk (blk_below BK286.out hb)
                have n1_:=Aside0.mk (blk_below BK287.out hb)
                have n2_:=Aside0.mk (blk_below BK288.out hb)
                have n3_:=Aside0.mk (below_step (by repeat (first|(with_reducible first|exact HB.out|apply bA|apply bN|apply bD|refine bS ?_ GE286.out|refine bS ?_ GE287.out|refine bS ?_ GE288.out)|exact HB.out)) hb)
                have n4_:=Aside0.mk (hbox)
                have n5_:=Aside0.mk ((by rw [hg];exact (below_size (by repeat (first|(with_reducible first|exact HB.out|apply bA|apply bN|apply bD|refine bS ?_ GE286.out|refine bS ?_ GE287.out|refine bS ?_ GE288.out)|exact HB.out))):w.heap.size≤gb285))
                have n6_:=Aside0.mk ((by rw [hg];exact (below_size (by repeat (first|(with_reducible first|exact HB.out|apply bA|apply bN|apply bD|refine bS ?_ GE286.out|refine bS ?_ GE287.out|refine bS ?_ GE288.out)|exact HB.out))):w.heap.size≤gb285))
                have n7_:=Aside0.mk ((by rw [hg];exact Nat.ne_of_lt (blk_lt BK286.out):gb286≠gb285))
                have n8_:=Aside0.mk ((by rw [hg];exact Nat.ne_of_gt (blk_lt BK286.out):gb285≠gb286))
                have n9_:=Aside0.mk ((by rw [hg];exact Nat.ne_of_lt (blk_lt BK287.out):gb287≠gb285))
                have n10_:=Aside0.mk ((by rw [hg];exact Nat.ne_of_gt (blk_lt BK287.out):gb285≠gb287))
                have n11_:=Aside0.mk ((by rw [hg];exact Nat.ne_of_lt (blk_lt BK288.out):gb288≠gb285))
                have n12_:=Aside0.mk ((by rw [hg];exact Nat.ne_of_gt (blk_lt BK288.out):gb285≠gb288))
                clear BK286
                clear BK287
                clear BK288
                clear HB
                have BK286:=n0_
                have BK287:=n1_
                have BK288:=n2_
                have HB:=n3_
                have BK285:=n4_
                have GW285:=n5_
                have GE285:=n6_
                have NB286_285:=n7_
                have NB285_286:=n8_
                have NB287_285:=n9_
                have NB285_287:=n10_
                have NB288_285:=n11_
                have NB285_288:=n12_
                clear n0_ n1_ n2_ n3_ n4_ n5_ n6_ n7_ n8_ n9_ n10_ n11_ n12_
                clear hb hbox hg
                refine hK.out _ _ ⟨(cK HB.out hw281_0),(cK HB.out hw281_1),(cK HB.out hw282_0),(cK HB.out hw282_1),(cK HB.out hw283_0),(cK HB.out hw283_1),(cK HB.out hw284_0),(cK HB.out hw284_1)⟩ (fun hHeld=>?_)
                clear hK K
                refine norm_ (a':=?_) ?_ ?_
                rotate_left
                ·show Act.put _ (some 7) _=_
                 simp only [Act.put,sI,sZ,sS,i64_w,i32_w]
                 rfl
                exact norm_ (by first|(simp only [putAll,Act.put,List.setIfInBounds_toArray,List.set_cons_zero,List.set_cons_succ];done)|(simp only [putAll,Act.put,List.setIfInBounds_toArray,List.set_cons_zero,List.set_cons_succ];rfl)) (hJ20_21_22_23 (gb285,gb286,gb287,gb288) _ ⟨hHeld,BK285.out,BK286.out,BK287.out,BK288.out,GW285.out,GE285.out,NB286_285.out,NB285_286.out,NB287_285.out,NB285_287.out,NB288_285.out,NB285_288.out,GW286.out,GE286.out,NB287_286.out,NB286_287.out,NB288_286.out,NB286_288.out,GW287.out,GE287.out,NB288_287.out,NB287_288.out,GW288.out,GE288.out,(by repeat (first|(with_reducible first|exact HB.out|apply bA|apply bN|apply bD|refine bS ?_ GE286.out|refine bS ?_ GE287.out|refine bS ?_ GE288.out|refine bS ?_ GE285.out)|exact HB.out))⟩)
              ·skip
               rintro ⟨gb285,gb287,gb288⟩ w30 ⟨hS_,h0_,h1_,h2_,h3_,h4_,h5_,h6_,h7_,h8_,h9_,h10_,h11_,h12_,h13_,h14_,h15_⟩
               have n0_:Aside0 (w30.heap[gb285]? = some (.cells #[.int .i64 0,.int .i64 0] 40 (0,0))):=⟨h0_⟩
               have n1_:Aside0 (w30.heap[gb287]? = some (.cells #[.int .i64 0,.int .i64 0] 40 (0,0))):=⟨h1_⟩
               have n2_:Aside0 (w30.heap[gb288]? = some (.cells #[.int .i64 0,.int .i64 0] 40 (0,0))):=⟨h2_⟩
               have n3_:Aside0 (w.heap.size≤gb285):=⟨h3_⟩
               have n4_:Aside0 (w.heap.size≤gb285):=⟨h4_⟩
               have n5_:Aside0 (gb287≠gb285):=⟨h5_⟩
               have n6_:Aside0 (gb285≠gb287):=⟨h6_⟩
               have n7_:Aside0 (gb288≠gb285):=⟨h7_⟩
               have n8_:Aside0 (gb285≠gb288):=⟨h8_⟩
               have n9_:Aside0 (w.heap.size≤gb287):=⟨h9_⟩
               have n10_:Aside0 (w.heap.size≤gb287):=⟨h10_⟩
               have n11_:Aside0 (gb288≠gb287):=⟨h11_⟩
               have n12_:Aside0 (gb287≠gb288):=⟨h12_⟩
               have n13_:Aside0 (w.heap.size≤gb288):=⟨h13_⟩
               have n14_:Aside0 (w.heap.size≤gb288):=⟨h14_⟩
               have n15_:Aside0 (Below w.heap.size w w30):=⟨h15_⟩
               clear HB
               clear h0_ h1_ h2_ h3_ h4_ h5_ h6_ h7_ h8_ h9_ h10_ h11_ h12_ h13_ h14_ h15_
               have BK285:=n0_
               have BK287:=n1_
               have BK288:=n2_
               have GW285:=n3_
               have GE285:=n4_
               have NB287_285:=n5_
               have NB285_287:=n6_
               have NB288_285:=n7_
               have NB285_288:=n8_
               have GW287:=n9_
               have GE287:=n10_
               have NB288_287:=n11_
               have NB287_288:=n12_
               have GW288:=n13_
               have GE288:=n14_
               have HB:=n15_
               clear n0_ n1_ n2_ n3_ n4_ n5_ n6_ n7_ n8_ n9_ n10_ n11_ n12_ n13_ n14_ n15_
               have hHeld:w30.cell? (ad281.add ((x25_2).toNat * 2))=some (.int .i64 ((rd_T40 l0 x25_2).f0))∧w30.cell? ⟨(ad281.add ((x25_2).toNat * 2)).block,(ad281.add ((x25_2).toNat * 2)).off+1,none⟩=some (.int .i64 ((rd_T40 l0 x25_2).f1))∧w30.cell? (ad281.add (((ji16)).toNat * 2))=some (.int .i64 ((rd_T40 l0 (ji16)).f0))∧w30.cell? ⟨(ad281.add (((ji16)).toNat * 2)).block,(ad281.add (((ji16)).toNat * 2)).off+1,none⟩=some (.int .i64 ((rd_T40 l0 (ji16)).f1))∧w30.cell? (ad281.add ((x5_3).toNat * 2))=some (.int .i64 ((rd_T40 l0 x5_3).f0))∧w30.cell? ⟨(ad281.add ((x5_3).toNat * 2)).block,(ad281.add ((x5_3).toNat * 2)).off+1,none⟩=some (.int .i64 ((rd_T40 l0 x5_3).f1))∧w30.cell? (ad281.add (((ji22)).toNat * 2))=some (.int .i64 ((rd_T40 l0 (ji22)).f0))∧w30.cell? ⟨(ad281.add (((ji22)).toNat * 2)).block,(ad281.add (((ji22)).toNat * 2)).off+1,none⟩=some (.int .i64 ((rd_T40 l0 (ji22)).f1)):=hS_
               refine norm_ (a':=?_) ?_ ?_
               rotate_left
               ·simp only [putAll,Act.put,List.setIfInBounds_toArray,List.set_cons_zero,List.set_cons_succ]
                rfl
               refine one_ (i:=21) (N:=some 8) (bV 28 16777215) rfl rfl (one_of HT_.out (by kernel_rfl)) (by decide) (fun K hK=>?_)
               refine box_step ?hg (N:=8) ?hd (cs:=#[.int .i64 0,.int .i64 0]) (t:=40) ?hr ?_;(case hd=>rfl);(case hg=>rfl);(case hr=>first|(go_simp;done)|(go_simp;rfl))
               intro gb286 hg w31 hbox hb
               have n0_:=Aside0.mk (blk_below BK285.out hb)
               have n1_:=Aside0.mk (blk_below BK287.out hb)
               have n2_:=Aside0.mk (blk_below BK288.out hb)
               have n3_:=Aside0.mk (below_step (by repeat (first|(with_reducible first|exact HB.out|apply bA|apply bN|apply bD|refine bS ?_ GE285.out|refine bS ?_ GE287.out|refine bS ?_ GE288.out)|exact HB.out)) hb)
               have n4_:=Aside0.mk (hbox)
               have n5_:=Aside0.mk ((by rw [hg];exact (below_size (by repeat (first|(with_reducible first|exact HB.out|apply bA|apply bN|apply bD|refine bS ?_ GE285.out|refine bS ?_ GE287.out|refine bS ?_ GE288.out)|exact HB.out))):w.heap.size≤gb286))
               have n6_:=Aside0.mk ((by rw [hg];exact (below_size (by repeat (first|(with_reducible first|exact HB.out|apply bA|apply bN|apply bD|refine bS ?_ GE285.out|refine bS ?_ GE287.out|refine bS ?_ GE288.out)|exact HB.out))):w.heap.size≤gb286))
               have n7_:=Aside0.mk ((by rw [hg];exact Nat.ne_of_lt (blk_lt BK285.out):gb285≠gb286))
               have n8_:=Aside0.mk ((by rw [hg];exact Nat.ne_of_gt (blk_lt BK285.out):gb286≠gb285))
               have n9_:=Aside0.mk ((by rw [hg];exact Nat.ne_of_lt (blk_lt BK287.out):gb287≠gb286))
               have n10_:=Aside0.mk ((by rw [hg];exact Nat.ne_of_gt (blk_lt BK287.out):gb286≠gb287))
               have n11_:=Aside0.mk ((by rw [hg];exact Nat.ne_of_lt (blk_lt BK288.out):gb288≠gb286))
               have n12_:=Aside0.mk ((by rw [hg];exact Nat.ne_of_gt (blk_lt BK288.out):gb286≠gb288))
               clear BK285
               clear BK287
               clear BK288
               clear HB
               have BK285:=n0_
               have BK287:=n1_
               have BK288:=n2_
               have HB:=n3_
               have BK286:=n4_
               have GW286:=n5_
               have GE286:=n6_
               have NB285_286:=n7_
               have NB286_285:=n8_
               have NB287_286:=n9_
               have NB286_287:=n10_
               have NB288_286:=n11_
               have NB286_288:=n12_
               clear n0_ n1_ n2_ n3_ n4_ n5_ n6_ n7_ n8_ n9_ n10_ n11_ n12_
               clear hb hbox hg
               refine hK.out _ _ ⟨(cK HB.out hw281_0),(cK HB.out hw281_1),(cK HB.out hw282_0),(cK HB.out hw282_1),(cK HB.out hw283_0),(cK HB.out hw283_1),(cK HB.out hw284_0),(cK HB.out hw284_1)⟩ (fun hHeld=>?_)
               clear hK K
               refine norm_ (a':=?_) ?_ ?_
               rotate_left
               ·show Act.put _ (some 8) _=_
                simp only [Act.put,sI,sZ,sS,i64_w,i32_w]
                rfl
               exact norm_ (by first|(simp only [putAll,Act.put,List.setIfInBounds_toArray,List.set_cons_zero,List.set_cons_succ];done)|(simp only [putAll,Act.put,List.setIfInBounds_toArray,List.set_cons_zero,List.set_cons_succ];rfl)) (hJ20_21_22_23 (gb285,gb286,gb287,gb288) _ ⟨hHeld,BK285.out,BK286.out,BK287.out,BK288.out,GW285.out,GE285.out,NB286_285.out,NB285_286.out,NB287_285.out,NB285_287.out,NB288_285.out,NB285_288.out,GW286.out,GE286.out,NB287_286.out,NB286_287.out,NB288_286.out,NB286_288.out,GW287.out,GE287.out,NB288_287.out,NB287_288.out,GW288.out,GE288.out,(by repeat (first|(with_reducible first|exact HB.out|apply bA|apply bN|apply bD|refine bS ?_ GE285.out|refine bS ?_ GE287.out|refine bS ?_ GE288.out|refine bS ?_ GE286.out)|exact HB.out))⟩)
             ·skip
              rintro ⟨gb285,gb286,gb288⟩ w30 ⟨hS_,h0_,h1_,h2_,h3_,h4_,h5_,h6_,h7_,h8_,h9_,h10_,h11_,h12_,h13_,h14_,h15_⟩
              have n0_:Aside0 (w30.heap[gb285]? = some (.cells #[.int .i64 0,.int .i64 0] 40 (0,0))):=⟨h0_⟩
              have n1_:Aside0 (w30.heap[gb286]? = some (.cells #[.int .i64 0,.int .i64 0] 40 (0,0))):=⟨h1_⟩
              have n2_:Aside0 (w30.heap[gb288]? = some (.cells #[.int .i64 0,.int .i64 0] 40 (0,0))):=⟨h2_⟩
              have n3_:Aside0 (w.heap.size≤gb285):=⟨h3_⟩
              have n4_:Aside0 (w.heap.size≤gb285):=⟨h4_⟩
              have n5_:Aside0 (gb286≠gb285):=⟨h5_⟩
              have n6_:Aside0 (gb285≠gb286):=⟨h6_⟩
              have n7_:Aside0 (gb288≠gb285):=⟨h7_⟩
              have n8_:Aside0 (gb285≠gb288):=⟨h8_⟩
              have n9_:Aside0 (w.heap.size≤gb286):=⟨h9_⟩
              have n10_:Aside0 (w.heap.size≤gb286):=⟨h10_⟩
              have n11_:Aside0 (gb288≠gb286):=⟨h11_⟩
              have n12_:Aside0 (gb286≠gb288):=⟨h12_⟩
              have n13_:Aside0 (w.heap.size≤gb288):=⟨h13_⟩
              have n14_:Aside0 (w.heap.size≤gb288):=⟨h14_⟩
              have n15_:Aside0 (Below w.heap.size w w30):=⟨h15_⟩
              clear HB
              clear h0_ h1_ h2_ h3_ h4_ h5_ h6_ h7_ h8_ h9_ h10_ h11_ h12_ h13_ h14_ h15_
              have BK285:=n0_
              have BK286:=n1_
              have BK288:=n2_
              have GW285:=n3_
              have GE285:=n4_
              have NB286_285:=n5_
              have NB285_286:=n6_
              have NB288_285:=n7_
              have NB285_288:=n8_
              have GW286:=n9_
              have GE286:=n10_
              have NB288_286:=n11_
              have NB286_288:=n12_
              have GW288:=n13_
              have GE288:=n14_
              have HB:=n15_
              clear n0_ n1_ n2_ n3_ n4_ n5_ n6_ n7_ n8_ n9_ n10_ n11_ n12_ n13_ n14_ n15_
              have hHeld:w30.cell? (ad281.add ((x25_2).toNat * 2))=some (.int .i64 ((rd_T40 l0 x25_2).f0))∧w30.cell? ⟨(ad281.add ((x25_2).toNat * 2)).block,(ad281.add ((x25_2).toNat * 2)).off+1,none⟩=some (.int .i64 ((rd_T40 l0 x25_2).f1))∧w30.cell? (ad281.add (((ji16)).toNat * 2))=some (.int .i64 ((rd_T40 l0 (ji16)).f0))∧w30.cell? ⟨(ad281.add (((ji16)).toNat * 2)).block,(ad281.add (((ji16)).toNat * 2)).off+1,none⟩=some (.int .i64 ((rd_T40 l0 (ji16)).f1))∧w30.cell? (ad281.add ((x5_3).toNat * 2))=some (.int .i64 ((rd_T40 l0 x5_3).f0))∧w30.cell? ⟨(ad281.add ((x5_3).toNat * 2)).block,(ad281.add ((x5_3).toNat * 2)).off+1,none⟩=some (.int .i64 ((rd_T40 l0 x5_3).f1))∧w30.cell? (ad281.add (((ji22)).toNat * 2))=some (.int .i64 ((rd_T40 l0 (ji22)).f0))∧w30.cell? ⟨(ad281.add (((ji22)).toNat * 2)).block,(ad281.add (((ji22)).toNat * 2)).off+1,none⟩=some (.int .i64 ((rd_T40 l0 (ji22)).f1)):=hS_
              refine norm_ (a':=?_) ?_ ?_
              rotate_left
              ·simp only [putAll,Act.put,List.setIfInBounds_toArray,List.set_cons_zero,List.set_cons_succ]
               rfl
              refine one_ (i:=22) (N:=some 9) (bV 28 16777215) rfl rfl (one_of HT_.out (by kernel_rfl)) (by decide) (fun K hK=>?_)
              refine box_step ?hg (N:=9) ?hd (cs:=#[.int .i64 0,.int .i64 0]) (t:=40) ?hr ?_;(case hd=>rfl);(case hg=>rfl);(case hr=>first|(go_simp;done)|(go_simp;rfl))
              intro gb287 hg w31 hbox hb
              have n0_:=Aside0.mk (blk_below BK285.out hb)
              have n1_:=Aside0.mk (blk_below BK286.out hb)
              have n2_:=Aside0.mk (blk_below BK288.out hb)
              have n3_:=Aside0.mk (below_step (by repeat (first|(with_reducible first|exact HB.out|apply bA|apply bN|apply bD|refine bS ?_ GE285.out|refine bS ?_ GE286.out|refine bS ?_ GE288.out)|exact HB.out)) hb)
              have n4_:=Aside0.mk (hbox)
              have n5_:=Aside0.mk ((by rw [hg];exact (below_size (by repeat (first|(with_reducible first|exact HB.out|apply bA|apply bN|apply bD|refine bS ?_ GE285.out|refine bS ?_ GE286.out|refine bS ?_ GE288.out)|exact HB.out))):w.heap.size≤gb287))
              have n6_:=Aside0.mk ((by rw [hg];exact (below_size (by repeat (first|(with_reducible first|exact HB.out|apply bA|apply bN|apply bD|refine bS ?_ GE285.out|refine bS ?_ GE286.out|refine bS ?_ GE288.out)|exact HB.out))):w.heap.size≤gb287))
              have n7_:=Aside0.mk ((by rw [hg];exact Nat.ne_of_lt (blk_lt BK285.out):gb285≠gb287))
              have n8_:=Aside0.mk ((by rw [hg];exact Nat.ne_of_gt (blk_lt BK285.out):gb287≠gb285))
              have n9_:=Aside0.mk ((by rw [hg];exact Nat.ne_of_lt (blk_lt BK286.out):gb286≠gb287))
              have n10_:=Aside0.mk ((by rw [hg];exact Nat.ne_of_gt (blk_lt BK286.out):gb287≠gb286))
              have n11_:=Aside0.mk ((by rw [hg];exact Nat.ne_of_lt (blk_lt BK288.out):gb288≠gb287))
              have n12_:=Aside0.mk ((by rw [hg];exact Nat.ne_of_gt (blk_lt BK288.out):gb287≠gb288))
              clear BK285
              clear BK286
              clear BK288
              clear HB
              have BK285:=n0_
              have BK286:=n1_
              have BK288:=n2_
              have HB:=n3_
              have BK287:=n4_
              have GW287:=n5_
              have GE287:=n6_
              have NB285_287:=n7_
              have NB287_285:=n8_
              have NB286_287:=n9_
              have NB287_286:=n10_
              have NB288_287:=n11_
              have NB287_288:=n12_
              clear n0_ n1_ n2_ n3_ n4_ n5_ n6_ n7_ n8_ n9_ n10_ n11_ n12_
              clear hb hbox hg
              refine hK.out _ _ ⟨(cK HB.out hw281_0),(cK HB.out hw281_1),(cK HB.out hw282_0),(cK HB.out hw282_1),(cK HB.out hw283_0),(cK HB.out hw283_1),(cK HB.out hw284_0),(cK HB.out hw284_1)⟩ (fun hHeld=>?_)
              clear hK K
              refine norm_ (a':=?_) ?_ ?_
              rotate_left
              ·show Act.put _ (some 9) _=_
               simp only [Act.put,sI,sZ,sS,i64_w,i32_w]
               rfl
              exact norm_ (by first|(simp only [putAll,Act.put,List.setIfInBounds_toArray,List.set_cons_zero,List.set_cons_succ];done)|(simp only [putAll,Act.put,List.setIfInBounds_toArray,List.set_cons_zero,List.set_cons_succ];rfl)) (hJ20_21_22_23 (gb285,gb286,gb287,gb288) _ ⟨hHeld,BK285.out,BK286.out,BK287.out,BK288.out,GW285.out,GE285.out,NB286_285.out,NB285_286.out,NB287_285.out,NB285_287.out,NB288_285.out,NB285_288.out,GW286.out,GE286.out,NB287_286.out,NB286_287.out,NB288_286.out,NB286_288.out,GW287.out,GE287.out,NB288_287.out,NB287_288.out,GW288.out,GE288.out,(by repeat (first|(with_reducible first|exact HB.out|apply bA|apply bN|apply bD|refine bS ?_ GE285.out|refine bS ?_ GE286.out|refine bS ?_ GE288.out|refine bS ?_ GE287.out)|exact HB.out))⟩)
            ·skip
             rintro ⟨gb285,gb286,gb287⟩ w30 ⟨hS_,h0_,h1_,h2_,h3_,h4_,h5_,h6_,h7_,h8_,h9_,h10_,h11_,h12_,h13_,h14_,h15_⟩
             have n0_:Aside0 (w30.heap[gb285]? = some (.cells #[.int .i64 0,.int .i64 0] 40 (0,0))):=⟨h0_⟩
             have n1_:Aside0 (w30.heap[gb286]? = some (.cells #[.int .i64 0,.int .i64 0] 40 (0,0))):=⟨h1_⟩
             have n2_:Aside0 (w30.heap[gb287]? = some (.cells #[.int .i64 0,.int .i64 0] 40 (0,0))):=⟨h2_⟩
             have n3_:Aside0 (w.heap.size≤gb285):=⟨h3_⟩
             have n4_:Aside0 (w.heap.size≤gb285):=⟨h4_⟩
             have n5_:Aside0 (gb286≠gb285):=⟨h5_⟩
             have n6_:Aside0 (gb285≠gb286):=⟨h6_⟩
             have n7_:Aside0 (gb287≠gb285):=⟨h7_⟩
             have n8_:Aside0 (gb285≠gb287):=⟨h8_⟩
             have n9_:Aside0 (w.heap.size≤gb286):=⟨h9_⟩
             have n10_:Aside0 (w.heap.size≤gb286):=⟨h10_⟩
             have n11_:Aside0 (gb287≠gb286):=⟨h11_⟩
             have n12_:Aside0 (gb286≠gb287):=⟨h12_⟩
             have n13_:Aside0 (w.heap.size≤gb287):=⟨h13_⟩
             have n14_:Aside0 (w.heap.size≤gb287):=⟨h14_⟩
             have n15_:Aside0 (Below w.heap.size w w30):=⟨h15_⟩
             clear HB
             clear h0_ h1_ h2_ h3_ h4_ h5_ h6_ h7_ h8_ h9_ h10_ h11_ h12_ h13_ h14_ h15_
             have BK285:=n0_
             have BK286:=n1_
             have BK287:=n2_
             have GW285:=n3_
             have GE285:=n4_
             have NB286_285:=n5_
             have NB285_286:=n6_
             have NB287_285:=n7_
             have NB285_287:=n8_
             have GW286:=n9_
             have GE286:=n10_
             have NB287_286:=n11_
             have NB286_287:=n12_
             have GW287:=n13_
             have GE287:=n14_
             have HB:=n15_
             clear n0_ n1_ n2_ n3_ n4_ n5_ n6_ n7_ n8_ n9_ n10_ n11_ n12_ n13_ n14_ n15_
             have hHeld:w30.cell? (ad281.add ((x25_2).toNat * 2))=some (.int .i64 ((rd_T40 l0 x25_2).f0))∧w30.cell? ⟨(ad281.add ((x25_2).toNat * 2)).block,(ad281.add ((x25_2).toNat * 2)).off+1,none⟩=some (.int .i64 ((rd_T40 l0 x25_2).f1))∧w30.cell? (ad281.add (((ji16)).toNat * 2))=some (.int .i64 ((rd_T40 l0 (ji16)).f0))∧w30.cell? ⟨(ad281.add (((ji16)).toNat * 2)).block,(ad281.add (((ji16)).toNat * 2)).off+1,none⟩=some (.int .i64 ((rd_T40 l0 (ji16)).f1))∧w30.cell? (ad281.add ((x5_3).toNat * 2))=some (.int .i64 ((rd_T40 l0 x5_3).f0))∧w30.cell? ⟨(ad281.add ((x5_3).toNat * 2)).block,(ad281.add ((x5_3).toNat * 2)).off+1,none⟩=some (.int .i64 ((rd_T40 l0 x5_3).f1))∧w30.cell? (ad281.add (((ji22)).toNat * 2))=some (.int .i64 ((rd_T40 l0 (ji22)).f0))∧w30.cell? ⟨(ad281.add (((ji22)).toNat * 2)).block,(ad281.add (((ji22)).toNat * 2)).off+1,none⟩=some (.int .i64 ((rd_T40 l0 (ji22)).f1)):=hS_
             refine norm_ (a':=?_) ?_ ?_
             rotate_left
             ·simp only [putAll,Act.put,List.setIfInBounds_toArray,List.set_cons_zero,List.set_cons_succ]
              rfl
             refine one_ (i:=23) (N:=some 10) (bV 28 16777215) rfl rfl (one_of HT_.out (by kernel_rfl)) (by decide) (fun K hK=>?_)
             refine box_step ?hg (N:=10) ?hd (cs:=#[.int .i64 0,.int .i64 0]) (t:=40) ?hr ?_;(case hd=>rfl);(case hg=>rfl);(case hr=>first|(go_simp;done)|(go_simp;rfl))
             intro gb288 hg w31 hbox hb
             have n0_:=Aside0.mk (blk_below BK285.out hb)
             have n1_:=Aside0.mk (blk_below BK286.out hb)
             have n2_:=Aside0.mk (blk_below BK287.out hb)
             have n3_:=Aside0.mk (below_step (by repeat (first|(with_reducible first|exact HB.out|apply bA|apply bN|apply bD|refine bS ?_ GE285.out|refine bS ?_ GE286.out|refine bS ?_ GE287.out)|exact HB.out)) hb)
             have n4_:=Aside0.mk (hbox)
             have n5_:=Aside0.mk ((by rw [hg];exact (below_size (by repeat (first|(with_reducible first|exact HB.out|apply bA|apply bN|apply bD|refine bS ?_ GE285.out|refine bS ?_ GE286.out|refine bS ?_ GE287.out)|exact HB.out))):w.heap.size≤gb288))
             have n6_:=Aside0.mk ((by rw [hg];exact (below_size (by repeat (first|(with_reducible first|exact HB.out|apply bA|apply bN|apply bD|refine bS ?_ GE285.out|refine bS ?_ GE286.out|refine bS ?_ GE287.out)|exact HB.out))):w.heap.size≤gb288))
             have n7_:=Aside0.mk ((by rw [hg];exact Nat.ne_of_lt (blk_lt BK285.out):gb285≠gb288))
             have n8_:=Aside0.mk ((by rw [hg];exact Nat.ne_of_gt (blk_lt BK285.out):gb288≠gb285))
             have n9_:=Aside0.mk ((by rw [hg];exact Nat.ne_of_lt (blk_lt BK286.out):gb286≠gb288))
             have n10_:=Aside0.mk ((by rw [hg];exact Nat.ne_of_gt (blk_lt BK286.out):gb288≠gb286))
             have n11_:=Aside0.mk ((by rw [hg];exact Nat.ne_of_lt (blk_lt BK287.out):gb287≠gb288))
             have n12_:=Aside0.mk ((by rw [hg];exact Nat.ne_of_gt (blk_lt BK287.out):gb288≠gb287))
             clear BK285
             clear BK286
             clear BK287
             clear HB
             have BK285:=n0_
             have BK286:=n1_
             have BK287:=n2_
             have HB:=n3_
             have BK288:=n4_
             have GW288:=n5_
             have GE288:=n6_
             have NB285_288:=n7_
             have NB288_285:=n8_
             have NB286_288:=n9_
             have NB288_286:=n10_
             have NB287_288:=n11_
             have NB288_287:=n12_
             clear n0_ n1_ n2_ n3_ n4_ n5_ n6_ n7_ n8_ n9_ n10_ n11_ n12_
             clear hb hbox hg
             refine hK.out _ _ ⟨(cK HB.out hw281_0),(cK HB.out hw281_1),(cK HB.out hw282_0),(cK HB.out hw282_1),(cK HB.out hw283_0),(cK HB.out hw283_1),(cK HB.out hw284_0),(cK HB.out hw284_1)⟩ (fun hHeld=>?_)
             clear hK K
             refine norm_ (a':=?_) ?_ ?_
             rotate_left
             ·show Act.put _ (some 10) _=_
              simp only [Act.put,sI,sZ,sS,i64_w,i32_w]
              rfl
             exact norm_ (by first|(simp only [putAll,Act.put,List.setIfInBounds_toArray,List.set_cons_zero,List.set_cons_succ];done)|(simp only [putAll,Act.put,List.setIfInBounds_toArray,List.set_cons_zero,List.set_cons_succ];rfl)) (hJ20_21_22_23 (gb285,gb286,gb287,gb288) _ ⟨hHeld,BK285.out,BK286.out,BK287.out,BK288.out,GW285.out,GE285.out,NB286_285.out,NB285_286.out,NB287_285.out,NB285_287.out,NB288_285.out,NB285_288.out,GW286.out,GE286.out,NB287_286.out,NB286_287.out,NB288_286.out,NB286_288.out,GW287.out,GE287.out,NB288_287.out,NB287_288.out,GW288.out,GE288.out,(by repeat (first|(with_reducible first|exact HB.out|apply bA|apply bN|apply bD|refine bS ?_ GE285.out|refine bS ?_ GE286.out|refine bS ?_ GE287.out|refine bS ?_ GE288.out)|exact HB.out))⟩)
           rintro ⟨gb285,gb286,gb287,gb288⟩ w31 ⟨hS_,h0_,h1_,h2_,h3_,h4_,h5_,h6_,h7_,h8_,h9_,h10_,h11_,h12_,h13_,h14_,h15_,h16_,h17_,h18_,h19_,h20_,h21_,h22_,h23_,h24_⟩
           have n0_:Aside0 (w31.heap[gb285]? = some (.cells #[.int .i64 0,.int .i64 0] 40 (0,0))):=⟨h0_⟩
           have n1_:Aside0 (w31.heap[gb286]? = some (.cells #[.int .i64 0,.int .i64 0] 40 (0,0))):=⟨h1_⟩
           have n2_:Aside0 (w31.heap[gb287]? = some (.cells #[.int .i64 0,.int .i64 0] 40 (0,0))):=⟨h2_⟩
           have n3_:Aside0 (w31.heap[gb288]? = some (.cells #[.int .i64 0,.int .i64 0] 40 (0,0))):=⟨h3_⟩
           have n4_:Aside0 (w.heap.size≤gb285):=⟨h4_⟩
           have n5_:Aside0 (w.heap.size≤gb285):=⟨h5_⟩
           have n6_:Aside0 (gb286≠gb285):=⟨h6_⟩
           have n7_:Aside0 (gb285≠gb286):=⟨h7_⟩
           have n8_:Aside0 (gb287≠gb285):=⟨h8_⟩
           have n9_:Aside0 (gb285≠gb287):=⟨h9_⟩
           have n10_:Aside0 (gb288≠gb285):=⟨h10_⟩
           have n11_:Aside0 (gb285≠gb288):=⟨h11_⟩
           have n12_:Aside0 (w.heap.size≤gb286):=⟨h12_⟩
           have n13_:Aside0 (w.heap.size≤gb286):=⟨h13_⟩
           have n14_:Aside0 (gb287≠gb286):=⟨h14_⟩
           have n15_:Aside0 (gb286≠gb287):=⟨h15_⟩
           have n16_:Aside0 (gb288≠gb286):=⟨h16_⟩
           have n17_:Aside0 (gb286≠gb288):=⟨h17_⟩
           have n18_:Aside0 (w.heap.size≤gb287):=⟨h18_⟩
           have n19_:Aside0 (w.heap.size≤gb287):=⟨h19_⟩
           have n20_:Aside0 (gb288≠gb287):=⟨h20_⟩
           have n21_:Aside0 (gb287≠gb288):=⟨h21_⟩
           have n22_:Aside0 (w.heap.size≤gb288):=⟨h22_⟩
           have n23_:Aside0 (w.heap.size≤gb288):=⟨h23_⟩
           have n24_:Aside0 (Below w.heap.size w w31):=⟨h24_⟩
           clear HB
           clear h0_ h1_ h2_ h3_ h4_ h5_ h6_ h7_ h8_ h9_ h10_ h11_ h12_ h13_ h14_ h15_ h16_ h17_ h18_ h19_ h20_ h21_ h22_ h23_ h24_
           have BK285:=n0_
           have BK286:=n1_
           have BK287:=n2_
           have BK288:=n3_
           have GW285:=n4_
           have GE285:=n5_
           have NB286_285:=n6_
           have NB285_286:=n7_
           have NB287_285:=n8_
           have NB285_287:=n9_
           have NB288_285:=n10_
           have NB285_288:=n11_
           have GW286:=n12_
           have GE286:=n13_
           have NB287_286:=n14_
           have NB286_287:=n15_
           have NB288_286:=n16_
           have NB286_288:=n17_
           have GW287:=n18_
           have GE287:=n19_
           have NB288_287:=n20_
           have NB287_288:=n21_
           have GW288:=n22_
           have GE288:=n23_
           have HB:=n24_
           clear n0_ n1_ n2_ n3_ n4_ n5_ n6_ n7_ n8_ n9_ n10_ n11_ n12_ n13_ n14_ n15_ n16_ n17_ n18_ n19_ n20_ n21_ n22_ n23_ n24_
           have hHeld:w31.cell? (ad281.add ((x25_2).toNat * 2))=some (.int .i64 ((rd_T40 l0 x25_2).f0))∧w31.cell? ⟨(ad281.add ((x25_2).toNat * 2)).block,(ad281.add ((x25_2).toNat * 2)).off+1,none⟩=some (.int .i64 ((rd_T40 l0 x25_2).f1))∧w31.cell? (ad281.add (((ji16)).toNat * 2))=some (.int .i64 ((rd_T40 l0 (ji16)).f0))∧w31.cell? ⟨(ad281.add (((ji16)).toNat * 2)).block,(ad281.add (((ji16)).toNat * 2)).off+1,none⟩=some (.int .i64 ((rd_T40 l0 (ji16)).f1))∧w31.cell? (ad281.add ((x5_3).toNat * 2))=some (.int .i64 ((rd_T40 l0 x5_3).f0))∧w31.cell? ⟨(ad281.add ((x5_3).toNat * 2)).block,(ad281.add ((x5_3).toNat * 2)).off+1,none⟩=some (.int .i64 ((rd_T40 l0 x5_3).f1))∧w31.cell? (ad281.add (((ji22)).toNat * 2))=some (.int .i64 ((rd_T40 l0 (ji22)).f0))∧w31.cell? ⟨(ad281.add (((ji22)).toNat * 2)).block,(ad281.add (((ji22)).toNat * 2)).off+1,none⟩=some (.int .i64 ((rd_T40 l0 (ji22)).f1)):=hS_
           refine norm_ (a':=?_) ?_ ?_
           rotate_left
           ·simp only [putAll,Act.put,List.setIfInBounds_toArray,List.set_cons_zero,List.set_cons_succ]
            rfl
           refine one_ (i:=24) (N:=none) (bV 28 33554431) rfl rfl (one_of HT_.out (by kernel_rfl)) (by decide) (fun K hK=>?_)
           have hs32:w31.cell? ⟨gb285,0,none⟩=some (.int .i64 0):=(blk_cell BK285.out 0).trans rfl
           have hfs32:=blk_frozen BK285.out 0
           have hns32_1:=NB286_285.out
           have hns32_2:=NB287_285.out
           have hns32_3:=NB288_285.out
           have hms32_1:=NB285_286.out
           have hms32_2:=NB285_287.out
           have hms32_3:=NB285_288.out
           have hs33:w31.cell? ⟨gb285,1,none⟩=some (.int .i64 0):=(blk_cell BK285.out 1).trans rfl
           have hfs33:=blk_frozen BK285.out 1
           have hns33_1:=NB286_285.out
           have hns33_2:=NB287_285.out
           have hns33_3:=NB288_285.out
           have hms33_1:=NB285_286.out
           have hms33_2:=NB285_287.out
           have hms33_3:=NB285_288.out
           refine skip_ (w1:=?_) (by rfl) rfl ?_ ?_
           rotate_left
           ·go_simp
            rfl
           refine hK.out _ _ ⟨((far2 hw281_0 GW285.out _).trans (((far2 hw281_0 GW285.out _).trans (hHeld.1)))),((far2 hw281_1 GW285.out _).trans (((far2 hw281_1 GW285.out _).trans (hHeld.2.1)))),((far2 hw282_0 GW285.out _).trans (((far2 hw282_0 GW285.out _).trans (hHeld.2.2.1)))),((far2 hw282_1 GW285.out _).trans (((far2 hw282_1 GW285.out _).trans (hHeld.2.2.2.1)))),((far2 hw283_0 GW285.out _).trans (((far2 hw283_0 GW285.out _).trans (hHeld.2.2.2.2.1)))),((far2 hw283_1 GW285.out _).trans (((far2 hw283_1 GW285.out _).trans (hHeld.2.2.2.2.2.1)))),((far2 hw284_0 GW285.out _).trans (((far2 hw284_0 GW285.out _).trans (hHeld.2.2.2.2.2.2.1)))),((far2 hw284_1 GW285.out _).trans (((far2 hw284_1 GW285.out _).trans (hHeld.2.2.2.2.2.2.2))))⟩ (fun hHeld=>?_)
           clear hK K
           refine one_ (i:=25) (N:=none) (bV 28 67108863) rfl rfl (one_of HT_.out (by kernel_rfl)) (by decide) (fun K hK=>?_)
           have hs34:w31.cell? ⟨gb286,0,none⟩=some (.int .i64 0):=(blk_cell BK286.out 0).trans rfl
           have hfs34:=blk_frozen BK286.out 0
           have hns34_0:=NB285_286.out
           have hns34_2:=NB287_286.out
           have hns34_3:=NB288_286.out
           have hms34_0:=NB286_285.out
           have hms34_2:=NB286_287.out
           have hms34_3:=NB286_288.out
           have hs35:w31.cell? ⟨gb286,1,none⟩=some (.int .i64 0):=(blk_cell BK286.out 1).trans rfl
           have hfs35:=blk_frozen BK286.out 1
           have hns35_0:=NB285_286.out
           have hns35_2:=NB287_286.out
           have hns35_3:=NB288_286.out
           have hms35_0:=NB286_285.out
           have hms35_2:=NB286_287.out
           have hms35_3:=NB286_288.out
           refine skip_ (w1:=?_) (by rfl) rfl ?_ ?_
           rotate_left
           ·go_simp
            rfl
           refine hK.out _ _ ⟨((far2 hw281_0 GW286.out _).trans (((far2 hw281_0 GW286.out _).trans (hHeld.1)))),((far2 hw281_1 GW286.out _).trans (((far2 hw281_1 GW286.out _).trans (hHeld.2.1)))),((far2 hw282_0 GW286.out _).trans (((far2 hw282_0 GW286.out _).trans (hHeld.2.2.1)))),((far2 hw282_1 GW286.out _).trans (((far2 hw282_1 GW286.out _).trans (hHeld.2.2.2.1)))),((far2 hw283_0 GW286.out _).trans (((far2 hw283_0 GW286.out _).trans (hHeld.2.2.2.2.1)))),((far2 hw283_1 GW286.out _).trans (((far2 hw283_1 GW286.out _).trans (hHeld.2.2.2.2.2.1)))),((far2 hw284_0 GW286.out _).trans (((far2 hw284_0 GW286.out _).trans (hHeld.2.2.2.2.2.2.1)))),((far2 hw284_1 GW286.out _).trans (((far2 hw284_1 GW286.out _).trans (hHeld.2.2.2.2.2.2.2))))⟩ (fun hHeld=>?_)
           clear hK K
           refine one_ (i:=26) (N:=none) (bV 28 134217727) rfl rfl (one_of HT_.out (by kernel_rfl)) (by decide) (fun K hK=>?_)
           have hs36:w31.cell? ⟨gb287,0,none⟩=some (.int .i64 0):=(blk_cell BK287.out 0).trans rfl
           have hfs36:=blk_frozen BK287.out 0
           have hns36_0:=NB285_287.out
           have hns36_1:=NB286_287.out
           have hns36_3:=NB288_287.out
           have hms36_0:=NB287_285.out
           have hms36_1:=NB287_286.out
           have hms36_3:=NB287_288.out
           have hs37:w31.cell? ⟨gb287,1,none⟩=some (.int .i64 0):=(blk_cell BK287.out 1).trans rfl
           have hfs37:=blk_frozen BK287.out 1
           have hns37_0:=NB285_287.out
           have hns37_1:=NB286_287.out
           have hns37_3:=NB288_287.out
           have hms37_0:=NB287_285.out
           have hms37_1:=NB287_286.out
           have hms37_3:=NB287_288.out
           refine skip_ (w1:=?_) (by rfl) rfl ?_ ?_
           rotate_left
           ·go_simp
            rfl
           refine hK.out _ _ ⟨((far2 hw281_0 GW287.out _).trans (((far2 hw281_0 GW287.out _).trans (hHeld.1)))),((far2 hw281_1 GW287.out _).trans (((far2 hw281_1 GW287.out _).trans (hHeld.2.1)))),((far2 hw282_0 GW287.out _).trans (((far2 hw282_0 GW287.out _).trans (hHeld.2.2.1)))),((far2 hw282_1 GW287.out _).trans (((far2 hw282_1 GW287.out _).trans (hHeld.2.2.2.1)))),((far2 hw283_0 GW287.out _).trans (((far2 hw283_0 GW287.out _).trans (hHeld.2.2.2.2.1)))),((far2 hw283_1 GW287.out _).trans (((far2 hw283_1 GW287.out _).trans (hHeld.2.2.2.2.2.1)))),((far2 hw284_0 GW287.out _).trans (((far2 hw284_0 GW287.out _).trans (hHeld.2.2.2.2.2.2.1)))),((far2 hw284_1 GW287.out _).trans (((far2 hw284_1 GW287.out _).trans (hHeld.2.2.2.2.2.2.2))))⟩ (fun hHeld=>?_)
           clear hK K
           refine one_ (i:=27) (N:=none) (bV 28 268435455) rfl rfl (one_of HT_.out (by kernel_rfl)) (by decide) (fun K hK=>?_)
           have hs38:w31.cell? ⟨gb288,0,none⟩=some (.int .i64 0):=(blk_cell BK288.out 0).trans rfl
           have hfs38:=blk_frozen BK288.out 0
           have hns38_0:=NB285_288.out
           have hns38_1:=NB286_288.out
           have hns38_2:=NB287_288.out
           have hms38_0:=NB288_285.out
           have hms38_1:=NB288_286.out
           have hms38_2:=NB288_287.out
           have hs39:w31.cell? ⟨gb288,1,none⟩=some (.int .i64 0):=(blk_cell BK288.out 1).trans rfl
           have hfs39:=blk_frozen BK288.out 1
           have hns39_0:=NB285_288.out
           have hns39_1:=NB286_288.out
           have hns39_2:=NB287_288.out
           have hms39_0:=NB288_285.out
           have hms39_1:=NB288_286.out
           have hms39_2:=NB288_287.out
           refine skip_ (w1:=?_) (by rfl) rfl ?_ ?_
           rotate_left
           ·go_simp
            rfl
           refine hK.out _ _ ⟨((far2 hw281_0 GW288.out _).trans (((far2 hw281_0 GW288.out _).trans (hHeld.1)))),((far2 hw281_1 GW288.out _).trans (((far2 hw281_1 GW288.out _).trans (hHeld.2.1)))),((far2 hw282_0 GW288.out _).trans (((far2 hw282_0 GW288.out _).trans (hHeld.2.2.1)))),((far2 hw282_1 GW288.out _).trans (((far2 hw282_1 GW288.out _).trans (hHeld.2.2.2.1)))),((far2 hw283_0 GW288.out _).trans (((far2 hw283_0 GW288.out _).trans (hHeld.2.2.2.2.1)))),((far2 hw283_1 GW288.out _).trans (((far2 hw283_1 GW288.out _).trans (hHeld.2.2.2.2.2.1)))),((far2 hw284_0 GW288.out _).trans (((far2 hw284_0 GW288.out _).trans (hHeld.2.2.2.2.2.2.1)))),((far2 hw284_1 GW288.out _).trans (((far2 hw284_1 GW288.out _).trans (hHeld.2.2.2.2.2.2.2))))⟩ (fun hHeld=>?_)
           clear hK K
           refine done_ (done_of HT_.out (by kernel_rfl)) ?_
           go_wp2
           subst hji16
           go_meet
           case rel=>exact ⟨_,_,_,_,rfl,rfl,rfl,rfl,⟨(blk_other (blk_other (blk_other (blk_other (blk_other (blk_other (blk_put (blk_put BK285.out 0 _ rfl) 1 _ rfl) (show gb285≠gb286 from NB285_286.out) _) (show gb285≠gb286 from NB285_286.out) _) (show gb285≠gb287 from NB285_287.out) _) (show gb285≠gb287 from NB285_287.out) _) (show gb285≠gb288 from NB285_288.out) _) (show gb285≠gb288 from NB285_288.out) _)⟩,⟨(blk_other (blk_other (blk_other (blk_other (blk_put (blk_put (blk_other (blk_other BK286.out (show gb286≠gb285 from NB286_285.out) _) (show gb286≠gb285 from NB286_285.out) _) 0 _ rfl) 1 _ rfl) (show gb286≠gb287 from NB286_287.out) _) (show gb286≠gb287 from NB286_287.out) _) (show gb286≠gb288 from NB286_288.out) _) (show gb286≠gb288 from NB286_288.out) _)⟩,⟨(blk_other (blk_other (blk_put (blk_put (blk_other (blk_other (blk_other (blk_other BK287.out (show gb287≠gb285 from NB287_285.out) _) (show gb287≠gb285 from NB287_285.out) _) (show gb287≠gb286 from NB287_286.out) _) (show gb287≠gb286 from NB287_286.out) _) 0 _ rfl) 1 _ rfl) (show gb287≠gb288 from NB287_288.out) _) (show gb287≠gb288 from NB287_288.out) _)⟩,⟨(blk_put (blk_put (blk_other (blk_other (blk_other (blk_other (blk_other (blk_other BK288.out (show gb288≠gb285 from NB288_285.out) _) (show gb288≠gb285 from NB288_285.out) _) (show gb288≠gb286 from NB288_286.out) _) (show gb288≠gb286 from NB288_286.out) _) (show gb288≠gb287 from NB288_287.out) _) (show gb288≠gb287 from NB288_287.out) _) 0 _ rfl) 1 _ rfl)⟩,⟨by repeat (first|(with_reducible first|exact HB.out|apply bA|apply bN|apply bD|refine bS ?_ GE285.out|refine bS ?_ GE286.out|refine bS ?_ GE287.out|refine bS ?_ GE288.out)|exact HB.out)⟩⟩
          case rest =>
           clear HB
           obtain ⟨g7,g8,g9,g10,rfl,rfl,rfl,rfl,B7,B8,B9,B10,HB⟩:=hcut
           have H:=HH.out
           clear HH
           have hbB70:wc.cell? ⟨g7,0,none⟩=some (.int .i64 (rd_T40 l0 x25_2).f0):=(blk_cell B7.out 0).trans rfl
           have hbB71:wc.cell? ⟨g7,1,none⟩=some (.int .i64 (rd_T40 l0 x25_2).f1):=(blk_cell B7.out 1).trans rfl
           have hbB80:wc.cell? ⟨g8,0,none⟩=some (.int .i64 (rd_T40 l0 ji16).f0):=(blk_cell B8.out 0).trans rfl
           have hbB81:wc.cell? ⟨g8,1,none⟩=some (.int .i64 (rd_T40 l0 ji16).f1):=(blk_cell B8.out 1).trans rfl
           have hbB90:wc.cell? ⟨g9,0,none⟩=some (.int .i64 (rd_T40 l0 x5_3).f0):=(blk_cell B9.out 0).trans rfl
           have hbB91:wc.cell? ⟨g9,1,none⟩=some (.int .i64 (rd_T40 l0 x5_3).f1):=(blk_cell B9.out 1).trans rfl
           have hbB100:wc.cell? ⟨g10,0,none⟩=some (.int .i64 (rd_T40 l0 ji22).f0):=(blk_cell B10.out 0).trans rfl
           have hbB101:wc.cell? ⟨g10,1,none⟩=some (.int .i64 (rd_T40 l0 ji22).f1):=(blk_cell B10.out 1).trans rfl
           obtain ⟨p0,hp0⟩ : ∃ p,p=rd_T40 l0 x25_2:=⟨_,rfl⟩
           obtain ⟨p1,hp1⟩ : ∃ p,p=rd_T40 l0 ji16:=⟨_,rfl⟩
           obtain ⟨p2,hp2⟩ : ∃ p,p=rd_T40 l0 x5_3:=⟨_,rfl⟩
           obtain ⟨p3,hp3⟩ : ∃ p,p=rd_T40 l0 ji22:=⟨_,rfl⟩
           rw [← hp0,← hp1,← hp2,← hp3] at H
           rw [← hp0] at hbB70 hbB71
           rw [← hp1] at hbB80 hbB81
           rw [← hp2] at hbB90 hbB91
           rw [← hp3] at hbB100 hbB101
           clear B7 B8 B9 B10 hp0 hp1 hp2 hp3 hji16 hji22 hji16w c9b0 c15b0 c18b0 c24b0 c14b0 c17b0 c19b0 c23b0 c21 c21b0 c21b1 c21b2
           by_cases e1:(p0.f0 == p1.f0 && p0.f1 == p1.f1)=true
           ·rw [if_pos e1] at H
            rw [Bool.and_eq_true,beq_iff_eq,beq_iff_eq] at e1
            have e1a:=eq_true e1.1
            have e1b:=eq_true e1.2
            have e1c:(p0.f0 == p1.f0)=true:=beq_iff_eq.mpr e1.1
            have e1d:(p0.f1 == p1.f1)=true:=beq_iff_eq.mpr e1.2
            clear e1
            obtain rfl:=Option.some.inj H
            have hI:=HI.out
            rw [if_neg (by decide)] at hI
            obtain rfl:=Option.some.inj hI
            clear H hI HI
            go_wp2
            go_ret
            exact ⟨by first|rfl|(simp;done)|(simp [*];done),(by repeat (with_reducible first|exact HB.out|apply bA|apply bN|apply bD))⟩
           ·rw [if_neg e1] at H
            by_cases e11:p0.f0=p1.f0
            ·have e12:¬ p0.f1=p1.f1:=fun z=>e1 (by rw [Bool.and_eq_true,beq_iff_eq,beq_iff_eq];exact ⟨e11,z⟩)
             have e1a:=eq_true e11
             have e1b:=eq_false e12
             have e1c:(p0.f0 == p1.f0)=true:=beq_iff_eq.mpr e11
             have e1d:(p0.f1 == p1.f1)=false:=beq_eq_false_iff_ne.mpr e12
             clear e1 e11 e12
             by_cases e2:(p2.f0 == p3.f0 && p2.f1 == p3.f1)=true
             ·rw [if_pos e2] at H
              rw [Bool.and_eq_true,beq_iff_eq,beq_iff_eq] at e2
              have e2a:=eq_true e2.1
              have e2b:=eq_true e2.2
              have e2c:(p2.f0 == p3.f0)=true:=beq_iff_eq.mpr e2.1
              have e2d:(p2.f1 == p3.f1)=true:=beq_iff_eq.mpr e2.2
              clear e2
              obtain rfl:=Option.some.inj H
              have hI:=HI.out
              rw [if_neg (by decide)] at hI
              obtain rfl:=Option.some.inj hI
              clear H hI HI
              go_wp2
              go_ret
              exact ⟨by first|rfl|(simp;done)|(simp [*];done),(by repeat (with_reducible first|exact HB.out|apply bA|apply bN|apply bD))⟩
             ·rw [if_neg e2] at H
              by_cases e21:p2.f0=p3.f0
              ·have e22:¬ p2.f1=p3.f1:=fun z=>e2 (by rw [Bool.and_eq_true,beq_iff_eq,beq_iff_eq];exact ⟨e21,z⟩)
               have e2a:=eq_true e21
               have e2b:=eq_false e22
               have e2c:(p2.f0 == p3.f0)=true:=beq_iff_eq.mpr e21
               have e2d:(p2.f1 == p3.f1)=false:=beq_eq_false_iff_ne.mpr e22
               clear e2 e21 e22
               obtain ⟨m,AM,H⟩:=Option.bind_eq_some_iff.mp H
               have HM:=Aside0.mk AM
               clear AM
               by_cases cm:m=want
               ·rw [if_pos cm] at H
                have H':=Aside0.mk H
                have cma:=eq_true cm
                have cmb:(m != want)=false:=by rw [cm];simp
                clear H cm
                obtain ⟨h25,h5⟩:=H5.out
                subst h25
                subst h5
                go_wp2_with (first|(go_at_call 68;(refine (impl_meet.calls k2 p0.f0 p0.f1 p1.f0 p1.f1 p2.f0 p2.f1 p3.f0 p3.f1 m _ HM.out).mono ?_);rintro e w30 ⟨rfl,hb⟩;have n0_:=Aside0.mk (below_step (by repeat (with_reducible first|exact HB.out|apply bA|apply bN|apply bD)) hb);clear HB;have HB:=n0_;clear n0_ hb))
                go_roundg k2
                case measure=>have:=HK1.out;have:=HK2.out;omega
                case rel=>exact ⟨j+1,by have h1:=HN.out;have h2:=HIJ.out;have h4:=HJL.out;exact congrArg (Value.int .i64) (by first|(unfold wrap64;omega)|omega),H',⟨by have:=HK1.out;have:=HK2.out;omega⟩,⟨by have:=HIJ.out;omega⟩,⟨(by repeat (with_reducible first|exact HB.out|apply bA|apply bN|apply bD))⟩⟩
               ·rw [if_neg cm] at H
                obtain rfl:=Option.some.inj H
                have hI:=HI.out
                rw [if_neg (by decide)] at hI
                obtain rfl:=Option.some.inj hI
                clear H hI HI
                have cma:=eq_false cm
                have cmb:(m != want)=true:=bne_iff_ne.mpr cm
                clear cm
                go_wp2_with (first|(go_at_call 68;(refine (impl_meet.calls k2 p0.f0 p0.f1 p1.f0 p1.f1 p2.f0 p2.f1 p3.f0 p3.f1 m _ HM.out).mono ?_);rintro e w30 ⟨rfl,hb⟩;have n0_:=Aside0.mk (below_step (by repeat (with_reducible first|exact HB.out|apply bA|apply bN|apply bD)) hb);clear HB;have HB:=n0_;clear n0_ hb))
                go_ret
                exact ⟨by first|rfl|(simp;done)|(simp [*];done),(by repeat (with_reducible first|exact HB.out|apply bA|apply bN|apply bD))⟩
              ·have e2a:=eq_false e21
               have e2c:(p2.f0 == p3.f0)=false:=beq_eq_false_iff_ne.mpr e21
               clear e2 e21
               obtain ⟨m,AM,H⟩:=Option.bind_eq_some_iff.mp H
               have HM:=Aside0.mk AM
               clear AM
               by_cases cm:m=want
               ·rw [if_pos cm] at H
                have H':=Aside0.mk H
                have cma:=eq_true cm
                have cmb:(m != want)=false:=by rw [cm];simp
                clear H cm
                obtain ⟨h25,h5⟩:=H5.out
                subst h25
                subst h5
                go_wp2_with (first|(go_at_call 68;(refine (impl_meet.calls k2 p0.f0 p0.f1 p1.f0 p1.f1 p2.f0 p2.f1 p3.f0 p3.f1 m _ HM.out).mono ?_);rintro e w30 ⟨rfl,hb⟩;have n0_:=Aside0.mk (below_step (by repeat (with_reducible first|exact HB.out|apply bA|apply bN|apply bD)) hb);clear HB;have HB:=n0_;clear n0_ hb))
                go_roundg k2
                case measure=>have:=HK1.out;have:=HK2.out;omega
                case rel=>exact ⟨j+1,by have h1:=HN.out;have h2:=HIJ.out;have h4:=HJL.out;exact congrArg (Value.int .i64) (by first|(unfold wrap64;omega)|omega),H',⟨by have:=HK1.out;have:=HK2.out;omega⟩,⟨by have:=HIJ.out;omega⟩,⟨(by repeat (with_reducible first|exact HB.out|apply bA|apply bN|apply bD))⟩⟩
               ·rw [if_neg cm] at H
                obtain rfl:=Option.some.inj H
                have hI:=HI.out
                rw [if_neg (by decide)] at hI
                obtain rfl:=Option.some.inj hI
                clear H hI HI
                have cma:=eq_false cm
                have cmb:(m != want)=true:=bne_iff_ne.mpr cm
                clear cm
                go_wp2_with (first|(go_at_call 68;(refine (impl_meet.calls k2 p0.f0 p0.f1 p1.f0 p1.f1 p2.f0 p2.f1 p3.f0 p3.f1 m _ HM.out).mono ?_);rintro e w30 ⟨rfl,hb⟩;have n0_:=Aside0.mk (below_step (by repeat (with_reducible first|exact HB.out|apply bA|apply bN|apply bD)) hb);clear HB;have HB:=n0_;clear n0_ hb))
                go_ret
                exact ⟨by first|rfl|(simp;done)|(simp [*];done),(by repeat (with_reducible first|exact HB.out|apply bA|apply bN|apply bD))⟩
            ·have e1a:=eq_false e11
             have e1c:(p0.f0 == p1.f0)=false:=beq_eq_false_iff_ne.mpr e11
             clear e1 e11
             by_cases e2:(p2.f0 == p3.f0 && p2.f1 == p3.f1)=true
             ·rw [if_pos e2] at H
              rw [Bool.and_eq_true,beq_iff_eq,beq_iff_eq] at e2
              have e2a:=eq_true e2.1
              have e2b:=eq_true e2.2
              have e2c:(p2.f0 == p3.f0)=true:=beq_iff_eq.mpr e2.1
              have e2d:(p2.f1 == p3.f1)=true:=beq_iff_eq.mpr e2.2
              clear e2
              obtain rfl:=Option.some.inj H
              have hI:=HI.out
              rw [if_neg (by decide)] at hI
              obtain rfl:=Option.some.inj hI
              clear H hI HI
              go_wp2
              go_ret
              exact ⟨by first|rfl|(simp;done)|(simp [*];done),(by repeat (with_reducible first|exact HB.out|apply bA|apply bN|apply bD))⟩
             ·rw [if_neg e2] at H
              by_cases e21:p2.f0=p3.f0
              ·have e22:¬ p2.f1=p3.f1:=fun z=>e2 (by rw [Bool.and_eq_true,beq_iff_eq,beq_iff_eq];exact ⟨e21,z⟩)
               have e2a:=eq_true e21
               have e2b:=eq_false e22
               have e2c:(p2.f0 == p3.f0)=true:=beq_iff_eq.mpr e21
               have e2d:(p2.f1 == p3.f1)=false:=beq_eq_false_iff_ne.mpr e22
               clear e2 e21 e22
               obtain ⟨m,AM,H⟩:=Option.bind_eq_some_iff.mp H
               have HM:=Aside0.mk AM
               clear AM
               by_cases cm:m=want
               ·rw [if_pos cm] at H
                have H':=Aside0.mk H
                have cma:=eq_true cm
                have cmb:(m != want)=false:=by rw [cm];simp
                clear H cm
                obtain ⟨h25,h5⟩:=H5.out
                subst h25
                subst h5
                go_wp2_with (first|(go_at_call 68;(refine (impl_meet.calls k2 p0.f0 p0.f1 p1.f0 p1.f1 p2.f0 p2.f1 p3.f0 p3.f1 m _ HM.out).mono ?_);rintro e w30 ⟨rfl,hb⟩;have n0_:=Aside0.mk (below_step (by repeat (with_reducible first|exact HB.out|apply bA|apply bN|apply bD)) hb);clear HB;have HB:=n0_;clear n0_ hb))
                go_roundg k2
                case measure=>have:=HK1.out;have:=HK2.out;omega
                case rel=>exact ⟨j+1,by have h1:=HN.out;have h2:=HIJ.out;have h4:=HJL.out;exact congrArg (Value.int .i64) (by first|(unfold wrap64;omega)|omega),H',⟨by have:=HK1.out;have:=HK2.out;omega⟩,⟨by have:=HIJ.out;omega⟩,⟨(by repeat (with_reducible first|exact HB.out|apply bA|apply bN|apply bD))⟩⟩
               ·rw [if_neg cm] at H
                obtain rfl:=Option.some.inj H
                have hI:=HI.out
                rw [if_neg (by decide)] at hI
                obtain rfl:=Option.some.inj hI
                clear H hI HI
                have cma:=eq_false cm
                have cmb:(m != want)=true:=bne_iff_ne.mpr cm
                clear cm
                go_wp2_with (first|(go_at_call 68;(refine (impl_meet.calls k2 p0.f0 p0.f1 p1.f0 p1.f1 p2.f0 p2.f1 p3.f0 p3.f1 m _ HM.out).mono ?_);rintro e w30 ⟨rfl,hb⟩;have n0_:=Aside0.mk (below_step (by repeat (with_reducible first|exact HB.out|apply bA|apply bN|apply bD)) hb);clear HB;have HB:=n0_;clear n0_ hb))
                go_ret
                exact ⟨by first|rfl|(simp;done)|(simp [*];done),(by repeat (with_reducible first|exact HB.out|apply bA|apply bN|apply bD))⟩
              ·have e2a:=eq_false e21
               have e2c:(p2.f0 == p3.f0)=false:=beq_eq_false_iff_ne.mpr e21
               clear e2 e21
               obtain ⟨m,AM,H⟩:=Option.bind_eq_some_iff.mp H
               have HM:=Aside0.mk AM
               clear AM
               by_cases cm:m=want
               ·rw [if_pos cm] at H
                have H':=Aside0.mk H
                have cma:=eq_true cm
                have cmb:(m != want)=false:=by rw [cm];simp
                clear H cm
                obtain ⟨h25,h5⟩:=H5.out
                subst h25
                subst h5
                go_wp2_with (first|(go_at_call 68;(refine (impl_meet.calls k2 p0.f0 p0.f1 p1.f0 p1.f1 p2.f0 p2.f1 p3.f0 p3.f1 m _ HM.out).mono ?_);rintro e w30 ⟨rfl,hb⟩;have n0_:=Aside0.mk (below_step (by repeat (with_reducible first|exact HB.out|apply bA|apply bN|apply bD)) hb);clear HB;have HB:=n0_;clear n0_ hb))
                go_roundg k2
                case measure=>have:=HK1.out;have:=HK2.out;omega
                case rel=>exact ⟨j+1,by have h1:=HN.out;have h2:=HIJ.out;have h4:=HJL.out;exact congrArg (Value.int .i64) (by first|(unfold wrap64;omega)|omega),H',⟨by have:=HK1.out;have:=HK2.out;omega⟩,⟨by have:=HIJ.out;omega⟩,⟨(by repeat (with_reducible first|exact HB.out|apply bA|apply bN|apply bD))⟩⟩
               ·rw [if_neg cm] at H
                obtain rfl:=Option.some.inj H
                have hI:=HI.out
                rw [if_neg (by decide)] at hI
                obtain rfl:=Option.some.inj hI
                clear H hI HI
                have cma:=eq_false cm
                have cmb:(m != want)=true:=bne_iff_ne.mpr cm
                clear cm
                go_wp2_with (first|(go_at_call 68;(refine (impl_meet.calls k2 p0.f0 p0.f1 p1.f0 p1.f1 p2.f0 p2.f1 p3.f0 p3.f1 m _ HM.out).mono ?_);rintro e w30 ⟨rfl,hb⟩;have n0_:=Aside0.mk (below_step (by repeat (with_reducible first|exact HB.out|apply bA|apply bN|apply bD)) hb);clear HB;have HB:=n0_;clear n0_ hb))
                go_ret
                exact ⟨by first|rfl|(simp;done)|(simp [*];done),(by repeat (with_reducible first|exact HB.out|apply bA|apply bN|apply bD))⟩
       ·rw [if_neg c9] at H
        obtain rfl:=Option.some.inj H
        have hI:=HI.out
        rw [if_pos rfl] at hI
        have H':=Aside0.mk hI
        have c9b0:decide ((j:Int) < (l0.length:Int))=false:=decide_eq_false (by omega)
        have c9b1:decide (j < l0.length)=false:=decide_eq_false c9
        clear H hI HI c9
        go_wp2
        go_roundg k1
        case measure=>have:=HK1.out;omega
        case rel=>exact ⟨i+1,by have h1:=HN.out;have h2:=HIL.out;exact congrArg (Value.int .i64) (by first|(unfold wrap64;omega)|omega),H',⟨by have:=HK1.out;omega⟩,⟨(by repeat (with_reducible first|exact HB.out|apply bA|apply bN|apply bD))⟩⟩
     ·rw [if_neg c8] at H
      obtain rfl:=Option.some.inj H
      have c8b0:decide ((i:Int) < (l0.length:Int))=false:=decide_eq_false (by omega)
      have c8b1:decide (i < l0.length)=false:=decide_eq_false c8
      clear H c8
      go_wp2
      go_ret
      exact ⟨by first|rfl|(simp;done)|(simp [*];done),(by repeat (with_reducible first|exact HB.out|apply bA|apply bN|apply bD))⟩
end Go.Proofs.Ytadenfniiihifaa.QFnExactMeasuresOf
