/- JoinedCut: the tied card. -/
import Derived.Test.YtlofkcjcejolcaaDoorRowFnExactJoinedCut
namespace Go.Proofs.YtlofkcjcejolcaaDoor
theorem fnExactJoinedCut_card_holds : Rows.FnExactJoinedCutCardSaid :=
 Claim7.holds_tied_plain_at .later [] [.data, .data] true (true, "65dc9898160b131fe76c4f19322d7e58f2dff5e9894898235afdf597128263b6") false
 fnExactJoinedCut.proved (fun _ h => by cases h) (by kernel_rfl) (fun _ h => by cases h) fnExactJoinedCut_row_tie rfl ⟨rfl, rfl⟩ (by kernel_rfl) rfl
 (fun f fn hf g => by
 obtain rfl : f = 12 := Option.some.inj ((show Tryd.prog.funcNamed "loop.example/g03208/laws.FnExactJoinedCut" = some 12 by kernel_rfl).symm.trans hf) |>.symm
 obtain rfl : fn = Tryd.f12 := (Option.some.inj (Tryd.func12.symm.trans g)).symm
 exact ⟨by kernel_rfl, fun j t ht => by
  rw [Tryd.params12] at ht
  have hm := Array.mem_of_getElem? ht
  have q : ((Tryd.f12.params.toList).all fun u => !Tryd.prog.wantsStandIn u) = true := by kernel_rfl
  rw [Tryd.params12] at q
  exact (show Tryd.prog.wantsStandIn t = false by simpa using List.all_eq_true.1 q t (by simpa using hm))⟩)
 (by kernel_rfl)
end Go.Proofs.YtlofkcjcejolcaaDoor
