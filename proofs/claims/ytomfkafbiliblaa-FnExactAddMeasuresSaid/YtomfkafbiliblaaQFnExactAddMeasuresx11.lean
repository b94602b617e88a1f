/- What each Go function of this text answers, as a plain function, and that the machine comes to just that answer. -/
import Derived.Test.YtomfkafbiliblaaQFnExactAddMeasuresx0
import Derived.Test.YtomfkafbiliblaaQFnExactAddMeasuresx1
import Derived.Test.YtomfkafbiliblaaQFnExactAddMeasuresx4
import Derived.Test.YtomfkafbiliblaaQFnExactAddMeasuresx9
import Derived.Test.YtomfkafbiliblaaQFnExactAddMeasuresx10
namespace Go.Proofs.Ytomfkafbiliblaa.QFnExactAddMeasures
open Go.RowKit Go.Proofs.YtomfkafbiliblaaW.PrintWords Go.Proofs.YtomfkafbiliblaaW.PrintLast Go.Proofs.YtomfkafbiliblaaW.PrintMore
attribute [local go_sem] max2_int min2_int max_two min_two max_three min_three max_four min_four   -- for this text's walks alone
set_option linter.unusedVariables false
set_option linter.unusedSimpArgs false

/-! What was made since, and what was there: parted at a size of the heap. -/
section
variable {α β γ δ : Type} {d : Kd α} {d0 : Kd β} {d1 : Kd γ} {d2 : Kd δ} {e e0 e1 e2 : Nat} {W w1 : World} {base : Nat} {ok ok0 ok1 : Nat → Prop} {u u0 u1 v : Value} {xs : List α} {xs0 : List β} {xs1 : List γ} {ys : List δ}
theorem am_old (h : Kd.S d0 e0 W base ok0 u0 xs0) (hb : Below W.heap.size W w1) : Kd.S d0 e0 w1 base (fun k_ => ok0 k_ ∧ k_ < W.heap.size) u0 xs0 := Kd.S_below (Kd.S_mono (Kd.S_bound h) (fun _ hk => ⟨hk.1, hk.2.2.1⟩)) hb
theorem am_made (hS : Kd.S d2 e2 w1 W.heap.size (fun _ => True) v ys) (hle : base ≤ W.heap.size) : Kd.S d2 e2 w1 base (fun k_ => W.heap.size ≤ k_) v ys := Kd.S_lower (Kd.S_mono (Kd.S_bound hS) (fun _ hk => hk.2.1)) hle
theorem am_new1 (hN : Kd.N d e W base ok u xs) (hS : Kd.S d2 e2 w1 W.heap.size (fun _ => True) v ys) (hb : Below W.heap.size W w1) (hle : base ≤ W.heap.size) :
 ∃ n : Nat, Kd.N d e w1 base (fun k_ => k_ < n) u xs ∧ Kd.S d2 e2 w1 base (fun k_ => n ≤ k_) v ys := ⟨W.heap.size, Kd.N_mono (Kd.N_old hN hb) (fun _ hk => hk.2), am_made hS hle⟩
theorem am_new2 (hN : Kd.N d e W base ok u xs) (h0 : Kd.S d0 e0 W base ok0 u0 xs0) (hS : Kd.S d2 e2 w1 W.heap.size (fun _ => True) v ys) (hb : Below W.heap.size W w1) (hle : base ≤ W.heap.size) :
 ∃ n : Nat, Kd.N d e w1 base (fun k_ => ok k_ ∧ k_ < n) u xs ∧ Kd.S d0 e0 w1 base (fun k_ => ok0 k_ ∧ k_ < n) u0 xs0 ∧ Kd.S d2 e2 w1 base (fun k_ => n ≤ k_) v ys := ⟨W.heap.size, Kd.N_old hN hb, am_old h0 hb, am_made hS hle⟩
theorem am_new3 (hN : Kd.N d e W base ok u xs) (h0 : Kd.S d0 e0 W base ok0 u0 xs0) (h1 : Kd.S d1 e1 W base ok1 u1 xs1) (hS : Kd.S d2 e2 w1 W.heap.size (fun _ => True) v ys) (hb : Below W.heap.size W w1) (hle : base ≤ W.heap.size) :
 ∃ n : Nat, Kd.N d e w1 base (fun k_ => ok k_ ∧ k_ < n) u xs ∧ Kd.S d0 e0 w1 base (fun k_ => ok0 k_ ∧ k_ < n) u0 xs0 ∧ Kd.S d1 e1 w1 base (fun k_ => ok1 k_ ∧ k_ < n) u1 xs1 ∧ Kd.S d2 e2 w1 base (fun k_ => n ≤ k_) v ys := ⟨W.heap.size, Kd.N_old hN hb, am_old h0 hb, am_old h1 hb, am_made hS hle⟩
end
theorem laws_heldIntSS.held (k : Nat) (A : Option Addr) (n c : Nat) (l0 : List (List Int)) (a1 r : Int) (w : World) {base : Nat} {ok : Nat → Prop} (hS : Kd.S (Kd.slice 3 (Kd.int .i64)) 29 w base ok (.slice A n c) l0) (h : laws_heldIntSS.f k l0 a1 = some r) :
 Calls Try.prog 10 #[.slice A n c, .int .i64 a1] w fun e w' => e = .returned (.int .i64 r) ∧ Drawn0 w w' := by
 obtain ⟨h1, h2, h3⟩ := Kd.S_reads' hS
 subst h1
 exact laws_heldIntSS.calls k A c l0 a1 r w h3 h2 h

/-! ### laws_FnExactAddMeasures: function 3 -/
mutual
def laws_FnExactAddMeasures.j0 : Nat → List (List Int) → List (List Int) → List (List Int) → Bool → List (List Int) → List (List Int) → List (List Int) → Bool → Bool → Option (Bool)
 | 0, _, _, _, _, _, _, _, _, _ => none
 | k + 1, x0, x1, x6, x7, x8, x9, x10, x11, x53 => if x53 = true then (some false) else ((laws_toIntSS.f k x0).bind fun t274 => ((laws_eqIntSS.f k x8 t274).bind fun t277 => (if t277 = true then ((laws_toIntSS.f k x1).bind fun t278 => ((laws_eqIntSS.f k x9 t278).bind fun t281 => (if t281 = true then ((laws_markIntSS.f k x8 1).bind fun bt282 => ((laws_markIntSS.f k x9 bt282.1).bind fun bt283 => (if bt283.1 < 0 then (laws_FnExactAddMeasures.j1 k x0 x1 x6 x7 x10 true) else ((laws_eqIntSS.f k x10 x6).bind fun t284 => (if t284 = true then (laws_FnExactAddMeasures.j1 k x0 x1 x6 x7 x10 (x11 != x7)) else (laws_FnExactAddMeasures.j1 k x0 x1 x6 x7 x10 true)))))) else (some false)))) else (some false))))
def laws_FnExactAddMeasures.j1 : Nat → List (List Int) → List (List Int) → List (List Int) → Bool → List (List Int) → Bool → Option (Bool)
 | 0, _, _, _, _, _, _ => none
 | k + 1, x0, x1, x6, x7, x10, x82 => if x82 = true then (some false) else ((laws_markIntSS.f k x10 1).bind fun bt285 => ((laws_heldIntSS.f k bt285.2 1).bind fun t286 => (if t286 < 0 then (some false) else (if t286 = bt285.1 then ((laws_toIntSS.f k x0).bind fun t287 => ((laws_toIntSS.f k x1).bind fun t290 => ((impl_AddMeasures.f k t287 t290).bind fun bt293 => ((laws_eqIntSS.f k bt293.1 x6).bind fun t297 => (if t297 = true then (laws_FnExactAddMeasures.j2 k bt285.2 bt285.1 (bt293.2 != x7)) else (laws_FnExactAddMeasures.j2 k bt285.2 bt285.1 true)))))) else (some false)))))
def laws_FnExactAddMeasures.j2 : Nat → List (List Int) → Int → Bool → Option (Bool)
 | 0, _, _, _ => none
 | k + 1, x10, x13, x110 => if x110 = true then (some false) else ((laws_heldIntSS.f k x10 1).bind fun t298 => (if t298 < 0 then (some false) else (if t298 = x13 then (some true) else (some false))))
end
def laws_FnExactAddMeasures.f (k : Nat) (l0 : List (List Int)) (l1 : List (List Int)) : Option (Bool) := (laws_szIntSS.f k l0 1048576).bind fun t251 => (if t251 < 0 then (some true) else ((laws_szIntSS.f k l1 t251).bind fun t252 => (if t252 < 0 then (some true) else ((laws_toIntSS.f k l0).bind fun t253 => ((laws_toIntSS.f k l1).bind fun t256 => ((spec_AddMeasures.f k t253 t256).bind fun bt259 => ((laws_toIntSS.f k l0).bind fun t263 => ((laws_toIntSS.f k l1).bind fun t266 => ((impl_AddMeasures.f k t263 t266).bind fun bt269 => ((laws_eqIntSS.f k bt269.1 bt259.1).bind fun t273 => (if t273 = true then (laws_FnExactAddMeasures.j0 k l0 l1 bt259.1 bt259.2 t263 t266 bt269.1 bt269.2 (bt269.2 != bt259.2)) else (laws_FnExactAddMeasures.j0 k l0 l1 bt259.1 bt259.2 t263 t266 bt269.1 bt269.2 true))))))))))))
theorem laws_FnExactAddMeasures.mono_l : ∀ k, (∀ y0 y1 y2 y3 y4 y5 y6 y7 y8, LeO (laws_FnExactAddMeasures.j0 k y0 y1 y2 y3 y4 y5 y6 y7 y8) (laws_FnExactAddMeasures.j0 (k + 1) y0 y1 y2 y3 y4 y5 y6 y7 y8)) ∧ (∀ y0 y1 y2 y3 y4 y5, LeO (laws_FnExactAddMeasures.j1 k y0 y1 y2 y3 y4 y5) (laws_FnExactAddMeasures.j1 (k + 1) y0 y1 y2 y3 y4 y5)) ∧ (∀ y0 y1 y2, LeO (laws_FnExactAddMeasures.j2 k y0 y1 y2) (laws_FnExactAddMeasures.j2 (k + 1) y0 y1 y2))
 | 0 => ⟨fun _ _ _ _ _ _ _ _ _ r h => by simp [laws_FnExactAddMeasures.j0] at h, fun _ _ _ _ _ _ r h => by simp [laws_FnExactAddMeasures.j1] at h, fun _ _ _ r h => by simp [laws_FnExactAddMeasures.j2] at h⟩
 | k + 1 => by
  obtain ⟨ih0, ih1, ih2⟩ := laws_FnExactAddMeasures.mono_l k
  refine ⟨?_, ?_, ?_⟩
  ·intro y0 y1 y2 y3 y4 y5 y6 y7 y8
   unfold laws_FnExactAddMeasures.j0
   repeat' first
   | (with_reducible exact ih0 _ _ _ _ _ _ _ _ _)
   | (with_reducible exact ih1 _ _ _ _ _ _)
   | (with_reducible exact ih2 _ _ _)
   | (with_reducible exact impl_AddMeasures.mono _ _ _)
   | (with_reducible exact laws_eqIntSS.mono _ _ _)
   | (with_reducible exact laws_heldIntSS.mono _ _ _)
   | (with_reducible exact laws_markIntSS.mono _ _ _)
   | (with_reducible exact laws_szIntSS.mono _ _ _)
   | (with_reducible exact laws_toIntSS.mono _ _)
   | (with_reducible exact spec_AddMeasures.mono _ _ _)
   | (with_reducible exact LeO.refl _)
   | (with_reducible exact LeO.none _)
   | (with_reducible refine LeO.ite ?_ ?_)
   | (with_reducible refine LeO.bind ?_ (fun _ => ?_))
   | exact ih0 _ _ _ _ _ _ _ _ _
   | exact ih1 _ _ _ _ _ _
   | exact ih2 _ _ _
   | exact impl_AddMeasures.mono _ _ _
   | exact laws_eqIntSS.mono _ _ _
   | exact laws_heldIntSS.mono _ _ _
   | exact laws_markIntSS.mono _ _ _
   | exact laws_szIntSS.mono _ _ _
   | exact laws_toIntSS.mono _ _
   | exact spec_AddMeasures.mono _ _ _
   | exact LeO.none _
   | refine LeO.ite ?_ ?_
   | refine LeO.bind ?_ (fun _ => ?_)
  ·intro y0 y1 y2 y3 y4 y5
   unfold laws_FnExactAddMeasures.j1
   repeat' first
   | (with_reducible exact ih0 _ _ _ _ _ _ _ _ _)
   | (with_reducible exact ih1 _ _ _ _ _ _)
   | (with_reducible exact ih2 _ _ _)
   | (with_reducible exact impl_AddMeasures.mono _ _ _)
   | (with_reducible exact laws_eqIntSS.mono _ _ _)
   | (with_reducible exact laws_heldIntSS.mono _ _ _)
   | (with_reducible exact laws_markIntSS.mono _ _ _)
   | (with_reducible exact laws_szIntSS.mono _ _ _)
   | (with_reducible exact laws_toIntSS.mono _ _)
   | (with_reducible exact spec_AddMeasures.mono _ _ _)
   | (with_reducible exact LeO.refl _)
   | (with_reducible exact LeO.none _)
   | (with_reducible refine LeO.ite ?_ ?_)
   | (with_reducible refine LeO.bind ?_ (fun _ => ?_))
   | exact ih0 _ _ _ _ _ _ _ _ _
   | exact ih1 _ _ _ _ _ _
   | exact ih2 _ _ _
   | exact impl_AddMeasures.mono _ _ _
   | exact laws_eqIntSS.mono _ _ _
   | exact laws_heldIntSS.mono _ _ _
   | exact laws_markIntSS.mono _ _ _
   | exact laws_szIntSS.mono _ _ _
   | exact laws_toIntSS.mono _ _
   | exact spec_AddMeasures.mono _ _ _
   | exact LeO.none _
   | refine LeO.ite ?_ ?_
   | refine LeO.bind ?_ (fun _ => ?_)
  ·intro y0 y1 y2
   unfold laws_FnExactAddMeasures.j2
   repeat' first
   | (with_reducible exact ih0 _ _ _ _ _ _ _ _ _)
   | (with_reducible exact ih1 _ _ _ _ _ _)
   | (with_reducible exact ih2 _ _ _)
   | (with_reducible exact impl_AddMeasures.mono _ _ _)
   | (with_reducible exact laws_eqIntSS.mono _ _ _)
   | (with_reducible exact laws_heldIntSS.mono _ _ _)
   | (with_reducible exact laws_markIntSS.mono _ _ _)
   | (with_reducible exact laws_szIntSS.mono _ _ _)
   | (with_reducible exact laws_toIntSS.mono _ _)
   | (with_reducible exact spec_AddMeasures.mono _ _ _)
   | (with_reducible exact LeO.refl _)
   | (with_reducible exact LeO.none _)
   | (with_reducible refine LeO.ite ?_ ?_)
   | (with_reducible refine LeO.bind ?_ (fun _ => ?_))
   | exact ih0 _ _ _ _ _ _ _ _ _
   | exact ih1 _ _ _ _ _ _
   | exact ih2 _ _ _
   | exact impl_AddMeasures.mono _ _ _
   | exact laws_eqIntSS.mono _ _ _
   | exact laws_heldIntSS.mono _ _ _
   | exact laws_markIntSS.mono _ _ _
   | exact laws_szIntSS.mono _ _ _
   | exact laws_toIntSS.mono _ _
   | exact spec_AddMeasures.mono _ _ _
   | exact LeO.none _
   | refine LeO.ite ?_ ?_
   | refine LeO.bind ?_ (fun _ => ?_)
theorem laws_FnExactAddMeasures.mono : ∀ a0 a1 k, LeO (laws_FnExactAddMeasures.f k a0 a1) (laws_FnExactAddMeasures.f (k + 1) a0 a1) := by
 intro a0 a1 k
 obtain ⟨ih0, ih1, ih2⟩ := laws_FnExactAddMeasures.mono_l k
 unfold laws_FnExactAddMeasures.f
 repeat' first
  | (with_reducible exact ih0 _ _ _ _ _ _ _ _ _)
  | (with_reducible exact ih1 _ _ _ _ _ _)
  | (with_reducible exact ih2 _ _ _)
  | (with_reducible exact impl_AddMeasures.mono _ _ _)
  | (with_reducible exact laws_eqIntSS.mono _ _ _)
  | (with_reducible exact laws_heldIntSS.mono _ _ _)
  | (with_reducible exact laws_markIntSS.mono _ _ _)
  | (with_reducible exact laws_szIntSS.mono _ _ _)
  | (with_reducible exact laws_toIntSS.mono _ _)
  | (with_reducible exact spec_AddMeasures.mono _ _ _)
  | (with_reducible exact LeO.refl _)
  | (with_reducible exact LeO.none _)
  | (with_reducible refine LeO.ite ?_ ?_)
  | (with_reducible refine LeO.bind ?_ (fun _ => ?_))
  | exact ih0 _ _ _ _ _ _ _ _ _
  | exact ih1 _ _ _ _ _ _
  | exact ih2 _ _ _
  | exact impl_AddMeasures.mono _ _ _
  | exact laws_eqIntSS.mono _ _ _
  | exact laws_heldIntSS.mono _ _ _
  | exact laws_markIntSS.mono _ _ _
  | exact laws_szIntSS.mono _ _ _
  | exact laws_toIntSS.mono _ _
  | exact spec_AddMeasures.mono _ _ _
  | exact LeO.none _
  | refine LeO.ite ?_ ?_
  | refine LeO.bind ?_ (fun _ => ?_)
set_option maxHeartbeats 8000000 in
set_option maxRecDepth 100000 in
theorem laws_FnExactAddMeasures.calls (k : Nat) (A0 : Option Addr) (c0 : Nat) (l0 : List (List Int)) (A1 : Option Addr) (c1 : Nat) (l1 : List (List Int)) (r : Bool) (w : World) (hr0 : Kd.C (Kd.slice 3 (Kd.int .i64)) w A0 l0.length l0) (hc0 : l0.length ≤ c0) (hr1 : Kd.C (Kd.slice 3 (Kd.int .i64)) w A1 l1.length l1) (hc1 : l1.length ≤ c1) (h : laws_FnExactAddMeasures.f k l0 l1 = some true) :
 Calls Try.prog 3 #[.slice A0 l0.length c0, .slice A1 l1.length c1] w fun e w' => e = .returned (.bool true) ∧ Below w.heap.size w w' := by
 have HR0 := Aside0.mk hr0
 have HC0 := Aside0.mk hc0
 clear hr0 hc0
 have HR1 := Aside0.mk hr1
 have HC1 := Aside0.mk hc1
 clear hr1 hc1
 have HB := Aside0.mk (Below.refl w.heap.size w)
 have H : ((laws_szIntSS.f k l0 1048576).bind fun t251 => (if t251 < 0 then (some true) else ((laws_szIntSS.f k l1 t251).bind fun t252 => (if t252 < 0 then (some true) else ((laws_toIntSS.f k l0).bind fun t253 => ((laws_toIntSS.f k l1).bind fun t256 => ((spec_AddMeasures.f k t253 t256).bind fun bt259 => ((laws_toIntSS.f k l0).bind fun t263 => ((laws_toIntSS.f k l1).bind fun t266 => ((impl_AddMeasures.f k t263 t266).bind fun bt269 => ((laws_eqIntSS.f k bt269.1 bt259.1).bind fun t273 => (if t273 = true then (laws_FnExactAddMeasures.j0 k l0 l1 bt259.1 bt259.2 t263 t266 bt269.1 bt269.2 (bt269.2 != bt259.2)) else (laws_FnExactAddMeasures.j0 k l0 l1 bt259.1 bt259.2 t263 t266 bt269.1 bt269.2 true))))))))))))) = some true := h
 clear h
 replace H := Option.bind_eq_some_iff.mp H
 obtain ⟨t251, A30, H⟩ := H
 replace H : (if t251 < 0 then (some true) else ((laws_szIntSS.f k l1 t251).bind fun t252 => (if t252 < 0 then (some true) else ((laws_toIntSS.f k l0).bind fun t253 => ((laws_toIntSS.f k l1).bind fun t256 => ((spec_AddMeasures.f k t253 t256).bind fun bt259 => ((laws_toIntSS.f k l0).bind fun t263 => ((laws_toIntSS.f k l1).bind fun t266 => ((impl_AddMeasures.f k t263 t266).bind fun bt269 => ((laws_eqIntSS.f k bt269.1 bt259.1).bind fun t273 => (if t273 = true then (laws_FnExactAddMeasures.j0 k l0 l1 bt259.1 bt259.2 t263 t266 bt269.1 bt269.2 (bt269.2 != bt259.2)) else (laws_FnExactAddMeasures.j0 k l0 l1 bt259.1 bt259.2 t263 t266 bt269.1 bt269.2 true)))))))))))) = some true := H
 have A3 := Aside0.mk A30
 clear A30
 by_cases c4 : t251 < 0
 ·rw [if_pos c4] at H
  have c4b0 : decide (t251 < 0) = true := decide_eq_true c4
  clear c4
  clear H
  go_enter Try.func3, Try.ntmps3
  go_wp2_with (first | ((with_reducible refine gate_callee (f := 4) rfl ?_); refine goesL_ (some 19) rfl rfl Try.func4 (by kernel_rfl) rfl #[.slice A0 l0.length c0, .int .i64 1048576] rfl (by (try simp only [List.map_toArray, List.map_cons, List.map_nil]); first | done | rfl) ?_; (with_reducible refine (laws_szIntSS.calls k _ _ l0 1048576 t251 _ ?side1 ?side2 A3.out).mono ?_); (case side1 => repeat (first | exact HR0.out | (with_reducible refine Kd.C_alloc ?_ _) | (with_reducible refine Kd.C_drewN ?_ _) | (with_reducible refine Kd.C_drew ?_))); (case side2 => exact HC0.out); rintro e w' ⟨rfl, ⟨nd, rfl⟩⟩; refine ⟨_, rfl, ?_⟩))
  go_ret
  exact ⟨by first | rfl | (simp [errW_none, errW_some] <;> rfl) | (simp [*, errW_none, errW_some] <;> rfl), by repeat (with_reducible first | exact HB.out | apply below_alloc | apply pw_below_drewN | apply below_drew1)⟩
 ·rw [if_neg c4] at H
  have c4b0 : decide (t251 < 0) = false := decide_eq_false c4
  clear c4
  replace H := Option.bind_eq_some_iff.mp H
  obtain ⟨t252, A50, H⟩ := H
  replace H : (if t252 < 0 then (some true) else ((laws_toIntSS.f k l0).bind fun t253 => ((laws_toIntSS.f k l1).bind fun t256 => ((spec_AddMeasures.f k t253 t256).bind fun bt259 => ((laws_toIntSS.f k l0).bind fun t263 => ((laws_toIntSS.f k l1).bind fun t266 => ((impl_AddMeasures.f k t263 t266).bind fun bt269 => ((laws_eqIntSS.f k bt269.1 bt259.1).bind fun t273 => (if t273 = true then (laws_FnExactAddMeasures.j0 k l0 l1 bt259.1 bt259.2 t263 t266 bt269.1 bt269.2 (bt269.2 != bt259.2)) else (laws_FnExactAddMeasures.j0 k l0 l1 bt259.1 bt259.2 t263 t266 bt269.1 bt269.2 true)))))))))) = some true := H
  have A5 := Aside0.mk A50
  clear A50
  by_cases c6 : t252 < 0
  ·rw [if_pos c6] at H
   have c6b0 : decide (t252 < 0) = true := decide_eq_true c6
   clear c6
   clear H
   go_enter Try.func3, Try.ntmps3
   go_wp2_with (first | ((with_reducible refine gate_callee (f := 4) rfl ?_); refine goesL_ (some 19) rfl rfl Try.func4 (by kernel_rfl) rfl #[.slice A0 l0.length c0, .int .i64 1048576] rfl (by (try simp only [List.map_toArray, List.map_cons, List.map_nil]); first | done | rfl) ?_; (with_reducible refine (laws_szIntSS.calls k _ _ l0 1048576 t251 _ ?side1 ?side2 A3.out).mono ?_); (case side1 => repeat (first | exact HR0.out | (with_reducible refine Kd.C_alloc ?_ _) | (with_reducible refine Kd.C_drewN ?_ _) | (with_reducible refine Kd.C_drew ?_))); (case side2 => exact HC0.out); rintro e w' ⟨rfl, ⟨nd, rfl⟩⟩; refine ⟨_, rfl, ?_⟩) | ((with_reducible refine gate_callee (f := 4) rfl ?_); refine goesL_ (some 24) rfl rfl Try.func4 (by kernel_rfl) rfl #[.slice A1 l1.length c1, .int .i64 t251] rfl (by (try simp only [List.map_toArray, List.map_cons, List.map_nil]); first | done | rfl) ?_; (with_reducible refine (laws_szIntSS.calls k _ _ l1 t251 t252 _ ?side1 ?side2 A5.out).mono ?_); (case side1 => repeat (first | exact HR1.out | (with_reducible refine Kd.C_alloc ?_ _) | (with_reducible refine Kd.C_drewN ?_ _) | (with_reducible refine Kd.C_drew ?_))); (case side2 => exact HC1.out); rintro e w' ⟨rfl, ⟨nd, rfl⟩⟩; refine ⟨_, rfl, ?_⟩))
   go_ret
   exact ⟨by first | rfl | (simp [errW_none, errW_some] <;> rfl) | (simp [*, errW_none, errW_some] <;> rfl), by repeat (with_reducible first | exact HB.out | apply below_alloc | apply pw_below_drewN | apply below_drew1)⟩
  ·rw [if_neg c6] at H
   have c6b0 : decide (t252 < 0) = false := decide_eq_false c6
   clear c6
   replace H := Option.bind_eq_some_iff.mp H
   obtain ⟨t253, A70, H⟩ := H
   replace H : ((laws_toIntSS.f k l1).bind fun t256 => ((spec_AddMeasures.f k t253 t256).bind fun bt259 => ((laws_toIntSS.f k l0).bind fun t263 => ((laws_toIntSS.f k l1).bind fun t266 => ((impl_AddMeasures.f k t263 t266).bind fun bt269 => ((laws_eqIntSS.f k bt269.1 bt259.1).bind fun t273 => (if t273 = true then (laws_FnExactAddMeasures.j0 k l0 l1 bt259.1 bt259.2 t263 t266 bt269.1 bt269.2 (bt269.2 != bt259.2)) else (laws_FnExactAddMeasures.j0 k l0 l1 bt259.1 bt259.2 t263 t266 bt269.1 bt269.2 true)))))))) = some true := H
   have A7 := Aside0.mk A70
   clear A70
   replace H := Option.bind_eq_some_iff.mp H
   obtain ⟨t256, A80, H⟩ := H
   replace H : ((spec_AddMeasures.f k t253 t256).bind fun bt259 => ((laws_toIntSS.f k l0).bind fun t263 => ((laws_toIntSS.f k l1).bind fun t266 => ((impl_AddMeasures.f k t263 t266).bind fun bt269 => ((laws_eqIntSS.f k bt269.1 bt259.1).bind fun t273 => (if t273 = true then (laws_FnExactAddMeasures.j0 k l0 l1 bt259.1 bt259.2 t263 t266 bt269.1 bt269.2 (bt269.2 != bt259.2)) else (laws_FnExactAddMeasures.j0 k l0 l1 bt259.1 bt259.2 t263 t266 bt269.1 bt269.2 true))))))) = some true := H
   have A8 := Aside0.mk A80
   clear A80
   replace H := Option.bind_eq_some_iff.mp H
   obtain ⟨⟨t259, t262⟩, A90, H⟩ := H
   replace H : ((laws_toIntSS.f k l0).bind fun t263 => ((laws_toIntSS.f k l1).bind fun t266 => ((impl_AddMeasures.f k t263 t266).bind fun bt269 => ((laws_eqIntSS.f k bt269.1 t259).bind fun t273 => (if t273 = true then (laws_FnExactAddMeasures.j0 k l0 l1 t259 t262 t263 t266 bt269.1 bt269.2 (bt269.2 != t262)) else (laws_FnExactAddMeasures.j0 k l0 l1 t259 t262 t263 t266 bt269.1 bt269.2 true)))))) = some true := H
   have A9 := Aside0.mk A90
   clear A90
   replace H := Option.bind_eq_some_iff.mp H
   obtain ⟨t263, A100, H⟩ := H
   replace H : ((laws_toIntSS.f k l1).bind fun t266 => ((impl_AddMeasures.f k t263 t266).bind fun bt269 => ((laws_eqIntSS.f k bt269.1 t259).bind fun t273 => (if t273 = true then (laws_FnExactAddMeasures.j0 k l0 l1 t259 t262 t263 t266 bt269.1 bt269.2 (bt269.2 != t262)) else (laws_FnExactAddMeasures.j0 k l0 l1 t259 t262 t263 t266 bt269.1 bt269.2 true))))) = some true := H
   have A10 := Aside0.mk A100
   clear A100
   replace H := Option.bind_eq_some_iff.mp H
   obtain ⟨t266, A110, H⟩ := H
   replace H : ((impl_AddMeasures.f k t263 t266).bind fun bt269 => ((laws_eqIntSS.f k bt269.1 t259).bind fun t273 => (if t273 = true then (laws_FnExactAddMeasures.j0 k l0 l1 t259 t262 t263 t266 bt269.1 bt269.2 (bt269.2 != t262)) else (laws_FnExactAddMeasures.j0 k l0 l1 t259 t262 t263 t266 bt269.1 bt269.2 true)))) = some true := H
   have A11 := Aside0.mk A110
   clear A110
   replace H := Option.bind_eq_some_iff.mp H
   obtain ⟨⟨t269, t270⟩, A120, H⟩ := H
   replace H : ((laws_eqIntSS.f k t269 t259).bind fun t273 => (if t273 = true then (laws_FnExactAddMeasures.j0 k l0 l1 t259 t262 t263 t266 t269 t270 (t270 != t262)) else (laws_FnExactAddMeasures.j0 k l0 l1 t259 t262 t263 t266 t269 t270 true))) = some true := H
   have A12 := Aside0.mk A120
   clear A120
   have HC13 := Aside0.mk H
   clear H
   go_enter Try.func3, Try.ntmps3
   go_upto_region 12 with (first | ((with_reducible refine gate_callee (f := 4) rfl ?_); refine goesL_ (some 19) rfl rfl Try.func4 (by kernel_rfl) rfl #[.slice A0 l0.length c0, .int .i64 1048576] rfl (by (try simp only [List.map_toArray, List.map_cons, List.map_nil]); first | done | rfl) ?_; (with_reducible refine (laws_szIntSS.calls k _ _ l0 1048576 t251 _ ?side1 ?side2 A3.out).mono ?_); (case side1 => repeat (first | exact HR0.out | (with_reducible refine Kd.C_alloc ?_ _) | (with_reducible refine Kd.C_drewN ?_ _) | (with_reducible refine Kd.C_drew ?_))); (case side2 => exact HC0.out); rintro e w' ⟨rfl, ⟨nd, rfl⟩⟩; refine ⟨_, rfl, ?_⟩) | ((with_reducible refine gate_callee (f := 4) rfl ?_); refine goesL_ (some 24) rfl rfl Try.func4 (by kernel_rfl) rfl #[.slice A1 l1.length c1, .int .i64 t251] rfl (by (try simp only [List.map_toArray, List.map_cons, List.map_nil]); first | done | rfl) ?_; (with_reducible refine (laws_szIntSS.calls k _ _ l1 t251 t252 _ ?side1 ?side2 A5.out).mono ?_); (case side1 => repeat (first | exact HR1.out | (with_reducible refine Kd.C_alloc ?_ _) | (with_reducible refine Kd.C_drewN ?_ _) | (with_reducible refine Kd.C_drew ?_))); (case side2 => exact HC1.out); rintro e w' ⟨rfl, ⟨nd, rfl⟩⟩; refine ⟨_, rfl, ?_⟩) | ((with_reducible refine gate_callee (f := 6) rfl ?_); refine goesL_ (some 29) rfl rfl Try.func6 (by kernel_rfl) rfl #[.slice A0 l0.length c0] rfl (by (try simp only [List.map_toArray, List.map_cons, List.map_nil]); first | done | rfl) ?_; (with_reducible refine (laws_toIntSS.calls k _ _ l0 t253 _ ?side1 ?side2 A7.out).mono ?_); (case side1 => repeat (first | exact HR0.out | (with_reducible refine Kd.C_alloc ?_ _) | (with_reducible refine Kd.C_drewN ?_ _) | (with_reducible refine Kd.C_drew ?_))); (case side2 => exact HC0.out); rintro e w14 ⟨v254, rfl, ho0, hb⟩; refine ⟨_, rfl, ?_⟩; have n0_ := Aside0.mk (Kd.S_lower ho0 (below_size (by repeat (with_reducible first | exact HB.out | apply below_alloc | apply pw_below_drewN | apply below_drew1)))); have n1_ := Aside0.mk (below_step (by repeat (with_reducible first | exact HB.out | apply below_alloc | apply pw_below_drewN | apply below_drew1)) hb); clear HB; have HO255 := n0_; have HB := n1_; clear n0_ n1_; (try clear hb); (try clear ho0)) | ((with_reducible refine gate_callee (f := 6) rfl ?_); refine goesL_ (some 31) rfl rfl Try.func6 (by kernel_rfl) rfl #[.slice A1 l1.length c1] rfl (by (try simp only [List.map_toArray, List.map_cons, List.map_nil]); first | done | rfl) ?_; (with_reducible refine (laws_toIntSS.calls k _ _ l1 t256 _ ?side1 ?side2 A8.out).mono ?_); (case side1 => repeat (first | exact (Kd.C_below HR1.out HB.out) | (with_reducible refine Kd.C_alloc ?_ _) | (with_reducible refine Kd.C_drewN ?_ _) | (with_reducible refine Kd.C_drew ?_))); (case side2 => exact HC1.out); rintro e w15 ⟨v257, rfl, ho0, hb⟩; refine ⟨_, rfl, ?_⟩; have n0_ := Aside0.mk (Kd.S_below (by (with_reducible repeat (first | apply Kd.S_alloc | apply Kd.S_drewN | apply Kd.S_drew)); exact HO255.out) hb); have n1_ := Aside0.mk (Kd.S_lower ho0 (below_size (by repeat (with_reducible first | exact HB.out | apply below_alloc | apply pw_below_drewN | apply below_drew1)))); have n2_ := Aside0.mk (below_step (by repeat (with_reducible first | exact HB.out | apply below_alloc | apply pw_below_drewN | apply below_drew1)) hb); clear HO255; clear HB; have HO255 := n0_; have HO258 := n1_; have HB := n2_; clear n0_ n1_ n2_; (try clear hb); (try clear ho0); obtain ⟨Ao16, co16, eo16⟩ := Kd.S_slice HO255.out; subst eo16; obtain ⟨Ao17, co17, eo17⟩ := Kd.S_slice HO258.out; subst eo17) | ((with_reducible refine gate_callee (f := 5) rfl ?_); refine goesL_ (some 32) rfl rfl Try.func5 (by kernel_rfl) rfl #[.slice Ao16 t253.length co16, .slice Ao17 t256.length co17] rfl (by (try simp only [List.map_toArray, List.map_cons, List.map_nil]); first | done | rfl) ?_; (with_reducible refine (spec_AddMeasures.calls k _ _ t253 _ _ t256 t259 t262 _ ?side1 ?side2 ?side3 ?side4 A9.out).mono ?_); (case side1 => repeat (first | exact (Kd.S_reads' HO255.out).2.2 | (with_reducible refine Kd.C_alloc ?_ _) | (with_reducible refine Kd.C_drewN ?_ _) | (with_reducible refine Kd.C_drew ?_))); (case side2 => exact (Kd.S_reads' HO255.out).2.1); (case side3 => repeat (first | exact (Kd.S_reads' HO258.out).2.2 | (with_reducible refine Kd.C_alloc ?_ _) | (with_reducible refine Kd.C_drewN ?_ _) | (with_reducible refine Kd.C_drew ?_))); (case side4 => exact (Kd.S_reads' HO258.out).2.1); rintro e w18 ⟨v260, rfl, ho0, hb⟩; refine ⟨_, rfl, ?_⟩; have n0_ := Aside0.mk (Kd.S_below (by (with_reducible repeat (first | apply Kd.S_alloc | apply Kd.S_drewN | apply Kd.S_drew)); exact HO255.out) hb); have n1_ := Aside0.mk (Kd.S_below (by (with_reducible repeat (first | apply Kd.S_alloc | apply Kd.S_drewN | apply Kd.S_drew)); exact HO258.out) hb); have n2_ := Aside0.mk (Kd.N_lower (Kd.N_mono (ok' := fun k_ => True) ho0 (fun _ _ => trivial)) (below_size (by repeat (with_reducible first | exact HB.out | apply below_alloc | apply pw_below_drewN | apply below_drew1)))); have n3_ := Aside0.mk (below_step (by repeat (with_reducible first | exact HB.out | apply below_alloc | apply pw_below_drewN | apply below_drew1)) hb); clear HO255; clear HO258; clear HB; have HO255 := n0_; have HO258 := n1_; have HO261 := n2_; have HB := n3_; clear n0_ n1_ n2_ n3_; (try clear hb); (try clear ho0)) | ((with_reducible refine gate_callee (f := 6) rfl ?_); refine goesL_ (some 36) rfl rfl Try.func6 (by kernel_rfl) rfl #[.slice A0 l0.length c0] rfl (by (try simp only [List.map_toArray, List.map_cons, List.map_nil]); first | done | rfl) ?_; (with_reducible refine (laws_toIntSS.calls k _ _ l0 t263 _ ?side1 ?side2 A10.out).mono ?_); (case side1 => repeat (first | exact (Kd.C_below HR0.out HB.out) | (with_reducible refine Kd.C_alloc ?_ _) | (with_reducible refine Kd.C_drewN ?_ _) | (with_reducible refine Kd.C_drew ?_))); (case side2 => exact HC0.out); rintro e w19 ⟨v264, rfl, ho0, hb⟩; refine ⟨_, rfl, ?_⟩; obtain ⟨nq1_, hN_, hS_⟩ := am_new1 (by (with_reducible repeat (first | apply Kd.N_alloc | apply Kd.N_drewN | apply Kd.N_drew)); exact HO261.out) ho0 hb (below_size (by repeat (with_reducible first | exact HB.out | apply below_alloc | apply pw_below_drewN | apply below_drew1))); have n0_ := Aside0.mk (Kd.S_below (by (with_reducible repeat (first | apply Kd.S_alloc | apply Kd.S_drewN | apply Kd.S_drew)); exact HO255.out) hb); have n1_ := Aside0.mk (Kd.S_below (by (with_reducible repeat (first | apply Kd.S_alloc | apply Kd.S_drewN | apply Kd.S_drew)); exact HO258.out) hb); have n2_ := Aside0.mk (hN_); have n3_ := Aside0.mk (hS_); have n4_ := Aside0.mk (below_step (by repeat (with_reducible first | exact HB.out | apply below_alloc | apply pw_below_drewN | apply below_drew1)) hb); clear HO255; clear HO258; clear HO261; clear HB; have HO255 := n0_; have HO258 := n1_; have HO261 := n2_; have HO265 := n3_; have HB := n4_; clear n0_ n1_ n2_ n3_ n4_; (try clear hb); (try clear ho0); clear hN_ hS_) | ((with_reducible refine gate_callee (f := 6) rfl ?_); refine goesL_ (some 38) rfl rfl Try.func6 (by kernel_rfl) rfl #[.slice A1 l1.length c1] rfl (by (try simp only [List.map_toArray, List.map_cons, List.map_nil]); first | done | rfl) ?_; (with_reducible refine (laws_toIntSS.calls k _ _ l1 t266 _ ?side1 ?side2 A11.out).mono ?_); (case side1 => repeat (first | exact (Kd.C_below HR1.out HB.out) | (with_reducible refine Kd.C_alloc ?_ _) | (with_reducible refine Kd.C_drewN ?_ _) | (with_reducible refine Kd.C_drew ?_))); (case side2 => exact HC1.out); rintro e w20 ⟨v267, rfl, ho0, hb⟩; refine ⟨_, rfl, ?_⟩; obtain ⟨nq2_, hN_, h0_, hS_⟩ := am_new2 (by (with_reducible repeat (first | apply Kd.N_alloc | apply Kd.N_drewN | apply Kd.N_drew)); exact HO261.out) (by (with_reducible repeat (first | apply Kd.S_alloc | apply Kd.S_drewN | apply Kd.S_drew)); exact HO265.out) ho0 hb (below_size (by repeat (with_reducible first | exact HB.out | apply below_alloc | apply pw_below_drewN | apply below_drew1))); have n0_ := Aside0.mk (Kd.S_below (by (with_reducible repeat (first | apply Kd.S_alloc | apply Kd.S_drewN | apply Kd.S_drew)); exact HO255.out) hb); have n1_ := Aside0.mk (Kd.S_below (by (with_reducible repeat (first | apply Kd.S_alloc | apply Kd.S_drewN | apply Kd.S_drew)); exact HO258.out) hb); have n2_ := Aside0.mk (hN_); have n3_ := Aside0.mk (h0_); have n4_ := Aside0.mk (hS_); have n5_ := Aside0.mk (below_step (by repeat (with_reducible first | exact HB.out | apply below_alloc | apply pw_below_drewN | apply below_drew1)) hb); clear HO255; clear HO258; clear HO261; clear HO265; clear HB; have HO255 := n0_; have HO258 := n1_; have HO261 := n2_; have HO265 := n3_; have HO268 := n4_; have HB := n5_; clear n0_ n1_ n2_ n3_ n4_ n5_; (try clear hb); (try clear ho0); clear hN_ h0_ hS_; obtain ⟨Ao21, co21, eo21⟩ := Kd.S_slice HO265.out; subst eo21; obtain ⟨Ao22, co22, eo22⟩ := Kd.S_slice HO268.out; subst eo22) | ((with_reducible refine gate_callee (f := 7) rfl ?_); refine goesL_ (some 42) rfl rfl Try.func7 (by kernel_rfl) rfl #[.slice Ao21 t263.length co21, .slice Ao22 t266.length co22] rfl (by (try simp only [List.map_toArray, List.map_cons, List.map_nil]); first | done | rfl) ?_; (with_reducible refine (impl_AddMeasures.calls k _ _ t263 _ _ t266 t269 t270 _ ?side1 ?side2 ?side3 ?side4 A12.out).mono ?_); (case side1 => repeat (first | exact (Kd.S_reads' HO265.out).2.2 | (with_reducible refine Kd.C_alloc ?_ _) | (with_reducible refine Kd.C_drewN ?_ _) | (with_reducible refine Kd.C_drew ?_))); (case side2 => exact (Kd.S_reads' HO265.out).2.1); (case side3 => repeat (first | exact (Kd.S_reads' HO268.out).2.2 | (with_reducible refine Kd.C_alloc ?_ _) | (with_reducible refine Kd.C_drewN ?_ _) | (with_reducible refine Kd.C_drew ?_))); (case side4 => exact (Kd.S_reads' HO268.out).2.1); rintro e w23 ⟨v271, rfl, ho0, hb⟩; refine ⟨_, rfl, ?_⟩; obtain ⟨nq3_, hN_, h0_, h1_, hS_⟩ := am_new3 (by (with_reducible repeat (first | apply Kd.N_alloc | apply Kd.N_drewN | apply Kd.N_drew)); exact HO261.out) (by (with_reducible repeat (first | apply Kd.S_alloc | apply Kd.S_drewN | apply Kd.S_drew)); exact HO265.out) (by (with_reducible repeat (first | apply Kd.S_alloc | apply Kd.S_drewN | apply Kd.S_drew)); exact HO268.out) ho0 hb (below_size (by repeat (with_reducible first | exact HB.out | apply below_alloc | apply pw_below_drewN | apply below_drew1))); have n0_ := Aside0.mk (Kd.S_below (by (with_reducible repeat (first | apply Kd.S_alloc | apply Kd.S_drewN | apply Kd.S_drew)); exact HO255.out) hb); have n1_ := Aside0.mk (Kd.S_below (by (with_reducible repeat (first | apply Kd.S_alloc | apply Kd.S_drewN | apply Kd.S_drew)); exact HO258.out) hb); have n2_ := Aside0.mk (hN_); have n3_ := Aside0.mk (h0_); have n4_ := Aside0.mk (h1_); have n5_ := Aside0.mk (hS_); have n6_ := Aside0.mk (below_step (by repeat (with_reducible first | exact HB.out | apply below_alloc | apply pw_below_drewN | apply below_drew1)) hb); clear HO255; clear HO258; clear HO261; clear HO265; clear HO268; clear HB; have HO255 := n0_; have HO258 := n1_; have HO261 := n2_; have HO265 := n3_; have HO268 := n4_; have HO272 := n5_; have HB := n6_; clear n0_ n1_ n2_ n3_ n4_ n5_ n6_; (try clear hb); (try clear ho0); clear hN_ h0_ h1_ hS_))
   (try simp only [Act.put, List.setIfInBounds_toArray, List.set_cons_zero, List.set_cons_succ])
   go_cut [53] (fun v53 wc => ∃ (kq : Nat) (x53_12 : Bool), v53 = .bool x53_12 ∧ Aside0 (laws_FnExactAddMeasures.j0 kq l0 l1 t259 t262 t263 t266 t269 t270 x53_12 = some true) ∧ Aside0 (kq ≤ k) ∧ Aside0 (Kd.N (Kd.slice 3 (Kd.int .i64)) 29 wc w.heap.size (fun k_ => k_ < nq1_ ∧ k_ < nq2_ ∧ k_ < nq3_) v260 t259) ∧ Aside0 (Kd.S (Kd.slice 3 (Kd.int .i64)) 29 wc w.heap.size (fun k_ => nq1_ ≤ k_ ∧ k_ < nq2_ ∧ k_ < nq3_) (.slice Ao21 t263.length co21) t263) ∧ Aside0 (Kd.S (Kd.slice 3 (Kd.int .i64)) 29 wc w.heap.size (fun k_ => nq2_ ≤ k_ ∧ k_ < nq3_) (.slice Ao22 t266.length co22) t266) ∧ Aside0 (Kd.S (Kd.slice 3 (Kd.int .i64)) 29 wc w.heap.size (fun k_ => nq3_ ≤ k_) v271 t269) ∧ Aside0 (Below w.heap.size w wc))
   case first =>
    have H := HC13.out
    clear HC13
    replace H := Option.bind_eq_some_iff.mp H
    obtain ⟨t273, A240, H⟩ := H
    replace H : (if t273 = true then (laws_FnExactAddMeasures.j0 k l0 l1 t259 t262 t263 t266 t269 t270 (t270 != t262)) else (laws_FnExactAddMeasures.j0 k l0 l1 t259 t262 t263 t266 t269 t270 true)) = some true := H
    have A24 := Aside0.mk A240
    clear A240
    by_cases c25 : t273 = true
    ·subst c25
     have H1 : (laws_FnExactAddMeasures.j0 k l0 l1 t259 t262 t263 t266 t269 t270 (t270 != t262)) = some true := by rw [if_pos rfl] at H; exact H
     clear H
     have H := H1
     clear H1
     have H' := Aside0.mk H
     clear H
     obtain ⟨Ao26, co26, eo26⟩ := Kd.S_slice HO272.out
     subst eo26
     obtain ⟨Ao27, co27, eo27⟩ := Kd.N_slice HO261.out
     subst eo27
     go_wp2_with (first | ((with_reducible refine gate_callee (f := 8) rfl ?_); refine goesL_ (some 47) rfl rfl Try.func8 (by kernel_rfl) rfl #[.slice Ao26 t269.length co26, .slice Ao27 t259.length co27] rfl (by (try simp only [List.map_toArray, List.map_cons, List.map_nil]); first | done | rfl) ?_; (with_reducible refine (laws_eqIntSS.calls k _ _ t269 _ _ t259 true _ ?side1 ?side2 ?side3 ?side4 A24.out).mono ?_); (case side1 => repeat (first | exact (Kd.S_reads' HO272.out).2.2 | (with_reducible refine Kd.C_alloc ?_ _) | (with_reducible refine Kd.C_drewN ?_ _) | (with_reducible refine Kd.C_drew ?_))); (case side2 => exact (Kd.S_reads' HO272.out).2.1); (case side3 => repeat (first | exact (Kd.N_reads' HO261.out).2.2 | (with_reducible refine Kd.C_alloc ?_ _) | (with_reducible refine Kd.C_drewN ?_ _) | (with_reducible refine Kd.C_drew ?_))); (case side4 => exact (Kd.N_reads' HO261.out).2.1); rintro e w' ⟨rfl, ⟨nd, rfl⟩⟩; refine ⟨_, rfl, ?_⟩))
     go_meet
     case rel => exact ⟨_, ((t270 != t262)), (by first | rfl | (simp; done) | (simp [*]; done)), H', ⟨by first | omega | exact Nat.le_refl _⟩, ⟨by (with_reducible repeat (first | apply Kd.N_alloc | apply Kd.N_drewN | apply Kd.N_drew)); exact Kd.N_mono HO261.out (fun _ hk => ⟨hk.1.1, hk.1.2, hk.2⟩)⟩, ⟨by (with_reducible repeat (first | apply Kd.S_alloc | apply Kd.S_drewN | apply Kd.S_drew)); exact Kd.S_mono HO265.out (fun _ hk => ⟨hk.1.1, hk.1.2, hk.2⟩)⟩, ⟨by (with_reducible repeat (first | apply Kd.S_alloc | apply Kd.S_drewN | apply Kd.S_drew)); exact Kd.S_mono HO268.out (fun _ hk => hk)⟩, ⟨by (with_reducible repeat (first | apply Kd.S_alloc | apply Kd.S_drewN | apply Kd.S_drew)); exact Kd.S_mono HO272.out (fun _ hk => hk)⟩, ⟨by repeat (with_reducible first | exact HB.out | apply below_alloc | apply pw_below_drewN | apply below_drew1)⟩⟩
    ·replace c25 := Bool.eq_false_iff.mpr c25
     subst c25
     have H1 : (laws_FnExactAddMeasures.j0 k l0 l1 t259 t262 t263 t266 t269 t270 true) = some true := by rw [if_neg (show ¬ (false = true) by decide)] at H; exact H
     clear H
     have H := H1
     clear H1
     have H' := Aside0.mk H
     clear H
     obtain ⟨Ao28, co28, eo28⟩ := Kd.S_slice HO272.out
     subst eo28
     obtain ⟨Ao29, co29, eo29⟩ := Kd.N_slice HO261.out
     subst eo29
     go_wp2_with (first | ((with_reducible refine gate_callee (f := 8) rfl ?_); refine goesL_ (some 47) rfl rfl Try.func8 (by kernel_rfl) rfl #[.slice Ao28 t269.length co28, .slice Ao29 t259.length co29] rfl (by (try simp only [List.map_toArray, List.map_cons, List.map_nil]); first | done | rfl) ?_; (with_reducible refine (laws_eqIntSS.calls k _ _ t269 _ _ t259 false _ ?side1 ?side2 ?side3 ?side4 A24.out).mono ?_); (case side1 => repeat (first | exact (Kd.S_reads' HO272.out).2.2 | (with_reducible refine Kd.C_alloc ?_ _) | (with_reducible refine Kd.C_drewN ?_ _) | (with_reducible refine Kd.C_drew ?_))); (case side2 => exact (Kd.S_reads' HO272.out).2.1); (case side3 => repeat (first | exact (Kd.N_reads' HO261.out).2.2 | (with_reducible refine Kd.C_alloc ?_ _) | (with_reducible refine Kd.C_drewN ?_ _) | (with_reducible refine Kd.C_drew ?_))); (case side4 => exact (Kd.N_reads' HO261.out).2.1); rintro e w' ⟨rfl, ⟨nd, rfl⟩⟩; refine ⟨_, rfl, ?_⟩))
     go_meet
     case rel => exact ⟨_, (true), (by first | rfl | (simp; done) | (simp [*]; done)), H', ⟨by first | omega | exact Nat.le_refl _⟩, ⟨by (with_reducible repeat (first | apply Kd.N_alloc | apply Kd.N_drewN | apply Kd.N_drew)); exact Kd.N_mono HO261.out (fun _ hk => ⟨hk.1.1, hk.1.2, hk.2⟩)⟩, ⟨by (with_reducible repeat (first | apply Kd.S_alloc | apply Kd.S_drewN | apply Kd.S_drew)); exact Kd.S_mono HO265.out (fun _ hk => ⟨hk.1.1, hk.1.2, hk.2⟩)⟩, ⟨by (with_reducible repeat (first | apply Kd.S_alloc | apply Kd.S_drewN | apply Kd.S_drew)); exact Kd.S_mono HO268.out (fun _ hk => hk)⟩, ⟨by (with_reducible repeat (first | apply Kd.S_alloc | apply Kd.S_drewN | apply Kd.S_drew)); exact Kd.S_mono HO272.out (fun _ hk => hk)⟩, ⟨by repeat (with_reducible first | exact HB.out | apply below_alloc | apply pw_below_drewN | apply below_drew1)⟩⟩
   case rest =>
    clear HC13
    try clear c1
    try clear c2
    try clear p2
    try clear c3
    try clear c4
    try clear c4b0
    try clear c5
    try clear c6
    try clear c6b0
    try clear c7
    try clear c8
    try clear c25
    obtain ⟨kq, x53_12, rfl, HA, HJ12, HO_6, HO_8, HO_9, HO_10, HB⟩ := hcut
    cases kq with
    | zero => exact absurd HA.out (by simp [laws_FnExactAddMeasures.j0])
    | succ kj12 =>
     have H := HA.out
     clear HA
     simp only [laws_FnExactAddMeasures.j0] at H
     by_cases c30 : x53_12 = true
     ·subst c30
      have H1 : (some false) = some true := by rw [if_pos rfl] at H; exact H
      clear H
      have H := H1
      clear H1
      exact absurd (Option.some.inj H) (by decide)
     ·replace c30 := Bool.eq_false_iff.mpr c30
      subst c30
      have H1 : ((laws_toIntSS.f kj12 l0).bind fun t274 => ((laws_eqIntSS.f kj12 t263 t274).bind fun t277 => (if t277 = true then ((laws_toIntSS.f kj12 l1).bind fun t278 => ((laws_eqIntSS.f kj12 t266 t278).bind fun t281 => (if t281 = true then ((laws_markIntSS.f kj12 t263 1).bind fun bt282 => ((laws_markIntSS.f kj12 t266 bt282.1).bind fun bt283 => (if bt283.1 < 0 then (laws_FnExactAddMeasures.j1 kj12 l0 l1 t259 t262 t269 true) else ((laws_eqIntSS.f kj12 t269 t259).bind fun t284 => (if t284 = true then (laws_FnExactAddMeasures.j1 kj12 l0 l1 t259 t262 t269 (t270 != t262)) else (laws_FnExactAddMeasures.j1 kj12 l0 l1 t259 t262 t269 true)))))) else (some false)))) else (some false)))) = some true := by rw [if_neg (show ¬ (false = true) by decide)] at H; exact H
      clear H
      have H := H1
      clear H1
      replace H := Option.bind_eq_some_iff.mp H
      obtain ⟨t274, A310, H⟩ := H
      replace H : ((laws_eqIntSS.f kj12 t263 t274).bind fun t277 => (if t277 = true then ((laws_toIntSS.f kj12 l1).bind fun t278 => ((laws_eqIntSS.f kj12 t266 t278).bind fun t281 => (if t281 = true then ((laws_markIntSS.f kj12 t263 1).bind fun bt282 => ((laws_markIntSS.f kj12 t266 bt282.1).bind fun bt283 => (if bt283.1 < 0 then (laws_FnExactAddMeasures.j1 kj12 l0 l1 t259 t262 t269 true) else ((laws_eqIntSS.f kj12 t269 t259).bind fun t284 => (if t284 = true then (laws_FnExactAddMeasures.j1 kj12 l0 l1 t259 t262 t269 (t270 != t262)) else (laws_FnExactAddMeasures.j1 kj12 l0 l1 t259 t262 t269 true)))))) else (some false)))) else (some false))) = some true := H
      have A31 := Aside0.mk A310
      clear A310
      replace H := Option.bind_eq_some_iff.mp H
      obtain ⟨t277, A320, H⟩ := H
      replace H : (if t277 = true then ((laws_toIntSS.f kj12 l1).bind fun t278 => ((laws_eqIntSS.f kj12 t266 t278).bind fun t281 => (if t281 = true then ((laws_markIntSS.f kj12 t263 1).bind fun bt282 => ((laws_markIntSS.f kj12 t266 bt282.1).bind fun bt283 => (if bt283.1 < 0 then (laws_FnExactAddMeasures.j1 kj12 l0 l1 t259 t262 t269 true) else ((laws_eqIntSS.f kj12 t269 t259).bind fun t284 => (if t284 = true then (laws_FnExactAddMeasures.j1 kj12 l0 l1 t259 t262 t269 (t270 != t262)) else (laws_FnExactAddMeasures.j1 kj12 l0 l1 t259 t262 t269 true)))))) else (some false)))) else (some false)) = some true := H
      have A32 := Aside0.mk A320
      clear A320
      by_cases c33 : t277 = true
      ·subst c33
       have H1 : ((laws_toIntSS.f kj12 l1).bind fun t278 => ((laws_eqIntSS.f kj12 t266 t278).bind fun t281 => (if t281 = true then ((laws_markIntSS.f kj12 t263 1).bind fun bt282 => ((laws_markIntSS.f kj12 t266 bt282.1).bind fun bt283 => (if bt283.1 < 0 then (laws_FnExactAddMeasures.j1 kj12 l0 l1 t259 t262 t269 true) else ((laws_eqIntSS.f kj12 t269 t259).bind fun t284 => (if t284 = true then (laws_FnExactAddMeasures.j1 kj12 l0 l1 t259 t262 t269 (t270 != t262)) else (laws_FnExactAddMeasures.j1 kj12 l0 l1 t259 t262 t269 true)))))) else (some false)))) = some true := by rw [if_pos rfl] at H; exact H
       clear H
       have H := H1
       clear H1
       replace H := Option.bind_eq_some_iff.mp H
       obtain ⟨t278, A340, H⟩ := H
       replace H : ((laws_eqIntSS.f kj12 t266 t278).bind fun t281 => (if t281 = true then ((laws_markIntSS.f kj12 t263 1).bind fun bt282 => ((laws_markIntSS.f kj12 t266 bt282.1).bind fun bt283 => (if bt283.1 < 0 then (laws_FnExactAddMeasures.j1 kj12 l0 l1 t259 t262 t269 true) else ((laws_eqIntSS.f kj12 t269 t259).bind fun t284 => (if t284 = true then (laws_FnExactAddMeasures.j1 kj12 l0 l1 t259 t262 t269 (t270 != t262)) else (laws_FnExactAddMeasures.j1 kj12 l0 l1 t259 t262 t269 true)))))) else (some false))) = some true := H
       have A34 := Aside0.mk A340
       clear A340
       replace H := Option.bind_eq_some_iff.mp H
       obtain ⟨t281, A350, H⟩ := H
       replace H : (if t281 = true then ((laws_markIntSS.f kj12 t263 1).bind fun bt282 => ((laws_markIntSS.f kj12 t266 bt282.1).bind fun bt283 => (if bt283.1 < 0 then (laws_FnExactAddMeasures.j1 kj12 l0 l1 t259 t262 t269 true) else ((laws_eqIntSS.f kj12 t269 t259).bind fun t284 => (if t284 = true then (laws_FnExactAddMeasures.j1 kj12 l0 l1 t259 t262 t269 (t270 != t262)) else (laws_FnExactAddMeasures.j1 kj12 l0 l1 t259 t262 t269 true)))))) else (some false)) = some true := H
       have A35 := Aside0.mk A350
       clear A350
       by_cases c36 : t281 = true
       ·subst c36
        have H1 : ((laws_markIntSS.f kj12 t263 1).bind fun bt282 => ((laws_markIntSS.f kj12 t266 bt282.1).bind fun bt283 => (if bt283.1 < 0 then (laws_FnExactAddMeasures.j1 kj12 l0 l1 t259 t262 t269 true) else ((laws_eqIntSS.f kj12 t269 t259).bind fun t284 => (if t284 = true then (laws_FnExactAddMeasures.j1 kj12 l0 l1 t259 t262 t269 (t270 != t262)) else (laws_FnExactAddMeasures.j1 kj12 l0 l1 t259 t262 t269 true)))))) = some true := by rw [if_pos rfl] at H; exact H
        clear H
        have H := H1
        clear H1
        replace H := Option.bind_eq_some_iff.mp H
        obtain ⟨⟨t282, tq_t282⟩, A370, H⟩ := H
        replace H : ((laws_markIntSS.f kj12 t266 t282).bind fun bt283 => (if bt283.1 < 0 then (laws_FnExactAddMeasures.j1 kj12 l0 l1 t259 t262 t269 true) else ((laws_eqIntSS.f kj12 t269 t259).bind fun t284 => (if t284 = true then (laws_FnExactAddMeasures.j1 kj12 l0 l1 t259 t262 t269 (t270 != t262)) else (laws_FnExactAddMeasures.j1 kj12 l0 l1 t259 t262 t269 true))))) = some true := H
        have A37 := Aside0.mk A370
        clear A370
        replace H := Option.bind_eq_some_iff.mp H
        obtain ⟨⟨t283, tq_t283⟩, A380, H⟩ := H
        replace H : (if t283 < 0 then (laws_FnExactAddMeasures.j1 kj12 l0 l1 t259 t262 t269 true) else ((laws_eqIntSS.f kj12 t269 t259).bind fun t284 => (if t284 = true then (laws_FnExactAddMeasures.j1 kj12 l0 l1 t259 t262 t269 (t270 != t262)) else (laws_FnExactAddMeasures.j1 kj12 l0 l1 t259 t262 t269 true)))) = some true := H
        have A38 := Aside0.mk A380
        clear A380
        have HC39 := Aside0.mk H
        clear H
        go_upto_region 21 with (first | ((with_reducible refine gate_callee (f := 6) rfl ?_); refine goesL_ (some 56) rfl rfl Try.func6 (by kernel_rfl) rfl #[.slice A0 l0.length c0] rfl (by (try simp only [List.map_toArray, List.map_cons, List.map_nil]); first | done | rfl) ?_; (with_reducible refine (laws_toIntSS.calls kj12 _ _ l0 t274 _ ?side1 ?side2 A31.out).mono ?_); (case side1 => repeat (first | exact (Kd.C_below HR0.out HB.out) | (with_reducible refine Kd.C_alloc ?_ _) | (with_reducible refine Kd.C_drewN ?_ _) | (with_reducible refine Kd.C_drew ?_))); (case side2 => exact HC0.out); rintro e w40 ⟨v275, rfl, ho0, hb⟩; refine ⟨_, rfl, ?_⟩; have n0_ := Aside0.mk (Kd.N_below (by (with_reducible repeat (first | apply Kd.N_alloc | apply Kd.N_drewN | apply Kd.N_drew)); exact HO_6.out) hb); have n1_ := Aside0.mk (Kd.S_below (by (with_reducible repeat (first | apply Kd.S_alloc | apply Kd.S_drewN | apply Kd.S_drew)); exact HO_8.out) hb); have n2_ := Aside0.mk (Kd.S_below (by (with_reducible repeat (first | apply Kd.S_alloc | apply Kd.S_drewN | apply Kd.S_drew)); exact HO_9.out) hb); have n3_ := Aside0.mk (Kd.S_below (by (with_reducible repeat (first | apply Kd.S_alloc | apply Kd.S_drewN | apply Kd.S_drew)); exact HO_10.out) hb); have n4_ := Aside0.mk (Kd.S_lower ho0 (below_size (by repeat (with_reducible first | exact HB.out | apply below_alloc | apply pw_below_drewN | apply below_drew1)))); have n5_ := Aside0.mk (below_step (by repeat (with_reducible first | exact HB.out | apply below_alloc | apply pw_below_drewN | apply below_drew1)) hb); clear HO_6; clear HO_8; clear HO_9; clear HO_10; clear HB; have HO_6 := n0_; have HO_8 := n1_; have HO_9 := n2_; have HO_10 := n3_; have HO276 := n4_; have HB := n5_; clear n0_ n1_ n2_ n3_ n4_ n5_; (try clear hb); (try clear ho0); obtain ⟨Ao41, co41, eo41⟩ := Kd.S_slice HO276.out; subst eo41) | ((with_reducible refine gate_callee (f := 8) rfl ?_); refine goesL_ (some 57) rfl rfl Try.func8 (by kernel_rfl) rfl #[.slice Ao21 t263.length co21, .slice Ao41 t274.length co41] rfl (by (try simp only [List.map_toArray, List.map_cons, List.map_nil]); first | done | rfl) ?_; (with_reducible refine (laws_eqIntSS.calls kj12 _ _ t263 _ _ t274 true _ ?side1 ?side2 ?side3 ?side4 A32.out).mono ?_); (case side1 => repeat (first | exact (Kd.S_reads' HO_8.out).2.2 | (with_reducible refine Kd.C_alloc ?_ _) | (with_reducible refine Kd.C_drewN ?_ _) | (with_reducible refine Kd.C_drew ?_))); (case side2 => exact (Kd.S_reads' HO_8.out).2.1); (case side3 => repeat (first | exact (Kd.S_reads' HO276.out).2.2 | (with_reducible refine Kd.C_alloc ?_ _) | (with_reducible refine Kd.C_drewN ?_ _) | (with_reducible refine Kd.C_drew ?_))); (case side4 => exact (Kd.S_reads' HO276.out).2.1); rintro e w' ⟨rfl, ⟨nd, rfl⟩⟩; refine ⟨_, rfl, ?_⟩) | ((with_reducible refine gate_callee (f := 6) rfl ?_); refine goesL_ (some 61) rfl rfl Try.func6 (by kernel_rfl) rfl #[.slice A1 l1.length c1] rfl (by (try simp only [List.map_toArray, List.map_cons, List.map_nil]); first | done | rfl) ?_; (with_reducible refine (laws_toIntSS.calls kj12 _ _ l1 t278 _ ?side1 ?side2 A34.out).mono ?_); (case side1 => repeat (first | exact (Kd.C_below HR1.out (by repeat (with_reducible first | exact HB.out | apply below_alloc | apply pw_below_drewN | apply below_drew1))) | (with_reducible refine Kd.C_alloc ?_ _) | (with_reducible refine Kd.C_drewN ?_ _) | (with_reducible refine Kd.C_drew ?_))); (case side2 => exact HC1.out); rintro e w42 ⟨v279, rfl, ho0, hb⟩; refine ⟨_, rfl, ?_⟩; have n0_ := Aside0.mk (Kd.N_below (by (with_reducible repeat (first | apply Kd.N_alloc | apply Kd.N_drewN | apply Kd.N_drew)); exact HO_6.out) hb); have n1_ := Aside0.mk (Kd.S_below (by (with_reducible repeat (first | apply Kd.S_alloc | apply Kd.S_drewN | apply Kd.S_drew)); exact HO_8.out) hb); have n2_ := Aside0.mk (Kd.S_below (by (with_reducible repeat (first | apply Kd.S_alloc | apply Kd.S_drewN | apply Kd.S_drew)); exact HO_9.out) hb); have n3_ := Aside0.mk (Kd.S_below (by (with_reducible repeat (first | apply Kd.S_alloc | apply Kd.S_drewN | apply Kd.S_drew)); exact HO_10.out) hb); have n4_ := Aside0.mk (Kd.S_below (by (with_reducible repeat (first | apply Kd.S_alloc | apply Kd.S_drewN | apply Kd.S_drew)); exact HO276.out) hb); have n5_ := Aside0.mk (Kd.S_lower ho0 (below_size (by repeat (with_reducible first | exact HB.out | apply below_alloc | apply pw_below_drewN | apply below_drew1)))); have n6_ := Aside0.mk (below_step (by repeat (with_reducible first | exact HB.out | apply below_alloc | apply pw_below_drewN | apply below_drew1)) hb); clear HO_6; clear HO_8; clear HO_9; clear HO_10; clear HO276; clear HB; have HO_6 := n0_; have HO_8 := n1_; have HO_9 := n2_; have HO_10 := n3_; have HO276 := n4_; have HO280 := n5_; have HB := n6_; clear n0_ n1_ n2_ n3_ n4_ n5_ n6_; (try clear hb); (try clear ho0); obtain ⟨Ao43, co43, eo43⟩ := Kd.S_slice HO280.out; subst eo43) | ((with_reducible refine gate_callee (f := 8) rfl ?_); refine goesL_ (some 62) rfl rfl Try.func8 (by kernel_rfl) rfl #[.slice Ao22 t266.length co22, .slice Ao43 t278.length co43] rfl (by (try simp only [List.map_toArray, List.map_cons, List.map_nil]); first | done | rfl) ?_; (with_reducible refine (laws_eqIntSS.calls kj12 _ _ t266 _ _ t278 true _ ?side1 ?side2 ?side3 ?side4 A35.out).mono ?_); (case side1 => repeat (first | exact (Kd.S_reads' HO_9.out).2.2 | (with_reducible refine Kd.C_alloc ?_ _) | (with_reducible refine Kd.C_drewN ?_ _) | (with_reducible refine Kd.C_drew ?_))); (case side2 => exact (Kd.S_reads' HO_9.out).2.1); (case side3 => repeat (first | exact (Kd.S_reads' HO280.out).2.2 | (with_reducible refine Kd.C_alloc ?_ _) | (with_reducible refine Kd.C_drewN ?_ _) | (with_reducible refine Kd.C_drew ?_))); (case side4 => exact (Kd.S_reads' HO280.out).2.1); rintro e w' ⟨rfl, ⟨nd, rfl⟩⟩; refine ⟨_, rfl, ?_⟩) | ((with_reducible refine gate_callee (f := 9) rfl ?_); refine goesL_ (some 66) rfl rfl Try.func9 (by kernel_rfl) rfl #[.slice Ao21 t263.length co21, .int .i64 1] rfl (by (try simp only [List.map_toArray, List.map_cons, List.map_nil]); first | done | rfl) ?_; (refine (laws_markIntSS.calls kj12 (fun k_ => nq1_ ≤ k_ ∧ k_ < nq2_ ∧ k_ < nq3_) (.slice Ao21 t263.length co21) t263 1 t282 tq_t282 w _ (by repeat (with_reducible first | exact HB.out | apply below_alloc | apply pw_below_drewN | apply below_drew1)) (by (with_reducible repeat (first | apply Kd.S_alloc | apply Kd.S_drewN | apply Kd.S_drew)); exact HO_8.out) A37.out).mono ?_); rintro e w44 ⟨rfl, hy0, hb, hkp⟩; refine ⟨_, rfl, ?_⟩; have n0_ := Aside0.mk (Kd.N_kept (by (with_reducible repeat (first | apply Kd.N_alloc | apply Kd.N_drewN | apply Kd.N_drew)); exact HO_6.out) hkp (by exact fun k_ hk_ hs_ => Nat.not_le.2 hk_.1 hs_.1)); have n1_ := Aside0.mk (Kd.S_kept (by (with_reducible repeat (first | apply Kd.S_alloc | apply Kd.S_drewN | apply Kd.S_drew)); exact HO_9.out) hkp (by exact fun k_ hk_ hs_ => Nat.not_le.2 hs_.2.1 hk_.1)); have n2_ := Aside0.mk (Kd.S_kept (by (with_reducible repeat (first | apply Kd.S_alloc | apply Kd.S_drewN | apply Kd.S_drew)); exact HO_10.out) hkp (by exact fun k_ hk_ hs_ => Nat.not_le.2 hs_.2.2 hk_)); have n3_ := Aside0.mk (hb); (try clear HO_6); (try clear HO_8); (try clear HO_9); (try clear HO_10); (try clear HO276); (try clear HO280); (try clear HB); have HO_6 := n0_; have HO_9 := n1_; have HO_10 := n2_; have HB := n3_; clear n0_ n1_ n2_ n3_; clear hy0 hkp) | ((with_reducible refine gate_callee (f := 9) rfl ?_); refine goesL_ (some 69) rfl rfl Try.func9 (by kernel_rfl) rfl #[.slice Ao22 t266.length co22, .int .i64 t282] rfl (by (try simp only [List.map_toArray, List.map_cons, List.map_nil]); first | done | rfl) ?_; (refine (laws_markIntSS.calls kj12 (fun k_ => nq2_ ≤ k_ ∧ k_ < nq3_) (.slice Ao22 t266.length co22) t266 t282 t283 tq_t283 w _ (by repeat (with_reducible first | exact HB.out | apply below_alloc | apply pw_below_drewN | apply below_drew1)) (by (with_reducible repeat (first | apply Kd.S_alloc | apply Kd.S_drewN | apply Kd.S_drew)); exact HO_9.out) A38.out).mono ?_); rintro e w45 ⟨rfl, hy0, hb, hkp⟩; refine ⟨_, rfl, ?_⟩; have n0_ := Aside0.mk (Kd.N_kept (by (with_reducible repeat (first | apply Kd.N_alloc | apply Kd.N_drewN | apply Kd.N_drew)); exact HO_6.out) hkp (by exact fun k_ hk_ hs_ => Nat.not_le.2 hk_.2.1 hs_.1)); have n1_ := Aside0.mk (Kd.S_kept (by (with_reducible repeat (first | apply Kd.S_alloc | apply Kd.S_drewN | apply Kd.S_drew)); exact HO_10.out) hkp (by exact fun k_ hk_ hs_ => Nat.not_le.2 hs_.2 hk_)); have n2_ := Aside0.mk (hb); (try clear HO_6); (try clear HO_8); (try clear HO_9); (try clear HO_10); (try clear HO276); (try clear HO280); (try clear HB); have HO_6 := n0_; have HO_10 := n1_; have HB := n2_; clear n0_ n1_ n2_; clear hy0 hkp))
        (try simp only [Act.put, List.setIfInBounds_toArray, List.set_cons_zero, List.set_cons_succ])
        go_cut [82] (fun v82 wc => ∃ (kq : Nat) (x82_38 : Bool), v82 = .bool x82_38 ∧ Aside0 (laws_FnExactAddMeasures.j1 kq l0 l1 t259 t262 t269 x82_38 = some true) ∧ Aside0 (kq ≤ kj12) ∧ Aside0 (Kd.N (Kd.slice 3 (Kd.int .i64)) 29 wc w.heap.size (fun k_ => k_ < nq3_) v260 t259) ∧ Aside0 (Kd.S (Kd.slice 3 (Kd.int .i64)) 29 wc w.heap.size (fun k_ => nq3_ ≤ k_) v271 t269) ∧ Aside0 (Below w.heap.size w wc))
        case first =>
         have H := HC39.out
         clear HC39
         by_cases c46 : t283 < 0
         ·rw [if_pos c46] at H
          have c46b0 : decide (t283 < 0) = true := decide_eq_true c46
          clear c46
          (first | rw [c46b0] | (simp only [i64_w, i32_w]; rw [c46b0]) | skip)
          have H' := Aside0.mk H
          clear H
          go_wp2
          go_meet
          case rel => exact ⟨_, (true), (by first | rfl | (simp; done) | (simp [*]; done)), H', ⟨by have := HJ12.out; first | omega | exact Nat.le_refl _⟩, ⟨by (with_reducible repeat (first | apply Kd.N_alloc | apply Kd.N_drewN | apply Kd.N_drew)); exact Kd.N_mono HO_6.out (fun _ hk => hk.2.2)⟩, ⟨by (with_reducible repeat (first | apply Kd.S_alloc | apply Kd.S_drewN | apply Kd.S_drew)); exact Kd.S_mono HO_10.out (fun _ hk => hk)⟩, ⟨by repeat (with_reducible first | exact HB.out | apply below_alloc | apply pw_below_drewN | apply below_drew1)⟩⟩
         ·rw [if_neg c46] at H
          have c46b0 : decide (t283 < 0) = false := decide_eq_false c46
          clear c46
          (first | rw [c46b0] | (simp only [i64_w, i32_w]; rw [c46b0]) | skip)
          replace H := Option.bind_eq_some_iff.mp H
          obtain ⟨t284, A470, H⟩ := H
          replace H : (if t284 = true then (laws_FnExactAddMeasures.j1 kj12 l0 l1 t259 t262 t269 (t270 != t262)) else (laws_FnExactAddMeasures.j1 kj12 l0 l1 t259 t262 t269 true)) = some true := H
          have A47 := Aside0.mk A470
          clear A470
          by_cases c48 : t284 = true
          ·subst c48
           have H1 : (laws_FnExactAddMeasures.j1 kj12 l0 l1 t259 t262 t269 (t270 != t262)) = some true := by rw [if_pos rfl] at H; exact H
           clear H
           have H := H1
           clear H1
           have H' := Aside0.mk H
           clear H
           obtain ⟨Ao49, co49, eo49⟩ := Kd.S_slice HO_10.out
           subst eo49
           obtain ⟨Ao50, co50, eo50⟩ := Kd.N_slice HO_6.out
           subst eo50
           go_wp2_with (first | (go_at_call 8; (with_reducible refine (laws_eqIntSS.calls kj12 _ _ t269 _ _ t259 true _ ?side1 ?side2 ?side3 ?side4 A47.out).mono ?_); (case side1 => repeat (first | exact (Kd.S_reads' HO_10.out).2.2 | (with_reducible refine Kd.C_alloc ?_ _) | (with_reducible refine Kd.C_drewN ?_ _) | (with_reducible refine Kd.C_drew ?_))); (case side2 => exact (Kd.S_reads' HO_10.out).2.1); (case side3 => repeat (first | exact (Kd.N_reads' HO_6.out).2.2 | (with_reducible refine Kd.C_alloc ?_ _) | (with_reducible refine Kd.C_drewN ?_ _) | (with_reducible refine Kd.C_drew ?_))); (case side4 => exact (Kd.N_reads' HO_6.out).2.1); rintro e w' ⟨rfl, ⟨nd, rfl⟩⟩))
           go_meet
           case rel => exact ⟨_, ((t270 != t262)), (by first | rfl | (simp; done) | (simp [*]; done)), H', ⟨by have := HJ12.out; first | omega | exact Nat.le_refl _⟩, ⟨by (with_reducible repeat (first | apply Kd.N_alloc | apply Kd.N_drewN | apply Kd.N_drew)); exact Kd.N_mono HO_6.out (fun _ hk => hk.2.2)⟩, ⟨by (with_reducible repeat (first | apply Kd.S_alloc | apply Kd.S_drewN | apply Kd.S_drew)); exact Kd.S_mono HO_10.out (fun _ hk => hk)⟩, ⟨by repeat (with_reducible first | exact HB.out | apply below_alloc | apply pw_below_drewN | apply below_drew1)⟩⟩
          ·replace c48 := Bool.eq_false_iff.mpr c48
           subst c48
           have H1 : (laws_FnExactAddMeasures.j1 kj12 l0 l1 t259 t262 t269 true) = some true := by rw [if_neg (show ¬ (false = true) by decide)] at H; exact H
           clear H
           have H := H1
           clear H1
           have H' := Aside0.mk H
           clear H
           obtain ⟨Ao51, co51, eo51⟩ := Kd.S_slice HO_10.out
           subst eo51
           obtain ⟨Ao52, co52, eo52⟩ := Kd.N_slice HO_6.out
           subst eo52
           go_wp2_with (first | (go_at_call 8; (with_reducible refine (laws_eqIntSS.calls kj12 _ _ t269 _ _ t259 false _ ?side1 ?side2 ?side3 ?side4 A47.out).mono ?_); (case side1 => repeat (first | exact (Kd.S_reads' HO_10.out).2.2 | (with_reducible refine Kd.C_alloc ?_ _) | (with_reducible refine Kd.C_drewN ?_ _) | (with_reducible refine Kd.C_drew ?_))); (case side2 => exact (Kd.S_reads' HO_10.out).2.1); (case side3 => repeat (first | exact (Kd.N_reads' HO_6.out).2.2 | (with_reducible refine Kd.C_alloc ?_ _) | (with_reducible refine Kd.C_drewN ?_ _) | (with_reducible refine Kd.C_drew ?_))); (case side4 => exact (Kd.N_reads' HO_6.out).2.1); rintro e w' ⟨rfl, ⟨nd, rfl⟩⟩))
           go_meet
           case rel => exact ⟨_, (true), (by first | rfl | (simp; done) | (simp [*]; done)), H', ⟨by have := HJ12.out; first | omega | exact Nat.le_refl _⟩, ⟨by (with_reducible repeat (first | apply Kd.N_alloc | apply Kd.N_drewN | apply Kd.N_drew)); exact Kd.N_mono HO_6.out (fun _ hk => hk.2.2)⟩, ⟨by (with_reducible repeat (first | apply Kd.S_alloc | apply Kd.S_drewN | apply Kd.S_drew)); exact Kd.S_mono HO_10.out (fun _ hk => hk)⟩, ⟨by repeat (with_reducible first | exact HB.out | apply below_alloc | apply pw_below_drewN | apply below_drew1)⟩⟩
        case rest =>
         clear HC39
         try clear c1
         try clear c2
         try clear p2
         try clear c3
         try clear c4
         try clear c4b0
         try clear c5
         try clear c6
         try clear c6b0
         try clear c7
         try clear c8
         try clear c9
         try clear c25
         try clear c30
         try clear c33
         try clear c36
         try clear c46
         try clear c46b0
         try clear c48
         try clear p2
         obtain ⟨kq, x82_38, rfl, HA, HJ38, HO_6, HO_10, HB⟩ := hcut
         cases kq with
         | zero => exact absurd HA.out (by simp [laws_FnExactAddMeasures.j1])
         | succ kj38 =>
          have H := HA.out
          clear HA
          simp only [laws_FnExactAddMeasures.j1] at H
          by_cases c53 : x82_38 = true
          ·subst c53
           have H1 : (some false) = some true := by rw [if_pos rfl] at H; exact H
           clear H
           have H := H1
           clear H1
           exact absurd (Option.some.inj H) (by decide)
          ·replace c53 := Bool.eq_false_iff.mpr c53
           subst c53
           have H1 : ((laws_markIntSS.f kj38 t269 1).bind fun bt285 => ((laws_heldIntSS.f kj38 bt285.2 1).bind fun t286 => (if t286 < 0 then (some false) else (if t286 = bt285.1 then ((laws_toIntSS.f kj38 l0).bind fun t287 => ((laws_toIntSS.f kj38 l1).bind fun t290 => ((impl_AddMeasures.f kj38 t287 t290).bind fun bt293 => ((laws_eqIntSS.f kj38 bt293.1 t259).bind fun t297 => (if t297 = true then (laws_FnExactAddMeasures.j2 kj38 bt285.2 bt285.1 (bt293.2 != t262)) else (laws_FnExactAddMeasures.j2 kj38 bt285.2 bt285.1 true)))))) else (some false))))) = some true := by rw [if_neg (show ¬ (false = true) by decide)] at H; exact H
           clear H
           have H := H1
           clear H1
           replace H := Option.bind_eq_some_iff.mp H
           obtain ⟨⟨t285, tq_t285⟩, A540, H⟩ := H
           replace H : ((laws_heldIntSS.f kj38 tq_t285 1).bind fun t286 => (if t286 < 0 then (some false) else (if t286 = t285 then ((laws_toIntSS.f kj38 l0).bind fun t287 => ((laws_toIntSS.f kj38 l1).bind fun t290 => ((impl_AddMeasures.f kj38 t287 t290).bind fun bt293 => ((laws_eqIntSS.f kj38 bt293.1 t259).bind fun t297 => (if t297 = true then (laws_FnExactAddMeasures.j2 kj38 tq_t285 t285 (bt293.2 != t262)) else (laws_FnExactAddMeasures.j2 kj38 tq_t285 t285 true)))))) else (some false)))) = some true := H
           have A54 := Aside0.mk A540
           clear A540
           replace H := Option.bind_eq_some_iff.mp H
           obtain ⟨t286, A550, H⟩ := H
           replace H : (if t286 < 0 then (some false) else (if t286 = t285 then ((laws_toIntSS.f kj38 l0).bind fun t287 => ((laws_toIntSS.f kj38 l1).bind fun t290 => ((impl_AddMeasures.f kj38 t287 t290).bind fun bt293 => ((laws_eqIntSS.f kj38 bt293.1 t259).bind fun t297 => (if t297 = true then (laws_FnExactAddMeasures.j2 kj38 tq_t285 t285 (bt293.2 != t262)) else (laws_FnExactAddMeasures.j2 kj38 tq_t285 t285 true)))))) else (some false))) = some true := H
           have A55 := Aside0.mk A550
           clear A550
           by_cases c56 : t286 < 0
           ·rw [if_pos c56] at H
            have c56b0 : decide (t286 < 0) = true := decide_eq_true c56
            clear c56
            exact absurd (Option.some.inj H) (by decide)
           ·rw [if_neg c56] at H
            have c56b0 : decide (t286 < 0) = false := decide_eq_false c56
            clear c56
            by_cases c59 : t286 = t285
            ·rw [if_pos c59] at H
             have c59b0 : (t286 == t285) = true := beq_iff_eq.mpr c59
             have c59b1 : (t286 != t285) = false := bne_eq_false_iff_eq.mpr c59
             clear c59
             replace H := Option.bind_eq_some_iff.mp H
             obtain ⟨t287, A600, H⟩ := H
             replace H : ((laws_toIntSS.f kj38 l1).bind fun t290 => ((impl_AddMeasures.f kj38 t287 t290).bind fun bt293 => ((laws_eqIntSS.f kj38 bt293.1 t259).bind fun t297 => (if t297 = true then (laws_FnExactAddMeasures.j2 kj38 tq_t285 t285 (bt293.2 != t262)) else (laws_FnExactAddMeasures.j2 kj38 tq_t285 t285 true))))) = some true := H
             have A60 := Aside0.mk A600
             clear A600
             replace H := Option.bind_eq_some_iff.mp H
             obtain ⟨t290, A610, H⟩ := H
             replace H : ((impl_AddMeasures.f kj38 t287 t290).bind fun bt293 => ((laws_eqIntSS.f kj38 bt293.1 t259).bind fun t297 => (if t297 = true then (laws_FnExactAddMeasures.j2 kj38 tq_t285 t285 (bt293.2 != t262)) else (laws_FnExactAddMeasures.j2 kj38 tq_t285 t285 true)))) = some true := H
             have A61 := Aside0.mk A610
             clear A610
             replace H := Option.bind_eq_some_iff.mp H
             obtain ⟨⟨t293, t294⟩, A620, H⟩ := H
             replace H : ((laws_eqIntSS.f kj38 t293 t259).bind fun t297 => (if t297 = true then (laws_FnExactAddMeasures.j2 kj38 tq_t285 t285 (t294 != t262)) else (laws_FnExactAddMeasures.j2 kj38 tq_t285 t285 true))) = some true := H
             have A62 := Aside0.mk A620
             clear A620
             have HC63 := Aside0.mk H
             clear H
             obtain ⟨Ao64, co64, eo64⟩ := Kd.S_slice HO_10.out
             subst eo64
             go_upto_region 32 with (first | ((with_reducible refine gate_callee (f := 9) rfl ?_); refine goesL_ (some 85) rfl rfl Try.func9 (by kernel_rfl) rfl #[.slice Ao64 t269.length co64, .int .i64 1] rfl (by (try simp only [List.map_toArray, List.map_cons, List.map_nil]); first | done | rfl) ?_; (refine (laws_markIntSS.calls kj38 (fun k_ => nq3_ ≤ k_) (.slice Ao64 t269.length co64) t269 1 t285 tq_t285 w _ (by repeat (with_reducible first | exact HB.out | apply below_alloc | apply pw_below_drewN | apply below_drew1)) (by (with_reducible repeat (first | apply Kd.S_alloc | apply Kd.S_drewN | apply Kd.S_drew)); exact HO_10.out) A54.out).mono ?_); rintro e w65 ⟨rfl, hy0, hb, hkp⟩; refine ⟨_, rfl, ?_⟩; have n0_ := Aside0.mk (Kd.N_kept (by (with_reducible repeat (first | apply Kd.N_alloc | apply Kd.N_drewN | apply Kd.N_drew)); exact HO_6.out) hkp (by exact fun k_ hk_ hs_ => Nat.not_le.2 hk_ hs_)); have n1_ := Aside0.mk (hy0); have n2_ := Aside0.mk (hb); (try clear HO_6); (try clear HO_10); (try clear HB); have HO_6 := n0_; have HO_10 := n1_; have HB := n2_; clear n0_ n1_ n2_; clear hy0 hkp) | ((with_reducible refine gate_callee (f := 10) rfl ?_); refine goesL_ (some 88) rfl rfl Try.func10 (by kernel_rfl) rfl #[.slice Ao64 t269.length co64, .int .i64 1] rfl (by (try simp only [List.map_toArray, List.map_cons, List.map_nil]); first | done | rfl) ?_; (refine (laws_heldIntSS.held kj38 _ _ _ tq_t285 1 t286 _ (by (with_reducible repeat (first | apply Kd.S_alloc | apply Kd.S_drewN | apply Kd.S_drew)); exact HO_10.out) A55.out).mono ?_); rintro e w' ⟨rfl, ⟨nd, rfl⟩⟩; refine ⟨_, rfl, ?_⟩) | ((with_reducible refine gate_callee (f := 6) rfl ?_); refine goesL_ (some 96) rfl rfl Try.func6 (by kernel_rfl) rfl #[.slice A0 l0.length c0] rfl (by (try simp only [List.map_toArray, List.map_cons, List.map_nil]); first | done | rfl) ?_; (with_reducible refine (laws_toIntSS.calls kj38 _ _ l0 t287 _ ?side1 ?side2 A60.out).mono ?_); (case side1 => repeat (first | exact (Kd.C_below HR0.out (by repeat (with_reducible first | exact HB.out | apply below_alloc | apply pw_below_drewN | apply below_drew1))) | (with_reducible refine Kd.C_alloc ?_ _) | (with_reducible refine Kd.C_drewN ?_ _) | (with_reducible refine Kd.C_drew ?_))); (case side2 => exact HC0.out); rintro e w66 ⟨v288, rfl, ho0, hb⟩; refine ⟨_, rfl, ?_⟩; have n0_ := Aside0.mk (Kd.N_below (by (with_reducible repeat (first | apply Kd.N_alloc | apply Kd.N_drewN | apply Kd.N_drew)); exact HO_6.out) hb); have n1_ := Aside0.mk (Kd.S_below (by (with_reducible repeat (first | apply Kd.S_alloc | apply Kd.S_drewN | apply Kd.S_drew)); exact HO_10.out) hb); have n2_ := Aside0.mk (Kd.S_lower ho0 (below_size (by repeat (with_reducible first | exact HB.out | apply below_alloc | apply pw_below_drewN | apply below_drew1)))); have n3_ := Aside0.mk (below_step (by repeat (with_reducible first | exact HB.out | apply below_alloc | apply pw_below_drewN | apply below_drew1)) hb); clear HO_6; clear HO_10; clear HB; have HO_6 := n0_; have HO_10 := n1_; have HO289 := n2_; have HB := n3_; clear n0_ n1_ n2_ n3_; (try clear hb); (try clear ho0)) | ((with_reducible refine gate_callee (f := 6) rfl ?_); refine goesL_ (some 98) rfl rfl Try.func6 (by kernel_rfl) rfl #[.slice A1 l1.length c1] rfl (by (try simp only [List.map_toArray, List.map_cons, List.map_nil]); first | done | rfl) ?_; (with_reducible refine (laws_toIntSS.calls kj38 _ _ l1 t290 _ ?side1 ?side2 A61.out).mono ?_); (case side1 => repeat (first | exact (Kd.C_below HR1.out HB.out) | (with_reducible refine Kd.C_alloc ?_ _) | (with_reducible refine Kd.C_drewN ?_ _) | (with_reducible refine Kd.C_drew ?_))); (case side2 => exact HC1.out); rintro e w67 ⟨v291, rfl, ho0, hb⟩; refine ⟨_, rfl, ?_⟩; have n0_ := Aside0.mk (Kd.N_below (by (with_reducible repeat (first | apply Kd.N_alloc | apply Kd.N_drewN | apply Kd.N_drew)); exact HO_6.out) hb); have n1_ := Aside0.mk (Kd.S_below (by (with_reducible repeat (first | apply Kd.S_alloc | apply Kd.S_drewN | apply Kd.S_drew)); exact HO_10.out) hb); have n2_ := Aside0.mk (Kd.S_below (by (with_reducible repeat (first | apply Kd.S_alloc | apply Kd.S_drewN | apply Kd.S_drew)); exact HO289.out) hb); have n3_ := Aside0.mk (Kd.S_lower ho0 (below_size (by repeat (with_reducible first | exact HB.out | apply below_alloc | apply pw_below_drewN | apply below_drew1)))); have n4_ := Aside0.mk (below_step (by repeat (with_reducible first | exact HB.out | apply below_alloc | apply pw_below_drewN | apply below_drew1)) hb); clear HO_6; clear HO_10; clear HO289; clear HB; have HO_6 := n0_; have HO_10 := n1_; have HO289 := n2_; have HO292 := n3_; have HB := n4_; clear n0_ n1_ n2_ n3_ n4_; (try clear hb); (try clear ho0); obtain ⟨Ao68, co68, eo68⟩ := Kd.S_slice HO289.out; subst eo68; obtain ⟨Ao69, co69, eo69⟩ := Kd.S_slice HO292.out; subst eo69) | ((with_reducible refine gate_callee (f := 7) rfl ?_); refine goesL_ (some 99) rfl rfl Try.func7 (by kernel_rfl) rfl #[.slice Ao68 t287.length co68, .slice Ao69 t290.length co69] rfl (by (try simp only [List.map_toArray, List.map_cons, List.map_nil]); first | done | rfl) ?_; (with_reducible refine (impl_AddMeasures.calls kj38 _ _ t287 _ _ t290 t293 t294 _ ?side1 ?side2 ?side3 ?side4 A62.out).mono ?_); (case side1 => repeat (first | exact (Kd.S_reads' HO289.out).2.2 | (with_reducible refine Kd.C_alloc ?_ _) | (with_reducible refine Kd.C_drewN ?_ _) | (with_reducible refine Kd.C_drew ?_))); (case side2 => exact (Kd.S_reads' HO289.out).2.1); (case side3 => repeat (first | exact (Kd.S_reads' HO292.out).2.2 | (with_reducible refine Kd.C_alloc ?_ _) | (with_reducible refine Kd.C_drewN ?_ _) | (with_reducible refine Kd.C_drew ?_))); (case side4 => exact (Kd.S_reads' HO292.out).2.1); rintro e w70 ⟨v295, rfl, ho0, hb⟩; refine ⟨_, rfl, ?_⟩; have n0_ := Aside0.mk (Kd.N_below (by (with_reducible repeat (first | apply Kd.N_alloc | apply Kd.N_drewN | apply Kd.N_drew)); exact HO_6.out) hb); have n1_ := Aside0.mk (Kd.S_below (by (with_reducible repeat (first | apply Kd.S_alloc | apply Kd.S_drewN | apply Kd.S_drew)); exact HO_10.out) hb); have n2_ := Aside0.mk (Kd.S_below (by (with_reducible repeat (first | apply Kd.S_alloc | apply Kd.S_drewN | apply Kd.S_drew)); exact HO289.out) hb); have n3_ := Aside0.mk (Kd.S_below (by (with_reducible repeat (first | apply Kd.S_alloc | apply Kd.S_drewN | apply Kd.S_drew)); exact HO292.out) hb); have n4_ := Aside0.mk (Kd.S_lower ho0 (below_size (by repeat (with_reducible first | exact HB.out | apply below_alloc | apply pw_below_drewN | apply below_drew1)))); have n5_ := Aside0.mk (below_step (by repeat (with_reducible first | exact HB.out | apply below_alloc | apply pw_below_drewN | apply below_drew1)) hb); clear HO_6; clear HO_10; clear HO289; clear HO292; clear HB; have HO_6 := n0_; have HO_10 := n1_; have HO289 := n2_; have HO292 := n3_; have HO296 := n4_; have HB := n5_; clear n0_ n1_ n2_ n3_ n4_ n5_; (try clear hb); (try clear ho0)))
             (try simp only [Act.put, List.setIfInBounds_toArray, List.set_cons_zero, List.set_cons_succ])
             go_cut [110] (fun v110 wc => ∃ (kq : Nat) (x110_62 : Bool), v110 = .bool x110_62 ∧ Aside0 (laws_FnExactAddMeasures.j2 kq tq_t285 t285 x110_62 = some true) ∧ Aside0 (kq ≤ kj38) ∧ Aside0 (Kd.S (Kd.slice 3 (Kd.int .i64)) 29 wc w.heap.size (fun _ => True) (.slice Ao64 t269.length co64) tq_t285) ∧ Aside0 (Below w.heap.size w wc))
             case first =>
              have H := HC63.out
              clear HC63
              replace H := Option.bind_eq_some_iff.mp H
              obtain ⟨t297, A710, H⟩ := H
              replace H : (if t297 = true then (laws_FnExactAddMeasures.j2 kj38 tq_t285 t285 (t294 != t262)) else (laws_FnExactAddMeasures.j2 kj38 tq_t285 t285 true)) = some true := H
              have A71 := Aside0.mk A710
              clear A710
              by_cases c72 : t297 = true
              ·subst c72
               have H1 : (laws_FnExactAddMeasures.j2 kj38 tq_t285 t285 (t294 != t262)) = some true := by rw [if_pos rfl] at H; exact H
               clear H
               have H := H1
               clear H1
               have H' := Aside0.mk H
               clear H
               obtain ⟨Ao73, co73, eo73⟩ := Kd.S_slice HO296.out
               subst eo73
               obtain ⟨Ao74, co74, eo74⟩ := Kd.N_slice HO_6.out
               subst eo74
               go_wp2_with (first | ((with_reducible refine gate_callee (f := 8) rfl ?_); refine goesL_ (some 104) rfl rfl Try.func8 (by kernel_rfl) rfl #[.slice Ao73 t293.length co73, .slice Ao74 t259.length co74] rfl (by (try simp only [List.map_toArray, List.map_cons, List.map_nil]); first | done | rfl) ?_; (with_reducible refine (laws_eqIntSS.calls kj38 _ _ t293 _ _ t259 true _ ?side1 ?side2 ?side3 ?side4 A71.out).mono ?_); (case side1 => repeat (first | exact (Kd.S_reads' HO296.out).2.2 | (with_reducible refine Kd.C_alloc ?_ _) | (with_reducible refine Kd.C_drewN ?_ _) | (with_reducible refine Kd.C_drew ?_))); (case side2 => exact (Kd.S_reads' HO296.out).2.1); (case side3 => repeat (first | exact (Kd.N_reads' HO_6.out).2.2 | (with_reducible refine Kd.C_alloc ?_ _) | (with_reducible refine Kd.C_drewN ?_ _) | (with_reducible refine Kd.C_drew ?_))); (case side4 => exact (Kd.N_reads' HO_6.out).2.1); rintro e w' ⟨rfl, ⟨nd, rfl⟩⟩; refine ⟨_, rfl, ?_⟩))
               go_meet
               case rel => exact ⟨_, ((t294 != t262)), (by first | rfl | (simp; done) | (simp [*]; done)), H', ⟨by have := HJ12.out; have := HJ38.out; first | omega | exact Nat.le_refl _⟩, ⟨by (with_reducible repeat (first | apply Kd.S_alloc | apply Kd.S_drewN | apply Kd.S_drew)); exact Kd.S_mono HO_10.out (fun _ hk => trivial)⟩, ⟨by repeat (with_reducible first | exact HB.out | apply below_alloc | apply pw_below_drewN | apply below_drew1)⟩⟩
              ·replace c72 := Bool.eq_false_iff.mpr c72
               subst c72
               have H1 : (laws_FnExactAddMeasures.j2 kj38 tq_t285 t285 true) = some true := by rw [if_neg (show ¬ (false = true) by decide)] at H; exact H
               clear H
               have H := H1
               clear H1
               have H' := Aside0.mk H
               clear H
               obtain ⟨Ao75, co75, eo75⟩ := Kd.S_slice HO296.out
               subst eo75
               obtain ⟨Ao76, co76, eo76⟩ := Kd.N_slice HO_6.out
               subst eo76
               go_wp2_with (first | ((with_reducible refine gate_callee (f := 8) rfl ?_); refine goesL_ (some 104) rfl rfl Try.func8 (by kernel_rfl) rfl #[.slice Ao75 t293.length co75, .slice Ao76 t259.length co76] rfl (by (try simp only [List.map_toArray, List.map_cons, List.map_nil]); first | done | rfl) ?_; (with_reducible refine (laws_eqIntSS.calls kj38 _ _ t293 _ _ t259 false _ ?side1 ?side2 ?side3 ?side4 A71.out).mono ?_); (case side1 => repeat (first | exact (Kd.S_reads' HO296.out).2.2 | (with_reducible refine Kd.C_alloc ?_ _) | (with_reducible refine Kd.C_drewN ?_ _) | (with_reducible refine Kd.C_drew ?_))); (case side2 => exact (Kd.S_reads' HO296.out).2.1); (case side3 => repeat (first | exact (Kd.N_reads' HO_6.out).2.2 | (with_reducible refine Kd.C_alloc ?_ _) | (with_reducible refine Kd.C_drewN ?_ _) | (with_reducible refine Kd.C_drew ?_))); (case side4 => exact (Kd.N_reads' HO_6.out).2.1); rintro e w' ⟨rfl, ⟨nd, rfl⟩⟩; refine ⟨_, rfl, ?_⟩))
               go_meet
               case rel => exact ⟨_, (true), (by first | rfl | (simp; done) | (simp [*]; done)), H', ⟨by have := HJ12.out; have := HJ38.out; first | omega | exact Nat.le_refl _⟩, ⟨by (with_reducible repeat (first | apply Kd.S_alloc | apply Kd.S_drewN | apply Kd.S_drew)); exact Kd.S_mono HO_10.out (fun _ hk => trivial)⟩, ⟨by repeat (with_reducible first | exact HB.out | apply below_alloc | apply pw_below_drewN | apply below_drew1)⟩⟩
             case rest =>
              clear HC63
              try clear c1
              try clear c2
              try clear p2
              try clear c3
              try clear c4
              try clear c4b0
              try clear c5
              try clear c6
              try clear c6b0
              try clear c7
              try clear c8
              try clear c9
              try clear c10
              try clear c25
              try clear c30
              try clear c33
              try clear c36
              try clear c46
              try clear c46b0
              try clear c48
              try clear c53
              try clear c56
              try clear c56b0
              try clear c59
              try clear c59b0
              try clear c59b1
              try clear c72
              try clear p2
              obtain ⟨kq, x110_62, rfl, HA, HJ62, HO_10, HB⟩ := hcut
              cases kq with
              | zero => exact absurd HA.out (by simp [laws_FnExactAddMeasures.j2])
              | succ kj62 =>
               have H := HA.out
               clear HA
               simp only [laws_FnExactAddMeasures.j2] at H
               by_cases c77 : x110_62 = true
               ·subst c77
                have H1 : (some false) = some true := by rw [if_pos rfl] at H; exact H
                clear H
                have H := H1
                clear H1
                exact absurd (Option.some.inj H) (by decide)
               ·replace c77 := Bool.eq_false_iff.mpr c77
                subst c77
                have H1 : ((laws_heldIntSS.f kj62 tq_t285 1).bind fun t298 => (if t298 < 0 then (some false) else (if t298 = t285 then (some true) else (some false)))) = some true := by rw [if_neg (show ¬ (false = true) by decide)] at H; exact H
                clear H
                have H := H1
                clear H1
                replace H := Option.bind_eq_some_iff.mp H
                obtain ⟨t298, A780, H⟩ := H
                replace H : (if t298 < 0 then (some false) else (if t298 = t285 then (some true) else (some false))) = some true := H
                have A78 := Aside0.mk A780
                clear A780
                by_cases c79 : t298 < 0
                ·rw [if_pos c79] at H
                 have c79b0 : decide (t298 < 0) = true := decide_eq_true c79
                 clear c79
                 exact absurd (Option.some.inj H) (by decide)
                ·rw [if_neg c79] at H
                 have c79b0 : decide (t298 < 0) = false := decide_eq_false c79
                 clear c79
                 by_cases c80 : t298 = t285
                 ·rw [if_pos c80] at H
                  have c80b0 : (t298 == t285) = true := beq_iff_eq.mpr c80
                  have c80b1 : (t298 != t285) = false := bne_eq_false_iff_eq.mpr c80
                  clear c80
                  clear H
                  go_wp2_with (first | ((with_reducible refine gate_callee (f := 10) rfl ?_); refine goesL_ (some 113) rfl rfl Try.func10 (by kernel_rfl) rfl #[.slice Ao64 t269.length co64, .int .i64 1] rfl (by (try simp only [List.map_toArray, List.map_cons, List.map_nil]); first | done | rfl) ?_; (refine (laws_heldIntSS.held kj62 _ _ _ tq_t285 1 t298 _ (by (with_reducible repeat (first | apply Kd.S_alloc | apply Kd.S_drewN | apply Kd.S_drew)); exact HO_10.out) A78.out).mono ?_); rintro e w' ⟨rfl, ⟨nd, rfl⟩⟩; refine ⟨_, rfl, ?_⟩))
                  go_ret
                  exact ⟨by first | rfl | (simp [errW_none, errW_some] <;> rfl) | (simp [*, errW_none, errW_some] <;> rfl), by repeat (with_reducible first | exact HB.out | apply below_alloc | apply pw_below_drewN | apply below_drew1)⟩
                 ·rw [if_neg c80] at H
                  have c80b0 : (t298 == t285) = false := beq_eq_false_iff_ne.mpr c80
                  have c80b1 : (t298 != t285) = true := bne_iff_ne.mpr c80
                  exact absurd (Option.some.inj H) (by decide)
            ·rw [if_neg c59] at H
             have c59b0 : (t286 == t285) = false := beq_eq_false_iff_ne.mpr c59
             have c59b1 : (t286 != t285) = true := bne_iff_ne.mpr c59
             exact absurd (Option.some.inj H) (by decide)
       ·replace c36 := Bool.eq_false_iff.mpr c36
        subst c36
        have H1 : (some false) = some true := by rw [if_neg (show ¬ (false = true) by decide)] at H; exact H
        clear H
        have H := H1
        clear H1
        exact absurd (Option.some.inj H) (by decide)
      ·replace c33 := Bool.eq_false_iff.mpr c33
       subst c33
       have H1 : (some false) = some true := by rw [if_neg (show ¬ (false = true) by decide)] at H; exact H
       clear H
       have H := H1
       clear H1
       exact absurd (Option.some.inj H) (by decide)

end Go.Proofs.Ytomfkafbiliblaa.QFnExactAddMeasures
