/- What each Go function of this text answers, as a plain function, and that the machine comes to just that answer. -/
import Derived.Test.YtecghgagjghleaaQFnExactChainOfStepsx0
import Derived.Test.YtecghgagjghleaaQFnExactChainOfStepsx2
namespace Go.Proofs.Ytecghgagjghleaa.QFnExactChainOfSteps
open Go.RowKit Go.Proofs.YtecghgagjghleaaW.PrintWords Go.Proofs.YtecghgagjghleaaW.PrintLast Go.Proofs.YtecghgagjghleaaW.PrintMore
attribute [local go_sem] max2_int min2_int max_two min_two max_three min_three max_four min_four   -- for this text's walks alone
set_option linter.unusedVariables false
set_option linter.unusedSimpArgs false

/-! ### impl_within: function 8 -/
def impl_within.f (a0 : Int) (a1 : Int) (a2 : Int) : Option (Bool) := if a0 ≥ a1 then (some (decide (a0 ≤ a2))) else (some false)
set_option maxHeartbeats 8000000 in
set_option maxRecDepth 100000 in
theorem impl_within.calls (a0 : Int) (a1 : Int) (a2 : Int) (r : Bool) (w : World) (h : impl_within.f a0 a1 a2 = some r) :
    Calls Try.prog 8 #[.int .i64 a0, .int .i64 a1, .int .i64 a2] w fun e w' => e = .returned (.bool r) ∧ Drawn0 w w' := by
  have H : (if a0 ≥ a1 then (some (decide (a0 ≤ a2))) else (some false)) = some r := h
  clear h
  by_cases c4 : a0 ≥ a1
  · rw [if_pos c4] at H
    have c4b0 : decide (a1 ≤ a0) = true := decide_eq_true c4
    clear c4
    obtain rfl := Option.some.inj H
    go_enter Try.func8, Try.ntmps8
    go_wp2
    go_ret
    exact ⟨by first | rfl | (simp; done) | (simp [*]; done), by repeat (first | exact Drawn0.refl _ | apply Drawn0.step)⟩
  · rw [if_neg c4] at H
    have c4b0 : decide (a1 ≤ a0) = false := decide_eq_false c4
    clear c4
    obtain rfl := Option.some.inj H
    go_enter Try.func8, Try.ntmps8
    go_wp2
    go_ret
    exact ⟨by first | rfl | (simp; done) | (simp [*]; done), by repeat (first | exact Drawn0.refl _ | apply Drawn0.step)⟩

/-! ### impl_StepsOk: function 9 -/
def impl_StepsOk.f (a0 : Int) (a1 : Int) (a2 : Int) : Option (Bool) := (impl_within.f a0 1 3).bind fun t140 => (if t140 = true then ((impl_within.f a1 1 10).bind fun t141 => (if t141 = true then ((impl_within.f a2 1 10).bind fun t142 => (if t142 = true then (some (decide ((wrap64 ((wrap64 (a0 + 1)) * (mx a1 a2))) ≤ 40))) else (some false))) else (some false))) else (some false))
set_option maxHeartbeats 8000000 in
set_option maxRecDepth 100000 in
theorem impl_StepsOk.calls (a0 : Int) (a1 : Int) (a2 : Int) (r : Bool) (w : World) (h : impl_StepsOk.f a0 a1 a2 = some r) :
    Calls Try.prog 9 #[.int .i64 a0, .int .i64 a1, .int .i64 a2] w fun e w' => e = .returned (.bool r) ∧ Below w.heap.size w w' := by
  have HB := Aside0.mk (Below.refl w.heap.size w)
  have H : ((impl_within.f a0 1 3).bind fun t140 => (if t140 = true then ((impl_within.f a1 1 10).bind fun t141 => (if t141 = true then ((impl_within.f a2 1 10).bind fun t142 => (if t142 = true then (some (decide ((wrap64 ((wrap64 (a0 + 1)) * (mx a1 a2))) ≤ 40))) else (some false))) else (some false))) else (some false))) = some r := h
  clear h
  replace H := Option.bind_eq_some_iff.mp H
  obtain ⟨t140, A40, H⟩ := H
  replace H : (if t140 = true then ((impl_within.f a1 1 10).bind fun t141 => (if t141 = true then ((impl_within.f a2 1 10).bind fun t142 => (if t142 = true then (some (decide ((wrap64 ((wrap64 (a0 + 1)) * (mx a1 a2))) ≤ 40))) else (some false))) else (some false))) else (some false)) = some r := H
  have A4 := Aside0.mk A40
  clear A40
  by_cases c5 : t140 = true
  · subst c5
    have H1 : ((impl_within.f a1 1 10).bind fun t141 => (if t141 = true then ((impl_within.f a2 1 10).bind fun t142 => (if t142 = true then (some (decide ((wrap64 ((wrap64 (a0 + 1)) * (mx a1 a2))) ≤ 40))) else (some false))) else (some false))) = some r := by rw [if_pos rfl] at H; exact H
    clear H
    have H := H1
    clear H1
    replace H := Option.bind_eq_some_iff.mp H
    obtain ⟨t141, A60, H⟩ := H
    replace H : (if t141 = true then ((impl_within.f a2 1 10).bind fun t142 => (if t142 = true then (some (decide ((wrap64 ((wrap64 (a0 + 1)) * (mx a1 a2))) ≤ 40))) else (some false))) else (some false)) = some r := H
    have A6 := Aside0.mk A60
    clear A60
    by_cases c7 : t141 = true
    · subst c7
      have H1 : ((impl_within.f a2 1 10).bind fun t142 => (if t142 = true then (some (decide ((wrap64 ((wrap64 (a0 + 1)) * (mx a1 a2))) ≤ 40))) else (some false))) = some r := by rw [if_pos rfl] at H; exact H
      clear H
      have H := H1
      clear H1
      replace H := Option.bind_eq_some_iff.mp H
      obtain ⟨t142, A80, H⟩ := H
      replace H : (if t142 = true then (some (decide ((wrap64 ((wrap64 (a0 + 1)) * (mx a1 a2))) ≤ 40))) else (some false)) = some r := H
      have A8 := Aside0.mk A80
      clear A80
      by_cases c9 : t142 = true
      · subst c9
        have H1 : (some (decide ((wrap64 ((wrap64 (a0 + 1)) * (mx a1 a2))) ≤ 40))) = some r := by rw [if_pos rfl] at H; exact H
        clear H
        have H := H1
        clear H1
        obtain ⟨ji10, hji10⟩ : ∃ j_ : Int, (mx a1 a2) = j_ := ⟨_, rfl⟩
        replace H : (some (decide ((wrap64 ((wrap64 (a0 + 1)) * (ji10))) ≤ 40))) = some r := by first | (rw [hji10] at H; exact H) | (simp only [hji10] at H ⊢; exact H)
        (try rw [hji10] at A4)
        (try rw [hji10] at A6)
        (try rw [hji10] at A8)
        have hji10_ : (if a1 < a2 then a2 else a1) = ji10 := hji10
        obtain rfl := Option.some.inj H
        go_enter Try.func9, Try.ntmps9
        go_wp2_with (first | ((with_reducible refine gate_callee (f := 8) rfl ?_); refine goesL_ (some 8) rfl rfl Try.func8 (by kernel_rfl) rfl #[.int .i64 a0, .int .i64 1, .int .i64 3] rfl (by (try simp only [List.map_toArray, List.map_cons, List.map_nil]); first | done | rfl | (simp only [List.length_drop, List.length_take]; rfl)) ?_; (with_reducible refine (impl_within.calls a0 1 3 true _ A4.out).mono ?_); rintro e w' ⟨rfl, ⟨nd, rfl⟩⟩; refine ⟨_, rfl, ?_⟩) | (go_at_call 8; (with_reducible refine (impl_within.calls a1 1 10 true _ A6.out).mono ?_); rintro e w' ⟨rfl, ⟨nd, rfl⟩⟩) | (go_at_call 8; (with_reducible refine (impl_within.calls a2 1 10 true _ A8.out).mono ?_); rintro e w' ⟨rfl, ⟨nd, rfl⟩⟩))
        go_ret
        exact ⟨by first | rfl | (simp [errW_none, errW_some] <;> rfl) | (simp only [← hji10]; first | rfl | (simp [errW_none, errW_some] <;> rfl)) | (simp [*, errW_none, errW_some] <;> rfl), by repeat (first | (with_reducible first | exact HB.out | apply below_alloc | apply pw_below_drewN | apply below_drew1) | exact HB.out)⟩
      · replace c9 := Bool.eq_false_iff.mpr c9
        subst c9
        have H1 : (some false) = some r := by rw [if_neg (show ¬ (false = true) by decide)] at H; exact H
        clear H
        have H := H1
        clear H1
        obtain rfl := Option.some.inj H
        go_enter Try.func9, Try.ntmps9
        go_wp2_with (first | ((with_reducible refine gate_callee (f := 8) rfl ?_); refine goesL_ (some 8) rfl rfl Try.func8 (by kernel_rfl) rfl #[.int .i64 a0, .int .i64 1, .int .i64 3] rfl (by (try simp only [List.map_toArray, List.map_cons, List.map_nil]); first | done | rfl | (simp only [List.length_drop, List.length_take]; rfl)) ?_; (with_reducible refine (impl_within.calls a0 1 3 true _ A4.out).mono ?_); rintro e w' ⟨rfl, ⟨nd, rfl⟩⟩; refine ⟨_, rfl, ?_⟩) | (go_at_call 8; (with_reducible refine (impl_within.calls a1 1 10 true _ A6.out).mono ?_); rintro e w' ⟨rfl, ⟨nd, rfl⟩⟩) | (go_at_call 8; (with_reducible refine (impl_within.calls a2 1 10 false _ A8.out).mono ?_); rintro e w' ⟨rfl, ⟨nd, rfl⟩⟩))
        go_ret
        exact ⟨by first | rfl | (simp [errW_none, errW_some] <;> rfl) | (simp [*, errW_none, errW_some] <;> rfl), by repeat (first | (with_reducible first | exact HB.out | apply below_alloc | apply pw_below_drewN | apply below_drew1) | exact HB.out)⟩
    · replace c7 := Bool.eq_false_iff.mpr c7
      subst c7
      have H1 : (some false) = some r := by rw [if_neg (show ¬ (false = true) by decide)] at H; exact H
      clear H
      have H := H1
      clear H1
      obtain rfl := Option.some.inj H
      go_enter Try.func9, Try.ntmps9
      go_wp2_with (first | ((with_reducible refine gate_callee (f := 8) rfl ?_); refine goesL_ (some 8) rfl rfl Try.func8 (by kernel_rfl) rfl #[.int .i64 a0, .int .i64 1, .int .i64 3] rfl (by (try simp only [List.map_toArray, List.map_cons, List.map_nil]); first | done | rfl | (simp only [List.length_drop, List.length_take]; rfl)) ?_; (with_reducible refine (impl_within.calls a0 1 3 true _ A4.out).mono ?_); rintro e w' ⟨rfl, ⟨nd, rfl⟩⟩; refine ⟨_, rfl, ?_⟩) | (go_at_call 8; (with_reducible refine (impl_within.calls a1 1 10 false _ A6.out).mono ?_); rintro e w' ⟨rfl, ⟨nd, rfl⟩⟩))
      go_ret
      exact ⟨by first | rfl | (simp [errW_none, errW_some] <;> rfl) | (simp [*, errW_none, errW_some] <;> rfl), by repeat (first | (with_reducible first | exact HB.out | apply below_alloc | apply pw_below_drewN | apply below_drew1) | exact HB.out)⟩
  · replace c5 := Bool.eq_false_iff.mpr c5
    subst c5
    have H1 : (some false) = some r := by rw [if_neg (show ¬ (false = true) by decide)] at H; exact H
    clear H
    have H := H1
    clear H1
    obtain rfl := Option.some.inj H
    go_enter Try.func9, Try.ntmps9
    go_wp2_with (first | ((with_reducible refine gate_callee (f := 8) rfl ?_); refine goesL_ (some 8) rfl rfl Try.func8 (by kernel_rfl) rfl #[.int .i64 a0, .int .i64 1, .int .i64 3] rfl (by (try simp only [List.map_toArray, List.map_cons, List.map_nil]); first | done | rfl | (simp only [List.length_drop, List.length_take]; rfl)) ?_; (with_reducible refine (impl_within.calls a0 1 3 false _ A4.out).mono ?_); rintro e w' ⟨rfl, ⟨nd, rfl⟩⟩; refine ⟨_, rfl, ?_⟩))
    go_ret
    exact ⟨by first | rfl | (simp [errW_none, errW_some] <;> rfl) | (simp [*, errW_none, errW_some] <;> rfl), by repeat (first | (with_reducible first | exact HB.out | apply below_alloc | apply pw_below_drewN | apply below_drew1) | exact HB.out)⟩

/-! ### ChainOfSteps: the map of rectangles -/
theorem chain_law : Go.Maps.Keyed Try.prog 28 := Go.Maps.Keyed.of_law (deep_law_laid (show laidOutB Try.prog = true by kernel_rfl) (m := 2) (by omega) (of_decide_eq_true (by kernel_rfl)) (by kernel_rfl) (by rw [Try.underlying28]))
theorem chain_uM : Try.prog.underlying 29 = some (.map 28 3) := by kernel_rfl
def k28 : Kd (Int × Int) := Kd.pair (Kd.int .i64) (Kd.int .i64)
theorem k28_open {w : World} {x : Int × Int} {cs : List Value} (h : k28.K w x cs) : cs = [.int .i64 x.1, .int .i64 x.2] := by
  obtain ⟨_, _, rfl, rfl, rfl⟩ := h
  exact rfl
theorem k28_mkM (w : World) (base : Nat) (ok : Nat → Prop) (x : Int × Int) : k28.M w base ok x [.int .i64 x.1, .int .i64 x.2] := ⟨[.int .i64 x.1], [.int .i64 x.2], rfl, rfl, rfl⟩
def rd28 (xs : List (Int × Int)) (i : Int) : Int × Int := xs.getD i.toNat (0, 0)
theorem at28 {w : World} {A : Option Addr} {n : Nat} {xs : List (Int × Int)} (h : Kd.C k28 w A n xs) (i : Int) (h0 : 0 ≤ i) (h1 : i < n) : ∃ ad , A = some ad ∧ w.cell? (ad.add (i.toNat * 2)) = some (.int .i64 (rd28 xs i).1) ∧ w.cell? ⟨(ad.add (i.toNat * 2)).block, (ad.add (i.toNat * 2)).off + 1, none⟩ = some (.int .i64 (rd28 xs i).2) := by
  obtain ⟨ad, c, e, _, hK, hc0⟩ := Kd.C_get h (0, 0) i h0 h1
  have hc : ∀ j u, c[j]? = some u → w.cell? (ad.add (i.toNat * 2 + j)) = some u := hc0
  obtain rfl := k28_open hK
  exact ⟨ad, e, hc 0 _ rfl, by rw [← add_field _ _ 1 (by omega)]; exact hc 1 _ rfl⟩
def k31 : Kd ((Int × Int) × (Int × Int)) := Kd.pair k28 k28
theorem k31_open {w : World} {x : (Int × Int) × (Int × Int)} {cs : List Value} (h : k31.K w x cs) : cs = [.int .i64 x.1.1, .int .i64 x.1.2, .int .i64 x.2.1, .int .i64 x.2.2] := by
  obtain ⟨_, _, rfl, h1, h2⟩ := h
  rw [k28_open h1, k28_open h2]
  rfl
theorem k31_mkM (w : World) (base : Nat) (ok : Nat → Prop) (x : (Int × Int) × (Int × Int)) : k31.M w base ok x [.int .i64 x.1.1, .int .i64 x.1.2, .int .i64 x.2.1, .int .i64 x.2.2] := ⟨_, _, rfl, k28_mkM w base ok x.1, k28_mkM w base ok x.2⟩
def wf2 (p : Int × Int) : Prop := (Lit.int .i64 p.1).wf = true ∧ (Lit.int .i64 p.2).wf = true
def kl2 (p : Int × Int) : Lit := .string (keyBytes [.int .i64 p.1, .int .i64 p.2])
theorem key2 {p : Int × Int} (h : wf2 p) : keyOf Try.prog 28 (.agg #[.int .i64 p.1, .int .i64 p.2]) = some (kl2 p) := by
  have hkt : Try.prog.keyType 28 = true := by kernel_rfl
  have hsz : ∃ m, Try.prog.types.size = m + 1 := ⟨Try.prog.types.size - 1, by have : 0 < Try.prog.types.size := of_decide_eq_true (by kernel_rfl); omega⟩
  have hc : Try.prog.cellsOf 28 = 2 := by kernel_rfl
  have hc3 : Try.prog.cellsOf 3 = 1 := by kernel_rfl
  obtain ⟨m, hm⟩ := hsz
  obtain ⟨w1, w2⟩ := h
  unfold keyOf
  simp only [Try.underlying28]
  rw [if_pos (by simp [hkt, Value.formed, Try.underlying28, hc]), hm]
  unfold Program.keyLits
  simp only [Try.underlying28, Value.cells]
  rw [if_pos (by rw [hc]; exact ⟨rfl, by simp⟩)]
  simp [hc3, Program.keyLits, Try.underlying3, w1, w2, kl2]
def fget (F : List ((Int × Int) × Int)) (p : Int × Int) : Option Int := (F.find? (fun q => decide (q.1 = p))).map (·.2)
theorem fget_cons (F : List ((Int × Int) × Int)) (q : Int × Int) (d : Int) (p : Int × Int) : fget ((q, d) :: F) p = if q = p then some d else fget F p := by
  unfold fget
  rw [List.find?_cons]
  by_cases h : q = p <;> simp [h]
/-- The map reads as F. -/
def MapIs (D : DataW Unit) (F : List ((Int × Int) × Int)) : Prop := ∀ p, wf2 p → Go.Maps.has D (kl2 p) = (fget F p).isSome ∧ D.atKey (kl2 p) (.lit (.int .i64 0)) = .lit (.int .i64 ((fget F p).getD 0))
theorem MapIs.nil : MapIs (.map []) [] := fun _ _ => ⟨rfl, rfl⟩
theorem MapIs.put {D : DataW Unit} {F : List ((Int × Int) × Int)} {q : Int × Int} {d : Int} (h : MapIs D F) (hM : Go.Maps.IsMap D) (hq : wf2 q) : MapIs (D.put (kl2 q) (.lit (.int .i64 d))) ((q, d) :: F) := by
  intro p hp
  rw [fget_cons]
  by_cases e : q = p
  · subst e
    rw [if_pos rfl]
    exact ⟨Go.Maps.has_put_same hM (by trivial) _, Go.Maps.atKey_put_same hM (by trivial) _ _⟩
  · have hne : kl2 p ≠ kl2 q := fun z => by
      have h1 := chain_law.inj (key2 hp) (z ▸ key2 hq)
      injection h1 with h1
      have h2 : [Value.int .i64 p.1, .int .i64 p.2] = [.int .i64 q.1, .int .i64 q.2] := congrArg Array.toList h1
      injection h2 with h2 h3
      injection h3 with h3 _
      injection h2 with _ h2
      injection h3 with _ h3
      exact e (Prod.ext h2.symm h3.symm)
    rw [if_neg e, Go.Maps.has_put_other hne, Go.Maps.atKey_put_other hne]
    exact h p hp
theorem wpList_insert_own {H : Type} {P : Program} (w : World) {ops : Array Oper} {rest : List Oper} {o : Oper} {a : Act} {Q : Exit → Act → World → Prop}
    (hg : o.guard = none) (m x v : Operand) (t : TypeId) (hop : o.op = Op.insert t m x v)
    (k e : TypeId) (K : Go.Maps.Keyed P k) (ht : P.underlying t = some (.map k e)) (R : Value → Option (DataW H × List MemPlace)) (b n : Nat) (D : DataW H)
    (hm : a.eval m = .map (some b)) (hown : w.ownsMap P k R b n D) (hn : n < maxLen) (key val : Value) (kl : Lit) (hx : a.eval x = key) (hv : a.eval v = val) (hkey : keyOf P k key = some kl)
    (d : DataW H) (ps : List MemPlace) (hval : R val = some (d, ps))
    (hK : ∀ w', w'.ownsMap P k R b (n + 1) (D.put kl d) → w.grownBy w' (some b) → wpList P ops Q rest (a.put o.dst undef) w') :
    wpList P ops Q (o :: rest) a w := by
  refine wpList_plain hg fun K' hK' => ?_
  obtain ⟨w', hrun, r1, r2⟩ := hown.update K ht hn hkey hval
  unfold Oper.wp
  simp [execOp, hop, hm, hx, hv, hrun, Result.andThen]
  exact hK' _ _ (hK w' r1 r2)
theorem map_below {H : Type} {P : Program} {k : TypeId} {R : Value → Option (DataW H × List MemPlace)} {b n : Nat} {D : DataW H} {w w1 : World} (h : w.ownsMap P k R b n D) (hb : Below w.heap.size w w1) : w1.ownsMap P k R b n D := by
  have hlt := h.lt
  obtain ⟨es, clock, h1, h2⟩ := h
  exact ⟨es, clock, (hb.block b hlt).trans h1, h2⟩
theorem map_grown {H : Type} {P : Program} {k : TypeId} {R : Value → Option (DataW H × List MemPlace)} {b n : Nat} {D : DataW H} {w w1 : World} {row : Option Nat} (h : w.ownsMap P k R b n D) (hg : w.grownBy w1 row) (hne : some b ≠ row) : w1.ownsMap P k R b n D := by
  have hlt := h.lt
  obtain ⟨es, clock, h1, h2⟩ := h
  exact ⟨es, clock, (hg.block b hlt hne).trans h1, h2⟩
/-! ### impl_ChainOfSteps: function 5 -/
def chP (n a b : Int) : Int × Int := (wrap64 (n * a), wrap64 (wrap64 (n + 1) * b))
def chQ (n a b : Int) : Int × Int := (wrap64 (wrap64 (n + 1) * a), wrap64 (n * b))
mutual
def impl_ChainOfSteps.l0 : Nat → Int → List ((Int × Int) × Int) → List (Int × Int) → Option Int
  | 0, _, _, _ => none
  | k + 1, s, F, T => if 0 < T.length then (if (rd28 T 0).1 = s ∧ (rd28 T 0).2 = s then some ((fget F (rd28 T 0)).getD 0) else impl_ChainOfSteps.l2 k s (rd28 T 0) F (T.drop 1) 1) else some (-1)
def impl_ChainOfSteps.l2 : Nat → Int → Int × Int → List ((Int × Int) × Int) → List (Int × Int) → Int → Option Int
  | 0, _, _, _, _, _ => none
  | k + 1, s, now, F, T, n => if n ≤ 3 then impl_ChainOfSteps.l4 k s now F T n 1 else impl_ChainOfSteps.l0 k s F T
def impl_ChainOfSteps.l4 : Nat → Int → Int × Int → List ((Int × Int) × Int) → List (Int × Int) → Int → Int → Option Int
  | 0, _, _, _, _, _, _ => none
  | k + 1, s, now, F, T, n, a => if a ≤ 10 then impl_ChainOfSteps.l6 k s now F T n a 1 else impl_ChainOfSteps.l2 k s now F T (wrap64 (n + 1))
def impl_ChainOfSteps.l6 : Nat → Int → Int × Int → List ((Int × Int) × Int) → List (Int × Int) → Int → Int → Int → Option Int
  | 0, _, _, _, _, _, _, _ => none
  | k + 1, s, now, F, T, n, a, b => if b ≤ 10 then ((impl_StepsOk.f n a b).bind fun ok => if ok = true then impl_ChainOfSteps.l8 k s now F T n a b 0 else impl_ChainOfSteps.l6 k s now F T n a (wrap64 (b + 1))) else impl_ChainOfSteps.l4 k s now F T n (wrap64 (a + 1))
def impl_ChainOfSteps.l8 : Nat → Int → Int × Int → List ((Int × Int) × Int) → List (Int × Int) → Int → Int → Int → Int → Option Int
  | 0, _, _, _, _, _, _, _, _ => none
  | k + 1, s, now, F, T, n, a, b, i => if i < 2 then (if 0 ≤ i ∧ T.length < 1000000 ∧ F.length < 1000000 then (if (if i = 0 then chP n a b else chQ n a b) = now ∧ fget F (if i = 0 then chQ n a b else chP n a b) = none then impl_ChainOfSteps.l8 k s now ((if i = 0 then chQ n a b else chP n a b, wrap64 ((fget F now).getD 0 + 1)) :: F) (T ++ [if i = 0 then chQ n a b else chP n a b]) n a b (wrap64 (i + 1)) else impl_ChainOfSteps.l8 k s now F T n a b (wrap64 (i + 1))) else none) else impl_ChainOfSteps.l6 k s now F T n a (wrap64 (b + 1))
end
def impl_ChainOfSteps.f (k : Nat) (a0 a1 a2 : Int) : Option Int := if (1 ≤ a0 ∧ a0 ≤ 40) ∧ (1 ≤ a1 ∧ a1 ≤ 40) ∧ (1 ≤ a2 ∧ a2 ≤ 40) ∧ wrap64 (a0 * a1) = wrap64 (a2 * a2) then impl_ChainOfSteps.l0 k a2 [((a0, a1), 0)] [(a0, a1)] else some (-1)
theorem impl_ChainOfSteps.mono_l : ∀ k, (∀ s F T, LeO (impl_ChainOfSteps.l0 k s F T) (impl_ChainOfSteps.l0 (k + 1) s F T)) ∧ (∀ s o F T n, LeO (impl_ChainOfSteps.l2 k s o F T n) (impl_ChainOfSteps.l2 (k + 1) s o F T n)) ∧ (∀ s o F T n a, LeO (impl_ChainOfSteps.l4 k s o F T n a) (impl_ChainOfSteps.l4 (k + 1) s o F T n a)) ∧
    (∀ s o F T n a b, LeO (impl_ChainOfSteps.l6 k s o F T n a b) (impl_ChainOfSteps.l6 (k + 1) s o F T n a b)) ∧ (∀ s o F T n a b i, LeO (impl_ChainOfSteps.l8 k s o F T n a b i) (impl_ChainOfSteps.l8 (k + 1) s o F T n a b i))
  | 0 => ⟨fun _ _ _ r h => by simp [impl_ChainOfSteps.l0] at h, fun _ _ _ _ _ r h => by simp [impl_ChainOfSteps.l2] at h, fun _ _ _ _ _ _ r h => by simp [impl_ChainOfSteps.l4] at h, fun _ _ _ _ _ _ _ r h => by simp [impl_ChainOfSteps.l6] at h, fun _ _ _ _ _ _ _ _ r h => by simp [impl_ChainOfSteps.l8] at h⟩
  | k + 1 => by
    obtain ⟨i0, i2, i4, i6, i8⟩ := impl_ChainOfSteps.mono_l k
    refine ⟨?_, ?_, ?_, ?_, ?_⟩
    · intro s F T
      unfold impl_ChainOfSteps.l0
      exact LeO.ite (LeO.ite (LeO.refl _) (i2 _ _ _ _ _)) (LeO.refl _)
    · intro s o F T n
      unfold impl_ChainOfSteps.l2
      exact LeO.ite (i4 _ _ _ _ _ _) (i0 _ _ _)
    · intro s o F T n a
      unfold impl_ChainOfSteps.l4
      exact LeO.ite (i6 _ _ _ _ _ _ _) (i2 _ _ _ _ _)
    · intro s o F T n a b
      unfold impl_ChainOfSteps.l6
      exact LeO.ite (LeO.bind (LeO.refl _) (fun _ => LeO.ite (i8 _ _ _ _ _ _ _ _) (i6 _ _ _ _ _ _ _))) (i4 _ _ _ _ _ _)
    · intro s o F T n a b i
      unfold impl_ChainOfSteps.l8
      exact LeO.ite (LeO.ite (LeO.ite (i8 _ _ _ _ _ _ _ _) (i8 _ _ _ _ _ _ _ _)) (LeO.refl _)) (i6 _ _ _ _ _ _ _)
theorem impl_ChainOfSteps.mono : ∀ a0 a1 a2 k, LeO (impl_ChainOfSteps.f k a0 a1 a2) (impl_ChainOfSteps.f (k + 1) a0 a1 a2) := by
  intro a0 a1 a2 k
  unfold impl_ChainOfSteps.f
  exact LeO.ite ((impl_ChainOfSteps.mono_l k).1 _ _ _) (LeO.refl _)
structure CInv (w : World) (F : List ((Int × Int) × Int)) (T : List (Int × Int)) (v : Value) (S : Nat → Prop) (w' : World) : Prop where
  map : ∃ D, MapIs D F ∧ w'.ownsMap Try.prog 28 (plainElem (H := Unit) Try.prog 3) w.heap.size F.length D
  row : k28.Q 28 w' w.heap.size (fun k_ => k_ ≠ w.heap.size ∧ ¬ S k_) v T
  wfT : ∀ p ∈ T, wf2 p
  below : Below w.heap.size w w'
theorem CInv.step {w w' w'' : World} {F T v S} (h : CInv w F T v S w') (hb : Below w'.heap.size w' w'') : CInv w F T v S w'' := by
  obtain ⟨⟨D, h1, h2⟩, h3, h4, h5⟩ := h
  exact ⟨⟨D, h1, map_below h2 hb⟩, Kd.Q_below h3 hb, h4, below_step h5 hb⟩
theorem CInv.mono {w w' : World} {F T v} {S S' : Nat → Prop} (h : CInv w F T v S w') (hS : ∀ k, S' k → S k ∨ w'.heap.size ≤ k) : CInv w F T v S' w' := by
  obtain ⟨h0, h3, h4, h5⟩ := h
  refine ⟨h0, Kd.Q_mono (Kd.Q_bound h3) (fun k hk => ⟨hk.1.1, fun g => (hS k g).elim hk.1.2 (fun g => by have := hk.2.2.1; omega)⟩), h4, h5⟩
theorem wf_small {x : Int} (h : 1 ≤ x ∧ x ≤ 40) : (Lit.int .i64 x).wf = true := WalkArith.wf_i64 (by omega)
theorem within_val (a : Int) : impl_within.f a 1 40 = some (decide (1 ≤ a ∧ a ≤ 40)) := by
  unfold impl_within.f
  by_cases h : a ≥ 1
  · rw [if_pos h]; congr 1; simp; omega
  · rw [if_neg h]; congr 1; symm; rw [decide_eq_false_iff_not]; omega
theorem info28 : (Try.prog.info? 28).map (fun i => (i.zero, i.size, i.bytes)) = some (some (.agg #[.int .i64 0, .int .i64 0]), 2, 16) := by kernel_rfl
theorem lit_event {P : Program} {ops : Array Oper} {rest : List Oper} {o : Oper} {a : Act} {Q : Exit → Act → World → Prop} {W : World} (hgd : o.guard = none) {N : Tmp} (_hd : o.dst = some N) {cs : Array Value} {t : TypeId} {n : Nat}
    (hrun : (execOp a.eval o).run P W = .ok (.value (.slice (some ⟨W.heap.size, 0, none⟩) n n)) (W.alloc (.cells cs t (0, 0))))
    (h : ∀ g, g = W.heap.size → ∀ w1, w1.heap[g]? = some (.cells cs t (0, 0)) → Below W.heap.size W w1 → wpList P ops Q rest (a.put o.dst (.slice (some ⟨g, 0, none⟩) n n)) w1) : wpList P ops Q (o :: rest) a W :=
  Kd.event_run hgd hrun (h _ rfl _ (blk_new W _) (below_alloc (Below.refl _ _) _))
theorem wf_chP (n a b : Int) : wf2 (chP n a b) := ⟨wrap64_wf _, wrap64_wf _⟩
theorem wf_chQ (n a b : Int) : wf2 (chQ n a b) := ⟨wrap64_wf _, wrap64_wf _⟩
theorem chain_u30 : Try.prog.underlying 30 = some (.slice 28) := by kernel_rfl
theorem up_row {w w' w1 w2 : World} {F T v S} (h : CInv w F T v S w') (hb : Below w'.heap.size w' w1) (hg : w1.grownBy w2 (some w.heap.size)) : k28.Q 28 w2 w.heap.size (fun k_ => k_ ≠ w.heap.size ∧ ¬ S k_) v T ∧ Below w.heap.size w w2 :=
  ⟨Kd.Q_grown (Kd.Q_below h.row hb) hg (fun k_ hk e => hk.1 (Option.some.inj e)), Below.grown (below_step h.below hb) hg (below_size (below_step h.below hb)) (fun j hj => by cases hj; exact Nat.le_refl _)⟩
theorem chain_wrap (x : Int) : IntKind.i64.wrap x = wrap64 x := by rw [IntKind.wrap_i64]; unfold wrap64; rfl
set_option maxHeartbeats 8000000 in
set_option maxRecDepth 100000 in
theorem impl_ChainOfSteps.calls (k : Nat) (a0 a1 a2 r : Int) (w : World) (h : impl_ChainOfSteps.f k a0 a1 a2 = some r) :
    Calls Try.prog 5 #[.int .i64 a0, .int .i64 a1, .int .i64 a2] w fun e w' => e = .returned (.int .i64 r) ∧ Below w.heap.size w w' := by
  have HB := Aside0.mk (Below.refl w.heap.size w)
  unfold impl_ChainOfSteps.f at h
  by_cases d0 : 1 ≤ a0 ∧ a0 ≤ 40
  · have A0 := Aside0.mk ((within_val a0).trans (congrArg some (decide_eq_true d0)))
    by_cases d1 : 1 ≤ a1 ∧ a1 ≤ 40
    · have A1 := Aside0.mk ((within_val a1).trans (congrArg some (decide_eq_true d1)))
      by_cases d2 : 1 ≤ a2 ∧ a2 ≤ 40
      · have A2 := Aside0.mk ((within_val a2).trans (congrArg some (decide_eq_true d2)))
        by_cases d3 : wrap64 (a0 * a1) = wrap64 (a2 * a2)
        · rw [if_pos ⟨d0, d1, d2, d3⟩] at h
          have H' := Aside0.mk h
          have HW := Aside0.mk (show wf2 (a0, a1) from ⟨wf_small d0, wf_small d1⟩)
          have t1 := eq_true d3
          have t2 : (wrap64 (a0 * a1) != wrap64 (a2 * a2)) = false := by rw [d3]; simp
          clear h d0 d1 d2 d3
          have hmm := @run_makeMap Try.prog
          go_enter Try.func5, Try.ntmps5
          go_wp2_with (first
            | ((with_reducible refine gate_callee (f := 8) rfl ?_); refine goesL_ (some 20) rfl rfl Try.func8 (by kernel_rfl) rfl #[.int .i64 a0, .int .i64 1, .int .i64 40] rfl (by (try simp only [List.map_toArray, List.map_cons, List.map_nil]); first | done | rfl | (simp only [List.length_drop, List.length_take]; rfl)) ?_; (with_reducible refine (impl_within.calls a0 1 40 true _ A0.out).mono ?_); rintro e w' ⟨rfl, ⟨nd, rfl⟩⟩; refine ⟨_, rfl, ?_⟩)
            | (go_at_call 8; (with_reducible refine (impl_within.calls a1 1 40 true _ A1.out).mono ?_); rintro e w' ⟨rfl, ⟨nd, rfl⟩⟩)
            | (go_at_call 8; (with_reducible refine (impl_within.calls a2 1 40 true _ A2.out).mono ?_); rintro e w' ⟨rfl, ⟨nd, rfl⟩⟩)
            | ((with_reducible refine gate_ (.insert 29 (.tmp 41) (.tmp 44) (.const (.int .i64 0))) rfl ?_); refine wpList_insert_own _ rfl _ _ _ 29 rfl 28 3 chain_law chain_uM _ w.heap.size 0 _ rfl (World.ownsMap_made _ Try.prog 28 (plainElem (H := Unit) Try.prog 3)) (by decide) (.agg #[.int .i64 a0, .int .i64 a1]) _ (kl2 (a0, a1)) rfl rfl (key2 HW.out) _ [] (plainElem_int Try.underlying3 (by decide)) ?_; intro w7 hown hgrow; have HO := Aside0.mk hown; have HG := Aside0.mk hgrow; clear hown hgrow)
            | ((with_reducible refine gate_dst (N := 49) rfl ?_); refine Kd.R_lit k28 _ 28 ?hg (N := 49) ?hd (xs := [(a0, a1)]) (inner := [.int .i64 a0, .int .i64 a1]) (ok := fun _ => True) (okp := fun _ => True) ?hr ?hp (fun _ hk => hk) trivial (Below.refl _ _) (Nat.le_refl _) (by simp) ?_; (case hd => rfl); (case hg => rfl); (case hr => first | (go_simp; done) | (go_simp; rfl)); (case hp => exact (Reps.c2 (k28_mkM _ _ _ (a0, a1)) (Reps.none _ _))); intro v8 w8 ho8 hb hg_ hnew_; clear hg_ hnew_; have HR := Aside0.mk ho8; have HB8 := Aside0.mk hb; clear ho8 hb))
          have HI := Aside0.mk (show CInv w [((a0, a1), 0)] [(a0, a1)] v8 (fun _ => False) w8 from by
            have hb7 : Below w.heap.size w w7 := Below.grown (by repeat (first | (with_reducible first | exact HB.out | apply below_alloc | apply pw_below_drewN | apply below_drew1) | exact HB.out)) HG.out (below_size (by repeat (first | (with_reducible first | exact HB.out | apply below_alloc | apply pw_below_drewN | apply below_drew1) | exact HB.out))) (fun j hj => by cases hj; exact Nat.le_refl _)
            have hlt := HO.out.lt
            exact ⟨⟨_, MapIs.nil.put (World.ownsMap_made w Try.prog 28 (plainElem (H := Unit) Try.prog 3)).isMap HW.out, map_below HO.out HB8.out⟩, Kd.Q_of_R (Kd.R_lower (Kd.R_mono (Kd.R_bound HR.out) (fun k_ hk => ⟨by have := hk.2.1; omega, fun h => h⟩)) hb7.size), fun p hp => by rw [List.mem_singleton.mp hp]; exact HW.out, below_step hb7 HB8.out⟩)
          clear HO HG HR HB8 HB HW hmm
          go_loopg [8] k (fun kq v8 w' => ∃ (F : List ((Int × Int) × Int)) (T : List (Int × Int)), Aside0 (impl_ChainOfSteps.l0 kq a2 F T = some r) ∧ Aside0 (kq ≤ k) ∧ Aside0 (CInv w F T v8 (fun _ => False) w'))
          case atStart => exact ⟨_, _, H', ⟨Nat.le_refl _⟩, HI⟩
          case round =>
            clear H' HI A0 A1 A2 t1 t2
            obtain ⟨F, T, HA, HK0, HI⟩ := hrel
            obtain ⟨AT, cT, eT, _⟩ := Kd.Q_slice HI.out.row
            subst eT
            cases gk with
            | zero => exact absurd HA.out (by simp [impl_ChainOfSteps.l0])
            | succ k0 =>
              have H := HA.out
              clear HA
              simp only [impl_ChainOfSteps.l0] at H
              by_cases c1 : 0 < T.length
              · rw [if_pos c1] at H
                obtain ⟨T1, hT1⟩ : ∃ T1, T1 = T.drop 1 := ⟨_, rfl⟩
                rw [← hT1] at H
                have c1b0 : decide (0 < (T.length : Int)) = true := decide_eq_true (by omega)
                have c1b1 : decide (0 < T.length) = true := decide_eq_true c1
                have c1b2 : (0 < T.length) = True := eq_true c1
                have c1b3 : decide (1 ≤ (T.length : Int)) = true := decide_eq_true (by omega)
                obtain ⟨ad1, e1, hx1_0, hx1_1⟩ := at28 (Kd.Q_reads' HI.out.row).2.2 0 (by omega) (by omega)
                cases e1
                rw [show ((0 : Int)).toNat * 2 = 0 from rfl, Addr.add_zero'] at hx1_0 hx1_1
                have p1 : (0 ≤ (0 : Int)) = True := eq_true (by omega)
                have q1 : ((0 : Int) < (T.length : Int)) = True := eq_true (by omega)
                obtain ⟨i014, hi014, _, hsz14, _⟩ := info_parts info28
                have hcut := cut_from (P := Try.prog) 30 28 .i64 (by kernel_rfl) hi014 2 hsz14 (some ad1) T.length cT 1 (by omega) (by omega)
                have hd := Kd.Q_drop (k := (1 : Int).toNat) HI.out.row (by omega)
                obtain ⟨A14, hA14⟩ : ∃ A1, A1 = (if cT = (1 : Int).toNat then (some ad1) else ((some ad1) : Option Addr).map (·.add ((1 : Int).toNat * 2))) := ⟨_, rfl⟩
                obtain ⟨c14, hc14⟩ : ∃ c1, c1 = cT - (1 : Int).toNat := ⟨_, rfl⟩
                have hy14 : T1.length = T.length - (1 : Int).toNat := (by rw [hT1, List.length_drop]; rfl)
                rw [← hy14, ← hA14, ← hc14] at hcut
                replace hd : k28.Q 28 wr w.heap.size (fun k_ => k_ ≠ w.heap.size ∧ ¬ False) (.slice A14 T1.length c14) T1 := (by rw [hA14, hc14, hy14, hT1]; exact hd)
                have HT := Aside0.mk (show CInv w F T1 (.slice A14 T1.length c14) (fun _ => False) wr from ⟨HI.out.map, hd, fun p hp => HI.out.wfT p (List.mem_of_mem_drop (by rw [← hT1]; exact hp)), HI.out.below⟩)
                have HN := Aside0.mk (show wf2 (rd28 T 0) from HI.out.wfT _ (by unfold rd28; rw [List.getD_eq_getElem?_getD, List.getElem?_eq_getElem (by exact c1)]; exact List.getElem_mem _))
                clear hy14 hi014 hsz14 hA14 hc14 hd hT1
                have w1 := eq_true c1
                go_upto_region 7 with (first
                    | ((with_reducible refine gate_dst (N := 9) rfl ?_); refine box_event ?hg (N := 9) ?hd (cs := #[.int .i64 0, .int .i64 0]) (t := 28) ?hr ?_; (case hd => rfl); (case hg => rfl); (case hr => first | (go_simp; done) | (go_simp; rfl)); intro gn hg w9 hbox hb; have BQ := Aside0.mk hbox; have HB9 := Aside0.mk hb; have GN := Aside0.mk hg; clear hbox hb hg)
                    | ((with_reducible refine gate_store (t := 28) (p := 9) rfl ?_); refine store_event (by rfl) (t := 28) (p := 9) (v := .tmp 55) (w1 := (w9.setCell ⟨gn, 0, none⟩ (.int .i64 (rd28 T 0).1)).setCell ⟨gn, 1, none⟩ (.int .i64 (rd28 T 0).2)) rfl rfl ?hr ?_; (case hr => have hb0 : w9.cell? ⟨gn, 0, none⟩ = some (.int .i64 0) := (blk_cell BQ.out 0).trans rfl; have hb1 : w9.cell? ⟨gn, 1, none⟩ = some (.int .i64 0) := (blk_cell BQ.out 1).trans rfl; have hf0 := blk_frozen BQ.out 0; have hf1 := blk_frozen BQ.out 1; first | (go_simp; done) | (go_simp; rfl)); intro w10 hw; have BN := Aside0.mk (show w10.heap[gn]? = some (.cells #[.int .i64 (rd28 T 0).1, .int .i64 (rd28 T 0).2] 28 (0, 0)) from by rw [hw]; exact blk_put (blk_put BQ.out 0 _ rfl) 1 _ rfl); have HB10 := Aside0.mk (show Below wr.heap.size wr w10 from by rw [hw]; exact below_set (below_set (by repeat (first | (with_reducible first | exact HB9.out | apply below_alloc | apply pw_below_drewN | apply below_drew1) | exact HB9.out)) (Nat.le_of_eq GN.out.symm)) (Nat.le_of_eq GN.out.symm)); have hn0 : w10.cell? ⟨gn, 0, none⟩ = some (.int .i64 (rd28 T 0).1) := (blk_cell BN.out 0).trans rfl; have hn1 : w10.cell? ⟨gn, 1, none⟩ = some (.int .i64 (rd28 T 0).2) := (blk_cell BN.out 1).trans rfl; clear hw))
                have HB11 := Aside0.mk (Below.refl w10.heap.size w10)
                go_cut [67] (fun v67 wc => v67 = .bool (decide ((rd28 T 0).1 = a2 ∧ (rd28 T 0).2 = a2)) ∧ Aside0 (Below w10.heap.size w10 wc))
                case first =>
                  by_cases c2 : (rd28 T 0).1 = a2
                  · have u1 := eq_true c2
                    have u3 : ((rd28 T 0).1 == a2) = true := beq_iff_eq.mpr c2
                    by_cases c3 : (rd28 T 0).2 = a2
                    · have u2 := eq_true c3
                      have u4 : ((rd28 T 0).2 == a2) = true := beq_iff_eq.mpr c3
                      have u5 : decide ((rd28 T 0).1 = a2 ∧ (rd28 T 0).2 = a2) = true := decide_eq_true ⟨c2, c3⟩
                      clear c2 c3 H
                      go_wp2
                      go_meet
                      case rel => exact ⟨congrArg Value.bool u5.symm, ⟨by repeat (first | (with_reducible first | exact HB11.out | apply below_alloc | apply pw_below_drewN | apply below_drew1) | exact HB11.out)⟩⟩
                    · have u2 := eq_false c3
                      have u4 : ((rd28 T 0).2 == a2) = false := beq_eq_false_iff_ne.mpr c3
                      have u5 : decide ((rd28 T 0).1 = a2 ∧ (rd28 T 0).2 = a2) = false := decide_eq_false (fun z => c3 z.2)
                      clear c2 c3 H
                      go_wp2
                      go_meet
                      case rel => exact ⟨congrArg Value.bool u5.symm, ⟨by repeat (first | (with_reducible first | exact HB11.out | apply below_alloc | apply pw_below_drewN | apply below_drew1) | exact HB11.out)⟩⟩
                  · have u1 := eq_false c2
                    have u3 : ((rd28 T 0).1 == a2) = false := beq_eq_false_iff_ne.mpr c2
                    have u5 : decide ((rd28 T 0).1 = a2 ∧ (rd28 T 0).2 = a2) = false := decide_eq_false (fun z => c2 z.1)
                    clear c2 H
                    go_wp2
                    go_meet
                    case rel => exact ⟨congrArg Value.bool u5.symm, ⟨by repeat (first | (with_reducible first | exact HB11.out | apply below_alloc | apply pw_below_drewN | apply below_drew1) | exact HB11.out)⟩⟩
                case rest =>
                  obtain ⟨rfl, HBc⟩ := hcut
                  clear hn0 hn1
                  have BNc := Aside0.mk (blk_below BN.out HBc.out)
                  have HTc := Aside0.mk ((HT.out.mono (S' := fun k_ => k_ = gn) (fun k_ e => .inr (by rw [e, GN.out]; exact Nat.le_refl _))).step (below_step HB10.out HBc.out))
                  have HGN := Aside0.mk (show w.heap.size < gn from by have h1 := GN.out; have ⟨D_, _, h2⟩ := HI.out.map; have h3 := h2.lt; have h4 := HI.out.below.size; omega)
                  clear BQ HB9 BN HB10 HBc HB11 HT HI GN hcut hx1_0 hx1_1 w1
                  by_cases c2 : (rd28 T 0).1 = a2 ∧ (rd28 T 0).2 = a2
                  · rw [if_pos c2] at H
                    obtain rfl := Option.some.inj H
                    rw [decide_eq_true c2]
                    clear c2 c1 H
                    have hn0 : wc.cell? ⟨gn, 0, none⟩ = some (.int .i64 (rd28 T 0).1) := (blk_cell BNc.out 0).trans rfl
                    have hn1 : wc.cell? ⟨gn, 1, none⟩ = some (.int .i64 (rd28 T 0).2) := (blk_cell BNc.out 1).trans rfl
                    obtain ⟨D, hMI, hOM⟩ := HTc.out.map
                    have MI := Aside0.mk hMI
                    have OM := Aside0.mk hOM
                    clear hMI hOM
                    go_wp2_with (first
                        | (at_lookup; refine wpList_lookup_own_int _ rfl _ _ 29 rfl 28 3 .i64 chain_law chain_uM Try.underlying3 (by kernel_rfl) w.heap.size _ D rfl (map_below OM.out (by repeat (first | (with_reducible first | exact Below.refl _ _ | apply below_alloc | apply pw_below_drewN | apply below_drew1) | exact Below.refl _ _))) _ _ rfl (key2 HN.out) ?_; intro d_ hat_ hwc_; rw [(MI.out _ HN.out).2] at hat_; injection hat_ with hat_; injection hat_ with _ hat_; subst hat_; clear hwc_))
                    go_ret
                    exact ⟨rfl, by repeat (first | (with_reducible first | exact HTc.out.below | apply below_alloc | apply pw_below_drewN | apply below_drew1) | exact HTc.out.below)⟩
                  · rw [if_neg c2] at H
                    rw [decide_eq_false c2]
                    have H' := Aside0.mk H
                    clear H c2 c1
                    go_wp2
                    obtain ⟨now, hnow⟩ : ∃ now, now = rd28 T 0 := ⟨_, rfl⟩
                    rw [← hnow] at H' BNc HN
                    clear hnow
                    have HBM := Aside0.mk (show w.heap.size < gn from HGN.out)
                    go_loopg [8, 10] k0 (fun kq v8 v10 w' => ∃ (F2 : List ((Int × Int) × Int)) (T2 : List (Int × Int)) (n : Int), v10 = .int .i64 n ∧ Aside0 (impl_ChainOfSteps.l2 kq a2 now F2 T2 n = some r) ∧ Aside0 (kq ≤ k0) ∧ Aside0 (CInv w F2 T2 v8 (fun k_ => k_ = gn) w') ∧ Aside0 (w'.heap[gn]? = some (.cells #[.int .i64 now.1, .int .i64 now.2] 28 (0, 0))))
                    case atStart => exact ⟨_, _, 1, by first | rfl | (simp; done), H', ⟨Nat.le_refl _⟩, ⟨HTc.out.step (by repeat (first | (with_reducible first | exact Below.refl _ _ | apply below_alloc | apply pw_below_drewN | apply below_drew1) | exact Below.refl _ _))⟩, ⟨blk_below BNc.out (by repeat (first | (with_reducible first | exact Below.refl _ _ | apply below_alloc | apply pw_below_drewN | apply below_drew1) | exact Below.refl _ _))⟩⟩
                    case round =>
                      clear H' HTc BNc
                      obtain ⟨F2, T2, n, rfl, HA, HK2, HI, BN⟩ := hrel
                      cases gk with
                      | zero => exact absurd HA.out (by simp [impl_ChainOfSteps.l2])
                      | succ k2 =>
                        have H := HA.out
                        clear HA
                        simp only [impl_ChainOfSteps.l2] at H
                        by_cases c2 : n ≤ 3
                        · rw [if_pos c2] at H
                          have c2b := decide_eq_true c2
                          have c2c := eq_true c2
                          have H' := Aside0.mk H
                          clear H c2
                          go_wp2
                          go_loopg [8, 11] k2 (fun kq v8 v11 w' => ∃ (F4 : List ((Int × Int) × Int)) (T4 : List (Int × Int)) (a : Int), v11 = .int .i64 a ∧ Aside0 (impl_ChainOfSteps.l4 kq a2 now F4 T4 n a = some r) ∧ Aside0 (kq ≤ k2) ∧ Aside0 (CInv w F4 T4 v8 (fun k_ => k_ = gn) w') ∧ Aside0 (w'.heap[gn]? = some (.cells #[.int .i64 now.1, .int .i64 now.2] 28 (0, 0))))
                          case atStart => exact ⟨_, _, 1, by first | rfl | (simp; done), H', ⟨Nat.le_refl _⟩, ⟨HI.out.step (by repeat (first | (with_reducible first | exact Below.refl _ _ | apply below_alloc | apply pw_below_drewN | apply below_drew1) | exact Below.refl _ _))⟩, ⟨blk_below BN.out (by repeat (first | (with_reducible first | exact Below.refl _ _ | apply below_alloc | apply pw_below_drewN | apply below_drew1) | exact Below.refl _ _))⟩⟩
                          case round =>
                            clear H' HI BN c2b c2c
                            obtain ⟨F4, T4, a, rfl, HA, HK4, HI, BN⟩ := hrel
                            cases gk with
                            | zero => exact absurd HA.out (by simp [impl_ChainOfSteps.l4])
                            | succ k4 =>
                              have H := HA.out
                              clear HA
                              simp only [impl_ChainOfSteps.l4] at H
                              by_cases c4 : a ≤ 10
                              · rw [if_pos c4] at H
                                have c4b := decide_eq_true c4
                                have c4c := eq_true c4
                                have H' := Aside0.mk H
                                clear H c4
                                go_wp2
                                go_loopg [8, 12] k4 (fun kq v8 v12 w' => ∃ (F6 : List ((Int × Int) × Int)) (T6 : List (Int × Int)) (b : Int), v12 = .int .i64 b ∧ Aside0 (impl_ChainOfSteps.l6 kq a2 now F6 T6 n a b = some r) ∧ Aside0 (kq ≤ k4) ∧ Aside0 (CInv w F6 T6 v8 (fun k_ => k_ = gn) w') ∧ Aside0 (w'.heap[gn]? = some (.cells #[.int .i64 now.1, .int .i64 now.2] 28 (0, 0))))
                                case atStart => exact ⟨_, _, 1, by first | rfl | (simp; done), H', ⟨Nat.le_refl _⟩, ⟨HI.out.step (by repeat (first | (with_reducible first | exact Below.refl _ _ | apply below_alloc | apply pw_below_drewN | apply below_drew1) | exact Below.refl _ _))⟩, ⟨blk_below BN.out (by repeat (first | (with_reducible first | exact Below.refl _ _ | apply below_alloc | apply pw_below_drewN | apply below_drew1) | exact Below.refl _ _))⟩⟩
                                case round =>
                                  clear H' HI BN c4b c4c
                                  obtain ⟨F6, T6, b, rfl, HA, HK6, HI, BN⟩ := hrel
                                  cases gk with
                                  | zero => exact absurd HA.out (by simp [impl_ChainOfSteps.l6])
                                  | succ k6 =>
                                    have H := HA.out
                                    clear HA
                                    simp only [impl_ChainOfSteps.l6] at H
                                    by_cases c6 : b ≤ 10
                                    · rw [if_pos c6] at H
                                      have c6b := decide_eq_true c6
                                      have c6c := eq_true c6
                                      clear c6
                                      replace H := Option.bind_eq_some_iff.mp H
                                      obtain ⟨ok, A8, H⟩ := H
                                      have A9 := Aside0.mk A8
                                      clear A8
                                      cases ok with
                                      | true =>
                                        rw [if_pos rfl] at H
                                        have H' := Aside0.mk H
                                        clear H
                                        go_wp2_with (first
                                          | ((with_reducible refine gate_callee (f := 9) rfl ?_); refine goesL_ (some 86) rfl rfl Try.func9 (by kernel_rfl) rfl #[.int .i64 n, .int .i64 a, .int .i64 b] rfl (by (try simp only [List.map_toArray, List.map_cons, List.map_nil]); first | done | rfl | (simp only [List.length_drop, List.length_take]; rfl)) ?_; (with_reducible refine (impl_StepsOk.calls n a b true _ A9.out).mono ?_); rintro e w18 ⟨rfl, hb⟩; refine ⟨_, rfl, ?_⟩; have HBs := Aside0.mk hb; clear hb)
                                          | ((with_reducible refine gate_dst (N := 13) rfl ?_); refine box_event ?hg (N := 13) ?hd (cs := #[.int .i64 0, .int .i64 0]) (t := 28) ?hr ?_; (case hd => rfl); (case hg => rfl); (case hr => first | (go_simp; done) | (go_simp; rfl)); intro g13 hg w19 hbox hb; have B13 := Aside0.mk hbox; have HB19 := Aside0.mk (below_step (by repeat (first | (with_reducible first | exact HBs.out | apply below_alloc | apply pw_below_drewN | apply below_drew1) | exact HBs.out)) hb); have G13 := Aside0.mk (show wr.heap.size ≤ g13 from by rw [hg]; exact below_size (by repeat (first | (with_reducible first | exact HBs.out | apply below_alloc | apply pw_below_drewN | apply below_drew1) | exact HBs.out))); clear hbox hb hg)
                                          | ((with_reducible refine gate_dst (N := 14) rfl ?_); refine box_event ?hg (N := 14) ?hd (cs := #[.int .i64 0, .int .i64 0]) (t := 28) ?hr ?_; (case hd => rfl); (case hg => rfl); (case hr => first | (go_simp; done) | (go_simp; rfl)); intro g14 hg w20 hbox hb; have B14 := Aside0.mk hbox; have HB20 := Aside0.mk (below_step (by repeat (first | (with_reducible first | exact HB19.out | apply below_alloc | apply pw_below_drewN | apply below_drew1) | exact HB19.out)) hb); have G14 := Aside0.mk (show wr.heap.size ≤ g14 from by rw [hg]; exact below_size (by repeat (first | (with_reducible first | exact HB19.out | apply below_alloc | apply pw_below_drewN | apply below_drew1) | exact HB19.out))); have NE := Aside0.mk (show g13 ≠ g14 from by rw [hg]; exact Nat.ne_of_lt (blk_lt B13.out)); have C13 := Aside0.mk (blk_below B13.out hb); clear hbox hb hg; have hi0 : w20.cell? ⟨g13, 0, none⟩ = some (.int .i64 0) := (blk_cell C13.out 0).trans rfl; have hif0 := blk_frozen C13.out 0; have hi1 : w20.cell? ⟨g13, 1, none⟩ = some (.int .i64 0) := (blk_cell C13.out 1).trans rfl; have hif1 := blk_frozen C13.out 1; have hj0 : w20.cell? ⟨g14, 0, none⟩ = some (.int .i64 0) := (blk_cell B14.out 0).trans rfl; have hjf0 := blk_frozen B14.out 0; have hj1 : w20.cell? ⟨g14, 1, none⟩ = some (.int .i64 0) := (blk_cell B14.out 1).trans rfl; have hjf1 := blk_frozen B14.out 1)
                                          | ((with_reducible refine gate_store (t := 28) (p := 13) rfl ?_); refine store_event (by rfl) (t := 28) (p := 13) (v := .tmp 95) (w1 := (w20.setCell ⟨g13, 0, none⟩ (.int .i64 (wrap64 (n * a)))).setCell ⟨g13, 1, none⟩ (.int .i64 (wrap64 (wrap64 (n + 1) * b)))) rfl rfl ?hr ?_; (case hr => first | (go_simp; done) | (go_simp; rfl)); intro w21 hw; have D13 := Aside0.mk (show w21.heap[g13]? = some (.cells #[.int .i64 (wrap64 (n * a)), .int .i64 (wrap64 (wrap64 (n + 1) * b))] 28 (0, 0)) from by rw [hw]; exact blk_put (blk_put C13.out 0 _ rfl) 1 _ rfl); have D14 := Aside0.mk (show w21.heap[g14]? = some (.cells #[.int .i64 0, .int .i64 0] 28 (0, 0)) from by rw [hw]; exact blk_far (blk_far B14.out (fun z => NE.out z.symm) _) (fun z => NE.out z.symm) _); have HB21 := Aside0.mk (show Below wr.heap.size wr w21 from by rw [hw]; exact below_set (below_set HB20.out G13.out) G13.out); clear hw; have hk0 : w21.cell? ⟨g14, 0, none⟩ = some (.int .i64 0) := (blk_cell D14.out 0).trans rfl; have hkf0 := blk_frozen D14.out 0; have hk1 : w21.cell? ⟨g14, 1, none⟩ = some (.int .i64 0) := (blk_cell D14.out 1).trans rfl; have hkf1 := blk_frozen D14.out 1)
                                          | ((with_reducible refine gate_store (t := 28) (p := 14) rfl ?_); refine store_event (by rfl) (t := 28) (p := 14) (v := .tmp 103) (w1 := (w21.setCell ⟨g14, 0, none⟩ (.int .i64 (wrap64 (wrap64 (n + 1) * a)))).setCell ⟨g14, 1, none⟩ (.int .i64 (wrap64 (n * b)))) rfl rfl ?hr ?_; (case hr => first | (go_simp; done) | (go_simp; rfl)); intro w22 hw; have E14 := Aside0.mk (show w22.heap[g14]? = some (.cells #[.int .i64 (wrap64 (wrap64 (n + 1) * a)), .int .i64 (wrap64 (n * b))] 28 (0, 0)) from by rw [hw]; exact blk_put (blk_put D14.out 0 _ rfl) 1 _ rfl); have E13 := Aside0.mk (show w22.heap[g13]? = some (.cells #[.int .i64 (wrap64 (n * a)), .int .i64 (wrap64 (wrap64 (n + 1) * b))] 28 (0, 0)) from by rw [hw]; exact blk_far (blk_far D13.out NE.out _) NE.out _); have HB22 := Aside0.mk (show Below wr.heap.size wr w22 from by rw [hw]; exact below_set (below_set HB21.out G14.out) G14.out); clear hw; have hl0 : w22.cell? ⟨g13, 0, none⟩ = some (.int .i64 (wrap64 (n * a))) := (blk_cell E13.out 0).trans rfl; have hlf0 := blk_frozen E13.out 0; have hl1 : w22.cell? ⟨g13, 1, none⟩ = some (.int .i64 (wrap64 (wrap64 (n + 1) * b))) := (blk_cell E13.out 1).trans rfl; have hlf1 := blk_frozen E13.out 1; have hm0 : w22.cell? ⟨g14, 0, none⟩ = some (.int .i64 (wrap64 (wrap64 (n + 1) * a))) := (blk_cell E14.out 0).trans rfl; have hmf0 := blk_frozen E14.out 0; have hm1 : w22.cell? ⟨g14, 1, none⟩ = some (.int .i64 (wrap64 (n * b))) := (blk_cell E14.out 1).trans rfl; have hmf1 := blk_frozen E14.out 1)
                                          | ((with_reducible refine gate_dst (N := 110) rfl ?_); refine lit_event ?hg (N := 110) ?hd (cs := #[.int .i64 (wrap64 (n * a)), .int .i64 (wrap64 (wrap64 (n + 1) * b)), .int .i64 (wrap64 (wrap64 (n + 1) * a)), .int .i64 (wrap64 (n * b)), .int .i64 (wrap64 (wrap64 (n + 1) * a)), .int .i64 (wrap64 (n * b)), .int .i64 (wrap64 (n * a)), .int .i64 (wrap64 (wrap64 (n + 1) * b))]) (t := 31) (n := 2) ?hr ?_; (case hd => rfl); (case hg => rfl); (case hr => first | (go_simp; done) | (go_simp; rfl)); intro gp hg w23 hbox hb; have BP0 := Aside0.mk hbox; have HB23 := Aside0.mk (below_step (by repeat (first | (with_reducible first | exact HB22.out | apply below_alloc | apply pw_below_drewN | apply below_drew1) | exact HB22.out)) hb); have GP := Aside0.mk (show wr.heap.size ≤ gp from by rw [hg]; exact below_size (by repeat (first | (with_reducible first | exact HB22.out | apply below_alloc | apply pw_below_drewN | apply below_drew1) | exact HB22.out))); clear hbox hb hg))
                                        obtain ⟨p, hp⟩ : ∃ p, p = chP n a b := ⟨_, rfl⟩
                                        obtain ⟨q, hq⟩ : ∃ q, q = chQ n a b := ⟨_, rfl⟩
                                        have BP := Aside0.mk (show w23.heap[gp]? = some (.cells #[.int .i64 p.1, .int .i64 p.2, .int .i64 q.1, .int .i64 q.2, .int .i64 q.1, .int .i64 q.2, .int .i64 p.1, .int .i64 p.2] 31 (0, 0)) from by rw [hp, hq]; exact BP0.out)
                                        have HWp := Aside0.mk (show wf2 p from by rw [hp]; exact wf_chP n a b)
                                        have HWq := Aside0.mk (show wf2 q from by rw [hq]; exact wf_chQ n a b)
                                        have HPE := Aside0.mk hp
                                        have HQE := Aside0.mk hq
                                        have HGP := Aside0.mk (show w.heap.size < gp from by have h1 := GP.out; have h2 := blk_lt BN.out; have h3 := HBM.out; omega)
                                        clear hp hq BP0
                                        go_loopg [8, 112] k6 (fun kq v8 v112 w' => ∃ (F8 : List ((Int × Int) × Int)) (T8 : List (Int × Int)) (i : Int), v112 = .int .i64 i ∧ Aside0 (impl_ChainOfSteps.l8 kq a2 now F8 T8 n a b i = some r) ∧ Aside0 (kq ≤ k6) ∧ Aside0 (CInv w F8 T8 v8 (fun k_ => k_ = gn ∨ k_ = gp) w') ∧ Aside0 (w'.heap[gn]? = some (.cells #[.int .i64 now.1, .int .i64 now.2] 28 (0, 0))) ∧ Aside0 (w'.heap[gp]? = some (.cells #[.int .i64 p.1, .int .i64 p.2, .int .i64 q.1, .int .i64 q.2, .int .i64 q.1, .int .i64 q.2, .int .i64 p.1, .int .i64 p.2] 31 (0, 0))))
                                        case atStart => exact ⟨_, _, 0, by first | rfl | (simp; done), H', ⟨Nat.le_refl _⟩, ⟨(HI.out.mono (S' := fun k_ => k_ = gn ∨ k_ = gp) (fun k_ e => e.elim .inl (fun e => .inr (by rw [e]; exact GP.out)))).step (by repeat (first | (with_reducible first | exact HB23.out | apply below_alloc | apply pw_below_drewN | apply below_drew1) | exact HB23.out))⟩, ⟨blk_below BN.out (by repeat (first | (with_reducible first | exact HB23.out | apply below_alloc | apply pw_below_drewN | apply below_drew1) | exact HB23.out))⟩, ⟨blk_below BP.out (by repeat (first | (with_reducible first | exact Below.refl _ _ | apply below_alloc | apply pw_below_drewN | apply below_drew1) | exact Below.refl _ _))⟩⟩
                                        case round =>
                                          clear H' HI BN BP c6b c6c
                                          obtain ⟨F8, T8, i, rfl, HA, HK8, HI, BN, BP⟩ := hrel
                                          cases gk with
                                          | zero => exact absurd HA.out (by simp [impl_ChainOfSteps.l8])
                                          | succ k8 =>
                                            have H := HA.out
                                            clear HA
                                            simp only [impl_ChainOfSteps.l8] at H
                                            by_cases c8 : i < 2
                                            · rw [if_pos c8] at H
                                              by_cases c9 : 0 ≤ i ∧ T8.length < 1000000 ∧ F8.length < 1000000
                                              · rw [if_pos c9] at H
                                                have LEN := Aside0.mk c9.2
                                                rw [← HPE.out, ← HQE.out] at H
                                                have hd8 := HI.out.map
                                                obtain ⟨D, hMI, hOM⟩ := hd8
                                                have MI := Aside0.mk hMI
                                                have OM := Aside0.mk hOM
                                                clear hMI hOM
                                                rcases (show i = 0 ∨ i = 1 by omega) with ci | ci
                                                · subst ci
                                                  have HPW := HWp
                                                  have HQW := HWq
                                                  have hp0 : wr.cell? ⟨gp, 0, none⟩ = some (.int .i64 p.1) := (blk_cell BP.out 0).trans rfl
                                                  have hp1 : wr.cell? ⟨gp, 1, none⟩ = some (.int .i64 p.2) := (blk_cell BP.out 1).trans rfl
                                                  have hp2 : wr.cell? ⟨gp, 2, none⟩ = some (.int .i64 q.1) := (blk_cell BP.out 2).trans rfl
                                                  have hp3 : wr.cell? ⟨gp, 3, none⟩ = some (.int .i64 q.2) := (blk_cell BP.out 3).trans rfl
                                                  simp only [show ((0 : Int) = 0) = True from eq_true rfl, if_true, if_false] at H
                                                  by_cases e1 : p.1 = now.1
                                                  · by_cases e2 : p.2 = now.2
                                                    · have e3 : p = now := Prod.ext e1 e2
                                                      have e1a := eq_true e1
                                                      have e1b : (p.1 == now.1) = true := beq_iff_eq.mpr e1
                                                      have e2a := eq_true e2
                                                      have e2b : (p.2 == now.2) = true := beq_iff_eq.mpr e2
                                                      cases e4 : fget F8 q with
                                                      | some d4 =>
                                                        rw [if_neg (fun z => by rw [e4] at z; cases z.2)] at H
                                                        have H' := Aside0.mk H
                                                        have E4 := Aside0.mk e4
                                                        clear H e1 e2 e3 e4
                                                        go_wp2_with (first
                                                          | ((with_reducible refine gate_dst (N := 16) rfl ?_); refine box_event ?hg (N := 16) ?hd (cs := #[.int .i64 0, .int .i64 0, .int .i64 0, .int .i64 0]) (t := 31) ?hr ?_; (case hd => rfl); (case hg => rfl); (case hr => first | (go_simp; done) | (go_simp; rfl)); intro gx hg w22 hbox hb; have BQ := Aside0.mk hbox; have HB22 := Aside0.mk hb; have GX := Aside0.mk hg; clear hbox hb hg)
                                                          | ((with_reducible refine gate_store (t := 31) (p := 16) rfl ?_); refine store_event (by rfl) (t := 31) (p := 16) (v := .tmp 115) (w1 := ((((w22.setCell ⟨gx, 0, none⟩ (.int .i64 p.1)).setCell ⟨gx, 1, none⟩ (.int .i64 p.2)).setCell ⟨gx, 2, none⟩ (.int .i64 q.1)).setCell ⟨gx, 3, none⟩ (.int .i64 q.2))) rfl rfl ?hr ?_; (case hr => have hb0 : w22.cell? ⟨gx, 0, none⟩ = some (.int .i64 0) := (blk_cell BQ.out 0).trans rfl; have hf0 := blk_frozen BQ.out 0; have hb1 : w22.cell? ⟨gx, 1, none⟩ = some (.int .i64 0) := (blk_cell BQ.out 1).trans rfl; have hf1 := blk_frozen BQ.out 1; have hb2 : w22.cell? ⟨gx, 2, none⟩ = some (.int .i64 0) := (blk_cell BQ.out 2).trans rfl; have hf2 := blk_frozen BQ.out 2; have hb3 : w22.cell? ⟨gx, 3, none⟩ = some (.int .i64 0) := (blk_cell BQ.out 3).trans rfl; have hf3 := blk_frozen BQ.out 3; first | (go_simp; done) | (go_simp; rfl)); intro w23 hw; have BX := Aside0.mk (show w23.heap[gx]? = some (.cells #[.int .i64 p.1, .int .i64 p.2, .int .i64 q.1, .int .i64 q.2] 31 (0, 0)) from by rw [hw]; exact (blk_put (blk_put (blk_put (blk_put BQ.out 0 _ rfl) 1 _ rfl) 2 _ rfl) 3 _ rfl)); have HB23 := Aside0.mk (show Below wr.heap.size wr w23 from by rw [hw]; exact (below_set (below_set (below_set (below_set (by repeat (first | (with_reducible first | exact HB22.out | apply below_alloc | apply pw_below_drewN | apply below_drew1) | exact HB22.out)) (Nat.le_of_eq GX.out.symm)) (Nat.le_of_eq GX.out.symm)) (Nat.le_of_eq GX.out.symm)) (Nat.le_of_eq GX.out.symm))); have hx0 : w23.cell? ⟨gx, 0, none⟩ = some (.int .i64 p.1) := (blk_cell BX.out 0).trans rfl; have hx1 : w23.cell? ⟨gx, 1, none⟩ = some (.int .i64 p.2) := (blk_cell BX.out 1).trans rfl; have hx2 : w23.cell? ⟨gx, 2, none⟩ = some (.int .i64 q.1) := (blk_cell BX.out 2).trans rfl; have hx3 : w23.cell? ⟨gx, 3, none⟩ = some (.int .i64 q.2) := (blk_cell BX.out 3).trans rfl; have hn0 : w23.cell? ⟨gn, 0, none⟩ = some (.int .i64 now.1) := (blk_cell (blk_below BN.out HB23.out) 0).trans rfl; have hn1 : w23.cell? ⟨gn, 1, none⟩ = some (.int .i64 now.2) := (blk_cell (blk_below BN.out HB23.out) 1).trans rfl; clear hw)
                                                          | (at_lookup; refine wpList_lookup_own_ok_int _ rfl _ _ 29 rfl 28 3 .i64 chain_law chain_uM Try.underlying3 (by kernel_rfl) w.heap.size _ D rfl (map_below OM.out (by repeat (first | (with_reducible first | exact HB23.out | apply below_alloc | apply pw_below_drewN | apply below_drew1) | exact HB23.out))) (.agg #[.int .i64 q.1, .int .i64 q.2]) (kl2 q) rfl (key2 HQW.out) ?_; intro c_ hat_ hwc_; rw [(MI.out _ HQW.out).1, E4.out, Option.isSome_some]; clear hat_ hwc_))
                                                        go_roundg k8
                                                        case measure => have := HK0.out; have := HK2.out; have := HK4.out; have := HK6.out; have := HK8.out; omega
                                                        case rel => exact ⟨F8, T8, (wrap64 (0 + 1)), by first | rfl | exact congrArg (Value.int .i64) (by unfold wrap64; omega) | (simp; done) | (simp [*]; done), H', ⟨by have := HK0.out; have := HK2.out; have := HK4.out; have := HK6.out; have := HK8.out; omega⟩, ⟨HI.out.step (by repeat (first | (with_reducible first | exact HB23.out | apply below_alloc | apply pw_below_drewN | apply below_drew1) | exact HB23.out))⟩, ⟨blk_below BN.out (by repeat (first | (with_reducible first | exact HB23.out | apply below_alloc | apply pw_below_drewN | apply below_drew1) | exact HB23.out))⟩, ⟨blk_below BP.out (by repeat (first | (with_reducible first | exact HB23.out | apply below_alloc | apply pw_below_drewN | apply below_drew1) | exact HB23.out))⟩⟩
                                                      | none =>
                                                        rw [if_pos ⟨e3, e4⟩] at H
                                                        have H' := Aside0.mk H
                                                        have E4 := Aside0.mk e4
                                                        clear H e1 e2 e3 e4
                                                        go_wp2_with (first
                                                          | ((with_reducible refine gate_dst (N := 16) rfl ?_); refine box_event ?hg (N := 16) ?hd (cs := #[.int .i64 0, .int .i64 0, .int .i64 0, .int .i64 0]) (t := 31) ?hr ?_; (case hd => rfl); (case hg => rfl); (case hr => first | (go_simp; done) | (go_simp; rfl)); intro gx hg w22 hbox hb; have BQ := Aside0.mk hbox; have HB22 := Aside0.mk hb; have GX := Aside0.mk hg; clear hbox hb hg)
                                                          | ((with_reducible refine gate_store (t := 31) (p := 16) rfl ?_); refine store_event (by rfl) (t := 31) (p := 16) (v := .tmp 115) (w1 := ((((w22.setCell ⟨gx, 0, none⟩ (.int .i64 p.1)).setCell ⟨gx, 1, none⟩ (.int .i64 p.2)).setCell ⟨gx, 2, none⟩ (.int .i64 q.1)).setCell ⟨gx, 3, none⟩ (.int .i64 q.2))) rfl rfl ?hr ?_; (case hr => have hb0 : w22.cell? ⟨gx, 0, none⟩ = some (.int .i64 0) := (blk_cell BQ.out 0).trans rfl; have hf0 := blk_frozen BQ.out 0; have hb1 : w22.cell? ⟨gx, 1, none⟩ = some (.int .i64 0) := (blk_cell BQ.out 1).trans rfl; have hf1 := blk_frozen BQ.out 1; have hb2 : w22.cell? ⟨gx, 2, none⟩ = some (.int .i64 0) := (blk_cell BQ.out 2).trans rfl; have hf2 := blk_frozen BQ.out 2; have hb3 : w22.cell? ⟨gx, 3, none⟩ = some (.int .i64 0) := (blk_cell BQ.out 3).trans rfl; have hf3 := blk_frozen BQ.out 3; first | (go_simp; done) | (go_simp; rfl)); intro w23 hw; have BX := Aside0.mk (show w23.heap[gx]? = some (.cells #[.int .i64 p.1, .int .i64 p.2, .int .i64 q.1, .int .i64 q.2] 31 (0, 0)) from by rw [hw]; exact (blk_put (blk_put (blk_put (blk_put BQ.out 0 _ rfl) 1 _ rfl) 2 _ rfl) 3 _ rfl)); have HB23 := Aside0.mk (show Below wr.heap.size wr w23 from by rw [hw]; exact (below_set (below_set (below_set (below_set (by repeat (first | (with_reducible first | exact HB22.out | apply below_alloc | apply pw_below_drewN | apply below_drew1) | exact HB22.out)) (Nat.le_of_eq GX.out.symm)) (Nat.le_of_eq GX.out.symm)) (Nat.le_of_eq GX.out.symm)) (Nat.le_of_eq GX.out.symm))); have hx0 : w23.cell? ⟨gx, 0, none⟩ = some (.int .i64 p.1) := (blk_cell BX.out 0).trans rfl; have hx1 : w23.cell? ⟨gx, 1, none⟩ = some (.int .i64 p.2) := (blk_cell BX.out 1).trans rfl; have hx2 : w23.cell? ⟨gx, 2, none⟩ = some (.int .i64 q.1) := (blk_cell BX.out 2).trans rfl; have hx3 : w23.cell? ⟨gx, 3, none⟩ = some (.int .i64 q.2) := (blk_cell BX.out 3).trans rfl; have hn0 : w23.cell? ⟨gn, 0, none⟩ = some (.int .i64 now.1) := (blk_cell (blk_below BN.out HB23.out) 0).trans rfl; have hn1 : w23.cell? ⟨gn, 1, none⟩ = some (.int .i64 now.2) := (blk_cell (blk_below BN.out HB23.out) 1).trans rfl; clear hw)
                                                          | (at_lookup; refine wpList_lookup_own_ok_int _ rfl _ _ 29 rfl 28 3 .i64 chain_law chain_uM Try.underlying3 (by kernel_rfl) w.heap.size _ D rfl (map_below OM.out (by repeat (first | (with_reducible first | exact HB23.out | apply below_alloc | apply pw_below_drewN | apply below_drew1) | exact HB23.out))) (.agg #[.int .i64 q.1, .int .i64 q.2]) (kl2 q) rfl (key2 HQW.out) ?_; intro c_ hat_ hwc_; rw [(MI.out _ HQW.out).1, E4.out, Option.isSome_none]; clear hat_ hwc_))
                                                        have OMd := Aside0.mk (map_below (w1 := w23.drew) OM.out (by repeat (first | (with_reducible first | exact HB23.out | apply below_alloc | apply pw_below_drewN | apply below_drew1) | exact HB23.out)))
                                                        obtain ⟨d_, hlk, hat_, _⟩ := OMd.out.lookup_int chain_law chain_uM Try.underlying3 (by kernel_rfl) (key2 HN.out)
                                                        rw [(MI.out _ HN.out).2] at hat_
                                                        injection hat_ with hat_
                                                        injection hat_ with _ hat_
                                                        subst hat_
                                                        go_still_tail 7, (by kernel_rfl)
                                                        change wpList _ _ _ _ _ w23.drew
                                                        go_wp2_with (first
                                                          | (at_mapUpdate; refine wpList_mapUpdate_own _ rfl _ _ _ 29 rfl 28 3 chain_law chain_uM _ w.heap.size F8.length D rfl (map_below OM.out (by repeat (first | (with_reducible first | exact HB23.out | apply below_alloc | apply pw_below_drewN | apply below_drew1) | exact HB23.out))) (by have := LEN.out; unfold maxLen; omega) (.agg #[.int .i64 q.1, .int .i64 q.2]) (.int .i64 (IntKind.i64.wrap ((fget F8 now).getD 0 + 1))) (kl2 q) rfl rfl (key2 HQW.out) (.lit (.int .i64 (wrap64 ((fget F8 now).getD 0 + 1)))) [] (by rw [chain_wrap]; exact plainElem_int Try.underlying3 (wrap64_wf ((fget F8 now).getD 0 + 1))) ?_; intro w25 hown25 hgrow25; have HO25 := Aside0.mk hown25; have HI25 := Aside0.mk (up_row HI.out (by repeat (first | (with_reducible first | exact HB23.out | apply below_alloc | apply pw_below_drewN | apply below_drew1) | exact HB23.out)) hgrow25); have SZ25 := Aside0.mk (Nat.le_trans (below_size (w := wr) (by repeat (first | (with_reducible first | exact HB23.out | apply below_alloc | apply pw_below_drewN | apply below_drew1) | exact HB23.out))) hgrow25.size); have BX25 := Aside0.mk (blk_grown (by (with_reducible repeat (first | refine blk_drewN ?_ _ | refine blk_drew ?_ | refine blk_alloc ?_ _)); exact BX.out) hgrow25 (by have h1 := GX.out; have h2 := HBM.out; have h3 := blk_lt BN.out; have h4 : wr.drew.heap.size = wr.heap.size := rfl; intro z; injection z with z; omega)); have BN25 := Aside0.mk (blk_grown (blk_below BN.out (by repeat (first | (with_reducible first | exact HB23.out | apply below_alloc | apply pw_below_drewN | apply below_drew1) | exact HB23.out))) hgrow25 (by have h2 := HBM.out; intro z; injection z with z; omega)); have BP25 := Aside0.mk (blk_grown (blk_below BP.out (by repeat (first | (with_reducible first | exact HB23.out | apply below_alloc | apply pw_below_drewN | apply below_drew1) | exact HB23.out))) hgrow25 (by have h2 := HGP.out; intro z; injection z with z; omega)); clear hown25 hgrow25; have hy0 : w25.cell? ⟨gx, 0, none⟩ = some (.int .i64 p.1) := (blk_cell BX25.out 0).trans rfl; have hy1 : w25.cell? ⟨gx, 1, none⟩ = some (.int .i64 p.2) := (blk_cell BX25.out 1).trans rfl; have hy2 : w25.cell? ⟨gx, 2, none⟩ = some (.int .i64 q.1) := (blk_cell BX25.out 2).trans rfl; have hy3 : w25.cell? ⟨gx, 3, none⟩ = some (.int .i64 q.2) := (blk_cell BX25.out 3).trans rfl)
                                                          | ((with_reducible refine gate_builtin (b := .append) (xs := #[.tmp 138, .tmp 141]) rfl ?_); at_builtin; refine Kd.Q_append k28 (w0 := w) w.heap.size rfl (.tmp 138) (.tmp 141) 30 28 (.agg #[.int .i64 0, .int .i64 0]) 16 rfl chain_u30 info28 rfl (by decide) (by decide) u8 T8 q [.int .i64 q.1, .int .i64 q.2] (fun k_ => k_ ≠ w.heap.size ∧ ¬ (k_ = gn ∨ k_ = gp)) (fun _ => False) rfl (by first | rfl | simp) (k28_mkM _ _ _ q) (fun _ hk => hk.elim) (fun k_ hk => by have h1 := SZ25.out; have h2 := blk_lt BN.out; have h3 := blk_lt BP.out; have h4 := HBM.out; have h5 := HGP.out; have h6 : w25.heap.size ≤ k_ := hk; exact ⟨by omega, fun z => by omega⟩) (by (with_reducible repeat (first | apply Kd.Q_alloc | apply Kd.Q_drewN | apply Kd.Q_drew)); exact HI25.out.1) (by repeat (first | (with_reducible first | exact HI25.out.2 | apply below_alloc | apply pw_below_drewN | apply below_drew1) | exact HI25.out.2)) (below_size (by repeat (first | (with_reducible first | exact HI25.out.2 | apply below_alloc | apply pw_below_drewN | apply below_drew1) | exact HI25.out.2))) (by have := LEN.out; omega) ?_; intro v30 w30 ho hb hg hat; have HI30 := Aside0.mk (show CInv w ((q, wrap64 ((fget F8 now).getD 0 + 1)) :: F8) (T8 ++ [q]) v30 (fun k_ => k_ = gn ∨ k_ = gp) w30 from ⟨⟨_, MI.out.put OM.out.isMap HQW.out, map_grown (map_below HO25.out (by repeat (first | (with_reducible first | exact Below.refl _ _ | apply below_alloc | apply pw_below_drewN | apply below_drew1) | exact Below.refl _ _))) hg (fun e => (HI.out.row.1 _ e.symm).1 rfl)⟩, ho, fun x hx => (List.mem_append.mp hx).elim (HI.out.wfT x) (fun h => by rw [List.mem_singleton.mp h]; exact HQW.out), hb⟩); have BN30 := Aside0.mk (blk_grown (by (with_reducible repeat (first | refine blk_drewN ?_ _ | refine blk_drew ?_ | refine blk_alloc ?_ _)); exact BN25.out) hg (fun e => (HI.out.row.1 _ e.symm).2 (.inl rfl))); have BP30 := Aside0.mk (blk_grown (by (with_reducible repeat (first | refine blk_drewN ?_ _ | refine blk_drew ?_ | refine blk_alloc ?_ _)); exact BP25.out) hg (fun e => (HI.out.row.1 _ e.symm).2 (.inr rfl))); clear ho hb hg hat))
                                                        go_roundg k8
                                                        case measure => have := HK0.out; have := HK2.out; have := HK4.out; have := HK6.out; have := HK8.out; omega
                                                        case rel => exact ⟨_, _, (wrap64 (0 + 1)), by first | rfl | exact congrArg (Value.int .i64) (by unfold wrap64; omega) | (simp; done) | (simp [*]; done), H', ⟨by have := HK0.out; have := HK2.out; have := HK4.out; have := HK6.out; have := HK8.out; omega⟩, ⟨HI30.out.step (by repeat (first | (with_reducible first | exact Below.refl _ _ | apply below_alloc | apply pw_below_drewN | apply below_drew1) | exact Below.refl _ _))⟩, ⟨blk_below BN30.out (by repeat (first | (with_reducible first | exact Below.refl _ _ | apply below_alloc | apply pw_below_drewN | apply below_drew1) | exact Below.refl _ _))⟩, ⟨blk_below BP30.out (by repeat (first | (with_reducible first | exact Below.refl _ _ | apply below_alloc | apply pw_below_drewN | apply below_drew1) | exact Below.refl _ _))⟩⟩
                                                    · obtain ⟨bb, hbb⟩ : ∃ bb, bb = (fget F8 q).isSome := ⟨_, rfl⟩
                                                      have E0 := Aside0.mk hbb.symm
                                                      clear hbb
                                                      rw [if_neg (fun z => e2 (congrArg Prod.snd z.1))] at H
                                                      have e1a := eq_true e1
                                                      have e1b : (p.1 == now.1) = true := beq_iff_eq.mpr e1
                                                      have e2a := eq_false e2
                                                      have e2b : (p.2 == now.2) = false := beq_eq_false_iff_ne.mpr e2
                                                      have H' := Aside0.mk H
                                                      clear H e1 e2
                                                      go_wp2_with (first
                                                        | ((with_reducible refine gate_dst (N := 16) rfl ?_); refine box_event ?hg (N := 16) ?hd (cs := #[.int .i64 0, .int .i64 0, .int .i64 0, .int .i64 0]) (t := 31) ?hr ?_; (case hd => rfl); (case hg => rfl); (case hr => first | (go_simp; done) | (go_simp; rfl)); intro gx hg w22 hbox hb; have BQ := Aside0.mk hbox; have HB22 := Aside0.mk hb; have GX := Aside0.mk hg; clear hbox hb hg)
                                                        | ((with_reducible refine gate_store (t := 31) (p := 16) rfl ?_); refine store_event (by rfl) (t := 31) (p := 16) (v := .tmp 115) (w1 := ((((w22.setCell ⟨gx, 0, none⟩ (.int .i64 p.1)).setCell ⟨gx, 1, none⟩ (.int .i64 p.2)).setCell ⟨gx, 2, none⟩ (.int .i64 q.1)).setCell ⟨gx, 3, none⟩ (.int .i64 q.2))) rfl rfl ?hr ?_; (case hr => have hb0 : w22.cell? ⟨gx, 0, none⟩ = some (.int .i64 0) := (blk_cell BQ.out 0).trans rfl; have hf0 := blk_frozen BQ.out 0; have hb1 : w22.cell? ⟨gx, 1, none⟩ = some (.int .i64 0) := (blk_cell BQ.out 1).trans rfl; have hf1 := blk_frozen BQ.out 1; have hb2 : w22.cell? ⟨gx, 2, none⟩ = some (.int .i64 0) := (blk_cell BQ.out 2).trans rfl; have hf2 := blk_frozen BQ.out 2; have hb3 : w22.cell? ⟨gx, 3, none⟩ = some (.int .i64 0) := (blk_cell BQ.out 3).trans rfl; have hf3 := blk_frozen BQ.out 3; first | (go_simp; done) | (go_simp; rfl)); intro w23 hw; have BX := Aside0.mk (show w23.heap[gx]? = some (.cells #[.int .i64 p.1, .int .i64 p.2, .int .i64 q.1, .int .i64 q.2] 31 (0, 0)) from by rw [hw]; exact (blk_put (blk_put (blk_put (blk_put BQ.out 0 _ rfl) 1 _ rfl) 2 _ rfl) 3 _ rfl)); have HB23 := Aside0.mk (show Below wr.heap.size wr w23 from by rw [hw]; exact (below_set (below_set (below_set (below_set (by repeat (first | (with_reducible first | exact HB22.out | apply below_alloc | apply pw_below_drewN | apply below_drew1) | exact HB22.out)) (Nat.le_of_eq GX.out.symm)) (Nat.le_of_eq GX.out.symm)) (Nat.le_of_eq GX.out.symm)) (Nat.le_of_eq GX.out.symm))); have hx0 : w23.cell? ⟨gx, 0, none⟩ = some (.int .i64 p.1) := (blk_cell BX.out 0).trans rfl; have hx1 : w23.cell? ⟨gx, 1, none⟩ = some (.int .i64 p.2) := (blk_cell BX.out 1).trans rfl; have hx2 : w23.cell? ⟨gx, 2, none⟩ = some (.int .i64 q.1) := (blk_cell BX.out 2).trans rfl; have hx3 : w23.cell? ⟨gx, 3, none⟩ = some (.int .i64 q.2) := (blk_cell BX.out 3).trans rfl; have hn0 : w23.cell? ⟨gn, 0, none⟩ = some (.int .i64 now.1) := (blk_cell (blk_below BN.out HB23.out) 0).trans rfl; have hn1 : w23.cell? ⟨gn, 1, none⟩ = some (.int .i64 now.2) := (blk_cell (blk_below BN.out HB23.out) 1).trans rfl; clear hw)
                                                        | (at_lookup; refine wpList_lookup_own_ok_int _ rfl _ _ 29 rfl 28 3 .i64 chain_law chain_uM Try.underlying3 (by kernel_rfl) w.heap.size _ D rfl (map_below OM.out (by repeat (first | (with_reducible first | exact HB23.out | apply below_alloc | apply pw_below_drewN | apply below_drew1) | exact HB23.out))) (.agg #[.int .i64 q.1, .int .i64 q.2]) (kl2 q) rfl (key2 HQW.out) ?_; intro c_ hat_ hwc_; rw [(MI.out _ HQW.out).1, E0.out]; clear hat_ hwc_))
                                                      go_roundg k8
                                                      case measure => have := HK0.out; have := HK2.out; have := HK4.out; have := HK6.out; have := HK8.out; omega
                                                      case rel => exact ⟨F8, T8, (wrap64 (0 + 1)), by first | rfl | exact congrArg (Value.int .i64) (by unfold wrap64; omega) | (simp; done) | (simp [*]; done), H', ⟨by have := HK0.out; have := HK2.out; have := HK4.out; have := HK6.out; have := HK8.out; omega⟩, ⟨HI.out.step (by repeat (first | (with_reducible first | exact HB23.out | apply below_alloc | apply pw_below_drewN | apply below_drew1) | exact HB23.out))⟩, ⟨blk_below BN.out (by repeat (first | (with_reducible first | exact HB23.out | apply below_alloc | apply pw_below_drewN | apply below_drew1) | exact HB23.out))⟩, ⟨blk_below BP.out (by repeat (first | (with_reducible first | exact HB23.out | apply below_alloc | apply pw_below_drewN | apply below_drew1) | exact HB23.out))⟩⟩
                                                  · obtain ⟨bb, hbb⟩ : ∃ bb, bb = (fget F8 q).isSome := ⟨_, rfl⟩
                                                    have E0 := Aside0.mk hbb.symm
                                                    clear hbb
                                                    rw [if_neg (fun z => e1 (congrArg Prod.fst z.1))] at H
                                                    have e1a := eq_false e1
                                                    have e1b : (p.1 == now.1) = false := beq_eq_false_iff_ne.mpr e1
                                                    have H' := Aside0.mk H
                                                    clear H e1
                                                    go_wp2_with (first
                                                      | ((with_reducible refine gate_dst (N := 16) rfl ?_); refine box_event ?hg (N := 16) ?hd (cs := #[.int .i64 0, .int .i64 0, .int .i64 0, .int .i64 0]) (t := 31) ?hr ?_; (case hd => rfl); (case hg => rfl); (case hr => first | (go_simp; done) | (go_simp; rfl)); intro gx hg w22 hbox hb; have BQ := Aside0.mk hbox; have HB22 := Aside0.mk hb; have GX := Aside0.mk hg; clear hbox hb hg)
                                                      | ((with_reducible refine gate_store (t := 31) (p := 16) rfl ?_); refine store_event (by rfl) (t := 31) (p := 16) (v := .tmp 115) (w1 := ((((w22.setCell ⟨gx, 0, none⟩ (.int .i64 p.1)).setCell ⟨gx, 1, none⟩ (.int .i64 p.2)).setCell ⟨gx, 2, none⟩ (.int .i64 q.1)).setCell ⟨gx, 3, none⟩ (.int .i64 q.2))) rfl rfl ?hr ?_; (case hr => have hb0 : w22.cell? ⟨gx, 0, none⟩ = some (.int .i64 0) := (blk_cell BQ.out 0).trans rfl; have hf0 := blk_frozen BQ.out 0; have hb1 : w22.cell? ⟨gx, 1, none⟩ = some (.int .i64 0) := (blk_cell BQ.out 1).trans rfl; have hf1 := blk_frozen BQ.out 1; have hb2 : w22.cell? ⟨gx, 2, none⟩ = some (.int .i64 0) := (blk_cell BQ.out 2).trans rfl; have hf2 := blk_frozen BQ.out 2; have hb3 : w22.cell? ⟨gx, 3, none⟩ = some (.int .i64 0) := (blk_cell BQ.out 3).trans rfl; have hf3 := blk_frozen BQ.out 3; first | (go_simp; done) | (go_simp; rfl)); intro w23 hw; have BX := Aside0.mk (show w23.heap[gx]? = some (.cells #[.int .i64 p.1, .int .i64 p.2, .int .i64 q.1, .int .i64 q.2] 31 (0, 0)) from by rw [hw]; exact (blk_put (blk_put (blk_put (blk_put BQ.out 0 _ rfl) 1 _ rfl) 2 _ rfl) 3 _ rfl)); have HB23 := Aside0.mk (show Below wr.heap.size wr w23 from by rw [hw]; exact (below_set (below_set (below_set (below_set (by repeat (first | (with_reducible first | exact HB22.out | apply below_alloc | apply pw_below_drewN | apply below_drew1) | exact HB22.out)) (Nat.le_of_eq GX.out.symm)) (Nat.le_of_eq GX.out.symm)) (Nat.le_of_eq GX.out.symm)) (Nat.le_of_eq GX.out.symm))); have hx0 : w23.cell? ⟨gx, 0, none⟩ = some (.int .i64 p.1) := (blk_cell BX.out 0).trans rfl; have hx1 : w23.cell? ⟨gx, 1, none⟩ = some (.int .i64 p.2) := (blk_cell BX.out 1).trans rfl; have hx2 : w23.cell? ⟨gx, 2, none⟩ = some (.int .i64 q.1) := (blk_cell BX.out 2).trans rfl; have hx3 : w23.cell? ⟨gx, 3, none⟩ = some (.int .i64 q.2) := (blk_cell BX.out 3).trans rfl; have hn0 : w23.cell? ⟨gn, 0, none⟩ = some (.int .i64 now.1) := (blk_cell (blk_below BN.out HB23.out) 0).trans rfl; have hn1 : w23.cell? ⟨gn, 1, none⟩ = some (.int .i64 now.2) := (blk_cell (blk_below BN.out HB23.out) 1).trans rfl; clear hw)
                                                      | (at_lookup; refine wpList_lookup_own_ok_int _ rfl _ _ 29 rfl 28 3 .i64 chain_law chain_uM Try.underlying3 (by kernel_rfl) w.heap.size _ D rfl (map_below OM.out (by repeat (first | (with_reducible first | exact HB23.out | apply below_alloc | apply pw_below_drewN | apply below_drew1) | exact HB23.out))) (.agg #[.int .i64 q.1, .int .i64 q.2]) (kl2 q) rfl (key2 HQW.out) ?_; intro c_ hat_ hwc_; rw [(MI.out _ HQW.out).1, E0.out]; clear hat_ hwc_))
                                                    go_roundg k8
                                                    case measure => have := HK0.out; have := HK2.out; have := HK4.out; have := HK6.out; have := HK8.out; omega
                                                    case rel => exact ⟨F8, T8, (wrap64 (0 + 1)), by first | rfl | exact congrArg (Value.int .i64) (by unfold wrap64; omega) | (simp; done) | (simp [*]; done), H', ⟨by have := HK0.out; have := HK2.out; have := HK4.out; have := HK6.out; have := HK8.out; omega⟩, ⟨HI.out.step (by repeat (first | (with_reducible first | exact HB23.out | apply below_alloc | apply pw_below_drewN | apply below_drew1) | exact HB23.out))⟩, ⟨blk_below BN.out (by repeat (first | (with_reducible first | exact HB23.out | apply below_alloc | apply pw_below_drewN | apply below_drew1) | exact HB23.out))⟩, ⟨blk_below BP.out (by repeat (first | (with_reducible first | exact HB23.out | apply below_alloc | apply pw_below_drewN | apply below_drew1) | exact HB23.out))⟩⟩
                                                · subst ci
                                                  have HPW := HWq
                                                  have HQW := HWp
                                                  have hp0 : wr.cell? ⟨gp, 4, none⟩ = some (.int .i64 q.1) := (blk_cell BP.out 4).trans rfl
                                                  have hp1 : wr.cell? ⟨gp, 5, none⟩ = some (.int .i64 q.2) := (blk_cell BP.out 5).trans rfl
                                                  have hp2 : wr.cell? ⟨gp, 6, none⟩ = some (.int .i64 p.1) := (blk_cell BP.out 6).trans rfl
                                                  have hp3 : wr.cell? ⟨gp, 7, none⟩ = some (.int .i64 p.2) := (blk_cell BP.out 7).trans rfl
                                                  simp only [show ((1 : Int) = 0) = False from eq_false (by decide), if_true, if_false] at H
                                                  by_cases e1 : q.1 = now.1
                                                  · by_cases e2 : q.2 = now.2
                                                    · have e3 : q = now := Prod.ext e1 e2
                                                      have e1a := eq_true e1
                                                      have e1b : (q.1 == now.1) = true := beq_iff_eq.mpr e1
                                                      have e2a := eq_true e2
                                                      have e2b : (q.2 == now.2) = true := beq_iff_eq.mpr e2
                                                      cases e4 : fget F8 p with
                                                      | some d4 =>
                                                        rw [if_neg (fun z => by rw [e4] at z; cases z.2)] at H
                                                        have H' := Aside0.mk H
                                                        have E4 := Aside0.mk e4
                                                        clear H e1 e2 e3 e4
                                                        go_wp2_with (first
                                                          | ((with_reducible refine gate_dst (N := 16) rfl ?_); refine box_event ?hg (N := 16) ?hd (cs := #[.int .i64 0, .int .i64 0, .int .i64 0, .int .i64 0]) (t := 31) ?hr ?_; (case hd => rfl); (case hg => rfl); (case hr => first | (go_simp; done) | (go_simp; rfl)); intro gx hg w22 hbox hb; have BQ := Aside0.mk hbox; have HB22 := Aside0.mk hb; have GX := Aside0.mk hg; clear hbox hb hg)
                                                          | ((with_reducible refine gate_store (t := 31) (p := 16) rfl ?_); refine store_event (by rfl) (t := 31) (p := 16) (v := .tmp 115) (w1 := ((((w22.setCell ⟨gx, 0, none⟩ (.int .i64 q.1)).setCell ⟨gx, 1, none⟩ (.int .i64 q.2)).setCell ⟨gx, 2, none⟩ (.int .i64 p.1)).setCell ⟨gx, 3, none⟩ (.int .i64 p.2))) rfl rfl ?hr ?_; (case hr => have hb0 : w22.cell? ⟨gx, 0, none⟩ = some (.int .i64 0) := (blk_cell BQ.out 0).trans rfl; have hf0 := blk_frozen BQ.out 0; have hb1 : w22.cell? ⟨gx, 1, none⟩ = some (.int .i64 0) := (blk_cell BQ.out 1).trans rfl; have hf1 := blk_frozen BQ.out 1; have hb2 : w22.cell? ⟨gx, 2, none⟩ = some (.int .i64 0) := (blk_cell BQ.out 2).trans rfl; have hf2 := blk_frozen BQ.out 2; have hb3 : w22.cell? ⟨gx, 3, none⟩ = some (.int .i64 0) := (blk_cell BQ.out 3).trans rfl; have hf3 := blk_frozen BQ.out 3; first | (go_simp; done) | (go_simp; rfl)); intro w23 hw; have BX := Aside0.mk (show w23.heap[gx]? = some (.cells #[.int .i64 q.1, .int .i64 q.2, .int .i64 p.1, .int .i64 p.2] 31 (0, 0)) from by rw [hw]; exact (blk_put (blk_put (blk_put (blk_put BQ.out 0 _ rfl) 1 _ rfl) 2 _ rfl) 3 _ rfl)); have HB23 := Aside0.mk (show Below wr.heap.size wr w23 from by rw [hw]; exact (below_set (below_set (below_set (below_set (by repeat (first | (with_reducible first | exact HB22.out | apply below_alloc | apply pw_below_drewN | apply below_drew1) | exact HB22.out)) (Nat.le_of_eq GX.out.symm)) (Nat.le_of_eq GX.out.symm)) (Nat.le_of_eq GX.out.symm)) (Nat.le_of_eq GX.out.symm))); have hx0 : w23.cell? ⟨gx, 0, none⟩ = some (.int .i64 q.1) := (blk_cell BX.out 0).trans rfl; have hx1 : w23.cell? ⟨gx, 1, none⟩ = some (.int .i64 q.2) := (blk_cell BX.out 1).trans rfl; have hx2 : w23.cell? ⟨gx, 2, none⟩ = some (.int .i64 p.1) := (blk_cell BX.out 2).trans rfl; have hx3 : w23.cell? ⟨gx, 3, none⟩ = some (.int .i64 p.2) := (blk_cell BX.out 3).trans rfl; have hn0 : w23.cell? ⟨gn, 0, none⟩ = some (.int .i64 now.1) := (blk_cell (blk_below BN.out HB23.out) 0).trans rfl; have hn1 : w23.cell? ⟨gn, 1, none⟩ = some (.int .i64 now.2) := (blk_cell (blk_below BN.out HB23.out) 1).trans rfl; clear hw)
                                                          | (at_lookup; refine wpList_lookup_own_ok_int _ rfl _ _ 29 rfl 28 3 .i64 chain_law chain_uM Try.underlying3 (by kernel_rfl) w.heap.size _ D rfl (map_below OM.out (by repeat (first | (with_reducible first | exact HB23.out | apply below_alloc | apply pw_below_drewN | apply below_drew1) | exact HB23.out))) (.agg #[.int .i64 p.1, .int .i64 p.2]) (kl2 p) rfl (key2 HQW.out) ?_; intro c_ hat_ hwc_; rw [(MI.out _ HQW.out).1, E4.out, Option.isSome_some]; clear hat_ hwc_))
                                                        go_roundg k8
                                                        case measure => have := HK0.out; have := HK2.out; have := HK4.out; have := HK6.out; have := HK8.out; omega
                                                        case rel => exact ⟨F8, T8, (wrap64 (1 + 1)), by first | rfl | exact congrArg (Value.int .i64) (by unfold wrap64; omega) | (simp; done) | (simp [*]; done), H', ⟨by have := HK0.out; have := HK2.out; have := HK4.out; have := HK6.out; have := HK8.out; omega⟩, ⟨HI.out.step (by repeat (first | (with_reducible first | exact HB23.out | apply below_alloc | apply pw_below_drewN | apply below_drew1) | exact HB23.out))⟩, ⟨blk_below BN.out (by repeat (first | (with_reducible first | exact HB23.out | apply below_alloc | apply pw_below_drewN | apply below_drew1) | exact HB23.out))⟩, ⟨blk_below BP.out (by repeat (first | (with_reducible first | exact HB23.out | apply below_alloc | apply pw_below_drewN | apply below_drew1) | exact HB23.out))⟩⟩
                                                      | none =>
                                                        rw [if_pos ⟨e3, e4⟩] at H
                                                        have H' := Aside0.mk H
                                                        have E4 := Aside0.mk e4
                                                        clear H e1 e2 e3 e4
                                                        go_wp2_with (first
                                                          | ((with_reducible refine gate_dst (N := 16) rfl ?_); refine box_event ?hg (N := 16) ?hd (cs := #[.int .i64 0, .int .i64 0, .int .i64 0, .int .i64 0]) (t := 31) ?hr ?_; (case hd => rfl); (case hg => rfl); (case hr => first | (go_simp; done) | (go_simp; rfl)); intro gx hg w22 hbox hb; have BQ := Aside0.mk hbox; have HB22 := Aside0.mk hb; have GX := Aside0.mk hg; clear hbox hb hg)
                                                          | ((with_reducible refine gate_store (t := 31) (p := 16) rfl ?_); refine store_event (by rfl) (t := 31) (p := 16) (v := .tmp 115) (w1 := ((((w22.setCell ⟨gx, 0, none⟩ (.int .i64 q.1)).setCell ⟨gx, 1, none⟩ (.int .i64 q.2)).setCell ⟨gx, 2, none⟩ (.int .i64 p.1)).setCell ⟨gx, 3, none⟩ (.int .i64 p.2))) rfl rfl ?hr ?_; (case hr => have hb0 : w22.cell? ⟨gx, 0, none⟩ = some (.int .i64 0) := (blk_cell BQ.out 0).trans rfl; have hf0 := blk_frozen BQ.out 0; have hb1 : w22.cell? ⟨gx, 1, none⟩ = some (.int .i64 0) := (blk_cell BQ.out 1).trans rfl; have hf1 := blk_frozen BQ.out 1; have hb2 : w22.cell? ⟨gx, 2, none⟩ = some (.int .i64 0) := (blk_cell BQ.out 2).trans rfl; have hf2 := blk_frozen BQ.out 2; have hb3 : w22.cell? ⟨gx, 3, none⟩ = some (.int .i64 0) := (blk_cell BQ.out 3).trans rfl; have hf3 := blk_frozen BQ.out 3; first | (go_simp; done) | (go_simp; rfl)); intro w23 hw; have BX := Aside0.mk (show w23.heap[gx]? = some (.cells #[.int .i64 q.1, .int .i64 q.2, .int .i64 p.1, .int .i64 p.2] 31 (0, 0)) from by rw [hw]; exact (blk_put (blk_put (blk_put (blk_put BQ.out 0 _ rfl) 1 _ rfl) 2 _ rfl) 3 _ rfl)); have HB23 := Aside0.mk (show Below wr.heap.size wr w23 from by rw [hw]; exact (below_set (below_set (below_set (below_set (by repeat (first | (with_reducible first | exact HB22.out | apply below_alloc | apply pw_below_drewN | apply below_drew1) | exact HB22.out)) (Nat.le_of_eq GX.out.symm)) (Nat.le_of_eq GX.out.symm)) (Nat.le_of_eq GX.out.symm)) (Nat.le_of_eq GX.out.symm))); have hx0 : w23.cell? ⟨gx, 0, none⟩ = some (.int .i64 q.1) := (blk_cell BX.out 0).trans rfl; have hx1 : w23.cell? ⟨gx, 1, none⟩ = some (.int .i64 q.2) := (blk_cell BX.out 1).trans rfl; have hx2 : w23.cell? ⟨gx, 2, none⟩ = some (.int .i64 p.1) := (blk_cell BX.out 2).trans rfl; have hx3 : w23.cell? ⟨gx, 3, none⟩ = some (.int .i64 p.2) := (blk_cell BX.out 3).trans rfl; have hn0 : w23.cell? ⟨gn, 0, none⟩ = some (.int .i64 now.1) := (blk_cell (blk_below BN.out HB23.out) 0).trans rfl; have hn1 : w23.cell? ⟨gn, 1, none⟩ = some (.int .i64 now.2) := (blk_cell (blk_below BN.out HB23.out) 1).trans rfl; clear hw)
                                                          | (at_lookup; refine wpList_lookup_own_ok_int _ rfl _ _ 29 rfl 28 3 .i64 chain_law chain_uM Try.underlying3 (by kernel_rfl) w.heap.size _ D rfl (map_below OM.out (by repeat (first | (with_reducible first | exact HB23.out | apply below_alloc | apply pw_below_drewN | apply below_drew1) | exact HB23.out))) (.agg #[.int .i64 p.1, .int .i64 p.2]) (kl2 p) rfl (key2 HQW.out) ?_; intro c_ hat_ hwc_; rw [(MI.out _ HQW.out).1, E4.out, Option.isSome_none]; clear hat_ hwc_))
                                                        have OMd := Aside0.mk (map_below (w1 := w23.drew) OM.out (by repeat (first | (with_reducible first | exact HB23.out | apply below_alloc | apply pw_below_drewN | apply below_drew1) | exact HB23.out)))
                                                        obtain ⟨d_, hlk, hat_, _⟩ := OMd.out.lookup_int chain_law chain_uM Try.underlying3 (by kernel_rfl) (key2 HN.out)
                                                        rw [(MI.out _ HN.out).2] at hat_
                                                        injection hat_ with hat_
                                                        injection hat_ with _ hat_
                                                        subst hat_
                                                        go_still_tail 7, (by kernel_rfl)
                                                        change wpList _ _ _ _ _ w23.drew
                                                        go_wp2_with (first
                                                          | (at_mapUpdate; refine wpList_mapUpdate_own _ rfl _ _ _ 29 rfl 28 3 chain_law chain_uM _ w.heap.size F8.length D rfl (map_below OM.out (by repeat (first | (with_reducible first | exact HB23.out | apply below_alloc | apply pw_below_drewN | apply below_drew1) | exact HB23.out))) (by have := LEN.out; unfold maxLen; omega) (.agg #[.int .i64 p.1, .int .i64 p.2]) (.int .i64 (IntKind.i64.wrap ((fget F8 now).getD 0 + 1))) (kl2 p) rfl rfl (key2 HQW.out) (.lit (.int .i64 (wrap64 ((fget F8 now).getD 0 + 1)))) [] (by rw [chain_wrap]; exact plainElem_int Try.underlying3 (wrap64_wf ((fget F8 now).getD 0 + 1))) ?_; intro w25 hown25 hgrow25; have HO25 := Aside0.mk hown25; have HI25 := Aside0.mk (up_row HI.out (by repeat (first | (with_reducible first | exact HB23.out | apply below_alloc | apply pw_below_drewN | apply below_drew1) | exact HB23.out)) hgrow25); have SZ25 := Aside0.mk (Nat.le_trans (below_size (w := wr) (by repeat (first | (with_reducible first | exact HB23.out | apply below_alloc | apply pw_below_drewN | apply below_drew1) | exact HB23.out))) hgrow25.size); have BX25 := Aside0.mk (blk_grown (by (with_reducible repeat (first | refine blk_drewN ?_ _ | refine blk_drew ?_ | refine blk_alloc ?_ _)); exact BX.out) hgrow25 (by have h1 := GX.out; have h2 := HBM.out; have h3 := blk_lt BN.out; have h4 : wr.drew.heap.size = wr.heap.size := rfl; intro z; injection z with z; omega)); have BN25 := Aside0.mk (blk_grown (blk_below BN.out (by repeat (first | (with_reducible first | exact HB23.out | apply below_alloc | apply pw_below_drewN | apply below_drew1) | exact HB23.out))) hgrow25 (by have h2 := HBM.out; intro z; injection z with z; omega)); have BP25 := Aside0.mk (blk_grown (blk_below BP.out (by repeat (first | (with_reducible first | exact HB23.out | apply below_alloc | apply pw_below_drewN | apply below_drew1) | exact HB23.out))) hgrow25 (by have h2 := HGP.out; intro z; injection z with z; omega)); clear hown25 hgrow25; have hy0 : w25.cell? ⟨gx, 0, none⟩ = some (.int .i64 q.1) := (blk_cell BX25.out 0).trans rfl; have hy1 : w25.cell? ⟨gx, 1, none⟩ = some (.int .i64 q.2) := (blk_cell BX25.out 1).trans rfl; have hy2 : w25.cell? ⟨gx, 2, none⟩ = some (.int .i64 p.1) := (blk_cell BX25.out 2).trans rfl; have hy3 : w25.cell? ⟨gx, 3, none⟩ = some (.int .i64 p.2) := (blk_cell BX25.out 3).trans rfl)
                                                          | ((with_reducible refine gate_builtin (b := .append) (xs := #[.tmp 138, .tmp 141]) rfl ?_); at_builtin; refine Kd.Q_append k28 (w0 := w) w.heap.size rfl (.tmp 138) (.tmp 141) 30 28 (.agg #[.int .i64 0, .int .i64 0]) 16 rfl chain_u30 info28 rfl (by decide) (by decide) u8 T8 p [.int .i64 p.1, .int .i64 p.2] (fun k_ => k_ ≠ w.heap.size ∧ ¬ (k_ = gn ∨ k_ = gp)) (fun _ => False) rfl (by first | rfl | simp) (k28_mkM _ _ _ p) (fun _ hk => hk.elim) (fun k_ hk => by have h1 := SZ25.out; have h2 := blk_lt BN.out; have h3 := blk_lt BP.out; have h4 := HBM.out; have h5 := HGP.out; have h6 : w25.heap.size ≤ k_ := hk; exact ⟨by omega, fun z => by omega⟩) (by (with_reducible repeat (first | apply Kd.Q_alloc | apply Kd.Q_drewN | apply Kd.Q_drew)); exact HI25.out.1) (by repeat (first | (with_reducible first | exact HI25.out.2 | apply below_alloc | apply pw_below_drewN | apply below_drew1) | exact HI25.out.2)) (below_size (by repeat (first | (with_reducible first | exact HI25.out.2 | apply below_alloc | apply pw_below_drewN | apply below_drew1) | exact HI25.out.2))) (by have := LEN.out; omega) ?_; intro v30 w30 ho hb hg hat; have HI30 := Aside0.mk (show CInv w ((p, wrap64 ((fget F8 now).getD 0 + 1)) :: F8) (T8 ++ [p]) v30 (fun k_ => k_ = gn ∨ k_ = gp) w30 from ⟨⟨_, MI.out.put OM.out.isMap HQW.out, map_grown (map_below HO25.out (by repeat (first | (with_reducible first | exact Below.refl _ _ | apply below_alloc | apply pw_below_drewN | apply below_drew1) | exact Below.refl _ _))) hg (fun e => (HI.out.row.1 _ e.symm).1 rfl)⟩, ho, fun x hx => (List.mem_append.mp hx).elim (HI.out.wfT x) (fun h => by rw [List.mem_singleton.mp h]; exact HQW.out), hb⟩); have BN30 := Aside0.mk (blk_grown (by (with_reducible repeat (first | refine blk_drewN ?_ _ | refine blk_drew ?_ | refine blk_alloc ?_ _)); exact BN25.out) hg (fun e => (HI.out.row.1 _ e.symm).2 (.inl rfl))); have BP30 := Aside0.mk (blk_grown (by (with_reducible repeat (first | refine blk_drewN ?_ _ | refine blk_drew ?_ | refine blk_alloc ?_ _)); exact BP25.out) hg (fun e => (HI.out.row.1 _ e.symm).2 (.inr rfl))); clear ho hb hg hat))
                                                        go_roundg k8
                                                        case measure => have := HK0.out; have := HK2.out; have := HK4.out; have := HK6.out; have := HK8.out; omega
                                                        case rel => exact ⟨_, _, (wrap64 (1 + 1)), by first | rfl | exact congrArg (Value.int .i64) (by unfold wrap64; omega) | (simp; done) | (simp [*]; done), H', ⟨by have := HK0.out; have := HK2.out; have := HK4.out; have := HK6.out; have := HK8.out; omega⟩, ⟨HI30.out.step (by repeat (first | (with_reducible first | exact Below.refl _ _ | apply below_alloc | apply pw_below_drewN | apply below_drew1) | exact Below.refl _ _))⟩, ⟨blk_below BN30.out (by repeat (first | (with_reducible first | exact Below.refl _ _ | apply below_alloc | apply pw_below_drewN | apply below_drew1) | exact Below.refl _ _))⟩, ⟨blk_below BP30.out (by repeat (first | (with_reducible first | exact Below.refl _ _ | apply below_alloc | apply pw_below_drewN | apply below_drew1) | exact Below.refl _ _))⟩⟩
                                                    · obtain ⟨bb, hbb⟩ : ∃ bb, bb = (fget F8 p).isSome := ⟨_, rfl⟩
                                                      have E0 := Aside0.mk hbb.symm
                                                      clear hbb
                                                      rw [if_neg (fun z => e2 (congrArg Prod.snd z.1))] at H
                                                      have e1a := eq_true e1
                                                      have e1b : (q.1 == now.1) = true := beq_iff_eq.mpr e1
                                                      have e2a := eq_false e2
                                                      have e2b : (q.2 == now.2) = false := beq_eq_false_iff_ne.mpr e2
                                                      have H' := Aside0.mk H
                                                      clear H e1 e2
                                                      go_wp2_with (first
                                                        | ((with_reducible refine gate_dst (N := 16) rfl ?_); refine box_event ?hg (N := 16) ?hd (cs := #[.int .i64 0, .int .i64 0, .int .i64 0, .int .i64 0]) (t := 31) ?hr ?_; (case hd => rfl); (case hg => rfl); (case hr => first | (go_simp; done) | (go_simp; rfl)); intro gx hg w22 hbox hb; have BQ := Aside0.mk hbox; have HB22 := Aside0.mk hb; have GX := Aside0.mk hg; clear hbox hb hg)
                                                        | ((with_reducible refine gate_store (t := 31) (p := 16) rfl ?_); refine store_event (by rfl) (t := 31) (p := 16) (v := .tmp 115) (w1 := ((((w22.setCell ⟨gx, 0, none⟩ (.int .i64 q.1)).setCell ⟨gx, 1, none⟩ (.int .i64 q.2)).setCell ⟨gx, 2, none⟩ (.int .i64 p.1)).setCell ⟨gx, 3, none⟩ (.int .i64 p.2))) rfl rfl ?hr ?_; (case hr => have hb0 : w22.cell? ⟨gx, 0, none⟩ = some (.int .i64 0) := (blk_cell BQ.out 0).trans rfl; have hf0 := blk_frozen BQ.out 0; have hb1 : w22.cell? ⟨gx, 1, none⟩ = some (.int .i64 0) := (blk_cell BQ.out 1).trans rfl; have hf1 := blk_frozen BQ.out 1; have hb2 : w22.cell? ⟨gx, 2, none⟩ = some (.int .i64 0) := (blk_cell BQ.out 2).trans rfl; have hf2 := blk_frozen BQ.out 2; have hb3 : w22.cell? ⟨gx, 3, none⟩ = some (.int .i64 0) := (blk_cell BQ.out 3).trans rfl; have hf3 := blk_frozen BQ.out 3; first | (go_simp; done) | (go_simp; rfl)); intro w23 hw; have BX := Aside0.mk (show w23.heap[gx]? = some (.cells #[.int .i64 q.1, .int .i64 q.2, .int .i64 p.1, .int .i64 p.2] 31 (0, 0)) from by rw [hw]; exact (blk_put (blk_put (blk_put (blk_put BQ.out 0 _ rfl) 1 _ rfl) 2 _ rfl) 3 _ rfl)); have HB23 := Aside0.mk (show Below wr.heap.size wr w23 from by rw [hw]; exact (below_set (below_set (below_set (below_set (by repeat (first | (with_reducible first | exact HB22.out | apply below_alloc | apply pw_below_drewN | apply below_drew1) | exact HB22.out)) (Nat.le_of_eq GX.out.symm)) (Nat.le_of_eq GX.out.symm)) (Nat.le_of_eq GX.out.symm)) (Nat.le_of_eq GX.out.symm))); have hx0 : w23.cell? ⟨gx, 0, none⟩ = some (.int .i64 q.1) := (blk_cell BX.out 0).trans rfl; have hx1 : w23.cell? ⟨gx, 1, none⟩ = some (.int .i64 q.2) := (blk_cell BX.out 1).trans rfl; have hx2 : w23.cell? ⟨gx, 2, none⟩ = some (.int .i64 p.1) := (blk_cell BX.out 2).trans rfl; have hx3 : w23.cell? ⟨gx, 3, none⟩ = some (.int .i64 p.2) := (blk_cell BX.out 3).trans rfl; have hn0 : w23.cell? ⟨gn, 0, none⟩ = some (.int .i64 now.1) := (blk_cell (blk_below BN.out HB23.out) 0).trans rfl; have hn1 : w23.cell? ⟨gn, 1, none⟩ = some (.int .i64 now.2) := (blk_cell (blk_below BN.out HB23.out) 1).trans rfl; clear hw)
                                                        | (at_lookup; refine wpList_lookup_own_ok_int _ rfl _ _ 29 rfl 28 3 .i64 chain_law chain_uM Try.underlying3 (by kernel_rfl) w.heap.size _ D rfl (map_below OM.out (by repeat (first | (with_reducible first | exact HB23.out | apply below_alloc | apply pw_below_drewN | apply below_drew1) | exact HB23.out))) (.agg #[.int .i64 p.1, .int .i64 p.2]) (kl2 p) rfl (key2 HQW.out) ?_; intro c_ hat_ hwc_; rw [(MI.out _ HQW.out).1, E0.out]; clear hat_ hwc_))
                                                      go_roundg k8
                                                      case measure => have := HK0.out; have := HK2.out; have := HK4.out; have := HK6.out; have := HK8.out; omega
                                                      case rel => exact ⟨F8, T8, (wrap64 (1 + 1)), by first | rfl | exact congrArg (Value.int .i64) (by unfold wrap64; omega) | (simp; done) | (simp [*]; done), H', ⟨by have := HK0.out; have := HK2.out; have := HK4.out; have := HK6.out; have := HK8.out; omega⟩, ⟨HI.out.step (by repeat (first | (with_reducible first | exact HB23.out | apply below_alloc | apply pw_below_drewN | apply below_drew1) | exact HB23.out))⟩, ⟨blk_below BN.out (by repeat (first | (with_reducible first | exact HB23.out | apply below_alloc | apply pw_below_drewN | apply below_drew1) | exact HB23.out))⟩, ⟨blk_below BP.out (by repeat (first | (with_reducible first | exact HB23.out | apply below_alloc | apply pw_below_drewN | apply below_drew1) | exact HB23.out))⟩⟩
                                                  · obtain ⟨bb, hbb⟩ : ∃ bb, bb = (fget F8 p).isSome := ⟨_, rfl⟩
                                                    have E0 := Aside0.mk hbb.symm
                                                    clear hbb
                                                    rw [if_neg (fun z => e1 (congrArg Prod.fst z.1))] at H
                                                    have e1a := eq_false e1
                                                    have e1b : (q.1 == now.1) = false := beq_eq_false_iff_ne.mpr e1
                                                    have H' := Aside0.mk H
                                                    clear H e1
                                                    go_wp2_with (first
                                                      | ((with_reducible refine gate_dst (N := 16) rfl ?_); refine box_event ?hg (N := 16) ?hd (cs := #[.int .i64 0, .int .i64 0, .int .i64 0, .int .i64 0]) (t := 31) ?hr ?_; (case hd => rfl); (case hg => rfl); (case hr => first | (go_simp; done) | (go_simp; rfl)); intro gx hg w22 hbox hb; have BQ := Aside0.mk hbox; have HB22 := Aside0.mk hb; have GX := Aside0.mk hg; clear hbox hb hg)
                                                      | ((with_reducible refine gate_store (t := 31) (p := 16) rfl ?_); refine store_event (by rfl) (t := 31) (p := 16) (v := .tmp 115) (w1 := ((((w22.setCell ⟨gx, 0, none⟩ (.int .i64 q.1)).setCell ⟨gx, 1, none⟩ (.int .i64 q.2)).setCell ⟨gx, 2, none⟩ (.int .i64 p.1)).setCell ⟨gx, 3, none⟩ (.int .i64 p.2))) rfl rfl ?hr ?_; (case hr => have hb0 : w22.cell? ⟨gx, 0, none⟩ = some (.int .i64 0) := (blk_cell BQ.out 0).trans rfl; have hf0 := blk_frozen BQ.out 0; have hb1 : w22.cell? ⟨gx, 1, none⟩ = some (.int .i64 0) := (blk_cell BQ.out 1).trans rfl; have hf1 := blk_frozen BQ.out 1; have hb2 : w22.cell? ⟨gx, 2, none⟩ = some (.int .i64 0) := (blk_cell BQ.out 2).trans rfl; have hf2 := blk_frozen BQ.out 2; have hb3 : w22.cell? ⟨gx, 3, none⟩ = some (.int .i64 0) := (blk_cell BQ.out 3).trans rfl; have hf3 := blk_frozen BQ.out 3; first | (go_simp; done) | (go_simp; rfl)); intro w23 hw; have BX := Aside0.mk (show w23.heap[gx]? = some (.cells #[.int .i64 q.1, .int .i64 q.2, .int .i64 p.1, .int .i64 p.2] 31 (0, 0)) from by rw [hw]; exact (blk_put (blk_put (blk_put (blk_put BQ.out 0 _ rfl) 1 _ rfl) 2 _ rfl) 3 _ rfl)); have HB23 := Aside0.mk (show Below wr.heap.size wr w23 from by rw [hw]; exact (below_set (below_set (below_set (below_set (by repeat (first | (with_reducible first | exact HB22.out | apply below_alloc | apply pw_below_drewN | apply below_drew1) | exact HB22.out)) (Nat.le_of_eq GX.out.symm)) (Nat.le_of_eq GX.out.symm)) (Nat.le_of_eq GX.out.symm)) (Nat.le_of_eq GX.out.symm))); have hx0 : w23.cell? ⟨gx, 0, none⟩ = some (.int .i64 q.1) := (blk_cell BX.out 0).trans rfl; have hx1 : w23.cell? ⟨gx, 1, none⟩ = some (.int .i64 q.2) := (blk_cell BX.out 1).trans rfl; have hx2 : w23.cell? ⟨gx, 2, none⟩ = some (.int .i64 p.1) := (blk_cell BX.out 2).trans rfl; have hx3 : w23.cell? ⟨gx, 3, none⟩ = some (.int .i64 p.2) := (blk_cell BX.out 3).trans rfl; have hn0 : w23.cell? ⟨gn, 0, none⟩ = some (.int .i64 now.1) := (blk_cell (blk_below BN.out HB23.out) 0).trans rfl; have hn1 : w23.cell? ⟨gn, 1, none⟩ = some (.int .i64 now.2) := (blk_cell (blk_below BN.out HB23.out) 1).trans rfl; clear hw)
                                                      | (at_lookup; refine wpList_lookup_own_ok_int _ rfl _ _ 29 rfl 28 3 .i64 chain_law chain_uM Try.underlying3 (by kernel_rfl) w.heap.size _ D rfl (map_below OM.out (by repeat (first | (with_reducible first | exact HB23.out | apply below_alloc | apply pw_below_drewN | apply below_drew1) | exact HB23.out))) (.agg #[.int .i64 p.1, .int .i64 p.2]) (kl2 p) rfl (key2 HQW.out) ?_; intro c_ hat_ hwc_; rw [(MI.out _ HQW.out).1, E0.out]; clear hat_ hwc_))
                                                    go_roundg k8
                                                    case measure => have := HK0.out; have := HK2.out; have := HK4.out; have := HK6.out; have := HK8.out; omega
                                                    case rel => exact ⟨F8, T8, (wrap64 (1 + 1)), by first | rfl | exact congrArg (Value.int .i64) (by unfold wrap64; omega) | (simp; done) | (simp [*]; done), H', ⟨by have := HK0.out; have := HK2.out; have := HK4.out; have := HK6.out; have := HK8.out; omega⟩, ⟨HI.out.step (by repeat (first | (with_reducible first | exact HB23.out | apply below_alloc | apply pw_below_drewN | apply below_drew1) | exact HB23.out))⟩, ⟨blk_below BN.out (by repeat (first | (with_reducible first | exact HB23.out | apply below_alloc | apply pw_below_drewN | apply below_drew1) | exact HB23.out))⟩, ⟨blk_below BP.out (by repeat (first | (with_reducible first | exact HB23.out | apply below_alloc | apply pw_below_drewN | apply below_drew1) | exact HB23.out))⟩⟩
                                              · rw [if_neg c9] at H
                                                exact absurd H (by simp)
                                            · rw [if_neg c8] at H
                                              have c8b := decide_eq_false c8
                                              have c8c := eq_false c8
                                              have H' := Aside0.mk H
                                              clear H c8
                                              go_wp2
                                              go_roundg k8
                                              case measure => have := HK0.out; have := HK2.out; have := HK4.out; have := HK6.out; have := HK8.out; omega
                                              case rel => exact ⟨F8, T8, wrap64 (b + 1), by first | rfl | (simp; done) | (simp [*]; done), H', ⟨by have := HK0.out; have := HK2.out; have := HK4.out; have := HK6.out; have := HK8.out; omega⟩, ⟨(HI.out.mono (fun k_ e => .inl (.inl e))).step (by repeat (first | (with_reducible first | exact Below.refl _ _ | apply below_alloc | apply pw_below_drewN | apply below_drew1) | exact Below.refl _ _))⟩, ⟨blk_below BN.out (by repeat (first | (with_reducible first | exact Below.refl _ _ | apply below_alloc | apply pw_below_drewN | apply below_drew1) | exact Below.refl _ _))⟩⟩
                                      | false =>
                                        rw [if_neg (by decide)] at H
                                        have H' := Aside0.mk H
                                        clear H
                                        go_wp2_with (first | ((with_reducible refine gate_callee (f := 9) rfl ?_); refine goesL_ (some 86) rfl rfl Try.func9 (by kernel_rfl) rfl #[.int .i64 n, .int .i64 a, .int .i64 b] rfl (by (try simp only [List.map_toArray, List.map_cons, List.map_nil]); first | done | rfl | (simp only [List.length_drop, List.length_take]; rfl)) ?_; (with_reducible refine (impl_StepsOk.calls n a b false _ A9.out).mono ?_); rintro e w18 ⟨rfl, hb⟩; refine ⟨_, rfl, ?_⟩; have HBs := Aside0.mk hb; clear hb))
                                        go_roundg k6
                                        case measure => have := HK0.out; have := HK2.out; have := HK4.out; have := HK6.out; omega
                                        case rel => exact ⟨F6, T6, wrap64 (b + 1), by first | rfl | (simp; done) | (simp [*]; done), H', ⟨by have := HK0.out; have := HK2.out; have := HK4.out; have := HK6.out; omega⟩, ⟨HI.out.step (by repeat (first | (with_reducible first | exact HBs.out | apply below_alloc | apply pw_below_drewN | apply below_drew1) | exact HBs.out))⟩, ⟨blk_below BN.out (by repeat (first | (with_reducible first | exact HBs.out | apply below_alloc | apply pw_below_drewN | apply below_drew1) | exact HBs.out))⟩⟩
                                    · rw [if_neg c6] at H
                                      have c6b := decide_eq_false c6
                                      have c6c := eq_false c6
                                      have H' := Aside0.mk H
                                      clear H c6
                                      go_wp2
                                      go_roundg k6
                                      case measure => have := HK0.out; have := HK2.out; have := HK4.out; have := HK6.out; omega
                                      case rel => exact ⟨F6, T6, wrap64 (a + 1), by first | rfl | (simp; done) | (simp [*]; done), H', ⟨by have := HK0.out; have := HK2.out; have := HK4.out; have := HK6.out; omega⟩, ⟨HI.out.step (by repeat (first | (with_reducible first | exact Below.refl _ _ | apply below_alloc | apply pw_below_drewN | apply below_drew1) | exact Below.refl _ _))⟩, ⟨blk_below BN.out (by repeat (first | (with_reducible first | exact Below.refl _ _ | apply below_alloc | apply pw_below_drewN | apply below_drew1) | exact Below.refl _ _))⟩⟩
                              · rw [if_neg c4] at H
                                have c4b := decide_eq_false c4
                                have c4c := eq_false c4
                                have H' := Aside0.mk H
                                clear H c4
                                go_wp2
                                go_roundg k4
                                case measure => have := HK0.out; have := HK2.out; have := HK4.out; omega
                                case rel => exact ⟨F4, T4, wrap64 (n + 1), by first | rfl | (simp; done) | (simp [*]; done), H', ⟨by have := HK0.out; have := HK2.out; have := HK4.out; omega⟩, ⟨HI.out.step (by repeat (first | (with_reducible first | exact Below.refl _ _ | apply below_alloc | apply pw_below_drewN | apply below_drew1) | exact Below.refl _ _))⟩, ⟨blk_below BN.out (by repeat (first | (with_reducible first | exact Below.refl _ _ | apply below_alloc | apply pw_below_drewN | apply below_drew1) | exact Below.refl _ _))⟩⟩
                        · rw [if_neg c2] at H
                          have c2b := decide_eq_false c2
                          have c2c := eq_false c2
                          have H' := Aside0.mk H
                          clear H c2
                          go_wp2
                          go_roundg k2
                          case measure => have := HK0.out; have := HK2.out; omega
                          case rel => exact ⟨F2, T2, H', ⟨by have := HK0.out; have := HK2.out; omega⟩, ⟨(HI.out.mono (fun k_ g => g.elim)).step (by repeat (first | (with_reducible first | exact Below.refl _ _ | apply below_alloc | apply pw_below_drewN | apply below_drew1) | exact Below.refl _ _))⟩⟩
              · rw [if_neg c1] at H
                obtain rfl := Option.some.inj H
                have c1b0 : decide (0 < (T.length : Int)) = false := decide_eq_false (by omega)
                have c1b1 : decide (0 < T.length) = false := decide_eq_false c1
                have c1b2 : (0 < T.length) = False := eq_false c1
                go_wp2
                go_ret
                exact ⟨rfl, by repeat (first | (with_reducible first | exact HI.out.below | apply below_alloc | apply pw_below_drewN | apply below_drew1) | exact HI.out.below)⟩
        · rw [if_neg (fun z => d3 z.2.2.2)] at h
          obtain rfl := Option.some.inj h
          have t1 := eq_false d3
          have t2 : (wrap64 (a0 * a1) != wrap64 (a2 * a2)) = true := by rw [bne_iff_ne]; exact d3
          clear d0 d1 d2 d3 h
          go_enter Try.func5, Try.ntmps5
          go_wp2_with (first
            | ((with_reducible refine gate_callee (f := 8) rfl ?_); refine goesL_ (some 20) rfl rfl Try.func8 (by kernel_rfl) rfl #[.int .i64 a0, .int .i64 1, .int .i64 40] rfl (by (try simp only [List.map_toArray, List.map_cons, List.map_nil]); first | done | rfl | (simp only [List.length_drop, List.length_take]; rfl)) ?_; (with_reducible refine (impl_within.calls a0 1 40 true _ A0.out).mono ?_); rintro e w' ⟨rfl, ⟨nd, rfl⟩⟩; refine ⟨_, rfl, ?_⟩)
            | (go_at_call 8; (with_reducible refine (impl_within.calls a1 1 40 true _ A1.out).mono ?_); rintro e w' ⟨rfl, ⟨nd, rfl⟩⟩)
            | (go_at_call 8; (with_reducible refine (impl_within.calls a2 1 40 true _ A2.out).mono ?_); rintro e w' ⟨rfl, ⟨nd, rfl⟩⟩))
          go_ret
          exact ⟨rfl, by repeat (first | (with_reducible first | exact HB.out | apply below_alloc | apply pw_below_drewN | apply below_drew1) | exact HB.out)⟩
      · rw [if_neg (fun z => d2 z.2.2.1)] at h
        obtain rfl := Option.some.inj h
        have A2 := Aside0.mk ((within_val a2).trans (congrArg some (decide_eq_false d2)))
        clear d0 d1 d2 h
        go_enter Try.func5, Try.ntmps5
        go_wp2_with (first
          | ((with_reducible refine gate_callee (f := 8) rfl ?_); refine goesL_ (some 20) rfl rfl Try.func8 (by kernel_rfl) rfl #[.int .i64 a0, .int .i64 1, .int .i64 40] rfl (by (try simp only [List.map_toArray, List.map_cons, List.map_nil]); first | done | rfl | (simp only [List.length_drop, List.length_take]; rfl)) ?_; (with_reducible refine (impl_within.calls a0 1 40 true _ A0.out).mono ?_); rintro e w' ⟨rfl, ⟨nd, rfl⟩⟩; refine ⟨_, rfl, ?_⟩)
          | (go_at_call 8; (with_reducible refine (impl_within.calls a1 1 40 true _ A1.out).mono ?_); rintro e w' ⟨rfl, ⟨nd, rfl⟩⟩)
          | (go_at_call 8; (with_reducible refine (impl_within.calls a2 1 40 false _ A2.out).mono ?_); rintro e w' ⟨rfl, ⟨nd, rfl⟩⟩))
        go_ret
        exact ⟨rfl, by repeat (first | (with_reducible first | exact HB.out | apply below_alloc | apply pw_below_drewN | apply below_drew1) | exact HB.out)⟩
    · rw [if_neg (fun z => d1 z.2.1)] at h
      obtain rfl := Option.some.inj h
      have A1 := Aside0.mk ((within_val a1).trans (congrArg some (decide_eq_false d1)))
      clear d0 d1 h
      go_enter Try.func5, Try.ntmps5
      go_wp2_with (first
        | ((with_reducible refine gate_callee (f := 8) rfl ?_); refine goesL_ (some 20) rfl rfl Try.func8 (by kernel_rfl) rfl #[.int .i64 a0, .int .i64 1, .int .i64 40] rfl (by (try simp only [List.map_toArray, List.map_cons, List.map_nil]); first | done | rfl | (simp only [List.length_drop, List.length_take]; rfl)) ?_; (with_reducible refine (impl_within.calls a0 1 40 true _ A0.out).mono ?_); rintro e w' ⟨rfl, ⟨nd, rfl⟩⟩; refine ⟨_, rfl, ?_⟩)
        | (go_at_call 8; (with_reducible refine (impl_within.calls a1 1 40 false _ A1.out).mono ?_); rintro e w' ⟨rfl, ⟨nd, rfl⟩⟩))
      go_ret
      exact ⟨rfl, by repeat (first | (with_reducible first | exact HB.out | apply below_alloc | apply pw_below_drewN | apply below_drew1) | exact HB.out)⟩
  · rw [if_neg (fun z => d0 z.1)] at h
    obtain rfl := Option.some.inj h
    have A0 := Aside0.mk ((within_val a0).trans (congrArg some (decide_eq_false d0)))
    clear d0 h
    go_enter Try.func5, Try.ntmps5
    go_wp2_with (first
      | ((with_reducible refine gate_callee (f := 8) rfl ?_); refine goesL_ (some 20) rfl rfl Try.func8 (by kernel_rfl) rfl #[.int .i64 a0, .int .i64 1, .int .i64 40] rfl (by (try simp only [List.map_toArray, List.map_cons, List.map_nil]); first | done | rfl | (simp only [List.length_drop, List.length_take]; rfl)) ?_; (with_reducible refine (impl_within.calls a0 1 40 false _ A0.out).mono ?_); rintro e w' ⟨rfl, ⟨nd, rfl⟩⟩; refine ⟨_, rfl, ?_⟩))
    go_ret
    exact ⟨rfl, by repeat (first | (with_reducible first | exact HB.out | apply below_alloc | apply pw_below_drewN | apply below_drew1) | exact HB.out)⟩

/-! ### laws_FnExactChainOfSteps: function 3 -/
def laws_FnExactChainOfSteps.f (k : Nat) (a0 : Int) (a1 : Int) (a2 : Int) : Option (Bool) := (spec_ChainOfSteps.f k a0 a1 a2).bind fun t143 => ((impl_ChainOfSteps.f k a0 a1 a2).bind fun t144 => (if t144 = t143 then (some true) else (some false)))
theorem laws_FnExactChainOfSteps.mono : ∀ a0 a1 a2 k, LeO (laws_FnExactChainOfSteps.f k a0 a1 a2) (laws_FnExactChainOfSteps.f (k + 1) a0 a1 a2) := by
  intro a0 a1 a2 k
  unfold laws_FnExactChainOfSteps.f
  repeat' first
      | (with_reducible exact impl_ChainOfSteps.mono _ _ _ _)
      | (with_reducible exact spec_ChainOfSteps.mono _ _ _ _)
      | (with_reducible exact LeO.refl _)
      | (with_reducible exact LeO.none _)
      | (with_reducible refine LeO.ite ?_ ?_)
      | (with_reducible refine LeO.bind ?_ (fun _ => ?_))
      | exact impl_ChainOfSteps.mono _ _ _ _
      | exact spec_ChainOfSteps.mono _ _ _ _
      | exact LeO.none _
      | refine LeO.ite ?_ ?_
      | refine LeO.bind ?_ (fun _ => ?_)
set_option maxHeartbeats 8000000 in
set_option maxRecDepth 100000 in
theorem laws_FnExactChainOfSteps.calls (k : Nat) (a0 : Int) (a1 : Int) (a2 : Int) (r : Bool) (w : World) (h : laws_FnExactChainOfSteps.f k a0 a1 a2 = some r) :
    Calls Try.prog 3 #[.int .i64 a0, .int .i64 a1, .int .i64 a2] w fun e w' => e = .returned (.bool r) ∧ Below w.heap.size w w' := by
  have HB := Aside0.mk (Below.refl w.heap.size w)
  have H : ((spec_ChainOfSteps.f k a0 a1 a2).bind fun t143 => ((impl_ChainOfSteps.f k a0 a1 a2).bind fun t144 => (if t144 = t143 then (some true) else (some false)))) = some r := h
  clear h
  replace H := Option.bind_eq_some_iff.mp H
  obtain ⟨t143, A40, H⟩ := H
  replace H : ((impl_ChainOfSteps.f k a0 a1 a2).bind fun t144 => (if t144 = t143 then (some true) else (some false))) = some r := H
  have A4 := Aside0.mk A40
  clear A40
  replace H := Option.bind_eq_some_iff.mp H
  obtain ⟨t144, A50, H⟩ := H
  replace H : (if t144 = t143 then (some true) else (some false)) = some r := H
  have A5 := Aside0.mk A50
  clear A50
  by_cases c6 : t144 = t143
  · rw [if_pos c6] at H
    have c6b0 : (t144 == t143) = true := beq_iff_eq.mpr c6
    have c6b1 : (t144 != t143) = false := bne_eq_false_iff_eq.mpr c6
    clear c6
    obtain rfl := Option.some.inj H
    go_enter Try.func3, Try.ntmps3
    go_wp2_with (first | ((with_reducible refine gate_callee (f := 4) rfl ?_); refine goesL_ (some 12) rfl rfl Try.func4 (by kernel_rfl) rfl #[.int .i64 a0, .int .i64 a1, .int .i64 a2] rfl (by (try simp only [List.map_toArray, List.map_cons, List.map_nil]); first | done | rfl | (simp only [List.length_drop, List.length_take]; rfl)) ?_; (with_reducible refine (spec_ChainOfSteps.calls k a0 a1 a2 t143 _ A4.out).mono ?_); rintro e w7 ⟨rfl, hb⟩; refine ⟨_, rfl, ?_⟩; have n0_ := Aside0.mk (below_step (by repeat (first | (with_reducible first | exact HB.out | apply below_alloc | apply pw_below_drewN | apply below_drew1) | exact HB.out)) hb); clear HB; have HB := n0_; clear n0_; (try clear hb); (try clear hb2); (try clear hk); (try clear hi)) | ((with_reducible refine gate_callee (f := 5) rfl ?_); refine goesL_ (some 16) rfl rfl Try.func5 (by kernel_rfl) rfl #[.int .i64 a0, .int .i64 a1, .int .i64 a2] rfl (by (try simp only [List.map_toArray, List.map_cons, List.map_nil]); first | done | rfl | (simp only [List.length_drop, List.length_take]; rfl)) ?_; (with_reducible refine (impl_ChainOfSteps.calls k a0 a1 a2 t144 _ A5.out).mono ?_); rintro e w8 ⟨rfl, hb⟩; refine ⟨_, rfl, ?_⟩; have n0_ := Aside0.mk (below_step (by repeat (first | (with_reducible first | exact HB.out | apply below_alloc | apply pw_below_drewN | apply below_drew1) | exact HB.out)) hb); clear HB; have HB := n0_; clear n0_; (try clear hb); (try clear hb2); (try clear hk); (try clear hi)))
    go_ret
    exact ⟨by first | rfl | (simp [errW_none, errW_some] <;> rfl) | (simp [*, errW_none, errW_some] <;> rfl), by repeat (first | (with_reducible first | exact HB.out | apply below_alloc | apply pw_below_drewN | apply below_drew1) | exact HB.out)⟩
  · rw [if_neg c6] at H
    have c6b0 : (t144 == t143) = false := beq_eq_false_iff_ne.mpr c6
    have c6b1 : (t144 != t143) = true := bne_iff_ne.mpr c6
    obtain rfl := Option.some.inj H
    go_enter Try.func3, Try.ntmps3
    go_wp2_with (first | ((with_reducible refine gate_callee (f := 4) rfl ?_); refine goesL_ (some 12) rfl rfl Try.func4 (by kernel_rfl) rfl #[.int .i64 a0, .int .i64 a1, .int .i64 a2] rfl (by (try simp only [List.map_toArray, List.map_cons, List.map_nil]); first | done | rfl | (simp only [List.length_drop, List.length_take]; rfl)) ?_; (with_reducible refine (spec_ChainOfSteps.calls k a0 a1 a2 t143 _ A4.out).mono ?_); rintro e w9 ⟨rfl, hb⟩; refine ⟨_, rfl, ?_⟩; have n0_ := Aside0.mk (below_step (by repeat (first | (with_reducible first | exact HB.out | apply below_alloc | apply pw_below_drewN | apply below_drew1) | exact HB.out)) hb); clear HB; have HB := n0_; clear n0_; (try clear hb); (try clear hb2); (try clear hk); (try clear hi)) | ((with_reducible refine gate_callee (f := 5) rfl ?_); refine goesL_ (some 16) rfl rfl Try.func5 (by kernel_rfl) rfl #[.int .i64 a0, .int .i64 a1, .int .i64 a2] rfl (by (try simp only [List.map_toArray, List.map_cons, List.map_nil]); first | done | rfl | (simp only [List.length_drop, List.length_take]; rfl)) ?_; (with_reducible refine (impl_ChainOfSteps.calls k a0 a1 a2 t144 _ A5.out).mono ?_); rintro e w10 ⟨rfl, hb⟩; refine ⟨_, rfl, ?_⟩; have n0_ := Aside0.mk (below_step (by repeat (first | (with_reducible first | exact HB.out | apply below_alloc | apply pw_below_drewN | apply below_drew1) | exact HB.out)) hb); clear HB; have HB := n0_; clear n0_; (try clear hb); (try clear hb2); (try clear hk); (try clear hi)))
    go_ret
    exact ⟨by first | rfl | (simp [errW_none, errW_some] <;> rfl) | (simp [*, errW_none, errW_some] <;> rfl), by repeat (first | (with_reducible first | exact HB.out | apply below_alloc | apply pw_below_drewN | apply below_drew1) | exact HB.out)⟩

/-- THE ONE PURE STATEMENT of laws_FnExactChainOfSteps: yours. -/
def laws_FnExactChainOfSteps.Pure : Prop := ∀ (a0 : Int) (a1 : Int) (a2 : Int), (Lit.int .i64 a0).wf = true → (Lit.int .i64 a1).wf = true → (Lit.int .i64 a2).wf = true → ∃ k, laws_FnExactChainOfSteps.f k a0 a1 a2 = some true
theorem laws_FnExactChainOfSteps.walk (P : laws_FnExactChainOfSteps.Pure) (a0 : Int) (a1 : Int) (a2 : Int) (w : World) (w0 : (Lit.int .i64 a0).wf = true) (w1 : (Lit.int .i64 a1).wf = true) (w2 : (Lit.int .i64 a2).wf = true) :
    Calls Try.prog 3 #[.int .i64 a0, .int .i64 a1, .int .i64 a2] w fun e w' => e = .returned (.bool true) ∧ Below w.heap.size w w' := by
  obtain ⟨k, h⟩ := P a0 a1 a2 w0 w1 w2
  refine (laws_FnExactChainOfSteps.calls k a0 a1 a2 true w h).mono ?_
  rintro e w' ⟨rfl, hd⟩
  exact ⟨rfl, hd⟩

end Go.Proofs.Ytecghgagjghleaa.QFnExactChainOfSteps
