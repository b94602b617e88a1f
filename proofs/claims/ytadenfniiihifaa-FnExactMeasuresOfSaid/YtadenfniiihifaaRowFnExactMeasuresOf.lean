/- The row of FnExactMeasuresOf: the list of points that comes in is opened at every row; the walk gives the answer, the plain law says that it is true. -/
import Derived.Test.YtadenfniiihifaaRows
import Derived.Test.YtadenfniiihifaaQFnExactMeasuresOfx15
import Derived.Test.YtadenfniiihifaaPureFnExactMeasuresOf
import Derived.WalkKit
import Derived.ProofKit
import Derived.OpenShut
import Derived.ShutString
import Derived.ChangeOld
import Derived.Below
import Derived.SizedLaws
import Derived.Deep.Matrix
import Derived.Deep.SlicePairs
namespace Go.Proofs.Ytadenfniiihifaa.fnExactMeasuresOf
open Go.ChangeShapes Go.WideShapes Go.ChangeAt Go.RowKit Go.Deep
open Go.ChangeMaps (open_string shut_string)
open Go.Proofs.YtadenfniiihifaaW.PrintWords Go.Proofs.Ytadenfniiihifaa.QFnExactMeasuresOf
set_option linter.unusedVariables false
theorem own : ownKnob Try.prog.godebug = none := by kernel_rfl
theorem laidOut : laidOutB Try.prog = true := by kernel_rfl
theorem max_eq : maxLen = 9223372036854775807 := rfl
/-- A row of points that memory holds. -/
theorem points_read {W : World} (a : Addr) (len : Nat) (V0 V1 : Nat → Value) (hm : len ≤ maxLen)
    (h : ∀ i, i < len → W.cell? (a.add (i * 2)) = some (V0 i) ∧ W.cell? (a.add (i * 2 + 1)) = some (V1 i) ∧ (∃ n, V0 i = .int .i64 n) ∧ ∃ n, V1 i = .int .i64 n) :
    ∃ l : List S42, l.length = len ∧ Kd.C k42 W (some a) l.length l := by
  obtain ⟨f, hf⟩ := choose_lt (p := fun i (x : Int × Int) => V0 i = .int .i64 x.1 ∧ V1 i = .int .i64 x.2) (fun i hi => by
    obtain ⟨_, _, ⟨n, h0⟩, ⟨m, h1⟩⟩ := h i hi
    exact ⟨(n, m), h0, h1⟩)
  refine ⟨(List.range len).map fun i => ⟨(f i).1, (f i).2⟩, by simp, ⟨rfl, by rw [max_eq] at hm; simpa using hm, fun _ => ⟨a, rfl, fun j p hj => ?_⟩⟩⟩
  have hjl : j < len := by
    rcases Nat.lt_or_ge j len with q | q
    · exact q
    · rw [List.getElem?_eq_none (by simpa using q)] at hj; cases hj
  have hp : p = (⟨(f j).1, (f j).2⟩ : S42) := by
    rw [List.getElem?_map, List.getElem?_range hjl] at hj
    exact (Option.some.inj hj).symm
  subst hp
  obtain ⟨h0, h1, _, _⟩ := h j hjl
  obtain ⟨e0, e1⟩ := hf j hjl
  refine ⟨[.int .i64 (f j).1, .int .i64 (f j).2], rfl, k42_mk W _, fun i u hu => ?_⟩
  rw [show k42.sz = 2 from rfl]
  match i, hu with
  | 0, hu =>
    obtain rfl := Option.some.inj hu
    rw [← e0]
    exact h0
  | 1, hu =>
    obtain rfl := Option.some.inj hu
    rw [← e1]
    exact h1
set_option maxRecDepth 100000 in
theorem lifted (os : Os) (started : os.Started) (H : Type) (enc : TypeId × Value → H) :
    ReturnsInHanded {} Try.checked os 8 .any (Rows.fnExactMeasuresOfSpec.pre6 enc Try.prog Try.f8 Rows.fnExactMeasuresOfRow.domain false) (Rows.fnExactMeasuresOfSpec.post enc Try.prog Try.f8 false true false false) := by
  refine returnsInHanded_of_change_sized (C := Try.checked) own started (by kernel_rfl) Try.func8
    (ChangeSpec.witness6 (enc := enc) (C := Try.checked) false ⟨#[], #[.slice none 0 0], []⟩ 8 (by kernel_rfl) (by kernel_rfl) (by kernel_rfl) (by kernel_rfl)) ?_
  intro W base args ds gs before hval0 hW hcnd hsz0 _
  have hval : ∀ (j : Nat) t v, Try.f8.params[j]? = some t → args[j]? = some v → Value.okWide Try.prog W .any base t v := hval0
  have hW' := hW
  obtain ⟨p, q, hA0, hV, rfl, hfz, hnd⟩ := hW
  have hA : DataW.TrodAll enc Try.prog W 0 (fun _ => true) true Try.f8.params.toList args.toList ds p := hA0
  rw [Try.params8] at hA hval
  obtain ⟨v0, vs0, d0, ds0, p0, q0, hargs, rfl, rfl, h0, r0⟩ := trodAll_cons hA
  obtain ⟨rfl, rfl, rfl⟩ := trodAll_nil r0
  obtain rfl : args = #[v0] := by cases args; simp_all
  obtain ⟨rfl, rfl⟩ := trodVars_none hV
  obtain ⟨a0, len0, cap0, rfl⟩ := okWide_slice Try.underlying22 (hval 0 22 v0 rfl rfl)
  have k0 := h0
  have lt0 : ∀ x ∈ p0, x.block < W.heap.size := by obtain ⟨m, hm⟩ := k0; exact DataW.trod_lt m _ _ _ hm
  obtain ⟨l0, rfl, hcap0, hlm0, hC0⟩ : ∃ l : List S42, len0 = l.length ∧ l.length ≤ cap0 ∧ l.length ≤ maxLen ∧ Kd.C k42 W a0 l.length l := by
    obtain ⟨fuel, hf⟩ := h0
    rcases open_slice_pairs Try.underlying22 Try.underlying42 (by kernel_rfl) rfl rfl (by kernel_rfl) (by kernel_rfl) hf with ⟨hcs, _⟩ | ⟨a, len, cap, m, n, V0, V1, D0, D1, P0, P1, hcs, _, hl, hm, hmm, _, hrows⟩
    · simp [Value.cells] at hcs
      obtain ⟨rfl, rfl, rfl⟩ := hcs
      exact ⟨[], rfl, Nat.zero_le _, Nat.zero_le _, ⟨rfl, Nat.zero_le _, fun h => absurd h (Nat.lt_irrefl 0)⟩⟩
    · simp [Value.cells] at hcs
      obtain ⟨rfl, rfl, rfl⟩ := hcs
      have hmc : m = cap0 := by rw [hmm]; simp
      obtain ⟨l, e, h3⟩ := points_read (W := W) a len0 V0 V1 (Nat.le_trans hl hm) (fun i hi => by
        obtain ⟨g1, g2, g3, g4⟩ := hrows i (by omega)
        obtain ⟨z0, y0, _, _⟩ := DataW.trod_int Try.underlying3 g3
        obtain ⟨z1, y1, _, _⟩ := DataW.trod_int Try.underlying3 g4
        exact ⟨g1, g2, ⟨z0, List.head_eq_of_cons_eq y0⟩, ⟨z1, List.head_eq_of_cons_eq y1⟩⟩)
      exact ⟨l, e.symm, by omega, by omega, h3⟩
  clear hA0 hval0 hsz0
  obtain ⟨k, hk⟩ := Pure.FnExactMeasuresOf l0 (by rw [max_eq] at hlm0; omega)
  refine (laws_FnExactMeasuresOf.calls k a0 cap0 l0 true W hC0 hcap0 hk).mono fun e W' ⟨he, bel⟩ => ?_
  subst he
  exact ⟨_, rfl, _, _, _, [], _, [], hW', trodAll_mk1 (shut_bool Try.underlying4 _), (trodAll_cons_mk (Below.trod laidOut (by kernel_rfl) (of_decide_eq_true (by kernel_rfl)) k0 bel lt0) trodAll_mk0), rfl, bel.frame _, fun h => by cases h⟩
theorem over : Rows.fnExactMeasuresOfRow.holds Try.pinned (OpenSpec.ofChange Rows.fnExactMeasuresOfSpec) :=
  OpenClaim.holds_of_wide 8 Try.f8 rfl rfl rfl rfl rfl rfl rfl ⟨rfl, rfl, rfl, rfl, rfl⟩ rfl rfl rfl rfl rfl (by kernel_rfl) Try.func8 (by kernel_rfl)
    (of_decide_eq_true (by kernel_rfl)) (by unfold Func.isWrapper; first | (rw [if_pos (by decide +kernel)]; kernel_rfl) | (rw [if_neg (by decide +kernel)]; exact ⟨rfl, rfl⟩))
    (fun os started H enc _ => lifted os started H enc)
theorem proved : Rows.FnExactMeasuresOfSaid := over
#print axioms proved
end Go.Proofs.Ytadenfniiihifaa.fnExactMeasuresOf
namespace Go.Proofs.Ytadenfniiihifaa
/-- The row, under a short name, for the claim. -/
theorem fnExactMeasuresOf_holds : Rows.FnExactMeasuresOfSaid := fnExactMeasuresOf.proved
end Go.Proofs.Ytadenfniiihifaa
