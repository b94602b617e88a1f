/- The row of FnExactAddMeasures: the lists of lists that come in are opened at every row; the walk gives the answer, the plain law says that it is true. -/
import Derived.Test.YtomfkafbiliblaaRows
import Derived.Test.YtomfkafbiliblaaQFnExactAddMeasuresx11
import Derived.Test.YtomfkafbiliblaaPureFnExactAddMeasures
import Derived.WalkKit
import Derived.ProofKit
import Derived.OpenShut
import Derived.ShutString
import Derived.ChangeOld
import Derived.Below
import Derived.SizedLaws
import Derived.Deep.Matrix
namespace Go.Proofs.Ytomfkafbiliblaa.fnExactAddMeasures
open Go.ChangeShapes Go.WideShapes Go.ChangeAt Go.RowKit Go.Deep
open Go.ChangeMaps (open_string shut_string)
open Go.Proofs.YtomfkafbiliblaaW.PrintWords Go.Proofs.Ytomfkafbiliblaa.QFnExactAddMeasures
set_option linter.unusedVariables false
theorem own : ownKnob Try.prog.godebug = none := by kernel_rfl
theorem laidOut : laidOutB Try.prog = true := by kernel_rfl
theorem max_eq : maxLen = 9223372036854775807 := rfl
/-- A row of whole numbers that memory holds, its numbers told up to its capacity, reads as its numbers up to its length. -/
theorem row_reads {W : World} (A : Option Addr) (L C : Nat) (Z : List Int) (hl : L ≤ C) (hm : C ≤ maxLen) (hz : Z.length = C) (hn : A = none → C = 0) (hc : ∀ a, A = some a → ∀ c, c < C → W.cell? (a.add c) = some (.int .i64 (Z.getD c 0))) :
    (Z.take L).length = L ∧ Kd.C (Kd.int .i64) W A (Z.take L).length (Z.take L) := by
  have hlen : (Z.take L).length = L := by rw [List.length_take]; omega
  refine ⟨hlen, ?_⟩
  refine Kd.C_of_reads (d := (0 : Int)) (h1 := fun _ => rfl) ⟨rfl, by rw [hlen]; rw [max_eq] at hm; omega, fun h0 => ?_⟩
  rw [hlen] at h0 ⊢
  cases A with
  | none => have := hn rfl; omega
  | some a =>
    refine ⟨a, rfl, fun j hj => ?_⟩
    have h := hc a rfl j (by omega)
    rw [h]
    rw [List.getD_eq_getElem?_getD, List.getD_eq_getElem?_getD, List.getElem?_take, if_pos hj]
/-- .. and the list of such rows. -/
theorem rows_read {W : World} (a : Addr) (len : Nat) (A : Nat → Option Addr) (L C : Nat → Nat) (Z : Nat → List Int) (hm : len ≤ maxLen)
    (h : ∀ r, r < len → W.cell? (a.add r) = some (.slice (A r) (L r) (C r)) ∧ L r ≤ C r ∧ C r ≤ maxLen ∧ (Z r).length = C r ∧ (A r = none → C r = 0) ∧ ∀ a', A r = some a' → ∀ c, c < C r → W.cell? (a'.add c) = some (.int .i64 ((Z r).getD c 0))) :
    ∃ l : List (List Int), l.length = len ∧ (∀ w ∈ l, w.length ≤ maxLen) ∧ Kd.C (Kd.slice 3 (Kd.int .i64)) W (some a) l.length l := by
  refine ⟨(List.range len).map fun r => (Z r).take (L r), by simp, fun w hw => ?_, ?_⟩
  · obtain ⟨r, hr, rfl⟩ := List.mem_map.mp hw
    obtain ⟨_, h1, h2, h3, h4, h5⟩ := h r (List.mem_range.mp hr)
    rw [List.length_take]; omega
  · refine ⟨rfl, by rw [max_eq] at hm; simpa using hm, fun _ => ⟨a, rfl, fun j p hj => ?_⟩⟩
    have hjl : j < len := by
      rcases Nat.lt_or_ge j len with q | q
      · exact q
      · rw [List.getElem?_eq_none (by simpa using q)] at hj; cases hj
    have hp : p = (Z j).take (L j) := by
      rw [List.getElem?_map, List.getElem?_range hjl] at hj
      exact (Option.some.inj hj).symm
    subst hp
    obtain ⟨h0, h1, h2, h3, h4, h5⟩ := h j hjl
    obtain ⟨g1, g2⟩ := row_reads (W := W) (A j) (L j) (C j) (Z j) h1 h2 h3 h4 h5
    refine ⟨[.slice (A j) (L j) (C j)], rfl, ⟨A j, C j, by rw [g1], by omega, g2⟩, fun i u hu => ?_⟩
    have hi : i = 0 := by
      rcases i with _ | i
      · rfl
      · cases hu
    subst hi
    have hu' : Value.slice (A j) (L j) (C j) = u := Option.some.inj hu
    rw [← hu', show (Kd.slice 3 (Kd.int .i64)).sz = 1 from rfl, Nat.mul_one, Nat.add_zero]
    exact h0
set_option maxRecDepth 100000 in
theorem lifted (os : Os) (started : os.Started) (H : Type) (enc : TypeId × Value → H) :
    ReturnsInHanded {} Try.checked os 3 .any (Rows.fnExactAddMeasuresSpec.pre6 enc Try.prog Try.f3 Rows.fnExactAddMeasuresRow.domain false) (Rows.fnExactAddMeasuresSpec.post enc Try.prog Try.f3 false true false false) := by
  refine returnsInHanded_of_change_sized (C := Try.checked) own started (by kernel_rfl) Try.func3
    (ChangeSpec.witness6 (enc := enc) (C := Try.checked) false ⟨#[], #[.slice none 0 0, .slice none 0 0], []⟩ 8 (by kernel_rfl) (by kernel_rfl) (by kernel_rfl) (by kernel_rfl)) ?_
  intro W base args ds gs before hval0 hW hcnd hsz0 _
  have hval : ∀ (j : Nat) t v, Try.f3.params[j]? = some t → args[j]? = some v → Value.okWide Try.prog W .any base t v := hval0
  have hW' := hW
  obtain ⟨p, q, hA0, hV, rfl, hfz, hnd⟩ := hW
  have hA : DataW.TrodAll enc Try.prog W 0 (fun _ => true) true Try.f3.params.toList args.toList ds p := hA0
  rw [Try.params3] at hA hval
  obtain ⟨v0, vs0, d0, ds0, p0, q0, hargs, rfl, rfl, h0, r0⟩ := trodAll_cons hA
  obtain ⟨v1, vs1, d1, ds1, p1, q1, rfl, rfl, rfl, h1, r1⟩ := trodAll_cons r0
  obtain ⟨rfl, rfl, rfl⟩ := trodAll_nil r1
  obtain rfl : args = #[v0, v1] := by cases args; simp_all
  obtain ⟨rfl, rfl⟩ := trodVars_none hV
  obtain ⟨a0, len0, cap0, rfl⟩ := okWide_slice Try.underlying22 (hval 0 22 v0 rfl rfl)
  obtain ⟨a1, len1, cap1, rfl⟩ := okWide_slice Try.underlying22 (hval 1 22 v1 rfl rfl)
  have k0 := h0
  have lt0 : ∀ x ∈ p0, x.block < W.heap.size := by obtain ⟨m, hm⟩ := k0; exact DataW.trod_lt m _ _ _ hm
  obtain ⟨l0, rfl, hcap0, hlm0, hrow0, hC0⟩ : ∃ l : List (List Int), len0 = l.length ∧ l.length ≤ cap0 ∧ l.length ≤ maxLen ∧ (∀ w ∈ l, w.length ≤ maxLen) ∧ Kd.C (Kd.slice 3 (Kd.int .i64)) W a0 l.length l := by
    obtain ⟨fuel, hf⟩ := h0
    rcases open_int_rows Try.underlying22 Try.underlying29 Try.underlying3 (by kernel_rfl) (by kernel_rfl) hf with ⟨hcs, _⟩ | ⟨a, len, cap, A, L, C, Z, hcs, _, hl, hm, _, hrows⟩
    · simp [Value.cells] at hcs
      obtain ⟨rfl, rfl, rfl⟩ := hcs
      exact ⟨[], rfl, Nat.zero_le _, Nat.zero_le _, (fun w hw => absurd hw List.not_mem_nil), ⟨rfl, Nat.zero_le _, fun h => absurd h (Nat.lt_irrefl 0)⟩⟩
    · simp [Value.cells] at hcs
      obtain ⟨rfl, rfl, rfl⟩ := hcs
      obtain ⟨l, e, h2, h3⟩ := rows_read (W := W) a len0 A L C Z (Nat.le_trans hl hm) (fun r hr => by
        obtain ⟨g1, g2, g3, g4, _, g5, g6⟩ := hrows r (Nat.lt_of_lt_of_le hr hl)
        exact ⟨g1, g2, g3, g4, g5, fun a' ha => (g6 a' ha).2⟩)
      exact ⟨l, e.symm, by omega, by omega, h2, h3⟩
  have k1 := h1
  have lt1 : ∀ x ∈ p1, x.block < W.heap.size := by obtain ⟨m, hm⟩ := k1; exact DataW.trod_lt m _ _ _ hm
  obtain ⟨l1, rfl, hcap1, hlm1, hrow1, hC1⟩ : ∃ l : List (List Int), len1 = l.length ∧ l.length ≤ cap1 ∧ l.length ≤ maxLen ∧ (∀ w ∈ l, w.length ≤ maxLen) ∧ Kd.C (Kd.slice 3 (Kd.int .i64)) W a1 l.length l := by
    obtain ⟨fuel, hf⟩ := h1
    rcases open_int_rows Try.underlying22 Try.underlying29 Try.underlying3 (by kernel_rfl) (by kernel_rfl) hf with ⟨hcs, _⟩ | ⟨a, len, cap, A, L, C, Z, hcs, _, hl, hm, _, hrows⟩
    · simp [Value.cells] at hcs
      obtain ⟨rfl, rfl, rfl⟩ := hcs
      exact ⟨[], rfl, Nat.zero_le _, Nat.zero_le _, (fun w hw => absurd hw List.not_mem_nil), ⟨rfl, Nat.zero_le _, fun h => absurd h (Nat.lt_irrefl 0)⟩⟩
    · simp [Value.cells] at hcs
      obtain ⟨rfl, rfl, rfl⟩ := hcs
      obtain ⟨l, e, h2, h3⟩ := rows_read (W := W) a len1 A L C Z (Nat.le_trans hl hm) (fun r hr => by
        obtain ⟨g1, g2, g3, g4, _, g5, g6⟩ := hrows r (Nat.lt_of_lt_of_le hr hl)
        exact ⟨g1, g2, g3, g4, g5, fun a' ha => (g6 a' ha).2⟩)
      exact ⟨l, e.symm, by omega, by omega, h2, h3⟩
  clear hA0 hval0 hsz0
  obtain ⟨k, hk⟩ := Pure.FnExactAddMeasures l0 l1 (by rw [max_eq] at hlm0; omega) (fun w hw => by have := hrow0 w hw; rw [max_eq] at this; omega) (by rw [max_eq] at hlm1; omega) (fun w hw => by have := hrow1 w hw; rw [max_eq] at this; omega)
  refine (laws_FnExactAddMeasures.calls k a0 cap0 l0 a1 cap1 l1 true W hC0 hcap0 hC1 hcap1 hk).mono fun e W' ⟨he, bel⟩ => ?_
  subst he
  exact ⟨_, rfl, _, _, _, [], _, [], hW', trodAll_mk1 (shut_bool Try.underlying4 _), (trodAll_cons_mk (Below.trod laidOut (by kernel_rfl) (of_decide_eq_true (by kernel_rfl)) k0 bel lt0) (trodAll_cons_mk (Below.trod laidOut (by kernel_rfl) (of_decide_eq_true (by kernel_rfl)) k1 bel lt1) trodAll_mk0)), rfl, bel.frame _, fun h => by cases h⟩
theorem over : Rows.fnExactAddMeasuresRow.holds Try.pinned (OpenSpec.ofChange Rows.fnExactAddMeasuresSpec) :=
  OpenClaim.holds_of_wide 3 Try.f3 rfl rfl rfl rfl rfl rfl rfl ⟨rfl, rfl, rfl, rfl, rfl⟩ rfl rfl rfl rfl rfl (by kernel_rfl) Try.func3 (by kernel_rfl)
    (of_decide_eq_true (by kernel_rfl)) (by unfold Func.isWrapper; first | (rw [if_pos (by decide +kernel)]; kernel_rfl) | (rw [if_neg (by decide +kernel)]; exact ⟨rfl, rfl⟩))
    (fun os started H enc _ => lifted os started H enc)
theorem proved : Rows.FnExactAddMeasuresSaid := over
#print axioms proved
end Go.Proofs.Ytomfkafbiliblaa.fnExactAddMeasures
namespace Go.Proofs.Ytomfkafbiliblaa
/-- The row, under a short name, for the claim. -/
theorem fnExactAddMeasures_holds : Rows.FnExactAddMeasuresSaid := fnExactAddMeasures.proved
end Go.Proofs.Ytomfkafbiliblaa
