/- What each Go function of this text answers, as a plain function, and that the machine comes to just that answer. -/
import Derived.Test.YtmjfigeikiickaaDoorQFnExactDissectx0
import Derived.Test.YtmjfigeikiickaaDoorQFnExactDissectx7
import Derived.Test.YtmjfigeikiickaaDoorQFnExactDissectx10
import Derived.Test.YtmjfigeikiickaaDoorQFnExactDissectx13
namespace Go.Proofs.YtmjfigeikiickaaDoor.QFnExactDissect
open Go.RowKit Go.Proofs.YtmjfigeikiickaaDoorW.PrintWords Go.Proofs.YtmjfigeikiickaaDoorW.PrintLast Go.Proofs.YtmjfigeikiickaaDoorW.PrintMore
attribute [local go_sem] max2_int min2_int max_two min_two max_three min_three max_four min_four   -- for this text's walks alone
set_option linter.unusedVariables false
set_option linter.unusedSimpArgs false
/-- The box that a row is kept in: nil, or a row of the call's own. -/
structure KeptRow (w0 : World) (ba : Nat) (s : List Int) (X : Nat → Prop) (W : World) (v : Value) : Prop where
 cell : W.cell? ⟨ba, 0, none⟩ = some v
 fro : W.frozen? ⟨ba, 0, none⟩ = false
 row : Kd.R (Kd.int .i64) 3 W w0.heap.size (fun q => ¬ X q) v s
 nil : s = [] → v = .slice none 0 0
theorem KeptRow.st {w0 W W' : World} {ba : Nat} {s : List Int} {X : Nat → Prop} {v : Value} (h : KeptRow w0 ba s X W v) (hk : Keeps X W W') (xa : ¬ X ba) : KeptRow w0 ba s X W' v :=
 ⟨hk.cell h.cell xa, hk.frozen h.cell xa h.fro, hk.row h.row (fun k e => h.row.1 k e), h.nil⟩
theorem KeptRow.mo {w0 W : World} {ba : Nat} {s : List Int} {X X' : Nat → Prop} {v : Value} (h : KeptRow w0 ba s X W v) (hx : ∀ k, X' k → X k ∨ W.heap.size ≤ k) : KeptRow w0 ba s X' W v :=
 ⟨h.cell, h.fro, Kd.R_of_own (Kd.own_of_R h.row) (fun k e g => (hx k g).elim (h.row.1 k e) (fun g => by have := Kd.R_lt h.row k e; omega)), h.nil⟩
/-- A new row is put into the box. -/
theorem KeptRow.put {w0 W : World} {ba B0 : Nat} {s c : List Int} {X : Nat → Prop} {v v1 : Value} (h : KeptRow w0 ba s X W v) (hr : Kd.R (Kd.int .i64) 3 W B0 (fun q => ¬ X q) v1 c) (hb : ba < B0) (hB : w0.heap.size ≤ B0) (hc : c ≠ []) : KeptRow w0 ba c X (W.setCell ⟨ba, 0, none⟩ v1) v1 := by
 have hk : Keeps (fun k => k = ba) W (W.setCell ⟨ba, 0, none⟩ v1) := Keeps.of_set
 refine ⟨World.cell?_setCell_same' _ _ _ (by rw [h.cell]; rfl), by rw [World.frozen?_setCell]; exact h.fro, Kd.R_lower (hk.row hr (fun k e g => by have := Kd.R_base hr k e; omega)) hB, fun e => absurd e hc⟩
theorem row_some {w0 W : World} {base : Nat} {ok : Nat → Prop} {v : Value} {c : List Int} (hr : Kd.R (Kd.int .i64) 3 W base ok v c) (hc : c ≠ []) : ∃ ad cap, v = .slice (some ad) c.length cap := by
 obtain ⟨A, cap, rfl⟩ := Kd.R_slice hr
 obtain ⟨ad, rfl, _⟩ := (Kd.R_reads' hr).2.2.2.2 (List.length_pos_iff.mpr hc)
 exact ⟨ad, cap, rfl⟩
set_option maxRecDepth 100000 in
theorem eq_nil (A : Option Addr) (n c : Nat) (w : World) : (binOp BinOp.eql 24 (Value.slice A n c) (Value.slice none 0 0)).run Tryd.prog w = .ok (.bool A.isNone) w := by cases A <;> rfl
set_option maxRecDepth 100000 in
theorem ne_nil (A : Option Addr) (n c : Nat) (w : World) : (binOp BinOp.neq 24 (Value.slice A n c) (Value.slice none 0 0)).run Tryd.prog w = .ok (.bool A.isSome) w := by cases A <;> rfl
/-- The map of rows: how a value of its reads (by itself). -/
def RH (v : Value) : Option (DataW Value × List MemPlace) := some (.held v, [])
def look (M : List (ByteArray × List Int)) (key : ByteArray) : List Int := match M.find? (fun p => decide (p.1 = key)) with | some p => p.2 | none => []
theorem look_cons (M : List (ByteArray × List Int)) (key key' : ByteArray) (c : List Int) : look ((key, c) :: M) key' = if key = key' then c else look M key' := by
 unfold look
 rw [List.find?_cons]
 by_cases h : key = key'
 ·rw [if_pos h]; simp [h]
 ·rw [if_neg h]; simp [h]
structure MapRows (w0 : World) (b : Nat) (M : List (ByteArray × List Int)) (X : Nat → Prop) (W : World) (D : DataW Value) (V : ByteArray → Value) : Prop where
 own : W.ownsMap Tryd.prog 9 RH b M.length D
 at_ : ∀ key : ByteArray, D.atKey (.string key.data.toList) (.held (.slice none 0 0)) = .held (V key)
 row : ∀ key, Kd.R (Kd.int .i64) 3 W w0.heap.size (fun q => ¬ X q) (V key) (look M key)
 nil : ∀ key, look M key = [] → V key = .slice none 0 0
theorem ownsMap_keeps {S : Nat → Prop} {W W' : World} {P : Program} {k : TypeId} {R : Value → Option (DataW Value × List MemPlace)} {b n : Nat} {D : DataW Value} (h : W.ownsMap P k R b n D) (hk : Keeps S W W') (hb : ¬ S b) : W'.ownsMap P k R b n D := by
 have hlt := h.lt
 obtain ⟨es, clock, hb', F, hs, hD⟩ := h
 exact ⟨es, clock, (hk.block b hlt hb).trans hb', F, hs, hD⟩
theorem MapRows.st {w0 W W' : World} {b : Nat} {M : List (ByteArray × List Int)} {X : Nat → Prop} {D : DataW Value} {V : ByteArray → Value} (h : MapRows w0 b M X W D V) (hk : Keeps X W W') (hb : ¬ X b) : MapRows w0 b M X W' D V :=
 ⟨ownsMap_keeps h.own hk hb, h.at_, fun key => hk.row (h.row key) (fun k e => (h.row key).1 k e), h.nil⟩
theorem MapRows.mo {w0 W : World} {b : Nat} {M : List (ByteArray × List Int)} {X X' : Nat → Prop} {D : DataW Value} {V : ByteArray → Value} (h : MapRows w0 b M X W D V) (hx : ∀ k, X' k → X k ∨ W.heap.size ≤ k) : MapRows w0 b M X' W D V :=
 ⟨h.own, h.at_, fun key => Kd.R_of_own (Kd.own_of_R (h.row key)) (fun k e g => (hx k g).elim ((h.row key).1 k e) (fun g => by have := Kd.R_lt (h.row key) k e; omega)), h.nil⟩
theorem row_ne_map {W : World} {base : Nat} {ok : Nat → Prop} {v : Value} {xs : List Int} {P : Program} {k : TypeId} {R : Value → Option (DataW Value × List MemPlace)} {b n : Nat} {D : DataW Value} (hr : Kd.R (Kd.int .i64) 3 W base ok v xs) (h : W.ownsMap P k R b n D) : v.ownBlock ≠ some b := by
 obtain ⟨es, clock, hb, _⟩ := h
 rcases (Kd.own_of_R hr).2 with ⟨rfl, _⟩ | ⟨g, cap, cur, rfl, _, hh, _⟩
 ·simp [Value.ownBlock]
 ·intro e
  have e' : g = b := by simpa [Value.ownBlock] using e
  subst e'
  rw [hb] at hh
  cases hh
theorem data_inj {a b : ByteArray} (h : a.data.toList = b.data.toList) : a = b := by
 cases a; cases b
 congr
 exact Array.toList_inj.mp h
theorem MapRows.put {w0 W W' : World} {b B0 : Nat} {M : List (ByteArray × List Int)} {X : Nat → Prop} {D : DataW Value} {V : ByteArray → Value} {key : ByteArray} {c : List Int} {v1 : Value} (h : MapRows w0 b M X W D V)
 (hu : W'.ownsMap Tryd.prog 9 RH b (M.length + 1) (D.put (.string key.data.toList) (.held v1))) (hg : W.grownBy W' (some b)) (hr : Kd.R (Kd.int .i64) 3 W B0 (fun q => ¬ X q) v1 c) (hB : w0.heap.size ≤ B0) (hc : c ≠ []) :
 MapRows w0 b ((key, c) :: M) X W' (D.put (.string key.data.toList) (.held v1)) (fun k' => if key = k' then v1 else V k') := by
 have hk : Keeps (fun k => some k = some b) W W' := Keeps.of_grown hg
 refine ⟨hu, fun k' => ?_, fun k' => ?_, fun k' e => ?_⟩
 ·by_cases e : key = k'
  ·subst e
   rw [if_pos rfl]
   exact Go.Maps.atKey_put_same h.own.isMap (by trivial) _ _
  ·rw [if_neg e, Go.Maps.atKey_put_other (fun z => e (data_inj (Lit.string.inj z)).symm)]
   exact h.at_ k'
 ·rw [look_cons]
  by_cases e : key = k'
  ·rw [if_pos e, if_pos e]
   exact Kd.R_lower (hk.row hr (fun k e1 e2 => row_ne_map hr h.own (e1.trans e2))) hB
  ·rw [if_neg e, if_neg e]
   exact hk.row (h.row k') (fun k e1 e2 => row_ne_map (h.row k') h.own (e1.trans e2))
 ·rw [look_cons] at e
  by_cases z : key = k'
  ·rw [if_pos z] at e; exact absurd e hc
  ·rw [if_neg z] at e ⊢
   exact h.nil k' e
def vKey (p a0 a1 : Int) (k : Nat) (M : List (ByteArray × List Int)) (c l : List Int) : Option (List (ByteArray × List Int) × Bool) :=
 if c = [] then none else if (l.length : Int) = p then (impl_keyOf.f k a0 a1 l).bind fun key =>
  if key.size ≤ 140737488355328 ∧ M.length ≤ 1000000000000 then some (if look M key = [] then (key, c) :: M else M, true) else none
 else some (M, true)
structure IKey (w0 : World) (bp bw bh bf b : Nat) (p a0 a1 : Int) (M : List (ByteArray × List Int)) (X : Nat → Prop) (W : World) : Prop where
 pp : W.cell? ⟨bp, 0, none⟩ = some (.int .i64 p)
 pw : W.cell? ⟨bw, 0, none⟩ = some (.int .i64 a0)
 ph : W.cell? ⟨bh, 0, none⟩ = some (.int .i64 a1)
 pf : W.cell? ⟨bf, 0, none⟩ = some (.map (some b))
 m : ∃ D V, MapRows w0 b M X W D V
 xs : ¬ X bp ∧ ¬ X bw ∧ ¬ X bh ∧ ¬ X bf ∧ ¬ X b
 laid : Go.Proofs.YtmjfigeikiickaaDoorLaid.LaidG w0
 below : Below w0.heap.size w0 W
 x0 : ∀ k, X k → w0.heap.size ≤ k
 b0 : w0.heap.size ≤ b
 ne : bp ≠ b ∧ bw ≠ b ∧ bh ≠ b ∧ bf ≠ b
theorem IKey.st {w0 W W' : World} {bp bw bh bf b : Nat} {p a0 a1 : Int} {M : List (ByteArray × List Int)} {X : Nat → Prop} (h : IKey w0 bp bw bh bf b p a0 a1 M X W) (hk : Keeps X W W') : IKey w0 bp bw bh bf b p a0 a1 M X W' := by
 obtain ⟨D, V, hm⟩ := h.m
 exact ⟨hk.cell h.pp h.xs.1, hk.cell h.pw h.xs.2.1, hk.cell h.ph h.xs.2.2.1, hk.cell h.pf h.xs.2.2.2.1, ⟨D, V, hm.st hk h.xs.2.2.2.2⟩, h.xs, h.laid, keeps_below h.below hk h.x0, h.x0, h.b0, h.ne⟩
theorem IKey.mo {w0 W : World} {bp bw bh bf b : Nat} {p a0 a1 : Int} {M : List (ByteArray × List Int)} {X X' : Nat → Prop} (h : IKey w0 bp bw bh bf b p a0 a1 M X W) (hx : ∀ k, X' k → X k ∨ W.heap.size ≤ k) : IKey w0 bp bw bh bf b p a0 a1 M X' W := by
 have hn : ∀ {b : Nat} {v : Value}, W.cell? ⟨b, 0, none⟩ = some v → ¬ X b → ¬ X' b := fun hc hb g => (hx _ g).elim hb (fun g => by have := World.block_lt_of_cell? W _ hc; simp at this; omega)
 obtain ⟨D, V, hm⟩ := h.m
 exact ⟨h.pp, h.pw, h.ph, h.pf, ⟨D, V, hm.mo hx⟩, ⟨hn h.pp h.xs.1, hn h.pw h.xs.2.1, hn h.ph h.xs.2.2.1, hn h.pf h.xs.2.2.2.1, fun g => (hx _ g).elim h.xs.2.2.2.2 (fun g => by have := hm.own.lt; omega)⟩, h.laid, h.below, fun k g => (hx k g).elim (h.x0 k) (fun g => Nat.le_trans h.below.size g), h.b0, h.ne⟩
theorem MapRows.run {w0 W : World} {b : Nat} {M : List (ByteArray × List Int)} {X : Nat → Prop} {D : DataW Value} {V : ByteArray → Value} (h : MapRows w0 b M X W D V) (key : ByteArray) (hs : key.size ≤ 140737488355328) : (Instr.lookup 58 (.map (some b)) (.string key) false).run Tryd.prog W = .ok (V key) W := by
 have hk : keyOf Tryd.prog 9 (.string key) = some (.string key.data.toList) := Go.WideMaps.keyOf_string_mk Tryd.underlying9 (Nat.le_trans hs (by decide))
 obtain ⟨v, ps, hrun, hv⟩ := h.own.lookup (Go.Maps.string_keyed Tryd.underlying9) Tryd.underlying58 (z := .slice none 0 0) (by rw [Tryd.zeroValue24]) (zd := .held (.slice none 0 0)) (zp := []) rfl hk
 rw [h.at_ key] at hv
 have hv' : (DataW.held v : DataW Value) = .held (V key) := (Prod.mk.inj (Option.some.inj hv)).1
 have : v = V key := DataW.held.inj hv'
 rw [← this]
 exact hrun
set_option maxHeartbeats 4000000 in
theorem key_visits (w0 : World) (bp bw bh bf b B0 : Nat) (p a0 a1 : Int) (hB : b < B0 ∧ w0.heap.size ≤ B0) : Visits (vKey p a0 a1) (IKey w0 bp bw bh bf b p a0 a1) B0 54 #[.pointer (some ⟨bp, 0, none⟩), .pointer (some ⟨bw, 0, none⟩), .pointer (some ⟨bh, 0, none⟩), .pointer (some ⟨bf, 0, none⟩)] where
 eg := enters_of Tryd.func54 (by kernel_rfl) rfl
 st := fun s X W W' h hk => h.st hk
 mo := fun s X X' W h hx => h.mo hx
 laid := fun s X W h => h.laid.below h.below
 call := by
  intro k M c l r X v1 A2 c2 W hI hX h hr hc hlc
  unfold vKey at h
  by_cases hnil : c = []
  ·rw [if_pos hnil] at h; cases h
  rw [if_neg hnil] at h
  obtain ⟨ad, cap, rfl⟩ := row_some (w0 := w0) hr hnil
  have HR := Aside0.mk hr
  have HC := Aside0.mk hc
  have HL := Aside0.mk hlc
  have HI := Aside0.mk hI
  have HG := Aside0.mk (hI.laid.below hI.below)
  have HB0 := Aside0.mk hB
  have HN := Aside0.mk hnil
  have HB := Aside0.mk (Below.refl W.heap.size W)
  have heq := eq_nil
  have hx1 := hI.pp
  have hx2 := hI.pw
  have hx3 := hI.ph
  clear hr hX hB hnil hc hlc hI
  show Calls Tryd.prog 54 #[.slice (some ad) c.length cap, .slice A2 l.length c2, .pointer (some ⟨bp, 0, none⟩), .pointer (some ⟨bw, 0, none⟩), .pointer (some ⟨bh, 0, none⟩), .pointer (some ⟨bf, 0, none⟩)] W _
  by_cases c1 : (l.length : Int) = p
  ·rw [if_pos c1] at h
   have c1b0 : ((l.length : Int) == p) = true := beq_iff_eq.mpr c1
   clear c1
   replace h := Option.bind_eq_some_iff.mp h
   obtain ⟨key, hkey, h⟩ := h
   have HK := Aside0.mk hkey
   clear hkey
   by_cases c2 : key.size ≤ 140737488355328 ∧ M.length ≤ 1000000000000
   ·rw [if_pos c2] at h
    have HS := Aside0.mk c2
    clear c2
    obtain rfl := Option.some.inj h
    clear h
    by_cases c3 : look M key = []
    ·rw [if_pos c3]
     have HE := Aside0.mk c3
     clear c3
     go_enter Tryd.func54, Tryd.ntmps54
     go_wp2_with (first
      | (go_at_call 55; (with_reducible refine (impl_keyOf.calls k a0 a1 _ _ l key _ HG ?side1 ?side2 HK.out).mono ?_); (case side1 => exact HC.out); (case side2 => exact HL.out); rintro e w1 ⟨rfl, hb⟩; have HB1 := Aside0.mk hb; clear hb HB; have HI1 := Aside0.mk (HI.out.st (Keeps.of_below HB1.out)); clear HI hx1 hx2 hx3; obtain ⟨D, V, hm⟩ := HI1.out.m; have HM := Aside0.mk hm; have hlk := hm.run key HS.out.1; rw [hm.nil key HE.out] at hlk; clear hm; have hx4 := HI1.out.pf)
      | (at_mapUpdate; refine wpList_mapUpdate_own _ rfl _ _ _ 58 rfl 9 24 (Go.Maps.string_keyed Tryd.underlying9) Tryd.underlying58 RH b M.length D rfl HM.out.own (Nat.lt_of_le_of_lt HS.out.2 (by decide)) _ _ _ rfl rfl (Go.WideMaps.keyOf_string_mk Tryd.underlying9 (Nat.le_trans HS.out.1 (by decide))) _ [] rfl ?_; intro w2 hown hgrow; have HO := Aside0.mk hown; have HW := Aside0.mk hgrow; clear hown hgrow hlk hx4))
     go_ret
     have hk0 : Keeps (fun _ => False) W w1 := Keeps.of_below HB1.out
     have k2 : Keeps (fun k => some k = some b) w1 w2 := Keeps.of_grown HW.out
     have hp := HM.out.put HO.out HW.out (hk0.row HR.out (fun _ _ h => h)) HB0.out.2 HN.out
     have h1 := HI1.out
     exact ⟨rfl, ⟨k2.cell h1.pp (fun e => h1.ne.1 (Option.some.inj e)), k2.cell h1.pw (fun e => h1.ne.2.1 (Option.some.inj e)), k2.cell h1.ph (fun e => h1.ne.2.2.1 (Option.some.inj e)), k2.cell h1.pf (fun e => h1.ne.2.2.2 (Option.some.inj e)), ⟨_, _, hp⟩, h1.xs, h1.laid, keeps_below h1.below k2 (fun k g => by cases g; exact h1.b0), h1.x0, h1.b0, h1.ne⟩,
      (hk0.mono (fun _ h => h.elim)).trans (k2.mono (fun k g => by cases g; exact HB0.out.1))⟩
    ·rw [if_neg c3]
     have HE := Aside0.mk c3
     clear c3
     go_enter Tryd.func54, Tryd.ntmps54
     go_wp2_with (first
      | (go_at_call 55; (with_reducible refine (impl_keyOf.calls k a0 a1 _ _ l key _ HG ?side1 ?side2 HK.out).mono ?_); (case side1 => exact HC.out); (case side2 => exact HL.out); rintro e w1 ⟨rfl, hb⟩; have HB1 := Aside0.mk hb; clear hb HB; have HI1 := Aside0.mk (HI.out.st (Keeps.of_below HB1.out)); clear HI hx1 hx2 hx3; obtain ⟨D, V, hm⟩ := HI1.out.m; have HM := Aside0.mk hm; have hlk := hm.run key HS.out.1; obtain ⟨ad4, cap4, e4⟩ := row_some (w0 := w0) (hm.row key) HE.out; rw [e4] at hlk; clear hm; have hx4 := HI1.out.pf))
     go_ret
     exact ⟨rfl, HI1.out, Keeps.of_below HB1.out⟩
   ·rw [if_neg c2] at h; cases h
  ·rw [if_neg c1] at h
   have c1b0 : ((l.length : Int) == p) = false := beq_eq_false_iff_ne.mpr c1
   clear c1
   obtain rfl := Option.some.inj h
   clear h
   go_enter Tryd.func54, Tryd.ntmps54
   go_wp2
   go_ret
   exact ⟨rfl, HI.out, Keeps.refl _ _⟩
def vFind (p a0 a1 : Int) (M : List (ByteArray × List Int)) (k : Nat) (s : List Int × List Int) (c l : List Int) : Option ((List Int × List Int) × Bool) :=
 if c = [] then none else if (l.length : Int) = p then (impl_keyOf.f k a0 a1 l).bind fun key =>
  if key.size ≤ 140737488355328 then some (if look M key = [] then (s, decide (s.1 = [])) else ((c, look M key), false)) else none
 else some (s, decide (s.1 = []))
structure IFind (w0 : World) (bp bf bw bh ba bb b : Nat) (p a0 a1 : Int) (M : List (ByteArray × List Int)) (s : List Int × List Int) (X : Nat → Prop) (W : World) : Prop where
 pp : W.cell? ⟨bp, 0, none⟩ = some (.int .i64 p)
 pf : W.cell? ⟨bf, 0, none⟩ = some (.map (some b))
 pw : W.cell? ⟨bw, 0, none⟩ = some (.int .i64 a0)
 ph : W.cell? ⟨bh, 0, none⟩ = some (.int .i64 a1)
 m : ∃ D V, MapRows w0 b M X W D V ∧ ∀ key, (V key).ownBlock ≠ some ba ∧ (V key).ownBlock ≠ some bb ∧ ∀ k, (V key).ownBlock = some k → k < ba
 ka : ∃ v, KeptRow w0 ba s.1 X W v ∧ ∀ k, v.ownBlock = some k → ba < k
 kb : ∃ v, KeptRow w0 bb s.2 X W v ∧ ∀ k, v.ownBlock = some k → k < ba
 xs : ¬ X bp ∧ ¬ X bf ∧ ¬ X bw ∧ ¬ X bh ∧ ¬ X ba ∧ ¬ X bb ∧ ¬ X b
 laid : Go.Proofs.YtmjfigeikiickaaDoorLaid.LaidG w0
 below : Below w0.heap.size w0 W
 x0 : ∀ k, X k → w0.heap.size ≤ k
 b0 : w0.heap.size ≤ ba ∧ w0.heap.size ≤ bb
 ne : bp ≠ ba ∧ bf ≠ ba ∧ bw ≠ ba ∧ bh ≠ ba ∧ b ≠ ba ∧ bb ≠ ba ∧ bp ≠ bb ∧ bf ≠ bb ∧ bw ≠ bb ∧ bh ≠ bb ∧ b ≠ bb
theorem IFind.st {w0 W W' : World} {bp bf bw bh ba bb b : Nat} {p a0 a1 : Int} {M : List (ByteArray × List Int)} {s : List Int × List Int} {X : Nat → Prop} (h : IFind w0 bp bf bw bh ba bb b p a0 a1 M s X W) (hk : Keeps X W W') : IFind w0 bp bf bw bh ba bb b p a0 a1 M s X W' := by
 obtain ⟨D, V, hm, hv⟩ := h.m
 obtain ⟨x1, x2, x3, x4, x5, x6, x7⟩ := h.xs
 exact ⟨hk.cell h.pp x1, hk.cell h.pf x2, hk.cell h.pw x3, hk.cell h.ph x4, ⟨D, V, hm.st hk x7, hv⟩, h.ka.imp (fun v hv => ⟨hv.1.st hk x5, hv.2⟩), h.kb.imp (fun v hv => ⟨hv.1.st hk x6, hv.2⟩), h.xs, h.laid, keeps_below h.below hk h.x0, h.x0, h.b0, h.ne⟩
theorem IFind.mo {w0 W : World} {bp bf bw bh ba bb b : Nat} {p a0 a1 : Int} {M : List (ByteArray × List Int)} {s : List Int × List Int} {X X' : Nat → Prop} (h : IFind w0 bp bf bw bh ba bb b p a0 a1 M s X W) (hx : ∀ k, X' k → X k ∨ W.heap.size ≤ k) : IFind w0 bp bf bw bh ba bb b p a0 a1 M s X' W := by
 have hn : ∀ {b : Nat} {v : Value}, W.cell? ⟨b, 0, none⟩ = some v → ¬ X b → ¬ X' b := fun hc hb g => (hx _ g).elim hb (fun g => by have := World.block_lt_of_cell? W _ hc; simp at this; omega)
 obtain ⟨D, V, hm, hv⟩ := h.m
 obtain ⟨va, ha, la⟩ := h.ka
 obtain ⟨vb, hb, lb⟩ := h.kb
 obtain ⟨x1, x2, x3, x4, x5, x6, x7⟩ := h.xs
 exact ⟨h.pp, h.pf, h.pw, h.ph, ⟨D, V, hm.mo hx, hv⟩, ⟨va, ha.mo hx, la⟩, ⟨vb, hb.mo hx, lb⟩, ⟨hn h.pp x1, hn h.pf x2, hn h.pw x3, hn h.ph x4, hn ha.cell x5, hn hb.cell x6, fun g => (hx _ g).elim x7 (fun g => by have := hm.own.lt; omega)⟩, h.laid, h.below, fun k g => (hx k g).elim (h.x0 k) (fun g => Nat.le_trans h.below.size g), h.b0, h.ne⟩
theorem IFind.put {w0 W : World} {bp bf bw bh ba bb b B0 : Nat} {p a0 a1 : Int} {M : List (ByteArray × List Int)} {s : List Int × List Int} {X : Nat → Prop} {D : DataW Value} {V : ByteArray → Value} {v1 : Value} {c : List Int} {key : ByteArray} (h : IFind w0 bp bf bw bh ba bb b p a0 a1 M s X W)
 (hm : MapRows w0 b M X W D V) (hv : ∀ key, (V key).ownBlock ≠ some ba ∧ (V key).ownBlock ≠ some bb ∧ ∀ k, (V key).ownBlock = some k → k < ba) (hr : Kd.R (Kd.int .i64) 3 W B0 (fun q => ¬ X q) v1 c) (hB : ba < B0 ∧ bb < B0 ∧ w0.heap.size ≤ B0) (hc : c ≠ []) (ho : look M key ≠ []) :
 IFind w0 bp bf bw bh ba bb b p a0 a1 M (c, look M key) X ((W.setCell ⟨ba, 0, none⟩ v1).setCell ⟨bb, 0, none⟩ (V key)) ∧ Keeps (fun k => k < B0) W ((W.setCell ⟨ba, 0, none⟩ v1).setCell ⟨bb, 0, none⟩ (V key)) := by
 obtain ⟨va, ha, la⟩ := h.ka
 obtain ⟨vb, hb, lb⟩ := h.kb
 obtain ⟨n1, n2, n3, n4, n5, n6, m1, m2, m3, m4, m5⟩ := h.ne
 have k1 : Keeps (fun k => k = ba) W (W.setCell ⟨ba, 0, none⟩ v1) := Keeps.of_set
 have k2 : Keeps (fun k => k = bb) (W.setCell ⟨ba, 0, none⟩ v1) ((W.setCell ⟨ba, 0, none⟩ v1).setCell ⟨bb, 0, none⟩ (V key)) := Keeps.of_set
 have K := ha.put hr hB.1 hB.2.2 hc
 have hbc := k1.cell hb.cell n6
 have hbf := k1.frozen hb.cell n6 hb.fro
 have hrow : ∀ key', Kd.R (Kd.int .i64) 3 ((W.setCell ⟨ba, 0, none⟩ v1).setCell ⟨bb, 0, none⟩ (V key)) w0.heap.size (fun q => ¬ X q) (V key') (look M key') := fun key' => k2.row (k1.row (hm.row key') (fun k e g => (hv key').1 (by rw [e, g]))) (fun k e g => (hv key').2.1 (by rw [e, g]))
 refine ⟨⟨k2.cell (k1.cell h.pp n1) m1, k2.cell (k1.cell h.pf n2) m2, k2.cell (k1.cell h.pw n3) m3, k2.cell (k1.cell h.ph n4) m4, ⟨D, V, ⟨ownsMap_keeps (ownsMap_keeps hm.own k1 n5) k2 m5, hm.at_, hrow, hm.nil⟩, hv⟩,
  ⟨v1, ⟨k2.cell K.cell (fun e => n6 e.symm), k2.frozen K.cell (fun e => n6 e.symm) K.fro, k2.row K.row (fun k e g => by have := Kd.R_base hr k e; omega), K.nil⟩, fun k e => by have := Kd.R_base hr k e; omega⟩,
  ⟨V key, ⟨World.cell?_setCell_same' _ _ _ (by rw [hbc]; rfl), by rw [World.frozen?_setCell]; exact hbf, hrow key, fun e => absurd e ho⟩, (hv key).2.2⟩, h.xs, h.laid,
  keeps_below (keeps_below h.below k1 (fun k g => by subst g; exact h.b0.1)) k2 (fun k g => by subst g; exact h.b0.2), h.x0, h.b0, h.ne⟩, (k1.mono (fun k g => by subst g; exact hB.1)).trans (k2.mono (fun k g => by subst g; exact hB.2.1))⟩
set_option maxHeartbeats 4000000 in
theorem find_visits (w0 : World) (bp bf bw bh ba bb b B0 : Nat) (p a0 a1 : Int) (M : List (ByteArray × List Int)) (hB : ba < B0 ∧ bb < B0 ∧ w0.heap.size ≤ B0) : Visits (vFind p a0 a1 M) (IFind w0 bp bf bw bh ba bb b p a0 a1 M) B0 56 #[.pointer (some ⟨bp, 0, none⟩), .pointer (some ⟨bf, 0, none⟩), .pointer (some ⟨bw, 0, none⟩), .pointer (some ⟨bh, 0, none⟩), .pointer (some ⟨ba, 0, none⟩), .pointer (some ⟨bb, 0, none⟩)] where
 eg := enters_of Tryd.func56 (by kernel_rfl) rfl
 st := fun s X W W' h hk => h.st hk
 mo := fun s X X' W h hx => h.mo hx
 laid := fun s X W h => h.laid.below h.below
 call := by
  intro k s c l r X v1 A2 c2 W hI hX h hr hc hlc
  unfold vFind at h
  by_cases hnil : c = []
  ·rw [if_pos hnil] at h; cases h
  rw [if_neg hnil] at h
  obtain ⟨ad, cap, rfl⟩ := row_some (w0 := w0) hr hnil
  have HR := Aside0.mk hr
  have HC := Aside0.mk hc
  have HL := Aside0.mk hlc
  have HI := Aside0.mk hI
  have HG := Aside0.mk (hI.laid.below hI.below)
  have HB0 := Aside0.mk hB
  have HN := Aside0.mk hnil
  have HB := Aside0.mk (Below.refl W.heap.size W)
  have heq := eq_nil
  have hne := ne_nil
  have hx1 := hI.pp
  have hx2 := hI.pf
  have hx3 := hI.pw
  have hx4 := hI.ph
  clear hr hX hB hnil hc hlc hI
  show Calls Tryd.prog 56 #[.slice (some ad) c.length cap, .slice A2 l.length c2, .pointer (some ⟨bp, 0, none⟩), .pointer (some ⟨bf, 0, none⟩), .pointer (some ⟨bw, 0, none⟩), .pointer (some ⟨bh, 0, none⟩), .pointer (some ⟨ba, 0, none⟩), .pointer (some ⟨bb, 0, none⟩)] W _
  by_cases c1 : (l.length : Int) = p
  ·rw [if_pos c1] at h
   have c1b0 : ((l.length : Int) == p) = true := beq_iff_eq.mpr c1
   clear c1
   replace h := Option.bind_eq_some_iff.mp h
   obtain ⟨key, hkey, h⟩ := h
   have HK := Aside0.mk hkey
   clear hkey
   by_cases c2 : key.size ≤ 140737488355328
   ·rw [if_pos c2] at h
    have HS := Aside0.mk c2
    clear c2
    obtain rfl := Option.some.inj h
    clear h
    by_cases c3 : look M key = []
    ·rw [if_pos c3]
     have HE := Aside0.mk c3
     clear c3
     by_cases c4 : s.1 = []
     ·have hd : decide (s.1 = []) = true := decide_eq_true c4
      have HSS := Aside0.mk c4
      show Calls _ _ _ _ fun e w' => e = .returned (.bool (decide (s.1 = []))) ∧ _
      rw [hd]
      clear hd c4
      go_enter Tryd.func56, Tryd.ntmps56
      go_wp2
      go_region_held3 (fun w' => w'.cell? ⟨bf, 0, none⟩ = some (.map (some b)) ∧ w'.cell? ⟨bw, 0, none⟩ = some (.int .i64 a0) ∧ w'.cell? ⟨bh, 0, none⟩ = some (.int .i64 a1))
       (first | go_keep | exact ⟨HI.out.pf, HI.out.pw, HI.out.ph⟩)
       (first
       | (go_at_call 55; (with_reducible refine (impl_keyOf.calls k a0 a1 _ _ l key _ ?hg ?side1 ?side2 HK.out).mono ?_); (case hg => exact ⟨HG.out.below (by repeat (with_reducible first | exact HB.out | apply bA | apply bN | apply bD))⟩); (case side1 => repeat (first | exact (by repeat (first | (with_reducible exact HC.out) | (with_reducible refine Kd.C_alloc ?_ _) | (with_reducible refine Kd.C_drewN ?_ _) | (with_reducible refine Kd.C_drew ?_) | exact HC.out)) | (with_reducible refine Kd.C_alloc ?_ _) | (with_reducible refine Kd.C_drewN ?_ _) | (with_reducible refine Kd.C_drew ?_))); (case side2 => exact HL.out); rintro e w1 ⟨rfl, hb⟩; have HB1 := Aside0.mk (below_step (by repeat (with_reducible first | exact HB.out | apply bA | apply bN | apply bD)) hb); clear hb HB; have HI1 := Aside0.mk (HI.out.st (Keeps.of_below HB1.out)); clear HI; have HI := HI1; obtain ⟨D, V, hm, hv⟩ := HI1.out.m; have HM := Aside0.mk hm; have HV := Aside0.mk hv; clear hv; have hlk := hm.run key HS.out; have hx5 := HI1.out.pf; have hx6 := HI1.out.pw; have hx7 := HI1.out.ph; rw [hm.nil key HE.out] at hlk; obtain ⟨va, hva, _⟩ := HI1.out.ka; have hc5 := hva.cell; have HA := Aside0.mk hva; clear hva; have hn5 := HA.out.nil HSS.out; subst hn5; clear hm))
      go_wp2
      first | go_ret | go_ret2
      exact ⟨rfl, HI1.out, Keeps.of_below HB1.out⟩
     ·have hd : decide (s.1 = []) = false := decide_eq_false c4
      have HSS := Aside0.mk c4
      show Calls _ _ _ _ fun e w' => e = .returned (.bool (decide (s.1 = []))) ∧ _
      rw [hd]
      clear hd c4
      go_enter Tryd.func56, Tryd.ntmps56
      go_wp2
      go_region_held3 (fun w' => w'.cell? ⟨bf, 0, none⟩ = some (.map (some b)) ∧ w'.cell? ⟨bw, 0, none⟩ = some (.int .i64 a0) ∧ w'.cell? ⟨bh, 0, none⟩ = some (.int .i64 a1))
       (first | go_keep | exact ⟨HI.out.pf, HI.out.pw, HI.out.ph⟩)
       (first
       | (go_at_call 55; (with_reducible refine (impl_keyOf.calls k a0 a1 _ _ l key _ ?hg ?side1 ?side2 HK.out).mono ?_); (case hg => exact ⟨HG.out.below (by repeat (with_reducible first | exact HB.out | apply bA | apply bN | apply bD))⟩); (case side1 => repeat (first | exact (by repeat (first | (with_reducible exact HC.out) | (with_reducible refine Kd.C_alloc ?_ _) | (with_reducible refine Kd.C_drewN ?_ _) | (with_reducible refine Kd.C_drew ?_) | exact HC.out)) | (with_reducible refine Kd.C_alloc ?_ _) | (with_reducible refine Kd.C_drewN ?_ _) | (with_reducible refine Kd.C_drew ?_))); (case side2 => exact HL.out); rintro e w1 ⟨rfl, hb⟩; have HB1 := Aside0.mk (below_step (by repeat (with_reducible first | exact HB.out | apply bA | apply bN | apply bD)) hb); clear hb HB; have HI1 := Aside0.mk (HI.out.st (Keeps.of_below HB1.out)); clear HI; have HI := HI1; obtain ⟨D, V, hm, hv⟩ := HI1.out.m; have HM := Aside0.mk hm; have HV := Aside0.mk hv; clear hv; have hlk := hm.run key HS.out; have hx5 := HI1.out.pf; have hx6 := HI1.out.pw; have hx7 := HI1.out.ph; rw [hm.nil key HE.out] at hlk; obtain ⟨va, hva, _⟩ := HI1.out.ka; have hc5 := hva.cell; have HA := Aside0.mk hva; clear hva; obtain ⟨ad5, cap5, rfl⟩ := row_some (w0 := w0) HA.out.row HSS.out; clear hm))
      go_wp2
      first | go_ret | go_ret2
      exact ⟨rfl, HI1.out, Keeps.of_below HB1.out⟩
    ·rw [if_neg c3]
     have HE := Aside0.mk c3
     clear c3
     go_enter Tryd.func56, Tryd.ntmps56
     go_wp2
     go_region_held3 (fun w' => w'.cell? ⟨bf, 0, none⟩ = some (.map (some b)) ∧ w'.cell? ⟨bw, 0, none⟩ = some (.int .i64 a0) ∧ w'.cell? ⟨bh, 0, none⟩ = some (.int .i64 a1))
      (first | go_keep | exact ⟨HI.out.pf, HI.out.pw, HI.out.ph⟩)
      (first
      | (go_at_call 55; (with_reducible refine (impl_keyOf.calls k a0 a1 _ _ l key _ ?hg ?side1 ?side2 HK.out).mono ?_); (case hg => exact ⟨HG.out.below (by repeat (with_reducible first | exact HB.out | apply bA | apply bN | apply bD))⟩); (case side1 => repeat (first | exact (by repeat (first | (with_reducible exact HC.out) | (with_reducible refine Kd.C_alloc ?_ _) | (with_reducible refine Kd.C_drewN ?_ _) | (with_reducible refine Kd.C_drew ?_) | exact HC.out)) | (with_reducible refine Kd.C_alloc ?_ _) | (with_reducible refine Kd.C_drewN ?_ _) | (with_reducible refine Kd.C_drew ?_))); (case side2 => exact HL.out); rintro e w1 ⟨rfl, hb⟩; have HB1 := Aside0.mk (below_step (by repeat (with_reducible first | exact HB.out | apply bA | apply bN | apply bD)) hb); clear hb HB; have HI1 := Aside0.mk (HI.out.st (Keeps.of_below HB1.out)); clear HI; have HI := HI1; obtain ⟨D, V, hm, hv⟩ := HI1.out.m; have HM := Aside0.mk hm; have HV := Aside0.mk hv; clear hv; have hlk := hm.run key HS.out; have hx5 := HI1.out.pf; have hx6 := HI1.out.pw; have hx7 := HI1.out.ph; obtain ⟨ad5, cap5, e5⟩ := row_some (w0 := w0) (hm.row key) HE.out; have HE5 := Aside0.mk e5; rw [e5] at hlk; clear e5; obtain ⟨va, hva, _⟩ := HI1.out.ka; have hc5 := hva.cell; have hf5 := hva.fro; clear hva; obtain ⟨vb, hvb, _⟩ := HI1.out.kb; have hc6 := hvb.cell; have hf6 := hvb.fro; clear hvb; clear hm))
     go_wp2_with (first
      | ((with_reducible refine gate_store (t := 24) (p := 6) rfl ?_); refine store_event (by rfl) (t := 24) (p := 6) (v := .tmp 24) (w1 := w1.setCell ⟨ba, 0, none⟩ (.slice (some ad) c.length cap)) rfl rfl ?hr ?_; (case hr => first | (go_simp; done) | (go_simp; rfl)); intro w2 hw; have HW2 := Aside0.mk hw; have k1 := Keeps.of_set (w := w1) (b := ba) (j := 0) (v := .slice (some ad) c.length cap); rw [← hw] at k1; have hc7 : w2.cell? ⟨ba, 0, none⟩ = some (.slice (some ad) c.length cap) := (by rw [hw]; exact World.cell?_setCell_same' _ _ _ (by rw [hc5]; rfl)); have hne6 := HI1.out.ne.2.2.2.2.2.1; have hc8 := k1.cell hc6 hne6; have hf8 := k1.frozen hc6 hne6 hf6; clear hw hc5 hf5 hc6 hf6 k1 hne6)
      | ((with_reducible refine gate_store (t := 24) (p := 7) rfl ?_); refine store_event (by rfl) (t := 24) (p := 7) (v := .tmp 25) (w1 := w2.setCell ⟨bb, 0, none⟩ (.slice (some ad5) (look M key).length cap5)) rfl rfl ?hr ?_; (case hr => first | (go_simp; done) | (go_simp; rfl)); intro w3 hw; have HW3 := Aside0.mk hw; have k2 := Keeps.of_set (w := w2) (b := bb) (j := 0) (v := .slice (some ad5) (look M key).length cap5); rw [← hw] at k2; have hc9 := k2.cell hc7 (fun e => HI1.out.ne.2.2.2.2.2.1 e.symm); clear hw hc7 hc8 hf8 k2))
     first | go_ret | go_ret2
     have hk0 : Keeps (fun _ => False) W w1 := Keeps.of_below HB1.out
     have hp := HI1.out.put HM.out HV.out (hk0.row HR.out (fun _ _ h => h)) HB0.out HN.out HE.out
     rw [HE5.out, ← HW2.out, ← HW3.out] at hp
     exact ⟨rfl, hp.1, (hk0.mono (fun _ h => h.elim)).trans hp.2⟩
   ·rw [if_neg c2] at h; cases h
  ·rw [if_neg c1] at h
   have c1b0 : ((l.length : Int) == p) = false := beq_eq_false_iff_ne.mpr c1
   clear c1
   obtain rfl := Option.some.inj h
   clear h
   obtain ⟨va, hva, _⟩ := HI.out.ka
   have hc5 := hva.cell
   have HA := Aside0.mk hva
   clear hva
   by_cases c4 : s.1 = []
   ·have hd : decide (s.1 = []) = true := decide_eq_true c4
    have hn5 := HA.out.nil c4
    subst hn5
    show Calls _ _ _ _ fun e w' => e = .returned (.bool (decide (s.1 = []))) ∧ _
    rw [hd]
    clear hd c4
    go_enter Tryd.func56, Tryd.ntmps56
    go_wp2
    first | go_ret | go_ret2
    exact ⟨rfl, HI.out, Keeps.refl _ _⟩
   ·have hd : decide (s.1 = []) = false := decide_eq_false c4
    obtain ⟨ad5, cap5, rfl⟩ := row_some (w0 := w0) HA.out.row c4
    show Calls _ _ _ _ fun e w' => e = .returned (.bool (decide (s.1 = []))) ∧ _
    rw [hd]
    clear hd c4
    go_enter Tryd.func56, Tryd.ntmps56
    go_wp2
    first | go_ret | go_ret2
    exact ⟨rfl, HI.out, Keeps.refl _ _⟩
def impl_dissect.f (k : Nat) (a0 a1 a2 a3 a4 : Int) : Option (List Int × List Int × Bool) := (impl_eachCut.f (vKey a4 a0 a1) k a0 a1 a3 []).bind fun M => (impl_eachCut.f (vFind a4 a0 a1 M) k a0 a1 a2 ([], [])).bind fun s => some (s.1, s.2, decide (s.1 ≠ []))
theorem impl_dissect.mono : ∀ a0 a1 a2 a3 a4 k, LeO (impl_dissect.f k a0 a1 a2 a3 a4) (impl_dissect.f (k + 1) a0 a1 a2 a3 a4) := by
 intro a0 a1 a2 a3 a4 k
 unfold impl_dissect.f
 refine LeO.bind (impl_eachCut.mono (fun k s c l => ?_) _ _ _ _ _) (fun M => LeO.bind (impl_eachCut.mono (fun k s c l => ?_) _ _ _ _ _) (fun _ => LeO.refl _))
 ·unfold vKey
  exact LeO.ite (LeO.refl _) (LeO.ite (LeO.bind (impl_keyOf.mono _ _ _ _) (fun _ => LeO.refl _)) (LeO.refl _))
 ·unfold vFind
  exact LeO.ite (LeO.refl _) (LeO.ite (LeO.bind (impl_keyOf.mono _ _ _ _) (fun _ => LeO.refl _)) (LeO.refl _))
def dsW (w : World) (a0 a1 a4 : Int) : World := (((((w.alloc (Obj.cells #[Value.int .i64 a0] 3)).alloc (Obj.cells #[Value.int .i64 a1] 3)).alloc (Obj.cells #[Value.int .i64 a4] 3)).alloc (.map #[] 0)).alloc (Obj.cells #[Value.map (some (w.heap.size + 1 + 1 + 1))] 58))
theorem key_start {w : World} {a0 a1 a4 : Int} (hG : Go.Proofs.YtmjfigeikiickaaDoorLaid.LaidG w) : IKey w (w.heap.size + 1 + 1) w.heap.size (w.heap.size + 1) (w.heap.size + 1 + 1 + 1 + 1) (w.heap.size + 1 + 1 + 1) a4 a0 a1 [] (fun _ => False) (dsW w a0 a1 a4) := by
 have z1 : (w.alloc (Obj.cells #[Value.int .i64 a0] 3)).heap.size = w.heap.size + 1 := by simp
 have z2 : ((w.alloc (Obj.cells #[Value.int .i64 a0] 3)).alloc (Obj.cells #[Value.int .i64 a1] 3)).heap.size = w.heap.size + 1 + 1 := by simp
 have z3 : (((w.alloc (Obj.cells #[Value.int .i64 a0] 3)).alloc (Obj.cells #[Value.int .i64 a1] 3)).alloc (Obj.cells #[Value.int .i64 a4] 3)).heap.size = w.heap.size + 1 + 1 + 1 := by simp
 have z4 : ((((w.alloc (Obj.cells #[Value.int .i64 a0] 3)).alloc (Obj.cells #[Value.int .i64 a1] 3)).alloc (Obj.cells #[Value.int .i64 a4] 3)).alloc (.map #[] 0)).heap.size = w.heap.size + 1 + 1 + 1 + 1 := by simp
 have hm := World.ownsMap_made (((w.alloc (Obj.cells #[Value.int .i64 a0] 3)).alloc (Obj.cells #[Value.int .i64 a1] 3)).alloc (Obj.cells #[Value.int .i64 a4] 3)) Tryd.prog 9 RH
 rw [z3] at hm
 refine ⟨cell_old (cell_old (cell_new _ _ _ _ z2.symm)), cell_old (cell_old (cell_old (cell_old (cell_new _ _ _ _ rfl)))), cell_old (cell_old (cell_old (cell_new _ _ _ _ z1.symm))), cell_new _ _ _ _ z4.symm,
  ⟨.map [], fun _ => .slice none 0 0, hm.alloc _, fun _ => rfl, fun _ => Kd.R_of_own (own_nil _ _ _ _) (fun k hk => by simp [Value.ownBlock] at hk), fun _ _ => rfl⟩, ⟨fun h => h, fun h => h, fun h => h, fun h => h, fun h => h⟩, hG,
  below_alloc (below_alloc (below_alloc (below_alloc (below_alloc (Below.refl w.heap.size w) _) _) _) _) _, fun _ h => h.elim, by omega, ⟨by omega, by omega, by omega, by omega⟩⟩
theorem find_start {w w2 : World} {bp bf bw bh b : Nat} {p a0 a1 : Int} {M : List (ByteArray × List Int)} (h : IKey w bp bw bh bf b p a0 a1 M (fun _ => False) w2) :
 IFind w bp bf bw bh w2.heap.size (w2.heap.size + 1) b p a0 a1 M ([], []) (fun _ => False) ((w2.alloc (Obj.cells #[Value.slice none 0 0] 24)).alloc (Obj.cells #[Value.slice none 0 0] 24)) := by
 have hs : w.heap.size ≤ w2.heap.size := h.below.size
 have z1 : (w2.alloc (Obj.cells #[Value.slice none 0 0] 24)).heap.size = w2.heap.size + 1 := by simp
 have hb1 := below_alloc (Below.refl w2.heap.size w2) (Obj.cells #[Value.slice none 0 0] 24)
 have k1 := Keeps.of_below (S := fun _ => False) hb1
 have k2 := Keeps.of_below (S := fun _ => False) (below_alloc (Below.refl (w2.alloc (Obj.cells #[Value.slice none 0 0] 24)).heap.size (w2.alloc (Obj.cells #[Value.slice none 0 0] 24))) (Obj.cells #[Value.slice none 0 0] 24))
 have h2 := (h.st k1).st k2
 have hlt : ∀ {c : Nat} {v : Value}, w2.cell? ⟨c, 0, none⟩ = some v → c < w2.heap.size := fun hc => by have := World.block_lt_of_cell? w2 _ hc; simpa using this
 have l1 := hlt h.pp
 have l2 := hlt h.pf
 have l3 := hlt h.pw
 have l4 := hlt h.ph
 obtain ⟨D, V, hm⟩ := h.m
 have l5 := hm.own.lt
 have hnilrow : ∀ (W : World) (base : Nat), Kd.R (Kd.int .i64) 3 W base (fun _ => ¬ False) (.slice none 0 0) [] := fun W base => Kd.R_of_own (own_nil _ _ _ _) (fun k hk => by simp [Value.ownBlock] at hk)
 exact ⟨h2.pp, h2.pf, h2.pw, h2.ph, ⟨D, V, (hm.st k1 (fun h => h)).st k2 (fun h => h), fun key => ⟨fun e => by have := Kd.R_lt (hm.row key) _ e; omega, fun e => by have := Kd.R_lt (hm.row key) _ e; omega, fun k e => Kd.R_lt (hm.row key) _ e⟩⟩,
  ⟨_, ⟨cell_old (cell_new w2 (Value.slice none 0 0) 24 w2.heap.size rfl), k2.frozen (cell_new w2 (Value.slice none 0 0) 24 w2.heap.size rfl) (fun h => h) (frozen_new w2 (Value.slice none 0 0) 24 w2.heap.size rfl), hnilrow _ _, fun _ => rfl⟩, fun k e => by simp [Value.ownBlock] at e⟩,
  ⟨_, ⟨cell_new _ (Value.slice none 0 0) 24 _ z1.symm, frozen_new _ (Value.slice none 0 0) 24 _ z1.symm, hnilrow _ _, fun _ => rfl⟩, fun k e => by simp [Value.ownBlock] at e⟩,
  ⟨fun h => h, fun h => h, fun h => h, fun h => h, fun h => h, fun h => h, fun h => h⟩, h.laid, h2.below, fun _ h => h.elim, ⟨hs, by omega⟩, by omega, by omega, by omega, by omega, by omega, by omega, by omega, by omega, by omega, by omega, by omega⟩
theorem row_slice {W : World} {base : Nat} {ok : Nat → Prop} {v : Value} {c : List Int} (hr : Kd.R (Kd.int .i64) 3 W base ok v c) : ∃ A n c, v = .slice A n c := by
 rcases (Kd.own_of_R hr).2 with ⟨rfl, _⟩ | ⟨g, cap, cur, rfl, _⟩
 ·exact ⟨_, _, _, rfl⟩
 ·exact ⟨_, _, _, rfl⟩
set_option maxHeartbeats 4000000 in
set_option maxRecDepth 100000 in
theorem impl_dissect.calls (k : Nat) (a0 a1 a2 a3 a4 : Int) (r1 r2 : List Int) (r3 : Bool) (w : World) (hG : Aside0 (Go.Proofs.YtmjfigeikiickaaDoorLaid.LaidG w)) (h : impl_dissect.f k a0 a1 a2 a3 a4 = some (r1, r2, r3)) :
 Calls Tryd.prog 36 #[.int .i64 a0, .int .i64 a1, .int .i64 a2, .int .i64 a3, .int .i64 a4] w fun e w' => ∃ v0_ v1_ : Value, e = .returned (.tuple #[v0_, v1_, .bool r3]) ∧ Kd.R (Kd.int .i64) 3 w' w.heap.size (fun k_ => some k_ ≠ v1_.ownBlock) v0_ r1 ∧ Kd.R (Kd.int .i64) 3 w' w.heap.size (fun k_ => some k_ ≠ v0_.ownBlock) v1_ r2 ∧ Below w.heap.size w w' := by
 unfold impl_dissect.f at h
 replace h := Option.bind_eq_some_iff.mp h
 obtain ⟨M, hM, h⟩ := h
 replace h := Option.bind_eq_some_iff.mp h
 obtain ⟨s, hs, h⟩ := h
 have h := Option.some.inj h
 injection h with h1 h2
 injection h2 with h2 h3
 subst h1
 subst h2
 subst h3
 have H1 := Aside0.mk hM
 have H2 := Aside0.mk hs
 clear hM hs
 have hne := ne_nil
 have hmm := @run_makeMap Tryd.prog
 have HK := Aside0.mk (key_start (a0 := a0) (a1 := a1) (a4 := a4) hG.out)
 have hx1 := HK.out.pw
 have hx2 := HK.out.ph
 have hz : (dsW w a0 a1 a4).heap.size = w.heap.size + 1 + 1 + 1 + 1 + 1 := by unfold dsW; simp
 have V1 := key_visits w (w.heap.size + 1 + 1) w.heap.size (w.heap.size + 1) (w.heap.size + 1 + 1 + 1 + 1) (w.heap.size + 1 + 1 + 1) (dsW w a0 a1 a4).heap.size a4 a0 a1 (by rw [hz]; omega)
 have C1 := Aside0.mk (impl_eachCut.calls (dsW w a0 a1 a4) V1 k a0 a1 a3 [] M H1.out HK.out)
 clear V1 hz H1
 unfold dsW at hx1 hx2 C1
 have C3 := Aside0.mk (fun (w2 : World) (hi : IKey w (w.heap.size + 1 + 1) w.heap.size (w.heap.size + 1) (w.heap.size + 1 + 1 + 1 + 1) (w.heap.size + 1 + 1 + 1) a4 a0 a1 M (fun _ => False) w2) =>
  impl_eachCut.calls ((w2.alloc (Obj.cells #[Value.slice none 0 0] 24)).alloc (Obj.cells #[Value.slice none 0 0] 24)) (find_visits w (w.heap.size + 1 + 1) (w.heap.size + 1 + 1 + 1 + 1) w.heap.size (w.heap.size + 1) w2.heap.size (w2.heap.size + 1) (w.heap.size + 1 + 1 + 1) ((w2.alloc (Obj.cells #[Value.slice none 0 0] 24)).alloc (Obj.cells #[Value.slice none 0 0] 24)).heap.size a4 a0 a1 M (by have := hi.below.size; simp; omega)) k a0 a1 a2 ([], []) s H2.out (find_start hi))
 clear H2
 go_enter Tryd.func36, Tryd.ntmps36
 go_wp2_with (first
  | (go_at_call 26; (refine C1.out.mono ?_); rintro e w2 ⟨rfl, hi⟩; clear hx1 hx2 C1; have C2 := Aside0.mk (C3.out w2 hi); have hj := find_start hi; have hx3 := hj.pw; have hx4 := hj.ph; clear hi hj C3)
  | (go_at_call 26; (refine C2.out.mono ?_); rintro e w3 ⟨rfl, hi⟩; clear hx3 hx4 C2; obtain ⟨va, hva, la⟩ := hi.ka; obtain ⟨vb, hvb, lb⟩ := hi.kb; have HP := Aside0.mk (show ∀ k, va.ownBlock = some k → vb.ownBlock = some k → False from fun k e1 e2 => by have := la k e1; have := lb k e2; omega); obtain ⟨A6, n6, c6, rfl⟩ := row_slice hvb.row; have HA := Aside0.mk hva; have HB := Aside0.mk hvb; clear la lb; have HC := Aside0.mk hi.below; clear hi; have hx5 := hva.cell; have hx6 := hvb.cell; clear hva hvb))
 by_cases hs : s.1 = []
 ·have hv0 := HA.out.nil hs
  subst hv0
  have hd : decide (s.1 ≠ []) = false := decide_eq_false (fun z => z hs)
  have HD := Aside0.mk hd
  clear hd
  go_quiet (fail)
  go_wp2
  go_ret3
  exact ⟨_, _, by rw [HD.out]; rfl, Kd.R_of_own (Kd.own_of_R HA.out.row) (fun k e e2 => HP.out k e e2.symm), Kd.R_of_own (Kd.own_of_R HB.out.row) (fun k e e2 => HP.out k e2.symm e), by repeat (first | (with_reducible first | exact HC.out | apply bA | apply bN | apply bD) | exact HC.out)⟩
 ·obtain ⟨ad2, cap2, rfl⟩ := row_some (w0 := w) HA.out.row hs
  have hd : decide (s.1 ≠ []) = true := decide_eq_true hs
  have HD := Aside0.mk hd
  clear hd
  go_quiet (fail)
  go_wp2
  go_ret3
  exact ⟨_, _, by rw [HD.out]; rfl, Kd.R_of_own (Kd.own_of_R HA.out.row) (fun k e e2 => HP.out k e e2.symm), Kd.R_of_own (Kd.own_of_R HB.out.row) (fun k e e2 => HP.out k e2.symm e), by repeat (first | (with_reducible first | exact HC.out | apply bA | apply bN | apply bD) | exact HC.out)⟩
def impl_Dissect.f (k : Nat) (a0 : Int) (a1 : Int) (a2 : Int) (a3 : Int) (a4 : Int) : Option (List Int × List Int × Bool) := (impl_isCuttable.f a0 a1 a2 7).bind fun t446 => (if t446 = true then ((impl_isCuttable.f a0 a1 a3 7).bind fun t447 => (if t447 = true then ((impl_within.f a4 1 7).bind fun t448 => (if t448 = true then ((impl_dissect.f k a0 a1 a2 a3 a4).bind fun bt449 => (some (bt449.1, bt449.2.1, bt449.2.2))) else (some (([] : List Int), ([] : List Int), false)))) else (some (([] : List Int), ([] : List Int), false)))) else (some (([] : List Int), ([] : List Int), false)))
theorem impl_Dissect.mono : ∀ a0 a1 a2 a3 a4 k, LeO (impl_Dissect.f k a0 a1 a2 a3 a4) (impl_Dissect.f (k + 1) a0 a1 a2 a3 a4) := by
 intro a0 a1 a2 a3 a4 k
 unfold impl_Dissect.f
 repeat' first
  | (with_reducible exact LeO.refl _)
  | exact impl_dissect.mono _ _ _ _ _ _
  | exact LeO.none _
  | refine LeO.ite ?_ ?_
  | refine LeO.bind ?_ (fun _ => ?_)
set_option maxHeartbeats 8000000 in
set_option maxRecDepth 100000 in
theorem impl_Dissect.calls (k : Nat) (a0 : Int) (a1 : Int) (a2 : Int) (a3 : Int) (a4 : Int) (r1 : List Int) (r2 : List Int) (r3 : Bool) (w : World) (hG : Aside0 (Go.Proofs.YtmjfigeikiickaaDoorLaid.LaidG w)) (h : impl_Dissect.f k a0 a1 a2 a3 a4 = some (r1, r2, r3)) :
 Calls Tryd.prog 20 #[.int .i64 a0, .int .i64 a1, .int .i64 a2, .int .i64 a3, .int .i64 a4] w fun e w' => ∃ v0_ v1_ : Value, e = .returned (.tuple #[v0_, v1_, .bool r3]) ∧ Kd.R (Kd.int .i64) 3 w' w.heap.size (fun k_ => some k_ ≠ (v1_ : Value).ownBlock) v0_ r1 ∧ Kd.R (Kd.int .i64) 3 w' w.heap.size (fun k_ => some k_ ≠ (v0_ : Value).ownBlock) v1_ r2 ∧ Below w.heap.size w w' := by
 have HB := Aside0.mk (Below.refl w.heap.size w)
 have H : ((impl_isCuttable.f a0 a1 a2 7).bind fun t446 => (if t446 = true then ((impl_isCuttable.f a0 a1 a3 7).bind fun t447 => (if t447 = true then ((impl_within.f a4 1 7).bind fun t448 => (if t448 = true then ((impl_dissect.f k a0 a1 a2 a3 a4).bind fun bt449 => (some (bt449.1, bt449.2.1, bt449.2.2))) else (some (([] : List Int), ([] : List Int), false)))) else (some (([] : List Int), ([] : List Int), false)))) else (some (([] : List Int), ([] : List Int), false)))) = some (r1, r2, r3) := h
 clear h
 replace H := Option.bind_eq_some_iff.mp H
 obtain ⟨t446, A60, H⟩ := H
 have A6 := Aside0.mk A60
 clear A60
 by_cases c7 : t446 = true
 ·subst c7
  rw [if_pos rfl] at H
  replace H := Option.bind_eq_some_iff.mp H
  obtain ⟨t447, A80, H⟩ := H
  have A8 := Aside0.mk A80
  clear A80
  by_cases c9 : t447 = true
  ·subst c9
   rw [if_pos rfl] at H
   replace H := Option.bind_eq_some_iff.mp H
   obtain ⟨t448, A100, H⟩ := H
   have A10 := Aside0.mk A100
   clear A100
   by_cases c11 : t448 = true
   ·subst c11
    rw [if_pos rfl] at H
    replace H := Option.bind_eq_some_iff.mp H
    obtain ⟨⟨t449, t450, t451⟩, A120, H⟩ := H
    replace H : (some (t449, t450, t451)) = some (r1, r2, r3) := H
    have A12 := Aside0.mk A120
    clear A120
    simp only [Option.some.injEq, Prod.mk.injEq] at H
    obtain ⟨rfl, rfl, rfl⟩ := H
    go_enter Tryd.func20, Tryd.ntmps20
    go_wp2_with (first | ((with_reducible refine gate_callee (f := 25) rfl ?_); refine goesL_ (some 16) rfl rfl Tryd.func25 (by kernel_rfl) rfl #[.int .i64 a0, .int .i64 a1, .int .i64 a2, .int .i64 7] rfl (by (try simp only [List.map_toArray, List.map_cons, List.map_nil]); first | done | rfl) ?_; (with_reducible refine (impl_isCuttable.calls a0 a1 a2 7 true _ A6.out).mono ?_); rintro e w' ⟨rfl, ⟨nd, rfl⟩⟩; refine ⟨_, rfl, ?_⟩) | (go_at_call 25; (with_reducible refine (impl_isCuttable.calls a0 a1 a3 7 true _ A8.out).mono ?_); rintro e w' ⟨rfl, ⟨nd, rfl⟩⟩) | (go_at_call 37; (with_reducible refine (impl_within.calls a4 1 7 true _ A10.out).mono ?_); rintro e w' ⟨rfl, ⟨nd, rfl⟩⟩) | ((with_reducible refine gate_callee (f := 36) rfl ?_); refine goesL_ (some 35) rfl rfl Tryd.func36 (by kernel_rfl) rfl #[.int .i64 a0, .int .i64 a1, .int .i64 a2, .int .i64 a3, .int .i64 a4] rfl (by (try simp only [List.map_toArray, List.map_cons, List.map_nil]); first | done | rfl) ?_; (with_reducible refine (impl_dissect.calls k a0 a1 a2 a3 a4 t449 t450 t451 _ ?side1 A12.out).mono ?_); (case side1 => first | exact hG | (refine ⟨hG.out.drawn ?_⟩; (repeat (first | exact Drawn0.refl _ | apply Drawn0.step)); done) | (refine ⟨hG.out.below ?_⟩; (repeat (first | (with_reducible first | exact HB.out | apply bA | apply bN | apply bD) | exact HB.out)); done)); rintro e w13 ⟨v452, v454, rfl, ho0, ho1, hb⟩; refine ⟨_, rfl, ?_⟩; have n0_ := Aside0.mk (Kd.R_lower ho0 (below_size (by repeat (with_reducible first | exact HB.out | apply bA | apply bN | apply bD)))); have n1_ := Aside0.mk (Kd.R_lower ho1 (below_size (by repeat (with_reducible first | exact HB.out | apply bA | apply bN | apply bD)))); have n2_ := Aside0.mk (below_step (by repeat (with_reducible first | exact HB.out | apply bA | apply bN | apply bD)) hb); clear HB; have HO453 := n0_; have HO455 := n1_; have HB := n2_; clear n0_ n1_ n2_; (try clear hb); (try clear hb2); (try clear hk); (try clear hi); (try clear ho0); (try clear ho1)))
    go_ret3
    exact ⟨_, _, by first | rfl | (simp [errW_none, errW_some] <;> rfl) | (simp [*, errW_none, errW_some] <;> rfl), by (with_reducible repeat (first | apply rA | apply rN | apply rD)); exact HO453.out, by (with_reducible repeat (first | apply rA | apply rN | apply rD)); exact HO455.out, by repeat (with_reducible first | exact HB.out | apply bA | apply bN | apply bD)⟩
   ·replace c11 := Bool.eq_false_iff.mpr c11
    subst c11
    rw [if_neg (show ¬ (false = true) by decide)] at H
    simp only [Option.some.injEq, Prod.mk.injEq] at H
    obtain ⟨rfl, rfl, rfl⟩ := H
    go_enter Tryd.func20, Tryd.ntmps20
    go_wp2_with (first | ((with_reducible refine gate_callee (f := 25) rfl ?_); refine goesL_ (some 16) rfl rfl Tryd.func25 (by kernel_rfl) rfl #[.int .i64 a0, .int .i64 a1, .int .i64 a2, .int .i64 7] rfl (by (try simp only [List.map_toArray, List.map_cons, List.map_nil]); first | done | rfl) ?_; (with_reducible refine (impl_isCuttable.calls a0 a1 a2 7 true _ A6.out).mono ?_); rintro e w' ⟨rfl, ⟨nd, rfl⟩⟩; refine ⟨_, rfl, ?_⟩) | (go_at_call 25; (with_reducible refine (impl_isCuttable.calls a0 a1 a3 7 true _ A8.out).mono ?_); rintro e w' ⟨rfl, ⟨nd, rfl⟩⟩) | (go_at_call 37; (with_reducible refine (impl_within.calls a4 1 7 false _ A10.out).mono ?_); rintro e w' ⟨rfl, ⟨nd, rfl⟩⟩))
    go_ret3
    exact ⟨_, _, by first | rfl | (simp [errW_none, errW_some] <;> rfl) | (simp [*, errW_none, errW_some] <;> rfl), by first | exact Kd.R_nil _ _ _ _ _ | exact Kd.N_nil _ _ _ _ _ | exact Kd.V_nil _ _ _ _ _ | exact Kd.Q_nil _ _ _ _ _ | exact Kd.S_nil _ _ _ _ _, by first | exact Kd.R_nil _ _ _ _ _ | exact Kd.N_nil _ _ _ _ _ | exact Kd.V_nil _ _ _ _ _ | exact Kd.Q_nil _ _ _ _ _ | exact Kd.S_nil _ _ _ _ _, by repeat (with_reducible first | exact HB.out | apply bA | apply bN | apply bD)⟩
  ·replace c9 := Bool.eq_false_iff.mpr c9
   subst c9
   rw [if_neg (show ¬ (false = true) by decide)] at H
   simp only [Option.some.injEq, Prod.mk.injEq] at H
   obtain ⟨rfl, rfl, rfl⟩ := H
   go_enter Tryd.func20, Tryd.ntmps20
   go_wp2_with (first | ((with_reducible refine gate_callee (f := 25) rfl ?_); refine goesL_ (some 16) rfl rfl Tryd.func25 (by kernel_rfl) rfl #[.int .i64 a0, .int .i64 a1, .int .i64 a2, .int .i64 7] rfl (by (try simp only [List.map_toArray, List.map_cons, List.map_nil]); first | done | rfl) ?_; (with_reducible refine (impl_isCuttable.calls a0 a1 a2 7 true _ A6.out).mono ?_); rintro e w' ⟨rfl, ⟨nd, rfl⟩⟩; refine ⟨_, rfl, ?_⟩) | (go_at_call 25; (with_reducible refine (impl_isCuttable.calls a0 a1 a3 7 false _ A8.out).mono ?_); rintro e w' ⟨rfl, ⟨nd, rfl⟩⟩))
   go_ret3
   exact ⟨_, _, by first | rfl | (simp [errW_none, errW_some] <;> rfl) | (simp [*, errW_none, errW_some] <;> rfl), by first | exact Kd.R_nil _ _ _ _ _ | exact Kd.N_nil _ _ _ _ _ | exact Kd.V_nil _ _ _ _ _ | exact Kd.Q_nil _ _ _ _ _ | exact Kd.S_nil _ _ _ _ _, by first | exact Kd.R_nil _ _ _ _ _ | exact Kd.N_nil _ _ _ _ _ | exact Kd.V_nil _ _ _ _ _ | exact Kd.Q_nil _ _ _ _ _ | exact Kd.S_nil _ _ _ _ _, by repeat (with_reducible first | exact HB.out | apply bA | apply bN | apply bD)⟩
 ·replace c7 := Bool.eq_false_iff.mpr c7
  subst c7
  rw [if_neg (show ¬ (false = true) by decide)] at H
  simp only [Option.some.injEq, Prod.mk.injEq] at H
  obtain ⟨rfl, rfl, rfl⟩ := H
  go_enter Tryd.func20, Tryd.ntmps20
  go_wp2_with (first | ((with_reducible refine gate_callee (f := 25) rfl ?_); refine goesL_ (some 16) rfl rfl Tryd.func25 (by kernel_rfl) rfl #[.int .i64 a0, .int .i64 a1, .int .i64 a2, .int .i64 7] rfl (by (try simp only [List.map_toArray, List.map_cons, List.map_nil]); first | done | rfl) ?_; (with_reducible refine (impl_isCuttable.calls a0 a1 a2 7 false _ A6.out).mono ?_); rintro e w' ⟨rfl, ⟨nd, rfl⟩⟩; refine ⟨_, rfl, ?_⟩))
  go_ret3
  exact ⟨_, _, by first | rfl | (simp [errW_none, errW_some] <;> rfl) | (simp [*, errW_none, errW_some] <;> rfl), by first | exact Kd.R_nil _ _ _ _ _ | exact Kd.N_nil _ _ _ _ _ | exact Kd.V_nil _ _ _ _ _ | exact Kd.Q_nil _ _ _ _ _ | exact Kd.S_nil _ _ _ _ _, by first | exact Kd.R_nil _ _ _ _ _ | exact Kd.N_nil _ _ _ _ _ | exact Kd.V_nil _ _ _ _ _ | exact Kd.Q_nil _ _ _ _ _ | exact Kd.S_nil _ _ _ _ _, by repeat (with_reducible first | exact HB.out | apply bA | apply bN | apply bD)⟩
end Go.Proofs.YtmjfigeikiickaaDoor.QFnExactDissect
