/- What each Go function of this text answers, as a plain function, and that the machine comes to just that answer. -/
import Derived.Test.YtmjfigeikiickaaDoorQFnExactBestHalvesx0
import Derived.Test.YtmjfigeikiickaaDoorQFnExactBestHalvesx1
import Derived.Test.YtmjfigeikiickaaDoorQFnExactBestHalvesx5
import Derived.Test.YtmjfigeikiickaaDoorQFnExactBestHalvesx6
import Derived.Test.YtmjfigeikiickaaDoorQFnExactBestHalvesx8
namespace Go.Proofs.YtmjfigeikiickaaDoor.QFnExactBestHalves
open Go.RowKit Go.Proofs.YtmjfigeikiickaaDoorW.PrintWords Go.Proofs.YtmjfigeikiickaaDoorW.PrintLast Go.Proofs.YtmjfigeikiickaaDoorW.PrintMore
attribute [local go_sem] max2_int min2_int max_two min_two max_three min_three max_four min_four   -- for this text's walks alone
set_option linter.unusedVariables false
set_option linter.unusedSimpArgs false

/-- The box that a row is kept in: nil, or a row of the call's own. -/
structure KeptRow (w0 : World) (ba : Nat) (s : List Int) (X : Nat → Prop) (W : World) (v : Value) : Prop where
 cell : W.cell? ⟨ba, 0, none⟩ = some v
 fro : W.frozen? ⟨ba, 0, none⟩ = false
 row : Kd.R (Kd.int .i64) 3 W w0.heap.size (fun q => ¬ X q) v s
 nil : s = [] → v = .slice none 0 0
theorem KeptRow.st {w0 W W' : World} {ba : Nat} {s : List Int} {X : Nat → Prop} {v : Value} (h : KeptRow w0 ba s X W v) (hk : Keeps X W W') (xa : ¬ X ba) : KeptRow w0 ba s X W' v :=
 ⟨hk.cell h.cell xa, hk.frozen h.cell xa h.fro, hk.row h.row (fun k e => h.row.1 k e), h.nil⟩
theorem KeptRow.mo {w0 W : World} {ba : Nat} {s : List Int} {X X' : Nat → Prop} {v : Value} (h : KeptRow w0 ba s X W v) (hx : ∀ k, X' k → X k ∨ W.heap.size ≤ k) : KeptRow w0 ba s X' W v :=
 ⟨h.cell, h.fro, Kd.R_of_own (Kd.own_of_R h.row) (fun k e g => (hx k g).elim (h.row.1 k e) (fun g => by have := Kd.R_lt h.row k e; omega)), h.nil⟩
/-- A new row is put into the box. -/
theorem KeptRow.put {w0 W : World} {ba B0 : Nat} {s c : List Int} {X : Nat → Prop} {v v1 : Value} (h : KeptRow w0 ba s X W v) (hr : Kd.R (Kd.int .i64) 3 W B0 (fun q => ¬ X q) v1 c) (hb : ba < B0) (hB : w0.heap.size ≤ B0) (hc : c ≠ []) : KeptRow w0 ba c X (W.setCell ⟨ba, 0, none⟩ v1) v1 := by
 have hk : Keeps (fun k => k = ba) W (W.setCell ⟨ba, 0, none⟩ v1) := Keeps.of_set
 refine ⟨World.cell?_setCell_same' _ _ _ (by rw [h.cell]; rfl), by rw [World.frozen?_setCell]; exact h.fro, Kd.R_lower (hk.row hr (fun k e g => by have := Kd.R_base hr k e; omega)) hB, fun e => absurd e hc⟩
theorem row_some {w0 W : World} {base : Nat} {ok : Nat → Prop} {v : Value} {c : List Int} (hr : Kd.R (Kd.int .i64) 3 W base ok v c) (hc : c ≠ []) : ∃ ad cap, v = .slice (some ad) c.length cap := by
 obtain ⟨A, cap, rfl⟩ := Kd.R_slice hr
 obtain ⟨ad, rfl, _⟩ := (Kd.R_reads' hr).2.2.2.2 (List.length_pos_iff.mpr hc)
 exact ⟨ad, cap, rfl⟩
set_option maxRecDepth 100000 in
theorem eq_nil (A : Option Addr) (n c : Nat) (w : World) : (binOp BinOp.eql 24 (Value.slice A n c) (Value.slice none 0 0)).run Tryd.prog w = .ok (.bool A.isNone) w := by cases A <;> rfl
set_option maxRecDepth 100000 in
theorem ne_nil (A : Option Addr) (n c : Nat) (w : World) : (binOp BinOp.neq 24 (Value.slice A n c) (Value.slice none 0 0)).run Tryd.prog w = .ok (.bool A.isSome) w := by cases A <;> rfl

def vHalf (a0 a1 a2 : Int) (k : Nat) (s : List Int × Int) (c l : List Int) : Option ((List Int × Int) × Bool) :=
 if c = [] then none else if (l.length : Int) = 2 then (bits_OnesCount.f (IntKind.u64.wrap (rd l 0))).bind fun t => (bits_OnesCount.f (IntKind.u64.wrap (rd l 1))).bind fun u =>
  if t = u then (impl_cutLength.f k a0 a1 a2 c).bind fun n => some (if s.1 = [] ∨ n < s.2 then (c, n) else s, true) else some (s, true)
 else some (s, true)
structure IHalf (w0 : World) (bw bh bm bb bs : Nat) (a0 a1 a2 : Int) (s : List Int × Int) (X : Nat → Prop) (W : World) : Prop where
 pw : W.cell? ⟨bw, 0, none⟩ = some (.int .i64 a0)
 ph : W.cell? ⟨bh, 0, none⟩ = some (.int .i64 a1)
 pm : W.cell? ⟨bm, 0, none⟩ = some (.int .i64 a2)
 a : ∃ v, KeptRow w0 bb s.1 X W v
 sc : W.cell? ⟨bs, 0, none⟩ = some (.int .i64 s.2)
 sf : W.frozen? ⟨bs, 0, none⟩ = false
 xs : ¬ X bw ∧ ¬ X bh ∧ ¬ X bm ∧ ¬ X bb ∧ ¬ X bs
 laid : Go.Proofs.YtmjfigeikiickaaDoorLaid.LaidG w0
 below : Below w0.heap.size w0 W
 x0 : ∀ k, X k → w0.heap.size ≤ k
 b0 : w0.heap.size ≤ bb ∧ w0.heap.size ≤ bs
 ne : bw ≠ bb ∧ bh ≠ bb ∧ bm ≠ bb ∧ bs ≠ bb ∧ bw ≠ bs ∧ bh ≠ bs ∧ bm ≠ bs
theorem IHalf.st {w0 W W' : World} {bw bh bm bb bs : Nat} {a0 a1 a2 : Int} {s : List Int × Int} {X : Nat → Prop} (h : IHalf w0 bw bh bm bb bs a0 a1 a2 s X W) (hk : Keeps X W W') : IHalf w0 bw bh bm bb bs a0 a1 a2 s X W' :=
 ⟨hk.cell h.pw h.xs.1, hk.cell h.ph h.xs.2.1, hk.cell h.pm h.xs.2.2.1, h.a.imp (fun v hv => hv.st hk h.xs.2.2.2.1), hk.cell h.sc h.xs.2.2.2.2, hk.frozen h.sc h.xs.2.2.2.2 h.sf, h.xs, h.laid, keeps_below h.below hk h.x0, h.x0, h.b0, h.ne⟩
theorem IHalf.mo {w0 W : World} {bw bh bm bb bs : Nat} {a0 a1 a2 : Int} {s : List Int × Int} {X X' : Nat → Prop} (h : IHalf w0 bw bh bm bb bs a0 a1 a2 s X W) (hx : ∀ k, X' k → X k ∨ W.heap.size ≤ k) : IHalf w0 bw bh bm bb bs a0 a1 a2 s X' W := by
 have hn : ∀ {b : Nat} {v : Value}, W.cell? ⟨b, 0, none⟩ = some v → ¬ X b → ¬ X' b := fun hc hb g => (hx _ g).elim hb (fun g => by have := World.block_lt_of_cell? W _ hc; simp at this; omega)
 obtain ⟨v, hv⟩ := h.a
 exact ⟨h.pw, h.ph, h.pm, ⟨v, hv.mo hx⟩, h.sc, h.sf, ⟨hn h.pw h.xs.1, hn h.ph h.xs.2.1, hn h.pm h.xs.2.2.1, hn hv.cell h.xs.2.2.2.1, hn h.sc h.xs.2.2.2.2⟩, h.laid, h.below, fun k g => (hx k g).elim (h.x0 k) (fun g => Nat.le_trans h.below.size g), h.b0, h.ne⟩
theorem IHalf.put {w0 W : World} {bw bh bm bb bs B0 : Nat} {a0 a1 a2 n : Int} {s : List Int × Int} {X : Nat → Prop} {v1 : Value} {c : List Int} (h : IHalf w0 bw bh bm bb bs a0 a1 a2 s X W) (hr : Kd.R (Kd.int .i64) 3 W B0 (fun q => ¬ X q) v1 c) (hB : bb < B0 ∧ bs < B0 ∧ w0.heap.size ≤ B0) (hc : c ≠ []) :
 IHalf w0 bw bh bm bb bs a0 a1 a2 (c, n) X ((W.setCell ⟨bb, 0, none⟩ v1).setCell ⟨bs, 0, none⟩ (.int .i64 n)) ∧ Keeps (fun k => k < B0) W ((W.setCell ⟨bb, 0, none⟩ v1).setCell ⟨bs, 0, none⟩ (.int .i64 n)) := by
 obtain ⟨v, hv⟩ := h.a
 obtain ⟨n1, n2, n3, n4, n5, n6, n7⟩ := h.ne
 have k1 : Keeps (fun k => k = bb) W (W.setCell ⟨bb, 0, none⟩ v1) := Keeps.of_set
 have k2 : Keeps (fun k => k = bs) (W.setCell ⟨bb, 0, none⟩ v1) ((W.setCell ⟨bb, 0, none⟩ v1).setCell ⟨bs, 0, none⟩ (.int .i64 n)) := Keeps.of_set
 have K := hv.put hr hB.1 hB.2.2 hc
 have hsc := k1.cell h.sc n4
 refine ⟨⟨k2.cell (k1.cell h.pw n1) n5, k2.cell (k1.cell h.ph n2) n6, k2.cell (k1.cell h.pm n3) n7, ⟨v1, k2.cell K.cell (fun e => n4 e.symm), k2.frozen K.cell (fun e => n4 e.symm) K.fro, k2.row K.row (fun k e g => by have := Kd.R_base hr k e; omega), K.nil⟩, World.cell?_setCell_same' _ _ _ (by rw [hsc]; rfl), by rw [World.frozen?_setCell]; exact k1.frozen h.sc n4 h.sf, h.xs, h.laid,
  keeps_below (keeps_below h.below k1 (fun k g => by subst g; exact h.b0.1)) k2 (fun k g => by subst g; exact h.b0.2), h.x0, h.b0, h.ne⟩, (k1.mono (fun k g => by subst g; exact hB.1)).trans (k2.mono (fun k g => by subst g; exact hB.2.1))⟩
set_option maxHeartbeats 4000000 in
theorem half_visits (w0 : World) (bw bh bm bb bs B0 : Nat) (a0 a1 a2 : Int) (hB : bb < B0 ∧ bs < B0 ∧ w0.heap.size ≤ B0) : Visits (vHalf a0 a1 a2) (IHalf w0 bw bh bm bb bs a0 a1 a2) B0 31 #[.pointer (some ⟨bw, 0, none⟩), .pointer (some ⟨bh, 0, none⟩), .pointer (some ⟨bm, 0, none⟩), .pointer (some ⟨bb, 0, none⟩), .pointer (some ⟨bs, 0, none⟩)] where
 eg := enters_of Tryd.func31 (by kernel_rfl) rfl
 st := fun s X W W' h hk => h.st hk
 mo := fun s X X' W h hx => h.mo hx
 laid := fun s X W h => h.laid.below h.below
 call := by
  intro k s c l r X v1 A2 c2 W hI hX h hr hc hlc
  unfold vHalf at h
  by_cases hnil : c = []
  ·rw [if_pos hnil] at h; cases h
  rw [if_neg hnil] at h
  obtain ⟨ad, cap, rfl⟩ := row_some (w0 := w0) hr hnil
  have hcC := (Kd.R_reads' hr).2.2
  have HW := Aside0.mk (Kd.R_reads' hr).2.1
  have HR := Aside0.mk hr
  have HC := Aside0.mk hcC
  have HI := Aside0.mk hI
  have HX := Aside0.mk hX
  have HB0 := Aside0.mk hB
  have HN := Aside0.mk hnil
  have HB := Aside0.mk (Below.refl W.heap.size W)
  have heq := eq_nil
  clear hr hX hB hnil hcC
  show Calls Tryd.prog 31 #[.slice (some ad) c.length cap, .slice A2 l.length c2, .pointer (some ⟨bw, 0, none⟩), .pointer (some ⟨bh, 0, none⟩), .pointer (some ⟨bm, 0, none⟩), .pointer (some ⟨bb, 0, none⟩), .pointer (some ⟨bs, 0, none⟩)] W _
  by_cases c1 : (l.length : Int) = 2
  ·rw [if_pos c1] at h
   have c1b0 : ((l.length : Int) == 2) = true := beq_iff_eq.mpr c1
   have q0 : (0 < l.length) = True := eq_true (by omega)
   have q1 : (1 < l.length) = True := eq_true (by omega)
   have q2 : ((0 : Int) < (l.length : Int)) = True := eq_true (by omega)
   have q3 : ((1 : Int) < (l.length : Int)) = True := eq_true (by omega)
   have q4 : ((0 : Int) ≤ 0) = True := eq_true (by omega)
   have q5 : ((0 : Int) ≤ 1) = True := eq_true (by omega)
   have b2 : decide ((0 : Int) < (l.length : Int)) = true := decide_eq_true (by omega)
   have b3 : decide ((1 : Int) < (l.length : Int)) = true := decide_eq_true (by omega)
   have b4 : decide (0 < l.length) = true := decide_eq_true (by omega)
   have b5 : decide (1 < l.length) = true := decide_eq_true (by omega)
   obtain ⟨ad2, rfl, hx4⟩ := Kd.at_int hc 0 (by omega) (by omega)
   obtain ⟨ad3, e3, hx5⟩ := Kd.at_int hc 1 (by omega) (by omega)
   obtain rfl : ad2 = ad3 := by injection e3
   clear e3
   (try rw [show ((0 : Int)).toNat = 0 from rfl] at hx4); (try rw [Addr.add_zero'] at hx4)
   (try simp only [show (1 : Int).toNat = 1 from rfl, Nat.reduceMul, Nat.reduceEqDiff, Go.Addr.add, ↓reduceIte] at hx5)
   replace h := Option.bind_eq_some_iff.mp h
   obtain ⟨t, ht, h⟩ := h
   replace h := Option.bind_eq_some_iff.mp h
   obtain ⟨u, hu, h⟩ := h
   have HT := Aside0.mk ht
   have HU := Aside0.mk hu
   clear hc ht hu c1
   by_cases c3 : t = u
   ·rw [if_pos c3] at h
    have c3b0 : (t == u) = true := beq_iff_eq.mpr c3
    clear c3
    replace h := Option.bind_eq_some_iff.mp h
    obtain ⟨n, hn, h⟩ := h
    have HL := Aside0.mk hn
    clear hn
    obtain rfl := Option.some.inj h
    clear h
    have hx1 := hI.pw
    have hx2 := hI.ph
    have hx3 := hI.pm
    clear hI
    by_cases c4 : s.1 = []
    ·rw [if_pos (Or.inl c4)]
     have HS := Aside0.mk c4
     clear c4
     go_enter Tryd.func31, Tryd.ntmps31
     go_wp2_with (first | (go_at_call 32; (with_reducible refine (bits_OnesCount.calls (IntKind.u64.wrap (rd l 0)) t _ HT.out).mono ?_); rintro e w' ⟨rfl, ⟨nd, rfl⟩⟩; (try first | exact ⟨rfl, _, World.drewN_drewN _ _ _⟩ | exact ⟨rfl, _, Eq.trans (World.drewN_drewN _ _ _) (congrArg (World.drewN _) (Nat.add_assoc _ _ _))⟩)) | (go_at_call 32; (with_reducible refine (bits_OnesCount.calls (IntKind.u64.wrap (rd l 1)) u _ HU.out).mono ?_); rintro e w' ⟨rfl, ⟨nd, rfl⟩⟩; (try first | exact ⟨rfl, _, World.drewN_drewN _ _ _⟩ | exact ⟨rfl, _, Eq.trans (World.drewN_drewN _ _ _) (congrArg (World.drewN _) (Nat.add_assoc _ _ _))⟩)) | (go_at_call 33; (with_reducible refine (impl_cutLength.calls k a0 a1 a2 _ _ c n _ ?side1 ?side2 HL.out).mono ?_); (case side1 => repeat (first | exact (by repeat (first | (with_reducible exact HC.out) | (with_reducible refine Kd.C_alloc ?_ _) | (with_reducible refine Kd.C_drewN ?_ _) | (with_reducible refine Kd.C_drew ?_) | exact HC.out)) | (with_reducible refine Kd.C_alloc ?_ _) | (with_reducible refine Kd.C_drewN ?_ _) | (with_reducible refine Kd.C_drew ?_))); (case side2 => exact HW.out); rintro e w1 ⟨rfl, hb⟩; have HB1 := Aside0.mk (below_step (by repeat (with_reducible first | exact HB.out | apply below_alloc | apply pw_below_drewN | apply below_drew1)) hb); clear hb HB; have HI1 := Aside0.mk (HI.out.st (Keeps.of_below HB1.out)); clear HI hx1 hx2 hx3 hx4 hx5; obtain ⟨v, hv⟩ := HI1.out.a; have HK := Aside0.mk hv; clear hv; have hx6 := HK.out.cell; have hf6 := HK.out.fro; have hx7 := HI1.out.sc; have hf7 := HI1.out.sf; have hv0 := HK.out.nil HS.out; subst hv0) | ((with_reducible refine gate_store (t := 24) (p := 5) rfl ?_); refine store_event (by rfl) (t := 24) (p := 5) (v := .tmp 39) (w1 := w1.setCell ⟨bb, 0, none⟩ (.slice (some ad) c.length cap)) rfl rfl ?hr ?_; (case hr => first | (go_simp; done) | (go_simp; rfl)); intro w2 hw; have HW2 := Aside0.mk hw; clear hx6 hf6; have k1 := Keeps.of_set (w := w1) (b := bb) (j := 0) (v := .slice (some ad) c.length cap); rw [← hw] at k1; replace hx7 := k1.cell hx7 HI1.out.ne.2.2.2.1; replace hf7 := k1.frozen HI1.out.sc HI1.out.ne.2.2.2.1 hf7; clear hw k1) | ((with_reducible refine gate_store (t := 3) (p := 6) rfl ?_); refine store_event (by rfl) (t := 3) (p := 6) (v := .tmp 40) (w1 := w2.setCell ⟨bs, 0, none⟩ (.int .i64 n)) rfl rfl ?hr ?_; (case hr => first | (go_simp; done) | (go_simp; rfl)); intro w3 hw; have HW3 := Aside0.mk hw; clear hw hx7 hf7))
     repeat (go_quiet (first | (go_at_call 32; (with_reducible refine (bits_OnesCount.calls (IntKind.u64.wrap (rd l 0)) t _ HT.out).mono ?_); rintro e w' ⟨rfl, ⟨nd, rfl⟩⟩; (try first | exact ⟨rfl, _, World.drewN_drewN _ _ _⟩ | exact ⟨rfl, _, Eq.trans (World.drewN_drewN _ _ _) (congrArg (World.drewN _) (Nat.add_assoc _ _ _))⟩)) | (go_at_call 32; (with_reducible refine (bits_OnesCount.calls (IntKind.u64.wrap (rd l 1)) u _ HU.out).mono ?_); rintro e w' ⟨rfl, ⟨nd, rfl⟩⟩; (try first | exact ⟨rfl, _, World.drewN_drewN _ _ _⟩ | exact ⟨rfl, _, Eq.trans (World.drewN_drewN _ _ _) (congrArg (World.drewN _) (Nat.add_assoc _ _ _))⟩)) | (go_at_call 33; (with_reducible refine (impl_cutLength.calls k a0 a1 a2 _ _ c n _ ?side1 ?side2 HL.out).mono ?_); (case side1 => repeat (first | exact (by repeat (first | (with_reducible exact HC.out) | (with_reducible refine Kd.C_alloc ?_ _) | (with_reducible refine Kd.C_drewN ?_ _) | (with_reducible refine Kd.C_drew ?_) | exact HC.out)) | (with_reducible refine Kd.C_alloc ?_ _) | (with_reducible refine Kd.C_drewN ?_ _) | (with_reducible refine Kd.C_drew ?_))); (case side2 => exact HW.out); rintro e w1 ⟨rfl, hb⟩; have HB1 := Aside0.mk (below_step (by repeat (with_reducible first | exact HB.out | apply below_alloc | apply pw_below_drewN | apply below_drew1)) hb); clear hb HB; have HI1 := Aside0.mk (HI.out.st (Keeps.of_below HB1.out)); clear HI hx1 hx2 hx3 hx4 hx5; obtain ⟨v, hv⟩ := HI1.out.a; have HK := Aside0.mk hv; clear hv; have hx6 := HK.out.cell; have hf6 := HK.out.fro; have hx7 := HI1.out.sc; have hf7 := HI1.out.sf; have hv0 := HK.out.nil HS.out; subst hv0) | ((with_reducible refine gate_store (t := 24) (p := 5) rfl ?_); refine store_event (by rfl) (t := 24) (p := 5) (v := .tmp 39) (w1 := w1.setCell ⟨bb, 0, none⟩ (.slice (some ad) c.length cap)) rfl rfl ?hr ?_; (case hr => first | (go_simp; done) | (go_simp; rfl)); intro w2 hw; have HW2 := Aside0.mk hw; clear hx6 hf6; have k1 := Keeps.of_set (w := w1) (b := bb) (j := 0) (v := .slice (some ad) c.length cap); rw [← hw] at k1; replace hx7 := k1.cell hx7 HI1.out.ne.2.2.2.1; replace hf7 := k1.frozen HI1.out.sc HI1.out.ne.2.2.2.1 hf7; clear hw k1) | ((with_reducible refine gate_store (t := 3) (p := 6) rfl ?_); refine store_event (by rfl) (t := 3) (p := 6) (v := .tmp 40) (w1 := w2.setCell ⟨bs, 0, none⟩ (.int .i64 n)) rfl rfl ?hr ?_; (case hr => first | (go_simp; done) | (go_simp; rfl)); intro w3 hw; have HW3 := Aside0.mk hw; clear hw hx7 hf7)); try go_wp2_with (first | (go_at_call 32; (with_reducible refine (bits_OnesCount.calls (IntKind.u64.wrap (rd l 0)) t _ HT.out).mono ?_); rintro e w' ⟨rfl, ⟨nd, rfl⟩⟩; (try first | exact ⟨rfl, _, World.drewN_drewN _ _ _⟩ | exact ⟨rfl, _, Eq.trans (World.drewN_drewN _ _ _) (congrArg (World.drewN _) (Nat.add_assoc _ _ _))⟩)) | (go_at_call 32; (with_reducible refine (bits_OnesCount.calls (IntKind.u64.wrap (rd l 1)) u _ HU.out).mono ?_); rintro e w' ⟨rfl, ⟨nd, rfl⟩⟩; (try first | exact ⟨rfl, _, World.drewN_drewN _ _ _⟩ | exact ⟨rfl, _, Eq.trans (World.drewN_drewN _ _ _) (congrArg (World.drewN _) (Nat.add_assoc _ _ _))⟩)) | (go_at_call 33; (with_reducible refine (impl_cutLength.calls k a0 a1 a2 _ _ c n _ ?side1 ?side2 HL.out).mono ?_); (case side1 => repeat (first | exact (by repeat (first | (with_reducible exact HC.out) | (with_reducible refine Kd.C_alloc ?_ _) | (with_reducible refine Kd.C_drewN ?_ _) | (with_reducible refine Kd.C_drew ?_) | exact HC.out)) | (with_reducible refine Kd.C_alloc ?_ _) | (with_reducible refine Kd.C_drewN ?_ _) | (with_reducible refine Kd.C_drew ?_))); (case side2 => exact HW.out); rintro e w1 ⟨rfl, hb⟩; have HB1 := Aside0.mk (below_step (by repeat (with_reducible first | exact HB.out | apply below_alloc | apply pw_below_drewN | apply below_drew1)) hb); clear hb HB; have HI1 := Aside0.mk (HI.out.st (Keeps.of_below HB1.out)); clear HI hx1 hx2 hx3 hx4 hx5; obtain ⟨v, hv⟩ := HI1.out.a; have HK := Aside0.mk hv; clear hv; have hx6 := HK.out.cell; have hf6 := HK.out.fro; have hx7 := HI1.out.sc; have hf7 := HI1.out.sf; have hv0 := HK.out.nil HS.out; subst hv0) | ((with_reducible refine gate_store (t := 24) (p := 5) rfl ?_); refine store_event (by rfl) (t := 24) (p := 5) (v := .tmp 39) (w1 := w1.setCell ⟨bb, 0, none⟩ (.slice (some ad) c.length cap)) rfl rfl ?hr ?_; (case hr => first | (go_simp; done) | (go_simp; rfl)); intro w2 hw; have HW2 := Aside0.mk hw; clear hx6 hf6; have k1 := Keeps.of_set (w := w1) (b := bb) (j := 0) (v := .slice (some ad) c.length cap); rw [← hw] at k1; replace hx7 := k1.cell hx7 HI1.out.ne.2.2.2.1; replace hf7 := k1.frozen HI1.out.sc HI1.out.ne.2.2.2.1 hf7; clear hw k1) | ((with_reducible refine gate_store (t := 3) (p := 6) rfl ?_); refine store_event (by rfl) (t := 3) (p := 6) (v := .tmp 40) (w1 := w2.setCell ⟨bs, 0, none⟩ (.int .i64 n)) rfl rfl ?hr ?_; (case hr => first | (go_simp; done) | (go_simp; rfl)); intro w3 hw; have HW3 := Aside0.mk hw; clear hw hx7 hf7)))
     first | go_ret | go_ret2
     have hk0 : Keeps (fun _ => False) W w1 := Keeps.of_below HB1.out
     have hp := HI1.out.put (n := n) (hk0.row HR.out (fun _ _ h => h)) HB0.out HN.out
     rw [← HW2.out, ← HW3.out] at hp
     exact ⟨rfl, hp.1, (hk0.mono (fun _ h => h.elim)).trans hp.2⟩
    ·have HS := Aside0.mk c4
     by_cases c5 : n < s.2
     ·rw [if_pos (Or.inr c5)]
      have c5b0 : decide (n < s.2) = true := decide_eq_true c5
      clear c4 c5
      go_enter Tryd.func31, Tryd.ntmps31
      go_wp2_with (first | (go_at_call 32; (with_reducible refine (bits_OnesCount.calls (IntKind.u64.wrap (rd l 0)) t _ HT.out).mono ?_); rintro e w' ⟨rfl, ⟨nd, rfl⟩⟩; (try first | exact ⟨rfl, _, World.drewN_drewN _ _ _⟩ | exact ⟨rfl, _, Eq.trans (World.drewN_drewN _ _ _) (congrArg (World.drewN _) (Nat.add_assoc _ _ _))⟩)) | (go_at_call 32; (with_reducible refine (bits_OnesCount.calls (IntKind.u64.wrap (rd l 1)) u _ HU.out).mono ?_); rintro e w' ⟨rfl, ⟨nd, rfl⟩⟩; (try first | exact ⟨rfl, _, World.drewN_drewN _ _ _⟩ | exact ⟨rfl, _, Eq.trans (World.drewN_drewN _ _ _) (congrArg (World.drewN _) (Nat.add_assoc _ _ _))⟩)) | (go_at_call 33; (with_reducible refine (impl_cutLength.calls k a0 a1 a2 _ _ c n _ ?side1 ?side2 HL.out).mono ?_); (case side1 => repeat (first | exact (by repeat (first | (with_reducible exact HC.out) | (with_reducible refine Kd.C_alloc ?_ _) | (with_reducible refine Kd.C_drewN ?_ _) | (with_reducible refine Kd.C_drew ?_) | exact HC.out)) | (with_reducible refine Kd.C_alloc ?_ _) | (with_reducible refine Kd.C_drewN ?_ _) | (with_reducible refine Kd.C_drew ?_))); (case side2 => exact HW.out); rintro e w1 ⟨rfl, hb⟩; have HB1 := Aside0.mk (below_step (by repeat (with_reducible first | exact HB.out | apply below_alloc | apply pw_below_drewN | apply below_drew1)) hb); clear hb HB; have HI1 := Aside0.mk (HI.out.st (Keeps.of_below HB1.out)); clear HI hx1 hx2 hx3 hx4 hx5; obtain ⟨v, hv⟩ := HI1.out.a; have HK := Aside0.mk hv; clear hv; have hx6 := HK.out.cell; have hf6 := HK.out.fro; have hx7 := HI1.out.sc; have hf7 := HI1.out.sf; obtain ⟨ad4, cap4, rfl⟩ := row_some (w0 := w0) HK.out.row HS.out) | ((with_reducible refine gate_store (t := 24) (p := 5) rfl ?_); refine store_event (by rfl) (t := 24) (p := 5) (v := .tmp 39) (w1 := w1.setCell ⟨bb, 0, none⟩ (.slice (some ad) c.length cap)) rfl rfl ?hr ?_; (case hr => first | (go_simp; done) | (go_simp; rfl)); intro w2 hw; have HW2 := Aside0.mk hw; clear hx6 hf6; have k1 := Keeps.of_set (w := w1) (b := bb) (j := 0) (v := .slice (some ad) c.length cap); rw [← hw] at k1; replace hx7 := k1.cell hx7 HI1.out.ne.2.2.2.1; replace hf7 := k1.frozen HI1.out.sc HI1.out.ne.2.2.2.1 hf7; clear hw k1) | ((with_reducible refine gate_store (t := 3) (p := 6) rfl ?_); refine store_event (by rfl) (t := 3) (p := 6) (v := .tmp 40) (w1 := w2.setCell ⟨bs, 0, none⟩ (.int .i64 n)) rfl rfl ?hr ?_; (case hr => first | (go_simp; done) | (go_simp; rfl)); intro w3 hw; have HW3 := Aside0.mk hw; clear hw hx7 hf7))
      repeat (go_quiet (first | (go_at_call 32; (with_reducible refine (bits_OnesCount.calls (IntKind.u64.wrap (rd l 0)) t _ HT.out).mono ?_); rintro e w' ⟨rfl, ⟨nd, rfl⟩⟩; (try first | exact ⟨rfl, _, World.drewN_drewN _ _ _⟩ | exact ⟨rfl, _, Eq.trans (World.drewN_drewN _ _ _) (congrArg (World.drewN _) (Nat.add_assoc _ _ _))⟩)) | (go_at_call 32; (with_reducible refine (bits_OnesCount.calls (IntKind.u64.wrap (rd l 1)) u _ HU.out).mono ?_); rintro e w' ⟨rfl, ⟨nd, rfl⟩⟩; (try first | exact ⟨rfl, _, World.drewN_drewN _ _ _⟩ | exact ⟨rfl, _, Eq.trans (World.drewN_drewN _ _ _) (congrArg (World.drewN _) (Nat.add_assoc _ _ _))⟩)) | (go_at_call 33; (with_reducible refine (impl_cutLength.calls k a0 a1 a2 _ _ c n _ ?side1 ?side2 HL.out).mono ?_); (case side1 => repeat (first | exact (by repeat (first | (with_reducible exact HC.out) | (with_reducible refine Kd.C_alloc ?_ _) | (with_reducible refine Kd.C_drewN ?_ _) | (with_reducible refine Kd.C_drew ?_) | exact HC.out)) | (with_reducible refine Kd.C_alloc ?_ _) | (with_reducible refine Kd.C_drewN ?_ _) | (with_reducible refine Kd.C_drew ?_))); (case side2 => exact HW.out); rintro e w1 ⟨rfl, hb⟩; have HB1 := Aside0.mk (below_step (by repeat (with_reducible first | exact HB.out | apply below_alloc | apply pw_below_drewN | apply below_drew1)) hb); clear hb HB; have HI1 := Aside0.mk (HI.out.st (Keeps.of_below HB1.out)); clear HI hx1 hx2 hx3 hx4 hx5; obtain ⟨v, hv⟩ := HI1.out.a; have HK := Aside0.mk hv; clear hv; have hx6 := HK.out.cell; have hf6 := HK.out.fro; have hx7 := HI1.out.sc; have hf7 := HI1.out.sf; obtain ⟨ad4, cap4, rfl⟩ := row_some (w0 := w0) HK.out.row HS.out) | ((with_reducible refine gate_store (t := 24) (p := 5) rfl ?_); refine store_event (by rfl) (t := 24) (p := 5) (v := .tmp 39) (w1 := w1.setCell ⟨bb, 0, none⟩ (.slice (some ad) c.length cap)) rfl rfl ?hr ?_; (case hr => first | (go_simp; done) | (go_simp; rfl)); intro w2 hw; have HW2 := Aside0.mk hw; clear hx6 hf6; have k1 := Keeps.of_set (w := w1) (b := bb) (j := 0) (v := .slice (some ad) c.length cap); rw [← hw] at k1; replace hx7 := k1.cell hx7 HI1.out.ne.2.2.2.1; replace hf7 := k1.frozen HI1.out.sc HI1.out.ne.2.2.2.1 hf7; clear hw k1) | ((with_reducible refine gate_store (t := 3) (p := 6) rfl ?_); refine store_event (by rfl) (t := 3) (p := 6) (v := .tmp 40) (w1 := w2.setCell ⟨bs, 0, none⟩ (.int .i64 n)) rfl rfl ?hr ?_; (case hr => first | (go_simp; done) | (go_simp; rfl)); intro w3 hw; have HW3 := Aside0.mk hw; clear hw hx7 hf7)); try go_wp2_with (first | (go_at_call 32; (with_reducible refine (bits_OnesCount.calls (IntKind.u64.wrap (rd l 0)) t _ HT.out).mono ?_); rintro e w' ⟨rfl, ⟨nd, rfl⟩⟩; (try first | exact ⟨rfl, _, World.drewN_drewN _ _ _⟩ | exact ⟨rfl, _, Eq.trans (World.drewN_drewN _ _ _) (congrArg (World.drewN _) (Nat.add_assoc _ _ _))⟩)) | (go_at_call 32; (with_reducible refine (bits_OnesCount.calls (IntKind.u64.wrap (rd l 1)) u _ HU.out).mono ?_); rintro e w' ⟨rfl, ⟨nd, rfl⟩⟩; (try first | exact ⟨rfl, _, World.drewN_drewN _ _ _⟩ | exact ⟨rfl, _, Eq.trans (World.drewN_drewN _ _ _) (congrArg (World.drewN _) (Nat.add_assoc _ _ _))⟩)) | (go_at_call 33; (with_reducible refine (impl_cutLength.calls k a0 a1 a2 _ _ c n _ ?side1 ?side2 HL.out).mono ?_); (case side1 => repeat (first | exact (by repeat (first | (with_reducible exact HC.out) | (with_reducible refine Kd.C_alloc ?_ _) | (with_reducible refine Kd.C_drewN ?_ _) | (with_reducible refine Kd.C_drew ?_) | exact HC.out)) | (with_reducible refine Kd.C_alloc ?_ _) | (with_reducible refine Kd.C_drewN ?_ _) | (with_reducible refine Kd.C_drew ?_))); (case side2 => exact HW.out); rintro e w1 ⟨rfl, hb⟩; have HB1 := Aside0.mk (below_step (by repeat (with_reducible first | exact HB.out | apply below_alloc | apply pw_below_drewN | apply below_drew1)) hb); clear hb HB; have HI1 := Aside0.mk (HI.out.st (Keeps.of_below HB1.out)); clear HI hx1 hx2 hx3 hx4 hx5; obtain ⟨v, hv⟩ := HI1.out.a; have HK := Aside0.mk hv; clear hv; have hx6 := HK.out.cell; have hf6 := HK.out.fro; have hx7 := HI1.out.sc; have hf7 := HI1.out.sf; obtain ⟨ad4, cap4, rfl⟩ := row_some (w0 := w0) HK.out.row HS.out) | ((with_reducible refine gate_store (t := 24) (p := 5) rfl ?_); refine store_event (by rfl) (t := 24) (p := 5) (v := .tmp 39) (w1 := w1.setCell ⟨bb, 0, none⟩ (.slice (some ad) c.length cap)) rfl rfl ?hr ?_; (case hr => first | (go_simp; done) | (go_simp; rfl)); intro w2 hw; have HW2 := Aside0.mk hw; clear hx6 hf6; have k1 := Keeps.of_set (w := w1) (b := bb) (j := 0) (v := .slice (some ad) c.length cap); rw [← hw] at k1; replace hx7 := k1.cell hx7 HI1.out.ne.2.2.2.1; replace hf7 := k1.frozen HI1.out.sc HI1.out.ne.2.2.2.1 hf7; clear hw k1) | ((with_reducible refine gate_store (t := 3) (p := 6) rfl ?_); refine store_event (by rfl) (t := 3) (p := 6) (v := .tmp 40) (w1 := w2.setCell ⟨bs, 0, none⟩ (.int .i64 n)) rfl rfl ?hr ?_; (case hr => first | (go_simp; done) | (go_simp; rfl)); intro w3 hw; have HW3 := Aside0.mk hw; clear hw hx7 hf7)))
      first | go_ret | go_ret2
      have hk0 : Keeps (fun _ => False) W w1 := Keeps.of_below HB1.out
      have hp := HI1.out.put (n := n) (hk0.row HR.out (fun _ _ h => h)) HB0.out HN.out
      rw [← HW2.out, ← HW3.out] at hp
      exact ⟨rfl, hp.1, (hk0.mono (fun _ h => h.elim)).trans hp.2⟩
     ·rw [if_neg (fun h => h.elim c4 c5)]
      have c5b0 : decide (n < s.2) = false := decide_eq_false c5
      clear c4 c5
      go_enter Tryd.func31, Tryd.ntmps31
      go_wp2_with (first | (go_at_call 32; (with_reducible refine (bits_OnesCount.calls (IntKind.u64.wrap (rd l 0)) t _ HT.out).mono ?_); rintro e w' ⟨rfl, ⟨nd, rfl⟩⟩; (try first | exact ⟨rfl, _, World.drewN_drewN _ _ _⟩ | exact ⟨rfl, _, Eq.trans (World.drewN_drewN _ _ _) (congrArg (World.drewN _) (Nat.add_assoc _ _ _))⟩)) | (go_at_call 32; (with_reducible refine (bits_OnesCount.calls (IntKind.u64.wrap (rd l 1)) u _ HU.out).mono ?_); rintro e w' ⟨rfl, ⟨nd, rfl⟩⟩; (try first | exact ⟨rfl, _, World.drewN_drewN _ _ _⟩ | exact ⟨rfl, _, Eq.trans (World.drewN_drewN _ _ _) (congrArg (World.drewN _) (Nat.add_assoc _ _ _))⟩)) | (go_at_call 33; (with_reducible refine (impl_cutLength.calls k a0 a1 a2 _ _ c n _ ?side1 ?side2 HL.out).mono ?_); (case side1 => repeat (first | exact (by repeat (first | (with_reducible exact HC.out) | (with_reducible refine Kd.C_alloc ?_ _) | (with_reducible refine Kd.C_drewN ?_ _) | (with_reducible refine Kd.C_drew ?_) | exact HC.out)) | (with_reducible refine Kd.C_alloc ?_ _) | (with_reducible refine Kd.C_drewN ?_ _) | (with_reducible refine Kd.C_drew ?_))); (case side2 => exact HW.out); rintro e w1 ⟨rfl, hb⟩; have HB1 := Aside0.mk (below_step (by repeat (with_reducible first | exact HB.out | apply below_alloc | apply pw_below_drewN | apply below_drew1)) hb); clear hb HB; have HI1 := Aside0.mk (HI.out.st (Keeps.of_below HB1.out)); clear HI hx1 hx2 hx3 hx4 hx5; obtain ⟨v, hv⟩ := HI1.out.a; have HK := Aside0.mk hv; clear hv; have hx6 := HK.out.cell; have hf6 := HK.out.fro; have hx7 := HI1.out.sc; have hf7 := HI1.out.sf; obtain ⟨ad4, cap4, rfl⟩ := row_some (w0 := w0) HK.out.row HS.out))
      repeat (go_quiet (first | (go_at_call 32; (with_reducible refine (bits_OnesCount.calls (IntKind.u64.wrap (rd l 0)) t _ HT.out).mono ?_); rintro e w' ⟨rfl, ⟨nd, rfl⟩⟩; (try first | exact ⟨rfl, _, World.drewN_drewN _ _ _⟩ | exact ⟨rfl, _, Eq.trans (World.drewN_drewN _ _ _) (congrArg (World.drewN _) (Nat.add_assoc _ _ _))⟩)) | (go_at_call 32; (with_reducible refine (bits_OnesCount.calls (IntKind.u64.wrap (rd l 1)) u _ HU.out).mono ?_); rintro e w' ⟨rfl, ⟨nd, rfl⟩⟩; (try first | exact ⟨rfl, _, World.drewN_drewN _ _ _⟩ | exact ⟨rfl, _, Eq.trans (World.drewN_drewN _ _ _) (congrArg (World.drewN _) (Nat.add_assoc _ _ _))⟩)) | (go_at_call 33; (with_reducible refine (impl_cutLength.calls k a0 a1 a2 _ _ c n _ ?side1 ?side2 HL.out).mono ?_); (case side1 => repeat (first | exact (by repeat (first | (with_reducible exact HC.out) | (with_reducible refine Kd.C_alloc ?_ _) | (with_reducible refine Kd.C_drewN ?_ _) | (with_reducible refine Kd.C_drew ?_) | exact HC.out)) | (with_reducible refine Kd.C_alloc ?_ _) | (with_reducible refine Kd.C_drewN ?_ _) | (with_reducible refine Kd.C_drew ?_))); (case side2 => exact HW.out); rintro e w1 ⟨rfl, hb⟩; have HB1 := Aside0.mk (below_step (by repeat (with_reducible first | exact HB.out | apply below_alloc | apply pw_below_drewN | apply below_drew1)) hb); clear hb HB; have HI1 := Aside0.mk (HI.out.st (Keeps.of_below HB1.out)); clear HI hx1 hx2 hx3 hx4 hx5; obtain ⟨v, hv⟩ := HI1.out.a; have HK := Aside0.mk hv; clear hv; have hx6 := HK.out.cell; have hf6 := HK.out.fro; have hx7 := HI1.out.sc; have hf7 := HI1.out.sf; obtain ⟨ad4, cap4, rfl⟩ := row_some (w0 := w0) HK.out.row HS.out)); try go_wp2_with (first | (go_at_call 32; (with_reducible refine (bits_OnesCount.calls (IntKind.u64.wrap (rd l 0)) t _ HT.out).mono ?_); rintro e w' ⟨rfl, ⟨nd, rfl⟩⟩; (try first | exact ⟨rfl, _, World.drewN_drewN _ _ _⟩ | exact ⟨rfl, _, Eq.trans (World.drewN_drewN _ _ _) (congrArg (World.drewN _) (Nat.add_assoc _ _ _))⟩)) | (go_at_call 32; (with_reducible refine (bits_OnesCount.calls (IntKind.u64.wrap (rd l 1)) u _ HU.out).mono ?_); rintro e w' ⟨rfl, ⟨nd, rfl⟩⟩; (try first | exact ⟨rfl, _, World.drewN_drewN _ _ _⟩ | exact ⟨rfl, _, Eq.trans (World.drewN_drewN _ _ _) (congrArg (World.drewN _) (Nat.add_assoc _ _ _))⟩)) | (go_at_call 33; (with_reducible refine (impl_cutLength.calls k a0 a1 a2 _ _ c n _ ?side1 ?side2 HL.out).mono ?_); (case side1 => repeat (first | exact (by repeat (first | (with_reducible exact HC.out) | (with_reducible refine Kd.C_alloc ?_ _) | (with_reducible refine Kd.C_drewN ?_ _) | (with_reducible refine Kd.C_drew ?_) | exact HC.out)) | (with_reducible refine Kd.C_alloc ?_ _) | (with_reducible refine Kd.C_drewN ?_ _) | (with_reducible refine Kd.C_drew ?_))); (case side2 => exact HW.out); rintro e w1 ⟨rfl, hb⟩; have HB1 := Aside0.mk (below_step (by repeat (with_reducible first | exact HB.out | apply below_alloc | apply pw_below_drewN | apply below_drew1)) hb); clear hb HB; have HI1 := Aside0.mk (HI.out.st (Keeps.of_below HB1.out)); clear HI hx1 hx2 hx3 hx4 hx5; obtain ⟨v, hv⟩ := HI1.out.a; have HK := Aside0.mk hv; clear hv; have hx6 := HK.out.cell; have hf6 := HK.out.fro; have hx7 := HI1.out.sc; have hf7 := HI1.out.sf; obtain ⟨ad4, cap4, rfl⟩ := row_some (w0 := w0) HK.out.row HS.out)))
      first | go_ret | go_ret2
      exact ⟨rfl, HI1.out, Keeps.of_below HB1.out⟩
   ·rw [if_neg c3] at h
    have c3b0 : (t == u) = false := beq_eq_false_iff_ne.mpr c3
    clear c3
    obtain rfl := Option.some.inj h
    clear h hI
    go_enter Tryd.func31, Tryd.ntmps31
    go_wp2_with (first | (go_at_call 32; (with_reducible refine (bits_OnesCount.calls (IntKind.u64.wrap (rd l 0)) t _ HT.out).mono ?_); rintro e w' ⟨rfl, ⟨nd, rfl⟩⟩; (try first | exact ⟨rfl, _, World.drewN_drewN _ _ _⟩ | exact ⟨rfl, _, Eq.trans (World.drewN_drewN _ _ _) (congrArg (World.drewN _) (Nat.add_assoc _ _ _))⟩)) | (go_at_call 32; (with_reducible refine (bits_OnesCount.calls (IntKind.u64.wrap (rd l 1)) u _ HU.out).mono ?_); rintro e w' ⟨rfl, ⟨nd, rfl⟩⟩; (try first | exact ⟨rfl, _, World.drewN_drewN _ _ _⟩ | exact ⟨rfl, _, Eq.trans (World.drewN_drewN _ _ _) (congrArg (World.drewN _) (Nat.add_assoc _ _ _))⟩)))
    repeat (go_quiet (first | (go_at_call 32; (with_reducible refine (bits_OnesCount.calls (IntKind.u64.wrap (rd l 0)) t _ HT.out).mono ?_); rintro e w' ⟨rfl, ⟨nd, rfl⟩⟩; (try first | exact ⟨rfl, _, World.drewN_drewN _ _ _⟩ | exact ⟨rfl, _, Eq.trans (World.drewN_drewN _ _ _) (congrArg (World.drewN _) (Nat.add_assoc _ _ _))⟩)) | (go_at_call 32; (with_reducible refine (bits_OnesCount.calls (IntKind.u64.wrap (rd l 1)) u _ HU.out).mono ?_); rintro e w' ⟨rfl, ⟨nd, rfl⟩⟩; (try first | exact ⟨rfl, _, World.drewN_drewN _ _ _⟩ | exact ⟨rfl, _, Eq.trans (World.drewN_drewN _ _ _) (congrArg (World.drewN _) (Nat.add_assoc _ _ _))⟩))); try go_wp2_with (first | (go_at_call 32; (with_reducible refine (bits_OnesCount.calls (IntKind.u64.wrap (rd l 0)) t _ HT.out).mono ?_); rintro e w' ⟨rfl, ⟨nd, rfl⟩⟩; (try first | exact ⟨rfl, _, World.drewN_drewN _ _ _⟩ | exact ⟨rfl, _, Eq.trans (World.drewN_drewN _ _ _) (congrArg (World.drewN _) (Nat.add_assoc _ _ _))⟩)) | (go_at_call 32; (with_reducible refine (bits_OnesCount.calls (IntKind.u64.wrap (rd l 1)) u _ HU.out).mono ?_); rintro e w' ⟨rfl, ⟨nd, rfl⟩⟩; (try first | exact ⟨rfl, _, World.drewN_drewN _ _ _⟩ | exact ⟨rfl, _, Eq.trans (World.drewN_drewN _ _ _) (congrArg (World.drewN _) (Nat.add_assoc _ _ _))⟩))))
    first | go_ret | go_ret2
    exact ⟨rfl, HI.out.st (Keeps.of_below (by repeat (with_reducible first | exact HB.out | apply below_alloc | apply pw_below_drewN | apply below_drew1))), Keeps.of_below (by repeat (with_reducible first | exact HB.out | apply below_alloc | apply pw_below_drewN | apply below_drew1))⟩
  ·rw [if_neg c1] at h
   have c1b0 : ((l.length : Int) == 2) = false := beq_eq_false_iff_ne.mpr c1
   clear c1
   obtain rfl := Option.some.inj h
   clear h hI hc
   go_enter Tryd.func31, Tryd.ntmps31
   go_wp2
   repeat (go_quiet (fail); try go_wp2)
   first | go_ret | go_ret2
   exact ⟨rfl, HI.out.st (Keeps.of_below (by repeat (with_reducible first | exact HB.out | apply below_alloc | apply pw_below_drewN | apply below_drew1))), Keeps.of_below (by repeat (with_reducible first | exact HB.out | apply below_alloc | apply pw_below_drewN | apply below_drew1))⟩
theorem half_start {w w1 : World} {a0 a1 a2 : Int} (hG : Go.Proofs.YtmjfigeikiickaaDoorLaid.LaidG w) (hd : Drawn0 (((w.alloc (Obj.cells #[Value.int .i64 a0] 3)).alloc (Obj.cells #[Value.int .i64 a1] 3)).alloc (Obj.cells #[Value.int .i64 a2] 3)) w1) :
 IHalf w w.heap.size (w.heap.size + 1) (w.heap.size + 1 + 1) w1.heap.size (w1.heap.size + 1) a0 a1 a2 ([], 0) (fun _ => False) ((w1.alloc (Obj.cells #[Value.slice none 0 0] 24)).alloc (Obj.cells #[Value.int .i64 0] 3)) ∧ w.heap.size + 3 ≤ w1.heap.size := by
 have hs := hd.below.size
 simp at hs
 have hk := Keeps.of_below (S := fun _ => False) hd.below
 have z1 : (w.alloc (Obj.cells #[Value.int .i64 a0] 3)).heap.size = w.heap.size + 1 := by simp
 have z2 : ((w.alloc (Obj.cells #[Value.int .i64 a0] 3)).alloc (Obj.cells #[Value.int .i64 a1] 3)).heap.size = w.heap.size + 1 + 1 := by simp
 have z3 : (w1.alloc (Obj.cells #[Value.slice none 0 0] 24)).heap.size = w1.heap.size + 1 := by simp
 refine ⟨⟨cell_old (cell_old (hk.cell (cell_old (cell_old (cell_new w (Value.int .i64 a0) 3 w.heap.size rfl))) (fun h => h))), cell_old (cell_old (hk.cell (cell_old (cell_new _ (Value.int .i64 a1) 3 _ z1.symm)) (fun h => h))), cell_old (cell_old (hk.cell (cell_new _ (Value.int .i64 a2) 3 _ z2.symm) (fun h => h))),
  ⟨_, cell_old (cell_new w1 (Value.slice none 0 0) 24 w1.heap.size rfl), ?_, Kd.R_of_own (own_nil _ _ _ _) (fun k hk => by simp [Value.ownBlock] at hk), fun _ => rfl⟩, cell_new _ (Value.int .i64 0) 3 _ z3.symm, frozen_new _ (Value.int .i64 0) 3 _ z3.symm, ⟨fun h => h, fun h => h, fun h => h, fun h => h, fun h => h⟩, hG,
  below_alloc (below_alloc (below_step (below_alloc (below_alloc (below_alloc (Below.refl w.heap.size w) _) _) _) hd.below) _) _, fun _ h => h.elim, ⟨by omega, by omega⟩, by omega⟩, by omega⟩
 exact (Keeps.of_below (S := fun _ => False) (below_alloc (Below.refl (w1.alloc (Obj.cells #[Value.slice none 0 0] 24)).heap.size (w1.alloc (Obj.cells #[Value.slice none 0 0] 24))) _)).frozen (cell_new w1 (Value.slice none 0 0) 24 w1.heap.size rfl) (fun h => h) (frozen_new w1 (Value.slice none 0 0) 24 w1.heap.size rfl)
/-! ### impl_BestHalves: function 16 -/
def impl_BestHalves.f (k : Nat) (a0 a1 a2 : Int) : Option (List Int × Bool) := (impl_isCuttable.f a0 a1 a2 9).bind fun t => if t = true then ((impl_eachCut.f (vHalf a0 a1 a2) k a0 a1 a2 ([], 0)).bind fun s => some (s.1, decide (s.1 ≠ []))) else some ([], false)
set_option maxHeartbeats 4000000 in
set_option maxRecDepth 100000 in
theorem impl_BestHalves.calls (k : Nat) (a0 a1 a2 : Int) (r1 : List Int) (r2 : Bool) (w : World) (hG : Aside0 (Go.Proofs.YtmjfigeikiickaaDoorLaid.LaidG w)) (h : impl_BestHalves.f k a0 a1 a2 = some (r1, r2)) :
 Calls Tryd.prog 16 #[.int .i64 a0, .int .i64 a1, .int .i64 a2] w fun e w' => ∃ v0_ : Value, e = .returned (.tuple #[v0_, .bool r2]) ∧ Kd.R (Kd.int .i64) 3 w' w.heap.size (fun _ => True) v0_ r1 ∧ Below w.heap.size w w' := by
 unfold impl_BestHalves.f at h
 obtain ⟨t, ht, h⟩ := Option.bind_eq_some_iff.mp h
 have HT := Aside0.mk ht
 clear ht
 by_cases c : t = true
 ·subst c
  rw [if_pos rfl] at h
  replace h := Option.bind_eq_some_iff.mp h
  obtain ⟨s, hs, h⟩ := h
  have h := Option.some.inj h
  injection h with h1 h2
  subst h1
  subst h2
  have H := Aside0.mk hs
  clear hs
  have hne := ne_nil
  go_enter Tryd.func16, Tryd.ntmps16
  go_wp2_with (first
   | ((with_reducible refine gate_callee (f := 25) rfl ?_); refine goesL_ (some 13) rfl rfl Tryd.func25 (by kernel_rfl) rfl #[.int .i64 a0, .int .i64 a1, .int .i64 a2, .int .i64 9] rfl (by (try simp only [List.map_toArray, List.map_cons, List.map_nil]); first | done | rfl) ?_; (refine (impl_isCuttable.calls a0 a1 a2 9 true _ HT.out).mono ?_); rintro e w1 ⟨rfl, hd⟩; refine ⟨_, rfl, ?_⟩; have hi := half_start hG.out hd; have HZ := Aside0.mk hi.2; have HI := Aside0.mk hi.1; clear hd; have hx1 := hi.1.pw; have hx2 := hi.1.ph; have hx3 := hi.1.pm; clear hi)
   | (go_at_call 26; (refine (impl_eachCut.calls ((w1.alloc (Obj.cells #[Value.slice none 0 0] 24)).alloc (Obj.cells #[Value.int .i64 0] 3)) (half_visits w w.heap.size (w.heap.size + 1) (w.heap.size + 1 + 1) w1.heap.size (w1.heap.size + 1) _ a0 a1 a2 (by have z := HZ.out; simp; omega)) k a0 a1 a2 ([], 0) s H.out HI.out).mono ?_); rintro e w2 ⟨rfl, h2⟩; clear hx1 hx2 hx3; obtain ⟨v, hv⟩ := h2.a; have hx := hv.cell; have HV := Aside0.mk hv; have HB := Aside0.mk h2.below; clear h2 hv))
  by_cases hs : s.1 = []
  ·have hv0 := HV.out.nil hs
   subst hv0
   have hd : decide (s.1 ≠ []) = false := decide_eq_false (fun z => z hs)
   have HD := Aside0.mk hd
   clear hd
   go_quiet (fail)
   go_wp2
   first | go_ret | go_ret2
   exact ⟨.slice none 0 0, by rw [HD.out]; rfl, Kd.R_mono (by (with_reducible repeat (first | apply Kd.R_alloc | apply Kd.R_drewN | apply Kd.R_drew)); exact HV.out.row) (fun _ _ => trivial), by repeat (with_reducible first | exact HB.out | apply below_alloc | apply pw_below_drewN | apply below_drew1)⟩
  ·obtain ⟨ad2, cap2, rfl⟩ := row_some (w0 := w) HV.out.row hs
   have hd : decide (s.1 ≠ []) = true := decide_eq_true hs
   have HD := Aside0.mk hd
   clear hd
   go_quiet (fail)
   go_wp2
   first | go_ret | go_ret2
   exact ⟨.slice (some ad2) s.1.length cap2, by rw [HD.out]; rfl, Kd.R_mono (by (with_reducible repeat (first | apply Kd.R_alloc | apply Kd.R_drewN | apply Kd.R_drew)); exact HV.out.row) (fun _ _ => trivial), by repeat (with_reducible first | exact HB.out | apply below_alloc | apply pw_below_drewN | apply below_drew1)⟩
 ·replace c := Bool.eq_false_iff.mpr c
  subst c
  rw [if_neg (show ¬ (false = true) by decide)] at h
  have h := Option.some.inj h
  injection h with h1 h2
  subst h1
  subst h2
  go_enter Tryd.func16, Tryd.ntmps16
  go_wp2_with (first
   | ((with_reducible refine gate_callee (f := 25) rfl ?_); refine goesL_ (some 13) rfl rfl Tryd.func25 (by kernel_rfl) rfl #[.int .i64 a0, .int .i64 a1, .int .i64 a2, .int .i64 9] rfl (by (try simp only [List.map_toArray, List.map_cons, List.map_nil]); first | done | rfl) ?_; (refine (impl_isCuttable.calls a0 a1 a2 9 false _ HT.out).mono ?_); rintro e w1 ⟨rfl, hd⟩; refine ⟨_, rfl, ?_⟩; have HB := Aside0.mk (below_step (below_alloc (below_alloc (below_alloc (Below.refl w.heap.size w) _) _) _) hd.below); clear hd))
  first | go_ret | go_ret2
  exact ⟨_, rfl, Kd.R_of_own (own_nil _ _ _ _) (fun k hk => trivial), HB.out⟩
theorem impl_BestHalves.mono : ∀ a0 a1 a2 k, LeO (impl_BestHalves.f k a0 a1 a2) (impl_BestHalves.f (k + 1) a0 a1 a2) := by
 intro a0 a1 a2 k
 unfold impl_BestHalves.f
 refine LeO.bind (LeO.refl _) (fun _ => LeO.ite (LeO.bind (impl_eachCut.mono (fun k s c l => ?_) _ _ _ _ _) (fun _ => LeO.refl _)) (LeO.refl _))
 unfold vHalf
 refine LeO.ite (LeO.refl _) (LeO.ite (LeO.bind (LeO.refl _) (fun _ => LeO.bind (LeO.refl _) (fun _ => LeO.ite (LeO.bind (impl_cutLength.mono _ _ _ _ _) (fun _ => LeO.refl _)) (LeO.refl _)))) (LeO.refl _))

/-! ### laws_FnExactBestHalves: function 5 -/
mutual
def laws_FnExactBestHalves.j0 : Nat → Int → Int → Int → List Int → Bool → List Int → Bool → Option (Bool)
 | 0, _, _, _, _, _, _, _ => none
 | k + 1, x0, x1, x2, x7, x8, x9, x37 => if x37 = true then (some false) else ((laws_markIntS.f k x9 1).bind fun bt301 => ((laws_heldIntS.f k bt301.2 1).bind fun t303 => (if t303 < 0 then (some false) else (if t303 = bt301.1 then ((impl_BestHalves.f k x0 x1 x2).bind fun bt304 => ((laws_eqIntS.f k bt304.1 x7).bind fun t308 => (if t308 = true then (laws_FnExactBestHalves.j1 k bt301.2 bt301.1 (bt304.2 != x8)) else (laws_FnExactBestHalves.j1 k bt301.2 bt301.1 true)))) else (some false)))))
def laws_FnExactBestHalves.j1 : Nat → List Int → Int → Bool → Option (Bool)
 | 0, _, _, _ => none
 | k + 1, x9, x11, x64 => if x64 = true then (some false) else ((laws_heldIntS.f k x9 1).bind fun t309 => (if t309 < 0 then (some false) else (if t309 = x11 then (some true) else (some false))))
end
def laws_FnExactBestHalves.f (k : Nat) (a0 : Int) (a1 : Int) (a2 : Int) : Option (Bool) := (spec_BestHalves.f k a0 a1 a2).bind fun bt292 => ((impl_BestHalves.f k a0 a1 a2).bind fun bt296 => ((laws_eqIntS.f k bt296.1 bt292.1).bind fun t300 => (if t300 = true then (laws_FnExactBestHalves.j0 k a0 a1 a2 bt292.1 bt292.2 bt296.1 (bt296.2 != bt292.2)) else (laws_FnExactBestHalves.j0 k a0 a1 a2 bt292.1 bt292.2 bt296.1 true))))
theorem laws_FnExactBestHalves.mono_l : ∀ k, (∀ y0 y1 y2 y3 y4 y5 y6, LeO (laws_FnExactBestHalves.j0 k y0 y1 y2 y3 y4 y5 y6) (laws_FnExactBestHalves.j0 (k + 1) y0 y1 y2 y3 y4 y5 y6)) ∧ (∀ y0 y1 y2, LeO (laws_FnExactBestHalves.j1 k y0 y1 y2) (laws_FnExactBestHalves.j1 (k + 1) y0 y1 y2))
 | 0 => ⟨fun _ _ _ _ _ _ _ r h => by simp [laws_FnExactBestHalves.j0] at h, fun _ _ _ r h => by simp [laws_FnExactBestHalves.j1] at h⟩
 | k + 1 => by
  obtain ⟨ih0, ih1⟩ := laws_FnExactBestHalves.mono_l k
  refine ⟨?_, ?_⟩
  ·intro y0 y1 y2 y3 y4 y5 y6
   unfold laws_FnExactBestHalves.j0
   repeat' first
   | (with_reducible exact ih0 _ _ _ _ _ _ _)
   | (with_reducible exact ih1 _ _ _)
   | (with_reducible exact impl_BestHalves.mono _ _ _ _)
   | (with_reducible exact laws_eqIntS.mono _ _ _)
   | (with_reducible exact laws_heldIntS.mono _ _ _)
   | (with_reducible exact laws_markIntS.mono _ _ _)
   | (with_reducible exact spec_BestHalves.mono _ _ _ _)
   | (with_reducible exact LeO.refl _)
   | (with_reducible exact LeO.none _)
   | (with_reducible refine LeO.ite ?_ ?_)
   | (with_reducible refine LeO.bind ?_ (fun _ => ?_))
   | exact ih0 _ _ _ _ _ _ _
   | exact ih1 _ _ _
   | exact impl_BestHalves.mono _ _ _ _
   | exact laws_eqIntS.mono _ _ _
   | exact laws_heldIntS.mono _ _ _
   | exact laws_markIntS.mono _ _ _
   | exact spec_BestHalves.mono _ _ _ _
   | exact LeO.none _
   | refine LeO.ite ?_ ?_
   | refine LeO.bind ?_ (fun _ => ?_)
  ·intro y0 y1 y2
   unfold laws_FnExactBestHalves.j1
   repeat' first
   | (with_reducible exact ih0 _ _ _ _ _ _ _)
   | (with_reducible exact ih1 _ _ _)
   | (with_reducible exact impl_BestHalves.mono _ _ _ _)
   | (with_reducible exact laws_eqIntS.mono _ _ _)
   | (with_reducible exact laws_heldIntS.mono _ _ _)
   | (with_reducible exact laws_markIntS.mono _ _ _)
   | (with_reducible exact spec_BestHalves.mono _ _ _ _)
   | (with_reducible exact LeO.refl _)
   | (with_reducible exact LeO.none _)
   | (with_reducible refine LeO.ite ?_ ?_)
   | (with_reducible refine LeO.bind ?_ (fun _ => ?_))
   | exact ih0 _ _ _ _ _ _ _
   | exact ih1 _ _ _
   | exact impl_BestHalves.mono _ _ _ _
   | exact laws_eqIntS.mono _ _ _
   | exact laws_heldIntS.mono _ _ _
   | exact laws_markIntS.mono _ _ _
   | exact spec_BestHalves.mono _ _ _ _
   | exact LeO.none _
   | refine LeO.ite ?_ ?_
   | refine LeO.bind ?_ (fun _ => ?_)
theorem laws_FnExactBestHalves.mono : ∀ a0 a1 a2 k, LeO (laws_FnExactBestHalves.f k a0 a1 a2) (laws_FnExactBestHalves.f (k + 1) a0 a1 a2) := by
 intro a0 a1 a2 k
 obtain ⟨ih0, ih1⟩ := laws_FnExactBestHalves.mono_l k
 unfold laws_FnExactBestHalves.f
 repeat' first
  | (with_reducible exact ih0 _ _ _ _ _ _ _)
  | (with_reducible exact ih1 _ _ _)
  | (with_reducible exact impl_BestHalves.mono _ _ _ _)
  | (with_reducible exact laws_eqIntS.mono _ _ _)
  | (with_reducible exact laws_heldIntS.mono _ _ _)
  | (with_reducible exact laws_markIntS.mono _ _ _)
  | (with_reducible exact spec_BestHalves.mono _ _ _ _)
  | (with_reducible exact LeO.refl _)
  | (with_reducible exact LeO.none _)
  | (with_reducible refine LeO.ite ?_ ?_)
  | (with_reducible refine LeO.bind ?_ (fun _ => ?_))
  | exact ih0 _ _ _ _ _ _ _
  | exact ih1 _ _ _
  | exact impl_BestHalves.mono _ _ _ _
  | exact laws_eqIntS.mono _ _ _
  | exact laws_heldIntS.mono _ _ _
  | exact laws_markIntS.mono _ _ _
  | exact spec_BestHalves.mono _ _ _ _
  | exact LeO.none _
  | refine LeO.ite ?_ ?_
  | refine LeO.bind ?_ (fun _ => ?_)
set_option maxHeartbeats 8000000 in
set_option maxRecDepth 100000 in
theorem laws_FnExactBestHalves.calls (k : Nat) (a0 : Int) (a1 : Int) (a2 : Int) (r : Bool) (w : World) (hG : Aside0 (Go.Proofs.YtmjfigeikiickaaDoorLaid.LaidG w)) (h : laws_FnExactBestHalves.f k a0 a1 a2 = some r) :
 Calls Tryd.prog 5 #[.int .i64 a0, .int .i64 a1, .int .i64 a2] w fun e w' => e = .returned (.bool r) ∧ Below w.heap.size w w' := by
 have HB := Aside0.mk (Below.refl w.heap.size w)
 have H : ((spec_BestHalves.f k a0 a1 a2).bind fun bt292 => ((impl_BestHalves.f k a0 a1 a2).bind fun bt296 => ((laws_eqIntS.f k bt296.1 bt292.1).bind fun t300 => (if t300 = true then (laws_FnExactBestHalves.j0 k a0 a1 a2 bt292.1 bt292.2 bt296.1 (bt296.2 != bt292.2)) else (laws_FnExactBestHalves.j0 k a0 a1 a2 bt292.1 bt292.2 bt296.1 true))))) = some r := h
 clear h
 replace H := Option.bind_eq_some_iff.mp H
 obtain ⟨⟨t292, t295⟩, A40, H⟩ := H
 replace H : ((impl_BestHalves.f k a0 a1 a2).bind fun bt296 => ((laws_eqIntS.f k bt296.1 t292).bind fun t300 => (if t300 = true then (laws_FnExactBestHalves.j0 k a0 a1 a2 t292 t295 bt296.1 (bt296.2 != t295)) else (laws_FnExactBestHalves.j0 k a0 a1 a2 t292 t295 bt296.1 true)))) = some r := H
 have A4 := Aside0.mk A40
 clear A40
 replace H := Option.bind_eq_some_iff.mp H
 obtain ⟨⟨t296, t297⟩, A50, H⟩ := H
 replace H : ((laws_eqIntS.f k t296 t292).bind fun t300 => (if t300 = true then (laws_FnExactBestHalves.j0 k a0 a1 a2 t292 t295 t296 (t297 != t295)) else (laws_FnExactBestHalves.j0 k a0 a1 a2 t292 t295 t296 true))) = some r := H
 have A5 := Aside0.mk A50
 clear A50
 have HC6 := Aside0.mk H
 clear H
 go_enter Tryd.func5, Tryd.ntmps5
 go_upto_region 3 with (first | ((with_reducible refine gate_callee (f := 15) rfl ?_); refine goesL_ (some 19) rfl rfl Tryd.func15 (by kernel_rfl) rfl #[.int .i64 a0, .int .i64 a1, .int .i64 a2] rfl (by (try simp only [List.map_toArray, List.map_cons, List.map_nil]); first | done | rfl) ?_; (with_reducible refine (spec_BestHalves.calls k a0 a1 a2 t292 t295 _ A4.out).mono ?_); rintro e w7 ⟨v293, rfl, ho0, hb⟩; refine ⟨_, rfl, ?_⟩; have n0_ := Aside0.mk (Kd.V_lower (Kd.V_mono (ok' := fun k_ => True) ho0 (fun k_ hk_ => trivial)) (below_size (by repeat (with_reducible first | exact HB.out | apply below_alloc | apply pw_below_drewN | apply below_drew1)))); have n1_ := Aside0.mk (below_step (by repeat (with_reducible first | exact HB.out | apply below_alloc | apply pw_below_drewN | apply below_drew1)) hb); clear HB; have HO294 := n0_; have HB := n1_; clear n0_ n1_; (try clear hb); (try clear hb2); (try clear hk); (try clear hi); (try clear ho0)) | ((with_reducible refine gate_callee (f := 16) rfl ?_); refine goesL_ (some 26) rfl rfl Tryd.func16 (by kernel_rfl) rfl #[.int .i64 a0, .int .i64 a1, .int .i64 a2] rfl (by (try simp only [List.map_toArray, List.map_cons, List.map_nil]); first | done | rfl) ?_; (with_reducible refine (impl_BestHalves.calls k a0 a1 a2 t296 t297 _ ?side1 A5.out).mono ?_); (case side1 => first | exact hG | (refine ⟨hG.out.drawn ?_⟩; (repeat (first | exact Drawn0.refl _ | apply Drawn0.step)); done) | (refine ⟨hG.out.below ?_⟩; (repeat (first | (with_reducible first | exact HB.out | apply below_alloc | apply pw_below_drewN | apply below_drew1) | exact HB.out)); done)); rintro e w8 ⟨v298, rfl, ho0, hb⟩; refine ⟨_, rfl, ?_⟩; have n0_ := Aside0.mk (Kd.V_elder' (by (with_reducible repeat (first | apply Kd.V_alloc | apply Kd.V_drewN | apply Kd.V_drew)); exact HO294.out) (Kd.R_base ho0) hb); have n1_ := Aside0.mk (Kd.R_lower ho0 (below_size (by repeat (with_reducible first | exact HB.out | apply below_alloc | apply pw_below_drewN | apply below_drew1)))); have n2_ := Aside0.mk (below_step (by repeat (with_reducible first | exact HB.out | apply below_alloc | apply pw_below_drewN | apply below_drew1)) hb); clear HO294; clear HB; have HO294 := n0_; have HO299 := n1_; have HB := n2_; clear n0_ n1_ n2_; (try clear hb); (try clear hb2); (try clear hk); (try clear hi); (try clear ho0)))
 (try simp only [Act.put, List.setIfInBounds_toArray, List.set_cons_zero, List.set_cons_succ])
 go_cut [37] (fun v37 wc => ∃ (kq : Nat) (x37_5 : Bool), v37 = .bool x37_5 ∧ Aside0 (laws_FnExactBestHalves.j0 kq a0 a1 a2 t292 t295 t296 x37_5 = some r) ∧ Aside0 (kq ≤ k) ∧ Aside0 (Kd.V (Kd.int .i64) 3 wc w.heap.size (fun k_ => some k_ ≠ (v298 : Value).ownBlock) v293 t292) ∧ Aside0 (Kd.R (Kd.int .i64) 3 wc w.heap.size (fun _ => True) v298 t296) ∧ Aside0 (Below w.heap.size w wc))
 case first =>
  have H := HC6.out
  clear HC6
  replace H := Option.bind_eq_some_iff.mp H
  obtain ⟨t300, A90, H⟩ := H
  replace H : (if t300 = true then (laws_FnExactBestHalves.j0 k a0 a1 a2 t292 t295 t296 (t297 != t295)) else (laws_FnExactBestHalves.j0 k a0 a1 a2 t292 t295 t296 true)) = some r := H
  have A9 := Aside0.mk A90
  clear A90
  by_cases c10 : t300 = true
  ·subst c10
   have H1 : (laws_FnExactBestHalves.j0 k a0 a1 a2 t292 t295 t296 (t297 != t295)) = some r := by rw [if_pos rfl] at H; exact H
   clear H
   have H := H1
   clear H1
   have H' := Aside0.mk H
   clear H
   obtain ⟨Ao11, co11, eo11⟩ := Kd.R_slice HO299.out
   subst eo11
   obtain ⟨Ao12, co12, eo12⟩ := Kd.V_slice HO294.out
   subst eo12
   go_wp2_with (first | ((with_reducible refine gate_callee (f := 12) rfl ?_); refine goesL_ (some 31) rfl rfl Tryd.func12 (by kernel_rfl) rfl #[.slice Ao11 t296.length co11, .slice Ao12 t292.length co12] rfl (by (try simp only [List.map_toArray, List.map_cons, List.map_nil]); first | done | rfl) ?_; (with_reducible refine (laws_eqIntS.calls k _ _ t296 _ _ t292 true _ ?side1 ?side2 ?side3 ?side4 A9.out).mono ?_); (case side1 => repeat (first | exact (Kd.R_reads' HO299.out).2.2 | (with_reducible refine Kd.C_alloc ?_ _) | (with_reducible refine Kd.C_drewN ?_ _) | (with_reducible refine Kd.C_drew ?_))); (case side2 => exact (Kd.R_reads' HO299.out).2.1); (case side3 => repeat (first | exact (Kd.V_reads' HO294.out).2.2 | (with_reducible refine Kd.C_alloc ?_ _) | (with_reducible refine Kd.C_drewN ?_ _) | (with_reducible refine Kd.C_drew ?_))); (case side4 => exact (Kd.V_reads' HO294.out).2.1); rintro e w' ⟨rfl, ⟨nd, rfl⟩⟩; refine ⟨_, rfl, ?_⟩))
   go_meet
   case rel => exact ⟨_, ((t297 != t295)), (by first | rfl | (simp; done) | (simp [*]; done)), H', ⟨by first | omega | exact Nat.le_refl _⟩, ⟨by (with_reducible repeat (first | apply Kd.V_alloc | apply Kd.V_drewN | apply Kd.V_drew)); exact Kd.V_mono HO294.out (fun _ hk => hk.2)⟩, ⟨by (with_reducible repeat (first | apply Kd.R_alloc | apply Kd.R_drewN | apply Kd.R_drew)); exact HO299.out⟩, ⟨by repeat (with_reducible first | exact HB.out | apply below_alloc | apply pw_below_drewN | apply below_drew1)⟩⟩
  ·replace c10 := Bool.eq_false_iff.mpr c10
   subst c10
   have H1 : (laws_FnExactBestHalves.j0 k a0 a1 a2 t292 t295 t296 true) = some r := by rw [if_neg (show ¬ (false = true) by decide)] at H; exact H
   clear H
   have H := H1
   clear H1
   have H' := Aside0.mk H
   clear H
   obtain ⟨Ao13, co13, eo13⟩ := Kd.R_slice HO299.out
   subst eo13
   obtain ⟨Ao14, co14, eo14⟩ := Kd.V_slice HO294.out
   subst eo14
   go_wp2_with (first | ((with_reducible refine gate_callee (f := 12) rfl ?_); refine goesL_ (some 31) rfl rfl Tryd.func12 (by kernel_rfl) rfl #[.slice Ao13 t296.length co13, .slice Ao14 t292.length co14] rfl (by (try simp only [List.map_toArray, List.map_cons, List.map_nil]); first | done | rfl) ?_; (with_reducible refine (laws_eqIntS.calls k _ _ t296 _ _ t292 false _ ?side1 ?side2 ?side3 ?side4 A9.out).mono ?_); (case side1 => repeat (first | exact (Kd.R_reads' HO299.out).2.2 | (with_reducible refine Kd.C_alloc ?_ _) | (with_reducible refine Kd.C_drewN ?_ _) | (with_reducible refine Kd.C_drew ?_))); (case side2 => exact (Kd.R_reads' HO299.out).2.1); (case side3 => repeat (first | exact (Kd.V_reads' HO294.out).2.2 | (with_reducible refine Kd.C_alloc ?_ _) | (with_reducible refine Kd.C_drewN ?_ _) | (with_reducible refine Kd.C_drew ?_))); (case side4 => exact (Kd.V_reads' HO294.out).2.1); rintro e w' ⟨rfl, ⟨nd, rfl⟩⟩; refine ⟨_, rfl, ?_⟩))
   go_meet
   case rel => exact ⟨_, (true), (by first | rfl | (simp; done) | (simp [*]; done)), H', ⟨by first | omega | exact Nat.le_refl _⟩, ⟨by (with_reducible repeat (first | apply Kd.V_alloc | apply Kd.V_drewN | apply Kd.V_drew)); exact Kd.V_mono HO294.out (fun _ hk => hk.2)⟩, ⟨by (with_reducible repeat (first | apply Kd.R_alloc | apply Kd.R_drewN | apply Kd.R_drew)); exact HO299.out⟩, ⟨by repeat (with_reducible first | exact HB.out | apply below_alloc | apply pw_below_drewN | apply below_drew1)⟩⟩
 case rest =>
  clear HC6
  try clear c1
  try clear p2
  try clear c5
  try clear c10
  try clear c12
  obtain ⟨kq, x37_5, rfl, HA, HJ5, HO_7, HO_9, HB⟩ := hcut
  cases kq with
  | zero => exact absurd HA.out (by simp [laws_FnExactBestHalves.j0])
  | succ kj5 =>
   have H := HA.out
   clear HA
   simp only [laws_FnExactBestHalves.j0] at H
   by_cases c15 : x37_5 = true
   ·subst c15
    have H1 : (some false) = some r := by rw [if_pos rfl] at H; exact H
    clear H
    have H := H1
    clear H1
    obtain rfl := Option.some.inj H
    go_wp2
    go_ret
    exact ⟨by first | rfl | (simp [errW_none, errW_some] <;> rfl) | (simp [*, errW_none, errW_some] <;> rfl), by repeat (with_reducible first | exact HB.out | apply below_alloc | apply pw_below_drewN | apply below_drew1)⟩
   ·replace c15 := Bool.eq_false_iff.mpr c15
    subst c15
    have H1 : ((laws_markIntS.f kj5 t296 1).bind fun bt301 => ((laws_heldIntS.f kj5 bt301.2 1).bind fun t303 => (if t303 < 0 then (some false) else (if t303 = bt301.1 then ((impl_BestHalves.f kj5 a0 a1 a2).bind fun bt304 => ((laws_eqIntS.f kj5 bt304.1 t292).bind fun t308 => (if t308 = true then (laws_FnExactBestHalves.j1 kj5 bt301.2 bt301.1 (bt304.2 != t295)) else (laws_FnExactBestHalves.j1 kj5 bt301.2 bt301.1 true)))) else (some false))))) = some r := by rw [if_neg (show ¬ (false = true) by decide)] at H; exact H
    clear H
    have H := H1
    clear H1
    replace H := Option.bind_eq_some_iff.mp H
    obtain ⟨⟨t301, t302⟩, A160, H⟩ := H
    replace H : ((laws_heldIntS.f kj5 t302 1).bind fun t303 => (if t303 < 0 then (some false) else (if t303 = t301 then ((impl_BestHalves.f kj5 a0 a1 a2).bind fun bt304 => ((laws_eqIntS.f kj5 bt304.1 t292).bind fun t308 => (if t308 = true then (laws_FnExactBestHalves.j1 kj5 t302 t301 (bt304.2 != t295)) else (laws_FnExactBestHalves.j1 kj5 t302 t301 true)))) else (some false)))) = some r := H
    have A16 := Aside0.mk A160
    clear A160
    replace H := Option.bind_eq_some_iff.mp H
    obtain ⟨t303, A170, H⟩ := H
    replace H : (if t303 < 0 then (some false) else (if t303 = t301 then ((impl_BestHalves.f kj5 a0 a1 a2).bind fun bt304 => ((laws_eqIntS.f kj5 bt304.1 t292).bind fun t308 => (if t308 = true then (laws_FnExactBestHalves.j1 kj5 t302 t301 (bt304.2 != t295)) else (laws_FnExactBestHalves.j1 kj5 t302 t301 true)))) else (some false))) = some r := H
    have A17 := Aside0.mk A170
    clear A170
    by_cases c18 : t303 < 0
    ·rw [if_pos c18] at H
     have c18b0 : decide (t303 < 0) = true := decide_eq_true c18
     clear c18
     obtain rfl := Option.some.inj H
     obtain ⟨Ao19, co19, eo19⟩ := Kd.R_slice HO_9.out
     subst eo19
     go_wp2_with (first | ((with_reducible refine gate_callee (f := 13) rfl ?_); refine goesL_ (some 40) rfl rfl Tryd.func13 (by kernel_rfl) rfl #[.slice Ao19 t296.length co19, .int .i64 1] rfl (by (try simp only [List.map_toArray, List.map_cons, List.map_nil]); first | done | rfl) ?_; (with_reducible refine (laws_markIntS.calls kj5 (fun k_ => some k_ = (.slice Ao19 t296.length co19 : Value).ownBlock) (.slice Ao19 t296.length co19) t296 1 t301 t302 w _ ?side1 ?side2 A16.out).mono ?_); (case side1 => repeat (first | (with_reducible first | exact HB.out | apply below_alloc | apply pw_below_drewN | apply below_drew1) | exact HB.out)); (case side2 => exact Kd.R_tight rfl HO_9.out); rintro e w20 ⟨rfl, hy0, hb, hkp⟩; refine ⟨_, rfl, ?_⟩; have n0_ := Aside0.mk (Kd.V_mono (ok' := fun k_ => some k_ ≠ (.slice Ao19 t296.length co19 : Value).ownBlock) (Kd.V_keptB (HO_7.out) hkp (fun k_ hk_ hs_ => (hk_) hs_)) (fun k_ hk_ => hk_.1)); have n1_ := Aside0.mk (Kd.R_reok rfl hy0 (fun k_ e_ => HO_9.out.1 k_ e_)); have n2_ := Aside0.mk (hb); clear HO_7; clear HO_9; clear HB; have HO_7 := n0_; have HO_9 := n1_; have HB := n2_; clear n0_ n1_ n2_; (try clear hb); (try clear hkp); (try clear hy0)) | ((with_reducible refine gate_callee (f := 14) rfl ?_); refine goesL_ (some 43) rfl rfl Tryd.func14 (by kernel_rfl) rfl #[.slice Ao19 t302.length co19, .int .i64 1] rfl (by (try simp only [List.map_toArray, List.map_cons, List.map_nil]); first | done | (rw [show t302.length = t296.length from (Kd.R_reads' HO_9.out).1.symm] <;> rfl) | rfl | (simp only [List.length_drop, List.length_take]; rfl)) ?_; (with_reducible refine (laws_heldIntS.calls kj5 _ _ t302 1 t303 _ ?side1 ?side2 A17.out).mono ?_); (case side1 => repeat (first | exact (Kd.R_reads' HO_9.out).2.2 | (with_reducible refine Kd.C_alloc ?_ _) | (with_reducible refine Kd.C_drewN ?_ _) | (with_reducible refine Kd.C_drew ?_))); (case side2 => rw [show t302.length = t296.length from (Kd.R_reads' HO_9.out).1.symm]; exact (Kd.R_reads' HO_9.out).2.1); rintro e w' ⟨rfl, ⟨nd, rfl⟩⟩; refine ⟨_, rfl, ?_⟩))
     go_ret
     exact ⟨by first | rfl | (simp [errW_none, errW_some] <;> rfl) | (simp [*, errW_none, errW_some] <;> rfl), by repeat (with_reducible first | exact HB.out | apply below_alloc | apply pw_below_drewN | apply below_drew1)⟩
    ·rw [if_neg c18] at H
     have c18b0 : decide (t303 < 0) = false := decide_eq_false c18
     clear c18
     by_cases c21 : t303 = t301
     ·rw [if_pos c21] at H
      have c21b0 : (t303 == t301) = true := beq_iff_eq.mpr c21
      have c21b1 : (t303 != t301) = false := bne_eq_false_iff_eq.mpr c21
      clear c21
      replace H := Option.bind_eq_some_iff.mp H
      obtain ⟨⟨t304, t305⟩, A220, H⟩ := H
      replace H : ((laws_eqIntS.f kj5 t304 t292).bind fun t308 => (if t308 = true then (laws_FnExactBestHalves.j1 kj5 t302 t301 (t305 != t295)) else (laws_FnExactBestHalves.j1 kj5 t302 t301 true))) = some r := H
      have A22 := Aside0.mk A220
      clear A220
      have HC23 := Aside0.mk H
      clear H
      obtain ⟨Ao24, co24, eo24⟩ := Kd.R_slice HO_9.out
      subst eo24
      go_upto_region 14 with (first | ((with_reducible refine gate_callee (f := 13) rfl ?_); refine goesL_ (some 40) rfl rfl Tryd.func13 (by kernel_rfl) rfl #[.slice Ao24 t296.length co24, .int .i64 1] rfl (by (try simp only [List.map_toArray, List.map_cons, List.map_nil]); first | done | rfl) ?_; (with_reducible refine (laws_markIntS.calls kj5 (fun k_ => some k_ = (.slice Ao24 t296.length co24 : Value).ownBlock) (.slice Ao24 t296.length co24) t296 1 t301 t302 w _ ?side1 ?side2 A16.out).mono ?_); (case side1 => repeat (first | (with_reducible first | exact HB.out | apply below_alloc | apply pw_below_drewN | apply below_drew1) | exact HB.out)); (case side2 => exact Kd.R_tight rfl HO_9.out); rintro e w25 ⟨rfl, hy0, hb, hkp⟩; refine ⟨_, rfl, ?_⟩; have n0_ := Aside0.mk (Kd.V_mono (ok' := fun k_ => some k_ ≠ (.slice Ao24 t296.length co24 : Value).ownBlock) (Kd.V_keptB (HO_7.out) hkp (fun k_ hk_ hs_ => (hk_) hs_)) (fun k_ hk_ => hk_.1)); have n1_ := Aside0.mk (Kd.R_reok rfl hy0 (fun k_ e_ => HO_9.out.1 k_ e_)); have n2_ := Aside0.mk (hb); clear HO_7; clear HO_9; clear HB; have HO_7 := n0_; have HO_9 := n1_; have HB := n2_; clear n0_ n1_ n2_; (try clear hb); (try clear hkp); (try clear hy0)) | ((with_reducible refine gate_callee (f := 14) rfl ?_); refine goesL_ (some 43) rfl rfl Tryd.func14 (by kernel_rfl) rfl #[.slice Ao24 t302.length co24, .int .i64 1] rfl (by (try simp only [List.map_toArray, List.map_cons, List.map_nil]); first | done | (rw [show t302.length = t296.length from (Kd.R_reads' HO_9.out).1.symm] <;> rfl) | rfl | (simp only [List.length_drop, List.length_take]; rfl)) ?_; (with_reducible refine (laws_heldIntS.calls kj5 _ _ t302 1 t303 _ ?side1 ?side2 A17.out).mono ?_); (case side1 => repeat (first | exact (Kd.R_reads' HO_9.out).2.2 | (with_reducible refine Kd.C_alloc ?_ _) | (with_reducible refine Kd.C_drewN ?_ _) | (with_reducible refine Kd.C_drew ?_))); (case side2 => rw [show t302.length = t296.length from (Kd.R_reads' HO_9.out).1.symm]; exact (Kd.R_reads' HO_9.out).2.1); rintro e w' ⟨rfl, ⟨nd, rfl⟩⟩; refine ⟨_, rfl, ?_⟩) | ((with_reducible refine gate_callee (f := 16) rfl ?_); refine goesL_ (some 53) rfl rfl Tryd.func16 (by kernel_rfl) rfl #[.int .i64 a0, .int .i64 a1, .int .i64 a2] rfl (by (try simp only [List.map_toArray, List.map_cons, List.map_nil]); first | done | rfl) ?_; (with_reducible refine (impl_BestHalves.calls kj5 a0 a1 a2 t304 t305 _ ?side1 A22.out).mono ?_); (case side1 => first | exact hG | (refine ⟨hG.out.drawn ?_⟩; (repeat (first | exact Drawn0.refl _ | apply Drawn0.step)); done) | (refine ⟨hG.out.below ?_⟩; (repeat (first | (with_reducible first | exact HB.out | apply below_alloc | apply pw_below_drewN | apply below_drew1) | exact HB.out)); done)); rintro e w26 ⟨v306, rfl, ho0, hb⟩; refine ⟨_, rfl, ?_⟩; have n0_ := Aside0.mk (Kd.V_elder' (by (with_reducible repeat (first | apply Kd.V_alloc | apply Kd.V_drewN | apply Kd.V_drew)); exact HO_7.out) (Kd.R_base ho0) hb); have n1_ := Aside0.mk (Kd.R_elder' (by (with_reducible repeat (first | apply Kd.R_alloc | apply Kd.R_drewN | apply Kd.R_drew)); exact HO_9.out) (Kd.R_base ho0) hb); have n2_ := Aside0.mk (Kd.R_lower (Kd.R_new' ho0 (Kd.R_lt (by (with_reducible repeat (first | apply Kd.R_alloc | apply Kd.R_drewN | apply Kd.R_drew)); exact HO_9.out))) (below_size (by repeat (with_reducible first | exact HB.out | apply below_alloc | apply pw_below_drewN | apply below_drew1)))); have n3_ := Aside0.mk (below_step (by repeat (with_reducible first | exact HB.out | apply below_alloc | apply pw_below_drewN | apply below_drew1)) hb); clear HO_7; clear HO_9; clear HB; have HO_7 := n0_; have HO_9 := n1_; have HO307 := n2_; have HB := n3_; clear n0_ n1_ n2_ n3_; (try clear hb); (try clear hb2); (try clear hk); (try clear hi); (try clear ho0)))
      (try simp only [Act.put, List.setIfInBounds_toArray, List.set_cons_zero, List.set_cons_succ])
      go_cut [64] (fun v64 wc => ∃ (kq : Nat) (x64_22 : Bool), v64 = .bool x64_22 ∧ Aside0 (laws_FnExactBestHalves.j1 kq t302 t301 x64_22 = some r) ∧ Aside0 (kq ≤ kj5) ∧ Aside0 (Kd.R (Kd.int .i64) 3 wc w.heap.size (fun _ => True) (.slice Ao24 t296.length co24) t302) ∧ Aside0 (Below w.heap.size w wc))
      case first =>
       have H := HC23.out
       clear HC23
       replace H := Option.bind_eq_some_iff.mp H
       obtain ⟨t308, A270, H⟩ := H
       replace H : (if t308 = true then (laws_FnExactBestHalves.j1 kj5 t302 t301 (t305 != t295)) else (laws_FnExactBestHalves.j1 kj5 t302 t301 true)) = some r := H
       have A27 := Aside0.mk A270
       clear A270
       by_cases c28 : t308 = true
       ·subst c28
        have H1 : (laws_FnExactBestHalves.j1 kj5 t302 t301 (t305 != t295)) = some r := by rw [if_pos rfl] at H; exact H
        clear H
        have H := H1
        clear H1
        have H' := Aside0.mk H
        clear H
        obtain ⟨Ao29, co29, eo29⟩ := Kd.R_slice HO307.out
        subst eo29
        obtain ⟨Ao30, co30, eo30⟩ := Kd.V_slice HO_7.out
        subst eo30
        go_wp2_with (first | ((with_reducible refine gate_callee (f := 12) rfl ?_); refine goesL_ (some 58) rfl rfl Tryd.func12 (by kernel_rfl) rfl #[.slice Ao29 t304.length co29, .slice Ao30 t292.length co30] rfl (by (try simp only [List.map_toArray, List.map_cons, List.map_nil]); first | done | rfl) ?_; (with_reducible refine (laws_eqIntS.calls kj5 _ _ t304 _ _ t292 true _ ?side1 ?side2 ?side3 ?side4 A27.out).mono ?_); (case side1 => repeat (first | exact (Kd.R_reads' HO307.out).2.2 | (with_reducible refine Kd.C_alloc ?_ _) | (with_reducible refine Kd.C_drewN ?_ _) | (with_reducible refine Kd.C_drew ?_))); (case side2 => exact (Kd.R_reads' HO307.out).2.1); (case side3 => repeat (first | exact (Kd.V_reads' HO_7.out).2.2 | (with_reducible refine Kd.C_alloc ?_ _) | (with_reducible refine Kd.C_drewN ?_ _) | (with_reducible refine Kd.C_drew ?_))); (case side4 => exact (Kd.V_reads' HO_7.out).2.1); rintro e w' ⟨rfl, ⟨nd, rfl⟩⟩; refine ⟨_, rfl, ?_⟩))
        go_meet
        case rel => exact ⟨_, ((t305 != t295)), (by first | rfl | (simp; done) | (simp [*]; done)), H', ⟨by have := HJ5.out; first | omega | exact Nat.le_refl _⟩, ⟨by (with_reducible repeat (first | apply Kd.R_alloc | apply Kd.R_drewN | apply Kd.R_drew)); exact Kd.R_mono HO_9.out (fun _ hk => trivial)⟩, ⟨by repeat (with_reducible first | exact HB.out | apply below_alloc | apply pw_below_drewN | apply below_drew1)⟩⟩
       ·replace c28 := Bool.eq_false_iff.mpr c28
        subst c28
        have H1 : (laws_FnExactBestHalves.j1 kj5 t302 t301 true) = some r := by rw [if_neg (show ¬ (false = true) by decide)] at H; exact H
        clear H
        have H := H1
        clear H1
        have H' := Aside0.mk H
        clear H
        obtain ⟨Ao31, co31, eo31⟩ := Kd.R_slice HO307.out
        subst eo31
        obtain ⟨Ao32, co32, eo32⟩ := Kd.V_slice HO_7.out
        subst eo32
        go_wp2_with (first | ((with_reducible refine gate_callee (f := 12) rfl ?_); refine goesL_ (some 58) rfl rfl Tryd.func12 (by kernel_rfl) rfl #[.slice Ao31 t304.length co31, .slice Ao32 t292.length co32] rfl (by (try simp only [List.map_toArray, List.map_cons, List.map_nil]); first | done | rfl) ?_; (with_reducible refine (laws_eqIntS.calls kj5 _ _ t304 _ _ t292 false _ ?side1 ?side2 ?side3 ?side4 A27.out).mono ?_); (case side1 => repeat (first | exact (Kd.R_reads' HO307.out).2.2 | (with_reducible refine Kd.C_alloc ?_ _) | (with_reducible refine Kd.C_drewN ?_ _) | (with_reducible refine Kd.C_drew ?_))); (case side2 => exact (Kd.R_reads' HO307.out).2.1); (case side3 => repeat (first | exact (Kd.V_reads' HO_7.out).2.2 | (with_reducible refine Kd.C_alloc ?_ _) | (with_reducible refine Kd.C_drewN ?_ _) | (with_reducible refine Kd.C_drew ?_))); (case side4 => exact (Kd.V_reads' HO_7.out).2.1); rintro e w' ⟨rfl, ⟨nd, rfl⟩⟩; refine ⟨_, rfl, ?_⟩))
        go_meet
        case rel => exact ⟨_, (true), (by first | rfl | (simp; done) | (simp [*]; done)), H', ⟨by have := HJ5.out; first | omega | exact Nat.le_refl _⟩, ⟨by (with_reducible repeat (first | apply Kd.R_alloc | apply Kd.R_drewN | apply Kd.R_drew)); exact Kd.R_mono HO_9.out (fun _ hk => trivial)⟩, ⟨by repeat (with_reducible first | exact HB.out | apply below_alloc | apply pw_below_drewN | apply below_drew1)⟩⟩
      case rest =>
       clear HC23
       try clear c1
       try clear c2
       try clear p2
       try clear c5
       try clear c10
       try clear c12
       try clear c13
       try clear c14
       try clear c15
       try clear c16
       try clear c18
       try clear c18b0
       try clear c21
       try clear c21b0
       try clear c21b1
       try clear c28
       try clear p2
       obtain ⟨kq, x64_22, rfl, HA, HJ22, HO_9, HB⟩ := hcut
       have hl9_22 := (Kd.R_reads' HO_9.out).1
       rw [hl9_22] at HO_9
       (try simp only [hl9_22])
       cases kq with
       | zero => exact absurd HA.out (by simp [laws_FnExactBestHalves.j1])
       | succ kj22 =>
        have H := HA.out
        clear HA
        simp only [laws_FnExactBestHalves.j1] at H
        by_cases c33 : x64_22 = true
        ·subst c33
         have H1 : (some false) = some r := by rw [if_pos rfl] at H; exact H
         clear H
         have H := H1
         clear H1
         obtain rfl := Option.some.inj H
         go_wp2
         go_ret
         exact ⟨by first | rfl | (simp [errW_none, errW_some] <;> rfl) | (simp [*, errW_none, errW_some] <;> rfl), by repeat (with_reducible first | exact HB.out | apply below_alloc | apply pw_below_drewN | apply below_drew1)⟩
        ·replace c33 := Bool.eq_false_iff.mpr c33
         subst c33
         have H1 : ((laws_heldIntS.f kj22 t302 1).bind fun t309 => (if t309 < 0 then (some false) else (if t309 = t301 then (some true) else (some false)))) = some r := by rw [if_neg (show ¬ (false = true) by decide)] at H; exact H
         clear H
         have H := H1
         clear H1
         replace H := Option.bind_eq_some_iff.mp H
         obtain ⟨t309, A340, H⟩ := H
         replace H : (if t309 < 0 then (some false) else (if t309 = t301 then (some true) else (some false))) = some r := H
         have A34 := Aside0.mk A340
         clear A340
         by_cases c35 : t309 < 0
         ·rw [if_pos c35] at H
          have c35b0 : decide (t309 < 0) = true := decide_eq_true c35
          clear c35
          (try simp only [hl9_22] at c35b0)
          obtain rfl := Option.some.inj H
          go_wp2_with (first | ((with_reducible refine gate_callee (f := 14) rfl ?_); refine goesL_ (some 67) rfl rfl Tryd.func14 (by kernel_rfl) rfl #[.slice Ao24 t302.length co24, .int .i64 1] rfl (by (try simp only [List.map_toArray, List.map_cons, List.map_nil]); first | done | rfl) ?_; (with_reducible refine (laws_heldIntS.calls kj22 _ _ t302 1 t309 _ ?side1 ?side2 A34.out).mono ?_); (case side1 => repeat (first | exact (Kd.R_reads' HO_9.out).2.2 | (with_reducible refine Kd.C_alloc ?_ _) | (with_reducible refine Kd.C_drewN ?_ _) | (with_reducible refine Kd.C_drew ?_))); (case side2 => exact (Kd.R_reads' HO_9.out).2.1); rintro e w' ⟨rfl, ⟨nd, rfl⟩⟩; refine ⟨_, rfl, ?_⟩))
          go_ret
          exact ⟨by first | rfl | (simp [errW_none, errW_some] <;> rfl) | (simp [*, errW_none, errW_some] <;> rfl), by repeat (with_reducible first | exact HB.out | apply below_alloc | apply pw_below_drewN | apply below_drew1)⟩
         ·rw [if_neg c35] at H
          have c35b0 : decide (t309 < 0) = false := decide_eq_false c35
          clear c35
          by_cases c36 : t309 = t301
          ·rw [if_pos c36] at H
           have c36b0 : (t309 == t301) = true := beq_iff_eq.mpr c36
           have c36b1 : (t309 != t301) = false := bne_eq_false_iff_eq.mpr c36
           clear c36
           (try simp only [hl9_22] at c36b0 c36b1)
           obtain rfl := Option.some.inj H
           go_wp2_with (first | ((with_reducible refine gate_callee (f := 14) rfl ?_); refine goesL_ (some 67) rfl rfl Tryd.func14 (by kernel_rfl) rfl #[.slice Ao24 t302.length co24, .int .i64 1] rfl (by (try simp only [List.map_toArray, List.map_cons, List.map_nil]); first | done | rfl) ?_; (with_reducible refine (laws_heldIntS.calls kj22 _ _ t302 1 t309 _ ?side1 ?side2 A34.out).mono ?_); (case side1 => repeat (first | exact (Kd.R_reads' HO_9.out).2.2 | (with_reducible refine Kd.C_alloc ?_ _) | (with_reducible refine Kd.C_drewN ?_ _) | (with_reducible refine Kd.C_drew ?_))); (case side2 => exact (Kd.R_reads' HO_9.out).2.1); rintro e w' ⟨rfl, ⟨nd, rfl⟩⟩; refine ⟨_, rfl, ?_⟩))
           go_ret
           exact ⟨by first | rfl | (simp [errW_none, errW_some] <;> rfl) | (simp [*, errW_none, errW_some] <;> rfl), by repeat (with_reducible first | exact HB.out | apply below_alloc | apply pw_below_drewN | apply below_drew1)⟩
          ·rw [if_neg c36] at H
           have c36b0 : (t309 == t301) = false := beq_eq_false_iff_ne.mpr c36
           have c36b1 : (t309 != t301) = true := bne_iff_ne.mpr c36
           (try simp only [hl9_22] at c36b0 c36b1)
           obtain rfl := Option.some.inj H
           go_wp2_with (first | ((with_reducible refine gate_callee (f := 14) rfl ?_); refine goesL_ (some 67) rfl rfl Tryd.func14 (by kernel_rfl) rfl #[.slice Ao24 t302.length co24, .int .i64 1] rfl (by (try simp only [List.map_toArray, List.map_cons, List.map_nil]); first | done | rfl) ?_; (with_reducible refine (laws_heldIntS.calls kj22 _ _ t302 1 t309 _ ?side1 ?side2 A34.out).mono ?_); (case side1 => repeat (first | exact (Kd.R_reads' HO_9.out).2.2 | (with_reducible refine Kd.C_alloc ?_ _) | (with_reducible refine Kd.C_drewN ?_ _) | (with_reducible refine Kd.C_drew ?_))); (case side2 => exact (Kd.R_reads' HO_9.out).2.1); rintro e w' ⟨rfl, ⟨nd, rfl⟩⟩; refine ⟨_, rfl, ?_⟩))
           go_ret
           exact ⟨by first | rfl | (simp [errW_none, errW_some] <;> rfl) | (simp [*, errW_none, errW_some] <;> rfl), by repeat (with_reducible first | exact HB.out | apply below_alloc | apply pw_below_drewN | apply below_drew1)⟩
     ·rw [if_neg c21] at H
      have c21b0 : (t303 == t301) = false := beq_eq_false_iff_ne.mpr c21
      have c21b1 : (t303 != t301) = true := bne_iff_ne.mpr c21
      obtain rfl := Option.some.inj H
      obtain ⟨Ao37, co37, eo37⟩ := Kd.R_slice HO_9.out
      subst eo37
      go_wp2_with (first | ((with_reducible refine gate_callee (f := 13) rfl ?_); refine goesL_ (some 40) rfl rfl Tryd.func13 (by kernel_rfl) rfl #[.slice Ao37 t296.length co37, .int .i64 1] rfl (by (try simp only [List.map_toArray, List.map_cons, List.map_nil]); first | done | rfl) ?_; (with_reducible refine (laws_markIntS.calls kj5 (fun k_ => some k_ = (.slice Ao37 t296.length co37 : Value).ownBlock) (.slice Ao37 t296.length co37) t296 1 t301 t302 w _ ?side1 ?side2 A16.out).mono ?_); (case side1 => repeat (first | (with_reducible first | exact HB.out | apply below_alloc | apply pw_below_drewN | apply below_drew1) | exact HB.out)); (case side2 => exact Kd.R_tight rfl HO_9.out); rintro e w38 ⟨rfl, hy0, hb, hkp⟩; refine ⟨_, rfl, ?_⟩; have n0_ := Aside0.mk (Kd.V_mono (ok' := fun k_ => some k_ ≠ (.slice Ao37 t296.length co37 : Value).ownBlock) (Kd.V_keptB (HO_7.out) hkp (fun k_ hk_ hs_ => (hk_) hs_)) (fun k_ hk_ => hk_.1)); have n1_ := Aside0.mk (Kd.R_reok rfl hy0 (fun k_ e_ => HO_9.out.1 k_ e_)); have n2_ := Aside0.mk (hb); clear HO_7; clear HO_9; clear HB; have HO_7 := n0_; have HO_9 := n1_; have HB := n2_; clear n0_ n1_ n2_; (try clear hb); (try clear hkp); (try clear hy0)) | ((with_reducible refine gate_callee (f := 14) rfl ?_); refine goesL_ (some 43) rfl rfl Tryd.func14 (by kernel_rfl) rfl #[.slice Ao37 t302.length co37, .int .i64 1] rfl (by (try simp only [List.map_toArray, List.map_cons, List.map_nil]); first | done | (rw [show t302.length = t296.length from (Kd.R_reads' HO_9.out).1.symm] <;> rfl) | rfl | (simp only [List.length_drop, List.length_take]; rfl)) ?_; (with_reducible refine (laws_heldIntS.calls kj5 _ _ t302 1 t303 _ ?side1 ?side2 A17.out).mono ?_); (case side1 => repeat (first | exact (Kd.R_reads' HO_9.out).2.2 | (with_reducible refine Kd.C_alloc ?_ _) | (with_reducible refine Kd.C_drewN ?_ _) | (with_reducible refine Kd.C_drew ?_))); (case side2 => rw [show t302.length = t296.length from (Kd.R_reads' HO_9.out).1.symm]; exact (Kd.R_reads' HO_9.out).2.1); rintro e w' ⟨rfl, ⟨nd, rfl⟩⟩; refine ⟨_, rfl, ?_⟩))
      go_ret
      exact ⟨by first | rfl | (simp [errW_none, errW_some] <;> rfl) | (simp [*, errW_none, errW_some] <;> rfl), by repeat (with_reducible first | exact HB.out | apply below_alloc | apply pw_below_drewN | apply below_drew1)⟩

/-- THE ONE PURE STATEMENT of laws_FnExactBestHalves: yours. -/
def laws_FnExactBestHalves.Pure : Prop := ∀ (a0 : Int) (a1 : Int) (a2 : Int), (Lit.int .i64 a0).wf = true → (Lit.int .i64 a1).wf = true → (Lit.int .i64 a2).wf = true → ∃ k, laws_FnExactBestHalves.f k a0 a1 a2 = some true
theorem laws_FnExactBestHalves.walk (P : laws_FnExactBestHalves.Pure) (a0 : Int) (a1 : Int) (a2 : Int) (w : World) (hG : Aside0 (Go.Proofs.YtmjfigeikiickaaDoorLaid.LaidG w)) (w0 : (Lit.int .i64 a0).wf = true) (w1 : (Lit.int .i64 a1).wf = true) (w2 : (Lit.int .i64 a2).wf = true) :
 Calls Tryd.prog 5 #[.int .i64 a0, .int .i64 a1, .int .i64 a2] w fun e w' => e = .returned (.bool true) ∧ Below w.heap.size w w' := by
 obtain ⟨k, h⟩ := P a0 a1 a2 w0 w1 w2
 refine (laws_FnExactBestHalves.calls k a0 a1 a2 true w hG h).mono ?_
 rintro e w' ⟨rfl, hd⟩
 exact ⟨rfl, hd⟩

end Go.Proofs.YtmjfigeikiickaaDoor.QFnExactBestHalves
