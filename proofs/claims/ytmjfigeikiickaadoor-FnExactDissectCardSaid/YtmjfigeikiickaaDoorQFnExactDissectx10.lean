/- What each Go function of this text answers, as a plain function, and that the machine comes to just that answer. -/
import Derived.Test.YtmjfigeikiickaaDoorQFnExactDissectx0
import Derived.Test.YtmjfigeikiickaaDoorQFnExactDissectx7
import Derived.Test.YtmjfigeikiickaaDoorQFnExactDissectx9
namespace Go.Proofs.YtmjfigeikiickaaDoor.QFnExactDissect
open Go.RowKit Go.Proofs.YtmjfigeikiickaaDoorW.PrintWords Go.Proofs.YtmjfigeikiickaaDoorW.PrintLast Go.Proofs.YtmjfigeikiickaaDoorW.PrintMore
attribute [local go_sem] max2_int min2_int max_two min_two max_three min_three max_four min_four   -- for this text's walks alone
set_option linter.unusedVariables false
set_option linter.unusedSimpArgs false
/-- Blocks outside of S stay as they are. -/
structure Keeps (S : Nat → Prop) (w w' : World) : Prop where
 os : w'.os = w.os
 tape : w'.tape = w.tape
 output : w'.output = w.output
 size : w.heap.size ≤ w'.heap.size
 block : ∀ k, k < w.heap.size → ¬ S k → w'.heap[k]? = w.heap[k]?
theorem Keeps.refl (S : Nat → Prop) (w : World) : Keeps S w w := ⟨rfl, rfl, rfl, Nat.le_refl _, fun _ _ _ => rfl⟩
theorem Keeps.trans {S : Nat → Prop} {a b c : World} (h : Keeps S a b) (k : Keeps S b c) : Keeps S a c :=
 ⟨k.os.trans h.os, k.tape.trans h.tape, k.output.trans h.output, Nat.le_trans h.size k.size, fun i hi hs => (k.block i (Nat.lt_of_lt_of_le hi h.size) hs).trans (h.block i hi hs)⟩
theorem Keeps.mono {S S' : Nat → Prop} {a b : World} (h : Keeps S a b) (hs : ∀ k, S k → S' k) : Keeps S' a b := ⟨h.os, h.tape, h.output, h.size, fun i hi g => h.block i hi (fun q => g (hs i q))⟩
theorem Keeps.of_below {S : Nat → Prop} {a b : World} (h : Below a.heap.size a b) : Keeps S a b := ⟨h.os, h.tape, h.output, h.size, fun i hi _ => h.block i hi⟩
theorem Keeps.of_grown {a b : World} {row : Option Nat} (h : a.grownBy b row) : Keeps (fun k => some k = row) a b := ⟨h.os, h.tape, h.output, h.size, fun i hi g => h.block i hi g⟩
theorem Keeps.of_set {w : World} {b j : Nat} {v : Value} : Keeps (fun k => k = b) w (w.setCell ⟨b, j, none⟩ v) := by
 exact ⟨rfl, rfl, rfl, by simp [World.setCell], fun k _ g => Below.heap_setCell _ _ _ _ g⟩
theorem Keeps.cell {S : Nat → Prop} {w w' : World} (h : Keeps S w w') {a : Addr} {v : Value} (hc : w.cell? a = some v) (ha : ¬ S a.block) : w'.cell? a = some v := by
 rw [World.cell?_of_block (h.block a.block (World.block_lt_of_cell? w a hc) ha)]; exact hc
theorem Keeps.frozen {S : Nat → Prop} {w w' : World} (h : Keeps S w w') {a : Addr} {v : Value} (hc : w.cell? a = some v) (ha : ¬ S a.block) {f : Bool} (hf : w.frozen? a = f) : w'.frozen? a = f := by
 rw [World.frozen?_of_block (h.block a.block (World.block_lt_of_cell? w a hc) ha)]; exact hf
theorem Keeps.row {S : Nat → Prop} {w w' : World} (h : Keeps S w w') {base : Nat} {ok : Nat → Prop} {v : Value} {xs : List Int} (hr : Kd.R (Kd.int .i64) 3 w base ok v xs) (ha : ∀ k, v.ownBlock = some k → ¬ S k) : Kd.R (Kd.int .i64) 3 w' base ok v xs :=
 Kd.R_of_own (own_move (Kd.own_of_R hr) (fun k hk => h.block k (Kd.R_lt hr k hk) (ha k hk))) hr.1
def ren15 : Go.Shelf.Ren := ⟨fun | 15 => 44 | n => n, fun | 22 => 24 | 3 => 3 | 4 => 4 | n => n, fun | n => n⟩
theorem lay15 : Go.Proofs.Lays2.n15 Tryd.prog ren15 := {
 mixed := by kernel_rfl,
 f15 := Tryd.func44.trans (congrArg some (by kernel_rfl)),
 t3 := Tryd.underlying3,
 a3 := Tryd.isAgg3,
 z3 := Tryd.sizeOf3,
 v3 := Tryd.zeroValue3,
 t4 := Tryd.underlying4,
 a4 := Tryd.isAgg4,
 z4 := Tryd.sizeOf4,
 v4 := Tryd.zeroValue4,
 t22 := Tryd.underlying24,
 a22 := Tryd.isAgg24,
 z22 := Tryd.sizeOf24,
 v22 := Tryd.zeroValue24,
 i3 := by kernel_rfl }
theorem clone_ (A2 : Option Addr) (c2 : Nat) (l2 : List Int) (w : World) (hr : Kd.C (Kd.int .i64) w A2 l2.length l2) (hl : l2.length ≤ 17592186044416) :
 Calls Tryd.prog 44 #[.slice A2 l2.length c2] w fun e w' => ∃ v', e = .returned v' ∧ w'.ownsRow w.heap.size 3 1 v' l2.length (l2.map (Value.int .i64)) ∧ Below w.heap.size w w' := by
 cases A2 with
 | none =>
  have h0 : l2 = [] := by
   rcases l2 with _ | ⟨x, l2⟩
   ·rfl
   ·obtain ⟨ad, e, _⟩ := hr.2.2 (by simp)
    cases e
  subst h0
  refine (Any.slices_Clone_int_nil lay15 0 c2 w).mono ?_
  rintro e w' ⟨rfl, rfl⟩
  exact ⟨_, rfl, own_nil _ _ _ _, Below.refl _ _⟩
 | some a =>
  rcases l2 with _ | ⟨x, l2⟩
  ·refine (Any.slices_Clone_int_zero lay15 a c2 w).mono ?_
   rintro e w' ⟨v', rfl, ho, _, hb⟩
   exact ⟨_, rfl, ho, hb⟩
  ·obtain ⟨ad, e, hc⟩ := hr.2.2 (by simp)
   obtain rfl := Option.some.inj e
   have hcell : ∀ j, j < (x :: l2).length → w.cell? (a.add j) = some (.int .i64 ((x :: l2).getD j 0)) := by
    intro j hj
    obtain ⟨c, hsz, hk, hu⟩ := hc j _ (List.getElem?_eq_getElem hj)
    have hk' : c = [Value.int .i64 (x :: l2)[j]] := hk
    subst hk'
    have := hu 0 _ rfl
    rw [show (Kd.int .i64).sz = 1 from rfl, Nat.mul_one, Nat.add_zero] at this
    rw [this, List.getD_eq_getElem?_getD, List.getElem?_eq_getElem hj]
    rfl
   obtain ⟨b, off, spot⟩ := a
   have hspot : spot = none := by simpa [Addr.add] using World.cell?_spot (hcell 0 (by simp))
   subst hspot
   refine (Any.slices_Clone_int lay15 b off (x :: l2).length c2 (x :: l2) w (Nat.le_refl _) (by omega) (fun j hj => by rw [← hcell j hj, Go.WideShapes.add_plain])).mono ?_
   rintro e w' ⟨v', rfl, ho, _, hb⟩
   refine ⟨_, rfl, ?_, hb⟩
   rw [List.take_length] at ho
   exact ho
section
variable {σ : Type} (vs : Nat → σ → List Int → List Int → Option (σ × Bool)) (a0 a1 a2 n : Int)
mutual
def impl_grow.f : Nat → Int → List Int → σ → Option (σ × Bool)
 | 0, _, _, _ => none
 | k + 1, most, xs, s => if xs.length ≤ 1000000 then (if (xs.length : Int) = n then ((impl_piecesOf.f k a0 a1 a2 xs).bind fun t => if t.2 = true then vs k s xs t.1 else some (s, true)) else impl_grow.l k most xs s 0) else none
def impl_grow.l : Nat → Int → List Int → σ → Int → Option (σ × Bool)
 | 0, _, _, _, _ => none
 | k + 1, most, xs, s, i => if i ≤ most then (if xs.length < 1000000 then ((impl_grow.f k (mx most (wrap64 (i + 1))) (xs ++ [i]) s).bind fun t => if t.2 = true then impl_grow.l k most xs t.1 (wrap64 (i + 1)) else some (t.1, false)) else none) else some (s, true)
end
end
/-- The boxes that grow reads. -/
structure GSt (W : World) (bn bw bh bm bv bg : Nat) (n a0 a1 a2 : Int) (vf gf : Value) : Prop where
 n : W.cell? ⟨bn, 0, none⟩ = some (.int .i64 n)
 w : W.cell? ⟨bw, 0, none⟩ = some (.int .i64 a0)
 h : W.cell? ⟨bh, 0, none⟩ = some (.int .i64 a1)
 m : W.cell? ⟨bm, 0, none⟩ = some (.int .i64 a2)
 v : W.cell? ⟨bv, 0, none⟩ = some vf
 g : W.cell? ⟨bg, 0, none⟩ = some gf
theorem GSt.keeps {S : Nat → Prop} {W W' : World} {bn bw bh bm bv bg : Nat} {n a0 a1 a2 : Int} {vf gf : Value} (h : GSt W bn bw bh bm bv bg n a0 a1 a2 vf gf) (hk : Keeps S W W') (hs : ¬ S bn ∧ ¬ S bw ∧ ¬ S bh ∧ ¬ S bm ∧ ¬ S bv ∧ ¬ S bg) : GSt W' bn bw bh bm bv bg n a0 a1 a2 vf gf :=
 ⟨hk.cell h.n hs.1, hk.cell h.w hs.2.1, hk.cell h.h hs.2.2.1, hk.cell h.m hs.2.2.2.1, hk.cell h.v hs.2.2.2.2.1, hk.cell h.g hs.2.2.2.2.2⟩
/-- The cut in its box. -/
structure Cut (W : World) (bc bg base : Nat) (v : Value) (xs : List Int) : Prop where
 cell : W.cell? ⟨bc, 0, none⟩ = some v
 fro : W.frozen? ⟨bc, 0, none⟩ = false
 row : Kd.R (Kd.int .i64) 3 W base (fun k => k ≠ bc ∧ k ≠ bg) v xs
def XB (bc : Nat) (v : Value) (k : Nat) : Prop := k = bc ∨ some k = v.ownBlock
theorem Cut.keeps {S : Nat → Prop} {W W' : World} {bc bg base : Nat} {v : Value} {xs : List Int} (h : Cut W bc bg base v xs) (hk : Keeps S W W') (hs : ∀ k, XB bc v k → ¬ S k) : Cut W' bc bg base v xs :=
 ⟨hk.cell h.cell (hs _ (.inl rfl)), hk.frozen h.cell (hs _ (.inl rfl)) h.fro, hk.row h.row (fun k e => hs k (.inr e.symm))⟩
def growArgs (bc bn bw bh bm bv bg : Nat) : Array Value := #[.pointer (some ⟨bc, 0, none⟩), .pointer (some ⟨bn, 0, none⟩), .pointer (some ⟨bw, 0, none⟩), .pointer (some ⟨bh, 0, none⟩), .pointer (some ⟨bm, 0, none⟩), .pointer (some ⟨bv, 0, none⟩), .pointer (some ⟨bg, 0, none⟩)]
/-- What a visitor is: its state, told of the world outside of the blocks X; what it answers; what it leaves. -/
structure Visits {σ : Type} (vs : Nat → σ → List Int → List Int → Option (σ × Bool)) (I : σ → (Nat → Prop) → World → Prop) (B0 L : Nat) (caps : Array Value) : Prop where
 eg : ∀ args w, (callFunc L args).run Tryd.prog w = .ok (.enter L args) w
 st : ∀ s X W W', I s X W → Keeps X W W' → I s X W'
 mo : ∀ s (X X' : Nat → Prop) W, I s X W → (∀ k, X' k → X k ∨ W.heap.size ≤ k) → I s X' W
 laid : ∀ s X W, I s X W → Go.Proofs.YtmjfigeikiickaaDoorLaid.LaidG W
 call : ∀ k s c p r (X : Nat → Prop) v1 A2 c2 W, I s X W → (∀ q, X q → B0 ≤ q) → vs k s c p = some r → Kd.R (Kd.int .i64) 3 W B0 (fun q => ¬ X q) v1 c → Kd.C (Kd.int .i64) W A2 p.length p → p.length ≤ c2 →
  Calls Tryd.prog L (#[v1, .slice A2 p.length c2] ++ caps) W fun e w' => e = .returned (.bool r.2) ∧ I r.1 X w' ∧ Keeps (fun k => k < B0) W w'
section
variable {σ : Type} {vs : Nat → σ → List Int → List Int → Option (σ × Bool)} {a0 a1 a2 n : Int} {I : σ → (Nat → Prop) → World → Prop} {B0 L : Nat} {caps : Array Value}
theorem Visits.below (V : Visits vs I B0 L caps) {s : σ} {X : Nat → Prop} {W W' : World} (h : I s X W) (hb : Below W.heap.size W W') : I s X W' := V.st s X W W' h (Keeps.of_below hb)
def GPost (I : σ → (Nat → Prop) → World → Prop) (bc bn bw bh bm bv bg base : Nat) (n a0 a1 a2 : Int) (vf gf : Value) (xs : List Int) (r : σ × Bool) (e : Ending) (w' : World) : Prop :=
 e = .returned (.bool r.2) ∧ ∃ v', GSt w' bn bw bh bm bv bg n a0 a1 a2 vf gf ∧ Cut w' bc bg base v' xs ∧ I r.1 (XB bc v') w'
theorem xb_ge {W : World} {bc bn bw bh bm bv bg base : Nat} {v : Value} {xs : List Int} (h : Cut W bc bg base v xs) (hB : B0 ≤ bn ∧ B0 ≤ bw ∧ B0 ≤ bh ∧ B0 ≤ bm ∧ B0 ≤ bv ∧ bn < base ∧ bw < base ∧ bh < base ∧ bm < base ∧ bv < base ∧ base ≤ bc ∧ base ≤ bg ∧ bc ≠ bg) : ∀ q, XB bc v q → B0 ≤ q := by
 rintro q (rfl | e)
 ·omega
 ·have := Kd.R_base h.row q e.symm
  omega
theorem clone_row {W W' : World} {bc bn bw bh bm bv bg base : Nat} {n a0 a1 a2 : Int} {vf gf v v2 : Value} {xs : List Int} (h : Cut W bc bg base v xs) (hg : GSt W bn bw bh bm bv bg n a0 a1 a2 vf gf) (hB : B0 ≤ bn ∧ B0 ≤ bw ∧ B0 ≤ bh ∧ B0 ≤ bm ∧ B0 ≤ bv ∧ bn < base ∧ bw < base ∧ bh < base ∧ bm < base ∧ bv < base ∧ base ≤ bc ∧ base ≤ bg ∧ bc ≠ bg)
 (ho : W'.ownsRow W.heap.size 3 1 v2 xs.length (xs.map (Value.int .i64))) : Kd.R (Kd.int .i64) 3 W' B0 (fun q => ¬ XB bc v q) v2 xs := by
 have hn := World.block_lt_of_cell? W _ hg.n
 have hbc := World.block_lt_of_cell? W _ h.cell
 refine Kd.R_lower (Kd.R_of_own ho (fun k hk => ?_)) (show B0 ≤ W.heap.size by have : bn < W.heap.size := hn; omega)
 have hk2 := own_base ho k hk
 rintro (rfl | e)
 ·have : k < W.heap.size := hbc
  omega
 ·have := Kd.R_lt h.row k e.symm
  omega
theorem grow_fresh {W : World} {bc bn bw bh bm bv bg base : Nat} {n a0 a1 a2 : Int} {vf gf : Value} {v : Value} {xs : List Int} (h : Cut W bc bg base v xs) (hg : GSt W bn bw bh bm bv bg n a0 a1 a2 vf gf) : ∀ k, W.heap.size ≤ k → k ≠ bc ∧ k ≠ bg := by
 intro k hk
 have h1 : bc < W.heap.size := World.block_lt_of_cell? W _ h.cell
 have h2 : bg < W.heap.size := World.block_lt_of_cell? W _ hg.g
 omega
theorem grow_base {W : World} {bc bn bw bh bm bv bg base : Nat} {v : Value} {xs : List Int} (h : Cut W bc bg base v xs) (hB : B0 ≤ bn ∧ B0 ≤ bw ∧ B0 ≤ bh ∧ B0 ≤ bm ∧ B0 ≤ bv ∧ bn < base ∧ bw < base ∧ bh < base ∧ bm < base ∧ bv < base ∧ base ≤ bc ∧ base ≤ bg ∧ bc ≠ bg) : base ≤ W.heap.size := by
 have h1 : bc < W.heap.size := World.block_lt_of_cell? W _ h.cell
 omega
theorem own_apart {W : World} {bc bn bw bh bm bv bg base : Nat} {v : Value} {xs : List Int} (h : Kd.R (Kd.int .i64) 3 W base (fun k => k ≠ bc ∧ k ≠ bg) v xs) (hB : B0 ≤ bn ∧ B0 ≤ bw ∧ B0 ≤ bh ∧ B0 ≤ bm ∧ B0 ≤ bv ∧ bn < base ∧ bw < base ∧ bh < base ∧ bm < base ∧ bv < base ∧ base ≤ bc ∧ base ≤ bg ∧ bc ≠ bg) : some bn ≠ v.ownBlock ∧ some bw ≠ v.ownBlock ∧ some bh ≠ v.ownBlock ∧ some bm ≠ v.ownBlock ∧ some bv ≠ v.ownBlock ∧ some bg ≠ v.ownBlock ∧ some bc ≠ v.ownBlock := by
 refine ⟨?_, ?_, ?_, ?_, ?_, ?_, ?_⟩ <;> intro e
 ·have := Kd.R_base h _ e.symm; omega
 ·have := Kd.R_base h _ e.symm; omega
 ·have := Kd.R_base h _ e.symm; omega
 ·have := Kd.R_base h _ e.symm; omega
 ·have := Kd.R_base h _ e.symm; omega
 ·exact (h.1 _ e.symm).2 rfl
 ·exact (h.1 _ e.symm).1 rfl
theorem grow_app {W w1 : World} {bc bn bw bh bm bv bg base : Nat} {n a0 a1 a2 : Int} {vf gf : Value} {v v1 : Value} {xs : List Int} {s : σ} (V : Visits vs I B0 L caps) (hG : GSt W bn bw bh bm bv bg n a0 a1 a2 vf gf) (h : Cut W bc bg base v xs) (hI : I s (XB bc v) W) (hB : B0 ≤ bn ∧ B0 ≤ bw ∧ B0 ≤ bh ∧ B0 ≤ bm ∧ B0 ≤ bv ∧ bn < base ∧ bw < base ∧ bh < base ∧ bm < base ∧ bv < base ∧ base ≤ bc ∧ base ≤ bg ∧ bc ≠ bg)
 (hg : W.grownBy w1 v.ownBlock) (hat : v1.ownBlock = v.ownBlock ∨ ∃ b, v1.ownBlock = some b ∧ W.heap.size ≤ b) :
 GSt w1 bn bw bh bm bv bg n a0 a1 a2 vf gf ∧ w1.cell? ⟨bc, 0, none⟩ = some v ∧ w1.frozen? ⟨bc, 0, none⟩ = false ∧ I s (XB bc v1) w1 := by
 obtain ⟨o1, o2, o3, o4, o5, o6, o7⟩ := own_apart h.row hB
 have hk := Keeps.of_grown hg
 refine ⟨hG.keeps hk ⟨o1, o2, o3, o4, o5, o6⟩, hk.cell h.cell o7, hk.frozen h.cell o7 h.fro, ?_⟩
 have h1 : I s (fun k => XB bc v k ∨ XB bc v1 k) W := V.mo s (XB bc v) _ W hI (fun k hk => by
  rcases hk with hk | hk
  ·exact .inl hk
  ·rcases hk with rfl | e
   ·exact .inl (.inl rfl)
   ·rcases hat with e2 | ⟨b, e2, hb⟩
    ·exact .inl (.inr (e.trans e2))
    ·rw [e2] at e
     injection e with e
     subst e
     exact .inr hb)
 exact V.mo s _ _ w1 (V.st s _ W w1 h1 (hk.mono (fun k e => .inl (.inr e)))) (fun k hk => .inl (.inr hk))
theorem grow_store {W w1 : World} {bc bn bw bh bm bv bg base : Nat} {n a0 a1 a2 : Int} {vf gf : Value} {v v1 : Value} {ys : List Int} {s : σ} (V : Visits vs I B0 L caps) (hG : GSt W bn bw bh bm bv bg n a0 a1 a2 vf gf) (hc : W.cell? ⟨bc, 0, none⟩ = some v) (hf : W.frozen? ⟨bc, 0, none⟩ = false) (hr : Kd.R (Kd.int .i64) 3 W base (fun k => k ≠ bc ∧ k ≠ bg) v1 ys) (hI : I s (XB bc v1) W) (hB : B0 ≤ bn ∧ B0 ≤ bw ∧ B0 ≤ bh ∧ B0 ≤ bm ∧ B0 ≤ bv ∧ bn < base ∧ bw < base ∧ bh < base ∧ bm < base ∧ bv < base ∧ base ≤ bc ∧ base ≤ bg ∧ bc ≠ bg)
 (hw : w1 = W.setCell ⟨bc, 0, none⟩ v1) : GSt w1 bn bw bh bm bv bg n a0 a1 a2 vf gf ∧ Cut w1 bc bg base v1 ys ∧ I s (XB bc v1) w1 := by
 subst hw
 have hk : Keeps (fun k => k = bc) W (W.setCell ⟨bc, 0, none⟩ v1) := Keeps.of_set
 refine ⟨hG.keeps hk (by omega), ⟨World.cell?_setCell_same' _ _ _ (by rw [hc]; rfl), by rw [World.frozen?_setCell]; exact hf, hk.row hr (fun k e g => (hr.1 k e).1 g)⟩, V.st s _ W _ hI (hk.mono (fun k e => .inl e))⟩
set_option maxHeartbeats 4000000 in
set_option maxRecDepth 100000 in
theorem impl_grow.upto (V : Visits vs I B0 L caps) (bc bn bw bh bm bv bg base : Nat) (hB : B0 ≤ bn ∧ B0 ≤ bw ∧ B0 ≤ bh ∧ B0 ≤ bm ∧ B0 ≤ bv ∧ bn < base ∧ bw < base ∧ bh < base ∧ bm < base ∧ bv < base ∧ base ≤ bc ∧ base ≤ bg ∧ bc ≠ bg) :
 ∀ (KK k : Nat), k ≤ KK → ∀ (most : Int) (xs : List Int) (s : σ) (r : σ × Bool) (v : Value) (W : World), impl_grow.f vs a0 a1 a2 n k most xs s = some r →
  GSt W bn bw bh bm bv bg n a0 a1 a2 (.func (.func L) #[] caps) (.func (.func 42) #[] (growArgs bc bn bw bh bm bv bg)) → Cut W bc bg base v xs → I s (XB bc v) W →
  Calls Tryd.prog 42 (#[.int .i64 most] ++ growArgs bc bn bw bh bm bv bg) W (GPost I bc bn bw bh bm bv bg base n a0 a1 a2 (.func (.func L) #[] caps) (.func (.func 42) #[] (growArgs bc bn bw bh bm bv bg)) xs r) := by
 intro KK
 induction KK with
 | zero =>
  intro k hk most xs s r v W h
  obtain rfl : k = 0 := by omega
  simp [impl_grow.f] at h
 | succ KK ih =>
  intro k hk most xs s r v W h HG HC HI
  obtain ⟨k, rfl⟩ : ∃ q, k = q + 1 := by
   cases k with
   | zero => simp [impl_grow.f] at h
   | succ q => exact ⟨q, rfl⟩
  have HKK := Aside0.mk (show k ≤ KK by omega)
  clear hk
  have eL := V.eg
  have e42 : ∀ args w, (callFunc 42 args).run Tryd.prog w = .ok (.enter 42 args) w := enters_of Tryd.func42 (by kernel_rfl) rfl
  have HV := Aside0.mk V
  have HBS := Aside0.mk hB
  have IH := Aside0.mk ih
  clear ih hB V
  obtain ⟨A, c, rfl⟩ := Kd.R_slice HC.row
  have hx1 := HC.cell
  have hxn := HG.n
  have hxw := HG.w
  have hxh := HG.h
  have hxm := HG.m
  have hxv := HG.v
  have hxg := HG.g
  have HG := Aside0.mk HG
  have HC := Aside0.mk HC
  have HI := Aside0.mk HI
  simp only [impl_grow.f] at h
  have hlen : xs.length ≤ 1000000 := by
   by_cases c0 : xs.length ≤ 1000000
   ·exact c0
   ·rw [if_neg c0] at h; cases h
  rw [if_pos hlen] at h
  have HL := Aside0.mk hlen
  clear hlen
  by_cases c1 : (xs.length : Int) = n
  ·rw [if_pos c1] at h
   have c1b0 : ((xs.length : Int) == n) = true := beq_iff_eq.mpr c1
   obtain ⟨t, ht, h⟩ := Option.bind_eq_some_iff.mp h
   have HT := Aside0.mk (show impl_piecesOf.f k a0 a1 a2 xs = some (t.1, t.2) from ht)
   have H := Aside0.mk h
   clear ht h c1
   unfold growArgs
   go_enter Tryd.func42, Tryd.ntmps42
   go_wp2_with (first
    | ((with_reducible refine gate_callee (f := 43) rfl ?_); refine goesL_ (some 23) rfl rfl Tryd.func43 (by kernel_rfl) rfl #[.int .i64 a0, .int .i64 a1, .int .i64 a2, .slice A xs.length c] rfl (by (try simp only [List.map_toArray, List.map_cons, List.map_nil]); first | done | rfl) ?_; (refine (impl_piecesOf.calls k a0 a1 a2 A c xs t.1 t.2 W ⟨HV.out.laid _ _ _ HI.out⟩ (Kd.R_reads' HC.out.row).2.2 (Kd.R_reads' HC.out.row).2.1 HT.out).mono ?_); rintro e W1 ⟨v0, rfl, ho, hb⟩; refine ⟨_, rfl, ?_⟩; have HP := Aside0.mk ho; have n0_ := Aside0.mk (HG.out.keeps (Keeps.of_below (S := fun _ => False) hb) (by simp)); have n1_ := Aside0.mk (HC.out.keeps (Keeps.of_below (S := fun _ => False) hb) (by simp)); have n2_ := Aside0.mk (HV.out.below HI.out hb); clear ho hb hx1 hxn hxw hxh hxm hxv hxg HG HC HI; have HG := n0_; have HC := n1_; have HI := n2_; clear n0_ n1_ n2_; have hx1 := HC.out.cell; have hxv := HG.out.v))
   obtain ⟨t1, t2⟩ := t
   by_cases c2 : t2 = true
   ·subst c2
    have h := H.out
    rw [if_pos rfl] at h
    have H' := Aside0.mk h
    clear H h
    obtain ⟨A0, c0, rfl⟩ := Kd.R_slice HP.out
    go_region_held3 (fun w' => w'.cell? ⟨bv, 0, none⟩ = some (.func (.func L) #[] caps) ∧ w'.cell? ⟨bc, 0, none⟩ = some (.slice A xs.length c))
     (first | go_keep | exact ⟨HG.out.v, HC.out.cell⟩)
     (first
      | (go_at_call 44; (refine (clone_ A c xs _ ?hr ?hl).mono ?_); (case hr => ((with_reducible repeat (first | apply Kd.C_alloc | apply Kd.C_drewN | apply Kd.C_drew)); exact (Kd.R_reads' HC.out.row).2.2)); (case hl => have := HL.out; omega); rintro e W2 ⟨v2, rfl, ho2, hb2⟩; have hb3 : Below W1.heap.size W1 W2 := ⟨hb2.os, hb2.tape, hb2.output, hb2.size, hb2.block⟩; have n0_ := Aside0.mk (HG.out.keeps (Keeps.of_below (S := fun _ => False) hb3) (by simp)); have n1_ := Aside0.mk (HC.out.keeps (Keeps.of_below (S := fun _ => False) hb3) (by simp)); have n2_ := Aside0.mk (HV.out.below HI.out hb3); have n3_ := Aside0.mk ((Keeps.of_below (S := fun _ => False) hb3).row HP.out (by simp)); have HQ := Aside0.mk (clone_row HC.out HG.out HBS.out ho2); clear ho2 hb2 hb3 HG HC HI HP; have HG := n0_; have HC := n1_; have HI := n2_; have HP := n3_; clear n0_ n1_ n2_ n3_)
      | (go_at_fn L; (refine (HV.out.call k s xs t1 r (XB bc (.slice A xs.length c)) v2 A0 c0 _ HI.out (xb_ge HC.out HBS.out) H'.out HQ.out (Kd.R_reads' HP.out).2.2 (Kd.R_reads' HP.out).2.1).mono ?_); rintro e W3 ⟨rfl, hi3, hk3⟩; have n0_ := Aside0.mk (HG.out.keeps hk3 (by have := HBS.out; omega)); have n1_ := Aside0.mk (HC.out.keeps hk3 (fun q hq => by have := xb_ge HC.out HBS.out q hq; omega)); clear HG HC HI hk3; have HG := n0_; have HC := n1_; have HI := Aside0.mk hi3; clear n0_ n1_ hi3))
    go_wp2
    go_ret
    exact ⟨rfl, _, HG.out, HC.out, HI.out⟩
   ·replace c2 := Bool.eq_false_iff.mpr c2
    subst c2
    have h := H.out
    rw [if_neg (show ¬ (false = true) by decide)] at h
    obtain rfl := Option.some.inj h
    clear H h
    go_quiet (fail)
    go_wp2
    go_ret
    exact ⟨rfl, _, HG.out.keeps (Keeps.of_below (S := fun _ => False) (by (with_reducible repeat (first | apply bA | apply bN | apply bD)); exact Below.refl _ _)) (by simp), HC.out.keeps (Keeps.of_below (S := fun _ => False) (by (with_reducible repeat (first | apply bA | apply bN | apply bD)); exact Below.refl _ _)) (by simp), HV.out.below HI.out (by (with_reducible repeat (first | apply bA | apply bN | apply bD)); exact Below.refl _ _)⟩
  ·rw [if_neg c1] at h
   have c1b0 : ((xs.length : Int) == n) = false := beq_eq_false_iff_ne.mpr c1
   have H' := Aside0.mk h
   clear h c1
   unfold growArgs
   go_enter Tryd.func42, Tryd.ntmps42
   go_wp2
   go_loopg [12] k (fun kq v12 w' => ∃ (i : Int) (s : σ) (v : Value), v12 = .int .i64 i ∧ Aside0 (impl_grow.l vs a0 a1 a2 n kq most xs s i = some r) ∧ Aside0 (kq ≤ k) ∧ Aside0 (GSt w' bn bw bh bm bv bg n a0 a1 a2 (.func (.func L) #[] caps) (.func (.func 42) #[] (growArgs bc bn bw bh bm bv bg))) ∧ Aside0 (Cut w' bc bg base v xs) ∧ Aside0 (I s (XB bc v) w'))
   case atStart => exact ⟨0, s, _, rfl, H', ⟨Nat.le_refl _⟩, HG, HC, HI⟩
   case round =>
    clear H' HG HC HI hx1 hxn hxw hxh hxm hxv hxg
    obtain ⟨i, s, v, rfl, HA, HK1, HG, HC, HI⟩ := hrel
    cases gk with
    | zero => exact absurd HA.out (by simp [impl_grow.l])
    | succ k1 =>
     have H := HA.out
     clear HA
     simp only [impl_grow.l] at H
     obtain ⟨A, c, rfl⟩ := Kd.R_slice HC.out.row
     by_cases c5 : i ≤ most
     ·rw [if_pos c5] at H
      have c5b0 : decide (i ≤ most) = true := decide_eq_true c5
      clear c5
      have hl1 : xs.length < 1000000 := by
       by_cases c0 : xs.length < 1000000
       ·exact c0
       ·rw [if_neg c0] at H; cases H
      rw [if_pos hl1] at H
      obtain ⟨t, ht, H⟩ := Option.bind_eq_some_iff.mp H
      have HT := Aside0.mk ht
      have H' := Aside0.mk H
      clear H ht hl1
      obtain ⟨ys, hys⟩ : ∃ ys, ys = xs ++ [i] := ⟨_, rfl⟩
      have HYL := Aside0.mk (show ys.length = xs.length + 1 by rw [hys]; simp)
      have HYT := Aside0.mk (show ys.take xs.length = xs by rw [hys]; simp)
      obtain ⟨ji, emx⟩ : ∃ ji, (if most < wrap64 (i + 1) then wrap64 (i + 1) else most) = ji := ⟨_, rfl⟩
      have HT' := Aside0.mk (show impl_grow.f vs a0 a1 a2 n k1 ji ys s = some t by rw [hys, ← emx]; exact HT.out)
      obtain ⟨i3_, hi3_, _, hs3_, _⟩ := info_parts info3
      have e53 : wrap64 ((ys.length : Int) - 1) = (xs.length : Int) := by have := HYL.out; have := HL.out; unfold wrap64; omega
      have hcut : ∀ (A : Option Addr) (c : Nat), ys.length ≤ c → ∀ W, (Instr.slice 24 (.slice A ys.length c) none (some (.int .i64 (xs.length : Int))) none).run Tryd.prog W = .ok (.slice A xs.length c) W := fun A c hc W => by
       have z := (print_take_int (P := Tryd.prog) (k := .i64) 24 3 Tryd.underlying24 hi3_ hs3_ A c ys (xs.length : Int) (by omega) (by have := HYL.out; omega) hc).1 W
       rw [Int.toNat_natCast, HYT.out] at z
       exact z
      have HCUT := Aside0.mk hcut
      clear hcut hi3_ hs3_
      have HYS := Aside0.mk hys
      clear HT hys
      have hx1 := HC.out.cell
      have hf1 := HC.out.fro
      have hxg := HG.out.g
      go_wp2_with (first
       | ((with_reducible refine gate_builtin (b := .append) (xs := #[.tmp 40, .tmp 42]) rfl ?_); at_builtin; refine Kd.R_append (Kd.int .i64) (w0 := wr) base rfl (.tmp 40) (.tmp 42) 24 3 (.int .i64 0) 8 rfl Tryd.underlying24 info3 rfl (by decide) (by omega) (.slice A xs.length c) xs i [.int .i64 i] (fun k => k ≠ bc ∧ k ≠ bg) (fun _ => False) rfl rfl ?aP (fun _ hk => hk.elim) ?aF ?aO ?aB ?aS ?aL ?_; (case aP => exact rfl); (case aF => exact grow_fresh HC.out HG.out); (case aO => exact HC.out.row); (case aB => exact Below.refl _ _); (case aS => exact grow_base HC.out HBS.out); (case aL => have := HL.out; omega); intro v1 w1 ho _ hg hat; obtain ⟨g1, g2, g3, g4⟩ := grow_app HV.out HG.out HC.out HI.out HBS.out hg hat; rw [← HYS.out] at ho; obtain ⟨A1, c1, rfl⟩ := Kd.R_slice ho; have HG := Aside0.mk g1; have HR1 := Aside0.mk ho; have HI := Aside0.mk g4; have HX := Aside0.mk g2; have HF := Aside0.mk g3; clear hx1 hf1 hxg HC g1 g4 ho hg hat; have hx1 := g2; have hf1 := g3; clear g2 g3)
       | ((with_reducible refine gate_store (t := 24) (p := 1) rfl ?_); refine store_event (by rfl) (t := 24) (p := 1) (v := .tmp 43) (w1 := w1.setCell ⟨bc, 0, none⟩ (.slice A1 ys.length c1)) rfl rfl ?hr ?_; (case hr => first | (go_simp; done) | (go_simp; rfl)); intro w2 hw; obtain ⟨g1, g2, g3⟩ := grow_store HV.out HG.out HX.out HF.out HR1.out HI.out HBS.out hw; have HG := Aside0.mk g1; have HC := Aside0.mk g2; have HI := Aside0.mk g3; clear hw g1 g2 g3 hx1 hf1 HR1 HX HF; have hx1 := HC.out.cell; have hf1 := HC.out.fro; have hxg := HG.out.g)
       | (go_at_fn 42; (refine (IH.out k1 (by have := HK1.out; have := HKK.out; omega) ji ys s t _ w2 HT'.out HG.out HC.out HI.out).mono ?_); rintro e w3 ⟨rfl, v3, g1, g2, g3⟩; obtain ⟨A3, c3, rfl⟩ := Kd.R_slice g2.row; clear hx1 hf1 hxg HG HC HI emx; have HG := Aside0.mk g1; have HC := Aside0.mk g2; have HI := Aside0.mk g3; clear g1 g2 g3; have hx1 := HC.out.cell; have hf1 := HC.out.fro; have hcut := HCUT.out A3 c3 (Kd.R_reads' HC.out.row).2.1)
       | ((with_reducible refine gate_store (t := 24) (p := 1) rfl ?_); refine store_event (by rfl) (t := 24) (p := 1) (v := .tmp 54) (w1 := w3.setCell ⟨bc, 0, none⟩ (.slice A3 xs.length c3)) rfl rfl ?hr2 ?_; (case hr2 => first | (go_simp; done) | (go_simp; rfl)); intro w4 hw; obtain ⟨g1, g2, g3⟩ := grow_store (v1 := .slice A3 xs.length c3) HV.out HG.out HC.out.cell HC.out.fro (by have z := Kd.R_take HC.out.row (m := xs.length) (by have := HYL.out; omega); rw [HYT.out] at z; exact z) (by cases A3 <;> exact HI.out) HBS.out hw; clear hx1 hf1 hcut hw HG HC HI; have HG := Aside0.mk g1; have HC := Aside0.mk g2; have HI := Aside0.mk g3; clear g1 g2 g3))
      ·have c9 : t.2 = false := by first | assumption | simp_all
       have H := H'.out
       rw [if_neg (by rw [c9]; decide)] at H
       obtain rfl := Option.some.inj H
       go_ret
       exact ⟨rfl, _, HG.out, HC.out, HI.out⟩
      ·have c9 : t.2 = true := by first | assumption | simp_all
       have H := H'.out
       rw [if_pos c9] at H
       have H2 := Aside0.mk H
       clear H c9
       go_roundg k1
       case measure => omega
       case rel => exact ⟨wrap64 (i + 1), t.1, _, rfl, H2, ⟨by have := HK1.out; omega⟩, HG, HC, HI⟩
     ·rw [if_neg c5] at H
      have c5b0 : decide (i ≤ most) = false := decide_eq_false c5
      obtain rfl := Option.some.inj H
      clear c5 H
      go_wp2
      go_ret
      exact ⟨rfl, _, HG.out, HC.out, HI.out⟩
end
section
variable {σ : Type} {vs : Nat → σ → List Int → List Int → Option (σ × Bool)} {I : σ → (Nat → Prop) → World → Prop} {L : Nat} {caps : Array Value}
def impl_eachCut.f (vs : Nat → σ → List Int → List Int → Option (σ × Bool)) (k : Nat) (a0 a1 a2 : Int) (s : σ) : Option σ := (bits_OnesCount.f (IntKind.u64.wrap a2)).bind fun n => (impl_grow.f vs a0 a1 a2 n k 0 [] s).bind fun t => some t.1
theorem cell_new (X : World) (v : Value) (t b : Nat) (hb : b = X.heap.size) : (X.alloc (.cells #[v] t)).cell? ⟨b, 0, none⟩ = some v := by
 subst hb
 unfold World.cell?
 rw [heap_alloc_new]
 rfl
theorem frozen_new (X : World) (v : Value) (t b : Nat) (hb : b = X.heap.size) : (X.alloc (.cells #[v] t)).frozen? ⟨b, 0, none⟩ = false := by
 subst hb
 unfold World.frozen?
 rw [heap_alloc_new]
 rfl
theorem store_fn (w : World) (ev : Operand → Value) (o : Oper) (b : Nat) {x y : Operand} {f : Fn} {ts cs : Array Value} (ho : o.op = .store 45 x y) (hx : ev x = .pointer (some ⟨b, 0, none⟩)) (hy : ev y = .func f ts cs) (hc : (w.cell? ⟨b, 0, none⟩).isSome = true) (hf : w.frozen? ⟨b, 0, none⟩ = false) :
 (execOp ev o).run Tryd.prog w = .ok .skip (w.setCell ⟨b, 0, none⟩ (.func f ts cs)) := by
 obtain ⟨u, hu⟩ := Option.isSome_iff_exists.mp hc
 have hs : (Go.sizeOf 45).run Tryd.prog w = .ok 1 w := Tryd.sizeOf45 w
 unfold execOp
 have hst : (store (⟨b, 0, none⟩ : Addr) (.func f ts cs)).run Tryd.prog w = .ok () (w.setCell ⟨b, 0, none⟩ (.func f ts cs)) := by
  rw [run_store Tryd.prog w _ _ _ rfl, hu, hf]
  rfl
 have ha : (⟨b, 0, none⟩ : Addr).add 0 = ⟨b, 0, none⟩ := rfl
 simp only [ho, hx, hy, Instr.storeAt, Instr.sureAddr, storeVar, Value.cells, Sem.run_bind, Sem.run_pure, Result.andThen_ok, hs]
 simp [storeCells, ha, hst]
theorem World.heap_alloc_lt_ (w : World) (o : Obj) (k : Nat) (h : k < w.heap.size) : (w.alloc o).heap[k]? = w.heap[k]? := (below_alloc (Below.refl w.heap.size w) o).block k h
theorem cell_old {X : World} {o : Obj} {a : Addr} {v : Value} (h : X.cell? a = some v) : (X.alloc o).cell? a = some v := (World.cell?_alloc_lt _ _ _ (World.block_lt_of_cell? X a h)).trans h
theorem each_start {W w1 w2 : World} {a0 a1 a2 n : Int} {vf : Value} {s : σ} (V : Visits vs I W.heap.size L caps) (hI : I s (fun _ => False) W) (hd : Drawn0 ((((W.alloc (Obj.cells #[Value.int .i64 a0] 3)).alloc (Obj.cells #[Value.int .i64 a1] 3)).alloc (Obj.cells #[Value.int .i64 a2] 3)).alloc (Obj.cells #[vf] 27)) w1)
 (hw : w2 = World.setCell ((((w1.alloc (Obj.cells #[Value.int .i64 n] 3)).alloc (Obj.cells #[] 3)).alloc (Obj.cells #[Value.slice (some ⟨w1.heap.size + 1, 0, none⟩) 0 0] 24)).alloc (Obj.cells #[Value.nilFunc] 45)) ⟨w1.heap.size + 1 + 1 + 1, 0, none⟩ (Value.func (.func 42) #[] (growArgs (w1.heap.size + 1 + 1) w1.heap.size W.heap.size (W.heap.size + 1) (W.heap.size + 1 + 1) (W.heap.size + 1 + 1 + 1) (w1.heap.size + 1 + 1 + 1)))) :
 GSt w2 w1.heap.size W.heap.size (W.heap.size + 1) (W.heap.size + 1 + 1) (W.heap.size + 1 + 1 + 1) (w1.heap.size + 1 + 1 + 1) n a0 a1 a2 vf (Value.func (.func 42) #[] (growArgs (w1.heap.size + 1 + 1) w1.heap.size W.heap.size (W.heap.size + 1) (W.heap.size + 1 + 1) (W.heap.size + 1 + 1 + 1) (w1.heap.size + 1 + 1 + 1))) ∧
  Cut w2 (w1.heap.size + 1 + 1) (w1.heap.size + 1 + 1 + 1) (w1.heap.size + 1) (.slice (some ⟨w1.heap.size + 1, 0, none⟩) 0 0) [] ∧
  I s (XB (w1.heap.size + 1 + 1) (.slice (some ⟨w1.heap.size + 1, 0, none⟩) 0 0)) w2 ∧ w1.heap.size = W.heap.size + 4 := by
 have hs : w1.heap.size = W.heap.size + 4 := by
  obtain ⟨nd, rfl⟩ := hd
  simp [World.drewN]
 have hb1 : Below W.heap.size W w1 := Below.trans (below_alloc (below_alloc (below_alloc (below_alloc (Below.refl _ _) _) _) _) _) (hd.below.mono (by simp; omega))
 have hk1 : Keeps (fun _ => False) ((((W.alloc (Obj.cells #[Value.int .i64 a0] 3)).alloc (Obj.cells #[Value.int .i64 a1] 3)).alloc (Obj.cells #[Value.int .i64 a2] 3)).alloc (Obj.cells #[vf] 27)) w1 := Keeps.of_below hd.below
 have hk2 : Keeps (fun _ => False) w1 ((((w1.alloc (Obj.cells #[Value.int .i64 n] 3)).alloc (Obj.cells #[] 3)).alloc (Obj.cells #[Value.slice (some ⟨w1.heap.size + 1, 0, none⟩) 0 0] 24)).alloc (Obj.cells #[Value.nilFunc] 45)) := Keeps.of_below (below_alloc (below_alloc (below_alloc (below_alloc (Below.refl _ _) _) _) _) _)
 have hk3 : Keeps (fun k => k = w1.heap.size + 1 + 1 + 1) ((((w1.alloc (Obj.cells #[Value.int .i64 n] 3)).alloc (Obj.cells #[] 3)).alloc (Obj.cells #[Value.slice (some ⟨w1.heap.size + 1, 0, none⟩) 0 0] 24)).alloc (Obj.cells #[Value.nilFunc] 45)) w2 := by rw [hw]; exact Keeps.of_set
 have cw := cell_old (o := Obj.cells #[vf] 27) (cell_old (o := Obj.cells #[Value.int .i64 a2] 3) (cell_old (o := Obj.cells #[Value.int .i64 a1] 3) (cell_new W (Value.int .i64 a0) 3 W.heap.size rfl)))
 have ch := cell_old (o := Obj.cells #[vf] 27) (cell_old (o := Obj.cells #[Value.int .i64 a2] 3) (cell_new (W.alloc (Obj.cells #[Value.int .i64 a0] 3)) (Value.int .i64 a1) 3 (W.heap.size + 1) (by simp)))
 have cm := cell_old (o := Obj.cells #[vf] 27) (cell_new ((W.alloc (Obj.cells #[Value.int .i64 a0] 3)).alloc (Obj.cells #[Value.int .i64 a1] 3)) (Value.int .i64 a2) 3 (W.heap.size + 1 + 1) (by simp))
 have cv := cell_new (((W.alloc (Obj.cells #[Value.int .i64 a0] 3)).alloc (Obj.cells #[Value.int .i64 a1] 3)).alloc (Obj.cells #[Value.int .i64 a2] 3)) vf 27 (W.heap.size + 1 + 1 + 1) (by simp)
 have cn := cell_old (o := Obj.cells #[Value.nilFunc] 45) (cell_old (o := Obj.cells #[Value.slice (some ⟨w1.heap.size + 1, 0, none⟩) 0 0] 24) (cell_old (o := Obj.cells #[] 3) (cell_new w1 (Value.int .i64 n) 3 w1.heap.size rfl)))
 have cc := cell_old (o := Obj.cells #[Value.nilFunc] 45) (cell_new ((w1.alloc (Obj.cells #[Value.int .i64 n] 3)).alloc (Obj.cells #[] 3)) (Value.slice (some ⟨w1.heap.size + 1, 0, none⟩) 0 0) 24 (w1.heap.size + 1 + 1) (by simp))
 have fc : (((((w1.alloc (Obj.cells #[Value.int .i64 n] 3)).alloc (Obj.cells #[] 3)).alloc (Obj.cells #[Value.slice (some ⟨w1.heap.size + 1, 0, none⟩) 0 0] 24)).alloc (Obj.cells #[Value.nilFunc] 45))).frozen? ⟨w1.heap.size + 1 + 1, 0, none⟩ = false := by
  have z := (Keeps.of_below (S := fun _ => False) (below_alloc (Below.refl _ ((w1.alloc (Obj.cells #[Value.int .i64 n] 3)).alloc (Obj.cells #[] 3) |>.alloc (Obj.cells #[Value.slice (some ⟨w1.heap.size + 1, 0, none⟩) 0 0] 24))) (Obj.cells #[Value.nilFunc] 45)))
  exact z.frozen (cell_new ((w1.alloc (Obj.cells #[Value.int .i64 n] 3)).alloc (Obj.cells #[] 3)) (Value.slice (some ⟨w1.heap.size + 1, 0, none⟩) 0 0) 24 (w1.heap.size + 1 + 1) (by simp)) (fun h => h) (frozen_new _ _ _ _ (by simp))
 have hrow : Kd.R (Kd.int .i64) 3 w2 (w1.heap.size + 1) (fun k => k ≠ w1.heap.size + 1 + 1 ∧ k ≠ w1.heap.size + 1 + 1 + 1) (.slice (some ⟨w1.heap.size + 1, 0, none⟩) 0 0) [] := by
  have hh : w2.heap[w1.heap.size + 1]? = some (.cells #[] 3 (0, 0)) := by
   rw [hk3.block _ (by simp) (by omega), World.heap_alloc_lt_ _ _ _ (by simp), World.heap_alloc_lt_ _ _ _ (by simp)]
   have := heap_alloc_new (w1.alloc (Obj.cells #[Value.int .i64 n] 3)) (Obj.cells #[] 3)
   simpa using this
  refine Kd.R_of_own ⟨by simp [encs], .inr ⟨w1.heap.size + 1, 0, #[], rfl, Nat.le_refl _, hh, Nat.le_refl _, by decide, by simp, by simp [encs]⟩⟩ (fun k hk => ?_)
  simp [Value.ownBlock] at hk
  omega
 refine ⟨⟨?_, ?_, ?_, ?_, ?_, ?_⟩, ⟨hk3.cell cc (by simp), hk3.frozen cc (by simp) fc, hrow⟩, ?_, hs⟩
 ·exact hk3.cell cn (by simp; omega)
 ·exact hk3.cell (hk2.cell (hk1.cell cw (fun h => h)) (fun h => h)) (by simp; omega)
 ·exact hk3.cell (hk2.cell (hk1.cell ch (fun h => h)) (fun h => h)) (by simp; omega)
 ·exact hk3.cell (hk2.cell (hk1.cell cm (fun h => h)) (fun h => h)) (by simp; omega)
 ·exact hk3.cell (hk2.cell (hk1.cell cv (fun h => h)) (fun h => h)) (by simp; omega)
 ·rw [hw]
  exact World.cell?_setCell_same' _ _ _ (by rw [cell_new _ _ _ _ (by simp)]; rfl)
 ·have hk0 : Keeps (fun k => W.heap.size ≤ k) W w2 := by
   refine Keeps.trans (Keeps.of_below hb1) (Keeps.trans (hk2.mono (fun _ h => h.elim)) (hk3.mono (fun k h => by subst h; omega)))
  have h1 := V.mo s _ (fun k => W.heap.size ≤ k) W hI (fun k hk => .inr hk)
  refine V.mo s _ _ w2 (V.st s _ W w2 h1 hk0) (fun k hk => .inl ?_)
  rcases hk with rfl | e
  ·omega
  ·simp [Value.ownBlock] at e
   omega
set_option maxHeartbeats 4000000 in
set_option maxRecDepth 100000 in
theorem impl_eachCut.calls (W : World) (V : Visits vs I W.heap.size L caps) (k : Nat) (a0 a1 a2 : Int) (s r : σ) (h : impl_eachCut.f vs k a0 a1 a2 s = some r) (hI : I s (fun _ => False) W) :
 Calls Tryd.prog 26 #[.int .i64 a0, .int .i64 a1, .int .i64 a2, .func (.func L) #[] caps] W fun e w' => e = .returned (.tuple #[]) ∧ I r (fun _ => False) w' := by
 unfold impl_eachCut.f at h
 obtain ⟨n, hn, h⟩ := Option.bind_eq_some_iff.mp h
 obtain ⟨t, ht, h⟩ := Option.bind_eq_some_iff.mp h
 obtain rfl := Option.some.inj h
 have HN := Aside0.mk hn
 have HT := Aside0.mk ht
 have HI := Aside0.mk hI
 have HV := Aside0.mk V
 clear h hn ht hI V
 have e42 : ∀ args w, (callFunc 42 args).run Tryd.prog w = .ok (.enter 42 args) w := enters_of Tryd.func42 (by kernel_rfl) rfl
 go_enter Tryd.func26, Tryd.ntmps26
 go_wp2_with (first
  | ((with_reducible refine gate_callee (f := 32) rfl ?_); refine goesL_ (some 13) rfl rfl Tryd.func32 (by kernel_rfl) rfl #[.int .u64 (IntKind.u64.wrap a2)] rfl (by (try simp only [List.map_toArray, List.map_cons, List.map_nil]); first | done | rfl) ?_; (refine (bits_OnesCount.calls (IntKind.u64.wrap a2) n _ HN.out).mono ?_); rintro e w1 ⟨rfl, hd⟩; refine ⟨_, rfl, ?_⟩)
  | ((with_reducible refine gate_store (t := 45) (p := 10) rfl ?_); refine store_event (by rfl) (t := 45) (p := 10) (v := .tmp 15) (w1 := World.setCell ((((w1.alloc (Obj.cells #[Value.int .i64 n] 3)).alloc (Obj.cells #[] 3)).alloc (Obj.cells #[Value.slice (some ⟨w1.heap.size + 1, 0, none⟩) 0 0] 24)).alloc (Obj.cells #[Value.nilFunc] 45)) ⟨w1.heap.size + 1 + 1 + 1, 0, none⟩ (Value.func (.func 42) #[] (growArgs (w1.heap.size + 1 + 1) w1.heap.size W.heap.size (W.heap.size + 1) (W.heap.size + 1 + 1) (W.heap.size + 1 + 1 + 1) (w1.heap.size + 1 + 1 + 1)))) rfl rfl (store_fn _ _ _ _ rfl rfl rfl (by rw [cell_new _ _ _ _ (by simp)]; rfl) (frozen_new _ _ _ _ (by simp))) ?_; intro w2 hw; have HW := Aside0.mk hw; have hxg := (show w2.cell? ⟨w1.heap.size + 1 + 1 + 1, 0, none⟩ = some (Value.func (.func 42) #[] (growArgs (w1.heap.size + 1 + 1) w1.heap.size W.heap.size (W.heap.size + 1) (W.heap.size + 1 + 1) (W.heap.size + 1 + 1 + 1) (w1.heap.size + 1 + 1 + 1))) by rw [hw]; exact World.cell?_setCell_same' _ _ _ (by rw [cell_new _ _ _ _ (by simp)]; rfl)); clear hw)
  | (go_at_fn 42; obtain ⟨g1, g2, g3, g4⟩ := each_start HV.out HI.out hd HW.out; (refine (impl_grow.upto HV.out (w1.heap.size + 1 + 1) w1.heap.size W.heap.size (W.heap.size + 1) (W.heap.size + 1 + 1) (W.heap.size + 1 + 1 + 1) (w1.heap.size + 1 + 1 + 1) (w1.heap.size + 1) (by omega) k k (Nat.le_refl _) 0 [] s t _ w2 HT.out g1 g2 g3).mono ?_); rintro e w3 ⟨rfl, v3, _, _, h3⟩; have HR := Aside0.mk (HV.out.mo _ _ (fun _ => False) w3 h3 (fun _ h => h.elim)); clear g1 g2 g3 g4 h3))
 go_end0
 exact ⟨rfl, HR.out⟩
end
theorem impl_grow.mono_l {σ : Type} {vs : Nat → σ → List Int → List Int → Option (σ × Bool)} {a0 a1 a2 n : Int} (hv : ∀ k s c p, LeO (vs k s c p) (vs (k + 1) s c p)) : ∀ k, (∀ most xs s, LeO (impl_grow.f vs a0 a1 a2 n k most xs s) (impl_grow.f vs a0 a1 a2 n (k + 1) most xs s)) ∧ (∀ most xs s i, LeO (impl_grow.l vs a0 a1 a2 n k most xs s i) (impl_grow.l vs a0 a1 a2 n (k + 1) most xs s i))
 | 0 => ⟨fun _ _ _ r h => by simp [impl_grow.f] at h, fun _ _ _ _ r h => by simp [impl_grow.l] at h⟩
 | k + 1 => by
  obtain ⟨ih0, ih1⟩ := impl_grow.mono_l (a0 := a0) (a1 := a1) (a2 := a2) (n := n) hv k
  constructor
  ·intro most xs s
   unfold impl_grow.f
   repeat' first
    | exact hv _ _ _ _
    | exact impl_piecesOf.mono _ _ _ _ _
    | exact ih1 _ _ _ _
    | exact LeO.refl _
    | exact LeO.none _
    | refine LeO.ite ?_ ?_
    | refine LeO.bind ?_ (fun _ => ?_)
  ·intro most xs s i
   unfold impl_grow.l
   repeat' first
    | exact ih0 _ _ _
    | exact ih1 _ _ _ _
    | exact LeO.refl _
    | exact LeO.none _
    | refine LeO.ite ?_ ?_
    | refine LeO.bind ?_ (fun _ => ?_)
theorem impl_eachCut.mono {σ : Type} {vs : Nat → σ → List Int → List Int → Option (σ × Bool)} (hv : ∀ k s c p, LeO (vs k s c p) (vs (k + 1) s c p)) (k : Nat) (a0 a1 a2 : Int) (s : σ) : LeO (impl_eachCut.f vs k a0 a1 a2 s) (impl_eachCut.f vs (k + 1) a0 a1 a2 s) := by
 unfold impl_eachCut.f
 refine LeO.bind (LeO.refl _) (fun _ => LeO.bind ((impl_grow.mono_l hv k).1 _ _ _) (fun _ => LeO.refl _))
theorem keeps_below {w0 W W' : World} {X : Nat → Prop} (hb : Below w0.heap.size w0 W) (hk : Keeps X W W') (hx : ∀ k, X k → w0.heap.size ≤ k) : Below w0.heap.size w0 W' :=
 hb.trans ⟨hk.os, hk.tape, hk.output, hk.size, fun k h => hk.block k (Nat.lt_of_lt_of_le h hb.size) (fun g => by have := hx k g; omega)⟩
theorem count_lt {w w1 : World} {v u : Value} {t t' : Nat} (hd : Drawn0 (w.alloc (Obj.cells #[v] t)) w1) : w.heap.size < (w1.alloc (Obj.cells #[u] t')).heap.size ∧ w1.heap.size < (w1.alloc (Obj.cells #[u] t')).heap.size := by
 have := hd.below.size
 simp at this ⊢
 omega
mutual
def impl_moved.j0 : Nat → Int → Int → Int → Option (Int × Int)
 | 0, _, _, _ => none
 | k + 1, x1, x381000, x381001 => impl_moved.l0 k (Int.tmod x1 4) 0 x381000 x381001
def impl_moved.l0 : Nat → Int → Int → Int → Int → Option (Int × Int)
 | 0, _, _, _, _ => none
 | k + 1, x12, x13, x381000, x381001 => if x13 < x12 then (impl_moved.l0 k x12 (wrap64 (x13 + 1)) (wrap64 (-x381001)) x381000) else (some (x381000, x381001))
end
def impl_moved.f (k : Nat) (a0_0 : Int) (a0_1 : Int) (a1 : Int) : Option (Int × Int) := if a1 ≥ 4 then (impl_moved.j0 k a1 (wrap64 (-a0_0)) a0_1) else (impl_moved.j0 k a1 a0_0 a0_1)
theorem impl_moved.mono_l : ∀ k, (∀ y0 y1 y2, LeO (impl_moved.j0 k y0 y1 y2) (impl_moved.j0 (k + 1) y0 y1 y2)) ∧ (∀ y0 y1 y2 y3, LeO (impl_moved.l0 k y0 y1 y2 y3) (impl_moved.l0 (k + 1) y0 y1 y2 y3))
 | 0 => ⟨fun _ _ _ r h => by simp [impl_moved.j0] at h, fun _ _ _ _ r h => by simp [impl_moved.l0] at h⟩
 | k + 1 => by
  obtain ⟨ih0, ih1⟩ := impl_moved.mono_l k
  refine ⟨?_, ?_⟩
  ·intro y0 y1 y2
   unfold impl_moved.j0
   repeat' first
   | (with_reducible exact LeO.refl _)
   | exact ih0 _ _ _
   | exact ih1 _ _ _ _
   | exact LeO.none _
   | refine LeO.ite ?_ ?_
   | refine LeO.bind ?_ (fun _ => ?_)
  ·intro y0 y1 y2 y3
   unfold impl_moved.l0
   repeat' first
   | (with_reducible exact LeO.refl _)
   | exact ih0 _ _ _
   | exact ih1 _ _ _ _
   | exact LeO.none _
   | refine LeO.ite ?_ ?_
   | refine LeO.bind ?_ (fun _ => ?_)
theorem impl_moved.mono : ∀ a0 a1 a2 k, LeO (impl_moved.f k a0 a1 a2) (impl_moved.f (k + 1) a0 a1 a2) := by
 intro a0 a1 a2 k
 obtain ⟨ih0, ih1⟩ := impl_moved.mono_l k
 unfold impl_moved.f
 repeat' first
  | (with_reducible exact LeO.refl _)
  | exact ih0 _ _ _
  | exact ih1 _ _ _ _
  | exact LeO.none _
  | refine LeO.ite ?_ ?_
  | refine LeO.bind ?_ (fun _ => ?_)
set_option maxHeartbeats 8000000 in
set_option maxRecDepth 100000 in
theorem impl_moved.calls (k : Nat) (a0_0 : Int) (a0_1 : Int) (a1 : Int) (r1 : Int) (r2 : Int) (w : World) (h : impl_moved.f k a0_0 a0_1 a1 = some (r1, r2)) :
 Calls Tryd.prog 98 #[.agg #[.int .i64 a0_0, .int .i64 a0_1], .int .i64 a1] w fun e w' => e = .returned (.agg #[.int .i64 r1, .int .i64 r2]) ∧ Below w.heap.size w w' := by
 have hu51 := Tryd.underlying51
 have HB := Aside0.mk (Below.refl w.heap.size w)
 have H : (if a1 ≥ 4 then (impl_moved.j0 k a1 (wrap64 (-a0_0)) a0_1) else (impl_moved.j0 k a1 a0_0 a0_1)) = some (r1, r2) := h
 clear h
 have HC3 := Aside0.mk H
 clear H
 go_enter Tryd.func98, Tryd.ntmps98
 go_upto_if 6 with (first | ((with_reducible refine gate_dst (N := 2) rfl ?_); refine box_event ?hg (N := 2) ?hd (cs := #[.int .i64 a0_0, .int .i64 a0_1]) (t := 51) ?hr ?_; (case hd => rfl); (case hg => rfl); (case hr => first | (go_simp; done) | (go_simp; rfl)); intro gb380 hg w4 hbox hb; have n0_ := Aside0.mk (below_step (by repeat (with_reducible first | exact HB.out | apply bA | apply bN | apply bD)) hb); have n1_ := Aside0.mk (hbox); have n2_ := Aside0.mk ((by rw [hg]; exact (below_size (by repeat (with_reducible first | exact HB.out | apply bA | apply bN | apply bD))) : w.heap.size ≤ gb380)); have n3_ := Aside0.mk ((by rw [hg]; exact (below_size (by repeat (with_reducible first | exact HB.out | apply bA | apply bN | apply bD))) : w.heap.size ≤ gb380)); clear HB; have HB := n0_; have BK380 := n1_; have GW380 := n2_; have GE380 := n3_; clear n0_ n1_ n2_ n3_; clear hb hbox hg) | ((with_reducible refine gate_dst (N := 4) rfl ?_); refine box_event ?hg (N := 4) ?hd (cs := #[.int .i64 0, .int .i64 0]) (t := 51) ?hr ?_; (case hd => rfl); (case hg => rfl); (case hr => first | (go_simp; done) | (go_simp; rfl)); intro gb381 hg w5 hbox hb; have n0_ := Aside0.mk (blk_below (g := gb380) (o := .cells #[.int .i64 a0_0, .int .i64 a0_1] 51 (0, 0)) (by (with_reducible repeat (first | refine blk_drewN ?_ _ | refine blk_drew ?_ | refine blk_alloc ?_ _)); exact BK380.out) hb); have n1_ := Aside0.mk (below_step (by repeat (first | (with_reducible first | exact HB.out | apply bA | apply bN | apply bD | refine below_set ?_ GE380.out) | exact HB.out)) hb); have n2_ := Aside0.mk (hbox); have n3_ := Aside0.mk ((by rw [hg]; exact (below_size (by repeat (first | (with_reducible first | exact HB.out | apply bA | apply bN | apply bD | refine below_set ?_ GE380.out) | exact HB.out))) : w.heap.size ≤ gb381)); have n4_ := Aside0.mk ((by rw [hg]; exact (below_size (by repeat (first | (with_reducible first | exact HB.out | apply bA | apply bN | apply bD | refine below_set ?_ GE380.out) | exact HB.out))) : w.heap.size ≤ gb381)); have n5_ := Aside0.mk ((by rw [hg]; exact Nat.ne_of_lt (blk_lt (g := gb380) (o := .cells #[.int .i64 a0_0, .int .i64 a0_1] 51 (0, 0)) (by (with_reducible repeat (first | refine blk_drewN ?_ _ | refine blk_drew ?_ | refine blk_alloc ?_ _)); exact BK380.out)) : gb380 ≠ gb381)); have n6_ := Aside0.mk ((by rw [hg]; exact Nat.ne_of_gt (blk_lt (g := gb380) (o := .cells #[.int .i64 a0_0, .int .i64 a0_1] 51 (0, 0)) (by (with_reducible repeat (first | refine blk_drewN ?_ _ | refine blk_drew ?_ | refine blk_alloc ?_ _)); exact BK380.out)) : gb381 ≠ gb380)); clear BK380; clear HB; have BK380 := n0_; have HB := n1_; have BK381 := n2_; have GW381 := n3_; have GE381 := n4_; have NB380_381 := n5_; have NB381_380 := n6_; clear n0_ n1_ n2_ n3_ n4_ n5_ n6_; clear hb hbox hg))
 (try simp only [Act.put, List.setIfInBounds_toArray, List.set_cons_zero, List.set_cons_succ])
 go_cut [] (fun wc => ∃ (kq : Nat) (x381000_2 : Int), Aside0 (impl_moved.j0 kq a1 x381000_2 a0_1 = some (r1, r2)) ∧ Aside0 (kq ≤ k) ∧ Aside0 (wc.heap[gb380]? = some (.cells #[.int .i64 x381000_2, .int .i64 a0_1] 51 (0, 0))) ∧ Aside0 (wc.heap[gb381]? = some (.cells #[.int .i64 0, .int .i64 0] 51 (0, 0))) ∧ Aside0 (Below w.heap.size w wc))
 case first =>
  have H := HC3.out
  clear HC3
  by_cases c6 : a1 ≥ 4
  ·rw [if_pos c6] at H
   have c6b0 : decide (4 ≤ a1) = true := decide_eq_true c6
   clear c6
   (first | rw [c6b0] | (simp only [i64_w, i32_w]; rw [c6b0]) | skip)
   have H' := Aside0.mk H
   clear H
   have hnb7 := NB380_381.out
   have hnc7 := NB381_380.out
   have hcz8_0 : w5.cell? ⟨gb380, 0, none⟩ = some (.int .i64 a0_0) := (blk_cell BK380.out 0).trans rfl
   have hcz8_1 : w5.cell? ⟨gb380, 1, none⟩ = some (.int .i64 a0_1) := (blk_cell BK380.out 1).trans rfl
   have hfz8_0 := blk_frozen BK380.out 0
   have hfz8_1 := blk_frozen BK380.out 1
   go_wp2
   go_meet
   case rel => exact ⟨_, (wrap64 (-a0_0)), H', ⟨by first | omega | exact Nat.le_refl _⟩, ⟨by (with_reducible repeat (first | refine blk_drewN ?_ _ | refine blk_drew ?_ | refine blk_alloc ?_ _)); refine blk_put (cs := #[.int .i64 a0_0, .int .i64 a0_1]) ?_ 0 _ rfl; (with_reducible repeat (first | refine blk_drewN ?_ _ | refine blk_drew ?_ | refine blk_alloc ?_ _)); exact BK380.out⟩, ⟨by (with_reducible repeat (first | refine blk_drewN ?_ _ | refine blk_drew ?_ | refine blk_alloc ?_ _)); refine blk_far ?_ NB381_380.out _; (with_reducible repeat (first | refine blk_drewN ?_ _ | refine blk_drew ?_ | refine blk_alloc ?_ _)); exact BK381.out⟩, ⟨by repeat (first | (with_reducible first | exact HB.out | apply bA | apply bN | apply bD | refine below_set ?_ GE380.out | refine below_set ?_ GE381.out) | exact HB.out)⟩⟩
  ·rw [if_neg c6] at H
   have c6b0 : decide (4 ≤ a1) = false := decide_eq_false c6
   clear c6
   (first | rw [c6b0] | (simp only [i64_w, i32_w]; rw [c6b0]) | skip)
   have H' := Aside0.mk H
   clear H
   go_wp2
   go_meet
   case rel => exact ⟨_, (a0_0), H', ⟨by first | omega | exact Nat.le_refl _⟩, ⟨by (with_reducible repeat (first | refine blk_drewN ?_ _ | refine blk_drew ?_ | refine blk_alloc ?_ _)); exact BK380.out⟩, ⟨by (with_reducible repeat (first | refine blk_drewN ?_ _ | refine blk_drew ?_ | refine blk_alloc ?_ _)); exact BK381.out⟩, ⟨by repeat (first | (with_reducible first | exact HB.out | apply bA | apply bN | apply bD | refine below_set ?_ GE380.out | refine below_set ?_ GE381.out) | exact HB.out)⟩⟩
 case rest =>
  clear HC3
  try clear p2
  try clear c6
  try clear c6b0
  try clear p6
  try clear c7
  try clear hcz8_0
  try clear hcz8_1
  try clear hfz8_0
  try clear hfz8_1
  obtain ⟨kq, x381000_2, HA, HJ2, BK380, BK381, HB⟩ := hcut
  cases kq with
  | zero => exact absurd HA.out (by simp [impl_moved.j0])
  | succ kj2 =>
   have H := HA.out
   clear HA
   simp only [impl_moved.j0] at H
   have H' := Aside0.mk H
   clear H
   go_wp2
   go_loopg [13] kj2 (fun kq v13 w' => ∃ (x13_2 : Int) (x381000_2 : Int) (x381001_2 : Int), v13 = .int .i64 x13_2 ∧ Aside0 (impl_moved.l0 kq (Int.tmod a1 4) x13_2 x381000_2 x381001_2 = some (r1, r2)) ∧ Aside0 (kq ≤ kj2) ∧ Aside0 (w'.heap[gb380]? = some (.cells #[.int .i64 x381000_2, .int .i64 x381001_2] 51 (0, 0))) ∧ Aside0 (w'.heap[gb381]? = some (.cells #[.int .i64 0, .int .i64 0] 51 (0, 0))) ∧ Aside0 (Below w.heap.size w w'))
   case atStart => exact ⟨(0), (x381000_2), (a0_1), (by first | rfl | (simp; done) | (simp [*]; done)), H', ⟨Nat.le_refl _⟩, ⟨by (with_reducible repeat (first | refine blk_drewN ?_ _ | refine blk_drew ?_ | refine blk_alloc ?_ _)); exact BK380.out⟩, ⟨by (with_reducible repeat (first | refine blk_drewN ?_ _ | refine blk_drew ?_ | refine blk_alloc ?_ _)); exact BK381.out⟩, ⟨by repeat (first | (with_reducible first | exact HB.out | apply bA | apply bN | apply bD | refine below_set ?_ GE380.out | refine below_set ?_ GE381.out) | exact HB.out)⟩⟩
   case round =>
    clear H'
    try clear p2
    try clear c6
    try clear c6b0
    try clear p6
    try clear c7
    try clear hcz8_0
    try clear hcz8_1
    try clear hfz8_0
    try clear hfz8_1
    try clear p2
    try clear p6
    obtain ⟨x13_2, x381000_2, x381001_2, rfl, HA, HK2, BK380, BK381, HB⟩ := hrel
    cases gk with
    | zero => exact absurd HA.out (by simp [impl_moved.l0])
    | succ k2 =>
     have H := HA.out
     clear HA
     simp only [impl_moved.l0] at H
     by_cases c9 : x13_2 < (Int.tmod a1 4)
     ·rw [if_pos c9] at H
      have c9b0 : decide (x13_2 < (Int.tmod a1 4)) = true := decide_eq_true c9
      clear c9
      have H' := Aside0.mk H
      clear H
      have hnb10 := NB380_381.out
      have hnc10 := NB381_380.out
      have hcz11_0 : wr.cell? ⟨gb380, 0, none⟩ = some (.int .i64 x381000_2) := (blk_cell BK380.out 0).trans rfl
      have hcz11_1 : wr.cell? ⟨gb380, 1, none⟩ = some (.int .i64 x381001_2) := (blk_cell BK380.out 1).trans rfl
      have hfz11_0 := blk_frozen BK380.out 0
      have hfz11_1 := blk_frozen BK380.out 1
      go_wp2
      go_roundg k2
      case measure => have := HJ2.out; have := HK2.out; omega
      case rel => exact ⟨(wrap64 (x13_2 + 1)), (wrap64 (-x381001_2)), (x381000_2), (by first | rfl | (simp; done) | (simp [*]; done)), H', ⟨by have := HJ2.out; have := HK2.out; omega⟩, ⟨by (with_reducible repeat (first | refine blk_drewN ?_ _ | refine blk_drew ?_ | refine blk_alloc ?_ _)); refine blk_put (cs := #[.int .i64 (wrap64 (-x381001_2)), .int .i64 x381001_2]) ?_ 1 _ rfl; (with_reducible repeat (first | refine blk_drewN ?_ _ | refine blk_drew ?_ | refine blk_alloc ?_ _)); refine blk_put (cs := #[.int .i64 x381000_2, .int .i64 x381001_2]) ?_ 0 _ rfl; (with_reducible repeat (first | refine blk_drewN ?_ _ | refine blk_drew ?_ | refine blk_alloc ?_ _)); exact BK380.out⟩, ⟨by (with_reducible repeat (first | refine blk_drewN ?_ _ | refine blk_drew ?_ | refine blk_alloc ?_ _)); refine blk_far ?_ NB381_380.out _; (with_reducible repeat (first | refine blk_drewN ?_ _ | refine blk_drew ?_ | refine blk_alloc ?_ _)); refine blk_far ?_ NB381_380.out _; (with_reducible repeat (first | refine blk_drewN ?_ _ | refine blk_drew ?_ | refine blk_alloc ?_ _)); exact BK381.out⟩, ⟨by repeat (first | (with_reducible first | exact HB.out | apply bA | apply bN | apply bD | refine below_set ?_ GE380.out | refine below_set ?_ GE381.out) | exact HB.out)⟩⟩
     ·rw [if_neg c9] at H
      have c9b0 : decide (x13_2 < (Int.tmod a1 4)) = false := decide_eq_false c9
      clear c9
      simp only [Option.some.injEq, Prod.mk.injEq] at H
      obtain ⟨rfl, rfl⟩ := H
      have hnb12 := NB380_381.out
      have hnc12 := NB381_380.out
      have hcz13_0 : wr.cell? ⟨gb380, 0, none⟩ = some (.int .i64 x381000_2) := (blk_cell BK380.out 0).trans rfl
      have hcz13_1 : wr.cell? ⟨gb380, 1, none⟩ = some (.int .i64 x381001_2) := (blk_cell BK380.out 1).trans rfl
      have hfz13_0 := blk_frozen BK380.out 0
      have hfz13_1 := blk_frozen BK380.out 1
      have hcz14_0 : wr.cell? ⟨gb381, 0, none⟩ = some (.int .i64 0) := (blk_cell BK381.out 0).trans rfl
      have hcz14_1 : wr.cell? ⟨gb381, 1, none⟩ = some (.int .i64 0) := (blk_cell BK381.out 1).trans rfl
      have hfz14_0 := blk_frozen BK381.out 0
      have hfz14_1 := blk_frozen BK381.out 1
      go_wp2
      refine bodyPost_ret (results_cell_row rfl _ _ gb381 51 #[.int .i64 x381000_2, .int .i64 x381001_2] (0, 0) _ rfl (by (with_reducible repeat (first | refine blk_drewN ?_ _ | refine blk_drew ?_ | refine blk_alloc ?_ _)); refine blk_put (cs := #[.int .i64 x381000_2, .int .i64 0]) ?_ 1 _ rfl; (with_reducible repeat (first | refine blk_drewN ?_ _ | refine blk_drew ?_ | refine blk_alloc ?_ _)); refine blk_put (cs := #[.int .i64 0, .int .i64 0]) ?_ 0 _ rfl; (with_reducible repeat (first | refine blk_drewN ?_ _ | refine blk_drew ?_ | refine blk_alloc ?_ _)); exact BK381.out) Tryd.underlying51 rfl (by kernel_rfl)) rfl ?_
      exact ⟨by first | rfl | (simp [errW_none, errW_some] <;> rfl) | (simp [*, errW_none, errW_some] <;> rfl), by repeat (first | (with_reducible first | exact HB.out | apply bA | apply bN | apply bD | refine below_set ?_ GE380.out | refine below_set ?_ GE381.out) | exact HB.out)⟩
end Go.Proofs.YtmjfigeikiickaaDoor.QFnExactDissect
