/- What each Go function of this text answers, as a plain function, and that the machine comes to just that answer. -/
import Derived.Test.YtomfkafbiliblaaQFnExactAddMeasuresx0
import Derived.Test.YtomfkafbiliblaaQFnExactAddMeasuresx5
namespace Go.Proofs.Ytomfkafbiliblaa.QFnExactAddMeasures
open Go.RowKit Go.Proofs.YtomfkafbiliblaaW.PrintWords Go.Proofs.YtomfkafbiliblaaW.PrintLast Go.Proofs.YtomfkafbiliblaaW.PrintMore
attribute [local go_sem] max2_int min2_int max_two min_two max_three min_three max_four min_four   -- for this text's walks alone
set_option linter.unusedVariables false
set_option linter.unusedSimpArgs false


/-! ### impl_measuresOf: function 17 -/
/-! Lists of measures (x, y, n), ordered by y and then by x, none of them 0: told by what they say of each direction. -/
def mLt (a b : Int × Int × Int) : Prop := a.2.1 < b.2.1 ∨ (a.2.1 = b.2.1 ∧ a.1 < b.1)
instance (a b : Int × Int × Int) : Decidable (mLt a b) := by unfold mLt; exact inferInstance
def mOk (l : List (Int × Int × Int)) : Prop := l.Pairwise mLt ∧ ∀ m ∈ l, m.2.2 ≠ 0
def mVal : List (Int × Int × Int) → Int → Int → Int
 | [], _, _ => 0
 | m :: l, x, y => if m.1 = x ∧ m.2.1 = y then m.2.2 else mVal l x y
theorem mVal_mem : ∀ (l : List (Int × Int × Int)) (x y : Int), mVal l x y ≠ 0 → (x, y, mVal l x y) ∈ l
 | [], _, _, h => absurd rfl h
 | m :: l, x, y, h => by
  unfold mVal at h ⊢
  by_cases c : m.1 = x ∧ m.2.1 = y
  ·rw [if_pos c] at h ⊢
   obtain ⟨rfl, rfl⟩ := c
   exact List.mem_cons_self
  ·rw [if_neg c] at h ⊢
   exact List.mem_cons_of_mem _ (mVal_mem l x y h)
theorem mVal_of_mem : ∀ (l : List (Int × Int × Int)), l.Pairwise mLt → ∀ m ∈ l, mVal l m.1 m.2.1 = m.2.2
 | [], _, m, h => by cases h
 | a :: l, hp, m, h => by
  obtain ⟨h1, h2⟩ := List.pairwise_cons.mp hp
  unfold mVal
  rcases List.mem_cons.mp h with rfl | h
  ·rw [if_pos ⟨rfl, rfl⟩]
  ·have hlt := h1 m h
   unfold mLt at hlt
   rw [if_neg (fun z => by omega)]
   exact mVal_of_mem l h2 m h
theorem mVal_below : ∀ (l : List (Int × Int × Int)) (m : Int × Int × Int), (∀ a ∈ l, mLt m a) → mVal l m.1 m.2.1 = 0
 | [], _, _ => rfl
 | a :: l, m, h => by
  have hlt := h a List.mem_cons_self
  unfold mLt at hlt
  unfold mVal
  rw [if_neg (fun z => by omega)]
  exact mVal_below l m (fun b hb => h b (List.mem_cons_of_mem _ hb))
/-- Ordered lists without 0 that say the same are one. -/
theorem mOk_ext : ∀ (l k : List (Int × Int × Int)), mOk l → mOk k → (∀ x y, mVal l x y = mVal k x y) → l = k
 | [], [], _, _, _ => rfl
 | [], b :: k, _, hk, h => by
  have h1 := h b.1 b.2.1
  rw [mVal_of_mem _ hk.1 b List.mem_cons_self] at h1
  exact absurd h1.symm (hk.2 b List.mem_cons_self)
 | a :: l, [], hl, _, h => by
  have h1 := h a.1 a.2.1
  rw [mVal_of_mem _ hl.1 a List.mem_cons_self] at h1
  exact absurd h1 (hl.2 a List.mem_cons_self)
 | a :: l, b :: k, hl, hk, h => by
  obtain ⟨la, lp⟩ := List.pairwise_cons.mp hl.1
  obtain ⟨kb, kp⟩ := List.pairwise_cons.mp hk.1
  have ha := h a.1 a.2.1
  rw [mVal_of_mem _ hl.1 a List.mem_cons_self] at ha
  have hb := h b.1 b.2.1
  rw [mVal_of_mem _ hk.1 b List.mem_cons_self] at hb
  have na := hl.2 a List.mem_cons_self
  have nb := hk.2 b List.mem_cons_self
  have e : a.1 = b.1 ∧ a.2.1 = b.2.1 := by
   rcases Int.lt_trichotomy a.2.1 b.2.1 with q | q | q
   ·have z := mVal_below (b :: k) a (fun c hc => by
     rcases List.mem_cons.mp hc with rfl | hc
     ·exact .inl q
     ·have h2 := kb c hc
      unfold mLt at h2 ⊢
      omega)
    exact absurd (ha.trans z) na
   ·rcases Int.lt_trichotomy a.1 b.1 with p | p | p
    ·have z := mVal_below (b :: k) a (fun c hc => by
      rcases List.mem_cons.mp hc with rfl | hc
      ·exact .inr ⟨q, p⟩
      ·have h2 := kb c hc
       unfold mLt at h2 ⊢
       omega)
     exact absurd (ha.trans z) na
    ·exact ⟨p, q⟩
    ·have z := mVal_below (a :: l) b (fun c hc => by
      rcases List.mem_cons.mp hc with rfl | hc
      ·exact .inr ⟨q.symm, p⟩
      ·have h2 := la c hc
       unfold mLt at h2 ⊢
       omega)
     exact absurd (hb.symm.trans z) nb
   ·have z := mVal_below (a :: l) b (fun c hc => by
     rcases List.mem_cons.mp hc with rfl | hc
     ·exact .inl q
     ·have h2 := la c hc
      unfold mLt at h2 ⊢
      omega)
    exact absurd (hb.symm.trans z) nb
  have en : a.2.2 = b.2.2 := by
   rw [ha]
   have z := mVal_of_mem _ hk.1 b List.mem_cons_self
   rw [e.1, e.2]
   exact z
  have ab : a = b := Prod.ext e.1 (Prod.ext e.2 en)
  subst ab
  rw [mOk_ext l k ⟨lp, fun m hm => hl.2 m (List.mem_cons_of_mem _ hm)⟩ ⟨kp, fun m hm => hk.2 m (List.mem_cons_of_mem _ hm)⟩ (fun x y => by
   by_cases c : a.1 = x ∧ a.2.1 = y
   ·obtain ⟨rfl, rfl⟩ := c
    rw [mVal_below l a la, mVal_below k a kb]
   ·have z := h x y
    unfold mVal at z
    rw [if_neg c, if_neg c] at z
    exact z)]
/-- A measure put into an ordered list, or added to that of its direction. -/
def mPut (m : Int × Int × Int) : List (Int × Int × Int) → List (Int × Int × Int)
 | [] => if m.2.2 = 0 then [] else [m]
 | a :: l => if mLt a m then a :: mPut m l else if a.1 = m.1 ∧ a.2.1 = m.2.1 then (if m.2.2 + a.2.2 = 0 then l else (m.1, m.2.1, m.2.2 + a.2.2) :: l) else (if m.2.2 = 0 then a :: l else m :: a :: l)
theorem mPut_above (m : Int × Int × Int) (b : Int × Int × Int) (hb : mLt b m) : ∀ (l : List (Int × Int × Int)), (∀ a ∈ l, mLt b a) → ∀ a ∈ mPut m l, mLt b a
 | [], _, a, h => by
  unfold mPut at h
  split at h
  ·cases h
  ·rw [List.mem_singleton.mp h]; exact hb
 | c :: l, hl, a, h => by
  unfold mPut at h
  have hc := hl c List.mem_cons_self
  have hl' : ∀ a ∈ l, mLt b a := fun a ha => hl a (List.mem_cons_of_mem _ ha)
  split at h
  ·rcases List.mem_cons.mp h with rfl | h
   ·exact hc
   ·exact mPut_above m b hb l hl' a h
  ·split at h
   ·rename_i q
    split at h
    ·exact hl' a h
    ·rcases List.mem_cons.mp h with rfl | h
     ·exact hb
     ·exact hl' a h
   ·split at h
    ·exact hl a h
    ·rcases List.mem_cons.mp h with rfl | h
     ·exact hb
     ·exact hl a h
theorem mPut_ok (m : Int × Int × Int) : ∀ (l : List (Int × Int × Int)), mOk l → mOk (mPut m l)
 | [], _ => by
  unfold mPut
  split
  ·exact ⟨List.Pairwise.nil, fun _ h => by cases h⟩
  ·rename_i q
   exact ⟨List.pairwise_singleton _ _, fun a h => by rw [List.mem_singleton.mp h]; exact q⟩
 | c :: l, h => by
  obtain ⟨h1, h2⟩ := List.pairwise_cons.mp h.1
  have hl : mOk l := ⟨h2, fun a ha => h.2 a (List.mem_cons_of_mem _ ha)⟩
  unfold mPut
  split
  ·rename_i q
   have ih := mPut_ok m l hl
   refine ⟨List.pairwise_cons.mpr ⟨mPut_above m c q l h1, ih.1⟩, fun a ha => ?_⟩
   rcases List.mem_cons.mp ha with rfl | ha
   ·exact h.2 _ List.mem_cons_self
   ·exact ih.2 a ha
  ·rename_i q
   split
   ·rename_i e
    split
    ·exact hl
    ·rename_i z
     refine ⟨List.pairwise_cons.mpr ⟨fun a ha => ?_, h2⟩, fun a ha => ?_⟩
     ·have h3 := h1 a ha
      unfold mLt at h3 ⊢
      simp only
      omega
     ·rcases List.mem_cons.mp ha with rfl | ha
      ·exact z
      ·exact hl.2 a ha
   ·rename_i e
    split
    ·exact h
    ·rename_i z
     have hlt : mLt m c := by
      unfold mLt at q ⊢
      omega
     refine ⟨List.pairwise_cons.mpr ⟨fun a ha => ?_, h.1⟩, fun a ha => ?_⟩
     ·rcases List.mem_cons.mp ha with rfl | ha
      ·exact hlt
      ·have h3 := h1 a ha
       unfold mLt at h3 hlt ⊢
       omega
     ·rcases List.mem_cons.mp ha with rfl | ha
      ·exact z
      ·exact h.2 a ha
theorem mPut_val (m : Int × Int × Int) (x y : Int) : ∀ (l : List (Int × Int × Int)), mOk l → mVal (mPut m l) x y = mVal l x y + (if m.1 = x ∧ m.2.1 = y then m.2.2 else 0)
 | [], _ => by
  unfold mPut
  split
  ·rename_i q
   by_cases c : m.1 = x ∧ m.2.1 = y
   ·rw [if_pos c, q]; rfl
   ·rw [if_neg c]; rfl
  ·simp only [mVal]
   omega
 | c :: l, h => by
  obtain ⟨h1, h2⟩ := List.pairwise_cons.mp h.1
  have hl : mOk l := ⟨h2, fun a ha => h.2 a (List.mem_cons_of_mem _ ha)⟩
  unfold mPut
  split
  ·rename_i q
   have ih := mPut_val m x y l hl
   unfold mLt at q
   simp only [mVal]
   by_cases e : c.1 = x ∧ c.2.1 = y
   ·rw [if_pos e, if_pos e, if_neg (fun z => by omega)]
    omega
   ·rw [if_neg e, if_neg e]
    exact ih
  ·rename_i q
   split
   ·rename_i e
    have hz := mVal_below l c h1
    split
    ·rename_i z
     by_cases w : m.1 = x ∧ m.2.1 = y
     ·have w' : c.1 = x ∧ c.2.1 = y := ⟨e.1.trans w.1, e.2.trans w.2⟩
      simp only [mVal, if_pos w, if_pos w']
      rw [← w'.1, ← w'.2, hz]
      omega
     ·have w' : ¬ (c.1 = x ∧ c.2.1 = y) := fun z => w ⟨e.1.symm.trans z.1, e.2.symm.trans z.2⟩
      simp only [mVal, if_neg w, if_neg w']
      omega
    ·by_cases w : m.1 = x ∧ m.2.1 = y
     ·have w' : c.1 = x ∧ c.2.1 = y := ⟨e.1.trans w.1, e.2.trans w.2⟩
      simp only [mVal, if_pos w, if_pos w']
      omega
     ·have w' : ¬ (c.1 = x ∧ c.2.1 = y) := fun z => w ⟨e.1.symm.trans z.1, e.2.symm.trans z.2⟩
      simp only [mVal, if_neg w, if_neg w']
      omega
   ·rename_i e
    have hlt : mLt m c := by
     unfold mLt at q ⊢
     omega
    have hz : mVal (c :: l) m.1 m.2.1 = 0 := mVal_below (c :: l) m (fun a ha => by
     rcases List.mem_cons.mp ha with rfl | ha
     ·exact hlt
     ·have h3 := h1 a ha
      unfold mLt at h3 hlt ⊢
      omega)
    split
    ·rename_i z
     by_cases w : m.1 = x ∧ m.2.1 = y
     ·rw [if_pos w, z]; omega
     ·rw [if_neg w]; omega
    ·by_cases w : m.1 = x ∧ m.2.1 = y
     ·rw [if_pos w, ← w.1, ← w.2, hz]
      unfold mVal
      rw [if_pos ⟨rfl, rfl⟩]
      omega
     ·rw [if_neg w]
      rw [show mVal (m :: c :: l) x y = mVal (c :: l) x y from by
       show (if m.1 = x ∧ m.2.1 = y then m.2.2 else mVal (c :: l) x y) = _
       rw [if_neg w]]
      omega
/-- How two measures are compared: by y, then by x. -/
def cfM (a b : Int × Int × Int) : Int := if a.2.1 ≠ b.2.1 then a.2.1 - b.2.1 else a.1 - b.1
theorem cfM_neg (a b : Int × Int × Int) : cfM a b < 0 ↔ mLt a b := by
 unfold cfM mLt
 split <;> omega
theorem sorted_ok (r : List (Int × Int × Int)) (hs : r.Pairwise (fun a b => ¬ cfM b a < 0)) (hk : r.Pairwise (fun a b => ¬ (a.1 = b.1 ∧ a.2.1 = b.2.1))) (hn : ∀ m ∈ r, m.2.2 ≠ 0) : mOk r := by
 refine ⟨List.Pairwise.imp (R := fun a b => ¬ cfM b a < 0 ∧ ¬ (a.1 = b.1 ∧ a.2.1 = b.2.1)) (fun h => ?_) (List.pairwise_and_iff.mpr ⟨hs, hk⟩), hn⟩
 obtain ⟨h1, h2⟩ := h
 rw [cfM_neg] at h1
 unfold mLt at h1 ⊢
 omega
theorem mVal_char (r : List (Int × Int × Int)) (hr : mOk r) (s : Int → Int → Int) (h1 : ∀ m ∈ r, s m.1 m.2.1 = m.2.2) (h2 : ∀ x y, s x y ≠ 0 → (x, y, s x y) ∈ r) (x y : Int) : mVal r x y = s x y := by
 by_cases c : s x y = 0
 ·by_cases d : mVal r x y = 0
  ·rw [c, d]
  ·have := h1 _ (mVal_mem r x y d)
   simp only at this
   omega
 ·exact mVal_of_mem r hr.1 _ (h2 x y c)
theorem u64 : Try.prog.underlying 35 = some (.array 2 3) := by kernel_rfl
theorem u61 : Try.prog.underlying 33 = some (.map 35 3) := by kernel_rfl
theorem meas_law : Go.Maps.Keyed Try.prog 35 := Go.Maps.Keyed.of_law (deep_law_laid (show laidOutB Try.prog = true by kernel_rfl) (m := 2) (by omega) (of_decide_eq_true (by kernel_rfl)) (by kernel_rfl) (by rw [u64]))
def wf2 (p : Int × Int) : Prop := (Lit.int .i64 p.1).wf = true ∧ (Lit.int .i64 p.2).wf = true
def kl2 (p : Int × Int) : Lit := .string (keyBytes [.int .i64 p.1, .int .i64 p.2])
theorem key2 {p : Int × Int} (h : wf2 p) : keyOf Try.prog 35 (.agg #[.int .i64 p.1, .int .i64 p.2]) = some (kl2 p) := by
 have hkt : Try.prog.keyType 35 = true := by kernel_rfl
 have hsz : ∃ m, Try.prog.types.size = m + 1 := ⟨Try.prog.types.size - 1, by have : 0 < Try.prog.types.size := of_decide_eq_true (by kernel_rfl); omega⟩
 have hc : Try.prog.cellsOf 35 = 2 := by kernel_rfl
 have hc3 : Try.prog.cellsOf 3 = 1 := by kernel_rfl
 obtain ⟨m, hm⟩ := hsz
 obtain ⟨w1, w2⟩ := h
 unfold keyOf
 simp only [u64]
 rw [if_pos (by simp [hkt, Value.formed, u64, hc]), hm]
 unfold Program.keyLits
 simp only [u64, Value.cells]
 rw [if_pos (by rw [hc]; rfl)]
 rw [show List.range 2 = [0, 1] from rfl]
 simp [hc3, Program.keyLits, Try.underlying3, w1, w2, kl2]
theorem key2_inv {key : Value} {kl : Lit} (h : keyOf Try.prog 35 key = some kl) : ∃ p : Int × Int, key = .agg #[.int .i64 p.1, .int .i64 p.2] ∧ wf2 p ∧ kl = kl2 p := by
 have hkt : Try.prog.keyType 35 = true := by kernel_rfl
 have hsz : ∃ m, Try.prog.types.size = m + 1 := ⟨Try.prog.types.size - 1, by have : 0 < Try.prog.types.size := of_decide_eq_true (by kernel_rfl); omega⟩
 have hc : Try.prog.cellsOf 35 = 2 := by kernel_rfl
 have hc3 : Try.prog.cellsOf 3 = 1 := by kernel_rfl
 have h0 := h
 obtain ⟨m, hm⟩ := hsz
 unfold keyOf at h
 simp only [u64] at h
 split at h
 ·rename_i hf
  rw [hkt, Bool.true_and] at hf
  cases key <;> simp [Value.formed, u64] at hf
  rename_i cs
  rw [hc] at hf
  rw [hm] at h
  unfold Program.keyLits at h
  simp only [u64, Value.cells] at h
  obtain ⟨l⟩ := cs
  match l, hf with
  | [a, b], _ =>
   rw [if_pos (by rw [hc]; rfl)] at h
   rw [show List.range 2 = [0, 1] from rfl] at h
   simp only [List.mapM_cons, List.mapM_nil, hc3, List.drop, List.take, Nat.zero_mul, Nat.one_mul] at h
   unfold Program.keyLits at h
   simp only [Try.underlying3] at h
   have ha : ∃ x, a = .int .i64 x ∧ (Lit.int .i64 x).wf = true := by
    cases a <;> simp at h
    rename_i q x _
    split at h
    ·rename_i hx; obtain ⟨rfl, hx⟩ := hx; exact ⟨x, rfl, hx⟩
    ·simp at h
   obtain ⟨x, rfl, hx⟩ := ha
   have hb : ∃ y, b = .int .i64 y ∧ (Lit.int .i64 y).wf = true := by
    cases b <;> simp [hx] at h
    rename_i q y _
    split at h
    ·rename_i hy; obtain ⟨rfl, hy⟩ := hy; exact ⟨y, rfl, hy⟩
    ·simp at h
   obtain ⟨y, rfl, hy⟩ := hb
   refine ⟨(x, y), rfl, ⟨hx, hy⟩, ?_⟩
   have := key2 (p := (x, y)) ⟨hx, hy⟩
   rw [h0] at this
   exact Option.some.inj this
 ·cases h
theorem kl2_same {p q : Int × Int} (hp : wf2 p) (hq : wf2 q) : (kl2 p).sameKey (kl2 q) = decide (p = q) := by
 by_cases h : p = q
 ·subst h; simp [kl2, Lit.sameKey]
 ·have : ¬ kl2 p = kl2 q := fun e => h (by
   have := meas_law.inj (key2 hp) (by rw [e]; exact key2 hq)
   obtain ⟨a, b⟩ := p
   obtain ⟨c, d⟩ := q
   simp at this
   simp [this])
  rw [decide_eq_false h]
  unfold kl2 at this ⊢
  simpa [Lit.sameKey] using this
def mInv (L : List (Int × Int × Int)) (left : Lit → Bool) (ms : List (Int × Int × Int)) : Prop :=
 (∀ p, wf2 p → mVal L p.1 p.2 ≠ 0 → left (kl2 p) = true ∨ (p.1, p.2, mVal L p.1 p.2) ∈ ms) ∧
 (∀ m ∈ ms, wf2 (m.1, m.2.1) ∧ mVal L m.1 m.2.1 = m.2.2 ∧ m.2.2 ≠ 0 ∧ left (kl2 (m.1, m.2.1)) = false) ∧
 ms.Pairwise (fun a b => ¬ (a.1 = b.1 ∧ a.2.1 = b.2.1))
theorem mInv_skip {L : List (Int × Int × Int)} {left : Lit → Bool} {ms : List (Int × Int × Int)} (h : mInv L left ms) (p : Int × Int) (hp : wf2 p) (h0 : mVal L p.1 p.2 = 0) : mInv L (fun z => left z && !z.sameKey (kl2 p)) ms := by
 obtain ⟨h1, h2, h3⟩ := h
 refine ⟨fun q hq hv => ?_, fun m hm => ?_, h3⟩
 ·rcases h1 q hq hv with h | h
  ·left
   show (left (kl2 q) && !(kl2 q).sameKey (kl2 p)) = true
   rw [h, kl2_same hq hp]
   have : q ≠ p := fun e => hv (by rw [e]; exact h0)
   simp [this]
  ·exact .inr h
 ·obtain ⟨a, b, c, d⟩ := h2 m hm
  exact ⟨a, b, c, by show (left _ && _) = false; rw [d]; rfl⟩
theorem mInv_take {L : List (Int × Int × Int)} {left : Lit → Bool} {ms : List (Int × Int × Int)} (h : mInv L left ms) (p : Int × Int) (c : Int) (hp : wf2 p) (hl : left (kl2 p) = true) (hc : mVal L p.1 p.2 = c) (h0 : c ≠ 0) : mInv L (fun z => left z && !z.sameKey (kl2 p)) (ms ++ [(p.1, p.2, c)]) := by
 obtain ⟨h1, h2, h3⟩ := h
 refine ⟨fun q hq hv => ?_, fun m hm => ?_, ?_⟩
 ·by_cases e : q = p
  ·right
   rw [e, hc]
   exact List.mem_append_right _ (List.mem_singleton.2 rfl)
  ·rcases h1 q hq hv with h | h
   ·left
    show (left (kl2 q) && !(kl2 q).sameKey (kl2 p)) = true
    rw [h, kl2_same hq hp]
    simp [e]
   ·exact .inr (List.mem_append_left _ h)
 ·rcases List.mem_append.1 hm with hm | hm
  ·obtain ⟨a, b, c, d⟩ := h2 m hm
   exact ⟨a, b, c, by show (left _ && _) = false; rw [d]; rfl⟩
  ·rw [List.mem_singleton.1 hm]
   exact ⟨hp, hc, h0, by show (left (kl2 p) && !(kl2 p).sameKey (kl2 p)) = false; rw [kl2_same hp hp]; simp⟩
 ·refine List.pairwise_append.2 ⟨h3, List.pairwise_singleton _ _, fun m hm b hb => ?_⟩
  rw [List.mem_singleton.1 hb]
  rintro ⟨e1, e2⟩
  have := (h2 m hm).2.2.2
  rw [show (m.1, m.2.1) = p from by rw [e1, e2], hl] at this
  cases this
theorem mInv_end {L ms ms' : List (Int × Int × Int)} {left : Lit → Bool} (h : mInv L left ms) (hL : mOk L) (hw : ∀ m ∈ L, wf2 (m.1, m.2.1)) (hl : ∀ kl, left kl = false) (hp : ms'.Perm ms) (hs : ms'.Pairwise (fun a b => ¬ cfM b a < 0)) : ms' = L := by
 obtain ⟨h1, h2, h3⟩ := h
 have hk := (hp.pairwise_iff (fun {a b} h => fun e => h ⟨e.1.symm, e.2.symm⟩)).2 h3
 have ho := sorted_ok ms' hs hk (fun m hm => (h2 m (hp.mem_iff.1 hm)).2.2.1)
 refine mOk_ext _ _ ho hL (mVal_char ms' ho (mVal L) (fun m hm => (h2 m (hp.mem_iff.1 hm)).2.1) (fun x y hv => ?_))
 rcases h1 (x, y) (hw _ (mVal_mem L x y hv)) hv with h | h
 ·rw [hl] at h; cases h
 ·exact hp.mem_iff.2 h
theorem wf_of_bnd {x : Int} (h : -1000000 ≤ x ∧ x ≤ 1000000) : (Lit.int .i64 x).wf = true := by
 have h1 : IntKind.i64.min = -9223372036854775808 := rfl
 have h2 : IntKind.i64.max = 9223372036854775807 := rfl
 simp only [Lit.wf, h1, h2, Bool.and_eq_true, decide_eq_true_eq]
 omega
def enc3 (m : Int × Int × Int) : List Int := [m.1, m.2.1, m.2.2]
abbrev kRow : Kd (List Int) := Kd.slice 3 (Kd.int .i64)
def ren6 : Go.Shelf.Ren := ⟨fun | 6 => 28 | 15 => 32 | 14 => 31 | 28 => 41 | 29 => 42 | 20 => 33 | 21 => 34 | 22 => 35 | 23 => 36 | 24 => 37 | 25 => 38 | 26 => 39 | 27 => 40 | 46 => 43 | 47 => 44 | 48 => 45 | 49 => 46 | 50 => 47 | 57 => 48 | n => n, fun | 22 => 22 | 24 => 29 | 25 => 40 | 3 => 3 | 39 => 47 | 0 => 0 | 53 => 57 | 55 => 59 | 4 => 4 | 46 => 50 | 45 => 49 | 50 => 54 | 5 => 5 | 9 => 9 | 66 => 60 | 70 => 64 | 76 => 66 | 77 => 67 | n => n, fun | n => n⟩
theorem lay6 : Go.Proofs.SlLaysF.n6 Try.prog ren6 := {
 mixed := by kernel_rfl,
 f6 := ⟨"slices.SortFunc[[][]int,[]int]", by decide, Try.func28.trans (congrArg some (by kernel_rfl))⟩,
 f14 := ⟨"slices.pdqsortCmpFunc[[]int]", by decide, Try.func31.trans (congrArg some (by kernel_rfl))⟩,
 f15 := Try.func32.trans (congrArg some (by kernel_rfl)),
 f20 := ⟨"slices.insertionSortCmpFunc[[]int]", by decide, Try.func33.trans (congrArg some (by kernel_rfl))⟩,
 f21 := ⟨"slices.heapSortCmpFunc[[]int]", by decide, Try.func34.trans (congrArg some (by kernel_rfl))⟩,
 f22 := ⟨"slices.breakPatternsCmpFunc[[]int]", by decide, Try.func35.trans (congrArg some (by kernel_rfl))⟩,
 f23 := ⟨"slices.choosePivotCmpFunc[[]int]", by decide, Try.func36.trans (congrArg some (by kernel_rfl))⟩,
 f24 := ⟨"slices.reverseRangeCmpFunc[[]int]", by decide, Try.func37.trans (congrArg some (by kernel_rfl))⟩,
 f25 := ⟨"slices.partialInsertionSortCmpFunc[[]int]", by decide, Try.func38.trans (congrArg some (by kernel_rfl))⟩,
 f26 := ⟨"slices.partitionEqualCmpFunc[[]int]", by decide, Try.func39.trans (congrArg some (by kernel_rfl))⟩,
 f27 := ⟨"slices.partitionCmpFunc[[]int]", by decide, Try.func40.trans (congrArg some (by kernel_rfl))⟩,
 f28 := Try.func41.trans (congrArg some (by kernel_rfl)),
 f29 := Try.func42.trans (congrArg some (by kernel_rfl)),
 f46 := ⟨"slices.siftDownCmpFunc[[]int]", by decide, Try.func43.trans (congrArg some (by kernel_rfl))⟩,
 f47 := Try.func44.trans (congrArg some (by kernel_rfl)),
 f48 := Try.func45.trans (congrArg some (by kernel_rfl)),
 f49 := ⟨"slices.medianAdjacentCmpFunc[[]int]", by decide, Try.func46.trans (congrArg some (by kernel_rfl))⟩,
 f50 := ⟨"slices.medianCmpFunc[[]int]", by decide, Try.func47.trans (congrArg some (by kernel_rfl))⟩,
 f57 := ⟨"slices.order2CmpFunc[[]int]", by decide, Try.func48.trans (congrArg some (by kernel_rfl))⟩,
 t0 := Try.underlying0,
 a0 := Try.isAgg0,
 z0 := Try.sizeOf0,
 v0 := Try.zeroValue0,
 t3 := Try.underlying3,
 a3 := Try.isAgg3,
 z3 := Try.sizeOf3,
 v3 := Try.zeroValue3,
 t4 := Try.underlying4,
 a4 := Try.isAgg4,
 z4 := Try.sizeOf4,
 v4 := Try.zeroValue4,
 t5 := Try.underlying5,
 a5 := Try.isAgg5,
 z5 := Try.sizeOf5,
 v5 := Try.zeroValue5,
 t9 := Try.underlying9,
 a9 := Try.isAgg9,
 z9 := Try.sizeOf9,
 v9 := Try.zeroValue9,
 t22 := Try.underlying22,
 a22 := Try.isAgg22,
 z22 := Try.sizeOf22,
 v22 := Try.zeroValue22,
 a24 := Try.isAgg29,
 z24 := Try.sizeOf29,
 t25 := Try.underlying40,
 a25 := Try.isAgg40,
 z25 := Try.sizeOf40,
 v25 := Try.zeroValue40,
 t39 := Try.underlying47,
 a39 := Try.isAgg47,
 z39 := Try.sizeOf47,
 v39 := Try.zeroValue47,
 t45 := Try.underlying49,
 a45 := Try.isAgg49,
 z45 := Try.sizeOf49,
 v45 := Try.zeroValue49,
 t46 := Try.underlying50,
 a46 := Try.isAgg50,
 z46 := Try.sizeOf50,
 v46 := Try.zeroValue50,
 t50 := Try.underlying54,
 a50 := Try.isAgg54,
 z50 := Try.sizeOf54,
 v50 := Try.zeroValue54,
 t53 := Try.underlying57,
 a53 := Try.isAgg57,
 z53 := Try.sizeOf57,
 v53 := Try.zeroValue57,
 t55 := Try.underlying59,
 a55 := Try.isAgg59,
 z55 := Try.sizeOf59,
 v55 := Try.zeroValue59,
 t66 := Try.underlying60,
 a66 := Try.isAgg60,
 z66 := Try.sizeOf60,
 v66 := Try.zeroValue60,
 t70 := Try.underlying64,
 a70 := Try.isAgg64,
 z70 := Try.sizeOf64,
 v70 := Try.zeroValue64,
 t76 := Try.underlying66,
 a76 := Try.isAgg66,
 z76 := Try.sizeOf66,
 v76 := Try.zeroValue66,
 t77 := Try.underlying67,
 a77 := Try.isAgg67,
 z77 := Try.sizeOf67,
 v77 := Try.zeroValue67 }
theorem sort_block {α : Type} [Inhabited α] (enc : α → Value) (w : World) (g n : Nat) (d : Array α) (os : Array Obj) (k : Nat) (hk : k ≠ g) (hl : k < w.heap.size) : (sortWorld enc w g 0 n d os).heap[k]? = w.heap[k]? := by
 show ((Go.Sort.putRow enc (Go.Sort.ahead w n) g 0 d).heap ++ os)[k]? = _
 rw [Array.getElem?_append_left (by rw [Go.Sort.size_putRow]; exact hl)]
 have : g ≠ k := fun e => hk e.symm
 simp [Go.Sort.putRow, Go.Sort.mapBlock, Go.Sort.ahead, Array.getElem?_modify, this]
theorem sort_size {α : Type} [Inhabited α] (enc : α → Value) (w : World) (g n : Nat) (d : Array α) (os : Array Obj) : w.heap.size ≤ (sortWorld enc w g 0 n d os).heap.size := by
 show _ ≤ ((Go.Sort.putRow enc (Go.Sort.ahead w n) g 0 d).heap ++ os).size
 rw [Array.size_append, Go.Sort.size_putRow]
 exact Nat.le_add_right _ _
theorem sort_own {α : Type} [Inhabited α] (enc : α → Value) {w : World} {g n base cap m : Nat} {d : Array α} {os : Array Obj} {zs : List α} (h : w.ownsRow base 29 1 (.slice (some ⟨g, 0, none⟩) m cap) m (zs.map enc)) (hd : d.size = m) : (sortWorld enc w g 0 n d os).ownsRow base 29 1 (.slice (some ⟨g, 0, none⟩) m cap) m (d.toList.map enc) := by
 have h1 := Lib.ownsRow_putRow (enc := enc) (q := n) (k := m) (ys := d.toList) h (by simpa using hd) (Nat.le_refl _)
 rw [List.take_of_length_le (by simp [hd])] at h1
 refine own_move h1 (fun k hk => ?_)
 have hlt := own_lt h1 k hk
 show ((Go.Sort.putRow enc (Go.Sort.ahead w n) g 0 d).heap ++ os)[k]? = _
 rw [Array.getElem?_append_left hlt]
theorem N_open {w : World} {base : Nat} {ok : Nat → Prop} {v : Value} {xs : List (List Int)} (h : Kd.N kRow 29 w base ok v xs) : (∀ k, v.ownBlock = some k → ok k) ∧ ∃ vs : List Value, vs.length = xs.length ∧ w.ownsRow base 29 1 v xs.length vs ∧ (∀ u ∈ vs, u.oneCell' = true) ∧ ∀ (j : Nat) (x : List Int) (c : Value), xs[j]? = some x → vs[j]? = some c → Kd.FK kRow w (fun k => ok k ∧ some k ≠ v.ownBlock) x [c] := by
 obtain ⟨h0, rows, hl, ⟨_, inner, ho, hr⟩, hf⟩ := h
 have hil : inner.length = rows.length := by have := hr.1; rw [show (Kd.raw kRow.sz).sz = 1 from rfl] at this; omega
 have hg : ∀ (j : Nat) (c : Value), inner[j]? = some c → rows[j]? = some [c] ∧ c.oneCell' = true := fun j c hc => by
  have hj : j < inner.length := (List.getElem?_eq_some_iff.1 hc).1
  have hp := List.getElem?_eq_getElem (show j < rows.length by omega)
  obtain ⟨h1, h2, h3⟩ := hr.2 j _ hp
  rw [show (Kd.raw kRow.sz).sz = 1 from rfl, Nat.mul_one] at h1
  have e : (inner.drop j).take 1 = [c] := by
   rw [List.drop_eq_getElem_cons hj]
   have := (List.getElem?_eq_some_iff.1 hc).2
   rw [this]
   rfl
  rw [e] at h1
  rw [hp, ← h1]
  refine ⟨rfl, h3 c ?_⟩
  rw [show (Kd.raw kRow.sz).sz = 1 from rfl, Nat.mul_one, e]
  exact List.mem_singleton.2 rfl
 refine ⟨h0, inner, by omega, by rw [← hl]; exact ho, fun u hu => ?_, fun j x c hx hc => hf j x [c] hx (hg j c hc).1⟩
 obtain ⟨j, hj, e⟩ := List.mem_iff_getElem.1 hu
 exact (hg j u (by rw [List.getElem?_eq_getElem hj, e])).2
theorem N_close {w : World} {base : Nat} {ok : Nat → Prop} {v : Value} {xs : List (List Int)} {vs : List Value} (h0 : ∀ k, v.ownBlock = some k → ok k) (hl : vs.length = xs.length) (ho : w.ownsRow base 29 1 v xs.length vs) (h1 : ∀ u ∈ vs, u.oneCell' = true) (hf : ∀ (j : Nat) (x : List Int) (c : Value), xs[j]? = some x → vs[j]? = some c → Kd.FK kRow w (fun k => ok k ∧ some k ≠ v.ownBlock) x [c]) : Kd.N kRow 29 w base ok v xs := by
 refine ⟨h0, vs.map (fun u => [u]), by simp [hl], ⟨fun k hk => hk.symm, vs, by rw [List.length_map, hl]; exact ho, by rw [List.length_map]; exact (Nat.mul_one _).symm, fun j p hp => ?_⟩, fun j x c hx hc => ?_⟩
 ·rw [List.getElem?_map] at hp
  cases hc : vs[j]? with
  | none => rw [hc] at hp; cases hp
  | some c =>
   rw [hc] at hp
   obtain rfl := Option.some.inj hp
   have hj : j < vs.length := (List.getElem?_eq_some_iff.1 hc).1
   have e : (vs.drop j).take 1 = [c] := by
    rw [List.drop_eq_getElem_cons hj]
    have := (List.getElem?_eq_some_iff.1 hc).2
    rw [this]
    rfl
   show (vs.drop (j * 1)).take 1 = [c] ∧ ((vs.drop (j * 1)).take 1).length = 1 ∧ ∀ u ∈ (vs.drop (j * 1)).take 1, u.oneCell' = true
   rw [Nat.mul_one, e]
   exact ⟨rfl, rfl, fun u hu => by rw [List.mem_singleton.1 hu]; exact h1 c (List.mem_of_getElem? hc)⟩
 ·rw [List.getElem?_map] at hc
  cases hv : vs[j]? with
  | none => rw [hv] at hc; cases hc
  | some u =>
   rw [hv] at hc
   obtain rfl := Option.some.inj hc
   exact hf j x u hx hv
theorem cf_val (a b : Int × Int × Int) (ha : (-1000000 ≤ a.1 ∧ a.1 ≤ 1000000) ∧ -1000000 ≤ a.2.1 ∧ a.2.1 ≤ 1000000) (hb : (-1000000 ≤ b.1 ∧ b.1 ≤ 1000000) ∧ -1000000 ≤ b.2.1 ∧ b.2.1 ≤ 1000000) : impl_compareMeasures.f (enc3 a) (enc3 b) = some (cfM a b) := by
 unfold impl_compareMeasures.f cfM
 rw [if_pos (by simp [enc3]), if_pos (by simp [enc3])]
 have h1 : ∀ m : Int × Int × Int, rd (enc3 m) 1 = m.2.1 := fun m => rfl
 have h0 : ∀ m : Int × Int × Int, rd (enc3 m) 0 = m.1 := fun m => rfl
 rw [h1, h1, h0, h0]
 by_cases h : a.2.1 = b.2.1
 ·rw [if_pos h, if_pos (by simp [enc3]), if_pos (by simp [enc3]), if_neg (fun e => e h)]
  congr 1
  unfold wrap64
  omega
 ·rw [if_neg h, if_pos h]
  congr 1
  unfold wrap64
  omega
theorem swo_cf {n : Nat} (f : Fin n → Int × Int × Int) : Go.Sort.SWO (ltOf (fun i j => cfM (f i) (f j))) := by
 have hl : ∀ i j, ltOf (fun i j => cfM (f i) (f j)) i j = true ↔ mLt (f i) (f j) := fun i j => by
  show decide _ = true ↔ _
  rw [decide_eq_true_eq, cfM_neg]
 have hl' : ∀ i j, ltOf (fun i j => cfM (f i) (f j)) i j = false ↔ ¬ mLt (f i) (f j) := fun i j => by
  rw [← hl, Bool.not_eq_true]
 refine ⟨fun x => (hl' _ _).2 (fun h => ?_), fun x y z h1 h2 => (hl _ _).2 ?_, fun x y z h1 h2 => (hl' _ _).2 ?_⟩
 ·unfold mLt at h; omega
 ·have h1 := (hl _ _).1 h1; have h2 := (hl _ _).1 h2; unfold mLt at *; omega
 ·have h1 := (hl' _ _).1 h1; have h2 := (hl' _ _).1 h2; unfold mLt at *; omega
theorem S_open {w : World} {base : Nat} {ok : Nat → Prop} {v : Value} {xs : List (List Int)} (h : Kd.S kRow 29 w base ok v xs) : (∀ k, v.ownBlock = some k → ok k) ∧ ∃ (f : Nat → Nat) (vs : List Value), vs.length = xs.length ∧ w.ownsRow base 29 1 v xs.length vs ∧ ∀ (j : Nat) (x : List Int) (c : Value), xs[j]? = some x → vs[j]? = some c → Kd.R (Kd.int .i64) 3 w base (fun k => (ok k ∧ some k ≠ v.ownBlock) ∧ f k = j) c x := by
 obtain ⟨f, h0, inner, ho, hr⟩ := h
 have hl : inner.length = xs.length := by have := hr.1; rw [List.length_zipIdx] at this; rw [this]; exact Nat.mul_one _
 refine ⟨h0, f, inner, hl, by rw [List.length_zipIdx] at ho; exact ho, fun j x c hx hc => ?_⟩
 have hz : xs.zipIdx[j]? = some (x, j) := by rw [List.getElem?_zipIdx, hx]; simp
 have hm := hr.2 j _ hz
 have hj : j < inner.length := (List.getElem?_eq_some_iff.1 hc).1
 have e : (inner.drop (j * 1)).take 1 = [c] := by
  rw [Nat.mul_one, List.drop_eq_getElem_cons hj, (List.getElem?_eq_some_iff.1 hc).2]
  rfl
 have hm' : (Kd.tag f kRow).M w base (fun k => ok k ∧ some k ≠ v.ownBlock) (x, j) [c] := by rw [← e]; exact hm
 obtain ⟨v', hv, hR⟩ := hm'
 obtain rfl : c = v' := by injection hv
 exact hR
theorem S_close {w : World} {base : Nat} {ok : Nat → Prop} {v : Value} {xs : List (List Int)} {vs : List Value} (f : Nat → Nat) (h0 : ∀ k, v.ownBlock = some k → ok k) (hl : vs.length = xs.length) (ho : w.ownsRow base 29 1 v xs.length vs)
 (hf : ∀ (j : Nat) (x : List Int) (c : Value), xs[j]? = some x → vs[j]? = some c → Kd.R (Kd.int .i64) 3 w base (fun k => (ok k ∧ some k ≠ v.ownBlock) ∧ f k = j) c x) : Kd.S kRow 29 w base ok v xs := by
 refine ⟨f, h0, vs, by rw [List.length_zipIdx]; exact ho, by rw [List.length_zipIdx, hl]; exact (Nat.mul_one _).symm, fun j p hp => ?_⟩
 rw [List.getElem?_zipIdx] at hp
 cases hx : xs[j]? with
 | none => rw [hx] at hp; cases hp
 | some x =>
  rw [hx] at hp
  obtain rfl := Option.some.inj hp
  have hj : j < vs.length := by rw [hl]; exact (List.getElem?_eq_some_iff.1 hx).1
  have e : (vs.drop (j * 1)).take 1 = [vs[j]] := by
   rw [Nat.mul_one, List.drop_eq_getElem_cons hj]
   rfl
  show (Kd.tag f kRow).M w base (fun k => ok k ∧ some k ≠ v.ownBlock) (x, 0 + j) ((vs.drop (j * 1)).take 1)
  rw [e, Nat.zero_add]
  exact ⟨vs[j], rfl, hf j x _ hx (List.getElem?_eq_getElem hj)⟩
set_option maxRecDepth 100000 in
theorem sort_rowsS (ms : List (Int × Int × Int)) (base : Nat) (ok : Nat → Prop) (v : Value) (w : World) (h : Kd.S kRow 29 w base ok v (ms.map enc3)) (hbase : base ≤ w.heap.size) (hbd : ∀ m ∈ ms, (-1000000 ≤ m.1 ∧ m.1 ≤ 1000000) ∧ -1000000 ≤ m.2.1 ∧ m.2.1 ≤ 1000000) (hlen : ms.length ≤ 1000000) :
 Calls Try.prog 28 #[v, .func (.func 26) #[] #[]] w fun e w' => e = .returned (.tuple #[]) ∧ ∃ ms' : List (Int × Int × Int), ms'.Perm ms ∧ ms'.Pairwise (fun a b => ¬ cfM b a < 0) ∧ Kd.S kRow 29 w' base ok v (ms'.map enc3) ∧ Below base w w' := by
 rcases Nat.eq_zero_or_pos ms.length with hz | hp
 ·obtain rfl := List.eq_nil_of_length_eq_zero hz
  obtain ⟨A, c, rfl⟩ := Kd.S_slice h
  refine (AnyF.slices_SortFunc_none { lay6 with } A c (.func (.func 26) #[] #[]) w).mono ?_
  rintro e w' ⟨rfl, rfl⟩
  exact ⟨rfl, [], List.Perm.refl _, List.Pairwise.nil, h, Below.refl _ _⟩
 ·obtain ⟨h0, tg, vs, hl, ho, hf⟩ := S_open h
  simp only [List.length_map] at hl ho
  obtain ⟨n, hn⟩ : ∃ n, n = ms.length := ⟨_, rfl⟩
  rw [← hn] at hl ho hp hlen
  haveI : Inhabited (Fin n) := ⟨⟨0, hp⟩⟩
  let enc : Fin n → Value := fun i => vs[i.val]'(by have := i.isLt; omega)
  let f : Fin n → Int × Int × Int := fun i => ms[i.val]'(by have := i.isLt; omega)
  have hvs : vs = (List.finRange n).map enc := by
   apply List.ext_getElem
   ·simp [hl]
   ·intro j h1 h2
    simp [enc]
  have hms : ms = (List.finRange n).map f := by
   apply List.ext_getElem
   ·simp [hn]
   ·intro j h1 h2
    simp [f]
  have ho' : w.ownsRow base 29 1 v n ((List.finRange n).map enc) := by rw [← hvs]; exact ho
  have hvn : v ≠ .slice none 0 0 := fun e => by
   obtain ⟨A, c, e2⟩ := Kd.S_slice h
   rw [e] at e2
   injection e2 with _ e2 _
   rw [List.length_map] at e2
   omega
  obtain ⟨g, cap, rfl, hb, hlt, hcap, hcm, hzl, hH⟩ := Lib.holds_of_ownsRow ho' hvn
  have hds : (List.finRange n).toArray.size = n := by simp
  have hfk : ∀ i : Fin n, Kd.R (Kd.int .i64) 3 w base (fun k => (ok k ∧ k ≠ g) ∧ tg k = i.val) (enc i) (enc3 (f i)) := fun i => Kd.R_mono (hf i.val (enc3 (f i)) (enc i) (by
   have := i.isLt
   rw [List.getElem?_map, List.getElem?_eq_getElem (by omega)]
   rfl) (by
   have := i.isLt
   rw [List.getElem?_eq_getElem (by omega)])) (fun k hk => ⟨⟨hk.1.1, fun e => hk.1.2 (by rw [e]; rfl)⟩, hk.2⟩)
  have hone : OneCell enc := fun i => by
   obtain ⟨A, c, e⟩ := Kd.R_slice (hfk i)
   rw [e]
   rfl
  have hfw : ∀ (m : Nat) (os : Array Obj) (dk : Array (Fin n)) (i : Fin n), Kd.R (Kd.int .i64) 3 (sortWorld enc w g 0 m dk os) base (fun k => (ok k ∧ k ≠ g) ∧ tg k = i.val) (enc i) (enc3 (f i)) := fun m os dk i => Kd.R_step (hfk i) (fun k hk hkl => sort_block enc w g m dk os k hk.1.2 hkl)
  have hcmp : CmpReads Try.prog 26 #[] enc (fun i j => cfM (f i) (f j)) g 0 n w := by
   intro m os dk hdk x y
   obtain ⟨A0, c0, e0, k0, r0⟩ := Kd.R_reads (hfw m os dk x)
   obtain ⟨A1, c1, e1, k1, r1⟩ := Kd.R_reads (hfw m os dk y)
   rw [e0, e1]
   refine (impl_compareMeasures.calls A0 c0 (enc3 (f x)) A1 c1 (enc3 (f y)) (cfM (f x) (f y)) _ r0 k0 r1 k1 (cf_val _ _ (hbd _ (List.getElem_mem _)) (hbd _ (List.getElem_mem _)))).mono ?_
   rintro e w' ⟨rfl, q, rfl⟩
   exact ⟨rfl, q, rfl⟩
  have hS := Any.slices_SortFunc lay6 enc hone (fun i j => cfM (f i) (f j)) (swo_cf f) 26 #[] g 0 cap (List.finRange n).toArray w (fun args w => by kernel_rfl) (by rw [hds]; exact hcmp.lays) hH hlt (by rw [hds]; omega)
  rw [hds] at hS
  refine hS.mono ?_
  rintro e w' ⟨rfl, d', q, os, ⟨hp1, _, hp3⟩, hs, rfl⟩
  have hd' : d'.size = n := by rw [hp1, hds]
  have hperm : d'.toList.Perm (List.finRange n) := by
   have e1 : d'.extract 0 n = d' := by apply Array.extract_eq_self_of_le; omega
   have e2 : (List.finRange n).toArray.extract 0 n = (List.finRange n).toArray := by apply Array.extract_eq_self_of_le; simp
   rw [e1, e2] at hp3
   simpa using hp3
  refine ⟨rfl, d'.toList.map f, ?_, ?_, ?_, ?_⟩
  ·rw [hms]
   exact (hperm.map f).trans (by rw [← hms])
  ·rw [List.pairwise_iff_getElem]
   intro i j hi hj hij
   simp only [List.length_map, Array.length_toList] at hi hj
   have := hs i j (Nat.zero_le _) hij (by omega)
   rw [getElem!_pos d' i hi, getElem!_pos d' j hj] at this
   simp only [List.getElem_map, Array.getElem_toList]
   exact of_decide_eq_false this
  ·have hnd : (d'.toList.map Fin.val).Nodup := by
    have h1 : d'.toList.Nodup := hperm.symm.nodup (List.nodup_finRange n)
    exact h1.map _ (fun a b hab e => hab (Fin.ext e))
   refine S_close (fun k => (d'.toList.map Fin.val).idxOf (tg k)) h0 (vs := d'.toList.map enc) (by simp) ?_ (fun j x c hx hc => ?_)
   ·rw [show ((d'.toList.map f).map enc3).length = n by simp [hd']]
    exact sort_own enc ho' hd'
   ·rw [List.map_map, List.getElem?_map] at hx
    rw [List.getElem?_map] at hc
    cases hi : d'.toList[j]? with
    | none => rw [hi] at hx; cases hx
    | some i =>
     rw [hi] at hx hc
     obtain rfl := Option.some.inj hx
     obtain rfl := Option.some.inj hc
     obtain ⟨hj, hij⟩ := List.getElem?_eq_some_iff.1 hi
     refine Kd.R_mono (hfw q os d' i) (fun k hk => ⟨⟨hk.1.1, fun e => hk.1.2 (by simpa [Value.ownBlock] using e)⟩, ?_⟩)
     show (d'.toList.map Fin.val).idxOf (tg k) = j
     rw [hk.2]
     have hj2 : j < (d'.toList.map Fin.val).length := by simpa using hj
     have e3 : (d'.toList.map Fin.val)[j] = i.val := by rw [List.getElem_map, hij]
     rw [← e3]
     exact hnd.idxOf_getElem j hj2
  ·exact ⟨rfl, rfl, rfl, sort_size enc w g q d' os, fun k hk => sort_block enc w g q d' os k (by omega) (by omega)⟩
theorem ranges_of_blocks {H : Type} {w w' : World} {P : Program} {k : TypeId} {R : Value → Option (DataW H × List MemPlace)} {b r n : Nat} {D : DataW H} {left : Lit → Bool} {cnt : Nat} (h : w.ranges P k R b r n D left cnt) (hb : w'.heap[b]? = w.heap[b]?) (hr : w'.heap[r]? = w.heap[r]?) : w'.ranges P k R b r n D left cnt := by
 obtain ⟨es, clock, since, seen, c0, h1, F, hs, hD, h2, rest⟩ := h
 exact ⟨es, clock, since, seen, c0, hb.trans h1, F, hs, hD, hr.trans h2, rest⟩
theorem left_of_blocks {w w' : World} {b r : Nat} (hb : w'.heap[b]? = w.heap[b]?) (hr : w'.heap[r]? = w.heap[r]?) : w'.rangeLeft b r = w.rangeLeft b r := by
 simp only [World.rangeLeft, hb, hr]
theorem own_of_blocks {H : Type} {w w' : World} {P : Program} {k : TypeId} {R : Value → Option (DataW H × List MemPlace)} {b n : Nat} {D : DataW H} (h : w.ownsMap P k R b n D) (hb : w'.heap[b]? = w.heap[b]?) : w'.ownsMap P k R b n D := by
 obtain ⟨es, clock, h1, rest⟩ := h
 exact ⟨es, clock, hb.trans h1, rest⟩
theorem size_set2 (w : World) (a c : Addr) (u v : Value) : ((w.setCell a u).setCell c v).heap.size = w.heap.size := by
 have h : ∀ (w : World) (a : Addr) (u : Value), (w.setCell a u).heap.size = w.heap.size := fun w a u => by
  unfold World.setCell
  split <;> simp
 rw [h, h]

set_option maxHeartbeats 8000000 in
set_option maxRecDepth 100000 in
theorem impl_measuresOf.calls {H : Type} (L : List (Int × Int × Int)) (b n : Nat) (D : DataW H) (w : World) (hown : w.ownsMap Try.prog 35 (plainElem Try.prog 3) b n D) (hn : n ≤ 900000) (hD : ∀ p, wf2 p → D.atKey (kl2 p) (.lit (.int .i64 0)) = .lit (.int .i64 (mVal L p.1 p.2))) (hL : mOk L) (hbd : ∀ m ∈ L, (-1000000 ≤ m.1 ∧ m.1 ≤ 1000000) ∧ -1000000 ≤ m.2.1 ∧ m.2.1 ≤ 1000000) :
 Calls Try.prog 17 #[.map (some b)] w fun e w' => ∃ v0_ : Value, e = .returned (v0_) ∧ Kd.S kRow 29 w' w.heap.size (fun _ => True) v0_ (L.map enc3) ∧ Below w.heap.size w w' := by
 have HD := Aside0.mk hD
 have HL := Aside0.mk hL
 have HBD := Aside0.mk hbd
 have HWF : Aside0 (∀ m ∈ L, wf2 (m.1, m.2.1)) := ⟨fun m hm => ⟨wf_of_bnd (hbd m hm).1, wf_of_bnd (hbd m hm).2⟩⟩
 have HN := Aside0.mk hn
 have HB := Aside0.mk (Below.refl w.heap.size w)
 have HSZ := Aside0.mk (hown.size_le)
 have HOWN := Aside0.mk hown
 have HBLT := Aside0.mk hown.lt
 have HHAS : Aside0 (∀ p, wf2 p → mVal L p.1 p.2 ≠ 0 → Maps.has D (kl2 p) = true) := ⟨fun p hp hv => by
  obtain ⟨es, rfl⟩ := hown.isMap
  have h1 := hD p hp
  rw [Maps.has_eq]
  by_cases h : (es.any fun q => q.1.sameKey (kl2 p)) = true
  ·exact h
  ·exfalso
   have h2 : es.find? (fun q => q.1.sameKey (kl2 p)) = none := List.find?_eq_none.2 (fun x hx hs => h (List.any_eq_true.2 ⟨x, hx, hs⟩))
   simp only [DataW.atKey, h2] at h1
   injection h1 with h1
   injection h1 with _ h1
   exact hv h1.symm⟩
 clear hD hL hbd hn hown
 go_enter Try.func17, Try.ntmps17
 go_wp2_with (first
  | ((with_reducible refine gate_dst (N := 6) rfl ?_); refine Kd.S_lit kRow _ 29 ?hg (N := 6) ?hd (xs := ([] : List (List Int))) (inner := []) (ok := fun _ => True) (okp := fun _ => True) ?hr ?hp (fun _ hk => hk) trivial (Below.refl _ _) (Nat.le_refl _) (by simp) ?_; (case hd => rfl); (case hg => rfl); (case hr => first | (go_simp; done) | (go_simp; rfl)); (case hp => exact (Reps.none _ _)); intro v173 w2 ho3 hb hg_ hnew_; clear hg_ hnew_; have n0_ := Aside0.mk (Kd.S_lower ho3 (Nat.le_refl _)); have n1_ := Aside0.mk (below_step HB.out hb); have n2_ := Aside0.mk (own_of_blocks HOWN.out (hb.block b HBLT.out)); clear HB HOWN; have HO := n0_; have HB := n1_; have HOWN := n2_; clear n0_ n1_ n2_; clear hb ho3)
  | (at_range; refine wpList_range_own _ rfl _ 33 rfl 35 3 meas_law u61 _ b n _ rfl HOWN.out ?_; intro w0 hrg0 hg0 hs0; have HGR := Aside0.mk hrg0.lt; have HGE := Aside0.mk (HB.out.size); have n0_ := Aside0.mk (Kd.S_mono (Kd.S_grown (Kd.S_elderB HO.out w2.heap.size (Nat.le_refl _)) hg0 (fun _ _ => by simp)) (ok' := fun k => k ≠ w2.heap.size) (fun _ hk => hk.2)); have n1_ := Aside0.mk (below_step HB.out (Below.mk hg0.os hg0.tape hg0.output hg0.size (fun k hk => hg0.block k hk (by simp)))); clear HO HB HOWN; have HO := n0_; have HB := n1_; clear n0_ n1_)
  | go_in)
 go_frame
 go_loopw [3] (fun v3 wr => ∃ (left : Lit → Bool) (cnt : Nat) (ms : List (Int × Int × Int)), wr.ranges Try.prog 35 (plainElem Try.prog 3) b w2.heap.size n D left cnt ∧ Aside0 (mInv L left ms) ∧ Aside0 (ms.length + cnt ≤ n) ∧ Aside0 (Kd.S kRow 29 wr w.heap.size (fun k => k ≠ w2.heap.size) v3 (ms.map enc3)) ∧ Aside0 (Below w.heap.size w wr))
  (fun _ wr => wr.rangeLeft b w2.heap.size)
 case atStart => exact ⟨_, _, [], hrg0, ⟨⟨fun p hp hv => .inl (HHAS.out p hp hv), fun _ h => (by cases h), List.Pairwise.nil⟩⟩, ⟨by have := HSZ.out; simpa using this⟩, HO, HB⟩
 case round =>
  clear HO HB
  obtain ⟨left, cnt, ms, hrg, HI, HC, HO, HB⟩ := hrel
  go_wp2_with (first
   | (at_next; refine wpList_next_ranges _ rfl _ rfl 35 meas_law (plainElem Try.prog 3) (fun p : Int × Int => .agg #[.int .i64 p.1, .int .i64 p.2]) (Value.int .i64) (fun key kl hk => by obtain ⟨p, h, _⟩ := key2_inv hk; exact ⟨p, h⟩) (fun v y hv => by obtain ⟨c, h, _⟩ := plainElem_int_inv Try.underlying3 hv; exact ⟨c, h⟩) b w2.heap.size n _ _ _ rfl hrg ?_ ?_)
   | go_in)
  ·intro _ hl0
   go_wp2_with (first
    | ((with_reducible refine gate_callee (f := 28) rfl ?_); refine goesL_ (some 26) rfl rfl Try.func28 (by kernel_rfl) rfl #[_, .func (.func 26) #[] #[]] rfl (by (try simp only [List.map_toArray, List.map_cons, List.map_nil]); first | done | rfl) ?_; (refine (sort_rowsS ms w.heap.size (fun _ => True) _ _ (Kd.S_mono HO.out (fun _ _ => trivial)) HB.out.size ?bd ?ln).mono ?_); (case bd => exact (fun m hm => by have h := (HI.out.2.1 m hm); have h2 := HBD.out _ (mVal_mem L m.1 m.2.1 (by rw [h.2.1]; exact h.2.2.1)); exact h2)); (case ln => exact (by have := HC.out; have := HN.out; omega)); rintro e w3 ⟨rfl, ms', hp, hs, ho, hb⟩; refine ⟨_, rfl, ?_⟩; have n0_ := Aside0.mk ho; have n1_ := Aside0.mk (HB.out.trans hb); have n2_ := Aside0.mk (mInv_end HI.out HL.out HWF.out hl0 hp hs); clear HO HB; have HO := n0_; have HB := n1_; have HE := n2_; clear n0_ n1_ n2_ ho hb hp hs)
    | go_in)
   go_ret
   exact ⟨_, rfl, HE.out ▸ HO.out, HB.out⟩
  ·intro p1 p2 c kl d ps w1 cnt1 hkey hlk hv hat hrg1 hlt hg1 hs1 hen
   obtain ⟨q, hq, hwq, hkl⟩ := key2_inv hkey
   obtain rfl : (p1, p2) = q := by
    obtain ⟨q1, q2⟩ := q
    simp at hq
    simp [hq]
   subst hkl
   clear hq
   obtain ⟨c', hc', hd, hwc⟩ := plainElem_int_inv Try.underlying3 hv
   cases hc'
   have HMV : Aside0 (mVal L p1 p2 = c) := ⟨by
    have h1 := HD.out (p1, p2) hwq
    rw [hat] at h1
    cases hd
    injection h1 with h1
    injection h1 with _ h1
    exact h1.symm⟩
   have HWQ := Aside0.mk hwq
   have HLK := Aside0.mk hlk
   have HRG := Aside0.mk hrg1
   have HRS : Aside0 (wr.rangeLeft b w2.heap.size = cnt) := ⟨hrg.left_eq⟩
   have HLT := Aside0.mk hlt
   have n0_ := Aside0.mk (Kd.S_grown HO.out hg1 (fun k hk h => hk (Option.some.inj h)))
   have n1_ := Aside0.mk (Below.trans HB.out (Below.mk hg1.os hg1.tape hg1.output hg1.size (fun k hk => hg1.block k (Nat.lt_of_lt_of_le hk HB.out.size) (fun h => by have := Option.some.inj h; have := HGE.out; omega)) : Below w.heap.size wr w1))
   have HIT := Aside0.mk hrg1.lt
   clear HO HB
   have HO := n0_
   have HB := n1_
   clear n0_ n1_ hkey hlk hv hat hrg1 hlt hg1 hs1 hwq hwc hd
   by_cases hc : c = 0
   ·have hcb : (c == 0) = true := by simp [hc]
    have hcb2 : (c != 0) = false := by simp [hc]
    have hcb3 : decide (c = 0) = true := by simp [hc]
    go_wp2_with (first
     | ((with_reducible refine gate_dst (N := 4) rfl ?_); refine box_event ?hg (N := 4) ?hd (cs := #[.int .i64 0, .int .i64 0]) (t := 35) ?hr ?_; (case hd => rfl); (case hg => rfl); (case hr => first | (go_simp; done) | (go_simp; rfl)); intro gb hg w12 hbox hb; have n0_ := Aside0.mk (Kd.S_below HO.out hb); have n1_ := Aside0.mk (below_step HB.out hb); have BK := Aside0.mk (hbox); have GE := Aside0.mk ((by rw [hg]; exact HB.out.size) : w.heap.size ≤ gb); have HNE := Aside0.mk ((by have := HIT.out; omega) : w2.heap.size ≠ gb); have n2_ := Aside0.mk (ranges_of_blocks HRG.out (hb.block b (HRG.out.owns.lt)) (hb.block w2.heap.size HRG.out.lt)); clear HO HB HRG; have HO := n0_; have HB := n1_; have HRG := n2_; clear n0_ n1_ n2_; clear hb hbox hg; have hcz13_0 : w12.cell? ⟨gb, 0, none⟩ = some (.int .i64 0) := (blk_cell BK.out 0).trans rfl; have hcz13_1 : w12.cell? ⟨gb, 1, none⟩ = some (.int .i64 0) := (blk_cell BK.out 1).trans rfl; have hfz13_0 := blk_frozen BK.out 0; have hfz13_1 := blk_frozen BK.out 1)
     | go_in)
    refine ⟨⟨_, cnt1, ms, ranges_of_blocks HRG.out ((Below.heap_setCell _ _ _ b (by have := HBLT.out; have := GE.out; show b ≠ gb; omega)).trans (Below.heap_setCell _ _ _ b (by have := HBLT.out; have := GE.out; show b ≠ gb; omega))) ((Below.heap_setCell _ _ _ w2.heap.size HNE.out).trans (Below.heap_setCell _ _ _ w2.heap.size HNE.out)), ⟨mInv_skip HI.out (p1, p2) HWQ.out (HMV.out.trans hc)⟩, ⟨by have := HC.out; have := HLT.out; omega⟩, ⟨(Kd.S_mono (Kd.S_far (p := ⟨gb, 1, none⟩) (Kd.S_far (p := ⟨gb, 0, none⟩) (Kd.S_types HO.out BK.out (by decide)) (fun _ hk => hk.2) (.int .i64 p1)) (fun _ hk => hk.2) (.int .i64 p2)) (fun _ h_ => h_.1))⟩, ⟨(by repeat (first | (with_reducible first | exact HB.out | apply below_alloc | apply pw_below_drewN | apply below_drew1 | refine below_set ?_ GE.out) | exact HB.out))⟩⟩, ?_⟩
    rw [left_of_blocks (w := w12) ((Below.heap_setCell _ _ _ b (by have := HBLT.out; have := GE.out; show b ≠ gb; omega)).trans (Below.heap_setCell _ _ _ b (by have := HBLT.out; have := GE.out; show b ≠ gb; omega))) ((Below.heap_setCell _ _ _ w2.heap.size HNE.out).trans (Below.heap_setCell _ _ _ w2.heap.size HNE.out)), HRG.out.left_eq, HRS.out]
    exact HLT.out
   ·have hcb : (c == 0) = false := by simp [hc]
    have hcb2 : (c != 0) = true := by simp [hc]
    have hcb3 : decide (c = 0) = false := by simp [hc]
    go_wp2_with (first
     | ((with_reducible refine gate_dst (N := 4) rfl ?_); refine box_event ?hg (N := 4) ?hd (cs := #[.int .i64 0, .int .i64 0]) (t := 35) ?hr ?_; (case hd => rfl); (case hg => rfl); (case hr => first | (go_simp; done) | (go_simp; rfl)); intro gb hg w12 hbox hb; have n0_ := Aside0.mk (Kd.S_below HO.out hb); have n1_ := Aside0.mk (below_step HB.out hb); have BK := Aside0.mk (hbox); have GE := Aside0.mk ((by rw [hg]; exact HB.out.size) : w.heap.size ≤ gb); have HNE := Aside0.mk ((by have := HIT.out; omega) : w2.heap.size ≠ gb); have n2_ := Aside0.mk (ranges_of_blocks HRG.out (hb.block b (HRG.out.owns.lt)) (hb.block w2.heap.size HRG.out.lt)); clear HO HB HRG; have HO := n0_; have HB := n1_; have HRG := n2_; clear n0_ n1_ n2_; clear hb hbox hg; have hcz13_0 : w12.cell? ⟨gb, 0, none⟩ = some (.int .i64 0) := (blk_cell BK.out 0).trans rfl; have hcz13_1 : w12.cell? ⟨gb, 1, none⟩ = some (.int .i64 0) := (blk_cell BK.out 1).trans rfl; have hfz13_0 := blk_frozen BK.out 0; have hfz13_1 := blk_frozen BK.out 1)
     | ((with_reducible refine gate_dst (N := 22) rfl ?_); refine Kd.R_lit (Kd.int .i64) _ 3 ?hg (N := 22) ?hd (xs := ([p1, p2, c] : List Int)) (inner := [.int .i64 p1, .int .i64 p2, .int .i64 c]) (ok := fun _ => True) (okp := fun _ => True) ?hr ?hp (fun _ hk => hk) trivial (Below.refl _ _) (Nat.le_refl _) (by simp) ?_; (case hd => rfl); (case hg => rfl); (case hr => first | (go_simp; done) | (go_simp; rfl)); (case hp => exact (Reps.one (show Kd.M (Kd.int .i64) _ _ _ p1 [.int .i64 p1] from rfl) (Reps.one (show Kd.M (Kd.int .i64) _ _ _ p2 [.int .i64 p2] from rfl) (Reps.one (show Kd.M (Kd.int .i64) _ _ _ c [.int .i64 c] from rfl) (Reps.none _ _))))); intro v180 w18 ho19 hb hg_ hnew_; clear hg_ hnew_; have n0_ := Aside0.mk (Kd.S_elder' (Kd.S_mono (Kd.S_far (p := ⟨gb, 1, none⟩) (Kd.S_far (p := ⟨gb, 0, none⟩) (Kd.S_types HO.out BK.out (by decide)) (fun _ hk => hk.2) (.int .i64 p1)) (fun _ hk => hk.2) (.int .i64 p2)) (fun _ h_ => h_.1)) (Kd.R_base ho19) hb); have n1_ := Aside0.mk (Kd.R_lower ho19 (below_size (by repeat (first | (with_reducible first | exact HB.out | apply below_alloc | apply pw_below_drewN | apply below_drew1 | refine below_set ?_ GE.out) | exact HB.out)))); have n2_ := Aside0.mk (below_step (by repeat (first | (with_reducible first | exact HB.out | apply below_alloc | apply pw_below_drewN | apply below_drew1 | refine below_set ?_ GE.out) | exact HB.out)) hb); have HNW := Aside0.mk ((fun k_ hk_ e_ => by have h_ := Kd.R_base ho19 k_ hk_; rw [size_set2] at h_; have := HRG.out.lt; omega) : ∀ k_, v180.ownBlock = some k_ → k_ ≠ w2.heap.size); have n3_ := Aside0.mk (ranges_of_blocks HRG.out ((hb.block b (Nat.lt_of_lt_of_le HBLT.out (below_size (by repeat (first | (with_reducible first | exact HB.out | apply below_alloc | apply pw_below_drewN | apply below_drew1 | refine below_set ?_ GE.out) | exact HB.out))))).trans ((Below.heap_setCell _ _ _ b (by have := HBLT.out; have := GE.out; show b ≠ gb; omega)).trans (Below.heap_setCell _ _ _ b (by have := HBLT.out; have := GE.out; show b ≠ gb; omega)))) ((hb.block w2.heap.size (by rw [size_set2]; exact HRG.out.lt)).trans ((Below.heap_setCell _ _ _ w2.heap.size HNE.out).trans (Below.heap_setCell _ _ _ w2.heap.size HNE.out)))); clear HO HB HRG; have HO := n0_; have HOV := n1_; have HB := n2_; have HRG := n3_; clear n0_ n1_ n2_ n3_; clear hb ho19; obtain ⟨Ao21, co21, eo21⟩ := Kd.R_slice HOV.out; subst eo21)
     | ((with_reducible refine gate_builtin (b := .append) (xs := #[.tmp 16, .tmp 23]) rfl ?_); at_builtin; refine Kd.S_append kRow (w0 := w) w.heap.size rfl (.tmp 16) (.tmp 23) 22 29 (.slice none 0 0) 24 rfl Try.underlying22 info29 rfl (by decide) (by omega) u3 (ms.map enc3) [p1, p2, c] [.slice Ao21 3 co21] (fun k_ => k_ ≠ w2.heap.size) (fun k_ => some k_ = (.slice Ao21 3 co21 : Value).ownBlock) rfl rfl ?aP (fun k_ hk_ => ⟨HNW.out k_ hk_.symm, ((Kd.R_mono (ok' := fun k_ => ((fun _ => True)) k_ ∧ some k_ ≠ (u3 : Value).ownBlock) (Kd.R_apart' (HOV.out) (Kd.S_typed HO.out) (by decide)) (fun k_ hk => ⟨trivial, hk.2⟩))).1 k_ hk_.symm |>.2⟩) ?aF ?aO ?aB ?aS ?aL ?_; (case aP => exact Kd.M_row (Kd.R_mono (Kd.R_tight rfl (Kd.R_mono (ok' := fun k_ => ((fun _ => True)) k_ ∧ some k_ ≠ (u3 : Value).ownBlock) (Kd.R_apart' (HOV.out) (Kd.S_typed HO.out) (by decide)) (fun k_ hk => ⟨trivial, hk.2⟩))) (fun _ h_ => h_))); (case aB => exact HB.out); (case aF => exact (fun k_ hk_ => by have := HRG.out.lt; omega)); (case aO => exact (Kd.S_mono HO.out (fun k_ hk => ⟨hk.1, fun e_ => hk.2 e_⟩))); (case aS => exact (below_size HB.out)); (case aL => have := HC.out; have := HN.out; rw [List.length_map]; omega); intro v183 w20 ho hb hg hat; have n2_ := Aside0.mk (hb); have n3_ := Aside0.mk (ho); have n4_ := Aside0.mk (ranges_of_blocks HRG.out (hb.block b HBLT.out |>.trans (HB.out.block b HBLT.out).symm) (hg.block w2.heap.size HRG.out.lt (Kd.S_away HO.out (fun k_ hk_ => hk_.1)))); clear HB HO HOV HRG; have HB := n2_; have HO := n3_; have HRG := n4_; clear n2_ n3_ n4_; clear ho hb hg hat)
     | go_in)
    refine ⟨⟨_, cnt1, ms ++ [(p1, p2, c)], HRG.out, ⟨mInv_take HI.out (p1, p2) c HWQ.out HLK.out HMV.out hc⟩, ⟨by have := HC.out; have := HLT.out; rw [List.length_append]; show ms.length + 1 + cnt1 ≤ n; omega⟩, ⟨by rw [List.map_append]; exact HO.out⟩, HB⟩, ?_⟩
    rw [HRG.out.left_eq, HRS.out]
    exact HLT.out
theorem world_of_ok {α : Type} {a c : α} {w w' : World} (h : (Result.ok a w : Result α) = .ok c w') : w = w' := by cases h; rfl
theorem meas_klaw : WideMaps.KeyLaw Try.prog 35 := deep_law_laid (show laidOutB Try.prog = true by kernel_rfl) (m := 2) (by omega) (of_decide_eq_true (by kernel_rfl)) (by kernel_rfl) (by rw [u64])
theorem zero3 (w : World) : (zeroValue 3).run Try.prog w = .ok (.int .i64 0) w := by kernel_rfl
theorem own_look {H : Type} {w : World} {b n : Nat} {D : DataW H} (h : w.ownsMap Try.prog 35 (plainElem Try.prog 3) b n D) {p : Int × Int} (hp : wf2 p) {s : Int} (hD : D.atKey (kl2 p) (.lit (.int .i64 0)) = .lit (.int .i64 s)) :
 (Instr.lookup 33 (.map (some b)) (.agg #[.int .i64 p.1, .int .i64 p.2]) false).run Try.prog w = .ok (.int .i64 s) w := by
 obtain ⟨c, hrun, hat, _⟩ := h.lookup_int meas_law u61 Try.underlying3 (zero3 w) (key2 hp)
 rw [hD] at hat
 injection hat with hat
 injection hat with _ hat
 rw [hrun, hat]
theorem meas_entry {H : Type} {w : World} {b n : Nat} {D : DataW H} (h : w.ownsMap Try.prog 35 (plainElem Try.prog 3) b n D) (hn : n < maxLen) {p : Int × Int} (hp : wf2 p) {s : Int} (hD : D.atKey (kl2 p) (.lit (.int .i64 0)) = .lit (.int .i64 s)) :
 ∃ (v0 : Value) (st : Nat) (w1 : World), (Instr.mapEntry 33 (.map (some b)) (.agg #[.int .i64 p.1, .int .i64 p.2])).run Try.prog w = .ok (.tuple #[v0, goInt st]) w1 ∧ w.grownBy w1 (some b) ∧
  (Instr.lookup 33 (.map (some b)) (.agg #[.int .i64 p.1, .int .i64 p.2]) false).run Try.prog w1 = .ok (.int .i64 s) w1 ∧
  ∀ val, (Lit.int .i64 val).wf = true → ∃ w2, (Instr.entryStore 33 (.map (some b)) (goInt st) (.int .i64 val)).run Try.prog w1 = .ok () w2 ∧ w2.ownsMap Try.prog 35 (plainElem Try.prog 3) b (n + 1) (D.put (kl2 p) (.lit (.int .i64 val))) ∧ w1.grownBy w2 (some b) := by
 have h0 := h
 have hkey := key2 hp
 obtain ⟨es, clock, hb, F, hs, rfl⟩ := h
 obtain ⟨v0, st, es1, clock1, hE, hc, hS⟩ := WideElems.entry_then_store (R := plainElem (H := H) Try.prog 3) meas_klaw u61 zero3 hb F hkey
 have hw1 : (ChangeMaps.setBlock w b (.map es1 clock1)).heap[b]? = some (.map es1 clock1) := ChangeMaps.heap_setBlock_same hb _
 refine ⟨v0, st, _, hE, ⟨rfl, rfl, rfl, by simp [ChangeMaps.setBlock], fun i _ hi => ChangeMaps.heap_setBlock_other hb _ (fun e => hi (by rw [e]))⟩, ?_, fun val hv => ?_⟩
 ·rcases meas_klaw.find w hkey es.toList F.keys with ⟨h1, h2⟩ | ⟨j, e0, h1, h2, h3⟩
  ·have hE' : (Instr.mapEntry 33 (.map (some b)) (.agg #[.int .i64 p.1, .int .i64 p.2])).run Try.prog w = .ok (.tuple #[.int .i64 0, goInt clock]) (ChangeMaps.setBlock w b (.map (es.push ⟨.agg #[.int .i64 p.1, .int .i64 p.2], .int .i64 0, clock⟩) (clock + 1))) := by
    simp [Instr.mapEntry, run_underlying u61, MapKept.run_getObj_map hb, meas_klaw.check w false hkey, h1, zero3, MapKept.run_setObj_map _ hb, Result.andThen, ChangeMaps.setBlock]
   have hU : (Instr.mapUpdate 33 (.map (some b)) (.agg #[.int .i64 p.1, .int .i64 p.2]) (.int .i64 0)).run Try.prog w = .ok () (ChangeMaps.setBlock w b (.map (es.push ⟨.agg #[.int .i64 p.1, .int .i64 p.2], .int .i64 0, clock⟩) (clock + 1))) := by
    simp [Instr.mapUpdate, run_underlying u61, MapKept.run_getObj_map hb, meas_klaw.check w false hkey, h1, MapKept.run_setObj_map _ hb, Result.andThen, ChangeMaps.setBlock]
   replace hE' := hE.symm.trans hE'
   replace hE' := world_of_ok hE'
   obtain ⟨w', hrun, ho, hg⟩ := h0.update meas_law u61 hn hkey (plainElem_int (H := H) Try.underlying3 (a := 0) (by decide))
   replace hrun := hU.symm.trans hrun
   replace hrun := world_of_ok hrun
   rw [hE', hrun]
   refine own_look ho hp ?_
   rw [Maps.atKey_put_same h0.isMap (meas_law.key hkey)]
   rcases Maps.fit_look false meas_law u61 (zero3 w) hb F hkey with ⟨hrun, _, hat⟩ | ⟨e0, y, hm, hk, _⟩
   ·rw [hat] at hD
    exact hD
   ·exact absurd hk (h2 e0 hm)
  ·have hE' : (Instr.mapEntry 33 (.map (some b)) (.agg #[.int .i64 p.1, .int .i64 p.2])).run Try.prog w = .ok (.tuple #[e0.val, goInt e0.born]) (ChangeMaps.setBlock w b (.map es clock)) := by
    have hj : es[j]? = some e0 := by simpa using h2
    have hsame : es.modify j (fun e => { e with key := .agg #[.int .i64 p.1, .int .i64 p.2] }) = es := by
     apply Array.ext'
     rw [Array.toList_modify, ChangeMaps.modify_eq_set _ _ _ _ h2]
     have : ({ e0 with key := .agg #[.int .i64 p.1, .int .i64 p.2] } : MapEntry) = e0 := by rw [← h3]
     rw [this]
     exact WideElems.set_self _ _ _ h2
    simp [Instr.mapEntry, run_underlying u61, MapKept.run_getObj_map hb, meas_klaw.check w false hkey, h1, hj, h3, meas_klaw.stays w hkey, hsame, MapKept.run_setObj_map _ hb, Result.andThen, ChangeMaps.setBlock]
   replace hE' := hE.symm.trans hE'
   replace hE' := world_of_ok hE'
   rw [hE']
   exact own_look (own_of_blocks h0 ((ChangeMaps.heap_setBlock_same hb _).trans hb.symm)) hp hD
 ·obtain ⟨es', clock', hr, hu⟩ := hS _ (.int .i64 val) hw1
  obtain ⟨w', hrun, ho, hg⟩ := h0.update meas_law u61 hn hkey (plainElem_int (H := H) Try.underlying3 hv)
  replace hrun := hu.symm.trans hrun
  replace hrun := world_of_ok hrun
  refine ⟨_, hr, own_of_blocks (w := w') ho ?_, ?_⟩
  ·rw [← hrun, ChangeMaps.heap_setBlock_same hb, ChangeMaps.heap_setBlock_same hw1]
  ·exact ⟨rfl, rfl, rfl, by simp [ChangeMaps.setBlock], fun i _ hi => ChangeMaps.heap_setBlock_other hw1 _ (fun e => hi (by rw [e]))⟩
def mFits (r : Int × Int × Int) : Prop := (-1000000 ≤ r.1 ∧ r.1 ≤ 1000000) ∧ (-1000000 ≤ r.2.1 ∧ r.2.1 ≤ 1000000) ∧ -1000000 ≤ r.2.2 ∧ r.2.2 ≤ 1000000
instance (r : Int × Int × Int) : Decidable (mFits r) := by unfold mFits; infer_instance
def rowM (w : List Int) : Int × Int × Int := (rd w 0, rd w 1, rd w 2)
def impl_addTail.l0 (l : List (List Int)) : Nat → Nat → List (Int × Int × Int) → Option (List (List Int))
 | 0, _, L => some (L.map enc3)
 | d + 1, i, L => if (rd_L1 l (i : Int)).length = 3 ∧ mFits (rowM (rd_L1 l (i : Int))) then impl_addTail.l0 l d (i + 1) (mPut (rowM (rd_L1 l (i : Int))) L) else none
def impl_addTail.f (k : Nat) (l : List (List Int)) : Option (List (List Int)) := if l.length ≤ 900 then impl_addTail.l0 l l.length 0 [] else none
theorem impl_addTail.mono : ∀ a0 k, LeO (impl_addTail.f k a0) (impl_addTail.f (k + 1) a0) := fun _ _ => LeO.refl _
theorem mPut_mem (m : Int × Int × Int) : ∀ (l : List (Int × Int × Int)), ∀ a ∈ mPut m l, a = m ∨ a ∈ l ∨ ∃ c ∈ l, a = (m.1, m.2.1, m.2.2 + c.2.2)
 | [], a, h => by
  unfold mPut at h
  split at h
  ·cases h
  ·exact .inl (List.mem_singleton.mp h)
 | c :: l, a, h => by
  unfold mPut at h
  split at h
  ·rcases List.mem_cons.mp h with rfl | h
   ·exact .inr (.inl List.mem_cons_self)
   ·rcases mPut_mem m l a h with h | h | ⟨d, hd, h⟩
    ·exact .inl h
    ·exact .inr (.inl (List.mem_cons_of_mem _ h))
    ·exact .inr (.inr ⟨d, List.mem_cons_of_mem _ hd, h⟩)
  ·split at h
   ·split at h
    ·exact .inr (.inl (List.mem_cons_of_mem _ h))
    ·rcases List.mem_cons.mp h with rfl | h
     ·exact .inr (.inr ⟨c, List.mem_cons_self, rfl⟩)
     ·exact .inr (.inl (List.mem_cons_of_mem _ h))
   ·split at h
    ·exact .inr (.inl h)
    ·rcases List.mem_cons.mp h with rfl | h
     ·exact .inl rfl
     ·exact .inr (.inl h)
def mGood (i : Nat) (L : List (Int × Int × Int)) : Prop := mOk L ∧ ∀ m ∈ L, (-1000000 ≤ m.1 ∧ m.1 ≤ 1000000) ∧ (-1000000 ≤ m.2.1 ∧ m.2.1 ≤ 1000000) ∧ -(1000000 * (i : Int)) ≤ m.2.2 ∧ m.2.2 ≤ 1000000 * (i : Int)
theorem mGood_nil : mGood 0 [] := ⟨⟨List.Pairwise.nil, fun _ h => by cases h⟩, fun _ h => by cases h⟩
theorem mGood_put {i : Nat} {L : List (Int × Int × Int)} {r : Int × Int × Int} (h : mGood i L) (hr : mFits r) : mGood (i + 1) (mPut r L) := by
 refine ⟨mPut_ok r L h.1, fun m hm => ?_⟩
 obtain ⟨h1, h2, h3⟩ := hr
 rcases mPut_mem r L m hm with rfl | hm | ⟨c, hc, rfl⟩
 ·exact ⟨h1, h2, by push_cast; omega⟩
 ·obtain ⟨a, b, c⟩ := h.2 m hm
  exact ⟨a, b, by push_cast; omega⟩
 ·obtain ⟨a, b, d⟩ := h.2 c hc
  exact ⟨h1, h2, by show -(1000000 * ((i + 1 : Nat) : Int)) ≤ r.2.2 + c.2.2 ∧ r.2.2 + c.2.2 ≤ 1000000 * ((i + 1 : Nat) : Int); push_cast; omega⟩
theorem mGood_val {i : Nat} {L : List (Int × Int × Int)} (h : mGood i L) (x y : Int) : -(1000000 * (i : Int)) ≤ mVal L x y ∧ mVal L x y ≤ 1000000 * (i : Int) := by
 by_cases h0 : mVal L x y = 0
 ·omega
 ·exact (h.2 _ (mVal_mem L x y h0)).2.2
theorem mReads_put {H : Type} {D : DataW H} {L : List (Int × Int × Int)} (hm : Maps.IsMap D) (hL : mOk L) (hD : ∀ p, wf2 p → D.atKey (kl2 p) (.lit (.int .i64 0)) = .lit (.int .i64 (mVal L p.1 p.2))) (x y z s : Int) (hp : wf2 (x, y)) (hs : s = mVal L x y + z) :
 ∀ p, wf2 p → (D.put (kl2 (x, y)) (.lit (.int .i64 s))).atKey (kl2 p) (.lit (.int .i64 0)) = .lit (.int .i64 (mVal (mPut (x, y, z) L) p.1 p.2)) := by
 intro p hq
 rw [mPut_val (x, y, z) p.1 p.2 L hL]
 by_cases h : p = (x, y)
 ·subst h
  rw [Maps.atKey_put_same hm (meas_law.key (key2 hp)), if_pos ⟨rfl, rfl⟩, hs]
 ·rw [Maps.atKey_put_other (fun e => h (by
   have := meas_law.inj (key2 hq) (by rw [e]; exact key2 hp)
   obtain ⟨a, b⟩ := p
   simp at this
   simp [this])), hD p hq, if_neg (fun e => h (by obtain ⟨a, b⟩ := p; simp at e; simp [e])), Int.add_zero]

end Go.Proofs.Ytomfkafbiliblaa.QFnExactAddMeasures
