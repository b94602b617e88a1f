/- SameRectangle of the program and of the reference answer alike, for all lists of points and all numbers. -/
import Derived.Test.YtadenfniiihifaaQFnExactSameRectanglex13
namespace Go.Proofs.Ytadenfniiihifaa.Pure
open Go.RowKit Go.Proofs.Ytadenfniiihifaa.QFnExactSameRectangle Go.Proofs.YtadenfniiihifaaW.PrintWords Go.Proofs.YtadenfniiihifaaW.PrintLast Go.Proofs.YtadenfniiihifaaW.PrintMore
set_option linter.unusedVariables false
set_option linter.unusedSimpArgs false

/- Eventually: with enough rounds the answer is r. -/
theorem ev_now {α : Type} (r : α) : Ev (fun _ => some r) r := Ev.now r
theorem ev_shift {α : Type} {g : Nat → Option α} {r : α} (h : Ev (fun k => g (k + 1)) r) : Ev g r := by
  obtain ⟨K, hK⟩ := h
  exact ⟨K + 1, fun k hk => by
    obtain ⟨m, rfl⟩ : ∃ m, k = m + 1 := ⟨k - 1, by omega⟩
    exact hK m (by omega)⟩
theorem ev_bind {α β : Type} {g : Nat → Option α} {f : Nat → α → Option β} {a : α} {r : β} (h : Ev g a) (k : Ev (fun n => f n a) r) : Ev (fun n => (g n).bind (f n)) r := Ev.bind h k
theorem ev_bind0 {α β : Type} {o : Option α} {f : Nat → α → Option β} {a : α} {r : β} (h : o = some a) (k : Ev (fun n => f n a) r) : Ev (fun n => o.bind (f n)) r := by
  subst h; exact k
theorem ev_pos {α : Type} {A B : Nat → Option α} {r : α} {c : Prop} [Decidable c] (h : c) (k : Ev A r) : Ev (fun n => if c then A n else B n) r := by
  simpa only [if_pos h] using k
theorem ev_neg {α : Type} {A B : Nat → Option α} {r : α} {c : Prop} [Decidable c] (h : ¬ c) (k : Ev B r) : Ev (fun n => if c then A n else B n) r := by
  simpa only [if_neg h] using k
theorem ev_eq {α : Type} {g : Nat → Option α} {r r' : α} (h : Ev g r) (e : r = r') : Ev g r' := e ▸ h
theorem ev_rounds {α : Type} {g : Nat → Option α} {r : α} (h : Ev g r) : ∃ k, g k = some r := Ev.rounds h
theorem w64 {n : Int} (h : -9223372036854775808 ≤ n) (h' : n ≤ 9223372036854775807) : wrap64 n = n := by
  unfold wrap64; omega
theorem wsucc (a : Nat) (h : a < 1000000000000) : wrap64 ((a : Int) + 1) = ((a + 1 : Nat) : Int) := by
  rw [w64 (by omega) (by omega)]; omega
theorem within_eq (a b c : Int) : impl_within.f a b c = some (decide (b ≤ a ∧ a ≤ c)) := by
  unfold impl_within.f; split <;> simp <;> omega
theorem in_eq (a b c : Int) : spec_l01In.f a b c = some (decide (b ≤ a ∧ a ≤ c)) := by
  unfold spec_l01In.f; split <;> simp <;> omega
theorem mx_eq (a b : Int) : mx a b = max a b := by unfold mx; split <;> omega
theorem mn_eq (a b : Int) : mn a b = min a b := by unfold mn; split <;> omega
/-! How two edges meet, both ways. -/
def crI (a b p : S40) : Int := (b.f0 - a.f0) * (p.f1 - a.f1) - (b.f1 - a.f1) * (p.f0 - a.f0)
def small (p : S40) : Prop := (0 ≤ p.f0 ∧ p.f0 ≤ 40) ∧ 0 ≤ p.f1 ∧ p.f1 ≤ 40
theorem mul_small {u v : Int} (hu : -40 ≤ u ∧ u ≤ 40) (hv : -40 ≤ v ∧ v ≤ 40) : -1600 ≤ u * v ∧ u * v ≤ 1600 := by
  have h : (u * v).natAbs ≤ 40 * 40 := by rw [Int.natAbs_mul]; exact Nat.mul_le_mul (by omega) (by omega)
  omega
theorem cross_wrap {a b p : S40} (ha : small a) (hb : small b) (hp : small p) : wrap64 ((wrap64 ((wrap64 (b.f0 - a.f0)) * (wrap64 (p.f1 - a.f1)))) - (wrap64 ((wrap64 (b.f1 - a.f1)) * (wrap64 (p.f0 - a.f0))))) = crI a b p := by
  obtain ⟨a1, a2⟩ := ha
  obtain ⟨b1, b2⟩ := hb
  obtain ⟨p1, p2⟩ := hp
  have h1 := mul_small (u := b.f0 - a.f0) (v := p.f1 - a.f1) (by omega) (by omega)
  have h2 := mul_small (u := b.f1 - a.f1) (v := p.f0 - a.f0) (by omega) (by omega)
  unfold crI
  rw [w64 (n := b.f0 - a.f0) (by omega) (by omega), w64 (n := p.f1 - a.f1) (by omega) (by omega), w64 (n := b.f1 - a.f1) (by omega) (by omega), w64 (n := p.f0 - a.f0) (by omega) (by omega)]
  generalize (b.f0 - a.f0) * (p.f1 - a.f1) = x at *
  generalize (b.f1 - a.f1) * (p.f0 - a.f0) = y at *
  rw [w64 (n := x) (by omega) (by omega), w64 (n := y) (by omega) (by omega), w64 (by omega) (by omega)]
theorem sp_cross {a b p : S40} (ha : small a) (hb : small b) (hp : small p) : spec_l02Cross.f a.f0 a.f1 b.f0 b.f1 p.f0 p.f1 = some (crI a b p) := by
  unfold spec_l02Cross.f
  rw [cross_wrap ha hb hp]
theorem im_cross {a b p : S40} (ha : small a) (hb : small b) (hp : small p) : impl_cross.f a.f0 a.f1 b.f0 b.f1 p.f0 p.f1 = some (crI a b p) := by
  unfold impl_cross.f
  rw [cross_wrap ha hb hp]
def sgn (n : Int) : Int := if n > 0 then 1 else if n < 0 then -1 else 0
theorem sp_sign (n : Int) : spec_l02Sign.f n = some (sgn n) := by
  unfold spec_l02Sign.f sgn
  split
  · rfl
  · split <;> rfl
theorem im_sign (n : Int) : impl_sign.f n = some (sgn n) := by
  unfold impl_sign.f sgn
  split
  · rfl
  · split <;> rfl
theorem sgn_cases (n : Int) : (n > 0 ∧ sgn n = 1) ∨ (n < 0 ∧ sgn n = -1) ∨ (n = 0 ∧ sgn n = 0) := by
  unfold sgn
  split
  · exact .inl ⟨by assumption, rfl⟩
  · split
    · exact .inr (.inl ⟨by assumption, rfl⟩)
    · exact .inr (.inr ⟨by omega, rfl⟩)
theorem sgn_mul (m n : Int) : wrap64 (sgn m * sgn n) = sgn m * sgn n := by
  rcases sgn_cases m with ⟨_, h⟩ | ⟨_, h⟩ | ⟨_, h⟩ <;> rcases sgn_cases n with ⟨_, g⟩ | ⟨_, g⟩ | ⟨_, g⟩ <;> rw [h, g] <;> exact w64 (by omega) (by omega)
def onI (a b p : S40) : Bool := decide (crI a b p = 0) && (decide (min a.f0 b.f0 ≤ p.f0 ∧ p.f0 ≤ max a.f0 b.f0) && decide (min a.f1 b.f1 ≤ p.f1 ∧ p.f1 ≤ max a.f1 b.f1))
theorem im_on {a b p : S40} (ha : small a) (hb : small b) (hp : small p) : impl_isOn.f a.f0 a.f1 b.f0 b.f1 p.f0 p.f1 = some (onI a b p) := by
  unfold impl_isOn.f onI
  rw [im_cross ha hb hp]
  simp only [Option.bind_some, within_eq, mn_eq, mx_eq]
  by_cases c : crI a b p = 0
  · rw [if_pos c, decide_eq_true c, Bool.true_and]
    by_cases d : min a.f0 b.f0 ≤ p.f0 ∧ p.f0 ≤ max a.f0 b.f0
    · rw [if_pos (decide_eq_true d), decide_eq_true d, Bool.true_and]
    · rw [if_neg (by simpa using d), decide_eq_false d, Bool.false_and]
  · rw [if_neg c, decide_eq_false c, Bool.false_and]
theorem sp_on {a b p : S40} (ha : small a) (hb : small b) (hp : small p) : spec_l02On.f a.f0 a.f1 b.f0 b.f1 p.f0 p.f1 = some (onI a b p) := by
  unfold spec_l02On.f onI
  rw [sp_cross ha hb hp]
  simp only [Option.bind_some, mn_eq, mx_eq]
  by_cases c : crI a b p = 0
  · rw [if_pos c, decide_eq_true c, Bool.true_and]
    by_cases d1 : p.f0 ≥ min a.f0 b.f0
    · rw [if_pos d1]
      by_cases d2 : p.f0 ≤ max a.f0 b.f0
      · rw [if_pos d2, decide_eq_true (show min a.f0 b.f0 ≤ p.f0 ∧ p.f0 ≤ max a.f0 b.f0 from ⟨d1, d2⟩), Bool.true_and]
        by_cases d3 : p.f1 ≥ min a.f1 b.f1
        · rw [if_pos d3]
          congr 1
          exact decide_eq_decide.mpr ⟨fun z => ⟨d3, z⟩, fun z => z.2⟩
        · rw [if_neg d3, decide_eq_false (fun z => d3 z.1)]
      · rw [if_neg d2, decide_eq_false (fun z => d2 z.2), Bool.false_and]
    · rw [if_neg d1, decide_eq_false (fun z => d1 z.1), Bool.false_and]
  · rw [if_neg c, decide_eq_false c, Bool.false_and]
theorem on_zero {a b p : S40} (h : onI a b p = true) : crI a b p = 0 := by
  unfold onI at h
  rw [Bool.and_eq_true] at h
  exact of_decide_eq_true h.1
def eqP (a b : S40) : Bool := a.f0 == b.f0 && a.f1 == b.f1
theorem eqP_iff (a b : S40) : eqP a b = true ↔ a = b := by
  unfold eqP
  cases a; cases b
  simp
def crossP (a b c d : S40) : Prop := sgn (crI a b c) * sgn (crI a b d) < 0 ∧ sgn (crI c d a) * sgn (crI c d b) < 0
theorem cross_ne {a b c d : S40} (h : crossP a b c d) : crI a b c ≠ 0 ∧ crI a b d ≠ 0 ∧ crI c d a ≠ 0 ∧ crI c d b ≠ 0 := by
  obtain ⟨h1, h2⟩ := h
  refine ⟨fun e => ?_, fun e => ?_, fun e => ?_, fun e => ?_⟩
  · rw [e] at h1; simp [sgn] at h1
  · rw [e] at h1; simp [sgn] at h1
  · rw [e] at h2; simp [sgn] at h2
  · rw [e] at h2; simp [sgn] at h2
instance (a b c d : S40) : Decidable (crossP a b c d) := by unfold crossP; infer_instance
/-- All of a list are one. -/
def oneP : List S40 → Int
  | [] => 0
  | x :: l => if l.all (fun y => eqP y x) = true then 1 else 3
def sharedS (a b c d : S40) : List S40 := [a, b].filter (onI c d) ++ [c, d].filter (onI a b)
def sharedI (a b c d : S40) : List S40 := [c, d].filter (onI a b) ++ [a, b].filter (onI c d)
def meetP (a b c d : S40) : Int := if crossP a b c d then 2 else oneP (sharedS a b c d)
theorem shared_nil {a b c d : S40} (h : crossP a b c d) : sharedI a b c d = [] := by
  obtain ⟨h1, h2, h3, h4⟩ := cross_ne h
  have e1 : onI a b c = false := Bool.eq_false_iff.mpr (fun z => h1 (on_zero z))
  have e2 : onI a b d = false := Bool.eq_false_iff.mpr (fun z => h2 (on_zero z))
  have e3 : onI c d a = false := Bool.eq_false_iff.mpr (fun z => h3 (on_zero z))
  have e4 : onI c d b = false := Bool.eq_false_iff.mpr (fun z => h4 (on_zero z))
  simp [sharedI, e1, e2, e3, e4]
theorem oneP_eq {L M : List S40} (h : ∀ x, x ∈ L ↔ x ∈ M) : oneP L = oneP M := by
  have key : ∀ {L M : List S40}, (∀ x, x ∈ L ↔ x ∈ M) → ∀ x l, L = x :: l → l.all (fun y => eqP y x) = true → ∀ y m, M = y :: m → m.all (fun z => eqP z y) = true := by
    intro L M h x l hL hl y m hM
    rw [List.all_eq_true] at hl ⊢
    have hall : ∀ z ∈ L, z = x := fun z hz => by
      rw [hL] at hz
      rcases List.mem_cons.mp hz with e | e
      · exact e
      · exact (eqP_iff _ _).mp (hl z e)
    intro z hz
    have h1 := hall z ((h z).mpr (by rw [hM]; simp [hz]))
    have h2 := hall y ((h y).mpr (by rw [hM]; simp))
    exact (eqP_iff _ _).mpr (by rw [h1, h2])
  cases L with
  | nil =>
    cases M with
    | nil => rfl
    | cons y m => exact absurd ((h y).mpr (by simp)) (by simp)
  | cons x l =>
    cases M with
    | nil => exact absurd ((h x).mp (by simp)) (by simp)
    | cons y m =>
      simp only [oneP]
      by_cases c : l.all (fun z => eqP z x) = true
      · rw [if_pos c, if_pos (key h x l rfl c y m rfl)]
      · rw [if_neg c, if_neg (fun g => c (key (fun z => (h z).symm) y m rfl g x l rfl))]
theorem shared_mem (a b c d x : S40) : x ∈ sharedS a b c d ↔ x ∈ sharedI a b c d := by
  unfold sharedS sharedI
  rw [List.mem_append, List.mem_append]
  exact Or.comm
/-- The reference. -/
theorem rdp_at2 (pre suf : List S40) (x : S40) : rd_T40 (pre ++ x :: suf) (pre.length : Int) = x := by
  simp [rd_T40, List.getD_eq_getElem?_getD]
theorem sp_l2 (L : List S40) (hL : L.length ≤ 1000) (x0 : S40) (l : List S40) (h0 : L = x0 :: l) : ∀ (suf pre : List S40), L = pre ++ suf →
    Ev (fun k => spec_l02Meet.l2 k L L (L.length : Int) (pre.length : Int)) (if suf.all (fun y => eqP y x0) = true then 1 else 3) := by
  have hz : rd_T40 L 0 = x0 := by rw [h0]; exact rdp_at2 [] l x0
  intro suf
  induction suf with
  | nil =>
    intro pre h
    obtain rfl : L = pre := by simp [h]
    refine ev_shift ?_
    simp only [spec_l02Meet.l2]
    exact ev_neg (by omega) (ev_now _)
  | cons x suf ih =>
    intro pre h
    have hlen : L.length = pre.length + (suf.length + 1) := by rw [h]; simp
    have hr : rd_T40 L (pre.length : Int) = x := by rw [h]; exact rdp_at2 pre suf x
    have hn := ih (pre ++ [x]) (by simp [h])
    rw [List.length_append, List.length_singleton] at hn
    refine ev_shift ?_
    simp only [spec_l02Meet.l2]
    rw [hr, hz, wsucc _ (by omega)]
    refine ev_pos (by omega) (ev_pos (by omega) (ev_pos (by omega) (ev_pos (by omega) ?_)))
    rw [List.all_cons]
    by_cases c : eqP x x0 = true
    · rw [c, Bool.true_and]
      have e := (eqP_iff _ _).mp c
      exact ev_neg (by rw [e]; simp) hn
    · have c' : eqP x x0 = false := Bool.eq_false_iff.mpr c
      rw [c', Bool.false_and, if_neg (by decide)]
      refine ev_pos ?_ (ev_now _)
      unfold eqP at c'
      rw [Bool.and_eq_false_iff] at c'
      rcases c' with z | z <;> simp [z]
theorem sp_one (L : List S40) (hL : L.length ≤ 1000) : Ev (fun k => if (L.length : Int) = 0 then (some 0) else (spec_l02Meet.l2 k L L (L.length : Int) 0)) (oneP L) := by
  cases L with
  | nil => exact ev_pos rfl (ev_now _)
  | cons x l =>
    refine ev_neg (by simp; omega) ?_
    have := sp_l2 (x :: l) hL x l rfl (x :: l) [] rfl
    refine ev_eq this ?_
    have e : eqP x x = true := (eqP_iff _ _).mpr rfl
    simp only [oneP, List.all_cons, e, Bool.true_and]
theorem sp_l1 {a b : S40} (ha : small a) (hb : small b) (y : List S40) (hy : y.length ≤ 2) (hs : ∀ p ∈ y, small p) : ∀ (suf pre acc : List S40), y = pre ++ suf → acc.length ≤ 100 + pre.length →
    Ev (fun k => spec_l02Meet.l1 k acc y (y.length : Int) (pre.length : Int) a.f0 a.f1 b.f0 b.f1) (oneP (acc ++ suf.filter (onI a b))) := by
  intro suf
  induction suf with
  | nil =>
    intro pre acc h hl
    have hlen : y.length = pre.length := by rw [h]; simp
    refine ev_shift ?_
    simp only [spec_l02Meet.l1]
    refine ev_neg (by omega) ?_
    have := sp_one acc (by omega)
    simpa using this
  | cons x suf ih =>
    intro pre acc h hl
    have hlen : y.length = pre.length + (suf.length + 1) := by rw [h]; simp
    have hr : rd_T40 y (pre.length : Int) = x := by rw [h]; exact rdp_at2 pre suf x
    refine ev_shift ?_
    simp only [spec_l02Meet.l1]
    rw [hr, wsucc _ (by omega)]
    refine ev_pos (by omega) (ev_pos (by omega) (ev_pos (by omega) (ev_bind0 (sp_on ha hb (hs x (by rw [h]; simp))) ?_)))
    by_cases c : onI a b x = true
    · have hn := ih (pre ++ [x]) (acc ++ [x]) (by simp [h]) (by simp; omega)
      rw [List.length_append, List.length_singleton] at hn
      rw [List.filter_cons, if_pos c]
      refine ev_pos c (ev_pos (by omega) ?_)
      have e : (⟨x.f0, x.f1⟩ : S40) = x := rfl
      rw [e]
      simpa using hn
    · have hn := ih (pre ++ [x]) acc (by simp [h]) (by simp; omega)
      rw [List.length_append, List.length_singleton] at hn
      rw [List.filter_cons, if_neg c]
      exact ev_neg c hn
theorem sp_l0 {a b c d : S40} (ha : small a) (hb : small b) (hc : small c) (hd : small d) (y : List S40) (hy : y.length ≤ 2) (hs : ∀ p ∈ y, small p) : ∀ (suf pre acc : List S40), y = pre ++ suf → acc.length ≤ pre.length →
    Ev (fun k => spec_l02Meet.l0 k acc y (y.length : Int) (pre.length : Int) a.f0 a.f1 b.f0 b.f1 c.f0 c.f1 d.f0 d.f1) (oneP ((acc ++ suf.filter (onI c d)) ++ [c, d].filter (onI a b))) := by
  intro suf
  induction suf with
  | nil =>
    intro pre acc h hl
    have hlen : y.length = pre.length := by rw [h]; simp
    refine ev_shift ?_
    simp only [spec_l02Meet.l0]
    refine ev_neg (by omega) (ev_bind0 rfl ?_)
    have := sp_l1 ha hb [c, d] (by simp) (fun p hp => by
      rcases List.mem_cons.mp hp with rfl | hp
      · exact hc
      · rcases List.mem_cons.mp hp with rfl | hp
        · exact hd
        · cases hp) [c, d] [] acc rfl (by omega)
    simpa using this
  | cons x suf ih =>
    intro pre acc h hl
    have hlen : y.length = pre.length + (suf.length + 1) := by rw [h]; simp
    have hr : rd_T40 y (pre.length : Int) = x := by rw [h]; exact rdp_at2 pre suf x
    refine ev_shift ?_
    simp only [spec_l02Meet.l0]
    rw [hr, wsucc _ (by omega)]
    refine ev_pos (by omega) (ev_pos (by omega) (ev_pos (by omega) (ev_bind0 (sp_on hc hd (hs x (by rw [h]; simp))) ?_)))
    by_cases g : onI c d x = true
    · have hn := ih (pre ++ [x]) (acc ++ [x]) (by simp [h]) (by simp; omega)
      rw [List.length_append, List.length_singleton] at hn
      rw [List.filter_cons, if_pos g]
      refine ev_pos g (ev_pos (by omega) ?_)
      have e : (⟨x.f0, x.f1⟩ : S40) = x := rfl
      rw [e]
      simpa using hn
    · have hn := ih (pre ++ [x]) acc (by simp [h]) (by simp; omega)
      rw [List.length_append, List.length_singleton] at hn
      rw [List.filter_cons, if_neg g]
      exact ev_neg g hn
theorem sp_meet {a b c d : S40} (ha : small a) (hb : small b) (hc : small c) (hd : small d) : Ev (fun k => spec_l02Meet.f k a.f0 a.f1 b.f0 b.f1 c.f0 c.f1 d.f0 d.f1) (meetP a b c d) := by
  have h0 : Ev (fun k => spec_l02Meet.j0 k false a.f0 a.f1 b.f0 b.f1 c.f0 c.f1 d.f0 d.f1) (oneP (sharedS a b c d)) := by
    refine ev_shift ?_
    simp only [spec_l02Meet.j0]
    refine ev_neg (by decide) (ev_bind0 rfl ?_)
    exact sp_l0 ha hb hc hd [a, b] (by simp) (fun p hp => by
      rcases List.mem_cons.mp hp with rfl | hp
      · exact ha
      · rcases List.mem_cons.mp hp with rfl | hp
        · exact hb
        · cases hp) [a, b] [] [] rfl (by simp)
  unfold spec_l02Meet.f
  refine ev_bind0 (sp_cross ha hb hc) (ev_bind0 (sp_sign _) (ev_bind0 (sp_cross ha hb hd) (ev_bind0 (sp_sign _) (ev_bind0 (sp_cross hc hd ha) (ev_bind0 (sp_sign _) (ev_bind0 (sp_cross hc hd hb) (ev_bind0 (sp_sign _) ?_)))))))
  rw [sgn_mul, sgn_mul]
  unfold meetP
  by_cases g1 : sgn (crI a b c) * sgn (crI a b d) < 0
  · refine ev_pos g1 ?_
    by_cases g2 : sgn (crI c d a) * sgn (crI c d b) < 0
    · rw [decide_eq_true g2, if_pos (show crossP a b c d from ⟨g1, g2⟩)]
      refine ev_shift ?_
      simp only [spec_l02Meet.j0]
      exact ev_pos (by simp) (ev_now _)
    · rw [decide_eq_false g2, if_neg (fun z => g2 z.2)]
      exact h0
  · rw [if_neg (fun z => g1 z.1)]
    exact ev_neg g1 h0
def addP (acc : List S40) (x : S40) : List S40 := if acc.any (fun q => q.f0 == x.f0 && q.f1 == x.f1) = true then acc else acc ++ [x]
theorem any_iff (acc : List S40) (x : S40) : acc.any (fun q => q.f0 == x.f0 && q.f1 == x.f1) = true ↔ x ∈ acc := by
  rw [List.any_eq_true]
  constructor
  · rintro ⟨q, hq, h⟩
    rwa [(eqP_iff q x).mp h] at hq
  · intro h
    exact ⟨x, h, (eqP_iff x x).mpr rfl⟩
theorem addP_len (acc : List S40) (x : S40) : (addP acc x).length ≤ acc.length + 1 := by
  unfold addP; split <;> simp
theorem add_props : ∀ (L acc : List S40), acc.Nodup → (L.foldl addP acc).Nodup ∧ ∀ x, x ∈ L.foldl addP acc ↔ x ∈ acc ∨ x ∈ L := by
  intro L
  induction L with
  | nil => intro acc h; exact ⟨h, fun x => by simp⟩
  | cons y L ih =>
    intro acc h
    rw [List.foldl_cons]
    have hn : (addP acc y).Nodup ∧ ∀ x, x ∈ addP acc y ↔ x ∈ acc ∨ x = y := by
      unfold addP
      by_cases c : acc.any (fun q => q.f0 == y.f0 && q.f1 == y.f1) = true
      · rw [if_pos c]
        exact ⟨h, fun x => ⟨fun z => .inl z, fun z => z.elim id (fun e => by rw [e]; exact (any_iff acc y).mp c)⟩⟩
      · rw [if_neg c]
        refine ⟨?_, fun x => by simp⟩
        rw [List.nodup_append]
        exact ⟨h, by simp, fun a ha b hb e => by
          have : b = y := by simpa using hb
          exact c ((any_iff acc y).mpr (by rw [← this, ← e]; exact ha))⟩
    obtain ⟨i1, i2⟩ := ih (addP acc y) hn.1
    refine ⟨i1, fun x => ?_⟩
    rw [i2 x, hn.2 x, List.mem_cons, or_assoc]
def finP (a b c d : S40) (E : List S40) : Int := if E.length > 1 then 3 else if E.length = 1 then 1 else if crossP a b c d then 2 else 0
theorem fin_meet (a b c d : S40) : finP a b c d ((sharedI a b c d).foldl addP []) = meetP a b c d := by
  obtain ⟨hnd, hm⟩ := add_props (sharedI a b c d) [] List.nodup_nil
  have hs := shared_mem a b c d
  unfold meetP
  by_cases hx : crossP a b c d
  · rw [if_pos hx]
    have e := shared_nil hx
    rw [e]
    simp [finP, hx]
  · rw [if_neg hx, oneP_eq (M := (sharedI a b c d).foldl addP []) (fun x => by rw [hs x, hm x]; simp)]
    generalize (sharedI a b c d).foldl addP [] = E at hnd
    unfold finP
    cases E with
    | nil => simp [oneP, hx]
    | cons x l =>
      cases l with
      | nil => simp [oneP]
      | cons y l =>
        rw [if_pos (by simp)]
        simp only [oneP]
        rw [if_neg]
        rw [List.all_cons, Bool.and_eq_true]
        rintro ⟨z, _⟩
        have e := (eqP_iff y x).mp z
        rw [e] at hnd
        simp at hnd
theorem im_add (x : S40) (acc : List S40) (h : acc.length ≤ 1000) : impl_meet_1.f x.f0 x.f1 acc = some (addP acc x) := by
  unfold impl_meet_1.f addP
  rw [if_pos (by omega)]
theorem im_l1 {a b c d : S40} (ha : small a) (hb : small b) (hc : small c) (hd : small d) (y : List S40) (hy : y.length ≤ 2) (hs : ∀ p ∈ y, small p) : ∀ (suf pre acc : List S40), y = pre ++ suf → acc.length ≤ 100 + pre.length →
    Ev (fun k => impl_meet.l1 k acc y (y.length : Int) (pre.length : Int) a.f0 a.f1 b.f0 b.f1 c.f0 c.f1 d.f0 d.f1) (finP a b c d ((suf.filter (onI c d)).foldl addP acc)) := by
  intro suf
  induction suf with
  | nil =>
    intro pre acc h hl
    have hlen : y.length = pre.length := by rw [h]; simp
    refine ev_shift ?_
    simp only [impl_meet.l1]
    refine ev_neg (by omega) ?_
    show Ev _ (finP a b c d acc)
    unfold finP
    by_cases e1 : acc.length > 1
    · rw [if_pos e1]
      exact ev_pos (by omega) (ev_now _)
    · rw [if_neg e1]
      refine ev_neg (by omega) ?_
      by_cases e2 : acc.length = 1
      · rw [if_pos e2]
        exact ev_pos (by omega) (ev_now _)
      · rw [if_neg e2]
        refine ev_neg (by omega) (ev_bind0 (im_cross ha hb hc) (ev_bind0 (im_sign _) (ev_bind0 (im_cross ha hb hd) (ev_bind0 (im_sign _) ?_))))
        rw [sgn_mul]
        by_cases g1 : sgn (crI a b c) * sgn (crI a b d) < 0
        · refine ev_pos g1 (ev_bind0 (im_cross hc hd ha) (ev_bind0 (im_sign _) (ev_bind0 (im_cross hc hd hb) (ev_bind0 (im_sign _) ?_))))
          rw [sgn_mul]
          by_cases g2 : sgn (crI c d a) * sgn (crI c d b) < 0
          · rw [if_pos (show crossP a b c d from ⟨g1, g2⟩)]
            exact ev_pos g2 (ev_now _)
          · exact ev_neg g2 (ev_eq (ev_now _) (if_neg (fun z : crossP a b c d => g2 z.2)).symm)
        · exact ev_neg g1 (ev_eq (ev_now _) (if_neg (fun z : crossP a b c d => g1 z.1)).symm)
  | cons x suf ih =>
    intro pre acc h hl
    have hlen : y.length = pre.length + (suf.length + 1) := by rw [h]; simp
    have hr : rd_T40 y (pre.length : Int) = x := by rw [h]; exact rdp_at2 pre suf x
    refine ev_shift ?_
    simp only [impl_meet.l1]
    rw [hr, wsucc _ (by omega)]
    refine ev_pos (by omega) (ev_pos (by omega) (ev_pos (by omega) (ev_bind0 (im_on hc hd (hs x (by rw [h]; simp))) ?_)))
    by_cases g : onI c d x = true
    · have hal := addP_len acc x
      have hn := ih (pre ++ [x]) (addP acc x) (by simp [h]) (by simp; omega)
      rw [List.length_append, List.length_singleton] at hn
      rw [List.filter_cons, if_pos g, List.foldl_cons]
      exact ev_pos g (ev_bind0 (im_add x acc (by omega)) hn)
    · have hn := ih (pre ++ [x]) acc (by simp [h]) (by simp; omega)
      rw [List.length_append, List.length_singleton] at hn
      rw [List.filter_cons, if_neg g]
      exact ev_neg g hn
theorem two_small {a b : S40} (ha : small a) (hb : small b) : ∀ p ∈ [a, b], small p := by
  intro p hp
  rcases List.mem_cons.mp hp with rfl | hp
  · exact ha
  · rcases List.mem_cons.mp hp with rfl | hp
    · exact hb
    · cases hp
theorem im_l0 {a b c d : S40} (ha : small a) (hb : small b) (hc : small c) (hd : small d) (y : List S40) (hy : y.length ≤ 2) (hs : ∀ p ∈ y, small p) : ∀ (suf pre acc : List S40), y = pre ++ suf → acc.length ≤ pre.length →
    Ev (fun k => impl_meet.l0 k acc y (y.length : Int) (pre.length : Int) a.f0 a.f1 b.f0 b.f1 c.f0 c.f1 d.f0 d.f1) (finP a b c d (([a, b].filter (onI c d)).foldl addP ((suf.filter (onI a b)).foldl addP acc))) := by
  intro suf
  induction suf with
  | nil =>
    intro pre acc h hl
    have hlen : y.length = pre.length := by rw [h]; simp
    refine ev_shift ?_
    simp only [impl_meet.l0]
    refine ev_neg (by omega) (ev_bind0 rfl ?_)
    exact im_l1 ha hb hc hd [a, b] (by simp) (two_small ha hb) [a, b] [] acc rfl (by omega)
  | cons x suf ih =>
    intro pre acc h hl
    have hlen : y.length = pre.length + (suf.length + 1) := by rw [h]; simp
    have hr : rd_T40 y (pre.length : Int) = x := by rw [h]; exact rdp_at2 pre suf x
    refine ev_shift ?_
    simp only [impl_meet.l0]
    rw [hr, wsucc _ (by omega)]
    refine ev_pos (by omega) (ev_pos (by omega) (ev_pos (by omega) (ev_bind0 (im_on ha hb (hs x (by rw [h]; simp))) ?_)))
    by_cases g : onI a b x = true
    · have hal := addP_len acc x
      have hn := ih (pre ++ [x]) (addP acc x) (by simp [h]) (by simp; omega)
      rw [List.length_append, List.length_singleton] at hn
      rw [List.filter_cons, if_pos g, List.foldl_cons]
      exact ev_pos g (ev_bind0 (im_add x acc (by omega)) hn)
    · have hn := ih (pre ++ [x]) acc (by simp [h]) (by simp; omega)
      rw [List.length_append, List.length_singleton] at hn
      rw [List.filter_cons, if_neg g]
      exact ev_neg g hn
theorem im_meet {a b c d : S40} (ha : small a) (hb : small b) (hc : small c) (hd : small d) : Ev (fun k => impl_meet.f k a.f0 a.f1 b.f0 b.f1 c.f0 c.f1 d.f0 d.f1) (meetP a b c d) := by
  unfold impl_meet.f
  refine ev_bind0 rfl ?_
  have := im_l0 ha hb hc hd [c, d] (by simp) (two_small hc hd) [c, d] [] [] rfl (by simp)
  refine ev_eq this ?_
  rw [← fin_meet]
  unfold sharedI
  rw [List.foldl_append]
/-! What a polygon is, both ways. -/
theorem tmodN (a b : Nat) : Int.tmod (a : Int) (b : Int) = ((a % b : Nat) : Int) := by
  rw [Int.tmod_eq_emod_of_nonneg (by omega)]
  simp
def zP : S40 := ⟨0, 0⟩
def ptA (p : List S40) (i : Nat) : S40 := p.getD i zP
theorem rd_ptA (p : List S40) (i : Nat) : rd_T40 p (i : Int) = ptA p i := by simp [rd_T40, ptA, zP, z40]
def smallB (p : S40) : Bool := decide ((0 ≤ p.f0 ∧ p.f0 ≤ 40) ∧ 0 ≤ p.f1 ∧ p.f1 ≤ 40)
theorem smallB_iff (p : S40) : smallB p = true ↔ small p := by unfold smallB small; simp
theorem sp_point (p : S40) : spec_PointOk.f p.f0 p.f1 = some (smallB p) := by
  unfold spec_PointOk.f smallB
  rw [in_eq]
  simp only [Option.bind_some, in_eq]
  by_cases c : 0 ≤ p.f0 ∧ p.f0 ≤ 40
  · rw [if_pos (decide_eq_true c)]
    congr 1
    exact decide_eq_decide.mpr ⟨fun z => ⟨c, z⟩, fun z => z.2⟩
  · rw [if_neg (by simpa using c), decide_eq_false (fun z => c z.1)]
theorem im_point (p : S40) : impl_PointOk.f p.f0 p.f1 = some (smallB p) := by
  unfold impl_PointOk.f smallB
  rw [within_eq]
  simp only [Option.bind_some, within_eq]
  by_cases c : 0 ≤ p.f0 ∧ p.f0 ≤ 40
  · rw [if_pos (decide_eq_true c)]
    congr 1
    exact decide_eq_decide.mpr ⟨fun z => ⟨c, z⟩, fun z => z.2⟩
  · rw [if_neg (by simpa using c), decide_eq_false (fun z => c z.1)]
def nx (n i : Nat) : Nat := (i + 1) % n
def adjB (p : List S40) (n : Nat) : Nat → Nat → Bool
  | 0, _ => true
  | d + 1, i => !(eqP (ptA p i) (ptA p (nx n i))) && adjB p n d (i + 1)
def wantP (n i k : Nat) : Int := if k = i + 1 ∨ (i = 0 ∧ k + 1 = n) then 1 else 0
def meetAt (p : List S40) (n i k : Nat) : Int := meetP (ptA p i) (ptA p (nx n i)) (ptA p k) (ptA p (nx n k))
def pairB (p : List S40) (n i : Nat) : Nat → Nat → Bool
  | 0, _ => true
  | d + 1, k => decide (meetAt p n i k = wantP n i k) && pairB p n i d (k + 1)
def allB (p : List S40) (n : Nat) : Nat → Nat → Bool
  | 0, _ => true
  | d + 1, i => pairB p n i (n - (i + 1)) (i + 1) && allB p n d (i + 1)
def polyS (p : List S40) : Bool := decide (3 ≤ p.length ∧ p.length ≤ 10) && (p.all smallB && (adjB p p.length p.length 0 && allB p p.length p.length 0))
theorem ptA_small {p : List S40} (h : p.all smallB = true) (i : Nat) : small (ptA p i) := by
  unfold ptA
  rw [List.getD_eq_getElem?_getD]
  cases e : p[i]? with
  | none => exact ⟨by decide, by decide⟩
  | some x => exact (smallB_iff x).mp (List.all_eq_true.mp h x (List.mem_of_getElem? e))
theorem nx_lt {n i : Nat} (h : 0 < n) : nx n i < n := Nat.mod_lt _ h
theorem wrap_next (n i : Nat) (hi : i < 1000) : Int.tmod (wrap64 ((i : Int) + 1)) (n : Int) = ((nx n i : Nat) : Int) := by
  rw [wsucc i (by omega), tmodN]; rfl
theorem sp_pairs (p : List S40) (hs : p.all smallB = true) (h3 : 3 ≤ p.length) (h10 : p.length ≤ 10) (i : Nat) (hi : i < p.length) (r : Bool) (q z : Int) (hn : Ev (fun k => spec_PolygonOk.l2 k p (p.length : Int) q (wrap64 (z + 1))) r) : ∀ (d k : Nat), k + d = p.length → i < k →
    Ev (fun m => spec_PolygonOk.l3 m p (p.length : Int) (i : Int) (k : Int) q z) (pairB p p.length i d k && r) := by
  intro d
  induction d with
  | zero =>
    intro k hk hik
    refine ev_shift ?_
    simp only [spec_PolygonOk.l3, pairB, Bool.true_and]
    exact ev_neg (by omega) hn
  | succ d ih =>
    intro k hk hik
    have a1 := nx_lt (n := p.length) (i := i) (by omega)
    have a2 := nx_lt (n := p.length) (i := k) (by omega)
    have hih := ih (k + 1) (by omega) (by omega)
    refine ev_shift ?_
    simp only [spec_PolygonOk.l3]
    rw [wrap_next p.length i (by omega), wrap_next p.length k (by omega), rd_ptA, rd_ptA, rd_ptA, rd_ptA]
    refine ev_pos (by omega) (ev_pos (by omega) (ev_pos (by omega) (ev_neg (by omega) (ev_pos (by omega) (ev_pos (by omega) (ev_pos (by omega) (ev_pos (by omega) (ev_pos (by omega) (ev_pos (by omega) (ev_bind (sp_meet (ptA_small hs i) (ptA_small hs _) (ptA_small hs k) (ptA_small hs _)) ?_))))))))))
    have hj : ∀ b : Bool, b = decide (k = i + 1 ∨ (i = 0 ∧ k + 1 = p.length)) → Ev (fun m => spec_PolygonOk.j4 m p (p.length : Int) (i : Int) (k : Int) (meetP (ptA p i) (ptA p (nx p.length i)) (ptA p k) (ptA p (nx p.length k))) q z b) (pairB p p.length i (d + 1) k && r) := by
      intro b hb
      refine ev_shift ?_
      simp only [spec_PolygonOk.j4, pairB]
      rw [wsucc k (by omega)]
      have hm : meetAt p p.length i k = meetP (ptA p i) (ptA p (nx p.length i)) (ptA p k) (ptA p (nx p.length k)) := rfl
      rw [hm]
      unfold wantP
      by_cases w : k = i + 1 ∨ (i = 0 ∧ k + 1 = p.length)
      · rw [decide_eq_true w] at hb
        subst hb
        rw [if_pos w]
        refine ev_pos rfl ?_
        by_cases g : meetP (ptA p i) (ptA p (nx p.length i)) (ptA p k) (ptA p (nx p.length k)) = 1
        · rw [decide_eq_true g, Bool.true_and]
          exact ev_pos g hih
        · rw [decide_eq_false g, Bool.false_and, Bool.false_and]
          exact ev_neg g (ev_now _)
      · rw [decide_eq_false w] at hb
        subst hb
        rw [if_neg w]
        refine ev_neg (by decide) ?_
        by_cases g : meetP (ptA p i) (ptA p (nx p.length i)) (ptA p k) (ptA p (nx p.length k)) = 0
        · rw [decide_eq_true g, Bool.true_and]
          exact ev_pos g hih
        · rw [decide_eq_false g, Bool.false_and, Bool.false_and]
          exact ev_neg g (ev_now _)
    rw [wsucc i (by omega)]
    by_cases w1 : k = i + 1
    · exact ev_pos (by omega) (hj true (by rw [decide_eq_true (Or.inl w1)]))
    · refine ev_neg (by omega) ?_
      by_cases w2 : i = 0
      · refine ev_pos (by omega) ?_
        have e : ((k : Int) == wrap64 ((p.length : Int) - 1)) = decide (k = i + 1 ∨ (i = 0 ∧ k + 1 = p.length)) := by
          rw [w64 (by omega) (by omega)]
          by_cases w3 : k + 1 = p.length
          · rw [decide_eq_true (Or.inr ⟨w2, w3⟩)]
            exact beq_iff_eq.mpr (by omega)
          · rw [decide_eq_false (by omega)]
            exact beq_eq_false_iff_ne.mpr (by omega)
        exact hj _ e
      · exact ev_neg (by omega) (hj false (by rw [decide_eq_false (by omega)]))
theorem sp_all (p : List S40) (hs : p.all smallB = true) (h3 : 3 ≤ p.length) (h10 : p.length ≤ 10) : ∀ (d i : Nat), i + d = p.length → Ev (fun m => spec_PolygonOk.l2 m p (p.length : Int) (p.length : Int) (i : Int)) (allB p p.length d i) := by
  intro d
  induction d with
  | zero =>
    intro i hi
    refine ev_shift ?_
    simp only [spec_PolygonOk.l2, allB]
    exact ev_neg (by omega) (ev_now _)
  | succ d ih =>
    intro i hi
    have hih := ih (i + 1) (by omega)
    have hp := sp_pairs p hs h3 h10 i (by omega) (allB p p.length d (i + 1)) (p.length : Int) (i : Int) (by rw [wsucc i (by omega)]; exact hih) (p.length - (i + 1)) (i + 1) (by omega) (by omega)
    refine ev_shift ?_
    simp only [spec_PolygonOk.l2, allB]
    rw [wsucc i (by omega)]
    exact ev_pos (by omega) hp
theorem sp_adj (p : List S40) (hs : p.all smallB = true) (h3 : 3 ≤ p.length) (h10 : p.length ≤ 10) : ∀ (d i : Nat), i + d = p.length → Ev (fun m => spec_PolygonOk.l1 m p (p.length : Int) (p.length : Int) (i : Int)) (adjB p p.length d i && allB p p.length p.length 0) := by
  intro d
  induction d with
  | zero =>
    intro i hi
    refine ev_shift ?_
    simp only [spec_PolygonOk.l1, adjB, Bool.true_and]
    exact ev_neg (by omega) (sp_all p hs h3 h10 p.length 0 (by omega))
  | succ d ih =>
    intro i hi
    have hih := ih (i + 1) (by omega)
    have a1 := nx_lt (n := p.length) (i := i) (by omega)
    refine ev_shift ?_
    simp only [spec_PolygonOk.l1, adjB]
    rw [wrap_next p.length i (by omega), rd_ptA, rd_ptA, wsucc i (by omega)]
    refine ev_pos (by omega) (ev_pos (by omega) (ev_pos (by omega) (ev_neg (by omega) (ev_pos (by omega) (ev_pos (by omega) ?_)))))
    by_cases g : eqP (ptA p i) (ptA p (nx p.length i)) = true
    · rw [g]
      exact ev_pos g (ev_now _)
    · rw [Bool.eq_false_iff.mpr g]
      exact ev_neg g hih
theorem sp_points (p : List S40) (hl : p.length ≤ 1000) (r : Bool) (hr : p.all smallB = true → Ev (fun m => spec_PolygonOk.l1 m p (p.length : Int) (p.length : Int) 0) r) : ∀ (suf pre : List S40), p = pre ++ suf → pre.all smallB = true →
    Ev (fun m => spec_PolygonOk.l0 m p p (p.length : Int) (pre.length : Int)) (suf.all smallB && r) := by
  intro suf
  induction suf with
  | nil =>
    intro pre h ha
    obtain rfl : p = pre := by simp [h]
    refine ev_shift ?_
    simp only [spec_PolygonOk.l0, List.all_nil, Bool.true_and]
    exact ev_neg (by omega) (hr ha)
  | cons x suf ih =>
    intro pre h ha
    have hlen : p.length = pre.length + (suf.length + 1) := by rw [h]; simp
    have hat : rd_T40 p (pre.length : Int) = x := by rw [h]; exact rdp_at2 pre suf x
    refine ev_shift ?_
    simp only [spec_PolygonOk.l0]
    rw [hat, wsucc _ (by omega)]
    refine ev_pos (by omega) (ev_pos (by omega) (ev_pos (by omega) (ev_bind0 (sp_point x) ?_)))
    rw [List.all_cons]
    by_cases c : smallB x = true
    · have hn := ih (pre ++ [x]) (by simp [h]) (by rw [List.all_append, ha]; simp [c])
      rw [List.length_append, List.length_singleton] at hn
      rw [c, Bool.true_and]
      exact ev_pos rfl hn
    · have c' : smallB x = false := Bool.eq_false_iff.mpr c
      rw [c', Bool.false_and, Bool.false_and]
      exact ev_neg (by decide) (ev_now _)
theorem sp_polygon (p : List S40) : Ev (fun k => spec_PolygonOk.f k p) (polyS p) := by
  unfold spec_PolygonOk.f polyS
  refine ev_bind0 (in_eq _ _ _) ?_
  by_cases c : 3 ≤ p.length ∧ p.length ≤ 10
  · rw [decide_eq_true c, Bool.true_and]
    refine ev_pos (decide_eq_true (by omega)) ?_
    exact sp_points p (by omega) _ (fun hs => sp_adj p hs c.1 c.2 p.length 0 (by omega)) p [] rfl rfl
  · rw [decide_eq_false c, Bool.false_and]
    exact ev_neg (by rw [decide_eq_false (by omega)]; decide) (ev_now _)
/-! A corner of a polygon is on the way from its elder to its next exactly if the three are on a line. -/
theorem opp {u0 u1 v0 v1 : Int} (e : u0 * v1 = u1 * v0) (h : (0 < u0 ∧ v0 < 0) ∨ (u0 < 0 ∧ 0 < v0)) : (u1 = 0 ∧ v1 = 0) ∨ (0 < u1 ∧ v1 < 0) ∨ (u1 < 0 ∧ 0 < v1) := by
  have hs := congrArg Int.sign e
  rw [Int.sign_mul, Int.sign_mul] at hs
  have tri : ∀ n : Int, (0 < n ∧ n.sign = 1) ∨ (n = 0 ∧ n.sign = 0) ∨ (n < 0 ∧ n.sign = -1) := fun n => by
    rcases Int.lt_trichotomy n 0 with z | z | z
    · exact .inr (.inr ⟨z, Int.sign_eq_neg_one_of_neg z⟩)
    · exact .inr (.inl ⟨z, by rw [z]; rfl⟩)
    · exact .inl ⟨z, Int.sign_eq_one_of_pos z⟩
  rcases tri u0 with ⟨a, a'⟩ | ⟨a, a'⟩ | ⟨a, a'⟩ <;> rcases tri v0 with ⟨b, b'⟩ | ⟨b, b'⟩ | ⟨b, b'⟩ <;> rcases tri u1 with ⟨c, c'⟩ | ⟨c, c'⟩ | ⟨c, c'⟩ <;> rcases tri v1 with ⟨d, d'⟩ | ⟨d, d'⟩ | ⟨d, d'⟩ <;> rw [a', b', c', d'] at hs <;> first | omega | (exfalso; revert hs; decide)
theorem abs_le {u0 u1 v0 v1 : Int} (e : u0 * v1 = u1 * v0) (h0 : v0 ≠ 0) (h : u0.natAbs ≤ v0.natAbs) : u1.natAbs ≤ v1.natAbs := by
  have hs := congrArg Int.natAbs e
  rw [Int.natAbs_mul, Int.natAbs_mul] at hs
  have h1 : u0.natAbs * v1.natAbs ≤ v0.natAbs * v1.natAbs := Nat.mul_le_mul_right _ h
  rw [hs, Nat.mul_comm v0.natAbs] at h1
  exact Nat.le_of_mul_le_mul_right h1 (by omega)
theorem abs_le' {u0 u1 v0 v1 : Int} (e : u0 * v1 = u1 * v0) (h0 : u0 ≠ 0) (h : v0.natAbs ≤ u0.natAbs) : v1.natAbs ≤ u1.natAbs := by
  have hs := congrArg Int.natAbs e
  rw [Int.natAbs_mul, Int.natAbs_mul] at hs
  have h1 : u1.natAbs * v0.natAbs ≤ u1.natAbs * u0.natAbs := Nat.mul_le_mul_left _ h
  rw [← hs, Nat.mul_comm u1.natAbs] at h1
  exact Nat.le_of_mul_le_mul_left h1 (by omega)
theorem cr_uv (a x b : S40) : crI a x b = (x.f0 - a.f0) * (b.f1 - x.f1) - (x.f1 - a.f1) * (b.f0 - x.f0) := by
  unfold crI
  rw [show b.f1 - a.f1 = (b.f1 - x.f1) + (x.f1 - a.f1) by omega, show b.f0 - a.f0 = (b.f0 - x.f0) + (x.f0 - a.f0) by omega, Int.mul_add, Int.mul_add, Int.mul_comm (x.f1 - a.f1) (x.f0 - a.f0)]
  omega
theorem cr_swap (a b x : S40) : crI a b x = - crI a x b := by
  unfold crI
  rw [Int.mul_comm (b.f0 - a.f0), Int.mul_comm (b.f1 - a.f1)]
  omega
theorem cr_turn (a x b : S40) : crI x b a = crI a x b := by
  rw [cr_uv a x b]
  unfold crI
  rw [show a.f1 - x.f1 = -(x.f1 - a.f1) by omega, show a.f0 - x.f0 = -(x.f0 - a.f0) by omega, Int.mul_neg, Int.mul_neg, Int.mul_comm (b.f0 - x.f0), Int.mul_comm (b.f1 - x.f1)]
  omega
theorem on_ends (a x : S40) : onI a x x = true ∧ onI x a x = true := by
  constructor
  · unfold onI crI
    rw [Int.mul_comm (x.f0 - a.f0)]
    simp
    omega
  · unfold onI crI
    simp
    omega
theorem on_iff (a b p : S40) : onI a b p = true ↔ crI a b p = 0 ∧ (min a.f0 b.f0 ≤ p.f0 ∧ p.f0 ≤ max a.f0 b.f0) ∧ (min a.f1 b.f1 ≤ p.f1 ∧ p.f1 ≤ max a.f1 b.f1) := by
  unfold onI
  simp
/-- On a line, and neither end on the other's edge: between. -/
theorem between {a x b : S40} (h : crI a x b = 0) (n1 : onI x b a = false) (n2 : onI a x b = false) : onI a b x = true := by
  have e1 : crI x b a = 0 := by rw [cr_turn]; exact h
  have e3 : crI a b x = 0 := by rw [cr_swap, h]; rfl
  have m1 : ¬ ((min x.f0 b.f0 ≤ a.f0 ∧ a.f0 ≤ max x.f0 b.f0) ∧ (min x.f1 b.f1 ≤ a.f1 ∧ a.f1 ≤ max x.f1 b.f1)) := fun z => by
    have := (on_iff x b a).mpr ⟨e1, z⟩
    rw [n1] at this; cases this
  have m2 : ¬ ((min a.f0 x.f0 ≤ b.f0 ∧ b.f0 ≤ max a.f0 x.f0) ∧ (min a.f1 x.f1 ≤ b.f1 ∧ b.f1 ≤ max a.f1 x.f1)) := fun z => by
    have := (on_iff a x b).mpr ⟨h, z⟩
    rw [n2] at this; cases this
  rw [on_iff]
  refine ⟨e3, ?_⟩
  have uv := cr_uv a x b
  rw [h] at uv
  generalize hu0 : x.f0 - a.f0 = u0 at uv
  generalize hu1 : x.f1 - a.f1 = u1 at uv
  generalize hv0 : b.f0 - x.f0 = v0 at uv
  generalize hv1 : b.f1 - x.f1 = v1 at uv
  have e : u0 * v1 = u1 * v0 := by omega
  have e' : u1 * v0 = u0 * v1 := e.symm
  clear uv
  by_cases c0 : (0 < u0 ∧ v0 < 0) ∨ (u0 < 0 ∧ 0 < v0)
  · exfalso
    have o := opp e c0
    by_cases l : u0.natAbs ≤ v0.natAbs
    · have := abs_le e (by omega) l
      clear e e'
      exact m1 (by omega)
    · have := abs_le' e (by omega) (by omega)
      clear e e'
      exact m2 (by omega)
  · by_cases c1 : (0 < u1 ∧ v1 < 0) ∨ (u1 < 0 ∧ 0 < v1)
    · exfalso
      have o := opp e' c1
      by_cases l : u1.natAbs ≤ v1.natAbs
      · have := abs_le e' (by omega) l
        clear e e'
        exact m1 (by omega)
      · have := abs_le' e' (by omega) (by omega)
        clear e e'
        exact m2 (by omega)
    · clear e e'
      omega
theorem one_all {L : List S40} (h : oneP L = 1) {x y : S40} (hx : x ∈ L) (hy : y ∈ L) : x = y := by
  cases L with
  | nil => cases hx
  | cons z l =>
    simp only [oneP] at h
    by_cases c : l.all (fun y => eqP y z) = true
    · rw [List.all_eq_true] at c
      have hz : ∀ w ∈ z :: l, w = z := fun w hw => by
        rcases List.mem_cons.mp hw with e | e
        · exact e
        · exact (eqP_iff _ _).mp (c w e)
      rw [hz x hx, hz y hy]
    · rw [if_neg c] at h; exact absurd h (by decide)
theorem meet_one {a b c d : S40} (h : meetP a b c d = 1) : oneP (sharedS a b c d) = 1 := by
  unfold meetP at h
  by_cases g : crossP a b c d
  · rw [if_pos g] at h; exact absurd h (by decide)
  · rwa [if_neg g] at h
/-- Two edges that touch at x. -/
theorem touch_on {a x b : S40} (n1 : a ≠ x) (n2 : x ≠ b) (h : meetP a x x b = 1 ∨ meetP x b a x = 1) : crI a x b = 0 ↔ onI a b x = true := by
  constructor
  · intro hc
    have key : ∀ L : List S40, oneP L = 1 → (∀ p, p ∈ L ↔ (p = a ∧ onI x b a = true) ∨ (p = x ∧ onI x b x = true) ∨ (p = x ∧ onI a x x = true) ∨ (p = b ∧ onI a x b = true)) → onI a b x = true := by
      intro L hL hm
      have hx : x ∈ L := (hm x).mpr (.inr (.inl ⟨rfl, (on_ends b x).2⟩))
      refine between hc (Bool.eq_false_iff.mpr (fun z => ?_)) (Bool.eq_false_iff.mpr (fun z => ?_))
      · exact n1 (one_all hL ((hm a).mpr (.inl ⟨rfl, z⟩)) hx)
      · exact n2 (one_all hL hx ((hm b).mpr (.inr (.inr (.inr ⟨rfl, z⟩)))))
    have mem : ∀ p q r : S40, ∀ f : S40 → Bool, p ∈ [q, r].filter f ↔ (p = q ∧ f q = true) ∨ (p = r ∧ f r = true) := by
      intro p q r f
      rw [List.mem_filter, List.mem_cons, List.mem_cons]
      constructor
      · rintro ⟨h1 | h1 | h1, h2⟩
        · exact .inl ⟨h1, h1 ▸ h2⟩
        · exact .inr ⟨h1, h1 ▸ h2⟩
        · cases h1
      · rintro (⟨h1, h2⟩ | ⟨h1, h2⟩)
        · exact ⟨.inl h1, h1 ▸ h2⟩
        · exact ⟨.inr (.inl h1), h1 ▸ h2⟩
    rcases h with h | h
    · refine key _ (meet_one h) (fun p => ?_)
      unfold sharedS
      rw [List.mem_append, mem, mem, or_assoc]
    · refine key _ (meet_one h) (fun p => ?_)
      unfold sharedS
      rw [List.mem_append, mem, mem]
      constructor
      · rintro ((z | z) | (z | z))
        · exact .inr (.inr (.inl z))
        · exact .inr (.inr (.inr z))
        · exact .inl z
        · exact .inr (.inl z)
      · rintro (z | z | z | z)
        · exact .inr (.inl z)
        · exact .inr (.inr z)
        · exact .inl (.inl z)
        · exact .inl (.inr z)
  · intro h
    have := ((on_iff a b x).mp h).1
    rw [cr_swap] at this
    omega
/-! The corners that stay. -/
def pv (n i : Nat) : Nat := (i + n - 1) % n
theorem pv_lt {n i : Nat} (h : 0 < n) : pv n i < n := Nat.mod_lt _ h
theorem pairB_get {p : List S40} {n i : Nat} : ∀ {d k : Nat}, pairB p n i d k = true → ∀ j, k ≤ j → j < k + d → meetAt p n i j = wantP n i j := by
  intro d
  induction d with
  | zero => intro k _ j h1 h2; omega
  | succ d ih =>
    intro k h j h1 h2
    simp only [pairB, Bool.and_eq_true] at h
    by_cases e : j = k
    · subst e; exact of_decide_eq_true h.1
    · exact ih h.2 j (by omega) (by omega)
theorem allB_get {p : List S40} {n : Nat} : ∀ {d i : Nat}, allB p n d i = true → ∀ j k, i ≤ j → j < i + d → j < k → k < n → meetAt p n j k = wantP n j k := by
  intro d
  induction d with
  | zero => intro i _ j k h1 h2; omega
  | succ d ih =>
    intro i h j k h1 h2 h3 h4
    simp only [allB, Bool.and_eq_true] at h
    by_cases e : j = i
    · subst e; exact pairB_get h.1 k (by omega) (by omega)
    · exact ih h.2 j k (by omega) (by omega) h3 h4
theorem adjB_get {p : List S40} {n : Nat} : ∀ {d i : Nat}, adjB p n d i = true → ∀ j, i ≤ j → j < i + d → ptA p j ≠ ptA p (nx n j) := by
  intro d
  induction d with
  | zero => intro i _ j h1 h2; omega
  | succ d ih =>
    intro i h j h1 h2
    simp only [adjB, Bool.and_eq_true] at h
    by_cases e : j = i
    · subst e
      intro z
      have := (eqP_iff _ _).mpr z
      rw [this] at h
      exact absurd h.1 (by decide)
    · exact ih h.2 j (by omega) (by omega)
theorem poly_parts {p : List S40} (h : polyS p = true) : (3 ≤ p.length ∧ p.length ≤ 10) ∧ p.all smallB = true ∧ adjB p p.length p.length 0 = true ∧ allB p p.length p.length 0 = true := by
  unfold polyS at h
  rw [Bool.and_eq_true, Bool.and_eq_true, Bool.and_eq_true] at h
  exact ⟨of_decide_eq_true h.1, h.2.1, h.2.2.1, h.2.2.2⟩
theorem nx_pv {n i : Nat} (h : 3 ≤ n) (hi : i < n) : nx n (pv n i) = i := by
  unfold nx pv
  by_cases e : i = 0
  · subst e
    rw [Nat.zero_add, Nat.mod_eq_of_lt (show n - 1 < n by omega), show n - 1 + 1 = n by omega, Nat.mod_self]
  · rw [show i + n - 1 = (i - 1) + n by omega, Nat.add_mod_right, Nat.mod_eq_of_lt (show i - 1 < n by omega), show i - 1 + 1 = i by omega, Nat.mod_eq_of_lt hi]
theorem corner_on {p : List S40} (h : polyS p = true) (i : Nat) (hi : i < p.length) : crI (ptA p (pv p.length i)) (ptA p i) (ptA p (nx p.length i)) = 0 ↔ onI (ptA p (pv p.length i)) (ptA p (nx p.length i)) (ptA p i) = true := by
  obtain ⟨⟨h3, h10⟩, _, hadj, hall⟩ := poly_parts h
  have n2 := adjB_get hadj i (by omega) (by omega)
  have n1 := adjB_get hadj (pv p.length i) (by omega) (by have := pv_lt (n := p.length) (i := i) (by omega); omega)
  have e1 := nx_pv h3 hi
  rw [e1] at n1
  refine touch_on n1 n2 ?_
  by_cases e : i = 0
  · subst e
    right
    have hm := allB_get hall 0 (p.length - 1) (by omega) (by omega) (by omega) (by omega)
    have hw : wantP p.length 0 (p.length - 1) = 1 := by unfold wantP; rw [if_pos (.inr ⟨rfl, by omega⟩)]
    have hp : pv p.length 0 = p.length - 1 := by unfold pv; rw [Nat.zero_add, Nat.mod_eq_of_lt (by omega)]
    have hn : nx p.length (p.length - 1) = 0 := by rw [← hp]; exact e1
    rw [hw] at hm
    unfold meetAt at hm
    rw [hn] at hm
    rw [hp]
    exact hm
  · left
    have hp : pv p.length i = i - 1 := by unfold pv; rw [show i + p.length - 1 = (i - 1) + p.length by omega, Nat.add_mod_right, Nat.mod_eq_of_lt (by omega)]
    have hm := allB_get hall (i - 1) i (by omega) (by omega) (by omega) hi
    have hw : wantP p.length (i - 1) i = 1 := by unfold wantP; rw [if_pos (.inl (by omega))]
    rw [hw] at hm
    unfold meetAt at hm
    rw [← hp, e1] at hm
    exact hm
/-- The corners that stay, from i on. -/
def stay (p : List S40) : Nat → Nat → List S40
  | 0, _ => []
  | d + 1, i => if crI (ptA p (pv p.length i)) (ptA p i) (ptA p (nx p.length i)) = 0 then stay p d (i + 1) else ptA p i :: stay p d (i + 1)
theorem stay_len (p : List S40) : ∀ d i, (stay p d i).length ≤ d := by
  intro d
  induction d with
  | zero => intro i; exact Nat.le_refl _
  | succ d ih => intro i; simp only [stay]; have := ih (i + 1); split <;> simp <;> omega
theorem wrap_prev (n i : Nat) (hi : i < 1000) (hn : n < 1000) (h1 : 1 ≤ n) : Int.tmod (wrap64 ((wrap64 ((i : Int) + (n : Int))) - 1)) (n : Int) = ((pv n i : Nat) : Int) := by
  rw [w64 (n := (i : Int) + (n : Int)) (by omega) (by omega), w64 (by omega) (by omega), show (i : Int) + (n : Int) - 1 = ((i + n - 1 : Nat) : Int) by omega, tmodN]
  rfl
theorem sp_straight_from (p : List S40) (h : p.all smallB = true) (h3 : 3 ≤ p.length) (h10 : p.length ≤ 10) : ∀ (d i : Nat) (out : List S40), i + d = p.length → out.length ≤ i → Ev (fun k => spec_l03Straight.l0 k p out (p.length : Int) p (p.length : Int) (i : Int)) (out ++ stay p d i) := by
  intro d
  induction d with
  | zero =>
    intro i out hi ho
    refine ev_shift ?_
    simp only [spec_l03Straight.l0, stay, List.append_nil]
    exact ev_neg (by omega) (ev_now _)
  | succ d ih =>
    intro i out hi ho
    have a1 := nx_lt (n := p.length) (i := i) (by omega)
    have a2 := pv_lt (n := p.length) (i := i) (by omega)
    refine ev_shift ?_
    simp only [spec_l03Straight.l0, stay]
    rw [wrap_next p.length i (by omega), wrap_prev p.length i (by omega) (by omega) (by omega), rd_ptA, rd_ptA, rd_ptA, wsucc i (by omega)]
    refine ev_pos (by omega) (ev_pos (by omega) (ev_pos (by omega) (ev_neg (by omega) (ev_pos (by omega) (ev_pos (by omega) (ev_pos (by omega) (ev_pos (by omega) (ev_bind0 (sp_cross (ptA_small h _) (ptA_small h _) (ptA_small h _)) ?_))))))))
    by_cases c : crI (ptA p (pv p.length i)) (ptA p i) (ptA p (nx p.length i)) = 0
    · rw [if_pos c]
      exact ev_pos c (ih (i + 1) out (by omega) (by omega))
    · rw [if_neg c]
      have hn := ih (i + 1) (out ++ [ptA p i]) (by omega) (by simp; omega)
      refine ev_neg c (ev_pos (by omega) ?_)
      have e : (⟨(ptA p i).f0, (ptA p i).f1⟩ : S40) = ptA p i := rfl
      rw [e]
      simpa using hn
theorem sp_straight {p : List S40} (h : polyS p = true) : Ev (fun k => spec_l03Straight.f k p) (stay p p.length 0) := by
  obtain ⟨⟨h3, h10⟩, hs, _, _⟩ := poly_parts h
  unfold spec_l03Straight.f
  exact sp_straight_from p hs h3 h10 p.length 0 [] (by omega) (Nat.le_refl _)
theorem im_straight_from (p : List S40) (hp : polyS p = true) (h : p.all smallB = true) (h3 : 3 ≤ p.length) (h10 : p.length ≤ 10) : ∀ (d i : Nat) (out : List S40), i + d = p.length → out.length ≤ i → Ev (fun k => impl_straightened.l0 k p (p.length : Int) out p (p.length : Int) (i : Int)) (out ++ stay p d i) := by
  intro d
  induction d with
  | zero =>
    intro i out hi ho
    refine ev_shift ?_
    simp only [impl_straightened.l0, stay, List.append_nil]
    exact ev_neg (by omega) (ev_now _)
  | succ d ih =>
    intro i out hi ho
    have a1 := nx_lt (n := p.length) (i := i) (by omega)
    have a2 := pv_lt (n := p.length) (i := i) (by omega)
    have hc := corner_on hp i (by omega)
    refine ev_shift ?_
    simp only [impl_straightened.l0, stay]
    rw [wrap_next p.length i (by omega), wrap_prev p.length i (by omega) (by omega) (by omega), rd_ptA, rd_ptA, rd_ptA, wsucc i (by omega)]
    refine ev_pos (by omega) (ev_pos (by omega) (ev_pos (by omega) (ev_neg (by omega) (ev_pos (by omega) (ev_pos (by omega) (ev_pos (by omega) (ev_pos (by omega) (ev_bind0 (im_on (ptA_small h _) (ptA_small h _) (ptA_small h _)) ?_))))))))
    by_cases c : crI (ptA p (pv p.length i)) (ptA p i) (ptA p (nx p.length i)) = 0
    · rw [if_pos c]
      exact ev_pos (hc.mp c) (ih (i + 1) out (by omega) (by omega))
    · rw [if_neg c]
      have hn := ih (i + 1) (out ++ [ptA p i]) (by omega) (by simp; omega)
      refine ev_neg (fun z => c (hc.mpr z)) (ev_pos (by omega) ?_)
      have e : (⟨(ptA p i).f0, (ptA p i).f1⟩ : S40) = ptA p i := rfl
      rw [e]
      simpa using hn
theorem im_straight {p : List S40} (h : polyS p = true) : Ev (fun k => impl_straightened.f k p) (stay p p.length 0) := by
  obtain ⟨⟨h3, h10⟩, hs, _, _⟩ := poly_parts h
  unfold impl_straightened.f
  exact im_straight_from p h hs h3 h10 p.length 0 [] (by omega) (Nat.le_refl _)
/-! A polygon keeps a corner. -/
def keyP (p : S40) : Int := p.f0 * 41 + p.f1
theorem top_of (f : Nat → Int) : ∀ n, 0 < n → ∃ i, i < n ∧ ∀ j, j < n → f j ≤ f i := by
  intro n
  induction n with
  | zero => intro h; omega
  | succ n ih =>
    intro _
    by_cases c : n = 0
    · subst c
      exact ⟨0, by omega, fun j hj => by rw [show j = 0 by omega]; omega⟩
    · obtain ⟨i, h1, h2⟩ := ih (by omega)
      by_cases g : f n ≤ f i
      · exact ⟨i, by omega, fun j hj => by
          by_cases e : j = n
          · rw [e]; exact g
          · exact h2 j (by omega)⟩
      · exact ⟨n, by omega, fun j hj => by
          by_cases e : j = n
          · rw [e]; omega
          · have := h2 j (by omega); omega⟩
theorem key_lt {a x : S40} (ha : small a) (hx : small x) (h : keyP a ≤ keyP x) (hn : a ≠ x) : a.f0 < x.f0 ∨ (a.f0 = x.f0 ∧ a.f1 < x.f1) := by
  obtain ⟨a1, a2⟩ := ha
  obtain ⟨x1, x2⟩ := hx
  unfold keyP at h
  have : ¬ (a.f0 = x.f0 ∧ a.f1 = x.f1) := fun z => hn (by cases a; cases x; simp only [S40.mk.injEq]; exact z)
  omega
theorem stay_mem (p : S40 → Prop) (q : List S40) : ∀ (d i j : Nat), i ≤ j → j < i + d → crI (ptA q (pv q.length j)) (ptA q j) (ptA q (nx q.length j)) ≠ 0 → ptA q j ∈ stay q d i := by
  intro d
  induction d with
  | zero => intro i j h1 h2 _; omega
  | succ d ih =>
    intro i j h1 h2 hc
    simp only [stay]
    by_cases e : j = i
    · subst e
      rw [if_neg hc]; simp
    · have := ih (i + 1) j (by omega) (by omega) hc
      split
      · exact this
      · simp [this]
theorem stay_ne {p : List S40} (h : polyS p = true) : stay p p.length 0 ≠ [] := by
  obtain ⟨⟨h3, h10⟩, hs, hadj, _⟩ := poly_parts h
  obtain ⟨i, hi, htop⟩ := top_of (fun i => keyP (ptA p i)) p.length (by omega)
  have hon := corner_on h i hi
  have n2 := adjB_get hadj i (by omega) (by omega)
  have hpl := pv_lt (n := p.length) (i := i) (by omega)
  have hnl := nx_lt (n := p.length) (i := i) (by omega)
  have n1 := adjB_get hadj (pv p.length i) (by omega) (by omega)
  rw [nx_pv h3 hi] at n1
  have t1 := htop _ hpl
  have t2 := htop _ hnl
  have sa := ptA_small hs (pv p.length i)
  have sx := ptA_small hs i
  have sb := ptA_small hs (nx p.length i)
  have hc : crI (ptA p (pv p.length i)) (ptA p i) (ptA p (nx p.length i)) ≠ 0 := by
    intro z
    have o := (on_iff _ _ _).mp (hon.mp z)
    rw [cr_uv] at z
    generalize ptA p (pv p.length i) = a at *
    generalize ptA p i = x at *
    generalize ptA p (nx p.length i) = b at *
    have k1 := key_lt sa sx t1 n1
    have k2 := key_lt sb sx t2 (fun e => n2 e.symm)
    obtain ⟨_, o1, o2⟩ := o
    clear hon t1 t2 n1 n2 htop hadj hs h sa sx sb
    by_cases c1 : a.f0 = x.f0
    · have e0 : x.f0 - a.f0 = 0 := by omega
      rw [e0, Int.zero_mul, Int.zero_sub] at z
      have z' : (x.f1 - a.f1) * (b.f0 - x.f0) = 0 := by omega
      rcases Int.mul_eq_zero.mp z' with g | g
      · clear z z'; omega
      · clear z z'; omega
    · have c2 : b.f0 = x.f0 := by clear z; omega
      have e0 : b.f0 - x.f0 = 0 := by clear z; omega
      rw [e0, Int.mul_zero, Int.sub_zero] at z
      rcases Int.mul_eq_zero.mp z with g | g
      · clear z; omega
      · clear z; omega
  intro e
  have := stay_mem (fun _ => True) p p.length 0 i (by omega) (by omega) hc
  rw [e] at this
  cases this
/-! Equal but for the start and the turn. -/
instance : DecidableEq S40 := fun a b => decidable_of_iff (eqP a b = true) (eqP_iff a b)
def rotP (b : List S40) (k : Nat) : List S40 := b.drop k ++ b.take k
def turnP : List S40 → List S40
  | [] => []
  | x :: l => x :: l.reverse
theorem rotP_len (b : List S40) (k : Nat) (h : k ≤ b.length) : (rotP b k).length = b.length := by
  unfold rotP
  rw [List.length_append, List.length_drop, List.length_take]
  omega
theorem turnP_len (b : List S40) : (turnP b).length = b.length := by cases b <;> simp [turnP]
theorem turn_rot (b : List S40) (k : Nat) (h : k < b.length) : ∃ m, m < b.length ∧ turnP (rotP b k) = rotP (turnP b) m ∧ (m + k) % b.length = 0 := by
  cases b with
  | nil => simp at h
  | cons x0 t =>
    by_cases e : k = 0
    · subst e
      exact ⟨0, h, by simp [rotP], by simp⟩
    · rw [List.length_cons] at h
      obtain ⟨t1, y, r, ht, hl⟩ : ∃ t1 y r, t = t1 ++ y :: r ∧ t1.length = k - 1 := by
        refine ⟨t.take (k - 1), t[k - 1]'(by omega), t.drop k, ?_, by rw [List.length_take]; omega⟩
        have := List.take_append_drop (k - 1) t
        rw [List.drop_eq_getElem_cons (show k - 1 < t.length by omega), show k - 1 + 1 = k by omega] at this
        exact this.symm
      subst ht
      have hlen : (x0 :: (t1 ++ y :: r)).length = k + 1 + r.length := by simp; omega
      refine ⟨1 + r.length, by rw [hlen]; omega, ?_, ?_⟩
      · have hr : rotP (x0 :: (t1 ++ y :: r)) k = y :: (r ++ x0 :: t1) := by
          unfold rotP
          have e1 : x0 :: (t1 ++ y :: r) = (x0 :: t1) ++ y :: r := rfl
          have e2 : (x0 :: t1).length = k := by simp; omega
          rw [e1, ← e2, List.drop_left, List.take_left]
          rfl
        have hq : turnP (x0 :: (t1 ++ y :: r)) = (x0 :: r.reverse) ++ y :: t1.reverse := by
          simp [turnP]
        rw [hr, hq]
        unfold rotP
        have e3 : (x0 :: r.reverse).length = 1 + r.length := by simp; omega
        rw [← e3, List.drop_left, List.take_left]
        simp [turnP]
      · rw [hlen, show 1 + r.length + k = k + 1 + r.length by omega, Nat.mod_self]
def sameS (a b : List S40) : Nat → Nat → Bool
  | 0, _ => false
  | d + 1, k => decide (a = rotP b k) || (decide (a = turnP (rotP b k)) || sameS a b d (k + 1))
def rotI (a b : List S40) : Nat → Nat → Bool
  | 0, _ => false
  | d + 1, k => decide (a = rotP b k) || rotI a b d (k + 1)
theorem sameS_iff (a b : List S40) : ∀ d k, sameS a b d k = true ↔ ∃ j, k ≤ j ∧ j < k + d ∧ (a = rotP b j ∨ a = turnP (rotP b j)) := by
  intro d
  induction d with
  | zero => intro k; simp only [sameS]; constructor
            · intro h; cases h
            · rintro ⟨j, h1, h2, _⟩; omega
  | succ d ih =>
    intro k
    simp only [sameS, Bool.or_eq_true, decide_eq_true_eq]
    rw [ih]
    constructor
    · rintro (h | h | ⟨j, h1, h2, h3⟩)
      · exact ⟨k, by omega, by omega, .inl h⟩
      · exact ⟨k, by omega, by omega, .inr h⟩
      · exact ⟨j, by omega, by omega, h3⟩
    · rintro ⟨j, h1, h2, h3⟩
      by_cases e : j = k
      · subst e
        rcases h3 with h | h
        · exact .inl h
        · exact .inr (.inl h)
      · exact .inr (.inr ⟨j, by omega, by omega, h3⟩)
theorem rotI_iff (a b : List S40) : ∀ d k, rotI a b d k = true ↔ ∃ j, k ≤ j ∧ j < k + d ∧ a = rotP b j := by
  intro d
  induction d with
  | zero => intro k; simp only [rotI]; constructor
            · intro h; cases h
            · rintro ⟨j, h1, h2, _⟩; omega
  | succ d ih =>
    intro k
    simp only [rotI, Bool.or_eq_true, decide_eq_true_eq]
    rw [ih]
    constructor
    · rintro (h | ⟨j, h1, h2, h3⟩)
      · exact ⟨k, by omega, by omega, h⟩
      · exact ⟨j, by omega, by omega, h3⟩
    · rintro ⟨j, h1, h2, h3⟩
      by_cases e : j = k
      · subst e; exact .inl h3
      · exact .inr ⟨j, by omega, by omega, h3⟩
/-- The reference's order and the program's. -/
theorem same_eq (a b : List S40) : sameS a b b.length 0 = (rotI a b b.length 0 || rotI a (turnP b) b.length 0) := by
  rw [Bool.eq_iff_iff, Bool.or_eq_true, sameS_iff, rotI_iff, rotI_iff]
  constructor
  · rintro ⟨j, h1, h2, h | h⟩
    · exact .inl ⟨j, h1, h2, h⟩
    · obtain ⟨m, m1, m2, _⟩ := turn_rot b j (by omega)
      exact .inr ⟨m, by omega, by omega, by rw [← m2]; exact h⟩
  · rintro (⟨j, h1, h2, h⟩ | ⟨j, h1, h2, h⟩)
    · exact ⟨j, h1, h2, .inl h⟩
    · have hj : j < b.length := by omega
      by_cases e : j = 0
      · subst e
        exact ⟨0, by omega, by omega, .inr (by simpa [rotP] using h)⟩
      · obtain ⟨m, m1, m2, m3⟩ := turn_rot b (b.length - j) (by omega)
        have em : m = j := by
          have h4 : m + (b.length - j) = b.length := by
            by_cases q : m + (b.length - j) < b.length
            · rw [Nat.mod_eq_of_lt q] at m3; omega
            · rw [show m + (b.length - j) = (m + (b.length - j) - b.length) + b.length by omega, Nat.add_mod_right, Nat.mod_eq_of_lt (by omega)] at m3
              omega
          omega
        subst em
        exact ⟨b.length - m, by omega, by omega, .inr (by rw [m2]; exact h)⟩
theorem sp_start (b : List S40) (k : Nat) (hk : k ≤ b.length) (hb : b.length ≤ 1000) : spec_l03Start.f b (k : Int) = some (rotP b k) := by
  unfold spec_l03Start.f rotP
  simp only [Option.bind_some, Int.toNat_natCast, List.nil_append, List.length_nil]
  rw [if_pos (by omega), if_pos (by omega), if_pos (by simp; omega), if_pos (by simp; omega)]
theorem sp_equal (a b : List S40) (ha : a.length ≤ 1000) : Ev (fun k => spec_l03Equal.f k a b) (decide (a = b)) := by
  unfold spec_l03Equal.f
  by_cases hl : a.length = b.length
  · refine ev_pos (by omega) ?_
    have loop : ∀ (sa pa sb pb : List S40), a = pa ++ sa → b = pb ++ sb → pa.length = pb.length → Ev (fun k => spec_l03Equal.l0 k b a (a.length : Int) (pa.length : Int)) (decide (sa = sb)) := by
      intro sa
      induction sa with
      | nil =>
        intro pa sb pb h1 h2 h3
        have e : sb = [] := by
          have := congrArg List.length h1
          have := congrArg List.length h2
          simp at *
          exact List.length_eq_zero_iff.mp (by omega)
        subst e
        have : a.length = pa.length := by rw [h1]; simp
        refine ev_shift ?_
        simp only [spec_l03Equal.l0]
        exact ev_neg (by omega) (ev_now _)
      | cons x sa ih =>
        intro pa sb pb h1 h2 h3
        cases sb with
        | nil =>
          have := congrArg List.length h1
          have := congrArg List.length h2
          simp at *
          omega
        | cons y sb =>
          have hla : a.length = pa.length + (sa.length + 1) := by rw [h1]; simp
          have r1 : rd_T40 a (pa.length : Int) = x := by rw [h1]; exact rdp_at2 pa sa x
          have r2 : rd_T40 b (pa.length : Int) = y := by rw [h2, h3]; exact rdp_at2 pb sb y
          have hn := ih (pa ++ [x]) sb (pb ++ [y]) (by simp [h1]) (by simp [h2]) (by simp [h3])
          rw [List.length_append, List.length_singleton] at hn
          refine ev_shift ?_
          simp only [spec_l03Equal.l0]
          rw [r1, r2, wsucc _ (by omega)]
          refine ev_pos (by omega) (ev_pos (by omega) (ev_pos (by omega) (ev_pos (by omega) ?_)))
          by_cases c : x = y
          · subst c
            refine ev_neg (by simp) (ev_eq hn ?_)
            exact decide_eq_decide.mpr ⟨fun z => by rw [z], fun z => (List.cons.inj z).2⟩
          · have c' : eqP x y = false := Bool.eq_false_iff.mpr (fun z => c ((eqP_iff _ _).mp z))
            unfold eqP at c'
            rw [Bool.and_eq_false_iff] at c'
            refine ev_pos (by rcases c' with z | z <;> simp [z]) (ev_eq (ev_now _) ?_)
            exact (decide_eq_false (fun z => c (List.cons.inj z).1)).symm
    exact loop a [] b [] rfl rfl rfl
  · exact ev_neg (by omega) (ev_eq (ev_now _) (decide_eq_false (fun e => hl (by rw [e]))).symm)
theorem sp_turn (b : List S40) (hb : b.length ≤ 1000) (h0 : b ≠ []) : Ev (fun k => spec_l03Turn.f k b) (turnP b) := by
  cases b with
  | nil => exact absurd rfl h0
  | cons x0 t =>
    unfold spec_l03Turn.f
    rw [List.length_cons] at hb
    have hz : rd_T40 (x0 :: t) 0 = x0 := rdp_at2 [] t x0
    have loop : ∀ (n : Nat) (pre suf acc : List S40), t = pre ++ suf → pre.length = n → acc.length ≤ 1 + suf.length → Ev (fun k => spec_l03Turn.l0 k (x0 :: t) acc (n : Int)) (acc ++ pre.reverse) := by
      intro n
      induction n with
      | zero =>
        intro pre suf acc h hp ha
        have : pre = [] := List.length_eq_zero_iff.mp hp
        subst this
        refine ev_shift ?_
        simp only [spec_l03Turn.l0]
        exact ev_neg (by decide) (ev_eq (ev_now _) (by simp))
      | succ n ih =>
        intro pre suf acc h hp ha
        obtain ⟨pre', y, rfl⟩ : ∃ p' y, pre = p' ++ [y] := ⟨pre.dropLast, pre.getLast (by intro e; rw [e] at hp; simp at hp), (List.dropLast_concat_getLast _).symm⟩
        have hp' : pre'.length = n := by simpa using hp
        have hr : rd_T40 (x0 :: t) ((n + 1 : Nat) : Int) = y := by
          have := rdp_at2 (x0 :: pre') suf y
          rw [List.length_cons, hp'] at this
          rw [h]
          simpa using this
        have hlt : n + 1 < (x0 :: t).length := by rw [h]; simp; omega
        have e1 : wrap64 (((n + 1 : Nat) : Int) - 1) = (n : Int) := by rw [List.length_cons] at hlt; rw [w64 (by omega) (by omega)]; omega
        have hn := ih pre' (y :: suf) (acc ++ [y]) (by simp [h]) hp' (by simp; omega)
        have hsl : suf.length ≤ 1000 := by rw [h] at hb; simp at hb; omega
        refine ev_shift ?_
        simp only [spec_l03Turn.l0]
        rw [hr, e1]
        refine ev_pos (by omega) (ev_pos (by omega) (ev_pos (by omega) (ev_pos (by omega) ?_)))
        have e : (⟨y.f0, y.f1⟩ : S40) = y := rfl
        rw [e]
        refine ev_eq hn ?_
        simp
    have e2 : wrap64 (((x0 :: t).length : Int) - 1) = (t.length : Int) := by rw [List.length_cons, w64 (by omega) (by omega)]; omega
    refine ev_pos (by simp) ?_
    rw [hz, e2]
    have := loop t.length t [] [⟨x0.f0, x0.f1⟩] (by simp) rfl (by simp)
    exact this
theorem sp_same_from (a b : List S40) (ha : a.length ≤ 1000) (hb : b.length ≤ 1000) : ∀ (d k : Nat), k + d = b.length → Ev (fun q => spec_SamePolygon.l0 q a b (b.length : Int) (k : Int)) (sameS a b d k) := by
  intro d
  induction d with
  | zero =>
    intro k h
    refine ev_shift ?_
    simp only [spec_SamePolygon.l0, sameS]
    exact ev_neg (by omega) (ev_now _)
  | succ d ih =>
    intro k h
    have hn := ih (k + 1) (by omega)
    have hl := rotP_len b k (by omega)
    refine ev_shift ?_
    simp only [spec_SamePolygon.l0, sameS]
    rw [wsucc k (by omega)]
    refine ev_pos (by omega) (ev_bind0 (sp_start b k (by omega) hb) (ev_bind (sp_equal a (rotP b k) ha) ?_))
    by_cases c1 : a = rotP b k
    · rw [decide_eq_true c1, Bool.true_or]
      exact ev_pos rfl (ev_now _)
    · rw [decide_eq_false c1, Bool.false_or]
      refine ev_neg (by decide) (ev_bind (sp_turn (rotP b k) (by omega) (fun e => by rw [e] at hl; simp at hl; omega)) (ev_bind (sp_equal a _ ha) ?_))
      by_cases c2 : a = turnP (rotP b k)
      · rw [decide_eq_true c2, Bool.true_or]
        exact ev_pos rfl (ev_now _)
      · rw [decide_eq_false c2, Bool.false_or]
        exact ev_neg (by decide) hn
/-- What both answer. -/
def samePoly (p q : List S40) : Bool := polyS p && (polyS q && sameS (stay p p.length 0) (stay q q.length 0) (stay q q.length 0).length 0)
theorem sp_same (p q : List S40) : Ev (fun k => spec_SamePolygon.f k p q) (samePoly p q) := by
  unfold spec_SamePolygon.f samePoly
  refine ev_bind (sp_polygon p) ?_
  by_cases c : polyS p = true
  · refine ev_pos c (ev_bind (sp_polygon q) (ev_shift ?_))
    simp only [spec_SamePolygon.j0]
    rw [c, Bool.true_and]
    by_cases d : polyS q = true
    · rw [d, Bool.true_and]
      have l1 := stay_len p p.length 0
      have l2 := stay_len q q.length 0
      have := (poly_parts c).1
      have := (poly_parts d).1
      exact ev_neg (by decide) (ev_bind (sp_straight c) (ev_bind (sp_straight d) (sp_same_from _ _ (by omega) (by omega) _ 0 (by omega))))
    · have d' : polyS q = false := Bool.eq_false_iff.mpr d
      rw [d', Bool.false_and]
      exact ev_pos (by decide) (ev_now _)
  · have c' : polyS p = false := Bool.eq_false_iff.mpr c
    rw [c', Bool.false_and]
    refine ev_neg (by decide) (ev_shift ?_)
    simp only [spec_SamePolygon.j0]
    exact ev_pos (by simp) (ev_now _)
/-! The program's side. -/
theorem im_points_from (p : List S40) (hl : p.length ≤ 1000) : ∀ (suf pre : List S40), p = pre ++ suf → Ev (fun m => impl_arePoints.l0 m p (p.length : Int) (pre.length : Int)) (suf.all smallB) := by
  intro suf
  induction suf with
  | nil =>
    intro pre h
    obtain rfl : p = pre := by simp [h]
    refine ev_shift ?_
    simp only [impl_arePoints.l0]
    exact ev_neg (by omega) (ev_now _)
  | cons x suf ih =>
    intro pre h
    have hlen : p.length = pre.length + (suf.length + 1) := by rw [h]; simp
    have hat : rd_T40 p (pre.length : Int) = x := by rw [h]; exact rdp_at2 pre suf x
    have hn := ih (pre ++ [x]) (by simp [h])
    rw [List.length_append, List.length_singleton] at hn
    refine ev_shift ?_
    simp only [impl_arePoints.l0]
    rw [hat, wsucc _ (by omega)]
    refine ev_pos (by omega) (ev_pos (by omega) (ev_pos (by omega) (ev_bind0 (im_point x) ?_)))
    rw [List.all_cons]
    by_cases c : smallB x = true
    · rw [c, Bool.true_and]
      exact ev_pos rfl hn
    · have c' : smallB x = false := Bool.eq_false_iff.mpr c
      rw [c', Bool.false_and]
      exact ev_neg (by decide) (ev_now _)
def pairI (p : List S40) (n i : Nat) : Nat → Nat → Bool
  | 0, _ => true
  | d + 1, k => !(eqP (ptA p i) (ptA p (i + 1))) && (!(eqP (ptA p k) (ptA p (nx n k))) && (decide (meetP (ptA p i) (ptA p (i + 1)) (ptA p k) (ptA p (nx n k)) = wantP n i k) && pairI p n i d (k + 1)))
def allI (p : List S40) (n : Nat) : Nat → Nat → Bool
  | 0, _ => true
  | d + 1, i => pairI p n i (n - (i + 1)) (i + 1) && allI p n d (i + 1)
theorem eqP_is (a b : S40) : (a.f0 == b.f0 && a.f1 == b.f1) = eqP a b := rfl
theorem im_pairs (p : List S40) (hs : p.all smallB = true) (h3 : 3 ≤ p.length) (i : Nat) : ∀ (d k : Nat), k + d = p.length → Ev (fun m => impl_PolygonOk.l1 m p i k) (pairI p p.length i d k) := by
  intro d
  induction d with
  | zero =>
    intro k hk
    refine ev_shift ?_
    simp only [impl_PolygonOk.l1, pairI]
    exact ev_neg (by omega) (ev_now _)
  | succ d ih =>
    intro k hk
    have hih := ih (k + 1) (by omega)
    refine ev_shift ?_
    simp only [impl_PolygonOk.l1, pairI]
    rw [rd_ptA, rd_ptA, rd_ptA, rd_ptA, eqP_is, eqP_is]
    have en : ptA p ((k + 1) % p.length) = ptA p (nx p.length k) := rfl
    rw [en]
    refine ev_pos (by omega) ?_
    by_cases c1 : eqP (ptA p i) (ptA p (i + 1)) = true
    · rw [c1]
      exact ev_pos rfl (ev_now _)
    · have c1' : eqP (ptA p i) (ptA p (i + 1)) = false := Bool.eq_false_iff.mpr c1
      rw [c1']
      refine ev_neg (by decide) ?_
      by_cases c2 : eqP (ptA p k) (ptA p (nx p.length k)) = true
      · rw [c2]
        exact ev_pos rfl (ev_now _)
      · have c2' : eqP (ptA p k) (ptA p (nx p.length k)) = false := Bool.eq_false_iff.mpr c2
        rw [c2']
        refine ev_neg (by decide) (ev_bind (im_meet (ptA_small hs _) (ptA_small hs _) (ptA_small hs _) (ptA_small hs _)) ?_)
        have hw : (if k = i + 1 ∨ (i = 0 ∧ k + 1 = p.length) then (1 : Int) else 0) = wantP p.length i k := rfl
        rw [hw]
        by_cases c3 : meetP (ptA p i) (ptA p (i + 1)) (ptA p k) (ptA p (nx p.length k)) = wantP p.length i k
        · rw [decide_eq_true c3]
          simpa using ev_pos c3 hih
        · rw [decide_eq_false c3]
          simpa using ev_neg c3 (ev_now _)
theorem im_all (p : List S40) (hs : p.all smallB = true) (h3 : 3 ≤ p.length) : ∀ (d i : Nat), i + d = p.length → Ev (fun m => impl_PolygonOk.l0 m p i) (allI p p.length d i) := by
  intro d
  induction d with
  | zero =>
    intro i hi
    refine ev_shift ?_
    simp only [impl_PolygonOk.l0, allI]
    exact ev_neg (by omega) (ev_now _)
  | succ d ih =>
    intro i hi
    have hih := ih (i + 1) (by omega)
    refine ev_shift ?_
    simp only [impl_PolygonOk.l0, allI]
    refine ev_pos (by omega) (ev_bind (im_pairs p hs h3 i (p.length - (i + 1)) (i + 1) (by omega)) ?_)
    by_cases c : pairI p p.length i (p.length - (i + 1)) (i + 1) = true
    · rw [c, Bool.true_and]
      exact ev_pos rfl hih
    · have c' := Bool.eq_false_iff.mpr c
      rw [c', Bool.false_and]
      exact ev_neg (by decide) (ev_now _)
theorem pairI_iff (p : List S40) (n i : Nat) : ∀ (d k : Nat), pairI p n i d k = true ↔ ∀ j, k ≤ j → j < k + d → ptA p i ≠ ptA p (i + 1) ∧ ptA p j ≠ ptA p (nx n j) ∧ meetP (ptA p i) (ptA p (i + 1)) (ptA p j) (ptA p (nx n j)) = wantP n i j := by
  intro d
  induction d with
  | zero => intro k; exact ⟨fun _ j h1 h2 => by omega, fun _ => rfl⟩
  | succ d ih =>
    intro k
    have ne : ∀ a b : S40, (!(eqP a b)) = true ↔ a ≠ b := fun a b => by
      rw [Bool.not_eq_true', Bool.eq_false_iff, ne_eq, eqP_iff]
    simp only [pairI, Bool.and_eq_true]
    rw [ne, ne, ih, decide_eq_true_eq]
    constructor
    · rintro ⟨h1, h2, h3, h4⟩ j hj1 hj2
      by_cases e : j = k
      · subst e; exact ⟨h1, h2, h3⟩
      · exact h4 j (by omega) (by omega)
    · intro h
      obtain ⟨h1, h2, h3⟩ := h k (by omega) (by omega)
      exact ⟨h1, h2, h3, fun j hj1 hj2 => h j (by omega) (by omega)⟩
theorem allI_iff (p : List S40) (n : Nat) : ∀ (d i : Nat), i + d = n → (allI p n d i = true ↔ ∀ j k, i ≤ j → j < k → k < n → ptA p j ≠ ptA p (j + 1) ∧ ptA p k ≠ ptA p (nx n k) ∧ meetP (ptA p j) (ptA p (j + 1)) (ptA p k) (ptA p (nx n k)) = wantP n j k) := by
  intro d
  induction d with
  | zero => intro i hi; exact ⟨fun _ j k h1 h2 h3 => by omega, fun _ => rfl⟩
  | succ d ih =>
    intro i hi
    simp only [allI, Bool.and_eq_true]
    rw [pairI_iff, ih (i + 1) (by omega)]
    constructor
    · rintro ⟨h1, h2⟩ j k hj hk hn
      by_cases e : j = i
      · subst e; exact h1 k (by omega) (by omega)
      · exact h2 j k (by omega) hk hn
    · intro h
      exact ⟨fun k h1 h2 => h i k (by omega) (by omega) (by omega), fun j k h1 h2 h3 => h j k (by omega) h2 h3⟩
theorem adjB_iff (p : List S40) (n : Nat) : ∀ (d i : Nat), adjB p n d i = true ↔ ∀ j, i ≤ j → j < i + d → ptA p j ≠ ptA p (nx n j) := by
  intro d
  induction d with
  | zero => intro i; exact ⟨fun _ j h1 h2 => by omega, fun _ => rfl⟩
  | succ d ih =>
    intro i
    have ne : ∀ a b : S40, (!(eqP a b)) = true ↔ a ≠ b := fun a b => by
      rw [Bool.not_eq_true', Bool.eq_false_iff, ne_eq, eqP_iff]
    simp only [adjB, Bool.and_eq_true]
    rw [ne, ih]
    constructor
    · rintro ⟨h1, h2⟩ j hj1 hj2
      by_cases e : j = i
      · subst e; exact h1
      · exact h2 j (by omega) (by omega)
    · intro h
      exact ⟨h i (by omega) (by omega), fun j h1 h2 => h j (by omega) (by omega)⟩
theorem pairB_iff (p : List S40) (n i : Nat) : ∀ (d k : Nat), pairB p n i d k = true ↔ ∀ j, k ≤ j → j < k + d → meetAt p n i j = wantP n i j := by
  intro d
  induction d with
  | zero => intro k; exact ⟨fun _ j h1 h2 => by omega, fun _ => rfl⟩
  | succ d ih =>
    intro k
    simp only [pairB, Bool.and_eq_true]
    rw [ih, decide_eq_true_eq]
    constructor
    · rintro ⟨h1, h2⟩ j hj1 hj2
      by_cases e : j = k
      · subst e; exact h1
      · exact h2 j (by omega) (by omega)
    · intro h
      exact ⟨h k (by omega) (by omega), fun j h1 h2 => h j (by omega) (by omega)⟩
theorem allB_iff (p : List S40) (n : Nat) : ∀ (d i : Nat), i + d = n → (allB p n d i = true ↔ ∀ j k, i ≤ j → j < k → k < n → meetAt p n j k = wantP n j k) := by
  intro d
  induction d with
  | zero => intro i hi; exact ⟨fun _ j k h1 h2 h3 => by omega, fun _ => rfl⟩
  | succ d ih =>
    intro i hi
    simp only [allB, Bool.and_eq_true]
    rw [pairB_iff, ih (i + 1) (by omega)]
    constructor
    · rintro ⟨h1, h2⟩ j k hj hk hn
      by_cases e : j = i
      · subst e; exact h1 k (by omega) (by omega)
      · exact h2 j k (by omega) hk hn
    · intro h
      exact ⟨fun k h1 h2 => h i k (by omega) (by omega) (by omega), fun j k h1 h2 h3 => h j k (by omega) h2 h3⟩
theorem poly_eq (p : List S40) (h3 : 3 ≤ p.length) : (adjB p p.length p.length 0 && allB p p.length p.length 0) = allI p p.length p.length 0 := by
  have nxs : ∀ j, j + 1 < p.length → nx p.length j = j + 1 := fun j hj => Nat.mod_eq_of_lt hj
  rw [Bool.eq_iff_iff, Bool.and_eq_true, adjB_iff, allB_iff p p.length p.length 0 (by omega), allI_iff p p.length p.length 0 (by omega)]
  constructor
  · rintro ⟨h1, h2⟩ j k _ hk hn
    have a1 := h1 j (by omega) (by omega)
    have a2 := h2 j k (by omega) hk hn
    unfold meetAt at a2
    rw [nxs j (by omega)] at a1 a2
    exact ⟨a1, h1 k (by omega) (by omega), a2⟩
  · intro h
    refine ⟨fun j _ hj => ?_, fun j k _ hk hn => ?_⟩
    · by_cases e : j = 0
      · subst e
        rw [nxs 0 (by omega)]
        exact (h 0 1 (by omega) (by omega) (by omega)).1
      · exact (h 0 j (by omega) (by omega) (by omega)).2.1
    · unfold meetAt
      rw [nxs j (by omega)]
      exact (h j k (by omega) hk hn).2.2
theorem im_polygon (p : List S40) : Ev (fun k => impl_PolygonOk.f k p) (polyS p) := by
  unfold impl_PolygonOk.f polyS
  by_cases c1 : p.length < 3
  · rw [decide_eq_false (by omega), Bool.false_and]
    exact ev_pos c1 (ev_now _)
  · by_cases c2 : p.length > 10
    · rw [decide_eq_false (by omega), Bool.false_and]
      exact ev_neg c1 (ev_pos c2 (ev_now _))
    · rw [decide_eq_true (show 3 ≤ p.length ∧ p.length ≤ 10 by omega), Bool.true_and]
      have hp : Ev (fun k => impl_arePoints.f k p) (p.all smallB) := by
        unfold impl_arePoints.f
        exact im_points_from p (by omega) p [] rfl
      refine ev_neg c1 (ev_neg c2 (ev_bind hp ?_))
      by_cases c3 : p.all smallB = true
      · rw [c3, Bool.true_and, poly_eq p (by omega)]
        exact ev_pos rfl (im_all p c3 (by omega) p.length 0 (by omega))
      · rw [Bool.eq_false_iff.mpr c3, Bool.false_and]
        exact ev_neg (by decide) (ev_now _)
theorem im_equal (a b : List S40) (ha : a.length ≤ 1000) : Ev (fun k => impl_Point_57.f k a b) (decide (a = b)) := by
  unfold impl_Point_57.f
  by_cases hl : a.length = b.length
  · refine ev_pos (by omega) ?_
    have loop : ∀ (sa pa sb pb : List S40), a = pa ++ sa → b = pb ++ sb → pa.length = pb.length → Ev (fun k => impl_Point_57.l0 k a b (a.length : Int) (pa.length : Int)) (decide (sa = sb)) := by
      intro sa
      induction sa with
      | nil =>
        intro pa sb pb h1 h2 h3
        have e : sb = [] := by
          have := congrArg List.length h1
          have := congrArg List.length h2
          simp at *
          exact List.length_eq_zero_iff.mp (by omega)
        subst e
        have : a.length = pa.length := by rw [h1]; simp
        refine ev_shift ?_
        simp only [impl_Point_57.l0]
        exact ev_neg (by omega) (ev_now _)
      | cons x sa ih =>
        intro pa sb pb h1 h2 h3
        cases sb with
        | nil =>
          have := congrArg List.length h1
          have := congrArg List.length h2
          simp at *
          omega
        | cons y sb =>
          have hla : a.length = pa.length + (sa.length + 1) := by rw [h1]; simp
          have r1 : rd_T40 a (pa.length : Int) = x := by rw [h1]; exact rdp_at2 pa sa x
          have r2 : rd_T40 b (pa.length : Int) = y := by rw [h2, h3]; exact rdp_at2 pb sb y
          have hn := ih (pa ++ [x]) sb (pb ++ [y]) (by simp [h1]) (by simp [h2]) (by simp [h3])
          rw [List.length_append, List.length_singleton] at hn
          refine ev_shift ?_
          simp only [impl_Point_57.l0]
          rw [r1, r2, wsucc _ (by omega)]
          refine ev_pos (by omega) (ev_pos (by omega) (ev_pos (by omega) (ev_pos (by omega) ?_)))
          by_cases c : x = y
          · subst c
            refine ev_neg (by simp) (ev_eq hn ?_)
            exact decide_eq_decide.mpr ⟨fun z => by rw [z], fun z => (List.cons.inj z).2⟩
          · have c' : eqP x y = false := Bool.eq_false_iff.mpr (fun z => c ((eqP_iff _ _).mp z))
            unfold eqP at c'
            rw [Bool.and_eq_false_iff] at c'
            refine ev_pos (by rcases c' with z | z <;> simp [z]) (ev_eq (ev_now _) ?_)
            exact (decide_eq_false (fun z => c (List.cons.inj z).1)).symm
    exact loop a [] b [] rfl rfl rfl
  · exact ev_neg (by omega) (ev_eq (ev_now _) (decide_eq_false (fun e => hl (by rw [e]))).symm)
theorem im_rot (a c : List S40) (ha : a.length ≤ 1000) : ∀ (d i : Nat), i + d = c.length → Ev (fun q => impl_SamePolygon.l0 q a c i) (rotI a c d i) := by
  intro d
  induction d with
  | zero =>
    intro i h
    refine ev_shift ?_
    simp only [impl_SamePolygon.l0, rotI]
    exact ev_neg (by omega) (ev_now _)
  | succ d ih =>
    intro i h
    have hn := ih (i + 1) (by omega)
    refine ev_shift ?_
    simp only [impl_SamePolygon.l0, rotI]
    refine ev_pos (by omega) (ev_bind (im_equal a (rotP c i) ha) ?_)
    by_cases e : a = rotP c i
    · rw [decide_eq_true e, Bool.true_or]
      exact ev_pos rfl (ev_now _)
    · rw [decide_eq_false e, Bool.false_or]
      exact ev_neg (by decide) hn
theorem im_same (p q : List S40) : Ev (fun k => impl_SamePolygon.f k p q) (samePoly p q) := by
  unfold impl_SamePolygon.f samePoly
  refine ev_bind (im_polygon p) ?_
  by_cases c : polyS p = true
  · rw [c, Bool.true_and]
    refine ev_pos rfl (ev_bind (im_polygon q) ?_)
    by_cases d : polyS q = true
    · rw [d, Bool.true_and, same_eq]
      have l1 := stay_len p p.length 0
      have l2 := stay_len q q.length 0
      have := (poly_parts c).1
      have := (poly_parts d).1
      have hne := stay_ne d
      have htl := turnP_len (stay q q.length 0)
      refine ev_pos rfl (ev_bind (im_straight c) (ev_bind (im_straight d) (ev_bind0 (a := turnP (stay q q.length 0)) ?_ ?_)))
      · cases hq : stay q q.length 0 with
        | nil => exact absurd hq hne
        | cons x l =>
          unfold impl_turned.f
          rw [hq] at l2
          rw [List.length_cons] at l2
          simp only
          rw [if_pos (by omega)]
          rfl
      · refine ev_bind (im_rot _ _ (by omega) (stay q q.length 0).length 0 (by omega)) ?_
        by_cases z : rotI (stay p p.length 0) (stay q q.length 0) (stay q q.length 0).length 0 = true
        · rw [z, Bool.true_or]
          exact ev_pos rfl (ev_now _)
        · rw [Bool.eq_false_iff.mpr z, Bool.false_or]
          exact ev_neg (by decide) (im_rot _ _ (by omega) (stay q q.length 0).length 0 (by omega))
    · rw [Bool.eq_false_iff.mpr d, Bool.false_and]
      exact ev_neg (by decide) (ev_now _)
  · rw [Bool.eq_false_iff.mpr c, Bool.false_and]
    exact ev_neg (by decide) (ev_now _)
/-! The law's own copies of its points (S42) as the program's (S40). -/
def cvP (q : S42) : S40 := ⟨q.f0, q.f1⟩
theorem topts_from (l : List S42) (hl : l.length ≤ 2000000) : ∀ (suf pre : List S42), l = pre ++ suf → Ev (fun k => laws_toPointS.l0 k l (pre.map cvP ++ List.replicate suf.length z40) (pre.length : Int)) (l.map cvP) := by
  intro suf
  induction suf with
  | nil =>
    intro pre h
    obtain rfl : l = pre := by simp [h]
    refine ev_shift ?_
    simp only [laws_toPointS.l0]
    exact ev_neg (by omega) (ev_eq (ev_now _) (by simp))
  | cons x suf ih =>
    intro pre h
    have hlen : l.length = pre.length + (suf.length + 1) := by rw [h]; simp
    have hr : rd_T42 l (pre.length : Int) = x := by rw [h]; simp [rd_T42, List.getD_eq_getElem?_getD]
    have hn := ih (pre ++ [x]) (by simp [h])
    rw [List.length_append, List.length_singleton, List.map_append] at hn
    have hset : (pre.map cvP ++ List.replicate (x :: suf).length z40).set pre.length (cvP x) = pre.map cvP ++ [x].map cvP ++ List.replicate suf.length z40 := by
      rw [List.length_cons, List.replicate_succ]
      have e : pre.length = (pre.map cvP).length := by simp
      rw [e, List.set_append_right _ _ (Nat.le_refl _), Nat.sub_self]
      simp
    refine ev_shift ?_
    simp only [laws_toPointS.l0, laws_toPoint.f]
    rw [hr, wsucc _ (by omega), Int.toNat_natCast]
    refine ev_pos (by omega) (ev_pos (by omega) (ev_bind0 rfl (ev_pos (by simp; omega) ?_)))
    have e2 : (⟨x.f0, x.f1⟩ : S40) = cvP x := rfl
    rw [e2, hset]
    exact hn
theorem topts_ev (l : List S42) (hl : l.length ≤ 2000000) : Ev (fun k => laws_toPointS.f k l) (l.map cvP) := by
  unfold laws_toPointS.f
  rw [Int.toNat_natCast]
  refine ev_pos (by omega) (ev_pos (by omega) ?_)
  have := topts_from l hl l [] rfl
  simpa using this
theorem eqpts_from (l : List S40) (hl : l.length ≤ 2000000) : ∀ (suf pre : List S40), l = pre ++ suf → Ev (fun k => laws_eqPointS.l0 k l l (pre.length : Int)) true := by
  intro suf
  induction suf with
  | nil =>
    intro pre h
    obtain rfl : l = pre := by simp [h]
    refine ev_shift ?_
    simp only [laws_eqPointS.l0]
    exact ev_neg (by omega) (ev_now _)
  | cons x suf ih =>
    intro pre h
    have hlen : l.length = pre.length + (suf.length + 1) := by rw [h]; simp
    have hn := ih (pre ++ [x]) (by simp [h])
    rw [List.length_append, List.length_singleton] at hn
    refine ev_shift ?_
    simp only [laws_eqPointS.l0]
    rw [wsucc _ (by omega)]
    refine ev_pos (by omega) (ev_pos (by omega) (ev_pos (by omega) (ev_bind0 (a := true) ?_ (ev_pos rfl hn))))
    unfold laws_eqPoint.f
    rw [if_pos rfl, if_pos rfl]
theorem eqpts_refl (l : List S40) (hl : l.length ≤ 2000000) : Ev (fun k => laws_eqPointS.f k l l) true := by
  unfold laws_eqPointS.f
  exact ev_pos rfl (eqpts_from l hl l [] rfl)
def rectP (w h : Int) : List S40 := if (1 ≤ w ∧ w ≤ 40) ∧ 1 ≤ h ∧ h ≤ 40 then [⟨0, 0⟩, ⟨w, 0⟩, ⟨w, h⟩, ⟨0, h⟩] else []
theorem sp_rect (w h : Int) : spec_RectangleOf.f w h = some (rectP w h) := by
  unfold spec_RectangleOf.f rectP
  rw [in_eq]
  simp only [Option.bind_some, in_eq]
  by_cases c : 1 ≤ w ∧ w ≤ 40
  · rw [if_pos (decide_eq_true c)]
    by_cases d : 1 ≤ h ∧ h ≤ 40
    · rw [if_pos (decide_eq_true d), if_pos ⟨c, d⟩]
    · rw [if_neg (by simpa using d), if_neg (fun z => d z.2)]
  · rw [if_neg (by simpa using c), if_neg (fun z => c z.1)]
theorem im_rect (w h : Int) : impl_RectangleOf.f w h = some (rectP w h) := by
  unfold impl_RectangleOf.f rectP
  rw [within_eq]
  simp only [Option.bind_some, within_eq]
  by_cases c : 1 ≤ w ∧ w ≤ 40
  · rw [if_pos (decide_eq_true c)]
    by_cases d : 1 ≤ h ∧ h ≤ 40
    · rw [if_pos (decide_eq_true d), if_pos ⟨c, d⟩]
    · rw [if_neg (by simpa using d), if_neg (fun z => d z.2)]
  · rw [if_neg (by simpa using c), if_neg (fun z => c z.1)]
theorem sameRect_ev (l : List S42) (w h : Int) (hl0 : l.length ≤ 9223372036854775807) : Ev (fun k => laws_FnExactSameRectangle.f k l w h) true := by
  unfold laws_FnExactSameRectangle.f
  by_cases big : wrap64 (1048576 - (l.length : Int)) < 0
  · refine ev_bind0 (a := -1) ?_ (ev_pos (by decide) (ev_now _))
    unfold laws_szPointS.f
    rw [if_pos big]
  · have hl : l.length ≤ 2000000 := by
      rw [w64 (by omega) (by omega)] at big
      omega
    have hp := topts_ev l hl
    have he := eqpts_refl (l.map cvP) (by simpa using hl)
    have h1 : Ev (fun k => spec_SameRectangle.f k (l.map cvP) w h) (samePoly (l.map cvP) (rectP w h)) := by
      unfold spec_SameRectangle.f
      exact ev_bind0 (sp_rect w h) (ev_bind (sp_same _ _) (ev_now _))
    have h2 : Ev (fun k => impl_SameRectangle.f k (l.map cvP) w h) (samePoly (l.map cvP) (rectP w h)) := by
      unfold impl_SameRectangle.f
      exact ev_bind0 (im_rect w h) (ev_bind (im_same _ _) (ev_now _))
    refine ev_bind0 (a := wrap64 (1048576 - (l.length : Int))) ?_ (ev_neg big (ev_bind hp (ev_bind h1 (ev_bind hp (ev_bind h2 (ev_neg (by simp) (ev_bind hp (ev_bind he (ev_pos rfl (ev_now _))))))))))
    unfold laws_szPointS.f
    rw [if_neg big]
theorem FnExactSameRectangle (l : List S42) (w h : Int) (hl : l.length ≤ 9223372036854775807) : ∃ k, laws_FnExactSameRectangle.f k l w h = some true := ev_rounds (sameRect_ev l w h hl)

end Go.Proofs.Ytadenfniiihifaa.Pure
