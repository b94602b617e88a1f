/- IsPerfect of the program and of the reference answer alike, for all numbers and all lists of at most 1048576 sides; for a longer list the law says true. -/
import Derived.Test.YtlcchgkidenbpaaQFnExactIsPerfectx5
namespace Go.Proofs.Ytlcchgkidenbpaa.Pure
open Go.RowKit Go.Proofs.Ytlcchgkidenbpaa.QFnExactIsPerfect Go.Proofs.YtlcchgkidenbpaaW.PrintWords Go.Proofs.YtlcchgkidenbpaaW.PrintLast Go.Proofs.YtlcchgkidenbpaaW.PrintMore
set_option linter.unusedVariables false
set_option linter.unusedSimpArgs false

/- Eventually: with enough rounds the answer is r. -/
theorem ev_now {α : Type} (r : α) : Ev (fun _ => some r) r := Ev.now r
theorem ev_shift {α : Type} {g : Nat → Option α} {r : α} (h : Ev (fun k => g (k + 1)) r) : Ev g r := by
  obtain ⟨K, hK⟩ := h
  exact ⟨K + 1, fun k hk => by
    obtain ⟨m, rfl⟩ : ∃ m, k = m + 1 := ⟨k - 1, by omega⟩
    exact hK m (by omega)⟩
theorem ev_bind {α β : Type} {g : Nat → Option α} {f : Nat → α → Option β} {a : α} {r : β} (h : Ev g a) (k : Ev (fun n => f n a) r) : Ev (fun n => (g n).bind (f n)) r := Ev.bind h k
theorem ev_bind0 {α β : Type} {o : Option α} {f : Nat → α → Option β} {a : α} {r : β} (h : o = some a) (k : Ev (fun n => f n a) r) : Ev (fun n => o.bind (f n)) r := by
  subst h; exact k
theorem ev_pos {α : Type} {A B : Nat → Option α} {r : α} {c : Prop} [Decidable c] (h : c) (k : Ev A r) : Ev (fun n => if c then A n else B n) r := by
  simpa only [if_pos h] using k
theorem ev_neg {α : Type} {A B : Nat → Option α} {r : α} {c : Prop} [Decidable c] (h : ¬ c) (k : Ev B r) : Ev (fun n => if c then A n else B n) r := by
  simpa only [if_neg h] using k
theorem ev_done {α : Type} {o : Option α} {r : α} (h : o = some r) : Ev (fun _ => o) r := ⟨0, fun _ _ => h⟩
theorem ev_eq {α : Type} {g : Nat → Option α} {r r' : α} (h : Ev g r) (e : r = r') : Ev g r' := e ▸ h
theorem ev_rounds {α : Type} {g : Nat → Option α} {r : α} (h : Ev g r) : ∃ k, g k = some r := Ev.rounds h
theorem ev_uniq {α : Type} {g : Nat → Option α} {r r' : α} (h : Ev g r) (h' : Ev g r') : r = r' := by
  obtain ⟨K, hK⟩ := h
  obtain ⟨K', hK'⟩ := h'
  have a := hK (max K K') (Nat.le_max_left _ _)
  have b := hK' (max K K') (Nat.le_max_right _ _)
  rw [a] at b
  exact Option.some.inj b
theorem wf64 {n : Int} (h : (Lit.int .i64 n).wf = true) : -9223372036854775808 ≤ n ∧ n ≤ 9223372036854775807 := by
  have a : IntKind.i64.min = -9223372036854775808 := rfl
  have b : IntKind.i64.max = 9223372036854775807 := rfl
  simp [Lit.wf] at h
  omega
theorem w64 {n : Int} (h : -9223372036854775808 ≤ n) (h' : n ≤ 9223372036854775807) : wrap64 n = n := by
  unfold wrap64; omega
theorem wadd (a b : Nat) (h : a + b < 1000000000000) : wrap64 ((a : Int) + (b : Int)) = ((a + b : Nat) : Int) := by
  rw [w64 (by omega) (by omega)]; omega
theorem wsucc (a : Nat) (h : a < 1000000000000) : wrap64 ((a : Int) + 1) = ((a + 1 : Nat) : Int) := by
  rw [w64 (by omega) (by omega)]; omega
theorem wsmall (n : Int) (h : -1000000000000 ≤ n ∧ n ≤ 1000000000000) : wrap64 n = n := w64 (by omega) (by omega)
theorem within_eq (a b c : Int) : impl_within.f a b c = some (decide (b ≤ a ∧ a ≤ c)) := by
  unfold impl_within.f; split <;> simp <;> omega
theorem in_eq (a b c : Int) : spec_l01In.f a b c = some (decide (b ≤ a ∧ a ≤ c)) := by
  unfold spec_l01In.f; split <;> simp <;> omega
theorem mx_eq (a b : Int) : mx a b = max a b := by unfold mx; split <;> omega
theorem mn_eq (a b : Int) : mn a b = min a b := by unfold mn; split <;> omega
theorem rd_mid (pre suf : List Int) (a : Int) : rd (pre ++ a :: suf) (pre.length : Int) = a := by
  simp [rd, List.getD_eq_getElem?_getD]
theorem next_len {α : Type} (pre : List α) (a : α) (h : pre.length < 1000000) : wrap64 ((pre.length : Int) + 1) = ((pre ++ [a]).length : Int) := by
  rw [w64 (by omega) (by omega)]; simp
/-- The first place of the least number: its place and its value. -/
def isFM (T : List Int) (a : Nat) (v : Int) : Prop := a < T.length ∧ T.getD a 0 = v ∧ ∀ j, j < T.length → v ≤ T.getD j 0 ∧ (j < a → v < T.getD j 0)
theorem isFM_uniq {T : List Int} {a b : Nat} {v u : Int} (h : isFM T a v) (h' : isFM T b u) : a = b ∧ v = u := by
  obtain ⟨h1, h2, h3⟩ := h
  obtain ⟨g1, g2, g3⟩ := h'
  have e1 := h3 b g1
  have e2 := g3 a h1
  rw [g2] at e1
  rw [h2] at e2
  have e : v = u := by omega
  refine ⟨?_, e⟩
  rcases Nat.lt_trichotomy a b with c | c | c
  · have := e2.2 c; omega
  · exact c
  · have := e1.2 c; omega
def am : List Int → Nat → Nat → Int → Nat × Int
  | [], _, a, v => (a, v)
  | t :: ts, i, a, v => if t < v then am ts (i + 1) i t else am ts (i + 1) a v
def fm : List Int → Nat × Int
  | [] => (0, 0)
  | t :: ts => am ts 1 0 t
theorem getD_app (pre suf : List Int) (t : Int) (j : Nat) (hj : j < pre.length) : (pre ++ t :: suf).getD j 0 = pre.getD j 0 := by
  simp [List.getD_eq_getElem?_getD, List.getElem?_append_left hj]
theorem getD_mid (pre suf : List Int) (t : Int) : (pre ++ t :: suf).getD pre.length 0 = t := by
  simp [List.getD_eq_getElem?_getD]
theorem am_isFM : ∀ (suf pre : List Int) (a : Nat) (v : Int), isFM pre a v → isFM (pre ++ suf) (am suf pre.length a v).1 (am suf pre.length a v).2 := by
  intro suf
  induction suf with
  | nil => intro pre a v h; simpa [am] using h
  | cons t suf ih =>
    intro pre a v h
    obtain ⟨h1, h2, h3⟩ := h
    have hl : (pre ++ [t]).length = pre.length + 1 := by simp
    have gm : (pre ++ [t]).getD pre.length 0 = t := getD_mid pre [] t
    have ga : ∀ j, j < pre.length → (pre ++ [t]).getD j 0 = pre.getD j 0 := fun j hj => getD_app pre [] t j hj
    have e : pre ++ t :: suf = (pre ++ [t]) ++ suf := by simp
    simp only [am]
    by_cases c : t < v
    · rw [if_pos c, e, ← hl]
      refine ih (pre ++ [t]) pre.length t ⟨by omega, gm, fun j hj => ?_⟩
      rw [hl] at hj
      rcases Nat.lt_or_ge j pre.length with g | g
      · rw [ga j g]; have := h3 j g; omega
      · obtain rfl : j = pre.length := by omega
        rw [gm]; omega
    · rw [if_neg c, e, ← hl]
      refine ih (pre ++ [t]) a v ⟨by omega, by rw [ga a h1]; exact h2, fun j hj => ?_⟩
      rw [hl] at hj
      rcases Nat.lt_or_ge j pre.length with g | g
      · rw [ga j g]; exact h3 j g
      · obtain rfl : j = pre.length := by omega
        rw [gm]; omega
theorem fm_isFM (T : List Int) (h : T ≠ []) : isFM T (fm T).1 (fm T).2 := by
  match T, h with
  | t :: ts, _ =>
    have := am_isFM ts [t] 0 t ⟨by simp, rfl, fun j hj => by
      obtain rfl : j = 0 := by simp at hj; omega
      simp⟩
    exact this
theorem min_from (T : List Int) (hT : T.length ≤ 100000) (hr : ∀ x ∈ T, -1000000000000 ≤ x ∧ x ≤ 1000000000000) : ∀ (suf pre : List Int) (v : Int), T = pre ++ suf → (∀ j, j < pre.length → v ≤ pre.getD j 0) → (∃ j, j < pre.length ∧ pre.getD j 0 = v) →
    ∃ u, Ev (fun k => slices_Min_int_int.l0 k T v (pre.length : Int)) u ∧ (∀ j, j < T.length → u ≤ T.getD j 0) ∧ ∃ j, j < T.length ∧ T.getD j 0 = u := by
  intro suf
  induction suf with
  | nil =>
    intro pre v h h1 h2
    obtain rfl : T = pre := by simp [h]
    refine ⟨v, ev_shift ?_, h1, h2⟩
    simp only [slices_Min_int_int.l0]
    exact ev_neg (by omega) (ev_now _)
  | cons t suf ih =>
    intro pre v h h1 h2
    have hlen : T.length = pre.length + (suf.length + 1) := by subst h; simp
    have ha : rd T (pre.length : Int) = t := by subst h; exact rd_mid pre suf t
    have hl : (pre ++ [t]).length = pre.length + 1 := by simp
    have gm : (pre ++ [t]).getD pre.length 0 = t := getD_mid pre [] t
    have ga : ∀ j, j < pre.length → (pre ++ [t]).getD j 0 = pre.getD j 0 := fun j hj => getD_app pre [] t j hj
    obtain ⟨u, hu, hu2⟩ := ih (pre ++ [t]) (min v t) (by simp [h]) (fun j hj => by
      rw [hl] at hj
      rcases Nat.lt_or_ge j pre.length with g | g
      · rw [ga j g]; have := h1 j g; omega
      · obtain rfl : j = pre.length := by omega
        rw [gm]; omega) (by
      obtain ⟨j, hj, hv⟩ := h2
      by_cases c : v ≤ t
      · exact ⟨j, by omega, by rw [ga j hj, hv]; omega⟩
      · exact ⟨pre.length, by omega, by rw [gm]; omega⟩)
    refine ⟨u, ev_shift ?_, hu2⟩
    simp only [slices_Min_int_int.l0]
    rw [ha, next_len pre t (by omega), mn_eq]
    exact ev_pos (by omega) (ev_pos (by omega) hu)
theorem index_from (T : List Int) (hT : T.length ≤ 100000) (v : Int) (a : Nat) (ha : a < T.length) (hv : T.getD a 0 = v) (hb : ∀ j, j < a → T.getD j 0 ≠ v) (d : Nat) : ∀ i, i + d = a → Ev (fun k => slices_Index_int_int.l0 k T v (T.length : Int) (i : Int)) (a : Int) := by
  induction d with
  | zero =>
    intro i h
    obtain rfl : i = a := by omega
    refine ev_shift ?_
    simp only [slices_Index_int_int.l0]
    have e : rd T (i : Int) = T.getD i 0 := by simp [rd]
    rw [e, hv]
    exact ev_pos (by omega) (ev_pos (by omega) (ev_pos (by omega) (ev_pos rfl (ev_now _))))
  | succ d ih =>
    intro i h
    refine ev_shift ?_
    simp only [slices_Index_int_int.l0]
    have e : rd T (i : Int) = T.getD i 0 := by simp [rd]
    have e2 : wrap64 ((i : Int) + 1) = ((i + 1 : Nat) : Int) := by rw [w64 (by omega) (by omega)]; omega
    rw [e, e2]
    exact ev_pos (by omega) (ev_pos (by omega) (ev_pos (by omega) (ev_neg (fun z => hb i (by omega) z.symm) (ih (i + 1) (by omega)))))
theorem min_ev (T : List Int) (h0 : T ≠ []) (hT : T.length ≤ 100000) (hr : ∀ x ∈ T, -1000000000000 ≤ x ∧ x ≤ 1000000000000) : Ev (fun k => slices_Min_int_int.f k T) (fm T).2 := by
  have hf := fm_isFM T h0
  unfold slices_Min_int_int.f
  have hpos : 0 < T.length := Nat.pos_of_ne_zero (fun z => h0 (List.length_eq_zero_iff.mp z))
  refine ev_neg (by omega) (ev_pos (by omega) ?_)
  match T, h0 with
  | t :: ts, _ =>
    obtain ⟨u, hu, hu1, j, hj, hju⟩ := min_from (t :: ts) hT hr ts [t] t rfl (fun j hj => by
      obtain rfl : j = 0 := by simp at hj; omega
      simp) ⟨0, by simp, rfl⟩
    have e : rd (t :: ts) 0 = t := by simp [rd]
    rw [e]
    refine ev_eq hu ?_
    obtain ⟨f1, f2, f3⟩ := hf
    have a1 := (f3 j hj).1
    have a2 := hu1 _ f1
    rw [f2] at a2
    omega
theorem index_ev (T : List Int) (h0 : T ≠ []) (hT : T.length ≤ 100000) : Ev (fun k => slices_Index_int_int.f k T (fm T).2) ((fm T).1 : Int) := by
  obtain ⟨f1, f2, f3⟩ := fm_isFM T h0
  unfold slices_Index_int_int.f
  exact index_from T hT _ _ f1 f2 (fun j hj z => by have := (f3 j (by omega)).2 hj; omega) (fm T).1 0 (by omega)
/-- Does a square of side s fit at place a, on the level v? -/
def lies (T : List Int) (a s : Nat) (v : Int) : Prop := (T.drop a).take s = List.replicate s v
instance (T : List Int) (a s : Nat) (v : Int) : Decidable (lies T a s v) := by unfold lies; exact inferInstance
def raise (T : List Int) (a s : Nat) (v : Int) : List Int := T.take a ++ List.replicate s v ++ T.drop (a + s)
/-- Squares are laid one by one: where they lie, and the heights behind them; or they don't fit. -/
def lay (h : Int) : List Int → List Int → List S57 → Option (List S57 × List Int)
  | [], T, out => some (out, T)
  | s :: l, T, out => if (1 ≤ s ∧ s ≤ 40) ∧ lies T (fm T).1 s.toNat (fm T).2 ∧ (fm T).2 + s ≤ h then lay h l (raise T (fm T).1 s.toNat ((fm T).2 + s)) (out ++ [⟨((fm T).1 : Int), (fm T).2⟩]) else none
theorem lies_split {T : List Int} {a s : Nat} {v : Int} (h : lies T a s v) (ha : a ≤ T.length) : T = T.take a ++ List.replicate s v ++ T.drop (a + s) ∧ a + s ≤ T.length := by
  have h' := h
  unfold lies at h
  have hl : ((T.drop a).take s).length = s := by rw [h]; simp
  rw [List.length_take, List.length_drop] at hl
  refine ⟨?_, by omega⟩
  rw [← h, List.append_assoc, ← List.drop_drop, List.take_append_drop, List.take_append_drop]
theorem raise_len {T : List Int} {a s : Nat} {v u : Int} (h : lies T a s v) (ha : a ≤ T.length) : (raise T a s u).length = T.length := by
  have := (lies_split h ha).2
  unfold raise
  simp; omega
theorem raise_mem {T : List Int} {a s : Nat} {u : Int} {P : Int → Prop} (hT : ∀ x ∈ T, P x) (hu : P u) : ∀ x ∈ raise T a s u, P x := by
  intro x hx
  unfold raise at hx
  rw [List.mem_append, List.mem_append] at hx
  rcases hx with (hx | hx) | hx
  · exact hT x (List.mem_of_mem_take hx)
  · rw [(List.mem_replicate.mp hx).2]; exact hu
  · exact hT x (List.mem_of_mem_drop hx)
theorem fm_mem (T : List Int) (h : T ≠ []) : (fm T).2 ∈ T := by
  obtain ⟨f1, f2, _⟩ := fm_isFM T h
  rw [← f2, List.getD_eq_getElem?_getD, List.getElem?_eq_getElem f1]
  exact List.getElem_mem f1
theorem lies_zero (T : List Int) (a : Nat) (v : Int) : lies T a 0 v := by unfold lies; simp
theorem lies_succ {T : List Int} {a s : Nat} {v : Int} : lies T a (s + 1) v ↔ lies T a s v ∧ a + s < T.length ∧ T.getD (a + s) 0 = v := by
  unfold lies
  rw [List.replicate_succ']
  have e : ∀ n, (T.drop a).take n = (T.drop a).take n := fun _ => rfl
  by_cases h : a + s < T.length
  · have hs : s < (T.drop a).length := by rw [List.length_drop]; omega
    rw [List.take_succ_eq_append_getElem hs]
    have eg : (T.drop a)[s] = T.getD (a + s) 0 := by
      rw [List.getElem_drop, List.getD_eq_getElem?_getD, List.getElem?_eq_getElem h]; rfl
    rw [eg]
    constructor
    · intro z
      have := List.append_inj z (by
        have := congrArg List.length z
        simpa using this)
      exact ⟨this.1, h, by simpa using this.2⟩
    · rintro ⟨z, _, z2⟩
      rw [z, z2]
  · constructor
    · intro z
      have := congrArg List.length z
      rw [List.length_take, List.length_drop] at this
      simp at this
      omega
    · rintro ⟨_, z, _⟩; omega
theorem lies_mono {T : List Int} {a s : Nat} {v : Int} : ∀ {t : Nat}, t ≤ s → lies T a s v → lies T a t v := by
  intro t h z
  unfold lies at *
  have := congrArg (List.take t) z
  rw [List.take_take, List.take_replicate, Nat.min_eq_left h] at this
  exact this
theorem rdi_at (l : List Int) (i : Nat) : rd l (i : Int) = l.getD i 0 := by simp [rd]
/-- The program's room: as many as lie level, then one that doesn't, or the end. -/
theorem impl_fill_l1 (w : Nat) (hw : w ≤ 40) (h : Int) (T : List Int) (hT : T.length = w) (out : List S57) (s v : Int) (a : Nat) (A : List Int) (n q : Int) (r : List S57 × Bool) (d : Nat) : ∀ i, a + i + d = w → lies T a i v →
    (∀ j, lies T a j v → ¬ lies T a (j + 1) v → Ev (fun k => impl_fill.j3 k (w : Int) h T out s v (a : Int) (j : Int) A n q) r) →
    Ev (fun k => impl_fill.l1 k (w : Int) h T out s v (a : Int) (i : Int) A n q) r := by
  induction d with
  | zero =>
    intro i h1 hi H
    refine ev_shift ?_
    simp only [impl_fill.l1]
    rw [w64 (by omega) (by omega)]
    refine ev_neg (by omega) (H i hi (fun z => ?_))
    have := (lies_succ.mp z).2.1; omega
  | succ d ih =>
    intro i h1 hi H
    refine ev_shift ?_
    simp only [impl_fill.l1]
    rw [wadd a i (by omega), wsucc i (by omega), rdi_at]
    refine ev_pos (by omega) (ev_pos (by omega) (ev_pos (by omega) ?_))
    by_cases c : T.getD (a + i) 0 = v
    · exact ev_pos c (ih (i + 1) (by omega) (lies_succ.mpr ⟨hi, by omega, c⟩) H)
    · exact ev_neg c (H i hi (fun z => c (lies_succ.mp z).2.2))
theorem impl_fill_l2 (w : Nat) (hw : w ≤ 40) (h : Int) (out : List S57) (ho : out.length ≤ 100000) (s : Nat) (hs : s ≤ 40) (v : Int) (hv : 0 ≤ v ∧ v ≤ 100000) (A0 B : List Int) (hA : A0.length + s + B.length = w) (A : List Int) (n q : Int) (r : List S57 × Bool)
    (H : Ev (fun k => impl_fill.l0 k (w : Int) h (A0 ++ List.replicate s (v + s) ++ B) (out ++ [⟨(A0.length : Int), v⟩]) A n (wrap64 (q + 1))) r) (d : Nat) : ∀ i, i + d = s →
    Ev (fun k => impl_fill.l2 k (w : Int) h (A0 ++ (List.replicate i (v + s) ++ (List.replicate d v ++ B))) out (s : Int) v (A0.length : Int) A n q (s : Int) (i : Int)) r := by
  induction d with
  | zero =>
    intro i h1
    obtain rfl : i = s := by omega
    refine ev_shift ?_
    simp only [impl_fill.l2]
    refine ev_neg (by omega) (ev_pos (by omega) ?_)
    simpa using H
  | succ d ih =>
    intro i h1
    have wv : wrap64 (v + (s : Int)) = v + (s : Int) := w64 (by omega) (by omega)
    refine ev_shift ?_
    simp only [impl_fill.l2]
    have hx : (A0 ++ (List.replicate i (v + (s : Int)) ++ (List.replicate (d + 1) v ++ B))).length = w := by simp; omega
    have e1 : wrap64 ((A0.length : Int) + (i : Int)) = (((A0 ++ List.replicate i (v + (s : Int))).length : Nat) : Int) := by rw [w64 (by omega) (by omega)]; simp
    have e2 : wrap64 ((i : Int) + 1) = ((i + 1 : Nat) : Int) := by rw [w64 (by omega) (by omega)]; omega
    have el : (A0 ++ List.replicate i (v + (s : Int))).length = A0.length + i := by simp
    have eT : A0 ++ (List.replicate i (v + (s : Int)) ++ (List.replicate (d + 1) v ++ B)) = (A0 ++ List.replicate i (v + (s : Int))) ++ v :: (List.replicate d v ++ B) := by
      rw [List.replicate_succ]; simp
    have e3 : rd (A0 ++ (List.replicate i (v + (s : Int)) ++ (List.replicate (d + 1) v ++ B))) (((A0 ++ List.replicate i (v + (s : Int))).length : Nat) : Int) = v := by
      rw [eT]; exact rd_mid _ _ _
    have e4 : (A0 ++ (List.replicate i (v + (s : Int)) ++ (List.replicate (d + 1) v ++ B))).set ((((A0 ++ List.replicate i (v + (s : Int))).length : Nat) : Int)).toNat (v + (s : Int)) = A0 ++ (List.replicate (i + 1) (v + (s : Int)) ++ (List.replicate d v ++ B)) := by
      have et : ((((A0 ++ List.replicate i (v + (s : Int))).length : Nat) : Int)).toNat = (A0 ++ List.replicate i (v + (s : Int))).length := by omega
      rw [et, eT, List.set_append_right _ _ (Nat.le_refl _)]
      rw [List.replicate_succ']; simp
    rw [e1, e2, e3, wv, e4]
    clear e1 e2 e3 e4 eT wv H
    have q1 : (i : Int) < (s : Int) := by omega
    rw [el, hx]
    have q2 : (0 : Int) ≤ ((A0.length + i : Nat) : Int) := Int.natCast_nonneg _
    have q3 : ((A0.length + i : Nat) : Int) < (w : Int) := by clear el hx q2; omega
    exact ev_pos q1 (ev_pos q2 (ev_pos q3 (ih (i + 1) (by clear el hx q1 q2 q3; omega))))
/-- What the program's filling answers from a state on. -/
def fillI (h : Int) (l T : List Int) (out : List S57) : List S57 × Bool :=
  match lay h l T out with
  | some (o, T') => (o, (fm T').2 == h)
  | none => ([], false)
theorem impl_fill_l0 (w : Nat) (hw : 1 ≤ w ∧ w ≤ 40) (h : Int) (hh : 1 ≤ h ∧ h ≤ 40) (L : List Int) (hL : L.length ≤ 40) : ∀ (suf pre : List Int) (T : List Int) (out : List S57), L = pre ++ suf → T.length = w → (∀ x ∈ T, 0 ≤ x ∧ x ≤ h) → out.length ≤ pre.length →
    Ev (fun k => impl_fill.l0 k (w : Int) h T out L (L.length : Int) (pre.length : Int)) (fillI h suf T out) := by
  intro suf
  induction suf with
  | nil =>
    intro pre T out hp hT hr ho
    have h0 : T ≠ [] := fun z => by rw [z] at hT; simp at hT; omega
    refine ev_shift ?_
    simp only [impl_fill.l0]
    refine ev_neg (by subst hp; simp) (ev_bind (min_ev T h0 (by omega) (fun x hx => by have := hr x hx; omega)) ?_)
    exact ev_now _
  | cons s suf ih =>
    intro pre T out hp hT hr ho
    have h0 : T ≠ [] := fun z => by rw [z] at hT; simp at hT; omega
    obtain ⟨f1, f2, f3⟩ := fm_isFM T h0
    have hlen : L.length = pre.length + (suf.length + 1) := by subst hp; simp
    have ha : rd L (pre.length : Int) = s := by subst hp; exact rd_mid pre suf s
    refine ev_shift ?_
    simp only [impl_fill.l0]
    rw [ha]
    refine ev_pos (by omega) (ev_pos (by omega) (ev_pos (by omega) (ev_bind0 (within_eq _ _ _) ?_)))
    by_cases c : 1 ≤ s ∧ s ≤ 40
    · refine ev_pos (decide_eq_true c) (ev_bind (min_ev T h0 (by omega) (fun x hx => by have := hr x hx; omega)) (ev_bind (index_ev T h0 (by omega)) ?_))
      have hv := hr _ (fm_mem T h0)
      generalize hA : (fm T).1 = a at *
      generalize hV : (fm T).2 = v at *
      obtain ⟨S, hS⟩ := Int.eq_ofNat_of_zero_le (show 0 ≤ s by omega)
      refine impl_fill_l1 w hw.2 h T hT out s v a L _ _ _ (w - a) 0 (by omega) (lies_zero _ _ _) (fun j hj hj' => ?_)
      refine ev_shift ?_
      simp only [impl_fill.j3]
      by_cases c1 : s > (j : Int)
      · refine ev_pos c1 (ev_shift ?_)
        simp only [impl_fill.j4]
        refine ev_pos (by simp) (ev_eq (ev_now _) ?_)
        unfold fillI
        simp only [lay]
        rw [if_neg]
        rintro ⟨_, z, _⟩
        rw [hA, hV] at z
        exact hj' (lies_mono (by omega) z)
      · refine ev_neg c1 (ev_shift ?_)
        simp only [impl_fill.j4]
        rw [w64 (n := v + s) (by omega) (by omega)]
        by_cases c2 : v + s > h
        · refine ev_pos (by simpa using c2) (ev_eq (ev_now _) ?_)
          unfold fillI
          simp only [lay]
          rw [if_neg]
          rintro ⟨_, _, z⟩
          rw [hV] at z; omega
        · refine ev_neg (by simpa using c2) ?_
          have hl : lies T a S v := lies_mono (by omega) hj
          obtain ⟨sp1, sp2⟩ := lies_split hl (by omega)
          have hst : s.toNat = S := by omega
          have hta : (T.take a).length = a := by rw [List.length_take]; omega
          have en : wrap64 ((pre.length : Int) + 1) = ((pre ++ [s]).length : Int) := next_len pre s (by omega)
          have eF : fillI h (s :: suf) T out = fillI h suf (raise T a S (v + s)) (out ++ [⟨(a : Int), v⟩]) := by
            unfold fillI
            simp only [lay]
            rw [hA, hV, hst, if_pos ⟨c, hl, by omega⟩]
          rw [eF, hS]
          have := impl_fill_l2 w hw.2 h out (by omega) S (by omega) v (by omega) (T.take a) (T.drop (a + S)) (by rw [hta, List.length_drop]; omega) L (L.length : Int) (pre.length : Int) (fillI h suf (raise T a S (v + (S : Int))) (out ++ [⟨(a : Int), v⟩])) (by
              rw [hta, en]
              exact ih (pre ++ [s]) _ _ (by simp [hp]) (by rw [← hT]; exact raise_len hl (by omega)) (raise_mem hr (by omega)) (by simp; omega)) S 0 (by omega)
          rw [hta] at this
          rw [List.replicate_zero, List.nil_append, ← List.append_assoc, ← sp1] at this
          exact this
    · refine ev_neg (fun z => c (of_decide_eq_true z)) (ev_eq (ev_now _) ?_)
      unfold fillI
      simp only [lay]
      rw [if_neg (fun z => c z.1)]
def fillP (w h : Int) (l : List Int) : List S57 × Bool :=
  if (1 ≤ w ∧ w ≤ 40) ∧ (1 ≤ h ∧ h ≤ 40) ∧ l.length ≤ 40 then fillI h l (List.replicate w.toNat 0) [] else ([], false)
theorem impl_fill_ev (w h : Int) (l : List Int) : Ev (fun k => impl_fill.f k w h l) (fillP w h l) := by
  unfold impl_fill.f fillP
  refine ev_bind0 (within_eq _ _ _) ?_
  have bad : Ev (fun k => impl_fill.j0 k w h l true) ([], false) := by
    refine ev_shift ?_
    simp only [impl_fill.j0]
    exact ev_pos (by simp) (ev_now _)
  by_cases c : 1 ≤ w ∧ w ≤ 40
  · refine ev_pos (decide_eq_true c) (ev_bind0 (within_eq _ _ _) ?_)
    by_cases d : 1 ≤ h ∧ h ≤ 40
    · refine ev_pos (decide_eq_true d) ?_
      by_cases e : (l.length : Int) > 40
      · rw [if_neg (by omega), decide_eq_true e]; exact bad
      · rw [if_pos ⟨c, d, by omega⟩, decide_eq_false e]
        refine ev_shift ?_
        simp only [impl_fill.j0]
        refine ev_neg (by simp) (ev_pos (by omega) (ev_pos (by omega) ?_))
        obtain ⟨W, rfl⟩ := Int.eq_ofNat_of_zero_le (show 0 ≤ w by omega)
        exact impl_fill_l0 W (by omega) h d l (by omega) l [] _ [] rfl (by simp) (fun x hx => by rw [(List.mem_replicate.mp hx).2]; omega) (by simp)
    · rw [if_neg (fun z => d z.2.1)]
      exact ev_neg (fun z => d (of_decide_eq_true z)) bad
  · rw [if_neg (fun z => c z.1)]
    exact ev_neg (fun z => c (of_decide_eq_true z)) bad
theorem l12Ok_from (L : List Int) (hL : L.length ≤ 1000) : ∀ (suf pre : List Int), L = pre ++ suf → Ev (fun k => spec_l12Ok.l0 k L (L.length : Int) (pre.length : Int)) (decide (∀ s ∈ suf, 1 ≤ s ∧ s ≤ 40)) := by
  intro suf
  induction suf with
  | nil =>
    intro pre h
    refine ev_shift ?_
    simp only [spec_l12Ok.l0]
    exact ev_neg (by subst h; simp) (ev_eq (ev_now _) (by simp))
  | cons s suf ih =>
    intro pre h
    refine ev_shift ?_
    simp only [spec_l12Ok.l0]
    have hlen : L.length = pre.length + (suf.length + 1) := by subst h; simp
    have ha : rd L (pre.length : Int) = s := by subst h; exact rd_mid pre suf s
    rw [ha, next_len pre s (by omega)]
    refine ev_pos (by omega) (ev_pos (by omega) (ev_pos (by omega) (ev_bind0 (in_eq _ _ _) ?_)))
    by_cases c : 1 ≤ s ∧ s ≤ 40
    · refine ev_pos (decide_eq_true c) (ev_eq (ih (pre ++ [s]) (by simp [h])) ?_)
      exact decide_eq_decide.mpr (by simp [c])
    · refine ev_neg (fun z => c (of_decide_eq_true z)) (ev_eq (ev_now _) ?_)
      exact (decide_eq_false (fun z => c (z s (by simp)))).symm
theorem spec_fill_l2 (w : Nat) (hw : w ≤ 40) (h : Int) (T : List Int) (hT : T.length = w) (out : List S57) (ho : out.length ≤ 100000) (s : Nat) (hs : s ≤ 40) (v : Int) (hv : 0 ≤ v ∧ v ≤ 100000) (a : Nat) (ha : a + s ≤ w) (L : List Int) (n q : Int) (r : List S57 × Bool)
    (Hok : lies T a s v → Ev (fun k => spec_l12Fill.l0 k (w : Int) h (raise T a s (v + s)) (out ++ [⟨(a : Int), v⟩]) L n (wrap64 (q + 1))) r) (Hbad : ¬ lies T a s v → r = ([], false)) (d : Nat) : ∀ i, i + d = s → lies T a i v →
    Ev (fun k => spec_l12Fill.l2 k (w : Int) h (T.take a ++ (List.replicate i (v + s) ++ T.drop (a + i))) out (s : Int) (a : Int) v ((a + i : Nat) : Int) L n q) r := by
  induction d with
  | zero =>
    intro i h1 hl
    obtain rfl : i = s := by omega
    have b1 : a + i < 1000000000000 := by omega
    have b2 : ¬ ((a + i : Nat) : Int) < ((a + i : Nat) : Int) := by omega
    have b3 : out.length < 8796093022208 := by omega
    refine ev_shift ?_
    simp only [spec_l12Fill.l2]
    rw [wadd a i b1]
    refine ev_neg b2 (ev_pos b3 ?_)
    have := Hok hl
    unfold raise at this
    simpa using this
  | succ d ih =>
    intro i h1 hl
    have q1 : ((a + i : Nat) : Int) < ((a + s : Nat) : Int) := by omega
    have q2 : (0 : Int) ≤ ((a + i : Nat) : Int) := Int.natCast_nonneg _
    have hlt : a + i < T.length := by omega
    have q3 : ((a + i : Nat) : Int) < (w : Int) := by omega
    have hta : (T.take a).length = a := by rw [List.length_take]; omega
    have hX : (T.take a ++ (List.replicate i (v + (s : Int)) ++ T.drop (a + i))).length = w := by
      rw [List.length_append, List.length_append, List.length_take, List.length_replicate, List.length_drop]; omega
    have b1 : a + s < 1000000000000 := by omega
    have b2 : a + i < 1000000000000 := by omega
    have b3 : -1000000000000 ≤ v + (s : Int) ∧ v + (s : Int) ≤ 1000000000000 := by omega
    have b4 : i + 1 + d = s := by omega
    have b5 : i + 1 ≤ s := by omega
    have el : (T.take a ++ List.replicate i (v + (s : Int))).length = a + i := by rw [List.length_append, hta, List.length_replicate]
    have ed : T.drop (a + i) = T.getD (a + i) 0 :: T.drop (a + (i + 1)) := by
      rw [List.drop_eq_getElem_cons hlt, List.getD_eq_getElem?_getD, List.getElem?_eq_getElem hlt]; rfl
    have eT : T.take a ++ (List.replicate i (v + (s : Int)) ++ T.drop (a + i)) = (T.take a ++ List.replicate i (v + (s : Int))) ++ T.getD (a + i) 0 :: T.drop (a + (i + 1)) := by
      rw [← List.append_assoc, ← ed]
    have e3 : rd (T.take a ++ (List.replicate i (v + (s : Int)) ++ T.drop (a + i))) ((a + i : Nat) : Int) = T.getD (a + i) 0 := by
      have := rd_mid (T.take a ++ List.replicate i (v + (s : Int))) (T.drop (a + (i + 1))) (T.getD (a + i) 0)
      rw [el, ← eT] at this; exact this
    have e4 : (T.take a ++ (List.replicate i (v + (s : Int)) ++ T.drop (a + i))).set (((a + i : Nat) : Int)).toNat (v + (s : Int)) = T.take a ++ (List.replicate (i + 1) (v + (s : Int)) ++ T.drop (a + (i + 1))) := by
      rw [Int.toNat_natCast, eT, List.set_append_right _ _ (by rw [el]; exact Nat.le_refl _), el, Nat.sub_self]
      rw [List.replicate_succ']; simp
    refine ev_shift ?_
    simp only [spec_l12Fill.l2]
    rw [wadd a s b1, wsucc (a + i) b2, e3, wsmall _ b3, e4, hX]
    refine ev_pos q1 (ev_pos q2 (ev_pos q3 ?_))
    by_cases c : T.getD (a + i) 0 = v
    · exact ev_pos c (ih (i + 1) b4 (lies_succ.mpr ⟨hl, hlt, c⟩))
    · refine ev_neg c (ev_eq (ev_now _) (Hbad (fun z => ?_)).symm)
      have : lies T a (i + 1) v := lies_mono b5 z
      exact c (lies_succ.mp this).2.2
theorem isFM_next (pre : List Int) (a : Nat) (v t : Int) (hf : isFM pre a v) : (t < v → isFM (pre ++ [t]) pre.length t) ∧ (¬ t < v → isFM (pre ++ [t]) a v) := by
  obtain ⟨f1, f2, f3⟩ := hf
  have hl : (pre ++ [t]).length = pre.length + 1 := by simp
  have gm : (pre ++ [t]).getD pre.length 0 = t := getD_mid pre [] t
  have ga : ∀ j, j < pre.length → (pre ++ [t]).getD j 0 = pre.getD j 0 := fun j hj => getD_app pre [] t j hj
  constructor
  · intro c
    refine ⟨by omega, gm, fun j hj => ?_⟩
    rw [hl] at hj
    rcases Nat.lt_or_ge j pre.length with g | g
    · rw [ga j g]; have := f3 j g; omega
    · obtain rfl : j = pre.length := by omega
      rw [gm]; omega
  · intro c
    refine ⟨by omega, by rw [ga a f1]; exact f2, fun j hj => ?_⟩
    rw [hl] at hj
    rcases Nat.lt_or_ge j pre.length with g | g
    · rw [ga j g]; exact f3 j g
    · obtain rfl : j = pre.length := by omega
      rw [gm]; omega
theorem spec_fill_l1 (w : Nat) (hw : w ≤ 40) (h : Int) (T : List Int) (hT : T.length = w) (out : List S57) (s : Int) (L : List Int) (n q : Int) (r : List S57 × Bool)
    (H : ∀ a v, isFM T a v → Ev (fun k => spec_l12Fill.l1 k (w : Int) h T out s (a : Int) L n q (w : Int) (w : Int)) r) : ∀ (suf pre : List Int) (a : Nat) (v : Int), T = pre ++ suf → isFM pre a v →
    Ev (fun k => spec_l12Fill.l1 k (w : Int) h T out s (a : Int) L n q (w : Int) (pre.length : Int)) r := by
  intro suf
  induction suf with
  | nil =>
    intro pre a v hp hf
    obtain rfl : T = pre := by simp [hp]
    rw [hT]
    exact H a v hf
  | cons t suf ih =>
    intro pre a v hp hf
    have hlen : T.length = pre.length + (suf.length + 1) := by subst hp; simp
    have f1 := hf.1
    have c1 : (pre.length : Int) < (w : Int) := by omega
    have c3 : (pre.length : Int) < (T.length : Int) := by omega
    have c5 : (a : Int) < (T.length : Int) := by omega
    have c6 : pre.length < 1000000 := by omega
    have ha : rd T (pre.length : Int) = t := by subst hp; exact rd_mid pre suf t
    have hv : rd T (a : Int) = v := by
      rw [rdi_at, ← hf.2.1]
      subst hp
      exact getD_app pre suf t a f1
    refine ev_shift ?_
    simp only [spec_l12Fill.l1]
    rw [ha, hv, next_len pre t c6]
    refine ev_pos c1 (ev_pos (Int.natCast_nonneg _) (ev_pos c3 (ev_pos (Int.natCast_nonneg _) (ev_pos c5 ?_))))
    by_cases c : t < v
    · exact ev_pos c (ih (pre ++ [t]) pre.length t (by rw [hp]; simp) ((isFM_next pre a v t hf).1 c))
    · exact ev_neg c (ih (pre ++ [t]) a v (by rw [hp]; simp) ((isFM_next pre a v t hf).2 c))
theorem spec_fill_l3 (h : Int) (out : List S57) (T : List Int) (hT : T.length ≤ 1000) : ∀ (suf pre : List Int), T = pre ++ suf → Ev (fun k => spec_l12Fill.l3 k h out T (T.length : Int) (pre.length : Int)) (if (∀ x ∈ suf, x = h) then (out, true) else ([], false)) := by
  intro suf
  induction suf with
  | nil =>
    intro pre hp
    refine ev_shift ?_
    simp only [spec_l12Fill.l3]
    exact ev_neg (by subst hp; simp) (ev_eq (ev_now _) (by simp))
  | cons t suf ih =>
    intro pre hp
    have hlen : T.length = pre.length + (suf.length + 1) := by subst hp; simp
    have ha : rd T (pre.length : Int) = t := by subst hp; exact rd_mid pre suf t
    refine ev_shift ?_
    simp only [spec_l12Fill.l3]
    rw [ha, next_len pre t (by omega)]
    refine ev_pos (by omega) (ev_pos (by omega) (ev_pos (by omega) ?_))
    by_cases c : t = h
    · refine ev_pos c (ev_eq (ih (pre ++ [t]) (by simp [hp])) ?_)
      simp [c]
    · refine ev_neg c (ev_eq (ev_now _) ?_)
      simp [c]
/-- What the reference's filling answers from a state on. -/
def fillS (h : Int) (l T : List Int) (out : List S57) : List S57 × Bool :=
  match lay h l T out with
  | some (o, T') => if (∀ x ∈ T', x = h) then (o, true) else ([], false)
  | none => ([], false)
theorem spec_fill_l0 (w : Nat) (hw : 1 ≤ w ∧ w ≤ 40) (h : Int) (hh : 1 ≤ h ∧ h ≤ 40) (L : List Int) (hL : L.length ≤ 40) (hs : ∀ s ∈ L, 1 ≤ s ∧ s ≤ 40) : ∀ (suf pre : List Int) (T : List Int) (out : List S57), L = pre ++ suf → T.length = w → (∀ x ∈ T, 0 ≤ x ∧ x ≤ h) → out.length ≤ pre.length →
    Ev (fun k => spec_l12Fill.l0 k (w : Int) h T out L (L.length : Int) (pre.length : Int)) (fillS h suf T out) := by
  intro suf
  induction suf with
  | nil =>
    intro pre T out hp hT hr ho
    refine ev_shift ?_
    simp only [spec_l12Fill.l0]
    refine ev_neg (by subst hp; simp) ?_
    exact spec_fill_l3 h out T (by omega) T [] rfl
  | cons s suf ih =>
    intro pre T out hp hT hr ho
    have h0 : T ≠ [] := fun z => by rw [z] at hT; simp at hT; omega
    have hFM := fm_isFM T h0
    have f1 := hFM.1
    have hlen : L.length = pre.length + (suf.length + 1) := by subst hp; simp
    have ha : rd L (pre.length : Int) = s := by subst hp; exact rd_mid pre suf s
    have c := hs s (by subst hp; simp)
    have hv := hr _ (fm_mem T h0)
    have en : wrap64 ((pre.length : Int) + 1) = ((pre ++ [s]).length : Int) := next_len pre s (by omega)
    refine ev_shift ?_
    simp only [spec_l12Fill.l0]
    rw [ha, hT]
    refine ev_pos (by omega) (ev_pos (by omega) (ev_pos (by omega) ?_))
    have main : ∀ a v, isFM T a v → Ev (fun k => spec_l12Fill.l1 k (w : Int) h T out s (a : Int) L (L.length : Int) (pre.length : Int) (w : Int) (w : Int)) (fillS h (s :: suf) T out) := by
      intro a v hf
      obtain ⟨ea, ev⟩ := isFM_uniq hf hFM
      rw [← ea] at f1
      rw [← ev] at hv
      obtain ⟨S, hS⟩ := Int.eq_ofNat_of_zero_le (show 0 ≤ s by omega)
      have hst : s.toNat = S := by omega
      have hva : rd T (a : Int) = v := by rw [rdi_at]; exact hf.2.1
      refine ev_shift ?_
      simp only [spec_l12Fill.l1]
      rw [hva, hT, w64 (n := v + s) (by omega) (by omega), w64 (n := (a : Int) + s) (by omega) (by omega)]
      refine ev_neg (by omega) (ev_pos (by omega) (ev_pos (by omega) ?_))
      have bad : (¬ (lies T a S v ∧ v + s ≤ h)) → fillS h (s :: suf) T out = ([], false) := by
        intro z
        unfold fillS
        simp only [lay]
        rw [← ea, ← ev, hst, if_neg (fun y => z y.2)]
      by_cases c1 : v + s > h
      · refine ev_pos c1 (ev_shift ?_)
        simp only [spec_l12Fill.j2]
        exact ev_pos (by simp) (ev_eq (ev_now _) (bad (by omega)).symm)
      · refine ev_neg c1 (ev_shift ?_)
        simp only [spec_l12Fill.j2]
        by_cases c2 : (a : Int) + s > (w : Int)
        · refine ev_pos (by simpa using c2) (ev_eq (ev_now _) (bad (fun z => ?_)).symm)
          have := (lies_split z.1 (by omega)).2
          omega
        · refine ev_neg (by simpa using c2) ?_
          rw [hS]
          have := spec_fill_l2 w hw.2 h T hT out (by omega) S (by omega) v (by omega) a (by omega) L (L.length : Int) (pre.length : Int) (fillS h (s :: suf) T out) (fun hl => by
              have eF : fillS h (s :: suf) T out = fillS h suf (raise T a S (v + (S : Int))) (out ++ [⟨(a : Int), v⟩]) := by
                unfold fillS
                simp only [lay]
                rw [← ea, ← ev, hst, if_pos ⟨c, hl, by omega⟩, hS]
              rw [eF, en]
              exact ih (pre ++ [s]) _ _ (by simp [hp]) (by rw [← hT]; exact raise_len hl (by omega)) (raise_mem hr (by omega)) (by simp; omega)) (fun hl => bad (fun z => hl z.1)) S 0 (by omega) (lies_zero _ _ _)
          have e0 : T.take a ++ (List.replicate 0 (v + (S : Int)) ++ T.drop (a + 0)) = T := by simp
          rw [e0] at this
          rw [hS] at this
          exact this
    match T, h0, hT, main with
    | t :: ts, _, hT, main =>
      refine ev_shift ?_
      simp only [spec_l12Fill.l1]
      have e0 : (t :: ts).length = w := hT
      rw [e0]
      refine ev_pos (by omega) (ev_pos (by omega) (ev_pos (by omega) (ev_pos (by omega) (ev_pos (by omega) (ev_neg (by omega) ?_)))))
      have := spec_fill_l1 w hw.2 h (t :: ts) hT out s L (L.length : Int) (pre.length : Int) _ main ts [t] 0 t rfl ⟨by simp, rfl, fun j hj => by
        obtain rfl : j = 0 := by simp at hj; omega
        simp⟩
      have e1 : wrap64 (0 + 1) = ((1 : Nat) : Int) := by rw [wsmall _ (by omega)]; rfl
      rw [e1]
      exact this
def cornersP (w h : Int) (l : List Int) : List S57 × Bool :=
  if (1 ≤ w ∧ w ≤ 40) ∧ (1 ≤ h ∧ h ≤ 40) ∧ l.length ≤ 40 then fillS h l (List.replicate w.toNat 0) [] else ([], false)
theorem lay_bad (h : Int) : ∀ (l T : List Int) (out : List S57), ¬ (∀ s ∈ l, 1 ≤ s ∧ s ≤ 40) → lay h l T out = none := by
  intro l
  induction l with
  | nil => intro T out hb; exact absurd (fun s hs => by cases hs) hb
  | cons s l ih =>
    intro T out hb
    simp only [lay]
    by_cases c : (1 ≤ s ∧ s ≤ 40) ∧ lies T (fm T).1 s.toNat (fm T).2 ∧ (fm T).2 + s ≤ h
    · rw [if_pos c]
      refine ih _ _ (fun z => hb (fun u hu => ?_))
      rcases List.mem_cons.mp hu with rfl | hu
      · exact c.1
      · exact z u hu
    · rw [if_neg c]
theorem lay_inv (h : Int) (w : Nat) (hw : 1 ≤ w) : ∀ (l T : List Int) (out : List S57) (o : List S57) (T' : List Int), T.length = w → (∀ x ∈ T, 0 ≤ x ∧ x ≤ h) → lay h l T out = some (o, T') → T'.length = w ∧ (∀ x ∈ T', 0 ≤ x ∧ x ≤ h) ∧ o.length = out.length + l.length := by
  intro l
  induction l with
  | nil =>
    intro T out o T' h1 h2 h3
    simp only [lay, Option.some.injEq, Prod.mk.injEq] at h3
    obtain ⟨rfl, rfl⟩ := h3
    exact ⟨h1, h2, by simp⟩
  | cons s l ih =>
    intro T out o T' h1 h2 h3
    have h0 : T ≠ [] := fun z => by rw [z] at h1; simp at h1; omega
    have hv := h2 _ (fm_mem T h0)
    have f1 := (fm_isFM T h0).1
    simp only [lay] at h3
    by_cases c : (1 ≤ s ∧ s ≤ 40) ∧ lies T (fm T).1 s.toNat (fm T).2 ∧ (fm T).2 + s ≤ h
    · rw [if_pos c] at h3
      obtain ⟨a, b, e⟩ := ih _ _ o T' (by rw [← h1]; exact raise_len c.2.1 (by omega)) (raise_mem h2 (by omega)) h3
      refine ⟨a, b, ?_⟩
      rw [e]; simp; omega
    · rw [if_neg c] at h3; cases h3
theorem fill_same (h : Int) (w : Nat) (hw : 1 ≤ w) (l T : List Int) (hT : T.length = w) (hr : ∀ x ∈ T, 0 ≤ x ∧ x ≤ h) : (fillI h l T []).2 = (fillS h l T []).2 ∧ ((fillI h l T []).2 = true → (fillI h l T []).1 = (fillS h l T []).1) ∧ ((fillS h l T []).2 = false → (fillS h l T []).1 = []) ∧ (fillS h l T []).1.length ≤ l.length := by
  unfold fillI fillS
  match e : lay h l T [] with
  | none => simp
  | some (o, T') =>
    obtain ⟨a, b, el⟩ := lay_inv h w hw l T [] o T' hT hr e
    have h0 : T' ≠ [] := fun z => by rw [z] at a; simp at a; omega
    obtain ⟨f1, f2, f3⟩ := fm_isFM T' h0
    have hm := fm_mem T' h0
    by_cases c : ∀ x ∈ T', x = h
    · simp only [if_pos c]
      have : (fm T').2 = h := c _ hm
      simp [this, el]
    · simp only [if_neg c]
      have : (fm T').2 ≠ h := by
        intro z
        apply c
        intro x hx
        obtain ⟨j, hj, rfl⟩ := List.mem_iff_getElem.mp hx
        have q := (f3 j hj).1
        rw [List.getD_eq_getElem?_getD, List.getElem?_eq_getElem hj] at q
        have q2 := (b _ hx).2
        have q3 : (fm T').2 ≤ T'[j] := q
        omega
      simp [this]
theorem corners_facts (w h : Int) (l : List Int) : (fillP w h l).2 = (cornersP w h l).2 ∧ ((fillP w h l).2 = true → (fillP w h l).1 = (cornersP w h l).1) ∧ ((cornersP w h l).2 = false → (cornersP w h l).1 = []) ∧ (cornersP w h l).1.length ≤ l.length := by
  unfold fillP cornersP
  by_cases c : (1 ≤ w ∧ w ≤ 40) ∧ (1 ≤ h ∧ h ≤ 40) ∧ l.length ≤ 40
  · rw [if_pos c, if_pos c]
    exact fill_same h w.toNat (by omega) l _ (by simp) (fun x hx => by rw [(List.mem_replicate.mp hx).2]; omega)
  · rw [if_neg c, if_neg c]; simp
theorem spec_corners (w h : Int) (l : List Int) : Ev (fun k => spec_CornersOf.f k w h l) (cornersP w h l) := by
  unfold spec_CornersOf.f cornersP
  have okj : l.length ≤ 40 → Ev (fun k => spec_l12Ok.j0 k l false) (decide (∀ s ∈ l, 1 ≤ s ∧ s ≤ 40)) := by
    intro hl
    refine ev_shift ?_
    simp only [spec_l12Ok.j0]
    exact ev_neg (by simp) (l12Ok_from l (by omega) l [] rfl)
  have bad : Ev (fun k => spec_l12Ok.j0 k l true) false := by
    refine ev_shift ?_
    simp only [spec_l12Ok.j0]
    exact ev_pos (by simp) (ev_now _)
  by_cases c : (1 ≤ w ∧ w ≤ 40) ∧ (1 ≤ h ∧ h ≤ 40) ∧ l.length ≤ 40
  · rw [if_pos c]
    have hok : Ev (fun k => spec_l12Ok.f k w h l) (decide (∀ s ∈ l, 1 ≤ s ∧ s ≤ 40)) := by
      unfold spec_l12Ok.f
      refine ev_bind0 (in_eq _ _ _) (ev_pos (decide_eq_true c.1) (ev_bind0 (in_eq _ _ _) (ev_pos (decide_eq_true c.2.1) ?_)))
      rw [decide_eq_false (by omega)]; exact okj c.2.2
    refine ev_bind hok ?_
    by_cases g : ∀ s ∈ l, 1 ≤ s ∧ s ≤ 40
    · refine ev_pos (decide_eq_true g) (ev_bind ?_ (ev_now _))
      obtain ⟨W, rfl⟩ := Int.eq_ofNat_of_zero_le (show 0 ≤ w by omega)
      unfold spec_l12Fill.f
      refine ev_pos (by omega) (ev_pos (by omega) ?_)
      exact spec_fill_l0 W (by omega) h c.2.1 l c.2.2 g l [] _ [] rfl (by simp) (fun x hx => by rw [(List.mem_replicate.mp hx).2]; omega) (by simp)
    · refine ev_neg (fun z => g (of_decide_eq_true z)) (ev_eq (ev_now _) ?_)
      unfold fillS
      rw [lay_bad h l _ _ g]
  · rw [if_neg c]
    refine ev_bind (a := false) ?_ (ev_neg (by simp) (ev_now _))
    unfold spec_l12Ok.f
    refine ev_bind0 (in_eq _ _ _) ?_
    by_cases c1 : 1 ≤ w ∧ w ≤ 40
    · refine ev_pos (decide_eq_true c1) (ev_bind0 (in_eq _ _ _) ?_)
      by_cases c2 : 1 ≤ h ∧ h ≤ 40
      · refine ev_pos (decide_eq_true c2) ?_
        rw [decide_eq_true (by have : ¬ l.length ≤ 40 := fun z => c ⟨c1, c2, z⟩; omega)]
        exact bad
      · exact ev_neg (fun z => c2 (of_decide_eq_true z)) bad
    · exact ev_neg (fun z => c1 (of_decide_eq_true z)) bad
theorem rd_at (l : List Int) (i : Nat) : rd l (i : Int) = l.getD i 0 := by simp [rd]
theorem eqIntS_from (l : List Int) (hl : (l.length : Int) ≤ 4611686018427387904) (d : Nat) : ∀ i : Int, 0 ≤ i → (l.length : Int) - i ≤ d → Ev (fun k => laws_eqIntS.l0 k l l i) true := by
  induction d with
  | zero =>
    intro i h0 hd
    refine ev_shift ?_
    simp only [laws_eqIntS.l0]
    exact ev_neg (by omega) (ev_now _)
  | succ d ih =>
    intro i h0 hd
    refine ev_shift ?_
    simp only [laws_eqIntS.l0, if_true]
    by_cases hi : i < (l.length : Int)
    · refine ev_pos hi (ev_pos h0 (ev_pos hi ?_))
      rw [w64 (by omega) (by omega)]
      exact ih _ (by omega) (by omega)
    · exact ev_neg hi (ev_now _)
theorem eqIntS_refl (l : List Int) (hl : (l.length : Int) ≤ 4611686018427387904) : Ev (fun k => laws_eqIntS.f k l l) true := by
  unfold laws_eqIntS.f
  exact ev_pos rfl (eqIntS_from l hl l.length 0 (by omega) (by omega))
theorem toIntS_from (l : List Int) (hl : l.length ≤ 1048576) (d : Nat) : ∀ (x : List Int) (i : Nat), x.length = l.length → l.length - i ≤ d → i ≤ l.length → (∀ j, j < i → x[j]? = l[j]?) →
    Ev (fun k => laws_toIntS.l0 k l x i) l := by
  induction d with
  | zero =>
    intro x i hx hd hi hm
    refine ev_shift ?_
    simp only [laws_toIntS.l0]
    have e : x = l := by
      apply List.ext_getElem?
      intro j
      by_cases hj : j < i
      · exact hm j hj
      · rw [List.getElem?_eq_none (by omega), List.getElem?_eq_none (by omega)]
    exact ev_neg (by omega) (ev_eq (ev_now _) e)
  | succ d ih =>
    intro x i hx hd hi hm
    refine ev_shift ?_
    simp only [laws_toIntS.l0]
    by_cases h : i < l.length
    · refine ev_pos (by omega) (ev_pos (by omega) (ev_pos (by omega) ?_))
      rw [w64 (by omega) (by omega)]
      have e2 : ((i : Int) + 1) = ((i + 1 : Nat) : Int) := by omega
      have e3 : ((i : Int)).toNat = i := by omega
      rw [e2, e3, rd_at]
      refine ih _ (i + 1) (by simpa using hx) (by omega) (by omega) ?_
      intro j hj
      rw [List.getElem?_set]
      by_cases e : i = j
      · subst e
        rw [if_pos rfl, if_pos (by omega), List.getD_eq_getElem?_getD, List.getElem?_eq_getElem h]
        rfl
      · rw [if_neg e]; exact hm j (by omega)
    · have e : x = l := by
        apply List.ext_getElem?
        intro j
        by_cases hj : j < i
        · exact hm j hj
        · rw [List.getElem?_eq_none (by omega), List.getElem?_eq_none (by omega)]
      exact ev_neg (by omega) (ev_eq (ev_now _) e)
theorem toIntS_ev (l : List Int) (hl : l.length ≤ 1048576) : Ev (fun k => laws_toIntS.f k l) l := by
  unfold laws_toIntS.f
  refine ev_pos (by omega) (ev_pos (by omega) ?_)
  exact toIntS_from l hl l.length _ 0 (by simp) (by omega) (by omega) (fun j hj => by omega)
theorem held_tail (l : List Int) (hl : l.length ≤ 1048576) :
    Ev (fun k => (laws_toIntS.f k l).bind fun t1 => ((laws_eqIntS.f k l t1).bind fun t2 => (if t2 = true then (some true) else (some false)))) true :=
  ev_bind (toIntS_ev l hl) (ev_bind (eqIntS_refl l (by omega)) (ev_pos rfl (ev_now _)))
theorem perfect_l1 (l : List Int) (a : Int) (n i : Int) (p : List Int) (hp : p.length ≤ 1048576) (r : Bool) (hin : a ∈ p → r = false) (hout : a ∉ p → Ev (fun k => spec_IsPerfect.l0 k l l n (wrap64 (i + 1))) r) :
    ∀ (s q : List Int), p = q ++ s → a ∉ q → Ev (fun k => spec_IsPerfect.l1 k l a l n i p (p.length : Int) (q.length : Int)) r := by
  intro s
  induction s with
  | nil =>
    intro q h hq
    obtain rfl : p = q := by simp [h]
    refine ev_shift ?_
    simp only [spec_IsPerfect.l1]
    exact ev_neg (by omega) (hout hq)
  | cons b s ih =>
    intro q h hq
    have hlen : p.length = q.length + (s.length + 1) := by subst h; simp
    have hr : rd p (q.length : Int) = b := by subst h; exact rd_mid q s b
    refine ev_shift ?_
    simp only [spec_IsPerfect.l1]
    refine ev_pos (by omega) (ev_pos (by omega) (ev_pos (by omega) ?_))
    rw [hr]
    by_cases e : a = b
    · exact ev_pos e (ev_eq (ev_now _) (hin (by subst h; simp [e])).symm)
    · refine ev_neg e ?_
      rw [wsucc _ (by omega)]
      have := ih (q ++ [b]) (by simp [h]) (by simp [hq, e])
      simpa using this
theorem perfect_l0 (l : List Int) (hl : l.length ≤ 1048576) : ∀ (s p : List Int), l = p ++ s → p.Nodup →
    Ev (fun k => spec_IsPerfect.l0 k l l (l.length : Int) (p.length : Int)) (decide l.Nodup) := by
  intro s
  induction s with
  | nil =>
    intro p h hp
    obtain rfl : l = p := by simp [h]
    refine ev_shift ?_
    simp only [spec_IsPerfect.l0]
    exact ev_neg (by omega) (ev_eq (ev_now _) (by simp [hp]))
  | cons a s ih =>
    intro p h hp
    have hlen : l.length = p.length + (s.length + 1) := by subst h; simp
    have hr : rd l (p.length : Int) = a := by subst h; exact rd_mid p s a
    have ht : l.take ((p.length : Int)).toNat = p := by subst h; simp
    refine ev_shift ?_
    simp only [spec_IsPerfect.l0]
    refine ev_pos (by omega) (ev_pos (by omega) (ev_pos (by omega) (ev_pos (by omega) ?_)))
    rw [hr, ht]
    refine perfect_l1 l a _ _ p (by omega) _ (fun g => ?_) (fun g => ?_) p [] (by simp) (by simp)
    · refine decide_eq_false (fun hn => ?_)
      subst h
      have := (List.nodup_append.mp hn).2.2 a g a (by simp)
      exact this rfl
    · rw [wsucc _ (by omega)]
      have := ih (p ++ [a]) (by simp [h]) (by
        rw [List.nodup_append]
        refine ⟨hp, by simp, fun x hx y hy => ?_⟩
        simp at hy
        subst hy
        exact fun e => g (e ▸ hx))
      simpa using this
theorem keeps_len (d : Array Int) : ∀ m, (Lib.compactUpTo d m).length ≤ m ∧ ((Lib.compactUpTo d m).length = m → ∀ j, j < m → Lib.keeps d j = true) := by
  intro m
  induction m with
  | zero => exact ⟨by simp [Lib.compactUpTo], fun _ j hj => by omega⟩
  | succ m ih =>
    rw [Lib.compactUpTo_succ]
    refine ⟨?_, fun h j hj => ?_⟩
    · rw [List.length_append]
      have : (if Lib.keeps d m then [d[m]!] else []).length ≤ 1 := by split <;> simp
      omega
    · rw [List.length_append] at h
      by_cases c : Lib.keeps d m = true
      · rw [if_pos c] at h
        simp at h
        rcases Nat.lt_or_ge j m with g | g
        · exact ih.2 h j g
        · obtain rfl : j = m := by omega
          exact c
      · rw [if_neg c] at h
        simp at h
        have := ih.1
        omega
theorem sorted_compact (l : List Int) (hs : l.Pairwise (fun a b => a ≤ b)) : (Lib.compact l).length = l.length ↔ l.Nodup := by
  constructor
  · intro h
    have hk := (keeps_len l.toArray l.length).2 h
    have hlt : l.Pairwise (fun a b => a < b) := by
      rw [List.pairwise_iff_getElem]
      intro i j hi hj hij
      have h1 : l[j] ≠ l[j - 1] := by
        have := hk j hj
        simp [Lib.keeps] at this
        rcases this with g | g
        · omega
        · simpa [List.getElem?_eq_getElem hj, List.getElem?_eq_getElem (show j - 1 < l.length by omega)] using g
      have h2 : l[j - 1] ≤ l[j] := by
        rw [List.pairwise_iff_getElem] at hs
        exact hs _ _ _ _ (by omega)
      have h3 : l[i] ≤ l[j - 1] := by
        rcases Nat.lt_or_ge i (j - 1) with g | g
        · rw [List.pairwise_iff_getElem] at hs
          exact hs _ _ _ _ g
        · obtain rfl : i = j - 1 := by omega
          exact Int.le_refl _
      omega
    exact hlt.imp (fun h e => by omega)
  · intro h
    rw [Lib.compact_all l (fun j hj => ?_)]
    simp only [Lib.keeps, decide_eq_true_eq]
    rcases Nat.eq_zero_or_pos j with g | g
    · exact .inl g
    · refine .inr ?_
      have h1 := (List.pairwise_iff_getElem.mp h) (j - 1) j (by omega) hj (by omega)
      simpa [List.getElem?_eq_getElem hj, List.getElem?_eq_getElem (show j - 1 < l.length by omega)] using fun e => h1 e.symm
theorem perfect_sort (l : List Int) : decide (((Lib.compact (l.mergeSort fun x y => decide (x ≤ y))).length : Int) = (l.length : Int)) = decide l.Nodup := by
  have hp : (l.mergeSort fun x y => decide (x ≤ y)).Perm l := List.mergeSort_perm l _
  have hs : (l.mergeSort fun x y => decide (x ≤ y)).Pairwise (fun a b => a ≤ b) := by
    have := List.pairwise_mergeSort (le := fun x y : Int => decide (x ≤ y)) (by intro a b c; simp; omega) (by intro a b; simp; omega) l
    exact this.imp (fun h => by simpa using h)
  have := sorted_compact _ hs
  rw [hp.length_eq, hp.nodup_iff] at this
  rw [decide_eq_decide, ← this]
  omega
theorem FnExactIsPerfect : laws_FnExactIsPerfect.Pure := by
  intro w h l _ _ _ _ _
  apply ev_rounds
  unfold laws_FnExactIsPerfect.f
  by_cases hl : (l.length : Int) > 1048576
  · exact ev_pos hl (ev_now _)
  have tl := toIntS_ev l (by omega)
  have hs : Ev (fun k => spec_IsPerfect.f k w h l) (if (cornersP w h l).2 = true then decide l.Nodup else false) := by
    unfold spec_IsPerfect.f
    have h0 : Ev (fun k => spec_IsSquared.f k w h l) (cornersP w h l).2 := by
      unfold spec_IsSquared.f
      exact ev_bind (spec_corners w h l) (ev_now _)
    refine ev_bind h0 ?_
    by_cases c : (cornersP w h l).2 = true
    · exact ev_pos c (ev_eq (perfect_l0 l (by omega) l [] (by simp) (by simp)) (by rw [if_pos c]))
    · exact ev_neg c (ev_eq (ev_now _) (by rw [if_neg c]))
  have hi : Ev (fun k => impl_IsPerfect.f k w h l) (if (cornersP w h l).2 = true then decide l.Nodup else false) := by
    unfold impl_IsPerfect.f
    have h0 : Ev (fun k => impl_IsSquared.f k w h l) (cornersP w h l).2 := by
      unfold impl_IsSquared.f
      exact ev_bind (impl_fill_ev w h l) (ev_eq (ev_now _) (corners_facts w h l).1)
    refine ev_pos (by omega) (ev_bind h0 ?_)
    by_cases c : (cornersP w h l).2 = true
    · exact ev_pos c (ev_eq (ev_now _) (by rw [if_pos c, perfect_sort]))
    · exact ev_neg c (ev_eq (ev_now _) (by rw [if_neg c]))
  exact ev_neg hl (ev_bind tl (ev_bind hs (ev_bind tl (ev_bind hi (ev_neg (by simp) (held_tail l (by omega)))))))

end Go.Proofs.Ytlcchgkidenbpaa.Pure
