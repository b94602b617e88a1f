/- AddMeasures of the program and of the reference answer alike, for all rows of rows; the rows handed back are marked, and hold their marks. -/
import Derived.Test.YtomfkafbiliblaaQFnExactAddMeasuresx11
namespace Go.Proofs.Ytomfkafbiliblaa.Pure
open Go.RowKit Go.Proofs.Ytomfkafbiliblaa.QFnExactAddMeasures Go.Proofs.YtomfkafbiliblaaW.PrintWords Go.Proofs.YtomfkafbiliblaaW.PrintLast Go.Proofs.YtomfkafbiliblaaW.PrintMore
set_option linter.unusedVariables false
set_option linter.unusedSimpArgs false

/- Eventually: with enough rounds the answer is r. -/
theorem ev_now {α : Type} (r : α) : Ev (fun _ => some r) r := Ev.now r
theorem ev_shift {α : Type} {g : Nat → Option α} {r : α} (h : Ev (fun k => g (k + 1)) r) : Ev g r := by
  obtain ⟨K, hK⟩ := h
  exact ⟨K + 1, fun k hk => by
    obtain ⟨m, rfl⟩ : ∃ m, k = m + 1 := ⟨k - 1, by omega⟩
    exact hK m (by omega)⟩
theorem ev_bind {α β : Type} {g : Nat → Option α} {f : Nat → α → Option β} {a : α} {r : β} (h : Ev g a) (k : Ev (fun n => f n a) r) : Ev (fun n => (g n).bind (f n)) r := Ev.bind h k
theorem ev_bind0 {α β : Type} {o : Option α} {f : Nat → α → Option β} {a : α} {r : β} (h : o = some a) (k : Ev (fun n => f n a) r) : Ev (fun n => o.bind (f n)) r := by
  subst h; exact k
theorem ev_pos {α : Type} {A B : Nat → Option α} {r : α} {c : Prop} [Decidable c] (h : c) (k : Ev A r) : Ev (fun n => if c then A n else B n) r := by
  simpa only [if_pos h] using k
theorem ev_neg {α : Type} {A B : Nat → Option α} {r : α} {c : Prop} [Decidable c] (h : ¬ c) (k : Ev B r) : Ev (fun n => if c then A n else B n) r := by
  simpa only [if_neg h] using k
theorem ev_done {α : Type} {o : Option α} {r : α} (h : o = some r) : Ev (fun _ => o) r := ⟨0, fun _ _ => h⟩
theorem ev_eq {α : Type} {g : Nat → Option α} {r r' : α} (h : Ev g r) (e : r = r') : Ev g r' := e ▸ h
theorem ev_rounds {α : Type} {g : Nat → Option α} {r : α} (h : Ev g r) : ∃ k, g k = some r := Ev.rounds h
theorem ev_uniq {α : Type} {g : Nat → Option α} {r r' : α} (h : Ev g r) (h' : Ev g r') : r = r' := by
  obtain ⟨K, hK⟩ := h
  obtain ⟨K', hK'⟩ := h'
  have a := hK (max K K') (Nat.le_max_left _ _)
  have b := hK' (max K K') (Nat.le_max_right _ _)
  rw [a] at b
  exact Option.some.inj b
theorem wf64 {n : Int} (h : (Lit.int .i64 n).wf = true) : -9223372036854775808 ≤ n ∧ n ≤ 9223372036854775807 := by
  have a : IntKind.i64.min = -9223372036854775808 := rfl
  have b : IntKind.i64.max = 9223372036854775807 := rfl
  simp [Lit.wf] at h
  omega
theorem w64 {n : Int} (h : -9223372036854775808 ≤ n) (h' : n ≤ 9223372036854775807) : wrap64 n = n := by
  unfold wrap64; omega
theorem wadd (a b : Nat) (h : a + b < 1000000000000) : wrap64 ((a : Int) + (b : Int)) = ((a + b : Nat) : Int) := by
  rw [w64 (by omega) (by omega)]; omega
theorem wsucc (a : Nat) (h : a < 1000000000000) : wrap64 ((a : Int) + 1) = ((a + 1 : Nat) : Int) := by
  rw [w64 (by omega) (by omega)]; omega
theorem wsmall (n : Int) (h : -1000000000000 ≤ n ∧ n ≤ 1000000000000) : wrap64 n = n := w64 (by omega) (by omega)
theorem gcd_loop (y : Nat) : ∀ x : Nat, Ev (fun k => spec_l02Gcd.l0 k (x : Int) (y : Int)) ((Nat.gcd x y : Nat) : Int) := by
  induction y using Nat.strongRecOn with
  | _ y ih =>
    intro x
    refine ev_shift ?_
    simp only [spec_l02Gcd.l0]
    by_cases h : y = 0
    · subst h
      exact ev_neg (by omega) (ev_eq (ev_now _) (by rw [Nat.gcd_zero_right]))
    · refine ev_pos (by omega) (ev_neg (by omega) ?_)
      have hlt := Nat.mod_lt x (Nat.pos_of_ne_zero h)
      have g := ih (x % y) hlt y
      rw [show Int.tmod (x : Int) (y : Int) = ((x % y : Nat) : Int) from rfl]
      rw [show Nat.gcd x y = Nat.gcd y (x % y) from by rw [Nat.gcd_comm x y, Nat.gcd_rec y x, Nat.gcd_comm]]
      exact g
theorem gcd_ev (a b : Int) (ha : -1000000 ≤ a ∧ a ≤ 1000000) (hb : -1000000 ≤ b ∧ b ≤ 1000000) : Ev (fun k => spec_l02Gcd.f k a b) ((Nat.gcd a.natAbs b.natAbs : Nat) : Int) := by
  unfold spec_l02Gcd.f
  have e : ∀ z : Int, -1000000 ≤ z ∧ z ≤ 1000000 → mx z (wrap64 (-z)) = ((z.natAbs : Nat) : Int) := fun z hz => by
    rw [wsmall _ (by omega)]
    unfold mx
    split <;> omega
  rw [e a ha, e b hb]
  exact gcd_loop _ _
theorem common_loop (n : Nat) : ∀ (y x : Int), y.natAbs = n → -1000000 ≤ x ∧ x ≤ 1000000 → -1000000 ≤ y ∧ y ≤ 1000000 → Ev (fun k => impl_common.l0 k x y) ((Nat.gcd x.natAbs n : Nat) : Int) := by
  induction n using Nat.strongRecOn with
  | _ n ih =>
    intro y x hn hx hy
    refine ev_shift ?_
    simp only [impl_common.l0]
    by_cases h : y = 0
    · have h0 : n = 0 := by omega
      subst h0
      refine ev_pos h (ev_eq (ev_now _) ?_)
      rw [Nat.gcd_zero_right, wsmall _ (by omega)]
      unfold mx
      split <;> omega
    · refine ev_neg h ?_
      have hp : 0 < n := by omega
      have hlt := Nat.mod_lt x.natAbs hp
      have ht : (Int.tmod x y).natAbs = x.natAbs % n := by rw [Int.natAbs_tmod, hn]
      have g := ih (x.natAbs % n) hlt (Int.tmod x y) y ht hy (by omega)
      rw [hn] at g
      rw [show Nat.gcd x.natAbs n = Nat.gcd n (x.natAbs % n) from by rw [Nat.gcd_comm x.natAbs n, Nat.gcd_rec n x.natAbs, Nat.gcd_comm]]
      exact g
theorem common_ev (x y : Int) (hx : -1000000 ≤ x ∧ x ≤ 1000000) (hy : -1000000 ≤ y ∧ y ≤ 1000000) : Ev (fun k => impl_common.f k x y) ((Nat.gcd x.natAbs y.natAbs : Nat) : Int) := common_loop _ y x rfl hx hy
/-- The direction of a difference that is not 0, and how many steps along it (negative: against it). -/
def dirS (x y : Int) : Int := if y < 0 ∨ (y = 0 ∧ x < 0) then -1 else 1
def dirG (x y : Int) : Int := ((Nat.gcd x.natAbs y.natAbs : Nat) : Int)
def dirOf (x y : Int) : Int × Int × Int := (dirS x y * Int.tdiv x (dirG x y), dirS x y * Int.tdiv y (dirG x y), dirS x y * dirG x y)
theorem within_eq (a b c : Int) : impl_within.f a b c = some (decide (b ≤ a ∧ a ≤ c)) := by
  unfold impl_within.f; split <;> simp <;> omega
theorem in_eq (a b c : Int) : spec_l01In.f a b c = some (decide (b ≤ a ∧ a ≤ c)) := by
  unfold spec_l01In.f; split <;> simp <;> omega
theorem mx_eq (a b : Int) : mx a b = max a b := by unfold mx; split <;> omega
theorem mn_eq (a b : Int) : mn a b = min a b := by unfold mn; split <;> omega
theorem before_enc (a m : Int × Int × Int) : spec_l07Before.f (enc3 a) (enc3 m) = some (decide (mLt a m)) := by
  unfold spec_l07Before.f enc3
  simp only [List.length_cons, List.length_nil]
  rw [if_pos (by omega), if_pos (by omega)]
  have r0 : rd [a.1, a.2.1, a.2.2] 0 = a.1 := rfl
  have r1 : rd [a.1, a.2.1, a.2.2] 1 = a.2.1 := rfl
  have s0 : rd [m.1, m.2.1, m.2.2] 0 = m.1 := rfl
  have s1 : rd [m.1, m.2.1, m.2.2] 1 = m.2.1 := rfl
  rw [r0, r1, s0, s1]
  by_cases c : a.2.1 < m.2.1
  · rw [if_pos c]
    congr 1
    symm
    exact decide_eq_true (.inl c)
  · rw [if_neg c]
    by_cases d : a.2.1 = m.2.1
    · rw [if_pos d, if_pos (by omega), if_pos (by omega)]
      congr 1
      by_cases e : a.1 < m.1
      · rw [decide_eq_true e]
        symm
        exact decide_eq_true (.inr ⟨d, e⟩)
      · rw [decide_eq_false e]
        symm
        exact decide_eq_false (fun z => by unfold mLt at z; omega)
    · rw [if_neg d]
      congr 1
      symm
      exact decide_eq_false (fun z => by unfold mLt at z; omega)
theorem mPut_skip (m : Int × Int × Int) (suf : List (Int × Int × Int)) (h : ∀ a r, suf = a :: r → ¬ mLt a m) : mPut m suf = (match suf with
    | [] => if m.2.2 = 0 then [] else [m]
    | a :: r => if a.1 = m.1 ∧ a.2.1 = m.2.1 then (if m.2.2 + a.2.2 = 0 then r else (m.1, m.2.1, m.2.2 + a.2.2) :: r) else (if m.2.2 = 0 then a :: r else m :: a :: r)) := by
  cases suf with
  | nil => rfl
  | cons a r => show (if mLt a m then _ else _) = _; rw [if_neg (h a r rfl)]
theorem put_from (l : List (Int × Int × Int)) (m : Int × Int × Int) (hl : l.length ≤ 1000000) (hb : ∀ a ∈ l, -1000000 ≤ a.2.2 ∧ a.2.2 ≤ 1000000) (hm : -1000000 ≤ m.2.2 ∧ m.2.2 ≤ 1000000) : ∀ (suf pre : List (Int × Int × Int)), l = pre ++ suf →
    Ev (fun k => spec_l07Put.l0 k (l.map enc3) (enc3 m) (pre.length : Int)) ((pre ++ mPut m suf).map enc3) := by
  have m0 : rd (enc3 m) 0 = m.1 := rfl
  have m1 : rd (enc3 m) 1 = m.2.1 := rfl
  have m2 : rd (enc3 m) 2 = m.2.2 := rfl
  have ml : ((enc3 m).length : Int) = 3 := rfl
  have j2f : ∀ (suf pre : List (Int × Int × Int)), l = pre ++ suf → Ev (fun k => spec_l07Put.j2 k (l.map enc3) (enc3 m) (pre.length : Int) (pre.map enc3) m.2.2 (suf.map enc3) false) ((pre ++ (if m.2.2 = 0 then suf else m :: suf)).map enc3) := by
    intro suf pre h
    have hlen : l.length = pre.length + suf.length := by rw [h]; simp
    refine ev_shift ?_
    simp only [spec_l07Put.j2, Bool.false_eq_true, if_false, List.length_map, m0, m1, ml]
    by_cases z : m.2.2 = 0
    · simp only [if_pos z]
      exact ev_pos (by omega) (ev_eq (ev_now _) (by simp))
    · simp only [if_neg z]
      refine ev_pos (by omega) (ev_pos (by omega) (ev_pos (by omega) ?_))
      simp only [Option.bind_some, List.length_append, List.length_map, List.length_cons, List.length_nil]
      exact ev_pos (by omega) (ev_eq (ev_now _) (by simp [enc3]))
  have j2t : ∀ (r pre : List (Int × Int × Int)) (a : Int × Int × Int), l = pre ++ a :: r → Ev (fun k => spec_l07Put.j2 k (l.map enc3) (enc3 m) (pre.length : Int) (pre.map enc3) m.2.2 ((a :: r).map enc3) true) ((pre ++ (if m.2.2 + a.2.2 = 0 then r else (m.1, m.2.1, m.2.2 + a.2.2) :: r)).map enc3) := by
    intro r pre a h
    have hlen : l.length = pre.length + (r.length + 1) := by rw [h]; simp
    have ha := hb a (by rw [h]; simp)
    have hr : rd_L1 (l.map enc3) (pre.length : Int) = enc3 a := by rw [h]; simp [rd_L1, List.getD_eq_getElem?_getD]
    have a2 : rd (enc3 a) 2 = a.2.2 := rfl
    have al : ((enc3 a).length : Int) = 3 := rfl
    have w1 : wrap64 ((pre.length : Int) + 1) = ((pre.length + 1 : Nat) : Int) := by rw [wsmall _ (by omega)]; omega
    have w2 : wrap64 (m.2.2 + a.2.2) = m.2.2 + a.2.2 := wsmall _ (by omega)
    have dr : (l.map enc3).drop (pre.length + 1) = r.map enc3 := by
      rw [h, List.map_append, List.map_cons, show pre.map enc3 ++ enc3 a :: r.map enc3 = (pre.map enc3 ++ [enc3 a]) ++ r.map enc3 from by simp, List.drop_left' (by simp)]
    have f1 : 0 ≤ (pre.length : Int) ∧ (pre.length : Int) < (l.length : Int) ∧ 0 ≤ ((pre.length + 1 : Nat) : Int) ∧ ((pre.length + 1 : Nat) : Int) ≤ (l.length : Int) ∧ pre.length + r.length < 5864062014805 ∧ pre.length < 5864062014805 ∧ pre.length + 1 + r.length < 5864062014805 := by
      clear dr hr w1 w2 h hb
      omega
    refine ev_shift ?_
    simp only [spec_l07Put.j2, if_true, List.length_map, m0, m1, ml, hr, a2, al, w1, w2, Int.toNat_natCast, dr, Option.bind_some]
    refine ev_pos f1.1 (ev_pos f1.2.1 (ev_pos (by decide) (ev_pos f1.2.2.1 (ev_pos f1.2.2.2.1 ?_))))
    by_cases z : m.2.2 + a.2.2 = 0
    · simp only [if_pos z]
      exact ev_pos f1.2.2.2.2.1 (ev_eq (ev_now _) (by simp))
    · simp only [if_neg z]
      refine ev_pos (by decide) (ev_pos (by decide) (ev_pos f1.2.2.2.2.2.1 ?_))
      simp only [List.length_append, List.length_map, List.length_cons, List.length_nil]
      exact ev_pos f1.2.2.2.2.2.2 (ev_eq (ev_now _) (by simp [enc3]))
  have jj : ∀ (suf pre : List (Int × Int × Int)), l = pre ++ suf → (∀ a r, suf = a :: r → ¬ mLt a m) → Ev (fun k => spec_l07Put.j1 k (l.map enc3) (enc3 m) (pre.length : Int)) ((pre ++ mPut m suf).map enc3) := by
    intro suf pre h hn
    rw [mPut_skip m suf hn]
    have hlen : l.length = pre.length + suf.length := by rw [h]; simp
    have tk : (l.map enc3).take pre.length = pre.map enc3 := by rw [h, List.map_append, List.take_left' (by simp)]
    have dr : (l.map enc3).drop pre.length = suf.map enc3 := by rw [h, List.map_append, List.drop_left' (by simp)]
    refine ev_shift ?_
    simp only [spec_l07Put.j1, Option.bind_some, Int.toNat_natCast, List.nil_append, List.length_nil, List.length_map, tk, dr, m0, m1, m2, ml]
    refine ev_pos (by omega) (ev_pos (by omega) (ev_pos (by omega) (ev_pos (by omega) ?_)))
    cases suf with
    | nil => exact ev_neg (by simp only [List.length_nil] at hlen; omega) (j2f [] pre h)
    | cons a r =>
      have hr : rd_L1 (l.map enc3) (pre.length : Int) = enc3 a := by rw [h]; simp [rd_L1, List.getD_eq_getElem?_getD]
      have a0 : rd (enc3 a) 0 = a.1 := rfl
      have a1 : rd (enc3 a) 1 = a.2.1 := rfl
      have al : ((enc3 a).length : Int) = 3 := rfl
      simp only [List.length_cons] at hlen
      simp only [hr, a0, a1, al]
      refine ev_pos (by omega) (ev_pos (by omega) (ev_pos (by omega) ?_))
      by_cases c : a.1 = m.1
      · refine ev_pos c (ev_pos (by omega) (ev_pos (by omega) ?_))
        by_cases d : a.2.1 = m.2.1
        · rw [if_pos ⟨c, d⟩, beq_iff_eq.mpr d]
          exact j2t r pre a h
        · rw [if_neg (fun z => d z.2), beq_eq_false_iff_ne.mpr d]
          exact j2f (a :: r) pre h
      · rw [if_neg (fun z => c z.1)]
        exact ev_neg c (j2f (a :: r) pre h)
  intro suf
  induction suf with
  | nil =>
    intro pre h
    refine ev_shift ?_
    simp only [spec_l07Put.l0, List.length_map]
    have hlen : l.length = pre.length := by rw [h]; simp
    exact ev_neg (by omega) (jj [] pre h (fun a r e => by cases e))
  | cons a r ih =>
    intro pre h
    have hlen : l.length = pre.length + (r.length + 1) := by rw [h]; simp
    have hr : rd_L1 (l.map enc3) (pre.length : Int) = enc3 a := by rw [h]; simp [rd_L1, List.getD_eq_getElem?_getD]
    refine ev_shift ?_
    simp only [spec_l07Put.l0, List.length_map, hr, before_enc]
    refine ev_pos (by omega) (ev_pos (by omega) ?_)
    simp only [Option.bind_some]
    by_cases c : mLt a m
    · refine ev_pos (decide_eq_true c) ?_
      have g := ih (pre ++ [a]) (by rw [h]; simp)
      rw [show wrap64 ((pre.length : Int) + 1) = ((pre ++ [a]).length : Int) from by rw [wsmall _ (by omega)]; simp]
      have e : pre ++ mPut m (a :: r) = pre ++ [a] ++ mPut m r := by
        show pre ++ (if mLt a m then _ else _) = _
        rw [if_pos c]; simp
      rw [e]
      exact g
    · exact ev_neg (by simpa using c) (jj (a :: r) pre h (fun b s e => by cases e; exact c))
theorem put_ev (l : List (Int × Int × Int)) (m : Int × Int × Int) (hl : l.length ≤ 1000000) (hb : ∀ a ∈ l, -1000000 ≤ a.2.2 ∧ a.2.2 ≤ 1000000) (hm : -1000000 ≤ m.2.2 ∧ m.2.2 ≤ 1000000) : Ev (fun k => spec_l07Put.f k (l.map enc3) (enc3 m)) ((mPut m l).map enc3) := by
  have h := put_from l m hl hb hm l [] rfl
  show Ev (fun k => spec_l07Put.l0 k (l.map enc3) (enc3 m) 0) _
  simpa using h
theorem mPut_len (m : Int × Int × Int) : ∀ l, (mPut m l).length ≤ l.length + 1
  | [] => by unfold mPut; split <;> simp
  | a :: l => by
    have ih := mPut_len m l
    unfold mPut
    repeat' split
    all_goals simp only [List.length_cons]
    all_goals omega
theorem mPut_bnd (m : Int × Int × Int) (B C : Int) (hB : 0 ≤ B) (hm : -C ≤ m.2.2 ∧ m.2.2 ≤ C) : ∀ (l : List (Int × Int × Int)), (∀ a ∈ l, -B ≤ a.2.2 ∧ a.2.2 ≤ B) → ∀ a ∈ mPut m l, -(B + C) ≤ a.2.2 ∧ a.2.2 ≤ B + C
  | [], _, a, h => by
    unfold mPut at h
    split at h
    · cases h
    · rw [List.mem_singleton.mp h]; omega
  | c :: l, hl, a, h => by
    have hc := hl c List.mem_cons_self
    have hl' : ∀ a ∈ l, -B ≤ a.2.2 ∧ a.2.2 ≤ B := fun a ha => hl a (List.mem_cons_of_mem _ ha)
    unfold mPut at h
    split at h
    · rcases List.mem_cons.mp h with rfl | h
      · omega
      · exact mPut_bnd m B C hB hm l hl' a h
    · split at h
      · split at h
        · have := hl' a h; omega
        · rcases List.mem_cons.mp h with rfl | h
          · simp only; omega
          · have := hl' a h; omega
      · split at h
        · have := hl a h; omega
        · rcases List.mem_cons.mp h with rfl | h
          · omega
          · have := hl a h; omega
theorem rd_at (l : List Int) (i : Nat) : rd l (i : Int) = l.getD i 0 := by simp [rd]
theorem eqIntS_from (l : List Int) (hl : (l.length : Int) ≤ 4611686018427387904) (d : Nat) : ∀ i : Int, 0 ≤ i → (l.length : Int) - i ≤ d → Ev (fun k => laws_eqIntS.l0 k l l i) true := by
  induction d with
  | zero =>
    intro i h0 hd
    refine ev_shift ?_
    simp only [laws_eqIntS.l0]
    exact ev_neg (by omega) (ev_now _)
  | succ d ih =>
    intro i h0 hd
    refine ev_shift ?_
    simp only [laws_eqIntS.l0, if_true]
    by_cases hi : i < (l.length : Int)
    · refine ev_pos hi (ev_pos h0 (ev_pos hi ?_))
      rw [w64 (by omega) (by omega)]
      exact ih _ (by omega) (by omega)
    · exact ev_neg hi (ev_now _)
theorem eqIntS_refl (l : List Int) (hl : (l.length : Int) ≤ 4611686018427387904) : Ev (fun k => laws_eqIntS.f k l l) true := by
  unfold laws_eqIntS.f
  exact ev_pos rfl (eqIntS_from l hl l.length 0 (by omega) (by omega))
/-! A row is marked from c on, and holds its marks. -/
theorem mark_from (n : Nat) (hn : (n : Int) ≤ 100000000000000) (c : Int) (hc : 0 ≤ c) (hc' : c ≤ 100000000000000) (d : Nat) : ∀ (l : List Int) (i : Nat), l.length = n → n - i ≤ d → i ≤ n → (∀ j, j < i → l.getD j 0 = c + j) →
    ∃ l', Ev (fun k => laws_markIntS.l0 k l (c + i) i) (c + (n : Int), l') ∧ l'.length = n ∧ ∀ j, j < n → l'.getD j 0 = c + j := by
  induction d with
  | zero =>
    intro l i hl hd hi hm
    refine ⟨l, ev_shift ?_, hl, fun j hj => hm j (by omega)⟩
    simp only [laws_markIntS.l0]
    obtain rfl : i = n := by omega
    exact ev_neg (by omega) (ev_now _)
  | succ d ih =>
    intro l i hl hd hi hm
    by_cases h : i < n
    · obtain ⟨l', hl', h1, h2⟩ := ih (l.set i (c + i)) (i + 1) (by simpa using hl) (by omega) (by omega) (by
        intro j hj
        rw [List.getD_eq_getElem?_getD, List.getElem?_set]
        by_cases e : i = j
        · subst e; rw [if_pos rfl, if_pos (by omega)]; rfl
        · rw [if_neg e, ← List.getD_eq_getElem?_getD]; exact hm j (by omega))
      refine ⟨l', ev_shift ?_, h1, h2⟩
      simp only [laws_markIntS.l0]
      refine ev_pos (by omega) (ev_pos (by omega) ?_)
      rw [w64 (by omega) (by omega), w64 (by omega) (by omega)]
      have e1 : (c + (i : Int) + 1) = c + ((i + 1 : Nat) : Int) := by omega
      have e2 : ((i : Int) + 1) = ((i + 1 : Nat) : Int) := by omega
      have e3 : ((i : Int)).toNat = i := by omega
      rw [e1, e2, e3]; exact hl'
    · obtain rfl : i = n := by omega
      refine ⟨l, ev_shift ?_, hl, fun j hj => hm j (by omega)⟩
      simp only [laws_markIntS.l0]
      exact ev_neg (by omega) (ev_now _)
theorem held_from (n : Nat) (hn : (n : Int) ≤ 100000000000000) (c : Int) (hc : 0 ≤ c) (hc' : c ≤ 100000000000000) (l : List Int) (hl : l.length = n) (hm : ∀ j, j < n → l.getD j 0 = c + j) (d : Nat) : ∀ i : Nat, i ≤ n → n - i ≤ d →
    Ev (fun k => laws_heldIntS.l0 k l (c + i) i) (c + (n : Int)) := by
  induction d with
  | zero =>
    intro i hi hd
    refine ev_shift ?_
    simp only [laws_heldIntS.l0]
    obtain rfl : i = n := by omega
    exact ev_neg (by omega) (ev_now _)
  | succ d ih =>
    intro i hi hd
    refine ev_shift ?_
    simp only [laws_heldIntS.l0]
    by_cases h : i < n
    · have hr : rd l (i : Int) = l.getD i 0 := by simp [rd]
      refine ev_pos (by omega) (ev_pos (by omega) (ev_pos (by rw [hr]; exact hm i h) ?_))
      rw [w64 (by omega) (by omega), w64 (by omega) (by omega)]
      have e1 : (c + (i : Int) + 1) = c + ((i + 1 : Nat) : Int) := by omega
      have e2 : ((i : Int) + 1) = ((i + 1 : Nat) : Int) := by omega
      rw [e1, e2]; exact ih (i + 1) (by omega) (by omega)
    · obtain rfl : i = n := by omega
      exact ev_neg (by omega) (ev_now _)
theorem markHeld (l : List Int) (hl : (l.length : Int) ≤ 100000000000000) (c : Int) (hc : 0 ≤ c) (hc' : c ≤ 100000000000000) :
    ∃ l', Ev (fun k => laws_markIntS.f k l c) (c + (l.length : Int), l') ∧ Ev (fun k => laws_heldIntS.f k l' c) (c + (l.length : Int)) := by
  obtain ⟨l', h1, h2, h3⟩ := mark_from l.length hl c hc hc' l.length l 0 rfl (by omega) (by omega) (fun j hj => by omega)
  refine ⟨l', ?_, ?_⟩
  · unfold laws_markIntS.f
    simpa using h1
  · have := held_from l.length hl c hc hc' l' h2 h3 l.length 0 (by omega) (by omega)
    unfold laws_heldIntS.f
    simpa using this
/-! Rows of rows: told alike, marked, held. -/
theorem row_at (l : List (List Int)) (i : Nat) : rd_L1 l (i : Int) = l.getD i [] := by simp [rd_L1]
theorem row_mem (l : List (List Int)) (B : Nat) (hrow : ∀ w ∈ l, w.length ≤ B) (i : Nat) : (l.getD i []).length ≤ B := by
  rw [List.getD_eq_getElem?_getD]
  cases h : l[i]? with
  | none => simp
  | some w => exact hrow w (List.mem_of_getElem? h)
theorem eqRows_from (l : List (List Int)) (hl : l.length ≤ 1048576) (hrow : ∀ w ∈ l, w.length ≤ 1048576) (d : Nat) : ∀ i : Nat, l.length - i ≤ d → i ≤ l.length → Ev (fun k => laws_eqIntSS.l0 k l l i) true := by
  induction d with
  | zero =>
    intro i hd hi
    refine ev_shift ?_
    simp only [laws_eqIntSS.l0]
    exact ev_neg (by omega) (ev_now _)
  | succ d ih =>
    intro i hd hi
    refine ev_shift ?_
    simp only [laws_eqIntSS.l0]
    by_cases h : i < l.length
    · have hw := row_mem l 1048576 hrow i
      rw [row_at]
      have hh := ih (i + 1) (by omega) (by omega)
      have hnx := wsucc i (by omega)
      rw [← hnx] at hh
      clear hnx
      exact ev_pos (by omega) (ev_pos (by omega) (ev_pos (by omega) (ev_bind (eqIntS_refl _ (by omega)) (ev_pos rfl hh))))
    · exact ev_neg (by omega) (ev_now _)
theorem eqRows_refl (l : List (List Int)) (hl : l.length ≤ 1048576) (hrow : ∀ w ∈ l, w.length ≤ 1048576) : Ev (fun k => laws_eqIntSS.f k l l) true := by
  unfold laws_eqIntSS.f
  exact ev_pos rfl (eqRows_from l hl hrow l.length 0 (by omega) (by omega))
theorem held_shift (rows : List (List Int)) (i : Nat) (hi : i < 1000000000) (m m1 r : Int) (h : i < rows.length) (hm : 0 ≤ m1) (h1 : Ev (fun k => laws_heldIntS.f k (rows.getD i []) m) m1) (h2 : Ev (fun k => laws_heldIntSS.l0 k rows m1 ((i + 1 : Nat) : Int)) r) : Ev (fun k => laws_heldIntSS.l0 k rows m (i : Int)) r := by
  refine ev_shift ?_
  simp only [laws_heldIntSS.l0]
  rw [row_at, wsucc i (by omega)]
  exact ev_pos (by omega) (ev_pos (by omega) (ev_bind h1 (ev_neg (by omega) h2)))
theorem markRows_from (d : Nat) : ∀ (rows : List (List Int)) (i : Nat) (m : Int), i + d = rows.length → rows.length ≤ 1048576 → (∀ w ∈ rows, w.length ≤ 1048576) → 0 ≤ m → m ≤ 4000000000000 + 1048576 * (i : Int) →
    ∃ (m' : Int) (rows' : List (List Int)), Ev (fun k => laws_markIntSS.l0 k d rows i m) (m', rows') ∧ rows'.length = rows.length ∧ (∀ j, j < i → rows'.getD j [] = rows.getD j []) ∧ 0 ≤ m' ∧ m' ≤ m + 1048576 * (d : Int) ∧ Ev (fun k => laws_heldIntSS.l0 k rows' m (i : Int)) m' := by
  induction d with
  | zero =>
    intro rows i m hd hl hw h0 hb
    refine ⟨m, rows, ?_, rfl, fun _ _ => rfl, h0, by omega, ?_⟩
    · unfold laws_markIntSS.l0
      exact ev_now _
    · refine ev_shift ?_
      simp only [laws_heldIntSS.l0]
      exact ev_neg (by omega) (ev_now _)
  | succ d ih =>
    intro rows i m hd hl hw h0 hb
    have hwi := row_mem rows 1048576 hw i
    obtain ⟨x', h1, h2⟩ := markHeld (rows.getD i []) (by omega) m h0 (by omega)
    have hx : x'.length = (rows.getD i []).length := by
      obtain ⟨l', e1, e2, _⟩ := mark_from (rows.getD i []).length (by omega) m h0 (by omega) (rows.getD i []).length (rows.getD i []) 0 rfl (by omega) (by omega) (fun j hj => by omega)
      have e3 : Ev (fun k => laws_markIntS.f k (rows.getD i []) m) (m + ((rows.getD i []).length : Int), l') := by
        unfold laws_markIntS.f
        simpa using e1
      have e4 := ev_uniq h1 e3
      injection e4 with _ e5
      rw [e5]
      exact e2
    obtain ⟨m', rows', g1, g2, g3, g4, g6, g5⟩ := ih (rows.set i x') (i + 1) (m + ((rows.getD i []).length : Int)) (by rw [List.length_set]; omega) (by rw [List.length_set]; exact hl) (fun w hw' => by
      rcases List.mem_or_eq_of_mem_set hw' with q | q
      · exact hw w q
      · rw [q, hx]; exact hwi) (by omega) (by push_cast; omega)
    rw [List.length_set] at g2
    have hat : rows'.getD i [] = x' := by
      rw [g3 i (by omega), List.getD_eq_getElem?_getD, List.getElem?_set, if_pos rfl, if_pos (by omega)]
      rfl
    refine ⟨m', rows', ?_, g2, fun j hj => ?_, g4, by push_cast; omega, ?_⟩
    · unfold laws_markIntSS.l0
      exact ev_bind h1 g1
    · rw [g3 j (by omega), List.getD_eq_getElem?_getD, List.getElem?_set, if_neg (by omega), ← List.getD_eq_getElem?_getD]
    · refine held_shift rows' i (by omega) m (m + ((rows.getD i []).length : Int)) m' (by omega) (by omega) ?_ g5
      rw [hat]
      exact h2
theorem markRowsC (l : List (List Int)) (hl : l.length ≤ 1048576) (hrow : ∀ w ∈ l, w.length ≤ 1048576) (c : Int) (hc : 0 ≤ c ∧ c ≤ 2000000000000) :
    ∃ (m : Int) (l' : List (List Int)), Ev (fun k => laws_markIntSS.f k l c) (m, l') ∧ Ev (fun k => laws_heldIntSS.f k l' c) m ∧ 0 ≤ m ∧ m ≤ c + 1100000000000 := by
  obtain ⟨m, l', h1, _, _, h4, h6, h5⟩ := markRows_from l.length l 0 c (by omega) hl hrow (by omega) (by omega)
  refine ⟨m, l', ?_, ?_, h4, by omega⟩
  · unfold laws_markIntSS.f
    exact ev_pos (by omega) h1
  · unfold laws_heldIntSS.f
    exact h5
theorem markRows (l : List (List Int)) (hl : l.length ≤ 1000000) (hrow : ∀ w ∈ l, w.length ≤ 1000) :
    ∃ (m : Int) (l' : List (List Int)), Ev (fun k => laws_markIntSS.f k l 1) (m, l') ∧ Ev (fun k => laws_heldIntSS.f k l' 1) m ∧ 0 ≤ m := by
  obtain ⟨m, l', h1, h2, h3, _⟩ := markRowsC l (by omega) (fun w hw => by have := hrow w hw; omega) 1 (by omega)
  exact ⟨m, l', h1, h2, h3⟩
/-! Lists of measures, as they come in: told good alike. -/
def isB (x y : Int) : Bool := decide ((-1000 ≤ x ∧ x ≤ 1000) ∧ (0 ≤ y ∧ y ≤ 1000) ∧ (y > 0 ∨ x = 1) ∧ Nat.gcd x.natAbs y.natAbs = 1)
theorem is_ev (x y : Int) : Ev (fun k => spec_l07Is.f k x y) (isB x y) := by
  unfold spec_l07Is.f
  rw [in_eq]
  simp only [Option.bind_some]
  by_cases hx : -1000 ≤ x ∧ x ≤ 1000
  · refine ev_pos (decide_eq_true hx) ?_
    rw [in_eq]
    simp only [Option.bind_some]
    by_cases hy : 0 ≤ y ∧ y ≤ 1000
    · refine ev_pos (decide_eq_true hy) ?_
      have hc : ((((Nat.gcd x.natAbs y.natAbs : Nat) : Int) == 1) = decide (Nat.gcd x.natAbs y.natAbs = 1)) := by
        by_cases h : Nat.gcd x.natAbs y.natAbs = 1
        · rw [decide_eq_true h]
          exact beq_iff_eq.mpr (by omega)
        · rw [decide_eq_false h]
          exact beq_eq_false_iff_ne.mpr (by omega)
      by_cases h0 : y > 0
      · refine ev_pos h0 (ev_bind (gcd_ev x y (by omega) (by omega)) (ev_eq (ev_now _) ?_))
        rw [hc]
        unfold isB
        exact decide_eq_decide.mpr ⟨fun h => ⟨hx, hy, .inl h0, h⟩, fun h => h.2.2.2⟩
      · refine ev_neg h0 ?_
        by_cases h1 : x = 1
        · refine ev_pos h1 (ev_bind (gcd_ev x y (by omega) (by omega)) (ev_eq (ev_now _) ?_))
          rw [hc]
          unfold isB
          exact decide_eq_decide.mpr ⟨fun h => ⟨hx, hy, .inr h1, h⟩, fun h => h.2.2.2⟩
        · exact ev_neg h1 (ev_eq (ev_now _) (decide_eq_false (fun h => by rcases h.2.2.1 with h | h <;> omega)).symm)
    · exact ev_neg (by simpa using hy) (ev_eq (ev_now _) (decide_eq_false (fun h => hy h.2.1)).symm)
  · exact ev_neg (by simpa using hx) (ev_eq (ev_now _) (decide_eq_false (fun h => hx h.1)).symm)
theorem isI_in (x y : Int) (hx : -1000 ≤ x ∧ x ≤ 1000) (hy : -1000 ≤ y ∧ y ≤ 1000) : Ev (fun k => impl_isDirection.f k x y) (isB x y) := by
  unfold impl_isDirection.f
  refine ev_bind (common_ev x y (by omega) (by omega)) ?_
  unfold isB
  by_cases h : Nat.gcd x.natAbs y.natAbs = 1
  · refine ev_pos (by omega) ?_
    by_cases c : y > 0
    · exact ev_pos c (ev_eq (ev_now _) (decide_eq_true ⟨hx, by omega, .inl c, h⟩).symm)
    · refine ev_neg c ?_
      by_cases d : y = 0
      · refine ev_pos d (ev_eq (ev_now _) ?_)
        by_cases e : x = 1
        · rw [decide_eq_true ⟨hx, by omega, .inr e, h⟩]
          exact beq_iff_eq.mpr e
        · rw [decide_eq_false (fun z => by rcases z.2.2.1 with z | z <;> omega)]
          exact beq_eq_false_iff_ne.mpr e
      · exact ev_neg d (ev_eq (ev_now _) (decide_eq_false (fun z => by omega)).symm)
  · exact ev_neg (by omega) (ev_eq (ev_now _) (decide_eq_false (fun z => h z.2.2.2)).symm)
theorem enc_row (w : List Int) (h : w.length = 3) : enc3 (rowM w) = w := by
  match w, h with
  | [a, b, c], _ => rfl
def okR (w : List Int) : Bool := decide (w.length = 3) && (isB (rd w 0) (rd w 1) && (decide (-1000 ≤ rd w 2 ∧ rd w 2 ≤ 1000) && !(rd w 2 == 0)))
def ltR (a b : List Int) : Bool := decide (mLt (rowM a) (rowM b))
def goodF (l : List (List Int)) : Nat → Nat → Bool
  | 0, _ => true
  | d + 1, i => okR (l.getD i []) && ((i == 0 || ltR (l.getD (i - 1) []) (l.getD i [])) && goodF l d (i + 1))
theorem okR_3 {w : List Int} (h : okR w = true) : w.length = 3 ∧ isB (rd w 0) (rd w 1) = true ∧ (-1000 ≤ rd w 2 ∧ rd w 2 ≤ 1000) ∧ rd w 2 ≠ 0 := by
  unfold okR at h
  simp only [Bool.and_eq_true, decide_eq_true_eq, Bool.not_eq_true'] at h
  exact ⟨h.1, h.2.1, h.2.2.1, beq_eq_false_iff_ne.mp h.2.2.2⟩
theorem isB_in {x y : Int} (h : isB x y = true) : (-1000 ≤ x ∧ x ≤ 1000) ∧ 0 ≤ y ∧ y ≤ 1000 := by
  have h := of_decide_eq_true h
  exact ⟨h.1, h.2.1⟩
theorem wpred (i : Nat) (h : 0 < i) (hi : i < 1000000000) : wrap64 ((i : Int) - 1) = ((i - 1 : Nat) : Int) := by
  rw [w64 (by omega) (by omega)]
  omega
theorem specOk_from (l : List (List Int)) (hl : l.length ≤ 24) : ∀ (d i : Nat), i + d = l.length → (0 < i → okR (l.getD (i - 1) []) = true) → Ev (fun k => spec_MeasureListOk.l0 k l l (l.length : Int) (i : Int)) (goodF l d i) := by
  intro d
  induction d with
  | zero =>
    intro i h _
    refine ev_shift ?_
    simp only [spec_MeasureListOk.l0]
    exact ev_neg (by omega) (ev_now _)
  | succ d ih =>
    intro i h hp
    have j1t : ∀ w, Ev (fun k => spec_MeasureListOk.j1 k l (i : Int) w l (l.length : Int) (i : Int) true) false := fun w => ev_shift (by
      simp only [spec_MeasureListOk.j1]
      exact ev_pos trivial (ev_now _))
    refine ev_shift ?_
    simp only [spec_MeasureListOk.l0]
    rw [row_at]
    have goal : goodF l (d + 1) i = (okR (l.getD i []) && ((i == 0 || ltR (l.getD (i - 1) []) (l.getD i [])) && goodF l d (i + 1))) := rfl
    rw [goal]
    have j1f : okR (l.getD i []) = true → Ev (fun k => spec_MeasureListOk.j1 k l (i : Int) (l.getD i []) l (l.length : Int) (i : Int) false) ((i == 0 || ltR (l.getD (i - 1) []) (l.getD i [])) && goodF l d (i + 1)) := fun hok => by
      have hn := ih (i + 1) (by omega) (fun _ => by rw [Nat.add_sub_cancel]; exact hok)
      refine ev_shift ?_
      simp only [spec_MeasureListOk.j1]
      rw [wsucc i (by omega)]
      refine ev_neg (by simp) ?_
      by_cases h0 : 0 < i
      · have hpv := hp h0
        rw [wpred i h0 (by omega), row_at]
        have hb : spec_l07Before.f (l.getD (i - 1) []) (l.getD i []) = some (ltR (l.getD (i - 1) []) (l.getD i [])) := by
          have e := before_enc (rowM (l.getD (i - 1) [])) (rowM (l.getD i []))
          rw [enc_row _ (okR_3 hpv).1, enc_row _ (okR_3 hok).1] at e
          exact e
        rw [show (i == 0) = false from beq_eq_false_iff_ne.mpr (by omega), Bool.false_or]
        refine ev_pos (by omega) (ev_pos (by omega) (ev_pos (by omega) (ev_bind0 hb ?_)))
        cases ltR (l.getD (i - 1) []) (l.getD i []) with
        | true => exact ev_pos rfl hn
        | false => exact ev_neg (by simp) (ev_now _)
      · obtain rfl : i = 0 := by omega
        exact ev_neg (by omega) hn
    refine ev_pos (by omega) (ev_pos (by omega) (ev_pos (by omega) ?_))
    generalize hw : l.getD i [] = w at *
    by_cases h3 : w.length = 3
    · refine ev_pos (by omega) (ev_pos (by omega) (ev_pos (by omega) (ev_bind (is_ev _ _) ?_)))
      cases hI : isB (rd w 0) (rd w 1) with
      | false =>
        refine ev_neg (by simp) (ev_eq (j1t w) ?_)
        unfold okR
        rw [hI]
        simp
      | true =>
        refine ev_pos rfl (ev_pos (by omega) ?_)
        rw [in_eq]
        simp only [Option.bind_some]
        by_cases hz : -1000 ≤ rd w 2 ∧ rd w 2 ≤ 1000
        · refine ev_pos (decide_eq_true hz) ?_
          cases hz0 : (rd w 2 == 0) with
          | true =>
            refine ev_eq (j1t w) ?_
            unfold okR
            rw [hz0]
            simp
          | false =>
            have hok : okR w = true := by
              unfold okR
              rw [hI, hz0, decide_eq_true h3, decide_eq_true hz]
              rfl
            rw [hok, Bool.true_and]
            exact j1f hok
        · refine ev_neg (by simpa using hz) (ev_eq (j1t w) ?_)
          unfold okR
          rw [decide_eq_false hz]
          simp
    · refine ev_neg (by omega) (ev_eq (j1t w) ?_)
      unfold okR
      rw [decide_eq_false h3]
      simp
theorem implOk_from (l : List (List Int)) (hl : l.length ≤ 1048576) : ∀ (d i : Nat), i + d = l.length → (0 < i → okR (l.getD (i - 1) []) = true) → Ev (fun k => impl_MeasureListOk.l0 k l l (l.length : Int) (i : Int)) (goodF l d i && decide ((l.length : Int) ≤ 24)) := by
  intro d
  induction d with
  | zero =>
    intro i h _
    refine ev_shift ?_
    simp only [impl_MeasureListOk.l0]
    exact ev_neg (by omega) (ev_eq (ev_now _) (by unfold goodF; rw [Bool.true_and]))
  | succ d ih =>
    intro i h hp
    have j1t : ∀ w, Ev (fun k => impl_MeasureListOk.j1 k l (i : Int) w l (l.length : Int) (i : Int) true) false := fun w => ev_shift (by
      simp only [impl_MeasureListOk.j1]
      exact ev_pos trivial (ev_now _))
    refine ev_shift ?_
    simp only [impl_MeasureListOk.l0]
    rw [row_at]
    have goal : goodF l (d + 1) i = (okR (l.getD i []) && ((i == 0 || ltR (l.getD (i - 1) []) (l.getD i [])) && goodF l d (i + 1))) := rfl
    rw [goal]
    have j1f : okR (l.getD i []) = true → Ev (fun k => impl_MeasureListOk.j1 k l (i : Int) (l.getD i []) l (l.length : Int) (i : Int) false) (((i == 0 || ltR (l.getD (i - 1) []) (l.getD i [])) && goodF l d (i + 1)) && decide ((l.length : Int) ≤ 24)) := fun hok => by
      have hn := ih (i + 1) (by omega) (fun _ => by rw [Nat.add_sub_cancel]; exact hok)
      refine ev_shift ?_
      simp only [impl_MeasureListOk.j1]
      rw [wsucc i (by omega)]
      refine ev_neg (by simp) ?_
      by_cases h0 : 0 < i
      · have hpv := hp h0
        rw [wpred i h0 (by omega), row_at]
        have o1 := okR_3 hpv
        have o2 := okR_3 hok
        have b1 := isB_in o1.2.1
        have b2 := isB_in o2.2.1
        have hb : impl_compareMeasures.f (l.getD (i - 1) []) (l.getD i []) = some (cfM (rowM (l.getD (i - 1) [])) (rowM (l.getD i []))) := by
          have e := cf_val (rowM (l.getD (i - 1) [])) (rowM (l.getD i [])) (by unfold rowM; simp only; omega) (by unfold rowM; simp only; omega)
          rw [enc_row _ o1.1, enc_row _ o2.1] at e
          exact e
        rw [show (i == 0) = false from beq_eq_false_iff_ne.mpr (by omega), Bool.false_or]
        refine ev_pos (by omega) (ev_pos (by omega) (ev_pos (by omega) (ev_bind0 hb ?_)))
        have hc := cfM_neg (rowM (l.getD (i - 1) [])) (rowM (l.getD i []))
        by_cases c : mLt (rowM (l.getD (i - 1) [])) (rowM (l.getD i []))
        · rw [show ltR (l.getD (i - 1) []) (l.getD i []) = true from decide_eq_true c, Bool.true_and]
          exact ev_neg (by have := hc.2 c; omega) hn
        · rw [show ltR (l.getD (i - 1) []) (l.getD i []) = false from decide_eq_false c]
          exact ev_pos (by
            by_cases z : cfM (rowM (l.getD (i - 1) [])) (rowM (l.getD i [])) < 0
            · exact absurd (hc.1 z) c
            · omega) (ev_now _)
      · obtain rfl : i = 0 := by omega
        exact ev_neg (by omega) hn
    have no : okR (l.getD i []) = false → Ev (fun k => impl_MeasureListOk.j1 k l (i : Int) (l.getD i []) l (l.length : Int) (i : Int) true) ((okR (l.getD i []) && ((i == 0 || ltR (l.getD (i - 1) []) (l.getD i [])) && goodF l d (i + 1))) && decide ((l.length : Int) ≤ 24)) := fun h => by
      rw [h]
      exact j1t _
    refine ev_pos (by omega) (ev_pos (by omega) (ev_pos (by omega) ?_))
    generalize hw : l.getD i [] = w at *
    by_cases h3 : w.length = 3
    · refine ev_pos (by omega) (ev_pos (by omega) ?_)
      rw [within_eq, within_eq, within_eq]
      simp only [Option.bind_some]
      by_cases hx : -1000 ≤ rd w 0 ∧ rd w 0 ≤ 1000
      · refine ev_pos (decide_eq_true hx) (ev_pos (by omega) ?_)
        by_cases hy : -1000 ≤ rd w 1 ∧ rd w 1 ≤ 1000
        · refine ev_pos (decide_eq_true hy) (ev_bind (isI_in _ _ hx hy) ?_)
          cases hI : isB (rd w 0) (rd w 1) with
          | false =>
            refine ev_neg (by simp) (no ?_)
            unfold okR
            rw [hI]
            simp
          | true =>
            refine ev_pos rfl (ev_pos (by omega) ?_)
            by_cases hz : -1000 ≤ rd w 2 ∧ rd w 2 ≤ 1000
            · refine ev_pos (decide_eq_true hz) ?_
              cases hz0 : (rd w 2 == 0) with
              | true =>
                refine no ?_
                unfold okR
                rw [hz0]
                simp
              | false =>
                have hok : okR w = true := by
                  unfold okR
                  rw [hI, hz0, decide_eq_true h3, decide_eq_true hz]
                  rfl
                rw [hok, Bool.true_and]
                exact j1f hok
            · refine ev_neg (by simpa using hz) (no ?_)
              unfold okR
              rw [decide_eq_false hz]
              simp
        · refine ev_neg (by simpa using hy) (no ?_)
          have : isB (rd w 0) (rd w 1) = false := decide_eq_false (fun z => hy ⟨by have := z.2.1; omega, z.2.1.2⟩)
          unfold okR
          rw [this]
          simp
      · refine ev_neg (by simpa using hx) (no ?_)
        have : isB (rd w 0) (rd w 1) = false := decide_eq_false (fun z => hx z.1)
        unfold okR
        rw [this]
        simp
    · refine ev_neg (by omega) (no ?_)
      unfold okR
      rw [decide_eq_false h3]
      simp
def listOk (l : List (List Int)) : Bool := goodF l l.length 0 && decide ((l.length : Int) ≤ 24)
theorem specOk_ev (l : List (List Int)) : Ev (fun k => spec_MeasureListOk.f k l) (listOk l) := by
  unfold spec_MeasureListOk.f listOk
  by_cases h : (l.length : Int) > 24
  · exact ev_pos h (ev_eq (ev_now _) (by rw [decide_eq_false (by omega), Bool.and_false]))
  · refine ev_neg h (ev_eq (specOk_from l (by omega) l.length 0 (by omega) (fun z => by omega)) ?_)
    rw [decide_eq_true (by omega), Bool.and_true]
theorem implOk_ev (l : List (List Int)) (hl : l.length ≤ 1048576) : Ev (fun k => impl_MeasureListOk.f k l) (listOk l) := by
  unfold impl_MeasureListOk.f listOk
  exact implOk_from l hl l.length 0 (by omega) (fun z => by omega)
theorem toIntS_from (l : List Int) (hl : l.length ≤ 1048576) (d : Nat) : ∀ (x : List Int) (i : Nat), x.length = l.length → l.length - i ≤ d → i ≤ l.length → (∀ j, j < i → x[j]? = l[j]?) →
    Ev (fun k => laws_toIntS.l0 k l x i) l := by
  induction d with
  | zero =>
    intro x i hx hd hi hm
    refine ev_shift ?_
    simp only [laws_toIntS.l0]
    have e : x = l := by
      apply List.ext_getElem?
      intro j
      by_cases hj : j < i
      · exact hm j hj
      · rw [List.getElem?_eq_none (by omega), List.getElem?_eq_none (by omega)]
    exact ev_neg (by omega) (ev_eq (ev_now _) e)
  | succ d ih =>
    intro x i hx hd hi hm
    refine ev_shift ?_
    simp only [laws_toIntS.l0]
    by_cases h : i < l.length
    · refine ev_pos (by omega) (ev_pos (by omega) (ev_pos (by omega) ?_))
      rw [w64 (by omega) (by omega)]
      have e2 : ((i : Int) + 1) = ((i + 1 : Nat) : Int) := by omega
      have e3 : ((i : Int)).toNat = i := by omega
      rw [e2, e3, rd_at]
      refine ih _ (i + 1) (by simpa using hx) (by omega) (by omega) ?_
      intro j hj
      rw [List.getElem?_set]
      by_cases e : i = j
      · subst e
        rw [if_pos rfl, if_pos (by omega), List.getD_eq_getElem?_getD, List.getElem?_eq_getElem h]
        rfl
      · rw [if_neg e]; exact hm j (by omega)
    · have e : x = l := by
        apply List.ext_getElem?
        intro j
        by_cases hj : j < i
        · exact hm j hj
        · rw [List.getElem?_eq_none (by omega), List.getElem?_eq_none (by omega)]
      exact ev_neg (by omega) (ev_eq (ev_now _) e)
theorem toIntS_ev (l : List Int) (hl : l.length ≤ 1048576) : Ev (fun k => laws_toIntS.f k l) l := by
  unfold laws_toIntS.f
  refine ev_pos (by omega) (ev_pos (by omega) ?_)
  exact toIntS_from l hl l.length _ 0 (by simp) (by omega) (by omega) (fun j hj => by omega)
theorem held_tail (l : List Int) (hl : l.length ≤ 1048576) :
    Ev (fun k => (laws_toIntS.f k l).bind fun t1 => ((laws_eqIntS.f k l t1).bind fun t2 => (if t2 = true then (some true) else (some false)))) true :=
  ev_bind (toIntS_ev l hl) (ev_bind (eqIntS_refl l (by omega)) (ev_pos rfl (ev_now _)))
/-! The law's own rows of rows: their size, and their copy. -/
theorem szRow (w : List Int) (hw : (w.length : Int) ≤ 9223372036854775807) (n : Int) (hn : 0 ≤ n ∧ n ≤ 1048576) : laws_szIntS.f w n = some (if n < (w.length : Int) then -1 else n - (w.length : Int)) := by
  unfold laws_szIntS.f
  have e : wrap64 (n - (w.length : Int)) = n - (w.length : Int) := w64 (by omega) (by omega)
  rw [e]
  by_cases c : n < (w.length : Int)
  · rw [if_pos (by omega), if_pos c]
  · rw [if_neg (by omega), if_neg c]
theorem szRows (A : List (List Int)) (hA : A.length ≤ 1048576) (hrow : ∀ w ∈ A, (w.length : Int) ≤ 9223372036854775807) : ∀ (suf pre : List (List Int)) (n : Int), A = pre ++ suf → 0 ≤ n ∧ n ≤ 1048576 → (∀ w ∈ pre, w.length ≤ 1048576) →
    ∃ r : Int, Ev (fun k => laws_szIntSS.l0 k A n (pre.length : Int)) r ∧ (r < 0 ∨ (0 ≤ r ∧ r ≤ n) ∧ ∀ w ∈ A, w.length ≤ 1048576) := by
  intro suf
  induction suf with
  | nil =>
    intro pre n hp hn hpre
    have hlp : A.length = pre.length := by rw [hp]; simp
    refine ⟨n, ev_shift ?_, .inr ⟨⟨hn.1, Int.le_refl _⟩, fun w hw => hpre w (by rw [hp] at hw; simpa using hw)⟩⟩
    simp only [laws_szIntSS.l0]
    exact ev_neg (by omega) (ev_now _)
  | cons w suf ih =>
    intro pre n hp hn hpre
    have hlp : A.length = pre.length + suf.length + 1 := by rw [hp]; simp; omega
    have hat : rd_L1 A (pre.length : Int) = w := by
      rw [row_at, hp, List.getD_eq_getElem?_getD, List.getElem?_append_right (Nat.le_refl _)]; simp
    have hpl : ((pre ++ [w]).length : Int) = ((pre.length + 1 : Nat) : Int) := by simp
    have q1 : (pre.length : Int) < (A.length : Int) := by omega
    have hw : (w.length : Int) ≤ 9223372036854775807 := hrow w (by rw [hp]; simp)
    have es := szRow w hw n hn
    by_cases c : n < (w.length : Int)
    · rw [if_pos c] at es
      refine ⟨-1, ev_shift ?_, .inl (by omega)⟩
      simp only [laws_szIntSS.l0]
      rw [hat]
      exact ev_pos q1 (ev_pos (Int.natCast_nonneg _) (ev_bind0 es (ev_pos (by decide) (ev_now _))))
    · rw [if_neg c] at es
      obtain ⟨r, h1, h2⟩ := ih (pre ++ [w]) (n - (w.length : Int)) (by rw [hp]; simp) ⟨by omega, by omega⟩ (fun z hz => by
        rcases List.mem_append.mp hz with q | q
        · exact hpre z q
        · have : z = w := by simpa using q
          subst this
          omega)
      have hnx := wsucc pre.length (by omega)
      rw [hpl, ← hnx] at h1
      clear hnx
      refine ⟨r, ev_shift ?_, h2.imp_right (fun h => ⟨⟨h.1.1, by omega⟩, h.2⟩)⟩
      simp only [laws_szIntSS.l0]
      rw [hat]
      exact ev_pos q1 (ev_pos (Int.natCast_nonneg _) (ev_bind0 es (ev_neg (by omega) h1)))
theorem toRows_from (l : List (List Int)) (hl : l.length ≤ 1048576) (hrow : ∀ w ∈ l, w.length ≤ 1048576) (d : Nat) : ∀ (x : List (List Int)) (i : Nat), x.length = l.length → l.length - i ≤ d → i ≤ l.length → (∀ j, j < i → x[j]? = l[j]?) →
    Ev (fun k => laws_toIntSS.l0 k l x i) l := by
  induction d with
  | zero =>
    intro x i hx hd hi hm
    refine ev_shift ?_
    simp only [laws_toIntSS.l0]
    have e : x = l := by
      apply List.ext_getElem?
      intro j
      by_cases hj : j < i
      · exact hm j hj
      · rw [List.getElem?_eq_none (by omega), List.getElem?_eq_none (by omega)]
    exact ev_neg (by omega) (ev_eq (ev_now _) e)
  | succ d ih =>
    intro x i hx hd hi hm
    refine ev_shift ?_
    simp only [laws_toIntSS.l0]
    by_cases h : i < l.length
    · have hw : (l.getD i []).length ≤ 1048576 := by
        refine hrow _ ?_
        rw [List.getD_eq_getElem?_getD, List.getElem?_eq_getElem h]
        exact List.getElem_mem h
      rw [row_at]
      refine ev_pos (by omega) (ev_pos (by omega) (ev_bind (toIntS_ev _ hw) (ev_pos (by omega) ?_)))
      rw [w64 (by omega) (by omega)]
      have e2 : ((i : Int) + 1) = ((i + 1 : Nat) : Int) := by omega
      have e3 : ((i : Int)).toNat = i := by omega
      rw [e2, e3]
      refine ih _ (i + 1) (by simpa using hx) (by omega) (by omega) ?_
      intro j hj
      rw [List.getElem?_set]
      by_cases e : i = j
      · subst e
        rw [if_pos rfl, if_pos (by omega), List.getD_eq_getElem?_getD, List.getElem?_eq_getElem h]
        rfl
      · rw [if_neg e]; exact hm j (by omega)
    · have e : x = l := by
        apply List.ext_getElem?
        intro j
        by_cases hj : j < i
        · exact hm j hj
        · rw [List.getElem?_eq_none (by omega), List.getElem?_eq_none (by omega)]
      exact ev_neg (by omega) (ev_eq (ev_now _) e)
theorem toRows_ev (l : List (List Int)) (hl : l.length ≤ 1048576) (hrow : ∀ w ∈ l, w.length ≤ 1048576) : Ev (fun k => laws_toIntSS.f k l) l := by
  unfold laws_toIntSS.f
  refine ev_pos (by omega) (ev_pos (by omega) ?_)
  exact toRows_from l hl hrow l.length _ 0 (by simp) (by omega) (by omega) (fun j hj => by omega)
/-! What good lists are: ordered measures, none of them 0. -/
theorem goodF_at (l : List (List Int)) : ∀ (d i : Nat), goodF l d i = true → ∀ j, i ≤ j → j < i + d → okR (l.getD j []) = true ∧ (0 < j → mLt (rowM (l.getD (j - 1) [])) (rowM (l.getD j []))) := by
  intro d
  induction d with
  | zero => intro i _ j h1 h2; omega
  | succ d ih =>
    intro i h j h1 h2
    have goal : goodF l (d + 1) i = (okR (l.getD i []) && ((i == 0 || ltR (l.getD (i - 1) []) (l.getD i [])) && goodF l d (i + 1))) := rfl
    rw [goal] at h
    simp only [Bool.and_eq_true, Bool.or_eq_true, beq_iff_eq] at h
    by_cases e : j = i
    · subst e
      refine ⟨h.1, fun h0 => ?_⟩
      rcases h.2.1 with z | z
      · omega
      · exact of_decide_eq_true z
    · exact ih (i + 1) h.2.2 j (by omega) (by omega)
theorem mLt_trans {a b c : Int × Int × Int} (h1 : mLt a b) (h2 : mLt b c) : mLt a c := by
  unfold mLt at *
  omega
theorem rows_lt (l : List (List Int)) (h : ∀ j, j < l.length → 0 < j → mLt (rowM (l.getD (j - 1) [])) (rowM (l.getD j []))) : ∀ (j i : Nat), i < j → j < l.length → mLt (rowM (l.getD i [])) (rowM (l.getD j [])) := by
  intro j
  induction j with
  | zero => intro i hi _; omega
  | succ j ih =>
    intro i hi hj
    have h1 := h (j + 1) hj (by omega)
    rw [Nat.add_sub_cancel] at h1
    by_cases e : i = j
    · subst e; exact h1
    · exact mLt_trans (ih i (by omega) (by omega)) h1
structure Good (l : List (List Int)) : Prop where
  len : l.length ≤ 24
  row : ∀ w ∈ l, okR w = true
  ok : mOk (l.map rowM)
theorem listOk_good (l : List (List Int)) (h : listOk l = true) : Good l := by
  unfold listOk at h
  simp only [Bool.and_eq_true, decide_eq_true_eq] at h
  have hat := goodF_at l l.length 0 h.1
  have hrow : ∀ w ∈ l, okR w = true := fun w hw => by
    obtain ⟨j, hj, rfl⟩ := List.mem_iff_getElem.1 hw
    have := (hat j (by omega) (by omega)).1
    rw [List.getD_eq_getElem?_getD, List.getElem?_eq_getElem hj] at this
    exact this
  have hlt := rows_lt l (fun j hj h0 => (hat j (by omega) (by omega)).2 h0)
  refine ⟨by omega, hrow, ?_, fun m hm => ?_⟩
  · rw [List.pairwise_iff_getElem]
    intro i j hi hj hij
    rw [List.length_map] at hi hj
    have := hlt j i hij hj
    rw [List.getD_eq_getElem?_getD, List.getElem?_eq_getElem hi, List.getD_eq_getElem?_getD, List.getElem?_eq_getElem hj] at this
    rw [List.getElem_map, List.getElem_map]
    exact this
  · obtain ⟨w, hw, rfl⟩ := List.mem_map.1 hm
    exact (okR_3 (hrow w hw)).2.2.2
theorem row_fits {w : List Int} (h : okR w = true) : mFits (rowM w) := by
  obtain ⟨_, h1, h2, _⟩ := okR_3 h
  have b := isB_in h1
  unfold mFits rowM
  simp only
  omega
def foldP (L : List (Int × Int × Int)) (ms : List (Int × Int × Int)) : List (Int × Int × Int) := ms.foldl (fun l m => mPut m l) L
theorem mPut_last (m : Int × Int × Int) (hm : m.2.2 ≠ 0) : ∀ l : List (Int × Int × Int), (∀ a ∈ l, mLt a m) → mPut m l = l ++ [m]
  | [], _ => by
    unfold mPut
    rw [if_neg hm]
    rfl
  | a :: l, h => by
    unfold mPut
    rw [if_pos (h a List.mem_cons_self), mPut_last m hm l (fun b hb => h b (List.mem_cons_of_mem _ hb))]
    rfl
theorem foldP_ok : ∀ (suf pre : List (Int × Int × Int)), mOk (pre ++ suf) → foldP pre suf = pre ++ suf
  | [], pre, _ => by unfold foldP; simp
  | m :: suf, pre, h => by
    have h1 : mPut m pre = pre ++ [m] := by
      refine mPut_last m (h.2 m (by simp)) pre (fun a ha => ?_)
      have hp := List.pairwise_append.1 h.1
      exact hp.2.2 a ha m (by simp)
    show foldP (mPut m pre) suf = _
    rw [h1, foldP_ok suf (pre ++ [m]) (by rw [List.append_assoc]; exact h)]
    simp
theorem foldP_len : ∀ (ms L : List (Int × Int × Int)), (foldP L ms).length ≤ L.length + ms.length
  | [], L => Nat.le_refl _
  | m :: ms, L => by
    have h1 := foldP_len ms (mPut m L)
    have h2 := mPut_len m L
    show (foldP (mPut m L) ms).length ≤ _
    rw [List.length_cons]
    omega
/-! The reference's answer. -/
theorem specPut_from (B : List (List Int)) (hB : Good B) : ∀ (suf pre : List (List Int)) (L : List (Int × Int × Int)), B = pre ++ suf → L.length ≤ 24 + pre.length → (∀ a ∈ L, -(1000 + 1000 * (pre.length : Int)) ≤ a.2.2 ∧ a.2.2 ≤ 1000 + 1000 * (pre.length : Int)) →
    Ev (fun k => spec_AddMeasures.l1 k (L.map enc3) B (B.length : Int) (pre.length : Int)) ((foldP L (suf.map rowM)).map enc3, true) := by
  intro suf
  induction suf with
  | nil =>
    intro pre L h _ _
    have hlen : B.length = pre.length := by rw [h]; simp
    refine ev_shift ?_
    simp only [spec_AddMeasures.l1]
    exact ev_neg (by omega) (ev_now _)
  | cons w suf ih =>
    intro pre L h hL hb
    have hlen : B.length = pre.length + (suf.length + 1) := by rw [h]; simp
    have hl24 := hB.len
    have hw := hB.row w (by rw [h]; simp)
    have o := okR_3 hw
    have hr : rd_L1 B (pre.length : Int) = w := by rw [row_at, h, List.getD_eq_getElem?_getD, List.getElem?_append_right (Nat.le_refl _)]; simp
    have hm2 : (rowM w).2.2 = rd w 2 := rfl
    have hp := put_ev L (rowM w) (by omega) (fun a ha => by have := hb a ha; omega) (by omega)
    rw [enc_row w o.1] at hp
    have g := ih (pre ++ [w]) (mPut (rowM w) L) (by rw [h]; simp) (by have := mPut_len (rowM w) L; rw [List.length_append, List.length_singleton]; omega) (fun a ha => by
      have := mPut_bnd (rowM w) (1000 + 1000 * (pre.length : Int)) 1000 (by omega) (by omega) L hb a ha
      rw [List.length_append, List.length_singleton]
      push_cast
      omega)
    rw [List.length_append, List.length_singleton] at g
    refine ev_shift ?_
    simp only [spec_AddMeasures.l1]
    rw [hr, wsucc _ (by omega)]
    exact ev_pos (by omega) (ev_pos (by omega) (ev_pos (by omega) (ev_bind hp g)))
theorem specCopy_from (A B : List (List Int)) (hA : Good A) (r : List (List Int) × Bool) (hr : Ev (fun k => spec_AddMeasures.l1 k A B (B.length : Int) 0) r) : ∀ (suf pre : List (List Int)), A = pre ++ suf → Ev (fun k => spec_AddMeasures.l0 k B pre A (A.length : Int) (pre.length : Int)) r := by
  intro suf
  induction suf with
  | nil =>
    intro pre h
    obtain rfl : A = pre := by simpa using h
    refine ev_shift ?_
    simp only [spec_AddMeasures.l0]
    exact ev_neg (by omega) hr
  | cons w suf ih =>
    intro pre h
    have hlen : A.length = pre.length + (suf.length + 1) := by rw [h]; simp
    have hl24 := hA.len
    have o := okR_3 (hA.row w (by rw [h]; simp))
    have hrw : rd_L1 A (pre.length : Int) = w := by rw [row_at, h, List.getD_eq_getElem?_getD, List.getElem?_append_right (Nat.le_refl _)]; simp
    have g := ih (pre ++ [w]) (by rw [h]; simp)
    rw [List.length_append, List.length_singleton] at g
    have ew : ([rd w 0, rd w 1, rd w 2] : List Int) = w := enc_row w o.1
    refine ev_shift ?_
    simp only [spec_AddMeasures.l0]
    rw [hrw, wsucc _ (by omega), ew]
    exact ev_pos (by omega) (ev_pos (by omega) (ev_pos (by omega) (ev_pos (by omega) (ev_pos (by omega) (ev_pos (by omega) (ev_pos (by omega) g))))))
theorem rows_back (A : List (List Int)) (hA : Good A) : (A.map rowM).map enc3 = A := by
  rw [List.map_map]
  have : ∀ l : List (List Int), (∀ w ∈ l, okR w = true) → l.map (enc3 ∘ rowM) = l := by
    intro l
    induction l with
    | nil => intro _; rfl
    | cons w l ih =>
      intro h
      rw [List.map_cons, ih (fun v hv => h v (List.mem_cons_of_mem _ hv))]
      congr 1
      exact enc_row w (okR_3 (h w List.mem_cons_self)).1
  exact this A hA.row
theorem specAdd (A B : List (List Int)) (hA : Good A) (hB : Good B) : Ev (fun k => spec_AddMeasures.l0 k B [] A (A.length : Int) 0) ((foldP (A.map rowM) (B.map rowM)).map enc3, true) := by
  refine specCopy_from A B hA _ ?_ A [] rfl
  have h := specPut_from B hB B [] (A.map rowM) rfl (by rw [List.length_map]; have := hA.len; omega) (fun a ha => by
    obtain ⟨w, hw, rfl⟩ := List.mem_map.1 ha
    have := (okR_3 (hA.row w hw)).2.2.1
    have e : (rowM w).2.2 = rd w 2 := rfl
    simp only [List.length_nil]
    omega)
  rw [rows_back A hA] at h
  exact h
/-! The program's answer. -/
theorem concat_ev (A B : List (List Int)) (hA : A.length ≤ 1000) (hB : B.length ≤ 1000) : Ev (fun k => slices_Concat_int_int.f k [A, B]) (A ++ B) := by
  have r0 : rd_L2 [A, B] 0 = A := rfl
  have r1 : rd_L2 [A, B] 1 = B := rfl
  have w0 : wrap64 (0 + (A.length : Int)) = (A.length : Int) := by rw [w64 (by omega) (by omega)]; omega
  have w1 : wrap64 ((A.length : Int) + (B.length : Int)) = (A.length : Int) + (B.length : Int) := w64 (by omega) (by omega)
  have w2 : wrap64 (0 + 1) = 1 := by unfold wrap64; omega
  have w3 : wrap64 (1 + 1) = 2 := by unfold wrap64; omega
  have h2 : (([A, B] : List (List (List Int))).length : Int) = 2 := rfl
  unfold slices_Concat_int_int.f
  rw [h2]
  refine ev_shift ?_
  simp only [slices_Concat_int_int.l0]
  rw [r0, w0, w2, h2]
  refine ev_pos (by decide) (ev_pos (by decide) (ev_pos (by decide) (ev_neg (by omega) ?_)))
  refine ev_shift ?_
  simp only [slices_Concat_int_int.l0]
  rw [r1, w1, w3, h2]
  refine ev_pos (by decide) (ev_pos (by decide) (ev_pos (by decide) (ev_neg (by omega) ?_)))
  refine ev_shift ?_
  simp only [slices_Concat_int_int.l0]
  refine ev_neg (by decide) (ev_bind0 (a := []) (by unfold slices_Grow_int_int.f; exact if_pos (by omega)) ?_)
  rw [h2]
  refine ev_shift ?_
  simp only [slices_Concat_int_int.l1]
  rw [r0, w2, h2]
  refine ev_pos (by decide) (ev_pos (by decide) (ev_pos (by decide) (ev_pos (by simp only [List.length_nil]; omega) ?_)))
  refine ev_shift ?_
  simp only [slices_Concat_int_int.l1]
  rw [r1, w3, h2]
  refine ev_pos (by decide) (ev_pos (by decide) (ev_pos (by decide) (ev_pos (by simp only [List.nil_append]; omega) ?_)))
  refine ev_shift ?_
  simp only [slices_Concat_int_int.l1]
  exact ev_neg (by decide) (ev_eq (ev_now _) (by simp))
theorem tail_from (l : List (List Int)) (hl : ∀ w ∈ l, okR w = true) : ∀ (suf pre : List (List Int)) (L : List (Int × Int × Int)), l = pre ++ suf → impl_addTail.l0 l suf.length pre.length L = some ((foldP L (suf.map rowM)).map enc3) := by
  intro suf
  induction suf with
  | nil =>
    intro pre L _
    rfl
  | cons w suf ih =>
    intro pre L h
    have hw := hl w (by rw [h]; simp)
    have hr : rd_L1 l (pre.length : Int) = w := by rw [row_at, h, List.getD_eq_getElem?_getD, List.getElem?_append_right (Nat.le_refl _)]; simp
    have g := ih (pre ++ [w]) (mPut (rowM w) L) (by rw [h]; simp)
    rw [List.length_append, List.length_singleton] at g
    rw [List.length_cons]
    unfold impl_addTail.l0
    rw [hr, if_pos ⟨(okR_3 hw).1, row_fits hw⟩]
    exact g
theorem implAdd (A B : List (List Int)) (hA : Good A) (hB : Good B) : Ev (fun k => (slices_Concat_int_int.f k [A, B]).bind fun t => (impl_addTail.f k t).bind fun u => some (u, true)) ((foldP (A.map rowM) (B.map rowM)).map enc3, true) := by
  have a := hA.len
  have b := hB.len
  refine ev_bind (concat_ev A B (by omega) (by omega)) (ev_bind0 (a := (foldP (A.map rowM) (B.map rowM)).map enc3) ?_ (ev_now _))
  show (if (A ++ B).length ≤ 900 then impl_addTail.l0 (A ++ B) (A ++ B).length 0 [] else none) = _
  rw [if_pos (by rw [List.length_append]; omega)]
  have h := tail_from (A ++ B) (fun w hw => by
    rcases List.mem_append.1 hw with q | q
    · exact hA.row w q
    · exact hB.row w q) (A ++ B) [] [] rfl
  rw [List.length_nil] at h
  rw [h, List.map_append]
  have e : foldP [] (A.map rowM ++ B.map rowM) = foldP (A.map rowM) (B.map rowM) := by
    have e1 : foldP [] (A.map rowM) = A.map rowM := by
      have := foldP_ok (A.map rowM) [] (by simpa using hA.ok)
      simpa using this
    unfold foldP at *
    rw [List.foldl_append, e1]
  rw [e]
theorem add_both (A B : List (List Int)) (hA : A.length ≤ 1048576) (hB : B.length ≤ 1048576) : ∃ (r : List (List Int)) (b : Bool), (r.length ≤ 1000000 ∧ ∀ w ∈ r, w.length ≤ 1000) ∧ Ev (fun k => spec_AddMeasures.f k A B) (r, b) ∧ Ev (fun k => impl_AddMeasures.f k A B) (r, b) := by
  have sj : Ev (fun k => spec_AddMeasures.j0 k A B true) (([] : List (List Int)), false) := ev_shift (by
    simp only [spec_AddMeasures.j0]
    exact ev_pos trivial (ev_now _))
  have ij : Ev (fun k => impl_AddMeasures.j0 k A B true) (([] : List (List Int)), false) := ev_shift (by
    simp only [impl_AddMeasures.j0]
    exact ev_pos trivial (ev_now _))
  have sA := specOk_ev A
  have iA := implOk_ev A hA
  have sB := specOk_ev B
  have iB := implOk_ev B hB
  unfold spec_AddMeasures.f impl_AddMeasures.f
  cases hgA : listOk A with
  | false =>
    rw [hgA] at sA iA
    exact ⟨[], false, ⟨by simp, fun _ h => by cases h⟩, ev_bind sA (ev_neg (by simp) sj), ev_bind iA (ev_neg (by simp) ij)⟩
  | true =>
    rw [hgA] at sA iA
    cases hgB : listOk B with
    | false =>
      rw [hgB] at sB iB
      exact ⟨[], false, ⟨by simp, fun _ h => by cases h⟩, ev_bind sA (ev_pos rfl (ev_bind sB sj)), ev_bind iA (ev_pos rfl (ev_bind iB ij))⟩
    | true =>
      rw [hgB] at sB iB
      have gA := listOk_good A hgA
      have gB := listOk_good B hgB
      refine ⟨(foldP (A.map rowM) (B.map rowM)).map enc3, true, ⟨?_, fun w hw => ?_⟩, ev_bind sA (ev_pos rfl (ev_bind sB (ev_shift ?_))), ev_bind iA (ev_pos rfl (ev_bind iB (ev_shift ?_)))⟩
      · have := foldP_len (B.map rowM) (A.map rowM)
        have a := gA.len
        have b := gB.len
        rw [List.length_map, List.length_map] at this
        rw [List.length_map]
        omega
      · obtain ⟨m, _, rfl⟩ := List.mem_map.1 hw
        unfold enc3
        simp
      · simp only [spec_AddMeasures.j0]
        exact ev_neg (by simp) (specAdd A B gA gB)
      · simp only [impl_AddMeasures.j0]
        exact ev_neg (by simp) (implAdd A B gA gB)
/-- The law answers true, for rows that memory holds. -/
theorem FnExactAddMeasures (A B : List (List Int)) (hA : (A.length : Int) ≤ 9223372036854775807) (hrA : ∀ w ∈ A, (w.length : Int) ≤ 9223372036854775807) (hB : (B.length : Int) ≤ 9223372036854775807) (hrB : ∀ w ∈ B, (w.length : Int) ≤ 9223372036854775807) : ∃ k, laws_FnExactAddMeasures.f k A B = some true := by
  apply ev_rounds
  unfold laws_FnExactAddMeasures.f
  have size : ∀ (X : List (List Int)) (n : Int), (X.length : Int) ≤ 9223372036854775807 → (∀ w ∈ X, (w.length : Int) ≤ 9223372036854775807) → 0 ≤ n ∧ n ≤ 1048576 → ∃ r : Int, Ev (fun k => laws_szIntSS.f k X n) r ∧ (r < 0 ∨ (0 ≤ r ∧ r ≤ n) ∧ X.length ≤ 1048576 ∧ ∀ w ∈ X, w.length ≤ 1048576) := fun X n hX hr hn => by
    unfold laws_szIntSS.f
    have e : wrap64 (n - (X.length : Int)) = n - (X.length : Int) := w64 (by omega) (by omega)
    rw [e]
    by_cases c : n - (X.length : Int) < 0
    · exact ⟨-1, ev_pos c (ev_now _), .inl (by decide)⟩
    · obtain ⟨r, h1, h2⟩ := szRows X (by omega) hr X [] (n - (X.length : Int)) rfl ⟨by omega, by omega⟩ (fun w hw => by cases hw)
      refine ⟨r, ev_neg c h1, ?_⟩
      rcases h2 with h2 | h2
      · exact .inl h2
      · exact .inr ⟨⟨h2.1.1, by omega⟩, by omega, h2.2⟩
  obtain ⟨r0, s0, q0⟩ := size A 1048576 hA hrA ⟨by decide, by decide⟩
  by_cases c0 : r0 < 0
  · exact ev_bind s0 (ev_pos c0 (ev_now _))
  · obtain ⟨b0, la, ra⟩ := q0.resolve_left c0
    obtain ⟨r1, s1, q1⟩ := size B r0 hB hrB b0
    by_cases c1 : r1 < 0
    · exact ev_bind s0 (ev_neg c0 (ev_bind s1 (ev_pos c1 (ev_now _))))
    · obtain ⟨_, lb, rb⟩ := q1.resolve_left c1
      have tA := toRows_ev A la ra
      have tB := toRows_ev B lb rb
      obtain ⟨r, b, ⟨hr1, hr2⟩, h1, h2⟩ := add_both A B la lb
      have her := eqRows_refl r (by omega) (fun w hw => by have := hr2 w hw; omega)
      have heA := eqRows_refl A la ra
      have heB := eqRows_refl B lb rb
      obtain ⟨mA, A', kA, _, nA, uA⟩ := markRowsC A la ra 1 (by omega)
      obtain ⟨mB, B', kB, _, nB, _⟩ := markRowsC B lb rb mA (by omega)
      obtain ⟨m, r', k1, k2, k3⟩ := markRows r hr1 hr2
      have hbb : (b != b) = false := by simp
      have hj2 : Ev (fun k => laws_FnExactAddMeasures.j2 k r' m (b != b)) true := ev_shift (by
        simp only [laws_FnExactAddMeasures.j2]
        exact ev_neg (by simp) (ev_bind k2 (ev_neg (by omega) (ev_pos rfl (ev_now _)))))
      have hj1 : Ev (fun k => laws_FnExactAddMeasures.j1 k A B r b r (b != b)) true := ev_shift (by
        simp only [laws_FnExactAddMeasures.j1]
        exact ev_neg (by simp) (ev_bind k1 (ev_bind k2 (ev_neg (by omega) (ev_pos rfl (ev_bind tA (ev_bind tB (ev_bind h2 (ev_bind her (ev_pos rfl hj2))))))))))
      have hj0 : Ev (fun k => laws_FnExactAddMeasures.j0 k A B r b A B r b (b != b)) true := ev_shift (by
        simp only [laws_FnExactAddMeasures.j0]
        exact ev_neg (by simp) (ev_bind tA (ev_bind heA (ev_pos rfl (ev_bind tB (ev_bind heB (ev_pos rfl (ev_bind kA (ev_bind kB (ev_neg (by simp only; omega) (ev_bind her (ev_pos rfl hj1)))))))))))
)
      exact ev_bind s0 (ev_neg c0 (ev_bind s1 (ev_neg c1 (ev_bind tA (ev_bind tB (ev_bind h1 (ev_bind tA (ev_bind tB (ev_bind h2 (ev_bind her (ev_pos rfl hj0)))))))))))

end Go.Proofs.Ytomfkafbiliblaa.Pure
