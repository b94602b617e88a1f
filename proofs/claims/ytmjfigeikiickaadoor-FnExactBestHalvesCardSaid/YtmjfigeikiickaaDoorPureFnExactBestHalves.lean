/- BestHalves of the program and of the reference answer alike, for all numbers. -/
import Derived.Test.YtmjfigeikiickaaDoorQFnExactBestHalvesx9
namespace Go.Proofs.YtmjfigeikiickaaDoor.Pure
open Go.RowKit Go.Proofs.YtmjfigeikiickaaDoor.QFnExactBestHalves Go.Proofs.YtmjfigeikiickaaDoorW.PrintWords Go.Proofs.YtmjfigeikiickaaDoorW.PrintLast Go.Proofs.YtmjfigeikiickaaDoorW.PrintMore
set_option linter.unusedVariables false
set_option linter.unusedSimpArgs false

/- Eventually: with enough rounds the answer is r. -/
theorem ev_now {α : Type} (r : α) : Ev (fun _ => some r) r := Ev.now r
theorem ev_shift {α : Type} {g : Nat → Option α} {r : α} (h : Ev (fun k => g (k + 1)) r) : Ev g r := by
  obtain ⟨K, hK⟩ := h
  exact ⟨K + 1, fun k hk => by
    obtain ⟨m, rfl⟩ : ∃ m, k = m + 1 := ⟨k - 1, by omega⟩
    exact hK m (by omega)⟩
theorem ev_bind {α β : Type} {g : Nat → Option α} {f : Nat → α → Option β} {a : α} {r : β} (h : Ev g a) (k : Ev (fun n => f n a) r) : Ev (fun n => (g n).bind (f n)) r := Ev.bind h k
theorem ev_bind0 {α β : Type} {o : Option α} {f : Nat → α → Option β} {a : α} {r : β} (h : o = some a) (k : Ev (fun n => f n a) r) : Ev (fun n => o.bind (f n)) r := by
  subst h; exact k
theorem ev_pos {α : Type} {A B : Nat → Option α} {r : α} {c : Prop} [Decidable c] (h : c) (k : Ev A r) : Ev (fun n => if c then A n else B n) r := by
  simpa only [if_pos h] using k
theorem ev_neg {α : Type} {A B : Nat → Option α} {r : α} {c : Prop} [Decidable c] (h : ¬ c) (k : Ev B r) : Ev (fun n => if c then A n else B n) r := by
  simpa only [if_neg h] using k
theorem ev_eq {α : Type} {g : Nat → Option α} {r r' : α} (h : Ev g r) (e : r = r') : Ev g r' := e ▸ h
theorem ev_rounds {α : Type} {g : Nat → Option α} {r : α} (h : Ev g r) : ∃ k, g k = some r := Ev.rounds h
theorem w64 {n : Int} (h : -9223372036854775808 ≤ n) (h' : n ≤ 9223372036854775807) : wrap64 n = n := by
  unfold wrap64; omega
theorem wadd (a b : Nat) (h : a + b < 1000000000000) : wrap64 ((a : Int) + (b : Int)) = ((a + b : Nat) : Int) := by
  rw [w64 (by omega) (by omega)]; omega
theorem wsucc (a : Nat) (h : a < 1000000000000) : wrap64 ((a : Int) + 1) = ((a + 1 : Nat) : Int) := by
  rw [w64 (by omega) (by omega)]; omega
theorem wsmall (n : Int) (h : -1000000000000 ≤ n ∧ n ≤ 1000000000000) : wrap64 n = n := w64 (by omega) (by omega)
theorem within_eq (a b c : Int) : impl_within.f a b c = some (decide (b ≤ a ∧ a ≤ c)) := by
  unfold impl_within.f; split <;> simp <;> omega
theorem in_eq (a b c : Int) : spec_l01In.f a b c = some (decide (b ≤ a ∧ a ≤ c)) := by
  unfold spec_l01In.f; split <;> simp <;> omega
theorem mx_eq (a b : Int) : mx a b = max a b := by unfold mx; split <;> omega
/-- What is left of a cut c with u numbers used: each way to number d cells more, in order, with the numbers used in the end. -/
def exf (g : List Int → Nat → List (List Int × Nat)) (c : List Int) (u : Nat) : Nat → Nat → List (List Int × Nat)
  | _, 0 => []
  | k, t + 1 => g (c ++ [(k : Int)]) (max u (k + 1)) ++ exf g c u (k + 1) t
def ex : Nat → List Int → Nat → List (List Int × Nat)
  | 0, c, u => [(c, u)]
  | d + 1, c, u => exf (ex d) c u 0 (u + 1)
def fil (p : Nat) (l : List (List Int × Nat)) : List (List Int × Nat) := l.filter (fun q => decide (q.2 = p))
/-- The reference's next level. -/
def cf (p d : Nat) (c : List Int) (u : Nat) : Nat → Nat → List (List Int × Nat)
  | _, 0 => []
  | k, t + 1 => if k < p ∧ p ≤ max u (k + 1) + d then (c ++ [(k : Int)], max u (k + 1)) :: cf p d c u (k + 1) t else cf p d c u (k + 1) t
def lev (p d : Nat) (L : List (List Int × Nat)) : List (List Int × Nat) := L.flatMap (fun q => cf p d q.1 q.2 0 (q.2 + 1))
theorem exf_mem (g : List Int → Nat → List (List Int × Nat)) (c : List Int) (u : Nat) : ∀ (t k : Nat) (q : List Int × Nat), q ∈ exf g c u k t → ∃ j, k ≤ j ∧ j < k + t ∧ q ∈ g (c ++ [(j : Int)]) (max u (j + 1)) := by
  intro t
  induction t with
  | zero => intro k q h; cases h
  | succ t ih =>
    intro k q h
    simp only [exf, List.mem_append] at h
    rcases h with h | h
    · exact ⟨k, Nat.le_refl _, by omega, h⟩
    · obtain ⟨j, h1, h2, h3⟩ := ih (k + 1) q h
      exact ⟨j, by omega, by omega, h3⟩
theorem ex_range : ∀ (d : Nat) (c : List Int) (u : Nat) (q : List Int × Nat), q ∈ ex d c u → u ≤ q.2 ∧ q.2 ≤ u + d ∧ q.1.length = c.length + d := by
  intro d
  induction d with
  | zero =>
    intro c u q h
    simp only [ex, List.mem_singleton] at h
    subst h
    exact ⟨Nat.le_refl _, Nat.le_refl _, rfl⟩
  | succ d ih =>
    intro c u q h
    obtain ⟨j, h1, h2, h3⟩ := exf_mem _ c u _ _ q h
    obtain ⟨a, b, e⟩ := ih _ _ q h3
    rw [List.length_append] at e
    simp at e
    exact ⟨by omega, by omega, by omega⟩
theorem fil_app (p : Nat) (l m : List (List Int × Nat)) : fil p (l ++ m) = fil p l ++ fil p m := by simp [fil]
theorem fil_none (p : Nat) (l : List (List Int × Nat)) (h : ∀ q ∈ l, q.2 ≠ p) : fil p l = [] := by
  unfold fil
  rw [List.filter_eq_nil_iff]
  intro q hq
  simpa using h q hq
theorem cf_fil (p d : Nat) (c : List Int) (u : Nat) : ∀ (t k : Nat), (cf p d c u k t).flatMap (fun q => fil p (ex d q.1 q.2)) = fil p (exf (ex d) c u k t) := by
  intro t
  induction t with
  | zero => intro k; rfl
  | succ t ih =>
    intro k
    simp only [cf, exf]
    rw [fil_app]
    by_cases h : k < p ∧ p ≤ max u (k + 1) + d
    · rw [if_pos h, List.flatMap_cons, ih]
    · rw [if_neg h, ih, fil_none p (ex d _ _) (fun q hq => by
        have := ex_range d _ _ q hq
        omega)]
      rfl
theorem lev_fil (p d : Nat) : ∀ L : List (List Int × Nat), (lev p d L).flatMap (fun q => fil p (ex d q.1 q.2)) = L.flatMap (fun q => fil p (ex (d + 1) q.1 q.2)) := by
  intro L
  induction L with
  | nil => rfl
  | cons q L ih =>
    have e : lev p d (q :: L) = cf p d q.1 q.2 0 (q.2 + 1) ++ lev p d L := by simp [lev]
    rw [e, List.flatMap_append, ih, cf_fil, List.flatMap_cons]
    rfl
theorem cf_mem (p d : Nat) (c : List Int) (u : Nat) : ∀ (t k : Nat) (q : List Int × Nat), q ∈ cf p d c u k t → p ≤ q.2 + d ∧ (u ≤ p → q.2 ≤ p) ∧ (k + t ≤ u + 1 → q.2 ≤ u + 1) := by
  intro t
  induction t with
  | zero => intro k q h; cases h
  | succ t ih =>
    intro k q h
    simp only [cf] at h
    by_cases g : k < p ∧ p ≤ max u (k + 1) + d
    · rw [if_pos g] at h
      rcases List.mem_cons.mp h with rfl | h
      · exact ⟨g.2, fun _ => by show max u (k + 1) ≤ p; omega, fun _ => by show max u (k + 1) ≤ u + 1; omega⟩
      · have := ih (k + 1) q h
        exact ⟨this.1, this.2.1, fun _ => this.2.2 (by omega)⟩
    · rw [if_neg g] at h
      have := ih (k + 1) q h
      exact ⟨this.1, this.2.1, fun _ => this.2.2 (by omega)⟩
theorem cf_len (p d : Nat) (c : List Int) (u : Nat) : ∀ (t k : Nat), (cf p d c u k t).length ≤ t := by
  intro t
  induction t with
  | zero => intro k; exact Nat.le_refl _
  | succ t ih =>
    intro k
    simp only [cf]
    have := ih (k + 1)
    split <;> simp <;> omega
theorem lev_len (p d B : Nat) : ∀ L : List (List Int × Nat), (∀ q ∈ L, q.2 + 1 ≤ B) → (lev p d L).length ≤ L.length * B := by
  intro L
  induction L with
  | nil => intro _; exact Nat.zero_le _
  | cons q L ih =>
    intro h
    have e : lev p d (q :: L) = cf p d q.1 q.2 0 (q.2 + 1) ++ lev p d L := by simp [lev]
    rw [e, List.length_append, List.length_cons, Nat.add_mul, Nat.one_mul]
    have h1 := cf_len p d q.1 q.2 (q.2 + 1) 0
    have h2 := ih (fun q hq => h q (by simp [hq]))
    have h3 := h q (by simp)
    omega
def fsts (L : List (List Int × Nat)) : List (List Int) := L.map (·.1)
def snds (L : List (List Int × Nat)) : List Int := L.map (fun q => (q.2 : Int))
theorem rd_L2_mid (pre suf : List (List Int × Nat)) (q : List Int × Nat) : rd_L2 (fsts (pre ++ q :: suf)) (pre.length : Int) = q.1 := by
  simp [rd_L2, fsts, List.getD_eq_getElem?_getD]
theorem rd_snds (pre suf : List (List Int × Nat)) (q : List Int × Nat) : rd (snds (pre ++ q :: suf)) (pre.length : Int) = (q.2 : Int) := by
  simp [rd, snds, List.getD_eq_getElem?_getD]
theorem nl_sum (m n i d : Nat) (h : i + d + 1 = n) (hm : m ≤ 10) (hn : n ≤ 9) : wrap64 ((wrap64 ((wrap64 ((m : Int) + (n : Int))) - 1)) - (i : Int)) = ((m + d : Nat) : Int) := by
  have e1 : wrap64 ((m : Int) + (n : Int)) = (m : Int) + (n : Int) := w64 (by omega) (by omega)
  rw [e1]
  clear e1
  have e2 : wrap64 ((m : Int) + (n : Int) - 1) = (m : Int) + (n : Int) - 1 := w64 (by omega) (by omega)
  rw [e2]
  clear e2
  have e3 : wrap64 ((m : Int) + (n : Int) - 1 - (i : Int)) = (m : Int) + (n : Int) - 1 - (i : Int) := w64 (by omega) (by omega)
  rw [e3]
  clear e3
  omega
theorem sp_nl2 (n p i d : Nat) (hd : i + d + 1 = n) (hn : n ≤ 9) (hp : p ≤ 9) (L : List (List Int × Nat)) (pre suf : List (List Int × Nat)) (c : List Int) (u : Nat) (hL : L = pre ++ (c, u) :: suf) (hu : u ≤ 9) (hc : c.length ≤ 9) (hLl : L.length ≤ 1000000000) (r : List (List Int)) :
    ∀ (t kk : Nat) (N : List (List Int × Nat)), t + kk = u + 1 → N.length + t ≤ 10000000000 →
      Ev (fun k => spec_l09Numbers.l1 k n p (snds L) i (fsts (N ++ cf p d c u kk t)) (snds (N ++ cf p d c u kk t)) (fsts L) ((fsts L).length : Int) (wrap64 ((pre.length : Int) + 1))) r →
      Ev (fun k => spec_l09Numbers.l2 k n p (snds L) i (fsts N) (snds N) (pre.length : Int) c (kk : Int) (fsts L) ((fsts L).length : Int) (pre.length : Int)) r := by
  have hlen : L.length = pre.length + (suf.length + 1) := by subst hL; simp
  have hr : rd (snds L) (pre.length : Int) = (u : Int) := by subst hL; exact rd_snds pre suf (c, u)
  have hs : (snds L).length = L.length := by simp [snds]
  intro t
  induction t with
  | zero =>
    intro kk N ht hN h
    refine ev_shift ?_
    simp only [spec_l09Numbers.l2]
    rw [hr, hs]
    refine ev_pos (by omega) (ev_pos (by omega) (ev_neg (by omega) (ev_shift ?_)))
    simp only [spec_l09Numbers.j3]
    refine ev_neg (by decide) ?_
    simpa [cf] using h
  | succ t ih =>
    intro kk N ht hN h
    refine ev_shift ?_
    simp only [spec_l09Numbers.l2]
    rw [hr, hs]
    refine ev_pos (by omega) (ev_pos (by omega) (ev_pos (by omega) (ev_shift ?_)))
    simp only [spec_l09Numbers.j3]
    rw [hr, hs]
    by_cases hk : kk < p
    · refine ev_pos (by simpa using hk) (ev_pos (by omega) (ev_pos (by omega) ?_))
      have e0 : wrap64 ((kk : Int) + 1) = ((kk + 1 : Nat) : Int) := wsucc kk (by omega)
      have e1 : mx (u : Int) ((kk + 1 : Nat) : Int) = ((max u (kk + 1) : Nat) : Int) := by rw [mx_eq]; omega
      rw [e0, e1]
      rw [nl_sum (max u (kk + 1)) n i d hd (by clear e0 e1; omega) hn]
      clear e1 e0
      by_cases g : p ≤ max u (kk + 1) + d
      · refine ev_pos (by omega) ?_
        have e3 : cf p d c u kk (t + 1) = (c ++ [(kk : Int)], max u (kk + 1)) :: cf p d c u (kk + 1) t := by simp only [cf]; rw [if_pos ⟨hk, g⟩]
        rw [e3] at h
        have hf : (fsts N).length = N.length := by simp [fsts]
        have hsn : (snds N).length = N.length := by simp [snds]
        have h' := ih (kk + 1) (N ++ [(c ++ [(kk : Int)], max u (kk + 1))]) (by omega) (by simp; omega) (by simpa using h)
        refine ev_bind0 rfl (ev_pos (by simp; omega) (ev_bind0 rfl (ev_pos (by simp; omega) (ev_pos (by omega) (ev_pos (by omega) ?_)))))
        simpa [fsts, snds] using h'
      · refine ev_neg (by omega) ?_
        have e3 : cf p d c u kk (t + 1) = cf p d c u (kk + 1) t := by simp only [cf]; rw [if_neg (fun z => g z.2)]
        rw [e3] at h
        exact ih (kk + 1) N (by omega) (by omega) h
    · refine ev_neg (by simpa using hk) ?_
      have e3 : ∀ t kk, p ≤ kk → cf p d c u kk t = [] := by
        intro t
        induction t with
        | zero => intro kk _; rfl
        | succ t ih2 => intro kk hk; simp only [cf]; rw [if_neg (fun z => by omega), ih2 (kk + 1) (by omega)]
      rw [e3 _ _ (by omega), List.append_nil] at h
      exact h
theorem sp_nl1 (n p i d : Nat) (hd : i + d + 1 = n) (hn : n ≤ 9) (hp : p ≤ 9) (L : List (List Int × Nat)) (hL : ∀ q ∈ L, q.2 ≤ 9 ∧ q.1.length ≤ 9) (hLl : L.length * 10 ≤ 10000000000) (r : List (List Int))
    (hnext : Ev (fun k => spec_l09Numbers.l0 k n p (fsts (lev p d L)) (snds (lev p d L)) (wrap64 ((i : Int) + 1))) r) :
    ∀ (suf pre : List (List Int × Nat)), L = pre ++ suf →
      Ev (fun k => spec_l09Numbers.l1 k n p (snds L) i (fsts (lev p d pre)) (snds (lev p d pre)) (fsts L) ((fsts L).length : Int) (pre.length : Int)) r := by
  have hf : (fsts L).length = L.length := by simp [fsts]
  intro suf
  induction suf with
  | nil =>
    intro pre h
    obtain rfl : L = pre := by simp [h]
    refine ev_shift ?_
    simp only [spec_l09Numbers.l1]
    exact ev_neg (by omega) hnext
  | cons q suf ih =>
    intro pre h
    obtain ⟨c, u⟩ := q
    have hlen : L.length = pre.length + (suf.length + 1) := by subst h; simp
    have hq := hL (c, u) (by subst h; simp)
    have hr : rd_L2 (fsts L) (pre.length : Int) = c := by subst h; exact rd_L2_mid pre suf (c, u)
    have hpl := lev_len p d 10 pre (fun q hq => by have := hL q (by subst h; simp [hq]); omega)
    have hu : u ≤ 9 := hq.1
    refine ev_shift ?_
    simp only [spec_l09Numbers.l1]
    rw [hr]
    refine ev_pos (by omega) (ev_pos (by omega) (ev_pos (by omega) ?_))
    refine sp_nl2 n p i d hd hn hp L pre suf c u h hu hq.2 (by omega) r (u + 1) 0 (lev p d pre) (by omega) (by omega) ?_
    have e : lev p d pre ++ cf p d c u 0 (u + 1) = lev p d (pre ++ [(c, u)]) := by simp [lev]
    rw [e, wsucc _ (by omega)]
    have := ih (pre ++ [(c, u)]) (by simp [h])
    simpa using this
/-- The levels, from i on. -/
def levs (p : Nat) : Nat → List (List Int × Nat) → List (List Int × Nat)
  | 0, L => L
  | d + 1, L => levs p d (lev p d L)
theorem levs_fil (p : Nat) : ∀ (d : Nat) (L : List (List Int × Nat)), (levs p d L).flatMap (fun q => fil p (ex 0 q.1 q.2)) = L.flatMap (fun q => fil p (ex d q.1 q.2)) := by
  intro d
  induction d with
  | zero => intro L; rfl
  | succ d ih => intro L; simp only [levs]; rw [ih, lev_fil]
theorem lev_mem (p d : Nat) (L : List (List Int × Nat)) (q : List Int × Nat) (h : q ∈ lev p d L) : ∃ q0 ∈ L, q ∈ cf p d q0.1 q0.2 0 (q0.2 + 1) := by
  simp only [lev, List.mem_flatMap] at h
  exact h
theorem levs_all (p : Nat) : ∀ (d : Nat) (L : List (List Int × Nat)), (∀ q ∈ L, q.2 ≤ p ∧ p ≤ q.2 + d) → ∀ q ∈ levs p d L, q.2 = p := by
  intro d
  induction d with
  | zero => intro L h q hq; have := h q hq; omega
  | succ d ih =>
    intro L h
    simp only [levs]
    refine ih _ (fun q hq => ?_)
    obtain ⟨q0, h0, h1⟩ := lev_mem p d L q hq
    have := cf_mem p d _ _ _ _ q h1
    have := h q0 h0
    omega
theorem fil_zero (p : Nat) : ∀ (L : List (List Int × Nat)), (∀ q ∈ L, q.2 = p) → L.flatMap (fun q => fil p (ex 0 q.1 q.2)) = L := by
  intro L
  induction L with
  | nil => intro _; rfl
  | cons q L ih =>
    intro h
    rw [List.flatMap_cons, ih (fun q hq => h q (by simp [hq]))]
    have := h q (by simp)
    obtain ⟨a, b⟩ := q
    have hb : b = p := this
    subst hb
    simp [ex, fil]
theorem cf_clen (p d : Nat) (c : List Int) (u : Nat) : ∀ (t k : Nat) (q : List Int × Nat), q ∈ cf p d c u k t → q.1.length = c.length + 1 := by
  intro t
  induction t with
  | zero => intro k q h; cases h
  | succ t ih =>
    intro k q h
    simp only [cf] at h
    split at h
    · rcases List.mem_cons.mp h with rfl | h
      · simp
      · exact ih (k + 1) q h
    · exact ih (k + 1) q h
theorem sp_nl0 (n p : Nat) (hn : n ≤ 9) (hp : p ≤ 9) : ∀ (d i : Nat) (L : List (List Int × Nat)), i + d = n → (∀ q ∈ L, q.2 ≤ i ∧ q.1.length = i) → L.length ≤ 10 ^ i →
    Ev (fun k => spec_l09Numbers.l0 k n p (fsts L) (snds L) (i : Int)) (fsts (levs p d L)) := by
  intro d
  induction d with
  | zero =>
    intro i L hi h hl
    obtain rfl : i = n := by omega
    refine ev_shift ?_
    simp only [spec_l09Numbers.l0]
    exact ev_neg (by omega) (ev_now _)
  | succ d ih =>
    intro i L hi h hl
    have hp8 : 10 ^ i ≤ 10 ^ 8 := Nat.pow_le_pow_right (by omega) (by omega)
    have h8 : (10 : Nat) ^ 8 = 100000000 := by decide
    refine ev_shift ?_
    simp only [spec_l09Numbers.l0]
    refine ev_pos (by omega) ?_
    refine sp_nl1 n p i d (by omega) hn hp L (fun q hq => by have := h q hq; omega) (by omega) _ ?_ L [] (by simp)
    rw [wsucc i (by omega)]
    refine ih (i + 1) (lev p d L) (by omega) (fun q hq => ?_) ?_
    · obtain ⟨q0, h0, h1⟩ := lev_mem p d L q hq
      have a := cf_mem p d _ _ _ _ q h1
      have b := cf_clen p d _ _ _ _ q h1
      have c := h q0 h0
      have := a.2.2 (by omega)
      omega
    · have := lev_len p d 10 L (fun q hq => by have := h q hq; omega)
      rw [Nat.pow_succ]
      have : L.length * 10 ≤ 10 ^ i * 10 := Nat.mul_le_mul_right _ hl
      omega
/-- The reference's numberings: those with just p numbers, in order. -/
theorem numbers_ev (n p : Nat) (hn : n ≤ 9) (h1 : 1 ≤ p) (hp : p ≤ n) : Ev (fun k => spec_l09Numbers.f k n p) (fsts (fil p (ex n [] 0))) := by
  unfold spec_l09Numbers.f
  have h := sp_nl0 n p hn (by omega) n 0 [([], 0)] (by omega) (by simp) (by simp)
  refine ev_eq h ?_
  congr 1
  have e := levs_fil p n [([], 0)]
  rw [fil_zero p _ (levs_all p n _ (fun q hq => by simp at hq; subst hq; simp; omega))] at e
  rw [e]
  simp
/-- and, of two numbers that are each put together of a high and a low part -/
theorem and_cat (k q b m n : Nat) (hb : b < 2 ^ k) (hn : n < 2 ^ k) : (2 ^ k * q + b) &&& (2 ^ k * m + n) = 2 ^ k * (q &&& m) + (b &&& n) := by
  apply Nat.eq_of_testBit_eq
  intro i
  have hbn : b &&& n < 2 ^ k := Nat.and_lt_two_pow _ hn
  rw [Nat.testBit_and, Nat.testBit_two_pow_mul_add _ hb, Nat.testBit_two_pow_mul_add _ hn, Nat.testBit_two_pow_mul_add _ hbn]
  split
  · rw [Nat.testBit_and]
  · rw [Nat.testBit_and]
def pop : Nat → Nat → Nat
  | 0, _ => 0
  | n + 1, x => x % 2 + pop n (x / 2)
def cat : List Nat → Nat
  | [] => 0
  | b :: l => 256 * cat l + b
def rep (c : Nat) : Nat → Nat
  | 0 => 0
  | n + 1 => 256 * rep c n + c
theorem pop_zero (n : Nat) : pop n 0 = 0 := by
  induction n with
  | zero => rfl
  | succ n ih => simp [pop, ih]
theorem fin256 {p : Nat → Bool} (h : (List.range 256).all p = true) (b : Nat) (hb : b < 256) : p b = true := List.all_eq_true.mp h b (by simpa using hb)
def A1 (b : Nat) : Nat := (b / 2 &&& 0x55) + (b &&& 0x55)
def B1 (b : Nat) : Nat := (b / 4 &&& 0x33) + (b &&& 0x33)
def C1 (b : Nat) : Nat := (b / 16 + b) &&& 0x0f
theorem stepA (l : List Nat) (h : ∀ b ∈ l, b < 256) : (cat l / 2 &&& rep 0x55 l.length) + (cat l &&& rep 0x55 l.length) = cat (l.map A1) := by
  induction l with
  | nil => rfl
  | cons b l ih =>
    have hb : b < 256 := h b (by simp)
    have hi := ih (fun x hx => h x (by simp [hx]))
    simp only [cat, rep, List.length_cons, List.map_cons]
    have e1 : (256 * cat l + b) / 2 = 256 * (cat l / 2) + (128 * (cat l % 2) + b / 2) := by omega
    have l1 : 128 * (cat l % 2) + b / 2 < 256 := by omega
    have f : ∀ r < 2, (128 * r + b / 2) &&& 0x55 = b / 2 &&& 0x55 := by
      have := fin256 (p := fun b => (List.range 2).all fun r => (128 * r + b / 2) &&& 0x55 == b / 2 &&& 0x55) (by decide +kernel) b hb
      intro r hr
      have t := List.all_eq_true.mp this r (by simpa using hr)
      simpa using t
    rw [e1, and_cat 8 _ _ _ _ l1 (by decide), and_cat 8 _ _ _ _ hb (by decide), f _ (by omega)]
    rw [← hi]
    unfold A1
    omega
theorem stepB (l : List Nat) (h : ∀ b ∈ l, b < 256) : (cat l / 4 &&& rep 0x33 l.length) + (cat l &&& rep 0x33 l.length) = cat (l.map B1) := by
  induction l with
  | nil => rfl
  | cons b l ih =>
    have hb : b < 256 := h b (by simp)
    have hi := ih (fun x hx => h x (by simp [hx]))
    simp only [cat, rep, List.length_cons, List.map_cons]
    have e1 : (256 * cat l + b) / 4 = 256 * (cat l / 4) + (64 * (cat l % 4) + b / 4) := by omega
    have l1 : 64 * (cat l % 4) + b / 4 < 256 := by omega
    have f : ∀ r < 4, (64 * r + b / 4) &&& 0x33 = b / 4 &&& 0x33 := by
      have := fin256 (p := fun b => (List.range 4).all fun r => (64 * r + b / 4) &&& 0x33 == b / 4 &&& 0x33) (by decide +kernel) b hb
      intro r hr
      have t := List.all_eq_true.mp this r (by simpa using hr)
      simpa using t
    rw [e1, and_cat 8 _ _ _ _ l1 (by decide), and_cat 8 _ _ _ _ hb (by decide), f _ (by omega)]
    rw [← hi]
    unfold B1
    omega
theorem stepC (l : List Nat) (h : ∀ b ∈ l, b % 16 ≤ 4 ∧ b / 16 ≤ 4) : (cat l / 16 + cat l) &&& rep 0x0f l.length = cat (l.map C1) := by
  induction l with
  | nil => rfl
  | cons b l ih =>
    have hb := h b (by simp)
    have hi := ih (fun x hx => h x (by simp [hx]))
    have hr : cat l % 16 ≤ 4 := by
      cases l with
      | nil => simp [cat]
      | cons c l => have := h c (by simp); simp only [cat]; omega
    simp only [cat, rep, List.length_cons, List.map_cons]
    have e1 : (256 * cat l + b) / 16 + (256 * cat l + b) = 256 * (cat l / 16 + cat l) + (16 * (cat l % 16) + (b / 16 + b)) := by omega
    have l1 : 16 * (cat l % 16) + (b / 16 + b) < 256 := by omega
    have f : ∀ r < 5, (16 * r + (b / 16 + b)) &&& 0x0f = (b / 16 + b) &&& 0x0f := by
      intro r hr
      rw [show (0x0f : Nat) = 2 ^ 4 - 1 from rfl, Nat.and_two_pow_sub_one_eq_mod, Nat.and_two_pow_sub_one_eq_mod]
      omega
    rw [e1, and_cat 8 _ _ _ _ l1 (by decide), f _ (by omega), hi]
    rfl
def P8 (b : Nat) : Nat := C1 (B1 (A1 b))
theorem bytes_of (n : Nat) : ∀ x : Nat, x < 256 ^ n → ∃ l : List Nat, l.length = n ∧ (∀ b ∈ l, b < 256) ∧ cat l = x := by
  induction n with
  | zero => intro x hx; exact ⟨[], rfl, by simp, by simp [cat]; omega⟩
  | succ n ih =>
    intro x hx
    obtain ⟨l, h1, h2, h3⟩ := ih (x / 256) (by rw [Nat.pow_succ] at hx; omega)
    exact ⟨x % 256 :: l, by simp [h1], by intro b hb; rcases List.mem_cons.mp hb with rfl | h; omega; exact h2 b h, by simp only [cat, h3]; omega⟩
theorem pop8 (b : Nat) (hb : b < 256) : P8 b = pop 8 b ∧ A1 b < 256 ∧ B1 (A1 b) < 256 ∧ B1 (A1 b) % 16 ≤ 4 ∧ B1 (A1 b) / 16 ≤ 4 ∧ P8 b ≤ 8 := by
  have := fin256 (p := fun b => decide (P8 b = pop 8 b ∧ A1 b < 256 ∧ B1 (A1 b) < 256 ∧ B1 (A1 b) % 16 ≤ 4 ∧ B1 (A1 b) / 16 ≤ 4 ∧ P8 b ≤ 8)) (by decide +kernel) b hb
  exact of_decide_eq_true this
/-- The three steps within bytes. -/
theorem steps (x : Nat) (hx : x < 2 ^ 64) : ∃ b0 b1 b2 b3 b4 b5 b6 b7 : Nat, (b0 < 256 ∧ b1 < 256 ∧ b2 < 256 ∧ b3 < 256 ∧ b4 < 256 ∧ b5 < 256 ∧ b6 < 256 ∧ b7 < 256) ∧ x = cat [b0, b1, b2, b3, b4, b5, b6, b7] ∧
    ∃ a b : Nat, a = (x / 2 &&& 6148914691236517205) + (x &&& 6148914691236517205) ∧ a < 2 ^ 64 ∧ b = (a / 4 &&& 3689348814741910323) + (a &&& 3689348814741910323) ∧ b / 16 + b < 2 ^ 64 ∧
    (b / 16 + b) &&& 1085102592571150095 = cat [pop 8 b0, pop 8 b1, pop 8 b2, pop 8 b3, pop 8 b4, pop 8 b5, pop 8 b6, pop 8 b7] := by
  obtain ⟨l, h1, h2, h3⟩ := bytes_of 8 x hx
  match l, h1 with
  | [b0, b1, b2, b3, b4, b5, b6, b7], _ =>
    simp only [List.mem_cons, List.not_mem_nil, or_false, forall_eq_or_imp, forall_eq] at h2
    obtain ⟨g0, g1, g2, g3, g4, g5, g6, g7⟩ := h2
    have q0 := pop8 b0 g0; have q1 := pop8 b1 g1; have q2 := pop8 b2 g2; have q3 := pop8 b3 g3
    have q4 := pop8 b4 g4; have q5 := pop8 b5 g5; have q6 := pop8 b6 g6; have q7 := pop8 b7 g7
    refine ⟨b0, b1, b2, b3, b4, b5, b6, b7, ⟨g0, g1, g2, g3, g4, g5, g6, g7⟩, h3.symm, ?_⟩
    have sA := stepA [b0, b1, b2, b3, b4, b5, b6, b7] (by simp; omega)
    have sB := stepB ([b0, b1, b2, b3, b4, b5, b6, b7].map A1) (by simp; omega)
    have sC := stepC (([b0, b1, b2, b3, b4, b5, b6, b7].map A1).map B1) (by simp; omega)
    refine ⟨_, _, rfl, ?_, rfl, ?_, ?_⟩
    all_goals subst h3
    · show (cat _ / 2 &&& rep 0x55 8) + (cat _ &&& rep 0x55 8) < _
      have := sA
      simp only [List.length_cons, List.length_nil, Nat.zero_add] at this
      rw [this]
      simp only [List.map_cons, List.map_nil, cat]
      omega
    · have e1 := sA
      simp only [List.length_cons, List.length_nil, Nat.zero_add] at e1
      have e2 := sB
      simp only [List.length_map, List.length_cons, List.length_nil, Nat.zero_add] at e2
      have e1' : (cat [b0, b1, b2, b3, b4, b5, b6, b7] / 2 &&& 6148914691236517205) + (cat [b0, b1, b2, b3, b4, b5, b6, b7] &&& 6148914691236517205) = _ := e1
      have e2' : (cat (List.map A1 [b0, b1, b2, b3, b4, b5, b6, b7]) / 4 &&& 3689348814741910323) + (cat (List.map A1 [b0, b1, b2, b3, b4, b5, b6, b7]) &&& 3689348814741910323) = _ := e2
      rw [e1', e2']
      simp only [List.map_cons, List.map_nil, cat]
      omega
    · have e1 := sA
      simp only [List.length_cons, List.length_nil, Nat.zero_add] at e1
      have e2 := sB
      simp only [List.length_map, List.length_cons, List.length_nil, Nat.zero_add] at e2
      have e3 := sC
      simp only [List.length_map, List.length_cons, List.length_nil, Nat.zero_add] at e3
      have e1' : (cat [b0, b1, b2, b3, b4, b5, b6, b7] / 2 &&& 6148914691236517205) + (cat [b0, b1, b2, b3, b4, b5, b6, b7] &&& 6148914691236517205) = _ := e1
      have e2' : (cat (List.map A1 [b0, b1, b2, b3, b4, b5, b6, b7]) / 4 &&& 3689348814741910323) + (cat (List.map A1 [b0, b1, b2, b3, b4, b5, b6, b7]) &&& 3689348814741910323) = _ := e2
      have e3' : (cat (List.map B1 (List.map A1 [b0, b1, b2, b3, b4, b5, b6, b7])) / 16 + cat (List.map B1 (List.map A1 [b0, b1, b2, b3, b4, b5, b6, b7]))) &&& 1085102592571150095 = _ := e3
      rw [e1', e2', e3']
      have p0 := q0.1; have p1 := q1.1; have p2 := q2.1; have p3 := q3.1; have p4 := q4.1; have p5 := q5.1; have p6 := q6.1; have p7 := q7.1
      unfold P8 at p0 p1 p2 p3 p4 p5 p6 p7
      simp only [List.map_cons, List.map_nil, p0, p1, p2, p3, p4, p5, p6, p7]
theorem pop_cat (b q n : Nat) (hb : b < 256) : pop (8 + n) (256 * q + b) = pop 8 b + pop n q := by
  rw [Nat.add_comm 8 n]
  simp only [pop]
  have e : (256 * q + b) / 2 / 2 / 2 / 2 / 2 / 2 / 2 / 2 = q := by omega
  rw [e]
  omega
theorem pop_more (n : Nat) : ∀ m x : Nat, x < 2 ^ n → pop (n + m) x = pop n x := by
  induction n with
  | zero => intro m x hx; obtain rfl : x = 0 := by omega
            rw [pop_zero, pop_zero]
  | succ n ih =>
    intro m x hx
    rw [Nat.succ_add]
    simp only [pop]
    rw [ih m (x / 2) (by rw [Nat.pow_succ] at hx; omega)]
theorem pop_cat8 (b0 b1 b2 b3 b4 b5 b6 b7 : Nat) (h : b0 < 256 ∧ b1 < 256 ∧ b2 < 256 ∧ b3 < 256 ∧ b4 < 256 ∧ b5 < 256 ∧ b6 < 256 ∧ b7 < 256) :
    pop 64 (cat [b0, b1, b2, b3, b4, b5, b6, b7]) = pop 8 b0 + pop 8 b1 + pop 8 b2 + pop 8 b3 + pop 8 b4 + pop 8 b5 + pop 8 b6 + pop 8 b7 := by
  simp only [cat]
  rw [show (64 : Nat) = 8 + (8 + (8 + (8 + (8 + (8 + (8 + (8 + 0))))))) from rfl]
  rw [pop_cat _ _ _ (by omega), pop_cat _ _ _ (by omega), pop_cat _ _ _ (by omega), pop_cat _ _ _ (by omega), pop_cat _ _ _ (by omega), pop_cat _ _ _ (by omega), pop_cat _ _ _ (by omega), pop_cat _ _ _ (by omega)]
  simp only [pop]
  omega
/-- The last steps: the bytes' sum. -/
theorem folds (p0 p1 p2 p3 p4 p5 p6 p7 : Nat) (h : p0 ≤ 8 ∧ p1 ≤ 8 ∧ p2 ≤ 8 ∧ p3 ≤ 8 ∧ p4 ≤ 8 ∧ p5 ≤ 8 ∧ p6 ≤ 8 ∧ p7 ≤ 8) (y z u v : Nat) (hy : y = cat [p0, p1, p2, p3, p4, p5, p6, p7])
    (hz : z = y + y / 256) (hu : u = z + z / 65536) (hv : v = u + u / 4294967296) : z < 2 ^ 63 ∧ u < 2 ^ 63 ∧ v < 2 ^ 63 ∧ v % 128 = p0 + p1 + p2 + p3 + p4 + p5 + p6 + p7 := by
  simp only [cat] at hy
  have z0 : z = (p0 + p1) + 256 * (p1 + p2) + 65536 * (p2 + p3) + 16777216 * (p3 + p4) + 4294967296 * (p4 + p5) + 1099511627776 * (p5 + p6) + 281474976710656 * (p6 + p7) + 72057594037927936 * p7 := by omega
  have u0 : u = (p0 + p1 + p2 + p3) + 256 * (p1 + p2 + p3 + p4) + 65536 * (p2 + p3 + p4 + p5) + 16777216 * (p3 + p4 + p5 + p6) + 4294967296 * (p4 + p5 + p6 + p7) + 1099511627776 * (p5 + p6 + p7) + 281474976710656 * (p6 + p7) + 72057594037927936 * p7 := by
    have : z / 65536 = (p2 + p3) + 256 * (p3 + p4) + 65536 * (p4 + p5) + 16777216 * (p5 + p6) + 4294967296 * (p6 + p7) + 1099511627776 * p7 := by omega
    omega
  have v0 : u / 4294967296 = (p4 + p5 + p6 + p7) + 256 * (p5 + p6 + p7) + 65536 * (p6 + p7) + 16777216 * p7 := by omega
  have zl : z < 2 ^ 63 := by clear hz hu hv u0 v0 hy; omega
  clear hy hz
  have ul : u < 2 ^ 63 := by clear hu hv v0 z0; omega
  clear hu z0
  have v1 : v = (p0 + p1 + p2 + p3 + p4 + p5 + p6 + p7) + 128 * (2 * (p1 + p2 + p3 + p4 + p5 + p6 + p7) + 512 * (p2 + p3 + p4 + p5 + p6 + p7) + 131072 * (p3 + p4 + p5 + p6 + p7) + 33554432 * (p4 + p5 + p6 + p7) + 8589934592 * (p5 + p6 + p7) + 2199023255552 * (p6 + p7) + 562949953421312 * p7) := by
    rw [hv, v0, u0]; clear hv v0 u0 ul zl; omega
  have vl : v < 2 ^ 63 := by clear v0 u0; omega
  refine ⟨zl, ul, vl, ?_⟩
  rw [v1, Nat.add_mul_mod_self_left]
  clear v1 v0 u0 hv vl ul zl
  exact Nat.mod_eq_of_lt (by omega)
theorem and_u64 (a b : Nat) (ha : a < 2 ^ 64) (hb : b < 2 ^ 64) : Go.bits .and .u64 (a : Int) (b : Int) = ((a &&& b : Nat) : Int) :=
  (Go.bits_nat .u64 64 (by decide) (fun n h0 h1 => by unfold Go.IntKind.wrap; simp [Go.IntKind.bits, Go.IntKind.signed]; omega) a b ha hb).1
theorem and_i64 (a b : Nat) (ha : a < 2 ^ 63) (hb : b < 2 ^ 63) : Go.bits .and .i64 (a : Int) (b : Int) = ((a &&& b : Nat) : Int) :=
  (Go.bits_nat .i64 63 (by decide) (fun n h0 h1 => by rw [Go.IntKind.wrap_i64]; omega) a b ha hb).1
theorem or_i64 (a b : Nat) (ha : a < 2 ^ 63) (hb : b < 2 ^ 63) : Go.bits .or .i64 (a : Int) (b : Int) = ((a ||| b : Nat) : Int) :=
  (Go.bits_nat .i64 63 (by decide) (fun n h0 h1 => by rw [Go.IntKind.wrap_i64]; omega) a b ha hb).2
theorem u64_nat (a : Nat) (ha : a < 2 ^ 64) : IntKind.u64.wrap (a : Int) = (a : Int) := by
  unfold Go.IntKind.wrap; simp [Go.IntKind.bits, Go.IntKind.signed]; omega
theorem and1 (x : Nat) : x &&& 1 = x % 2 := Nat.and_one_is_mod x
theorem ones64 (x : Nat) (hx : x < 2 ^ 64) : bits_OnesCount64.f (x : Int) = some ((pop 64 x : Nat) : Int) := by
  obtain ⟨b0, b1, b2, b3, b4, b5, b6, b7, hb, hc, a, b, ha, ha', hbb, hb', hy⟩ := steps x hx
  unfold bits_OnesCount64.f
  have l5 : (6148914691236517205 : Nat) < 2 ^ 64 := by decide
  have l3 : (3689348814741910323 : Nat) < 2 ^ 64 := by decide
  have lf : (1085102592571150095 : Nat) < 2 ^ 64 := by decide
  have d2 : ((x : Int) / 2) = ((x / 2 : Nat) : Int) := by omega
  have eA : IntKind.u64.wrap ((Go.bits .and .u64 ((x : Int) / 2) 6148914691236517205) + (Go.bits .and .u64 (x : Int) 6148914691236517205)) = (a : Int) := by
    have i1 := and_u64 (x / 2) 6148914691236517205 (by omega) l5
    have i2 := and_u64 x 6148914691236517205 hx l5
    rw [d2]
    have i1' : Go.bits .and .u64 ((x / 2 : Nat) : Int) 6148914691236517205 = _ := i1
    have i2' : Go.bits .and .u64 ((x : Nat) : Int) 6148914691236517205 = _ := i2
    rw [i1', i2', ← Int.natCast_add, ← ha]
    exact u64_nat a ha'
  simp only [eA]
  have d4 : ((a : Int) / 4) = ((a / 4 : Nat) : Int) := by omega
  have lb : b < 2 ^ 64 := by omega
  have eB : IntKind.u64.wrap ((Go.bits .and .u64 ((a : Int) / 4) 3689348814741910323) + (Go.bits .and .u64 (a : Int) 3689348814741910323)) = (b : Int) := by
    have i1 := and_u64 (a / 4) 3689348814741910323 (by omega) l3
    have i2 := and_u64 a 3689348814741910323 ha' l3
    rw [d4]
    have i1' : Go.bits .and .u64 ((a / 4 : Nat) : Int) 3689348814741910323 = _ := i1
    have i2' : Go.bits .and .u64 ((a : Nat) : Int) 3689348814741910323 = _ := i2
    rw [i1', i2', ← Int.natCast_add, ← hbb]
    exact u64_nat b lb
  simp only [eB]
  have d16 : ((b : Int) / 16) + (b : Int) = ((b / 16 + b : Nat) : Int) := by omega
  rw [d16, u64_nat _ hb']
  have eC : Go.bits .and .u64 ((b / 16 + b : Nat) : Int) 1085102592571150095 = (((b / 16 + b) &&& 1085102592571150095 : Nat) : Int) := and_u64 _ 1085102592571150095 hb' lf
  simp only [eC, hy]
  have q0 := (pop8 b0 hb.1).1 ▸ (pop8 b0 hb.1).2.2.2.2.2
  have r := fun c (hc : c < 256) => (pop8 c hc).1 ▸ (pop8 c hc).2.2.2.2.2
  obtain ⟨g1, g2, g3, g4⟩ := folds (pop 8 b0) (pop 8 b1) (pop 8 b2) (pop 8 b3) (pop 8 b4) (pop 8 b5) (pop 8 b6) (pop 8 b7)
    ⟨r _ (by omega), r _ (by omega), r _ (by omega), r _ (by omega), r _ (by omega), r _ (by omega), r _ (by omega), r _ (by omega)⟩ _ _ _ _ rfl rfl rfl rfl
  generalize hY : cat [pop 8 b0, pop 8 b1, pop 8 b2, pop 8 b3, pop 8 b4, pop 8 b5, pop 8 b6, pop 8 b7] = Y at *
  have z1 : ((Y : Int) + (Y : Int) / 256) = ((Y + Y / 256 : Nat) : Int) := by omega
  rw [z1, u64_nat _ (by omega)]
  generalize hZ : Y + Y / 256 = Z at *
  have z2 : ((Z : Int) + (Z : Int) / 65536) = ((Z + Z / 65536 : Nat) : Int) := by omega
  rw [z2, u64_nat _ (by omega)]
  generalize hU : Z + Z / 65536 = U at *
  have z3 : ((U : Int) + (U : Int) / 4294967296) = ((U + U / 4294967296 : Nat) : Int) := by omega
  rw [z3, u64_nat _ (by omega)]
  generalize hV : U + U / 4294967296 = V at *
  rw [w64 (by omega) (by omega)]
  have e7 : Go.bits .and .i64 (V : Int) 127 = ((V &&& 127 : Nat) : Int) := and_i64 V 127 (by omega) (by decide)
  rw [e7, show (127 : Nat) = 2 ^ 7 - 1 from rfl, Nat.and_two_pow_sub_one_eq_mod, show 2 ^ 7 = 128 from rfl, g4, hc, pop_cat8 _ _ _ _ _ _ _ _ hb]
theorem onesCount (x : Nat) (hx : x < 2 ^ 64) : bits_OnesCount.f (x : Int) = some ((pop 64 x : Nat) : Int) := by
  unfold bits_OnesCount.f
  rw [ones64 x hx]; rfl
theorem l08Ones_from (m : Nat) : ∀ (x n : Nat), x < 2 ^ m → m ≤ 62 → n + m ≤ 100 → Ev (fun k => spec_l08Ones.l0 k (x : Int) (n : Int)) ((n + pop m x : Nat) : Int) := by
  induction m with
  | zero =>
    intro x n hx hm hn
    obtain rfl : x = 0 := by omega
    refine ev_shift ?_
    simp only [spec_l08Ones.l0, pop]
    exact ev_neg (by omega) (ev_now _)
  | succ m ih =>
    intro x n hx hm hn
    have hp : 2 ^ m ≤ 2 ^ 61 := Nat.pow_le_pow_right (by decide) (by omega)
    refine ev_shift ?_
    simp only [spec_l08Ones.l0]
    by_cases h : 0 < x
    · refine ev_pos (by omega) ?_
      have e : Go.bits .and .i64 (x : Int) 1 = ((x % 2 : Nat) : Int) := by
        have := and_i64 x 1 (by rw [Nat.pow_succ] at hx; omega) (by decide)
        rw [and1] at this; exact this
      rw [e, ← Int.natCast_add, w64 (by omega) (by omega)]
      have d : (x : Int) / 2 = ((x / 2 : Nat) : Int) := by omega
      rw [d]
      have := ih (x / 2) (n + x % 2) (by rw [Nat.pow_succ] at hx; omega) (by omega) (by omega)
      refine ev_eq this ?_
      simp only [pop]; omega
    · obtain rfl : x = 0 := by omega
      rw [pop_zero]
      exact ev_neg (by omega) (ev_now _)
theorem l08Ones_ev (m : Nat) (x : Nat) (hx : x < 2 ^ m) (hm : m ≤ 62) : Ev (fun k => spec_l08Ones.f k (x : Int)) ((pop 64 x : Nat) : Int) := by
  unfold spec_l08Ones.f
  have := l08Ones_from m x 0 hx hm (by omega)
  refine ev_eq this ?_
  rw [show (64 : Nat) = m + (64 - m) by omega, pop_more _ _ _ hx]
  simp
/-- A table of w columns and h rows has from 1 to 6 of each; a mask has its bits below w * h. -/
def isT (w h : Int) : Bool := decide (1 ≤ w ∧ w ≤ 6 ∧ 1 ≤ h ∧ h ≤ 6)
def okS (w h m : Int) : Bool := isT w h && decide (0 ≤ m ∧ m < 2 ^ (w * h).toNat)
theorem isT_iff {w h : Int} : isT w h = true ↔ 1 ≤ w ∧ w ≤ 6 ∧ 1 ≤ h ∧ h ≤ 6 := by simp [isT]
theorem okS_iff {w h m : Int} : okS w h m = true ↔ (1 ≤ w ∧ w ≤ 6 ∧ 1 ≤ h ∧ h ≤ 6) ∧ 0 ≤ m ∧ m < 2 ^ (w * h).toNat := by simp [okS, isT]
theorem table_all {p : Int → Int → Bool} (H : (List.range 6).all (fun w => (List.range 6).all fun h => p ((w : Int) + 1) ((h : Int) + 1)) = true) (w h : Int) (hw : isT w h = true) : p w h = true := by
  obtain ⟨a, b, c, d⟩ := isT_iff.mp hw
  have e1 : w = (((w - 1).toNat : Nat) : Int) + 1 := by omega
  have e2 : h = (((h - 1).toNat : Nat) : Int) + 1 := by omega
  have := List.all_eq_true.mp (List.all_eq_true.mp H (w - 1).toNat (by simp; omega)) (h - 1).toNat (by simp; omega)
  rw [e1, e2]; exact this
theorem shl_table (w h : Int) (hw : isT w h = true) : (0 ≤ wrap64 (w * h) ∧ wrap64 (w * h) = w * h ∧ w * h ≤ 36 ∧ shl .i64 1 (wrap64 (w * h)) = 2 ^ (w * h).toNat) ∧ (2 : Int) ^ (w * h).toNat ≤ 68719476736 ∧ 2 ≤ (2 : Int) ^ (w * h).toNat := by
  have := table_all (p := fun w h => decide ((0 ≤ wrap64 (w * h) ∧ wrap64 (w * h) = w * h ∧ w * h ≤ 36 ∧ shl .i64 1 (wrap64 (w * h)) = 2 ^ (w * h).toNat) ∧ (2 : Int) ^ (w * h).toNat ≤ 68719476736 ∧ 2 ≤ (2 : Int) ^ (w * h).toNat)) (by decide +kernel) w h hw
  exact of_decide_eq_true this
theorem spec_shapeOk (w h m : Int) : spec_ShapeOk.f w h m = some (okS w h m) := by
  unfold spec_ShapeOk.f
  simp only [in_eq, Option.bind_some]
  by_cases c : isT w h = true
  · obtain ⟨⟨a1, a2, a3, a4⟩, a5, a6⟩ := shl_table w h c
    have c' := isT_iff.mp c
    rw [if_pos (by simp; omega), if_pos (by simp; omega), if_pos a1, a4, w64 (by omega) (by omega)]
    unfold okS
    rw [c, Bool.true_and]
    exact congrArg some (decide_eq_decide.mpr (by omega))
  · have e : okS w h m = false := by unfold okS; simp [c]
    have c' : ¬ (1 ≤ w ∧ w ≤ 6 ∧ 1 ≤ h ∧ h ≤ 6) := fun x => c (isT_iff.mpr x)
    rw [e]
    by_cases d : 1 ≤ w ∧ w ≤ 6
    · rw [if_pos (decide_eq_true d), if_neg (fun x => c' (by have := of_decide_eq_true x; omega))]
    · rw [if_neg (fun x => d (of_decide_eq_true x))]
theorem impl_isTable (w h : Int) : impl_isTable.f w h = some (isT w h) := by
  unfold impl_isTable.f
  simp only [within_eq, Option.bind_some]
  by_cases d : 1 ≤ w ∧ w ≤ 6
  · rw [if_pos (decide_eq_true d)]
    exact congrArg some (decide_eq_decide.mpr (by omega))
  · rw [if_neg (fun x => d (of_decide_eq_true x))]
    exact congrArg some (decide_eq_false (by omega)).symm
theorem impl_shapeOk (w h m : Int) : impl_ShapeOk.f w h m = some (okS w h m) := by
  unfold impl_ShapeOk.f
  simp only [impl_isTable, Option.bind_some]
  by_cases c : isT w h = true
  · obtain ⟨⟨a1, a2, a3, a4⟩, a5, a6⟩ := shl_table w h c
    rw [if_pos c, if_pos a1, a4]
    unfold okS
    rw [c]
    rw [Bool.true_and]
    by_cases g : m ≥ 0
    · rw [if_pos g]
      exact congrArg some (decide_eq_decide.mpr (by omega))
    · rw [if_neg g]
      exact congrArg some (decide_eq_false (by omega)).symm
  · rw [if_neg c]; unfold okS; simp [c]
theorem shr_nat (x i : Nat) (hi : i ≤ 64) : shr .i64 (x : Int) (i : Int) = ((x / 2 ^ i : Nat) : Int) := by
  unfold shr
  rw [show min ((i : Int)).toNat (IntKind.bits .i64) = i from by
    have : IntKind.bits .i64 = 64 := rfl
    omega]
  rw [Int.natCast_ediv, Int.natCast_pow]; rfl
theorem bit_at (x i : Nat) (hx : x < 2 ^ 62) (hi : i ≤ 64) : Go.bits .and .i64 (shr .i64 (x : Int) (i : Int)) 1 = ((x / 2 ^ i % 2 : Nat) : Int) := by
  rw [shr_nat x i hi]
  have h := and_i64 (x / 2 ^ i) 1 (Nat.lt_of_le_of_lt (Nat.div_le_self _ _) (by omega)) (by decide)
  rw [and1] at h
  exact h
theorem testBit_div (x i : Nat) : x.testBit i = decide (x / 2 ^ i % 2 = 1) := Nat.testBit_eq_decide_div_mod_eq
theorem bit_eq1 (x i : Nat) (hx : x < 2 ^ 62) (hi : i ≤ 64) : (Go.bits .and .i64 (shr .i64 (x : Int) (i : Int)) 1 = 1) ↔ x.testBit i = true := by
  rw [bit_at x i hx hi, testBit_div, decide_eq_true_iff]
  generalize x / 2 ^ i % 2 = q
  omega
theorem bit_eq0 (x i : Nat) (hx : x < 2 ^ 62) (hi : i ≤ 64) : (Go.bits .and .i64 (shr .i64 (x : Int) (i : Int)) 1 = 0) ↔ x.testBit i = false := by
  rw [bit_at x i hx hi, testBit_div, decide_eq_false_iff_not]
  have : x / 2 ^ i % 2 < 2 := Nat.mod_lt _ (by decide)
  generalize x / 2 ^ i % 2 = q at *
  omega
theorem shl_nat (i : Nat) (hi : i ≤ 62) : shl .i64 1 (i : Int) = ((2 ^ i : Nat) : Int) := by
  unfold shl
  rw [show min ((i : Int)).toNat (IntKind.bits .i64) = i from by
    have : IntKind.bits .i64 = 64 := rfl
    omega]
  have h : 2 ^ i ≤ 2 ^ 62 := Nat.pow_le_pow_right (by decide) hi
  have e : (1 : Int) * 2 ^ i = ((2 ^ i : Nat) : Int) := by rw [Int.natCast_pow]; simp
  rw [e, IntKind.wrap_i64]
  generalize 2 ^ i = q at *
  omega
theorem has_eq (x i : Nat) (hx : x < 2 ^ 62) (hi : i ≤ 64) : impl_has.f (x : Int) (i : Int) = some (x.testBit i) := by
  unfold impl_has.f
  rw [if_pos (by omega)]
  have h := bit_eq1 x i hx hi
  cases e : x.testBit i
  · rw [e] at h
    simp at h
    exact congrArg some (by simpa using h)
  · rw [e] at h
    simp at h
    exact congrArg some (by simpa using h)
theorem zero_test (x i : Nat) (h : x / 2 ^ i = 0) (j : Nat) (hj : i ≤ j) : x.testBit j = false := by
  apply Nat.testBit_lt_two_pow
  have : x < 2 ^ i := by
    rcases Nat.div_eq_zero_iff.mp h with h | h
    · have := Nat.two_pow_pos i; omega
    · exact h
  exact Nat.lt_of_lt_of_le this (Nat.pow_le_pow_right (by decide) hj)
/-- The cells of a mask from i on, d of them. -/
def cl (x : Nat) : Nat → Nat → List Nat
  | _, 0 => []
  | i, d + 1 => if x.testBit i then i :: cl x (i + 1) d else cl x (i + 1) d
theorem cl_none (x : Nat) (d : Nat) : ∀ i, x / 2 ^ i = 0 → cl x i d = [] := by
  induction d with
  | zero => intro i _; rfl
  | succ d ih =>
    intro i h
    simp only [cl]
    rw [zero_test x i h i (Nat.le_refl _)]
    simp
    apply ih
    rw [Nat.pow_succ, ← Nat.div_div_eq_div_mul, h]
theorem cl_len (x : Nat) (d : Nat) : ∀ i, (cl x i d).length ≤ d := by
  induction d with
  | zero => intro i; simp [cl]
  | succ d ih => intro i; have := ih (i + 1); simp only [cl]; split <;> simp <;> omega
theorem cl_mem (x : Nat) (d : Nat) : ∀ i j, j ∈ cl x i d ↔ (i ≤ j ∧ j < i + d ∧ x.testBit j = true) := by
  induction d with
  | zero => intro i j; simp [cl]; omega
  | succ d ih =>
    intro i j
    simp only [cl]
    by_cases h : x.testBit i = true
    · rw [if_pos h, List.mem_cons, ih]
      constructor
      · rintro (rfl | ⟨a, b, c⟩)
        · exact ⟨by omega, by omega, h⟩
        · exact ⟨by omega, by omega, c⟩
      · rintro ⟨a, b, c⟩
        by_cases e : j = i
        · exact .inl e
        · exact .inr ⟨by omega, by omega, c⟩
    · rw [if_neg h, ih]
      constructor
      · rintro ⟨a, b, c⟩; exact ⟨by omega, by omega, c⟩
      · rintro ⟨a, b, c⟩
        refine ⟨?_, by omega, c⟩
        rcases Nat.lt_or_ge i j with g | g
        · omega
        · obtain rfl : i = j := by omega
          exact absurd c h
theorem tdivmod (i w : Nat) (hw : 0 < w) (hi : i < 100) (hww : w ≤ 100) : Int.tmod (i : Int) (w : Int) = ((i % w : Nat) : Int) ∧ wrap64 (Int.tdiv (i : Int) (w : Int)) = ((i / w : Nat) : Int) := by
  have e1 : Int.tmod (i : Int) (w : Int) = ((i % w : Nat) : Int) := by rw [Int.tmod_eq_emod_of_nonneg (by omega)]; rfl
  have e2 : Int.tdiv (i : Int) (w : Int) = ((i / w : Nat) : Int) := by rw [Int.tdiv_eq_ediv_of_nonneg (by omega)]; rfl
  refine ⟨e1, ?_⟩
  have : i / w ≤ i := Nat.div_le_self _ _
  rw [e2]
  generalize i / w = q at *
  exact w64 (by omega) (by omega)
theorem ok_nat {w h m : Int} (c : okS w h m = true) : ∃ W H x : Nat, w = W ∧ h = H ∧ m = x ∧ (1 ≤ W ∧ W ≤ 6) ∧ (1 ≤ H ∧ H ≤ 6) ∧ x < 2 ^ (W * H) ∧ W * H ≤ 36 := by
  obtain ⟨hT, h0, h1⟩ := okS_iff.mp c
  refine ⟨w.toNat, h.toNat, m.toNat, by omega, by omega, by omega, by omega, by omega, ?_, ?_⟩
  · have e : m = (m.toNat : Int) := by omega
    have e2 : (w * h).toNat = w.toNat * h.toNat := by
      rw [Int.toNat_mul (by omega) (by omega)]
    rw [e, e2] at h1
    exact_mod_cast h1
  · have a : w.toNat ≤ 6 := by omega
    have b : h.toNat ≤ 6 := by omega
    calc w.toNat * h.toNat ≤ 6 * 6 := Nat.mul_le_mul a b
      _ = 36 := rfl
def cellAt (w i : Nat) : S51 := ⟨((i % w : Nat) : Int), ((i / w : Nat) : Int)⟩
theorem spec_cells_from (w n x : Nat) (hw : 0 < w) (hww : w ≤ 6) (hn : n ≤ 36) (hx : x < 2 ^ n) (d : Nat) : ∀ (i : Nat) (out : List S51), i + d = n → out.length + d ≤ 100 →
    Ev (fun k => spec_l08Cells.l0 k (w : Int) (x : Int) out (i : Int)) (out ++ (cl x i d).map (cellAt w)) := by
  have hx62 : x < 2 ^ 62 := Nat.lt_of_lt_of_le hx (Nat.pow_le_pow_right (by decide) (by omega))
  induction d with
  | zero =>
    intro i out h ho
    refine ev_shift ?_
    simp only [spec_l08Cells.l0, cl, List.map_nil, List.append_nil]
    refine ev_pos (by omega) ?_
    rw [shr_nat x i (by omega)]
    have : x / 2 ^ i = 0 := Nat.div_eq_of_lt (by rw [show i = n by omega]; exact hx)
    exact ev_neg (by omega) (ev_now _)
  | succ d ih =>
    intro i out h ho
    refine ev_shift ?_
    simp only [spec_l08Cells.l0]
    refine ev_pos (by omega) ?_
    by_cases z : x / 2 ^ i = 0
    · rw [cl_none x (d + 1) i z]
      refine ev_neg (by rw [shr_nat x i (by omega)]; omega) (ev_eq (ev_now _) (by simp))
    · refine ev_pos (by rw [shr_nat x i (by omega)]; generalize x / 2 ^ i = q at *; omega) ?_
      have e : wrap64 ((i : Int) + 1) = ((i + 1 : Nat) : Int) := by rw [w64 (by omega) (by omega)]; omega
      obtain ⟨t1, t2⟩ := tdivmod i w hw (by omega) (by omega)
      simp only [cl]
      rw [e, t1, t2]
      by_cases b : x.testBit i = true
      · rw [if_pos b]
        refine ev_pos ((bit_eq1 x i hx62 (by omega)).mpr b) (ev_neg (by omega) (ev_pos (by omega) ?_))
        have := ih (i + 1) (out ++ [cellAt w i]) (by omega) (by simp; omega)
        simpa [cellAt] using this
      · rw [if_neg b]
        exact ev_neg (fun c => b ((bit_eq1 x i hx62 (by omega)).mp c)) (ih (i + 1) out (by omega) (by omega))
theorem spec_cells_ev (W n x : Nat) (hW : 1 ≤ W ∧ W ≤ 6) (hn : n ≤ 36) (hx : x < 2 ^ n) : Ev (fun k => spec_l08Cells.f k (W : Int) (x : Int)) ((cl x 0 n).map (cellAt W)) := by
  unfold spec_l08Cells.f
  have := spec_cells_from W n x (by omega) (by omega) hn hx n 0 [] (by omega) (by simp; omega)
  simpa using this
theorem rd_mid (pre suf : List Int) (a : Int) : rd (pre ++ a :: suf) (pre.length : Int) = a := by
  simp [rd, List.getD_eq_getElem?_getD]
theorem next_len {α : Type} (pre : List α) (a : α) (h : pre.length < 1000000) : wrap64 ((pre.length : Int) + 1) = ((pre ++ [a]).length : Int) := by
  rw [w64 (by omega) (by omega)]; simp
def nb (W H i : Nat) : List Nat :=
  (if 0 < i / W then [i - W] else []) ++ (if 0 < i % W then [i - 1] else []) ++ (if i % W + 1 < W then [i + 1] else []) ++ (if i / W + 1 < H then [i + W] else [])
def asInts (l : List Nat) : List Int := l.map (fun (j : Nat) => (j : Int))
theorem nb_ev (W H i : Nat) (hW : 1 ≤ W ∧ W ≤ 6) (hH : 1 ≤ H ∧ H ≤ 6) (hi : i < W * H) (hn : W * H ≤ 36) : Ev (fun k => impl_neighbors.f k (W : Int) (H : Int) (i : Int)) (asInts (nb W H i)) := by
  have hi36 : i < 36 := by omega
  have wW : wrap64 ((W : Int) - 1) = (W : Int) - 1 := w64 (by omega) (by omega)
  have wH : wrap64 ((H : Int) - 1) = (H : Int) - 1 := w64 (by omega) (by omega)
  have wi : wrap64 ((i : Int) - 1) = (i : Int) - 1 := w64 (by omega) (by omega)
  have wi' : wrap64 ((i : Int) + 1) = (i : Int) + 1 := w64 (by omega) (by omega)
  have wiw : wrap64 ((i : Int) - W) = (i : Int) - W := w64 (by omega) (by omega)
  have wiw' : wrap64 ((i : Int) + W) = (i : Int) + W := w64 (by omega) (by omega)
  unfold impl_neighbors.f
  obtain ⟨t1, t2⟩ := tdivmod i W (by omega) (by omega) (by omega)
  have hm : i % W < W := Nat.mod_lt _ (by omega)
  have hd : i / W * W + i % W = i := Nat.div_add_mod' i W
  have hdl : i / W < H := (Nat.div_lt_iff_lt_mul (by omega)).mpr (by rw [Nat.mul_comm]; exact hi)
  have hwd : 0 < i / W → W ≤ i := fun h => by
    have : 1 * W ≤ i / W * W := Nat.mul_le_mul_right W h
    omega
  rw [t1, t2, wiw]
  unfold nb
  generalize i / W = Y at *
  generalize i % W = X at *
  have last : ∀ out : List Int, out.length ≤ 10 → Ev (fun k => impl_neighbors.j1 k (W : Int) (H : Int) (i : Int) (X : Int) (Y : Int) out) (out ++ asInts ((if X + 1 < W then [i + 1] else []) ++ (if Y + 1 < H then [i + W] else []))) := by
    intro out ho
    refine ev_shift ?_
    simp only [impl_neighbors.j1, wW, wH, wi', wiw']
    by_cases c : X + 1 < W
    · rw [if_pos c]
      refine ev_pos (by omega) (ev_pos (by omega) (ev_bind0 rfl ?_))
      by_cases d : Y + 1 < H
      · rw [if_pos d]
        exact ev_pos (by omega) (ev_pos (by simp; omega) (ev_eq (ev_now _) (by simp [asInts])))
      · rw [if_neg d]
        exact ev_neg (by omega) (ev_eq (ev_now _) (by simp [asInts]))
    · rw [if_neg c]
      refine ev_neg (by omega) ?_
      by_cases d : Y + 1 < H
      · rw [if_pos d]
        exact ev_pos (by omega) (ev_pos (by omega) (ev_eq (ev_now _) (by simp [asInts])))
      · rw [if_neg d]
        exact ev_neg (by omega) (ev_eq (ev_now _) (by simp [asInts]))
  have mid : ∀ out : List Int, out.length ≤ 5 → Ev (fun k => impl_neighbors.j0 k (W : Int) (H : Int) (i : Int) (X : Int) (Y : Int) out) (out ++ asInts ((if 0 < X then [i - 1] else []) ++ ((if X + 1 < W then [i + 1] else []) ++ (if Y + 1 < H then [i + W] else [])))) := by
    intro out ho
    refine ev_shift ?_
    simp only [impl_neighbors.j0, wi]
    by_cases c : 0 < X
    · rw [if_pos c]
      refine ev_pos (by omega) (ev_pos (by omega) (ev_eq (last _ (by simp; omega)) ?_))
      simp [asInts]; omega
    · rw [if_neg c]
      exact ev_neg (by omega) (ev_eq (last _ (by omega)) (by simp [asInts]))
  refine ev_neg (by omega) (ev_bind0 rfl ?_)
  by_cases c : 0 < Y
  · rw [if_pos c]
    refine ev_pos (by omega) (ev_pos (by simp) (ev_eq (mid _ (by simp)) ?_))
    have := hwd c
    simp [asInts]; omega
  · rw [if_neg c]
    exact ev_neg (by omega) (ev_eq (mid _ (by simp)) (by simp [asInts]))
theorem nb_mem (W H i j : Nat) : j ∈ nb W H i ↔ (0 < i / W ∧ j = i - W) ∨ (0 < i % W ∧ j = i - 1) ∨ (i % W + 1 < W ∧ j = i + 1) ∨ (i / W + 1 < H ∧ j = i + W) := by
  unfold nb
  simp only [List.mem_append]
  have e : ∀ (c : Prop) [Decidable c] (z : Nat), j ∈ (if c then [z] else []) ↔ c ∧ j = z := by
    intro c _ z
    by_cases h : c
    · rw [if_pos h]; simp [h]
    · rw [if_neg h]; simp [h]
  rw [e, e, e, e]
  simp only [or_assoc]
theorem nb_in (W H i j : Nat) (hW : 0 < W) (hi : i < W * H) (hj : j ∈ nb W H i) : j < W * H := by
  have hd : i / W * W + i % W = i := Nat.div_add_mod' i W
  have hm : i % W < W := Nat.mod_lt _ hW
  rcases (nb_mem W H i j).mp hj with ⟨_, rfl⟩ | ⟨_, rfl⟩ | ⟨c, rfl⟩ | ⟨c, rfl⟩
  · omega
  · omega
  · have h1 : i / W < H := (Nat.div_lt_iff_lt_mul hW).mpr (by rw [Nat.mul_comm]; exact hi)
    have h2 : (i / W + 1) * W ≤ H * W := Nat.mul_le_mul_right W h1
    rw [Nat.succ_mul, Nat.mul_comm H W] at h2
    generalize i / W * W = q at *
    generalize i % W = r at *
    omega
  · have h2 : (i / W + 1 + 1) * W ≤ H * W := Nat.mul_le_mul_right W c
    rw [Nat.succ_mul, Nat.succ_mul, Nat.mul_comm H W] at h2
    generalize i / W * W = q at *
    generalize i % W = r at *
    omega
/-- What hangs together with s in x. -/
inductive Conn (W H x s : Nat) : Nat → Prop
  | base : Conn W H x s s
  | step {i j : Nat} : Conn W H x s i → j ∈ nb W H i → x.testBit j = true → Conn W H x s j
def isComp (W H x s M : Nat) : Prop := ∀ i, M.testBit i = true ↔ Conn W H x s i
theorem isComp_uniq {W H x s M N : Nat} (h : isComp W H x s M) (h' : isComp W H x s N) : M = N := by
  apply Nat.eq_of_testBit_eq
  intro i
  have a := h i
  have b := h' i
  rw [Bool.eq_iff_iff, a, b]
theorem closed_comp {W H x s M : Nat} (hs : M.testBit s = true) (hc : ∀ i, M.testBit i = true → Conn W H x s i) (hcl : ∀ i, M.testBit i = true → ∀ j ∈ nb W H i, x.testBit j = true → M.testBit j = true) : isComp W H x s M := by
  intro i
  refine ⟨hc i, fun h => ?_⟩
  induction h with
  | base => exact hs
  | step _ hj hx ih => exact hcl _ ih _ hj hx
/-- How many of the first n bits are not set. -/
def zr : Nat → Nat → Nat
  | 0, _ => 0
  | n + 1, o => (if o.testBit n = true then 0 else 1) + zr n o
theorem zr_congr (n : Nat) (a b : Nat) (h : ∀ i, i < n → a.testBit i = b.testBit i) : zr n a = zr n b := by
  induction n with
  | zero => rfl
  | succ n ih =>
    simp only [zr]
    rw [h n (by omega), ih (fun i hi => h i (by omega))]
theorem testBit_or_pow (o j i : Nat) : (o ||| 2 ^ j).testBit i = (o.testBit i || decide (j = i)) := by
  rw [Nat.testBit_or, Nat.testBit_two_pow]
theorem zr_set (n : Nat) : ∀ (o j : Nat), j < n → o.testBit j = false → zr n (o ||| 2 ^ j) + 1 = zr n o := by
  induction n with
  | zero => intro o j h; omega
  | succ n ih =>
    intro o j h hj
    simp only [zr]
    rw [testBit_or_pow]
    by_cases e : j = n
    · subst e
      rw [hj, zr_congr j (o ||| 2 ^ j) o (fun i hi => by
        rw [testBit_or_pow, decide_eq_false (by omega), Bool.or_false])]
      simp
      omega
    · have := ih o j (by omega) hj
      rw [decide_eq_false e, Bool.or_false]
      omega
theorem zr_mono (n : Nat) (a b : Nat) (h : ∀ i, a.testBit i = true → b.testBit i = true) : zr n b ≤ zr n a := by
  induction n with
  | zero => exact Nat.le_refl _
  | succ n ih =>
    simp only [zr]
    by_cases c : a.testBit n = true
    · rw [if_pos c, if_pos (h n c)]; omega
    · rw [if_neg c]
      split <;> omega
theorem zr_eq (n : Nat) (a b : Nat) (h : ∀ i, a.testBit i = true → b.testBit i = true) (e : zr n b = zr n a) : ∀ i, i < n → a.testBit i = b.testBit i := by
  induction n with
  | zero => intro i hi; omega
  | succ n ih =>
    have hm := zr_mono n a b h
    simp only [zr] at e
    intro i hi
    by_cases c : a.testBit n = true
    · have d := h n c
      rw [if_pos c, if_pos d] at e
      by_cases g : i = n
      · rw [g, c, d]
      · exact ih (by omega) i (by omega)
    · rw [if_neg c] at e
      by_cases d : b.testBit n = true
      · rw [if_pos d] at e; omega
      · rw [if_neg d] at e
        by_cases g : i = n
        · rw [g]; simp at c d; rw [c, d]
        · exact ih (by omega) i (by omega)
theorem high_false {n o i : Nat} (h : o < 2 ^ n) (hi : n ≤ i) : o.testBit i = false :=
  Nat.testBit_lt_two_pow (Nat.lt_of_lt_of_le h (Nat.pow_le_pow_right (by decide) hi))
theorem bit_lt {n o i : Nat} (h : o < 2 ^ n) (hi : o.testBit i = true) : i < n := by
  apply Classical.byContradiction
  intro c
  rw [high_false h (by omega)] at hi
  cases hi
theorem zr_le (n o : Nat) : zr n o ≤ n := by
  induction n with
  | zero => exact Nat.le_refl _
  | succ n ih => simp only [zr]; split <;> omega
/-- What holds of the program's walk through a part: the cells so far, and those still to be looked at. -/
structure Inv (W H x s out : Nat) (Q : List Nat) : Prop where
  start : out.testBit s = true
  conn : ∀ i, out.testBit i = true → Conn W H x s i
  todo : ∀ q ∈ Q, out.testBit q = true
  closed : ∀ i, out.testBit i = true → i ∉ Q → ∀ j ∈ nb W H i, x.testBit j = true → out.testBit j = true
  low : out < 2 ^ (W * H)
theorem part_l1 (W H x s : Nat) (hW : 1 ≤ W ∧ W ≤ 6) (hH : 1 ≤ H ∧ H ≤ 6) (hn : W * H ≤ 36) (hx : x < 2 ^ (W * H)) (now : Nat) (hnow : now < W * H) (m : Nat) (L : List Nat) (hL : L = nb W H now) (hLl : L.length ≤ 4)
    (K : ∀ out Q, Inv W H x s out Q → 2 * zr (W * H) out + Q.length ≤ m → ∃ M : Nat, Ev (fun k => impl_part.l0 k (W : Int) (H : Int) (x : Int) (out : Int) (asInts Q)) (M : Int) ∧ isComp W H x s M ∧ M < 2 ^ (W * H)) :
    ∀ (suf pre : List Nat) (out : Nat) (Q : List Nat), L = pre ++ suf → out.testBit s = true → (∀ i, out.testBit i = true → Conn W H x s i) → (∀ q ∈ Q, out.testBit q = true) → out.testBit now = true →
      (∀ i, out.testBit i = true → i ∉ Q → i ≠ now → ∀ j ∈ nb W H i, x.testBit j = true → out.testBit j = true) → (∀ j ∈ pre, x.testBit j = true → out.testBit j = true) → out < 2 ^ (W * H) →
      2 * zr (W * H) out + Q.length ≤ m → m ≤ 1000 →
    ∃ M : Nat, Ev (fun k => impl_part.l1 k (W : Int) (H : Int) (x : Int) (out : Int) (asInts Q) (asInts L) ((asInts L).length : Int) (pre.length : Int)) (M : Int) ∧ isComp W H x s M ∧ M < 2 ^ (W * H) := by
  have hx62 : x < 2 ^ 62 := Nat.lt_of_lt_of_le hx (Nat.pow_le_pow_right (by decide) (by omega))
  have hp36 : 2 ^ (W * H) ≤ 2 ^ 36 := Nat.pow_le_pow_right (by decide) hn
  intro suf
  induction suf with
  | nil =>
    intro pre out Q hp h1 h2 h3 h4 h5 h6 h7 h8 h9
    obtain rfl : L = pre := by simp [hp]
    obtain ⟨M, hM, hM2⟩ := K out Q ⟨h1, h2, h3, fun i hi hq j hj hxj => by
      by_cases e : i = now
      · subst e; exact h6 j (hL ▸ hj) hxj
      · exact h5 i hi hq e j hj hxj, h7⟩ h8
    refine ⟨M, ev_shift ?_, hM2⟩
    simp only [impl_part.l1]
    exact ev_neg (by simp [asInts]) hM
  | cons a suf ih =>
    intro pre out Q hp h1 h2 h3 h4 h5 h6 h7 h8 h9
    have ha : a ∈ nb W H now := by rw [← hL, hp]; simp
    have han : a < W * H := nb_in W H now a (by omega) hnow ha
    have hlenN : pre.length < L.length := by rw [hp]; simp
    have hlen : (pre.length : Int) < ((asInts L).length : Int) := by unfold asInts; rw [List.length_map]; omega
    have c6 : pre.length < 1000000 := by omega
    have ho62 : out < 2 ^ 62 := by omega
    have c7 : (asInts Q).length < 17592186044416 := by unfold asInts; rw [List.length_map]; omega
    have a64 : a ≤ 62 := by omega
    have a65 : a ≤ 64 := by omega
    have hra : rd (asInts L) (pre.length : Int) = (a : Int) := by
      have := rd_mid (asInts pre) (asInts suf) (a : Int)
      rw [hp]
      simpa [asInts] using this
    have pl : 2 ^ a < 2 ^ 63 := Nat.pow_lt_pow_right (by decide) (by omega)
    have pl2 : 2 ^ a < 2 ^ (W * H) := Nat.pow_lt_pow_right (by decide) han
    have ho63 : out < 2 ^ 63 := by omega
    have step : ∀ (out' : Nat) (Q' : List Nat), (∀ i, out.testBit i = true → out'.testBit i = true) → (∀ i, out'.testBit i = true → Conn W H x s i) → (∀ q ∈ Q', out'.testBit q = true) → (∀ i, out'.testBit i = true → i ∉ Q' → out.testBit i = true ∧ i ∉ Q) → (x.testBit a = true → out'.testBit a = true) → out' < 2 ^ (W * H) → 2 * zr (W * H) out' + Q'.length ≤ m →
        ∃ M : Nat, Ev (fun k => impl_part.l1 k (W : Int) (H : Int) (x : Int) (out' : Int) (asInts Q') (asInts L) ((asInts L).length : Int) ((pre ++ [a]).length : Int)) (M : Int) ∧ isComp W H x s M ∧ M < 2 ^ (W * H) := by
      intro out' Q' g1 g2 g3 g4 g5 g6 g7
      refine ih (pre ++ [a]) out' Q' (by simp [hp]) (g1 s h1) g2 g3 (g1 now h4) (fun i hi hq he j hj hxj => ?_) (fun j hj hxj => ?_) g6 g7 h9
      · obtain ⟨y1, y2⟩ := g4 i hi hq
        exact g1 j (h5 i y1 y2 he j hj hxj)
      · rcases List.mem_append.mp hj with hj | hj
        · exact g1 j (h6 j hj hxj)
        · obtain rfl : j = a := by simpa using hj
          exact g5 hxj
    by_cases b : x.testBit a = true
    · by_cases d : out.testBit a = true
      · obtain ⟨M, hM, hM2⟩ := step out Q (fun _ h => h) h2 h3 (fun i hi hq => ⟨hi, hq⟩) (fun _ => d) h7 h8
        refine ⟨M, ev_shift ?_, hM2⟩
        simp only [impl_part.l1]
        rw [hra, next_len pre a c6]
        exact ev_pos hlen (ev_pos (Int.natCast_nonneg _) (ev_pos hlen (ev_bind0 (has_eq x a hx62 a65) (ev_pos b (ev_bind0 (has_eq out a ho62 a65) (ev_pos d hM))))))
      · have df : out.testBit a = false := by simpa using d
        have hor : out ||| 2 ^ a < 2 ^ (W * H) := Nat.or_lt_two_pow h7 pl2
        have hz := zr_set (W * H) out a han df
        obtain ⟨M, hM, hM2⟩ := step (out ||| 2 ^ a) (Q ++ [a]) (fun i h => by rw [testBit_or_pow, h]; rfl) (fun i hi => by
            rw [testBit_or_pow, Bool.or_eq_true] at hi
            rcases hi with hi | hi
            · exact h2 i hi
            · obtain rfl : a = i := of_decide_eq_true hi
              exact Conn.step (h2 now h4) ha b)
          (fun q hq => by
            rw [testBit_or_pow, Bool.or_eq_true]
            rcases List.mem_append.mp hq with hq | hq
            · exact .inl (h3 q hq)
            · exact .inr (decide_eq_true (List.mem_singleton.mp hq).symm))
          (fun i hi hq => by
            rw [testBit_or_pow, Bool.or_eq_true] at hi
            rcases hi with hi | hi
            · exact ⟨hi, fun z => hq (by simp [z])⟩
            · obtain rfl : a = i := of_decide_eq_true hi
              exact absurd (by simp) hq)
          (fun _ => by rw [testBit_or_pow]; simp) hor (by
            have : (Q ++ [a]).length = Q.length + 1 := by simp
            omega)
        refine ⟨M, ev_shift ?_, hM2⟩
        simp only [impl_part.l1]
        rw [hra, next_len pre a c6, shl_nat a a64, or_i64 out (2 ^ a) ho63 pl]
        have eq : asInts Q ++ [(a : Int)] = asInts (Q ++ [a]) := by simp [asInts]
        rw [eq]
        exact ev_pos hlen (ev_pos (Int.natCast_nonneg _) (ev_pos hlen (ev_bind0 (has_eq x a hx62 a65) (ev_pos b (ev_bind0 (has_eq out a ho62 a65) (ev_neg d (ev_pos (Int.natCast_nonneg _) (ev_pos c7 hM))))))))
    · obtain ⟨M, hM, hM2⟩ := step out Q (fun _ h => h) h2 h3 (fun i hi hq => ⟨hi, hq⟩) (fun z => absurd z b) h7 h8
      refine ⟨M, ev_shift ?_, hM2⟩
      simp only [impl_part.l1]
      rw [hra, next_len pre a c6]
      exact ev_pos hlen (ev_pos (Int.natCast_nonneg _) (ev_pos hlen (ev_bind0 (has_eq x a hx62 a65) (ev_neg b hM))))
theorem part_l0 (W H x s : Nat) (hW : 1 ≤ W ∧ W ≤ 6) (hH : 1 ≤ H ∧ H ≤ 6) (hn : W * H ≤ 36) (hx : x < 2 ^ (W * H)) (m : Nat) (hm : m ≤ 1000) : ∀ (out : Nat) (Q : List Nat), Inv W H x s out Q → 2 * zr (W * H) out + Q.length ≤ m →
    ∃ M : Nat, Ev (fun k => impl_part.l0 k (W : Int) (H : Int) (x : Int) (out : Int) (asInts Q)) (M : Int) ∧ isComp W H x s M ∧ M < 2 ^ (W * H) := by
  induction m with
  | zero =>
    intro out Q hI hq
    have hQ : Q = [] := List.length_eq_zero_iff.mp (by omega)
    subst hQ
    refine ⟨out, ev_shift ?_, closed_comp hI.start hI.conn (fun i hi j hj hxj => hI.closed i hi (by simp) j hj hxj), hI.low⟩
    simp only [impl_part.l0]
    exact ev_neg (by simp [asInts]) (ev_now _)
  | succ m ih =>
    intro out Q hI hq
    match Q, hI, hq with
    | [], hI, hq =>
      refine ⟨out, ev_shift ?_, closed_comp hI.start hI.conn (fun i hi j hj hxj => hI.closed i hi (by simp) j hj hxj), hI.low⟩
      simp only [impl_part.l0]
      exact ev_neg (by simp [asInts]) (ev_now _)
    | q :: Q, hI, hq =>
      have hqn : q < W * H := bit_lt hI.low (hI.todo q (by simp))
      have hnl : (nb W H q).length ≤ 4 := by
        unfold nb; simp only [List.length_append]; repeat' split
        all_goals simp
      obtain ⟨M, hM, hM2⟩ := part_l1 W H x s hW hH hn hx q hqn m (nb W H q) rfl hnl (fun out' Q' hI' hq' => ih (by omega) out' Q' hI' hq') (nb W H q) [] out Q rfl hI.start hI.conn (fun z hz => hI.todo z (by simp [hz])) (hI.todo q (by simp))
        (fun i hi hiq hne j hj hxj => hI.closed i hi (by simp [hiq, hne]) j hj hxj) (fun j hj => by cases hj) hI.low (by simp only [List.length_cons] at hq; omega) (by omega)
      refine ⟨M, ev_shift ?_, hM2⟩
      simp only [impl_part.l0]
      have e0 : rd (asInts (q :: Q)) 0 = (q : Int) := by simp [rd, asInts]
      have e1 : (asInts (q :: Q)).drop ((1 : Int)).toNat = asInts Q := by simp [asInts]
      have l0 : ((asInts (q :: Q)).length : Int) > 0 := by simp [asInts]
      have l1 : 1 ≤ ((asInts (q :: Q)).length : Int) := by omega
      rw [e0, e1]
      exact ev_pos l0 (ev_pos l0 (ev_pos l1 (ev_bind (nb_ev W H q hW hH hqn hn) hM)))
theorem part_ev (W H x s : Nat) (hW : 1 ≤ W ∧ W ≤ 6) (hH : 1 ≤ H ∧ H ≤ 6) (hn : W * H ≤ 36) (hx : x < 2 ^ (W * H)) (hs : s < W * H) : ∃ M : Nat, Ev (fun k => impl_part.f k (W : Int) (H : Int) (x : Int) (s : Int)) (M : Int) ∧ isComp W H x s M ∧ M < 2 ^ (W * H) := by
  have ht : ∀ i, (2 ^ s).testBit i = true → i = s := fun i hi => by
    rw [Nat.testBit_two_pow] at hi
    exact (of_decide_eq_true hi).symm
  have h0 : (2 ^ s).testBit s = true := by rw [Nat.testBit_two_pow]; simp
  have hz := zr_le (W * H) (2 ^ s)
  obtain ⟨M, hM, hM2⟩ := part_l0 W H x s hW hH hn hx 100 (by omega) (2 ^ s) [s] ⟨h0, fun i hi => (ht i hi) ▸ Conn.base, fun q hq => (List.mem_singleton.mp hq) ▸ h0, fun i hi hq => absurd (List.mem_singleton.mpr (ht i hi)) hq, Nat.pow_lt_pow_right (by decide) hs⟩ (by simp; omega)
  refine ⟨M, ?_, hM2⟩
  unfold impl_part.f
  have := shl_nat s (by omega)
  rw [this]
  exact ev_pos (Int.natCast_nonneg _) hM
/-- What the reference's look around has come to behind c cells. -/
def around (W H p c out : Nat) : Prop := ∀ j, out.testBit j = true ↔ p.testBit j = true ∨ ∃ i, i < c ∧ p.testBit i = true ∧ j ∈ nb W H i
theorem around_skip {W H p c out : Nat} (h : around W H p c out) (hc : p.testBit c = false) : around W H p (c + 1) out := by
  intro j
  rw [h j]
  constructor
  · rintro (a | ⟨i, hi, b, d⟩)
    · exact .inl a
    · exact .inr ⟨i, by omega, b, d⟩
  · rintro (a | ⟨i, hi, b, d⟩)
    · exact .inl a
    · by_cases e : i = c
      · subst e; rw [hc] at b; cases b
      · exact .inr ⟨i, by omega, b, d⟩
theorem around_take {W H p c out out' : Nat} (h : around W H p c out) (hc : p.testBit c = true) (ho : ∀ j, out'.testBit j = true ↔ out.testBit j = true ∨ j ∈ nb W H c) : around W H p (c + 1) out' := by
  intro j
  rw [ho j, h j]
  constructor
  · rintro ((a | ⟨i, hi, b, d⟩) | a)
    · exact .inl a
    · exact .inr ⟨i, by omega, b, d⟩
    · exact .inr ⟨c, by omega, hc, a⟩
  · rintro (a | ⟨i, hi, b, d⟩)
    · exact .inl (.inl a)
    · by_cases e : i = c
      · subst e; exact .inr d
      · exact .inl (.inr ⟨i, by omega, b, d⟩)
/-- One more bit, if a condition holds. -/
def orIf (c : Prop) [Decidable c] (o j : Nat) : Nat := if c then o ||| 2 ^ j else o
theorem orIf_bit (c : Prop) [Decidable c] (o j i : Nat) : (orIf c o j).testBit i = true ↔ o.testBit i = true ∨ (c ∧ i = j) := by
  unfold orIf
  by_cases h : c
  · rw [if_pos h, testBit_or_pow, Bool.or_eq_true, decide_eq_true_iff]
    constructor
    · rintro (a | a)
      · exact .inl a
      · exact .inr ⟨h, a.symm⟩
    · rintro (a | a)
      · exact .inl a
      · exact .inr a.2.symm
  · rw [if_neg h]; simp [h]
theorem orIf_low (c : Prop) [Decidable c] {n o j : Nat} (h : o < 2 ^ n) (hj : c → j < n) : orIf c o j < 2 ^ n := by
  unfold orIf
  by_cases d : c
  · rw [if_pos d]; exact Nat.or_lt_two_pow h (Nat.pow_lt_pow_right (by decide) (hj d))
  · rw [if_neg d]; exact h
theorem near_row (W H p : Nat) (hW : 1 ≤ W ∧ W ≤ 6) (hH : 1 ≤ H ∧ H ≤ 6) (hn : W * H ≤ 36) (hp : p < 2 ^ (W * H)) (Y : Nat) (hY : Y < H) (Fin : Nat → Prop)
    (K : ∀ out, around W H p (Y * W + W) out → out < 2 ^ (W * H) → ∃ M : Nat, Ev (fun k => spec_l08Near.l0 k (W : Int) (H : Int) (p : Int) (out : Int) ((Y + 1 : Nat) : Int)) (M : Int) ∧ Fin M) (d : Nat) :
    ∀ (X out : Nat), X + d = W → around W H p (Y * W + X) out → out < 2 ^ (W * H) → ∃ M : Nat, Ev (fun k => spec_l08Near.l1 k (W : Int) (H : Int) (p : Int) (out : Int) (Y : Int) (X : Int)) (M : Int) ∧ Fin M := by
  have hp62 : p < 2 ^ 62 := Nat.lt_of_lt_of_le hp (Nat.pow_le_pow_right (by decide) (by omega))
  have hp36 : 2 ^ (W * H) ≤ 2 ^ 36 := Nat.pow_le_pow_right (by decide) hn
  have hyw : (Y + 1) * W ≤ H * W := Nat.mul_le_mul_right W hY
  have hyw2 : Y * W + W ≤ W * H := by rw [Nat.succ_mul, Nat.mul_comm H W] at hyw; exact hyw
  have hYi : (Y : Int) * (W : Int) = ((Y * W : Nat) : Int) := (Int.natCast_mul Y W).symm
  induction d with
  | zero =>
    intro X out h1 h2 h3
    have e : X = W := by omega
    subst e
    obtain ⟨M, hM, hF⟩ := K out h2 h3
    refine ⟨M, ev_shift ?_, hF⟩
    simp only [spec_l08Near.l1]
    rw [wsucc Y (by omega)]
    exact ev_neg (by omega) hM
  | succ d ih =>
    intro X out h1 h2 h3
    have b1 : Y * W + X < W * H := by omega
    have b2 : Y * W < 1000000000000 := by omega
    have b3 : Y * W + X < 1000000000000 := by omega
    have b4 : X < 1000000000000 := by omega
    have b5 : Y < 1000000000000 := by omega
    have b6 : (X : Int) < (W : Int) := by omega
    have b7 : X + 1 + d = W := by omega
    have b8 : Y * W + X ≤ 64 := by omega
    have wy : Aside0 (wrap64 ((Y : Int) * (W : Int)) = ((Y * W : Nat) : Int)) := ⟨by rw [hYi]; exact wsmall _ (by omega)⟩
    have hdiv : (Y * W + X) / W = Y := by rw [Nat.mul_comm, Nat.mul_add_div (by omega), Nat.div_eq_of_lt (by omega)]; rfl
    have hmod : (Y * W + X) % W = X := by rw [Nat.mul_comm, Nat.mul_add_mod]; exact Nat.mod_eq_of_lt (by omega)
    have open_ : ∀ (r : Int), Ev (fun n => if Go.bits BinOp.and IntKind.i64 (shr IntKind.i64 (p : Int) ((Y * W + X : Nat) : Int)) 1 = 0 then spec_l08Near.l1 n (W : Int) (H : Int) (p : Int) (out : Int) (Y : Int) ((X + 1 : Nat) : Int) else if (X : Int) > 0 then if 0 ≤ wrap64 (((Y * W + X : Nat) : Int) - 1) then spec_l08Near.j2 n (W : Int) (H : Int) (p : Int) (Go.bits BinOp.or IntKind.i64 (out : Int) (shl IntKind.i64 1 (wrap64 (((Y * W + X : Nat) : Int) - 1)))) (Y : Int) (X : Int) else none else spec_l08Near.j2 n (W : Int) (H : Int) (p : Int) (out : Int) (Y : Int) (X : Int)) r →
        Ev (fun k => spec_l08Near.l1 k (W : Int) (H : Int) (p : Int) (out : Int) (Y : Int) (X : Int)) r := by
      intro r hr
      refine ev_shift ?_
      simp only [spec_l08Near.l1]
      rw [wy.out, wadd (Y * W) X b3, wsucc X b4]
      exact ev_pos b6 (ev_pos (Int.natCast_nonneg _) hr)
    generalize hc : Y * W + X = c at *
    cases hb : p.testBit c
    · obtain ⟨M, hM, hF⟩ := ih (X + 1) out b7 (by
        have e : Y * W + (X + 1) = c + 1 := by omega
        rw [e]; exact around_skip h2 hb) h3
      exact ⟨M, open_ _ (ev_pos ((bit_eq0 p c hp62 b8).mpr hb) hM), hF⟩
    · have hnz : ¬ (Go.bits BinOp.and IntKind.i64 (shr IntKind.i64 (p : Int) (c : Int)) 1 = 0) := fun z => by rw [(bit_eq0 p c hp62 b8).mp z] at hb; cases hb
      have o1 := orIf_low (0 < X) (j := c - 1) h3 (by omega)
      have o2 := orIf_low (X + 1 < W) (j := c + 1) o1 (by omega)
      have hcw : 0 < Y → W ≤ c := fun h => by
        have : 1 * W ≤ Y * W := Nat.mul_le_mul_right W h
        omega
      have hcw2 : Y + 1 < H → c + W < W * H := fun h => by
        have : (Y + 1 + 1) * W ≤ H * W := Nat.mul_le_mul_right W h
        rw [Nat.succ_mul, Nat.succ_mul, Nat.mul_comm H W] at this
        omega
      have o3 := orIf_low (0 < Y) (j := c - W) o2 (by omega)
      have o4 := orIf_low (Y + 1 < H) (j := c + W) o3 hcw2
      obtain ⟨M, fin, hF⟩ := ih (X + 1) (orIf (Y + 1 < H) (orIf (0 < Y) (orIf (X + 1 < W) (orIf (0 < X) out (c - 1)) (c + 1)) (c - W)) (c + W)) b7 (by
        have e : Y * W + (X + 1) = c + 1 := by omega
        rw [e]
        refine around_take h2 hb (fun j => ?_)
        rw [orIf_bit, orIf_bit, orIf_bit, orIf_bit, nb_mem, hdiv, hmod]
        constructor
        · rintro ((((a | a) | a) | a) | a)
          · exact .inl a
          · exact .inr (.inr (.inl a))
          · exact .inr (.inr (.inr (.inl a)))
          · exact .inr (.inl a)
          · exact .inr (.inr (.inr (.inr a)))
        · rintro (a | a | a | a | a)
          · exact .inl (.inl (.inl (.inl a)))
          · exact .inl (.inr a)
          · exact .inl (.inl (.inl (.inr a)))
          · exact .inl (.inl (.inr a))
          · exact .inr a) o4
      have q1 : Aside0 (wrap64 ((c : Int) + 1) = ((c + 1 : Nat) : Int)) := ⟨wsucc c (by omega)⟩
      have q2 : Aside0 (wrap64 ((c : Int) + (W : Int)) = ((c + W : Nat) : Int)) := ⟨wadd c W (by omega)⟩
      have s3 : ∀ o : Nat, o < 2 ^ (W * H) → Ev (fun k => spec_l08Near.l1 k (W : Int) (H : Int) (p : Int) ((orIf (Y + 1 < H) (orIf (0 < Y) o (c - W)) (c + W) : Nat) : Int) (Y : Int) ((X + 1 : Nat) : Int)) (M : Int) →
          Ev (fun k => spec_l08Near.j3 k (W : Int) (H : Int) (p : Int) (o : Int) (Y : Int) (X : Int)) (M : Int) := by
        intro o ho hk
        have lo : ∀ j, j < 60 → 2 ^ j < 2 ^ 63 := fun j hj => Nat.pow_lt_pow_right (by decide) (by omega)
        refine ev_shift ?_
        simp only [spec_l08Near.j3]
        rw [wy.out, wadd (Y * W) X (by omega), hc, wsucc X b4, wsucc Y b5, q2.out]
        unfold orIf at hk
        by_cases c1 : 0 < Y
        · have q3 : Aside0 (wrap64 ((c : Int) - (W : Int)) = ((c - W : Nat) : Int)) := ⟨by
            have := hcw c1
            rw [wsmall _ (by omega)]; omega⟩
          rw [q3.out, shl_nat (c - W) (by omega), or_i64 o (2 ^ (c - W)) (by omega) (lo _ (by omega))]
          rw [if_pos c1] at hk
          refine ev_pos (by omega) (ev_pos (Int.natCast_nonneg _) ?_)
          by_cases c2 : Y + 1 < H
          · rw [if_pos c2] at hk
            have hor : o ||| 2 ^ (c - W) < 2 ^ 63 := Nat.or_lt_two_pow (by omega) (lo _ (by omega))
            rw [shl_nat (c + W) (by omega), or_i64 _ (2 ^ (c + W)) hor (lo _ (by omega))]
            exact ev_pos (by omega) (ev_pos (Int.natCast_nonneg _) hk)
          · rw [if_neg c2] at hk
            exact ev_neg (by omega) hk
        · rw [if_neg c1] at hk
          refine ev_neg (by omega) ?_
          by_cases c2 : Y + 1 < H
          · rw [if_pos c2] at hk
            rw [shl_nat (c + W) (by omega), or_i64 o (2 ^ (c + W)) (by omega) (lo _ (by omega))]
            exact ev_pos (by omega) (ev_pos (Int.natCast_nonneg _) hk)
          · rw [if_neg c2] at hk
            exact ev_neg (by omega) hk
      have s2 : ∀ o : Nat, o < 2 ^ (W * H) → Ev (fun k => spec_l08Near.j3 k (W : Int) (H : Int) (p : Int) ((orIf (X + 1 < W) o (c + 1) : Nat) : Int) (Y : Int) (X : Int)) (M : Int) →
          Ev (fun k => spec_l08Near.j2 k (W : Int) (H : Int) (p : Int) (o : Int) (Y : Int) (X : Int)) (M : Int) := by
        intro o ho hk
        refine ev_shift ?_
        simp only [spec_l08Near.j2]
        rw [wy.out, wadd (Y * W) X (by omega), hc, wsucc X b4, q1.out]
        unfold orIf at hk
        by_cases c1 : X + 1 < W
        · rw [if_pos c1] at hk
          rw [shl_nat (c + 1) (by omega), or_i64 o (2 ^ (c + 1)) (by omega) (Nat.pow_lt_pow_right (by decide) (by omega))]
          exact ev_pos (by omega) (ev_pos (Int.natCast_nonneg _) hk)
        · rw [if_neg c1] at hk
          exact ev_neg (by omega) hk
      have go := s2 _ o1 (s3 _ o2 fin)
      unfold orIf at go
      refine ⟨M, open_ _ (ev_neg hnz ?_), hF⟩
      by_cases c1 : 0 < X
      · rw [if_pos c1] at go
        have q3 : Aside0 (wrap64 ((c : Int) - 1) = ((c - 1 : Nat) : Int)) := ⟨by rw [wsmall _ (by omega)]; omega⟩
        rw [q3.out, shl_nat (c - 1) (by omega), or_i64 out (2 ^ (c - 1)) (by omega) (Nat.pow_lt_pow_right (by decide) (by omega))]
        exact ev_pos (by omega) (ev_pos (Int.natCast_nonneg _) go)
      · rw [if_neg c1] at go
        exact ev_neg (by omega) go
theorem near_ev (W H p : Nat) (hW : 1 ≤ W ∧ W ≤ 6) (hH : 1 ≤ H ∧ H ≤ 6) (hn : W * H ≤ 36) (hp : p < 2 ^ (W * H)) : ∃ M : Nat, Ev (fun k => spec_l08Near.f k (W : Int) (H : Int) (p : Int)) (M : Int) ∧ around W H p (W * H) M ∧ M < 2 ^ (W * H) := by
  have rows : ∀ (d Y out : Nat), Y + d = H → around W H p (Y * W) out → out < 2 ^ (W * H) → ∃ M : Nat, Ev (fun k => spec_l08Near.l0 k (W : Int) (H : Int) (p : Int) (out : Int) (Y : Int)) (M : Int) ∧ (around W H p (W * H) M ∧ M < 2 ^ (W * H)) := by
    intro d
    induction d with
    | zero =>
      intro Y out h1 h2 h3
      have e : Y = H := by omega
      subst e
      refine ⟨out, ev_shift ?_, by rw [Nat.mul_comm]; exact h2, h3⟩
      simp only [spec_l08Near.l0]
      exact ev_neg (by omega) (ev_now _)
    | succ d ih =>
      intro Y out h1 h2 h3
      obtain ⟨M, hM, hF⟩ := near_row W H p hW hH hn hp Y (by omega) (fun M => around W H p (W * H) M ∧ M < 2 ^ (W * H)) (fun out' g1 g2 => ih (Y + 1) out' (by omega) (by rw [Nat.succ_mul]; exact g1) g2) W 0 out (by omega) h2 h3
      refine ⟨M, ev_shift ?_, hF⟩
      simp only [spec_l08Near.l0]
      exact ev_pos (by omega) hM
  unfold spec_l08Near.f
  exact rows H 0 p (by omega) (fun j => ⟨fun h => .inl h, fun h => by
    rcases h with h | ⟨i, hi, _⟩
    · exact h
    · omega⟩) hp
theorem and_bit (a b i : Nat) : (a &&& b).testBit i = true ↔ a.testBit i = true ∧ b.testBit i = true := by
  rw [Nat.testBit_and, Bool.and_eq_true]
theorem reach_l0 (W H x s : Nat) (hW : 1 ≤ W ∧ W ≤ 6) (hH : 1 ≤ H ∧ H ≤ 6) (hn : W * H ≤ 36) (hx : x < 2 ^ (W * H)) (m : Nat) : ∀ p : Nat, p < 2 ^ (W * H) → zr (W * H) p ≤ m → p.testBit s = true → (∀ i, p.testBit i = true → Conn W H x s i) → (∀ i, p.testBit i = true → x.testBit i = true) →
    ∃ M : Nat, Ev (fun k => spec_l08Reach.l0 k (W : Int) (H : Int) (x : Int) (p : Int)) (M : Int) ∧ isComp W H x s M ∧ M < 2 ^ (W * H) := by
  have hp36 : 2 ^ (W * H) ≤ 2 ^ 36 := Nat.pow_le_pow_right (by decide) hn
  have main : ∀ p : Nat, p < 2 ^ (W * H) → p.testBit s = true → (∀ i, p.testBit i = true → Conn W H x s i) → (∀ i, p.testBit i = true → x.testBit i = true) →
      (∀ q : Nat, q < 2 ^ (W * H) → q ≠ p → (∀ i, p.testBit i = true → q.testBit i = true) → (∀ i, q.testBit i = true → Conn W H x s i) → (∀ i, q.testBit i = true → x.testBit i = true) → ∃ M : Nat, Ev (fun k => spec_l08Reach.l0 k (W : Int) (H : Int) (x : Int) (q : Int)) (M : Int) ∧ isComp W H x s M ∧ M < 2 ^ (W * H)) →
      ∃ M : Nat, Ev (fun k => spec_l08Reach.l0 k (W : Int) (H : Int) (x : Int) (p : Int)) (M : Int) ∧ isComp W H x s M ∧ M < 2 ^ (W * H) := by
    intro p h1 h2 h3 h4 K
    obtain ⟨N, hN, ha, hl⟩ := near_ev W H p hW hH hn h1
    have ea : Go.bits .and .i64 (N : Int) (x : Int) = ((N &&& x : Nat) : Int) := and_i64 N x (by omega) (by omega)
    have ql : N &&& x < 2 ^ (W * H) := Nat.lt_of_le_of_lt Nat.and_le_left hl
    have sub : ∀ i, p.testBit i = true → (N &&& x).testBit i = true := fun i hi => (and_bit _ _ _).mpr ⟨(ha i).mpr (.inl hi), h4 i hi⟩
    have con : ∀ i, (N &&& x).testBit i = true → Conn W H x s i := fun i hi => by
      obtain ⟨a, b⟩ := (and_bit _ _ _).mp hi
      rcases (ha i).mp a with a | ⟨j, _, a, c⟩
      · exact h3 i a
      · exact Conn.step (h3 j a) c b
    have inx : ∀ i, (N &&& x).testBit i = true → x.testBit i = true := fun i hi => ((and_bit _ _ _).mp hi).2
    by_cases e : N &&& x = p
    · refine ⟨p, ev_shift ?_, closed_comp h2 h3 (fun i hi j hj hxj => ?_), h1⟩
      · simp only [spec_l08Reach.l0]
        refine ev_bind hN ?_
        rw [ea, e]
        exact ev_pos rfl (ev_now _)
      · rw [← e]
        exact (and_bit _ _ _).mpr ⟨(ha j).mpr (.inr ⟨i, bit_lt h1 hi, hi, hj⟩), hxj⟩
    · obtain ⟨M, hM, hM2⟩ := K (N &&& x) ql e sub con inx
      refine ⟨M, ev_shift ?_, hM2⟩
      simp only [spec_l08Reach.l0]
      refine ev_bind hN ?_
      rw [ea]
      exact ev_neg (fun z => e (Int.ofNat.inj z)) hM
  have strict : ∀ p q : Nat, p < 2 ^ (W * H) → q < 2 ^ (W * H) → q ≠ p → (∀ i, p.testBit i = true → q.testBit i = true) → zr (W * H) q < zr (W * H) p := by
    intro p q h1 h2 hne hs
    rcases Nat.lt_or_ge (zr (W * H) q) (zr (W * H) p) with g | g
    · exact g
    · exfalso
      apply hne
      have e := zr_eq (W * H) p q hs (Nat.le_antisymm (zr_mono _ _ _ hs) g)
      apply Nat.eq_of_testBit_eq
      intro i
      rcases Nat.lt_or_ge i (W * H) with c | c
      · exact (e i c).symm
      · rw [high_false h1 c, high_false h2 c]
  induction m with
  | zero =>
    intro p h1 hz h2 h3 h4
    exact main p h1 h2 h3 h4 (fun q g1 g2 g3 _ _ => by have := strict p q h1 g1 g2 g3; omega)
  | succ m ih =>
    intro p h1 hz h2 h3 h4
    exact main p h1 h2 h3 h4 (fun q g1 g2 g3 g4 g5 => ih q g1 (by have := strict p q h1 g1 g2 g3; omega) (g3 s h2) g4 g5)
theorem ctz_of (x : Nat) (h0 : x ≠ 0) (h : x < 2 ^ 64) : ∃ m, x = 2 ^ Lib.ctz 64 x * (2 * m + 1) ∧ Lib.ctz 64 x < 64 := by
  obtain ⟨m, hm, hk⟩ := Lib.ctzFrom_spec 64 x (by omega) h
  have e : Lib.ctz 64 x = Lib.ctzFrom 64 x := by simp [Lib.ctz, h0]
  rw [e]
  exact ⟨m, hm, hk⟩
theorem ctz_bit (x : Nat) (h0 : x ≠ 0) (h : x < 2 ^ 64) : x.testBit (Lib.ctz 64 x) = true := by
  obtain ⟨m, hm, _⟩ := ctz_of x h0 h
  generalize Lib.ctz 64 x = s at *
  rw [hm, testBit_div, Nat.mul_div_cancel_left _ (Nat.two_pow_pos s)]
  exact decide_eq_true (by omega)
theorem least_ev (x : Nat) (h : x < 2 ^ 62) : impl_least.f (x : Int) = some ((Lib.ctz 64 x : Nat) : Int) := by
  unfold impl_least.f bits_TrailingZeros.f bits_TrailingZeros64.f
  have e : IntKind.u64.wrap (x : Int) = (x : Int) := u64_nat x (by omega)
  rw [e, if_pos (Int.natCast_nonneg _), if_pos (by omega)]
  rfl
theorem low_ev (x : Nat) (h0 : x ≠ 0) (h : x < 2 ^ 62) : Go.bits .and .i64 (x : Int) (wrap64 (-(x : Int))) = ((2 ^ Lib.ctz 64 x : Nat) : Int) := by
  have hl := (Lib.lowest_bit 64 x h0 (by omega)).1
  have hw : wrap64 (-(x : Int)) = -(x : Int) := w64 (by omega) (by omega)
  have hpl : 2 ^ Lib.ctz 64 x ≤ x := by
    obtain ⟨m, hm, _⟩ := ctz_of x h0 (by omega)
    generalize Lib.ctz 64 x = s at *
    have : 2 ^ s * 1 ≤ 2 ^ s * (2 * m + 1) := Nat.mul_le_mul_left _ (by omega)
    omega
  rw [hw]
  simp only [Go.bits]
  have e1 : (BitVec.ofInt 64 (x : Int)).toNat = x := by
    rw [BitVec.ofInt_natCast, BitVec.toNat_ofNat]; exact Nat.mod_eq_of_lt (by omega)
  have e2 : (BitVec.ofInt 64 (-(x : Int))).toNat = 2 ^ 64 - x := by
    rw [BitVec.toNat_ofInt]; omega
  show IntKind.i64.wrap (((BitVec.ofInt 64 (x : Int)) &&& (BitVec.ofInt 64 (-(x : Int)))).toNat : Int) = _
  rw [BitVec.toNat_and, e1, e2, hl, IntKind.wrap_i64]
  generalize 2 ^ Lib.ctz 64 x = q at *
  omega
theorem reach_ev (W H x : Nat) (hW : 1 ≤ W ∧ W ≤ 6) (hH : 1 ≤ H ∧ H ≤ 6) (hn : W * H ≤ 36) (hx : x < 2 ^ (W * H)) (h0 : x ≠ 0) : ∃ M : Nat, Ev (fun k => spec_l08Reach.f k (W : Int) (H : Int) (x : Int)) (M : Int) ∧ isComp W H x (Lib.ctz 64 x) M ∧ M < 2 ^ (W * H) := by
  have hx62 : x < 2 ^ 62 := Nat.lt_of_lt_of_le hx (Nat.pow_le_pow_right (by decide) (by omega))
  have hb := ctz_bit x h0 (by omega)
  have hs := bit_lt hx hb
  generalize hS : Lib.ctz 64 x = s at *
  have ht : ∀ i, (2 ^ s).testBit i = true → i = s := fun i hi => by
    rw [Nat.testBit_two_pow] at hi
    exact (of_decide_eq_true hi).symm
  obtain ⟨M, hM, hM2⟩ := reach_l0 W H x s hW hH hn hx (W * H) (2 ^ s) (Nat.pow_lt_pow_right (by decide) hs) (zr_le _ _) (by rw [Nat.testBit_two_pow]; simp) (fun i hi => (ht i hi) ▸ Conn.base) (fun i hi => (ht i hi) ▸ hb)
  refine ⟨M, ?_, hM2⟩
  unfold spec_l08Reach.f
  rw [low_ev x h0 hx62, hS]
  exact hM
/-- Both find the same part with the least cell. -/
theorem both_parts (W H x : Nat) (hW : 1 ≤ W ∧ W ≤ 6) (hH : 1 ≤ H ∧ H ≤ 6) (hn : W * H ≤ 36) (hx : x < 2 ^ (W * H)) (h0 : x ≠ 0) : ∃ M : Nat, Ev (fun k => spec_l08Reach.f k (W : Int) (H : Int) (x : Int)) (M : Int) ∧ Ev (fun k => impl_part.f k (W : Int) (H : Int) (x : Int) ((Lib.ctz 64 x : Nat) : Int)) (M : Int) ∧ isComp W H x (Lib.ctz 64 x) M ∧ M < 2 ^ (W * H) := by
  have hx62 : x < 2 ^ 62 := Nat.lt_of_lt_of_le hx (Nat.pow_le_pow_right (by decide) (by omega))
  have hb := ctz_bit x h0 (by omega)
  have hs := bit_lt hx hb
  obtain ⟨M, h1, h2, h3⟩ := reach_ev W H x hW hH hn hx h0
  obtain ⟨N, g1, g2, g3⟩ := part_ev W H x (Lib.ctz 64 x) hW hH hn hx hs
  have e := isComp_uniq h2 g2
  subst e
  exact ⟨M, h1, g1, h2, h3⟩
def toI (l : List Nat) : List Int := l.map (fun n : Nat => (n : Int))
theorem toI_len (l : List Nat) : (toI l).length = l.length := by simp [toI]
theorem toI_app (l m : List Nat) : toI (l ++ m) = toI l ++ toI m := by simp [toI]
theorem toI_set (l : List Nat) (i a : Nat) : (toI l).set i (a : Int) = toI (l.set i a) := by simp [toI, List.map_set]
theorem rd_toI (l : List Nat) (i : Nat) : rd (toI l) (i : Int) = ((l.getD i 0 : Nat) : Int) := by
  simp only [rd, toI, Int.toNat_natCast, List.getD_eq_getElem?_getD, List.getElem?_map]
  cases l[i]? <;> simp
theorem getD_mid {α : Type} (pre suf : List α) (a z : α) : (pre ++ a :: suf).getD pre.length z = a := by
  simp [List.getD_eq_getElem?_getD]
theorem cl_pop (x d : Nat) : ∀ i, (cl x i d).length = pop d (x / 2 ^ i) := by
  induction d with
  | zero => intro i; simp [cl, pop]
  | succ d ih =>
    intro i
    have e : x / 2 ^ i / 2 = x / 2 ^ (i + 1) := by rw [Nat.pow_succ, Nat.div_div_eq_div_mul]
    have hp : pop (d + 1) (x / 2 ^ i) = x / 2 ^ i % 2 + pop d (x / 2 ^ i / 2) := rfl
    rw [hp, e, ← ih (i + 1)]
    simp only [cl]
    rw [testBit_div]
    by_cases h : x / 2 ^ i % 2 = 1
    · rw [decide_eq_true h, if_pos rfl, h]; simp; omega
    · rw [decide_eq_false h]; simp
      generalize x / 2 ^ i = q at *
      omega
/-- Ascending cells from lo on, all below N. -/
def asc (N : Nat) : Nat → List Nat → Prop
  | _, [] => True
  | lo, c :: cs => lo ≤ c ∧ c < N ∧ asc N (c + 1) cs
theorem asc_lower {N : Nat} {l : List Nat} {a b : Nat} (h : asc N b l) (hab : a ≤ b) : asc N a l := by
  cases l with
  | nil => trivial
  | cons c cs => exact ⟨Nat.le_trans hab h.1, h.2⟩
theorem cl_asc (x N d : Nat) : ∀ i, i + d ≤ N → asc N i (cl x i d) := by
  induction d with
  | zero => intro i _; trivial
  | succ d ih =>
    intro i h
    simp only [cl]
    have := ih (i + 1) (by omega)
    by_cases b : x.testBit i = true
    · rw [if_pos b]; exact ⟨Nat.le_refl _, by omega, this⟩
    · rw [if_neg b]; exact asc_lower this (by omega)
theorem cellList_from (N x : Nat) (hN : N ≤ 36) (hx : x < 2 ^ 62) (d : Nat) : ∀ (i : Nat) (out : List Nat), i + d = N → out.length + d ≤ 100 → Ev (fun k => impl_cellList.l0 k (x : Int) (toI out) (N : Int) (i : Int)) (toI (out ++ cl x i d)) := by
  induction d with
  | zero =>
    intro i out h ho
    refine ev_shift ?_
    simp only [impl_cellList.l0, cl, List.append_nil]
    exact ev_neg (by omega) (ev_now _)
  | succ d ih =>
    intro i out h ho
    refine ev_shift ?_
    simp only [impl_cellList.l0]
    have e := wsucc i (by omega)
    refine ev_pos (by clear e; omega) (ev_bind0 (has_eq x i hx (by clear e; omega)) ?_)
    rw [e]
    clear e
    simp only [cl]
    by_cases b : x.testBit i = true
    · rw [if_pos b]
      refine ev_pos b (ev_pos (by rw [toI_len]; omega) ?_)
      have := ih (i + 1) (out ++ [i]) (by omega) (by simp; omega)
      rw [toI_app, show toI [i] = [(i : Int)] from rfl] at this
      simpa using this
    · rw [if_neg b]
      exact ev_neg b (ih (i + 1) out (by omega) (by omega))
theorem cellList_ev (W H x : Nat) (hn : W * H ≤ 36) (hx : x < 2 ^ (W * H)) : Ev (fun k => impl_cellList.f k (W : Int) (H : Int) (x : Int)) (toI (cl x 0 (W * H))) := by
  have hx62 : x < 2 ^ 62 := Nat.lt_of_lt_of_le hx (Nat.pow_le_pow_right (by decide) (by omega))
  unfold impl_cellList.f
  have e : wrap64 ((W : Int) * (H : Int)) = ((W * H : Nat) : Int) := by rw [← Int.natCast_mul, w64 (by omega) (by omega)]
  rw [e]
  have := cellList_from (W * H) x hn hx62 (W * H) 0 [] (by omega) (by simp; omega)
  simpa [toI] using this
theorem cell_back (W c : Nat) (hW : 1 ≤ W ∧ W ≤ 6) (hc : c < 100) : wrap64 (wrap64 (((c / W : Nat) : Int) * (W : Int)) + ((c % W : Nat) : Int)) = (c : Int) := by
  have h := Nat.div_add_mod c W
  have h1 : c / W ≤ c := Nat.div_le_self c W
  have h2 : W * (c / W) ≤ c := Nat.mul_div_le c W
  have e : ((c / W : Nat) : Int) * (W : Int) = ((W * (c / W) : Nat) : Int) := by rw [Nat.mul_comm W, Int.natCast_mul]
  rw [e]
  generalize W * (c / W) = u at *
  generalize c % W = v at *
  have e1 : wrap64 (u : Int) = (u : Int) := w64 (by omega) (by omega)
  rw [e1]
  clear e1 e
  rw [wadd u v (by omega)]
  omega
/-- Cell c joins piece n. -/
def stepO (out : List Nat) (n c : Nat) : List Nat := if n = out.length then out ++ [2 ^ c] else out.set n (out.getD n 0 ||| 2 ^ c)
/-- The pieces of numbers, cell by cell; none if they are not numbered in order. -/
def run : List Int → List Nat → List Nat → Option (List Nat)
  | [], _, out => some out
  | _ :: _, [], out => some out
  | n :: ns, c :: cs, out => if n < 0 ∨ (out.length : Int) < n then none else run ns cs (stepO out n.toNat c)
theorem step_len (out : List Nat) (n c : Nat) (h : n ≤ out.length) : (stepO out n c).length = if n = out.length then out.length + 1 else out.length := by
  unfold stepO; split <;> simp
theorem or_pow (p c : Nat) (h : p < 2 ^ c) : p ||| 2 ^ c = p + 2 ^ c := by
  have := Nat.two_pow_add_eq_or_of_lt h 1
  rw [Nat.mul_one] at this
  rw [Nat.or_comm, ← this, Nat.add_comm]
def bnd (out : List Nat) (c : Nat) : Prop := ∀ p ∈ out, p < 2 ^ c
theorem bnd_at {out : List Nat} {c : Nat} (h : bnd out c) (n : Nat) : out.getD n 0 < 2 ^ c := by
  rw [List.getD_eq_getElem?_getD]
  cases e : out[n]? with
  | none => simp; exact Nat.two_pow_pos c
  | some p => simp; exact h p (List.mem_of_getElem? e)
theorem bnd_up {out : List Nat} {a b : Nat} (h : bnd out a) (hab : a ≤ b) : bnd out b := fun p hp => Nat.lt_of_lt_of_le (h p hp) (Nat.pow_le_pow_right (by decide) hab)
theorem step_bnd {out : List Nat} {c : Nat} (n : Nat) (h : bnd out c) : bnd (stepO out n c) (c + 1) := by
  have e : 2 ^ (c + 1) = 2 ^ c + 2 ^ c := by rw [Nat.pow_succ]; omega
  have hp := Nat.two_pow_pos c
  intro p hq
  unfold stepO at hq
  split at hq
  · rcases List.mem_append.mp hq with g | g
    · have := h p g; omega
    · have : p = 2 ^ c := by simpa using g
      omega
  · rcases List.mem_or_eq_of_mem_set hq with g | g
    · have := h p g; omega
    · have := bnd_at h n
      rw [g, or_pow _ _ this]; omega
theorem run_bnd (N : Nat) : ∀ (suf : List Int) (cs out : List Nat) (lo : Nat) (R : List Nat), asc N lo cs → lo ≤ N → bnd out lo → run suf cs out = some R → bnd R N ∧ R.length ≤ out.length + suf.length := by
  intro suf
  induction suf with
  | nil => intro cs out lo R ha hl hb h; simp only [run] at h; cases h; exact ⟨bnd_up hb hl, by simp⟩
  | cons n ns ih =>
    intro cs out lo R ha hl hb h
    cases cs with
    | nil => simp only [run] at h; cases h; exact ⟨bnd_up hb hl, by simp⟩
    | cons c cs =>
      obtain ⟨h1, h2, h3⟩ := ha
      simp only [run] at h
      by_cases b : n < 0 ∨ (out.length : Int) < n
      · rw [if_pos b] at h; cases h
      · rw [if_neg b] at h
        have hs := step_len out n.toNat c (by omega)
        obtain ⟨g1, g2⟩ := ih cs (stepO out n.toNat c) (c + 1) R h3 (by omega) (step_bnd n.toNat (bnd_up hb h1)) h
        refine ⟨g1, ?_⟩
        rw [List.length_cons]
        split at hs <;> omega
theorem whole_run (W H : Nat) (hW : 1 ≤ W ∧ W ≤ 6) (hH : 1 ≤ H ∧ H ≤ 6) (hn : W * H ≤ 36) (R : List Nat) (hR : bnd R (W * H)) (hl : R.length ≤ 1000) : ∀ (suf pre : List Nat), R = pre ++ suf →
    ∃ b : Bool, Ev (fun k => spec_l09Whole.l0 k (W : Int) (H : Int) (toI R) (R.length : Int) (pre.length : Int)) b ∧ Ev (fun k => impl_piecesOf.l1 k (W : Int) (H : Int) (toI R) (toI R) (R.length : Int) (pre.length : Int)) (if b = true then (toI R, true) else ([], false)) := by
  intro suf
  induction suf with
  | nil =>
    intro pre hp
    have hlp : R.length = pre.length := by rw [hp]; simp
    refine ⟨true, ev_shift ?_, ev_shift ?_⟩
    · simp only [spec_l09Whole.l0]; exact ev_neg (by omega) (ev_now _)
    · simp only [impl_piecesOf.l1]; exact ev_neg (by omega) (ev_now _)
  | cons p suf ih =>
    intro pre hp
    have hlp : R.length = pre.length + suf.length + 1 := by rw [hp]; simp; omega
    have hat : rd (toI R) (pre.length : Int) = (p : Int) := by rw [rd_toI, hp, getD_mid]
    have hpb : p < 2 ^ (W * H) := hR p (by rw [hp]; simp)
    have hnx := wsucc pre.length (by omega)
    obtain ⟨b, g1, g2⟩ := ih (pre ++ [p]) (by rw [hp]; simp)
    have hpl : ((pre ++ [p]).length : Int) = ((pre.length + 1 : Nat) : Int) := by simp
    rw [hpl] at g1 g2
    have c1 : (pre.length : Int) < (R.length : Int) := by clear hnx; omega
    have c2 : (0 : Int) ≤ (pre.length : Int) := by clear hnx; omega
    have c3 : (pre.length : Int) < ((toI R).length : Int) := by rw [toI_len]; exact c1
    have hp62 : p < 2 ^ 62 := Nat.lt_of_lt_of_le hpb (Nat.pow_le_pow_right (by decide) (by omega))
    by_cases z : p = 0
    · refine ⟨false, ev_shift ?_, ev_shift ?_⟩
      · simp only [spec_l09Whole.l0]
        rw [hat]
        exact ev_pos c1 (ev_pos c2 (ev_pos c3 (ev_pos (by clear hnx; omega) (ev_now _))))
      · simp only [impl_piecesOf.l1]
        rw [hat]
        unfold impl_isWhole.f
        exact ev_pos c1 (ev_pos c2 (ev_pos c3 (ev_bind (a := false) (ev_pos (by clear hnx; omega) (ev_now _)) (ev_neg (by decide) (ev_now _)))))
    · obtain ⟨M, h1, h2, _⟩ := both_parts W H p hW hH hn hpb z
      have w1 : Ev (fun k => impl_isWhole.f k (W : Int) (H : Int) (p : Int)) ((M : Int) == (p : Int)) := by
        unfold impl_isWhole.f
        exact ev_neg (by clear hnx; omega) (ev_bind0 (least_ev p hp62) (ev_bind h2 (ev_now _)))
      by_cases m : M = p
      · refine ⟨b, ev_shift ?_, ev_shift ?_⟩
        · simp only [spec_l09Whole.l0]
          rw [hat, hnx]
          exact ev_pos c1 (ev_pos c2 (ev_pos c3 (ev_neg (by clear hnx; omega) (ev_bind h1 (ev_pos (by clear hnx; omega) g1)))))
        · simp only [impl_piecesOf.l1]
          rw [hat, hnx]
          exact ev_pos c1 (ev_pos c2 (ev_pos c3 (ev_bind w1 (ev_pos (by simp [m]) g2))))
      · refine ⟨false, ev_shift ?_, ev_shift ?_⟩
        · simp only [spec_l09Whole.l0]
          rw [hat]
          exact ev_pos c1 (ev_pos c2 (ev_pos c3 (ev_neg (by clear hnx; omega) (ev_bind h1 (ev_neg (by clear hnx; omega) (ev_now _))))))
        · simp only [impl_piecesOf.l1]
          rw [hat]
          exact ev_pos c1 (ev_pos c2 (ev_pos c3 (ev_bind w1 (ev_neg (by simp; omega) (ev_now _)))))
theorem impl_run (W H : Int) (C : List Nat) (hC : C.length ≤ 36) (cut : List Int) (hl : cut.length = C.length) (r : List Int × Bool) : ∀ (suf : List Int) (cs : List Nat) (pre : List Int) (pc out : List Nat) (lo : Nat), cut = pre ++ suf → C = pc ++ cs → pre.length = pc.length → out.length ≤ pre.length → bnd out lo → asc 36 lo cs →
    (run suf cs out = none → r = ([], false)) → (∀ R, run suf cs out = some R → Ev (fun k => impl_piecesOf.l1 k W H (toI R) (toI R) (R.length : Int) 0) r) →
    Ev (fun k => impl_piecesOf.l0 k W H (toI C) (toI out) cut (cut.length : Int) (pre.length : Int)) r := by
  intro suf
  induction suf with
  | nil =>
    intro cs pre pc out lo hp hc hpl ho hb ha h0 h1
    have hlp : cut.length = pre.length := by rw [hp]; simp
    refine ev_shift ?_
    simp only [impl_piecesOf.l0]
    refine ev_neg (by omega) ?_
    have := h1 out rfl
    rw [toI_len]
    exact this
  | cons n ns ih =>
    intro cs pre pc out lo hp hc hpl ho hb ha h0 h1
    have hlp : cut.length = pre.length + ns.length + 1 := by rw [hp]; simp; omega
    cases cs with
    | nil => exfalso; rw [hc] at hl; simp at hl; omega
    | cons c cs =>
      obtain ⟨ha1, ha2, ha3⟩ := ha
      have hcl : C.length = pc.length + cs.length + 1 := by rw [hc]; simp; omega
      have hat : rd cut (pre.length : Int) = n := by rw [hp, rd_mid]
      have hcat : rd (toI C) (pre.length : Int) = (c : Int) := by rw [rd_toI, hpl, hc, getD_mid]
      have hnx := wsucc pre.length (by omega)
      have c1 : (pre.length : Int) < (cut.length : Int) := by clear hnx; omega
      have c2 : (0 : Int) ≤ (pre.length : Int) := by clear hnx; omega
      have c4 : (pre.length : Int) < ((toI C).length : Int) := by rw [toI_len]; clear hnx; omega
      have c5 : (0 : Int) ≤ (c : Int) := by clear hnx; omega
      have hol : ((toI out).length : Int) = (out.length : Int) := by rw [toI_len]
      have hpn : ((pre ++ [n]).length : Int) = ((pre.length + 1 : Nat) : Int) := by simp
      simp only [run] at h0 h1
      by_cases b : n < 0 ∨ (out.length : Int) < n
      · rw [if_pos b] at h0
        have hr := h0 rfl
        subst hr
        refine ev_shift ?_
        simp only [impl_piecesOf.l0]
        rw [hat]
        refine ev_pos c1 (ev_pos c2 (ev_pos c1 ?_))
        by_cases g : n < 0
        · refine ev_pos g (ev_shift ?_)
          simp only [impl_piecesOf.j1]
          exact ev_pos (by simp) (ev_now _)
        · refine ev_neg g (ev_shift ?_)
          simp only [impl_piecesOf.j1]
          exact ev_pos (decide_eq_true (by rw [hol]; clear hnx; omega)) (ev_now _)
      · rw [if_neg b] at h0 h1
        obtain ⟨m, rfl⟩ := Int.eq_ofNat_of_zero_le (show 0 ≤ n by clear hnx; omega)
        have hm : m ≤ out.length := by clear hnx; omega
        rw [Int.toNat_natCast] at h0 h1
        have hs := step_len out m c hm
        have goal := ih cs (pre ++ [(m : Int)]) (pc ++ [c]) (stepO out m c) (c + 1) (by rw [hp]; simp) (by rw [hc]; simp) (by simp; exact hpl) (by rw [List.length_append]; simp; clear hnx; split at hs <;> omega) (step_bnd m (bnd_up hb ha1)) ha3 h0 h1
        rw [hpn] at goal
        have hsh := shl_nat c (by clear hnx; omega)
        refine ev_shift ?_
        simp only [impl_piecesOf.l0]
        rw [hat]
        refine ev_pos c1 (ev_pos c2 (ev_pos c1 (ev_neg (by clear hnx; omega) (ev_shift ?_))))
        simp only [impl_piecesOf.j1]
        rw [hcat, hnx, hol, hsh, Int.toNat_natCast]
        clear hnx hsh
        refine ev_neg (by simp; omega) ?_
        have hp62 : 2 ^ c < 2 ^ 63 := Nat.pow_lt_pow_right (by decide) (by omega)
        by_cases e : m = out.length
        · refine ev_pos (by omega) (ev_pos (by rw [toI_len]; omega) (ev_bind (a := toI out ++ [0]) (ev_now _) (ev_pos (by omega) (ev_pos (by simp [toI_len]; omega) (ev_pos c2 (ev_pos c4 (ev_pos c5 ?_)))))))
          have e1 : toI out ++ [0] = toI (out ++ [0]) := by rw [toI_app]; rfl
          have e2 : (out ++ [0]).getD m 0 = 0 := by rw [e, getD_mid]
          rw [e1, rd_toI, e2, or_i64 0 (2 ^ c) (by decide) hp62, toI_set]
          have e3 : (out ++ [0]).set m (0 ||| 2 ^ c) = stepO out m c := by
            unfold stepO
            rw [if_pos e, e, Nat.zero_or]
            simp
          rw [e3]
          exact goal
        · have hbo := bnd_at (bnd_up hb ha1) m
          refine ev_neg (by omega) (ev_pos (by omega) (ev_pos (by omega) (ev_pos c2 (ev_pos c4 (ev_pos c5 ?_)))))
          rw [rd_toI, or_i64 _ (2 ^ c) (by omega) hp62, toI_set]
          have e3 : out.set m (out.getD m 0 ||| 2 ^ c) = stepO out m c := by unfold stepO; rw [if_neg e]
          rw [e3]
          exact goal
theorem spec_pieces (W : Nat) (hW : 1 ≤ W ∧ W ≤ 6) (C : List Nat) (hC : C.length ≤ 36) (cut : List Int) (hl : cut.length = C.length) (R : List Nat) : ∀ (suf : List Int) (cs : List Nat) (pre : List Int) (pc out : List Nat) (lo : Nat), cut = pre ++ suf → C = pc ++ cs → pre.length = pc.length → out.length ≤ pre.length → bnd out lo → asc 36 lo cs →
    run suf cs out = some R →
    Ev (fun k => spec_l09Pieces.l0 k (W : Int) cut (toI out) (C.map (cellAt W)) (C.length : Int) (pre.length : Int)) (toI R) := by
  intro suf
  induction suf with
  | nil =>
    intro cs pre pc out lo hp hc hpl ho hb ha h1
    have hlp : cut.length = pre.length := by rw [hp]; simp
    simp only [run] at h1
    cases h1
    refine ev_shift ?_
    simp only [spec_l09Pieces.l0]
    exact ev_neg (by omega) (ev_now _)
  | cons n ns ih =>
    intro cs pre pc out lo hp hc hpl ho hb ha h1
    have hlp : cut.length = pre.length + ns.length + 1 := by rw [hp]; simp; omega
    cases cs with
    | nil => exfalso; rw [hc] at hl; simp at hl; omega
    | cons c cs =>
      obtain ⟨ha1, ha2, ha3⟩ := ha
      have hcl : C.length = pc.length + cs.length + 1 := by rw [hc]; simp; omega
      have hat : rd cut (pre.length : Int) = n := by rw [hp, rd_mid]
      have hcat : rd_T51 (C.map (cellAt W)) (pre.length : Int) = cellAt W c := by
        rw [hpl, hc]
        simp [rd_T51, List.getD_eq_getElem?_getD]
      have c1 : (pre.length : Int) < (C.length : Int) := by omega
      have c2 : (0 : Int) ≤ (pre.length : Int) := by omega
      have c3 : (pre.length : Int) < (cut.length : Int) := by omega
      have c4 : (pre.length : Int) < ((C.map (cellAt W)).length : Int) := by rw [List.length_map]; exact c1
      have hpn : ((pre ++ [n]).length : Int) = ((pre.length + 1 : Nat) : Int) := by simp
      simp only [run] at h1
      by_cases b : n < 0 ∨ (out.length : Int) < n
      · rw [if_pos b] at h1; cases h1
      · rw [if_neg b] at h1
        obtain ⟨m, rfl⟩ := Int.eq_ofNat_of_zero_le (show 0 ≤ n by omega)
        have hm : m ≤ out.length := by omega
        rw [Int.toNat_natCast] at h1
        have hs := step_len out m c hm
        have goal := ih cs (pre ++ [(m : Int)]) (pc ++ [c]) (stepO out m c) (c + 1) (by rw [hp]; simp) (by rw [hc]; simp) (by simp; exact hpl) (by rw [List.length_append]; simp; split at hs <;> omega) (step_bnd m (bnd_up hb ha1)) ha3 h1
        rw [hpn] at goal
        have hp36 : 2 ^ c ≤ 2 ^ 36 := Nat.pow_le_pow_right (by decide) (by omega)
        have hbo := bnd_at (bnd_up hb ha1) m
        -- the piece has its place
        have hwadd : ∀ q : Nat, q < 2 ^ c → wrap64 ((q : Int) + ((2 ^ c : Nat) : Int)) = ((q + 2 ^ c : Nat) : Int) := by
          intro q hq
          generalize 2 ^ c = t at *
          exact wadd _ _ (by omega)
        have c6 : (0 : Int) ≤ (c : Int) := Int.natCast_nonneg c
        have c8 : c ≤ 62 := Nat.le_trans (Nat.le_of_lt ha2) (by decide)
        have c9 : c < 100 := Nat.lt_trans ha2 (by decide)
        have c10 : pre.length < 1000000000000 := by clear hwadd hp36 hbo; omega
        have c7 : (0 : Int) ≤ (m : Int) := Int.natCast_nonneg m
        have put : ∀ o : List Nat, (o.length : Int) > (m : Int) → o.getD m 0 < 2 ^ c → o.set m (o.getD m 0 ||| 2 ^ c) = stepO out m c →
            Ev (fun k => spec_l09Pieces.l1 k (W : Int) cut (toI o) (pre.length : Int) (C.map (cellAt W)) (C.length : Int) (pre.length : Int) ((c % W : Nat) : Int) ((c / W : Nat) : Int)) (toI R) := by
          intro o hol hob hos
          refine ev_shift ?_
          simp only [spec_l09Pieces.l1]
          have hbk := cell_back W c hW c9
          have hsh := shl_nat c c8
          have hnx := wsucc pre.length c10
          have hsum : wrap64 (((o.getD m 0 : Nat) : Int) + ((2 ^ c : Nat) : Int)) = ((o.getD m 0 ||| 2 ^ c : Nat) : Int) := by
            rw [or_pow _ _ hob]
            exact hwadd _ hob
          rw [hat, rd_toI, hbk, hsh, hnx, hsum, toI_len, Int.toNat_natCast, toI_set, hos]
          clear hbk hsh hnx hsum
          exact ev_pos c2 (ev_pos c3 (ev_neg (Int.not_le.mpr hol) (ev_pos c7 (ev_pos hol (ev_pos c6 goal)))))
        refine ev_shift ?_
        simp only [spec_l09Pieces.l0]
        rw [hcat]
        refine ev_pos c1 (ev_pos c2 (ev_pos c4 ?_))
        by_cases e : m = out.length
        · refine ev_shift ?_
          simp only [spec_l09Pieces.l1]
          rw [hat]
          refine ev_pos c2 (ev_pos c3 (ev_pos (by rw [toI_len]; omega) (ev_pos (by rw [toI_len]; omega) ?_)))
          have e1 : toI out ++ [0] = toI (out ++ [0]) := by rw [toI_app]; rfl
          have e2 : (out ++ [0]).getD m 0 = 0 := by rw [e, getD_mid]
          rw [e1]
          refine put (out ++ [0]) (by simp; omega) (by rw [e2]; exact Nat.two_pow_pos c) ?_
          unfold stepO
          rw [if_pos e, e2, e, Nat.zero_or]
          simp
        · exact put out (by omega) hbo (by unfold stepO; rw [if_neg e])
theorem pop64 (n x : Nat) (hn : n ≤ 36) (hx : x < 2 ^ n) : pop 64 x = (cl x 0 n).length := by
  have h := pop_more n (64 - n) x hx
  rw [show n + (64 - n) = 64 by omega] at h
  rw [h, cl_pop]
  simp
theorem bind_at {α β : Type} {o : Option α} {f : α → Option β} {a : α} {r : Option β} (h : o = some a) (k : f a = r) : o.bind f = r := by subst h; exact k
theorem if_at {α : Type} {c : Prop} [Decidable c] {a b r : α} (h : c) (k : a = r) : (if c then a else b) = r := by rw [if_pos h]; exact k
theorem cuttable_nat (W H x : Nat) (q : Nat) (c : okS (W : Int) (H : Int) (x : Int) = true) (hx64 : x < 2 ^ 64) (hon : pop 64 x = q) :
    impl_isCuttable.f (W : Int) (H : Int) (x : Int) 9 = some (decide ((1 : Int) ≤ (q : Int) ∧ (q : Int) ≤ 9)) := by
  have hon2 : bits_OnesCount.f (IntKind.u64.wrap (x : Int)) = some (q : Int) := by
    rw [u64_nat x hx64, onesCount x hx64, hon]
  unfold impl_isCuttable.f
  exact bind_at (impl_shapeOk _ _ _) (if_at c (bind_at hon2 (bind_at (within_eq _ _ _) rfl)))
theorem l09Ok_nat (W H x : Nat) (q : Nat) (c : okS (W : Int) (H : Int) (x : Int) = true) (h1 : Ev (fun k => spec_l08Ones.f k (x : Int)) (q : Int)) :
    Ev (fun k => spec_l09Ok.f k (W : Int) (H : Int) (x : Int)) (decide ((1 : Int) ≤ (q : Int) ∧ (q : Int) ≤ 9)) := by
  unfold spec_l09Ok.f
  exact ev_bind0 (spec_shapeOk _ _ _) (ev_pos c (ev_bind h1 (ev_bind0 (in_eq _ _ _) (ev_now _))))
theorem cuttable_not (w h m : Int) (c : ¬ okS w h m = true) : impl_isCuttable.f w h m 9 = some false := by
  unfold impl_isCuttable.f
  rw [impl_shapeOk]
  simp [c]
theorem l09Ok_not (w h m : Int) (c : ¬ okS w h m = true) : Ev (fun k => spec_l09Ok.f k w h m) false := by
  unfold spec_l09Ok.f
  exact ev_bind0 (spec_shapeOk _ _ _) (ev_neg c (ev_now _))
/-- What both make of a list of the right length: its pieces, or none. -/
theorem cut_all2 (W H x : Nat) (hW : 1 ≤ W ∧ W ≤ 6) (hH : 1 ≤ H ∧ H ≤ 6) (hn : W * H ≤ 36) (hx : x < 2 ^ (W * H)) (cut : List Int) (hl : cut.length = (cl x 0 (W * H)).length) :
    ∃ o : Option (List Nat), Ev (fun k => impl_piecesOf.f k (W : Int) (H : Int) (x : Int) cut) (match o with | some R => (toI R, true) | none => ([], false)) ∧
      (∀ R, o = some R → run cut (cl x 0 (W * H)) [] = some R) ∧
      ∀ R, run cut (cl x 0 (W * H)) [] = some R → bnd R (W * H) ∧ R.length ≤ 36 ∧ Ev (fun k => spec_l09Pieces.f k (W : Int) (x : Int) cut) (toI R) ∧ Ev (fun k => spec_l09Whole.f k (W : Int) (H : Int) (toI R)) o.isSome := by
  have hcl := cl_len x (W * H) 0
  have hc36 : cut.length ≤ 36 := by omega
  have ha := cl_asc x (W * H) (W * H) 0 (by omega)
  have ha36 := cl_asc x 36 (W * H) 0 (by omega)
  have hlist := cellList_ev W H x hn hx
  have hb0 : bnd [] 0 := fun p hp => by cases hp
  have e0 : ((cl x 0 (W * H)).length : Int) = (cut.length : Int) := by rw [hl]
  have loop : ∀ r : List Int × Bool, (run cut (cl x 0 (W * H)) [] = none → r = ([], false)) → (∀ R, run cut (cl x 0 (W * H)) [] = some R → Ev (fun k => impl_piecesOf.l1 k (W : Int) (H : Int) (toI R) (toI R) (R.length : Int) 0) r) → Ev (fun k => impl_piecesOf.f k (W : Int) (H : Int) (x : Int) cut) r := by
    intro r h0 h1
    unfold impl_piecesOf.f
    refine ev_bind hlist (ev_pos (by rw [toI_len, e0]) ?_)
    exact impl_run W H (cl x 0 (W * H)) (by omega) cut hl r cut (cl x 0 (W * H)) [] [] [] 0 rfl rfl rfl (Nat.le_refl _) hb0 ha36 h0 h1
  cases hr : run cut (cl x 0 (W * H)) [] with
  | none =>
    exact ⟨none, loop _ (fun _ => rfl) (fun R h => by rw [hr] at h; cases h), (fun R h => by cases h), (fun R h => by cases h)⟩
  | some R =>
    obtain ⟨g1, g2⟩ := run_bnd (W * H) cut (cl x 0 (W * H)) [] 0 R ha (Nat.zero_le _) hb0 hr
    have hRl : R.length ≤ 36 := by simp at g2; omega
    have hpc : Ev (fun k => spec_l09Pieces.f k (W : Int) (x : Int) cut) (toI R) := by
      unfold spec_l09Pieces.f
      refine ev_bind (spec_cells_ev W (W * H) x hW hn hx) ?_
      have := spec_pieces W hW (cl x 0 (W * H)) (by omega) cut hl R cut (cl x 0 (W * H)) [] [] [] 0 rfl rfl rfl (Nat.le_refl _) hb0 ha36 hr
      rw [List.length_map]
      exact this
    obtain ⟨b, w1, w2⟩ := whole_run W H hW hH hn R g1 (by omega) R [] rfl
    have hw : Ev (fun k => spec_l09Whole.f k (W : Int) (H : Int) (toI R)) b := by
      unfold spec_l09Whole.f
      rw [toI_len]
      exact w1
    cases b with
    | true =>
      refine ⟨some R, loop (toI R, true) (fun h => nomatch (hr.symm.trans h)) ?_, (fun R' h => by cases h; rfl), fun R' h => by cases h; exact ⟨g1, hRl, hpc, hw⟩⟩
      intro R' h; rw [hr] at h; cases h
      exact w2
    | false =>
      refine ⟨none, loop ([], false) (fun _ => rfl) ?_, (fun R' h => by cases h), fun R' h => by cases h; exact ⟨g1, hRl, hpc, hw⟩⟩
      intro R' h; rw [hr] at h; cases h
      exact w2
def vone {σ : Type} (P : List Int → Option (List Nat)) (vp : σ → List Int → List Int → σ × Bool) (c : List Int) (s : σ) : σ × Bool := match P c with
  | none => (s, true)
  | some R => vp s c (toI R)
theorem vone_none {σ : Type} {P : List Int → Option (List Nat)} {vp : σ → List Int → List Int → σ × Bool} {c : List Int} {s : σ} (h : P c = none) : vone P vp c s = (s, true) := by unfold vone; rw [h]
theorem vone_some {σ : Type} {P : List Int → Option (List Nat)} {vp : σ → List Int → List Int → σ × Bool} {c : List Int} {s : σ} {R : List Nat} (h : P c = some R) : vone P vp c s = vp s c (toI R) := by unfold vone; rw [h]
def visitAll {σ : Type} (P : List Int → Option (List Nat)) (vp : σ → List Int → List Int → σ × Bool) : List (List Int × Nat) → σ → σ × Bool
  | [], s => (s, true)
  | q :: L, s => if (vone P vp q.1 s).2 = true then visitAll P vp L (vone P vp q.1 s).1 else ((vone P vp q.1 s).1, false)
theorem visitAll_app {σ : Type} (P : List Int → Option (List Nat)) (vp : σ → List Int → List Int → σ × Bool) (M : List (List Int × Nat)) : ∀ (L : List (List Int × Nat)) (s : σ), visitAll P vp (L ++ M) s = if (visitAll P vp L s).2 = true then visitAll P vp M (visitAll P vp L s).1 else ((visitAll P vp L s).1, false) := by
  intro L
  induction L with
  | nil => intro s; simp [visitAll]
  | cons q L ih =>
    intro s
    rw [List.cons_append]
    simp only [visitAll]
    by_cases h : (vone P vp q.1 s).2 = true
    · simp only [if_pos h]; exact ih _
    · simp [if_neg h]
theorem grow_ev {σ : Type} (vs : Nat → σ → List Int → List Int → Option (σ × Bool)) (vp : σ → List Int → List Int → σ × Bool) (P : List Int → Option (List Nat)) (a0 a1 a2 : Int) (n : Nat) (hn : n ≤ 9)
    (hP : ∀ c : List Int, c.length = n → Ev (fun k => impl_piecesOf.f k a0 a1 a2 c) (match P c with | some R => (toI R, true) | none => ([], false)))
    (hv : ∀ s c R, P c = some R → c.length = n → Ev (fun k => vs k s c (toI R)) (vp s c (toI R))) :
    ∀ (d : Nat) (c : List Int) (u : Nat) (s : σ), c.length + d = n → u ≤ c.length → Ev (fun k => impl_grow.f vs a0 a1 a2 n k u c s) (visitAll P vp (ex d c u) s) := by
  intro d
  induction d with
  | zero =>
    intro c u s hc hu
    refine ev_shift ?_
    simp only [impl_grow.f]
    have hpc := hP c (by omega)
    have hv' := hv s c
    have e : visitAll P vp (ex 0 c u) s = vone P vp c s := by
      simp only [ex, visitAll]
      generalize vone P vp c s = r
      rcases r with ⟨s1, b⟩
      cases b <;> rfl
    rw [e]
    cases hp : P c with
    | none =>
      rw [hp] at hpc
      rw [vone_none hp]
      exact ev_pos (by omega) (ev_pos (by omega) (ev_bind hpc (ev_neg (by decide) (ev_now _))))
    | some R =>
      rw [hp] at hpc
      rw [vone_some hp]
      exact ev_pos (by omega) (ev_pos (by omega) (ev_bind hpc (ev_pos rfl (hv' R hp (by omega)))))
  | succ d ih =>
    intro c u s hc hu
    refine ev_shift ?_
    simp only [impl_grow.f]
    refine ev_pos (by omega) (ev_neg (by omega) ?_)
    have loop : ∀ (t k : Nat), k + t = u + 1 → ∀ s, Ev (fun q => impl_grow.l vs a0 a1 a2 n q u c s (k : Int)) (visitAll P vp (exf (ex d) c u k t) s) := by
      intro t
      induction t with
      | zero =>
        intro k hk s
        refine ev_shift ?_
        simp only [impl_grow.l]
        exact ev_neg (by omega) (ev_now _)
      | succ t iht =>
        intro k hk s
        have e0 : wrap64 ((k : Int) + 1) = ((k + 1 : Nat) : Int) := wsucc k (by omega)
        have e1 : mx (u : Int) ((k + 1 : Nat) : Int) = ((max u (k + 1) : Nat) : Int) := by rw [mx_eq]; omega
        refine ev_shift ?_
        simp only [impl_grow.l]
        rw [e0, e1]
        clear e0 e1
        refine ev_pos (by omega) (ev_pos (by omega) (ev_bind (ih (c ++ [(k : Int)]) (max u (k + 1)) s (by simp; omega) (by simp; omega)) ?_))
        simp only [exf]
        rw [visitAll_app]
        generalize visitAll P vp (ex d (c ++ [(k : Int)]) (max u (k + 1))) s = r
        by_cases hr : r.2 = true
        · rw [if_pos hr]
          exact ev_pos hr (iht (k + 1) (by omega) r.1)
        · rw [if_neg hr]
          exact ev_neg hr (ev_now _)
    exact loop (u + 1) 0 (by omega) s
/-- One number more. -/
theorem run_snoc (k : Nat) : ∀ (c : List Int) (cs out0 out : List Nat), run c cs out0 = some out → c.length < cs.length → k ≤ out.length → ∃ R, run (c ++ [(k : Int)]) cs out0 = some R ∧ R.length = max out.length (k + 1) := by
  intro c
  induction c with
  | nil =>
    intro cs out0 out h hl hk
    simp only [run] at h
    obtain rfl := Option.some.inj h
    cases cs with
    | nil => simp at hl
    | cons b cs =>
      simp only [List.nil_append, run]
      rw [if_neg (by omega)]
      refine ⟨_, rfl, ?_⟩
      rw [Int.toNat_natCast, step_len _ _ _ hk]
      split <;> omega
  | cons a c ih =>
    intro cs out0 out h hl hk
    cases cs with
    | nil => simp at hl
    | cons b cs =>
      simp only [List.cons_append, run] at h ⊢
      by_cases g : a < 0 ∨ (out0.length : Int) < a
      · rw [if_pos g] at h; cases h
      · rw [if_neg g] at h ⊢
        exact ih cs _ out h (by simpa using hl) hk
theorem ex_run : ∀ (d : Nat) (c : List Int) (u : Nat) (q : List Int × Nat), q ∈ ex d c u → ∀ (cs out : List Nat), run c cs [] = some out → out.length = u → c.length + d ≤ cs.length → ∃ R, run q.1 cs [] = some R ∧ R.length = q.2 := by
  intro d
  induction d with
  | zero =>
    intro c u q h cs out hr hu hl
    simp only [ex, List.mem_singleton] at h
    subst h
    exact ⟨out, hr, hu⟩
  | succ d ih =>
    intro c u q h cs out hr hu hl
    obtain ⟨j, h1, h2, h3⟩ := exf_mem _ c u _ _ q h
    obtain ⟨R, g1, g2⟩ := run_snoc j c cs [] out hr (by omega) (by omega)
    exact ih _ _ q h3 cs R g1 (by rw [g2, hu]) (by simp; omega)
theorem ex_len : ∀ (d : Nat) (c : List Int) (u : Nat), u + d ≤ 9 → (ex d c u).length ≤ 10 ^ d := by
  intro d
  induction d with
  | zero => intro c u _; simp [ex]
  | succ d ih =>
    intro c u hu
    have loop : ∀ (t k : Nat), k + t ≤ u + 1 → (exf (ex d) c u k t).length ≤ t * 10 ^ d := by
      intro t
      induction t with
      | zero => intro k _; simp [exf]
      | succ t iht =>
        intro k hk
        simp only [exf, List.length_append]
        have a := ih (c ++ [(k : Int)]) (max u (k + 1)) (by omega)
        have b := iht (k + 1) (by omega)
        rw [Nat.add_mul, Nat.one_mul]
        omega
    have h := loop (u + 1) 0 (by omega)
    have : (u + 1) * 10 ^ d ≤ 10 * 10 ^ d := Nat.mul_le_mul_right _ (by omega)
    rw [Nat.pow_succ, Nat.mul_comm (10 ^ d)]
    simp only [ex]
    omega
theorem ex_pos (d : Nat) (c : List Int) (u : Nat) (q : List Int × Nat) (h : q ∈ ex (d + 1) c u) : 1 ≤ q.2 := by
  obtain ⟨j, h1, h2, h3⟩ := exf_mem _ c u _ _ q h
  have := ex_range d _ _ q h3
  omega
/-- A cuttable shape: its cells, what is made of each list of numbers, both ways. -/
theorem cut_shape (w h m : Int) : (impl_isCuttable.f w h m 9 = some false ∧ Ev (fun k => spec_l09Ok.f k w h m) false) ∨
    (impl_isCuttable.f w h m 9 = some true ∧ Ev (fun k => spec_l09Ok.f k w h m) true ∧ ∃ (W H x n : Nat), w = W ∧ h = H ∧ m = x ∧ (1 ≤ W ∧ W ≤ 6) ∧ (1 ≤ H ∧ H ≤ 6) ∧ W * H ≤ 36 ∧ x < 2 ^ (W * H) ∧ 1 ≤ n ∧ n ≤ 9 ∧ n = (cl x 0 (W * H)).length ∧
      Ev (fun k => spec_l08Ones.f k m) (n : Int) ∧ bits_OnesCount.f (IntKind.u64.wrap m) = some (n : Int)) := by
  by_cases c : okS w h m = true
  · obtain ⟨W, H, x, rfl, rfl, rfl, hW, hH, hx, hn⟩ := ok_nat c
    have h36 : x < 2 ^ 36 := Nat.lt_of_lt_of_le hx (Nat.pow_le_pow_right (by decide) hn)
    have hx64 : x < 2 ^ 64 := Nat.lt_of_lt_of_le h36 (Nat.pow_le_pow_right (by decide) (by decide))
    have h1 := l08Ones_ev 36 x h36 (by decide)
    have hp := pop64 (W * H) x hn hx
    generalize hq : pop 64 x = q at h1 hp
    have h2 := cuttable_nat W H x q c hx64 hq
    have h3 := l09Ok_nat W H x q c h1
    have hon2 : bits_OnesCount.f (IntKind.u64.wrap (x : Int)) = some (q : Int) := by
      rw [u64_nat x hx64, onesCount x hx64, hq]
    clear hq hx64 h36
    by_cases g : (1 : Int) ≤ (q : Int) ∧ (q : Int) ≤ 9
    · rw [decide_eq_true g] at h2 h3
      exact .inr ⟨h2, h3, W, H, x, q, rfl, rfl, rfl, hW, hH, hn, hx, by clear hon2; omega, by clear hon2; omega, hp, h1, hon2⟩
    · rw [decide_eq_false g] at h2 h3
      exact .inl ⟨h2, h3⟩
  · exact .inl ⟨cuttable_not w h m c, l09Ok_not w h m c⟩
theorem rd_L2_at (pre suf : List (List Int)) (c : List Int) : rd_L2 (pre ++ c :: suf) (pre.length : Int) = c := by
  simp [rd_L2, List.getD_eq_getElem?_getD]
/-- The reference's cuts. -/
theorem all_from (W H x : Int) (P : List Int → Option (List Nat)) (L : List (List Int)) (hL : L.length ≤ 1000000000) (hc : ∀ c ∈ L, ∃ R : List Nat, Ev (fun k => spec_l09Pieces.f k W x c) (toI R) ∧ Ev (fun k => spec_l09Whole.f k W H (toI R)) (P c).isSome) :
    ∀ (suf pre out : List (List Int)), L = pre ++ suf → out.length ≤ pre.length → Ev (fun k => spec_l09All.l0 k W H x out L (L.length : Int) (pre.length : Int)) (out ++ suf.filter (fun c => (P c).isSome)) := by
  intro suf
  induction suf with
  | nil =>
    intro pre out h ho
    obtain rfl : L = pre := by simp [h]
    refine ev_shift ?_
    simp only [spec_l09All.l0]
    exact ev_neg (by omega) (ev_eq (ev_now _) (by simp))
  | cons c suf ih =>
    intro pre out h ho
    have hlen : L.length = pre.length + (suf.length + 1) := by subst h; simp
    have hr : rd_L2 L (pre.length : Int) = c := by subst h; exact rd_L2_at pre suf c
    obtain ⟨R, e1, e2⟩ := hc c (by subst h; simp)
    refine ev_shift ?_
    simp only [spec_l09All.l0]
    rw [hr]
    refine ev_pos (by omega) (ev_pos (by omega) (ev_pos (by omega) (ev_bind e1 (ev_bind e2 ?_))))
    rw [wsucc _ (by omega)]
    by_cases b : (P c).isSome = true
    · refine ev_pos b (ev_pos (by omega) ?_)
      have := ih (pre ++ [c]) (out ++ [c]) (by simp [h]) (by simp; omega)
      rw [List.filter_cons, if_pos b]
      simpa using this
    · refine ev_neg b ?_
      have := ih (pre ++ [c]) out (by simp [h]) (by simp; omega)
      rw [List.filter_cons, if_neg b]
      simpa using this
/-- The reference's list of cuts into p pieces. -/
def goods (P : List Int → Option (List Nat)) (n p : Nat) : List (List Int) := (fsts (fil p (ex n [] 0))).filter (fun c => (P c).isSome)
theorem all_ev (W H x n p : Nat) (P : List Int → Option (List Nat)) (h9 : n ≤ 9) (h1 : 1 ≤ p) (hp : p ≤ n) (ho : Ev (fun k => spec_l08Ones.f k (x : Int)) (n : Int))
    (hq : ∀ q, q ∈ ex n [] 0 → ∃ R : List Nat, Ev (fun k => spec_l09Pieces.f k W x q.1) (toI R) ∧ Ev (fun k => spec_l09Whole.f k W H (toI R)) (P q.1).isSome) :
    Ev (fun k => spec_l09All.f k W H x p) (goods P n p) := by
  unfold spec_l09All.f
  refine ev_bind ho (ev_bind (numbers_ev n p h9 h1 hp) ?_)
  have hlen : (fsts (fil p (ex n [] 0))).length ≤ 1000000000 := by
    have a := ex_len n [] 0 (by omega)
    have b : 10 ^ n ≤ 10 ^ 9 := Nat.pow_le_pow_right (by omega) h9
    have c : (fsts (fil p (ex n [] 0))).length ≤ (ex n [] 0).length := by
      simp only [fsts, List.length_map, fil]
      exact List.length_filter_le _ _
    have d : (10 : Nat) ^ 9 = 1000000000 := by decide
    omega
  have := all_from W H x P (fsts (fil p (ex n [] 0))) hlen (fun c hc => by
    simp only [fsts, List.mem_map] at hc
    obtain ⟨q, hq1, rfl⟩ := hc
    exact hq q (List.mem_filter.mp hq1).1) (fsts (fil p (ex n [] 0))) [] [] (by simp) (Nat.le_refl _)
  simpa [goods] using this
def gsel (P : List Int → Option (List Nat)) (p : Int) (L : List (List Int × Nat)) : List (List Int) := (L.filter (fun q => decide ((q.2 : Int) = p) && (P q.1).isSome)).map (·.1)
theorem goods_eq (P : List Int → Option (List Nat)) (n p : Nat) : goods P n p = gsel P p (ex n [] 0) := by
  unfold goods fsts fil gsel
  rw [List.filter_map, List.filter_filter]
  congr 1
  apply List.filter_congr
  intro q _
  simp only [Function.comp]
  rw [Bool.and_comm]
  congr 1
  exact decide_eq_decide.mpr (by omega)
theorem gsel_none (P : List Int → Option (List Nat)) (p : Int) (n : Nat) (n1 : 1 ≤ n) (g : ¬ (1 ≤ p ∧ p ≤ (n : Int))) : gsel P p (ex n [] 0) = [] := by
  unfold gsel
  have : (ex n [] 0).filter (fun q => decide ((q.2 : Int) = p) && (P q.1).isSome) = [] := by
    rw [List.filter_eq_nil_iff]
    intro q hq
    have a := ex_range n [] 0 q hq
    obtain ⟨d, rfl⟩ : ∃ d, n = d + 1 := ⟨n - 1, by omega⟩
    have b := ex_pos d [] 0 q hq
    have : ¬ ((q.2 : Int) = p) := by omega
    simp [this]
  rw [this]; rfl
theorem rd_at (l : List Int) (i : Nat) : rd l (i : Int) = l.getD i 0 := by simp [rd]
theorem eqIntS_from (l : List Int) (hl : (l.length : Int) ≤ 4611686018427387904) (d : Nat) : ∀ i : Int, 0 ≤ i → (l.length : Int) - i ≤ d → Ev (fun k => laws_eqIntS.l0 k l l i) true := by
  induction d with
  | zero =>
    intro i h0 hd
    refine ev_shift ?_
    simp only [laws_eqIntS.l0]
    exact ev_neg (by omega) (ev_now _)
  | succ d ih =>
    intro i h0 hd
    refine ev_shift ?_
    simp only [laws_eqIntS.l0, if_true]
    by_cases hi : i < (l.length : Int)
    · refine ev_pos hi (ev_pos h0 (ev_pos hi ?_))
      rw [w64 (by omega) (by omega)]
      exact ih _ (by omega) (by omega)
    · exact ev_neg hi (ev_now _)
theorem eqIntS_refl (l : List Int) (hl : (l.length : Int) ≤ 4611686018427387904) : Ev (fun k => laws_eqIntS.f k l l) true := by
  unfold laws_eqIntS.f
  exact ev_pos rfl (eqIntS_from l hl l.length 0 (by omega) (by omega))
theorem markIntS_from (n : Nat) (hn : (n : Int) ≤ 4611686018427387904) (d : Nat) : ∀ (l : List Int) (i : Nat), l.length = n → n - i ≤ d → i ≤ n → (∀ j, j < i → l.getD j 0 = 1 + j) →
    ∃ l', Ev (fun k => laws_markIntS.l0 k l (1 + i) i) (1 + (n : Int), l') ∧ l'.length = n ∧ ∀ j, j < n → l'.getD j 0 = 1 + j := by
  induction d with
  | zero =>
    intro l i hl hd hi hm
    refine ⟨l, ev_shift ?_, hl, fun j hj => hm j (by omega)⟩
    simp only [laws_markIntS.l0]
    obtain rfl : i = n := by omega
    exact ev_neg (by omega) (ev_now _)
  | succ d ih =>
    intro l i hl hd hi hm
    by_cases h : i < n
    · obtain ⟨l', hl', h1, h2⟩ := ih (l.set i (1 + i)) (i + 1) (by simpa using hl) (by omega) (by omega) (by
        intro j hj
        rw [List.getD_eq_getElem?_getD, List.getElem?_set]
        by_cases e : i = j
        · subst e; rw [if_pos rfl, if_pos (by omega)]; rfl
        · rw [if_neg e, ← List.getD_eq_getElem?_getD]; exact hm j (by omega))
      refine ⟨l', ev_shift ?_, h1, h2⟩
      simp only [laws_markIntS.l0]
      refine ev_pos (by omega) (ev_pos (by omega) ?_)
      rw [w64 (by omega) (by omega), w64 (by omega) (by omega)]
      have e1 : (1 + (i : Int) + 1) = 1 + ((i + 1 : Nat) : Int) := by omega
      have e2 : ((i : Int) + 1) = ((i + 1 : Nat) : Int) := by omega
      have e3 : ((i : Int)).toNat = i := by omega
      rw [e1, e2, e3]; exact hl'
    · obtain rfl : i = n := by omega
      refine ⟨l, ev_shift ?_, hl, fun j hj => hm j (by omega)⟩
      simp only [laws_markIntS.l0]
      exact ev_neg (by omega) (ev_now _)
theorem heldIntS_from (n : Nat) (hn : (n : Int) ≤ 4611686018427387904) (l : List Int) (hl : l.length = n) (hm : ∀ j, j < n → l.getD j 0 = 1 + j) (d : Nat) : ∀ i : Nat, i ≤ n → n - i ≤ d →
    Ev (fun k => laws_heldIntS.l0 k l (1 + i) i) (1 + (n : Int)) := by
  induction d with
  | zero =>
    intro i hi hd
    refine ev_shift ?_
    simp only [laws_heldIntS.l0]
    obtain rfl : i = n := by omega
    exact ev_neg (by omega) (ev_now _)
  | succ d ih =>
    intro i hi hd
    refine ev_shift ?_
    simp only [laws_heldIntS.l0]
    by_cases h : i < n
    · refine ev_pos (by omega) (ev_pos (by omega) (ev_pos (by rw [rd_at]; exact hm i h) ?_))
      rw [w64 (by omega) (by omega), w64 (by omega) (by omega)]
      have e1 : (1 + (i : Int) + 1) = 1 + ((i + 1 : Nat) : Int) := by omega
      have e2 : ((i : Int) + 1) = ((i + 1 : Nat) : Int) := by omega
      rw [e1, e2]; exact ih (i + 1) (by omega) (by omega)
    · obtain rfl : i = n := by omega
      exact ev_neg (by omega) (ev_now _)
theorem markIntS_ev (l : List Int) (hl : (l.length : Int) ≤ 4611686018427387904) :
    ∃ l', Ev (fun k => laws_markIntS.f k l 1) (1 + (l.length : Int), l') ∧ Ev (fun k => laws_heldIntS.f k l' 1) (1 + (l.length : Int)) := by
  obtain ⟨l', h1, h2, h3⟩ := markIntS_from l.length hl l.length l 0 rfl (by omega) (by omega) (fun j hj => by omega)
  exact ⟨l', h1, heldIntS_from l.length hl l' h2 h3 l.length 0 (by omega) (by omega)⟩
theorem rdp_mid (pre suf : List S51) (a : S51) : rd_T51 (pre ++ a :: suf) (pre.length : Int) = a := by
  simp [rd_T51, List.getD_eq_getElem?_getD]
/-- Sums over the numbers below n. -/
def sm : Nat → (Nat → Nat) → Nat
  | 0, _ => 0
  | n + 1, f => sm n f + f n
theorem sm_cong (n : Nat) (f g : Nat → Nat) (h : ∀ i, i < n → f i = g i) : sm n f = sm n g := by
  induction n with
  | zero => rfl
  | succ n ih => simp only [sm]; rw [ih (fun i hi => h i (by omega)), h n (by omega)]
theorem sm_zero (n : Nat) : sm n (fun _ => 0) = 0 := by
  induction n with
  | zero => rfl
  | succ n ih => simp only [sm]; rw [ih]
theorem sm_add (n : Nat) (f g : Nat → Nat) : sm n (fun i => f i + g i) = sm n f + sm n g := by
  induction n with
  | zero => rfl
  | succ n ih => simp only [sm]; rw [ih]; omega
theorem sm_swap (n m : Nat) (g : Nat → Nat → Nat) : sm n (fun i => sm m (fun j => g i j)) = sm m (fun j => sm n (fun i => g i j)) := by
  induction n with
  | zero => simp only [sm]; exact (sm_zero m).symm
  | succ n ih => simp only [sm]; rw [ih, sm_add]
/-- All pairs are the pairs in order, taken both ways, if none counts with itself. -/
theorem sm_tri (n : Nat) (g : Nat → Nat → Nat) (hd : ∀ c, g c c = 0) : sm n (fun c => sm n (fun d => g c d)) = sm n (fun c => sm n (fun d => if c < d then g c d + g d c else 0)) := by
  have e1 : ∀ c d, g c d = (if c < d then g c d else 0) + (if d < c then g c d else 0) := by
    intro c d
    by_cases h1 : c < d
    · rw [if_pos h1, if_neg (by omega)]; omega
    · by_cases h2 : d < c
      · rw [if_neg h1, if_pos h2]; omega
      · have : c = d := by omega
        subst this
        rw [if_neg h1, hd]
  have e2 : ∀ c d, (if c < d then g c d + g d c else 0) = (if c < d then g c d else 0) + (if c < d then g d c else 0) := by
    intro c d; split <;> omega
  have a1 : sm n (fun c => sm n (fun d => g c d)) = sm n (fun c => sm n (fun d => if c < d then g c d else 0)) + sm n (fun c => sm n (fun d => if d < c then g c d else 0)) := by
    rw [← sm_add]
    refine sm_cong _ _ _ fun c _ => ?_
    rw [← sm_add]
    exact sm_cong _ _ _ fun d _ => e1 c d
  have a2 : sm n (fun c => sm n (fun d => if c < d then g c d + g d c else 0)) = sm n (fun c => sm n (fun d => if c < d then g c d else 0)) + sm n (fun c => sm n (fun d => if c < d then g d c else 0)) := by
    rw [← sm_add]
    refine sm_cong _ _ _ fun c _ => ?_
    rw [← sm_add]
    exact sm_cong _ _ _ fun d _ => e2 c d
  rw [a1, a2, sm_swap n n (fun c d => if d < c then g c d else 0)]
/-- How often d lies in a list of masks. -/
def cin : List Nat → Nat → Nat
  | [], _ => 0
  | q :: P, d => (if q.testBit d then 1 else 0) + cin P d
/-- How often c lies in a mask ahead of one of d's. -/
def ordP : List Nat → Nat → Nat → Nat
  | [], _, _ => 0
  | p :: P, c, d => (if p.testBit c then cin P d else 0) + ordP P c d
theorem cin_lab (f : Nat → Int) (d : Nat) : ∀ (P : List Nat) (off : Int), (∀ i, i < P.length → (P.getD i 0).testBit d = decide (f d = off + i)) → f d < off + P.length → cin P d = if off ≤ f d then 1 else 0 := by
  intro P
  induction P with
  | nil => intro off _ h; simp at h; rw [if_neg (by omega)]; rfl
  | cons p P ih =>
    intro off h hb
    have h0 := h 0 (by simp)
    simp at h0
    have hi := ih (off + 1) (fun i hi => by have := h (i + 1) (by simpa using hi); simp at this; rw [List.getD_eq_getElem?_getD, this]; congr 1; apply propext; omega) (by simp at hb; omega)
    simp only [cin]
    rw [h0, hi]
    by_cases c : f d = off
    · simp [c]; omega
    · simp [c]; split <;> split <;> omega
theorem ord_lab (f : Nat → Int) (c d : Nat) : ∀ (P : List Nat) (off : Int), (∀ i, i < P.length → ∀ z, (P.getD i 0).testBit z = decide (f z = off + i)) → f d < off + P.length → ordP P c d = if off ≤ f c ∧ f c < f d then 1 else 0 := by
  intro P
  induction P with
  | nil => intro off _ h; simp at h; rw [if_neg (by omega)]; rfl
  | cons p P ih =>
    intro off h hb
    have h0 := h 0 (by simp) c
    simp at h0
    have ht : ∀ i, i < P.length → ∀ z, (P.getD i 0).testBit z = decide (f z = (off + 1) + i) := fun i hi z => by have := h (i + 1) (by simpa using hi) z; simp at this; rw [List.getD_eq_getElem?_getD, this]; congr 1; apply propext; omega
    have hb' : f d < off + 1 + P.length := by simp at hb; omega
    have hi := ih (off + 1) ht hb'
    have hc := cin_lab f d P (off + 1) (fun i hi => ht i hi d) hb'
    simp only [ordP]
    rw [h0, hi, hc]
    by_cases e : f c = off
    · rw [decide_eq_true e, if_pos rfl]
      by_cases g : off + 1 ≤ f d
      · rw [if_pos g, if_neg (by omega), if_pos (by omega)]
      · rw [if_neg g, if_neg (by omega), if_neg (by omega)]
    · rw [decide_eq_false e, if_neg (by decide)]
      by_cases g : off + 1 ≤ f c ∧ f c < f d
      · rw [if_pos g, if_pos (by omega)]
      · rw [if_neg g, if_neg (by omega)]
theorem sm_front (n : Nat) (f : Nat → Nat) : sm (n + 1) f = f 0 + sm n (fun i => f (i + 1)) := by
  induction n with
  | zero => simp [sm]
  | succ n ih => rw [sm, ih]; simp only [sm]; omega
theorem sm_le (n b : Nat) (f : Nat → Nat) (h : ∀ i, f i ≤ b) : sm n f ≤ n * b := by
  induction n with
  | zero => simp [sm]
  | succ n ih => simp only [sm]; have := h n; rw [Nat.succ_mul]; omega
/-- The sum over a list. -/
def sl : List Nat → (Nat → Nat) → Nat
  | [], _ => 0
  | a :: l, f => f a + sl l f
theorem cl_sl (x d : Nat) : ∀ (i : Nat) (f : Nat → Nat), sl (cl x i d) f = sm d (fun t => if x.testBit (i + t) = true then f (i + t) else 0) := by
  induction d with
  | zero => intro i f; rfl
  | succ d ih =>
    intro i f
    rw [sm_front]
    have e : ∀ t, i + (t + 1) = i + 1 + t := fun t => by omega
    rw [sm_cong d _ (fun t => if x.testBit (i + 1 + t) = true then f (i + 1 + t) else 0) (fun t _ => by rw [e t])]
    simp only [cl]
    show _ = (if x.testBit i = true then f i else 0) + _
    by_cases b : x.testBit i = true
    · rw [if_pos b, if_pos b]; simp only [sl]; rw [ih]
    · rw [if_neg b, if_neg b, ih, Nat.zero_add]
theorem sm_pick (n a : Nat) (v : Nat) (ha : a < n) : sm n (fun d => if d = a then v else 0) = v := by
  induction n with
  | zero => omega
  | succ n ih =>
    simp only [sm]
    by_cases e : n = a
    · rw [if_pos e]
      have : sm n (fun d => if d = a then v else 0) = 0 := by
        rw [sm_cong n _ (fun _ => 0) (fun d hd => if_neg (by omega)), sm_zero]
      omega
    · rw [if_neg e, ih (by omega)]; omega
theorem sl_sm (n : Nat) (f : Nat → Nat) : ∀ l : List Nat, l.Nodup → (∀ a ∈ l, a < n) → sl l f = sm n (fun d => if d ∈ l then f d else 0) := by
  intro l
  induction l with
  | nil => intro _ _; simp [sl, sm_zero]
  | cons a l ih =>
    intro hd hb
    obtain ⟨h1, h2⟩ := List.nodup_cons.mp hd
    have hi := ih h2 (fun b hb' => hb b (by simp [hb']))
    simp only [sl]
    have e : sm n (fun d => if d ∈ a :: l then f d else 0) = sm n (fun d => (if d = a then f a else 0) + (if d ∈ l then f d else 0)) := by
      refine sm_cong _ _ _ fun d _ => ?_
      by_cases c : d = a
      · subst c; simp [h1]
      · simp [c]
    rw [e, sm_add, sm_pick n a (f a) (hb a (by simp)), hi]
theorem nb_sym {W H i j : Nat} (hW : 1 ≤ W) (hi : i < W * H) (h : j ∈ nb W H i) : i ∈ nb W H j := by
  have hd : W * (i / W) + i % W = i := Nat.div_add_mod i W
  have hm : i % W < W := Nat.mod_lt _ hW
  have hq : i / W < H := (Nat.div_lt_iff_lt_mul hW).mpr (by rw [Nat.mul_comm]; exact hi)
  have h' := (nb_mem W H i j).mp h
  clear h hi
  generalize i / W = Q at *
  generalize i % W = R at *
  subst hd
  have dm : ∀ Q' R' : Nat, R' < W → (W * Q' + R') / W = Q' ∧ (W * Q' + R') % W = R' := fun Q' R' hr =>
    ⟨by rw [Nat.mul_add_div hW, Nat.div_eq_of_lt hr]; rfl, by rw [Nat.mul_add_mod]; exact Nat.mod_eq_of_lt hr⟩
  rw [nb_mem]
  rcases h' with ⟨c, rfl⟩ | ⟨c, rfl⟩ | ⟨c, rfl⟩ | ⟨c, rfl⟩
  · obtain ⟨P, rfl⟩ : ∃ P, Q = P + 1 := ⟨Q - 1, by omega⟩
    have e : W * (P + 1) + R - W = W * P + R := by rw [Nat.mul_succ]; omega
    rw [e, (dm P R hm).1]
    right; right; right
    exact ⟨hq, by rw [Nat.mul_succ]; omega⟩
  · have e : W * Q + R - 1 = W * Q + (R - 1) := by omega
    rw [e, (dm Q (R - 1) (by omega)).2]
    right; right; left
    exact ⟨by omega, by omega⟩
  · have e : W * Q + R + 1 = W * Q + (R + 1) := by omega
    rw [e, (dm Q (R + 1) c).2]
    right; left
    exact ⟨by omega, by omega⟩
  · have e : W * Q + R + W = W * (Q + 1) + R := by rw [Nat.mul_succ]; omega
    rw [e, (dm (Q + 1) R hm).1]
    left
    exact ⟨by omega, by rw [Nat.mul_succ]; omega⟩
theorem nb_nodup (W H i : Nat) (hW : 1 ≤ W) : (nb W H i).Nodup := by
  have hd : W * (i / W) + i % W = i := Nat.div_add_mod i W
  have hm : i % W < W := Nat.mod_lt _ hW
  have hq : 0 < i / W → W ≤ W * (i / W) := fun c => Nat.le_mul_of_pos_right W c
  unfold nb
  generalize i / W = Q at *
  generalize i % W = R at *
  generalize W * Q = z at *
  have hz : 0 < Q ∨ Q = 0 := by omega
  rcases hz with c1 | c1
  · have := hq c1
    by_cases c2 : 0 < R <;> by_cases c3 : R + 1 < W <;> by_cases c4 : Q + 1 < H <;> simp only [c1, c2, c3, c4, if_true, if_false, List.nil_append, List.append_nil, List.cons_append, List.nodup_cons, List.mem_cons, List.not_mem_nil, or_false, not_or] <;> simp <;> omega
  · subst c1
    by_cases c2 : 0 < R <;> by_cases c3 : R + 1 < W <;> by_cases c4 : 0 + 1 < H <;> simp only [c2, c3, c4, if_true, if_false, List.nil_append, List.append_nil, List.cons_append, List.nodup_cons, List.mem_cons, List.not_mem_nil, or_false, not_or, Nat.lt_irrefl] <;> simp <;> omega
/-- The pairs of neighbors in two of the masks, as the reference counts them. -/
def specS (W H N : Nat) : List Nat → Nat
  | [] => 0
  | p :: P => sl P (fun q => sl (cl p 0 N) (fun c => sl (nb W H c) (fun d => if q.testBit d = true then 1 else 0))) + specS W H N P
theorem nb_sl (W H c : Nat) (hW : 1 ≤ W) (hc : c < W * H) (f : Nat → Nat) : sl (nb W H c) f = sm (W * H) (fun d => if d ∈ nb W H c then f d else 0) :=
  sl_sm _ f _ (nb_nodup W H c hW) (fun d hd => nb_in W H c d hW hc hd)
theorem spec_inner (W H : Nat) (hW : 1 ≤ W) (p : Nat) : ∀ P : List Nat, sl P (fun q => sl (cl p 0 (W * H)) (fun c => sl (nb W H c) (fun d => if q.testBit d = true then 1 else 0))) =
    sm (W * H) (fun c => sm (W * H) (fun d => if d ∈ nb W H c then (if p.testBit c = true then cin P d else 0) else 0)) := by
  intro P
  induction P with
  | nil =>
    simp only [sl, cin]
    rw [sm_cong _ _ (fun _ => 0) (fun c _ => ?_), sm_zero]
    rw [sm_cong _ _ (fun _ => 0) (fun d _ => ?_), sm_zero]
    simp
  | cons q P ih =>
    simp only [sl]
    rw [ih, cl_sl, ← sm_add]
    refine sm_cong _ _ _ fun c hc => ?_
    rw [Nat.zero_add]
    by_cases b : p.testBit c = true
    · rw [if_pos b, nb_sl W H c hW hc, ← sm_add]
      refine sm_cong _ _ _ fun d _ => ?_
      simp only [cin, if_pos b]
      split <;> rfl
    · rw [if_neg b, Nat.zero_add]
      refine sm_cong _ _ _ fun d _ => ?_
      rw [if_neg b, if_neg b]
theorem specS_sm (W H : Nat) (hW : 1 ≤ W) : ∀ P : List Nat, specS W H (W * H) P = sm (W * H) (fun c => sm (W * H) (fun d => if d ∈ nb W H c then ordP P c d else 0)) := by
  intro P
  induction P with
  | nil =>
    simp only [specS, ordP]
    rw [sm_cong _ _ (fun _ => 0) (fun c _ => ?_), sm_zero]
    rw [sm_cong _ _ (fun _ => 0) (fun d _ => ?_), sm_zero]
    simp
  | cons p P ih =>
    simp only [specS]
    rw [ih, spec_inner W H hW p P, ← sm_add]
    refine sm_cong _ _ _ fun c _ => ?_
    rw [← sm_add]
    refine sm_cong _ _ _ fun d _ => ?_
    simp only [ordP]
    split <;> rfl
/-- The number of a cell; -1 if it has none. -/
def lab : List Nat → List Int → Nat → Int
  | c :: cs, n :: ns, d => if c = d then n else lab cs ns d
  | _, _, _ => -1
/-- The pairs of neighbors of different numbers, as the program counts them. -/
def wI (x : Nat) (f : Nat → Int) (c d : Nat) : Nat := if x.testBit d = true ∧ c < d ∧ f c ≠ f d then 1 else 0
theorem step_at (out : List Nat) (n c p : Nat) (h : n ≤ out.length) (d : Nat) : ((stepO out n c).getD p 0).testBit d = ((out.getD p 0).testBit d || (decide (p = n) && decide (c = d))) := by
  unfold stepO
  by_cases e : n = out.length
  · rw [if_pos e]
    rw [List.getD_eq_getElem?_getD, List.getD_eq_getElem?_getD, List.getElem?_append]
    by_cases l : p < out.length
    · rw [if_pos l]
      have : ¬ p = n := by omega
      simp [this]
    · rw [if_neg l]
      by_cases g : p = n
      · have g2 : p - out.length = 0 := by omega
        rw [g2, List.getElem?_eq_none (Nat.le_of_not_lt l)]
        simp [g, Nat.testBit_two_pow]
      · have g2 : ∃ z, p - out.length = z + 1 := ⟨p - out.length - 1, by omega⟩
        obtain ⟨z, hz⟩ := g2
        rw [hz, List.getElem?_eq_none (Nat.le_of_not_lt l)]
        simp [g]
  · rw [if_neg e]
    rw [List.getD_eq_getElem?_getD, List.getElem?_set]
    by_cases g : n = p
    · subst g
      rw [if_pos rfl, if_pos (by omega)]
      simp [Nat.testBit_or, Nat.testBit_two_pow]
    · have : ¬ p = n := fun q => g q.symm
      rw [if_neg g, ← List.getD_eq_getElem?_getD]
      simp [this]
theorem lab_none (cs : List Nat) : ∀ (suf : List Int) (d : Nat), d ∉ cs → lab cs suf d = -1 := by
  induction cs with
  | nil => intro suf d _; rfl
  | cons c cs ih =>
    intro suf d h
    cases suf with
    | nil => rfl
    | cons n ns =>
      simp only [lab]
      rw [if_neg (fun e => h (by simp [e])), ih ns d (fun e => h (by simp [e]))]
theorem asc_not {N lo c : Nat} {cs : List Nat} (h : asc N lo cs) (hc : c < lo) : c ∉ cs := by
  induction cs generalizing lo with
  | nil => simp
  | cons a cs ih =>
    obtain ⟨h1, _, h3⟩ := h
    intro m
    rcases List.mem_cons.mp m with e | e
    · omega
    · exact ih h3 (by omega) e
theorem run_lab (N : Nat) : ∀ (suf : List Int) (cs out : List Nat) (lo : Nat) (R : List Nat), asc N lo cs → suf.length = cs.length → run suf cs out = some R →
    out.length ≤ R.length ∧ (∀ p d : Nat, (R.getD p 0).testBit d = ((out.getD p 0).testBit d || decide (lab cs suf d = p))) ∧ (∀ d, lab cs suf d < R.length) ∧ ∀ d, d ∈ cs → 0 ≤ lab cs suf d := by
  intro suf
  induction suf with
  | nil =>
    intro cs out lo R ha hl h
    cases cs with
    | nil =>
      simp only [run] at h; cases h
      refine ⟨Nat.le_refl _, fun p d => ?_, fun d => ?_, fun d hd => by simp at hd⟩
      · simp only [lab]
        have : ¬ (-1 : Int) = (p : Int) := by omega
        simp [this]
      · simp only [lab]; omega
    | cons c cs => simp at hl
  | cons n ns ih =>
    intro cs out lo R ha hl h
    cases cs with
    | nil => simp at hl
    | cons c cs =>
      obtain ⟨h1, h2, h3⟩ := ha
      simp only [run] at h
      by_cases b : n < 0 ∨ (out.length : Int) < n
      · rw [if_pos b] at h; cases h
      · rw [if_neg b] at h
        obtain ⟨m, rfl⟩ := Int.eq_ofNat_of_zero_le (show 0 ≤ n by omega)
        rw [Int.toNat_natCast] at h
        have hm : m ≤ out.length := by omega
        have hs := step_len out m c hm
        obtain ⟨g0, g1, g2, g3⟩ := ih cs (stepO out m c) (c + 1) R h3 (by simpa using hl) h
        have hmR : m < R.length := by split at hs <;> omega
        refine ⟨by split at hs <;> omega, fun p d => ?_, fun d => ?_, fun d hd => ?_⟩
        · rw [g1 p d, step_at out m c p hm d]
          have hlab : lab (c :: cs) ((m : Int) :: ns) d = if c = d then (m : Int) else lab cs ns d := rfl
          simp only [hlab]
          by_cases e : c = d
          · subst e
            simp only [if_pos rfl, lab_none cs ns c (asc_not h3 (by omega))]
            have z1 : ¬ (-1 : Int) = (p : Int) := by omega
            by_cases e2 : p = m
            · subst e2; simp
            · have z2 : ¬ ((m : Int) = (p : Int)) := by omega
              simp [z1, z2, e2]
          · simp only [if_neg e]; simp [e]
        · simp only [lab]
          by_cases e : c = d
          · rw [if_pos e]; omega
          · rw [if_neg e]; exact g2 d
        · simp only [lab]
          by_cases e : c = d
          · rw [if_pos e]; omega
          · rw [if_neg e]
            exact g3 d (by rcases List.mem_cons.mp hd with q | q; exact absurd q.symm e; exact q)
/-- Both counts are the same. -/
theorem lengths_eq (W H x : Nat) (hW : 1 ≤ W) (cut : List Int) (R : List Nat) (hl : cut.length = (cl x 0 (W * H)).length) (hr : run cut (cl x 0 (W * H)) [] = some R) :
    specS W H (W * H) R = sl (cl x 0 (W * H)) (fun c => sl (nb W H c) (fun d => wI x (lab (cl x 0 (W * H)) cut) c d)) ∧ specS W H (W * H) R ≤ (W * H) * ((W * H) * 1) := by
  have ha := cl_asc x (W * H) (W * H) 0 (by omega)
  obtain ⟨_, r1, r2, r3⟩ := run_lab (W * H) cut (cl x 0 (W * H)) [] 0 R ha hl hr
  generalize hf : lab (cl x 0 (W * H)) cut = f at *
  have hmem : ∀ c, c < W * H → (x.testBit c = true ↔ 0 ≤ f c) := by
    intro c hc
    have := cl_mem x (W * H) 0 c
    constructor
    · intro hb; exact r3 c (this.mpr ⟨by omega, by omega, hb⟩)
    · intro hb
      apply Classical.byContradiction
      intro hn
      have hni : c ∉ cl x 0 (W * H) := fun q => hn (this.mp q).2.2
      have := lab_none (cl x 0 (W * H)) cut c hni
      rw [hf] at this
      omega
  have ho : ∀ c d, ordP R c d = if 0 ≤ f c ∧ f c < f d then 1 else 0 := by
    intro c d
    refine ord_lab f c d R 0 (fun i hi z => ?_) (by have := r2 d; omega)
    rw [r1 i z]
    simp
  rw [specS_sm W H hW R, cl_sl]
  have e1 : sm (W * H) (fun c => sm (W * H) (fun d => if d ∈ nb W H c then ordP R c d else 0)) = sm (W * H) (fun c => sm (W * H) (fun d => if d ∈ nb W H c then (if 0 ≤ f c ∧ f c < f d then 1 else 0) else 0)) :=
    sm_cong _ _ _ fun c _ => sm_cong _ _ _ fun d _ => by rw [ho]
  refine ⟨?_, ?_⟩
  · rw [e1, sm_tri (W * H) (fun c d => if d ∈ nb W H c then (if 0 ≤ f c ∧ f c < f d then 1 else 0) else 0) (fun c => by
      by_cases q : c ∈ nb W H c
      · rw [if_pos q, if_neg (by omega)]
      · rw [if_neg q])]
    refine sm_cong _ _ _ fun c hc => ?_
    rw [Nat.zero_add]
    by_cases b : x.testBit c = true
    · rw [if_pos b, nb_sl W H c hW hc]
      refine sm_cong _ _ _ fun d hd => ?_
      have s1 : d ∈ nb W H c ↔ c ∈ nb W H d := ⟨nb_sym hW hc, nb_sym hW hd⟩
      have m1 := (hmem c hc).mp b
      have m2 := hmem d hd
      unfold wI
      by_cases q : d ∈ nb W H c
      · simp only [if_pos q, if_pos (s1.mp q)]
        by_cases l : c < d
        · rw [if_pos l]
          by_cases b2 : x.testBit d = true
          · have := m2.mp b2
            by_cases e : f c = f d
            · rw [if_neg (by omega), if_neg (by omega), if_neg (fun z => z.2.2 e)]
            · rw [if_pos (⟨b2, l, e⟩ : x.testBit d = true ∧ c < d ∧ f c ≠ f d)]
              by_cases o : f c < f d
              · rw [if_pos ⟨m1, o⟩, if_neg (by omega)]
              · rw [if_neg (by omega), if_pos ⟨this, by omega⟩]
          · have : ¬ 0 ≤ f d := fun z => b2 (m2.mpr z)
            rw [if_neg (by omega), if_neg (by omega), if_neg (fun z => b2 z.1)]
        · rw [if_neg l, if_neg (fun z => l z.2.1)]
      · simp only [if_neg q, if_neg (fun z => q (s1.mpr z))]
        split <;> rfl
    · rw [if_neg b]
      have m1 : ¬ 0 ≤ f c := fun z => b ((hmem c hc).mpr z)
      rw [sm_cong _ _ (fun _ => 0) (fun d hd => ?_), sm_zero]
      by_cases l : c < d
      · rw [if_pos l, if_neg (by omega : ¬ (0 ≤ f c ∧ f c < f d)), if_neg (by omega : ¬ (0 ≤ f d ∧ f d < f c))]
        split <;> split <;> rfl
      · rw [if_neg l]
  · rw [e1]
    refine sm_le _ _ _ fun c => sm_le _ _ _ fun d => ?_
    split
    · split <;> omega
    · omega
theorem idx_from (C : List Nat) (d : Nat) (hC : C.length ≤ 36) : ∀ (suf pre : List Nat), C = pre ++ suf → d ∉ pre →
    ∃ z : Int, Ev (fun k => slices_Index_int_int.l0 k (toI C) (d : Int) (C.length : Int) (pre.length : Int)) z ∧ ((z = -1 ∧ d ∉ C) ∨ ∃ pc cs, C = pc ++ d :: cs ∧ z = (pc.length : Int)) := by
  intro suf
  induction suf with
  | nil =>
    intro pre hp hd
    have hlp : C.length = pre.length := by rw [hp]; simp
    refine ⟨-1, ev_shift ?_, .inl ⟨rfl, by rw [hp]; simpa using hd⟩⟩
    simp only [slices_Index_int_int.l0]
    exact ev_neg (by omega) (ev_now _)
  | cons a suf ih =>
    intro pre hp hd
    have hlp : C.length = pre.length + suf.length + 1 := by rw [hp]; simp; omega
    have hat : rd (toI C) (pre.length : Int) = (a : Int) := by rw [rd_toI, hp, getD_mid]
    have c3 : (pre.length : Int) < ((toI C).length : Int) := by rw [toI_len]; omega
    by_cases e : d = a
    · subst e
      refine ⟨pre.length, ev_shift ?_, .inr ⟨pre, suf, hp, rfl⟩⟩
      simp only [slices_Index_int_int.l0]
      rw [hat]
      exact ev_pos (by omega) (ev_pos (by omega) (ev_pos c3 (ev_pos rfl (ev_now _))))
    · obtain ⟨z, h1, h2⟩ := ih (pre ++ [a]) (by rw [hp]; simp) (by simp; exact ⟨hd, e⟩)
      have hpl : ((pre ++ [a]).length : Int) = ((pre.length + 1 : Nat) : Int) := by simp
      rw [hpl] at h1
      have hnx := wsucc pre.length (by omega)
      refine ⟨z, ev_shift ?_, h2⟩
      simp only [slices_Index_int_int.l0]
      rw [hat, hnx]
      clear hnx
      exact ev_pos (by omega) (ev_pos (by omega) (ev_pos c3 (ev_neg (by omega) h1)))
theorem idx_ev (C : List Nat) (d : Nat) (hC : C.length ≤ 36) : ∃ z : Int, Ev (fun k => slices_Index_int_int.f k (toI C) (d : Int)) z ∧ ((z = -1 ∧ d ∉ C) ∨ ∃ pc cs, C = pc ++ d :: cs ∧ z = (pc.length : Int)) := by
  obtain ⟨z, h1, h2⟩ := idx_from C d hC C [] rfl (by simp)
  refine ⟨z, ?_, h2⟩
  unfold slices_Index_int_int.f
  rw [toI_len]
  exact h1
theorem cellAt_ix (W c : Nat) (hW : 1 ≤ W ∧ W ≤ 6) (hc : c < 100) : wrap64 (wrap64 ((cellAt W c).f1 * (W : Int)) + (cellAt W c).f0) = (c : Int) := by
  unfold cellAt
  show wrap64 (wrap64 (((c / W : Nat) : Int) * (W : Int)) + ((c % W : Nat) : Int)) = (c : Int)
  exact cell_back W c hW hc
theorem toI_drop (l : List Nat) (n : Nat) : (toI l).drop n = toI (l.drop n) := by simp [toI, List.map_drop]
theorem asc_get {N : Nat} : ∀ (l : List Nat) (lo : Nat), asc N lo l → ∀ j, j < l.length → lo ≤ l.getD j 0 ∧ ∀ i, i < j → l.getD i 0 < l.getD j 0 := by
  intro l
  induction l with
  | nil => intro lo _ j hj; simp at hj
  | cons a l ih =>
    intro lo h j hj
    obtain ⟨h1, h2, h3⟩ := h
    cases j with
    | zero => exact ⟨by simpa using h1, fun i hi => by omega⟩
    | succ j =>
      obtain ⟨g1, g2⟩ := ih (a + 1) h3 j (by simpa using hj)
      have e : (a :: l).getD (j + 1) 0 = l.getD j 0 := by simp
      rw [e]
      refine ⟨by omega, fun i hi => ?_⟩
      cases i with
      | zero => simp; simp at g1; omega
      | succ i =>
        have e2 : (a :: l).getD (i + 1) 0 = l.getD i 0 := by simp
        rw [e2]; exact g2 i (by omega)
theorem asc_order {N lo : Nat} {C pc cs pd ds : List Nat} {c d : Nat} (ha : asc N lo C) (h1 : C = pc ++ c :: cs) (h2 : C = pd ++ d :: ds) : pc.length < pd.length ↔ c < d := by
  have l1 : pc.length < C.length := by rw [h1]; simp
  have l2 : pd.length < C.length := by rw [h2]; simp
  have e1 : C.getD pc.length 0 = c := by rw [h1, getD_mid]
  have e2 : C.getD pd.length 0 = d := by rw [h2, getD_mid]
  constructor
  · intro h
    have := (asc_get C lo ha pd.length l2).2 pc.length h
    omega
  · intro h
    apply Classical.byContradiction
    intro hn
    by_cases e : pc.length = pd.length
    · rw [e] at e1; omega
    · have := (asc_get C lo ha pc.length l1).2 pd.length (by omega)
      omega
theorem lab_at {N : Nat} (d : Nat) (cs : List Nat) : ∀ (pc : List Nat) (lo : Nat) (cut : List Int), asc N lo (pc ++ d :: cs) → cut.length = (pc ++ d :: cs).length → lab (pc ++ d :: cs) cut d = cut.getD pc.length 0 := by
  intro pc
  induction pc with
  | nil =>
    intro lo cut _ hl
    cases cut with
    | nil => simp at hl
    | cons n ns => simp [lab]
  | cons p pc ih =>
    intro lo cut ha hl
    cases cut with
    | nil => simp at hl
    | cons n ns =>
      obtain ⟨h1, h2, h3⟩ := ha
      have hne : ¬ p = d := by
        intro e
        subst e
        exact asc_not (c := p) (cs := pc ++ p :: cs) h3 (Nat.lt_succ_self p) (by simp)
      have e : lab ((p :: pc) ++ d :: cs) (n :: ns) d = if p = d then n else lab (pc ++ d :: cs) ns d := rfl
      rw [e, if_neg hne, ih (p + 1) ns h3 (by simpa using hl)]
      simp
theorem impl_len1 (W H : Int) (x : Nat) (cut : List Int) (C : List Nat) (hC : C.length ≤ 36) (hlen : cut.length = C.length) (lo : Nat) (ha : asc 36 lo C) (pc cs : List Nat) (c : Nat) (hc : C = pc ++ c :: cs) (L : List Nat) (hL : L.length ≤ 36) (hm : ∀ d ∈ L, (d ∈ C ↔ x.testBit d = true)) (r : Int) :
    ∀ (suf pre : List Nat) (all : Nat), L = pre ++ suf → all + sl suf (wI x (lab C cut) c) ≤ 1000000 →
    Ev (fun k => impl_cutLength.l0 k W H cut (toI C) ((all + sl suf (wI x (lab C cut) c) : Nat) : Int) (toI C) (C.length : Int) (wrap64 ((pc.length : Int) + 1))) r →
    Ev (fun k => impl_cutLength.l1 k W H cut (toI C) (all : Int) (pc.length : Int) (toI C) (C.length : Int) (pc.length : Int) (toI L) (L.length : Int) (pre.length : Int)) r := by
  intro suf
  induction suf with
  | nil =>
    intro pre all hp hb hr
    have hlp : L.length = pre.length := by rw [hp]; simp
    refine ev_shift ?_
    simp only [impl_cutLength.l1]
    exact ev_neg (by omega) hr
  | cons d suf ih =>
    intro pre all hp hb hr
    have hlp : L.length = pre.length + suf.length + 1 := by rw [hp]; simp; omega
    have hat : rd (toI L) (pre.length : Int) = (d : Int) := by rw [rd_toI, hp, getD_mid]
    have c3 : (pre.length : Int) < ((toI L).length : Int) := by rw [toI_len]; omega
    have c1 : (pre.length : Int) < (L.length : Int) := by omega
    have hpl : ((pre ++ [d]).length : Int) = ((pre.length + 1 : Nat) : Int) := by simp
    have hnx := wsucc pre.length (by omega)
    obtain ⟨z, h1, h2⟩ := idx_ev C d hC
    have hmd := hm d (by rw [hp]; simp)
    have hpc : pc.length < cut.length := by rw [hlen, hc]; simp
    have hpci : (pc.length : Int) < (cut.length : Int) := by clear hnx; omega
    have hcat : lab C cut c = cut.getD pc.length 0 := by
      rw [hc] at ha hlen ⊢
      exact lab_at c cs pc lo cut ha hlen
    have hnext := ih (pre ++ [d])
    rw [hpl] at hnext
    simp only [sl] at hb hr
    refine ev_shift ?_
    simp only [impl_cutLength.l1]
    rw [hat, hnx]
    refine ev_pos c1 (ev_pos (Int.natCast_nonneg _) (ev_pos c3 (ev_bind h1 ?_)))
    rcases h2 with ⟨rfl, hni⟩ | ⟨pd, ds, hd, rfl⟩
    · have w0 : wI x (lab C cut) c d = 0 := by
        unfold wI
        exact if_neg (fun q => hni (hmd.mpr q.1))
      rw [w0, Nat.zero_add] at hr hb
      exact ev_neg (by clear hnx; omega) (hnext all (by rw [hp]; simp) hb hr)
    · have hpd : pd.length < cut.length := by rw [hlen, hd]; simp
      have hpdi : (pd.length : Int) < (cut.length : Int) := by clear hnx; omega
      have hdat : lab C cut d = cut.getD pd.length 0 := by
        rw [hd] at ha hlen ⊢
        exact lab_at d ds pd lo cut ha hlen
      have hb2 : x.testBit d = true := hmd.mp (by rw [hd]; simp)
      have hord := asc_order ha hc hd
      have r1 : rd cut (pd.length : Int) = lab C cut d := by rw [hdat, rd_at]
      have r2 : rd cut (pc.length : Int) = lab C cut c := by rw [hcat, rd_at]
      by_cases o : pc.length < pd.length
      · refine ev_pos (by clear hnx; omega) (ev_pos (Int.natCast_nonneg _) (ev_pos hpdi (ev_pos (Int.natCast_nonneg _) (ev_pos hpci ?_))))
        rw [r1, r2]
        by_cases e : lab C cut d = lab C cut c
        · have w0 : wI x (lab C cut) c d = 0 := by
            unfold wI
            exact if_neg (fun q => q.2.2 e.symm)
          rw [w0, Nat.zero_add] at hr hb
          exact ev_pos e (hnext all (by rw [hp]; simp) hb hr)
        · have w1 : wI x (lab C cut) c d = 1 := by
            unfold wI
            exact if_pos ⟨hb2, hord.mp o, fun q => e q.symm⟩
          rw [w1, ← Nat.add_assoc] at hr hb
          have hax := wsucc all (by clear hnx; omega)
          rw [hax]
          exact ev_neg e (hnext (all + 1) (by rw [hp]; simp) hb hr)
      · have w0 : wI x (lab C cut) c d = 0 := by
          unfold wI
          exact if_neg (fun q => o (hord.mpr q.2.1))
        rw [w0, Nat.zero_add] at hr hb
        exact ev_neg (by clear hnx; omega) (hnext all (by rw [hp]; simp) hb hr)
theorem impl_len0 (W H : Nat) (hW : 1 ≤ W ∧ W ≤ 6) (hH : 1 ≤ H ∧ H ≤ 6) (hn : W * H ≤ 36) (x : Nat) (cut : List Int) (C : List Nat) (hC : C.length ≤ 36) (hlen : cut.length = C.length) (lo : Nat) (ha : asc 36 lo C) (hm : ∀ d, d < W * H → (d ∈ C ↔ x.testBit d = true)) (hin : ∀ c ∈ C, c < W * H) :
    ∀ (suf pre : List Nat) (all : Nat), C = pre ++ suf → all + sl suf (fun c => sl (nb W H c) (wI x (lab C cut) c)) ≤ 1000000 →
    Ev (fun k => impl_cutLength.l0 k (W : Int) (H : Int) cut (toI C) (all : Int) (toI C) (C.length : Int) (pre.length : Int)) ((all + sl suf (fun c => sl (nb W H c) (wI x (lab C cut) c)) : Nat) : Int) := by
  intro suf
  induction suf with
  | nil =>
    intro pre all hp hb
    have hlp : C.length = pre.length := by rw [hp]; simp
    refine ev_shift ?_
    simp only [impl_cutLength.l0]
    exact ev_neg (by omega) (ev_now _)
  | cons c suf ih =>
    intro pre all hp hb
    have hlp : C.length = pre.length + suf.length + 1 := by rw [hp]; simp; omega
    have hat : rd (toI C) (pre.length : Int) = (c : Int) := by rw [rd_toI, hp, getD_mid]
    have c3 : (pre.length : Int) < ((toI C).length : Int) := by rw [toI_len]; omega
    have c1 : (pre.length : Int) < (C.length : Int) := by omega
    have hc : c < W * H := hin c (by rw [hp]; simp)
    have hnb := nb_ev W H c hW hH hc hn
    have hnl : (nb W H c).length ≤ 36 := by
      unfold nb; simp only [List.length_append]; repeat' split
      all_goals simp
    have hnx := wsucc pre.length (by omega)
    have hpl : ((pre ++ [c]).length : Int) = ((pre.length + 1 : Nat) : Int) := by simp
    simp only [sl] at hb ⊢
    have goal := ih (pre ++ [c]) (all + sl (nb W H c) (wI x (lab C cut) c)) (by rw [hp]; simp) (by clear hnx; omega)
    rw [hpl, ← hnx] at goal
    refine ev_shift ?_
    simp only [impl_cutLength.l0]
    rw [hat]
    refine ev_pos c1 (ev_pos (Int.natCast_nonneg _) (ev_pos c3 (ev_bind hnb ?_)))
    have := impl_len1 (W : Int) (H : Int) x cut C hC hlen lo ha pre suf c hp (nb W H c) hnl (fun d hd => hm d (nb_in W H c d (by clear hnx; omega) hc hd)) _ (nb W H c) [] all rfl (by clear hnx; omega) goal
    have hal : ((asInts (nb W H c)).length : Int) = ((nb W H c).length : Int) := by simp [asInts]
    rw [hal]
    refine ev_eq this ?_
    rw [Nat.add_assoc]
theorem near_cnt (W H c q M : Nat) (hW : 1 ≤ W) (hc : c < W * H) (hcq : q.testBit c = false) (h2 : around W H (2 ^ c) (W * H) M) :
    (cl (M &&& q) 0 (W * H)).length = sl (nb W H c) (fun d => if q.testBit d = true then 1 else 0) := by
  have hlen : ∀ l : List Nat, l.length = sl l (fun _ => 1) := by
    intro l
    induction l with
    | nil => rfl
    | cons a l ih => simp only [sl, List.length_cons]; omega
  rw [hlen, cl_sl, nb_sl W H c hW hc]
  refine sm_cong _ _ _ fun d hd => ?_
  rw [Nat.zero_add]
  have hb := h2 d
  have hab := and_bit M q d
  have hpw : ∀ i, (2 ^ c : Nat).testBit i = true ↔ c = i := fun i => by rw [Nat.testBit_two_pow]; simp
  by_cases b : q.testBit d = true
  · have hdc : ¬ c = d := fun z => by subst z; rw [b] at hcq; cases hcq
    by_cases m : d ∈ nb W H c
    · rw [if_pos (hab.mpr ⟨hb.mpr (.inr ⟨c, hc, (hpw c).mpr rfl, m⟩), b⟩), if_pos m, if_pos b]
    · rw [if_neg m, if_neg]
      intro z
      rcases hb.mp (hab.mp z).1 with g | ⟨i, _, g, g2⟩
      · exact hdc ((hpw d).mp g)
      · have := (hpw i).mp g
        subst this
        exact m g2
  · rw [if_neg (fun z => b (hab.mp z).2)]
    split <;> first | rfl | (rw [if_neg b])
/-- The neighbors of c in a mask that has not c itself: what the reference counts. -/
theorem near_pop (W H c q : Nat) (hW : 1 ≤ W ∧ W ≤ 6) (hH : 1 ≤ H ∧ H ≤ 6) (hn : W * H ≤ 36) (hc : c < W * H) (hq : q < 2 ^ (W * H)) (hcq : q.testBit c = false) :
    ∃ M : Nat, Ev (fun k => spec_l08Near.f k (W : Int) (H : Int) ((2 ^ c : Nat) : Int)) (M : Int) ∧ Ev (fun k => spec_l08Ones.f k (Go.bits .and .i64 (M : Int) (q : Int))) ((sl (nb W H c) (fun d => if q.testBit d = true then 1 else 0) : Nat) : Int) := by
  obtain ⟨M, h1, h2, h3⟩ := near_ev W H (2 ^ c) hW hH hn (Nat.pow_lt_pow_right (by decide) hc)
  refine ⟨M, h1, ?_⟩
  have hM63 : M < 2 ^ 63 := Nat.lt_of_lt_of_le h3 (Nat.pow_le_pow_right (by decide) (by omega))
  have hq63 : q < 2 ^ 63 := Nat.lt_of_lt_of_le hq (Nat.pow_le_pow_right (by decide) (by omega))
  rw [and_i64 M q hM63 hq63]
  have ha : M &&& q < 2 ^ (W * H) := Nat.lt_of_le_of_lt Nat.and_le_left h3
  have ha36 : M &&& q < 2 ^ 36 := Nat.lt_of_lt_of_le ha (Nat.pow_le_pow_right (by decide) hn)
  have e := l08Ones_ev 36 (M &&& q) ha36 (by decide)
  have hp := pop64 (W * H) (M &&& q) hn ha
  generalize pop 64 (M &&& q) = z at e hp
  subst hp
  refine ev_eq e (congrArg Nat.cast ?_)
  exact near_cnt W H c q M hW.1 hc hcq h2
theorem spec_len2 (W H : Nat) (hW : 1 ≤ W ∧ W ≤ 6) (hH : 1 ≤ H ∧ H ≤ 6) (hn : W * H ≤ 36) (R P : List Int) (p : Int) (q : Nat) (n i m j : Int) (hq : q < 2 ^ (W * H)) (K : List Nat) (hK : K.length ≤ 36) (hin : ∀ c ∈ K, c < W * H ∧ q.testBit c = false) (r : Int) :
    ∀ (suf pre : List Nat) (all : Nat), K = pre ++ suf → all + sl suf (fun c => sl (nb W H c) (fun d => if q.testBit d = true then 1 else 0)) ≤ 1000000 →
    Ev (fun k => spec_l09Length.l1 k (W : Int) (H : Int) R ((all + sl suf (fun c => sl (nb W H c) (fun d => if q.testBit d = true then 1 else 0)) : Nat) : Int) p R n i P m (wrap64 (j + 1))) r →
    Ev (fun k => spec_l09Length.l2 k (W : Int) (H : Int) R (all : Int) p (q : Int) R n i P m j (K.map (cellAt W)) (K.length : Int) (pre.length : Int)) r := by
  intro suf
  induction suf with
  | nil =>
    intro pre all hp hb hr
    have hlp : K.length = pre.length := by rw [hp]; simp
    refine ev_shift ?_
    simp only [spec_l09Length.l2]
    exact ev_neg (by omega) hr
  | cons c suf ih =>
    intro pre all hp hb hr
    have hlp : K.length = pre.length + suf.length + 1 := by rw [hp]; simp; omega
    have hat : rd_T51 (K.map (cellAt W)) (pre.length : Int) = cellAt W c := by
      have := rdp_mid (pre.map (cellAt W)) (suf.map (cellAt W)) (cellAt W c)
      rw [hp]
      simpa using this
    have c3 : (pre.length : Int) < ((K.map (cellAt W)).length : Int) := by rw [List.length_map]; omega
    have c1 : (pre.length : Int) < (K.length : Int) := by omega
    obtain ⟨hc, hcq⟩ := hin c (by rw [hp]; simp)
    obtain ⟨M, n1, n2⟩ := near_pop W H c q hW hH hn hc hq hcq
    have hnx := wsucc pre.length (by omega)
    have hpl : ((pre ++ [c]).length : Int) = ((pre.length + 1 : Nat) : Int) := by simp
    have hix := cellAt_ix W c hW (Nat.lt_of_lt_of_le hc (Nat.le_trans hn (by decide)))
    have hsh := shl_nat c (Nat.le_of_lt (Nat.lt_of_lt_of_le hc (Nat.le_trans hn (by decide))))
    simp only [sl] at hb hr
    rw [← Nat.add_assoc] at hr hb
    have hnext := ih (pre ++ [c]) _ (by rw [hp]; simp) hb hr
    rw [hpl] at hnext
    generalize sl (nb W H c) (fun d => if q.testBit d = true then 1 else 0) = t at *
    have hw := wadd all t (by clear hnx hix hsh; omega)
    refine ev_shift ?_
    simp only [spec_l09Length.l2]
    rw [hat, hix, hsh, hnx]
    refine ev_pos c1 (ev_pos (Int.natCast_nonneg _) (ev_pos c3 (ev_pos (Int.natCast_nonneg _) (ev_bind n1 (ev_bind n2 ?_)))))
    rw [hw]
    exact hnext
theorem spec_len1 (W H : Nat) (hW : 1 ≤ W ∧ W ≤ 6) (hH : 1 ≤ H ∧ H ≤ 6) (hn : W * H ≤ 36) (R : List Int) (p : Nat) (hp36 : p < 2 ^ (W * H)) (n i : Int) (P : List Nat) (hP : P.length ≤ 36) (hbn : bnd P (W * H)) (hdis : ∀ q ∈ P, ∀ c, p.testBit c = true → q.testBit c = false) (r : Int) :
    ∀ (suf pre : List Nat) (all : Nat), P = pre ++ suf → all + sl suf (fun q => sl (cl p 0 (W * H)) (fun c => sl (nb W H c) (fun d => if q.testBit d = true then 1 else 0))) ≤ 1000000 →
    Ev (fun k => spec_l09Length.l0 k (W : Int) (H : Int) R ((all + sl suf (fun q => sl (cl p 0 (W * H)) (fun c => sl (nb W H c) (fun d => if q.testBit d = true then 1 else 0))) : Nat) : Int) R n (wrap64 (i + 1))) r →
    Ev (fun k => spec_l09Length.l1 k (W : Int) (H : Int) R (all : Int) (p : Int) R n i (toI P) (P.length : Int) (pre.length : Int)) r := by
  intro suf
  induction suf with
  | nil =>
    intro pre all hp hb hr
    have hlp : P.length = pre.length := by rw [hp]; simp
    refine ev_shift ?_
    simp only [spec_l09Length.l1]
    exact ev_neg (by omega) hr
  | cons q suf ih =>
    intro pre all hp hb hr
    have hlp : P.length = pre.length + suf.length + 1 := by rw [hp]; simp; omega
    have hat : rd (toI P) (pre.length : Int) = (q : Int) := by rw [rd_toI, hp, getD_mid]
    have c3 : (pre.length : Int) < ((toI P).length : Int) := by rw [toI_len]; omega
    have c1 : (pre.length : Int) < (P.length : Int) := by omega
    have hqm : q ∈ P := by rw [hp]; simp
    have hnx := wsucc pre.length (by omega)
    have hpl : ((pre ++ [q]).length : Int) = ((pre.length + 1 : Nat) : Int) := by simp
    simp only [sl] at hb hr
    rw [← Nat.add_assoc] at hr hb
    have hnext := ih (pre ++ [q]) _ (by rw [hp]; simp) hb hr
    rw [hpl, ← hnx] at hnext
    have hcl := cl_len p (W * H) 0
    refine ev_shift ?_
    simp only [spec_l09Length.l1]
    rw [hat]
    refine ev_pos c1 (ev_pos (Int.natCast_nonneg _) (ev_pos c3 (ev_bind (spec_cells_ev W (W * H) p hW hn hp36) ?_)))
    rw [List.length_map]
    exact spec_len2 W H hW hH hn R (toI P) (p : Int) q n i (P.length : Int) (pre.length : Int) (hbn q hqm) (cl p 0 (W * H)) (by clear hnx; omega) (fun c hc => by
      have := (cl_mem p (W * H) 0 c).mp hc
      exact ⟨by clear hnx; omega, hdis q hqm c this.2.2⟩) r (cl p 0 (W * H)) [] all rfl (by clear hnx; omega) hnext
theorem spec_len0 (W H : Nat) (hW : 1 ≤ W ∧ W ≤ 6) (hH : 1 ≤ H ∧ H ≤ 6) (hn : W * H ≤ 36) (R : List Nat) (hR : R.length ≤ 36) (hbn : bnd R (W * H)) (hdis : ∀ i j c, i < j → j < R.length → (R.getD i 0).testBit c = true → (R.getD j 0).testBit c = false) :
    ∀ (suf pre : List Nat) (all : Nat), R = pre ++ suf → all + specS W H (W * H) suf ≤ 1000000 →
    Ev (fun k => spec_l09Length.l0 k (W : Int) (H : Int) (toI R) (all : Int) (toI R) (R.length : Int) (pre.length : Int)) ((all + specS W H (W * H) suf : Nat) : Int) := by
  intro suf
  induction suf with
  | nil =>
    intro pre all hp hb
    have hlp : R.length = pre.length := by rw [hp]; simp
    refine ev_shift ?_
    simp only [spec_l09Length.l0]
    exact ev_neg (by omega) (ev_now _)
  | cons p suf ih =>
    intro pre all hp hb
    have hlp : R.length = pre.length + suf.length + 1 := by rw [hp]; simp; omega
    have hat : rd (toI R) (pre.length : Int) = (p : Int) := by rw [rd_toI, hp, getD_mid]
    have c3 : (pre.length : Int) < ((toI R).length : Int) := by rw [toI_len]; omega
    have c1 : (pre.length : Int) < (R.length : Int) := by omega
    have hnx := wsucc pre.length (by omega)
    have hpl : ((pre ++ [p]).length : Int) = ((pre.length + 1 : Nat) : Int) := by simp
    have hdrop : (toI R).drop (pre.length + 1) = toI suf := by
      rw [toI_drop, hp]
      congr 1
      rw [show pre ++ p :: suf = (pre ++ [p]) ++ suf by simp]
      rw [List.drop_left' (by simp)]
    have hpb : p < 2 ^ (W * H) := hbn p (by rw [hp]; simp)
    have hsb : bnd suf (W * H) := fun q hq => hbn q (by rw [hp]; simp [hq])
    have hsd : ∀ q ∈ suf, ∀ c, p.testBit c = true → q.testBit c = false := by
      intro q hq c hc
      obtain ⟨s1, s2, rfl⟩ := List.append_of_mem hq
      have h1 : R.getD pre.length 0 = p := by rw [hp, getD_mid]
      have h2 : R.getD (pre ++ p :: s1).length 0 = q := by
        rw [hp, show pre ++ p :: (s1 ++ q :: s2) = (pre ++ p :: s1) ++ q :: s2 by simp, getD_mid]
      have := hdis pre.length (pre ++ p :: s1).length c (by simp) (by rw [hp]; simp) (by rw [h1]; exact hc)
      rw [h2] at this
      exact this
    simp only [specS] at hb ⊢
    rw [← Nat.add_assoc] at hb ⊢
    have hnext := ih (pre ++ [p]) _ (by rw [hp]; simp) hb
    rw [hpl, ← hnx] at hnext
    have c5 : ((pre.length + 1 : Nat) : Int) ≤ (R.length : Int) := by clear hnx; omega
    refine ev_shift ?_
    simp only [spec_l09Length.l0]
    rw [hat, hnx, Int.toNat_natCast, hdrop]
    simp only [toI_len]
    rw [hnx] at hnext
    refine ev_pos c1 (ev_pos (Int.natCast_nonneg _) (ev_pos c1 (ev_pos (Int.natCast_nonneg _) (ev_pos c5 ?_))))
    rw [← hnx] at hnext
    exact spec_len1 W H hW hH hn (toI R) p hpb (R.length : Int) (pre.length : Int) suf (by clear hnx; omega) hsb hsd _ suf [] all rfl (by clear hnx; omega) hnext
theorem cuts_more (W H x n : Nat) (hW : 1 ≤ W ∧ W ≤ 6) (hH : 1 ≤ H ∧ H ≤ 6) (hn : W * H ≤ 36) (hx : x < 2 ^ (W * H)) (h9 : n ≤ 9) (hl : n = (cl x 0 (W * H)).length) :
    ∃ P : List Int → Option (List Nat), (∀ c : List Int, c.length = n → Ev (fun k => impl_piecesOf.f k W H x c) (match P c with | some R => (toI R, true) | none => ([], false))) ∧
      (∀ c : List Int, c.length = n → ∀ R, P c = some R → run c (cl x 0 (W * H)) [] = some R ∧ bnd R (W * H) ∧ R.length ≤ 36 ∧ Ev (fun k => spec_l09Pieces.f k W x c) (toI R)) ∧
      (∀ q, q ∈ ex n [] 0 → ∃ R, run q.1 (cl x 0 (W * H)) [] = some R ∧ R.length = q.2 ∧ q.1.length = n ∧ bnd R (W * H) ∧ R.length ≤ 36 ∧ (∀ R', P q.1 = some R' → R' = R) ∧ Ev (fun k => spec_l09Pieces.f k W x q.1) (toI R) ∧ Ev (fun k => spec_l09Whole.f k W H (toI R)) (P q.1).isSome) := by
  have ex1 : ∀ c : List Int, ∃ o : Option (List Nat), c.length = n → _ := fun c => by
    by_cases h : c.length = n
    · obtain ⟨o, ho⟩ := cut_all2 W H x hW hH hn hx c (by rw [h, hl])
      exact ⟨o, fun _ => ho⟩
    · exact ⟨none, fun g => absurd g h⟩
  refine ⟨fun c => Classical.choose (ex1 c), fun c hc => ((Classical.choose_spec (ex1 c)) hc).1, fun c hc R hR => ?_, fun q hq => ?_⟩
  · obtain ⟨_, s2, s3⟩ := (Classical.choose_spec (ex1 c)) hc
    obtain ⟨r1, r2, r3, _⟩ := s3 R (s2 R hR)
    exact ⟨s2 R hR, r1, r2, r3⟩
  · obtain ⟨R, g1, g2⟩ := ex_run n [] 0 q hq (cl x 0 (W * H)) [] rfl rfl (by rw [← hl]; simp)
    have hql : q.1.length = n := by have := (ex_range n [] 0 q hq).2.2; simpa using this
    obtain ⟨_, s2, s3⟩ := (Classical.choose_spec (ex1 q.1)) hql
    obtain ⟨r1, r2, r3, r4⟩ := s3 R g1
    exact ⟨R, g1, g2, hql, r1, r2, fun R' h => Option.some.inj ((s2 R' h).symm.trans g1), r3, r4⟩
/-- The length of a cut, both ways. -/
theorem len_both (W H x : Nat) (hW : 1 ≤ W ∧ W ≤ 6) (hH : 1 ≤ H ∧ H ≤ 6) (hn : W * H ≤ 36) (hx : x < 2 ^ (W * H)) (cut : List Int) (R : List Nat) (hl : cut.length = (cl x 0 (W * H)).length) (hrun : run cut (cl x 0 (W * H)) [] = some R) (hb : bnd R (W * H)) (hR : R.length ≤ 36) :
    ∃ L : Nat, Ev (fun k => spec_l09Length.f k W H (toI R)) (L : Int) ∧ Ev (fun k => impl_cutLength.f k W H x cut) (L : Int) := by
  have hcl := cl_len x (W * H) 0
  have ha := cl_asc x (W * H) (W * H) 0 (by omega)
  have ha36 := cl_asc x 36 (W * H) 0 (by omega)
  obtain ⟨q1, q2⟩ := lengths_eq W H x hW.1 cut R hl hrun
  have hbig : (W * H) * ((W * H) * 1) ≤ 36 * (36 * 1) := Nat.mul_le_mul hn (Nat.mul_le_mul_right 1 hn)
  obtain ⟨_, r1, r2, r3⟩ := run_lab (W * H) cut (cl x 0 (W * H)) [] 0 R ha hl hrun
  have hdis : ∀ i j c, i < j → j < R.length → (R.getD i 0).testBit c = true → (R.getD j 0).testBit c = false := by
    intro i j c hij _ hc
    rw [r1 i c] at hc
    rw [r1 j c]
    simp at hc ⊢
    omega
  have s := spec_len0 W H hW hH hn R hR hb hdis R [] 0 rfl (by omega)
  have i := impl_len0 W H hW hH hn x cut (cl x 0 (W * H)) (by omega) hl 0 ha36 (fun d hd => by rw [cl_mem]; constructor; exact fun z => z.2.2; exact fun z => ⟨by omega, by omega, z⟩) (fun c hc => by have := (cl_mem x (W * H) 0 c).mp hc; omega) (cl x 0 (W * H)) [] 0 rfl (by rw [← q1]; omega)
  rw [← q1] at i
  refine ⟨0 + specS W H (W * H) R, ?_, ?_⟩
  · unfold spec_l09Length.f
    rw [toI_len]
    exact s
  · unfold impl_cutLength.f
    refine ev_bind (cellList_ev W H x hn hx) ?_
    rw [toI_len]
    exact i
def half (R : List Nat) : Bool := decide (R.length = 2) && decide (pop 64 (R.getD 0 0) = pop 64 (R.getD 1 0))
def better (len : List Int → Nat) (o : Option (List Int × Nat)) (c : List Int) : Option (List Int × Nat) :=
  match o with | none => some (c, len c) | some b => if len c < b.2 then some (c, len c) else o
def stepH (P : List Int → Option (List Nat)) (len : List Int → Nat) (o : Option (List Int × Nat)) (c : List Int) : Option (List Int × Nat) :=
  match P c with | none => o | some R => if half R then better len o c else o
def encI : Option (List Int × Nat) → List Int × Int | none => ([], 0) | some b => (b.1, b.2)
def encS : Option (List Int × Nat) → List Int × Int | none => ([], -1) | some b => (b.1, b.2)
def finB : Option (List Int × Nat) → List Int × Bool | none => ([], false) | some b => (b.1, true)
def vp (P : List Int → Option (List Nat)) (len : List Int → Nat) (s : List Int × Int) (c _ : List Int) : (List Int × Int) × Bool :=
  (match P c with | none => s | some R => if half R then (if s.1 = [] ∨ (len c : Int) < s.2 then (c, len c) else s) else s, true)
theorem vone_vp (P : List Int → Option (List Nat)) (len : List Int → Nat) (o : Option (List Int × Nat)) (c : List Int) (ho : ∀ b, o = some b → b.1 ≠ []) : vone P (vp P len) c (encI o) = (encI (stepH P len o c), true) := by
  cases hp : P c with
  | none => rw [vone_none hp]; unfold stepH; rw [hp]
  | some R =>
    rw [vone_some hp]
    unfold vp stepH
    rw [hp]
    by_cases h : half R = true
    · simp only [if_pos h]
      cases o with
      | none => simp [encI, better]
      | some b =>
        have := ho b rfl
        by_cases g : len c < b.2
        · rw [if_pos (Or.inr (by simp only [encI]; omega))]
          simp only [better, if_pos g, encI]
        · rw [if_neg (by simp only [encI]; rintro (z | z); exact this z; omega)]
          simp only [better, if_neg g, encI]
    · simp only [if_neg h]
theorem stepH_ne (P : List Int → Option (List Nat)) (len : List Int → Nat) (o : Option (List Int × Nat)) (c : List Int) (hc : c ≠ []) (ho : ∀ b, o = some b → b.1 ≠ []) : ∀ b, stepH P len o c = some b → b.1 ≠ [] := by
  intro b hb
  unfold stepH at hb
  cases hp : P c with
  | none => rw [hp] at hb; exact ho b hb
  | some R =>
    rw [hp] at hb
    by_cases h : half R = true
    · simp only [if_pos h] at hb
      cases o with
      | none => simp only [better] at hb; obtain rfl := Option.some.inj hb; exact hc
      | some b0 =>
        simp only [better] at hb
        by_cases g : len c < b0.2
        · rw [if_pos g] at hb; obtain rfl := Option.some.inj hb; exact hc
        · rw [if_neg g] at hb; exact ho b hb
    · simp only [if_neg h] at hb; exact ho b hb
theorem visit_fold (P : List Int → Option (List Nat)) (len : List Int → Nat) : ∀ (L : List (List Int × Nat)) (o : Option (List Int × Nat)), (∀ q ∈ L, q.1 ≠ []) → (∀ b, o = some b → b.1 ≠ []) →
    visitAll P (vp P len) L (encI o) = (encI ((L.map (·.1)).foldl (stepH P len) o), true) ∧ ∀ b, (L.map (·.1)).foldl (stepH P len) o = some b → b.1 ≠ [] := by
  intro L
  induction L with
  | nil => intro o _ ho; exact ⟨rfl, ho⟩
  | cons q L ih =>
    intro o hL ho
    have h1 := ih (stepH P len o q.1) (fun q hq => hL q (by simp [hq])) (stepH_ne P len o q.1 (hL q (by simp)) ho)
    simp only [visitAll, vone_vp P len o q.1 ho, if_pos, List.map_cons, List.foldl_cons]
    exact h1
theorem gsel_fold (P : List Int → Option (List Nat)) (len : List Int → Nat) : ∀ (L : List (List Int × Nat)) (o : Option (List Int × Nat)), (∀ q ∈ L, ∀ R, P q.1 = some R → R.length = q.2) →
    (L.map (·.1)).foldl (stepH P len) o = (gsel P 2 L).foldl (stepH P len) o := by
  intro L
  induction L with
  | nil => intro o _; rfl
  | cons q L ih =>
    intro o hL
    have h1 := fun o => ih o (fun q hq => hL q (by simp [hq]))
    rw [List.map_cons, List.foldl_cons, h1]
    unfold gsel
    rw [List.filter_cons]
    by_cases c : (decide ((q.2 : Int) = 2) && (P q.1).isSome) = true
    · rw [if_pos c]; rfl
    · rw [if_neg c]
      have e : stepH P len o q.1 = o := by
        unfold stepH
        cases hp : P q.1 with
        | none => rfl
        | some R =>
          have := hL q (by simp) R hp
          have hh : half R = false := by
            unfold half
            rw [decide_eq_false (fun z => c (by rw [hp]; simp; omega))]
            rfl
          simp only [hh]
          rfl
      rw [e]
theorem numbers_12 : Ev (fun k => spec_l09Numbers.f k 1 2) [] := by
  unfold spec_l09Numbers.f
  exact sp_nl0 1 2 (by omega) (by omega) 1 0 [([], 0)] (by omega) (by simp) (by simp)
theorem all_ev2 (W H x n : Nat) (P : List Int → Option (List Nat)) (h9 : n ≤ 9) (h1 : 1 ≤ n) (ho : Ev (fun k => spec_l08Ones.f k (x : Int)) (n : Int))
    (hq : ∀ q, q ∈ ex n [] 0 → ∃ R : List Nat, Ev (fun k => spec_l09Pieces.f k W x q.1) (toI R) ∧ Ev (fun k => spec_l09Whole.f k W H (toI R)) (P q.1).isSome) :
    Ev (fun k => spec_l09All.f k W H x 2) (gsel P 2 (ex n [] 0)) := by
  by_cases c : 2 ≤ n
  · have := all_ev W H x n 2 P h9 (by omega) c ho hq
    rw [goods_eq] at this
    exact this
  · obtain rfl : n = 1 := by omega
    rw [gsel_none P 2 1 (by omega) (by omega)]
    unfold spec_l09All.f
    refine ev_bind ho (ev_bind numbers_12 (ev_shift ?_))
    simp only [spec_l09All.l0]
    exact ev_neg (by simp) (ev_now _)
theorem spec_best (W H x : Nat) (hWH : W * H ≤ 36) (P : List Int → Option (List Nat)) (len : List Int → Nat) (C : List (List Int)) (hC : C.length ≤ 1000000000)
    (hc : ∀ c ∈ C, ∃ R, P c = some R ∧ R.length = 2 ∧ bnd R (W * H) ∧ Ev (fun k => spec_l09Pieces.f k W x c) (toI R) ∧ Ev (fun k => spec_l09Length.f k W H (toI R)) (len c : Int)) :
    ∀ (suf pre : List (List Int)) (o : Option (List Int × Nat)), C = pre ++ suf → Ev (fun k => spec_BestHalves.l0 k W H x (encS o).1 (encS o).2 C (C.length : Int) (pre.length : Int)) (finB (suf.foldl (stepH P len) o)) := by
  intro suf
  induction suf with
  | nil =>
    intro pre o h
    obtain rfl : C = pre := by simp [h]
    refine ev_shift ?_
    simp only [spec_BestHalves.l0]
    refine ev_neg (by omega) ?_
    cases o with
    | none => exact ev_pos (by simp [encS]) (ev_now _)
    | some b => exact ev_neg (by simp [encS]) (ev_now _)
  | cons c suf ih =>
    intro pre o h
    have hlen : C.length = pre.length + (suf.length + 1) := by subst h; simp
    have hr : rd_L2 C (pre.length : Int) = c := by subst h; exact rd_L2_at pre suf c
    obtain ⟨R, g1, g2, g3, g4, g5⟩ := hc c (by subst h; simp)
    have hn := fun o => ih (pre ++ [c]) o (by simp [h])
    rw [List.length_append, List.length_singleton] at hn
    have b0 := bnd_at g3 0
    have b1 := bnd_at g3 1
    have o0 := l08Ones_ev (W * H) (R.getD 0 0) b0 (by omega)
    have o1 := l08Ones_ev (W * H) (R.getD 1 0) b1 (by omega)
    rw [← rd_toI] at o0 o1
    refine ev_shift ?_
    simp only [spec_BestHalves.l0]
    rw [hr, wsucc _ (by omega)]
    refine ev_pos (by omega) (ev_pos (by omega) (ev_pos (by omega) (ev_bind g4 (ev_pos (by rw [toI_len]; omega) (ev_pos (by rw [toI_len]; omega) (ev_bind o0 (ev_pos (by rw [toI_len]; omega) (ev_bind o1 ?_))))))))
    rw [List.foldl_cons]
    by_cases e : pop 64 (R.getD 0 0) = pop 64 (R.getD 1 0)
    · have hs : stepH P len o c = better len o c := by
        unfold stepH
        rw [g1]
        simp only [half, g2, e]
        simp
      refine ev_pos (by exact_mod_cast e) (ev_bind g5 ?_)
      rw [hs]
      cases o with
      | none => exact ev_pos (by simp [encS]) (hn (some (c, len c)))
      | some b =>
        refine ev_neg (by simp [encS]) ?_
        by_cases g : len c < b.2
        · refine ev_pos (by simp only [encS]; omega) ?_
          have e2 : better len (some b) c = some (c, len c) := by simp only [better, if_pos g]
          rw [e2]
          exact hn (some (c, len c))
        · refine ev_neg (by simp only [encS]; omega) ?_
          have e2 : better len (some b) c = some b := by simp only [better, if_neg g]
          rw [e2]
          exact hn (some b)
    · have hs : stepH P len o c = o := by
        unfold stepH
        rw [g1]
        have : half R = false := by unfold half; rw [decide_eq_false e, Bool.and_false]
        simp only [this]
        rfl
      refine ev_neg (fun z => e (by exact_mod_cast z)) ?_
      rw [hs]
      exact hn o
theorem bestHalves_both (w h m : Int) : ∃ r : List Int × Bool, Ev (fun k => spec_BestHalves.f k w h m) r ∧ Ev (fun k => impl_BestHalves.f k w h m) r ∧ r.1.length ≤ 1000 := by
  rcases cut_shape w h m with ⟨c1, c2⟩ | ⟨c1, c2, W, H, x, n, rfl, rfl, rfl, hW, hH, hn, hx, n1, n9, hl, o1, o2⟩
  · refine ⟨([], false), ?_, ?_, by simp⟩
    · unfold spec_BestHalves.f
      exact ev_bind c2 (ev_neg (by decide) (ev_now _))
    · unfold impl_BestHalves.f
      exact ev_bind0 c1 (ev_neg (by decide) (ev_now _))
  · obtain ⟨P, p1, p3, p2⟩ := cuts_more W H x n hW hH hn hx n9 hl
    have hlen0 : ∀ c : List Int, ∃ L : Nat, c.length = n → ∀ R, P c = some R → Ev (fun k => spec_l09Length.f k W H (toI R)) (L : Int) ∧ Ev (fun k => impl_cutLength.f k W H x c) (L : Int) := fun c => by
      by_cases h : c.length = n
      · cases hp : P c with
        | none => exact ⟨0, fun _ R hR => by cases hR⟩
        | some R =>
          obtain ⟨g1, g2, g3, _⟩ := p3 c h R hp
          obtain ⟨L, e1, e2⟩ := len_both W H x hW hH hn hx c R (by omega) g1 g2 g3
          exact ⟨L, fun _ R' hR => by obtain rfl := Option.some.inj hR; exact ⟨e1, e2⟩⟩
      · exact ⟨0, fun g => absurd g h⟩
    obtain ⟨len, hlen⟩ := Classical.axiomOfChoice hlen0
    have hql : ∀ q ∈ ex n [] 0, q.1.length = n := fun q hq => by
      obtain ⟨_, _, _, g, _⟩ := p2 q hq
      exact g
    have hne : ∀ q ∈ ex n [] 0, q.1 ≠ [] := fun q hq e => by
      have := hql q hq
      rw [e] at this
      simp at this
      omega
    have hRl : ∀ q ∈ ex n [] 0, ∀ R, P q.1 = some R → R.length = q.2 := fun q hq R hR => by
      obtain ⟨R0, _, g2, _, _, _, g6, _⟩ := p2 q hq
      rw [g6 R hR]; exact g2
    have h64 : ∀ R : List Nat, bnd R (W * H) → ∀ i, R.getD i 0 < 2 ^ 64 := fun R hR i => Nat.lt_of_lt_of_le (bnd_at hR i) (Nat.pow_le_pow_right (by decide) (by omega))
    obtain ⟨v1, v2⟩ := visit_fold P len (ex n [] 0) none hne (fun _ h => by cases h)
    have hf := gsel_fold P len (ex n [] 0) none hRl
    rw [hf] at v1 v2
    have hvis : ∀ s c R, P c = some R → c.length = n → Ev (fun k => vHalf W H x k s c (toI R)) (vp P len s c (toI R)) := by
      intro s c R hp hc
      obtain ⟨g1, g2, g3, g4⟩ := p3 c hc R hp
      unfold vHalf vp
      rw [hp]
      refine ev_neg (fun e => by rw [e] at hc; simp at hc; omega) ?_
      by_cases h2 : R.length = 2
      · have e0 : bits_OnesCount.f (IntKind.u64.wrap (rd (toI R) 0)) = some ((pop 64 (R.getD 0 0) : Nat) : Int) := by
          rw [show rd (toI R) 0 = ((R.getD 0 0 : Nat) : Int) from rd_toI R 0, u64_nat _ (h64 R g2 0), onesCount _ (h64 R g2 0)]
        have e1 : bits_OnesCount.f (IntKind.u64.wrap (rd (toI R) 1)) = some ((pop 64 (R.getD 1 0) : Nat) : Int) := by
          rw [show rd (toI R) 1 = ((R.getD 1 0 : Nat) : Int) from rd_toI R 1, u64_nat _ (h64 R g2 1), onesCount _ (h64 R g2 1)]
        refine ev_pos (by rw [toI_len]; omega) (ev_bind0 e0 (ev_bind0 e1 ?_))
        by_cases e : pop 64 (R.getD 0 0) = pop 64 (R.getD 1 0)
        · have hh : half R = true := by unfold half; rw [decide_eq_true h2, decide_eq_true e]; rfl
          refine ev_pos (by exact_mod_cast e) (ev_bind (hlen c hc R hp).2 ?_)
          simp only [hh]
          exact ev_now _
        · have hh : half R = false := by unfold half; rw [decide_eq_false e, Bool.and_false]
          refine ev_neg (fun z => e (by exact_mod_cast z)) ?_
          simp only [hh]
          exact ev_now _
      · have hh : half R = false := by unfold half; rw [decide_eq_false h2]; rfl
        refine ev_neg (by rw [toI_len]; omega) ?_
        simp only [hh]
        exact ev_now _
    have hall := all_ev2 W H x n P n9 n1 o1 (fun q hq => by
      obtain ⟨R, _, _, _, _, _, _, g7, g8⟩ := p2 q hq
      exact ⟨R, g7, g8⟩)
    have hgm : ∀ c ∈ gsel P 2 (ex n [] 0), c.length = n ∧ ∃ R, P c = some R ∧ R.length = 2 := fun c hc => by
      simp only [gsel, List.mem_map] at hc
      obtain ⟨q, hq, rfl⟩ := hc
      obtain ⟨hq1, hq2⟩ := List.mem_filter.mp hq
      simp only [Bool.and_eq_true, decide_eq_true_eq] at hq2
      obtain ⟨R, hR⟩ := Option.isSome_iff_exists.mp hq2.2
      exact ⟨hql q hq1, R, hR, by rw [hRl q hq1 R hR]; omega⟩
    have hgl : (gsel P 2 (ex n [] 0)).length ≤ 1000000000 := by
      have a := ex_len n [] 0 (by omega)
      have b : 10 ^ n ≤ 10 ^ 9 := Nat.pow_le_pow_right (by omega) n9
      have c : (gsel P 2 (ex n [] 0)).length ≤ (ex n [] 0).length := by
        unfold gsel
        rw [List.length_map]
        exact List.length_filter_le _ _
      omega
    have hsp := spec_best W H x hn P len (gsel P 2 (ex n [] 0)) hgl (fun c hc => by
      obtain ⟨g0, R, g1, g2⟩ := hgm c hc
      obtain ⟨_, q2, _, q4⟩ := p3 c g0 R g1
      exact ⟨R, g1, g2, q2, q4, (hlen c g0 R g1).1⟩) (gsel P 2 (ex n [] 0)) [] none rfl
    generalize hres : (gsel P 2 (ex n [] 0)).foldl (stepH P len) none = res at v1 v2 hsp
    refine ⟨finB res, ?_, ?_, ?_⟩
    · unfold spec_BestHalves.f
      exact ev_bind c2 (ev_pos rfl (ev_bind hall hsp))
    · unfold impl_BestHalves.f impl_eachCut.f
      refine ev_bind0 c1 (ev_pos rfl (ev_bind (a := encI res) (ev_bind0 o2 (ev_bind (a := visitAll P (vp P len) (ex n [] 0) ([], 0)) ?_ ?_)) ?_))
      · exact grow_ev (vHalf W H x) (vp P len) P W H x n n9 p1 hvis n [] 0 ([], 0) (by simp) (Nat.le_refl _)
      · exact ev_eq (ev_now _) (by show (visitAll P (vp P len) (ex n [] 0) (encI none)).1 = _; rw [v1])
      · refine ev_eq (ev_now _) ?_
        cases res with
        | none => rfl
        | some b => simp [encI, finB, v2 b rfl]
    · have hin : ∀ (L : List (List Int)) (o : Option (List Int × Nat)), (∀ c ∈ L, c.length = n) → (∀ b, o = some b → b.1.length = n) → ∀ b, L.foldl (stepH P len) o = some b → b.1.length = n := by
        intro L
        induction L with
        | nil => intro o _ ho b hb; exact ho b hb
        | cons c L ih =>
          intro o hL ho b hb
          refine ih (stepH P len o c) (fun c hc => hL c (by simp [hc])) (fun b hb => ?_) b hb
          unfold stepH at hb
          cases hp : P c with
          | none => rw [hp] at hb; exact ho b hb
          | some R =>
            rw [hp] at hb
            by_cases h : half R = true
            · simp only [if_pos h] at hb
              cases o with
              | none => simp only [better] at hb; obtain rfl := Option.some.inj hb; exact hL c (by simp)
              | some b0 =>
                simp only [better] at hb
                by_cases g : len c < b0.2
                · rw [if_pos g] at hb; obtain rfl := Option.some.inj hb; exact hL c (by simp)
                · rw [if_neg g] at hb; exact ho b hb
            · simp only [if_neg h] at hb; exact ho b hb
      cases res with
      | none => simp [finB]
      | some b =>
        have := hin (gsel P 2 (ex n [] 0)) none (fun c hc => (hgm c hc).1) (fun _ h => by cases h) b hres
        simp only [finB]
        omega
theorem FnExactBestHalves : laws_FnExactBestHalves.Pure := by
  intro w h m _ _ _
  apply ev_rounds
  unfold laws_FnExactBestHalves.f
  obtain ⟨⟨L, b⟩, h1, h2, h3⟩ := bestHalves_both w h m
  have hL := eqIntS_refl L (by simp at h3; omega)
  obtain ⟨L', n1, n2⟩ := markIntS_ev L (by simp at h3; omega)
  refine ev_bind h1 (ev_bind h2 (ev_bind hL (ev_pos rfl (ev_shift ?_))))
  simp only [laws_FnExactBestHalves.j0]
  refine ev_neg (by simp) (ev_bind n1 (ev_bind n2 (ev_neg (by omega) (ev_pos rfl (ev_bind h2 (ev_bind hL (ev_pos rfl (ev_shift ?_))))))))
  simp only [laws_FnExactBestHalves.j1]
  exact ev_neg (by simp) (ev_bind n2 (ev_neg (by omega) (ev_pos rfl (ev_now _))))

end Go.Proofs.YtmjfigeikiickaaDoor.Pure
