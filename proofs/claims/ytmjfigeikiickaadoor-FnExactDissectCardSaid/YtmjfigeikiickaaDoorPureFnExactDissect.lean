/- Dissect of the program and of the reference answer alike, for all numbers. -/
import Derived.Test.YtmjfigeikiickaaDoorQFnExactDissectx15
namespace Go.Proofs.YtmjfigeikiickaaDoor.Pure
open Go.RowKit Go.Proofs.YtmjfigeikiickaaDoor.QFnExactDissect Go.Proofs.YtmjfigeikiickaaDoorW.PrintWords Go.Proofs.YtmjfigeikiickaaDoorW.PrintLast Go.Proofs.YtmjfigeikiickaaDoorW.PrintMore
set_option linter.unusedVariables false
set_option linter.unusedSimpArgs false

/- Eventually: with enough rounds the answer is r. -/
theorem z8 {α : Type} (r : α) : Ev (fun _ => some r) r := Ev.now r
theorem z5 {α : Type} {g : Nat → Option α} {r : α} (h : Ev (fun k => g (k + 1)) r) : Ev g r := by
  obtain ⟨K, hK⟩ := h
  exact ⟨K + 1, fun k hk => by
    obtain ⟨m, rfl⟩ : ∃ m, k = m + 1 := ⟨k - 1, by omega⟩
    exact hK m (by omega)⟩
theorem z7 {α β : Type} {g : Nat → Option α} {f : Nat → α → Option β} {a : α} {r : β} (h : Ev g a) (k : Ev (fun n => f n a) r) : Ev (fun n => (g n).bind (f n)) r := Ev.bind h k
theorem z9 {α β : Type} {o : Option α} {f : Nat → α → Option β} {a : α} {r : β} (h : o = some a) (k : Ev (fun n => f n a) r) : Ev (fun n => o.bind (f n)) r := by
  subst h; exact k
theorem z4 {α : Type} {A B : Nat → Option α} {r : α} {c : Prop} [Decidable c] (h : c) (k : Ev A r) : Ev (fun n => if c then A n else B n) r := by
  simpa only [if_pos h] using k
theorem z6 {α : Type} {A B : Nat → Option α} {r : α} {c : Prop} [Decidable c] (h : ¬ c) (k : Ev B r) : Ev (fun n => if c then A n else B n) r := by
  simpa only [if_neg h] using k
theorem z13 {α : Type} {g : Nat → Option α} {r r' : α} (h : Ev g r) (e : r = r') : Ev g r' := e ▸ h
theorem ev_rounds {α : Type} {g : Nat → Option α} {r : α} (h : Ev g r) : ∃ k, g k = some r := Ev.rounds h
theorem w64 {n : Int} (h : -9223372036854775808 ≤ n) (h' : n ≤ 9223372036854775807) : wrap64 n = n := by
  unfold wrap64; omega
theorem wadd (a b : Nat) (h : a + b < 1000000000000) : wrap64 ((a : Int) + (b : Int)) = ((a + b : Nat) : Int) := by
  rw [w64 (by omega) (by omega)]; omega
theorem z15 (a : Nat) (h : a < 1000000000000) : wrap64 ((a : Int) + 1) = ((a + 1 : Nat) : Int) := by
  rw [w64 (by omega) (by omega)]; omega
theorem wsmall (n : Int) (h : -1000000000000 ≤ n ∧ n ≤ 1000000000000) : wrap64 n = n := w64 (by omega) (by omega)
theorem z27 (a b c : Int) : impl_within.f a b c = some (decide (b ≤ a ∧ a ≤ c)) := by
  unfold impl_within.f; split <;> simp <;> omega
theorem in_eq (a b c : Int) : spec_l01In.f a b c = some (decide (b ≤ a ∧ a ≤ c)) := by
  unfold spec_l01In.f; split <;> simp <;> omega
theorem mx_eq (a b : Int) : mx a b = max a b := by unfold mx; split <;> omega
theorem mn_eq (a b : Int) : mn a b = min a b := by unfold mn; split <;> omega
/-- What is left of a cut c with u numbers used: each way to number d cells more, in order, with the numbers used in the end. -/
def exf (g : List Int → Nat → List (List Int × Nat)) (c : List Int) (u : Nat) : Nat → Nat → List (List Int × Nat)
  | _, 0 => []
  | k, t + 1 => g (c ++ [(k : Int)]) (max u (k + 1)) ++ exf g c u (k + 1) t
def ex : Nat → List Int → Nat → List (List Int × Nat)
  | 0, c, u => [(c, u)]
  | d + 1, c, u => exf (ex d) c u 0 (u + 1)
def fil (p : Nat) (l : List (List Int × Nat)) : List (List Int × Nat) := l.filter (fun q => decide (q.2 = p))
/-- The reference's next level. -/
def cf (p d : Nat) (c : List Int) (u : Nat) : Nat → Nat → List (List Int × Nat)
  | _, 0 => []
  | k, t + 1 => if k < p ∧ p ≤ max u (k + 1) + d then (c ++ [(k : Int)], max u (k + 1)) :: cf p d c u (k + 1) t else cf p d c u (k + 1) t
def lev (p d : Nat) (L : List (List Int × Nat)) : List (List Int × Nat) := L.flatMap (fun q => cf p d q.1 q.2 0 (q.2 + 1))
theorem exf_mem (g : List Int → Nat → List (List Int × Nat)) (c : List Int) (u : Nat) : ∀ (t k : Nat) (q : List Int × Nat), q ∈ exf g c u k t → ∃ j, k ≤ j ∧ j < k + t ∧ q ∈ g (c ++ [(j : Int)]) (max u (j + 1)) := by
  intro t
  induction t with
  | zero => intro k q h; cases h
  | succ t ih =>
    intro k q h
    simp only [exf, List.mem_append] at h
    rcases h with h | h
    · exact ⟨k, Nat.le_refl _, by omega, h⟩
    · obtain ⟨j, h1, h2, h3⟩ := ih (k + 1) q h
      exact ⟨j, by omega, by omega, h3⟩
theorem z26 : ∀ (d : Nat) (c : List Int) (u : Nat) (q : List Int × Nat), q ∈ ex d c u → u ≤ q.2 ∧ q.2 ≤ u + d ∧ q.1.length = c.length + d := by
  intro d
  induction d with
  | zero =>
    intro c u q h
    simp only [ex, List.mem_singleton] at h
    subst h
    exact ⟨Nat.le_refl _, Nat.le_refl _, rfl⟩
  | succ d ih =>
    intro c u q h
    obtain ⟨j, h1, h2, h3⟩ := exf_mem _ c u _ _ q h
    obtain ⟨a, b, e⟩ := ih _ _ q h3
    rw [List.length_append] at e
    simp at e
    exact ⟨by omega, by omega, by omega⟩
theorem fil_app (p : Nat) (l m : List (List Int × Nat)) : fil p (l ++ m) = fil p l ++ fil p m := by simp [fil]
theorem fil_none (p : Nat) (l : List (List Int × Nat)) (h : ∀ q ∈ l, q.2 ≠ p) : fil p l = [] := by
  unfold fil
  rw [List.filter_eq_nil_iff]
  intro q hq
  simpa using h q hq
theorem cf_fil (p d : Nat) (c : List Int) (u : Nat) : ∀ (t k : Nat), (cf p d c u k t).flatMap (fun q => fil p (ex d q.1 q.2)) = fil p (exf (ex d) c u k t) := by
  intro t
  induction t with
  | zero => intro k; rfl
  | succ t ih =>
    intro k
    simp only [cf, exf]
    rw [fil_app]
    by_cases h : k < p ∧ p ≤ max u (k + 1) + d
    · rw [if_pos h, List.flatMap_cons, ih]
    · rw [if_neg h, ih, fil_none p (ex d _ _) (fun q hq => by
        have := z26 d _ _ q hq
        omega)]
      rfl
theorem lev_fil (p d : Nat) : ∀ L : List (List Int × Nat), (lev p d L).flatMap (fun q => fil p (ex d q.1 q.2)) = L.flatMap (fun q => fil p (ex (d + 1) q.1 q.2)) := by
  intro L
  induction L with
  | nil => rfl
  | cons q L ih =>
    have e : lev p d (q :: L) = cf p d q.1 q.2 0 (q.2 + 1) ++ lev p d L := by simp [lev]
    rw [e, List.flatMap_append, ih, cf_fil, List.flatMap_cons]
    rfl
theorem cf_mem (p d : Nat) (c : List Int) (u : Nat) : ∀ (t k : Nat) (q : List Int × Nat), q ∈ cf p d c u k t → p ≤ q.2 + d ∧ (u ≤ p → q.2 ≤ p) ∧ (k + t ≤ u + 1 → q.2 ≤ u + 1) := by
  intro t
  induction t with
  | zero => intro k q h; cases h
  | succ t ih =>
    intro k q h
    simp only [cf] at h
    by_cases g : k < p ∧ p ≤ max u (k + 1) + d
    · rw [if_pos g] at h
      rcases List.mem_cons.mp h with rfl | h
      · exact ⟨g.2, fun _ => by show max u (k + 1) ≤ p; omega, fun _ => by show max u (k + 1) ≤ u + 1; omega⟩
      · have := ih (k + 1) q h
        exact ⟨this.1, this.2.1, fun _ => this.2.2 (by omega)⟩
    · rw [if_neg g] at h
      have := ih (k + 1) q h
      exact ⟨this.1, this.2.1, fun _ => this.2.2 (by omega)⟩
theorem cf_len (p d : Nat) (c : List Int) (u : Nat) : ∀ (t k : Nat), (cf p d c u k t).length ≤ t := by
  intro t
  induction t with
  | zero => intro k; exact Nat.le_refl _
  | succ t ih =>
    intro k
    simp only [cf]
    have := ih (k + 1)
    split <;> simp <;> omega
theorem lev_len (p d B : Nat) : ∀ L : List (List Int × Nat), (∀ q ∈ L, q.2 + 1 ≤ B) → (lev p d L).length ≤ L.length * B := by
  intro L
  induction L with
  | nil => intro _; exact Nat.zero_le _
  | cons q L ih =>
    intro h
    have e : lev p d (q :: L) = cf p d q.1 q.2 0 (q.2 + 1) ++ lev p d L := by simp [lev]
    rw [e, List.length_append, List.length_cons, Nat.add_mul, Nat.one_mul]
    have h1 := cf_len p d q.1 q.2 (q.2 + 1) 0
    have h2 := ih (fun q hq => h q (by simp [hq]))
    have h3 := h q (by simp)
    omega
def fsts (L : List (List Int × Nat)) : List (List Int) := L.map (·.1)
def snds (L : List (List Int × Nat)) : List Int := L.map (fun q => (q.2 : Int))
theorem rd_L2_mid (pre suf : List (List Int × Nat)) (q : List Int × Nat) : rd_L2 (fsts (pre ++ q :: suf)) (pre.length : Int) = q.1 := by
  simp [rd_L2, fsts, List.getD_eq_getElem?_getD]
theorem rd_snds (pre suf : List (List Int × Nat)) (q : List Int × Nat) : rd (snds (pre ++ q :: suf)) (pre.length : Int) = (q.2 : Int) := by
  simp [rd, snds, List.getD_eq_getElem?_getD]
theorem nl_sum (m n i d : Nat) (h : i + d + 1 = n) (hm : m ≤ 10) (hn : n ≤ 9) : wrap64 ((wrap64 ((wrap64 ((m : Int) + (n : Int))) - 1)) - (i : Int)) = ((m + d : Nat) : Int) := by
  have e1 : wrap64 ((m : Int) + (n : Int)) = (m : Int) + (n : Int) := w64 (by omega) (by omega)
  rw [e1]
  clear e1
  have e2 : wrap64 ((m : Int) + (n : Int) - 1) = (m : Int) + (n : Int) - 1 := w64 (by omega) (by omega)
  rw [e2]
  clear e2
  have e3 : wrap64 ((m : Int) + (n : Int) - 1 - (i : Int)) = (m : Int) + (n : Int) - 1 - (i : Int) := w64 (by omega) (by omega)
  rw [e3]
  clear e3
  omega
theorem sp_nl2 (n p i d : Nat) (hd : i + d + 1 = n) (hn : n ≤ 9) (hp : p ≤ 9) (L : List (List Int × Nat)) (pre suf : List (List Int × Nat)) (c : List Int) (u : Nat) (hL : L = pre ++ (c, u) :: suf) (hu : u ≤ 9) (hc : c.length ≤ 9) (hLl : L.length ≤ 1000000000) (r : List (List Int)) :
    ∀ (t kk : Nat) (N : List (List Int × Nat)), t + kk = u + 1 → N.length + t ≤ 10000000000 →
      Ev (fun k => spec_l09Numbers.l1 k n p (snds L) i (fsts (N ++ cf p d c u kk t)) (snds (N ++ cf p d c u kk t)) (fsts L) ((fsts L).length : Int) (wrap64 ((pre.length : Int) + 1))) r →
      Ev (fun k => spec_l09Numbers.l2 k n p (snds L) i (fsts N) (snds N) (pre.length : Int) c (kk : Int) (fsts L) ((fsts L).length : Int) (pre.length : Int)) r := by
  have hlen : L.length = pre.length + (suf.length + 1) := by subst hL; simp
  have hr : rd (snds L) (pre.length : Int) = (u : Int) := by subst hL; exact rd_snds pre suf (c, u)
  have hs : (snds L).length = L.length := by simp [snds]
  intro t
  induction t with
  | zero =>
    intro kk N ht hN h
    refine z5 ?_
    simp only [spec_l09Numbers.l2]
    rw [hr, hs]
    refine z4 (by omega) (z4 (by omega) (z6 (by omega) (z5 ?_)))
    simp only [spec_l09Numbers.j3]
    refine z6 (by decide) ?_
    simpa [cf] using h
  | succ t ih =>
    intro kk N ht hN h
    refine z5 ?_
    simp only [spec_l09Numbers.l2]
    rw [hr, hs]
    refine z4 (by omega) (z4 (by omega) (z4 (by omega) (z5 ?_)))
    simp only [spec_l09Numbers.j3]
    rw [hr, hs]
    by_cases hk : kk < p
    · refine z4 (by simpa using hk) (z4 (by omega) (z4 (by omega) ?_))
      have e0 : wrap64 ((kk : Int) + 1) = ((kk + 1 : Nat) : Int) := z15 kk (by omega)
      have e1 : mx (u : Int) ((kk + 1 : Nat) : Int) = ((max u (kk + 1) : Nat) : Int) := by rw [mx_eq]; omega
      rw [e0, e1]
      rw [nl_sum (max u (kk + 1)) n i d hd (by clear e0 e1; omega) hn]
      clear e1 e0
      by_cases g : p ≤ max u (kk + 1) + d
      · refine z4 (by omega) ?_
        have e3 : cf p d c u kk (t + 1) = (c ++ [(kk : Int)], max u (kk + 1)) :: cf p d c u (kk + 1) t := by simp only [cf]; rw [if_pos ⟨hk, g⟩]
        rw [e3] at h
        have hf : (fsts N).length = N.length := by simp [fsts]
        have hsn : (snds N).length = N.length := by simp [snds]
        have h' := ih (kk + 1) (N ++ [(c ++ [(kk : Int)], max u (kk + 1))]) (by omega) (by simp; omega) (by simpa using h)
        refine z9 rfl (z4 (by simp; omega) (z9 rfl (z4 (by simp; omega) (z4 (by omega) (z4 (by omega) ?_)))))
        simpa [fsts, snds] using h'
      · refine z6 (by omega) ?_
        have e3 : cf p d c u kk (t + 1) = cf p d c u (kk + 1) t := by simp only [cf]; rw [if_neg (fun z => g z.2)]
        rw [e3] at h
        exact ih (kk + 1) N (by omega) (by omega) h
    · refine z6 (by simpa using hk) ?_
      have e3 : ∀ t kk, p ≤ kk → cf p d c u kk t = [] := by
        intro t
        induction t with
        | zero => intro kk _; rfl
        | succ t ih2 => intro kk hk; simp only [cf]; rw [if_neg (fun z => by omega), ih2 (kk + 1) (by omega)]
      rw [e3 _ _ (by omega), List.append_nil] at h
      exact h
theorem sp_nl1 (n p i d : Nat) (hd : i + d + 1 = n) (hn : n ≤ 9) (hp : p ≤ 9) (L : List (List Int × Nat)) (hL : ∀ q ∈ L, q.2 ≤ 9 ∧ q.1.length ≤ 9) (hLl : L.length * 10 ≤ 10000000000) (r : List (List Int))
    (hnext : Ev (fun k => spec_l09Numbers.l0 k n p (fsts (lev p d L)) (snds (lev p d L)) (wrap64 ((i : Int) + 1))) r) :
    ∀ (suf pre : List (List Int × Nat)), L = pre ++ suf →
      Ev (fun k => spec_l09Numbers.l1 k n p (snds L) i (fsts (lev p d pre)) (snds (lev p d pre)) (fsts L) ((fsts L).length : Int) (pre.length : Int)) r := by
  have hf : (fsts L).length = L.length := by simp [fsts]
  intro suf
  induction suf with
  | nil =>
    intro pre h
    obtain rfl : L = pre := by simp [h]
    refine z5 ?_
    simp only [spec_l09Numbers.l1]
    exact z6 (by omega) hnext
  | cons q suf ih =>
    intro pre h
    obtain ⟨c, u⟩ := q
    have hlen : L.length = pre.length + (suf.length + 1) := by subst h; simp
    have hq := hL (c, u) (by subst h; simp)
    have hr : rd_L2 (fsts L) (pre.length : Int) = c := by subst h; exact rd_L2_mid pre suf (c, u)
    have hpl := lev_len p d 10 pre (fun q hq => by have := hL q (by subst h; simp [hq]); omega)
    have hu : u ≤ 9 := hq.1
    refine z5 ?_
    simp only [spec_l09Numbers.l1]
    rw [hr]
    refine z4 (by omega) (z4 (by omega) (z4 (by omega) ?_))
    refine sp_nl2 n p i d hd hn hp L pre suf c u h hu hq.2 (by omega) r (u + 1) 0 (lev p d pre) (by omega) (by omega) ?_
    have e : lev p d pre ++ cf p d c u 0 (u + 1) = lev p d (pre ++ [(c, u)]) := by simp [lev]
    rw [e, z15 _ (by omega)]
    have := ih (pre ++ [(c, u)]) (by simp [h])
    simpa using this
/-- The levels, from i on. -/
def levs (p : Nat) : Nat → List (List Int × Nat) → List (List Int × Nat)
  | 0, L => L
  | d + 1, L => levs p d (lev p d L)
theorem levs_fil (p : Nat) : ∀ (d : Nat) (L : List (List Int × Nat)), (levs p d L).flatMap (fun q => fil p (ex 0 q.1 q.2)) = L.flatMap (fun q => fil p (ex d q.1 q.2)) := by
  intro d
  induction d with
  | zero => intro L; rfl
  | succ d ih => intro L; simp only [levs]; rw [ih, lev_fil]
theorem lev_mem (p d : Nat) (L : List (List Int × Nat)) (q : List Int × Nat) (h : q ∈ lev p d L) : ∃ q0 ∈ L, q ∈ cf p d q0.1 q0.2 0 (q0.2 + 1) := by
  simp only [lev, List.mem_flatMap] at h
  exact h
theorem levs_all (p : Nat) : ∀ (d : Nat) (L : List (List Int × Nat)), (∀ q ∈ L, q.2 ≤ p ∧ p ≤ q.2 + d) → ∀ q ∈ levs p d L, q.2 = p := by
  intro d
  induction d with
  | zero => intro L h q hq; have := h q hq; omega
  | succ d ih =>
    intro L h
    simp only [levs]
    refine ih _ (fun q hq => ?_)
    obtain ⟨q0, h0, h1⟩ := lev_mem p d L q hq
    have := cf_mem p d _ _ _ _ q h1
    have := h q0 h0
    omega
theorem fil_zero (p : Nat) : ∀ (L : List (List Int × Nat)), (∀ q ∈ L, q.2 = p) → L.flatMap (fun q => fil p (ex 0 q.1 q.2)) = L := by
  intro L
  induction L with
  | nil => intro _; rfl
  | cons q L ih =>
    intro h
    rw [List.flatMap_cons, ih (fun q hq => h q (by simp [hq]))]
    have := h q (by simp)
    obtain ⟨a, b⟩ := q
    have hb : b = p := this
    subst hb
    simp [ex, fil]
theorem cf_clen (p d : Nat) (c : List Int) (u : Nat) : ∀ (t k : Nat) (q : List Int × Nat), q ∈ cf p d c u k t → q.1.length = c.length + 1 := by
  intro t
  induction t with
  | zero => intro k q h; cases h
  | succ t ih =>
    intro k q h
    simp only [cf] at h
    split at h
    · rcases List.mem_cons.mp h with rfl | h
      · simp
      · exact ih (k + 1) q h
    · exact ih (k + 1) q h
theorem sp_nl0 (n p : Nat) (hn : n ≤ 9) (hp : p ≤ 9) : ∀ (d i : Nat) (L : List (List Int × Nat)), i + d = n → (∀ q ∈ L, q.2 ≤ i ∧ q.1.length = i) → L.length ≤ 10 ^ i →
    Ev (fun k => spec_l09Numbers.l0 k n p (fsts L) (snds L) (i : Int)) (fsts (levs p d L)) := by
  intro d
  induction d with
  | zero =>
    intro i L hi h hl
    obtain rfl : i = n := by omega
    refine z5 ?_
    simp only [spec_l09Numbers.l0]
    exact z6 (by omega) (z8 _)
  | succ d ih =>
    intro i L hi h hl
    have hp8 : 10 ^ i ≤ 10 ^ 8 := Nat.pow_le_pow_right (by omega) (by omega)
    have h8 : (10 : Nat) ^ 8 = 100000000 := by decide
    refine z5 ?_
    simp only [spec_l09Numbers.l0]
    refine z4 (by omega) ?_
    refine sp_nl1 n p i d (by omega) hn hp L (fun q hq => by have := h q hq; omega) (by omega) _ ?_ L [] (by simp)
    rw [z15 i (by omega)]
    refine ih (i + 1) (lev p d L) (by omega) (fun q hq => ?_) ?_
    · obtain ⟨q0, h0, h1⟩ := lev_mem p d L q hq
      have a := cf_mem p d _ _ _ _ q h1
      have b := cf_clen p d _ _ _ _ q h1
      have c := h q0 h0
      have := a.2.2 (by omega)
      omega
    · have := lev_len p d 10 L (fun q hq => by have := h q hq; omega)
      rw [Nat.pow_succ]
      have : L.length * 10 ≤ 10 ^ i * 10 := Nat.mul_le_mul_right _ hl
      omega
/-- The reference's numberings: those with just p numbers, in order. -/
theorem numbers_ev (n p : Nat) (hn : n ≤ 9) (h1 : 1 ≤ p) (hp : p ≤ n) : Ev (fun k => spec_l09Numbers.f k n p) (fsts (fil p (ex n [] 0))) := by
  unfold spec_l09Numbers.f
  have h := sp_nl0 n p hn (by omega) n 0 [([], 0)] (by omega) (by simp) (by simp)
  refine z13 h ?_
  congr 1
  have e := levs_fil p n [([], 0)]
  rw [fil_zero p _ (levs_all p n _ (fun q hq => by simp at hq; subst hq; simp; omega))] at e
  rw [e]
  simp
/-- and, of two numbers that are each put together of a high and a low part -/
theorem z41 (k q b m n : Nat) (hb : b < 2 ^ k) (hn : n < 2 ^ k) : (2 ^ k * q + b) &&& (2 ^ k * m + n) = 2 ^ k * (q &&& m) + (b &&& n) := by
  apply Nat.eq_of_testBit_eq
  intro i
  have hbn : b &&& n < 2 ^ k := Nat.and_lt_two_pow _ hn
  rw [Nat.testBit_and, Nat.testBit_two_pow_mul_add _ hb, Nat.testBit_two_pow_mul_add _ hn, Nat.testBit_two_pow_mul_add _ hbn]
  split
  · rw [Nat.testBit_and]
  · rw [Nat.testBit_and]
def pop : Nat → Nat → Nat
  | 0, _ => 0
  | n + 1, x => x % 2 + pop n (x / 2)
def cat : List Nat → Nat
  | [] => 0
  | b :: l => 256 * cat l + b
def rep (c : Nat) : Nat → Nat
  | 0 => 0
  | n + 1 => 256 * rep c n + c
theorem z4b (n : Nat) : pop n 0 = 0 := by
  induction n with
  | zero => rfl
  | succ n ih => simp [pop, ih]
theorem fin256 {p : Nat → Bool} (h : (List.range 256).all p = true) (b : Nat) (hb : b < 256) : p b = true := List.all_eq_true.mp h b (by simpa using hb)
def A1 (b : Nat) : Nat := (b / 2 &&& 0x55) + (b &&& 0x55)
def B1 (b : Nat) : Nat := (b / 4 &&& 0x33) + (b &&& 0x33)
def C1 (b : Nat) : Nat := (b / 16 + b) &&& 0x0f
theorem stepA (l : List Nat) (h : ∀ b ∈ l, b < 256) : (cat l / 2 &&& rep 0x55 l.length) + (cat l &&& rep 0x55 l.length) = cat (l.map A1) := by
  induction l with
  | nil => rfl
  | cons b l ih =>
    have hb : b < 256 := h b (by simp)
    have hi := ih (fun x hx => h x (by simp [hx]))
    simp only [cat, rep, List.length_cons, List.map_cons]
    have e1 : (256 * cat l + b) / 2 = 256 * (cat l / 2) + (128 * (cat l % 2) + b / 2) := by omega
    have l1 : 128 * (cat l % 2) + b / 2 < 256 := by omega
    have f : ∀ r < 2, (128 * r + b / 2) &&& 0x55 = b / 2 &&& 0x55 := by
      have := fin256 (p := fun b => (List.range 2).all fun r => (128 * r + b / 2) &&& 0x55 == b / 2 &&& 0x55) (by decide +kernel) b hb
      intro r hr
      have t := List.all_eq_true.mp this r (by simpa using hr)
      simpa using t
    rw [e1, z41 8 _ _ _ _ l1 (by decide), z41 8 _ _ _ _ hb (by decide), f _ (by omega)]
    rw [← hi]
    unfold A1
    omega
theorem stepB (l : List Nat) (h : ∀ b ∈ l, b < 256) : (cat l / 4 &&& rep 0x33 l.length) + (cat l &&& rep 0x33 l.length) = cat (l.map B1) := by
  induction l with
  | nil => rfl
  | cons b l ih =>
    have hb : b < 256 := h b (by simp)
    have hi := ih (fun x hx => h x (by simp [hx]))
    simp only [cat, rep, List.length_cons, List.map_cons]
    have e1 : (256 * cat l + b) / 4 = 256 * (cat l / 4) + (64 * (cat l % 4) + b / 4) := by omega
    have l1 : 64 * (cat l % 4) + b / 4 < 256 := by omega
    have f : ∀ r < 4, (64 * r + b / 4) &&& 0x33 = b / 4 &&& 0x33 := by
      have := fin256 (p := fun b => (List.range 4).all fun r => (64 * r + b / 4) &&& 0x33 == b / 4 &&& 0x33) (by decide +kernel) b hb
      intro r hr
      have t := List.all_eq_true.mp this r (by simpa using hr)
      simpa using t
    rw [e1, z41 8 _ _ _ _ l1 (by decide), z41 8 _ _ _ _ hb (by decide), f _ (by omega)]
    rw [← hi]
    unfold B1
    omega
theorem stepC (l : List Nat) (h : ∀ b ∈ l, b % 16 ≤ 4 ∧ b / 16 ≤ 4) : (cat l / 16 + cat l) &&& rep 0x0f l.length = cat (l.map C1) := by
  induction l with
  | nil => rfl
  | cons b l ih =>
    have hb := h b (by simp)
    have hi := ih (fun x hx => h x (by simp [hx]))
    have hr : cat l % 16 ≤ 4 := by
      cases l with
      | nil => simp [cat]
      | cons c l => have := h c (by simp); simp only [cat]; omega
    simp only [cat, rep, List.length_cons, List.map_cons]
    have e1 : (256 * cat l + b) / 16 + (256 * cat l + b) = 256 * (cat l / 16 + cat l) + (16 * (cat l % 16) + (b / 16 + b)) := by omega
    have l1 : 16 * (cat l % 16) + (b / 16 + b) < 256 := by omega
    have f : ∀ r < 5, (16 * r + (b / 16 + b)) &&& 0x0f = (b / 16 + b) &&& 0x0f := by
      intro r hr
      rw [show (0x0f : Nat) = 2 ^ 4 - 1 from rfl, Nat.and_two_pow_sub_one_eq_mod, Nat.and_two_pow_sub_one_eq_mod]
      omega
    rw [e1, z41 8 _ _ _ _ l1 (by decide), f _ (by omega), hi]
    rfl
def P8 (b : Nat) : Nat := C1 (B1 (A1 b))
theorem bytes_of (n : Nat) : ∀ x : Nat, x < 256 ^ n → ∃ l : List Nat, l.length = n ∧ (∀ b ∈ l, b < 256) ∧ cat l = x := by
  induction n with
  | zero => intro x hx; exact ⟨[], rfl, by simp, by simp [cat]; omega⟩
  | succ n ih =>
    intro x hx
    obtain ⟨l, h1, h2, h3⟩ := ih (x / 256) (by rw [Nat.pow_succ] at hx; omega)
    exact ⟨x % 256 :: l, by simp [h1], by intro b hb; rcases List.mem_cons.mp hb with rfl | h; omega; exact h2 b h, by simp only [cat, h3]; omega⟩
theorem pop8 (b : Nat) (hb : b < 256) : P8 b = pop 8 b ∧ A1 b < 256 ∧ B1 (A1 b) < 256 ∧ B1 (A1 b) % 16 ≤ 4 ∧ B1 (A1 b) / 16 ≤ 4 ∧ P8 b ≤ 8 := by
  have := fin256 (p := fun b => decide (P8 b = pop 8 b ∧ A1 b < 256 ∧ B1 (A1 b) < 256 ∧ B1 (A1 b) % 16 ≤ 4 ∧ B1 (A1 b) / 16 ≤ 4 ∧ P8 b ≤ 8)) (by decide +kernel) b hb
  exact of_decide_eq_true this
/-- The three steps within bytes. -/
theorem steps (x : Nat) (hx : x < 2 ^ 64) : ∃ b0 b1 b2 b3 b4 b5 b6 b7 : Nat, (b0 < 256 ∧ b1 < 256 ∧ b2 < 256 ∧ b3 < 256 ∧ b4 < 256 ∧ b5 < 256 ∧ b6 < 256 ∧ b7 < 256) ∧ x = cat [b0, b1, b2, b3, b4, b5, b6, b7] ∧
    ∃ a b : Nat, a = (x / 2 &&& 6148914691236517205) + (x &&& 6148914691236517205) ∧ a < 2 ^ 64 ∧ b = (a / 4 &&& 3689348814741910323) + (a &&& 3689348814741910323) ∧ b / 16 + b < 2 ^ 64 ∧
    (b / 16 + b) &&& 1085102592571150095 = cat [pop 8 b0, pop 8 b1, pop 8 b2, pop 8 b3, pop 8 b4, pop 8 b5, pop 8 b6, pop 8 b7] := by
  obtain ⟨l, h1, h2, h3⟩ := bytes_of 8 x hx
  match l, h1 with
  | [b0, b1, b2, b3, b4, b5, b6, b7], _ =>
    simp only [List.mem_cons, List.not_mem_nil, or_false, forall_eq_or_imp, forall_eq] at h2
    obtain ⟨g0, g1, g2, g3, g4, g5, g6, g7⟩ := h2
    have q0 := pop8 b0 g0; have q1 := pop8 b1 g1; have q2 := pop8 b2 g2; have q3 := pop8 b3 g3
    have q4 := pop8 b4 g4; have q5 := pop8 b5 g5; have q6 := pop8 b6 g6; have q7 := pop8 b7 g7
    refine ⟨b0, b1, b2, b3, b4, b5, b6, b7, ⟨g0, g1, g2, g3, g4, g5, g6, g7⟩, h3.symm, ?_⟩
    have sA := stepA [b0, b1, b2, b3, b4, b5, b6, b7] (by simp; omega)
    have sB := stepB ([b0, b1, b2, b3, b4, b5, b6, b7].map A1) (by simp; omega)
    have sC := stepC (([b0, b1, b2, b3, b4, b5, b6, b7].map A1).map B1) (by simp; omega)
    refine ⟨_, _, rfl, ?_, rfl, ?_, ?_⟩
    all_goals subst h3
    · show (cat _ / 2 &&& rep 0x55 8) + (cat _ &&& rep 0x55 8) < _
      have := sA
      simp only [List.length_cons, List.length_nil, Nat.zero_add] at this
      rw [this]
      simp only [List.map_cons, List.map_nil, cat]
      omega
    · have e1 := sA
      simp only [List.length_cons, List.length_nil, Nat.zero_add] at e1
      have e2 := sB
      simp only [List.length_map, List.length_cons, List.length_nil, Nat.zero_add] at e2
      have e1' : (cat [b0, b1, b2, b3, b4, b5, b6, b7] / 2 &&& 6148914691236517205) + (cat [b0, b1, b2, b3, b4, b5, b6, b7] &&& 6148914691236517205) = _ := e1
      have e2' : (cat (List.map A1 [b0, b1, b2, b3, b4, b5, b6, b7]) / 4 &&& 3689348814741910323) + (cat (List.map A1 [b0, b1, b2, b3, b4, b5, b6, b7]) &&& 3689348814741910323) = _ := e2
      rw [e1', e2']
      simp only [List.map_cons, List.map_nil, cat]
      omega
    · have e1 := sA
      simp only [List.length_cons, List.length_nil, Nat.zero_add] at e1
      have e2 := sB
      simp only [List.length_map, List.length_cons, List.length_nil, Nat.zero_add] at e2
      have e3 := sC
      simp only [List.length_map, List.length_cons, List.length_nil, Nat.zero_add] at e3
      have e1' : (cat [b0, b1, b2, b3, b4, b5, b6, b7] / 2 &&& 6148914691236517205) + (cat [b0, b1, b2, b3, b4, b5, b6, b7] &&& 6148914691236517205) = _ := e1
      have e2' : (cat (List.map A1 [b0, b1, b2, b3, b4, b5, b6, b7]) / 4 &&& 3689348814741910323) + (cat (List.map A1 [b0, b1, b2, b3, b4, b5, b6, b7]) &&& 3689348814741910323) = _ := e2
      have e3' : (cat (List.map B1 (List.map A1 [b0, b1, b2, b3, b4, b5, b6, b7])) / 16 + cat (List.map B1 (List.map A1 [b0, b1, b2, b3, b4, b5, b6, b7]))) &&& 1085102592571150095 = _ := e3
      rw [e1', e2', e3']
      have p0 := q0.1; have p1 := q1.1; have p2 := q2.1; have p3 := q3.1; have p4 := q4.1; have p5 := q5.1; have p6 := q6.1; have p7 := q7.1
      unfold P8 at p0 p1 p2 p3 p4 p5 p6 p7
      simp only [List.map_cons, List.map_nil, p0, p1, p2, p3, p4, p5, p6, p7]
theorem z1c (b q n : Nat) (hb : b < 256) : pop (8 + n) (256 * q + b) = pop 8 b + pop n q := by
  rw [Nat.add_comm 8 n]
  simp only [pop]
  have e : (256 * q + b) / 2 / 2 / 2 / 2 / 2 / 2 / 2 / 2 = q := by omega
  rw [e]
  omega
theorem pop_more (n : Nat) : ∀ m x : Nat, x < 2 ^ n → pop (n + m) x = pop n x := by
  induction n with
  | zero => intro m x hx; obtain rfl : x = 0 := by omega
            rw [z4b, z4b]
  | succ n ih =>
    intro m x hx
    rw [Nat.succ_add]
    simp only [pop]
    rw [ih m (x / 2) (by rw [Nat.pow_succ] at hx; omega)]
theorem pop_cat8 (b0 b1 b2 b3 b4 b5 b6 b7 : Nat) (h : b0 < 256 ∧ b1 < 256 ∧ b2 < 256 ∧ b3 < 256 ∧ b4 < 256 ∧ b5 < 256 ∧ b6 < 256 ∧ b7 < 256) :
    pop 64 (cat [b0, b1, b2, b3, b4, b5, b6, b7]) = pop 8 b0 + pop 8 b1 + pop 8 b2 + pop 8 b3 + pop 8 b4 + pop 8 b5 + pop 8 b6 + pop 8 b7 := by
  simp only [cat]
  rw [show (64 : Nat) = 8 + (8 + (8 + (8 + (8 + (8 + (8 + (8 + 0))))))) from rfl]
  rw [z1c _ _ _ (by omega), z1c _ _ _ (by omega), z1c _ _ _ (by omega), z1c _ _ _ (by omega), z1c _ _ _ (by omega), z1c _ _ _ (by omega), z1c _ _ _ (by omega), z1c _ _ _ (by omega)]
  simp only [pop]
  omega
/-- The last steps: the bytes' sum. -/
theorem folds (p0 p1 p2 p3 p4 p5 p6 p7 : Nat) (h : p0 ≤ 8 ∧ p1 ≤ 8 ∧ p2 ≤ 8 ∧ p3 ≤ 8 ∧ p4 ≤ 8 ∧ p5 ≤ 8 ∧ p6 ≤ 8 ∧ p7 ≤ 8) (y z u v : Nat) (hy : y = cat [p0, p1, p2, p3, p4, p5, p6, p7])
    (hz : z = y + y / 256) (hu : u = z + z / 65536) (hv : v = u + u / 4294967296) : z < 2 ^ 63 ∧ u < 2 ^ 63 ∧ v < 2 ^ 63 ∧ v % 128 = p0 + p1 + p2 + p3 + p4 + p5 + p6 + p7 := by
  simp only [cat] at hy
  have z0 : z = (p0 + p1) + 256 * (p1 + p2) + 65536 * (p2 + p3) + 16777216 * (p3 + p4) + 4294967296 * (p4 + p5) + 1099511627776 * (p5 + p6) + 281474976710656 * (p6 + p7) + 72057594037927936 * p7 := by omega
  have u0 : u = (p0 + p1 + p2 + p3) + 256 * (p1 + p2 + p3 + p4) + 65536 * (p2 + p3 + p4 + p5) + 16777216 * (p3 + p4 + p5 + p6) + 4294967296 * (p4 + p5 + p6 + p7) + 1099511627776 * (p5 + p6 + p7) + 281474976710656 * (p6 + p7) + 72057594037927936 * p7 := by
    have : z / 65536 = (p2 + p3) + 256 * (p3 + p4) + 65536 * (p4 + p5) + 16777216 * (p5 + p6) + 4294967296 * (p6 + p7) + 1099511627776 * p7 := by omega
    omega
  have v0 : u / 4294967296 = (p4 + p5 + p6 + p7) + 256 * (p5 + p6 + p7) + 65536 * (p6 + p7) + 16777216 * p7 := by omega
  have zl : z < 2 ^ 63 := by clear hz hu hv u0 v0 hy; omega
  clear hy hz
  have ul : u < 2 ^ 63 := by clear hu hv v0 z0; omega
  clear hu z0
  have v1 : v = (p0 + p1 + p2 + p3 + p4 + p5 + p6 + p7) + 128 * (2 * (p1 + p2 + p3 + p4 + p5 + p6 + p7) + 512 * (p2 + p3 + p4 + p5 + p6 + p7) + 131072 * (p3 + p4 + p5 + p6 + p7) + 33554432 * (p4 + p5 + p6 + p7) + 8589934592 * (p5 + p6 + p7) + 2199023255552 * (p6 + p7) + 562949953421312 * p7) := by
    rw [hv, v0, u0]; clear hv v0 u0 ul zl; omega
  have vl : v < 2 ^ 63 := by clear v0 u0; omega
  refine ⟨zl, ul, vl, ?_⟩
  rw [v1, Nat.add_mul_mod_self_left]
  clear v1 v0 u0 hv vl ul zl
  exact Nat.mod_eq_of_lt (by omega)
theorem z3f (a b : Nat) (ha : a < 2 ^ 64) (hb : b < 2 ^ 64) : Go.bits .and .u64 (a : Int) (b : Int) = ((a &&& b : Nat) : Int) :=
  (Go.bits_nat .u64 64 (by decide) (fun n h0 h1 => by unfold Go.IntKind.wrap; simp [Go.IntKind.bits, Go.IntKind.signed]; omega) a b ha hb).1
theorem z4a (a b : Nat) (ha : a < 2 ^ 63) (hb : b < 2 ^ 63) : Go.bits .and .i64 (a : Int) (b : Int) = ((a &&& b : Nat) : Int) :=
  (Go.bits_nat .i64 63 (by decide) (fun n h0 h1 => by rw [Go.IntKind.wrap_i64]; omega) a b ha hb).1
theorem z2a (a b : Nat) (ha : a < 2 ^ 63) (hb : b < 2 ^ 63) : Go.bits .or .i64 (a : Int) (b : Int) = ((a ||| b : Nat) : Int) :=
  (Go.bits_nat .i64 63 (by decide) (fun n h0 h1 => by rw [Go.IntKind.wrap_i64]; omega) a b ha hb).2
theorem z19 (a : Nat) (ha : a < 2 ^ 64) : IntKind.u64.wrap (a : Int) = (a : Int) := by
  unfold Go.IntKind.wrap; simp [Go.IntKind.bits, Go.IntKind.signed]; omega
theorem and1 (x : Nat) : x &&& 1 = x % 2 := Nat.and_one_is_mod x
theorem ones64 (x : Nat) (hx : x < 2 ^ 64) : bits_OnesCount64.f (x : Int) = some ((pop 64 x : Nat) : Int) := by
  obtain ⟨b0, b1, b2, b3, b4, b5, b6, b7, hb, hc, a, b, ha, ha', hbb, hb', hy⟩ := steps x hx
  unfold bits_OnesCount64.f
  have l5 : (6148914691236517205 : Nat) < 2 ^ 64 := by decide
  have l3 : (3689348814741910323 : Nat) < 2 ^ 64 := by decide
  have lf : (1085102592571150095 : Nat) < 2 ^ 64 := by decide
  have d2 : ((x : Int) / 2) = ((x / 2 : Nat) : Int) := by omega
  have eA : IntKind.u64.wrap ((Go.bits .and .u64 ((x : Int) / 2) 6148914691236517205) + (Go.bits .and .u64 (x : Int) 6148914691236517205)) = (a : Int) := by
    have i1 := z3f (x / 2) 6148914691236517205 (by omega) l5
    have i2 := z3f x 6148914691236517205 hx l5
    rw [d2]
    have i1' : Go.bits .and .u64 ((x / 2 : Nat) : Int) 6148914691236517205 = _ := i1
    have i2' : Go.bits .and .u64 ((x : Nat) : Int) 6148914691236517205 = _ := i2
    rw [i1', i2', ← Int.natCast_add, ← ha]
    exact z19 a ha'
  simp only [eA]
  have d4 : ((a : Int) / 4) = ((a / 4 : Nat) : Int) := by omega
  have lb : b < 2 ^ 64 := by omega
  have eB : IntKind.u64.wrap ((Go.bits .and .u64 ((a : Int) / 4) 3689348814741910323) + (Go.bits .and .u64 (a : Int) 3689348814741910323)) = (b : Int) := by
    have i1 := z3f (a / 4) 3689348814741910323 (by omega) l3
    have i2 := z3f a 3689348814741910323 ha' l3
    rw [d4]
    have i1' : Go.bits .and .u64 ((a / 4 : Nat) : Int) 3689348814741910323 = _ := i1
    have i2' : Go.bits .and .u64 ((a : Nat) : Int) 3689348814741910323 = _ := i2
    rw [i1', i2', ← Int.natCast_add, ← hbb]
    exact z19 b lb
  simp only [eB]
  have d16 : ((b : Int) / 16) + (b : Int) = ((b / 16 + b : Nat) : Int) := by omega
  rw [d16, z19 _ hb']
  have eC : Go.bits .and .u64 ((b / 16 + b : Nat) : Int) 1085102592571150095 = (((b / 16 + b) &&& 1085102592571150095 : Nat) : Int) := z3f _ 1085102592571150095 hb' lf
  simp only [eC, hy]
  have q0 := (pop8 b0 hb.1).1 ▸ (pop8 b0 hb.1).2.2.2.2.2
  have r := fun c (hc : c < 256) => (pop8 c hc).1 ▸ (pop8 c hc).2.2.2.2.2
  obtain ⟨g1, g2, g3, g4⟩ := folds (pop 8 b0) (pop 8 b1) (pop 8 b2) (pop 8 b3) (pop 8 b4) (pop 8 b5) (pop 8 b6) (pop 8 b7)
    ⟨r _ (by omega), r _ (by omega), r _ (by omega), r _ (by omega), r _ (by omega), r _ (by omega), r _ (by omega), r _ (by omega)⟩ _ _ _ _ rfl rfl rfl rfl
  generalize hY : cat [pop 8 b0, pop 8 b1, pop 8 b2, pop 8 b3, pop 8 b4, pop 8 b5, pop 8 b6, pop 8 b7] = Y at *
  have z1 : ((Y : Int) + (Y : Int) / 256) = ((Y + Y / 256 : Nat) : Int) := by omega
  rw [z1, z19 _ (by omega)]
  generalize hZ : Y + Y / 256 = Z at *
  have z2 : ((Z : Int) + (Z : Int) / 65536) = ((Z + Z / 65536 : Nat) : Int) := by omega
  rw [z2, z19 _ (by omega)]
  generalize hU : Z + Z / 65536 = U at *
  have z3 : ((U : Int) + (U : Int) / 4294967296) = ((U + U / 4294967296 : Nat) : Int) := by omega
  rw [z3, z19 _ (by omega)]
  generalize hV : U + U / 4294967296 = V at *
  rw [w64 (by omega) (by omega)]
  have e7 : Go.bits .and .i64 (V : Int) 127 = ((V &&& 127 : Nat) : Int) := z4a V 127 (by omega) (by decide)
  rw [e7, show (127 : Nat) = 2 ^ 7 - 1 from rfl, Nat.and_two_pow_sub_one_eq_mod, show 2 ^ 7 = 128 from rfl, g4, hc, pop_cat8 _ _ _ _ _ _ _ _ hb]
theorem onesCount (x : Nat) (hx : x < 2 ^ 64) : bits_OnesCount.f (x : Int) = some ((pop 64 x : Nat) : Int) := by
  unfold bits_OnesCount.f
  rw [ones64 x hx]; rfl
theorem l08Ones_from (m : Nat) : ∀ (x n : Nat), x < 2 ^ m → m ≤ 62 → n + m ≤ 100 → Ev (fun k => spec_l08Ones.l0 k (x : Int) (n : Int)) ((n + pop m x : Nat) : Int) := by
  induction m with
  | zero =>
    intro x n hx hm hn
    obtain rfl : x = 0 := by omega
    refine z5 ?_
    simp only [spec_l08Ones.l0, pop]
    exact z6 (by omega) (z8 _)
  | succ m ih =>
    intro x n hx hm hn
    have hp : 2 ^ m ≤ 2 ^ 61 := Nat.pow_le_pow_right (by decide) (by omega)
    refine z5 ?_
    simp only [spec_l08Ones.l0]
    by_cases h : 0 < x
    · refine z4 (by omega) ?_
      have e : Go.bits .and .i64 (x : Int) 1 = ((x % 2 : Nat) : Int) := by
        have := z4a x 1 (by rw [Nat.pow_succ] at hx; omega) (by decide)
        rw [and1] at this; exact this
      rw [e, ← Int.natCast_add, w64 (by omega) (by omega)]
      have d : (x : Int) / 2 = ((x / 2 : Nat) : Int) := by omega
      rw [d]
      have := ih (x / 2) (n + x % 2) (by rw [Nat.pow_succ] at hx; omega) (by omega) (by omega)
      refine z13 this ?_
      simp only [pop]; omega
    · obtain rfl : x = 0 := by omega
      rw [z4b]
      exact z6 (by omega) (z8 _)
theorem l08Ones_ev (m : Nat) (x : Nat) (hx : x < 2 ^ m) (hm : m ≤ 62) : Ev (fun k => spec_l08Ones.f k (x : Int)) ((pop 64 x : Nat) : Int) := by
  unfold spec_l08Ones.f
  have := l08Ones_from m x 0 hx hm (by omega)
  refine z13 this ?_
  rw [show (64 : Nat) = m + (64 - m) by omega, pop_more _ _ _ hx]
  simp
/-- A table of w columns and h rows has from 1 to 6 of each; a mask has its bits below w * h. -/
def isT (w h : Int) : Bool := decide (1 ≤ w ∧ w ≤ 6 ∧ 1 ≤ h ∧ h ≤ 6)
def okS (w h m : Int) : Bool := isT w h && decide (0 ≤ m ∧ m < 2 ^ (w * h).toNat)
theorem isT_iff {w h : Int} : isT w h = true ↔ 1 ≤ w ∧ w ≤ 6 ∧ 1 ≤ h ∧ h ≤ 6 := by simp [isT]
theorem okS_iff {w h m : Int} : okS w h m = true ↔ (1 ≤ w ∧ w ≤ 6 ∧ 1 ≤ h ∧ h ≤ 6) ∧ 0 ≤ m ∧ m < 2 ^ (w * h).toNat := by simp [okS, isT]
theorem table_all {p : Int → Int → Bool} (H : (List.range 6).all (fun w => (List.range 6).all fun h => p ((w : Int) + 1) ((h : Int) + 1)) = true) (w h : Int) (hw : isT w h = true) : p w h = true := by
  obtain ⟨a, b, c, d⟩ := isT_iff.mp hw
  have e1 : w = (((w - 1).toNat : Nat) : Int) + 1 := by omega
  have e2 : h = (((h - 1).toNat : Nat) : Int) + 1 := by omega
  have := List.all_eq_true.mp (List.all_eq_true.mp H (w - 1).toNat (by simp; omega)) (h - 1).toNat (by simp; omega)
  rw [e1, e2]; exact this
theorem shl_table (w h : Int) (hw : isT w h = true) : (0 ≤ wrap64 (w * h) ∧ wrap64 (w * h) = w * h ∧ w * h ≤ 36 ∧ shl .i64 1 (wrap64 (w * h)) = 2 ^ (w * h).toNat) ∧ (2 : Int) ^ (w * h).toNat ≤ 68719476736 ∧ 2 ≤ (2 : Int) ^ (w * h).toNat := by
  have := table_all (p := fun w h => decide ((0 ≤ wrap64 (w * h) ∧ wrap64 (w * h) = w * h ∧ w * h ≤ 36 ∧ shl .i64 1 (wrap64 (w * h)) = 2 ^ (w * h).toNat) ∧ (2 : Int) ^ (w * h).toNat ≤ 68719476736 ∧ 2 ≤ (2 : Int) ^ (w * h).toNat)) (by decide +kernel) w h hw
  exact of_decide_eq_true this
theorem z31 (w h m : Int) : spec_ShapeOk.f w h m = some (okS w h m) := by
  unfold spec_ShapeOk.f
  simp only [in_eq, Option.bind_some]
  by_cases c : isT w h = true
  · obtain ⟨⟨a1, a2, a3, a4⟩, a5, a6⟩ := shl_table w h c
    have c' := isT_iff.mp c
    rw [if_pos (by simp; omega), if_pos (by simp; omega), if_pos a1, a4, w64 (by omega) (by omega)]
    unfold okS
    rw [c, Bool.true_and]
    exact congrArg some (decide_eq_decide.mpr (by omega))
  · have e : okS w h m = false := by unfold okS; simp [c]
    have c' : ¬ (1 ≤ w ∧ w ≤ 6 ∧ 1 ≤ h ∧ h ≤ 6) := fun x => c (isT_iff.mpr x)
    rw [e]
    by_cases d : 1 ≤ w ∧ w ≤ 6
    · rw [if_pos (decide_eq_true d), if_neg (fun x => c' (by have := of_decide_eq_true x; omega))]
    · rw [if_neg (fun x => d (of_decide_eq_true x))]
theorem impl_isTable (w h : Int) : impl_isTable.f w h = some (isT w h) := by
  unfold impl_isTable.f
  simp only [z27, Option.bind_some]
  by_cases d : 1 ≤ w ∧ w ≤ 6
  · rw [if_pos (decide_eq_true d)]
    exact congrArg some (decide_eq_decide.mpr (by omega))
  · rw [if_neg (fun x => d (of_decide_eq_true x))]
    exact congrArg some (decide_eq_false (by omega)).symm
theorem z32 (w h m : Int) : impl_ShapeOk.f w h m = some (okS w h m) := by
  unfold impl_ShapeOk.f
  simp only [impl_isTable, Option.bind_some]
  by_cases c : isT w h = true
  · obtain ⟨⟨a1, a2, a3, a4⟩, a5, a6⟩ := shl_table w h c
    rw [if_pos c, if_pos a1, a4]
    unfold okS
    rw [c]
    rw [Bool.true_and]
    by_cases g : m ≥ 0
    · rw [if_pos g]
      exact congrArg some (decide_eq_decide.mpr (by omega))
    · rw [if_neg g]
      exact congrArg some (decide_eq_false (by omega)).symm
  · rw [if_neg c]; unfold okS; simp [c]
theorem z51 (x i : Nat) (hi : i ≤ 64) : shr .i64 (x : Int) (i : Int) = ((x / 2 ^ i : Nat) : Int) := by
  unfold shr
  rw [show min ((i : Int)).toNat (IntKind.bits .i64) = i from by
    have : IntKind.bits .i64 = 64 := rfl
    omega]
  rw [Int.natCast_ediv, Int.natCast_pow]; rfl
theorem bit_at (x i : Nat) (hx : x < 2 ^ 62) (hi : i ≤ 64) : Go.bits .and .i64 (shr .i64 (x : Int) (i : Int)) 1 = ((x / 2 ^ i % 2 : Nat) : Int) := by
  rw [z51 x i hi]
  have h := z4a (x / 2 ^ i) 1 (Nat.lt_of_le_of_lt (Nat.div_le_self _ _) (by omega)) (by decide)
  rw [and1] at h
  exact h
theorem z16 (x i : Nat) : x.testBit i = decide (x / 2 ^ i % 2 = 1) := Nat.testBit_eq_decide_div_mod_eq
theorem bit_eq1 (x i : Nat) (hx : x < 2 ^ 62) (hi : i ≤ 64) : (Go.bits .and .i64 (shr .i64 (x : Int) (i : Int)) 1 = 1) ↔ x.testBit i = true := by
  rw [bit_at x i hx hi, z16, decide_eq_true_iff]
  generalize x / 2 ^ i % 2 = q
  omega
theorem bit_eq0 (x i : Nat) (hx : x < 2 ^ 62) (hi : i ≤ 64) : (Go.bits .and .i64 (shr .i64 (x : Int) (i : Int)) 1 = 0) ↔ x.testBit i = false := by
  rw [bit_at x i hx hi, z16, decide_eq_false_iff_not]
  have : x / 2 ^ i % 2 < 2 := Nat.mod_lt _ (by decide)
  generalize x / 2 ^ i % 2 = q at *
  omega
theorem z14 (i : Nat) (hi : i ≤ 62) : shl .i64 1 (i : Int) = ((2 ^ i : Nat) : Int) := by
  unfold shl
  rw [show min ((i : Int)).toNat (IntKind.bits .i64) = i from by
    have : IntKind.bits .i64 = 64 := rfl
    omega]
  have h : 2 ^ i ≤ 2 ^ 62 := Nat.pow_le_pow_right (by decide) hi
  have e : (1 : Int) * 2 ^ i = ((2 ^ i : Nat) : Int) := by rw [Int.natCast_pow]; simp
  rw [e, IntKind.wrap_i64]
  generalize 2 ^ i = q at *
  omega
theorem z40 (x i : Nat) (hx : x < 2 ^ 62) (hi : i ≤ 64) : impl_has.f (x : Int) (i : Int) = some (x.testBit i) := by
  unfold impl_has.f
  rw [if_pos (by omega)]
  have h := bit_eq1 x i hx hi
  cases e : x.testBit i
  · rw [e] at h
    simp at h
    exact congrArg some (by simpa using h)
  · rw [e] at h
    simp at h
    exact congrArg some (by simpa using h)
theorem zero_test (x i : Nat) (h : x / 2 ^ i = 0) (j : Nat) (hj : i ≤ j) : x.testBit j = false := by
  apply Nat.testBit_lt_two_pow
  have : x < 2 ^ i := by
    rcases Nat.div_eq_zero_iff.mp h with h | h
    · have := Nat.two_pow_pos i; omega
    · exact h
  exact Nat.lt_of_lt_of_le this (Nat.pow_le_pow_right (by decide) hj)
/-- The cells of a mask from i on, d of them. -/
def cl (x : Nat) : Nat → Nat → List Nat
  | _, 0 => []
  | i, d + 1 => if x.testBit i then i :: cl x (i + 1) d else cl x (i + 1) d
theorem cl_none (x : Nat) (d : Nat) : ∀ i, x / 2 ^ i = 0 → cl x i d = [] := by
  induction d with
  | zero => intro i _; rfl
  | succ d ih =>
    intro i h
    simp only [cl]
    rw [zero_test x i h i (Nat.le_refl _)]
    simp
    apply ih
    rw [Nat.pow_succ, ← Nat.div_div_eq_div_mul, h]
theorem cl_len (x : Nat) (d : Nat) : ∀ i, (cl x i d).length ≤ d := by
  induction d with
  | zero => intro i; simp [cl]
  | succ d ih => intro i; have := ih (i + 1); simp only [cl]; split <;> simp <;> omega
theorem cl_mem (x : Nat) (d : Nat) : ∀ i j, j ∈ cl x i d ↔ (i ≤ j ∧ j < i + d ∧ x.testBit j = true) := by
  induction d with
  | zero => intro i j; simp [cl]; omega
  | succ d ih =>
    intro i j
    simp only [cl]
    by_cases h : x.testBit i = true
    · rw [if_pos h, List.mem_cons, ih]
      constructor
      · rintro (rfl | ⟨a, b, c⟩)
        · exact ⟨by omega, by omega, h⟩
        · exact ⟨by omega, by omega, c⟩
      · rintro ⟨a, b, c⟩
        by_cases e : j = i
        · exact .inl e
        · exact .inr ⟨by omega, by omega, c⟩
    · rw [if_neg h, ih]
      constructor
      · rintro ⟨a, b, c⟩; exact ⟨by omega, by omega, c⟩
      · rintro ⟨a, b, c⟩
        refine ⟨?_, by omega, c⟩
        rcases Nat.lt_or_ge i j with g | g
        · omega
        · obtain rfl : i = j := by omega
          exact absurd c h
theorem tdivmod (i w : Nat) (hw : 0 < w) (hi : i < 100) (hww : w ≤ 100) : Int.tmod (i : Int) (w : Int) = ((i % w : Nat) : Int) ∧ wrap64 (Int.tdiv (i : Int) (w : Int)) = ((i / w : Nat) : Int) := by
  have e1 : Int.tmod (i : Int) (w : Int) = ((i % w : Nat) : Int) := by rw [Int.tmod_eq_emod_of_nonneg (by omega)]; rfl
  have e2 : Int.tdiv (i : Int) (w : Int) = ((i / w : Nat) : Int) := by rw [Int.tdiv_eq_ediv_of_nonneg (by omega)]; rfl
  refine ⟨e1, ?_⟩
  have : i / w ≤ i := Nat.div_le_self _ _
  rw [e2]
  generalize i / w = q at *
  exact w64 (by omega) (by omega)
theorem ok_nat {w h m : Int} (c : okS w h m = true) : ∃ W H x : Nat, w = W ∧ h = H ∧ m = x ∧ (1 ≤ W ∧ W ≤ 6) ∧ (1 ≤ H ∧ H ≤ 6) ∧ x < 2 ^ (W * H) ∧ W * H ≤ 36 := by
  obtain ⟨hT, h0, h1⟩ := okS_iff.mp c
  refine ⟨w.toNat, h.toNat, m.toNat, by omega, by omega, by omega, by omega, by omega, ?_, ?_⟩
  · have e : m = (m.toNat : Int) := by omega
    have e2 : (w * h).toNat = w.toNat * h.toNat := by
      rw [Int.toNat_mul (by omega) (by omega)]
    rw [e, e2] at h1
    exact_mod_cast h1
  · have a : w.toNat ≤ 6 := by omega
    have b : h.toNat ≤ 6 := by omega
    calc w.toNat * h.toNat ≤ 6 * 6 := Nat.mul_le_mul a b
      _ = 36 := rfl
def z10 (w i : Nat) : S51 := ⟨((i % w : Nat) : Int), ((i / w : Nat) : Int)⟩
theorem z3e (w n x : Nat) (hw : 0 < w) (hww : w ≤ 6) (hn : n ≤ 36) (hx : x < 2 ^ n) (d : Nat) : ∀ (i : Nat) (out : List S51), i + d = n → out.length + d ≤ 100 →
    Ev (fun k => spec_l08Cells.l0 k (w : Int) (x : Int) out (i : Int)) (out ++ (cl x i d).map (z10 w)) := by
  have hx62 : x < 2 ^ 62 := Nat.lt_of_lt_of_le hx (Nat.pow_le_pow_right (by decide) (by omega))
  induction d with
  | zero =>
    intro i out h ho
    refine z5 ?_
    simp only [spec_l08Cells.l0, cl, List.map_nil, List.append_nil]
    refine z4 (by omega) ?_
    rw [z51 x i (by omega)]
    have : x / 2 ^ i = 0 := Nat.div_eq_of_lt (by rw [show i = n by omega]; exact hx)
    exact z6 (by omega) (z8 _)
  | succ d ih =>
    intro i out h ho
    refine z5 ?_
    simp only [spec_l08Cells.l0]
    refine z4 (by omega) ?_
    by_cases z : x / 2 ^ i = 0
    · rw [cl_none x (d + 1) i z]
      refine z6 (by rw [z51 x i (by omega)]; omega) (z13 (z8 _) (by simp))
    · refine z4 (by rw [z51 x i (by omega)]; generalize x / 2 ^ i = q at *; omega) ?_
      have e : wrap64 ((i : Int) + 1) = ((i + 1 : Nat) : Int) := by rw [w64 (by omega) (by omega)]; omega
      obtain ⟨t1, t2⟩ := tdivmod i w hw (by omega) (by omega)
      simp only [cl]
      rw [e, t1, t2]
      by_cases b : x.testBit i = true
      · rw [if_pos b]
        refine z4 ((bit_eq1 x i hx62 (by omega)).mpr b) (z6 (by omega) (z4 (by omega) ?_))
        have := ih (i + 1) (out ++ [z10 w i]) (by omega) (by simp; omega)
        simpa [z10] using this
      · rw [if_neg b]
        exact z6 (fun c => b ((bit_eq1 x i hx62 (by omega)).mp c)) (ih (i + 1) out (by omega) (by omega))
theorem z28 (W n x : Nat) (hW : 1 ≤ W ∧ W ≤ 6) (hn : n ≤ 36) (hx : x < 2 ^ n) : Ev (fun k => spec_l08Cells.f k (W : Int) (x : Int)) ((cl x 0 n).map (z10 W)) := by
  unfold spec_l08Cells.f
  have := z3e W n x (by omega) (by omega) hn hx n 0 [] (by omega) (by simp; omega)
  simpa using this
theorem rd_mid (pre suf : List Int) (a : Int) : rd (pre ++ a :: suf) (pre.length : Int) = a := by
  simp [rd, List.getD_eq_getElem?_getD]
theorem z11 {α : Type} (pre : List α) (a : α) (h : pre.length < 1000000) : wrap64 ((pre.length : Int) + 1) = ((pre ++ [a]).length : Int) := by
  rw [w64 (by omega) (by omega)]; simp
def nb (W H i : Nat) : List Nat :=
  (if 0 < i / W then [i - W] else []) ++ (if 0 < i % W then [i - 1] else []) ++ (if i % W + 1 < W then [i + 1] else []) ++ (if i / W + 1 < H then [i + W] else [])
def zb (l : List Nat) : List Int := l.map (fun (j : Nat) => (j : Int))
theorem nb_ev (W H i : Nat) (hW : 1 ≤ W ∧ W ≤ 6) (hH : 1 ≤ H ∧ H ≤ 6) (hi : i < W * H) (hn : W * H ≤ 36) : Ev (fun k => impl_neighbors.f k (W : Int) (H : Int) (i : Int)) (zb (nb W H i)) := by
  have hi36 : i < 36 := by omega
  have wW : wrap64 ((W : Int) - 1) = (W : Int) - 1 := w64 (by omega) (by omega)
  have wH : wrap64 ((H : Int) - 1) = (H : Int) - 1 := w64 (by omega) (by omega)
  have wi : wrap64 ((i : Int) - 1) = (i : Int) - 1 := w64 (by omega) (by omega)
  have wi' : wrap64 ((i : Int) + 1) = (i : Int) + 1 := w64 (by omega) (by omega)
  have wiw : wrap64 ((i : Int) - W) = (i : Int) - W := w64 (by omega) (by omega)
  have wiw' : wrap64 ((i : Int) + W) = (i : Int) + W := w64 (by omega) (by omega)
  unfold impl_neighbors.f
  obtain ⟨t1, t2⟩ := tdivmod i W (by omega) (by omega) (by omega)
  have hm : i % W < W := Nat.mod_lt _ (by omega)
  have hd : i / W * W + i % W = i := Nat.div_add_mod' i W
  have hdl : i / W < H := (Nat.div_lt_iff_lt_mul (by omega)).mpr (by rw [Nat.mul_comm]; exact hi)
  have hwd : 0 < i / W → W ≤ i := fun h => by
    have : 1 * W ≤ i / W * W := Nat.mul_le_mul_right W h
    omega
  rw [t1, t2, wiw]
  unfold nb
  generalize i / W = Y at *
  generalize i % W = X at *
  have last : ∀ out : List Int, out.length ≤ 10 → Ev (fun k => impl_neighbors.j1 k (W : Int) (H : Int) (i : Int) (X : Int) (Y : Int) out) (out ++ zb ((if X + 1 < W then [i + 1] else []) ++ (if Y + 1 < H then [i + W] else []))) := by
    intro out ho
    refine z5 ?_
    simp only [impl_neighbors.j1, wW, wH, wi', wiw']
    by_cases c : X + 1 < W
    · rw [if_pos c]
      refine z4 (by omega) (z4 (by omega) (z9 rfl ?_))
      by_cases d : Y + 1 < H
      · rw [if_pos d]
        exact z4 (by omega) (z4 (by simp; omega) (z13 (z8 _) (by simp [zb])))
      · rw [if_neg d]
        exact z6 (by omega) (z13 (z8 _) (by simp [zb]))
    · rw [if_neg c]
      refine z6 (by omega) ?_
      by_cases d : Y + 1 < H
      · rw [if_pos d]
        exact z4 (by omega) (z4 (by omega) (z13 (z8 _) (by simp [zb])))
      · rw [if_neg d]
        exact z6 (by omega) (z13 (z8 _) (by simp [zb]))
  have mid : ∀ out : List Int, out.length ≤ 5 → Ev (fun k => impl_neighbors.j0 k (W : Int) (H : Int) (i : Int) (X : Int) (Y : Int) out) (out ++ zb ((if 0 < X then [i - 1] else []) ++ ((if X + 1 < W then [i + 1] else []) ++ (if Y + 1 < H then [i + W] else [])))) := by
    intro out ho
    refine z5 ?_
    simp only [impl_neighbors.j0, wi]
    by_cases c : 0 < X
    · rw [if_pos c]
      refine z4 (by omega) (z4 (by omega) (z13 (last _ (by simp; omega)) ?_))
      simp [zb]; omega
    · rw [if_neg c]
      exact z6 (by omega) (z13 (last _ (by omega)) (by simp [zb]))
  refine z6 (by omega) (z9 rfl ?_)
  by_cases c : 0 < Y
  · rw [if_pos c]
    refine z4 (by omega) (z4 (by simp) (z13 (mid _ (by simp)) ?_))
    have := hwd c
    simp [zb]; omega
  · rw [if_neg c]
    exact z6 (by omega) (z13 (mid _ (by simp)) (by simp [zb]))
theorem nb_mem (W H i j : Nat) : j ∈ nb W H i ↔ (0 < i / W ∧ j = i - W) ∨ (0 < i % W ∧ j = i - 1) ∨ (i % W + 1 < W ∧ j = i + 1) ∨ (i / W + 1 < H ∧ j = i + W) := by
  unfold nb
  simp only [List.mem_append]
  have e : ∀ (c : Prop) [Decidable c] (z : Nat), j ∈ (if c then [z] else []) ↔ c ∧ j = z := by
    intro c _ z
    by_cases h : c
    · rw [if_pos h]; simp [h]
    · rw [if_neg h]; simp [h]
  rw [e, e, e, e]
  simp only [or_assoc]
theorem nb_in (W H i j : Nat) (hW : 0 < W) (hi : i < W * H) (hj : j ∈ nb W H i) : j < W * H := by
  have hd : i / W * W + i % W = i := Nat.div_add_mod' i W
  have hm : i % W < W := Nat.mod_lt _ hW
  rcases (nb_mem W H i j).mp hj with ⟨_, rfl⟩ | ⟨_, rfl⟩ | ⟨c, rfl⟩ | ⟨c, rfl⟩
  · omega
  · omega
  · have h1 : i / W < H := (Nat.div_lt_iff_lt_mul hW).mpr (by rw [Nat.mul_comm]; exact hi)
    have h2 : (i / W + 1) * W ≤ H * W := Nat.mul_le_mul_right W h1
    rw [Nat.succ_mul, Nat.mul_comm H W] at h2
    generalize i / W * W = q at *
    generalize i % W = r at *
    omega
  · have h2 : (i / W + 1 + 1) * W ≤ H * W := Nat.mul_le_mul_right W c
    rw [Nat.succ_mul, Nat.succ_mul, Nat.mul_comm H W] at h2
    generalize i / W * W = q at *
    generalize i % W = r at *
    omega
/-- What hangs together with s in x. -/
inductive Conn (W H x s : Nat) : Nat → Prop
  | base : Conn W H x s s
  | step {i j : Nat} : Conn W H x s i → j ∈ nb W H i → x.testBit j = true → Conn W H x s j
def z17 (W H x s M : Nat) : Prop := ∀ i, M.testBit i = true ↔ Conn W H x s i
theorem isComp_uniq {W H x s M N : Nat} (h : z17 W H x s M) (h' : z17 W H x s N) : M = N := by
  apply Nat.eq_of_testBit_eq
  intro i
  have a := h i
  have b := h' i
  rw [Bool.eq_iff_iff, a, b]
theorem z24 {W H x s M : Nat} (hs : M.testBit s = true) (hc : ∀ i, M.testBit i = true → Conn W H x s i) (hcl : ∀ i, M.testBit i = true → ∀ j ∈ nb W H i, x.testBit j = true → M.testBit j = true) : z17 W H x s M := by
  intro i
  refine ⟨hc i, fun h => ?_⟩
  induction h with
  | base => exact hs
  | step _ hj hx ih => exact hcl _ ih _ hj hx
/-- How many of the first n bits are not set. -/
def zr : Nat → Nat → Nat
  | 0, _ => 0
  | n + 1, o => (if o.testBit n = true then 0 else 1) + zr n o
theorem zr_congr (n : Nat) (a b : Nat) (h : ∀ i, i < n → a.testBit i = b.testBit i) : zr n a = zr n b := by
  induction n with
  | zero => rfl
  | succ n ih =>
    simp only [zr]
    rw [h n (by omega), ih (fun i hi => h i (by omega))]
theorem zd (o j i : Nat) : (o ||| 2 ^ j).testBit i = (o.testBit i || decide (j = i)) := by
  rw [Nat.testBit_or, Nat.testBit_two_pow]
theorem zr_set (n : Nat) : ∀ (o j : Nat), j < n → o.testBit j = false → zr n (o ||| 2 ^ j) + 1 = zr n o := by
  induction n with
  | zero => intro o j h; omega
  | succ n ih =>
    intro o j h hj
    simp only [zr]
    rw [zd]
    by_cases e : j = n
    · subst e
      rw [hj, zr_congr j (o ||| 2 ^ j) o (fun i hi => by
        rw [zd, decide_eq_false (by omega), Bool.or_false])]
      simp
      omega
    · have := ih o j (by omega) hj
      rw [decide_eq_false e, Bool.or_false]
      omega
theorem zr_mono (n : Nat) (a b : Nat) (h : ∀ i, a.testBit i = true → b.testBit i = true) : zr n b ≤ zr n a := by
  induction n with
  | zero => exact Nat.le_refl _
  | succ n ih =>
    simp only [zr]
    by_cases c : a.testBit n = true
    · rw [if_pos c, if_pos (h n c)]; omega
    · rw [if_neg c]
      split <;> omega
theorem zr_eq (n : Nat) (a b : Nat) (h : ∀ i, a.testBit i = true → b.testBit i = true) (e : zr n b = zr n a) : ∀ i, i < n → a.testBit i = b.testBit i := by
  induction n with
  | zero => intro i hi; omega
  | succ n ih =>
    have hm := zr_mono n a b h
    simp only [zr] at e
    intro i hi
    by_cases c : a.testBit n = true
    · have d := h n c
      rw [if_pos c, if_pos d] at e
      by_cases g : i = n
      · rw [g, c, d]
      · exact ih (by omega) i (by omega)
    · rw [if_neg c] at e
      by_cases d : b.testBit n = true
      · rw [if_pos d] at e; omega
      · rw [if_neg d] at e
        by_cases g : i = n
        · rw [g]; simp at c d; rw [c, d]
        · exact ih (by omega) i (by omega)
theorem z2d {n o i : Nat} (h : o < 2 ^ n) (hi : n ≤ i) : o.testBit i = false :=
  Nat.testBit_lt_two_pow (Nat.lt_of_lt_of_le h (Nat.pow_le_pow_right (by decide) hi))
theorem bit_lt {n o i : Nat} (h : o < 2 ^ n) (hi : o.testBit i = true) : i < n := by
  apply Classical.byContradiction
  intro c
  rw [z2d h (by omega)] at hi
  cases hi
theorem zr_le (n o : Nat) : zr n o ≤ n := by
  induction n with
  | zero => exact Nat.le_refl _
  | succ n ih => simp only [zr]; split <;> omega
/-- What holds of the program's walk through a part: the cells so far, and those still to be looked at. -/
structure Inv (W H x s out : Nat) (Q : List Nat) : Prop where
  start : out.testBit s = true
  conn : ∀ i, out.testBit i = true → Conn W H x s i
  todo : ∀ q ∈ Q, out.testBit q = true
  closed : ∀ i, out.testBit i = true → i ∉ Q → ∀ j ∈ nb W H i, x.testBit j = true → out.testBit j = true
  low : out < 2 ^ (W * H)
theorem part_l1 (W H x s : Nat) (hW : 1 ≤ W ∧ W ≤ 6) (hH : 1 ≤ H ∧ H ≤ 6) (hn : W * H ≤ 36) (hx : x < 2 ^ (W * H)) (now : Nat) (hnow : now < W * H) (m : Nat) (L : List Nat) (hL : L = nb W H now) (hLl : L.length ≤ 4)
    (K : ∀ out Q, Inv W H x s out Q → 2 * zr (W * H) out + Q.length ≤ m → ∃ M : Nat, Ev (fun k => impl_part.l0 k (W : Int) (H : Int) (x : Int) (out : Int) (zb Q)) (M : Int) ∧ z17 W H x s M ∧ M < 2 ^ (W * H)) :
    ∀ (suf pre : List Nat) (out : Nat) (Q : List Nat), L = pre ++ suf → out.testBit s = true → (∀ i, out.testBit i = true → Conn W H x s i) → (∀ q ∈ Q, out.testBit q = true) → out.testBit now = true →
      (∀ i, out.testBit i = true → i ∉ Q → i ≠ now → ∀ j ∈ nb W H i, x.testBit j = true → out.testBit j = true) → (∀ j ∈ pre, x.testBit j = true → out.testBit j = true) → out < 2 ^ (W * H) →
      2 * zr (W * H) out + Q.length ≤ m → m ≤ 1000 →
    ∃ M : Nat, Ev (fun k => impl_part.l1 k (W : Int) (H : Int) (x : Int) (out : Int) (zb Q) (zb L) ((zb L).length : Int) (pre.length : Int)) (M : Int) ∧ z17 W H x s M ∧ M < 2 ^ (W * H) := by
  have hx62 : x < 2 ^ 62 := Nat.lt_of_lt_of_le hx (Nat.pow_le_pow_right (by decide) (by omega))
  have hp36 : 2 ^ (W * H) ≤ 2 ^ 36 := Nat.pow_le_pow_right (by decide) hn
  intro suf
  induction suf with
  | nil =>
    intro pre out Q hp h1 h2 h3 h4 h5 h6 h7 h8 h9
    obtain rfl : L = pre := by simp [hp]
    obtain ⟨M, hM, hM2⟩ := K out Q ⟨h1, h2, h3, fun i hi hq j hj hxj => by
      by_cases e : i = now
      · subst e; exact h6 j (hL ▸ hj) hxj
      · exact h5 i hi hq e j hj hxj, h7⟩ h8
    refine ⟨M, z5 ?_, hM2⟩
    simp only [impl_part.l1]
    exact z6 (by simp [zb]) hM
  | cons a suf ih =>
    intro pre out Q hp h1 h2 h3 h4 h5 h6 h7 h8 h9
    have ha : a ∈ nb W H now := by rw [← hL, hp]; simp
    have han : a < W * H := nb_in W H now a (by omega) hnow ha
    have hlenN : pre.length < L.length := by rw [hp]; simp
    have hlen : (pre.length : Int) < ((zb L).length : Int) := by unfold zb; rw [List.length_map]; omega
    have c6 : pre.length < 1000000 := by omega
    have ho62 : out < 2 ^ 62 := by omega
    have c7 : (zb Q).length < 17592186044416 := by unfold zb; rw [List.length_map]; omega
    have a64 : a ≤ 62 := by omega
    have a65 : a ≤ 64 := by omega
    have hra : rd (zb L) (pre.length : Int) = (a : Int) := by
      have := rd_mid (zb pre) (zb suf) (a : Int)
      rw [hp]
      simpa [zb] using this
    have pl : 2 ^ a < 2 ^ 63 := Nat.pow_lt_pow_right (by decide) (by omega)
    have pl2 : 2 ^ a < 2 ^ (W * H) := Nat.pow_lt_pow_right (by decide) han
    have ho63 : out < 2 ^ 63 := by omega
    have step : ∀ (out' : Nat) (Q' : List Nat), (∀ i, out.testBit i = true → out'.testBit i = true) → (∀ i, out'.testBit i = true → Conn W H x s i) → (∀ q ∈ Q', out'.testBit q = true) → (∀ i, out'.testBit i = true → i ∉ Q' → out.testBit i = true ∧ i ∉ Q) → (x.testBit a = true → out'.testBit a = true) → out' < 2 ^ (W * H) → 2 * zr (W * H) out' + Q'.length ≤ m →
        ∃ M : Nat, Ev (fun k => impl_part.l1 k (W : Int) (H : Int) (x : Int) (out' : Int) (zb Q') (zb L) ((zb L).length : Int) ((pre ++ [a]).length : Int)) (M : Int) ∧ z17 W H x s M ∧ M < 2 ^ (W * H) := by
      intro out' Q' g1 g2 g3 g4 g5 g6 g7
      refine ih (pre ++ [a]) out' Q' (by simp [hp]) (g1 s h1) g2 g3 (g1 now h4) (fun i hi hq he j hj hxj => ?_) (fun j hj hxj => ?_) g6 g7 h9
      · obtain ⟨y1, y2⟩ := g4 i hi hq
        exact g1 j (h5 i y1 y2 he j hj hxj)
      · rcases List.mem_append.mp hj with hj | hj
        · exact g1 j (h6 j hj hxj)
        · obtain rfl : j = a := by simpa using hj
          exact g5 hxj
    by_cases b : x.testBit a = true
    · by_cases d : out.testBit a = true
      · obtain ⟨M, hM, hM2⟩ := step out Q (fun _ h => h) h2 h3 (fun i hi hq => ⟨hi, hq⟩) (fun _ => d) h7 h8
        refine ⟨M, z5 ?_, hM2⟩
        simp only [impl_part.l1]
        rw [hra, z11 pre a c6]
        exact z4 hlen (z4 (Int.natCast_nonneg _) (z4 hlen (z9 (z40 x a hx62 a65) (z4 b (z9 (z40 out a ho62 a65) (z4 d hM))))))
      · have df : out.testBit a = false := by simpa using d
        have hor : out ||| 2 ^ a < 2 ^ (W * H) := Nat.or_lt_two_pow h7 pl2
        have hz := zr_set (W * H) out a han df
        obtain ⟨M, hM, hM2⟩ := step (out ||| 2 ^ a) (Q ++ [a]) (fun i h => by rw [zd, h]; rfl) (fun i hi => by
            rw [zd, Bool.or_eq_true] at hi
            rcases hi with hi | hi
            · exact h2 i hi
            · obtain rfl : a = i := of_decide_eq_true hi
              exact Conn.step (h2 now h4) ha b)
          (fun q hq => by
            rw [zd, Bool.or_eq_true]
            rcases List.mem_append.mp hq with hq | hq
            · exact .inl (h3 q hq)
            · exact .inr (decide_eq_true (List.mem_singleton.mp hq).symm))
          (fun i hi hq => by
            rw [zd, Bool.or_eq_true] at hi
            rcases hi with hi | hi
            · exact ⟨hi, fun z => hq (by simp [z])⟩
            · obtain rfl : a = i := of_decide_eq_true hi
              exact absurd (by simp) hq)
          (fun _ => by rw [zd]; simp) hor (by
            have : (Q ++ [a]).length = Q.length + 1 := by simp
            omega)
        refine ⟨M, z5 ?_, hM2⟩
        simp only [impl_part.l1]
        rw [hra, z11 pre a c6, z14 a a64, z2a out (2 ^ a) ho63 pl]
        have eq : zb Q ++ [(a : Int)] = zb (Q ++ [a]) := by simp [zb]
        rw [eq]
        exact z4 hlen (z4 (Int.natCast_nonneg _) (z4 hlen (z9 (z40 x a hx62 a65) (z4 b (z9 (z40 out a ho62 a65) (z6 d (z4 (Int.natCast_nonneg _) (z4 c7 hM))))))))
    · obtain ⟨M, hM, hM2⟩ := step out Q (fun _ h => h) h2 h3 (fun i hi hq => ⟨hi, hq⟩) (fun z => absurd z b) h7 h8
      refine ⟨M, z5 ?_, hM2⟩
      simp only [impl_part.l1]
      rw [hra, z11 pre a c6]
      exact z4 hlen (z4 (Int.natCast_nonneg _) (z4 hlen (z9 (z40 x a hx62 a65) (z6 b hM))))
theorem part_l0 (W H x s : Nat) (hW : 1 ≤ W ∧ W ≤ 6) (hH : 1 ≤ H ∧ H ≤ 6) (hn : W * H ≤ 36) (hx : x < 2 ^ (W * H)) (m : Nat) (hm : m ≤ 1000) : ∀ (out : Nat) (Q : List Nat), Inv W H x s out Q → 2 * zr (W * H) out + Q.length ≤ m →
    ∃ M : Nat, Ev (fun k => impl_part.l0 k (W : Int) (H : Int) (x : Int) (out : Int) (zb Q)) (M : Int) ∧ z17 W H x s M ∧ M < 2 ^ (W * H) := by
  induction m with
  | zero =>
    intro out Q hI hq
    have hQ : Q = [] := List.length_eq_zero_iff.mp (by omega)
    subst hQ
    refine ⟨out, z5 ?_, z24 hI.start hI.conn (fun i hi j hj hxj => hI.closed i hi (by simp) j hj hxj), hI.low⟩
    simp only [impl_part.l0]
    exact z6 (by simp [zb]) (z8 _)
  | succ m ih =>
    intro out Q hI hq
    match Q, hI, hq with
    | [], hI, hq =>
      refine ⟨out, z5 ?_, z24 hI.start hI.conn (fun i hi j hj hxj => hI.closed i hi (by simp) j hj hxj), hI.low⟩
      simp only [impl_part.l0]
      exact z6 (by simp [zb]) (z8 _)
    | q :: Q, hI, hq =>
      have hqn : q < W * H := bit_lt hI.low (hI.todo q (by simp))
      have hnl : (nb W H q).length ≤ 4 := by
        unfold nb; simp only [List.length_append]; repeat' split
        all_goals simp
      obtain ⟨M, hM, hM2⟩ := part_l1 W H x s hW hH hn hx q hqn m (nb W H q) rfl hnl (fun out' Q' hI' hq' => ih (by omega) out' Q' hI' hq') (nb W H q) [] out Q rfl hI.start hI.conn (fun z hz => hI.todo z (by simp [hz])) (hI.todo q (by simp))
        (fun i hi hiq hne j hj hxj => hI.closed i hi (by simp [hiq, hne]) j hj hxj) (fun j hj => by cases hj) hI.low (by simp only [List.length_cons] at hq; omega) (by omega)
      refine ⟨M, z5 ?_, hM2⟩
      simp only [impl_part.l0]
      have e0 : rd (zb (q :: Q)) 0 = (q : Int) := by simp [rd, zb]
      have e1 : (zb (q :: Q)).drop ((1 : Int)).toNat = zb Q := by simp [zb]
      have l0 : ((zb (q :: Q)).length : Int) > 0 := by simp [zb]
      have l1 : 1 ≤ ((zb (q :: Q)).length : Int) := by omega
      rw [e0, e1]
      exact z4 l0 (z4 l0 (z4 l1 (z7 (nb_ev W H q hW hH hqn hn) hM)))
theorem part_ev (W H x s : Nat) (hW : 1 ≤ W ∧ W ≤ 6) (hH : 1 ≤ H ∧ H ≤ 6) (hn : W * H ≤ 36) (hx : x < 2 ^ (W * H)) (hs : s < W * H) : ∃ M : Nat, Ev (fun k => impl_part.f k (W : Int) (H : Int) (x : Int) (s : Int)) (M : Int) ∧ z17 W H x s M ∧ M < 2 ^ (W * H) := by
  have ht : ∀ i, (2 ^ s).testBit i = true → i = s := fun i hi => by
    rw [Nat.testBit_two_pow] at hi
    exact (of_decide_eq_true hi).symm
  have h0 : (2 ^ s).testBit s = true := by rw [Nat.testBit_two_pow]; simp
  have hz := zr_le (W * H) (2 ^ s)
  obtain ⟨M, hM, hM2⟩ := part_l0 W H x s hW hH hn hx 100 (by omega) (2 ^ s) [s] ⟨h0, fun i hi => (ht i hi) ▸ Conn.base, fun q hq => (List.mem_singleton.mp hq) ▸ h0, fun i hi hq => absurd (List.mem_singleton.mpr (ht i hi)) hq, Nat.pow_lt_pow_right (by decide) hs⟩ (by simp; omega)
  refine ⟨M, ?_, hM2⟩
  unfold impl_part.f
  have := z14 s (by omega)
  rw [this]
  exact z4 (Int.natCast_nonneg _) hM
/-- What the reference's look z1d has come to behind c cells. -/
def z1d (W H p c out : Nat) : Prop := ∀ j, out.testBit j = true ↔ p.testBit j = true ∨ ∃ i, i < c ∧ p.testBit i = true ∧ j ∈ nb W H i
theorem around_skip {W H p c out : Nat} (h : z1d W H p c out) (hc : p.testBit c = false) : z1d W H p (c + 1) out := by
  intro j
  rw [h j]
  constructor
  · rintro (a | ⟨i, hi, b, d⟩)
    · exact .inl a
    · exact .inr ⟨i, by omega, b, d⟩
  · rintro (a | ⟨i, hi, b, d⟩)
    · exact .inl a
    · by_cases e : i = c
      · subst e; rw [hc] at b; cases b
      · exact .inr ⟨i, by omega, b, d⟩
theorem around_take {W H p c out out' : Nat} (h : z1d W H p c out) (hc : p.testBit c = true) (ho : ∀ j, out'.testBit j = true ↔ out.testBit j = true ∨ j ∈ nb W H c) : z1d W H p (c + 1) out' := by
  intro j
  rw [ho j, h j]
  constructor
  · rintro ((a | ⟨i, hi, b, d⟩) | a)
    · exact .inl a
    · exact .inr ⟨i, by omega, b, d⟩
    · exact .inr ⟨c, by omega, hc, a⟩
  · rintro (a | ⟨i, hi, b, d⟩)
    · exact .inl (.inl a)
    · by_cases e : i = c
      · subst e; exact .inr d
      · exact .inl (.inr ⟨i, by omega, b, d⟩)
/-- One more bit, if a condition holds. -/
def orIf (c : Prop) [Decidable c] (o j : Nat) : Nat := if c then o ||| 2 ^ j else o
theorem z35 (c : Prop) [Decidable c] (o j i : Nat) : (orIf c o j).testBit i = true ↔ o.testBit i = true ∨ (c ∧ i = j) := by
  unfold orIf
  by_cases h : c
  · rw [if_pos h, zd, Bool.or_eq_true, decide_eq_true_iff]
    constructor
    · rintro (a | a)
      · exact .inl a
      · exact .inr ⟨h, a.symm⟩
    · rintro (a | a)
      · exact .inl a
      · exact .inr a.2.symm
  · rw [if_neg h]; simp [h]
theorem z36 (c : Prop) [Decidable c] {n o j : Nat} (h : o < 2 ^ n) (hj : c → j < n) : orIf c o j < 2 ^ n := by
  unfold orIf
  by_cases d : c
  · rw [if_pos d]; exact Nat.or_lt_two_pow h (Nat.pow_lt_pow_right (by decide) (hj d))
  · rw [if_neg d]; exact h
theorem near_row (W H p : Nat) (hW : 1 ≤ W ∧ W ≤ 6) (hH : 1 ≤ H ∧ H ≤ 6) (hn : W * H ≤ 36) (hp : p < 2 ^ (W * H)) (Y : Nat) (hY : Y < H) (Fin : Nat → Prop)
    (K : ∀ out, z1d W H p (Y * W + W) out → out < 2 ^ (W * H) → ∃ M : Nat, Ev (fun k => spec_l08Near.l0 k (W : Int) (H : Int) (p : Int) (out : Int) ((Y + 1 : Nat) : Int)) (M : Int) ∧ Fin M) (d : Nat) :
    ∀ (X out : Nat), X + d = W → z1d W H p (Y * W + X) out → out < 2 ^ (W * H) → ∃ M : Nat, Ev (fun k => spec_l08Near.l1 k (W : Int) (H : Int) (p : Int) (out : Int) (Y : Int) (X : Int)) (M : Int) ∧ Fin M := by
  have hp62 : p < 2 ^ 62 := Nat.lt_of_lt_of_le hp (Nat.pow_le_pow_right (by decide) (by omega))
  have hp36 : 2 ^ (W * H) ≤ 2 ^ 36 := Nat.pow_le_pow_right (by decide) hn
  have hyw : (Y + 1) * W ≤ H * W := Nat.mul_le_mul_right W hY
  have hyw2 : Y * W + W ≤ W * H := by rw [Nat.succ_mul, Nat.mul_comm H W] at hyw; exact hyw
  have hYi : (Y : Int) * (W : Int) = ((Y * W : Nat) : Int) := (Int.natCast_mul Y W).symm
  induction d with
  | zero =>
    intro X out h1 h2 h3
    have e : X = W := by omega
    subst e
    obtain ⟨M, hM, hF⟩ := K out h2 h3
    refine ⟨M, z5 ?_, hF⟩
    simp only [spec_l08Near.l1]
    rw [z15 Y (by omega)]
    exact z6 (by omega) hM
  | succ d ih =>
    intro X out h1 h2 h3
    have b1 : Y * W + X < W * H := by omega
    have b2 : Y * W < 1000000000000 := by omega
    have b3 : Y * W + X < 1000000000000 := by omega
    have b4 : X < 1000000000000 := by omega
    have b5 : Y < 1000000000000 := by omega
    have b6 : (X : Int) < (W : Int) := by omega
    have b7 : X + 1 + d = W := by omega
    have b8 : Y * W + X ≤ 64 := by omega
    have wy : Aside0 (wrap64 ((Y : Int) * (W : Int)) = ((Y * W : Nat) : Int)) := ⟨by rw [hYi]; exact wsmall _ (by omega)⟩
    have hdiv : (Y * W + X) / W = Y := by rw [Nat.mul_comm, Nat.mul_add_div (by omega), Nat.div_eq_of_lt (by omega)]; rfl
    have hmod : (Y * W + X) % W = X := by rw [Nat.mul_comm, Nat.mul_add_mod]; exact Nat.mod_eq_of_lt (by omega)
    have open_ : ∀ (r : Int), Ev (fun n => if Go.bits BinOp.and IntKind.i64 (shr IntKind.i64 (p : Int) ((Y * W + X : Nat) : Int)) 1 = 0 then spec_l08Near.l1 n (W : Int) (H : Int) (p : Int) (out : Int) (Y : Int) ((X + 1 : Nat) : Int) else if (X : Int) > 0 then if 0 ≤ wrap64 (((Y * W + X : Nat) : Int) - 1) then spec_l08Near.j2 n (W : Int) (H : Int) (p : Int) (Go.bits BinOp.or IntKind.i64 (out : Int) (shl IntKind.i64 1 (wrap64 (((Y * W + X : Nat) : Int) - 1)))) (Y : Int) (X : Int) else none else spec_l08Near.j2 n (W : Int) (H : Int) (p : Int) (out : Int) (Y : Int) (X : Int)) r →
        Ev (fun k => spec_l08Near.l1 k (W : Int) (H : Int) (p : Int) (out : Int) (Y : Int) (X : Int)) r := by
      intro r hr
      refine z5 ?_
      simp only [spec_l08Near.l1]
      rw [wy.out, wadd (Y * W) X b3, z15 X b4]
      exact z4 b6 (z4 (Int.natCast_nonneg _) hr)
    generalize hc : Y * W + X = c at *
    cases hb : p.testBit c
    · obtain ⟨M, hM, hF⟩ := ih (X + 1) out b7 (by
        have e : Y * W + (X + 1) = c + 1 := by omega
        rw [e]; exact around_skip h2 hb) h3
      exact ⟨M, open_ _ (z4 ((bit_eq0 p c hp62 b8).mpr hb) hM), hF⟩
    · have hnz : ¬ (Go.bits BinOp.and IntKind.i64 (shr IntKind.i64 (p : Int) (c : Int)) 1 = 0) := fun z => by rw [(bit_eq0 p c hp62 b8).mp z] at hb; cases hb
      have o1 := z36 (0 < X) (j := c - 1) h3 (by omega)
      have o2 := z36 (X + 1 < W) (j := c + 1) o1 (by omega)
      have hcw : 0 < Y → W ≤ c := fun h => by
        have : 1 * W ≤ Y * W := Nat.mul_le_mul_right W h
        omega
      have hcw2 : Y + 1 < H → c + W < W * H := fun h => by
        have : (Y + 1 + 1) * W ≤ H * W := Nat.mul_le_mul_right W h
        rw [Nat.succ_mul, Nat.succ_mul, Nat.mul_comm H W] at this
        omega
      have o3 := z36 (0 < Y) (j := c - W) o2 (by omega)
      have o4 := z36 (Y + 1 < H) (j := c + W) o3 hcw2
      obtain ⟨M, fin, hF⟩ := ih (X + 1) (orIf (Y + 1 < H) (orIf (0 < Y) (orIf (X + 1 < W) (orIf (0 < X) out (c - 1)) (c + 1)) (c - W)) (c + W)) b7 (by
        have e : Y * W + (X + 1) = c + 1 := by omega
        rw [e]
        refine around_take h2 hb (fun j => ?_)
        rw [z35, z35, z35, z35, nb_mem, hdiv, hmod]
        constructor
        · rintro ((((a | a) | a) | a) | a)
          · exact .inl a
          · exact .inr (.inr (.inl a))
          · exact .inr (.inr (.inr (.inl a)))
          · exact .inr (.inl a)
          · exact .inr (.inr (.inr (.inr a)))
        · rintro (a | a | a | a | a)
          · exact .inl (.inl (.inl (.inl a)))
          · exact .inl (.inr a)
          · exact .inl (.inl (.inl (.inr a)))
          · exact .inl (.inl (.inr a))
          · exact .inr a) o4
      have q1 : Aside0 (wrap64 ((c : Int) + 1) = ((c + 1 : Nat) : Int)) := ⟨z15 c (by omega)⟩
      have q2 : Aside0 (wrap64 ((c : Int) + (W : Int)) = ((c + W : Nat) : Int)) := ⟨wadd c W (by omega)⟩
      have s3 : ∀ o : Nat, o < 2 ^ (W * H) → Ev (fun k => spec_l08Near.l1 k (W : Int) (H : Int) (p : Int) ((orIf (Y + 1 < H) (orIf (0 < Y) o (c - W)) (c + W) : Nat) : Int) (Y : Int) ((X + 1 : Nat) : Int)) (M : Int) →
          Ev (fun k => spec_l08Near.j3 k (W : Int) (H : Int) (p : Int) (o : Int) (Y : Int) (X : Int)) (M : Int) := by
        intro o ho hk
        have lo : ∀ j, j < 60 → 2 ^ j < 2 ^ 63 := fun j hj => Nat.pow_lt_pow_right (by decide) (by omega)
        refine z5 ?_
        simp only [spec_l08Near.j3]
        rw [wy.out, wadd (Y * W) X (by omega), hc, z15 X b4, z15 Y b5, q2.out]
        unfold orIf at hk
        by_cases c1 : 0 < Y
        · have q3 : Aside0 (wrap64 ((c : Int) - (W : Int)) = ((c - W : Nat) : Int)) := ⟨by
            have := hcw c1
            rw [wsmall _ (by omega)]; omega⟩
          rw [q3.out, z14 (c - W) (by omega), z2a o (2 ^ (c - W)) (by omega) (lo _ (by omega))]
          rw [if_pos c1] at hk
          refine z4 (by omega) (z4 (Int.natCast_nonneg _) ?_)
          by_cases c2 : Y + 1 < H
          · rw [if_pos c2] at hk
            have hor : o ||| 2 ^ (c - W) < 2 ^ 63 := Nat.or_lt_two_pow (by omega) (lo _ (by omega))
            rw [z14 (c + W) (by omega), z2a _ (2 ^ (c + W)) hor (lo _ (by omega))]
            exact z4 (by omega) (z4 (Int.natCast_nonneg _) hk)
          · rw [if_neg c2] at hk
            exact z6 (by omega) hk
        · rw [if_neg c1] at hk
          refine z6 (by omega) ?_
          by_cases c2 : Y + 1 < H
          · rw [if_pos c2] at hk
            rw [z14 (c + W) (by omega), z2a o (2 ^ (c + W)) (by omega) (lo _ (by omega))]
            exact z4 (by omega) (z4 (Int.natCast_nonneg _) hk)
          · rw [if_neg c2] at hk
            exact z6 (by omega) hk
      have s2 : ∀ o : Nat, o < 2 ^ (W * H) → Ev (fun k => spec_l08Near.j3 k (W : Int) (H : Int) (p : Int) ((orIf (X + 1 < W) o (c + 1) : Nat) : Int) (Y : Int) (X : Int)) (M : Int) →
          Ev (fun k => spec_l08Near.j2 k (W : Int) (H : Int) (p : Int) (o : Int) (Y : Int) (X : Int)) (M : Int) := by
        intro o ho hk
        refine z5 ?_
        simp only [spec_l08Near.j2]
        rw [wy.out, wadd (Y * W) X (by omega), hc, z15 X b4, q1.out]
        unfold orIf at hk
        by_cases c1 : X + 1 < W
        · rw [if_pos c1] at hk
          rw [z14 (c + 1) (by omega), z2a o (2 ^ (c + 1)) (by omega) (Nat.pow_lt_pow_right (by decide) (by omega))]
          exact z4 (by omega) (z4 (Int.natCast_nonneg _) hk)
        · rw [if_neg c1] at hk
          exact z6 (by omega) hk
      have go := s2 _ o1 (s3 _ o2 fin)
      unfold orIf at go
      refine ⟨M, open_ _ (z6 hnz ?_), hF⟩
      by_cases c1 : 0 < X
      · rw [if_pos c1] at go
        have q3 : Aside0 (wrap64 ((c : Int) - 1) = ((c - 1 : Nat) : Int)) := ⟨by rw [wsmall _ (by omega)]; omega⟩
        rw [q3.out, z14 (c - 1) (by omega), z2a out (2 ^ (c - 1)) (by omega) (Nat.pow_lt_pow_right (by decide) (by omega))]
        exact z4 (by omega) (z4 (Int.natCast_nonneg _) go)
      · rw [if_neg c1] at go
        exact z6 (by omega) go
theorem near_ev (W H p : Nat) (hW : 1 ≤ W ∧ W ≤ 6) (hH : 1 ≤ H ∧ H ≤ 6) (hn : W * H ≤ 36) (hp : p < 2 ^ (W * H)) : ∃ M : Nat, Ev (fun k => spec_l08Near.f k (W : Int) (H : Int) (p : Int)) (M : Int) ∧ z1d W H p (W * H) M ∧ M < 2 ^ (W * H) := by
  have rows : ∀ (d Y out : Nat), Y + d = H → z1d W H p (Y * W) out → out < 2 ^ (W * H) → ∃ M : Nat, Ev (fun k => spec_l08Near.l0 k (W : Int) (H : Int) (p : Int) (out : Int) (Y : Int)) (M : Int) ∧ (z1d W H p (W * H) M ∧ M < 2 ^ (W * H)) := by
    intro d
    induction d with
    | zero =>
      intro Y out h1 h2 h3
      have e : Y = H := by omega
      subst e
      refine ⟨out, z5 ?_, by rw [Nat.mul_comm]; exact h2, h3⟩
      simp only [spec_l08Near.l0]
      exact z6 (by omega) (z8 _)
    | succ d ih =>
      intro Y out h1 h2 h3
      obtain ⟨M, hM, hF⟩ := near_row W H p hW hH hn hp Y (by omega) (fun M => z1d W H p (W * H) M ∧ M < 2 ^ (W * H)) (fun out' g1 g2 => ih (Y + 1) out' (by omega) (by rw [Nat.succ_mul]; exact g1) g2) W 0 out (by omega) h2 h3
      refine ⟨M, z5 ?_, hF⟩
      simp only [spec_l08Near.l0]
      exact z4 (by omega) hM
  unfold spec_l08Near.f
  exact rows H 0 p (by omega) (fun j => ⟨fun h => .inl h, fun h => by
    rcases h with h | ⟨i, hi, _⟩
    · exact h
    · omega⟩) hp
theorem z4e (a b i : Nat) : (a &&& b).testBit i = true ↔ a.testBit i = true ∧ b.testBit i = true := by
  rw [Nat.testBit_and, Bool.and_eq_true]
theorem reach_l0 (W H x s : Nat) (hW : 1 ≤ W ∧ W ≤ 6) (hH : 1 ≤ H ∧ H ≤ 6) (hn : W * H ≤ 36) (hx : x < 2 ^ (W * H)) (m : Nat) : ∀ p : Nat, p < 2 ^ (W * H) → zr (W * H) p ≤ m → p.testBit s = true → (∀ i, p.testBit i = true → Conn W H x s i) → (∀ i, p.testBit i = true → x.testBit i = true) →
    ∃ M : Nat, Ev (fun k => spec_l08Reach.l0 k (W : Int) (H : Int) (x : Int) (p : Int)) (M : Int) ∧ z17 W H x s M ∧ M < 2 ^ (W * H) := by
  have hp36 : 2 ^ (W * H) ≤ 2 ^ 36 := Nat.pow_le_pow_right (by decide) hn
  have main : ∀ p : Nat, p < 2 ^ (W * H) → p.testBit s = true → (∀ i, p.testBit i = true → Conn W H x s i) → (∀ i, p.testBit i = true → x.testBit i = true) →
      (∀ q : Nat, q < 2 ^ (W * H) → q ≠ p → (∀ i, p.testBit i = true → q.testBit i = true) → (∀ i, q.testBit i = true → Conn W H x s i) → (∀ i, q.testBit i = true → x.testBit i = true) → ∃ M : Nat, Ev (fun k => spec_l08Reach.l0 k (W : Int) (H : Int) (x : Int) (q : Int)) (M : Int) ∧ z17 W H x s M ∧ M < 2 ^ (W * H)) →
      ∃ M : Nat, Ev (fun k => spec_l08Reach.l0 k (W : Int) (H : Int) (x : Int) (p : Int)) (M : Int) ∧ z17 W H x s M ∧ M < 2 ^ (W * H) := by
    intro p h1 h2 h3 h4 K
    obtain ⟨N, hN, ha, hl⟩ := near_ev W H p hW hH hn h1
    have ea : Go.bits .and .i64 (N : Int) (x : Int) = ((N &&& x : Nat) : Int) := z4a N x (by omega) (by omega)
    have ql : N &&& x < 2 ^ (W * H) := Nat.lt_of_le_of_lt Nat.and_le_left hl
    have sub : ∀ i, p.testBit i = true → (N &&& x).testBit i = true := fun i hi => (z4e _ _ _).mpr ⟨(ha i).mpr (.inl hi), h4 i hi⟩
    have con : ∀ i, (N &&& x).testBit i = true → Conn W H x s i := fun i hi => by
      obtain ⟨a, b⟩ := (z4e _ _ _).mp hi
      rcases (ha i).mp a with a | ⟨j, _, a, c⟩
      · exact h3 i a
      · exact Conn.step (h3 j a) c b
    have inx : ∀ i, (N &&& x).testBit i = true → x.testBit i = true := fun i hi => ((z4e _ _ _).mp hi).2
    by_cases e : N &&& x = p
    · refine ⟨p, z5 ?_, z24 h2 h3 (fun i hi j hj hxj => ?_), h1⟩
      · simp only [spec_l08Reach.l0]
        refine z7 hN ?_
        rw [ea, e]
        exact z4 rfl (z8 _)
      · rw [← e]
        exact (z4e _ _ _).mpr ⟨(ha j).mpr (.inr ⟨i, bit_lt h1 hi, hi, hj⟩), hxj⟩
    · obtain ⟨M, hM, hM2⟩ := K (N &&& x) ql e sub con inx
      refine ⟨M, z5 ?_, hM2⟩
      simp only [spec_l08Reach.l0]
      refine z7 hN ?_
      rw [ea]
      exact z6 (fun z => e (Int.ofNat.inj z)) hM
  have strict : ∀ p q : Nat, p < 2 ^ (W * H) → q < 2 ^ (W * H) → q ≠ p → (∀ i, p.testBit i = true → q.testBit i = true) → zr (W * H) q < zr (W * H) p := by
    intro p q h1 h2 hne hs
    rcases Nat.lt_or_ge (zr (W * H) q) (zr (W * H) p) with g | g
    · exact g
    · exfalso
      apply hne
      have e := zr_eq (W * H) p q hs (Nat.le_antisymm (zr_mono _ _ _ hs) g)
      apply Nat.eq_of_testBit_eq
      intro i
      rcases Nat.lt_or_ge i (W * H) with c | c
      · exact (e i c).symm
      · rw [z2d h1 c, z2d h2 c]
  induction m with
  | zero =>
    intro p h1 hz h2 h3 h4
    exact main p h1 h2 h3 h4 (fun q g1 g2 g3 _ _ => by have := strict p q h1 g1 g2 g3; omega)
  | succ m ih =>
    intro p h1 hz h2 h3 h4
    exact main p h1 h2 h3 h4 (fun q g1 g2 g3 g4 g5 => ih q g1 (by have := strict p q h1 g1 g2 g3; omega) (g3 s h2) g4 g5)
theorem ctz_of (x : Nat) (h0 : x ≠ 0) (h : x < 2 ^ 64) : ∃ m, x = 2 ^ Lib.ctz 64 x * (2 * m + 1) ∧ Lib.ctz 64 x < 64 := by
  obtain ⟨m, hm, hk⟩ := Lib.ctzFrom_spec 64 x (by omega) h
  have e : Lib.ctz 64 x = Lib.ctzFrom 64 x := by simp [Lib.ctz, h0]
  rw [e]
  exact ⟨m, hm, hk⟩
theorem ctz_bit (x : Nat) (h0 : x ≠ 0) (h : x < 2 ^ 64) : x.testBit (Lib.ctz 64 x) = true := by
  obtain ⟨m, hm, _⟩ := ctz_of x h0 h
  generalize Lib.ctz 64 x = s at *
  rw [hm, z16, Nat.mul_div_cancel_left _ (Nat.two_pow_pos s)]
  exact decide_eq_true (by omega)
theorem least_ev (x : Nat) (h : x < 2 ^ 62) : impl_least.f (x : Int) = some ((Lib.ctz 64 x : Nat) : Int) := by
  unfold impl_least.f bits_TrailingZeros.f bits_TrailingZeros64.f
  have e : IntKind.u64.wrap (x : Int) = (x : Int) := z19 x (by omega)
  rw [e, if_pos (Int.natCast_nonneg _), if_pos (by omega)]
  rfl
theorem low_ev (x : Nat) (h0 : x ≠ 0) (h : x < 2 ^ 62) : Go.bits .and .i64 (x : Int) (wrap64 (-(x : Int))) = ((2 ^ Lib.ctz 64 x : Nat) : Int) := by
  have hl := (Lib.lowest_bit 64 x h0 (by omega)).1
  have hw : wrap64 (-(x : Int)) = -(x : Int) := w64 (by omega) (by omega)
  have hpl : 2 ^ Lib.ctz 64 x ≤ x := by
    obtain ⟨m, hm, _⟩ := ctz_of x h0 (by omega)
    generalize Lib.ctz 64 x = s at *
    have : 2 ^ s * 1 ≤ 2 ^ s * (2 * m + 1) := Nat.mul_le_mul_left _ (by omega)
    omega
  rw [hw]
  simp only [Go.bits]
  have e1 : (BitVec.ofInt 64 (x : Int)).toNat = x := by
    rw [BitVec.ofInt_natCast, BitVec.toNat_ofNat]; exact Nat.mod_eq_of_lt (by omega)
  have e2 : (BitVec.ofInt 64 (-(x : Int))).toNat = 2 ^ 64 - x := by
    rw [BitVec.toNat_ofInt]; omega
  show IntKind.i64.wrap (((BitVec.ofInt 64 (x : Int)) &&& (BitVec.ofInt 64 (-(x : Int)))).toNat : Int) = _
  rw [BitVec.toNat_and, e1, e2, hl, IntKind.wrap_i64]
  generalize 2 ^ Lib.ctz 64 x = q at *
  omega
theorem reach_ev (W H x : Nat) (hW : 1 ≤ W ∧ W ≤ 6) (hH : 1 ≤ H ∧ H ≤ 6) (hn : W * H ≤ 36) (hx : x < 2 ^ (W * H)) (h0 : x ≠ 0) : ∃ M : Nat, Ev (fun k => spec_l08Reach.f k (W : Int) (H : Int) (x : Int)) (M : Int) ∧ z17 W H x (Lib.ctz 64 x) M ∧ M < 2 ^ (W * H) := by
  have hx62 : x < 2 ^ 62 := Nat.lt_of_lt_of_le hx (Nat.pow_le_pow_right (by decide) (by omega))
  have hb := ctz_bit x h0 (by omega)
  have hs := bit_lt hx hb
  generalize hS : Lib.ctz 64 x = s at *
  have ht : ∀ i, (2 ^ s).testBit i = true → i = s := fun i hi => by
    rw [Nat.testBit_two_pow] at hi
    exact (of_decide_eq_true hi).symm
  obtain ⟨M, hM, hM2⟩ := reach_l0 W H x s hW hH hn hx (W * H) (2 ^ s) (Nat.pow_lt_pow_right (by decide) hs) (zr_le _ _) (by rw [Nat.testBit_two_pow]; simp) (fun i hi => (ht i hi) ▸ Conn.base) (fun i hi => (ht i hi) ▸ hb)
  refine ⟨M, ?_, hM2⟩
  unfold spec_l08Reach.f
  rw [low_ev x h0 hx62, hS]
  exact hM
/-- Both find the same part with the least cell. -/
theorem both_parts (W H x : Nat) (hW : 1 ≤ W ∧ W ≤ 6) (hH : 1 ≤ H ∧ H ≤ 6) (hn : W * H ≤ 36) (hx : x < 2 ^ (W * H)) (h0 : x ≠ 0) : ∃ M : Nat, Ev (fun k => spec_l08Reach.f k (W : Int) (H : Int) (x : Int)) (M : Int) ∧ Ev (fun k => impl_part.f k (W : Int) (H : Int) (x : Int) ((Lib.ctz 64 x : Nat) : Int)) (M : Int) ∧ z17 W H x (Lib.ctz 64 x) M ∧ M < 2 ^ (W * H) := by
  have hx62 : x < 2 ^ 62 := Nat.lt_of_lt_of_le hx (Nat.pow_le_pow_right (by decide) (by omega))
  have hb := ctz_bit x h0 (by omega)
  have hs := bit_lt hx hb
  obtain ⟨M, h1, h2, h3⟩ := reach_ev W H x hW hH hn hx h0
  obtain ⟨N, g1, g2, g3⟩ := part_ev W H x (Lib.ctz 64 x) hW hH hn hx hs
  have e := isComp_uniq h2 g2
  subst e
  exact ⟨M, h1, g1, h2, h3⟩
def toI (l : List Nat) : List Int := l.map (fun n : Nat => (n : Int))
theorem ze (l : List Nat) : (toI l).length = l.length := by simp [toI]
theorem toI_app (l m : List Nat) : toI (l ++ m) = toI l ++ toI m := by simp [toI]
theorem toI_set (l : List Nat) (i a : Nat) : (toI l).set i (a : Int) = toI (l.set i a) := by simp [toI, List.map_set]
theorem z42 (l : List Nat) (i : Nat) : rd (toI l) (i : Int) = ((l.getD i 0 : Nat) : Int) := by
  simp only [rd, toI, Int.toNat_natCast, List.getD_eq_getElem?_getD, List.getElem?_map]
  cases l[i]? <;> simp
theorem z20 {α : Type} (pre suf : List α) (a z : α) : (pre ++ a :: suf).getD pre.length z = a := by
  simp [List.getD_eq_getElem?_getD]
theorem cl_pop (x d : Nat) : ∀ i, (cl x i d).length = pop d (x / 2 ^ i) := by
  induction d with
  | zero => intro i; simp [cl, pop]
  | succ d ih =>
    intro i
    have e : x / 2 ^ i / 2 = x / 2 ^ (i + 1) := by rw [Nat.pow_succ, Nat.div_div_eq_div_mul]
    have hp : pop (d + 1) (x / 2 ^ i) = x / 2 ^ i % 2 + pop d (x / 2 ^ i / 2) := rfl
    rw [hp, e, ← ih (i + 1)]
    simp only [cl]
    rw [z16]
    by_cases h : x / 2 ^ i % 2 = 1
    · rw [decide_eq_true h, if_pos rfl, h]; simp; omega
    · rw [decide_eq_false h]; simp
      generalize x / 2 ^ i = q at *
      omega
/-- Ascending cells from lo on, all below N. -/
def asc (N : Nat) : Nat → List Nat → Prop
  | _, [] => True
  | lo, c :: cs => lo ≤ c ∧ c < N ∧ asc N (c + 1) cs
theorem asc_lower {N : Nat} {l : List Nat} {a b : Nat} (h : asc N b l) (hab : a ≤ b) : asc N a l := by
  cases l with
  | nil => trivial
  | cons c cs => exact ⟨Nat.le_trans hab h.1, h.2⟩
theorem cl_asc (x N d : Nat) : ∀ i, i + d ≤ N → asc N i (cl x i d) := by
  induction d with
  | zero => intro i _; trivial
  | succ d ih =>
    intro i h
    simp only [cl]
    have := ih (i + 1) (by omega)
    by_cases b : x.testBit i = true
    · rw [if_pos b]; exact ⟨Nat.le_refl _, by omega, this⟩
    · rw [if_neg b]; exact asc_lower this (by omega)
theorem z48 (N x : Nat) (hN : N ≤ 36) (hx : x < 2 ^ 62) (d : Nat) : ∀ (i : Nat) (out : List Nat), i + d = N → out.length + d ≤ 100 → Ev (fun k => impl_cellList.l0 k (x : Int) (toI out) (N : Int) (i : Int)) (toI (out ++ cl x i d)) := by
  induction d with
  | zero =>
    intro i out h ho
    refine z5 ?_
    simp only [impl_cellList.l0, cl, List.append_nil]
    exact z6 (by omega) (z8 _)
  | succ d ih =>
    intro i out h ho
    refine z5 ?_
    simp only [impl_cellList.l0]
    have e := z15 i (by omega)
    refine z4 (by clear e; omega) (z9 (z40 x i hx (by clear e; omega)) ?_)
    rw [e]
    clear e
    simp only [cl]
    by_cases b : x.testBit i = true
    · rw [if_pos b]
      refine z4 b (z4 (by rw [ze]; omega) ?_)
      have := ih (i + 1) (out ++ [i]) (by omega) (by simp; omega)
      rw [toI_app, show toI [i] = [(i : Int)] from rfl] at this
      simpa using this
    · rw [if_neg b]
      exact z6 b (ih (i + 1) out (by omega) (by omega))
theorem cellList_ev (W H x : Nat) (hn : W * H ≤ 36) (hx : x < 2 ^ (W * H)) : Ev (fun k => impl_cellList.f k (W : Int) (H : Int) (x : Int)) (toI (cl x 0 (W * H))) := by
  have hx62 : x < 2 ^ 62 := Nat.lt_of_lt_of_le hx (Nat.pow_le_pow_right (by decide) (by omega))
  unfold impl_cellList.f
  have e : wrap64 ((W : Int) * (H : Int)) = ((W * H : Nat) : Int) := by rw [← Int.natCast_mul, w64 (by omega) (by omega)]
  rw [e]
  have := z48 (W * H) x hn hx62 (W * H) 0 [] (by omega) (by simp; omega)
  simpa [toI] using this
theorem cell_back (W c : Nat) (hW : 1 ≤ W ∧ W ≤ 6) (hc : c < 100) : wrap64 (wrap64 (((c / W : Nat) : Int) * (W : Int)) + ((c % W : Nat) : Int)) = (c : Int) := by
  have h := Nat.div_add_mod c W
  have h1 : c / W ≤ c := Nat.div_le_self c W
  have h2 : W * (c / W) ≤ c := Nat.mul_div_le c W
  have e : ((c / W : Nat) : Int) * (W : Int) = ((W * (c / W) : Nat) : Int) := by rw [Nat.mul_comm W, Int.natCast_mul]
  rw [e]
  generalize W * (c / W) = u at *
  generalize c % W = v at *
  have e1 : wrap64 (u : Int) = (u : Int) := w64 (by omega) (by omega)
  rw [e1]
  clear e1 e
  rw [wadd u v (by omega)]
  omega
/-- Cell c joins piece n. -/
def z1f (out : List Nat) (n c : Nat) : List Nat := if n = out.length then out ++ [2 ^ c] else out.set n (out.getD n 0 ||| 2 ^ c)
/-- The pieces of numbers, cell by cell; none if they are not numbered in order. -/
def run : List Int → List Nat → List Nat → Option (List Nat)
  | [], _, out => some out
  | _ :: _, [], out => some out
  | n :: ns, c :: cs, out => if n < 0 ∨ (out.length : Int) < n then none else run ns cs (z1f out n.toNat c)
theorem z39 (out : List Nat) (n c : Nat) (h : n ≤ out.length) : (z1f out n c).length = if n = out.length then out.length + 1 else out.length := by
  unfold z1f; split <;> simp
theorem or_pow (p c : Nat) (h : p < 2 ^ c) : p ||| 2 ^ c = p + 2 ^ c := by
  have := Nat.two_pow_add_eq_or_of_lt h 1
  rw [Nat.mul_one] at this
  rw [Nat.or_comm, ← this, Nat.add_comm]
def bnd (out : List Nat) (c : Nat) : Prop := ∀ p ∈ out, p < 2 ^ c
theorem bnd_at {out : List Nat} {c : Nat} (h : bnd out c) (n : Nat) : out.getD n 0 < 2 ^ c := by
  rw [List.getD_eq_getElem?_getD]
  cases e : out[n]? with
  | none => simp; exact Nat.two_pow_pos c
  | some p => simp; exact h p (List.mem_of_getElem? e)
theorem z2b {out : List Nat} {a b : Nat} (h : bnd out a) (hab : a ≤ b) : bnd out b := fun p hp => Nat.lt_of_lt_of_le (h p hp) (Nat.pow_le_pow_right (by decide) hab)
theorem z38 {out : List Nat} {c : Nat} (n : Nat) (h : bnd out c) : bnd (z1f out n c) (c + 1) := by
  have e : 2 ^ (c + 1) = 2 ^ c + 2 ^ c := by rw [Nat.pow_succ]; omega
  have hp := Nat.two_pow_pos c
  intro p hq
  unfold z1f at hq
  split at hq
  · rcases List.mem_append.mp hq with g | g
    · have := h p g; omega
    · have : p = 2 ^ c := by simpa using g
      omega
  · rcases List.mem_or_eq_of_mem_set hq with g | g
    · have := h p g; omega
    · have := bnd_at h n
      rw [g, or_pow _ _ this]; omega
theorem run_bnd (N : Nat) : ∀ (suf : List Int) (cs out : List Nat) (lo : Nat) (R : List Nat), asc N lo cs → lo ≤ N → bnd out lo → run suf cs out = some R → bnd R N ∧ R.length ≤ out.length + suf.length := by
  intro suf
  induction suf with
  | nil => intro cs out lo R ha hl hb h; simp only [run] at h; cases h; exact ⟨z2b hb hl, by simp⟩
  | cons n ns ih =>
    intro cs out lo R ha hl hb h
    cases cs with
    | nil => simp only [run] at h; cases h; exact ⟨z2b hb hl, by simp⟩
    | cons c cs =>
      obtain ⟨h1, h2, h3⟩ := ha
      simp only [run] at h
      by_cases b : n < 0 ∨ (out.length : Int) < n
      · rw [if_pos b] at h; cases h
      · rw [if_neg b] at h
        have hs := z39 out n.toNat c (by omega)
        obtain ⟨g1, g2⟩ := ih cs (z1f out n.toNat c) (c + 1) R h3 (by omega) (z38 n.toNat (z2b hb h1)) h
        refine ⟨g1, ?_⟩
        rw [List.length_cons]
        split at hs <;> omega
theorem whole_run (W H : Nat) (hW : 1 ≤ W ∧ W ≤ 6) (hH : 1 ≤ H ∧ H ≤ 6) (hn : W * H ≤ 36) (R : List Nat) (hR : bnd R (W * H)) (hl : R.length ≤ 1000) : ∀ (suf pre : List Nat), R = pre ++ suf →
    ∃ b : Bool, Ev (fun k => spec_l09Whole.l0 k (W : Int) (H : Int) (toI R) (R.length : Int) (pre.length : Int)) b ∧ Ev (fun k => impl_piecesOf.l1 k (W : Int) (H : Int) (toI R) (toI R) (R.length : Int) (pre.length : Int)) (if b = true then (toI R, true) else ([], false)) := by
  intro suf
  induction suf with
  | nil =>
    intro pre hp
    have hlp : R.length = pre.length := by rw [hp]; simp
    refine ⟨true, z5 ?_, z5 ?_⟩
    · simp only [spec_l09Whole.l0]; exact z6 (by omega) (z8 _)
    · simp only [impl_piecesOf.l1]; exact z6 (by omega) (z8 _)
  | cons p suf ih =>
    intro pre hp
    have hlp : R.length = pre.length + suf.length + 1 := by rw [hp]; simp; omega
    have hat : rd (toI R) (pre.length : Int) = (p : Int) := by rw [z42, hp, z20]
    have hpb : p < 2 ^ (W * H) := hR p (by rw [hp]; simp)
    have hnx := z15 pre.length (by omega)
    obtain ⟨b, g1, g2⟩ := ih (pre ++ [p]) (by rw [hp]; simp)
    have hpl : ((pre ++ [p]).length : Int) = ((pre.length + 1 : Nat) : Int) := by simp
    rw [hpl] at g1 g2
    have c1 : (pre.length : Int) < (R.length : Int) := by clear hnx; omega
    have c2 : (0 : Int) ≤ (pre.length : Int) := by clear hnx; omega
    have c3 : (pre.length : Int) < ((toI R).length : Int) := by rw [ze]; exact c1
    have hp62 : p < 2 ^ 62 := Nat.lt_of_lt_of_le hpb (Nat.pow_le_pow_right (by decide) (by omega))
    by_cases z : p = 0
    · refine ⟨false, z5 ?_, z5 ?_⟩
      · simp only [spec_l09Whole.l0]
        rw [hat]
        exact z4 c1 (z4 c2 (z4 c3 (z4 (by clear hnx; omega) (z8 _))))
      · simp only [impl_piecesOf.l1]
        rw [hat]
        unfold impl_isWhole.f
        exact z4 c1 (z4 c2 (z4 c3 (z7 (a := false) (z4 (by clear hnx; omega) (z8 _)) (z6 (by decide) (z8 _)))))
    · obtain ⟨M, h1, h2, _⟩ := both_parts W H p hW hH hn hpb z
      have w1 : Ev (fun k => impl_isWhole.f k (W : Int) (H : Int) (p : Int)) ((M : Int) == (p : Int)) := by
        unfold impl_isWhole.f
        exact z6 (by clear hnx; omega) (z9 (least_ev p hp62) (z7 h2 (z8 _)))
      by_cases m : M = p
      · refine ⟨b, z5 ?_, z5 ?_⟩
        · simp only [spec_l09Whole.l0]
          rw [hat, hnx]
          exact z4 c1 (z4 c2 (z4 c3 (z6 (by clear hnx; omega) (z7 h1 (z4 (by clear hnx; omega) g1)))))
        · simp only [impl_piecesOf.l1]
          rw [hat, hnx]
          exact z4 c1 (z4 c2 (z4 c3 (z7 w1 (z4 (by simp [m]) g2))))
      · refine ⟨false, z5 ?_, z5 ?_⟩
        · simp only [spec_l09Whole.l0]
          rw [hat]
          exact z4 c1 (z4 c2 (z4 c3 (z6 (by clear hnx; omega) (z7 h1 (z6 (by clear hnx; omega) (z8 _))))))
        · simp only [impl_piecesOf.l1]
          rw [hat]
          exact z4 c1 (z4 c2 (z4 c3 (z7 w1 (z6 (by simp; omega) (z8 _)))))
theorem impl_run (W H : Int) (C : List Nat) (hC : C.length ≤ 36) (cut : List Int) (hl : cut.length = C.length) (r : List Int × Bool) : ∀ (suf : List Int) (cs : List Nat) (pre : List Int) (pc out : List Nat) (lo : Nat), cut = pre ++ suf → C = pc ++ cs → pre.length = pc.length → out.length ≤ pre.length → bnd out lo → asc 36 lo cs →
    (run suf cs out = none → r = ([], false)) → (∀ R, run suf cs out = some R → Ev (fun k => impl_piecesOf.l1 k W H (toI R) (toI R) (R.length : Int) 0) r) →
    Ev (fun k => impl_piecesOf.l0 k W H (toI C) (toI out) cut (cut.length : Int) (pre.length : Int)) r := by
  intro suf
  induction suf with
  | nil =>
    intro cs pre pc out lo hp hc hpl ho hb ha h0 h1
    have hlp : cut.length = pre.length := by rw [hp]; simp
    refine z5 ?_
    simp only [impl_piecesOf.l0]
    refine z6 (by omega) ?_
    have := h1 out rfl
    rw [ze]
    exact this
  | cons n ns ih =>
    intro cs pre pc out lo hp hc hpl ho hb ha h0 h1
    have hlp : cut.length = pre.length + ns.length + 1 := by rw [hp]; simp; omega
    cases cs with
    | nil => exfalso; rw [hc] at hl; simp at hl; omega
    | cons c cs =>
      obtain ⟨ha1, ha2, ha3⟩ := ha
      have hcl : C.length = pc.length + cs.length + 1 := by rw [hc]; simp; omega
      have hat : rd cut (pre.length : Int) = n := by rw [hp, rd_mid]
      have hcat : rd (toI C) (pre.length : Int) = (c : Int) := by rw [z42, hpl, hc, z20]
      have hnx := z15 pre.length (by omega)
      have c1 : (pre.length : Int) < (cut.length : Int) := by clear hnx; omega
      have c2 : (0 : Int) ≤ (pre.length : Int) := by clear hnx; omega
      have c4 : (pre.length : Int) < ((toI C).length : Int) := by rw [ze]; clear hnx; omega
      have c5 : (0 : Int) ≤ (c : Int) := by clear hnx; omega
      have hol : ((toI out).length : Int) = (out.length : Int) := by rw [ze]
      have hpn : ((pre ++ [n]).length : Int) = ((pre.length + 1 : Nat) : Int) := by simp
      simp only [run] at h0 h1
      by_cases b : n < 0 ∨ (out.length : Int) < n
      · rw [if_pos b] at h0
        have hr := h0 rfl
        subst hr
        refine z5 ?_
        simp only [impl_piecesOf.l0]
        rw [hat]
        refine z4 c1 (z4 c2 (z4 c1 ?_))
        by_cases g : n < 0
        · refine z4 g (z5 ?_)
          simp only [impl_piecesOf.j1]
          exact z4 (by simp) (z8 _)
        · refine z6 g (z5 ?_)
          simp only [impl_piecesOf.j1]
          exact z4 (decide_eq_true (by rw [hol]; clear hnx; omega)) (z8 _)
      · rw [if_neg b] at h0 h1
        obtain ⟨m, rfl⟩ := Int.eq_ofNat_of_zero_le (show 0 ≤ n by clear hnx; omega)
        have hm : m ≤ out.length := by clear hnx; omega
        rw [Int.toNat_natCast] at h0 h1
        have hs := z39 out m c hm
        have goal := ih cs (pre ++ [(m : Int)]) (pc ++ [c]) (z1f out m c) (c + 1) (by rw [hp]; simp) (by rw [hc]; simp) (by simp; exact hpl) (by rw [List.length_append]; simp; clear hnx; split at hs <;> omega) (z38 m (z2b hb ha1)) ha3 h0 h1
        rw [hpn] at goal
        have hsh := z14 c (by clear hnx; omega)
        refine z5 ?_
        simp only [impl_piecesOf.l0]
        rw [hat]
        refine z4 c1 (z4 c2 (z4 c1 (z6 (by clear hnx; omega) (z5 ?_))))
        simp only [impl_piecesOf.j1]
        rw [hcat, hnx, hol, hsh, Int.toNat_natCast]
        clear hnx hsh
        refine z6 (by simp; omega) ?_
        have hp62 : 2 ^ c < 2 ^ 63 := Nat.pow_lt_pow_right (by decide) (by omega)
        by_cases e : m = out.length
        · refine z4 (by omega) (z4 (by rw [ze]; omega) (z7 (a := toI out ++ [0]) (z8 _) (z4 (by omega) (z4 (by simp [ze]; omega) (z4 c2 (z4 c4 (z4 c5 ?_)))))))
          have e1 : toI out ++ [0] = toI (out ++ [0]) := by rw [toI_app]; rfl
          have e2 : (out ++ [0]).getD m 0 = 0 := by rw [e, z20]
          rw [e1, z42, e2, z2a 0 (2 ^ c) (by decide) hp62, toI_set]
          have e3 : (out ++ [0]).set m (0 ||| 2 ^ c) = z1f out m c := by
            unfold z1f
            rw [if_pos e, e, Nat.zero_or]
            simp
          rw [e3]
          exact goal
        · have hbo := bnd_at (z2b hb ha1) m
          refine z6 (by omega) (z4 (by omega) (z4 (by omega) (z4 c2 (z4 c4 (z4 c5 ?_)))))
          rw [z42, z2a _ (2 ^ c) (by omega) hp62, toI_set]
          have e3 : out.set m (out.getD m 0 ||| 2 ^ c) = z1f out m c := by unfold z1f; rw [if_neg e]
          rw [e3]
          exact goal
theorem spec_pieces (W : Nat) (hW : 1 ≤ W ∧ W ≤ 6) (C : List Nat) (hC : C.length ≤ 36) (cut : List Int) (hl : cut.length = C.length) (R : List Nat) : ∀ (suf : List Int) (cs : List Nat) (pre : List Int) (pc out : List Nat) (lo : Nat), cut = pre ++ suf → C = pc ++ cs → pre.length = pc.length → out.length ≤ pre.length → bnd out lo → asc 36 lo cs →
    run suf cs out = some R →
    Ev (fun k => spec_l09Pieces.l0 k (W : Int) cut (toI out) (C.map (z10 W)) (C.length : Int) (pre.length : Int)) (toI R) := by
  intro suf
  induction suf with
  | nil =>
    intro cs pre pc out lo hp hc hpl ho hb ha h1
    have hlp : cut.length = pre.length := by rw [hp]; simp
    simp only [run] at h1
    cases h1
    refine z5 ?_
    simp only [spec_l09Pieces.l0]
    exact z6 (by omega) (z8 _)
  | cons n ns ih =>
    intro cs pre pc out lo hp hc hpl ho hb ha h1
    have hlp : cut.length = pre.length + ns.length + 1 := by rw [hp]; simp; omega
    cases cs with
    | nil => exfalso; rw [hc] at hl; simp at hl; omega
    | cons c cs =>
      obtain ⟨ha1, ha2, ha3⟩ := ha
      have hcl : C.length = pc.length + cs.length + 1 := by rw [hc]; simp; omega
      have hat : rd cut (pre.length : Int) = n := by rw [hp, rd_mid]
      have hcat : rd_T51 (C.map (z10 W)) (pre.length : Int) = z10 W c := by
        rw [hpl, hc]
        simp [rd_T51, List.getD_eq_getElem?_getD]
      have c1 : (pre.length : Int) < (C.length : Int) := by omega
      have c2 : (0 : Int) ≤ (pre.length : Int) := by omega
      have c3 : (pre.length : Int) < (cut.length : Int) := by omega
      have c4 : (pre.length : Int) < ((C.map (z10 W)).length : Int) := by rw [List.length_map]; exact c1
      have hpn : ((pre ++ [n]).length : Int) = ((pre.length + 1 : Nat) : Int) := by simp
      simp only [run] at h1
      by_cases b : n < 0 ∨ (out.length : Int) < n
      · rw [if_pos b] at h1; cases h1
      · rw [if_neg b] at h1
        obtain ⟨m, rfl⟩ := Int.eq_ofNat_of_zero_le (show 0 ≤ n by omega)
        have hm : m ≤ out.length := by omega
        rw [Int.toNat_natCast] at h1
        have hs := z39 out m c hm
        have goal := ih cs (pre ++ [(m : Int)]) (pc ++ [c]) (z1f out m c) (c + 1) (by rw [hp]; simp) (by rw [hc]; simp) (by simp; exact hpl) (by rw [List.length_append]; simp; split at hs <;> omega) (z38 m (z2b hb ha1)) ha3 h1
        rw [hpn] at goal
        have hp36 : 2 ^ c ≤ 2 ^ 36 := Nat.pow_le_pow_right (by decide) (by omega)
        have hbo := bnd_at (z2b hb ha1) m
        -- the piece has its place
        have hwadd : ∀ q : Nat, q < 2 ^ c → wrap64 ((q : Int) + ((2 ^ c : Nat) : Int)) = ((q + 2 ^ c : Nat) : Int) := by
          intro q hq
          generalize 2 ^ c = t at *
          exact wadd _ _ (by omega)
        have c6 : (0 : Int) ≤ (c : Int) := Int.natCast_nonneg c
        have c8 : c ≤ 62 := Nat.le_trans (Nat.le_of_lt ha2) (by decide)
        have c9 : c < 100 := Nat.lt_trans ha2 (by decide)
        have c10 : pre.length < 1000000000000 := by clear hwadd hp36 hbo; omega
        have c7 : (0 : Int) ≤ (m : Int) := Int.natCast_nonneg m
        have put : ∀ o : List Nat, (o.length : Int) > (m : Int) → o.getD m 0 < 2 ^ c → o.set m (o.getD m 0 ||| 2 ^ c) = z1f out m c →
            Ev (fun k => spec_l09Pieces.l1 k (W : Int) cut (toI o) (pre.length : Int) (C.map (z10 W)) (C.length : Int) (pre.length : Int) ((c % W : Nat) : Int) ((c / W : Nat) : Int)) (toI R) := by
          intro o hol hob hos
          refine z5 ?_
          simp only [spec_l09Pieces.l1]
          have hbk := cell_back W c hW c9
          have hsh := z14 c c8
          have hnx := z15 pre.length c10
          have hsum : wrap64 (((o.getD m 0 : Nat) : Int) + ((2 ^ c : Nat) : Int)) = ((o.getD m 0 ||| 2 ^ c : Nat) : Int) := by
            rw [or_pow _ _ hob]
            exact hwadd _ hob
          rw [hat, z42, hbk, hsh, hnx, hsum, ze, Int.toNat_natCast, toI_set, hos]
          clear hbk hsh hnx hsum
          exact z4 c2 (z4 c3 (z6 (Int.not_le.mpr hol) (z4 c7 (z4 hol (z4 c6 goal)))))
        refine z5 ?_
        simp only [spec_l09Pieces.l0]
        rw [hcat]
        refine z4 c1 (z4 c2 (z4 c4 ?_))
        by_cases e : m = out.length
        · refine z5 ?_
          simp only [spec_l09Pieces.l1]
          rw [hat]
          refine z4 c2 (z4 c3 (z4 (by rw [ze]; omega) (z4 (by rw [ze]; omega) ?_)))
          have e1 : toI out ++ [0] = toI (out ++ [0]) := by rw [toI_app]; rfl
          have e2 : (out ++ [0]).getD m 0 = 0 := by rw [e, z20]
          rw [e1]
          refine put (out ++ [0]) (by simp; omega) (by rw [e2]; exact Nat.two_pow_pos c) ?_
          unfold z1f
          rw [if_pos e, e2, e, Nat.zero_or]
          simp
        · exact put out (by omega) hbo (by unfold z1f; rw [if_neg e])
theorem pop64 (n x : Nat) (hn : n ≤ 36) (hx : x < 2 ^ n) : pop 64 x = (cl x 0 n).length := by
  have h := pop_more n (64 - n) x hx
  rw [show n + (64 - n) = 64 by omega] at h
  rw [h, cl_pop]
  simp
theorem bind_at {α β : Type} {o : Option α} {f : α → Option β} {a : α} {r : Option β} (h : o = some a) (k : f a = r) : o.bind f = r := by subst h; exact k
theorem if_at {α : Type} {c : Prop} [Decidable c] {a b r : α} (h : c) (k : a = r) : (if c then a else b) = r := by rw [if_pos h]; exact k
/-- What both make of a list of the right length: its pieces, or none. -/
theorem cut_all2 (W H x : Nat) (hW : 1 ≤ W ∧ W ≤ 6) (hH : 1 ≤ H ∧ H ≤ 6) (hn : W * H ≤ 36) (hx : x < 2 ^ (W * H)) (cut : List Int) (hl : cut.length = (cl x 0 (W * H)).length) :
    ∃ o : Option (List Nat), Ev (fun k => impl_piecesOf.f k (W : Int) (H : Int) (x : Int) cut) (match o with | some R => (toI R, true) | none => ([], false)) ∧
      (∀ R, o = some R → run cut (cl x 0 (W * H)) [] = some R) ∧
      ∀ R, run cut (cl x 0 (W * H)) [] = some R → bnd R (W * H) ∧ R.length ≤ 36 ∧ Ev (fun k => spec_l09Pieces.f k (W : Int) (x : Int) cut) (toI R) ∧ Ev (fun k => spec_l09Whole.f k (W : Int) (H : Int) (toI R)) o.isSome := by
  have hcl := cl_len x (W * H) 0
  have hc36 : cut.length ≤ 36 := by omega
  have ha := cl_asc x (W * H) (W * H) 0 (by omega)
  have ha36 := cl_asc x 36 (W * H) 0 (by omega)
  have hlist := cellList_ev W H x hn hx
  have hb0 : bnd [] 0 := fun p hp => by cases hp
  have e0 : ((cl x 0 (W * H)).length : Int) = (cut.length : Int) := by rw [hl]
  have loop : ∀ r : List Int × Bool, (run cut (cl x 0 (W * H)) [] = none → r = ([], false)) → (∀ R, run cut (cl x 0 (W * H)) [] = some R → Ev (fun k => impl_piecesOf.l1 k (W : Int) (H : Int) (toI R) (toI R) (R.length : Int) 0) r) → Ev (fun k => impl_piecesOf.f k (W : Int) (H : Int) (x : Int) cut) r := by
    intro r h0 h1
    unfold impl_piecesOf.f
    refine z7 hlist (z4 (by rw [ze, e0]) ?_)
    exact impl_run W H (cl x 0 (W * H)) (by omega) cut hl r cut (cl x 0 (W * H)) [] [] [] 0 rfl rfl rfl (Nat.le_refl _) hb0 ha36 h0 h1
  cases hr : run cut (cl x 0 (W * H)) [] with
  | none =>
    exact ⟨none, loop _ (fun _ => rfl) (fun R h => by rw [hr] at h; cases h), (fun R h => by cases h), (fun R h => by cases h)⟩
  | some R =>
    obtain ⟨g1, g2⟩ := run_bnd (W * H) cut (cl x 0 (W * H)) [] 0 R ha (Nat.zero_le _) hb0 hr
    have hRl : R.length ≤ 36 := by simp at g2; omega
    have hpc : Ev (fun k => spec_l09Pieces.f k (W : Int) (x : Int) cut) (toI R) := by
      unfold spec_l09Pieces.f
      refine z7 (z28 W (W * H) x hW hn hx) ?_
      have := spec_pieces W hW (cl x 0 (W * H)) (by omega) cut hl R cut (cl x 0 (W * H)) [] [] [] 0 rfl rfl rfl (Nat.le_refl _) hb0 ha36 hr
      rw [List.length_map]
      exact this
    obtain ⟨b, w1, w2⟩ := whole_run W H hW hH hn R g1 (by omega) R [] rfl
    have hw : Ev (fun k => spec_l09Whole.f k (W : Int) (H : Int) (toI R)) b := by
      unfold spec_l09Whole.f
      rw [ze]
      exact w1
    cases b with
    | true =>
      refine ⟨some R, loop (toI R, true) (fun h => nomatch (hr.symm.trans h)) ?_, (fun R' h => by cases h; rfl), fun R' h => by cases h; exact ⟨g1, hRl, hpc, hw⟩⟩
      intro R' h; rw [hr] at h; cases h
      exact w2
    | false =>
      refine ⟨none, loop ([], false) (fun _ => rfl) ?_, (fun R' h => by cases h), fun R' h => by cases h; exact ⟨g1, hRl, hpc, hw⟩⟩
      intro R' h; rw [hr] at h; cases h
      exact w2
def vone {σ : Type} (P : List Int → Option (List Nat)) (vp : σ → List Int → List Int → σ × Bool) (c : List Int) (s : σ) : σ × Bool := match P c with
  | none => (s, true)
  | some R => vp s c (toI R)
theorem z1e {σ : Type} {P : List Int → Option (List Nat)} {vp : σ → List Int → List Int → σ × Bool} {c : List Int} {s : σ} (h : P c = none) : vone P vp c s = (s, true) := by unfold vone; rw [h]
theorem z1a {σ : Type} {P : List Int → Option (List Nat)} {vp : σ → List Int → List Int → σ × Bool} {c : List Int} {s : σ} {R : List Nat} (h : P c = some R) : vone P vp c s = vp s c (toI R) := by unfold vone; rw [h]
def za {σ : Type} (P : List Int → Option (List Nat)) (vp : σ → List Int → List Int → σ × Bool) : List (List Int × Nat) → σ → σ × Bool
  | [], s => (s, true)
  | q :: L, s => if (vone P vp q.1 s).2 = true then za P vp L (vone P vp q.1 s).1 else ((vone P vp q.1 s).1, false)
theorem z2f {σ : Type} (P : List Int → Option (List Nat)) (vp : σ → List Int → List Int → σ × Bool) (M : List (List Int × Nat)) : ∀ (L : List (List Int × Nat)) (s : σ), za P vp (L ++ M) s = if (za P vp L s).2 = true then za P vp M (za P vp L s).1 else ((za P vp L s).1, false) := by
  intro L
  induction L with
  | nil => intro s; simp [za]
  | cons q L ih =>
    intro s
    rw [List.cons_append]
    simp only [za]
    by_cases h : (vone P vp q.1 s).2 = true
    · simp only [if_pos h]; exact ih _
    · simp [if_neg h]
theorem grow_ev {σ : Type} (vs : Nat → σ → List Int → List Int → Option (σ × Bool)) (vp : σ → List Int → List Int → σ × Bool) (P : List Int → Option (List Nat)) (a0 a1 a2 : Int) (n : Nat) (hn : n ≤ 9)
    (hP : ∀ c : List Int, c.length = n → Ev (fun k => impl_piecesOf.f k a0 a1 a2 c) (match P c with | some R => (toI R, true) | none => ([], false)))
    (hv : ∀ s c R, P c = some R → c.length = n → Ev (fun k => vs k s c (toI R)) (vp s c (toI R))) :
    ∀ (d : Nat) (c : List Int) (u : Nat) (s : σ), c.length + d = n → u ≤ c.length → Ev (fun k => impl_grow.f vs a0 a1 a2 n k u c s) (za P vp (ex d c u) s) := by
  intro d
  induction d with
  | zero =>
    intro c u s hc hu
    refine z5 ?_
    simp only [impl_grow.f]
    have hpc := hP c (by omega)
    have hv' := hv s c
    have e : za P vp (ex 0 c u) s = vone P vp c s := by
      simp only [ex, za]
      generalize vone P vp c s = r
      rcases r with ⟨s1, b⟩
      cases b <;> rfl
    rw [e]
    cases hp : P c with
    | none =>
      rw [hp] at hpc
      rw [z1e hp]
      exact z4 (by omega) (z4 (by omega) (z7 hpc (z6 (by decide) (z8 _))))
    | some R =>
      rw [hp] at hpc
      rw [z1a hp]
      exact z4 (by omega) (z4 (by omega) (z7 hpc (z4 rfl (hv' R hp (by omega)))))
  | succ d ih =>
    intro c u s hc hu
    refine z5 ?_
    simp only [impl_grow.f]
    refine z4 (by omega) (z6 (by omega) ?_)
    have loop : ∀ (t k : Nat), k + t = u + 1 → ∀ s, Ev (fun q => impl_grow.l vs a0 a1 a2 n q u c s (k : Int)) (za P vp (exf (ex d) c u k t) s) := by
      intro t
      induction t with
      | zero =>
        intro k hk s
        refine z5 ?_
        simp only [impl_grow.l]
        exact z6 (by omega) (z8 _)
      | succ t iht =>
        intro k hk s
        have e0 : wrap64 ((k : Int) + 1) = ((k + 1 : Nat) : Int) := z15 k (by omega)
        have e1 : mx (u : Int) ((k + 1 : Nat) : Int) = ((max u (k + 1) : Nat) : Int) := by rw [mx_eq]; omega
        refine z5 ?_
        simp only [impl_grow.l]
        rw [e0, e1]
        clear e0 e1
        refine z4 (by omega) (z4 (by omega) (z7 (ih (c ++ [(k : Int)]) (max u (k + 1)) s (by simp; omega) (by simp; omega)) ?_))
        simp only [exf]
        rw [z2f]
        generalize za P vp (ex d (c ++ [(k : Int)]) (max u (k + 1))) s = r
        by_cases hr : r.2 = true
        · rw [if_pos hr]
          exact z4 hr (iht (k + 1) (by omega) r.1)
        · rw [if_neg hr]
          exact z6 hr (z8 _)
    exact loop (u + 1) 0 (by omega) s
/-- One number more. -/
theorem run_snoc (k : Nat) : ∀ (c : List Int) (cs out0 out : List Nat), run c cs out0 = some out → c.length < cs.length → k ≤ out.length → ∃ R, run (c ++ [(k : Int)]) cs out0 = some R ∧ R.length = max out.length (k + 1) := by
  intro c
  induction c with
  | nil =>
    intro cs out0 out h hl hk
    simp only [run] at h
    obtain rfl := Option.some.inj h
    cases cs with
    | nil => simp at hl
    | cons b cs =>
      simp only [List.nil_append, run]
      rw [if_neg (by omega)]
      refine ⟨_, rfl, ?_⟩
      rw [Int.toNat_natCast, z39 _ _ _ hk]
      split <;> omega
  | cons a c ih =>
    intro cs out0 out h hl hk
    cases cs with
    | nil => simp at hl
    | cons b cs =>
      simp only [List.cons_append, run] at h ⊢
      by_cases g : a < 0 ∨ (out0.length : Int) < a
      · rw [if_pos g] at h; cases h
      · rw [if_neg g] at h ⊢
        exact ih cs _ out h (by simpa using hl) hk
theorem ex_run : ∀ (d : Nat) (c : List Int) (u : Nat) (q : List Int × Nat), q ∈ ex d c u → ∀ (cs out : List Nat), run c cs [] = some out → out.length = u → c.length + d ≤ cs.length → ∃ R, run q.1 cs [] = some R ∧ R.length = q.2 := by
  intro d
  induction d with
  | zero =>
    intro c u q h cs out hr hu hl
    simp only [ex, List.mem_singleton] at h
    subst h
    exact ⟨out, hr, hu⟩
  | succ d ih =>
    intro c u q h cs out hr hu hl
    obtain ⟨j, h1, h2, h3⟩ := exf_mem _ c u _ _ q h
    obtain ⟨R, g1, g2⟩ := run_snoc j c cs [] out hr (by omega) (by omega)
    exact ih _ _ q h3 cs R g1 (by rw [g2, hu]) (by simp; omega)
theorem ex_len : ∀ (d : Nat) (c : List Int) (u : Nat), u + d ≤ 9 → (ex d c u).length ≤ 10 ^ d := by
  intro d
  induction d with
  | zero => intro c u _; simp [ex]
  | succ d ih =>
    intro c u hu
    have loop : ∀ (t k : Nat), k + t ≤ u + 1 → (exf (ex d) c u k t).length ≤ t * 10 ^ d := by
      intro t
      induction t with
      | zero => intro k _; simp [exf]
      | succ t iht =>
        intro k hk
        simp only [exf, List.length_append]
        have a := ih (c ++ [(k : Int)]) (max u (k + 1)) (by omega)
        have b := iht (k + 1) (by omega)
        rw [Nat.add_mul, Nat.one_mul]
        omega
    have h := loop (u + 1) 0 (by omega)
    have : (u + 1) * 10 ^ d ≤ 10 * 10 ^ d := Nat.mul_le_mul_right _ (by omega)
    rw [Nat.pow_succ, Nat.mul_comm (10 ^ d)]
    simp only [ex]
    omega
theorem ex_pos (d : Nat) (c : List Int) (u : Nat) (q : List Int × Nat) (h : q ∈ ex (d + 1) c u) : 1 ≤ q.2 := by
  obtain ⟨j, h1, h2, h3⟩ := exf_mem _ c u _ _ q h
  have := z26 d _ _ q h3
  omega
theorem z33 (pre suf : List (List Int)) (c : List Int) : rd_L2 (pre ++ c :: suf) (pre.length : Int) = c := by
  simp [rd_L2, List.getD_eq_getElem?_getD]
/-- The reference's cuts. -/
theorem all_from (W H x : Int) (P : List Int → Option (List Nat)) (L : List (List Int)) (hL : L.length ≤ 1000000000) (hc : ∀ c ∈ L, ∃ R : List Nat, Ev (fun k => spec_l09Pieces.f k W x c) (toI R) ∧ Ev (fun k => spec_l09Whole.f k W H (toI R)) (P c).isSome) :
    ∀ (suf pre out : List (List Int)), L = pre ++ suf → out.length ≤ pre.length → Ev (fun k => spec_l09All.l0 k W H x out L (L.length : Int) (pre.length : Int)) (out ++ suf.filter (fun c => (P c).isSome)) := by
  intro suf
  induction suf with
  | nil =>
    intro pre out h ho
    obtain rfl : L = pre := by simp [h]
    refine z5 ?_
    simp only [spec_l09All.l0]
    exact z6 (by omega) (z13 (z8 _) (by simp))
  | cons c suf ih =>
    intro pre out h ho
    have hlen : L.length = pre.length + (suf.length + 1) := by subst h; simp
    have hr : rd_L2 L (pre.length : Int) = c := by subst h; exact z33 pre suf c
    obtain ⟨R, e1, e2⟩ := hc c (by subst h; simp)
    refine z5 ?_
    simp only [spec_l09All.l0]
    rw [hr]
    refine z4 (by omega) (z4 (by omega) (z4 (by omega) (z7 e1 (z7 e2 ?_))))
    rw [z15 _ (by omega)]
    by_cases b : (P c).isSome = true
    · refine z4 b (z4 (by omega) ?_)
      have := ih (pre ++ [c]) (out ++ [c]) (by simp [h]) (by simp; omega)
      rw [List.filter_cons, if_pos b]
      simpa using this
    · refine z6 b ?_
      have := ih (pre ++ [c]) out (by simp [h]) (by simp; omega)
      rw [List.filter_cons, if_neg b]
      simpa using this
/-- The reference's list of cuts into p pieces. -/
def goods (P : List Int → Option (List Nat)) (n p : Nat) : List (List Int) := (fsts (fil p (ex n [] 0))).filter (fun c => (P c).isSome)
theorem all_ev (W H x n p : Nat) (P : List Int → Option (List Nat)) (h9 : n ≤ 9) (h1 : 1 ≤ p) (hp : p ≤ n) (ho : Ev (fun k => spec_l08Ones.f k (x : Int)) (n : Int))
    (hq : ∀ q, q ∈ ex n [] 0 → ∃ R : List Nat, Ev (fun k => spec_l09Pieces.f k W x q.1) (toI R) ∧ Ev (fun k => spec_l09Whole.f k W H (toI R)) (P q.1).isSome) :
    Ev (fun k => spec_l09All.f k W H x p) (goods P n p) := by
  unfold spec_l09All.f
  refine z7 ho (z7 (numbers_ev n p h9 h1 hp) ?_)
  have hlen : (fsts (fil p (ex n [] 0))).length ≤ 1000000000 := by
    have a := ex_len n [] 0 (by omega)
    have b : 10 ^ n ≤ 10 ^ 9 := Nat.pow_le_pow_right (by omega) h9
    have c : (fsts (fil p (ex n [] 0))).length ≤ (ex n [] 0).length := by
      simp only [fsts, List.length_map, fil]
      exact List.length_filter_le _ _
    have d : (10 : Nat) ^ 9 = 1000000000 := by decide
    omega
  have := all_from W H x P (fsts (fil p (ex n [] 0))) hlen (fun c hc => by
    simp only [fsts, List.mem_map] at hc
    obtain ⟨q, hq1, rfl⟩ := hc
    exact hq q (List.mem_filter.mp hq1).1) (fsts (fil p (ex n [] 0))) [] [] (by simp) (Nat.le_refl _)
  simpa [goods] using this
def gsel (P : List Int → Option (List Nat)) (p : Int) (L : List (List Int × Nat)) : List (List Int) := (L.filter (fun q => decide ((q.2 : Int) = p) && (P q.1).isSome)).map (·.1)
theorem goods_eq (P : List Int → Option (List Nat)) (n p : Nat) : goods P n p = gsel P p (ex n [] 0) := by
  unfold goods fsts fil gsel
  rw [List.filter_map, List.filter_filter]
  congr 1
  apply List.filter_congr
  intro q _
  simp only [Function.comp]
  rw [Bool.and_comm]
  congr 1
  exact decide_eq_decide.mpr (by omega)
theorem gsel_none (P : List Int → Option (List Nat)) (p : Int) (n : Nat) (n1 : 1 ≤ n) (g : ¬ (1 ≤ p ∧ p ≤ (n : Int))) : gsel P p (ex n [] 0) = [] := by
  unfold gsel
  have : (ex n [] 0).filter (fun q => decide ((q.2 : Int) = p) && (P q.1).isSome) = [] := by
    rw [List.filter_eq_nil_iff]
    intro q hq
    have a := z26 n [] 0 q hq
    obtain ⟨d, rfl⟩ : ∃ d, n = d + 1 := ⟨n - 1, by omega⟩
    have b := ex_pos d [] 0 q hq
    have : ¬ ((q.2 : Int) = p) := by omega
    simp [this]
  rw [this]; rfl
theorem cuts_more (W H x n : Nat) (hW : 1 ≤ W ∧ W ≤ 6) (hH : 1 ≤ H ∧ H ≤ 6) (hn : W * H ≤ 36) (hx : x < 2 ^ (W * H)) (h9 : n ≤ 9) (hl : n = (cl x 0 (W * H)).length) :
    ∃ P : List Int → Option (List Nat), (∀ c : List Int, c.length = n → Ev (fun k => impl_piecesOf.f k W H x c) (match P c with | some R => (toI R, true) | none => ([], false))) ∧
      (∀ c : List Int, c.length = n → ∀ R, P c = some R → run c (cl x 0 (W * H)) [] = some R ∧ bnd R (W * H) ∧ R.length ≤ 36 ∧ Ev (fun k => spec_l09Pieces.f k W x c) (toI R)) ∧
      (∀ q, q ∈ ex n [] 0 → ∃ R, run q.1 (cl x 0 (W * H)) [] = some R ∧ R.length = q.2 ∧ q.1.length = n ∧ bnd R (W * H) ∧ R.length ≤ 36 ∧ (∀ R', P q.1 = some R' → R' = R) ∧ Ev (fun k => spec_l09Pieces.f k W x q.1) (toI R) ∧ Ev (fun k => spec_l09Whole.f k W H (toI R)) (P q.1).isSome) := by
  have ex1 : ∀ c : List Int, ∃ o : Option (List Nat), c.length = n → _ := fun c => by
    by_cases h : c.length = n
    · obtain ⟨o, ho⟩ := cut_all2 W H x hW hH hn hx c (by rw [h, hl])
      exact ⟨o, fun _ => ho⟩
    · exact ⟨none, fun g => absurd g h⟩
  refine ⟨fun c => Classical.choose (ex1 c), fun c hc => ((Classical.choose_spec (ex1 c)) hc).1, fun c hc R hR => ?_, fun q hq => ?_⟩
  · obtain ⟨_, s2, s3⟩ := (Classical.choose_spec (ex1 c)) hc
    obtain ⟨r1, r2, r3, _⟩ := s3 R (s2 R hR)
    exact ⟨s2 R hR, r1, r2, r3⟩
  · obtain ⟨R, g1, g2⟩ := ex_run n [] 0 q hq (cl x 0 (W * H)) [] rfl rfl (by rw [← hl]; simp)
    have hql : q.1.length = n := by have := (z26 n [] 0 q hq).2.2; simpa using this
    obtain ⟨_, s2, s3⟩ := (Classical.choose_spec (ex1 q.1)) hql
    obtain ⟨r1, r2, r3, r4⟩ := s3 R g1
    exact ⟨R, g1, g2, hql, r1, r2, fun R' h => Option.some.inj ((s2 R' h).symm.trans g1), r3, r4⟩
theorem cuttable_nat (W H x : Nat) (q : Nat) (c : okS (W : Int) (H : Int) (x : Int) = true) (hx64 : x < 2 ^ 64) (hon : pop 64 x = q) :
    impl_isCuttable.f (W : Int) (H : Int) (x : Int) 7 = some (decide ((1 : Int) ≤ (q : Int) ∧ (q : Int) ≤ 7)) := by
  have hon2 : bits_OnesCount.f (IntKind.u64.wrap (x : Int)) = some (q : Int) := by
    rw [z19 x hx64, onesCount x hx64, hon]
  unfold impl_isCuttable.f
  exact bind_at (z32 _ _ _) (if_at c (bind_at hon2 (bind_at (z27 _ _ _) rfl)))
theorem l09Ok_nat (W H x : Nat) (q : Nat) (c : okS (W : Int) (H : Int) (x : Int) = true) (h1 : Ev (fun k => spec_l08Ones.f k (x : Int)) (q : Int)) :
    Ev (fun k => spec_l10Ok.f k (W : Int) (H : Int) (x : Int)) (decide ((1 : Int) ≤ (q : Int) ∧ (q : Int) ≤ 7)) := by
  unfold spec_l10Ok.f
  exact z9 (z31 _ _ _) (z4 c (z7 h1 (z9 (in_eq _ _ _) (z8 _))))
theorem cuttable_not (w h m : Int) (c : ¬ okS w h m = true) : impl_isCuttable.f w h m 7 = some false := by
  unfold impl_isCuttable.f
  rw [z32]
  simp [c]
theorem l09Ok_not (w h m : Int) (c : ¬ okS w h m = true) : Ev (fun k => spec_l10Ok.f k w h m) false := by
  unfold spec_l10Ok.f
  exact z9 (z31 _ _ _) (z6 c (z8 _))
/-- A cuttable shape: its cells, what is made of each list of numbers, both ways. -/
theorem cut_shape (w h m : Int) : (impl_isCuttable.f w h m 7 = some false ∧ Ev (fun k => spec_l10Ok.f k w h m) false) ∨
    (impl_isCuttable.f w h m 7 = some true ∧ Ev (fun k => spec_l10Ok.f k w h m) true ∧ ∃ (W H x n : Nat), w = W ∧ h = H ∧ m = x ∧ (1 ≤ W ∧ W ≤ 6) ∧ (1 ≤ H ∧ H ≤ 6) ∧ W * H ≤ 36 ∧ x < 2 ^ (W * H) ∧ 1 ≤ n ∧ n ≤ 7 ∧ n = (cl x 0 (W * H)).length ∧
      Ev (fun k => spec_l08Ones.f k m) (n : Int) ∧ bits_OnesCount.f (IntKind.u64.wrap m) = some (n : Int)) := by
  by_cases c : okS w h m = true
  · obtain ⟨W, H, x, rfl, rfl, rfl, hW, hH, hx, hn⟩ := ok_nat c
    have h36 : x < 2 ^ 36 := Nat.lt_of_lt_of_le hx (Nat.pow_le_pow_right (by decide) hn)
    have hx64 : x < 2 ^ 64 := Nat.lt_of_lt_of_le h36 (Nat.pow_le_pow_right (by decide) (by decide))
    have h1 := l08Ones_ev 36 x h36 (by decide)
    have hp := pop64 (W * H) x hn hx
    generalize hq : pop 64 x = q at h1 hp
    have h2 := cuttable_nat W H x q c hx64 hq
    have h3 := l09Ok_nat W H x q c h1
    have hon2 : bits_OnesCount.f (IntKind.u64.wrap (x : Int)) = some (q : Int) := by
      rw [z19 x hx64, onesCount x hx64, hq]
    clear hq hx64 h36
    by_cases g : (1 : Int) ≤ (q : Int) ∧ (q : Int) ≤ 7
    · rw [decide_eq_true g] at h2 h3
      exact .inr ⟨h2, h3, W, H, x, q, rfl, rfl, rfl, hW, hH, hn, hx, by clear hon2; omega, by clear hon2; omega, hp, h1, hon2⟩
    · rw [decide_eq_false g] at h2 h3
      exact .inl ⟨h2, h3⟩
  · exact .inl ⟨cuttable_not w h m c, l09Ok_not w h m c⟩
/-- As grow_ev, with a bound on what is still to come: J m s says that s may meet m cuts more. -/
theorem vone_j {σ : Type} (vp : σ → List Int → List Int → σ × Bool) (P : List Int → Option (List Nat)) (J : Nat → σ → Prop) (hd : ∀ m s, J (m + 1) s → J m s) (n : Nat)
    (hv : ∀ m s c R, J (m + 1) s → P c = some R → c.length = n → J m (vp s c (toI R)).1) (m : Nat) (s : σ) (c : List Int) (hc : c.length = n) (h : J (m + 1) s) : J m (vone P vp c s).1 := by
  cases hp : P c with
  | none => rw [z1e hp]; exact hd m s h
  | some R => rw [z1a hp]; exact hv m s c R h hp hc
theorem visit_j {σ : Type} (vp : σ → List Int → List Int → σ × Bool) (P : List Int → Option (List Nat)) (J : Nat → σ → Prop) (hd : ∀ m s, J (m + 1) s → J m s) (n : Nat)
    (hv : ∀ m s c R, J (m + 1) s → P c = some R → c.length = n → J m (vp s c (toI R)).1) : ∀ (L : List (List Int × Nat)) (m : Nat) (s : σ), (∀ q ∈ L, q.1.length = n) → J (L.length + m) s → J m (za P vp L s).1 := by
  intro L
  induction L with
  | nil => intro m s _ h; simpa [za] using h
  | cons q L ih =>
    intro m s hq h
    have h1 := vone_j vp P J hd n hv (L.length + m) s q.1 (hq q (by simp)) (by rw [List.length_cons] at h; rwa [show L.length + m + 1 = L.length + 1 + m by omega])
    have hdn : ∀ k s, J (k + m) s → J m s := by
      intro k
      induction k with
      | zero => intro s h; simpa using h
      | succ k ihk => intro s h; exact ihk s (hd _ _ (by rwa [show k + m + 1 = k + 1 + m by omega]))
    simp only [za]
    by_cases g : (vone P vp q.1 s).2 = true
    · rw [if_pos g]; exact ih m _ (fun q hq' => hq q (by simp [hq'])) h1
    · rw [if_neg g]; exact hdn L.length _ h1
theorem grow_evj {σ : Type} (vs : Nat → σ → List Int → List Int → Option (σ × Bool)) (vp : σ → List Int → List Int → σ × Bool) (P : List Int → Option (List Nat)) (J : Nat → σ → Prop) (hd : ∀ m s, J (m + 1) s → J m s) (a0 a1 a2 : Int) (n : Nat) (hn : n ≤ 9)
    (hP : ∀ c : List Int, c.length = n → Ev (fun k => impl_piecesOf.f k a0 a1 a2 c) (match P c with | some R => (toI R, true) | none => ([], false)))
    (hj : ∀ m s c R, J (m + 1) s → P c = some R → c.length = n → J m (vp s c (toI R)).1)
    (hv : ∀ m s c R, J (m + 1) s → P c = some R → c.length = n → Ev (fun k => vs k s c (toI R)) (vp s c (toI R))) :
    ∀ (d : Nat) (c : List Int) (u : Nat) (s : σ) (m : Nat), J ((ex d c u).length + m) s → c.length + d = n → u ≤ c.length → Ev (fun k => impl_grow.f vs a0 a1 a2 n k u c s) (za P vp (ex d c u) s) := by
  intro d
  induction d with
  | zero =>
    intro c u s m hm hc hu
    refine z5 ?_
    simp only [impl_grow.f]
    have hpc := hP c (by omega)
    have e : za P vp (ex 0 c u) s = vone P vp c s := by
      simp only [ex, za]
      generalize vone P vp c s = r
      rcases r with ⟨s1, b⟩
      cases b <;> rfl
    have hm' : J (m + 1) s := by simpa [ex, Nat.add_comm] using hm
    rw [e]
    cases hp : P c with
    | none =>
      rw [hp] at hpc
      rw [z1e hp]
      exact z4 (by omega) (z4 (by omega) (z7 hpc (z6 (by decide) (z8 _))))
    | some R =>
      rw [hp] at hpc
      rw [z1a hp]
      exact z4 (by omega) (z4 (by omega) (z7 hpc (z4 rfl (hv m s c R hm' hp (by omega)))))
  | succ d ih =>
    intro c u s m hm hc hu
    refine z5 ?_
    simp only [impl_grow.f]
    refine z4 (by omega) (z6 (by omega) ?_)
    have loop : ∀ (t k : Nat), k + t = u + 1 → ∀ s m, J ((exf (ex d) c u k t).length + m) s → Ev (fun q => impl_grow.l vs a0 a1 a2 n q u c s (k : Int)) (za P vp (exf (ex d) c u k t) s) := by
      intro t
      induction t with
      | zero =>
        intro k hk s m hm
        refine z5 ?_
        simp only [impl_grow.l]
        exact z6 (by omega) (z8 _)
      | succ t iht =>
        intro k hk s m hm
        have e0 : wrap64 ((k : Int) + 1) = ((k + 1 : Nat) : Int) := z15 k (by omega)
        have e1 : mx (u : Int) ((k + 1 : Nat) : Int) = ((max u (k + 1) : Nat) : Int) := by rw [mx_eq]; omega
        have hm1 : J ((ex d (c ++ [(k : Int)]) (max u (k + 1))).length + ((exf (ex d) c u (k + 1) t).length + m)) s := by
          simp only [exf, List.length_append] at hm
          rwa [Nat.add_assoc] at hm
        have hj1 := visit_j vp P J hd n hj (ex d (c ++ [(k : Int)]) (max u (k + 1))) _ s (fun q hq => by have := (z26 d _ _ q hq).2.2; rw [this]; simp; omega) hm1
        refine z5 ?_
        simp only [impl_grow.l]
        rw [e0, e1]
        clear e0 e1
        refine z4 (by omega) (z4 (by omega) (z7 (ih (c ++ [(k : Int)]) (max u (k + 1)) s _ hm1 (by simp; omega) (by simp; omega)) ?_))
        simp only [exf]
        rw [z2f]
        generalize za P vp (ex d (c ++ [(k : Int)]) (max u (k + 1))) s = r at hj1
        by_cases hr : r.2 = true
        · rw [if_pos hr]
          exact z4 hr (iht (k + 1) (by omega) r.1 m hj1)
        · rw [if_neg hr]
          exact z6 hr (z8 _)
    exact loop (u + 1) 0 (by omega) s m hm
theorem z1b (pre suf : List S51) (a : S51) : rd_T51 (pre ++ a :: suf) (pre.length : Int) = a := by
  simp [rd_T51, List.getD_eq_getElem?_getD]
theorem z3a (w n x : Nat) (hw : 0 < w) (hww : w ≤ 6) (hn : n ≤ 36) (hx : x < 2 ^ 62) (d : Nat) : ∀ (i : Nat) (out : List S51), i + d = n → out.length + d ≤ 100 →
    Ev (fun k => impl_cells.l0 k (w : Int) (x : Int) out (n : Int) (i : Int)) (out ++ (cl x i d).map (z10 w)) := by
  induction d with
  | zero =>
    intro i out h ho
    refine z5 ?_
    simp only [impl_cells.l0, cl, List.map_nil, List.append_nil]
    exact z6 (by omega) (z8 _)
  | succ d ih =>
    intro i out h ho
    refine z5 ?_
    simp only [impl_cells.l0, cl]
    refine z4 (by omega) (z9 (z40 x i hx (by omega)) ?_)
    have e : wrap64 ((i : Int) + 1) = ((i + 1 : Nat) : Int) := by rw [w64 (by omega) (by omega)]; omega
    obtain ⟨t1, t2⟩ := tdivmod i w hw (by omega) (by omega)
    rw [e, t1, t2]
    by_cases b : x.testBit i = true
    · rw [if_pos b]
      refine z4 b (z6 (by omega) (z4 (by omega) ?_))
      have := ih (i + 1) (out ++ [z10 w i]) (by omega) (by simp; omega)
      simpa [z10] using this
    · rw [if_neg b]
      exact z6 b (ih (i + 1) out (by omega) (by omega))
theorem z4f (W H x : Nat) (hW : 1 ≤ W ∧ W ≤ 6) (hn : W * H ≤ 36) (hx : x < 2 ^ (W * H)) : Ev (fun k => impl_cells.f k (W : Int) (H : Int) (x : Int)) ((cl x 0 (W * H)).map (z10 W)) := by
  have hx62 : x < 2 ^ 62 := Nat.lt_of_lt_of_le hx (Nat.pow_le_pow_right (by decide) (by omega))
  unfold impl_cells.f
  have e : wrap64 ((W : Int) * (H : Int)) = ((W * H : Nat) : Int) := by rw [← Int.natCast_mul, w64 (by omega) (by omega)]
  rw [e]
  have := z3a W (W * H) x (by omega) (by omega) hn hx62 (W * H) 0 [] (by omega) (by simp; omega)
  simpa using this
/-- A quarter turn, n times. -/
def rot : Nat → S51 → S51
  | 0, p => p
  | n + 1, p => rot n ⟨-p.f1, p.f0⟩
def mvp (m : Nat) (p : S51) : S51 := rot (m % 4) (if 4 ≤ m then ⟨-p.f0, p.f1⟩ else p)
def near (B : Int) (p : S51) : Prop := (-B ≤ p.f0 ∧ p.f0 ≤ B) ∧ -B ≤ p.f1 ∧ p.f1 ≤ B
theorem rot_near (B : Int) (n : Nat) : ∀ p : S51, near B p → near B (rot n p) := by
  induction n with
  | zero => intro p h; exact h
  | succ n ih => intro p h; refine ih _ ?_; unfold near at *; simp only; omega
theorem mvp_near (B : Int) (m : Nat) (p : S51) (h : near B p) : near B (mvp m p) := by
  unfold mvp
  apply rot_near
  split
  · unfold near at *; simp only; omega
  · exact h
theorem rot_impl (m : Nat) (hm : m < 8) (d : Nat) : ∀ (i : Nat) (p : S51), i + d = m % 4 → near 1000000 p → Ev (fun k => impl_moved.l0 k ((m % 4 : Nat) : Int) (i : Int) p.f0 p.f1) ((rot d p).f0, (rot d p).f1) := by
  induction d with
  | zero =>
    intro i p h hp
    refine z5 ?_
    simp only [impl_moved.l0, rot]
    exact z6 (by omega) (z8 _)
  | succ d ih =>
    intro i p h hp
    refine z5 ?_
    simp only [impl_moved.l0, rot]
    refine z4 (by omega) ?_
    have hp' := hp
    unfold near at hp'
    have e : wrap64 ((i : Int) + 1) = ((i + 1 : Nat) : Int) := by rw [w64 (by omega) (by omega)]; omega
    rw [e, w64 (n := -p.f1) (by omega) (by omega)]
    have := ih (i + 1) ⟨-p.f1, p.f0⟩ (by omega) (by unfold near; simp only; omega)
    exact this
theorem apply_impl (m : Nat) (hm : m < 8) (p : S51) (hp : near 1000000 p) : Ev (fun k => impl_moved.f k p.f0 p.f1 (m : Int)) ((mvp m p).f0, (mvp m p).f1) := by
  unfold impl_moved.f mvp
  have hp' := hp
  unfold near at hp'
  have e4 : Int.tmod (m : Int) 4 = ((m % 4 : Nat) : Int) := by rw [Int.tmod_eq_emod_of_nonneg (by omega)]; rfl
  by_cases c : 4 ≤ m
  · rw [if_pos c, w64 (n := -p.f0) (by omega) (by omega)]
    refine z4 (by omega) (z5 ?_)
    simp only [impl_moved.j0, e4]
    exact rot_impl m hm (m % 4) 0 ⟨-p.f0, p.f1⟩ (by omega) (by unfold near; simp only; omega)
  · rw [if_neg c]
    refine z6 (by omega) (z5 ?_)
    simp only [impl_moved.j0, e4]
    exact rot_impl m hm (m % 4) 0 p (by omega) hp
/-- The least coordinates, and points moved on so that these are 0. -/
def lowX (a : Int) (l : List S51) : Int := l.foldl (fun z p => min z p.f0) a
def lowY (a : Int) (l : List S51) : Int := l.foldl (fun z p => min z p.f1) a
def lx : List S51 → Int
  | [] => 0
  | p :: l => lowX p.f0 (p :: l)
def ly : List S51 → Int
  | [] => 0
  | p :: l => lowY p.f1 (p :: l)
def z25 (x y : Int) (p : S51) : S51 := ⟨p.f0 - x, p.f1 - y⟩
def z12 (l : List S51) : List S51 := l.map (z25 (lx l) (ly l))
theorem lowX_near (B : Int) (l : List S51) : ∀ a, -B ≤ a → a ≤ B → (∀ p ∈ l, near B p) → -B ≤ lowX a l ∧ lowX a l ≤ B := by
  induction l with
  | nil => intro a h h' _; exact ⟨h, h'⟩
  | cons p l ih =>
    intro a h h' hl
    have hp := hl p (by simp)
    unfold near at hp
    exact ih (min a p.f0) (by omega) (by omega) (fun q hq => hl q (by simp [hq]))
theorem lowY_near (B : Int) (l : List S51) : ∀ a, -B ≤ a → a ≤ B → (∀ p ∈ l, near B p) → -B ≤ lowY a l ∧ lowY a l ≤ B := by
  induction l with
  | nil => intro a h h' _; exact ⟨h, h'⟩
  | cons p l ih =>
    intro a h h' hl
    have hp := hl p (by simp)
    unfold near at hp
    exact ih (min a p.f1) (by omega) (by omega) (fun q hq => hl q (by simp [hq]))
theorem lowX_le (l : List S51) : ∀ a, lowX a l ≤ a ∧ ∀ p ∈ l, lowX a l ≤ p.f0 := by
  induction l with
  | nil => intro a; exact ⟨Int.le_refl _, fun p hp => by cases hp⟩
  | cons q l ih =>
    intro a
    obtain ⟨h1, h2⟩ := ih (min a q.f0)
    refine ⟨Int.le_trans h1 (by omega), fun p hp => ?_⟩
    rcases List.mem_cons.mp hp with rfl | hp
    · exact Int.le_trans h1 (by omega)
    · exact h2 p hp
theorem lowY_le (l : List S51) : ∀ a, lowY a l ≤ a ∧ ∀ p ∈ l, lowY a l ≤ p.f1 := by
  induction l with
  | nil => intro a; exact ⟨Int.le_refl _, fun p hp => by cases hp⟩
  | cons q l ih =>
    intro a
    obtain ⟨h1, h2⟩ := ih (min a q.f1)
    refine ⟨Int.le_trans h1 (by omega), fun p hp => ?_⟩
    rcases List.mem_cons.mp hp with rfl | hp
    · exact Int.le_trans h1 (by omega)
    · exact h2 p hp
theorem lx_near (B : Int) (hB : 0 ≤ B) (l : List S51) (h : ∀ p ∈ l, near B p) : (-B ≤ lx l ∧ lx l ≤ B) ∧ -B ≤ ly l ∧ ly l ≤ B := by
  cases l with
  | nil => simp only [lx, ly]; omega
  | cons p l =>
    have hp := h p (by simp)
    unfold near at hp
    exact ⟨lowX_near B _ _ (by omega) (by omega) h, lowY_near B _ _ (by omega) (by omega) h⟩
theorem lx_le (l : List S51) : ∀ p ∈ l, lx l ≤ p.f0 ∧ ly l ≤ p.f1 := by
  cases l with
  | nil => intro p hp; cases hp
  | cons q l => exact fun p hp => ⟨(lowX_le _ _).2 p hp, (lowY_le _ _).2 p hp⟩
def hiX (a : Int) (l : List S51) : Int := l.foldl (fun z p => max z p.f0) a
def hiY (a : Int) (l : List S51) : Int := l.foldl (fun z p => max z p.f1) a
theorem z47 (B x y : Int) (hB : B ≤ 1000000) (hx : -B ≤ x ∧ x ≤ B) (hy : -B ≤ y ∧ y ≤ B) (p : S51) (hp : near B p) : (⟨wrap64 (p.f0 - x), wrap64 (p.f1 - y)⟩ : S51) = z25 x y p := by
  unfold near at hp
  rw [w64 (by omega) (by omega), w64 (by omega) (by omega)]; rfl
theorem corner_l1 (l : List S51) (hl : l.length ≤ 10000) (x y : Int) (hx : -1000000 ≤ x ∧ x ≤ 1000000) (hy : -1000000 ≤ y ∧ y ≤ 1000000) (hn : ∀ p ∈ l, near 1000000 p) : ∀ (suf pre out : List S51), l = pre ++ suf → out.length + suf.length ≤ 100000 →
    Ev (fun k => spec_l06Corner.l1 k x y out l (l.length : Int) (pre.length : Int)) (out ++ suf.map (z25 x y)) := by
  intro suf
  induction suf with
  | nil =>
    intro pre out h ho
    refine z5 ?_
    simp only [spec_l06Corner.l1]
    exact z6 (by subst h; simp) (z13 (z8 _) (by simp))
  | cons p suf ih =>
    intro pre out h ho
    refine z5 ?_
    simp only [spec_l06Corner.l1]
    have hlen : l.length = pre.length + (suf.length + 1) := by subst h; simp
    have ha : rd_T51 l (pre.length : Int) = p := by subst h; exact z1b pre suf p
    have hp := hn p (by subst h; simp)
    simp only [List.length_cons] at ho
    rw [ha, z47 1000000 x y (by omega) hx hy p hp, z11 pre p (by omega)]
    refine z4 (by omega) (z4 (by omega) (z4 (by omega) (z4 (by omega) ?_)))
    have := ih (pre ++ [p]) (out ++ [z25 x y p]) (by simp [h]) (by simp; omega)
    simpa using this
theorem corner_l0 (l : List S51) (hl : l.length ≤ 10000) (hn : ∀ p ∈ l, near 1000000 p) : ∀ (suf pre : List S51) (x y : Int), l = pre ++ suf → (-1000000 ≤ x ∧ x ≤ 1000000) → (-1000000 ≤ y ∧ y ≤ 1000000) →
    Ev (fun k => spec_l06Corner.l0 k l x y l (l.length : Int) (pre.length : Int)) (l.map (z25 (lowX x suf) (lowY y suf))) := by
  intro suf
  induction suf with
  | nil =>
    intro pre x y h hx hy
    refine z5 ?_
    simp only [spec_l06Corner.l0]
    refine z6 (by subst h; simp) ?_
    have := corner_l1 l hl x y hx hy hn l [] [] rfl (by simp; omega)
    exact this
  | cons p suf ih =>
    intro pre x y h hx hy
    refine z5 ?_
    simp only [spec_l06Corner.l0]
    have hlen : l.length = pre.length + (suf.length + 1) := by subst h; simp
    have ha : rd_T51 l (pre.length : Int) = p := by subst h; exact z1b pre suf p
    have hp := hn p (by subst h; simp)
    unfold near at hp
    rw [ha, z11 pre p (by omega)]
    refine z4 (by omega) (z4 (by omega) (z4 (by omega) ?_))
    rw [mn_eq, mn_eq]
    exact ih (pre ++ [p]) (min x p.f0) (min y p.f1) (by simp [h]) (by omega) (by omega)
theorem corner_spec (l : List S51) (hl : l.length ≤ 10000) (h0 : l ≠ []) (hn : ∀ p ∈ l, near 1000000 p) : Ev (fun k => spec_l06Corner.f k l) (z12 l) := by
  unfold spec_l06Corner.f
  match l, h0 with
  | p :: l, _ =>
    have hp := hn p (by simp)
    unfold near at hp
    have e : rd_T51 (p :: l) 0 = p := by simp [rd_T51]
    rw [e]
    refine z4 (by simp) ?_
    have := corner_l0 (p :: l) hl hn (p :: l) [] p.f0 p.f1 rfl hp.1 hp.2
    exact this
theorem box_l0 (l : List S51) (hl : l.length ≤ 10000) : ∀ (suf pre : List S51) (x y X Y : Int), l = pre ++ suf →
    Ev (fun k => impl_box.l0 k l (l.length : Int) (pre.length : Int) x y X Y) (lowX x suf, lowY y suf, hiX X suf, hiY Y suf) := by
  intro suf
  induction suf with
  | nil =>
    intro pre x y X Y h
    refine z5 ?_
    simp only [impl_box.l0]
    exact z6 (by subst h; simp) (z8 _)
  | cons p suf ih =>
    intro pre x y X Y h
    refine z5 ?_
    simp only [impl_box.l0]
    have hlen : l.length = pre.length + (suf.length + 1) := by subst h; simp
    have ha : rd_T51 l (pre.length : Int) = p := by subst h; exact z1b pre suf p
    rw [ha, z11 pre p (by omega)]
    refine z4 (by omega) (z4 (by omega) (z4 (by omega) ?_))
    rw [mn_eq, mn_eq, mx_eq, mx_eq]
    exact ih (pre ++ [p]) (min x p.f0) (min y p.f1) (max X p.f0) (max Y p.f1) (by simp [h])
theorem box_impl (p : S51) (l : List S51) (hl : l.length < 10000) : Ev (fun k => impl_box.f k (p :: l)) (lx (p :: l), ly (p :: l), hiX p.f0 (p :: l), hiY p.f1 (p :: l)) := by
  unfold impl_box.f
  have e : rd_T51 (p :: l) 0 = p := by simp [rd_T51]
  rw [e]
  refine z4 (by simp) ?_
  have := box_l0 (p :: l) (by simp; omega) (p :: l) [] p.f0 p.f1 p.f0 p.f1 rfl
  exact this
theorem movedOn_l1 (n : Nat) (hl : n ≤ 10000) (x y : Int) (hx : -1000000 ≤ x ∧ x ≤ 1000000) (hy : -1000000 ≤ y ∧ y ≤ 1000000) : ∀ (suf done : List S51), done.length + suf.length = n → (∀ p ∈ suf, near 1000000 p) →
    Ev (fun k => impl_movedOn.l1 k (done ++ suf) (n : Int) (done.length : Int) x y) (done ++ suf.map (z25 x y)) := by
  intro suf
  induction suf with
  | nil =>
    intro done h hn
    refine z5 ?_
    simp only [impl_movedOn.l1]
    exact z6 (by simp at h; omega) (z13 (z8 _) (by simp))
  | cons p suf ih =>
    intro done h hn
    refine z5 ?_
    simp only [impl_movedOn.l1]
    simp only [List.length_cons] at h
    have hp := hn p (by simp)
    have hlen : (done ++ p :: suf).length = n := by simp; omega
    rw [z1b, z47 1000000 x y (by omega) hx hy p hp]
    refine z4 (by omega) (z4 (by omega) (z4 (by omega) ?_))
    have e : (done ++ p :: suf).set ((done.length : Int)).toNat (z25 x y p) = (done ++ [z25 x y p]) ++ suf := by
      have : ((done.length : Int)).toNat = done.length := by omega
      rw [this, List.set_append_right _ _ (Nat.le_refl _)]
      simp
    rw [e, z11 done (z25 x y p) (by omega)]
    have := ih (done ++ [z25 x y p]) (by simp; omega) (fun q hq => hn q (by simp [hq]))
    simpa using this
theorem movedOn_l0 (l : List S51) (h0 : l ≠ []) (hl : l.length ≤ 5000) (m : Nat) (hm : m < 8) (hn : ∀ p ∈ l, near 1000000 p) : ∀ (suf pre : List S51), l = pre ++ suf →
    Ev (fun k => impl_movedOn.l0 k (m : Int) (pre.map (mvp m)) l (l.length : Int) (pre.length : Int)) (z12 (l.map (mvp m))) := by
  intro suf
  induction suf with
  | nil =>
    intro pre h
    obtain rfl : l = pre := by simp [h]
    refine z5 ?_
    simp only [impl_movedOn.l0]
    refine z6 (by omega) ?_
    match l, h0 with
    | p :: l, _ =>
      have hc : (p :: l).map (mvp m) = mvp m p :: l.map (mvp m) := rfl
      have hnm : ∀ q ∈ (p :: l).map (mvp m), near 1000000 q := by
        intro q hq
        obtain ⟨z, hz, rfl⟩ := List.mem_map.mp hq
        exact mvp_near _ _ _ (hn z hz)
      obtain ⟨b1, b2⟩ := lx_near 1000000 (by omega) _ hnm
      rw [hc] at b1 b2 hnm ⊢
      refine z7 (box_impl _ _ (by simp at hl ⊢; omega)) ?_
      have := movedOn_l1 (mvp m p :: l.map (mvp m)).length (by simp at hl ⊢; omega) _ _ b1 b2 (mvp m p :: l.map (mvp m)) [] (by simp) hnm
      exact this
  | cons p suf ih =>
    intro pre h
    refine z5 ?_
    simp only [impl_movedOn.l0]
    have hlen : l.length = pre.length + (suf.length + 1) := by subst h; simp
    have ha : rd_T51 l (pre.length : Int) = p := by subst h; exact z1b pre suf p
    have hp := hn p (by subst h; simp)
    rw [ha, z11 pre p (by omega)]
    refine z4 (by omega) (z4 (by omega) (z4 (by omega) (z7 (apply_impl m hm p hp) (z4 (by simp; omega) ?_))))
    have := ih (pre ++ [p]) (by simp [h])
    simpa using this
theorem movedOn_impl (l : List S51) (h0 : l ≠ []) (hl : l.length ≤ 5000) (m : Nat) (hm : m < 8) (hn : ∀ p ∈ l, near 1000000 p) : Ev (fun k => impl_movedOn.f k l (m : Int)) (z12 (l.map (mvp m))) := by
  unfold impl_movedOn.f
  exact movedOn_l0 l h0 hl m hm hn l [] rfl
/-- The bit of a point in a table of w columns. -/
def z18 (w : Nat) (p : S51) : Nat := (p.f1 * w + p.f0).toNat
def putS (w h : Nat) : List S51 → Nat → Int × Bool
  | [], m => ((m : Int), true)
  | p :: l, m => if (w : Int) ≤ p.f0 ∨ (h : Int) ≤ p.f1 then (0, false) else putS w h l (m + 2 ^ z18 w p)
theorem z49 (w h : Nat) (hw : w ≤ 6) (hh : h ≤ 6) (p : S51) (h0 : 0 ≤ p.f0) (h1 : 0 ≤ p.f1) (a : p.f0 < w) (b : p.f1 < h) (hn : w * h ≤ 36) :
    wrap64 (wrap64 (p.f1 * (w : Int)) + p.f0) = (z18 w p : Int) ∧ z18 w p < w * h := by
  obtain ⟨x, hx⟩ := Int.eq_ofNat_of_zero_le h0
  obtain ⟨y, hy⟩ := Int.eq_ofNat_of_zero_le h1
  unfold z18
  rw [hx] at a ⊢
  rw [hy] at b ⊢
  have a' : x < w := by omega
  have b' : y + 1 ≤ h := by omega
  have e : (y + 1) * w ≤ h * w := Nat.mul_le_mul_right w b'
  have e2 : (y + 1) * w = y * w + w := Nat.succ_mul y w
  have e3 : h * w = w * h := Nat.mul_comm h w
  rw [← Int.natCast_mul]
  have e4 : y * w + x < w * h := by omega
  have e5 : wrap64 ((y * w : Nat) : Int) = ((y * w : Nat) : Int) := by
    generalize y * w = q at *
    exact w64 (by omega) (by omega)
  rw [e5]
  generalize y * w = q at *
  generalize w * h = r at *
  rw [w64 (by omega) (by omega)]
  omega
theorem put_spec_l0 (w h : Nat) (hw : w ≤ 6) (hh : h ≤ 6) (hn : w * h ≤ 36) (l : List S51) (hl : l.length ≤ 100) (hp : ∀ p ∈ l, 0 ≤ p.f0 ∧ 0 ≤ p.f1) : ∀ (suf pre : List S51) (m : Nat), l = pre ++ suf → m ≤ pre.length * 2 ^ 36 →
    Ev (fun k => spec_l08Put.l0 k (w : Int) (h : Int) (m : Int) l (l.length : Int) (pre.length : Int)) (putS w h suf m) := by
  intro suf
  induction suf with
  | nil =>
    intro pre m h1 hm
    refine z5 ?_
    simp only [spec_l08Put.l0, putS]
    exact z6 (by subst h1; simp) (z8 _)
  | cons p suf ih =>
    intro pre m h1 hm
    refine z5 ?_
    simp only [spec_l08Put.l0, putS]
    have hlen : l.length = pre.length + (suf.length + 1) := by subst h1; simp
    have ha : rd_T51 l (pre.length : Int) = p := by subst h1; exact z1b pre suf p
    obtain ⟨p0, p1⟩ := hp p (by subst h1; simp)
    rw [ha, z11 pre p (by omega)]
    refine z4 (by omega) (z4 (by omega) (z4 (by omega) ?_))
    by_cases c : (w : Int) ≤ p.f0
    · rw [if_pos (Or.inl c)]
      exact z4 c (z8 _)
    · refine z6 c ?_
      by_cases d : (h : Int) ≤ p.f1
      · rw [if_pos (Or.inr d)]
        exact z4 d (z8 _)
      · refine z6 d ?_
        rw [if_neg (by omega)]
        obtain ⟨e1, e2⟩ := z49 w h hw hh p p0 p1 (by omega) (by omega) hn
        rw [e1, z14 _ (by omega)]
        have hb : 2 ^ z18 w p ≤ 2 ^ 36 := Nat.pow_le_pow_right (by decide) (by omega)
        have hm2 : m + 2 ^ z18 w p ≤ (pre.length + 1) * 2 ^ 36 := by rw [Nat.succ_mul]; omega
        have e3 : wrap64 ((m : Int) + ((2 ^ z18 w p : Nat) : Int)) = ((m + 2 ^ z18 w p : Nat) : Int) := by
          generalize 2 ^ z18 w p = z at *
          rw [w64 (by omega) (by omega)]; omega
        rw [e3]
        exact z4 (by omega) (ih (pre ++ [p]) _ (by simp [h1]) (by simpa using hm2))
def putO (w h : Nat) : List S51 → Nat → Int × Bool
  | [], m => ((m : Int), true)
  | p :: l, m => if (w : Int) ≤ p.f0 ∨ (h : Int) ≤ p.f1 then (0, false) else putO w h l (m ||| 2 ^ z18 w p)
theorem put_impl_l0 (w h : Nat) (hw : w ≤ 6) (hh : h ≤ 6) (hn : w * h ≤ 36) (l : List S51) (hl : l.length ≤ 100) (hp : ∀ p ∈ l, 0 ≤ p.f0 ∧ 0 ≤ p.f1) : ∀ (suf pre : List S51) (m : Nat), l = pre ++ suf → m < 2 ^ 36 →
    Ev (fun k => impl_movedMask.l0 k (w : Int) (h : Int) (m : Int) l (l.length : Int) (pre.length : Int)) (putO w h suf m) := by
  intro suf
  induction suf with
  | nil =>
    intro pre m h1 hm
    refine z5 ?_
    simp only [impl_movedMask.l0, putO]
    exact z6 (by subst h1; simp) (z8 _)
  | cons p suf ih =>
    intro pre m h1 hm
    refine z5 ?_
    simp only [impl_movedMask.l0, putO]
    have hlen : l.length = pre.length + (suf.length + 1) := by subst h1; simp
    have ha : rd_T51 l (pre.length : Int) = p := by subst h1; exact z1b pre suf p
    obtain ⟨p0, p1⟩ := hp p (by subst h1; simp)
    rw [ha, z11 pre p (by omega)]
    refine z4 (by omega) (z4 (by omega) (z4 (by omega) ?_))
    by_cases c : (w : Int) ≤ p.f0
    · rw [if_pos (Or.inl c)]
      exact z4 c (z8 _)
    · refine z6 c ?_
      by_cases d : (h : Int) ≤ p.f1
      · rw [if_pos (Or.inr d)]
        exact z4 d (z8 _)
      · refine z6 d ?_
        rw [if_neg (by omega)]
        obtain ⟨e1, e2⟩ := z49 w h hw hh p p0 p1 (by omega) (by omega) hn
        rw [e1, z14 _ (by omega)]
        have hb : 2 ^ z18 w p < 2 ^ 36 := Nat.pow_lt_pow_right (by decide) (by omega)
        have hm2 : m ||| 2 ^ z18 w p < 2 ^ 36 := Nat.or_lt_two_pow hm hb
        rw [z2a m (2 ^ z18 w p) (by omega) (by omega)]
        exact z4 (by omega) (ih (pre ++ [p]) _ (by simp [h1]) hm2)
theorem or_add (m j : Nat) (h : m.testBit j = false) : m ||| 2 ^ j = m + 2 ^ j := by
  have hpos := Nat.two_pow_pos j
  have hb : m % 2 ^ j < 2 ^ j := Nat.mod_lt _ hpos
  have hm := Nat.div_add_mod m (2 ^ j)
  rw [z16, decide_eq_false_iff_not] at h
  obtain ⟨a, ha⟩ : ∃ a, m / 2 ^ j = 2 * a := ⟨m / 2 ^ j / 2, by generalize m / 2 ^ j = q at *; omega⟩
  generalize hB : m % 2 ^ j = b at *
  rw [ha] at hm
  have e1 : m = 2 ^ j * (2 * a) ||| b := by rw [← Nat.two_pow_add_eq_or_of_lt hb]; exact hm.symm
  have e2 : m + 2 ^ j = 2 ^ j * (2 * a + 1) ||| b := by
    rw [← Nat.two_pow_add_eq_or_of_lt hb, Nat.mul_add]; omega
  have e3 : 2 ^ j * (2 * a + 1) = 2 ^ j * (2 * a) ||| 2 ^ j := by
    have h1 : 2 ^ j < 2 ^ (j + 1) := by rw [Nat.pow_succ]; omega
    have h2 := Nat.two_pow_add_eq_or_of_lt h1 a
    rw [Nat.pow_succ, Nat.mul_assoc] at h2
    rw [← h2, Nat.mul_add]; omega
  rw [e2, e3, e1]
  rw [Nat.or_assoc, Nat.or_assoc, Nat.or_comm b]
theorem bitOf_inj (w : Nat) (p q : S51) (hp : 0 ≤ p.f0 ∧ 0 ≤ p.f1) (hq : 0 ≤ q.f0 ∧ 0 ≤ q.f1) (a : p.f0 < w) (b : q.f0 < w) (h : z18 w p = z18 w q) : p = q := by
  obtain ⟨x, hx⟩ := Int.eq_ofNat_of_zero_le hp.1
  obtain ⟨y, hy⟩ := Int.eq_ofNat_of_zero_le hp.2
  obtain ⟨z, hz⟩ := Int.eq_ofNat_of_zero_le hq.1
  obtain ⟨u, hu⟩ := Int.eq_ofNat_of_zero_le hq.2
  unfold z18 at h
  rw [hx, hy, hz, hu] at h
  rw [← Int.natCast_mul, ← Int.natCast_mul] at h
  have h' : y * w + x = u * w + z := by omega
  have a' : x < w := by omega
  have b' : z < w := by omega
  have e1 : (y * w + x) / w = y := by rw [Nat.mul_comm, Nat.mul_add_div (by omega), Nat.div_eq_of_lt a']; rfl
  have e2 : (u * w + z) / w = u := by rw [Nat.mul_comm, Nat.mul_add_div (by omega), Nat.div_eq_of_lt b']; rfl
  have e3 : y = u := by rw [← e1, ← e2, h']
  subst e3
  have e4 : x = z := by omega
  cases p; cases q
  simp only [S51.mk.injEq] at *
  omega
theorem putS_eq (w h : Nat) : ∀ (l : List S51) (m : Nat), l.Nodup → (∀ p ∈ l, 0 ≤ p.f0 ∧ 0 ≤ p.f1) → (∀ p ∈ l, p.f0 < w → m.testBit (z18 w p) = false) → putS w h l m = putO w h l m := by
  intro l
  induction l with
  | nil => intro m _ _ _; rfl
  | cons p l ih =>
    intro m hd hp hm
    simp only [putS, putO]
    by_cases c : (w : Int) ≤ p.f0 ∨ (h : Int) ≤ p.f1
    · rw [if_pos c, if_pos c]
    · rw [if_neg c, if_neg c]
      have hb := hm p (by simp) (by omega)
      rw [or_add m _ hb]
      obtain ⟨d1, d2⟩ := List.nodup_cons.mp hd
      refine ih _ d2 (fun q hq => hp q (by simp [hq])) (fun q hq hqw => ?_)
      rw [← or_add m _ hb, Nat.testBit_or, hm q (by simp [hq]) hqw, Nat.testBit_two_pow]
      simp only [Bool.false_or, decide_eq_false_iff_not]
      intro e
      have := bitOf_inj w p q (hp p (by simp)) (hp q (by simp [hq])) (by omega) hqw e
      subst this
      exact d1 hq
theorem rot_inj (n : Nat) : ∀ p q : S51, rot n p = rot n q → p = q := by
  induction n with
  | zero => intro p q h; exact h
  | succ n ih =>
    intro p q h
    have := ih _ _ h
    cases p; cases q
    simp only [S51.mk.injEq] at *
    omega
theorem mvp_inj (m : Nat) (p q : S51) (h : mvp m p = mvp m q) : p = q := by
  unfold mvp at h
  have := rot_inj _ _ _ h
  by_cases c : 4 ≤ m
  · rw [if_pos c, if_pos c] at this
    cases p; cases q
    simp only [S51.mk.injEq] at *
    omega
  · rw [if_neg c, if_neg c] at this
    exact this
theorem shift_inj (x y : Int) (p q : S51) (h : z25 x y p = z25 x y q) : p = q := by
  unfold z25 at h
  cases p; cases q
  simp only [S51.mk.injEq] at *
  omega
theorem cellAt_inj (w i j : Nat) (h : z10 w i = z10 w j) : i = j := by
  unfold z10 at h
  simp only [S51.mk.injEq] at h
  have e1 := Nat.div_add_mod i w
  have e2 := Nat.div_add_mod j w
  have e3 : i % w = j % w := by generalize i % w = a at *; generalize j % w = b at *; omega
  have e4 : i / w = j / w := by generalize i / w = a at *; generalize j / w = b at *; omega
  rw [← e1, ← e2, e3, e4]
theorem cl_nodup (x : Nat) (d : Nat) : ∀ i, (cl x i d).Nodup := by
  induction d with
  | zero => intro i; exact List.nodup_nil
  | succ d ih =>
    intro i
    simp only [cl]
    split
    · refine List.nodup_cons.mpr ⟨fun h => ?_, ih _⟩
      have := ((cl_mem x d (i + 1) i).mp h).1
      omega
    · exact ih _
theorem z2c {α β : Type} {f : α → β} (hf : ∀ a b, f a = f b → a = b) : ∀ {l : List α}, l.Nodup → (l.map f).Nodup := by
  intro l
  induction l with
  | nil => intro _; exact List.nodup_nil
  | cons a l ih =>
    intro h
    obtain ⟨h1, h2⟩ := List.nodup_cons.mp h
    refine List.nodup_cons.mpr ⟨fun h => ?_, ih h2⟩
    obtain ⟨b, hb, e⟩ := List.mem_map.mp h
    exact h1 (hf _ _ e ▸ hb)
theorem z21 (l : List S51) : ∀ p ∈ z12 l, 0 ≤ p.f0 ∧ 0 ≤ p.f1 := by
  intro p hp
  unfold z12 at hp
  obtain ⟨q, hq, rfl⟩ := List.mem_map.mp hp
  have := lx_le l q hq
  unfold z25
  simp only
  omega
theorem z30 (l : List S51) (h : l.Nodup) : (z12 l).Nodup := z2c (shift_inj _ _) h
def zc (W H x : Nat) : List S51 := (cl x 0 (W * H)).map (z10 W)
theorem z3c (W H x : Nat) : (zc W H x).Nodup := z2c (cellAt_inj W) (cl_nodup _ _ _)
theorem cells_len (W H x : Nat) : (zc W H x).length ≤ W * H := by unfold zc; rw [List.length_map]; exact cl_len _ _ _
theorem z46 (W H x : Nat) (hn : W * H ≤ 36) : ∀ p ∈ zc W H x, near 1000000 p := by
  intro p hp
  unfold zc at hp
  obtain ⟨i, hi, rfl⟩ := List.mem_map.mp hp
  have := ((cl_mem x (W * H) 0 i).mp hi).2.1
  have h1 : i / W ≤ i := Nat.div_le_self _ _
  have h2 : i % W ≤ i := Nat.mod_le _ _
  unfold z10 near
  simp only
  generalize i / W = a at *
  generalize i % W = b at *
  omega
theorem z3b (W H x : Nat) (hx : x < 2 ^ (W * H)) : zc W H x = [] ↔ x = 0 := by
  constructor
  · intro h
    apply Classical.byContradiction
    intro h0
    obtain ⟨i, hi⟩ := Nat.exists_testBit_of_ne_zero h0
    have hlt : i < W * H := by
      apply Classical.byContradiction
      intro hge
      have := Nat.testBit_lt_two_pow (i := i) (Nat.lt_of_lt_of_le hx (Nat.pow_le_pow_right (by decide) (by omega)))
      rw [this] at hi; cases hi
    have : i ∈ cl x 0 (W * H) := (cl_mem _ _ _ _).mpr ⟨by omega, by omega, hi⟩
    have : z10 W i ∈ zc W H x := List.mem_map.mpr ⟨i, this, rfl⟩
    rw [h] at this; cases this
  · rintro rfl
    unfold zc
    rw [cl_none 0 _ _ (by simp)]; rfl
/-- The mask behind a motion, and whether it fits. -/
def zf (W H x m : Nat) : Int × Bool := if x = 0 then (0, true) else putO W H (z12 ((zc W H x).map (mvp m))) 0
theorem mvp_zero (p : S51) : mvp 0 p = p := by unfold mvp; simp [rot]
theorem put_spec (W H : Nat) (hW : 1 ≤ W ∧ W ≤ 6) (hH : 1 ≤ H ∧ H ≤ 6) (hn : W * H ≤ 36) (l : List S51) (hl : l.length ≤ 36) (h0 : l ≠ []) (hd : l.Nodup) (hp : ∀ p ∈ l, near 1000000 p) :
    Ev (fun k => spec_l08Put.f k (W : Int) (H : Int) l) (putO W H (z12 l) 0) := by
  unfold spec_l08Put.f
  have hl0 : l.length ≠ 0 := fun h => h0 (List.length_eq_zero_iff.mp h)
  refine z6 (by omega) (z7 (corner_spec l (by omega) h0 hp) ?_)
  have hc : (z12 l).length = l.length := by unfold z12; simp
  have := put_spec_l0 W H (by omega) (by omega) hn (z12 l) (by omega) (z21 l) (z12 l) [] 0 rfl (by simp)
  refine z13 this ?_
  exact putS_eq W H _ 0 (z30 l hd) (z21 l) (fun p _ _ => Nat.zero_testBit _)
theorem move_impl (W H x m : Nat) (hW : 1 ≤ W ∧ W ≤ 6) (hH : 1 ≤ H ∧ H ≤ 6) (hn : W * H ≤ 36) (hx : x < 2 ^ (W * H)) (hm : m < 8) : Ev (fun k => impl_movedMask.f k (W : Int) (H : Int) (x : Int) (m : Int)) (zf W H x m) := by
  unfold impl_movedMask.f zf
  have hnr := z46 W H x hn
  have hln := cells_len W H x
  by_cases z : x = 0
  · rw [if_pos z]
    exact z4 (by omega) (z8 _)
  · rw [if_neg z]
    have hne : zc W H x ≠ [] := fun h => z ((z3b W H x hx).mp h)
    refine z6 (by omega) (z7 (z4f W H x hW hn hx) (z7 (movedOn_impl _ hne (by omega) m hm hnr) ?_))
    have hc : (z12 ((zc W H x).map (mvp m))).length = (zc W H x).length := by unfold z12; simp
    exact put_impl_l0 W H (by omega) (by omega) hn _ (by omega) (z21 _) _ [] 0 rfl (by simp)
theorem rot_spec (m : Nat) (hm : m < 8) (d : Nat) : ∀ (i : Nat) (p : S51), i + d = m % 4 → near 1000000 p → Ev (fun k => spec_l06Apply.l0 k (m : Int) (i : Int) p.f0 p.f1) ((rot d p).f0, (rot d p).f1) := by
  have e4 : Int.tmod (m : Int) 4 = ((m % 4 : Nat) : Int) := by rw [Int.tmod_eq_emod_of_nonneg (by omega)]; rfl
  induction d with
  | zero =>
    intro i p h hp
    refine z5 ?_
    simp only [spec_l06Apply.l0, e4, rot]
    exact z6 (by omega) (z8 _)
  | succ d ih =>
    intro i p h hp
    refine z5 ?_
    simp only [spec_l06Apply.l0, e4, rot]
    refine z4 (by omega) ?_
    have hp' := hp
    unfold near at hp'
    have e : wrap64 ((i : Int) + 1) = ((i + 1 : Nat) : Int) := by rw [w64 (by omega) (by omega)]; omega
    rw [e, w64 (n := -p.f1) (by omega) (by omega)]
    have := ih (i + 1) ⟨-p.f1, p.f0⟩ (by omega) (by unfold near; simp only; omega)
    exact this
theorem apply_spec (m : Nat) (hm : m < 8) (p : S51) (hp : near 1000000 p) : Ev (fun k => spec_l06Apply.f k p.f0 p.f1 (m : Int)) ((mvp m p).f0, (mvp m p).f1) := by
  unfold spec_l06Apply.f mvp
  have hp' := hp
  unfold near at hp'
  by_cases c : 4 ≤ m
  · rw [if_pos c, w64 (n := -p.f0) (by omega) (by omega)]
    refine z4 (by omega) (z5 ?_)
    simp only [spec_l06Apply.j0]
    exact rot_spec m hm (m % 4) 0 ⟨-p.f0, p.f1⟩ (by omega) (by unfold near; simp only; omega)
  · rw [if_neg c]
    refine z6 (by omega) (z5 ?_)
    simp only [spec_l06Apply.j0]
    exact rot_spec m hm (m % 4) 0 p (by omega) hp
theorem move_spec (W H x m : Nat) (hW : 1 ≤ W ∧ W ≤ 6) (hH : 1 ≤ H ∧ H ≤ 6) (hn : W * H ≤ 36) (hx : x < 2 ^ (W * H)) (hm : m < 8) : Ev (fun k => spec_l08Move.f k (W : Int) (H : Int) (x : Int) (m : Int)) (zf W H x m) := by
  unfold spec_l08Move.f
  refine z7 (z28 W (W * H) x hW hn hx) ?_
  have hnr := z46 W H x hn
  have hln := cells_len W H x
  have loop : ∀ (suf pre : List S51), zc W H x = pre ++ suf → Ev (fun k => spec_l08Move.l0 k (W : Int) (H : Int) (m : Int) (pre.map (mvp m)) (zc W H x) ((zc W H x).length : Int) (pre.length : Int)) (zf W H x m) := by
    intro suf
    induction suf with
    | nil =>
      intro pre h
      have h' : zc W H x = pre := by simp [h]
      refine z5 ?_
      simp only [spec_l08Move.l0]
      refine z6 (by rw [h']; omega) ?_
      rw [← h']
      unfold zf
      by_cases z : x = 0
      · rw [if_pos z, (z3b W H x hx).mpr z]
        refine z7 (a := (0, true)) ?_ (z8 _)
        unfold spec_l08Put.f
        exact z4 (by simp) (z8 _)
      · rw [if_neg z]
        have hne : zc W H x ≠ [] := fun h => z ((z3b W H x hx).mp h)
        refine z7 (put_spec W H hW hH hn _ (by simp; omega) (by simpa using hne) (z2c (mvp_inj m) (z3c W H x)) ?_) (z8 _)
        intro q hq
        obtain ⟨z, hz, rfl⟩ := List.mem_map.mp hq
        exact mvp_near _ _ _ (hnr z hz)
    | cons p suf ih =>
      intro pre h
      refine z5 ?_
      simp only [spec_l08Move.l0]
      have hlen : (zc W H x).length = pre.length + (suf.length + 1) := by rw [h]; simp
      have ha : rd_T51 (zc W H x) (pre.length : Int) = p := by rw [h]; exact z1b pre suf p
      have hp := hnr p (by rw [h]; simp)
      rw [ha, z11 pre p (by omega)]
      refine z4 (by omega) (z4 (by omega) (z4 (by omega) (z7 (apply_spec m hm p hp) (z4 (by simp; omega) ?_))))
      have := ih (pre ++ [p]) (by simp [h])
      simpa using this
  exact loop (zc W H x) [] rfl
/-- The least mask behind the motions from m on. -/
def z23 (W H x : Nat) : Nat → Nat → Int → Int
  | 0, _, b => b
  | d + 1, m, b => z23 W H x d (m + 1) (if (zf W H x m).2 = true then (if b < 0 then (zf W H x m).1 else if (zf W H x m).1 < b then (zf W H x m).1 else b) else b)
theorem z44 (W H x : Nat) (hW : 1 ≤ W ∧ W ≤ 6) (hH : 1 ≤ H ∧ H ≤ 6) (hn : W * H ≤ 36) (hx : x < 2 ^ (W * H)) (d : Nat) : ∀ (m : Nat) (b : Int), m + d = 8 → Ev (fun k => impl_nameOf.l0 k (W : Int) (H : Int) (x : Int) b (m : Int)) (z23 W H x d m b) := by
  induction d with
  | zero =>
    intro m b h
    refine z5 ?_
    simp only [impl_nameOf.l0, z23]
    exact z6 (by omega) (z8 _)
  | succ d ih =>
    intro m b h
    refine z5 ?_
    simp only [impl_nameOf.l0, z23]
    refine z4 (by omega) (z7 (move_impl W H x m hW hH hn hx (by omega)) ?_)
    have e : wrap64 ((m : Int) + 1) = ((m + 1 : Nat) : Int) := by rw [w64 (by omega) (by omega)]; omega
    rw [e]
    by_cases c : (zf W H x m).2 = true
    · rw [if_pos c]
      refine z4 c ?_
      by_cases c2 : b < 0
      · rw [if_pos c2]; exact z4 c2 (ih (m + 1) _ (by omega))
      · rw [if_neg c2]
        refine z6 c2 ?_
        by_cases c3 : (zf W H x m).1 < b
        · rw [if_pos c3]; exact z4 c3 (ih (m + 1) _ (by omega))
        · rw [if_neg c3]; exact z6 c3 (ih (m + 1) _ (by omega))
    · rw [if_neg c]
      exact z6 c (ih (m + 1) _ (by omega))
theorem impl_name (W H x : Nat) (hW : 1 ≤ W ∧ W ≤ 6) (hH : 1 ≤ H ∧ H ≤ 6) (hn : W * H ≤ 36) (hx : x < 2 ^ (W * H)) : Ev (fun k => impl_nameOf.f k (W : Int) (H : Int) (x : Int)) (z23 W H x 8 0 (-1)) := by
  unfold impl_nameOf.f
  exact z44 W H x hW hH hn hx 8 0 (-1) rfl
theorem z45 (W H x : Nat) (hW : 1 ≤ W ∧ W ≤ 6) (hH : 1 ≤ H ∧ H ≤ 6) (hn : W * H ≤ 36) (hx : x < 2 ^ (W * H)) (d : Nat) : ∀ (m : Nat) (b : Int), m + d = 8 → Ev (fun k => spec_l08Name.l0 k (W : Int) (H : Int) (x : Int) b (m : Int)) (z23 W H x d m b) := by
  induction d with
  | zero =>
    intro m b h
    refine z5 ?_
    simp only [spec_l08Name.l0, z23]
    exact z6 (by omega) (z8 _)
  | succ d ih =>
    intro m b h
    refine z5 ?_
    simp only [spec_l08Name.l0, z23]
    refine z4 (by omega) (z7 (move_spec W H x m hW hH hn hx (by omega)) ?_)
    have e : wrap64 ((m : Int) + 1) = ((m + 1 : Nat) : Int) := by rw [w64 (by omega) (by omega)]; omega
    rw [e]
    by_cases c : (zf W H x m).2 = true
    · rw [if_pos c]
      refine z4 c ?_
      by_cases c2 : b < 0
      · rw [if_pos c2]; exact z4 c2 (ih (m + 1) _ (by omega))
      · rw [if_neg c2]
        refine z6 c2 ?_
        by_cases c3 : (zf W H x m).1 < b
        · rw [if_pos c3]; exact z4 c3 (ih (m + 1) _ (by omega))
        · rw [if_neg c3]; exact z6 c3 (ih (m + 1) _ (by omega))
    · rw [if_neg c]
      exact z6 c (ih (m + 1) _ (by omega))
theorem spec_name (W H x : Nat) (hW : 1 ≤ W ∧ W ≤ 6) (hH : 1 ≤ H ∧ H ≤ 6) (hn : W * H ≤ 36) (hx : x < 2 ^ (W * H)) : Ev (fun k => spec_l08Name.f k (W : Int) (H : Int) (x : Int)) (z23 W H x 8 0 (-1)) := by
  unfold spec_l08Name.f
  exact z45 W H x hW hH hn hx 8 0 (-1) rfl
/-! The key of a list of numbers tells the list. -/
def dval (l : List UInt8) : Nat := l.foldl (fun a b => a * 10 + (b.toNat - 48)) 0
theorem z37 (u : Nat) : dval (Lib.decDigits u) = u := by
  induction u using Nat.strongRecOn with
  | _ u ih =>
    by_cases h : u < 10
    · rw [Lib.decDigits, dif_pos h]
      simp only [dval, List.foldl_cons, List.foldl_nil, UInt8.toNat_ofNat']
      omega
    · rw [Lib.decDigits, dif_neg h]
      have := ih (u / 10) (by omega)
      unfold dval at this ⊢
      rw [List.foldl_append, this]
      simp only [List.foldl_cons, List.foldl_nil, UInt8.toNat_ofNat']
      omega
theorem dec_dig (u : Nat) : ∀ b ∈ Lib.decDigits u, 48 ≤ b.toNat ∧ b.toNat ≤ 57 := by
  induction u using Nat.strongRecOn with
  | _ u ih =>
    intro b hb
    by_cases h : u < 10
    · rw [Lib.decDigits, dif_pos h] at hb
      simp only [List.mem_singleton] at hb
      subst hb
      simp only [UInt8.toNat_ofNat']
      omega
    · rw [Lib.decDigits, dif_neg h, List.mem_append] at hb
      rcases hb with hb | hb
      · exact ih (u / 10) (by omega) b hb
      · simp only [List.mem_singleton] at hb
        subst hb
        simp only [UInt8.toNat_ofNat']
        omega
theorem dec_ne (u : Nat) : Lib.decDigits u ≠ [] := by
  rw [Lib.decDigits]
  split <;> simp
theorem itoa_ne (n : Int) : Lib.itoa n ≠ [] := by
  unfold Lib.itoa
  split
  · simp
  · exact dec_ne _
theorem itoa_44 (n : Int) : ∀ b ∈ Lib.itoa n, b ≠ 44 := by
  intro b hb e
  subst e
  unfold Lib.itoa at hb
  split at hb
  · rcases List.mem_cons.mp hb with h | h
    · exact absurd h (by decide)
    · have := (dec_dig _ _ h).1
      exact absurd this (by decide)
  · have := (dec_dig _ _ hb).1
    exact absurd this (by decide)
theorem itoa_inj {a b : Int} (h : Lib.itoa a = Lib.itoa b) : a = b := by
  have no : ∀ u (l : List UInt8), Lib.decDigits u ≠ 45 :: l := fun u l e => by
    have := (dec_dig u 45 (by rw [e]; simp)).1
    exact absurd this (by decide)
  unfold Lib.itoa at h
  by_cases ha : a < 0
  · by_cases hb : b < 0
    · rw [if_pos ha, if_pos hb] at h
      have h' := congrArg dval (List.cons.inj h).2
      rw [z37, z37] at h'
      omega
    · rw [if_pos ha, if_neg hb] at h
      exact absurd h.symm (no _ _)
  · by_cases hb : b < 0
    · rw [if_neg ha, if_pos hb] at h
      exact absurd h (no _ _)
    · rw [if_neg ha, if_neg hb] at h
      have h' := congrArg dval h
      rw [z37, z37] at h'
      omega
theorem take_44 (x t : List UInt8) (hx : ∀ b ∈ x, b ≠ 44) (ht : t = [] ∨ ∃ s, t = 44 :: s) : (x ++ t).takeWhile (fun b => decide (b ≠ 44)) = x := by
  induction x with
  | nil =>
    rcases ht with rfl | ⟨s, rfl⟩
    · rfl
    · rw [List.nil_append, List.takeWhile_cons, if_neg (by simp)]
  | cons a x ih =>
    rw [List.cons_append, List.takeWhile_cons, if_pos (by simpa using hx a (by simp)), ih (fun b hb => hx b (by simp [hb]))]
theorem tail_44 (r : List (List UInt8)) : Lib.joinTail [44] r = [] ∨ ∃ s, Lib.joinTail [44] r = 44 :: s := by
  cases r with
  | nil => exact .inl rfl
  | cons a r => exact .inr ⟨a ++ Lib.joinTail [44] r, by simp [Lib.joinTail]⟩
theorem tail_inj : ∀ (r s : List (List UInt8)), (∀ x ∈ r, ∀ b ∈ x, b ≠ 44) → (∀ x ∈ s, ∀ b ∈ x, b ≠ 44) → Lib.joinTail [44] r = Lib.joinTail [44] s → r = s := by
  intro r
  induction r with
  | nil =>
    intro s _ _ h
    cases s with
    | nil => rfl
    | cons y s => simp [Lib.joinTail] at h
  | cons x r ih =>
    intro s hr hs h
    cases s with
    | nil => simp [Lib.joinTail] at h
    | cons y s =>
      have h' : x ++ Lib.joinTail [44] r = y ++ Lib.joinTail [44] s := by simpa [Lib.joinTail] using h
      have e1 := take_44 x _ (hr x (by simp)) (tail_44 r)
      have e2 := take_44 y _ (hs y (by simp)) (tail_44 s)
      rw [h', e2] at e1
      subst e1
      rw [ih s (fun z hz => hr z (by simp [hz])) (fun z hz => hs z (by simp [hz])) (List.append_cancel_left h')]
theorem map_itoa_inj : ∀ (a b : List Int), a.map Lib.itoa = b.map Lib.itoa → a = b := by
  intro a
  induction a with
  | nil => intro b h; cases b with
    | nil => rfl
    | cons y b => simp at h
  | cons x a ih =>
    intro b h
    cases b with
    | nil => simp at h
    | cons y b =>
      rw [List.map_cons, List.map_cons] at h
      obtain ⟨h1, h2⟩ := List.cons.inj h
      rw [itoa_inj h1, ih b h2]
def keyB (l : List Int) : ByteArray := ⟨(Lib.join (l.map Lib.itoa) [44]).toArray⟩
theorem keyB_inj {a b : List Int} (h : keyB a = keyB b) : a = b := by
  have h1 : Lib.join (a.map Lib.itoa) [44] = Lib.join (b.map Lib.itoa) [44] := by
    have := congrArg (fun z : ByteArray => z.data.toList) h
    simpa [keyB] using this
  have hn : ∀ (l : List Int), ∀ x ∈ l.map Lib.itoa, ∀ c ∈ x, c ≠ 44 := fun l x hx => by
    obtain ⟨n, _, rfl⟩ := List.mem_map.mp hx
    exact itoa_44 n
  have hj : ∀ (x : Int) (l : List Int), Lib.join ((x :: l).map Lib.itoa) [44] ≠ [] := fun x l e => by
    rw [List.map_cons, Lib.join_cons] at e
    exact itoa_ne x (List.append_eq_nil_iff.mp e).1
  cases a with
  | nil =>
    cases b with
    | nil => rfl
    | cons y b => exact absurd h1.symm (hj y b)
  | cons x a =>
    cases b with
    | nil => exact absurd h1 (hj x a)
    | cons y b =>
      rw [List.map_cons, List.map_cons, Lib.join_cons, Lib.join_cons] at h1
      refine map_itoa_inj _ _ (tail_inj _ _ (hn _) (hn _) ?_)
      have : ∀ (x : List UInt8) (l : List (List UInt8)), Lib.joinTail [44] (x :: l) = 44 :: (x ++ Lib.joinTail [44] l) := fun x l => by simp [Lib.joinTail]
      rw [List.map_cons, List.map_cons, this, this, h1]
theorem dec_len : ∀ (k u : Nat), u < 10 ^ (k + 1) → (Lib.decDigits u).length ≤ k + 1 := by
  intro k
  induction k with
  | zero => intro u h; rw [Lib.decDigits, dif_pos (by omega)]; simp
  | succ k ih =>
    intro u h
    by_cases c : u < 10
    · rw [Lib.decDigits, dif_pos c]; simp
    · have := ih (u / 10) (by rw [Nat.pow_succ] at h; omega)
      rw [Lib.decDigits, dif_neg c, List.length_append, List.length_singleton]
      omega
theorem itoa_len (n : Int) (h0 : -9223372036854775808 ≤ n) (h1 : n ≤ 9223372036854775807) : (Lib.itoa n).length ≤ 21 := by
  have p : (10 : Nat) ^ (19 + 1) = 100000000000000000000 := by decide
  unfold Lib.itoa
  split
  · have := dec_len 19 n.natAbs (by omega)
    simp; omega
  · have := dec_len 19 n.toNat (by omega)
    omega
theorem keyB_size (l : List Int) (hl : l.length ≤ 100) (h : ∀ n ∈ l, -9223372036854775808 ≤ n ∧ n ≤ 9223372036854775807) : (keyB l).size ≤ 100000 := by
  have h2 : ∀ (r : List (List UInt8)), (∀ x ∈ r, x.length ≤ 21) → (Lib.joinTail [44] r).length ≤ r.length * 22 := by
    intro r
    induction r with
    | nil => intro _; simp [Lib.joinTail]
    | cons x r ih =>
      intro h
      have := ih (fun z hz => h z (by simp [hz]))
      have := h x (by simp)
      have e : Lib.joinTail [44] (x :: r) = 44 :: (x ++ Lib.joinTail [44] r) := by simp [Lib.joinTail]
      rw [e, List.length_cons, List.length_append, List.length_cons]
      omega
  have h3 : ∀ x ∈ l.map Lib.itoa, x.length ≤ 21 := fun x hx => by
    obtain ⟨n, hn, rfl⟩ := List.mem_map.mp hx
    exact itoa_len n (h n hn).1 (h n hn).2
  have e : (keyB l).size = (Lib.join (l.map Lib.itoa) [44]).length := by simp [keyB, ByteArray.size]
  rw [e]
  cases l with
  | nil => simp [Lib.join]
  | cons x l =>
    rw [List.map_cons, Lib.join_cons, List.length_append]
    have a := h3 (Lib.itoa x) (by simp)
    have b := h2 (l.map Lib.itoa) (fun z hz => h3 z (by rw [List.map_cons]; exact List.mem_cons_of_mem _ hz))
    rw [List.length_map] at b
    rw [List.length_cons] at hl
    omega
/-! The sorted names of pieces, both ways, and their key. -/
def srt (l : List Int) : List Int := l.mergeSort fun x y => decide (x ≤ y)
theorem srt_pair (l : List Int) : (srt l).Pairwise (fun x y => x ≤ y) := by
  have := List.pairwise_mergeSort (le := fun x y : Int => decide (x ≤ y)) (fun a b c h1 h2 => by simp at *; omega) (fun a b => by simp; omega) l
  exact this.imp (fun h => by simpa using h)
theorem z22 (l : List Int) : (srt l).Perm l := List.mergeSort_perm _ _
theorem srt_uniq {l m : List Int} (hp : l.Perm m) (hs : l.Pairwise (fun x y => x ≤ y)) : l = srt m :=
  List.Perm.eq_of_pairwise (le := fun x y : Int => x ≤ y) (fun a b _ _ h1 h2 => by omega) hs (srt_pair m) (hp.trans (z22 m).symm)
theorem srt_len (l : List Int) : (srt l).length = l.length := (z22 l).length_eq
/-- Where x goes, looking from k downwards. -/
def posn (l : List Int) (x : Int) : Nat → Nat
  | 0 => 0
  | k + 1 => if l.getD k 0 > x then posn l x k else k + 1
def insr (l : List Int) (x : Int) : List Int := (l.take (posn l x l.length) ++ [x]) ++ l.drop (posn l x l.length)
theorem posn_le (l : List Int) (x : Int) : ∀ k, posn l x k ≤ k := by
  intro k
  induction k with
  | zero => exact Nat.le_refl _
  | succ k ih => simp only [posn]; split <;> omega
theorem posn_hi (l : List Int) (x : Int) : ∀ k i, posn l x k ≤ i → i < k → x < l.getD i 0 := by
  intro k
  induction k with
  | zero => intro i _ h; omega
  | succ k ih =>
    intro i h1 h2
    simp only [posn] at h1
    by_cases c : l.getD k 0 > x
    · rw [if_pos c] at h1
      by_cases e : i = k
      · subst e; exact c
      · exact ih i h1 (by omega)
    · rw [if_neg c] at h1; omega
theorem posn_lo (l : List Int) (x : Int) : ∀ k, posn l x k = 0 ∨ ∃ j, posn l x k = j + 1 ∧ l.getD j 0 ≤ x := by
  intro k
  induction k with
  | zero => exact .inl rfl
  | succ k ih =>
    simp only [posn]
    by_cases c : l.getD k 0 > x
    · rw [if_pos c]; exact ih
    · rw [if_neg c]; exact .inr ⟨k, rfl, by omega⟩
theorem z50 {l : List Int} {i : Nat} (h : i < l.length) : l.getD i 0 = l[i] := by simp [List.getD_eq_getElem?_getD, h]
theorem insr_pair (l : List Int) (x : Int) (h : l.Pairwise (fun x y => x ≤ y)) : (insr l x).Pairwise (fun x y => x ≤ y) := by
  have hg := List.pairwise_iff_getElem.mp h
  have hp := posn_le l x l.length
  have hlo := posn_lo l x l.length
  have hhi := posn_hi l x l.length
  unfold insr
  generalize posn l x l.length = p at *
  have hb : ∀ a ∈ l.take p, a ≤ x := by
    intro a ha
    obtain ⟨i, hi, rfl⟩ := List.getElem_of_mem ha
    rw [List.length_take] at hi
    rw [List.getElem_take]
    rcases hlo with h0 | ⟨j, hj, hx⟩
    · omega
    · rw [z50 (by omega)] at hx
      by_cases e : i = j
      · subst e; exact hx
      · exact Int.le_trans (hg i j (by omega) (by omega) (by omega)) hx
  have hc : ∀ b ∈ l.drop p, x ≤ b := by
    intro b hb
    obtain ⟨i, hi, rfl⟩ := List.getElem_of_mem hb
    rw [List.length_drop] at hi
    rw [List.getElem_drop]
    have := hhi (p + i) (by omega) (by omega)
    rw [z50 (by omega)] at this
    omega
  rw [List.append_assoc, List.pairwise_append]
  refine ⟨h.sublist (List.take_sublist _ _), ?_, ?_⟩
  · rw [List.singleton_append, List.pairwise_cons]
    exact ⟨hc, h.sublist (List.drop_sublist _ _)⟩
  · intro a ha b hb'
    rw [List.singleton_append, List.mem_cons] at hb'
    rcases hb' with rfl | hb'
    · exact hb a ha
    · exact Int.le_trans (hb a ha) (hc b hb')
theorem insr_perm (l : List Int) (x : Int) : (insr l x).Perm (l ++ [x]) := by
  unfold insr
  generalize posn l x l.length = p
  have e : l ++ [x] = l.take p ++ (l.drop p ++ [x]) := by rw [← List.append_assoc, List.take_append_drop]
  rw [e, List.append_assoc]
  exact List.Perm.append_left _ List.perm_append_comm
def nm (W H : Nat) (p : Nat) : Int := z23 W H p 8 0 (-1)
def nms (W H : Nat) (R : List Nat) : List Int := R.map (nm W H)
theorem nms_app (W H : Nat) (R S : List Nat) : nms W H (R ++ S) = nms W H R ++ nms W H S := by simp [nms]
theorem z4d (W H : Int) (acc : List Int) (x : Int) (A : List Int) (n q : Int) (hl : acc.length ≤ 1000) (r : List Int) (h : Ev (fun k => spec_l10Names.l0 k W H (insr acc x) A n (wrap64 (q + 1))) r) :
    ∀ t : Nat, t ≤ acc.length → posn acc x t = posn acc x acc.length → Ev (fun k => spec_l10Names.l1 k W H acc x (t : Int) A n q) r := by
  intro t
  induction t with
  | zero =>
    intro _ hp
    have hp : posn acc x acc.length = 0 := by rw [← hp]; rfl
    unfold insr at h
    rw [hp] at h
    refine z5 ?_
    simp only [spec_l10Names.l1]
    refine z6 (by omega) (z9 rfl (z4 (by omega) (z4 (by omega) (z9 rfl (z4 (by simp) (z9 rfl (z4 (by simp) (z9 rfl (z9 rfl (z4 (by simp; omega) ?_))))))))))
    simpa using h
  | succ t ih =>
    intro ht hp
    have e : wrap64 (((t + 1 : Nat) : Int) - 1) = (t : Int) := by rw [w64 (by omega) (by omega)]; omega
    refine z5 ?_
    simp only [spec_l10Names.l1]
    rw [e]
    have hr : rd acc (t : Int) = acc.getD t 0 := by simp [rd]
    rw [hr]
    refine z4 (by omega) (z4 (by omega) (z4 (by omega) ?_))
    simp only [posn] at hp
    by_cases c : acc.getD t 0 > x
    · rw [if_pos c] at hp
      exact z4 c (ih (by omega) hp)
    · rw [if_neg c] at hp
      unfold insr at h
      rw [← hp] at h
      have e2 : ((t + 1 : Nat) : Int).toNat = t + 1 := by omega
      rw [e2]
      refine z6 c (z9 rfl (z4 (by omega) (z4 (by omega) (z9 rfl (z4 (by simp; omega) (z9 rfl (z4 (by simp; omega) (z9 rfl (z9 rfl (z4 (by simp; omega) ?_))))))))))
      simpa using h
theorem z4c (W H : Nat) (hW : 1 ≤ W ∧ W ≤ 6) (hH : 1 ≤ H ∧ H ≤ 6) (hn : W * H ≤ 36) (R : List Nat) (hb : bnd R (W * H)) (hR : R.length ≤ 100) : ∀ (suf pre : List Nat) (acc : List Int), R = pre ++ suf → acc.Perm (nms W H pre) → acc.Pairwise (fun x y => x ≤ y) →
    Ev (fun k => spec_l10Names.l0 k W H acc (toI R) (R.length : Int) (pre.length : Int)) (srt (nms W H R)) := by
  intro suf
  induction suf with
  | nil =>
    intro pre acc h hp hs
    obtain rfl : R = pre := by simp [h]
    refine z5 ?_
    simp only [spec_l10Names.l0]
    exact z6 (by omega) (z13 (z8 _) (srt_uniq hp hs))
  | cons p suf ih =>
    intro pre acc h hp hs
    have hlen : R.length = pre.length + (suf.length + 1) := by subst h; simp
    have hat : rd (toI R) (pre.length : Int) = (p : Int) := by rw [z42, h, z20]
    have hpb : p < 2 ^ (W * H) := hb p (by rw [h]; simp)
    have hal : acc.length = pre.length := by rw [hp.length_eq]; simp [nms]
    have hn' := ih (pre ++ [p]) (insr acc (nm W H p)) (by simp [h]) ((insr_perm _ _).trans (by rw [nms_app]; exact hp.append_right _)) (insr_pair _ _ hs)
    rw [List.length_append, List.length_singleton] at hn'
    refine z5 ?_
    simp only [spec_l10Names.l0]
    rw [hat]
    refine z4 (by omega) (z4 (by omega) (z4 (by rw [ze]; omega) (z7 (spec_name W H p hW hH hn hpb) ?_)))
    refine z4d W H acc (nm W H p) (toI R) (R.length : Int) (pre.length : Int) (by omega) _ ?_ acc.length (Nat.le_refl _) rfl
    rw [z15 _ (by omega)]
    exact hn'
theorem z29 (W H : Nat) (hW : 1 ≤ W ∧ W ≤ 6) (hH : 1 ≤ H ∧ H ≤ 6) (hn : W * H ≤ 36) (R : List Nat) (hb : bnd R (W * H)) (hR : R.length ≤ 100) : Ev (fun k => spec_l10Names.f k W H (toI R)) (srt (nms W H R)) := by
  unfold spec_l10Names.f
  rw [ze]
  exact z4c W H hW hH hn R hb hR R [] [] rfl (List.Perm.refl _) List.Pairwise.nil
def itoB (n : Int) : ByteArray := ⟨(Lib.itoa n).toArray⟩
theorem impl_key_l1 (L : List Int) (hL : L.length ≤ 100) (hi : ∀ n ∈ L, -9223372036854775808 ≤ n ∧ n ≤ 9223372036854775807) : ∀ (suf pre : List Int), L = pre ++ suf →
    Ev (fun k => impl_keyOf.l1 k (pre.map itoB) L (L.length : Int) (pre.length : Int)) (keyB L) := by
  intro suf
  induction suf with
  | nil =>
    intro pre h
    obtain rfl : L = pre := by simp [h]
    have hs := keyB_size L hL hi
    have e : (L.map itoB).map (fun x : ByteArray => x.data.toList) = L.map Lib.itoa := by simp [itoB, Function.comp_def]
    refine z5 ?_
    simp only [impl_keyOf.l1]
    refine z6 (by omega) ?_
    unfold impl_Join.f strings_Join.f
    have e2 : (⟨#[44]⟩ : ByteArray).data.toList = [44] := rfl
    have e3 : (keyB L).size = (Lib.join (L.map Lib.itoa) [44]).length := by simp [keyB, ByteArray.size]
    refine z9 (a := keyB L) ?_ (z8 _)
    rw [if_pos (by simp; omega), e, e2, if_pos (by omega)]
    rfl
  | cons x suf ih =>
    intro pre h
    have hlen : L.length = pre.length + (suf.length + 1) := by subst h; simp
    have hat : rd L (pre.length : Int) = x := by rw [h]; exact rd_mid pre suf x
    have hx := hi x (by rw [h]; simp)
    have hn' := ih (pre ++ [x]) (by simp [h])
    rw [List.length_append, List.length_singleton, List.map_append] at hn'
    refine z5 ?_
    simp only [impl_keyOf.l1]
    rw [hat, z15 _ (by omega)]
    refine z4 (by omega) (z4 (by omega) (z4 (by omega) (z9 (a := itoB x) ?_ (z4 (by simp; omega) hn'))))
    unfold impl_FormatInt.f
    unfold strconv_Itoa_73.f
    rw [if_pos hx]
    rfl
theorem impl_key_l0 (W H : Nat) (hW : 1 ≤ W ∧ W ≤ 6) (hH : 1 ≤ H ∧ H ≤ 6) (hn : W * H ≤ 36) (R : List Nat) (hb : bnd R (W * H)) (hR : R.length ≤ 100) (hi : ∀ n ∈ nms W H R, -9223372036854775808 ≤ n ∧ n ≤ 9223372036854775807) : ∀ (suf pre : List Nat), R = pre ++ suf →
    Ev (fun k => impl_keyOf.l0 k W H (nms W H pre) (toI R) (R.length : Int) (pre.length : Int)) (keyB (srt (nms W H R))) := by
  intro suf
  induction suf with
  | nil =>
    intro pre h
    obtain rfl : R = pre := by simp [h]
    have hl : (nms W H R).length = R.length := by simp [nms]
    have hsl := srt_len (nms W H R)
    refine z5 ?_
    simp only [impl_keyOf.l0]
    refine z6 (by omega) (z9 (a := srt (nms W H R)) ?_ ?_)
    · unfold slices_Sort_int_int.f
      rw [if_pos (by omega)]
      rfl
    · rw [← hsl]
      exact impl_key_l1 (srt (nms W H R)) (by omega) (fun n hn => hi n ((z22 _).mem_iff.mp hn)) (srt (nms W H R)) [] rfl
  | cons p suf ih =>
    intro pre h
    have hlen : R.length = pre.length + (suf.length + 1) := by subst h; simp
    have hat : rd (toI R) (pre.length : Int) = (p : Int) := by rw [z42, h, z20]
    have hpb : p < 2 ^ (W * H) := hb p (by rw [h]; simp)
    have hl : (nms W H pre).length = pre.length := by simp [nms]
    have hn' := ih (pre ++ [p]) (by simp [h])
    rw [List.length_append, List.length_singleton, nms_app] at hn'
    refine z5 ?_
    simp only [impl_keyOf.l0]
    rw [hat, z15 _ (by omega)]
    exact z4 (by omega) (z4 (by omega) (z4 (by rw [ze]; omega) (z7 (impl_name W H p hW hH hn hpb) (z4 (by omega) hn'))))
theorem impl_key_ev (W H : Nat) (hW : 1 ≤ W ∧ W ≤ 6) (hH : 1 ≤ H ∧ H ≤ 6) (hn : W * H ≤ 36) (R : List Nat) (hb : bnd R (W * H)) (hR : R.length ≤ 100) (hi : ∀ n ∈ nms W H R, -9223372036854775808 ≤ n ∧ n ≤ 9223372036854775807) : Ev (fun k => impl_keyOf.f k W H (toI R)) (keyB (srt (nms W H R))) := by
  unfold impl_keyOf.f
  rw [ze]
  exact impl_key_l0 W H hW hH hn R hb hR hi R [] rfl
theorem equal_ev : ∀ (a b : List Int), a.length ≤ 1000 → Ev (fun k => spec_l10Equal.f k a b) (decide (a = b)) := by
  intro a b ha
  unfold spec_l10Equal.f
  by_cases hl : a.length = b.length
  · refine z4 (by omega) ?_
    have loop : ∀ (suf pre : List Int), a = pre ++ suf → (∀ i, i < pre.length → a.getD i 0 = b.getD i 0) → Ev (fun k => spec_l10Equal.l0 k b a (a.length : Int) (pre.length : Int)) (decide (a = b)) := by
      intro suf
      induction suf with
      | nil =>
        intro pre h hp
        obtain rfl : a = pre := by simp [h]
        refine z5 ?_
        simp only [spec_l10Equal.l0]
        refine z6 (by omega) (z13 (z8 _) ?_)
        have : a = b := List.ext_getElem hl (fun i h1 h2 => by
          have := hp i h1
          rwa [z50 h1, z50 h2] at this)
        simp [this]
      | cons x suf ih =>
        intro pre h hp
        have hlen : a.length = pre.length + (suf.length + 1) := by rw [h]; simp
        have r1 : rd a (pre.length : Int) = a.getD pre.length 0 := by simp [rd]
        have r2 : rd b (pre.length : Int) = b.getD pre.length 0 := by simp [rd]
        refine z5 ?_
        simp only [spec_l10Equal.l0]
        rw [r1, r2, z15 _ (by omega)]
        refine z4 (by omega) (z4 (by omega) (z4 (by omega) (z4 (by omega) ?_)))
        by_cases c : a.getD pre.length 0 = b.getD pre.length 0
        · have := ih (pre ++ [x]) (by simp [h]) (fun i hi => by
            rw [List.length_append, List.length_singleton] at hi
            by_cases e : i = pre.length
            · subst e; exact c
            · exact hp i (by omega))
          rw [List.length_append, List.length_singleton] at this
          exact z4 c this
        · exact z6 c (z13 (z8 _) (by rw [decide_eq_false]; intro e; rw [e] at c; exact c rfl))
    exact loop a [] rfl (fun i hi => by simp at hi)
  · exact z6 (by omega) (z13 (z8 _) (by rw [decide_eq_false]; intro e; rw [e] at hl; exact hl rfl))
/-! A name has as many cells as its shape. -/
def cln (N x : Nat) : Nat := (cl x 0 N).length
theorem cl_or (m j : Nat) (h : m.testBit j = false) : ∀ d i, (cl (m ||| 2 ^ j) i d).length = (cl m i d).length + if i ≤ j ∧ j < i + d then 1 else 0 := by
  intro d
  induction d with
  | zero => intro i; rw [if_neg (by omega)]; rfl
  | succ d ih =>
    intro i
    have := ih (i + 1)
    simp only [cl, Nat.testBit_or, Nat.testBit_two_pow]
    by_cases e : j = i
    · subst e
      rw [if_neg (by omega)] at this
      rw [h, if_pos (by simp), if_neg (by simp), if_pos (by omega), List.length_cons, this]
    · have e2 : decide (j = i) = false := decide_eq_false e
      rw [e2, Bool.or_false]
      by_cases c : i + 1 ≤ j ∧ j < i + 1 + d
      · rw [if_pos c] at this
        rw [if_pos (show i ≤ j ∧ j < i + (d + 1) by omega)]
        split <;> (try simp only [List.length_cons]) <;> omega
      · rw [if_neg c] at this
        rw [if_neg (show ¬ (i ≤ j ∧ j < i + (d + 1)) by omega)]
        split <;> (try simp only [List.length_cons]) <;> omega
theorem cln_or (N m j : Nat) (h : m.testBit j = false) (hj : j < N) : cln N (m ||| 2 ^ j) = cln N m + 1 := by
  unfold cln
  rw [cl_or m j h N 0, if_pos (by omega)]
theorem cln_zero (N : Nat) : cln N 0 = 0 := by unfold cln; rw [cl_none 0 N 0 (by simp)]; rfl
theorem putO_pop (w h : Nat) (hw : w ≤ 6) (hh : h ≤ 6) (hn : w * h ≤ 36) : ∀ (l : List S51) (m : Nat), l.Nodup → (∀ p ∈ l, 0 ≤ p.f0 ∧ 0 ≤ p.f1) → (∀ p ∈ l, p.f0 < w → m.testBit (z18 w p) = false) → m < 2 ^ (w * h) → (putO w h l m).2 = true →
    ∃ M : Nat, (putO w h l m).1 = M ∧ cln (w * h) M = cln (w * h) m + l.length ∧ M < 2 ^ (w * h) := by
  intro l
  induction l with
  | nil => intro m _ _ _ hm _; exact ⟨m, rfl, rfl, hm⟩
  | cons p l ih =>
    intro m hd hp hb hm hok
    simp only [putO] at hok ⊢
    by_cases c : (w : Int) ≤ p.f0 ∨ (h : Int) ≤ p.f1
    · rw [if_pos c] at hok; cases hok
    · rw [if_neg c] at hok ⊢
      obtain ⟨p0, p1⟩ := hp p (by simp)
      obtain ⟨d1, d2⟩ := List.nodup_cons.mp hd
      have hbit := hb p (by simp) (by omega)
      obtain ⟨_, e2⟩ := z49 w h hw hh p p0 p1 (by omega) (by omega) hn
      obtain ⟨M, g1, g2, g3⟩ := ih (m ||| 2 ^ z18 w p) d2 (fun q hq => hp q (by simp [hq])) (fun q hq hqw => by
        rw [Nat.testBit_or, hb q (by simp [hq]) hqw, Nat.testBit_two_pow]
        simp only [Bool.false_or, decide_eq_false_iff_not]
        intro e
        have := bitOf_inj w p q (hp p (by simp)) (hp q (by simp [hq])) (by omega) hqw e
        subst this
        exact d1 hq) (Nat.or_lt_two_pow hm (Nat.pow_lt_pow_right (by decide) e2)) hok
      refine ⟨M, g1, ?_, g3⟩
      rw [g2, cln_or _ _ _ hbit e2, List.length_cons]
      omega
theorem putO_ok (w h : Nat) : ∀ (l : List S51) (m : Nat), (∀ p ∈ l, p.f0 < w ∧ p.f1 < h) → (putO w h l m).2 = true := by
  intro l
  induction l with
  | nil => intro m _; rfl
  | cons p l ih =>
    intro m hp
    have := hp p (by simp)
    simp only [putO]
    rw [if_neg (by omega)]
    exact ih _ (fun q hq => hp q (by simp [hq]))
theorem mv_pop (W H x m : Nat) (hW : 1 ≤ W ∧ W ≤ 6) (hH : 1 ≤ H ∧ H ≤ 6) (hn : W * H ≤ 36) (hok : (zf W H x m).2 = true) : ∃ M : Nat, (zf W H x m).1 = M ∧ cln (W * H) M = cln (W * H) x ∧ M < 2 ^ (W * H) := by
  unfold zf at hok ⊢
  by_cases z : x = 0
  · rw [if_pos z]
    subst z
    exact ⟨0, rfl, rfl, Nat.two_pow_pos _⟩
  · rw [if_neg z] at hok ⊢
    have hc : (z12 ((zc W H x).map (mvp m))).length = cln (W * H) x := by unfold z12 zc cln; simp
    obtain ⟨M, g1, g2, g3⟩ := putO_pop W H (by omega) (by omega) hn _ 0 (z30 _ (z2c (mvp_inj m) (z3c W H x))) (z21 _) (fun p _ _ => Nat.zero_testBit _) (Nat.two_pow_pos _) hok
    exact ⟨M, g1, by rw [g2, cln_zero, hc]; omega, g3⟩
theorem lowX_ge (l : List S51) : ∀ a, 0 ≤ a → (∀ p ∈ l, 0 ≤ p.f0) → 0 ≤ lowX a l := by
  induction l with
  | nil => intro a h _; exact h
  | cons p l ih =>
    intro a h hp
    have := hp p (by simp)
    exact ih (min a p.f0) (by omega) (fun q hq => hp q (by simp [hq]))
theorem lowY_ge (l : List S51) : ∀ a, 0 ≤ a → (∀ p ∈ l, 0 ≤ p.f1) → 0 ≤ lowY a l := by
  induction l with
  | nil => intro a h _; exact h
  | cons p l ih =>
    intro a h hp
    have := hp p (by simp)
    exact ih (min a p.f1) (by omega) (fun q hq => hp q (by simp [hq]))
theorem lx_ge (l : List S51) (h : ∀ p ∈ l, 0 ≤ p.f0 ∧ 0 ≤ p.f1) : 0 ≤ lx l ∧ 0 ≤ ly l := by
  cases l with
  | nil => exact ⟨Int.le_refl _, Int.le_refl _⟩
  | cons p l =>
    have := h p (by simp)
    exact ⟨lowX_ge _ _ this.1 (fun q hq => (h q hq).1), lowY_ge _ _ this.2 (fun q hq => (h q hq).2)⟩
theorem cellsOf_in (W H x : Nat) (hW : 1 ≤ W) : ∀ p ∈ zc W H x, (0 ≤ p.f0 ∧ 0 ≤ p.f1) ∧ p.f0 < W ∧ p.f1 < H := by
  intro p hp
  unfold zc at hp
  obtain ⟨i, hi, rfl⟩ := List.mem_map.mp hp
  have hlt := ((cl_mem x (W * H) 0 i).mp hi).2.1
  have h1 : i % W < W := Nat.mod_lt _ (by omega)
  have h2 : i / W < H := Nat.div_lt_of_lt_mul (by omega)
  unfold z10
  simp only
  generalize i / W = a at *
  generalize i % W = b at *
  omega
theorem mv_id (W H x : Nat) (hW : 1 ≤ W ∧ W ≤ 6) (hH : 1 ≤ H ∧ H ≤ 6) : (zf W H x 0).2 = true := by
  unfold zf
  by_cases z : x = 0
  · rw [if_pos z]
  · rw [if_neg z]
    refine putO_ok W H _ 0 (fun p hp => ?_)
    have e : (zc W H x).map (mvp 0) = zc W H x := by
      have : mvp 0 = id := funext mvp_zero
      rw [this, List.map_id]
    rw [e] at hp
    unfold z12 at hp
    obtain ⟨q, hq, rfl⟩ := List.mem_map.mp hp
    have hin := cellsOf_in W H x hW.1
    have := hin q hq
    have := lx_ge _ (fun q hq => (hin q hq).1)
    unfold z25
    simp only
    omega
def z34 (N x : Nat) (b : Int) : Prop := ∃ y : Nat, b = y ∧ cln N y = cln N x ∧ y < 2 ^ N
theorem nameF_good (W H x : Nat) (hW : 1 ≤ W ∧ W ≤ 6) (hH : 1 ≤ H ∧ H ≤ 6) (hn : W * H ≤ 36) : ∀ (d m : Nat) (b : Int), z34 (W * H) x b → z34 (W * H) x (z23 W H x d m b) := by
  intro d
  induction d with
  | zero => intro m b h; exact h
  | succ d ih =>
    intro m b h
    simp only [z23]
    refine ih _ _ ?_
    by_cases c : (zf W H x m).2 = true
    · have hg : z34 (W * H) x (zf W H x m).1 := mv_pop W H x m hW hH hn c
      rw [if_pos c]
      split
      · exact hg
      · split
        · exact hg
        · exact h
    · rw [if_neg c]; exact h
theorem nm_good (W H x : Nat) (hW : 1 ≤ W ∧ W ≤ 6) (hH : 1 ≤ H ∧ H ≤ 6) (hn : W * H ≤ 36) : z34 (W * H) x (nm W H x) := by
  unfold nm
  rw [show z23 W H x 8 0 (-1) = z23 W H x 7 1 (zf W H x 0).1 from by
    show z23 W H x 7 (0 + 1) _ = _
    rw [if_pos (mv_id W H x hW hH), if_pos (by omega)]]
  exact nameF_good W H x hW hH hn 7 1 _ (mv_pop W H x 0 hW hH hn (mv_id W H x hW hH))
theorem nms_range (W H : Nat) (hW : 1 ≤ W ∧ W ≤ 6) (hH : 1 ≤ H ∧ H ≤ 6) (hn : W * H ≤ 36) (R : List Nat) : ∀ n ∈ nms W H R, -9223372036854775808 ≤ n ∧ n ≤ 9223372036854775807 := by
  intro n hm
  unfold nms at hm
  obtain ⟨p, _, rfl⟩ := List.mem_map.mp hm
  obtain ⟨y, h1, _, h3⟩ := nm_good W H p hW hH hn
  have : y < 2 ^ 36 := Nat.lt_of_lt_of_le h3 (Nat.pow_le_pow_right (by decide) hn)
  omega
def sumc (N : Nat) (R : List Nat) : Nat := (R.map (cln N)).sum
theorem sumc_set (N : Nat) : ∀ (R : List Nat) (i v : Nat), i < R.length → sumc N (R.set i v) + cln N (R.getD i 0) = sumc N R + cln N v := by
  intro R
  induction R with
  | nil => intro i v h; simp at h
  | cons a R ih =>
    intro i v h
    cases i with
    | zero => simp [sumc]; omega
    | succ i =>
      have := ih i v (by simpa using h)
      simp only [sumc, List.set_cons_succ, List.map_cons, List.sum_cons, List.getD_cons_succ] at this ⊢
      omega
theorem step_pop (N : Nat) (out : List Nat) (n c : Nat) (h : n ≤ out.length) (hb : bnd out c) (hc : c < N) : sumc N (z1f out n c) = sumc N out + 1 := by
  unfold z1f
  by_cases e : n = out.length
  · rw [if_pos e]
    have := cln_or N 0 c (Nat.zero_testBit _) hc
    rw [Nat.zero_or, cln_zero] at this
    simp [sumc, this]
  · rw [if_neg e]
    have h1 := sumc_set N out n (out.getD n 0 ||| 2 ^ c) (by omega)
    rw [cln_or N _ c (Nat.testBit_lt_two_pow (bnd_at hb n)) hc] at h1
    omega
theorem run_pop (N : Nat) : ∀ (suf : List Int) (cs out : List Nat) (lo : Nat) (R : List Nat), asc N lo cs → suf.length = cs.length → bnd out lo → run suf cs out = some R → sumc N R = sumc N out + suf.length := by
  intro suf
  induction suf with
  | nil => intro cs out lo R _ _ _ h; simp only [run] at h; cases h; rfl
  | cons n ns ih =>
    intro cs out lo R ha hl hb h
    cases cs with
    | nil => simp at hl
    | cons c cs =>
      obtain ⟨h1, h2, h3⟩ := ha
      simp only [run] at h
      by_cases b : n < 0 ∨ (out.length : Int) < n
      · rw [if_pos b] at h; cases h
      · rw [if_neg b] at h
        have := ih cs _ (c + 1) R h3 (by simpa using hl) (z38 n.toNat (z2b hb h1)) h
        rw [this, step_pop N out n.toNat c (by omega) (z2b hb h1) h2, List.length_cons]
        omega
theorem nms_sum (W H : Nat) (hW : 1 ≤ W ∧ W ≤ 6) (hH : 1 ≤ H ∧ H ≤ 6) (hn : W * H ≤ 36) : ∀ R : List Nat, ((nms W H R).map (fun n => cln (W * H) n.toNat)).sum = sumc (W * H) R := by
  intro R
  induction R with
  | nil => rfl
  | cons p R ih =>
    obtain ⟨y, h1, h2, _⟩ := nm_good W H p hW hH hn
    have e : cln (W * H) (nm W H p).toNat = cln (W * H) p := by rw [h1, Int.toNat_natCast, h2]
    simp only [nms, sumc, List.map_cons, List.sum_cons, e] at ih ⊢
    rw [ih]
theorem names_sum (W H : Nat) (hW : 1 ≤ W ∧ W ≤ 6) (hH : 1 ≤ H ∧ H ≤ 6) (hn : W * H ≤ 36) (R S : List Nat) (h : srt (nms W H R) = srt (nms W H S)) : sumc (W * H) R = sumc (W * H) S := by
  rw [← nms_sum W H hW hH hn R, ← nms_sum W H hW hH hn S]
  have hp : (nms W H R).Perm (nms W H S) := (z22 _).symm.trans (h ▸ z22 _)
  exact (hp.map _).sum_nat
/-- The first cut of A whose names are those of a cut of B, with the first such one. -/
def hit (fa fb : List Int → List Int) (B : List (List Int)) : List (List Int) → List Int × List Int × Bool
  | [] => ([], [], false)
  | c :: A => match B.find? (fun d => decide (fa c = fb d)) with | some d => (c, d, true) | none => hit fa fb B A
theorem hit_some {fa fb : List Int → List Int} {B A : List (List Int)} {c d : List Int} (h : B.find? (fun d => decide (fa c = fb d)) = some d) : hit fa fb B (c :: A) = (c, d, true) := by simp only [hit]; rw [h]
theorem hit_none {fa fb : List Int → List Int} {B A : List (List Int)} {c : List Int} (h : B.find? (fun d => decide (fa c = fb d)) = none) : hit fa fb B (c :: A) = hit fa fb B A := by simp only [hit]; rw [h]
def kf (W H : Nat) (P : List Int → Option (List Nat)) (c : List Int) : List Int := match P c with | some R => srt (nms W H R) | none => []
theorem z3d {W H : Nat} {P : List Int → Option (List Nat)} {c : List Int} {R : List Nat} (h : P c = some R) : kf W H P c = srt (nms W H R) := by unfold kf; rw [h]
theorem rd_map_at (pre suf : List (List Int)) (c : List Int) (f : List Int → List Int) : rd_L2 ((pre ++ c :: suf).map f) (pre.length : Int) = f c := by
  simp [rd_L2, List.getD_eq_getElem?_getD]
theorem find_l2 (W H x : Int) (fb : List Int → List Int) (B : List (List Int)) (hB : B.length ≤ 1000000000) (c n : List Int) (hn : n.length ≤ 1000) (A : List (List Int)) (q : Int) (z : Int) (r : List Int × List Int × Bool) (h : Ev (fun k => spec_l10Find.l1 k W H x B (B.map fb) A z (wrap64 (q + 1))) r) :
    ∀ (suf pre : List (List Int)), B = pre ++ suf → Ev (fun k => spec_l10Find.l2 k W H x B (B.map fb) c n A z q (B.map fb) ((B.map fb).length : Int) (pre.length : Int)) (match suf.find? (fun d => decide (n = fb d)) with | some d => (c, d, true) | none => r) := by
  have hl : (B.map fb).length = B.length := List.length_map _
  intro suf
  induction suf with
  | nil =>
    intro pre hb
    obtain rfl : B = pre := by simp [hb]
    refine z5 ?_
    simp only [spec_l10Find.l2]
    exact z6 (by omega) h
  | cons d suf ih =>
    intro pre hb
    have hlen : B.length = pre.length + (suf.length + 1) := by rw [hb]; simp
    have r1 : rd_L2 (B.map fb) (pre.length : Int) = fb d := by rw [hb]; exact rd_map_at pre suf d fb
    have r2 : rd_L2 B (pre.length : Int) = d := by rw [hb]; exact z33 pre suf d
    have hn' := ih (pre ++ [d]) (by simp [hb])
    rw [List.length_append, List.length_singleton] at hn'
    refine z5 ?_
    simp only [spec_l10Find.l2]
    rw [r1, r2, z15 _ (by omega), List.find?_cons]
    refine z4 (by omega) (z4 (by omega) (z4 (by omega) (z7 (equal_ev n (fb d) hn) ?_)))
    by_cases g : n = fb d
    · have e : decide (n = fb d) = true := decide_eq_true g
      rw [e]
      exact z4 rfl (z4 (by omega) (z8 _))
    · have e : decide (n = fb d) = false := decide_eq_false g
      rw [e]
      exact z6 (by decide) hn'
theorem find_l1 (W H x : Nat) (fa fb : List Int → List Int) (B : List (List Int)) (hB : B.length ≤ 1000000000) (A : List (List Int)) (hA : A.length ≤ 1000000000)
    (hc : ∀ c ∈ A, ∃ R : List Nat, Ev (fun k => spec_l09Pieces.f k W x c) (toI R) ∧ Ev (fun k => spec_l10Names.f k W H (toI R)) (fa c) ∧ (fa c).length ≤ 1000) : ∀ (suf pre : List (List Int)), A = pre ++ suf →
    Ev (fun k => spec_l10Find.l1 k W H x B (B.map fb) A (A.length : Int) (pre.length : Int)) (hit fa fb B suf) := by
  intro suf
  induction suf with
  | nil =>
    intro pre h
    obtain rfl : A = pre := by simp [h]
    refine z5 ?_
    simp only [spec_l10Find.l1]
    exact z6 (by omega) (z8 _)
  | cons c suf ih =>
    intro pre h
    have hlen : A.length = pre.length + (suf.length + 1) := by rw [h]; simp
    have hr : rd_L2 A (pre.length : Int) = c := by rw [h]; exact z33 pre suf c
    obtain ⟨R, e1, e2, e3⟩ := hc c (by rw [h]; simp)
    have hn' := ih (pre ++ [c]) (by simp [h])
    rw [List.length_append, List.length_singleton] at hn'
    refine z5 ?_
    simp only [spec_l10Find.l1]
    rw [hr]
    refine z4 (by omega) (z4 (by omega) (z4 (by omega) (z7 e1 (z7 e2 ?_))))
    exact find_l2 W H x fb B hB c (fa c) e3 A (pre.length : Int) (A.length : Int) _ (by rw [z15 _ (by omega)]; exact hn') B [] rfl
theorem find_l0 (W H x y p : Nat) (fb : List Int → List Int) (B A : List (List Int)) (hB : B.length ≤ 1000000000) (r : List Int × List Int × Bool)
    (hc : ∀ c ∈ B, ∃ R : List Nat, Ev (fun k => spec_l09Pieces.f k W y c) (toI R) ∧ Ev (fun k => spec_l10Names.f k W H (toI R)) (fb c))
    (hA : Ev (fun k => spec_l09All.f k W H x p) A) (h : Ev (fun k => spec_l10Find.l1 k W H x B (B.map fb) A (A.length : Int) 0) r) : ∀ (suf pre : List (List Int)), B = pre ++ suf →
    Ev (fun k => spec_l10Find.l0 k W H x y p B (pre.map fb) B (B.length : Int) (pre.length : Int)) r := by
  intro suf
  induction suf with
  | nil =>
    intro pre hb
    obtain rfl : B = pre := by simp [hb]
    refine z5 ?_
    simp only [spec_l10Find.l0]
    exact z6 (by omega) (z7 hA h)
  | cons c suf ih =>
    intro pre hb
    have hlen : B.length = pre.length + (suf.length + 1) := by rw [hb]; simp
    have hr : rd_L2 B (pre.length : Int) = c := by rw [hb]; exact z33 pre suf c
    obtain ⟨R, e1, e2⟩ := hc c (by rw [hb]; simp)
    have hn' := ih (pre ++ [c]) (by simp [hb])
    rw [List.length_append, List.length_singleton, List.map_append] at hn'
    have hl : (pre.map fb).length = pre.length := List.length_map _
    refine z5 ?_
    simp only [spec_l10Find.l0]
    rw [hr, z15 _ (by omega)]
    exact z4 (by omega) (z4 (by omega) (z4 (by omega) (z7 e1 (z7 e2 (z4 (by omega) hn')))))
/-- The visitors, told by the names alone. -/
def vKp (p : Int) (fb : List Int → List Int) (M : List (ByteArray × List Int)) (c l : List Int) : List (ByteArray × List Int) × Bool :=
  (if (l.length : Int) = p then (if QFnExactDissect.look M (keyB (fb c)) = [] then (keyB (fb c), c) :: M else M) else M, true)
def vFq (p : Int) (fa : List Int → List Int) (M : List (ByteArray × List Int)) (s : List Int × List Int) (c l : List Int) : (List Int × List Int) × Bool :=
  if (l.length : Int) = p then (if QFnExactDissect.look M (keyB (fa c)) = [] then (s, decide (s.1 = [])) else ((c, QFnExactDissect.look M (keyB (fa c))), false)) else (s, decide (s.1 = []))
theorem key_all (Q : List Int → Option (List Nat)) (p : Int) (fb : List Int → List Int) : ∀ (L : List (List Int × Nat)) (M : List (ByteArray × List Int)), (∀ q ∈ L, q.1 ≠ [] ∧ ∀ R, Q q.1 = some R → R.length = q.2) →
    (za Q (vKp p fb) L M).2 = true ∧ ∀ key, QFnExactDissect.look (za Q (vKp p fb) L M).1 key = if QFnExactDissect.look M key = [] then ((gsel Q p L).find? (fun d => decide (keyB (fb d) = key))).getD [] else QFnExactDissect.look M key := by
  intro L
  induction L with
  | nil => intro M _; exact ⟨rfl, fun key => by by_cases c : QFnExactDissect.look M key = [] <;> simp [za, gsel, c]⟩
  | cons q L ih =>
    intro M h
    have hq := h q (by simp)
    simp only [za]
    cases hp : Q q.1 with
    | none =>
      rw [z1e hp]
      have e : gsel Q p (q :: L) = gsel Q p L := by unfold gsel; rw [List.filter_cons, if_neg (by simp [hp])]
      rw [e]
      simp only [if_pos]
      exact ih M (fun q hq => h q (by simp [hq]))
    | some R =>
      rw [z1a hp]
      have hl := hq.2 R hp
      by_cases e : (q.2 : Int) = p
      · have e2 : gsel Q p (q :: L) = q.1 :: gsel Q p L := by unfold gsel; rw [List.filter_cons, if_pos (by simp [hp, e])]; rfl
        have e1 : vKp p fb M q.1 (toI R) = (if QFnExactDissect.look M (keyB (fb q.1)) = [] then (keyB (fb q.1), q.1) :: M else M, true) := by
          unfold vKp; rw [ze, hl, if_pos e]
        rw [e1, e2]
        simp only [if_pos]
        obtain ⟨i1, i2⟩ := ih (if QFnExactDissect.look M (keyB (fb q.1)) = [] then (keyB (fb q.1), q.1) :: M else M) (fun q hq => h q (by simp [hq]))
        refine ⟨i1, fun key => ?_⟩
        rw [i2 key]
        by_cases c : QFnExactDissect.look M (keyB (fb q.1)) = []
        · rw [if_pos c]
          rw [look_cons]
          by_cases g : keyB (fb q.1) = key
          · subst g
            rw [if_pos rfl, if_neg hq.1, if_pos c, List.find?_cons, decide_eq_true rfl]
            rfl
          · rw [if_neg g, List.find?_cons, decide_eq_false g]
        · rw [if_neg c]
          by_cases g : keyB (fb q.1) = key
          · subst g
            rw [if_neg c, if_neg c]
          · rw [List.find?_cons, decide_eq_false g]
      · have e2 : gsel Q p (q :: L) = gsel Q p L := by unfold gsel; rw [List.filter_cons, if_neg (by simp [e])]
        have e1 : vKp p fb M q.1 (toI R) = (M, true) := by
          unfold vKp; rw [ze, hl, if_neg e]
        rw [e1, e2]
        simp only [if_pos]
        exact ih M (fun q hq => h q (by simp [hq]))
theorem find_all (P : List Int → Option (List Nat)) (p : Int) (fa fb : List Int → List Int) (M : List (ByteArray × List Int)) (B : List (List Int)) (hM : ∀ key, QFnExactDissect.look M key = (B.find? (fun d => decide (keyB (fb d) = key))).getD []) (hB : ∀ d ∈ B, d ≠ []) :
    ∀ (L : List (List Int × Nat)), (∀ q ∈ L, q.1 ≠ [] ∧ ∀ R, P q.1 = some R → R.length = q.2) →
    (za P (vFq p fa M) L ([], [])).1 = ((hit fa fb B (gsel P p L)).1, (hit fa fb B (gsel P p L)).2.1) ∧ (hit fa fb B (gsel P p L)).2.2 = decide ((hit fa fb B (gsel P p L)).1 ≠ []) := by
  intro L
  induction L with
  | nil => intro _; exact ⟨rfl, rfl⟩
  | cons q L ih =>
    intro h
    have hq := h q (by simp)
    have ih' := ih (fun q hq => h q (by simp [hq]))
    simp only [za]
    cases hp : P q.1 with
    | none =>
      rw [z1e hp]
      have e : gsel P p (q :: L) = gsel P p L := by unfold gsel; rw [List.filter_cons, if_neg (by simp [hp])]
      rw [e]
      simp only [if_pos]
      exact ih'
    | some R =>
      rw [z1a hp]
      have hl := hq.2 R hp
      by_cases e : (q.2 : Int) = p
      · have e2 : gsel P p (q :: L) = q.1 :: gsel P p L := by unfold gsel; rw [List.filter_cons, if_pos (by simp [hp, e])]; rfl
        have hk := hM (keyB (fa q.1))
        have hf : B.find? (fun d => decide (keyB (fb d) = keyB (fa q.1))) = B.find? (fun d => decide (fa q.1 = fb d)) := by
          congr 1
          funext d
          exact decide_eq_decide.mpr ⟨fun z => (keyB_inj z).symm, fun z => by rw [z]⟩
        rw [hf] at hk
        rw [e2]
        cases hg : B.find? (fun d => decide (fa q.1 = fb d)) with
        | none =>
          rw [hg] at hk
          rw [hit_none hg]
          have e1 : vFq p fa M ([], []) q.1 (toI R) = (([], []), true) := by
            unfold vFq; rw [ze, hl, if_pos e, if_pos (by simpa using hk)]; rfl
          rw [e1]
          simp only [if_pos]
          exact ih'
        | some d =>
          rw [hg] at hk
          rw [hit_some hg]
          have hd : d ≠ [] := hB d (List.mem_of_find?_eq_some hg)
          have hk' : QFnExactDissect.look M (keyB (fa q.1)) = d := by simpa using hk
          have e1 : vFq p fa M ([], []) q.1 (toI R) = ((q.1, d), false) := by
            unfold vFq; rw [ze, hl, if_pos e, hk', if_neg hd]
          rw [e1]
          refine ⟨rfl, ?_⟩
          simp only
          rw [decide_eq_true hq.1]
      · have e2 : gsel P p (q :: L) = gsel P p L := by unfold gsel; rw [List.filter_cons, if_neg (by simp [e])]
        have e1 : vFq p fa M ([], []) q.1 (toI R) = (([], []), true) := by
          unfold vFq; rw [ze, hl, if_neg e]; rfl
        rw [e1, e2]
        simp only [if_pos]
        exact ih'
theorem each_ev {σ : Type} (vs : Nat → σ → List Int → List Int → Option (σ × Bool)) (W H : Int) (x : Nat) (n : Nat) (s t : σ) (b : Bool) (o2 : bits_OnesCount.f (IntKind.u64.wrap (x : Int)) = some (n : Int)) (h : Ev (fun k => impl_grow.f vs W H x n k 0 [] s) (t, b)) : Ev (fun k => impl_eachCut.f vs k W H x s) t := by
  unfold impl_eachCut.f
  exact z9 o2 (z7 h (z8 _))
theorem kf_len (W H : Nat) (P : List Int → Option (List Nat)) (c : List Int) (h : ∀ R, P c = some R → R.length ≤ 36) : (kf W H P c).length ≤ 36 := by
  unfold kf
  cases hp : P c with
  | none => simp
  | some R =>
    have := h R hp
    show (srt (nms W H R)).length ≤ 36
    rw [srt_len]
    simpa [nms] using this
theorem hit_in (fa fb : List Int → List Int) (B : List (List Int)) : ∀ A : List (List Int), hit fa fb B A = ([], [], false) ∨ ∃ c ∈ A, ∃ d ∈ B, fa c = fb d ∧ hit fa fb B A = (c, d, true) := by
  intro A
  induction A with
  | nil => exact .inl rfl
  | cons c A ih =>
    cases hg : B.find? (fun d => decide (fa c = fb d)) with
    | none =>
      rw [hit_none hg]
      rcases ih with h | ⟨c', h1, d, h2, h3, h4⟩
      · exact .inl h
      · exact .inr ⟨c', by simp [h1], d, h2, h3, h4⟩
    | some d =>
      rw [hit_some hg]
      have := List.find?_some hg
      exact .inr ⟨c, by simp, d, List.mem_of_find?_eq_some hg, by simpa using this, rfl⟩
theorem z2e {P : List Int → Option (List Nat)} {p : Int} {L : List (List Int × Nat)} {c : List Int} (h : c ∈ gsel P p L) : ∃ q ∈ L, q.1 = c ∧ ∃ R, P c = some R := by
  simp only [gsel, List.mem_map] at h
  obtain ⟨q, hq, rfl⟩ := h
  obtain ⟨h1, h2⟩ := List.mem_filter.mp hq
  simp only [Bool.and_eq_true] at h2
  obtain ⟨R, hR⟩ := Option.isSome_iff_exists.mp h2.2
  exact ⟨q, h1, rfl, R, hR⟩
theorem gsel_le (P : List Int → Option (List Nat)) (p : Int) (n : Nat) (h : n ≤ 9) : (gsel P p (ex n [] 0)).length ≤ 1000000000 := by
  have a := ex_len n [] 0 (by omega)
  have b : 10 ^ n ≤ 10 ^ 9 := Nat.pow_le_pow_right (by omega) h
  have c : (gsel P p (ex n [] 0)).length ≤ (ex n [] 0).length := by
    unfold gsel
    rw [List.length_map]
    exact List.length_filter_le _ _
  omega
theorem key_ev (W H : Nat) (hW : 1 ≤ W ∧ W ≤ 6) (hH : 1 ≤ H ∧ H ≤ 6) (hn : W * H ≤ 36) (Q : List Int → Option (List Nat)) (c : List Int) (R : List Nat) (hp : Q c = some R) (hb : bnd R (W * H)) (hR : R.length ≤ 36) :
    Ev (fun k => impl_keyOf.f k W H (toI R)) (keyB (kf W H Q c)) ∧ (keyB (kf W H Q c)).size ≤ 140737488355328 := by
  have hi := nms_range W H hW hH hn R
  have h1 := impl_key_ev W H hW hH hn R hb (by omega) hi
  rw [z3d hp]
  have h2 := keyB_size (srt (nms W H R)) (by rw [srt_len]; simp [nms]; omega) (fun n hn => hi n ((z22 _).mem_iff.mp hn))
  exact ⟨h1, by omega⟩
theorem dis_both (W H x n y n' : Nat) (hW : 1 ≤ W ∧ W ≤ 6) (hH : 1 ≤ H ∧ H ≤ 6) (hn : W * H ≤ 36) (hx : x < 2 ^ (W * H)) (hy : y < 2 ^ (W * H)) (n1 : 1 ≤ n) (n9 : n ≤ 7) (m1 : 1 ≤ n') (m9 : n' ≤ 7) (hl : n = (cl x 0 (W * H)).length) (hm : n' = (cl y 0 (W * H)).length)
    (o1 : Ev (fun k => spec_l08Ones.f k (x : Int)) (n : Int)) (o2 : bits_OnesCount.f (IntKind.u64.wrap (x : Int)) = some (n : Int)) (q1 : Ev (fun k => spec_l08Ones.f k (y : Int)) (n' : Int)) (q2 : bits_OnesCount.f (IntKind.u64.wrap (y : Int)) = some (n' : Int)) :
    ∃ F : Int → List Int × List Int × Bool, (∀ p, Ev (fun k => impl_dissect.f k W H x y p) (F p)) ∧ (∀ p : Nat, 1 ≤ p → p ≤ n → n = n' → Ev (fun k => spec_l10Find.f k W H x y p) (F p)) ∧
      (∀ p, n ≠ n' ∨ ¬ (1 ≤ p ∧ p ≤ (n : Int)) → F p = ([], [], false)) ∧ ∀ p, (F p).1.length ≤ 1000 ∧ (F p).2.1.length ≤ 1000 := by
  obtain ⟨P, a1, a3, a2⟩ := cuts_more W H x n hW hH hn hx (by omega) hl
  obtain ⟨Q, b1, b3, b2⟩ := cuts_more W H y n' hW hH hn hy (by omega) hm
  have alen : ∀ q ∈ ex n [] 0, q.1.length = n := fun q hq => by obtain ⟨_, _, _, g, _⟩ := a2 q hq; exact g
  have blen : ∀ q ∈ ex n' [] 0, q.1.length = n' := fun q hq => by obtain ⟨_, _, _, g, _⟩ := b2 q hq; exact g
  have ane : ∀ q ∈ ex n [] 0, q.1 ≠ [] ∧ ∀ R, P q.1 = some R → R.length = q.2 := fun q hq => by
    obtain ⟨R0, _, g2, g3, _, _, g6, _⟩ := a2 q hq
    exact ⟨fun e => by rw [e] at g3; simp at g3; omega, fun R hR => by rw [g6 R hR]; exact g2⟩
  have bne : ∀ q ∈ ex n' [] 0, q.1 ≠ [] ∧ ∀ R, Q q.1 = some R → R.length = q.2 := fun q hq => by
    obtain ⟨R0, _, g2, g3, _, _, g6, _⟩ := b2 q hq
    exact ⟨fun e => by rw [e] at g3; simp at g3; omega, fun R hR => by rw [g6 R hR]; exact g2⟩
  have agl : ∀ (p : Int), ∀ c ∈ gsel P p (ex n [] 0), c.length = n := fun p c hc => by obtain ⟨q, hq, rfl, _⟩ := z2e hc; exact alen q hq
  have bgl : ∀ (p : Int), ∀ c ∈ gsel Q p (ex n' [] 0), c.length = n' := fun p c hc => by obtain ⟨q, hq, rfl, _⟩ := z2e hc; exact blen q hq
  refine ⟨fun p => hit (kf W H P) (kf W H Q) (gsel Q p (ex n' [] 0)) (gsel P p (ex n [] 0)), fun p => ?_, fun p p1 p2 e => ?_, fun p h => ?_, fun p => ?_⟩
  · have hk := key_all Q p (kf W H Q) (ex n' [] 0) [] bne
    have hk2 : ∀ key, QFnExactDissect.look (za Q (vKp p (kf W H Q)) (ex n' [] 0) []).1 key = ((gsel Q p (ex n' [] 0)).find? (fun d => decide (keyB (kf W H Q d) = key))).getD [] := fun key => by
      rw [hk.2 key]; exact if_pos rfl
    have hf := find_all P p (kf W H P) (kf W H Q) (za Q (vKp p (kf W H Q)) (ex n' [] 0) []).1 (gsel Q p (ex n' [] 0)) hk2 (fun d hd e => by have := bgl p d hd; rw [e] at this; simp at this; omega) (ex n [] 0) ane
    have e1 : Ev (fun k => impl_eachCut.f (vKey p W H) k W H y []) (za Q (vKp p (kf W H Q)) (ex n' [] 0) []).1 := by
      refine each_ev (vKey p W H) W H y n' [] _ true q2 ?_
      have := grow_evj (vKey p W H) (vKp p (kf W H Q)) Q (fun m M => M.length + m ≤ 1000000000000) (fun m M h => by omega) W H y n' (by omega) b1
        (fun m M c R h hp hc => by
          unfold vKp
          simp only
          split
          · split
            · simp; omega
            · omega
          · omega)
        (fun m M c R h hp hc => by
          obtain ⟨_, g2, g3, _⟩ := b3 c hc R hp
          obtain ⟨h1, h2⟩ := key_ev W H hW hH hn Q c R hp g2 g3
          unfold vKey vKp
          refine z6 (fun e => by rw [e] at hc; simp at hc; omega) ?_
          by_cases cp : ((toI R).length : Int) = p
          · rw [if_pos cp]
            exact z4 cp (z7 h1 (z4 ⟨h2, by omega⟩ (z8 _)))
          · rw [if_neg cp]
            exact z6 cp (z8 _)) n' [] 0 [] 0 (by
              have a := ex_len n' [] 0 (by omega)
              have b : 10 ^ n' ≤ 10 ^ 9 := Nat.pow_le_pow_right (by omega) (by omega)
              simp; omega) (by simp) (Nat.le_refl _)
      exact z13 this (Prod.ext rfl hk.1)
    generalize (za Q (vKp p (kf W H Q)) (ex n' [] 0) []).1 = M at e1 hf
    have e2 : Ev (fun k => impl_eachCut.f (vFind p W H M) k W H x ([], [])) (za P (vFq p (kf W H P) M) (ex n [] 0) ([], [])).1 := by
      refine each_ev (vFind p W H M) W H x n ([], []) _ (za P (vFq p (kf W H P) M) (ex n [] 0) ([], [])).2 o2 ?_
      exact grow_ev (vFind p W H M) (vFq p (kf W H P) M) P W H x n (by omega) a1 (fun s c R hp hc => by
          obtain ⟨_, g2, g3, _⟩ := a3 c hc R hp
          obtain ⟨h1, h2⟩ := key_ev W H hW hH hn P c R hp g2 g3
          unfold vFind vFq
          refine z6 (fun e => by rw [e] at hc; simp at hc; omega) ?_
          by_cases cp : ((toI R).length : Int) = p
          · rw [if_pos cp]
            exact z4 cp (z7 h1 (z4 h2 (z8 _)))
          · rw [if_neg cp]
            exact z6 cp (z8 _)) n [] 0 ([], []) (by simp) (Nat.le_refl _)
    rw [hf.1] at e2
    unfold impl_dissect.f
    refine z7 e1 (z7 e2 (z13 (z8 _) ?_))
    show (_, _, _) = _
    rw [← hf.2]
  · subst e
    have hA := all_ev W H x n p P (by omega) p1 p2 o1 (fun q hq => by
      obtain ⟨R, _, _, _, _, _, _, g7, g8⟩ := a2 q hq
      exact ⟨R, g7, g8⟩)
    have hB := all_ev W H y n p Q (by omega) p1 p2 q1 (fun q hq => by
      obtain ⟨R, _, _, _, _, _, _, g7, g8⟩ := b2 q hq
      exact ⟨R, g7, g8⟩)
    rw [goods_eq] at hA hB
    have hAl := gsel_le P p n (by omega)
    have hBl := gsel_le Q p n (by omega)
    have tA : ∀ c ∈ gsel P p (ex n [] 0), ∃ R : List Nat, Ev (fun k => spec_l09Pieces.f k W x c) (toI R) ∧ Ev (fun k => spec_l10Names.f k W H (toI R)) (kf W H P c) ∧ (kf W H P c).length ≤ 1000 := fun c hc => by
      obtain ⟨q, hq, rfl, R, hR⟩ := z2e hc
      obtain ⟨_, g2, g3, g4⟩ := a3 q.1 (alen q hq) R hR
      refine ⟨R, g4, ?_, ?_⟩
      · rw [z3d hR]; exact z29 W H hW hH hn R g2 (by omega)
      · have := kf_len W H P q.1 (fun R' h => by rw [hR] at h; cases h; exact g3)
        omega
    have tB : ∀ c ∈ gsel Q p (ex n [] 0), ∃ R : List Nat, Ev (fun k => spec_l09Pieces.f k W y c) (toI R) ∧ Ev (fun k => spec_l10Names.f k W H (toI R)) (kf W H Q c) := fun c hc => by
      obtain ⟨q, hq, rfl, R, hR⟩ := z2e hc
      obtain ⟨_, g2, g3, g4⟩ := b3 q.1 (blen q hq) R hR
      refine ⟨R, g4, ?_⟩
      rw [z3d hR]; exact z29 W H hW hH hn R g2 (by omega)
    unfold spec_l10Find.f
    refine z7 hB ?_
    have l1 := find_l1 W H x (kf W H P) (kf W H Q) (gsel Q p (ex n [] 0)) hBl (gsel P p (ex n [] 0)) hAl tA (gsel P p (ex n [] 0)) [] rfl
    exact find_l0 W H x y p (kf W H Q) (gsel Q p (ex n [] 0)) (gsel P p (ex n [] 0)) hBl _ tB hA l1 (gsel Q p (ex n [] 0)) [] rfl
  · rcases hit_in (kf W H P) (kf W H Q) (gsel Q p (ex n' [] 0)) (gsel P p (ex n [] 0)) with g | ⟨c, hc, d, hd, he, _⟩
    · exact g
    · exfalso
      rcases h with h | h
      · obtain ⟨q, hq, rfl, R, hR⟩ := z2e hc
        obtain ⟨q', hq', rfl, S, hS⟩ := z2e hd
        obtain ⟨r1, _⟩ := a3 q.1 (alen q hq) R hR
        obtain ⟨s1, _⟩ := b3 q'.1 (blen q' hq') S hS
        rw [z3d hR, z3d hS] at he
        have hs := names_sum W H hW hH hn R S he
        have t1 := run_pop (W * H) q.1 (cl x 0 (W * H)) [] 0 R (cl_asc x (W * H) (W * H) 0 (by omega)) (by rw [alen q hq, hl]) (fun p hp => by cases hp) r1
        have t2 := run_pop (W * H) q'.1 (cl y 0 (W * H)) [] 0 S (cl_asc y (W * H) (W * H) 0 (by omega)) (by rw [blen q' hq', hm]) (fun p hp => by cases hp) s1
        rw [alen q hq] at t1
        rw [blen q' hq'] at t2
        omega
      · rw [gsel_none P p n n1 h] at hc
        cases hc
  · rcases hit_in (kf W H P) (kf W H Q) (gsel Q p (ex n' [] 0)) (gsel P p (ex n [] 0)) with g | ⟨c, hc, d, hd, _, g⟩
    · simp only
      rw [g]; simp
    · simp only
      rw [g]
      have := agl p c hc
      have := bgl p d hd
      simp only
      omega
theorem eqIntS_from (l : List Int) (hl : (l.length : Int) ≤ 4611686018427387904) (d : Nat) : ∀ i : Int, 0 ≤ i → (l.length : Int) - i ≤ d → Ev (fun k => laws_eqIntS.l0 k l l i) true := by
  induction d with
  | zero =>
    intro i h0 hd
    refine z5 ?_
    simp only [laws_eqIntS.l0]
    exact z6 (by omega) (z8 _)
  | succ d ih =>
    intro i h0 hd
    refine z5 ?_
    simp only [laws_eqIntS.l0, if_true]
    by_cases hi : i < (l.length : Int)
    · refine z4 hi (z4 h0 (z4 hi ?_))
      rw [w64 (by omega) (by omega)]
      exact ih _ (by omega) (by omega)
    · exact z6 hi (z8 _)
theorem z43 (l : List Int) (hl : (l.length : Int) ≤ 4611686018427387904) : Ev (fun k => laws_eqIntS.f k l l) true := by
  unfold laws_eqIntS.f
  exact z4 rfl (eqIntS_from l hl l.length 0 (by omega) (by omega))
/-! A row is marked from c on, and holds its marks. -/
theorem mark_from (n : Nat) (hn : (n : Int) ≤ 1000000000000) (c : Int) (hc : 0 ≤ c) (hc' : c ≤ 1000000000000) (d : Nat) : ∀ (l : List Int) (i : Nat), l.length = n → n - i ≤ d → i ≤ n → (∀ j, j < i → l.getD j 0 = c + j) →
    ∃ l', Ev (fun k => laws_markIntS.l0 k l (c + i) i) (c + (n : Int), l') ∧ l'.length = n ∧ ∀ j, j < n → l'.getD j 0 = c + j := by
  induction d with
  | zero =>
    intro l i hl hd hi hm
    refine ⟨l, z5 ?_, hl, fun j hj => hm j (by omega)⟩
    simp only [laws_markIntS.l0]
    obtain rfl : i = n := by omega
    exact z6 (by omega) (z8 _)
  | succ d ih =>
    intro l i hl hd hi hm
    by_cases h : i < n
    · obtain ⟨l', hl', h1, h2⟩ := ih (l.set i (c + i)) (i + 1) (by simpa using hl) (by omega) (by omega) (by
        intro j hj
        rw [List.getD_eq_getElem?_getD, List.getElem?_set]
        by_cases e : i = j
        · subst e; rw [if_pos rfl, if_pos (by omega)]; rfl
        · rw [if_neg e, ← List.getD_eq_getElem?_getD]; exact hm j (by omega))
      refine ⟨l', z5 ?_, h1, h2⟩
      simp only [laws_markIntS.l0]
      refine z4 (by omega) (z4 (by omega) ?_)
      rw [w64 (by omega) (by omega), w64 (by omega) (by omega)]
      have e1 : (c + (i : Int) + 1) = c + ((i + 1 : Nat) : Int) := by omega
      have e2 : ((i : Int) + 1) = ((i + 1 : Nat) : Int) := by omega
      have e3 : ((i : Int)).toNat = i := by omega
      rw [e1, e2, e3]; exact hl'
    · obtain rfl : i = n := by omega
      refine ⟨l, z5 ?_, hl, fun j hj => hm j (by omega)⟩
      simp only [laws_markIntS.l0]
      exact z6 (by omega) (z8 _)
theorem held_from (n : Nat) (hn : (n : Int) ≤ 1000000000000) (c : Int) (hc : 0 ≤ c) (hc' : c ≤ 1000000000000) (l : List Int) (hl : l.length = n) (hm : ∀ j, j < n → l.getD j 0 = c + j) (d : Nat) : ∀ i : Nat, i ≤ n → n - i ≤ d →
    Ev (fun k => laws_heldIntS.l0 k l (c + i) i) (c + (n : Int)) := by
  induction d with
  | zero =>
    intro i hi hd
    refine z5 ?_
    simp only [laws_heldIntS.l0]
    obtain rfl : i = n := by omega
    exact z6 (by omega) (z8 _)
  | succ d ih =>
    intro i hi hd
    refine z5 ?_
    simp only [laws_heldIntS.l0]
    by_cases h : i < n
    · have hr : rd l (i : Int) = l.getD i 0 := by simp [rd]
      refine z4 (by omega) (z4 (by omega) (z4 (by rw [hr]; exact hm i h) ?_))
      rw [w64 (by omega) (by omega), w64 (by omega) (by omega)]
      have e1 : (c + (i : Int) + 1) = c + ((i + 1 : Nat) : Int) := by omega
      have e2 : ((i : Int) + 1) = ((i + 1 : Nat) : Int) := by omega
      rw [e1, e2]; exact ih (i + 1) (by omega) (by omega)
    · obtain rfl : i = n := by omega
      exact z6 (by omega) (z8 _)
theorem markHeld (l : List Int) (hl : (l.length : Int) ≤ 1000000000000) (c : Int) (hc : 0 ≤ c) (hc' : c ≤ 1000000000000) :
    ∃ l', Ev (fun k => laws_markIntS.f k l c) (c + (l.length : Int), l') ∧ Ev (fun k => laws_heldIntS.f k l' c) (c + (l.length : Int)) := by
  obtain ⟨l', h1, h2, h3⟩ := mark_from l.length hl c hc hc' l.length l 0 rfl (by omega) (by omega) (fun j hj => by omega)
  refine ⟨l', ?_, ?_⟩
  · unfold laws_markIntS.f
    simpa using h1
  · have := held_from l.length hl c hc hc' l' h2 h3 l.length 0 (by omega) (by omega)
    unfold laws_heldIntS.f
    simpa using this
theorem dissect_both (w h a b p : Int) : ∃ r : List Int × List Int × Bool, Ev (fun k => spec_Dissect.f k w h a b p) r ∧ Ev (fun k => impl_Dissect.f k w h a b p) r ∧ r.1.length ≤ 1000 ∧ r.2.1.length ≤ 1000 := by
  rcases cut_shape w h a with ⟨c1, c2⟩ | ⟨c1, c2, W, H, x, n, rfl, rfl, rfl, hW, hH, hn, hx, n1, n7, hl, o1, o2⟩
  · refine ⟨([], [], false), ?_, ?_, by simp, by simp⟩
    · unfold spec_Dissect.f
      exact z7 c2 (z6 (by decide) (z8 _))
    · unfold impl_Dissect.f
      exact z9 c1 (z6 (by decide) (z8 _))
  · rcases cut_shape W H b with ⟨d1, d2⟩ | ⟨d1, d2, W', H', y, n', e1, e2, rfl, _, _, _, hy, m1, m7, hm, q1, q2⟩
    · refine ⟨([], [], false), ?_, ?_, by simp, by simp⟩
      · unfold spec_Dissect.f
        exact z7 c2 (z4 rfl (z7 d2 (z6 (by decide) (z8 _))))
      · unfold impl_Dissect.f
        exact z9 c1 (z4 rfl (z9 d1 (z6 (by decide) (z8 _))))
    · obtain rfl := Int.ofNat.inj e1
      obtain rfl := Int.ofNat.inj e2
      obtain ⟨F, f1, f2, f3, f4⟩ := dis_both W H x n y n' hW hH hn hx hy n1 n7 m1 m7 hl hm o1 o2 q1 q2
      have hi : (1 ≤ p ∧ p ≤ 7) → Ev (fun k => impl_Dissect.f k W H x y p) (F p) := by
        intro hp
        unfold impl_Dissect.f
        exact z9 c1 (z4 rfl (z9 d1 (z4 rfl (z9 (z27 _ _ _) (z4 (decide_eq_true hp) (z7 (f1 p) (z8 _)))))))
      have hj : ¬ (1 ≤ p ∧ p ≤ 7) → Ev (fun k => impl_Dissect.f k W H x y p) ([], [], false) := by
        intro hp
        unfold impl_Dissect.f
        exact z9 c1 (z4 rfl (z9 d1 (z4 rfl (z9 (z27 _ _ _) (z6 (by simpa using hp) (z8 _))))))
      by_cases e : n = n'
      · by_cases g : 1 ≤ p ∧ p ≤ (n : Int)
        · obtain ⟨q, rfl⟩ := Int.eq_ofNat_of_zero_le (show 0 ≤ p by omega)
          refine ⟨F q, ?_, hi (by omega), f4 q⟩
          unfold spec_Dissect.f
          exact z7 c2 (z4 rfl (z7 d2 (z4 rfl (z7 o1 (z7 q1 (z4 (by omega) (z7 o1 (z9 (in_eq _ _ _) (z4 (decide_eq_true g) (z7 (f2 q (by omega) (by omega) e) (z8 _)))))))))))
        · refine ⟨([], [], false), ?_, ?_, by simp, by simp⟩
          · unfold spec_Dissect.f
            exact z7 c2 (z4 rfl (z7 d2 (z4 rfl (z7 o1 (z7 q1 (z4 (by omega) (z7 o1 (z9 (in_eq _ _ _) (z6 (by simpa using g) (z8 _))))))))))
          · by_cases g7 : 1 ≤ p ∧ p ≤ 7
            · exact z13 (hi g7) (f3 p (.inr g))
            · exact hj g7
      · refine ⟨([], [], false), ?_, ?_, by simp, by simp⟩
        · unfold spec_Dissect.f
          exact z7 c2 (z4 rfl (z7 d2 (z4 rfl (z7 o1 (z7 q1 (z6 (by omega) (z8 _)))))))
        · by_cases g7 : 1 ≤ p ∧ p ≤ 7
          · exact z13 (hi g7) (f3 p (.inl e))
          · exact hj g7
theorem FnExactDissect : laws_FnExactDissect.Pure := by
  intro w h a b p _ _ _ _ _
  apply ev_rounds
  unfold laws_FnExactDissect.f
  obtain ⟨⟨L, M, c⟩, h1, h2, h3, h4⟩ := dissect_both w h a b p
  simp only at h3 h4
  have hL := z43 L (by omega)
  have hM := z43 M (by omega)
  obtain ⟨L', n1, n2⟩ := markHeld L (by omega) 1 (by omega) (by omega)
  obtain ⟨M', m1, m2⟩ := markHeld M (by omega) (1 + (L.length : Int)) (by omega) (by omega)
  refine z7 h1 (z7 h2 (z7 hL (z4 rfl (z7 hM (z4 rfl (z5 ?_))))))
  simp only [laws_FnExactDissect.j0]
  refine z6 (by simp) (z7 n1 (z7 m1 (z7 n2 (z6 (by omega) (z7 m2 (z6 (by omega) (z4 rfl (z7 h2 (z7 hL (z4 rfl (z7 hM (z4 rfl (z5 ?_)))))))))))))
  simp only [laws_FnExactDissect.j1]
  exact z6 (by simp) (z7 n2 (z6 (by omega) (z7 m2 (z6 (by omega) (z4 rfl (z8 _))))))

end Go.Proofs.YtmjfigeikiickaaDoor.Pure
