/- QuotientsOf of the program and of the reference answer alike, for all numbers. -/
import Derived.Test.YtajlphacjadgkaaQFnExactQuotientsOfx2
namespace Go.Proofs.Ytajlphacjadgkaa.Pure
open Go.RowKit Go.Proofs.Ytajlphacjadgkaa.QFnExactQuotientsOf Go.Proofs.YtajlphacjadgkaaW.PrintWords Go.Proofs.YtajlphacjadgkaaW.PrintLast Go.Proofs.YtajlphacjadgkaaW.PrintMore
set_option linter.unusedVariables false
set_option linter.unusedSimpArgs false

/- Eventually: with enough rounds the answer is r. -/
theorem ev_now {α : Type} (r : α) : Ev (fun _ => some r) r := Ev.now r
theorem ev_shift {α : Type} {g : Nat → Option α} {r : α} (h : Ev (fun k => g (k + 1)) r) : Ev g r := by
  obtain ⟨K, hK⟩ := h
  exact ⟨K + 1, fun k hk => by
    obtain ⟨m, rfl⟩ : ∃ m, k = m + 1 := ⟨k - 1, by omega⟩
    exact hK m (by omega)⟩
theorem ev_bind {α β : Type} {g : Nat → Option α} {f : Nat → α → Option β} {a : α} {r : β} (h : Ev g a) (k : Ev (fun n => f n a) r) : Ev (fun n => (g n).bind (f n)) r := Ev.bind h k
theorem ev_bind0 {α β : Type} {o : Option α} {f : Nat → α → Option β} {a : α} {r : β} (h : o = some a) (k : Ev (fun n => f n a) r) : Ev (fun n => o.bind (f n)) r := by
  subst h; exact k
theorem ev_pos {α : Type} {A B : Nat → Option α} {r : α} {c : Prop} [Decidable c] (h : c) (k : Ev A r) : Ev (fun n => if c then A n else B n) r := by
  simpa only [if_pos h] using k
theorem ev_neg {α : Type} {A B : Nat → Option α} {r : α} {c : Prop} [Decidable c] (h : ¬ c) (k : Ev B r) : Ev (fun n => if c then A n else B n) r := by
  simpa only [if_neg h] using k
theorem ev_done {α : Type} {o : Option α} {r : α} (h : o = some r) : Ev (fun _ => o) r := ⟨0, fun _ _ => h⟩
theorem ev_eq {α : Type} {g : Nat → Option α} {r r' : α} (h : Ev g r) (e : r = r') : Ev g r' := e ▸ h
theorem ev_rounds {α : Type} {g : Nat → Option α} {r : α} (h : Ev g r) : ∃ k, g k = some r := Ev.rounds h
theorem ev_uniq {α : Type} {g : Nat → Option α} {r r' : α} (h : Ev g r) (h' : Ev g r') : r = r' := by
  obtain ⟨K, hK⟩ := h
  obtain ⟨K', hK'⟩ := h'
  have a := hK (max K K') (Nat.le_max_left _ _)
  have b := hK' (max K K') (Nat.le_max_right _ _)
  rw [a] at b
  exact Option.some.inj b
theorem wf64 {n : Int} (h : (Lit.int .i64 n).wf = true) : -9223372036854775808 ≤ n ∧ n ≤ 9223372036854775807 := by
  have a : IntKind.i64.min = -9223372036854775808 := rfl
  have b : IntKind.i64.max = 9223372036854775807 := rfl
  simp [Lit.wf] at h
  omega
theorem w64 {n : Int} (h : -9223372036854775808 ≤ n) (h' : n ≤ 9223372036854775807) : wrap64 n = n := by
  unfold wrap64; omega
theorem wadd (a b : Nat) (h : a + b < 1000000000000) : wrap64 ((a : Int) + (b : Int)) = ((a + b : Nat) : Int) := by
  rw [w64 (by omega) (by omega)]; omega
theorem wsucc (a : Nat) (h : a < 1000000000000) : wrap64 ((a : Int) + 1) = ((a + 1 : Nat) : Int) := by
  rw [w64 (by omega) (by omega)]; omega
theorem wsmall (n : Int) (h : -1000000000000 ≤ n ∧ n ≤ 1000000000000) : wrap64 n = n := w64 (by omega) (by omega)
theorem within_eq (a b c : Int) : impl_within.f a b c = some (decide (b ≤ a ∧ a ≤ c)) := by
  unfold impl_within.f; split <;> simp <;> omega
theorem in_eq (a b c : Int) : spec_l01In.f a b c = some (decide (b ≤ a ∧ a ≤ c)) := by
  unfold spec_l01In.f; split <;> simp <;> omega
theorem mx_eq (a b : Int) : mx a b = max a b := by unfold mx; split <;> omega
theorem mn_eq (a b : Int) : mn a b = min a b := by unfold mn; split <;> omega
theorem rd_at (l : List Int) (i : Nat) : rd l (i : Int) = l.getD i 0 := by simp [rd]
theorem eqIntS_from (l : List Int) (hl : (l.length : Int) ≤ 4611686018427387904) (d : Nat) : ∀ i : Int, 0 ≤ i → (l.length : Int) - i ≤ d → Ev (fun k => laws_eqIntS.l0 k l l i) true := by
  induction d with
  | zero =>
    intro i h0 hd
    refine ev_shift ?_
    simp only [laws_eqIntS.l0]
    exact ev_neg (by omega) (ev_now _)
  | succ d ih =>
    intro i h0 hd
    refine ev_shift ?_
    simp only [laws_eqIntS.l0, if_true]
    by_cases hi : i < (l.length : Int)
    · refine ev_pos hi (ev_pos h0 (ev_pos hi ?_))
      rw [w64 (by omega) (by omega)]
      exact ih _ (by omega) (by omega)
    · exact ev_neg hi (ev_now _)
theorem eqIntS_refl (l : List Int) (hl : (l.length : Int) ≤ 4611686018427387904) : Ev (fun k => laws_eqIntS.f k l l) true := by
  unfold laws_eqIntS.f
  exact ev_pos rfl (eqIntS_from l hl l.length 0 (by omega) (by omega))
theorem markIntS_from (n : Nat) (hn : (n : Int) ≤ 4611686018427387904) (d : Nat) : ∀ (l : List Int) (i : Nat), l.length = n → n - i ≤ d → i ≤ n → (∀ j, j < i → l.getD j 0 = 1 + j) →
    ∃ l', Ev (fun k => laws_markIntS.l0 k l (1 + i) i) (1 + (n : Int), l') ∧ l'.length = n ∧ ∀ j, j < n → l'.getD j 0 = 1 + j := by
  induction d with
  | zero =>
    intro l i hl hd hi hm
    refine ⟨l, ev_shift ?_, hl, fun j hj => hm j (by omega)⟩
    simp only [laws_markIntS.l0]
    obtain rfl : i = n := by omega
    exact ev_neg (by omega) (ev_now _)
  | succ d ih =>
    intro l i hl hd hi hm
    by_cases h : i < n
    · obtain ⟨l', hl', h1, h2⟩ := ih (l.set i (1 + i)) (i + 1) (by simpa using hl) (by omega) (by omega) (by
        intro j hj
        rw [List.getD_eq_getElem?_getD, List.getElem?_set]
        by_cases e : i = j
        · subst e; rw [if_pos rfl, if_pos (by omega)]; rfl
        · rw [if_neg e, ← List.getD_eq_getElem?_getD]; exact hm j (by omega))
      refine ⟨l', ev_shift ?_, h1, h2⟩
      simp only [laws_markIntS.l0]
      refine ev_pos (by omega) (ev_pos (by omega) ?_)
      rw [w64 (by omega) (by omega), w64 (by omega) (by omega)]
      have e1 : (1 + (i : Int) + 1) = 1 + ((i + 1 : Nat) : Int) := by omega
      have e2 : ((i : Int) + 1) = ((i + 1 : Nat) : Int) := by omega
      have e3 : ((i : Int)).toNat = i := by omega
      rw [e1, e2, e3]; exact hl'
    · obtain rfl : i = n := by omega
      refine ⟨l, ev_shift ?_, hl, fun j hj => hm j (by omega)⟩
      simp only [laws_markIntS.l0]
      exact ev_neg (by omega) (ev_now _)
theorem heldIntS_from (n : Nat) (hn : (n : Int) ≤ 4611686018427387904) (l : List Int) (hl : l.length = n) (hm : ∀ j, j < n → l.getD j 0 = 1 + j) (d : Nat) : ∀ i : Nat, i ≤ n → n - i ≤ d →
    Ev (fun k => laws_heldIntS.l0 k l (1 + i) i) (1 + (n : Int)) := by
  induction d with
  | zero =>
    intro i hi hd
    refine ev_shift ?_
    simp only [laws_heldIntS.l0]
    obtain rfl : i = n := by omega
    exact ev_neg (by omega) (ev_now _)
  | succ d ih =>
    intro i hi hd
    refine ev_shift ?_
    simp only [laws_heldIntS.l0]
    by_cases h : i < n
    · refine ev_pos (by omega) (ev_pos (by omega) (ev_pos (by rw [rd_at]; exact hm i h) ?_))
      rw [w64 (by omega) (by omega), w64 (by omega) (by omega)]
      have e1 : (1 + (i : Int) + 1) = 1 + ((i + 1 : Nat) : Int) := by omega
      have e2 : ((i : Int) + 1) = ((i + 1 : Nat) : Int) := by omega
      rw [e1, e2]; exact ih (i + 1) (by omega) (by omega)
    · obtain rfl : i = n := by omega
      exact ev_neg (by omega) (ev_now _)
theorem markIntS_ev (l : List Int) (hl : (l.length : Int) ≤ 4611686018427387904) :
    ∃ l', Ev (fun k => laws_markIntS.f k l 1) (1 + (l.length : Int), l') ∧ Ev (fun k => laws_heldIntS.f k l' 1) (1 + (l.length : Int)) := by
  obtain ⟨l', h1, h2, h3⟩ := markIntS_from l.length hl l.length l 0 rfl (by omega) (by omega) (fun j hj => by omega)
  exact ⟨l', h1, heldIntS_from l.length hl l' h2 h3 l.length 0 (by omega) (by omega)⟩
theorem ints_tail {g : Nat → Option (List Int)} {l : List Int} (hg : Ev g l) (hl : (l.length : Int) ≤ 4611686018427387904) :
    Ev (fun k => (g k).bind fun t1 => ((laws_eqIntS.f k t1 l).bind fun t2 => (if t2 = true then ((laws_markIntS.f k t1 1).bind fun b => ((laws_heldIntS.f k b.2 1).bind fun t3 => (if t3 < 0 then (some false) else (if t3 = b.1 then ((g k).bind fun t4 => ((laws_eqIntS.f k t4 l).bind fun t5 => (if t5 = true then ((laws_heldIntS.f k b.2 1).bind fun t6 => (if t6 < 0 then (some false) else (if t6 = b.1 then (some true) else (some false)))) else (some false)))) else (some false))))) else (some false)))) true := by
  obtain ⟨l', h1, h2⟩ := markIntS_ev l hl
  refine ev_bind hg (ev_bind (eqIntS_refl l hl) (ev_pos rfl (ev_bind h1 (ev_bind h2 (ev_neg (by omega) (ev_pos rfl ?_))))))
  exact ev_bind hg (ev_bind (eqIntS_refl l hl) (ev_pos rfl (ev_bind h2 (ev_neg (by omega) (ev_pos rfl (ev_now _))))))
theorem rd_mid (pre suf : List Int) (a : Int) : rd (pre ++ a :: suf) (pre.length : Int) = a := by
  simp [rd, List.getD_eq_getElem?_getD]
theorem next_len {α : Type} (pre : List α) (a : α) (h : pre.length < 1000000) : wrap64 ((pre.length : Int) + 1) = ((pre ++ [a]).length : Int) := by
  rw [w64 (by omega) (by omega)]; simp
/-- What both cut: the sides of the squares, greedily. -/
def greedy : Nat → Int → Int → List Int → List Int
  | 0, _, _, out => out
  | n + 1, w, h, out => if 0 < w ∧ 0 < h then (if h ≤ w then greedy n (w - h) h (out ++ [h]) else greedy n w (h - w) (out ++ [w])) else out
theorem greedy_more : ∀ (n m : Nat) (w h : Int) (out : List Int), w + h ≤ n → w + h ≤ m → greedy n w h out = greedy m w h out
  | 0, 0, _, _, _, _, _ => rfl
  | 0, m + 1, w, h, out, hn, hm => by simp only [greedy]; rw [if_neg (by omega)]
  | n + 1, 0, w, h, out, hn, hm => by simp only [greedy]; rw [if_neg (by omega)]
  | n + 1, m + 1, w, h, out, hn, hm => by
    simp only [greedy]
    by_cases c : 0 < w ∧ 0 < h
    · rw [if_pos c, if_pos c]
      by_cases d : h ≤ w
      · rw [if_pos d, if_pos d]; exact greedy_more n m _ _ _ (by omega) (by omega)
      · rw [if_neg d, if_neg d]; exact greedy_more n m _ _ _ (by omega) (by omega)
    · rw [if_neg c, if_neg c]
theorem greedy_swap : ∀ (n : Nat) (w h : Int) (out : List Int), greedy n w h out = greedy n h w out
  | 0, _, _, _ => rfl
  | n + 1, w, h, out => by
    by_cases e : w = h
    · rw [e]
    simp only [greedy]
    by_cases c : 0 < w ∧ 0 < h
    · have c' : 0 < h ∧ 0 < w := ⟨c.2, c.1⟩
      rw [if_pos c, if_pos c']
      by_cases d : h ≤ w
      · rw [if_pos d, if_neg (show ¬ w ≤ h by omega)]
        exact greedy_swap n _ _ _
      · rw [if_neg d, if_pos (show w ≤ h by omega)]
        exact greedy_swap n _ _ _
    · rw [if_neg c, if_neg (by omega)]
theorem greedy_len : ∀ (n : Nat) (w h : Int) (out : List Int), (greedy n w h out).length ≤ out.length + n
  | 0, _, _, _ => by simp [greedy]
  | n + 1, w, h, out => by
    simp only [greedy]
    split
    · split
      · have := greedy_len n (w - h) h (out ++ [h]); simp at this; omega
      · have := greedy_len n w (h - w) (out ++ [w]); simp at this; omega
    · omega
theorem impl_l0 (n : Nat) : ∀ (w h : Int) (out : List Int), 0 ≤ w → 0 ≤ h → w + h ≤ n → n ≤ 2000 → out.length + n ≤ 100000 → Ev (fun k => impl_GreedySquares.l0 k w h out) (greedy n w h out) := by
  induction n with
  | zero =>
    intro w h out hw hh hn hn' ho
    refine ev_shift ?_
    simp only [impl_GreedySquares.l0]
    refine ev_neg (by omega) (ev_shift ?_)
    simp only [impl_GreedySquares.j2]
    exact ev_neg (by simp) (ev_now _)
  | succ n ih =>
    intro w h out hw hh hn hn' ho
    refine ev_shift ?_
    simp only [impl_GreedySquares.l0, greedy]
    by_cases c : 0 < w ∧ 0 < h
    · refine ev_pos (by omega) (ev_shift ?_)
      simp only [impl_GreedySquares.j2]
      refine ev_pos (by simpa using c.2) (ev_pos (by omega) (ev_bind0 rfl ?_))
      rw [if_pos c]
      by_cases d : h ≤ w
      · have e : mn w h = h := by rw [mn_eq]; omega
        rw [if_pos d, e]
        refine ev_pos d ?_
        rw [w64 (by omega) (by omega)]
        exact ih _ _ _ (by omega) (by omega) (by omega) (by omega) (by rw [List.length_append]; simp; omega)
      · have e : mn w h = w := by rw [mn_eq]; omega
        rw [if_neg d, e]
        refine ev_neg d ?_
        rw [w64 (by omega) (by omega)]
        exact ih _ _ _ (by omega) (by omega) (by omega) (by omega) (by rw [List.length_append]; simp; omega)
    · rw [if_neg c]
      by_cases d : 0 < w
      · refine ev_pos d (ev_shift ?_)
        simp only [impl_GreedySquares.j2]
        exact ev_neg (by simp; omega) (ev_now _)
      · refine ev_neg d (ev_shift ?_)
        simp only [impl_GreedySquares.j2]
        exact ev_neg (by simp) (ev_now _)
theorem spec_l1 (n : Nat) : ∀ (out : List Int) (a b : Int), 0 ≤ a → 0 < b → a + b ≤ n → n ≤ 2000 → out.length + n ≤ 100000 →
    Ev (fun k => spec_GreedySquares.l1 k out a b) (greedy n a b out) := by
  induction n with
  | zero => intro out a b ha hb hn; omega
  | succ n ih =>
    intro out a b ha hb hn hn' ho
    refine ev_shift ?_
    simp only [spec_GreedySquares.l1, greedy]
    by_cases d : b ≤ a
    · refine ev_pos d (ev_pos (by omega) ?_)
      rw [if_pos (by omega), if_pos d, w64 (by omega) (by omega)]
      exact ih _ _ _ (by omega) hb (by omega) (by omega) (by rw [List.length_append]; simp; omega)
    · refine ev_neg d (ev_shift ?_)
      simp only [spec_GreedySquares.l0]
      by_cases e : 0 < a
      · refine ev_pos e (ev_shift ?_)
        simp only [spec_GreedySquares.l1]
        refine ev_pos (by omega) (ev_pos (by omega) ?_)
        rw [if_pos ⟨e, hb⟩, if_neg d, greedy_swap, w64 (by omega) (by omega)]
        exact ih _ _ _ (by omega) e (by omega) (by omega) (by rw [List.length_append]; simp; omega)
      · rw [if_neg (by omega)]
        exact ev_neg e (ev_now _)
def gsq (w h : Int) : List Int := if 1 ≤ w ∧ w ≤ 1000 ∧ 1 ≤ h ∧ h ≤ 1000 then greedy 2000 w h [] else []
theorem gsq_len (w h : Int) : (gsq w h).length ≤ 2000 := by
  unfold gsq; split
  · have := greedy_len 2000 w h []; simpa using this
  · simp
theorem impl_gs (w h : Int) : Ev (fun k => impl_GreedySquares.f k w h) (gsq w h) := by
  unfold impl_GreedySquares.f gsq
  refine ev_bind0 (within_eq _ _ _) ?_
  by_cases c : 1 ≤ w ∧ w ≤ 1000
  · refine ev_pos (by simpa using c) (ev_bind0 (within_eq _ _ _) (ev_shift ?_))
    simp only [impl_GreedySquares.j0]
    by_cases d : 1 ≤ h ∧ h ≤ 1000
    · rw [if_pos (by omega)]
      exact ev_neg (by simpa using d) (impl_l0 2000 w h [] (by omega) (by omega) (by omega) (by omega) (by simp))
    · rw [if_neg (by omega)]
      exact ev_pos (by simp; omega) (ev_now _)
  · rw [if_neg (by omega)]
    refine ev_neg (by simpa using c) (ev_shift ?_)
    simp only [impl_GreedySquares.j0]
    exact ev_pos (by simp) (ev_now _)
theorem spec_gs (w h : Int) : Ev (fun k => spec_GreedySquares.f k w h) (gsq w h) := by
  unfold spec_GreedySquares.f gsq
  refine ev_bind0 (in_eq _ _ _) ?_
  by_cases c : 1 ≤ w ∧ w ≤ 1000
  · refine ev_pos (by simpa using c) (ev_bind0 (in_eq _ _ _) (ev_shift ?_))
    simp only [spec_GreedySquares.j0, mx_eq, mn_eq]
    by_cases d : 1 ≤ h ∧ h ≤ 1000
    · rw [if_pos (by omega)]
      refine ev_neg (by simpa using d) (ev_shift ?_)
      simp only [spec_GreedySquares.l0]
      refine ev_pos (by omega) ?_
      by_cases e : h ≤ w
      · rw [Int.max_eq_left e, Int.min_eq_right e]
        exact spec_l1 2000 [] w h (by omega) (by omega) (by omega) (by omega) (by simp)
      · rw [Int.max_eq_right (by omega), Int.min_eq_left (by omega), greedy_swap]
        exact spec_l1 2000 [] h w (by omega) (by omega) (by omega) (by omega) (by simp)
    · rw [if_neg (by omega)]
      exact ev_pos (by simp; omega) (ev_now _)
  · rw [if_neg (by omega)]
    refine ev_neg (by simpa using c) (ev_shift ?_)
    simp only [spec_GreedySquares.j0]
    exact ev_pos (by simp) (ev_now _)
/-- How often each different side is cut, in the order of the sides. -/
def quo : List Int → Option Int → List Int → List Int
  | [], _, out => out
  | s :: l, prev, out => if prev = some s then quo l (some s) (out.set (out.length - 1) (out.getD (out.length - 1) 0 + 1)) else quo l (some s) (out ++ [1])
theorem quo_len : ∀ (l : List Int) (prev : Option Int) (out : List Int), (quo l prev out).length ≤ out.length + l.length := by
  intro l
  induction l with
  | nil => intro prev out; simp [quo]
  | cons s l ih =>
    intro prev out
    simp only [quo]
    split
    · have := ih (some s) (out.set (out.length - 1) (out.getD (out.length - 1) 0 + 1)); simp at this ⊢; omega
    · have := ih (some s) (out ++ [1]); simp at this ⊢; omega
def lastOf : List Int → Option Int
  | [] => none
  | x :: l => match lastOf l with | none => some x | some y => some y
theorem lastOf_snoc (l : List Int) (a : Int) : lastOf (l ++ [a]) = some a := by
  induction l with
  | nil => rfl
  | cons x l ih => simp only [List.cons_append, lastOf]; rw [ih]
theorem impl_quo (A : List Int) (hA : A.length ≤ 10000) : ∀ (suf pre out : List Int), A = pre ++ suf → (pre ≠ [] → out ≠ []) → out.length ≤ pre.length → (∀ x ∈ out, 0 ≤ x ∧ x ≤ pre.length) →
    Ev (fun k => impl_QuotientsOf.l0 k A out (A.length : Int) (pre.length : Int)) (quo suf (lastOf pre) out) ∧ Ev (fun k => spec_QuotientsOf.l0 k A out (A.length : Int) (pre.length : Int)) (quo suf (lastOf pre) out) := by
  intro suf
  induction suf with
  | nil =>
    intro pre out hp _ _ _
    have hlp : A.length = pre.length := by rw [hp]; simp
    refine ⟨ev_shift ?_, ev_shift ?_⟩
    · simp only [impl_QuotientsOf.l0, quo]; exact ev_neg (by omega) (ev_now _)
    · simp only [spec_QuotientsOf.l0, quo]; exact ev_neg (by omega) (ev_now _)
  | cons s suf ih =>
    intro pre out hp hne ho hx
    have hlp : A.length = pre.length + suf.length + 1 := by rw [hp]; simp; omega
    have hat : rd A (pre.length : Int) = s := by rw [hp, rd_mid]
    have hpl : ((pre ++ [s]).length : Int) = ((pre.length + 1 : Nat) : Int) := by simp
    have q1 : (pre.length : Int) < (A.length : Int) := by omega
    have b1 : out.length < 17592186044416 := by omega
    have hnx : wrap64 ((pre.length : Int) + 1) = ((pre.length + 1 : Nat) : Int) := wsucc pre.length (by omega)
    have new : Ev (fun k => impl_QuotientsOf.l0 k A (out ++ [1]) (A.length : Int) (wrap64 ((pre.length : Int) + 1))) (quo suf (some s) (out ++ [1])) ∧ Ev (fun k => spec_QuotientsOf.l0 k A (out ++ [1]) (A.length : Int) (wrap64 ((pre.length : Int) + 1))) (quo suf (some s) (out ++ [1])) := by
      have := ih (pre ++ [s]) (out ++ [1]) (by rw [hp]; simp) (fun _ => by simp) (by simp; omega) (fun x hxm => by
        rcases List.mem_append.mp hxm with c | c
        · have := hx x c; rw [List.length_append]; simp; omega
        · have : x = 1 := by simpa using c
          rw [List.length_append]; simp; omega)
      rw [lastOf_snoc, hpl, ← hnx] at this
      exact this
    have sp0 : Ev (fun k => ((some (out ++ [0] : List Int)).bind fun y => (if 0 ≤ (wrap64 ((y.length : Int) - 1)) then (if (wrap64 ((y.length : Int) - 1)) < (y.length : Int) then (spec_QuotientsOf.l0 k A (y.set ((wrap64 ((y.length : Int) - 1)) : Int).toNat (wrap64 ((rd y (wrap64 ((y.length : Int) - 1))) + 1))) (A.length : Int) (wrap64 ((pre.length : Int) + 1))) else (none)) else (none)))) (quo suf (some s) (out ++ [1])) := by
      refine ev_bind (ev_now _) ?_
      have e1 : wrap64 (((out ++ [0]).length : Int) - 1) = (out.length : Int) := by rw [List.length_append, w64 (by simp <;> omega) (by simp <;> omega)]; simp
      have e2 : rd (out ++ [0]) (out.length : Int) = 0 := by simp [rd, List.getD_eq_getElem?_getD]
      have e3 : (out ++ [0]).set out.length (wrap64 (0 + 1)) = out ++ [1] := by
        rw [show wrap64 (0 + 1) = 1 from w64 (n := 0 + 1) (by decide) (by decide)]; simp
      rw [e1, e2, Int.toNat_natCast, e3]
      exact ev_pos (Int.natCast_nonneg _) (ev_pos (by rw [List.length_append]; simp <;> omega) new.2)
    by_cases z : pre = []
    · subst z
      have hq : quo (s :: suf) (lastOf []) out = quo suf (some s) (out ++ [1]) := rfl
      rw [hq]
      refine ⟨ev_shift ?_, ev_shift ?_⟩
      · simp only [impl_QuotientsOf.l0]
        exact ev_pos q1 (ev_pos (by simp) (ev_pos q1 (ev_neg (by simp) (ev_pos b1 new.1))))
      · simp only [spec_QuotientsOf.l0]
        exact ev_pos q1 (ev_pos (by simp) (ev_pos q1 (ev_pos (by simp) (ev_pos b1 sp0))))
    · obtain ⟨p2, y, rfl⟩ : ∃ p2 y, pre = p2 ++ [y] := ⟨pre.dropLast, pre.getLast z, (List.dropLast_concat_getLast z).symm⟩
      have hpos : (0 : Int) < ((p2 ++ [y]).length : Int) := by rw [List.length_append]; simp <;> omega
      have ew : wrap64 (((p2 ++ [y]).length : Int) - 1) = (p2.length : Int) := by rw [w64 (by omega) (by omega)]; simp
      have ey : rd A (p2.length : Int) = y := by rw [hp]; simp [rd, List.getD_eq_getElem?_getD]
      have q2 : (p2.length : Int) < (A.length : Int) := by rw [hlp]; simp; omega
      rw [lastOf_snoc]
      have hone := hne z
      have hol : 0 < out.length := List.length_pos_iff.mpr hone
      by_cases c : s = y
      · subst c
        have hq : quo (s :: suf) (some s) out = quo suf (some s) (out.set (out.length - 1) (out.getD (out.length - 1) 0 + 1)) := by simp [quo]
        rw [hq]
        have f1 : wrap64 ((out.length : Int) - 1) = ((out.length - 1 : Nat) : Int) := by rw [w64 (by omega) (by omega)]; omega
        have hm : out.getD (out.length - 1) 0 ∈ out := by
          rw [List.getD_eq_getElem?_getD, List.getElem?_eq_getElem (by omega)]; exact List.getElem_mem _
        have hb := hx _ hm
        have f2 : rd out ((out.length - 1 : Nat) : Int) = out.getD (out.length - 1) 0 := by simp [rd]
        have f3 : wrap64 (out.getD (out.length - 1) 0 + 1) = out.getD (out.length - 1) 0 + 1 := by
          have := hb.2
          rw [w64 (by omega) (by omega)]
        have q3 : ((out.length - 1 : Nat) : Int) < (out.length : Int) := by omega
        have hpe : (p2 ++ [s] ++ [s]).length = (p2 ++ [s]).length + 1 := by simp
        have on := ih (p2 ++ [s] ++ [s]) (out.set (out.length - 1) (out.getD (out.length - 1) 0 + 1)) (by rw [hp]; simp) (fun _ => fun e => by
          have := congrArg List.length e
          rw [List.length_set, List.length_nil] at this
          omega) (by rw [List.length_set, hpe]; omega) (fun x hxm => by
          rw [hpe]
          rcases List.mem_or_eq_of_mem_set hxm with d | d
          · have := hx x d; omega
          · rw [d]; omega)
        rw [lastOf_snoc, hpl, ← hnx] at on
        refine ⟨ev_shift ?_, ev_shift ?_⟩
        · simp only [impl_QuotientsOf.l0]
          rw [hat, ew, ey, f1, f2, f3, Int.toNat_natCast]
          exact ev_pos q1 (ev_pos (Int.natCast_nonneg _) (ev_pos q1 (ev_pos hpos (ev_pos (Int.natCast_nonneg _) (ev_pos q2 (ev_pos rfl (ev_pos (Int.natCast_nonneg _) (ev_pos q3 on.1))))))))
        · simp only [spec_QuotientsOf.l0]
          rw [hat, ew, ey, f1, f2, f3, Int.toNat_natCast]
          exact ev_pos q1 (ev_pos (Int.natCast_nonneg _) (ev_pos q1 (ev_neg (Int.ne_of_gt hpos) (ev_pos (Int.natCast_nonneg _) (ev_pos q2 (ev_pos rfl (ev_pos (Int.natCast_nonneg _) (ev_pos q3 on.2))))))))
      · have hq : quo (s :: suf) (some y) out = quo suf (some s) (out ++ [1]) := by simp only [quo]; rw [if_neg (fun e => c (Option.some.inj e).symm)]
        rw [hq]
        refine ⟨ev_shift ?_, ev_shift ?_⟩
        · simp only [impl_QuotientsOf.l0]
          rw [hat, ew, ey]
          exact ev_pos q1 (ev_pos (Int.natCast_nonneg _) (ev_pos q1 (ev_pos hpos (ev_pos (Int.natCast_nonneg _) (ev_pos q2 (ev_neg c (ev_pos b1 new.1)))))))
        · simp only [spec_QuotientsOf.l0]
          rw [hat, ew, ey]
          exact ev_pos q1 (ev_pos (Int.natCast_nonneg _) (ev_pos q1 (ev_neg (Int.ne_of_gt hpos) (ev_pos (Int.natCast_nonneg _) (ev_pos q2 (ev_neg c (ev_pos b1 sp0)))))))
theorem FnExactQuotientsOf : laws_FnExactQuotientsOf.Pure := by
  intro w h _ _
  apply ev_rounds
  unfold laws_FnExactQuotientsOf.f
  have hl := gsq_len w h
  obtain ⟨h1, h2⟩ := impl_quo (gsq w h) (by omega) (gsq w h) [] [] rfl (fun z => absurd rfl z) (by simp) (fun x hx => by cases hx)
  have hq := quo_len (gsq w h) (lastOf []) []
  refine ev_bind (a := quo (gsq w h) (lastOf []) []) ?_ (ints_tail (l := quo (gsq w h) (lastOf []) []) ?_ (by simp at hq; omega))
  · unfold spec_QuotientsOf.f
    exact ev_bind (spec_gs w h) h2
  · unfold impl_QuotientsOf.f
    exact ev_bind (impl_gs w h) h1

end Go.Proofs.Ytajlphacjadgkaa.Pure
