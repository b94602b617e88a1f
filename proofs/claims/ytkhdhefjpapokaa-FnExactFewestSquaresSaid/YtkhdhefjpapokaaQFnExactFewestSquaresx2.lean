/- What each Go function of this text answers, as a plain function, and that the machine comes to just that answer. -/
import Derived.Test.YtkhdhefjpapokaaQFnExactFewestSquaresx0
import Derived.Test.YtkhdhefjpapokaaQFnExactFewestSquaresx1
namespace Go.Proofs.Ytkhdhefjpapokaa.QFnExactFewestSquares
open Go.RowKit Go.Proofs.YtkhdhefjpapokaaW.PrintWords Go.Proofs.YtkhdhefjpapokaaW.PrintLast Go.Proofs.YtkhdhefjpapokaaW.PrintMore
attribute [local go_sem] max2_int min2_int max_two min_two max_three min_three max_four min_four   -- for this text's walks alone
set_option linter.unusedVariables false
set_option linter.unusedSimpArgs false

def Z52 : Array Value := (List.replicate 961 (Value.int .i64 0)).toArray
theorem zero52 (w : World) : (zeroValue 52).run Try.prog w = .ok (.agg Z52) w := by kernel_rfl
theorem z52_size : Z52.size = 961 := by unfold Z52; rw [List.size_toArray, List.length_replicate]
theorem z52_all : Z52.all (·.oneCell') = true := by kernel_rfl
theorem size52 : (Try.prog.info? 52).map (·.size) = some Z52.size := by rw [z52_size]; kernel_rfl
theorem build52 (w : World) (ev : Operand → Value) (o : Oper) (ho : o.op = .build 52 #[]) : (execOp ev o).run Try.prog w = .ok (.value (.agg Z52)) w := by
  unfold execOp
  simp only [ho, Instr.build, Sem.run_bind, zero52, Result.andThen_ok]
  kernel_rfl
theorem alloc52 (w : World) (ev : Operand → Value) (o : Oper) (ho : o.op = .alloc 52) : (execOp ev o).run Try.prog w = .ok (.value (.pointer (some ⟨w.heap.size, 0, none⟩))) (w.alloc (.cells Z52 52 (0, 0))) := by
  unfold execOp
  simp only [ho, Instr.alloc, Sem.run_bind, zero52, Result.andThen_ok]
  rfl
theorem store52 (w : World) (g : Nat) (ev : Operand → Value) (o : Oper) (x y : Operand) (ho : o.op = .store 52 x y) (hx : ev x = .pointer (some ⟨g, 0, none⟩)) (hy : ev y = .agg Z52) (hg : w.heap[g]? = some (.cells Z52 52 (0, 0))) :
    (execOp ev o).run Try.prog w = .ok .skip (w.setRow g Z52) := by
  unfold execOp
  simp only [ho, hx, hy, Instr.storeAt, Instr.sureAddr, Sem.run_bind, Sem.run_pure, Result.andThen_ok, run_storeVar_row w g 52 52 Z52 Z52 hg size52 rfl z52_all]
def gmin (f : Nat → Int) (x : Int) : Nat → Int
  | 0 => x
  | k + 1 => min (gmin f x k) (f (k + 1))
def VF : Nat → Nat → Nat → Int
  | 0, _, _ => 0
  | n + 1, a, b => gmin (fun k => VF n a k + VF n a (b - k)) (gmin (fun k => VF n k b + VF n (a - k) b) (if a = b then 1 else (a : Int) * b) (a - 1)) (b - 1)
def V (a b : Nat) : Int := VF (a + b) a b
theorem gmin_congr {f g : Nat → Int} (x : Int) : ∀ n, (∀ k, 1 ≤ k → k ≤ n → f k = g k) → gmin f x n = gmin g x n
  | 0, _ => rfl
  | n + 1, h => by
    simp only [gmin]
    rw [gmin_congr x n (fun k a b => h k a (by omega)), h (n + 1) (by omega) (Nat.le_refl _)]
theorem VF_fuel : ∀ (n m a b : Nat), 1 ≤ a → 1 ≤ b → a + b ≤ n → a + b ≤ m → VF n a b = VF m a b := by
  intro n
  induction n with
  | zero => intro m a b h1 h2 h; omega
  | succ n ih =>
    intro m a b h1 h2 h h'
    obtain ⟨m, rfl⟩ : ∃ q, m = q + 1 := ⟨m - 1, by omega⟩
    simp only [VF]
    have e1 : gmin (fun k => VF n k b + VF n (a - k) b) (if a = b then 1 else (a : Int) * b) (a - 1) = gmin (fun k => VF m k b + VF m (a - k) b) (if a = b then 1 else (a : Int) * b) (a - 1) :=
      gmin_congr _ _ (fun k g1 g2 => by
        show VF n k b + VF n (a - k) b = VF m k b + VF m (a - k) b
        rw [ih m k b g1 h2 (by omega) (by omega), ih m (a - k) b (by omega) h2 (by omega) (by omega)])
    rw [e1]
    exact gmin_congr _ _ (fun k g1 g2 => by
      show VF n a k + VF n a (b - k) = VF m a k + VF m a (b - k)
      rw [ih m a k h1 g1 (by omega) (by omega), ih m a (b - k) h1 (by omega) (by omega) (by omega)])
def VA (a b n : Nat) : Int := gmin (fun k => V k b + V (a - k) b) (if a = b then 1 else (a : Int) * b) n
def VB (a b n : Nat) : Int := gmin (fun k => V a k + V a (b - k)) (VA a b (a - 1)) n
theorem V_eq (a b : Nat) (h1 : 1 ≤ a) (h2 : 1 ≤ b) : V a b = VB a b (b - 1) := by
  unfold V VB VA
  obtain ⟨n, hn⟩ : ∃ n, a + b = n + 1 := ⟨a + b - 1, by omega⟩
  rw [hn]
  simp only [VF]
  have e1 : gmin (fun k => VF n k b + VF n (a - k) b) (if a = b then 1 else (a : Int) * b) (a - 1) = gmin (fun k => V k b + V (a - k) b) (if a = b then 1 else (a : Int) * b) (a - 1) :=
    gmin_congr _ _ (fun k g1 g2 => by
      show VF n k b + VF n (a - k) b = VF (k + b) k b + VF (a - k + b) (a - k) b
      rw [VF_fuel n (k + b) k b g1 h2 (by omega) (by omega), VF_fuel n (a - k + b) (a - k) b (by omega) h2 (by omega) (by omega)])
  rw [e1]
  exact gmin_congr _ _ (fun k g1 g2 => by
    show VF n a k + VF n a (b - k) = VF (a + k) a k + VF (a + (b - k)) a (b - k)
    rw [VF_fuel n (a + k) a k h1 g1 (by omega) (by omega), VF_fuel n (a + (b - k)) a (b - k) h1 (by omega) (by omega) (by omega)])
theorem gmin_le (f : Nat → Int) (x : Int) : ∀ n, gmin f x n ≤ x
  | 0 => Int.le_refl _
  | n + 1 => by have := gmin_le f x n; simp only [gmin]; omega
theorem gmin_ge (f : Nat → Int) (x c : Int) (hx : c ≤ x) : ∀ n, (∀ k, 1 ≤ k → k ≤ n → c ≤ f k) → c ≤ gmin f x n
  | 0, _ => hx
  | n + 1, h => by
    have a := gmin_ge f x c hx n (fun k a b => h k a (by omega))
    have b := h (n + 1) (by omega) (Nat.le_refl _)
    simp only [gmin]; omega
theorem base_bound (a b : Nat) (h1 : 1 ≤ a) (h2 : 1 ≤ b) (h3 : a ≤ 30) (h4 : b ≤ 30) : 1 ≤ (if a = b then 1 else (a : Int) * b) ∧ (if a = b then 1 else (a : Int) * b) ≤ 900 := by
  have g1 : 1 * 1 ≤ a * b := Nat.mul_le_mul h1 h2
  have g2 : a * b ≤ 30 * 30 := Nat.mul_le_mul h3 h4
  have e : (a : Int) * b = ((a * b : Nat) : Int) := by rw [Int.natCast_mul]
  split <;> omega
theorem V_bound : ∀ (n a b : Nat), a + b ≤ n → 1 ≤ a → 1 ≤ b → a ≤ 30 → b ≤ 30 → 1 ≤ V a b ∧ V a b ≤ 900 := by
  intro n
  induction n with
  | zero => intro a b h h1; omega
  | succ n ih =>
    intro a b h h1 h2 h3 h4
    obtain ⟨g1, g2⟩ := base_bound a b h1 h2 h3 h4
    rw [V_eq a b h1 h2]
    constructor
    · refine gmin_ge _ _ _ (gmin_ge _ _ _ g1 _ (fun k k1 k2 => ?_)) _ (fun k k1 k2 => ?_)
      · have := ih k b (by omega) k1 h2 (by omega) h4
        have := ih (a - k) b (by omega) (by omega) h2 (by omega) h4
        omega
      · have := ih a k (by omega) h1 k1 h3 (by omega)
        have := ih a (b - k) (by omega) h1 (by omega) h3 (by omega)
        omega
    · have q1 := gmin_le (fun k => V a k + V a (b - k)) (VA a b (a - 1)) (b - 1)
      have q2 := gmin_le (fun k => V k b + V (a - k) b) (if a = b then 1 else (a : Int) * b) (a - 1)
      unfold VB
      unfold VA at *
      omega
theorem V_ok (a b : Nat) (h1 : 1 ≤ a) (h2 : 1 ≤ b) (h3 : a ≤ 30) (h4 : b ≤ 30) : 1 ≤ V a b ∧ V a b ≤ 900 := V_bound (a + b) a b (Nat.le_refl _) h1 h2 h3 h4
/-- All cells ahead of row a's place b hold their numbers. -/
def Done (W H : Nat) (T : List Int) (a b : Nat) : Prop := ∀ i j, 1 ≤ i → i ≤ W → 1 ≤ j → j ≤ H → (i < a ∨ (i = a ∧ j < b)) → T.getD (i * 31 + j) 0 = V i j
theorem getD_set_same (T : List Int) (i : Nat) (x : Int) (h : i < T.length) : (T.set i x).getD i 0 = x := by
  rw [List.getD_eq_getElem?_getD, List.getElem?_set, if_pos rfl, if_pos h]; rfl
theorem getD_set_other (T : List Int) (i j : Nat) (x : Int) (h : i ≠ j) : (T.set i x).getD j 0 = T.getD j 0 := by
  rw [List.getD_eq_getElem?_getD, List.getElem?_set, if_neg h, List.getD_eq_getElem?_getD]
theorem Done.set {W H : Nat} {T : List Int} {a b : Nat} (h : Done W H T a b) (hH : H ≤ 30) (hb : b ≤ 30) (x : Int) : Done W H (T.set (a * 31 + b) x) a b := by
  intro i j h1 h2 h3 h4 h5
  rw [getD_set_other _ _ _ _ (by omega)]
  exact h i j h1 h2 h3 h4 h5
theorem Done.next {W H : Nat} {T : List Int} {a b : Nat} (h : Done W H T a b) (hv : T.getD (a * 31 + b) 0 = V a b) : Done W H T a (b + 1) := by
  intro i j h1 h2 h3 h4 h5
  by_cases e : i = a ∧ j = b
  · obtain ⟨rfl, rfl⟩ := e
    exact hv
  · exact h i j h1 h2 h3 h4 (by omega)
theorem Done.row {W H : Nat} {T : List Int} {a : Nat} (h : Done W H T a (H + 1)) : Done W H T (a + 1) 1 := by
  intro i j h1 h2 h3 h4 h5
  exact h i j h1 h2 h3 h4 (by omega)
def ArrAt (w : World) (B : Nat) (T : List Int) : Prop := w.heap[B]? = some (.cells (T.map (Value.int .i64)).toArray 52 (0, 0)) ∧ T.length = 961
theorem arr_zero {w : World} {B : Nat} (h : w.heap[B]? = some (.cells Z52 52 (0, 0))) : ArrAt w B (List.replicate 961 0) := by
  refine ⟨?_, List.length_replicate⟩
  rw [List.map_replicate]
  exact h
theorem arr_cell {w : World} {B : Nat} {T : List Int} (h : ArrAt w B T) (i : Nat) (hi : i < 961) : w.cell? ⟨B, i, none⟩ = some (.int .i64 (T.getD i 0)) := by
  obtain ⟨h1, h2⟩ := h
  unfold World.cell?
  rw [h1]
  simp [List.getD_eq_getElem?_getD, List.getElem?_eq_getElem (show i < T.length by omega)]
theorem arr_frozen {w : World} {B : Nat} {T : List Int} (h : ArrAt w B T) (i : Nat) : w.frozen? ⟨B, i, none⟩ = false := by
  unfold World.frozen?
  rw [h.1]
  simp
theorem arr_at {w w' : World} {B n : Nat} {T : List Int} (hq : w.drewN n = w') (h : ArrAt w B T) : ArrAt w' B T := by subst hq; exact h
theorem arr_set {w : World} {B : Nat} {T : List Int} (h : ArrAt w B T) (i : Nat) (x : Int) : ArrAt (w.setCell ⟨B, i, none⟩ (.int .i64 x)) B (T.set i x) := by
  obtain ⟨h1, h2⟩ := h
  refine ⟨?_, by rw [List.length_set]; exact h2⟩
  rw [setCell_eq_setRow w B i _ 52 (0, 0) _ h1, setRow_heap w B _ _ 52 (0, 0) h1]
  congr 2
  rw [List.map_set, List.setIfInBounds_toArray]
theorem arr_drew {w : World} {B : Nat} {T : List Int} (h : ArrAt w B T) : ArrAt w.drew B T := h
set_option maxHeartbeats 4000000 in
set_option maxRecDepth 100000 in
theorem impl_FewestSquares.main (W H : Nat) (hW1 : 1 ≤ W) (hW2 : W ≤ 30) (hH1 : 1 ≤ H) (hH2 : H ≤ 30) (w : World) (h1 : impl_within.f (W : Int) 1 30 = some true) (h2 : impl_within.f (H : Int) 1 30 = some true) :
    Calls Try.prog 16 #[.int .i64 (W : Int), .int .i64 (H : Int)] w fun e w' => e = .returned (.int .i64 (V W H)) ∧ Below w.heap.size w w' := by
  have A1 := Aside0.mk h1
  have A2 := Aside0.mk h2
  clear h1 h2
  have HB := Aside0.mk (Below.refl w.heap.size w)
  go_enter Try.func16, Try.ntmps16
  go_wp2_with (first
    | ((with_reducible refine gate_callee (f := 29) rfl ?_); (refine gate_guard (by rfl) ?_; dsimp only); refine goesL_ (some 15) rfl rfl Try.func29 (by kernel_rfl) rfl #[.int .i64 (H : Int), .int .i64 1, .int .i64 30] rfl (by (try simp only [List.map_toArray, List.map_cons, List.map_nil]); first | done | rfl) ?_; (refine (impl_within.calls (H : Int) 1 30 true _ A2.out).mono ?_); rintro e w2 ⟨rfl, hb⟩; refine ⟨_, rfl, ?_⟩; have n0_ := Aside0.mk (below_step HB.out hb.below); clear HB hb; have HB := n0_; clear n0_)
    | ((with_reducible refine gate_callee (f := 29) rfl ?_); refine goesL_ (some 11) rfl rfl Try.func29 (by kernel_rfl) rfl #[.int .i64 (W : Int), .int .i64 1, .int .i64 30] rfl (by (try simp only [List.map_toArray, List.map_cons, List.map_nil]); first | done | rfl) ?_; (refine (impl_within.calls (W : Int) 1 30 true _ A1.out).mono ?_); rintro e w1 ⟨rfl, hb⟩; refine ⟨_, rfl, ?_⟩; have n0_ := Aside0.mk (below_step HB.out hb.below); clear HB hb; have HB := n0_; clear n0_)
    | ((with_reducible refine gate_dst (N := 18) rfl ?_); refine Kd.event_run (by rfl) (build52 _ _ _ rfl) ?_)
    | ((with_reducible refine gate_dst (N := 5) rfl ?_); refine box_event (by rfl) (N := 5) rfl (alloc52 _ _ _ rfl) ?_; intro B hB w3 hbx hb; have n0_ := Aside0.mk (below_step HB.out hb); have HA := Aside0.mk hbx; have hB_ := HB.out.size; have GB := Aside0.mk (show w.heap.size ≤ B by omega); clear HB hb hbx hB_ hB; have HB := n0_; clear n0_)
    | ((with_reducible refine gate_store (t := 52) (p := 5) rfl ?_); refine store_event (by rfl) (t := 52) (p := 5) (v := .tmp 18) (w1 := w3) rfl rfl ((store52 _ _ _ _ _ _ rfl rfl rfl HA.out).trans (congrArg _ (setRow_self _ _ _ _ _ HA.out))) ?_; intro w4 hw; subst hw))
  generalize Z52 = zz_
  go_loopg [6] W (fun kq v6 w' => ∃ (a : Nat) (T : List Int), v6 = .int .i64 (a : Int) ∧ Aside0 (kq + a = W + 1) ∧ Aside0 (1 ≤ a) ∧ Aside0 (ArrAt w' B T) ∧ Aside0 (Done W H T a 1) ∧ Aside0 (Below w.heap.size w w'))
  case atStart => exact ⟨1, _, rfl, ⟨rfl⟩, ⟨Nat.le_refl _⟩, ⟨arr_zero HA.out⟩, ⟨fun i j h1 h2 h3 h4 h5 => by omega⟩, HB⟩
  case round =>
    clear HA HB
    obtain ⟨a, T, rfl, HK1, Ha1, HA1, HD, HB⟩ := hrel
    by_cases c5 : (a : Int) ≤ (W : Int)
    · have c5b0 : decide ((a : Int) ≤ (W : Int)) = true := decide_eq_true c5
      have HAW := Aside0.mk (show a ≤ W by omega)
      obtain ⟨k1, rfl⟩ : ∃ q, gk = q + 1 := ⟨gk - 1, by have := HK1.out; omega⟩
      go_wp2
      go_loopg [7] H (fun kq v7 w' => ∃ (b : Nat) (T : List Int), v7 = .int .i64 (b : Int) ∧ Aside0 (kq + b = H + 1) ∧ Aside0 (1 ≤ b) ∧ Aside0 (ArrAt w' B T) ∧ Aside0 (Done W H T a b) ∧ Aside0 (Below w.heap.size w w'))
      case atStart => exact ⟨1, T, rfl, ⟨rfl⟩, ⟨Nat.le_refl _⟩, HA1, HD, HB⟩
      case round =>
        clear HA1 HD HB
        obtain ⟨b, T, rfl, HK2, Hb1, HA1, HD, HB⟩ := hrel
        by_cases c6 : (b : Int) ≤ (H : Int)
        · have c6b0 : decide ((b : Int) ≤ (H : Int)) = true := decide_eq_true c6
          have ha1 := Ha1.out
          have hb1 := Hb1.out
          have p1 : (0 : Int) ≤ (a : Int) := by omega
          have p2 : (a : Int) < 31 := by omega
          have p3 : (0 : Int) ≤ (b : Int) := by omega
          have p4 : (b : Int) < 31 := by omega
          replace p1 := eq_true p1
          replace p2 := eq_true p2
          replace p3 := eq_true p3
          replace p4 := eq_true p4
          have hi : a * 31 + b < 961 := by omega
          have hx := arr_cell HA1.out (a * 31 + b) hi
          have hf := arr_frozen HA1.out (a * 31 + b)
          have hmul : a * b ≤ 30 * 30 := Nat.mul_le_mul (by omega) (by omega)
          have ew : wrap64 ((a : Int) * (b : Int)) = (a : Int) * (b : Int) := by
            have e : (a : Int) * b = ((a * b : Nat) : Int) := by rw [Int.natCast_mul]
            rw [e]; unfold wrap64; omega
          have BA := Aside0.mk (show 1 ≤ a ∧ a ≤ W ∧ 1 ≤ b ∧ b ≤ H by omega)
          clear c5 hmul hi
          obtain ⟨k2, rfl⟩ : ∃ q, gk = q + 1 := ⟨gk - 1, by have := HK2.out; omega⟩
          by_cases cab : a = b
          · have c7b0 : ((a : Int) == (b : Int)) = true := by simp [cab]
            have CAB := Aside0.mk cab
            clear cab ha1 hb1
            go_wp2_with (first
              | ((with_reducible refine gate_store (t := 3) (p := 35) rfl ?_); refine store_event (by rfl) (t := 3) (p := 35) (v := .tmp 33) (w1 := wr.setCell ⟨B, a * 31 + b, none⟩ (.int .i64 ((a : Int) * b))) rfl rfl ?hr ?_; (case hr => first | (go_simp; done) | (go_simp; rfl)); intro wr hw; have n0_ := Aside0.mk (show ArrAt wr B (T.set (a * 31 + b) ((a : Int) * b)) by rw [hw]; exact arr_set HA1.out _ _); have n1_ := Aside0.mk (by rw [hw]; exact HB.out.setCell GB.out _ : Below w.heap.size w wr); clear HA1 HB hw; have HA1 := n0_; have HB := n1_; clear n0_ n1_; have hf := arr_frozen HA1.out (a * 31 + b); have hx := arr_cell HA1.out (a * 31 + b) (by have := BA.out; omega))
              | ((with_reducible refine gate_store (t := 3) (p := 42) rfl ?_); refine store_event (by rfl) (t := 3) (p := 42) (v := .const (.int .i64 1)) (w1 := wr.setCell ⟨B, a * 31 + b, none⟩ (.int .i64 1)) rfl rfl ?hr ?_; (case hr => first | (go_simp; done) | (go_simp; rfl)); intro wr hw; have n0_ := Aside0.mk (show ArrAt wr B ((T.set (a * 31 + b) ((a : Int) * b)).set (a * 31 + b) 1) by rw [hw]; exact arr_set HA1.out _ _); have n1_ := Aside0.mk (by rw [hw]; exact HB.out.setCell GB.out _ : Below w.heap.size w wr); clear HA1 HB hw; have HA1 := n0_; have HB := n1_; clear n0_ n1_))
            have n0_ := Aside0.mk ((HD.out.set (by omega) (by have := BA.out; omega) ((a : Int) * b)).set (by omega) (by have := BA.out; omega) 1)
            have n1_ : Aside0 (((T.set (a * 31 + b) ((a : Int) * b)).set (a * 31 + b) 1).getD (a * 31 + b) 0 = VA a b 0) := ⟨by
              rw [getD_set_same _ _ _ (by have := HA1.out.2; rw [List.length_set] at this; rw [this]; have := BA.out; omega)]
              show (1 : Int) = if a = b then 1 else (a : Int) * b
              rw [if_pos CAB.out]⟩
            generalize (T.set (a * 31 + b) ((a : Int) * b)).set (a * 31 + b) 1 = T2 at HA1 n0_ n1_
            clear HD CAB c7b0 hx hf c6
            have HD := n0_
            have HV := n1_
            clear n0_ n1_
            clear p1 p2 p3 p4 ew
            go_loopg [8] (a - 1) (fun kq v8 w' => ∃ (c : Nat) (T : List Int), v8 = .int .i64 (c : Int) ∧ Aside0 (kq + c = a) ∧ Aside0 (1 ≤ c) ∧ Aside0 (ArrAt w' B T) ∧ Aside0 (Done W H T a b) ∧ Aside0 (T.getD (a * 31 + b) 0 = VA a b (c - 1)) ∧ Aside0 (Below w.heap.size w w'))
            case atStart => exact ⟨1, _, rfl, ⟨by have := BA.out; omega⟩, ⟨Nat.le_refl _⟩, HA1, HD, HV, HB⟩
            case round =>
              clear HA1 HD HV HB
              obtain ⟨c, T, rfl, HK3, Hc1, HA1, HD, HV, HB⟩ := hrel
              by_cases c8 : (c : Int) < (a : Int)
              · have hc1 := Hc1.out
                have hba := BA.out
                obtain ⟨k3, rfl⟩ : ∃ q, gk = q + 1 := ⟨gk - 1, by have := HK3.out; omega⟩
                have CC := Aside0.mk (show 1 ≤ c ∧ c < a by omega)
                have hx := (arr_cell HA1.out (a * 31 + b) (by omega)).trans (by rw [HV.out])
                have hx2 := (arr_cell HA1.out (c * 31 + b) (by omega)).trans (by rw [HD.out _ _ (by omega) (by omega) (by omega) (by omega) (by omega)] : _ = some (Value.int .i64 (V c b)))
                obtain ⟨d, hd⟩ : ∃ d, d = a - c := ⟨_, rfl⟩
                have hx3 := (arr_cell HA1.out (d * 31 + b) (by omega)).trans (by rw [HD.out _ _ (by omega) (by omega) (by omega) (by omega) (by omega)] : _ = some (Value.int .i64 (V d b)))
                have e62 : wrap64 ((a : Int) - (c : Int)) = (d : Int) := by unfold wrap64; omega
                have e62' : IntKind.i64.wrap ((a : Int) - (c : Int)) = (d : Int) := by rw [IntKind.wrap_i64]; omega
                have q1 := eq_true (show (0 : Int) ≤ (a : Int) by omega)
                have q2 := eq_true (show (a : Int) < 31 by omega)
                have q3 := eq_true (show (0 : Int) ≤ (b : Int) by omega)
                have q4 := eq_true (show (b : Int) < 31 by omega)
                have q5 := eq_true (show (0 : Int) ≤ (c : Int) by omega)
                have q6 := eq_true (show (c : Int) < 31 by omega)
                have q7 := eq_true (show (0 : Int) ≤ (d : Int) by omega)
                have q8 := eq_true (show (d : Int) < 31 by omega)
                have e67 : wrap64 ((V c b) + (V d b)) = (V c b) + (V d b) := by
                  have z1 : 1 ≤ V c b ∧ V c b ≤ 900 := V_ok _ _ (by omega) (by omega) (by omega) (by omega)
                  have z2 : 1 ≤ V d b ∧ V d b ≤ 900 := V_ok _ _ (by omega) (by omega) (by omega) (by omega)
                  unfold wrap64; omega
                have e67' : IntKind.i64.wrap ((V c b) + (V d b)) = (V c b) + (V d b) := (by rw [IntKind.wrap_i64]; have z := e67; unfold wrap64 at z; exact z)
                have e68 : (if (V c b) + (V d b) < VA a b (c - 1) then (V c b) + (V d b) else VA a b (c - 1)) = VA a b c := by
                  obtain ⟨m, rfl⟩ : ∃ m, c = m + 1 := ⟨c - 1, by omega⟩
                  show _ = min (VA a b m) (V (m + 1) b + V (a - (m + 1)) b)
                  subst hd
                  rw [Nat.add_sub_cancel]
                  split <;> omega
                clear hc1 hba
                generalize V c b = y2 at hx2 e67 e67' e68
                clear hd
                generalize V d b = y3 at hx3 e67 e67' e68
                have hf := arr_frozen HA1.out (a * 31 + b)
                go_wp2
                go_still_tail 22, (by kernel_rfl)
                change wpList _ _ _ _ _ wr.drew
                generalize hq_ : wr.drew = wr2
                have n0_ : Aside0 (ArrAt wr2 B T) := ⟨by rw [← hq_]; exact HA1.out⟩
                have n1_ : Aside0 (Below w.heap.size w wr2) := ⟨by rw [← hq_]; exact HB.out.drew⟩
                clear hq_ HA1 HB hx hf
                have HA1 := n0_
                have HB := n1_
                clear n0_ n1_
                have hf := arr_frozen HA1.out (a * 31 + b)
                have hx := arr_cell HA1.out (a * 31 + b) (by have := BA.out; omega)
                go_wp2_with (first | ((with_reducible refine gate_store (t := 3) (p := 70) rfl ?_); refine store_event (by rfl) (t := 3) (p := 70) (v := .tmp 68) (w1 := wr2.setCell ⟨B, a * 31 + b, none⟩ (.int .i64 (VA a b c))) rfl rfl ?hr ?_; (case hr => first | (go_simp; done) | (go_simp; rfl)); intro wr2 hw; have n0_ := Aside0.mk (show ArrAt wr2 B (T.set (a * 31 + b) (VA a b c)) by rw [hw]; exact arr_set HA1.out _ _); have n1_ := Aside0.mk (by rw [hw]; exact HB.out.setCell GB.out _ : Below w.heap.size w wr2); clear HA1 HB hw; have HA1 := n0_; have HB := n1_; clear n0_ n1_; ))
                go_roundg k3
                case measure => omega
                case rel => exact ⟨c + 1, _, (congrArg (Value.int .i64) (by have := CC.out; have := BA.out; first | omega | (unfold wrap64; omega))), ⟨by have := HK3.out; omega⟩, ⟨by omega⟩, HA1, ⟨HD.out.set (by omega) (by have := BA.out; omega) _⟩, ⟨by rw [getD_set_same _ _ _ (by have := HA1.out.2; rw [List.length_set] at this; rw [this]; have := BA.out; omega)]; rfl⟩, HB⟩
              · have c8b0 : decide ((c : Int) < (a : Int)) = false := decide_eq_false c8
                have hce : c = a := by have := HK3.out; omega
                have HV' := Aside0.mk (show T.getD (a * 31 + b) 0 = VA a b (a - 1) by rw [HV.out, hce])
                clear HV hce Hc1
                have HV := HV'
                clear HV'
                go_wp2
                clear c8 c8b0 HK3
                go_loopg [9] (b - 1) (fun kq v9 w' => ∃ (c : Nat) (T : List Int), v9 = .int .i64 (c : Int) ∧ Aside0 (kq + c = b) ∧ Aside0 (1 ≤ c) ∧ Aside0 (ArrAt w' B T) ∧ Aside0 (Done W H T a b) ∧ Aside0 (T.getD (a * 31 + b) 0 = VB a b (c - 1)) ∧ Aside0 (Below w.heap.size w w'))
                case atStart => exact ⟨1, _, rfl, ⟨by have := BA.out; omega⟩, ⟨Nat.le_refl _⟩, HA1, HD, HV, HB⟩
                case round =>
                  clear HA1 HD HV HB
                  obtain ⟨c, T, rfl, HK3, Hc1, HA1, HD, HV, HB⟩ := hrel
                  by_cases c8 : (c : Int) < (b : Int)
                  · have hc1 := Hc1.out
                    have hba := BA.out
                    obtain ⟨k3, rfl⟩ : ∃ q, gk = q + 1 := ⟨gk - 1, by have := HK3.out; omega⟩
                    have CC := Aside0.mk (show 1 ≤ c ∧ c < b by omega)
                    have hx := (arr_cell HA1.out (a * 31 + b) (by omega)).trans (by rw [HV.out])
                    have hx2 := (arr_cell HA1.out (a * 31 + c) (by omega)).trans (by rw [HD.out _ _ (by omega) (by omega) (by omega) (by omega) (by omega)] : _ = some (Value.int .i64 (V a c)))
                    obtain ⟨d, hd⟩ : ∃ d, d = b - c := ⟨_, rfl⟩
                    have hx3 := (arr_cell HA1.out (a * 31 + d) (by omega)).trans (by rw [HD.out _ _ (by omega) (by omega) (by omega) (by omega) (by omega)] : _ = some (Value.int .i64 (V a d)))
                    have e62 : wrap64 ((b : Int) - (c : Int)) = (d : Int) := by unfold wrap64; omega
                    have e62' : IntKind.i64.wrap ((b : Int) - (c : Int)) = (d : Int) := by rw [IntKind.wrap_i64]; omega
                    have q1 := eq_true (show (0 : Int) ≤ (a : Int) by omega)
                    have q2 := eq_true (show (a : Int) < 31 by omega)
                    have q3 := eq_true (show (0 : Int) ≤ (b : Int) by omega)
                    have q4 := eq_true (show (b : Int) < 31 by omega)
                    have q5 := eq_true (show (0 : Int) ≤ (c : Int) by omega)
                    have q6 := eq_true (show (c : Int) < 31 by omega)
                    have q7 := eq_true (show (0 : Int) ≤ (d : Int) by omega)
                    have q8 := eq_true (show (d : Int) < 31 by omega)
                    have e67 : wrap64 ((V a c) + (V a d)) = (V a c) + (V a d) := by
                      have z1 : 1 ≤ V a c ∧ V a c ≤ 900 := V_ok _ _ (by omega) (by omega) (by omega) (by omega)
                      have z2 : 1 ≤ V a d ∧ V a d ≤ 900 := V_ok _ _ (by omega) (by omega) (by omega) (by omega)
                      unfold wrap64; omega
                    have e67' : IntKind.i64.wrap ((V a c) + (V a d)) = (V a c) + (V a d) := (by rw [IntKind.wrap_i64]; have z := e67; unfold wrap64 at z; exact z)
                    have e68 : (if (V a c) + (V a d) < VB a b (c - 1) then (V a c) + (V a d) else VB a b (c - 1)) = VB a b c := by
                      obtain ⟨m, rfl⟩ : ∃ m, c = m + 1 := ⟨c - 1, by omega⟩
                      show _ = min (VB a b m) (V a (m + 1) + V a (b - (m + 1)))
                      subst hd
                      rw [Nat.add_sub_cancel]
                      split <;> omega
                    clear hc1 hba
                    generalize V a c = y2 at hx2 e67 e67' e68
                    clear hd
                    generalize V a d = y3 at hx3 e67 e67' e68
                    have hf := arr_frozen HA1.out (a * 31 + b)
                    go_wp2
                    go_still_tail 22, (by kernel_rfl)
                    change wpList _ _ _ _ _ wr.drew
                    generalize hq_ : wr.drew = wr2
                    have n0_ : Aside0 (ArrAt wr2 B T) := ⟨by rw [← hq_]; exact HA1.out⟩
                    have n1_ : Aside0 (Below w.heap.size w wr2) := ⟨by rw [← hq_]; exact HB.out.drew⟩
                    clear hq_ HA1 HB hx hf
                    have HA1 := n0_
                    have HB := n1_
                    clear n0_ n1_
                    have hf := arr_frozen HA1.out (a * 31 + b)
                    have hx := arr_cell HA1.out (a * 31 + b) (by have := BA.out; omega)
                    go_wp2_with (first | ((with_reducible refine gate_store (t := 3) (p := 98) rfl ?_); refine store_event (by rfl) (t := 3) (p := 98) (v := .tmp 96) (w1 := wr2.setCell ⟨B, a * 31 + b, none⟩ (.int .i64 (VB a b c))) rfl rfl ?hr ?_; (case hr => first | (go_simp; done) | (go_simp; rfl)); intro wr2 hw; have n0_ := Aside0.mk (show ArrAt wr2 B (T.set (a * 31 + b) (VB a b c)) by rw [hw]; exact arr_set HA1.out _ _); have n1_ := Aside0.mk (by rw [hw]; exact HB.out.setCell GB.out _ : Below w.heap.size w wr2); clear HA1 HB hw; have HA1 := n0_; have HB := n1_; clear n0_ n1_; ))
                    go_roundg k3
                    case measure => omega
                    case rel => exact ⟨c + 1, _, (congrArg (Value.int .i64) (by have := CC.out; have := BA.out; first | omega | (unfold wrap64; omega))), ⟨by have := HK3.out; omega⟩, ⟨by omega⟩, HA1, ⟨HD.out.set (by omega) (by have := BA.out; omega) _⟩, ⟨by rw [getD_set_same _ _ _ (by have := HA1.out.2; rw [List.length_set] at this; rw [this]; have := BA.out; omega)]; rfl⟩, HB⟩
                  · have c8b0 : decide ((c : Int) < (b : Int)) = false := decide_eq_false c8
                    have hce : c = b := by have := HK3.out; omega
                    have HV' := Aside0.mk (show T.getD (a * 31 + b) 0 = VB a b (b - 1) by rw [HV.out, hce])
                    clear HV hce Hc1
                    have HV := HV'
                    clear HV'
                    go_wp2
                    go_roundg k2
                    case measure => omega
                    case rel => exact ⟨b + 1, _, (congrArg (Value.int .i64) (by have := BA.out; first | omega | (unfold wrap64; omega))), ⟨by have := HK2.out; omega⟩, ⟨by omega⟩, HA1, ⟨HD.out.next (by rw [HV.out]; exact (V_eq a b (by have := BA.out; omega) (by have := BA.out; omega)).symm)⟩, HB⟩
          · have c7b0 : ((a : Int) == (b : Int)) = false := by simp; omega
            have CAB := Aside0.mk cab
            clear cab ha1 hb1
            go_wp2_with (first
              | ((with_reducible refine gate_store (t := 3) (p := 35) rfl ?_); refine store_event (by rfl) (t := 3) (p := 35) (v := .tmp 33) (w1 := wr.setCell ⟨B, a * 31 + b, none⟩ (.int .i64 ((a : Int) * b))) rfl rfl ?hr ?_; (case hr => first | (go_simp; done) | (go_simp; rfl)); intro wr hw; have n0_ := Aside0.mk (show ArrAt wr B (T.set (a * 31 + b) ((a : Int) * b)) by rw [hw]; exact arr_set HA1.out _ _); have n1_ := Aside0.mk (by rw [hw]; exact HB.out.setCell GB.out _ : Below w.heap.size w wr); clear HA1 HB hw; have HA1 := n0_; have HB := n1_; clear n0_ n1_; ))
            have n0_ := Aside0.mk (HD.out.set (by omega) (by have := BA.out; omega) ((a : Int) * b))
            have n1_ : Aside0 ((T.set (a * 31 + b) ((a : Int) * b)).getD (a * 31 + b) 0 = VA a b 0) := ⟨by
              rw [getD_set_same _ _ _ (by have := HA1.out.2; rw [List.length_set] at this; rw [this]; have := BA.out; omega)]
              show (a : Int) * b = if a = b then 1 else (a : Int) * b
              rw [if_neg CAB.out]⟩
            generalize T.set (a * 31 + b) ((a : Int) * b) = T2 at HA1 n0_ n1_
            clear HD CAB c7b0 hx hf c6
            have HD := n0_
            have HV := n1_
            clear n0_ n1_
            clear p1 p2 p3 p4 ew
            go_loopg [8] (a - 1) (fun kq v8 w' => ∃ (c : Nat) (T : List Int), v8 = .int .i64 (c : Int) ∧ Aside0 (kq + c = a) ∧ Aside0 (1 ≤ c) ∧ Aside0 (ArrAt w' B T) ∧ Aside0 (Done W H T a b) ∧ Aside0 (T.getD (a * 31 + b) 0 = VA a b (c - 1)) ∧ Aside0 (Below w.heap.size w w'))
            case atStart => exact ⟨1, _, rfl, ⟨by have := BA.out; omega⟩, ⟨Nat.le_refl _⟩, HA1, HD, HV, HB⟩
            case round =>
              clear HA1 HD HV HB
              obtain ⟨c, T, rfl, HK3, Hc1, HA1, HD, HV, HB⟩ := hrel
              by_cases c8 : (c : Int) < (a : Int)
              · have hc1 := Hc1.out
                have hba := BA.out
                obtain ⟨k3, rfl⟩ : ∃ q, gk = q + 1 := ⟨gk - 1, by have := HK3.out; omega⟩
                have CC := Aside0.mk (show 1 ≤ c ∧ c < a by omega)
                have hx := (arr_cell HA1.out (a * 31 + b) (by omega)).trans (by rw [HV.out])
                have hx2 := (arr_cell HA1.out (c * 31 + b) (by omega)).trans (by rw [HD.out _ _ (by omega) (by omega) (by omega) (by omega) (by omega)] : _ = some (Value.int .i64 (V c b)))
                obtain ⟨d, hd⟩ : ∃ d, d = a - c := ⟨_, rfl⟩
                have hx3 := (arr_cell HA1.out (d * 31 + b) (by omega)).trans (by rw [HD.out _ _ (by omega) (by omega) (by omega) (by omega) (by omega)] : _ = some (Value.int .i64 (V d b)))
                have e62 : wrap64 ((a : Int) - (c : Int)) = (d : Int) := by unfold wrap64; omega
                have e62' : IntKind.i64.wrap ((a : Int) - (c : Int)) = (d : Int) := by rw [IntKind.wrap_i64]; omega
                have q1 := eq_true (show (0 : Int) ≤ (a : Int) by omega)
                have q2 := eq_true (show (a : Int) < 31 by omega)
                have q3 := eq_true (show (0 : Int) ≤ (b : Int) by omega)
                have q4 := eq_true (show (b : Int) < 31 by omega)
                have q5 := eq_true (show (0 : Int) ≤ (c : Int) by omega)
                have q6 := eq_true (show (c : Int) < 31 by omega)
                have q7 := eq_true (show (0 : Int) ≤ (d : Int) by omega)
                have q8 := eq_true (show (d : Int) < 31 by omega)
                have e67 : wrap64 ((V c b) + (V d b)) = (V c b) + (V d b) := by
                  have z1 : 1 ≤ V c b ∧ V c b ≤ 900 := V_ok _ _ (by omega) (by omega) (by omega) (by omega)
                  have z2 : 1 ≤ V d b ∧ V d b ≤ 900 := V_ok _ _ (by omega) (by omega) (by omega) (by omega)
                  unfold wrap64; omega
                have e67' : IntKind.i64.wrap ((V c b) + (V d b)) = (V c b) + (V d b) := (by rw [IntKind.wrap_i64]; have z := e67; unfold wrap64 at z; exact z)
                have e68 : (if (V c b) + (V d b) < VA a b (c - 1) then (V c b) + (V d b) else VA a b (c - 1)) = VA a b c := by
                  obtain ⟨m, rfl⟩ : ∃ m, c = m + 1 := ⟨c - 1, by omega⟩
                  show _ = min (VA a b m) (V (m + 1) b + V (a - (m + 1)) b)
                  subst hd
                  rw [Nat.add_sub_cancel]
                  split <;> omega
                clear hc1 hba
                generalize V c b = y2 at hx2 e67 e67' e68
                clear hd
                generalize V d b = y3 at hx3 e67 e67' e68
                have hf := arr_frozen HA1.out (a * 31 + b)
                go_wp2
                go_still_tail 22, (by kernel_rfl)
                change wpList _ _ _ _ _ wr.drew
                generalize hq_ : wr.drew = wr2
                have n0_ : Aside0 (ArrAt wr2 B T) := ⟨by rw [← hq_]; exact HA1.out⟩
                have n1_ : Aside0 (Below w.heap.size w wr2) := ⟨by rw [← hq_]; exact HB.out.drew⟩
                clear hq_ HA1 HB hx hf
                have HA1 := n0_
                have HB := n1_
                clear n0_ n1_
                have hf := arr_frozen HA1.out (a * 31 + b)
                have hx := arr_cell HA1.out (a * 31 + b) (by have := BA.out; omega)
                go_wp2_with (first | ((with_reducible refine gate_store (t := 3) (p := 70) rfl ?_); refine store_event (by rfl) (t := 3) (p := 70) (v := .tmp 68) (w1 := wr2.setCell ⟨B, a * 31 + b, none⟩ (.int .i64 (VA a b c))) rfl rfl ?hr ?_; (case hr => first | (go_simp; done) | (go_simp; rfl)); intro wr2 hw; have n0_ := Aside0.mk (show ArrAt wr2 B (T.set (a * 31 + b) (VA a b c)) by rw [hw]; exact arr_set HA1.out _ _); have n1_ := Aside0.mk (by rw [hw]; exact HB.out.setCell GB.out _ : Below w.heap.size w wr2); clear HA1 HB hw; have HA1 := n0_; have HB := n1_; clear n0_ n1_; ))
                go_roundg k3
                case measure => omega
                case rel => exact ⟨c + 1, _, (congrArg (Value.int .i64) (by have := CC.out; have := BA.out; first | omega | (unfold wrap64; omega))), ⟨by have := HK3.out; omega⟩, ⟨by omega⟩, HA1, ⟨HD.out.set (by omega) (by have := BA.out; omega) _⟩, ⟨by rw [getD_set_same _ _ _ (by have := HA1.out.2; rw [List.length_set] at this; rw [this]; have := BA.out; omega)]; rfl⟩, HB⟩
              · have c8b0 : decide ((c : Int) < (a : Int)) = false := decide_eq_false c8
                have hce : c = a := by have := HK3.out; omega
                have HV' := Aside0.mk (show T.getD (a * 31 + b) 0 = VA a b (a - 1) by rw [HV.out, hce])
                clear HV hce Hc1
                have HV := HV'
                clear HV'
                go_wp2
                clear c8 c8b0 HK3
                go_loopg [9] (b - 1) (fun kq v9 w' => ∃ (c : Nat) (T : List Int), v9 = .int .i64 (c : Int) ∧ Aside0 (kq + c = b) ∧ Aside0 (1 ≤ c) ∧ Aside0 (ArrAt w' B T) ∧ Aside0 (Done W H T a b) ∧ Aside0 (T.getD (a * 31 + b) 0 = VB a b (c - 1)) ∧ Aside0 (Below w.heap.size w w'))
                case atStart => exact ⟨1, _, rfl, ⟨by have := BA.out; omega⟩, ⟨Nat.le_refl _⟩, HA1, HD, HV, HB⟩
                case round =>
                  clear HA1 HD HV HB
                  obtain ⟨c, T, rfl, HK3, Hc1, HA1, HD, HV, HB⟩ := hrel
                  by_cases c8 : (c : Int) < (b : Int)
                  · have hc1 := Hc1.out
                    have hba := BA.out
                    obtain ⟨k3, rfl⟩ : ∃ q, gk = q + 1 := ⟨gk - 1, by have := HK3.out; omega⟩
                    have CC := Aside0.mk (show 1 ≤ c ∧ c < b by omega)
                    have hx := (arr_cell HA1.out (a * 31 + b) (by omega)).trans (by rw [HV.out])
                    have hx2 := (arr_cell HA1.out (a * 31 + c) (by omega)).trans (by rw [HD.out _ _ (by omega) (by omega) (by omega) (by omega) (by omega)] : _ = some (Value.int .i64 (V a c)))
                    obtain ⟨d, hd⟩ : ∃ d, d = b - c := ⟨_, rfl⟩
                    have hx3 := (arr_cell HA1.out (a * 31 + d) (by omega)).trans (by rw [HD.out _ _ (by omega) (by omega) (by omega) (by omega) (by omega)] : _ = some (Value.int .i64 (V a d)))
                    have e62 : wrap64 ((b : Int) - (c : Int)) = (d : Int) := by unfold wrap64; omega
                    have e62' : IntKind.i64.wrap ((b : Int) - (c : Int)) = (d : Int) := by rw [IntKind.wrap_i64]; omega
                    have q1 := eq_true (show (0 : Int) ≤ (a : Int) by omega)
                    have q2 := eq_true (show (a : Int) < 31 by omega)
                    have q3 := eq_true (show (0 : Int) ≤ (b : Int) by omega)
                    have q4 := eq_true (show (b : Int) < 31 by omega)
                    have q5 := eq_true (show (0 : Int) ≤ (c : Int) by omega)
                    have q6 := eq_true (show (c : Int) < 31 by omega)
                    have q7 := eq_true (show (0 : Int) ≤ (d : Int) by omega)
                    have q8 := eq_true (show (d : Int) < 31 by omega)
                    have e67 : wrap64 ((V a c) + (V a d)) = (V a c) + (V a d) := by
                      have z1 : 1 ≤ V a c ∧ V a c ≤ 900 := V_ok _ _ (by omega) (by omega) (by omega) (by omega)
                      have z2 : 1 ≤ V a d ∧ V a d ≤ 900 := V_ok _ _ (by omega) (by omega) (by omega) (by omega)
                      unfold wrap64; omega
                    have e67' : IntKind.i64.wrap ((V a c) + (V a d)) = (V a c) + (V a d) := (by rw [IntKind.wrap_i64]; have z := e67; unfold wrap64 at z; exact z)
                    have e68 : (if (V a c) + (V a d) < VB a b (c - 1) then (V a c) + (V a d) else VB a b (c - 1)) = VB a b c := by
                      obtain ⟨m, rfl⟩ : ∃ m, c = m + 1 := ⟨c - 1, by omega⟩
                      show _ = min (VB a b m) (V a (m + 1) + V a (b - (m + 1)))
                      subst hd
                      rw [Nat.add_sub_cancel]
                      split <;> omega
                    clear hc1 hba
                    generalize V a c = y2 at hx2 e67 e67' e68
                    clear hd
                    generalize V a d = y3 at hx3 e67 e67' e68
                    have hf := arr_frozen HA1.out (a * 31 + b)
                    go_wp2
                    go_still_tail 22, (by kernel_rfl)
                    change wpList _ _ _ _ _ wr.drew
                    generalize hq_ : wr.drew = wr2
                    have n0_ : Aside0 (ArrAt wr2 B T) := ⟨by rw [← hq_]; exact HA1.out⟩
                    have n1_ : Aside0 (Below w.heap.size w wr2) := ⟨by rw [← hq_]; exact HB.out.drew⟩
                    clear hq_ HA1 HB hx hf
                    have HA1 := n0_
                    have HB := n1_
                    clear n0_ n1_
                    have hf := arr_frozen HA1.out (a * 31 + b)
                    have hx := arr_cell HA1.out (a * 31 + b) (by have := BA.out; omega)
                    go_wp2_with (first | ((with_reducible refine gate_store (t := 3) (p := 98) rfl ?_); refine store_event (by rfl) (t := 3) (p := 98) (v := .tmp 96) (w1 := wr2.setCell ⟨B, a * 31 + b, none⟩ (.int .i64 (VB a b c))) rfl rfl ?hr ?_; (case hr => first | (go_simp; done) | (go_simp; rfl)); intro wr2 hw; have n0_ := Aside0.mk (show ArrAt wr2 B (T.set (a * 31 + b) (VB a b c)) by rw [hw]; exact arr_set HA1.out _ _); have n1_ := Aside0.mk (by rw [hw]; exact HB.out.setCell GB.out _ : Below w.heap.size w wr2); clear HA1 HB hw; have HA1 := n0_; have HB := n1_; clear n0_ n1_; ))
                    go_roundg k3
                    case measure => omega
                    case rel => exact ⟨c + 1, _, (congrArg (Value.int .i64) (by have := CC.out; have := BA.out; first | omega | (unfold wrap64; omega))), ⟨by have := HK3.out; omega⟩, ⟨by omega⟩, HA1, ⟨HD.out.set (by omega) (by have := BA.out; omega) _⟩, ⟨by rw [getD_set_same _ _ _ (by have := HA1.out.2; rw [List.length_set] at this; rw [this]; have := BA.out; omega)]; rfl⟩, HB⟩
                  · have c8b0 : decide ((c : Int) < (b : Int)) = false := decide_eq_false c8
                    have hce : c = b := by have := HK3.out; omega
                    have HV' := Aside0.mk (show T.getD (a * 31 + b) 0 = VB a b (b - 1) by rw [HV.out, hce])
                    clear HV hce Hc1
                    have HV := HV'
                    clear HV'
                    go_wp2
                    go_roundg k2
                    case measure => omega
                    case rel => exact ⟨b + 1, _, (congrArg (Value.int .i64) (by have := BA.out; first | omega | (unfold wrap64; omega))), ⟨by have := HK2.out; omega⟩, ⟨by omega⟩, HA1, ⟨HD.out.next (by rw [HV.out]; exact (V_eq a b (by have := BA.out; omega) (by have := BA.out; omega)).symm)⟩, HB⟩
        · have c6b0 : decide ((b : Int) ≤ (H : Int)) = false := decide_eq_false c6
          have hbe : b = H + 1 := by have := HK2.out; omega
          have n0_ := Aside0.mk (Done.row (hbe ▸ HD.out))
          clear hbe HD
          go_wp2
          go_roundg k1
          case measure => omega
          case rel => exact ⟨a + 1, _, (congrArg (Value.int .i64) (by have := HAW.out; first | omega | (unfold wrap64; omega))), ⟨by have := HK1.out; omega⟩, ⟨by omega⟩, HA1, n0_, HB⟩
    · have c5b0 : decide ((a : Int) ≤ (W : Int)) = false := decide_eq_false c5
      have hae : a = W + 1 := by have := HK1.out; omega
      have hx := (arr_cell HA1.out (W * 31 + H) (by omega)).trans (by rw [HD.out W H hW1 (Nat.le_refl _) hH1 (Nat.le_refl _) (by omega)] : _ = some (Value.int .i64 (V W H)))
      have q1 := eq_true (show (0 : Int) ≤ (W : Int) by omega)
      have q2 := eq_true (show (W : Int) < 31 by omega)
      have q3 := eq_true (show (0 : Int) ≤ (H : Int) by omega)
      have q4 := eq_true (show (H : Int) < 31 by omega)
      clear hae
      go_wp2
      go_ret
      exact ⟨rfl, HB.out⟩

theorem impl_FewestSquares.out0 (a0 a1 : Int) (w : World) (h1 : impl_within.f a0 1 30 = some false) :
    Calls Try.prog 16 #[.int .i64 a0, .int .i64 a1] w fun e w' => e = .returned (.int .i64 (-1)) ∧ Below w.heap.size w w' := by
  have A1 := Aside0.mk h1
  clear h1
  have HB := Aside0.mk (Below.refl w.heap.size w)
  go_enter Try.func16, Try.ntmps16
  go_wp2_with (first | ((with_reducible refine gate_callee (f := 29) rfl ?_); refine goesL_ (some 11) rfl rfl Try.func29 (by kernel_rfl) rfl #[.int .i64 a0, .int .i64 1, .int .i64 30] rfl (by (try simp only [List.map_toArray, List.map_cons, List.map_nil]); first | done | rfl) ?_; (refine (impl_within.calls a0 1 30 false _ A1.out).mono ?_); rintro e w1 ⟨rfl, hb⟩; refine ⟨_, rfl, ?_⟩; have n0_ := Aside0.mk (below_step HB.out hb.below); clear HB hb; have HB := n0_; clear n0_))
  go_ret
  exact ⟨rfl, HB.out⟩
theorem impl_FewestSquares.out1 (a0 a1 : Int) (w : World) (h1 : impl_within.f a0 1 30 = some true) (h2 : impl_within.f a1 1 30 = some false) :
    Calls Try.prog 16 #[.int .i64 a0, .int .i64 a1] w fun e w' => e = .returned (.int .i64 (-1)) ∧ Below w.heap.size w w' := by
  have A1 := Aside0.mk h1
  have A2 := Aside0.mk h2
  clear h1 h2
  have HB := Aside0.mk (Below.refl w.heap.size w)
  go_enter Try.func16, Try.ntmps16
  go_wp2_with (first | ((with_reducible refine gate_callee (f := 29) rfl ?_); (refine gate_guard (by rfl) ?_; dsimp only); refine goesL_ (some 15) rfl rfl Try.func29 (by kernel_rfl) rfl #[.int .i64 a1, .int .i64 1, .int .i64 30] rfl (by (try simp only [List.map_toArray, List.map_cons, List.map_nil]); first | done | rfl) ?_; (refine (impl_within.calls a1 1 30 false _ A2.out).mono ?_); rintro e w2 ⟨rfl, hb⟩; refine ⟨_, rfl, ?_⟩; have n0_ := Aside0.mk (below_step HB.out hb.below); clear HB hb; have HB := n0_; clear n0_) | ((with_reducible refine gate_callee (f := 29) rfl ?_); refine goesL_ (some 11) rfl rfl Try.func29 (by kernel_rfl) rfl #[.int .i64 a0, .int .i64 1, .int .i64 30] rfl (by (try simp only [List.map_toArray, List.map_cons, List.map_nil]); first | done | rfl) ?_; (refine (impl_within.calls a0 1 30 true _ A1.out).mono ?_); rintro e w1 ⟨rfl, hb⟩; refine ⟨_, rfl, ?_⟩; have n0_ := Aside0.mk (below_step HB.out hb.below); clear HB hb; have HB := n0_; clear n0_))
  go_ret
  exact ⟨rfl, HB.out⟩
/-! ### impl_FewestSquares: function 16 -/
def impl_FewestSquares.f (a0 : Int) (a1 : Int) : Option (Int) := if 1 ≤ a0 ∧ a0 ≤ 30 ∧ 1 ≤ a1 ∧ a1 ≤ 30 then (some (V a0.toNat a1.toNat)) else (some (-1))
theorem impl_FewestSquares.calls (a0 : Int) (a1 : Int) (r : Int) (w : World) (h : impl_FewestSquares.f a0 a1 = some r) :
    Calls Try.prog 16 #[.int .i64 a0, .int .i64 a1] w fun e w' => e = .returned (.int .i64 r) ∧ Below w.heap.size w w' := by
  have hin : ∀ n : Int, impl_within.f n 1 30 = some (decide (1 ≤ n ∧ n ≤ 30)) := fun n => by unfold impl_within.f; split <;> simp <;> omega
  unfold impl_FewestSquares.f at h
  by_cases c : 1 ≤ a0 ∧ a0 ≤ 30 ∧ 1 ≤ a1 ∧ a1 ≤ 30
  · rw [if_pos c] at h
    obtain rfl := Option.some.inj h
    obtain ⟨W, rfl⟩ := Int.eq_ofNat_of_zero_le (show 0 ≤ a0 by omega)
    obtain ⟨H, rfl⟩ := Int.eq_ofNat_of_zero_le (show 0 ≤ a1 by omega)
    exact impl_FewestSquares.main W H (by omega) (by omega) (by omega) (by omega) w ((hin _).trans (congrArg some (decide_eq_true (by omega)))) ((hin _).trans (congrArg some (decide_eq_true (by omega))))
  · rw [if_neg c] at h
    obtain rfl := Option.some.inj h
    by_cases c0 : 1 ≤ a0 ∧ a0 ≤ 30
    · exact impl_FewestSquares.out1 a0 a1 w ((hin _).trans (congrArg some (decide_eq_true c0))) ((hin _).trans (congrArg some (decide_eq_false (by omega))))
    · exact impl_FewestSquares.out0 a0 a1 w ((hin _).trans (congrArg some (decide_eq_false c0)))

/-! ### laws_FnExactFewestSquares: function 5 -/
def laws_FnExactFewestSquares.f (k : Nat) (a0 : Int) (a1 : Int) : Option (Bool) := (spec_FewestSquares.f k a0 a1).bind fun t112 => ((impl_FewestSquares.f a0 a1).bind fun t113 => (if t113 = t112 then (some true) else (some false)))
theorem laws_FnExactFewestSquares.mono : ∀ a0 a1 k, LeO (laws_FnExactFewestSquares.f k a0 a1) (laws_FnExactFewestSquares.f (k + 1) a0 a1) := by
  intro a0 a1 k
  unfold laws_FnExactFewestSquares.f
  repeat' first
      | (with_reducible exact spec_FewestSquares.mono _ _ _)
      | (with_reducible exact LeO.refl _)
      | (with_reducible exact LeO.none _)
      | (with_reducible refine LeO.ite ?_ ?_)
      | (with_reducible refine LeO.bind ?_ (fun _ => ?_))
      | exact spec_FewestSquares.mono _ _ _
      | exact LeO.none _
      | refine LeO.ite ?_ ?_
      | refine LeO.bind ?_ (fun _ => ?_)
set_option maxHeartbeats 8000000 in
set_option maxRecDepth 100000 in
theorem laws_FnExactFewestSquares.calls (k : Nat) (a0 : Int) (a1 : Int) (r : Bool) (w : World) (h : laws_FnExactFewestSquares.f k a0 a1 = some r) :
    Calls Try.prog 5 #[.int .i64 a0, .int .i64 a1] w fun e w' => e = .returned (.bool r) ∧ Below w.heap.size w w' := by
  have HB := Aside0.mk (Below.refl w.heap.size w)
  have H : ((spec_FewestSquares.f k a0 a1).bind fun t112 => ((impl_FewestSquares.f a0 a1).bind fun t113 => (if t113 = t112 then (some true) else (some false)))) = some r := h
  clear h
  replace H := Option.bind_eq_some_iff.mp H
  obtain ⟨t112, A30, H⟩ := H
  replace H : ((impl_FewestSquares.f a0 a1).bind fun t113 => (if t113 = t112 then (some true) else (some false))) = some r := H
  have A3 := Aside0.mk A30
  clear A30
  replace H := Option.bind_eq_some_iff.mp H
  obtain ⟨t113, A40, H⟩ := H
  replace H : (if t113 = t112 then (some true) else (some false)) = some r := H
  have A4 := Aside0.mk A40
  clear A40
  by_cases c5 : t113 = t112
  · rw [if_pos c5] at H
    have c5b0 : (t113 == t112) = true := beq_iff_eq.mpr c5
    have c5b1 : (t113 != t112) = false := bne_eq_false_iff_eq.mpr c5
    clear c5
    obtain rfl := Option.some.inj H
    go_enter Try.func5, Try.ntmps5
    go_wp2_with (first | ((with_reducible refine gate_callee (f := 15) rfl ?_); refine goesL_ (some 9) rfl rfl Try.func15 (by kernel_rfl) rfl #[.int .i64 a0, .int .i64 a1] rfl (by (try simp only [List.map_toArray, List.map_cons, List.map_nil]); first | done | rfl | (simp only [List.length_drop, List.length_take]; rfl)) ?_; (with_reducible refine (spec_FewestSquares.calls k a0 a1 t112 _ A3.out).mono ?_); rintro e w6 ⟨rfl, hb⟩; refine ⟨_, rfl, ?_⟩; have n0_ := Aside0.mk (below_step (by repeat (first | (with_reducible first | exact HB.out | apply below_alloc | apply pw_below_drewN | apply below_drew1) | exact HB.out)) hb); clear HB; have HB := n0_; clear n0_; (try clear hb); (try clear hb2); (try clear hk); (try clear hi)) | ((with_reducible refine gate_callee (f := 16) rfl ?_); refine goesL_ (some 12) rfl rfl Try.func16 (by kernel_rfl) rfl #[.int .i64 a0, .int .i64 a1] rfl (by (try simp only [List.map_toArray, List.map_cons, List.map_nil]); first | done | rfl | (simp only [List.length_drop, List.length_take]; rfl)) ?_; (with_reducible refine (impl_FewestSquares.calls a0 a1 t113 _ A4.out).mono ?_); rintro e w7 ⟨rfl, hb⟩; refine ⟨_, rfl, ?_⟩; have n0_ := Aside0.mk (below_step (by repeat (first | (with_reducible first | exact HB.out | apply below_alloc | apply pw_below_drewN | apply below_drew1) | exact HB.out)) hb); clear HB; have HB := n0_; clear n0_; (try clear hb); (try clear hb2); (try clear hk); (try clear hi)))
    go_ret
    exact ⟨by first | rfl | (simp [errW_none, errW_some] <;> rfl) | (simp [*, errW_none, errW_some] <;> rfl), by repeat (first | (with_reducible first | exact HB.out | apply below_alloc | apply pw_below_drewN | apply below_drew1) | exact HB.out)⟩
  · rw [if_neg c5] at H
    have c5b0 : (t113 == t112) = false := beq_eq_false_iff_ne.mpr c5
    have c5b1 : (t113 != t112) = true := bne_iff_ne.mpr c5
    obtain rfl := Option.some.inj H
    go_enter Try.func5, Try.ntmps5
    go_wp2_with (first | ((with_reducible refine gate_callee (f := 15) rfl ?_); refine goesL_ (some 9) rfl rfl Try.func15 (by kernel_rfl) rfl #[.int .i64 a0, .int .i64 a1] rfl (by (try simp only [List.map_toArray, List.map_cons, List.map_nil]); first | done | rfl | (simp only [List.length_drop, List.length_take]; rfl)) ?_; (with_reducible refine (spec_FewestSquares.calls k a0 a1 t112 _ A3.out).mono ?_); rintro e w8 ⟨rfl, hb⟩; refine ⟨_, rfl, ?_⟩; have n0_ := Aside0.mk (below_step (by repeat (first | (with_reducible first | exact HB.out | apply below_alloc | apply pw_below_drewN | apply below_drew1) | exact HB.out)) hb); clear HB; have HB := n0_; clear n0_; (try clear hb); (try clear hb2); (try clear hk); (try clear hi)) | ((with_reducible refine gate_callee (f := 16) rfl ?_); refine goesL_ (some 12) rfl rfl Try.func16 (by kernel_rfl) rfl #[.int .i64 a0, .int .i64 a1] rfl (by (try simp only [List.map_toArray, List.map_cons, List.map_nil]); first | done | rfl | (simp only [List.length_drop, List.length_take]; rfl)) ?_; (with_reducible refine (impl_FewestSquares.calls a0 a1 t113 _ A4.out).mono ?_); rintro e w9 ⟨rfl, hb⟩; refine ⟨_, rfl, ?_⟩; have n0_ := Aside0.mk (below_step (by repeat (first | (with_reducible first | exact HB.out | apply below_alloc | apply pw_below_drewN | apply below_drew1) | exact HB.out)) hb); clear HB; have HB := n0_; clear n0_; (try clear hb); (try clear hb2); (try clear hk); (try clear hi)))
    go_ret
    exact ⟨by first | rfl | (simp [errW_none, errW_some] <;> rfl) | (simp [*, errW_none, errW_some] <;> rfl), by repeat (first | (with_reducible first | exact HB.out | apply below_alloc | apply pw_below_drewN | apply below_drew1) | exact HB.out)⟩

/-- THE ONE PURE STATEMENT of laws_FnExactFewestSquares: yours. -/
def laws_FnExactFewestSquares.Pure : Prop := ∀ (a0 : Int) (a1 : Int), (Lit.int .i64 a0).wf = true → (Lit.int .i64 a1).wf = true → ∃ k, laws_FnExactFewestSquares.f k a0 a1 = some true
theorem laws_FnExactFewestSquares.walk (P : laws_FnExactFewestSquares.Pure) (a0 : Int) (a1 : Int) (w : World) (w0 : (Lit.int .i64 a0).wf = true) (w1 : (Lit.int .i64 a1).wf = true) :
    Calls Try.prog 5 #[.int .i64 a0, .int .i64 a1] w fun e w' => e = .returned (.bool true) ∧ Below w.heap.size w w' := by
  obtain ⟨k, h⟩ := P a0 a1 w0 w1
  refine (laws_FnExactFewestSquares.calls k a0 a1 true w h).mono ?_
  rintro e w' ⟨rfl, hd⟩
  exact ⟨rfl, hd⟩

end Go.Proofs.Ytkhdhefjpapokaa.QFnExactFewestSquares
