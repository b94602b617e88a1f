/- MeasuresOf of the program and of the reference answer alike, for all lists of points; the rows handed back are marked, and hold their marks. -/
import Derived.Test.YtadenfniiihifaaQFnExactMeasuresOfx15
namespace Go.Proofs.Ytadenfniiihifaa.Pure
open Go.RowKit Go.Proofs.Ytadenfniiihifaa.QFnExactMeasuresOf Go.Proofs.YtadenfniiihifaaW.PrintWords Go.Proofs.YtadenfniiihifaaW.PrintLast Go.Proofs.YtadenfniiihifaaW.PrintMore
set_option linter.unusedVariables false
set_option linter.unusedSimpArgs false

/- Eventually: with enough rounds the answer is r. -/
theorem ev_now {α:Type} (r:α):Ev (fun _=>some r) r:=Ev.now r
theorem ev_shift {α:Type} {g:Nat→Option α} {r:α} (h:Ev (fun k=>g (k+1)) r):Ev g r:=by
  obtain ⟨K,hK⟩:=h
  exact ⟨K+1,fun k hk=>by
    obtain ⟨m,rfl⟩ : ∃ m,k=m+1:=⟨k - 1,by omega⟩
    exact hK m (by omega)⟩
theorem ev_bind {α β:Type} {g:Nat→Option α} {f:Nat→α→Option β} {a:α} {r:β} (h:Ev g a) (k:Ev (fun n=>f n a) r):Ev (fun n=>(g n).bind (f n)) r:=Ev.bind h k
theorem ev_bind0 {α β:Type} {o:Option α} {f:Nat→α→Option β} {a:α} {r:β} (h:o=some a) (k:Ev (fun n=>f n a) r):Ev (fun n=>o.bind (f n)) r:=by
  subst h;exact k
theorem ev_pos {α:Type} {A B:Nat→Option α} {r:α} {c:Prop} [Decidable c] (h:c) (k:Ev A r):Ev (fun n=>if c then A n else B n) r:=by
  simpa only [if_pos h] using k
theorem ev_neg {α:Type} {A B:Nat→Option α} {r:α} {c:Prop} [Decidable c] (h:¬ c) (k:Ev B r):Ev (fun n=>if c then A n else B n) r:=by
  simpa only [if_neg h] using k
theorem ev_eq {α:Type} {g:Nat→Option α} {r r':α} (h:Ev g r) (e:r=r'):Ev g r':=e ▸ h
theorem ev_rounds {α:Type} {g:Nat→Option α} {r:α} (h:Ev g r):∃ k,g k=some r:=Ev.rounds h
theorem ev_uniq {α:Type} {g:Nat→Option α} {r r':α} (h:Ev g r) (h':Ev g r'):r=r':=by
  obtain ⟨K,hK⟩:=h
  obtain ⟨K',hK'⟩:=h'
  have a:=hK (max K K') (Nat.le_max_left _ _)
  have b:=hK' (max K K') (Nat.le_max_right _ _)
  rw [a] at b
  exact Option.some.inj b
theorem w64 {n:Int} (h : -9223372036854775808≤n) (h':n≤9223372036854775807):wrap64 n=n:=by
  unfold wrap64;omega
theorem wsucc (a:Nat) (h:a < 1000000000000):wrap64 ((a:Int)+1)=((a+1:Nat):Int):=by
  rw [w64 (by omega) (by omega)];omega
theorem wsmall (n:Int) (h : -1000000000000≤n∧n≤1000000000000):wrap64 n=n:=w64 (by omega) (by omega)
theorem gcd_loop (y:Nat):∀ x:Nat,Ev (fun k=>spec_l02Gcd.l0 k (x:Int) (y:Int)) ((Nat.gcd x y:Nat):Int):=by
  induction y using Nat.strongRecOn with
  | _ y ih =>
    intro x
    refine ev_shift ?_
    simp only [spec_l02Gcd.l0]
    by_cases h:y=0
    · subst h
      exact ev_neg (by omega) (ev_eq (ev_now _) (by rw [Nat.gcd_zero_right]))
    · refine ev_pos (by omega) (ev_neg (by omega) ?_)
      have hlt:=Nat.mod_lt x (Nat.pos_of_ne_zero h)
      have g:=ih (x % y) hlt y
      rw [show Int.tmod (x:Int) (y:Int)=((x % y:Nat):Int) from rfl]
      rw [show Nat.gcd x y=Nat.gcd y (x % y) from by rw [Nat.gcd_comm x y,Nat.gcd_rec y x,Nat.gcd_comm]]
      exact g
theorem gcd_ev (a b:Int) (ha : -1000000≤a∧a≤1000000) (hb : -1000000≤b∧b≤1000000):Ev (fun k=>spec_l02Gcd.f k a b) ((Nat.gcd a.natAbs b.natAbs:Nat):Int):=by
  unfold spec_l02Gcd.f
  have e:∀ z:Int,-1000000≤z∧z≤1000000→mx z (wrap64 (-z))=((z.natAbs:Nat):Int):=fun z hz=>by
    rw [wsmall _ (by omega)]
    unfold mx
    split <;> omega
  rw [e a ha,e b hb]
  exact gcd_loop _ _
theorem common_loop (n:Nat):∀ (y x:Int),y.natAbs=n→-1000000≤x∧x≤1000000→-1000000≤y∧y≤1000000→Ev (fun k=>impl_common.l0 k x y) ((Nat.gcd x.natAbs n:Nat):Int):=by
  induction n using Nat.strongRecOn with
  | _ n ih =>
    intro y x hn hx hy
    refine ev_shift ?_
    simp only [impl_common.l0]
    by_cases h:y=0
    · have h0:n=0:=by omega
      subst h0
      refine ev_pos h (ev_eq (ev_now _) ?_)
      rw [Nat.gcd_zero_right,wsmall _ (by omega)]
      unfold mx
      split <;> omega
    · refine ev_neg h ?_
      have hp:0 < n:=by omega
      have hlt:=Nat.mod_lt x.natAbs hp
      have ht:(Int.tmod x y).natAbs=x.natAbs % n:=by rw [Int.natAbs_tmod,hn]
      have g:=ih (x.natAbs % n) hlt (Int.tmod x y) y ht hy (by omega)
      rw [hn] at g
      rw [show Nat.gcd x.natAbs n=Nat.gcd n (x.natAbs % n) from by rw [Nat.gcd_comm x.natAbs n,Nat.gcd_rec n x.natAbs,Nat.gcd_comm]]
      exact g
theorem common_ev (x y:Int) (hx : -1000000≤x∧x≤1000000) (hy : -1000000≤y∧y≤1000000):Ev (fun k=>impl_common.f k x y) ((Nat.gcd x.natAbs y.natAbs:Nat):Int):=common_loop _ y x rfl hx hy
/-- The direction of a difference that is not 0, and how many steps along it (negative: against it). -/
def dirS (x y:Int):Int:=if y < 0∨(y=0∧x < 0) then -1 else 1
def dirG (x y:Int):Int:=((Nat.gcd x.natAbs y.natAbs:Nat):Int)
def dirOf (x y:Int):Int × Int × Int:=(dirS x y * Int.tdiv x (dirG x y),dirS x y * Int.tdiv y (dirG x y),dirS x y * dirG x y)
theorem before_enc (a m:Int × Int × Int):spec_l07Before.f (enc3 a) (enc3 m)=some (decide (mLt a m)):=by
  unfold spec_l07Before.f enc3
  simp only [List.length_cons,List.length_nil]
  rw [if_pos (by omega),if_pos (by omega)]
  have r0:rd [a.1,a.2.1,a.2.2] 0=a.1:=rfl
  have r1:rd [a.1,a.2.1,a.2.2] 1=a.2.1:=rfl
  have s0:rd [m.1,m.2.1,m.2.2] 0=m.1:=rfl
  have s1:rd [m.1,m.2.1,m.2.2] 1=m.2.1:=rfl
  rw [r0,r1,s0,s1]
  by_cases c:a.2.1 < m.2.1
  · rw [if_pos c]
    congr 1
    symm
    exact decide_eq_true (.inl c)
  · rw [if_neg c]
    by_cases d:a.2.1=m.2.1
    · rw [if_pos d,if_pos (by omega),if_pos (by omega)]
      congr 1
      by_cases e:a.1 < m.1
      · rw [decide_eq_true e]
        symm
        exact decide_eq_true (.inr ⟨d,e⟩)
      · rw [decide_eq_false e]
        symm
        exact decide_eq_false (fun z=>by unfold mLt at z;omega)
    · rw [if_neg d]
      congr 1
      symm
      exact decide_eq_false (fun z=>by unfold mLt at z;omega)
theorem mPut_skip (m:Int × Int × Int) (suf:List (Int × Int × Int)) (h:∀ a r,suf=a :: r→¬ mLt a m):mPut m suf=(match suf with
    | []=>if m.2.2=0 then [] else [m]
    | a :: r=>if a.1=m.1∧a.2.1=m.2.1 then (if m.2.2+a.2.2=0 then r else (m.1,m.2.1,m.2.2+a.2.2) :: r) else (if m.2.2=0 then a :: r else m :: a :: r)):=by
  cases suf with
  | nil=>rfl
  | cons a r=>show (if mLt a m then _ else _)=_;rw [if_neg (h a r rfl)]
theorem put_from (l:List (Int × Int × Int)) (m:Int × Int × Int) (hl:l.length≤1000000) (hb:∀ a ∈ l,-1000000≤a.2.2∧a.2.2≤1000000) (hm : -1000000≤m.2.2∧m.2.2≤1000000):∀ (suf pre:List (Int × Int × Int)),l=pre++suf →
    Ev (fun k=>spec_l07Put.l0 k (l.map enc3) (enc3 m) (pre.length:Int)) ((pre++mPut m suf).map enc3):=by
  have m0:rd (enc3 m) 0=m.1:=rfl
  have m1:rd (enc3 m) 1=m.2.1:=rfl
  have m2:rd (enc3 m) 2=m.2.2:=rfl
  have ml:((enc3 m).length:Int)=3:=rfl
  have j2f:∀ (suf pre:List (Int × Int × Int)),l=pre++suf→Ev (fun k=>spec_l07Put.j2 k (l.map enc3) (enc3 m) (pre.length:Int) (pre.map enc3) m.2.2 (suf.map enc3) false) ((pre++(if m.2.2=0 then suf else m :: suf)).map enc3):=by
    intro suf pre h
    have hlen:l.length=pre.length+suf.length:=by rw [h];simp
    refine ev_shift ?_
    simp only [spec_l07Put.j2,Bool.false_eq_true,if_false,List.length_map,m0,m1,ml]
    by_cases z:m.2.2=0
    · simp only [if_pos z]
      exact ev_pos (by omega) (ev_eq (ev_now _) (by simp))
    · simp only [if_neg z]
      refine ev_pos (by omega) (ev_pos (by omega) (ev_pos (by omega) ?_))
      simp only [Option.bind_some,List.length_append,List.length_map,List.length_cons,List.length_nil]
      exact ev_pos (by omega) (ev_eq (ev_now _) (by simp [enc3]))
  have j2t:∀ (r pre:List (Int × Int × Int)) (a:Int × Int × Int),l=pre++a :: r→Ev (fun k=>spec_l07Put.j2 k (l.map enc3) (enc3 m) (pre.length:Int) (pre.map enc3) m.2.2 ((a :: r).map enc3) true) ((pre++(if m.2.2+a.2.2=0 then r else (m.1,m.2.1,m.2.2+a.2.2) :: r)).map enc3):=by
    intro r pre a h
    have hlen:l.length=pre.length+(r.length+1):=by rw [h];simp
    have ha:=hb a (by rw [h];simp)
    have hr:rd_L3 (l.map enc3) (pre.length:Int)=enc3 a:=by rw [h];simp [rd_L3,List.getD_eq_getElem?_getD]
    have a2:rd (enc3 a) 2=a.2.2:=rfl
    have al:((enc3 a).length:Int)=3:=rfl
    have w1:wrap64 ((pre.length:Int)+1)=((pre.length+1:Nat):Int):=by rw [wsmall _ (by omega)];omega
    have w2:wrap64 (m.2.2+a.2.2)=m.2.2+a.2.2:=wsmall _ (by omega)
    have dr:(l.map enc3).drop (pre.length+1)=r.map enc3:=by
      rw [h,List.map_append,List.map_cons,show pre.map enc3++enc3 a :: r.map enc3=(pre.map enc3++[enc3 a])++r.map enc3 from by simp,List.drop_left' (by simp)]
    have f1:0≤(pre.length:Int)∧(pre.length:Int) < (l.length:Int)∧0≤((pre.length+1:Nat):Int)∧((pre.length+1:Nat):Int)≤(l.length:Int)∧pre.length+r.length < 5864062014805∧pre.length < 5864062014805∧pre.length+1+r.length < 5864062014805:=by
      clear dr hr w1 w2 h hb
      omega
    refine ev_shift ?_
    simp only [spec_l07Put.j2,if_true,List.length_map,m0,m1,ml,hr,a2,al,w1,w2,Int.toNat_natCast,dr,Option.bind_some]
    refine ev_pos f1.1 (ev_pos f1.2.1 (ev_pos (by decide) (ev_pos f1.2.2.1 (ev_pos f1.2.2.2.1 ?_))))
    by_cases z:m.2.2+a.2.2=0
    · simp only [if_pos z]
      exact ev_pos f1.2.2.2.2.1 (ev_eq (ev_now _) (by simp))
    · simp only [if_neg z]
      refine ev_pos (by decide) (ev_pos (by decide) (ev_pos f1.2.2.2.2.2.1 ?_))
      simp only [List.length_append,List.length_map,List.length_cons,List.length_nil]
      exact ev_pos f1.2.2.2.2.2.2 (ev_eq (ev_now _) (by simp [enc3]))
  have jj:∀ (suf pre:List (Int × Int × Int)),l=pre++suf→(∀ a r,suf=a :: r→¬ mLt a m)→Ev (fun k=>spec_l07Put.j1 k (l.map enc3) (enc3 m) (pre.length:Int)) ((pre++mPut m suf).map enc3):=by
    intro suf pre h hn
    rw [mPut_skip m suf hn]
    have hlen:l.length=pre.length+suf.length:=by rw [h];simp
    have tk:(l.map enc3).take pre.length=pre.map enc3:=by rw [h,List.map_append,List.take_left' (by simp)]
    have dr:(l.map enc3).drop pre.length=suf.map enc3:=by rw [h,List.map_append,List.drop_left' (by simp)]
    refine ev_shift ?_
    simp only [spec_l07Put.j1,Option.bind_some,Int.toNat_natCast,List.nil_append,List.length_nil,List.length_map,tk,dr,m0,m1,m2,ml]
    refine ev_pos (by omega) (ev_pos (by omega) (ev_pos (by omega) (ev_pos (by omega) ?_)))
    cases suf with
    | nil=>exact ev_neg (by simp only [List.length_nil] at hlen;omega) (j2f [] pre h)
    | cons a r =>
      have hr:rd_L3 (l.map enc3) (pre.length:Int)=enc3 a:=by rw [h];simp [rd_L3,List.getD_eq_getElem?_getD]
      have a0:rd (enc3 a) 0=a.1:=rfl
      have a1:rd (enc3 a) 1=a.2.1:=rfl
      have al:((enc3 a).length:Int)=3:=rfl
      simp only [List.length_cons] at hlen
      simp only [hr,a0,a1,al]
      refine ev_pos (by omega) (ev_pos (by omega) (ev_pos (by omega) ?_))
      by_cases c:a.1=m.1
      · refine ev_pos c (ev_pos (by omega) (ev_pos (by omega) ?_))
        by_cases d:a.2.1=m.2.1
        · rw [if_pos ⟨c,d⟩,beq_iff_eq.mpr d]
          exact j2t r pre a h
        · rw [if_neg (fun z=>d z.2),beq_eq_false_iff_ne.mpr d]
          exact j2f (a :: r) pre h
      · rw [if_neg (fun z=>c z.1)]
        exact ev_neg c (j2f (a :: r) pre h)
  intro suf
  induction suf with
  | nil =>
    intro pre h
    refine ev_shift ?_
    simp only [spec_l07Put.l0,List.length_map]
    have hlen:l.length=pre.length:=by rw [h];simp
    exact ev_neg (by omega) (jj [] pre h (fun a r e=>by cases e))
  | cons a r ih =>
    intro pre h
    have hlen:l.length=pre.length+(r.length+1):=by rw [h];simp
    have hr:rd_L3 (l.map enc3) (pre.length:Int)=enc3 a:=by rw [h];simp [rd_L3,List.getD_eq_getElem?_getD]
    refine ev_shift ?_
    simp only [spec_l07Put.l0,List.length_map,hr,before_enc]
    refine ev_pos (by omega) (ev_pos (by omega) ?_)
    simp only [Option.bind_some]
    by_cases c:mLt a m
    · refine ev_pos (decide_eq_true c) ?_
      have g:=ih (pre++[a]) (by rw [h];simp)
      rw [show wrap64 ((pre.length:Int)+1)=((pre++[a]).length:Int) from by rw [wsmall _ (by omega)];simp]
      have e:pre++mPut m (a :: r)=pre++[a]++mPut m r:=by
        show pre++(if mLt a m then _ else _)=_
        rw [if_pos c];simp
      rw [e]
      exact g
    · exact ev_neg (by simpa using c) (jj (a :: r) pre h (fun b s e=>by cases e;exact c))
theorem put_ev (l:List (Int × Int × Int)) (m:Int × Int × Int) (hl:l.length≤1000000) (hb:∀ a ∈ l,-1000000≤a.2.2∧a.2.2≤1000000) (hm : -1000000≤m.2.2∧m.2.2≤1000000):Ev (fun k=>spec_l07Put.f k (l.map enc3) (enc3 m)) ((mPut m l).map enc3):=by
  have h:=put_from l m hl hb hm l [] rfl
  show Ev (fun k=>spec_l07Put.l0 k (l.map enc3) (enc3 m) 0) _
  simpa using h
structure DirOk (x y:Int):Prop where
  g1:1≤dirG x y
  g2:dirG x y≤1000000
  x1:x=dirG x y * Int.tdiv x (dirG x y)
  y1:y=dirG x y * Int.tdiv y (dirG x y)
  x2 : -1000000≤Int.tdiv x (dirG x y)∧Int.tdiv x (dirG x y)≤1000000
  y2 : -1000000≤Int.tdiv y (dirG x y)∧Int.tdiv y (dirG x y)≤1000000
  co:Nat.gcd (Int.tdiv x (dirG x y)).natAbs (Int.tdiv y (dirG x y)).natAbs=1
theorem dir_ok (x y:Int) (hx : -1000000≤x∧x≤1000000) (hy : -1000000≤y∧y≤1000000) (hne:¬ (x=0∧y=0)):DirOk x y:=by
  have hg:0 < Nat.gcd x.natAbs y.natAbs:=by
    rcases Nat.eq_zero_or_pos (Nat.gcd x.natAbs y.natAbs) with h|h
    · have h1:=Nat.eq_zero_of_gcd_eq_zero_left h
      have h2:=Nat.eq_zero_of_gcd_eq_zero_right h
      omega
    · exact h
  have hdx:dirG x y ∣ x:=Int.ofNat_dvd_left.mpr (Nat.gcd_dvd_left _ _)
  have hdy:dirG x y ∣ y:=Int.ofNat_dvd_left.mpr (Nat.gcd_dvd_right _ _)
  have x1:x=dirG x y * Int.tdiv x (dirG x y):=(Int.mul_tdiv_cancel' hdx).symm
  have y1:y=dirG x y * Int.tdiv y (dirG x y):=(Int.mul_tdiv_cancel' hdy).symm
  have qx:(Int.tdiv x (dirG x y)).natAbs=x.natAbs / Nat.gcd x.natAbs y.natAbs:=by rw [Int.natAbs_tdiv];rfl
  have qy:(Int.tdiv y (dirG x y)).natAbs=y.natAbs / Nat.gcd x.natAbs y.natAbs:=by rw [Int.natAbs_tdiv];rfl
  have lx:=Nat.div_le_self x.natAbs (Nat.gcd x.natAbs y.natAbs)
  have ly:=Nat.div_le_self y.natAbs (Nat.gcd x.natAbs y.natAbs)
  refine ⟨?_,?_,x1,y1,by omega,by omega,?_⟩
  · unfold dirG;omega
  · unfold dirG
    by_cases h:x=0
    · have hy0:0 < y.natAbs:=by omega
      have:=Nat.le_of_dvd hy0 (Nat.gcd_dvd_right x.natAbs y.natAbs)
      omega
    · have hx0:0 < x.natAbs:=by omega
      have:=Nat.le_of_dvd hx0 (Nat.gcd_dvd_left x.natAbs y.natAbs)
      omega
  · rw [qx,qy,Nat.gcd_div (Nat.gcd_dvd_left _ _) (Nat.gcd_dvd_right _ _),Nat.div_self hg]
/-- The signs of a quotient are the number's. -/
theorem dir_sign {x g q:Int} (hg:1≤g) (h:x=g * q):(x < 0 ↔ q < 0)∧(x=0 ↔ q=0):=by
  subst h
  constructor
  · constructor
    · intro z
      rcases Int.lt_or_le q 0 with h|h
      · exact h
      · have:=Int.mul_nonneg (show 0≤g by omega) h
        omega
    · intro z
      have:=Int.mul_neg_of_pos_of_neg (show 0 < g by omega) z
      exact this
  · constructor
    · intro z
      rcases Int.mul_eq_zero.mp z with h|h
      · omega
      · exact h
    · intro z;rw [z];simp
theorem isDir_ev (q p:Int) (hq : -1000000≤q∧q≤1000000) (hp : -1000000≤p∧p≤1000000) (hco:Nat.gcd q.natAbs p.natAbs=1):Ev (fun k=>impl_isDirection.f k q p) (decide (0 < p∨(p=0∧0 < q))):=by
  unfold impl_isDirection.f
  refine ev_bind (common_ev q p hq hp) ?_
  rw [hco]
  refine ev_pos (by omega) ?_
  by_cases c:p > 0
  · exact ev_pos c (ev_eq (ev_now _) (by rw [decide_eq_true (.inl c)]))
  · refine ev_neg c ?_
    by_cases d:p=0
    · refine ev_pos d (ev_eq (ev_now _) ?_)
      subst d
      rw [Int.natAbs_zero,Nat.gcd_zero_right] at hco
      by_cases e:q=1
      · subst e;decide
      · rw [beq_eq_false_iff_ne.mpr e]
        symm
        exact decide_eq_false (by omega)
    · exact ev_neg d (ev_eq (ev_now _) (by symm;exact decide_eq_false (by omega)))
theorem dirOf_ev (ax ay bx byy:Int) (hx : -1000000≤bx - ax∧bx - ax≤1000000) (hy : -1000000≤byy - ay∧byy - ay≤1000000) (hne:¬ (bx - ax=0∧byy - ay=0)):Ev (fun k=>impl_directionOf.f k ax ay bx byy) (dirOf (bx - ax) (byy - ay)):=by
  unfold impl_directionOf.f
  rw [wsmall (bx - ax) (by omega),wsmall (byy - ay) (by omega)]
  generalize bx - ax=x at hx hne ⊢
  generalize byy - ay=y at hy hne ⊢
  have D:=dir_ok x y hx hy hne
  have g1:=D.g1
  have g2:=D.g2
  have x2:=D.x2
  have y2:=D.y2
  have sx:=dir_sign D.g1 D.x1
  have sy:=dir_sign D.g1 D.y1
  refine ev_bind (a:=dirG x y) (common_ev x y hx hy) (ev_neg (by omega) ?_)
  rw [wsmall (Int.tdiv x (dirG x y)) (by omega),wsmall (Int.tdiv y (dirG x y)) (by omega)]
  refine ev_bind (isDir_ev _ _ x2 y2 D.co) ?_
  by_cases c:0 < Int.tdiv y (dirG x y)∨(Int.tdiv y (dirG x y)=0∧0 < Int.tdiv x (dirG x y))
  · refine ev_pos (decide_eq_true c) (ev_eq (ev_now _) ?_)
    unfold dirOf dirS
    rw [if_neg (by omega)]
    simp
  · refine ev_neg (by simpa using c) (ev_eq (ev_now _) ?_)
    rw [wsmall _ (by omega),wsmall _ (by omega),wsmall _ (by omega)]
    unfold dirOf dirS
    rw [if_pos (by omega)]
    simp
theorem dir7_ev (x y:Int) (hx : -1000000≤x∧x≤1000000) (hy : -1000000≤y∧y≤1000000) (hne:¬ (x=0∧y=0)):Ev (fun k=>spec_l07Direction.f k x y) [dirS x y * Int.tdiv x (dirG x y),dirS x y * Int.tdiv y (dirG x y)]:=by
  unfold spec_l07Direction.f
  have D:=dir_ok x y hx hy hne
  have g1:=D.g1
  have x2:=D.x2
  have y2:=D.y2
  have sx:=dir_sign D.g1 D.x1
  have sy:=dir_sign D.g1 D.y1
  refine ev_bind (a:=dirG x y) (gcd_ev x y hx hy) (ev_neg (by omega) ?_)
  rw [wsmall (Int.tdiv x (dirG x y)) (by omega),wsmall (Int.tdiv y (dirG x y)) (by omega),wsmall (-(Int.tdiv x (dirG x y))) (by omega),wsmall (-(Int.tdiv y (dirG x y))) (by omega)]
  unfold dirS
  by_cases c:Int.tdiv y (dirG x y) < 0
  · refine ev_pos c (ev_eq (ev_now _) ?_)
    rw [if_pos (by omega)]
    simp
  · refine ev_neg c ?_
    by_cases d:Int.tdiv y (dirG x y)=0
    · refine ev_pos d ?_
      by_cases e:Int.tdiv x (dirG x y) < 0
      · refine ev_pos e (ev_eq (ev_now _) ?_)
        rw [if_pos (by omega)]
        simp
      · refine ev_neg e (ev_eq (ev_now _) ?_)
        rw [if_neg (by omega)]
        simp
    · refine ev_neg d (ev_eq (ev_now _) ?_)
      rw [if_neg (by omega)]
      simp
theorem mPut_len (m:Int × Int × Int):∀ l,(mPut m l).length≤l.length+1
  | []=>by unfold mPut;split <;> simp
  | a :: l=>by
    have ih:=mPut_len m l
    unfold mPut
    repeat' split
    all_goals simp only [List.length_cons]
    all_goals omega
theorem mPut_bnd (m:Int × Int × Int) (B C:Int) (hB:0≤B) (hm : -C≤m.2.2∧m.2.2≤C):∀ (l:List (Int × Int × Int)),(∀ a ∈ l,-B≤a.2.2∧a.2.2≤B)→∀ a ∈ mPut m l,-(B+C)≤a.2.2∧a.2.2≤B+C
  | [],_,a,h=>by
    unfold mPut at h
    split at h
    · cases h
    · rw [List.mem_singleton.mp h];omega
  | c :: l,hl,a,h=>by
    have hc:=hl c List.mem_cons_self
    have hl':∀ a ∈ l,-B≤a.2.2∧a.2.2≤B:=fun a ha=>hl a (List.mem_cons_of_mem _ ha)
    unfold mPut at h
    split at h
    · rcases List.mem_cons.mp h with rfl|h
      · omega
      · exact mPut_bnd m B C hB hm l hl' a h
    · split at h
      · split at h
        · have:=hl' a h;omega
        · rcases List.mem_cons.mp h with rfl|h
          · simp only;omega
          · have:=hl' a h;omega
      · split at h
        · have:=hl a h;omega
        · rcases List.mem_cons.mp h with rfl|h
          · omega
          · have:=hl a h;omega
theorem dir_back (x y:Int) (D:DirOk x y):dirS x y * Int.tdiv x (dirG x y) * dirG x y=dirS x y * x∧dirS x y * Int.tdiv y (dirG x y) * dirG x y=dirS x y * y:=by
  constructor
  · rw [Int.mul_assoc,Int.mul_comm (Int.tdiv x (dirG x y)),← D.x1]
  · rw [Int.mul_assoc,Int.mul_comm (Int.tdiv y (dirG x y)),← D.y1]
theorem dirS_one (x y:Int):dirS x y=1∨dirS x y = -1:=by unfold dirS;split <;> simp
def foldM (L:List (Int × Int × Int)) (sd:List (Int × Int)):List (Int × Int × Int):=sd.foldl (fun l s=>mPut (dirOf s.1 s.2) l) L
theorem dirG_le (x y:Int) (hx : -1000≤x∧x≤1000) (hy : -1000≤y∧y≤1000) (hne:¬ (x=0∧y=0)):dirG x y≤1000:=by
  unfold dirG
  by_cases h:x=0
  · have hy0:0 < y.natAbs:=by omega
    have:=Nat.le_of_dvd hy0 (Nat.gcd_dvd_right x.natAbs y.natAbs)
    omega
  · have hx0:0 < x.natAbs:=by omega
    have:=Nat.le_of_dvd hx0 (Nat.gcd_dvd_left x.natAbs y.natAbs)
    omega
theorem all_from (sd:List (Int × Int)) (hl:sd.length≤900) (hs:∀ s ∈ sd,(-1000≤s.1∧s.1≤1000)∧(-1000≤s.2∧s.2≤1000)∧¬ (s.1=0∧s.2=0)):∀ (suf pre:List (Int × Int)) (L:List (Int × Int × Int)),sd=pre++suf→L.length≤pre.length→(∀ a ∈ L,-(1000 * (pre.length:Int))≤a.2.2∧a.2.2≤1000 * (pre.length:Int)) →
    Ev (fun k=>spec_l07All.l0 k (L.map enc3) (sd.map fun s=>[s.1,s.2]) (sd.length:Int) (pre.length:Int)) ((foldM L suf).map enc3):=by
  intro suf
  induction suf with
  | nil =>
    intro pre L h _ _
    have hlen:sd.length=pre.length:=by rw [h];simp
    refine ev_shift ?_
    simp only [spec_l07All.l0]
    exact ev_neg (by omega) (ev_now _)
  | cons s suf ih =>
    intro pre L h hL hB
    have hlen:sd.length=pre.length+(suf.length+1):=by rw [h];simp
    obtain ⟨hx,hy,hne⟩:=hs s (by rw [h];simp)
    have hr:rd_L3 (sd.map fun s=>[s.1,s.2]) (pre.length:Int) = [s.1,s.2]:=by rw [h];simp [rd_L3,List.getD_eq_getElem?_getD]
    obtain ⟨x,y⟩:=s
    simp only at hx hy hne hr
    have D:=dir_ok x y (by omega) (by omega) hne
    have hgl:=dirG_le x y hx hy hne
    have g1:=D.g1
    have hb:=dir_back x y D
    have c0:rd [x,y] 0=x:=rfl
    have c1:rd [x,y] 1=y:=rfl
    have key:∀ n:Int,n=dirS x y * dirG x y→Ev (fun k=>(spec_l07Put.f k (L.map enc3) [dirS x y * Int.tdiv x (dirG x y),dirS x y * Int.tdiv y (dirG x y),n]).bind fun t=>spec_l07All.l0 k t (sd.map fun s=>[s.1,s.2]) (sd.length:Int) (wrap64 ((pre.length:Int)+1))) ((foldM L ((x,y) :: suf)).map enc3):=by
      intro n hn
      subst hn
      have hn : -1000≤dirS x y * dirG x y∧dirS x y * dirG x y≤1000:=by rcases dirS_one x y with e|e <;> rw [e] <;> omega
      have p:=put_ev L (dirOf x y) (by omega) (fun a ha=>by have:=hB a ha;omega) (by unfold dirOf;simp only;omega)
      refine ev_bind p ?_
      rw [show wrap64 ((pre.length:Int)+1)=((pre++[(x,y)]).length:Int) from by rw [wsmall _ (by omega)];simp]
      refine ih (pre++[(x,y)]) (mPut (dirOf x y) L) (by rw [h];simp) ?_ ?_
      · have:=mPut_len (dirOf x y) L
        simp only [List.length_append,List.length_cons,List.length_nil]
        omega
      · intro a ha
        have:=mPut_bnd (dirOf x y) (1000 * (pre.length:Int)) 1000 (by omega) (by unfold dirOf;simp only;omega) L hB a ha
        simp only [List.length_append,List.length_cons,List.length_nil]
        omega
    refine ev_shift ?_
    simp only [spec_l07All.l0,List.length_map,hr,c0,c1,List.length_cons,List.length_nil]
    refine ev_pos (by omega) (ev_pos (by omega) (ev_pos (by omega) (ev_pos (by omega) (ev_pos (by omega) ?_))))
    refine ev_bind (dir7_ev x y (by omega) (by omega) hne) (ev_bind (a:=dirG x y) (gcd_ev x y (by omega) (by omega)) ?_)
    have d0:rd [dirS x y * Int.tdiv x (dirG x y),dirS x y * Int.tdiv y (dirG x y)] 0=dirS x y * Int.tdiv x (dirG x y):=rfl
    have d1:rd [dirS x y * Int.tdiv x (dirG x y),dirS x y * Int.tdiv y (dirG x y)] 1=dirS x y * Int.tdiv y (dirG x y):=rfl
    have sx : -1000≤dirS x y * x∧dirS x y * x≤1000:=by rcases dirS_one x y with e|e <;> rw [e] <;> omega
    have sy : -1000≤dirS x y * y∧dirS x y * y≤1000:=by rcases dirS_one x y with e|e <;> rw [e] <;> omega
    simp only [d0,d1,List.length_cons,List.length_nil,hb.1,hb.2]
    rw [wsmall (dirS x y * x) (by omega),wsmall (dirS x y * y) (by omega),wsmall (-(dirG x y)) (by omega)]
    refine ev_pos (by omega) ?_
    rcases dirS_one x y with e|e
    · refine ev_pos (by rw [e];omega) (ev_pos (by omega) (ev_pos (by rw [e];omega) ?_))
      exact key (dirG x y) (by rw [e];omega)
    · by_cases z:x=dirS x y * x
      · refine ev_pos z (ev_pos (by omega) (ev_neg (by rw [e] at z ⊢;omega) ?_))
        exact key (-(dirG x y)) (by rw [e];omega)
      · refine ev_neg z (ev_pos (by omega) ?_)
        exact key (-(dirG x y)) (by rw [e];omega)
def sideAt (l:List S40) (i:Nat):Int × Int:=((rd_T40 l (((i+1) % l.length:Nat):Int)).f0 - (rd_T40 l (i:Int)).f0,(rd_T40 l (((i+1) % l.length:Nat):Int)).f1 - (rd_T40 l (i:Int)).f1)
def sidesOf (l:List S40):List (Int × Int):=(List.range l.length).map (sideAt l)
theorem sides_from (l:List S40) (hl:l.length≤900) (hc:∀ p ∈ l,(-500≤p.f0∧p.f0≤500)∧-500≤p.f1∧p.f1≤500):∀ (d i:Nat),i+d=l.length→Ev (fun k=>spec_l04Sides.l0 k l (((List.range i).map (sideAt l)).map fun s=>[s.1,s.2]) l (l.length:Int) (i:Int)) ((sidesOf l).map fun s=>[s.1,s.2]):=by
  have hrd:∀ j:Nat,j < l.length→(-500≤(rd_T40 l (j:Int)).f0∧(rd_T40 l (j:Int)).f0≤500)∧-500≤(rd_T40 l (j:Int)).f1∧(rd_T40 l (j:Int)).f1≤500:=fun j hj=>by
    have e:rd_T40 l (j:Int)=l[j]:=by simp [rd_T40,List.getD_eq_getElem?_getD,hj]
    rw [e]
    exact hc _ (List.getElem_mem hj)
  intro d
  induction d with
  | zero =>
    intro i hi
    have e:i=l.length:=by omega
    subst e
    refine ev_shift ?_
    simp only [spec_l04Sides.l0]
    exact ev_neg (by omega) (ev_now _)
  | succ d ih =>
    intro i hi
    have hm:=Nat.mod_lt (i+1) (show 0 < l.length by omega)
    have h1:=hrd i (by omega)
    have h2:=hrd ((i+1) % l.length) hm
    have ht:Int.tmod (wrap64 ((i:Int)+1)) (l.length:Int)=(((i+1) % l.length:Nat):Int):=by
      rw [wsucc i (by omega)]
      rfl
    refine ev_shift ?_
    simp only [spec_l04Sides.l0,ht,List.length_map,List.length_range]
    refine ev_pos (by omega) (ev_pos (by omega) (ev_pos (by omega) (ev_neg (by omega) (ev_pos (by omega) (ev_pos (by omega) (ev_pos (by omega) ?_))))))
    rw [wsmall ((rd_T40 l (((i+1) % l.length:Nat):Int)).f0 - (rd_T40 l (i:Int)).f0) (by omega),wsmall ((rd_T40 l (((i+1) % l.length:Nat):Int)).f1 - (rd_T40 l (i:Int)).f1) (by omega),wsucc i (by omega)]
    have g:=ih (i+1) (by omega)
    rw [List.range_succ,List.map_append,List.map_append] at g
    exact g
theorem sides_ev (l:List S40) (hl:l.length≤900) (hc:∀ p ∈ l,(-500≤p.f0∧p.f0≤500)∧-500≤p.f1∧p.f1≤500):Ev (fun k=>spec_l04Sides.f k l) ((sidesOf l).map fun s=>[s.1,s.2]):=by
  have h:=sides_from l hl hc l.length 0 (by omega)
  exact h
def twAt (l:List S40) (i:Nat):Int × Int:=((rd_T40 l (i:Int)).f0 * (rd_T40 l (((i+1) % l.length:Nat):Int)).f1,(rd_T40 l (i:Int)).f1 * (rd_T40 l (((i+1) % l.length:Nat):Int)).f0)
def twS (l:List S40):Nat→Int
  | 0=>0
  | i+1=>twS l i+(twAt l i).1 - (twAt l i).2
theorem mul_bnd {a b:Int} (ha : -500≤a∧a≤500) (hb : -500≤b∧b≤500) : -250000≤a * b∧a * b≤250000:=by
  have h1:(a * b).natAbs=a.natAbs * b.natAbs:=Int.natAbs_mul a b
  have h2:a.natAbs * b.natAbs≤500 * 500:=Nat.mul_le_mul (by omega) (by omega)
  omega
theorem tw_rd (l:List S40) (hc:∀ p ∈ l,(-500≤p.f0∧p.f0≤500)∧-500≤p.f1∧p.f1≤500) (j:Nat) (hj:j < l.length):(-500≤(rd_T40 l (j:Int)).f0∧(rd_T40 l (j:Int)).f0≤500)∧-500≤(rd_T40 l (j:Int)).f1∧(rd_T40 l (j:Int)).f1≤500:=by
  have e:rd_T40 l (j:Int)=l[j]:=by simp [rd_T40,List.getD_eq_getElem?_getD,hj]
  rw [e]
  exact hc _ (List.getElem_mem hj)
theorem twAt_bnd (l:List S40) (hc:∀ p ∈ l,(-500≤p.f0∧p.f0≤500)∧-500≤p.f1∧p.f1≤500) (i:Nat) (hi:i < l.length):(-250000≤(twAt l i).1∧(twAt l i).1≤250000)∧-250000≤(twAt l i).2∧(twAt l i).2≤250000:=by
  have hm:=Nat.mod_lt (i+1) (show 0 < l.length by omega)
  have h1:=tw_rd l hc i hi
  have h2:=tw_rd l hc _ hm
  exact ⟨mul_bnd h1.1 h2.2,mul_bnd h1.2 h2.1⟩
theorem twS_bnd (l:List S40) (hc:∀ p ∈ l,(-500≤p.f0∧p.f0≤500)∧-500≤p.f1∧p.f1≤500):∀ i,i≤l.length→-(500000 * (i:Int))≤twS l i∧twS l i≤500000 * (i:Int)
  | 0,_=>by simp [twS]
  | i+1,h=>by
    have ih:=twS_bnd l hc i (by omega)
    have hb:=twAt_bnd l hc i (by omega)
    show -(500000 * ((i+1:Nat):Int))≤twS l i+(twAt l i).1 - (twAt l i).2∧twS l i+(twAt l i).1 - (twAt l i).2≤_
    omega
theorem twS_from (l:List S40) (hl:l.length≤900) (hc:∀ p ∈ l,(-500≤p.f0∧p.f0≤500)∧-500≤p.f1∧p.f1≤500):∀ (d i:Nat),i+d=l.length→Ev (fun k=>spec_l03Twice.l0 k l (twS l i) l (l.length:Int) (i:Int)) (twS l l.length):=by
  intro d
  induction d with
  | zero =>
    intro i hi
    have e:i=l.length:=by omega
    subst e
    refine ev_shift ?_
    simp only [spec_l03Twice.l0]
    exact ev_neg (by omega) (ev_now _)
  | succ d ih =>
    intro i hi
    have hm:=Nat.mod_lt (i+1) (show 0 < l.length by omega)
    have hb:=twAt_bnd l hc i (by omega)
    have hs:=twS_bnd l hc i (by omega)
    have ht:Int.tmod (wrap64 ((i:Int)+1)) (l.length:Int)=(((i+1) % l.length:Nat):Int):=by
      rw [wsucc i (by omega)]
      rfl
    refine ev_shift ?_
    simp only [spec_l03Twice.l0,ht]
    refine ev_pos (by omega) (ev_pos (by omega) (ev_pos (by omega) (ev_neg (by omega) (ev_pos (by omega) (ev_pos (by omega) ?_)))))
    have g:=ih (i+1) (by omega)
    rw [show (rd_T40 l (i:Int)).f0 * (rd_T40 l (((i+1) % l.length:Nat):Int)).f1=(twAt l i).1 from rfl,show (rd_T40 l (i:Int)).f1 * (rd_T40 l (((i+1) % l.length:Nat):Int)).f0=(twAt l i).2 from rfl]
    rw [wsmall (twAt l i).1 (by omega),wsmall (twAt l i).2 (by omega),wsmall (twS l i+(twAt l i).1) (by omega),wsmall (twS l i+(twAt l i).1 - (twAt l i).2) (by omega),wsucc i (by omega)]
    exact g
theorem twS_ev (l:List S40) (hl:l.length≤900) (hc:∀ p ∈ l,(-500≤p.f0∧p.f0≤500)∧-500≤p.f1∧p.f1≤500):Ev (fun k=>spec_l03Twice.f k l) (twS l l.length):=twS_from l hl hc l.length 0 (by omega)
theorem twI_from (l:List S40) (hl:l.length≤900) (hc:∀ p ∈ l,(-500≤p.f0∧p.f0≤500)∧-500≤p.f1∧p.f1≤500):∀ (d i:Nat),i+d=l.length→Ev (fun k=>impl_twice.l0 k l (twS l i) l (l.length:Int) (i:Int)) (twS l l.length):=by
  intro d
  induction d with
  | zero =>
    intro i hi
    have e:i=l.length:=by omega
    subst e
    refine ev_shift ?_
    simp only [impl_twice.l0]
    exact ev_neg (by omega) (ev_now _)
  | succ d ih =>
    intro i hi
    have hm:=Nat.mod_lt (i+1) (show 0 < l.length by omega)
    have hb:=twAt_bnd l hc i (by omega)
    have hs:=twS_bnd l hc i (by omega)
    have ht:Int.tmod (wrap64 ((i:Int)+1)) (l.length:Int)=(((i+1) % l.length:Nat):Int):=by
      rw [wsucc i (by omega)]
      rfl
    refine ev_shift ?_
    simp only [impl_twice.l0,ht]
    refine ev_pos (by omega) (ev_pos (by omega) (ev_pos (by omega) (ev_neg (by omega) (ev_pos (by omega) (ev_pos (by omega) ?_)))))
    have g:=ih (i+1) (by omega)
    rw [show (rd_T40 l (i:Int)).f0 * (rd_T40 l (((i+1) % l.length:Nat):Int)).f1=(twAt l i).1 from rfl,show (rd_T40 l (i:Int)).f1 * (rd_T40 l (((i+1) % l.length:Nat):Int)).f0=(twAt l i).2 from rfl]
    rw [wsmall (twAt l i).1 (by omega),wsmall (twAt l i).2 (by omega),wsmall ((twAt l i).1 - (twAt l i).2) (by omega),wsmall (twS l i+((twAt l i).1 - (twAt l i).2)) (by omega),wsucc i (by omega)]
    rw [show twS l i+((twAt l i).1 - (twAt l i).2)=twS l (i+1) from by show _=twS l i+(twAt l i).1 - (twAt l i).2;omega]
    exact g
theorem twI_ev (l:List S40) (hl:l.length≤900) (hc:∀ p ∈ l,(-500≤p.f0∧p.f0≤500)∧-500≤p.f1∧p.f1≤500):Ev (fun k=>impl_twice.f k l) (twS l l.length):=twI_from l hl hc l.length 0 (by omega)
/-! A polygon turned: its first corner, and the others in reverse order. -/
theorem rdp_at2 (pre suf:List S40) (x:S40):rd_T40 (pre++x :: suf) (pre.length:Int)=x:=by
  simp [rd_T40,List.getD_eq_getElem?_getD]
def turnP:List S40→List S40
  | []=>[]
  | x :: l=>x :: l.reverse
theorem turnP_len (b:List S40):(turnP b).length=b.length:=by cases b <;> simp [turnP]
theorem sp_turn (b:List S40) (hb:b.length≤1000) (h0:b≠[]):Ev (fun k=>spec_l03Turn.f k b) (turnP b):=by
  cases b with
  | nil=>exact absurd rfl h0
  | cons x0 t =>
    unfold spec_l03Turn.f
    rw [List.length_cons] at hb
    have hz:rd_T40 (x0 :: t) 0=x0:=rdp_at2 [] t x0
    have loop:∀ (n:Nat) (pre suf acc:List S40),t=pre++suf→pre.length=n→acc.length≤1+suf.length→Ev (fun k=>spec_l03Turn.l0 k (x0 :: t) acc (n:Int)) (acc++pre.reverse):=by
      intro n
      induction n with
      | zero =>
        intro pre suf acc h hp ha
        have:pre = []:=List.length_eq_zero_iff.mp hp
        subst this
        refine ev_shift ?_
        simp only [spec_l03Turn.l0]
        exact ev_neg (by decide) (ev_eq (ev_now _) (by simp))
      | succ n ih =>
        intro pre suf acc h hp ha
        obtain ⟨pre',y,rfl⟩ : ∃ p' y,pre=p'++[y]:=⟨pre.dropLast,pre.getLast (by intro e;rw [e] at hp;simp at hp),(List.dropLast_concat_getLast _).symm⟩
        have hp':pre'.length=n:=by simpa using hp
        have hr:rd_T40 (x0 :: t) ((n+1:Nat):Int)=y:=by
          have:=rdp_at2 (x0 :: pre') suf y
          rw [List.length_cons,hp'] at this
          rw [h]
          simpa using this
        have hlt:n+1 < (x0 :: t).length:=by rw [h];simp;omega
        have e1:wrap64 (((n+1:Nat):Int) - 1)=(n:Int):=by rw [List.length_cons] at hlt;rw [w64 (by omega) (by omega)];omega
        have hn:=ih pre' (y :: suf) (acc++[y]) (by simp [h]) hp' (by simp;omega)
        have hsl:suf.length≤1000:=by rw [h] at hb;simp at hb;omega
        refine ev_shift ?_
        simp only [spec_l03Turn.l0]
        rw [hr,e1]
        refine ev_pos (by omega) (ev_pos (by omega) (ev_pos (by omega) (ev_pos (by omega) ?_)))
        have e:(⟨y.f0,y.f1⟩ : S40)=y:=rfl
        rw [e]
        refine ev_eq hn ?_
        simp
    have e2:wrap64 (((x0 :: t).length:Int) - 1)=(t.length:Int):=by rw [List.length_cons,w64 (by omega) (by omega)];omega
    refine ev_pos (by simp) ?_
    rw [hz,e2]
    have:=loop t.length t [] [⟨x0.f0,x0.f1⟩] (by simp) rfl (by simp)
    exact this
def leftP (l:List S40):List S40:=if twS l l.length < 0 then turnP l else l
theorem leftP_len (l:List S40):(leftP l).length=l.length:=by unfold leftP;split;exact turnP_len l;rfl
theorem leftP_mem (l:List S40) (p:S40) (h:p ∈ leftP l):p ∈ l:=by
  unfold leftP at h
  split at h
  · cases l with
    | nil=>exact h
    | cons x l =>
      rcases List.mem_cons.mp h with rfl|h
      · exact List.mem_cons_self
      · exact List.mem_cons_of_mem _ (List.mem_reverse.mp h)
  · exact h
theorem left_ev (l:List S40) (h0:l≠[]) (hl:l.length≤900) (hc:∀ p ∈ l,(-500≤p.f0∧p.f0≤500)∧-500≤p.f1∧p.f1≤500):Ev (fun k=>spec_l07Left.f k l) (leftP l):=by
  unfold spec_l07Left.f leftP
  refine ev_bind (twS_ev l hl hc) ?_
  by_cases c:twS l l.length < 0
  · rw [if_pos c]
    exact ev_pos c (ev_bind (sp_turn l (by omega) h0) (ev_now _))
  · rw [if_neg c]
    exact ev_neg c (ev_now _)
/-- Neighbours differ. -/
def apartP (l:List S40):Prop:=∀ s ∈ sidesOf l,¬ (s.1=0∧s.2=0)
theorem sidesOf_bnd (l:List S40) (hc:∀ p ∈ l,(-500≤p.f0∧p.f0≤500)∧-500≤p.f1∧p.f1≤500) (s:Int × Int) (h:s ∈ sidesOf l):(-1000≤s.1∧s.1≤1000)∧-1000≤s.2∧s.2≤1000:=by
  obtain ⟨i,hi,rfl⟩:=List.mem_map.mp h
  have hi:=List.mem_range.mp hi
  have h1:=tw_rd l hc i hi
  have h2:=tw_rd l hc _ (Nat.mod_lt (i+1) (show 0 < l.length by omega))
  unfold sideAt
  simp only
  omega
theorem all7_ev (l:List S40) (h0:l≠[]) (hl:l.length≤900) (hc:∀ p ∈ l,(-500≤p.f0∧p.f0≤500)∧-500≤p.f1∧p.f1≤500) (ha:apartP (leftP l)):Ev (fun k=>spec_l07All.f k l) ((foldM [] (sidesOf (leftP l))).map enc3):=by
  have hl':(leftP l).length≤900:=by rw [leftP_len];exact hl
  have hc':∀ p ∈ leftP l,(-500≤p.f0∧p.f0≤500)∧-500≤p.f1∧p.f1≤500:=fun p hp=>hc p (leftP_mem l p hp)
  unfold spec_l07All.f
  refine ev_bind (left_ev l h0 hl hc) (ev_bind (sides_ev (leftP l) hl' hc') ?_)
  have hs:(sidesOf (leftP l)).length≤900:=by unfold sidesOf;rw [List.length_map,List.length_range];exact hl'
  have g:=all_from (sidesOf (leftP l)) hs (fun s hs=>by
    have hb:=sidesOf_bnd (leftP l) hc' s hs
    exact ⟨hb.1,hb.2,ha s hs⟩) (sidesOf (leftP l)) [] [] rfl (by simp) (fun a h=>by cases h)
  rw [List.length_map]
  exact g
theorem within_eq (a b c:Int):impl_within.f a b c=some (decide (b≤a∧a≤c)):=by
  unfold impl_within.f;split <;> simp <;> omega
theorem in_eq (a b c:Int):spec_l01In.f a b c=some (decide (b≤a∧a≤c)):=by
  unfold spec_l01In.f;split <;> simp <;> omega
theorem mx_eq (a b:Int):mx a b=max a b:=by unfold mx;split <;> omega
theorem mn_eq (a b:Int):mn a b=min a b:=by unfold mn;split <;> omega
/-! How two edges meet, both ways. -/
def crI (a b p:S40):Int:=(b.f0 - a.f0) * (p.f1 - a.f1) - (b.f1 - a.f1) * (p.f0 - a.f0)
def small (p:S40):Prop:=(0≤p.f0∧p.f0≤40)∧0≤p.f1∧p.f1≤40
theorem mul_small {u v:Int} (hu : -40≤u∧u≤40) (hv : -40≤v∧v≤40) : -1600≤u * v∧u * v≤1600:=by
  have h:(u * v).natAbs≤40 * 40:=by rw [Int.natAbs_mul];exact Nat.mul_le_mul (by omega) (by omega)
  omega
theorem cross_wrap {a b p:S40} (ha:small a) (hb:small b) (hp:small p):wrap64 ((wrap64 ((wrap64 (b.f0 - a.f0)) * (wrap64 (p.f1 - a.f1)))) - (wrap64 ((wrap64 (b.f1 - a.f1)) * (wrap64 (p.f0 - a.f0)))))=crI a b p:=by
  obtain ⟨a1,a2⟩:=ha
  obtain ⟨b1,b2⟩:=hb
  obtain ⟨p1,p2⟩:=hp
  have h1:=mul_small (u:=b.f0 - a.f0) (v:=p.f1 - a.f1) (by omega) (by omega)
  have h2:=mul_small (u:=b.f1 - a.f1) (v:=p.f0 - a.f0) (by omega) (by omega)
  unfold crI
  rw [w64 (n:=b.f0 - a.f0) (by omega) (by omega),w64 (n:=p.f1 - a.f1) (by omega) (by omega),w64 (n:=b.f1 - a.f1) (by omega) (by omega),w64 (n:=p.f0 - a.f0) (by omega) (by omega)]
  generalize (b.f0 - a.f0) * (p.f1 - a.f1)=x at *
  generalize (b.f1 - a.f1) * (p.f0 - a.f0)=y at *
  rw [w64 (n:=x) (by omega) (by omega),w64 (n:=y) (by omega) (by omega),w64 (by omega) (by omega)]
theorem sp_cross {a b p:S40} (ha:small a) (hb:small b) (hp:small p):spec_l02Cross.f a.f0 a.f1 b.f0 b.f1 p.f0 p.f1=some (crI a b p):=by
  unfold spec_l02Cross.f
  rw [cross_wrap ha hb hp]
theorem im_cross {a b p:S40} (ha:small a) (hb:small b) (hp:small p):impl_cross.f a.f0 a.f1 b.f0 b.f1 p.f0 p.f1=some (crI a b p):=by
  unfold impl_cross.f
  rw [cross_wrap ha hb hp]
def sgn (n:Int):Int:=if n > 0 then 1 else if n < 0 then -1 else 0
theorem sp_sign (n:Int):spec_l02Sign.f n=some (sgn n):=by
  unfold spec_l02Sign.f sgn
  split
  · rfl
  · split <;> rfl
theorem im_sign (n:Int):impl_sign.f n=some (sgn n):=by
  unfold impl_sign.f sgn
  split
  · rfl
  · split <;> rfl
theorem sgn_cases (n:Int):(n > 0∧sgn n=1)∨(n < 0∧sgn n = -1)∨(n=0∧sgn n=0):=by
  unfold sgn
  split
  · exact .inl ⟨by assumption,rfl⟩
  · split
    · exact .inr (.inl ⟨by assumption,rfl⟩)
    · exact .inr (.inr ⟨by omega,rfl⟩)
theorem sgn_mul (m n:Int):wrap64 (sgn m * sgn n)=sgn m * sgn n:=by
  rcases sgn_cases m with ⟨_,h⟩|⟨_,h⟩|⟨_,h⟩ <;> rcases sgn_cases n with ⟨_,g⟩|⟨_,g⟩|⟨_,g⟩ <;> rw [h,g] <;> exact w64 (by omega) (by omega)
def onI (a b p:S40):Bool:=decide (crI a b p=0) && (decide (min a.f0 b.f0≤p.f0∧p.f0≤max a.f0 b.f0) && decide (min a.f1 b.f1≤p.f1∧p.f1≤max a.f1 b.f1))
theorem im_on {a b p:S40} (ha:small a) (hb:small b) (hp:small p):impl_isOn.f a.f0 a.f1 b.f0 b.f1 p.f0 p.f1=some (onI a b p):=by
  unfold impl_isOn.f onI
  rw [im_cross ha hb hp]
  simp only [Option.bind_some,within_eq,mn_eq,mx_eq]
  by_cases c:crI a b p=0
  · rw [if_pos c,decide_eq_true c,Bool.true_and]
    by_cases d:min a.f0 b.f0≤p.f0∧p.f0≤max a.f0 b.f0
    · rw [if_pos (decide_eq_true d),decide_eq_true d,Bool.true_and]
    · rw [if_neg (by simpa using d),decide_eq_false d,Bool.false_and]
  · rw [if_neg c,decide_eq_false c,Bool.false_and]
theorem sp_on {a b p:S40} (ha:small a) (hb:small b) (hp:small p):spec_l02On.f a.f0 a.f1 b.f0 b.f1 p.f0 p.f1=some (onI a b p):=by
  unfold spec_l02On.f onI
  rw [sp_cross ha hb hp]
  simp only [Option.bind_some,mn_eq,mx_eq]
  by_cases c:crI a b p=0
  · rw [if_pos c,decide_eq_true c,Bool.true_and]
    by_cases d1:p.f0 ≥ min a.f0 b.f0
    · rw [if_pos d1]
      by_cases d2:p.f0≤max a.f0 b.f0
      · rw [if_pos d2,decide_eq_true (show min a.f0 b.f0≤p.f0∧p.f0≤max a.f0 b.f0 from ⟨d1,d2⟩),Bool.true_and]
        by_cases d3:p.f1 ≥ min a.f1 b.f1
        · rw [if_pos d3]
          congr 1
          exact decide_eq_decide.mpr ⟨fun z=>⟨d3,z⟩,fun z=>z.2⟩
        · rw [if_neg d3,decide_eq_false (fun z=>d3 z.1)]
      · rw [if_neg d2,decide_eq_false (fun z=>d2 z.2),Bool.false_and]
    · rw [if_neg d1,decide_eq_false (fun z=>d1 z.1),Bool.false_and]
  · rw [if_neg c,decide_eq_false c,Bool.false_and]
theorem on_zero {a b p:S40} (h:onI a b p=true):crI a b p=0:=by
  unfold onI at h
  rw [Bool.and_eq_true] at h
  exact of_decide_eq_true h.1
def eqP (a b:S40):Bool:=a.f0 == b.f0 && a.f1 == b.f1
theorem eqP_iff (a b:S40):eqP a b=true ↔ a=b:=by
  unfold eqP
  cases a;cases b
  simp
def crossP (a b c d:S40):Prop:=sgn (crI a b c) * sgn (crI a b d) < 0∧sgn (crI c d a) * sgn (crI c d b) < 0
theorem cross_ne {a b c d:S40} (h:crossP a b c d):crI a b c≠0∧crI a b d≠0∧crI c d a≠0∧crI c d b≠0:=by
  obtain ⟨h1,h2⟩:=h
  refine ⟨fun e=>?_,fun e=>?_,fun e=>?_,fun e=>?_⟩
  · rw [e] at h1;simp [sgn] at h1
  · rw [e] at h1;simp [sgn] at h1
  · rw [e] at h2;simp [sgn] at h2
  · rw [e] at h2;simp [sgn] at h2
instance (a b c d:S40):Decidable (crossP a b c d):=by unfold crossP;infer_instance
/-- All of a list are one. -/
def oneP:List S40→Int
  | []=>0
  | x :: l=>if l.all (fun y=>eqP y x)=true then 1 else 3
def sharedS (a b c d:S40):List S40:=[a,b].filter (onI c d)++[c,d].filter (onI a b)
def sharedI (a b c d:S40):List S40:=[c,d].filter (onI a b)++[a,b].filter (onI c d)
def meetP (a b c d:S40):Int:=if crossP a b c d then 2 else oneP (sharedS a b c d)
theorem shared_nil {a b c d:S40} (h:crossP a b c d):sharedI a b c d = []:=by
  obtain ⟨h1,h2,h3,h4⟩:=cross_ne h
  have e1:onI a b c=false:=Bool.eq_false_iff.mpr (fun z=>h1 (on_zero z))
  have e2:onI a b d=false:=Bool.eq_false_iff.mpr (fun z=>h2 (on_zero z))
  have e3:onI c d a=false:=Bool.eq_false_iff.mpr (fun z=>h3 (on_zero z))
  have e4:onI c d b=false:=Bool.eq_false_iff.mpr (fun z=>h4 (on_zero z))
  simp [sharedI,e1,e2,e3,e4]
theorem oneP_eq {L M:List S40} (h:∀ x,x ∈ L ↔ x ∈ M):oneP L=oneP M:=by
  have key:∀ {L M:List S40},(∀ x,x ∈ L ↔ x ∈ M)→∀ x l,L=x :: l→l.all (fun y=>eqP y x)=true→∀ y m,M=y :: m→m.all (fun z=>eqP z y)=true:=by
    intro L M h x l hL hl y m hM
    rw [List.all_eq_true] at hl ⊢
    have hall:∀ z ∈ L,z=x:=fun z hz=>by
      rw [hL] at hz
      rcases List.mem_cons.mp hz with e|e
      · exact e
      · exact (eqP_iff _ _).mp (hl z e)
    intro z hz
    have h1:=hall z ((h z).mpr (by rw [hM];simp [hz]))
    have h2:=hall y ((h y).mpr (by rw [hM];simp))
    exact (eqP_iff _ _).mpr (by rw [h1,h2])
  cases L with
  | nil =>
    cases M with
    | nil=>rfl
    | cons y m=>exact absurd ((h y).mpr (by simp)) (by simp)
  | cons x l =>
    cases M with
    | nil=>exact absurd ((h x).mp (by simp)) (by simp)
    | cons y m =>
      simp only [oneP]
      by_cases c:l.all (fun z=>eqP z x)=true
      · rw [if_pos c,if_pos (key h x l rfl c y m rfl)]
      · rw [if_neg c,if_neg (fun g=>c (key (fun z=>(h z).symm) y m rfl g x l rfl))]
theorem shared_mem (a b c d x:S40):x ∈ sharedS a b c d ↔ x ∈ sharedI a b c d:=by
  unfold sharedS sharedI
  rw [List.mem_append,List.mem_append]
  exact Or.comm
/-- The reference. -/
theorem sp_l2 (L:List S40) (hL:L.length≤1000) (x0:S40) (l:List S40) (h0:L=x0 :: l):∀ (suf pre:List S40),L=pre++suf →
    Ev (fun k=>spec_l02Meet.l2 k L L (L.length:Int) (pre.length:Int)) (if suf.all (fun y=>eqP y x0)=true then 1 else 3):=by
  have hz:rd_T40 L 0=x0:=by rw [h0];exact rdp_at2 [] l x0
  intro suf
  induction suf with
  | nil =>
    intro pre h
    obtain rfl:L=pre:=by simp [h]
    refine ev_shift ?_
    simp only [spec_l02Meet.l2]
    exact ev_neg (by omega) (ev_now _)
  | cons x suf ih =>
    intro pre h
    have hlen:L.length=pre.length+(suf.length+1):=by rw [h];simp
    have hr:rd_T40 L (pre.length:Int)=x:=by rw [h];exact rdp_at2 pre suf x
    have hn:=ih (pre++[x]) (by simp [h])
    rw [List.length_append,List.length_singleton] at hn
    refine ev_shift ?_
    simp only [spec_l02Meet.l2]
    rw [hr,hz,wsucc _ (by omega)]
    refine ev_pos (by omega) (ev_pos (by omega) (ev_pos (by omega) (ev_pos (by omega) ?_)))
    rw [List.all_cons]
    by_cases c:eqP x x0=true
    · rw [c,Bool.true_and]
      have e:=(eqP_iff _ _).mp c
      exact ev_neg (by rw [e];simp) hn
    · have c':eqP x x0=false:=Bool.eq_false_iff.mpr c
      rw [c',Bool.false_and,if_neg (by decide)]
      refine ev_pos ?_ (ev_now _)
      unfold eqP at c'
      rw [Bool.and_eq_false_iff] at c'
      rcases c' with z|z <;> simp [z]
theorem sp_one (L:List S40) (hL:L.length≤1000):Ev (fun k=>if (L.length:Int)=0 then (some 0) else (spec_l02Meet.l2 k L L (L.length:Int) 0)) (oneP L):=by
  cases L with
  | nil=>exact ev_pos rfl (ev_now _)
  | cons x l =>
    refine ev_neg (by simp;omega) ?_
    have:=sp_l2 (x :: l) hL x l rfl (x :: l) [] rfl
    refine ev_eq this ?_
    have e:eqP x x=true:=(eqP_iff _ _).mpr rfl
    simp only [oneP,List.all_cons,e,Bool.true_and]
theorem sp_l1 {a b:S40} (ha:small a) (hb:small b) (y:List S40) (hy:y.length≤2) (hs:∀ p ∈ y,small p):∀ (suf pre acc:List S40),y=pre++suf→acc.length≤100+pre.length →
    Ev (fun k=>spec_l02Meet.l1 k acc y (y.length:Int) (pre.length:Int) a.f0 a.f1 b.f0 b.f1) (oneP (acc++suf.filter (onI a b))):=by
  intro suf
  induction suf with
  | nil =>
    intro pre acc h hl
    have hlen:y.length=pre.length:=by rw [h];simp
    refine ev_shift ?_
    simp only [spec_l02Meet.l1]
    refine ev_neg (by omega) ?_
    have:=sp_one acc (by omega)
    simpa using this
  | cons x suf ih =>
    intro pre acc h hl
    have hlen:y.length=pre.length+(suf.length+1):=by rw [h];simp
    have hr:rd_T40 y (pre.length:Int)=x:=by rw [h];exact rdp_at2 pre suf x
    refine ev_shift ?_
    simp only [spec_l02Meet.l1]
    rw [hr,wsucc _ (by omega)]
    refine ev_pos (by omega) (ev_pos (by omega) (ev_pos (by omega) (ev_bind0 (sp_on ha hb (hs x (by rw [h];simp))) ?_)))
    by_cases c:onI a b x=true
    · have hn:=ih (pre++[x]) (acc++[x]) (by simp [h]) (by simp;omega)
      rw [List.length_append,List.length_singleton] at hn
      rw [List.filter_cons,if_pos c]
      refine ev_pos c (ev_pos (by omega) ?_)
      have e:(⟨x.f0,x.f1⟩ : S40)=x:=rfl
      rw [e]
      simpa using hn
    · have hn:=ih (pre++[x]) acc (by simp [h]) (by simp;omega)
      rw [List.length_append,List.length_singleton] at hn
      rw [List.filter_cons,if_neg c]
      exact ev_neg c hn
theorem sp_l0 {a b c d:S40} (ha:small a) (hb:small b) (hc:small c) (hd:small d) (y:List S40) (hy:y.length≤2) (hs:∀ p ∈ y,small p):∀ (suf pre acc:List S40),y=pre++suf→acc.length≤pre.length →
    Ev (fun k=>spec_l02Meet.l0 k acc y (y.length:Int) (pre.length:Int) a.f0 a.f1 b.f0 b.f1 c.f0 c.f1 d.f0 d.f1) (oneP ((acc++suf.filter (onI c d))++[c,d].filter (onI a b))):=by
  intro suf
  induction suf with
  | nil =>
    intro pre acc h hl
    have hlen:y.length=pre.length:=by rw [h];simp
    refine ev_shift ?_
    simp only [spec_l02Meet.l0]
    refine ev_neg (by omega) (ev_bind0 rfl ?_)
    have:=sp_l1 ha hb [c,d] (by simp) (fun p hp=>by
      rcases List.mem_cons.mp hp with rfl|hp
      · exact hc
      · rcases List.mem_cons.mp hp with rfl|hp
        · exact hd
        · cases hp) [c,d] [] acc rfl (by omega)
    simpa using this
  | cons x suf ih =>
    intro pre acc h hl
    have hlen:y.length=pre.length+(suf.length+1):=by rw [h];simp
    have hr:rd_T40 y (pre.length:Int)=x:=by rw [h];exact rdp_at2 pre suf x
    refine ev_shift ?_
    simp only [spec_l02Meet.l0]
    rw [hr,wsucc _ (by omega)]
    refine ev_pos (by omega) (ev_pos (by omega) (ev_pos (by omega) (ev_bind0 (sp_on hc hd (hs x (by rw [h];simp))) ?_)))
    by_cases g:onI c d x=true
    · have hn:=ih (pre++[x]) (acc++[x]) (by simp [h]) (by simp;omega)
      rw [List.length_append,List.length_singleton] at hn
      rw [List.filter_cons,if_pos g]
      refine ev_pos g (ev_pos (by omega) ?_)
      have e:(⟨x.f0,x.f1⟩ : S40)=x:=rfl
      rw [e]
      simpa using hn
    · have hn:=ih (pre++[x]) acc (by simp [h]) (by simp;omega)
      rw [List.length_append,List.length_singleton] at hn
      rw [List.filter_cons,if_neg g]
      exact ev_neg g hn
theorem sp_meet {a b c d:S40} (ha:small a) (hb:small b) (hc:small c) (hd:small d):Ev (fun k=>spec_l02Meet.f k a.f0 a.f1 b.f0 b.f1 c.f0 c.f1 d.f0 d.f1) (meetP a b c d):=by
  have h0:Ev (fun k=>spec_l02Meet.j0 k false a.f0 a.f1 b.f0 b.f1 c.f0 c.f1 d.f0 d.f1) (oneP (sharedS a b c d)):=by
    refine ev_shift ?_
    simp only [spec_l02Meet.j0]
    refine ev_neg (by decide) (ev_bind0 rfl ?_)
    exact sp_l0 ha hb hc hd [a,b] (by simp) (fun p hp=>by
      rcases List.mem_cons.mp hp with rfl|hp
      · exact ha
      · rcases List.mem_cons.mp hp with rfl|hp
        · exact hb
        · cases hp) [a,b] [] [] rfl (by simp)
  unfold spec_l02Meet.f
  refine ev_bind0 (sp_cross ha hb hc) (ev_bind0 (sp_sign _) (ev_bind0 (sp_cross ha hb hd) (ev_bind0 (sp_sign _) (ev_bind0 (sp_cross hc hd ha) (ev_bind0 (sp_sign _) (ev_bind0 (sp_cross hc hd hb) (ev_bind0 (sp_sign _) ?_)))))))
  rw [sgn_mul,sgn_mul]
  unfold meetP
  by_cases g1:sgn (crI a b c) * sgn (crI a b d) < 0
  · refine ev_pos g1 ?_
    by_cases g2:sgn (crI c d a) * sgn (crI c d b) < 0
    · rw [decide_eq_true g2,if_pos (show crossP a b c d from ⟨g1,g2⟩)]
      refine ev_shift ?_
      simp only [spec_l02Meet.j0]
      exact ev_pos (by simp) (ev_now _)
    · rw [decide_eq_false g2,if_neg (fun z=>g2 z.2)]
      exact h0
  · rw [if_neg (fun z=>g1 z.1)]
    exact ev_neg g1 h0
def addP (acc:List S40) (x:S40):List S40:=if acc.any (fun q=>q.f0 == x.f0 && q.f1 == x.f1)=true then acc else acc++[x]
theorem any_iff (acc:List S40) (x:S40):acc.any (fun q=>q.f0 == x.f0 && q.f1 == x.f1)=true ↔ x ∈ acc:=by
  rw [List.any_eq_true]
  constructor
  · rintro ⟨q,hq,h⟩
    rwa [(eqP_iff q x).mp h] at hq
  · intro h
    exact ⟨x,h,(eqP_iff x x).mpr rfl⟩
theorem addP_len (acc:List S40) (x:S40):(addP acc x).length≤acc.length+1:=by
  unfold addP;split <;> simp
theorem add_props:∀ (L acc:List S40),acc.Nodup→(L.foldl addP acc).Nodup∧∀ x,x ∈ L.foldl addP acc ↔ x ∈ acc∨x ∈ L:=by
  intro L
  induction L with
  | nil=>intro acc h;exact ⟨h,fun x=>by simp⟩
  | cons y L ih =>
    intro acc h
    rw [List.foldl_cons]
    have hn:(addP acc y).Nodup∧∀ x,x ∈ addP acc y ↔ x ∈ acc∨x=y:=by
      unfold addP
      by_cases c:acc.any (fun q=>q.f0 == y.f0 && q.f1 == y.f1)=true
      · rw [if_pos c]
        exact ⟨h,fun x=>⟨fun z=>.inl z,fun z=>z.elim id (fun e=>by rw [e];exact (any_iff acc y).mp c)⟩⟩
      · rw [if_neg c]
        refine ⟨?_,fun x=>by simp⟩
        rw [List.nodup_append]
        exact ⟨h,by simp,fun a ha b hb e=>by
          have:b=y:=by simpa using hb
          exact c ((any_iff acc y).mpr (by rw [← this,← e];exact ha))⟩
    obtain ⟨i1,i2⟩:=ih (addP acc y) hn.1
    refine ⟨i1,fun x=>?_⟩
    rw [i2 x,hn.2 x,List.mem_cons,or_assoc]
def finP (a b c d:S40) (E:List S40):Int:=if E.length > 1 then 3 else if E.length=1 then 1 else if crossP a b c d then 2 else 0
theorem fin_meet (a b c d:S40):finP a b c d ((sharedI a b c d).foldl addP [])=meetP a b c d:=by
  obtain ⟨hnd,hm⟩:=add_props (sharedI a b c d) [] List.nodup_nil
  have hs:=shared_mem a b c d
  unfold meetP
  by_cases hx:crossP a b c d
  · rw [if_pos hx]
    have e:=shared_nil hx
    rw [e]
    simp [finP,hx]
  · rw [if_neg hx,oneP_eq (M:=(sharedI a b c d).foldl addP []) (fun x=>by rw [hs x,hm x];simp)]
    generalize (sharedI a b c d).foldl addP []=E at hnd
    unfold finP
    cases E with
    | nil=>simp [oneP,hx]
    | cons x l =>
      cases l with
      | nil=>simp [oneP]
      | cons y l =>
        rw [if_pos (by simp)]
        simp only [oneP]
        rw [if_neg]
        rw [List.all_cons,Bool.and_eq_true]
        rintro ⟨z,_⟩
        have e:=(eqP_iff y x).mp z
        rw [e] at hnd
        simp at hnd
theorem im_add (x:S40) (acc:List S40) (h:acc.length≤1000):impl_meet_1.f x.f0 x.f1 acc=some (addP acc x):=by
  unfold impl_meet_1.f addP
  rw [if_pos (by omega)]
theorem im_l1 {a b c d:S40} (ha:small a) (hb:small b) (hc:small c) (hd:small d) (y:List S40) (hy:y.length≤2) (hs:∀ p ∈ y,small p):∀ (suf pre acc:List S40),y=pre++suf→acc.length≤100+pre.length →
    Ev (fun k=>impl_meet.l1 k acc y (y.length:Int) (pre.length:Int) a.f0 a.f1 b.f0 b.f1 c.f0 c.f1 d.f0 d.f1) (finP a b c d ((suf.filter (onI c d)).foldl addP acc)):=by
  intro suf
  induction suf with
  | nil =>
    intro pre acc h hl
    have hlen:y.length=pre.length:=by rw [h];simp
    refine ev_shift ?_
    simp only [impl_meet.l1]
    refine ev_neg (by omega) ?_
    show Ev _ (finP a b c d acc)
    unfold finP
    by_cases e1:acc.length > 1
    · rw [if_pos e1]
      exact ev_pos (by omega) (ev_now _)
    · rw [if_neg e1]
      refine ev_neg (by omega) ?_
      by_cases e2:acc.length=1
      · rw [if_pos e2]
        exact ev_pos (by omega) (ev_now _)
      · rw [if_neg e2]
        refine ev_neg (by omega) (ev_bind0 (im_cross ha hb hc) (ev_bind0 (im_sign _) (ev_bind0 (im_cross ha hb hd) (ev_bind0 (im_sign _) ?_))))
        rw [sgn_mul]
        by_cases g1:sgn (crI a b c) * sgn (crI a b d) < 0
        · refine ev_pos g1 (ev_bind0 (im_cross hc hd ha) (ev_bind0 (im_sign _) (ev_bind0 (im_cross hc hd hb) (ev_bind0 (im_sign _) ?_))))
          rw [sgn_mul]
          by_cases g2:sgn (crI c d a) * sgn (crI c d b) < 0
          · rw [if_pos (show crossP a b c d from ⟨g1,g2⟩)]
            exact ev_pos g2 (ev_now _)
          · exact ev_neg g2 (ev_eq (ev_now _) (if_neg (fun z:crossP a b c d=>g2 z.2)).symm)
        · exact ev_neg g1 (ev_eq (ev_now _) (if_neg (fun z:crossP a b c d=>g1 z.1)).symm)
  | cons x suf ih =>
    intro pre acc h hl
    have hlen:y.length=pre.length+(suf.length+1):=by rw [h];simp
    have hr:rd_T40 y (pre.length:Int)=x:=by rw [h];exact rdp_at2 pre suf x
    refine ev_shift ?_
    simp only [impl_meet.l1]
    rw [hr,wsucc _ (by omega)]
    refine ev_pos (by omega) (ev_pos (by omega) (ev_pos (by omega) (ev_bind0 (im_on hc hd (hs x (by rw [h];simp))) ?_)))
    by_cases g:onI c d x=true
    · have hal:=addP_len acc x
      have hn:=ih (pre++[x]) (addP acc x) (by simp [h]) (by simp;omega)
      rw [List.length_append,List.length_singleton] at hn
      rw [List.filter_cons,if_pos g,List.foldl_cons]
      exact ev_pos g (ev_bind0 (im_add x acc (by omega)) hn)
    · have hn:=ih (pre++[x]) acc (by simp [h]) (by simp;omega)
      rw [List.length_append,List.length_singleton] at hn
      rw [List.filter_cons,if_neg g]
      exact ev_neg g hn
theorem two_small {a b:S40} (ha:small a) (hb:small b):∀ p ∈ [a,b],small p:=by
  intro p hp
  rcases List.mem_cons.mp hp with rfl|hp
  · exact ha
  · rcases List.mem_cons.mp hp with rfl|hp
    · exact hb
    · cases hp
theorem im_l0 {a b c d:S40} (ha:small a) (hb:small b) (hc:small c) (hd:small d) (y:List S40) (hy:y.length≤2) (hs:∀ p ∈ y,small p):∀ (suf pre acc:List S40),y=pre++suf→acc.length≤pre.length →
    Ev (fun k=>impl_meet.l0 k acc y (y.length:Int) (pre.length:Int) a.f0 a.f1 b.f0 b.f1 c.f0 c.f1 d.f0 d.f1) (finP a b c d (([a,b].filter (onI c d)).foldl addP ((suf.filter (onI a b)).foldl addP acc))):=by
  intro suf
  induction suf with
  | nil =>
    intro pre acc h hl
    have hlen:y.length=pre.length:=by rw [h];simp
    refine ev_shift ?_
    simp only [impl_meet.l0]
    refine ev_neg (by omega) (ev_bind0 rfl ?_)
    exact im_l1 ha hb hc hd [a,b] (by simp) (two_small ha hb) [a,b] [] acc rfl (by omega)
  | cons x suf ih =>
    intro pre acc h hl
    have hlen:y.length=pre.length+(suf.length+1):=by rw [h];simp
    have hr:rd_T40 y (pre.length:Int)=x:=by rw [h];exact rdp_at2 pre suf x
    refine ev_shift ?_
    simp only [impl_meet.l0]
    rw [hr,wsucc _ (by omega)]
    refine ev_pos (by omega) (ev_pos (by omega) (ev_pos (by omega) (ev_bind0 (im_on ha hb (hs x (by rw [h];simp))) ?_)))
    by_cases g:onI a b x=true
    · have hal:=addP_len acc x
      have hn:=ih (pre++[x]) (addP acc x) (by simp [h]) (by simp;omega)
      rw [List.length_append,List.length_singleton] at hn
      rw [List.filter_cons,if_pos g,List.foldl_cons]
      exact ev_pos g (ev_bind0 (im_add x acc (by omega)) hn)
    · have hn:=ih (pre++[x]) acc (by simp [h]) (by simp;omega)
      rw [List.length_append,List.length_singleton] at hn
      rw [List.filter_cons,if_neg g]
      exact ev_neg g hn
theorem im_meet {a b c d:S40} (ha:small a) (hb:small b) (hc:small c) (hd:small d):Ev (fun k=>impl_meet.f k a.f0 a.f1 b.f0 b.f1 c.f0 c.f1 d.f0 d.f1) (meetP a b c d):=by
  unfold impl_meet.f
  refine ev_bind0 rfl ?_
  have:=im_l0 ha hb hc hd [c,d] (by simp) (two_small hc hd) [c,d] [] [] rfl (by simp)
  refine ev_eq this ?_
  rw [← fin_meet]
  unfold sharedI
  rw [List.foldl_append]
/-! What a polygon is, both ways. -/
theorem tmodN (a b:Nat):Int.tmod (a:Int) (b:Int)=((a % b:Nat):Int):=by
  rw [Int.tmod_eq_emod_of_nonneg (by omega)]
  simp
def zP:S40:=⟨0,0⟩
def ptA (p:List S40) (i:Nat):S40:=p.getD i zP
theorem rd_ptA (p:List S40) (i:Nat):rd_T40 p (i:Int)=ptA p i:=by simp [rd_T40,ptA,zP,z40]
def smallB (p:S40):Bool:=decide ((0≤p.f0∧p.f0≤40)∧0≤p.f1∧p.f1≤40)
theorem smallB_iff (p:S40):smallB p=true ↔ small p:=by unfold smallB small;simp
theorem sp_point (p:S40):spec_PointOk.f p.f0 p.f1=some (smallB p):=by
  unfold spec_PointOk.f smallB
  rw [in_eq]
  simp only [Option.bind_some,in_eq]
  by_cases c:0≤p.f0∧p.f0≤40
  · rw [if_pos (decide_eq_true c)]
    congr 1
    exact decide_eq_decide.mpr ⟨fun z=>⟨c,z⟩,fun z=>z.2⟩
  · rw [if_neg (by simpa using c),decide_eq_false (fun z=>c z.1)]
theorem im_point (p:S40):impl_PointOk.f p.f0 p.f1=some (smallB p):=by
  unfold impl_PointOk.f smallB
  rw [within_eq]
  simp only [Option.bind_some,within_eq]
  by_cases c:0≤p.f0∧p.f0≤40
  · rw [if_pos (decide_eq_true c)]
    congr 1
    exact decide_eq_decide.mpr ⟨fun z=>⟨c,z⟩,fun z=>z.2⟩
  · rw [if_neg (by simpa using c),decide_eq_false (fun z=>c z.1)]
def nx (n i:Nat):Nat:=(i+1) % n
def adjB (p:List S40) (n:Nat):Nat→Nat→Bool
  | 0,_=>true
  | d+1,i=>!(eqP (ptA p i) (ptA p (nx n i))) && adjB p n d (i+1)
def wantP (n i k:Nat):Int:=if k=i+1∨(i=0∧k+1=n) then 1 else 0
def meetAt (p:List S40) (n i k:Nat):Int:=meetP (ptA p i) (ptA p (nx n i)) (ptA p k) (ptA p (nx n k))
def pairB (p:List S40) (n i:Nat):Nat→Nat→Bool
  | 0,_=>true
  | d+1,k=>decide (meetAt p n i k=wantP n i k) && pairB p n i d (k+1)
def allB (p:List S40) (n:Nat):Nat→Nat→Bool
  | 0,_=>true
  | d+1,i=>pairB p n i (n - (i+1)) (i+1) && allB p n d (i+1)
def polyS (p:List S40):Bool:=decide (3≤p.length∧p.length≤10) && (p.all smallB && (adjB p p.length p.length 0 && allB p p.length p.length 0))
theorem ptA_small {p:List S40} (h:p.all smallB=true) (i:Nat):small (ptA p i):=by
  unfold ptA
  rw [List.getD_eq_getElem?_getD]
  cases e:p[i]? with
  | none=>exact ⟨by decide,by decide⟩
  | some x=>exact (smallB_iff x).mp (List.all_eq_true.mp h x (List.mem_of_getElem? e))
theorem nx_lt {n i:Nat} (h:0 < n):nx n i < n:=Nat.mod_lt _ h
theorem wrap_next (n i:Nat) (hi:i < 1000):Int.tmod (wrap64 ((i:Int)+1)) (n:Int)=((nx n i:Nat):Int):=by
  rw [wsucc i (by omega),tmodN];rfl
theorem sp_pairs (p:List S40) (hs:p.all smallB=true) (h3:3≤p.length) (h10:p.length≤10) (i:Nat) (hi:i < p.length) (r:Bool) (q z:Int) (hn:Ev (fun k=>spec_PolygonOk.l2 k p (p.length:Int) q (wrap64 (z+1))) r):∀ (d k:Nat),k+d=p.length→i < k →
    Ev (fun m=>spec_PolygonOk.l3 m p (p.length:Int) (i:Int) (k:Int) q z) (pairB p p.length i d k && r):=by
  intro d
  induction d with
  | zero =>
    intro k hk hik
    refine ev_shift ?_
    simp only [spec_PolygonOk.l3,pairB,Bool.true_and]
    exact ev_neg (by omega) hn
  | succ d ih =>
    intro k hk hik
    have a1:=nx_lt (n:=p.length) (i:=i) (by omega)
    have a2:=nx_lt (n:=p.length) (i:=k) (by omega)
    have hih:=ih (k+1) (by omega) (by omega)
    refine ev_shift ?_
    simp only [spec_PolygonOk.l3]
    rw [wrap_next p.length i (by omega),wrap_next p.length k (by omega),rd_ptA,rd_ptA,rd_ptA,rd_ptA]
    refine ev_pos (by omega) (ev_pos (by omega) (ev_pos (by omega) (ev_neg (by omega) (ev_pos (by omega) (ev_pos (by omega) (ev_pos (by omega) (ev_pos (by omega) (ev_pos (by omega) (ev_pos (by omega) (ev_bind (sp_meet (ptA_small hs i) (ptA_small hs _) (ptA_small hs k) (ptA_small hs _)) ?_))))))))))
    have hj:∀ b:Bool,b=decide (k=i+1∨(i=0∧k+1=p.length))→Ev (fun m=>spec_PolygonOk.j4 m p (p.length:Int) (i:Int) (k:Int) (meetP (ptA p i) (ptA p (nx p.length i)) (ptA p k) (ptA p (nx p.length k))) q z b) (pairB p p.length i (d+1) k && r):=by
      intro b hb
      refine ev_shift ?_
      simp only [spec_PolygonOk.j4,pairB]
      rw [wsucc k (by omega)]
      have hm:meetAt p p.length i k=meetP (ptA p i) (ptA p (nx p.length i)) (ptA p k) (ptA p (nx p.length k)):=rfl
      rw [hm]
      unfold wantP
      by_cases w:k=i+1∨(i=0∧k+1=p.length)
      · rw [decide_eq_true w] at hb
        subst hb
        rw [if_pos w]
        refine ev_pos rfl ?_
        by_cases g:meetP (ptA p i) (ptA p (nx p.length i)) (ptA p k) (ptA p (nx p.length k))=1
        · rw [decide_eq_true g,Bool.true_and]
          exact ev_pos g hih
        · rw [decide_eq_false g,Bool.false_and,Bool.false_and]
          exact ev_neg g (ev_now _)
      · rw [decide_eq_false w] at hb
        subst hb
        rw [if_neg w]
        refine ev_neg (by decide) ?_
        by_cases g:meetP (ptA p i) (ptA p (nx p.length i)) (ptA p k) (ptA p (nx p.length k))=0
        · rw [decide_eq_true g,Bool.true_and]
          exact ev_pos g hih
        · rw [decide_eq_false g,Bool.false_and,Bool.false_and]
          exact ev_neg g (ev_now _)
    rw [wsucc i (by omega)]
    by_cases w1:k=i+1
    · exact ev_pos (by omega) (hj true (by rw [decide_eq_true (Or.inl w1)]))
    · refine ev_neg (by omega) ?_
      by_cases w2:i=0
      · refine ev_pos (by omega) ?_
        have e:((k:Int) == wrap64 ((p.length:Int) - 1))=decide (k=i+1∨(i=0∧k+1=p.length)):=by
          rw [w64 (by omega) (by omega)]
          by_cases w3:k+1=p.length
          · rw [decide_eq_true (Or.inr ⟨w2,w3⟩)]
            exact beq_iff_eq.mpr (by omega)
          · rw [decide_eq_false (by omega)]
            exact beq_eq_false_iff_ne.mpr (by omega)
        exact hj _ e
      · exact ev_neg (by omega) (hj false (by rw [decide_eq_false (by omega)]))
theorem sp_all (p:List S40) (hs:p.all smallB=true) (h3:3≤p.length) (h10:p.length≤10):∀ (d i:Nat),i+d=p.length→Ev (fun m=>spec_PolygonOk.l2 m p (p.length:Int) (p.length:Int) (i:Int)) (allB p p.length d i):=by
  intro d
  induction d with
  | zero =>
    intro i hi
    refine ev_shift ?_
    simp only [spec_PolygonOk.l2,allB]
    exact ev_neg (by omega) (ev_now _)
  | succ d ih =>
    intro i hi
    have hih:=ih (i+1) (by omega)
    have hp:=sp_pairs p hs h3 h10 i (by omega) (allB p p.length d (i+1)) (p.length:Int) (i:Int) (by rw [wsucc i (by omega)];exact hih) (p.length - (i+1)) (i+1) (by omega) (by omega)
    refine ev_shift ?_
    simp only [spec_PolygonOk.l2,allB]
    rw [wsucc i (by omega)]
    exact ev_pos (by omega) hp
theorem sp_adj (p:List S40) (hs:p.all smallB=true) (h3:3≤p.length) (h10:p.length≤10):∀ (d i:Nat),i+d=p.length→Ev (fun m=>spec_PolygonOk.l1 m p (p.length:Int) (p.length:Int) (i:Int)) (adjB p p.length d i && allB p p.length p.length 0):=by
  intro d
  induction d with
  | zero =>
    intro i hi
    refine ev_shift ?_
    simp only [spec_PolygonOk.l1,adjB,Bool.true_and]
    exact ev_neg (by omega) (sp_all p hs h3 h10 p.length 0 (by omega))
  | succ d ih =>
    intro i hi
    have hih:=ih (i+1) (by omega)
    have a1:=nx_lt (n:=p.length) (i:=i) (by omega)
    refine ev_shift ?_
    simp only [spec_PolygonOk.l1,adjB]
    rw [wrap_next p.length i (by omega),rd_ptA,rd_ptA,wsucc i (by omega)]
    refine ev_pos (by omega) (ev_pos (by omega) (ev_pos (by omega) (ev_neg (by omega) (ev_pos (by omega) (ev_pos (by omega) ?_)))))
    by_cases g:eqP (ptA p i) (ptA p (nx p.length i))=true
    · rw [g]
      exact ev_pos g (ev_now _)
    · rw [Bool.eq_false_iff.mpr g]
      exact ev_neg g hih
theorem sp_points (p:List S40) (hl:p.length≤1000) (r:Bool) (hr:p.all smallB=true→Ev (fun m=>spec_PolygonOk.l1 m p (p.length:Int) (p.length:Int) 0) r):∀ (suf pre:List S40),p=pre++suf→pre.all smallB=true →
    Ev (fun m=>spec_PolygonOk.l0 m p p (p.length:Int) (pre.length:Int)) (suf.all smallB && r):=by
  intro suf
  induction suf with
  | nil =>
    intro pre h ha
    obtain rfl:p=pre:=by simp [h]
    refine ev_shift ?_
    simp only [spec_PolygonOk.l0,List.all_nil,Bool.true_and]
    exact ev_neg (by omega) (hr ha)
  | cons x suf ih =>
    intro pre h ha
    have hlen:p.length=pre.length+(suf.length+1):=by rw [h];simp
    have hat:rd_T40 p (pre.length:Int)=x:=by rw [h];exact rdp_at2 pre suf x
    refine ev_shift ?_
    simp only [spec_PolygonOk.l0]
    rw [hat,wsucc _ (by omega)]
    refine ev_pos (by omega) (ev_pos (by omega) (ev_pos (by omega) (ev_bind0 (sp_point x) ?_)))
    rw [List.all_cons]
    by_cases c:smallB x=true
    · have hn:=ih (pre++[x]) (by simp [h]) (by rw [List.all_append,ha];simp [c])
      rw [List.length_append,List.length_singleton] at hn
      rw [c,Bool.true_and]
      exact ev_pos rfl hn
    · have c':smallB x=false:=Bool.eq_false_iff.mpr c
      rw [c',Bool.false_and,Bool.false_and]
      exact ev_neg (by decide) (ev_now _)
theorem sp_polygon (p:List S40):Ev (fun k=>spec_PolygonOk.f k p) (polyS p):=by
  unfold spec_PolygonOk.f polyS
  refine ev_bind0 (in_eq _ _ _) ?_
  by_cases c:3≤p.length∧p.length≤10
  · rw [decide_eq_true c,Bool.true_and]
    refine ev_pos (decide_eq_true (by omega)) ?_
    exact sp_points p (by omega) _ (fun hs=>sp_adj p hs c.1 c.2 p.length 0 (by omega)) p [] rfl rfl
  · rw [decide_eq_false c,Bool.false_and]
    exact ev_neg (by rw [decide_eq_false (by omega)];decide) (ev_now _)
theorem im_points_from (p:List S40) (hl:p.length≤1000):∀ (suf pre:List S40),p=pre++suf→Ev (fun m=>impl_arePoints.l0 m p (p.length:Int) (pre.length:Int)) (suf.all smallB):=by
  intro suf
  induction suf with
  | nil =>
    intro pre h
    obtain rfl:p=pre:=by simp [h]
    refine ev_shift ?_
    simp only [impl_arePoints.l0]
    exact ev_neg (by omega) (ev_now _)
  | cons x suf ih =>
    intro pre h
    have hlen:p.length=pre.length+(suf.length+1):=by rw [h];simp
    have hat:rd_T40 p (pre.length:Int)=x:=by rw [h];exact rdp_at2 pre suf x
    have hn:=ih (pre++[x]) (by simp [h])
    rw [List.length_append,List.length_singleton] at hn
    refine ev_shift ?_
    simp only [impl_arePoints.l0]
    rw [hat,wsucc _ (by omega)]
    refine ev_pos (by omega) (ev_pos (by omega) (ev_pos (by omega) (ev_bind0 (im_point x) ?_)))
    rw [List.all_cons]
    by_cases c:smallB x=true
    · rw [c,Bool.true_and]
      exact ev_pos rfl hn
    · have c':smallB x=false:=Bool.eq_false_iff.mpr c
      rw [c',Bool.false_and]
      exact ev_neg (by decide) (ev_now _)
def pairI (p:List S40) (n i:Nat):Nat→Nat→Bool
  | 0,_=>true
  | d+1,k=>!(eqP (ptA p i) (ptA p (i+1))) && (!(eqP (ptA p k) (ptA p (nx n k))) && (decide (meetP (ptA p i) (ptA p (i+1)) (ptA p k) (ptA p (nx n k))=wantP n i k) && pairI p n i d (k+1)))
def allI (p:List S40) (n:Nat):Nat→Nat→Bool
  | 0,_=>true
  | d+1,i=>pairI p n i (n - (i+1)) (i+1) && allI p n d (i+1)
theorem eqP_is (a b:S40):(a.f0 == b.f0 && a.f1 == b.f1)=eqP a b:=rfl
theorem im_pairs (p:List S40) (hs:p.all smallB=true) (h3:3≤p.length) (i:Nat):∀ (d k:Nat),k+d=p.length→Ev (fun m=>impl_PolygonOk.l1 m p i k) (pairI p p.length i d k):=by
  intro d
  induction d with
  | zero =>
    intro k hk
    refine ev_shift ?_
    simp only [impl_PolygonOk.l1,pairI]
    exact ev_neg (by omega) (ev_now _)
  | succ d ih =>
    intro k hk
    have hih:=ih (k+1) (by omega)
    refine ev_shift ?_
    simp only [impl_PolygonOk.l1,pairI]
    rw [rd_ptA,rd_ptA,rd_ptA,rd_ptA,eqP_is,eqP_is]
    have en:ptA p ((k+1) % p.length)=ptA p (nx p.length k):=rfl
    rw [en]
    refine ev_pos (by omega) ?_
    by_cases c1:eqP (ptA p i) (ptA p (i+1))=true
    · rw [c1]
      exact ev_pos rfl (ev_now _)
    · have c1':eqP (ptA p i) (ptA p (i+1))=false:=Bool.eq_false_iff.mpr c1
      rw [c1']
      refine ev_neg (by decide) ?_
      by_cases c2:eqP (ptA p k) (ptA p (nx p.length k))=true
      · rw [c2]
        exact ev_pos rfl (ev_now _)
      · have c2':eqP (ptA p k) (ptA p (nx p.length k))=false:=Bool.eq_false_iff.mpr c2
        rw [c2']
        refine ev_neg (by decide) (ev_bind (im_meet (ptA_small hs _) (ptA_small hs _) (ptA_small hs _) (ptA_small hs _)) ?_)
        have hw:(if k=i+1∨(i=0∧k+1=p.length) then (1:Int) else 0)=wantP p.length i k:=rfl
        rw [hw]
        by_cases c3:meetP (ptA p i) (ptA p (i+1)) (ptA p k) (ptA p (nx p.length k))=wantP p.length i k
        · rw [decide_eq_true c3]
          simpa using ev_pos c3 hih
        · rw [decide_eq_false c3]
          simpa using ev_neg c3 (ev_now _)
theorem im_all (p:List S40) (hs:p.all smallB=true) (h3:3≤p.length):∀ (d i:Nat),i+d=p.length→Ev (fun m=>impl_PolygonOk.l0 m p i) (allI p p.length d i):=by
  intro d
  induction d with
  | zero =>
    intro i hi
    refine ev_shift ?_
    simp only [impl_PolygonOk.l0,allI]
    exact ev_neg (by omega) (ev_now _)
  | succ d ih =>
    intro i hi
    have hih:=ih (i+1) (by omega)
    refine ev_shift ?_
    simp only [impl_PolygonOk.l0,allI]
    refine ev_pos (by omega) (ev_bind (im_pairs p hs h3 i (p.length - (i+1)) (i+1) (by omega)) ?_)
    by_cases c:pairI p p.length i (p.length - (i+1)) (i+1)=true
    · rw [c,Bool.true_and]
      exact ev_pos rfl hih
    · have c':=Bool.eq_false_iff.mpr c
      rw [c',Bool.false_and]
      exact ev_neg (by decide) (ev_now _)
theorem pairI_iff (p:List S40) (n i:Nat):∀ (d k:Nat),pairI p n i d k=true ↔ ∀ j,k≤j→j < k+d→ptA p i≠ptA p (i+1)∧ptA p j≠ptA p (nx n j)∧meetP (ptA p i) (ptA p (i+1)) (ptA p j) (ptA p (nx n j))=wantP n i j:=by
  intro d
  induction d with
  | zero=>intro k;exact ⟨fun _ j h1 h2=>by omega,fun _=>rfl⟩
  | succ d ih =>
    intro k
    have ne:∀ a b:S40,(!(eqP a b))=true ↔ a≠b:=fun a b=>by
      rw [Bool.not_eq_true',Bool.eq_false_iff,ne_eq,eqP_iff]
    simp only [pairI,Bool.and_eq_true]
    rw [ne,ne,ih,decide_eq_true_eq]
    constructor
    · rintro ⟨h1,h2,h3,h4⟩ j hj1 hj2
      by_cases e:j=k
      · subst e;exact ⟨h1,h2,h3⟩
      · exact h4 j (by omega) (by omega)
    · intro h
      obtain ⟨h1,h2,h3⟩:=h k (by omega) (by omega)
      exact ⟨h1,h2,h3,fun j hj1 hj2=>h j (by omega) (by omega)⟩
theorem allI_iff (p:List S40) (n:Nat):∀ (d i:Nat),i+d=n→(allI p n d i=true ↔ ∀ j k,i≤j→j < k→k < n→ptA p j≠ptA p (j+1)∧ptA p k≠ptA p (nx n k)∧meetP (ptA p j) (ptA p (j+1)) (ptA p k) (ptA p (nx n k))=wantP n j k):=by
  intro d
  induction d with
  | zero=>intro i hi;exact ⟨fun _ j k h1 h2 h3=>by omega,fun _=>rfl⟩
  | succ d ih =>
    intro i hi
    simp only [allI,Bool.and_eq_true]
    rw [pairI_iff,ih (i+1) (by omega)]
    constructor
    · rintro ⟨h1,h2⟩ j k hj hk hn
      by_cases e:j=i
      · subst e;exact h1 k (by omega) (by omega)
      · exact h2 j k (by omega) hk hn
    · intro h
      exact ⟨fun k h1 h2=>h i k (by omega) (by omega) (by omega),fun j k h1 h2 h3=>h j k (by omega) h2 h3⟩
theorem adjB_iff (p:List S40) (n:Nat):∀ (d i:Nat),adjB p n d i=true ↔ ∀ j,i≤j→j < i+d→ptA p j≠ptA p (nx n j):=by
  intro d
  induction d with
  | zero=>intro i;exact ⟨fun _ j h1 h2=>by omega,fun _=>rfl⟩
  | succ d ih =>
    intro i
    have ne:∀ a b:S40,(!(eqP a b))=true ↔ a≠b:=fun a b=>by
      rw [Bool.not_eq_true',Bool.eq_false_iff,ne_eq,eqP_iff]
    simp only [adjB,Bool.and_eq_true]
    rw [ne,ih]
    constructor
    · rintro ⟨h1,h2⟩ j hj1 hj2
      by_cases e:j=i
      · subst e;exact h1
      · exact h2 j (by omega) (by omega)
    · intro h
      exact ⟨h i (by omega) (by omega),fun j h1 h2=>h j (by omega) (by omega)⟩
theorem pairB_iff (p:List S40) (n i:Nat):∀ (d k:Nat),pairB p n i d k=true ↔ ∀ j,k≤j→j < k+d→meetAt p n i j=wantP n i j:=by
  intro d
  induction d with
  | zero=>intro k;exact ⟨fun _ j h1 h2=>by omega,fun _=>rfl⟩
  | succ d ih =>
    intro k
    simp only [pairB,Bool.and_eq_true]
    rw [ih,decide_eq_true_eq]
    constructor
    · rintro ⟨h1,h2⟩ j hj1 hj2
      by_cases e:j=k
      · subst e;exact h1
      · exact h2 j (by omega) (by omega)
    · intro h
      exact ⟨h k (by omega) (by omega),fun j h1 h2=>h j (by omega) (by omega)⟩
theorem allB_iff (p:List S40) (n:Nat):∀ (d i:Nat),i+d=n→(allB p n d i=true ↔ ∀ j k,i≤j→j < k→k < n→meetAt p n j k=wantP n j k):=by
  intro d
  induction d with
  | zero=>intro i hi;exact ⟨fun _ j k h1 h2 h3=>by omega,fun _=>rfl⟩
  | succ d ih =>
    intro i hi
    simp only [allB,Bool.and_eq_true]
    rw [pairB_iff,ih (i+1) (by omega)]
    constructor
    · rintro ⟨h1,h2⟩ j k hj hk hn
      by_cases e:j=i
      · subst e;exact h1 k (by omega) (by omega)
      · exact h2 j k (by omega) hk hn
    · intro h
      exact ⟨fun k h1 h2=>h i k (by omega) (by omega) (by omega),fun j k h1 h2 h3=>h j k (by omega) h2 h3⟩
theorem poly_eq (p:List S40) (h3:3≤p.length):(adjB p p.length p.length 0 && allB p p.length p.length 0)=allI p p.length p.length 0:=by
  have nxs:∀ j,j+1 < p.length→nx p.length j=j+1:=fun j hj=>Nat.mod_eq_of_lt hj
  rw [Bool.eq_iff_iff,Bool.and_eq_true,adjB_iff,allB_iff p p.length p.length 0 (by omega),allI_iff p p.length p.length 0 (by omega)]
  constructor
  · rintro ⟨h1,h2⟩ j k _ hk hn
    have a1:=h1 j (by omega) (by omega)
    have a2:=h2 j k (by omega) hk hn
    unfold meetAt at a2
    rw [nxs j (by omega)] at a1 a2
    exact ⟨a1,h1 k (by omega) (by omega),a2⟩
  · intro h
    refine ⟨fun j _ hj=>?_,fun j k _ hk hn=>?_⟩
    · by_cases e:j=0
      · subst e
        rw [nxs 0 (by omega)]
        exact (h 0 1 (by omega) (by omega) (by omega)).1
      · exact (h 0 j (by omega) (by omega) (by omega)).2.1
    · unfold meetAt
      rw [nxs j (by omega)]
      exact (h j k (by omega) hk hn).2.2
theorem im_polygon (p:List S40):Ev (fun k=>impl_PolygonOk.f k p) (polyS p):=by
  unfold impl_PolygonOk.f polyS
  by_cases c1:p.length < 3
  · rw [decide_eq_false (by omega),Bool.false_and]
    exact ev_pos c1 (ev_now _)
  · by_cases c2:p.length > 10
    · rw [decide_eq_false (by omega),Bool.false_and]
      exact ev_neg c1 (ev_pos c2 (ev_now _))
    · rw [decide_eq_true (show 3≤p.length∧p.length≤10 by omega),Bool.true_and]
      have hp:Ev (fun k=>impl_arePoints.f k p) (p.all smallB):=by
        unfold impl_arePoints.f
        exact im_points_from p (by omega) p [] rfl
      refine ev_neg c1 (ev_neg c2 (ev_bind hp ?_))
      by_cases c3:p.all smallB=true
      · rw [c3,Bool.true_and,poly_eq p (by omega)]
        exact ev_pos rfl (im_all p c3 (by omega) p.length 0 (by omega))
      · rw [Bool.eq_false_iff.mpr c3,Bool.false_and]
        exact ev_neg (by decide) (ev_now _)
/-! The program's measures are the reference's. -/
theorem turn_im (l:List S40) (h0:l≠[]) (hl:l.length≤900):impl_turned.f l=some (turnP l):=by
  cases l with
  | nil=>exact absurd rfl h0
  | cons x l =>
    unfold impl_turned.f turnP
    rw [List.length_cons] at hl
    exact if_pos (by omega)
theorem fits_dir (x y:Int) (hx : -1000≤x∧x≤1000) (hy : -1000≤y∧y≤1000) (hne:¬ (x=0∧y=0)):mFits (dirOf x y):=by
  have D:=dir_ok x y (by omega) (by omega) hne
  have x2:=D.x2
  have y2:=D.y2
  have g1:=D.g1
  have g2:=D.g2
  unfold mFits dirOf
  rcases dirS_one x y with e|e
  · rw [e]
    simp only [Int.one_mul]
    omega
  · rw [e]
    simp only [Int.neg_mul,Int.one_mul]
    omega
theorem meas_from (l:List S40) (hl:l.length≤900) (hc:∀ p ∈ l,(-500≤p.f0∧p.f0≤500)∧-500≤p.f1∧p.f1≤500) (ha:apartP l):∀ (d i:Nat) (L:List (Int × Int × Int)),i+d=l.length→Ev (fun k=>impl_measures.l0 k l d i L) ((foldM L ((sidesOf l).drop i)).map enc3):=by
  intro d
  induction d with
  | zero =>
    intro i L h
    rw [List.drop_eq_nil_of_le (by unfold sidesOf;rw [List.length_map,List.length_range];omega)]
    unfold impl_measures.l0
    exact ev_now _
  | succ d ih =>
    intro i L h
    have hi:i < l.length:=by omega
    have hs:(sidesOf l).drop i=sideAt l i :: (sidesOf l).drop (i+1):=by
      rw [List.drop_eq_getElem_cons (by unfold sidesOf;rw [List.length_map,List.length_range];exact hi)]
      congr 1
      unfold sidesOf
      simp
    have hm:sideAt l i ∈ sidesOf l:=List.mem_map.2 ⟨i,List.mem_range.2 hi,rfl⟩
    have hb:=sidesOf_bnd l hc _ hm
    have hn:=ha _ hm
    rw [hs]
    unfold impl_measures.l0
    unfold sideAt at hb hn ⊢
    simp only at hb hn ⊢
    have hd:=dirOf_ev (rd_T40 l (i:Int)).f0 (rd_T40 l (i:Int)).f1 (rd_T40 l (((i+1) % l.length:Nat):Int)).f0 (rd_T40 l (((i+1) % l.length:Nat):Int)).f1 (by omega) (by omega) hn
    refine ev_bind hd (ev_pos (fits_dir _ _ hb.1 hb.2 hn) ?_)
    exact ih (i+1) (mPut (dirOf _ _) L) (by omega)
theorem meas_ev (l:List S40) (h0:l≠[]) (hl:l.length≤900) (hc:∀ p ∈ l,(-500≤p.f0∧p.f0≤500)∧-500≤p.f1∧p.f1≤500) (ha:apartP (leftP l)):Ev (fun k=>impl_measures.f k l) ((foldM [] (sidesOf (leftP l))).map enc3):=by
  have hl':(leftP l).length≤900:=by rw [leftP_len];exact hl
  have hc':∀ p ∈ leftP l,(-500≤p.f0∧p.f0≤500)∧-500≤p.f1∧p.f1≤500:=fun p hp=>hc p (leftP_mem l p hp)
  have g:Ev (fun k=>impl_measures.g k (leftP l)) ((foldM [] (sidesOf (leftP l))).map enc3):=by
    unfold impl_measures.g
    exact ev_pos hl' (meas_from (leftP l) hl' hc' ha (leftP l).length 0 [] (by omega))
  unfold impl_measures.f
  refine ev_bind (twI_ev l hl hc) ?_
  by_cases c:twS l l.length < 0
  · have e:leftP l=turnP l:=if_pos c
    rw [e] at g
    rw [e]
    exact ev_pos c (ev_bind0 (turn_im l h0 hl) g)
  · have e:leftP l=l:=if_neg c
    rw [e] at g
    rw [e]
    exact ev_neg c g
theorem side_pt (p:List S40) (i:Nat):sideAt p i=((ptA p (nx p.length i)).f0 - (ptA p i).f0,(ptA p (nx p.length i)).f1 - (ptA p i).f1):=by
  unfold sideAt nx
  rw [rd_ptA,rd_ptA]
theorem apart_of (p:List S40) (h:∀ j,j < p.length→ptA p j≠ptA p (nx p.length j)):apartP p:=by
  intro s hs ⟨e1,e2⟩
  obtain ⟨i,hi,rfl⟩:=List.mem_map.1 hs
  have hi:=List.mem_range.1 hi
  rw [side_pt] at e1 e2
  simp only at e1 e2
  refine h i hi ?_
  cases hA:ptA p i
  cases hB:ptA p (nx p.length i)
  rw [hA,hB] at e1 e2
  simp only at e1 e2
  congr 1 <;> omega
theorem turn_at (p:List S40) (i:Nat) (hi:i < p.length):ptA (turnP p) i=ptA p ((p.length - i) % p.length):=by
  cases p with
  | nil=>simp at hi
  | cons x l =>
    unfold turnP ptA
    cases i with
    | zero=>simp
    | succ j =>
      rw [List.length_cons] at hi
      rw [Nat.mod_eq_of_lt (by rw [List.length_cons];omega),List.length_cons,show l.length+1 - (j+1)=(l.length - 1 - j)+1 from by omega]
      simp only [List.getD_eq_getElem?_getD,List.getElem?_cons_succ]
      rw [List.getElem?_reverse (by omega)]
theorem turn_apart (p:List S40) (h:∀ j,j < p.length→ptA p j≠ptA p (nx p.length j)):apartP (turnP p):=by
  refine apart_of _ (fun j hj=>?_)
  rw [turnP_len] at hj ⊢
  have hn:nx p.length j < p.length:=Nat.mod_lt _ (by omega)
  rw [turn_at p j hj,turn_at p _ hn]
  intro e
  have e1:(p.length - j) % p.length=nx p.length (p.length - 1 - j):=by
    unfold nx
    rw [show p.length - 1 - j+1=p.length - j from by omega]
  have e2:(p.length - nx p.length j) % p.length=p.length - 1 - j:=by
    unfold nx
    by_cases c:j+1=p.length
    · rw [c,Nat.mod_self,Nat.sub_zero,Nat.mod_self]
      omega
    · rw [Nat.mod_eq_of_lt (show j+1 < p.length by omega),Nat.mod_eq_of_lt (by omega)]
      omega
  rw [e1,e2] at e
  exact h (p.length - 1 - j) (by omega) e.symm
/-- What a good polygon gives the measures. -/
theorem poly_meas (p:List S40) (h:polyS p=true):p≠[]∧p.length≤10∧(∀ q ∈ p,(0≤q.f0∧q.f0≤40)∧0≤q.f1∧q.f1≤40)∧apartP (leftP p):=by
  unfold polyS at h
  simp only [Bool.and_eq_true,decide_eq_true_eq] at h
  obtain ⟨⟨h3,h10⟩,hs,ha,_⟩:=h
  have hadj:=(adjB_iff p p.length p.length 0).mp ha
  have hA:∀ j,j < p.length→ptA p j≠ptA p (nx p.length j):=fun j hj=>hadj j (Nat.zero_le _) (by omega)
  refine ⟨fun e=>by rw [e] at h3;simp at h3,h10,fun q hq=>(smallB_iff q).mp (List.all_eq_true.mp hs q hq),?_⟩
  unfold leftP
  split
  · exact turn_apart p hA
  · exact apart_of p hA
theorem both_meas (p:List S40) (h:polyS p=true):Ev (fun k=>spec_l07All.f k p) ((foldM [] (sidesOf (leftP p))).map enc3)∧Ev (fun k=>impl_measures.f k p) ((foldM [] (sidesOf (leftP p))).map enc3):=by
  obtain ⟨h0,hl,hc,ha⟩:=poly_meas p h
  exact ⟨all7_ev p h0 (by omega) (fun q hq=>by have:=hc q hq;omega) ha,meas_ev p h0 (by omega) (fun q hq=>by have:=hc q hq;omega) ha⟩
theorem foldM_len:∀ (sd:List (Int × Int)) (L:List (Int × Int × Int)),(foldM L sd).length≤L.length+sd.length
  | [],L=>Nat.le_refl _
  | s :: sd,L=>by
    have h1:=foldM_len sd (mPut (dirOf s.1 s.2) L)
    have h2:=mPut_len (dirOf s.1 s.2) L
    show (foldM (mPut (dirOf s.1 s.2) L) sd).length≤_
    rw [List.length_cons]
    omega
/-! The law's own copies of its points (S42) as the program's (S40). -/
def cvP (q:S42):S40:=⟨q.f0,q.f1⟩
theorem topts_from (l:List S42) (hl:l.length≤2000000):∀ (suf pre:List S42),l=pre++suf→Ev (fun k=>laws_toPointS.l0 k l (pre.map cvP++List.replicate suf.length z40) (pre.length:Int)) (l.map cvP):=by
  intro suf
  induction suf with
  | nil =>
    intro pre h
    obtain rfl:l=pre:=by simp [h]
    refine ev_shift ?_
    simp only [laws_toPointS.l0]
    exact ev_neg (by omega) (ev_eq (ev_now _) (by simp))
  | cons x suf ih =>
    intro pre h
    have hlen:l.length=pre.length+(suf.length+1):=by rw [h];simp
    have hr:rd_T42 l (pre.length:Int)=x:=by rw [h];simp [rd_T42,List.getD_eq_getElem?_getD]
    have hn:=ih (pre++[x]) (by simp [h])
    rw [List.length_append,List.length_singleton,List.map_append] at hn
    have hset:(pre.map cvP++List.replicate (x :: suf).length z40).set pre.length (cvP x)=pre.map cvP++[x].map cvP++List.replicate suf.length z40:=by
      rw [List.length_cons,List.replicate_succ]
      have e:pre.length=(pre.map cvP).length:=by simp
      rw [e,List.set_append_right _ _ (Nat.le_refl _),Nat.sub_self]
      simp
    refine ev_shift ?_
    simp only [laws_toPointS.l0,laws_toPoint.f]
    rw [hr,wsucc _ (by omega),Int.toNat_natCast]
    refine ev_pos (by omega) (ev_pos (by omega) (ev_bind0 rfl (ev_pos (by simp;omega) ?_)))
    have e2:(⟨x.f0,x.f1⟩ : S40)=cvP x:=rfl
    rw [e2,hset]
    exact hn
theorem topts_ev (l:List S42) (hl:l.length≤2000000):Ev (fun k=>laws_toPointS.f k l) (l.map cvP):=by
  unfold laws_toPointS.f
  rw [Int.toNat_natCast]
  refine ev_pos (by omega) (ev_pos (by omega) ?_)
  have:=topts_from l hl l [] rfl
  simpa using this
theorem eqpts_from (l:List S40) (hl:l.length≤2000000):∀ (suf pre:List S40),l=pre++suf→Ev (fun k=>laws_eqPointS.l0 k l l (pre.length:Int)) true:=by
  intro suf
  induction suf with
  | nil =>
    intro pre h
    obtain rfl:l=pre:=by simp [h]
    refine ev_shift ?_
    simp only [laws_eqPointS.l0]
    exact ev_neg (by omega) (ev_now _)
  | cons x suf ih =>
    intro pre h
    have hlen:l.length=pre.length+(suf.length+1):=by rw [h];simp
    have hn:=ih (pre++[x]) (by simp [h])
    rw [List.length_append,List.length_singleton] at hn
    refine ev_shift ?_
    simp only [laws_eqPointS.l0]
    rw [wsucc _ (by omega)]
    refine ev_pos (by omega) (ev_pos (by omega) (ev_pos (by omega) (ev_bind0 (a:=true) ?_ (ev_pos rfl hn))))
    unfold laws_eqPoint.f
    rw [if_pos rfl,if_pos rfl]
theorem eqpts_refl (l:List S40) (hl:l.length≤2000000):Ev (fun k=>laws_eqPointS.f k l l) true:=by
  unfold laws_eqPointS.f
  exact ev_pos rfl (eqpts_from l hl l [] rfl)
theorem rdp_at (l:List S40) (i:Nat):rd_T40 l (i:Int)=l.getD i z40:=by simp [rd_T40]
theorem markPointS_from (n:Nat) (hn:(n:Int)≤1152921504606846976) (d:Nat):∀ (l:List S40) (i:Nat),l.length=n→n - i≤d→i≤n→(∀ j:Nat,j < i→l.getD j z40=⟨1+2 * j,2+2 * j⟩) →
    ∃ l',Ev (fun k=>laws_markPointS.l0 k l (1+2 * (i:Int)) i) (1+2 * (n:Int),l')∧l'.length=n∧∀ j:Nat,j < n→l'.getD j z40=⟨1+2 * j,2+2 * j⟩:=by
  induction d with
  | zero =>
    intro l i hl hd hi hm
    refine ⟨l,ev_shift ?_,hl,fun j hj=>hm j (by omega)⟩
    simp only [laws_markPointS.l0]
    obtain rfl:i=n:=by omega
    exact ev_neg (by omega) (ev_now _)
  | succ d ih =>
    intro l i hl hd hi hm
    by_cases h:i < n
    · obtain ⟨l',hl',h1,h2⟩:=ih ((l.set i ⟨1+2 * i,(rd_T40 l i).f1⟩).set i ⟨(rd_T40 (l.set i ⟨1+2 * i,(rd_T40 l i).f1⟩) i).f0,2+2 * i⟩) (i+1) (by simpa using hl) (by omega) (by omega) (by
        intro j hj
        by_cases e:i=j
        · subst e
          rw [List.getD_eq_getElem?_getD,List.getElem?_set,if_pos rfl,if_pos (by simp;omega),rdp_at,List.getD_eq_getElem?_getD,List.getElem?_set,if_pos rfl,if_pos (by omega)]
          rfl
        · rw [List.getD_eq_getElem?_getD,List.getElem?_set,if_neg e,List.getElem?_set,if_neg e,← List.getD_eq_getElem?_getD];exact hm j (by omega))
      refine ⟨l',ev_shift ?_,h1,h2⟩
      simp only [laws_markPointS.l0]
      refine ev_pos (by omega) (ev_pos (by omega) (ev_bind0 rfl ?_))
      have e3:((i:Int)).toNat=i:=by omega
      have e4:wrap64 (1+2 * (i:Int)+1)=2+2 * (i:Int):=by rw [w64 (by omega) (by omega)];omega
      have e5:wrap64 (2+2 * (i:Int)+1)=1+2 * ((i+1:Nat):Int):=by rw [w64 (by omega) (by omega)];omega
      have e6:wrap64 ((i:Int)+1)=((i+1:Nat):Int):=by rw [w64 (by omega) (by omega)];omega
      rw [e4,e5,e6,e3]
      exact hl'
    · obtain rfl:i=n:=by omega
      refine ⟨l,ev_shift ?_,hl,fun j hj=>hm j (by omega)⟩
      simp only [laws_markPointS.l0]
      exact ev_neg (by omega) (ev_now _)
theorem eqIntS_from (l:List Int) (hl:(l.length:Int)≤4611686018427387904) (d:Nat):∀ i:Int,0≤i→(l.length:Int) - i≤d→Ev (fun k=>laws_eqIntS.l0 k l l i) true:=by
  induction d with
  | zero =>
    intro i h0 hd
    refine ev_shift ?_
    simp only [laws_eqIntS.l0]
    exact ev_neg (by omega) (ev_now _)
  | succ d ih =>
    intro i h0 hd
    refine ev_shift ?_
    simp only [laws_eqIntS.l0,if_true]
    by_cases hi:i < (l.length:Int)
    · refine ev_pos hi (ev_pos h0 (ev_pos hi ?_))
      rw [w64 (by omega) (by omega)]
      exact ih _ (by omega) (by omega)
    · exact ev_neg hi (ev_now _)
theorem eqIntS_refl (l:List Int) (hl:(l.length:Int)≤4611686018427387904):Ev (fun k=>laws_eqIntS.f k l l) true:=by
  unfold laws_eqIntS.f
  exact ev_pos rfl (eqIntS_from l hl l.length 0 (by omega) (by omega))
/-! A row is marked from c on, and holds its marks. -/
theorem mark_from (n:Nat) (hn:(n:Int)≤1000000000000) (c:Int) (hc:0≤c) (hc':c≤1000000000000) (d:Nat):∀ (l:List Int) (i:Nat),l.length=n→n - i≤d→i≤n→(∀ j,j < i→l.getD j 0=c+j) →
    ∃ l',Ev (fun k=>laws_markIntS.l0 k l (c+i) i) (c+(n:Int),l')∧l'.length=n∧∀ j,j < n→l'.getD j 0=c+j:=by
  induction d with
  | zero =>
    intro l i hl hd hi hm
    refine ⟨l,ev_shift ?_,hl,fun j hj=>hm j (by omega)⟩
    simp only [laws_markIntS.l0]
    obtain rfl:i=n:=by omega
    exact ev_neg (by omega) (ev_now _)
  | succ d ih =>
    intro l i hl hd hi hm
    by_cases h:i < n
    · obtain ⟨l',hl',h1,h2⟩:=ih (l.set i (c+i)) (i+1) (by simpa using hl) (by omega) (by omega) (by
        intro j hj
        rw [List.getD_eq_getElem?_getD,List.getElem?_set]
        by_cases e:i=j
        · subst e;rw [if_pos rfl,if_pos (by omega)];rfl
        · rw [if_neg e,← List.getD_eq_getElem?_getD];exact hm j (by omega))
      refine ⟨l',ev_shift ?_,h1,h2⟩
      simp only [laws_markIntS.l0]
      refine ev_pos (by omega) (ev_pos (by omega) ?_)
      rw [w64 (by omega) (by omega),w64 (by omega) (by omega)]
      have e1:(c+(i:Int)+1)=c+((i+1:Nat):Int):=by omega
      have e2:((i:Int)+1)=((i+1:Nat):Int):=by omega
      have e3:((i:Int)).toNat=i:=by omega
      rw [e1,e2,e3];exact hl'
    · obtain rfl:i=n:=by omega
      refine ⟨l,ev_shift ?_,hl,fun j hj=>hm j (by omega)⟩
      simp only [laws_markIntS.l0]
      exact ev_neg (by omega) (ev_now _)
theorem held_from (n:Nat) (hn:(n:Int)≤1000000000000) (c:Int) (hc:0≤c) (hc':c≤1000000000000) (l:List Int) (hl:l.length=n) (hm:∀ j,j < n→l.getD j 0=c+j) (d:Nat):∀ i:Nat,i≤n→n - i≤d →
    Ev (fun k=>laws_heldIntS.l0 k l (c+i) i) (c+(n:Int)):=by
  induction d with
  | zero =>
    intro i hi hd
    refine ev_shift ?_
    simp only [laws_heldIntS.l0]
    obtain rfl:i=n:=by omega
    exact ev_neg (by omega) (ev_now _)
  | succ d ih =>
    intro i hi hd
    refine ev_shift ?_
    simp only [laws_heldIntS.l0]
    by_cases h:i < n
    · have hr:rd l (i:Int)=l.getD i 0:=by simp [rd]
      refine ev_pos (by omega) (ev_pos (by omega) (ev_pos (by rw [hr];exact hm i h) ?_))
      rw [w64 (by omega) (by omega),w64 (by omega) (by omega)]
      have e1:(c+(i:Int)+1)=c+((i+1:Nat):Int):=by omega
      have e2:((i:Int)+1)=((i+1:Nat):Int):=by omega
      rw [e1,e2];exact ih (i+1) (by omega) (by omega)
    · obtain rfl:i=n:=by omega
      exact ev_neg (by omega) (ev_now _)
theorem markHeld (l:List Int) (hl:(l.length:Int)≤1000000000000) (c:Int) (hc:0≤c) (hc':c≤1000000000000) :
    ∃ l',Ev (fun k=>laws_markIntS.f k l c) (c+(l.length:Int),l')∧Ev (fun k=>laws_heldIntS.f k l' c) (c+(l.length:Int)):=by
  obtain ⟨l',h1,h2,h3⟩:=mark_from l.length hl c hc hc' l.length l 0 rfl (by omega) (by omega) (fun j hj=>by omega)
  refine ⟨l',?_,?_⟩
  · unfold laws_markIntS.f
    simpa using h1
  · have:=held_from l.length hl c hc hc' l' h2 h3 l.length 0 (by omega) (by omega)
    unfold laws_heldIntS.f
    simpa using this
/-! Rows of rows: told alike, marked, held. -/
theorem row_at (l:List (List Int)) (i:Nat):rd_L3 l (i:Int)=l.getD i []:=by simp [rd_L3]
theorem row_mem (l:List (List Int)) (B:Nat) (hrow:∀ w ∈ l,w.length≤B) (i:Nat):(l.getD i []).length≤B:=by
  rw [List.getD_eq_getElem?_getD]
  cases h:l[i]? with
  | none=>simp
  | some w=>exact hrow w (List.mem_of_getElem? h)
theorem eqRows_from (l:List (List Int)) (hl:l.length≤1000000) (hrow:∀ w ∈ l,w.length≤1048576) (d:Nat):∀ i:Nat,l.length - i≤d→i≤l.length→Ev (fun k=>laws_eqIntSS.l0 k l l i) true:=by
  induction d with
  | zero =>
    intro i hd hi
    refine ev_shift ?_
    simp only [laws_eqIntSS.l0]
    exact ev_neg (by omega) (ev_now _)
  | succ d ih =>
    intro i hd hi
    refine ev_shift ?_
    simp only [laws_eqIntSS.l0]
    by_cases h:i < l.length
    · have hw:=row_mem l 1048576 hrow i
      rw [row_at]
      have hh:=ih (i+1) (by omega) (by omega)
      have hnx:=wsucc i (by omega)
      rw [← hnx] at hh
      clear hnx
      exact ev_pos (by omega) (ev_pos (by omega) (ev_pos (by omega) (ev_bind (eqIntS_refl _ (by omega)) (ev_pos rfl hh))))
    · exact ev_neg (by omega) (ev_now _)
theorem eqRows_refl (l:List (List Int)) (hl:l.length≤1000000) (hrow:∀ w ∈ l,w.length≤1048576):Ev (fun k=>laws_eqIntSS.f k l l) true:=by
  unfold laws_eqIntSS.f
  exact ev_pos rfl (eqRows_from l hl hrow l.length 0 (by omega) (by omega))
theorem held_shift (rows:List (List Int)) (i:Nat) (hi:i < 1000000000) (m m1 r:Int) (h:i < rows.length) (hm:0≤m1) (h1:Ev (fun k=>laws_heldIntS.f k (rows.getD i []) m) m1) (h2:Ev (fun k=>laws_heldIntSS.l0 k rows m1 ((i+1:Nat):Int)) r):Ev (fun k=>laws_heldIntSS.l0 k rows m (i:Int)) r:=by
  refine ev_shift ?_
  simp only [laws_heldIntSS.l0]
  rw [row_at,wsucc i (by omega)]
  exact ev_pos (by omega) (ev_pos (by omega) (ev_bind h1 (ev_neg (by omega) h2)))
theorem markRows_from (d:Nat):∀ (rows:List (List Int)) (i:Nat) (m:Int),i+d=rows.length→rows.length≤1000000→(∀ w ∈ rows,w.length≤1000)→0≤m→m≤1+1000 * (i:Int) →
    ∃ (m':Int) (rows':List (List Int)),Ev (fun k=>laws_markIntSS.l0 k d rows i m) (m',rows')∧rows'.length=rows.length∧(∀ j,j < i→rows'.getD j []=rows.getD j [])∧0≤m'∧Ev (fun k=>laws_heldIntSS.l0 k rows' m (i:Int)) m':=by
  induction d with
  | zero =>
    intro rows i m hd hl hw h0 hb
    refine ⟨m,rows,?_,rfl,fun _ _=>rfl,h0,?_⟩
    · unfold laws_markIntSS.l0
      exact ev_now _
    · refine ev_shift ?_
      simp only [laws_heldIntSS.l0]
      exact ev_neg (by omega) (ev_now _)
  | succ d ih =>
    intro rows i m hd hl hw h0 hb
    have hwi:=row_mem rows 1000 hw i
    obtain ⟨x',h1,h2⟩:=markHeld (rows.getD i []) (by omega) m h0 (by omega)
    have hx:x'.length=(rows.getD i []).length:=by
      obtain ⟨l',e1,e2,_⟩:=mark_from (rows.getD i []).length (by omega) m h0 (by omega) (rows.getD i []).length (rows.getD i []) 0 rfl (by omega) (by omega) (fun j hj=>by omega)
      have e3:Ev (fun k=>laws_markIntS.f k (rows.getD i []) m) (m+((rows.getD i []).length:Int),l'):=by
        unfold laws_markIntS.f
        simpa using e1
      have e4:=ev_uniq h1 e3
      injection e4 with _ e5
      rw [e5]
      exact e2
    obtain ⟨m',rows',g1,g2,g3,g4,g5⟩:=ih (rows.set i x') (i+1) (m+((rows.getD i []).length:Int)) (by rw [List.length_set];omega) (by rw [List.length_set];exact hl) (fun w hw'=>by
      rcases List.mem_or_eq_of_mem_set hw' with q|q
      · exact hw w q
      · rw [q,hx];exact hwi) (by omega) (by omega)
    rw [List.length_set] at g2
    have hat:rows'.getD i []=x':=by
      rw [g3 i (by omega),List.getD_eq_getElem?_getD,List.getElem?_set,if_pos rfl,if_pos (by omega)]
      rfl
    refine ⟨m',rows',?_,g2,fun j hj=>?_,g4,?_⟩
    · unfold laws_markIntSS.l0
      exact ev_bind h1 g1
    · rw [g3 j (by omega),List.getD_eq_getElem?_getD,List.getElem?_set,if_neg (by omega),← List.getD_eq_getElem?_getD]
    · refine held_shift rows' i (by omega) m (m+((rows.getD i []).length:Int)) m' (by omega) (by omega) ?_ g5
      rw [hat]
      exact h2
theorem markRows (l:List (List Int)) (hl:l.length≤1000000) (hrow:∀ w ∈ l,w.length≤1000) :
    ∃ (m:Int) (l':List (List Int)),Ev (fun k=>laws_markIntSS.f k l 1) (m,l')∧Ev (fun k=>laws_heldIntSS.f k l' 1) m∧0≤m:=by
  obtain ⟨m,l',h1,_,_,h4,h5⟩:=markRows_from l.length l 0 1 (by omega) hl hrow (by omega) (by omega)
  refine ⟨m,l',?_,?_,h4⟩
  · unfold laws_markIntSS.f
    exact ev_pos hl h1
  · unfold laws_heldIntSS.f
    exact h5
theorem FnExactMeasuresOf (l:List S42) (hl0:l.length≤9223372036854775807):∃ k,laws_FnExactMeasuresOf.f k l=some true:=by
  refine ev_rounds ?_
  unfold laws_FnExactMeasuresOf.f
  by_cases big:wrap64 (1048576 - (l.length:Int)) < 0
  · refine ev_bind0 (a:=-1) ?_ (ev_pos (by decide) (ev_now _))
    unfold laws_szPointS.f
    rw [if_pos big]
  · have hl:l.length≤2000000:=by
      rw [w64 (by omega) (by omega)] at big
      omega
    have hp:=topts_ev l hl
    have he:=eqpts_refl (l.map cvP) (by simpa using hl)
    have hb:∃ r:List (List Int),(r.length≤1000000∧∀ w ∈ r,w.length≤1000)∧Ev (fun k=>spec_MeasuresOf.f k (l.map cvP)) r∧Ev (fun k=>impl_MeasuresOf.f k (l.map cvP)) r:=by
      cases hP:polyS (l.map cvP) with
      | false =>
        refine ⟨[],⟨by simp,fun _ h=>by cases h⟩,?_,?_⟩
        · unfold spec_MeasuresOf.f
          exact ev_bind (hP ▸ sp_polygon _) (ev_neg (by simp) (ev_now _))
        · unfold impl_MeasuresOf.f
          exact ev_bind (hP ▸ im_polygon _) (ev_neg (by simp) (ev_now _))
      | true =>
        obtain ⟨m1,m2⟩:=both_meas _ hP
        obtain ⟨_,n10,_,_⟩:=poly_meas _ hP
        have hlen:=foldM_len (sidesOf (leftP (l.map cvP))) []
        have hsl:(sidesOf (leftP (l.map cvP))).length≤10:=by unfold sidesOf;rw [List.length_map,List.length_range,leftP_len];exact n10
        refine ⟨(foldM [] (sidesOf (leftP (l.map cvP)))).map enc3,⟨?_,fun w hw=>?_⟩,?_,?_⟩
        · rw [List.length_map]
          simp only [List.length_nil] at hlen
          omega
        · obtain ⟨m,_,rfl⟩:=List.mem_map.1 hw
          unfold enc3
          simp
        · unfold spec_MeasuresOf.f
          exact ev_bind (hP ▸ sp_polygon _) (ev_pos rfl (ev_bind m1 (ev_now _)))
        · unfold impl_MeasuresOf.f
          exact ev_bind (hP ▸ im_polygon _) (ev_pos rfl (ev_bind m2 (ev_now _)))
    obtain ⟨r,⟨hr1,hr2⟩,h1,h2⟩:=hb
    have her:=eqRows_refl r hr1 (fun w hw=>by have:=hr2 w hw;omega)
    have hpl:(l.map cvP).length=l.length:=List.length_map ..
    obtain ⟨p',hm',_,_⟩:=markPointS_from (l.map cvP).length (by omega) (l.map cvP).length (l.map cvP) 0 rfl (by omega) (by omega) (fun j hj=>by omega)
    have hm:Ev (fun k=>laws_markPointS.f k (l.map cvP) 1) (1+2 * ((l.map cvP).length:Int),p'):=by
      unfold laws_markPointS.f
      simpa using hm'
    obtain ⟨m,r',k1,k2,k3⟩:=markRows r hr1 hr2
    refine ev_bind0 (a:=wrap64 (1048576 - (l.length:Int))) ?_ (ev_neg big (ev_bind hp (ev_bind h1 (ev_bind hp (ev_bind h2 (ev_bind her (ev_pos rfl (ev_bind hp (ev_bind he (ev_pos rfl (ev_bind hm (ev_neg ?_ (ev_bind her ?_)))))))))))))
    · unfold laws_szPointS.f
      rw [if_neg big]
    · show ¬ (1+2 * ((l.map cvP).length:Int)) < 0
      omega
    · refine ev_shift ?_
      simp only [laws_FnExactMeasuresOf.j0]
      exact ev_neg (by simp) (ev_bind k1 (ev_bind k2 (ev_neg (by omega) (ev_pos rfl (ev_bind hp (ev_bind h2 (ev_bind her (ev_pos rfl (ev_bind k2 (ev_neg (by omega) (ev_pos rfl (ev_now _))))))))))))

end Go.Proofs.Ytadenfniiihifaa.Pure
