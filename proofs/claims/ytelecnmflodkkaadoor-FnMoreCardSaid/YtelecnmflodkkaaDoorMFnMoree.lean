/- A drawn ring with one more node: every key goes round the other nodes as before; of the first two owners none is new but the new node; and the program's RingMore, Newcomers are the reference's. No condition. (Part 5 of 5: written by programs of this workplace and by hand, merged.) -/
import Derived.Test.YtelecnmflodkkaaDoorMFnMorea
import Derived.Test.YtelecnmflodkkaaDoorMFnMored
import Derived.Test.YtelecnmflodkkaaDoorMFnMorec
import Derived.Test.YtelecnmflodkkaaDoorRows
import Derived.Test.YtelecnmflodkkaaDoorTie
import Derived.Test.YtelecnmflodkkaaDoorCards
import Derived.WalkKit
import Derived.ProofKit
import Derived.OpenShut
import Derived.ShutString
import Derived.ChangeOld
import Derived.Below
import Derived.SizedLaws
import Derived.LaidMore
import Derived.Lay
import Derived.LaidOnce
import Derived.SevenTiedAt
import Derived.LaidLaws
import Derived.ChangeSame
import Derived.ChangeVars
import Derived.JoinedOf
set_option linter.unusedVariables false
set_option linter.unusedSimpArgs false
set_option maxHeartbeats 8000000
set_option maxRecDepth 100000

namespace Go.Proofs.YtelecnmflodkkaaDoor.P
open Go.RowKit Go.Proofs.YtelecnmflodkkaaDoorW.PrintWords Go.Proofs.YtelecnmflodkkaaDoorW.PrintLast Go.Proofs.YtelecnmflodkkaaDoorW.PrintMore
attribute [local go_sem] max2_int min2_int max_two min_two max_three min_three max_four min_four   -- for this text's walks alone
set_option linter.unusedVariables false
set_option linter.unusedSimpArgs false

/-! ### Y84: function 12 -/
def Y84.f (k:Nat) (a0_0:Int) (l0_1:List (S77)) (a0_2:Int) (a1:Int):Option (Int):=(Y80.f k a0_0 l0_1 a1).bind fun t279=>(if t279<0 then (none) else (some t279))
theorem Y84.mono:∀ a0 a1 a2 a3 k,LeO (Y84.f k a0 a1 a2 a3) (Y84.f (k+1) a0 a1 a2 a3):=by
 intro a0 a1 a2 a3 k
 have m0:=@Y80.mono
 unfold Y84.f
 exact mO
end Go.Proofs.YtelecnmflodkkaaDoor.P

namespace Go.Proofs.YtelecnmflodkkaaDoor.Q
open Go.RowKit Go.Proofs.YtelecnmflodkkaaDoor.P Go.Proofs.YtelecnmflodkkaaDoorW.PrintWords Go.Proofs.YtelecnmflodkkaaDoorW.PrintMore

abbrev Tok:=S77
end Go.Proofs.YtelecnmflodkkaaDoor.Q

namespace Go.Proofs.YtelecnmflodkkaaDoor.P
open Go.RowKit Go.Proofs.YtelecnmflodkkaaDoorW.PrintWords Go.Proofs.YtelecnmflodkkaaDoorW.PrintLast Go.Proofs.YtelecnmflodkkaaDoorW.PrintMore
attribute [local go_sem] max2_int min2_int max_two min_two max_three min_three max_four min_four   -- for this text's walks alone
set_option linter.unusedVariables false
set_option linter.unusedSimpArgs false

/-! ### Y73: function 9 -/
def Y73.j0:Nat→Int→Int→Bool→Option (Int × (List (S77)) × Int)
 | 0,_,_,_=>none
 | k+1,x0,x1,x12=>if x12=true then (some (0,([]:List (S77)),1)) else ((Y24.f k x0 x1).bind fun bt251=>(some (bt251.1,bt251.2,0)))
def Y73.f (k:Nat) (a0:Int) (a1:Int):Option (Int × (List (S77)) × Int):=(Y65.f a0).bind fun t249=>(if t249=true then ((Y58.f a1 1 8).bind fun t250=>(Y73.j0 k a0 a1 (!t250))) else (Y73.j0 k a0 a1 true))
theorem Y73.mono_l:∀ k,(∀ y0 y1 y2,LeO (Y73.j0 k y0 y1 y2) (Y73.j0 (k+1) y0 y1 y2))
 | 0=>by intros <;> exact LeO.none _
 | k+1=>by
  have ih0:=Y73.mono_l k
  have m0:=@Y24.mono
  ·intros
   unfold Y73.j0
   exact mO
theorem Y73.mono:∀ a0 a1 k,LeO (Y73.f k a0 a1) (Y73.f (k+1) a0 a1):=by
 intro a0 a1 k
 have m0:=@Y24.mono
 have ih0:=Y73.mono_l k
 unfold Y73.f
 exact mO

/-! ### Y74: function 8 -/
def Y74.j0:Nat→Int→Int→Bool→Option (Int × (List (S77)) × Int)
 | 0,_,_,_=>none
 | k+1,x0,x1,x12=>if x12=true then (some (0,([]:List (S77)),1)) else ((Y18.f k x0 x1).bind fun bt140=>(some (bt140.1,bt140.2,0)))
def Y74.f (k:Nat) (a0:Int) (a1:Int):Option (Int × (List (S77)) × Int):=(Y52.f a0).bind fun t138=>(if t138=true then ((Y81.f a1 1 8).bind fun t139=>(Y74.j0 k a0 a1 (!t139))) else (Y74.j0 k a0 a1 true))
theorem Y74.mono_l:∀ k,(∀ y0 y1 y2,LeO (Y74.j0 k y0 y1 y2) (Y74.j0 (k+1) y0 y1 y2))
 | 0=>by intros <;> exact LeO.none _
 | k+1=>by
  have ih0:=Y74.mono_l k
  have m0:=@Y18.mono
  ·intros
   unfold Y74.j0
   exact mO
theorem Y74.mono:∀ a0 a1 k,LeO (Y74.f k a0 a1) (Y74.f (k+1) a0 a1):=by
 intro a0 a1 k
 have m0:=@Y18.mono
 have ih0:=Y74.mono_l k
 unfold Y74.f
 exact mO
end Go.Proofs.YtelecnmflodkkaaDoor.P

namespace Go.Proofs.YtelecnmflodkkaaDoor.Q
open Go.RowKit Go.Proofs.YtelecnmflodkkaaDoor.P Go.Proofs.YtelecnmflodkkaaDoorW.PrintWords Go.Proofs.YtelecnmflodkkaaDoorW.PrintMore

theorem evMono {α:Type} {g:Nat→Option α} {r:α} (hm:∀ k,LeO (g k) (g (k+1))) (K:Nat) (h:g K=some r):Ev g r:=⟨K,fun k hk=>by
  obtain ⟨d,rfl⟩:=Nat.exists_eq_add_of_le hk
  induction d with
  | zero=>exact h
  | succ d ih=>exact hm _ _ (ih (by omega))⟩
def eqToks:List Tok→List Tok→Bool
  | [],[]=>true
  | x :: a,y :: b=>(x.f0 == y.f0 && x.f1 == y.f1) && eqToks a b
  | _,_=>false
theorem eqToks_eq:∀ a b:List Tok,eqToks a b=true→a=b
  | [],[],_=>rfl
  | x :: a,y :: b,h=>by
    simp only [eqToks,Bool.and_eq_true,beq_iff_eq] at h
    obtain ⟨⟨h1,h2⟩,h3⟩:=h
    obtain ⟨x0,x1⟩:=x
    obtain ⟨y0,y1⟩:=y
    simp only at h1 h2
    rw [h1,h2,eqToks_eq a b h3]
  | [],_ :: _,h=>by simp [eqToks] at h
  | _ :: _,[],h=>by simp [eqToks] at h
theorem eqToks_refl:∀ a:List Tok,eqToks a a=true
  | []=>rfl
  | x :: a=>by simp [eqToks,eqToks_refl a]
def ringRounds:Nat:=3000
def ringT (n e:Int):List Tok:=match Y18.f ringRounds n e with
  | some x=>x.2
  | none=>[]
def ringTest (n e:Nat):Bool:=match Y24.f ringRounds (n:Int) (e:Int),Y18.f ringRounds (n:Int) (e:Int) with
  | some x,some y=>x.1 == (n:Int) && (y.1 == (n:Int) && (eqToks x.2 y.2 && y.2.length == n*e))
  | _,_=>false
set_option maxRecDepth 1000000 in
theorem ring_all:(List.range 40).all (fun j=>ringTest (j / 8+1) (j % 8+1))=true:=by kernel_rfl
theorem ring_is {n e:Int} (hn:isNode n=true) (he:isWithin e 1 8=true) :
    Ev (fun k=>Y24.f k n e) (n,ringT n e)∧Ev (fun k=>Y18.f k n e) (n,ringT n e)∧((ringT n e).length:Int)=n*e:=by
  rw [isNode_iff] at hn
  simp only [isWithin,Bool.and_eq_true,decide_eq_true_eq] at he
  obtain ⟨n,rfl⟩:=Int.eq_ofNat_of_zero_le (show 0≤n by omega)
  obtain ⟨e,rfl⟩:=Int.eq_ofNat_of_zero_le (show 0≤e by omega)
  have h:=List.all_eq_true.1 ring_all ((n-1)*8+(e-1)) (List.mem_range.2 (by omega))
  rw [show ((n-1)*8+(e-1)) / 8+1=n by omega,show ((n-1)*8+(e-1)) % 8+1=e by omega] at h
  unfold ringTest at h
  split at h
  · rename_i x y hx hy
    simp only [Bool.and_eq_true,beq_iff_eq] at h
    obtain ⟨h1,h2,h3,h4⟩:=h
    have h5:=eqToks_eq _ _ h3
    have ht:ringT (n:Int) (e:Int)=y.2:=by unfold ringT;rw [hy]
    obtain ⟨x1,x2⟩:=x
    obtain ⟨y1,y2⟩:=y
    simp only at h1 h2 h4 h5 ht
    clear h3
    subst h1
    subst h2
    subst h5
    rw [ht]
    refine ⟨evMono (fun k=>Y24.mono _ _ k) ringRounds hx,evMono (fun k=>Y18.mono _ _ k) ringRounds hy,?_⟩
    rw [h4]
    simp
  · cases h
theorem ringT_length {n e:Int} (hn:isNode n=true) (he:isWithin e 1 8=true):(ringT n e).length≤40:=by
  have h:=(ring_is hn he).2.2
  rw [isNode_iff] at hn
  simp only [isWithin,Bool.and_eq_true,decide_eq_true_eq] at he
  have h1:n*e≤5*8:=by
    have a:=Int.mul_le_mul_of_nonneg_right (show n≤5 by omega) (show 0≤e by omega)
    have b:=Int.mul_le_mul_of_nonneg_left (show e≤8 by omega) (show (0:Int)≤5 by omega)
    omega
  omega
def ringOk (n:Int) (l:List Tok):Bool:=isNode n && (isWithin ((l.length:Int) / n) 1 8 && eqToks l (ringT n ((l.length:Int) / n)))
theorem tokNe (x y:Tok):(!(x.f0 == y.f0) || (!(x.f1 == y.f1)))=!(x.f0 == y.f0 && x.f1 == y.f1):=by
  cases x.f0 == y.f0 <;> cases x.f1 == y.f1 <;> rfl
theorem equal_l0 (l m:List Tok) (hl:l.length≤1048576) (hm:m.length=l.length):∀ (s t:List Tok) (i:Nat),l.drop i=s→m.drop i=t→i≤l.length →
    Ev (fun k=>Y13.l0 k l m (l.length:Int) (i:Int)) (eqToks s t)
  | [],t,i,h,h',hi=>by
    have e:=dropNil' h hi
    have:t=[]:=by rw [← h',List.drop_eq_nil_of_le (by omega)]
    subst this
    refine Ev.step (f:=fun _=>some true) (fun k=>?_) (Ev.now _)
    simp only [Y13.l0]
    rw [if_neg (by omega)]
  | x :: s,[],i,h,h',hi=>by
    have a:=(dropCons h z77).1
    have b:=dropNil h'
    omega
  | x :: s,y :: t,i,h,h',hi=>by
    obtain ⟨h1,h2,h3⟩:=dropCons h z77
    obtain ⟨g1,g2,g3⟩:=dropCons h' z77
    have hr:rd_T77 l (i:Int)=x:=by simpa [rd_T77] using h2
    have gr:rd_T77 m (i:Int)=y:=by simpa [rd_T77] using g2
    have ih:=equal_l0 l m hl hm s t (i+1) h3 g3 (by omega)
    refine Ev.step (fun k=>by simp only [Y13.l0,hr,gr,tokNe];rw [if_pos (by omega),if_pos (by omega),if_pos (by omega),if_pos (by omega)]) ?_
    unfold eqToks
    cases x.f0 == y.f0 && x.f1 == y.f1 with
    | false=>exact evPos (by rfl) (Ev.now _)
    | true =>
      refine evNeg (by simp) ?_
      rw [w64 (by omega) (by omega)]
      exact ih
theorem eqToks_length:∀ a b:List Tok,a.length≠b.length→eqToks a b=false:=fun a b h=>by
  cases e:eqToks a b with
  | false=>rfl
  | true=>exact absurd (by rw [eqToks_eq a b e]) h
theorem Equal_ev (l m:List Tok) (hl:l.length≤1048576):Ev (fun k=>Y13.f k l m) (eqToks l m):=by
  unfold Y13.f
  refine evIte (fun h=>?_) (fun h=>?_)
  · exact equal_l0 l m hl (by omega) l m 0 rfl rfl (by omega)
  · rw [eqToks_length l m (by omega)]
    exact Ev.now _
theorem impl_RingRight_ev (n:Int) (l:List Tok) (hl:l.length≤1048576):Ev (fun k=>Y16.f k n l) (ringOk n l):=by
  unfold Y16.f ringOk
  refine evBind1 (isNode_is _) ?_
  cases hn:isNode n with
  | false=>exact evNeg (by simp) (Ev.now _)
  | true =>
    have hn':=(isNode_iff n).1 hn
    have hd:wrap64 ((l.length:Int) / n)=(l.length:Int) / n:=by
      have a:=Int.ediv_nonneg (show (0:Int)≤(l.length:Int) by omega) (show 0≤n by omega)
      have b:=Int.ediv_le_self n (show (0:Int)≤(l.length:Int) by omega)
      exact w64 (by omega) (by omega)
    rw [hd]
    refine evPos rfl (evNeg (by omega) (evBind1 (within_is _ _ _) ?_))
    cases he:isWithin ((l.length:Int) / n) 1 8 with
    | false=>exact evNeg (by simp) (Ev.now _)
    | true=>exact evPos rfl (Ev.bind (ring_is hn he).1 (Ev.bind (Equal_ev l _ hl) (Ev.now _)))
theorem specRight_l0 (n n':Int) (l m:List Tok) (hl:l.length≤1048576) (hm:m.length=l.length):∀ (s t:List Tok) (i:Nat),l.drop i=s→m.drop i=t→i≤l.length →
    Ev (fun k=>Y11.l0 k (i:Int) n l n' m) (eqToks s t)
  | [],t,i,h,h',hi=>by
    have e:=dropNil' h hi
    have:t=[]:=by rw [← h',List.drop_eq_nil_of_le (by omega)]
    subst this
    refine Ev.step (f:=fun _=>some true) (fun k=>?_) (Ev.now _)
    simp only [Y11.l0]
    rw [if_neg (by omega)]
  | x :: s,[],i,h,h',hi=>by
    have a:=(dropCons h z77).1
    have b:=dropNil h'
    omega
  | x :: s,y :: t,i,h,h',hi=>by
    obtain ⟨h1,h2,h3⟩:=dropCons h z77
    obtain ⟨g1,g2,g3⟩:=dropCons h' z77
    have hr:rd_T77 l (i:Int)=x:=by simpa [rd_T77] using h2
    have gr:rd_T77 m (i:Int)=y:=by simpa [rd_T77] using g2
    have ih:=specRight_l0 n n' l m hl hm s t (i+1) h3 g3 (by omega)
    refine Ev.step (fun k=>by simp only [Y11.l0,hr,gr,tokNe];rw [if_pos (by omega),if_pos (by omega),if_pos (by omega)]) ?_
    unfold eqToks
    cases x.f0 == y.f0 && x.f1 == y.f1 with
    | false=>exact evPos (by rfl) (Ev.now _)
    | true =>
      refine evNeg (by simp) ?_
      rw [w64 (by omega) (by omega)]
      exact ih
theorem spec_RingRight_ev (n:Int) (l:List Tok) (hl:l.length≤1048576):Ev (fun k=>Y11.f k n l) (ringOk n l):=by
  unfold Y11.f ringOk
  have jT:Ev (fun k=>Y11.j0 k true n l) false:=Ev.step (f:=fun _=>some false) (fun k=>by simp [Y11.j0]) (Ev.now _)
  refine evBind1 (l02Node_is _) ?_
  cases hn:isNode n with
  | false=>exact evNeg (by simp) jT
  | true =>
    have hn':=(isNode_iff n).1 hn
    have a:=Int.ediv_nonneg (show (0:Int)≤(l.length:Int) by omega) (show 0≤n by omega)
    have b:=Int.ediv_le_self n (show (0:Int)≤(l.length:Int) by omega)
    have hq:=Int.mul_ediv_add_emod (l.length:Int) n
    have hm0:=Int.emod_nonneg (l.length:Int) (show n≠0 by omega)
    have hm1:=Int.emod_lt_of_pos (l.length:Int) (show 0<n by omega)
    rw [w64 (x:=8*n) (by omega) (by omega)]
    -- where the lengths do not fit, the two are not the same
    have no:(isWithin ((l.length:Int) / n) 1 8 && eqToks l (ringT n ((l.length:Int) / n)))=true→1≤(l.length:Int)∧(l.length:Int)≤8*n∧(l.length:Int) % n=0:=by
      intro h
      simp only [Bool.and_eq_true] at h
      have hL:=(ring_is hn h.1).2.2
      rw [← eqToks_eq _ _ h.2] at hL
      have hw:=h.1
      simp only [isWithin,Bool.and_eq_true,decide_eq_true_eq] at hw
      have h8:n*((l.length:Int) / n)≤n*8:=Int.mul_le_mul_of_nonneg_left (by omega) (by omega)
      have h9:n*1≤n*((l.length:Int) / n):=Int.mul_le_mul_of_nonneg_left (by omega) (by omega)
      refine ⟨by omega,by omega,by omega⟩
    have fl:(¬ (1≤(l.length:Int)∧(l.length:Int)≤8*n∧(l.length:Int) % n=0))→(isWithin ((l.length:Int) / n) 1 8 && eqToks l (ringT n ((l.length:Int) / n)))=false:=fun h=>by
      cases e:(isWithin ((l.length:Int) / n) 1 8 && eqToks l (ringT n ((l.length:Int) / n))) with
      | false=>rfl
      | true=>exact absurd (no e) h
    refine evPos rfl ?_
    rw [Bool.true_and]
    by_cases c1:(l.length:Int)<1
    · rw [fl (by omega)];exact evPos c1 jT
    · refine evNeg c1 ?_
      by_cases c2:(l.length:Int)>8*n
      · rw [fl (by omega)];exact evPos c2 jT
      · refine evNeg c2 (evNeg (by omega) ?_)
        by_cases c3:(l.length:Int) % n=0
        · have e3:((l.length:Int) % n != 0)=false:=by simp [c3]
          rw [e3]
          have hlo:1≤(l.length:Int) / n:=by
            apply Int.not_lt.1
            intro hlt
            have:(l.length:Int) / n=0:=by omega
            rw [this] at hq
            omega
          have hhi:(l.length:Int) / n≤8:=by
            apply Int.not_lt.1
            intro hlt
            have:n*9≤n*((l.length:Int) / n):=Int.mul_le_mul_of_nonneg_left (by omega) (by omega)
            omega
          have he:isWithin ((l.length:Int) / n) 1 8=true:=by simp only [isWithin,Bool.and_eq_true,decide_eq_true_eq];omega
          have hL:=(ring_is hn he).2.2
          rw [he,Bool.true_and]
          refine Ev.step (fun k=>by simp only [Y11.j0];rw [if_neg (by simp),if_neg (by omega),w64 (x:=(l.length:Int) / n) (by omega) (by omega)]) (Ev.bind (ring_is hn he).2.1 ?_)
          exact specRight_l0 n n l (ringT n ((l.length:Int) / n)) hl (by omega) l _ 0 rfl rfl (by omega)
        · have e3:((l.length:Int) % n != 0)=true:=by simp [c3]
          rw [e3,fl (by omega)]
          exact jT
def ringMore (n:Int) (l:List Tok):Int × List Tok × Int:=if ringOk n l=true then (if n=5 then (0,[],9) else (n+1,ringT (n+1) ((l.length:Int) / n),0)) else (0,[],1)
theorem ringMore_step {n:Int} {l:List Tok} (h:ringOk n l=true) (h5:n≠5):isNode (n+1)=true∧isWithin ((l.length:Int) / n) 1 8=true∧1≤n:=by
  simp only [ringOk,Bool.and_eq_true] at h
  have hn:=(isNode_iff n).1 h.1
  exact ⟨(isNode_iff _).2 (by omega),h.2.1,by omega⟩
theorem ringMore_length (n:Int) (l:List Tok):(ringMore n l).2.1.length≤40:=by
  unfold ringMore
  split
  · rename_i h
    split
    · simp
    · rename_i h5
      have:=ringMore_step h h5
      exact ringT_length this.1 this.2.1
  · simp
theorem impl_RingMore_ev (n:Int) (l:List Tok) (hl:l.length≤1048576):Ev (fun k=>Y46.f k n l) (ringMore n l):=by
  unfold Y46.f ringMore
  refine Ev.bind (impl_RingRight_ev n l hl) (evIte (fun h=>?_) (fun h=>?_))
  · rw [if_pos h]
    refine evIte (fun h5=>?_) (fun h5=>?_)
    · rw [if_pos h5];exact Ev.now _
    · rw [if_neg h5]
      obtain ⟨a,b,c⟩:=ringMore_step h h5
      have hd:wrap64 ((l.length:Int) / n)=(l.length:Int) / n:=by
        simp only [isWithin,Bool.and_eq_true,decide_eq_true_eq] at b
        exact w64 (by omega) (by omega)
      have hn:=(isNode_iff _).1 a
      rw [hd,w64 (x:=n+1) (by omega) (by omega)]
      exact evNeg (by omega) (Ev.bind (ring_is a b).1 (Ev.now _))
  · rw [if_neg h];exact Ev.now _
theorem spec_RingMore_ev (n:Int) (l:List Tok) (hl:l.length≤1048576):Ev (fun k=>Y37.f k n l) (ringMore n l):=by
  unfold Y37.f ringMore
  refine Ev.bind (spec_RingRight_ev n l hl) (evIte (fun h=>?_) (fun h=>?_))
  · rw [if_pos h]
    have h0:1≤n∧n≤5:=by
      simp only [ringOk,Bool.and_eq_true] at h
      exact (isNode_iff n).1 h.1
    refine evIte (fun h5=>?_) (fun h5=>?_)
    · rw [if_pos (by omega)];exact Ev.now _
    · rw [if_neg (by omega)]
      obtain ⟨a,b,c⟩:=ringMore_step h (by omega)
      have hd:wrap64 ((l.length:Int) / n)=(l.length:Int) / n:=by
        simp only [isWithin,Bool.and_eq_true,decide_eq_true_eq] at b
        exact w64 (by omega) (by omega)
      rw [hd,w64 (x:=n+1) (by omega) (by omega)]
      exact evNeg (by omega) (Ev.bind (ring_is a b).2.1 (Ev.now _))
  · rw [if_neg h];exact Ev.now _
end Go.Proofs.YtelecnmflodkkaaDoor.Q

namespace Go.Proofs.YtelecnmflodkkaaDoor.Q
open Go.RowKit Go.Proofs.YtelecnmflodkkaaDoor.P Go.Proofs.YtelecnmflodkkaaDoorW.PrintWords Go.Proofs.YtelecnmflodkkaaDoorW.PrintMore

def firstLong:List ByteArray→Int→Int
  | [],_ => -1
  | a :: s,i=>if 8000<a.size then i else firstLong s (i+1)
theorem firstLong_any:∀ (s:List ByteArray) (i:Int),0≤i→decide (firstLong s i≥0)=s.any fun a=>decide (8000<a.size)
  | [],i,h=>by simp [firstLong]
  | a :: s,i,h=>by
    have ih:=firstLong_any s (i+1) (by omega)
    by_cases ha:8000<a.size
    · simp [firstLong,ha,h]
    · rw [firstLong,if_neg ha,ih,List.any_cons]
      simp [ha]
theorem isLong_l0 (l:List ByteArray) (hl:l.length≤4611686018427387904):∀ (s:List ByteArray) (i:Nat),l.drop i=s→i≤l.length →
    Ev (fun k=>Y10.l0 k l (l.length:Int) (i:Int)) (firstLong s i)
  | [],i,h,hi=>by
    have:=dropNil' h hi
    refine Ev.step (f:=fun _=>some (-1)) (fun k=>?_) (Ev.now _)
    simp only [Y10.l0]
    rw [if_neg (by omega)]
  | a :: s,i,h,hi=>by
    obtain ⟨h1,h2,h3⟩:=dropCons h ByteArray.empty
    have ih:=isLong_l0 l hl s (i+1) h3 (by omega)
    by_cases ha:8000<a.size
    · refine Ev.step (f:=fun _=>some (firstLong (a :: s) i)) (fun k=>?_) (Ev.now _)
      simp only [Y10.l0,Y77.f,rdOf,Int.toNat_natCast,h2]
      rw [if_pos (by omega),if_pos (by omega),if_pos (by omega)]
      simp [firstLong,ha]
      omega
    · refine Ev.step (fun k=>?_) (show Ev _ (firstLong (a :: s) i) from by simp only [firstLong,if_neg ha];exact ih)
      simp only [Y10.l0,Y77.f,rdOf,Int.toNat_natCast,h2]
      rw [if_pos (by omega),if_pos (by omega),if_pos (by omega),w64 (by omega) (by omega)]
      have:¬ ((a.size:Int)>8000):=by omega
      simp [this]
theorem isLong_ev (l:List ByteArray) (hl:l.length≤4611686018427387904):Ev (fun k=>Y66.f k l) (l.any fun a=>decide (8000<a.size)):=by
  unfold Y66.f Y28.f Y10.f
  have h:=isLong_l0 l hl l 0 rfl (by omega)
  refine Ev.bind (Ev.bind h (Ev.now _)) ?_
  have e:=firstLong_any l 0 (by omega)
  rw [show ((0:Nat):Int)=0 from rfl,e]
  exact Ev.now _
theorem isLong1_ev (a:ByteArray):Ev (fun k=>Y66.f k ([a]:List ByteArray)) (decide (8000<a.size)):=by
  have:=isLong_ev [a] (by simp)
  simpa using this
end Go.Proofs.YtelecnmflodkkaaDoor.Q

namespace Go.Proofs.YtelecnmflodkkaaDoor.Q
open Go.RowKit Go.Proofs.YtelecnmflodkkaaDoor.P Go.Proofs.YtelecnmflodkkaaDoorW.PrintWords Go.Proofs.YtelecnmflodkkaaDoorW.PrintMore

def lowCh (c:Int):Bool:=decide (97≤c) && decide (c≤122)
def nameCh (c:Int):Bool:=lowCh c || (decide (48≤c) && decide (c≤57)) || decide (c=95)
def nameList:List Int→Bool
  | []=>false
  | c :: r=>lowCh c && r.all nameCh
def nameOk (s:ByteArray):Bool:=decide (s.size≤20) && nameList (bytesOf s)
theorem bt_of {s:ByteArray} {i:Nat} {c:Int} (h:(bytesOf s).getD i 0=c):bt s (i:Int)=c:=by
  rw [← rd_bytesOf];simpa [rd] using h
theorem spec_name_round (s:ByteArray) (k i:Nat) (hi:i<s.size) (h1:1≤i) (hs:s.size≤1048576) :
    Y15.l0 (k+1) s (i:Int)=if nameCh (bt s i) then Y15.l0 k s ((i+1:Nat):Int) else some false:=by
  simp only [Y15.l0]
  rw [if_pos (by omega),if_pos (by omega),w64 (by omega) (by omega)]
  have h0:¬ ((i:Int)=0):=by omega
  simp only [if_neg h0,nameCh,lowCh]
  generalize bt s i=c
  by_cases h1:97≤c <;> by_cases h2:c≤122 <;> by_cases h3:48≤c <;> by_cases h4:c≤57 <;> by_cases h5:c=95 <;> first | (exfalso;omega) | simp [ge_iff_le,h1,h2,h3,h4,h5]
theorem spec_name_first (s:ByteArray) (k:Nat) (hi:0<s.size) (hs:s.size≤1048576) :
    Y15.l0 (k+1) s 0=if lowCh (bt s 0) then Y15.l0 k s 1 else some false:=by
  simp only [Y15.l0]
  rw [if_pos (by omega),if_pos (by omega),w64 (by omega) (by omega)]
  simp only [if_true,lowCh,Int.zero_add]
  generalize bt s 0=c
  by_cases h1:97≤c <;> by_cases h2:c≤122 <;> first | (exfalso;omega) | simp [ge_iff_le,h1,h2]
theorem spec_name_l0 (s:ByteArray) (hs:s.size≤1048576):∀ (r:List Int) (i:Nat),(bytesOf s).drop i=r→i≤s.size→1≤i→Ev (fun k=>Y15.l0 k s (i:Int)) (r.all nameCh)
  | [],i,h,hi,h1=>by
    have:=dropNil h
    rw [bytesOf_length] at this
    refine Ev.step (f:=fun _=>some true) (fun k=>?_) (Ev.now _)
    simp only [Y15.l0]
    rw [if_neg (by omega)]
  | c :: r,i,h,hi,h1=>by
    obtain ⟨g1,g2,g3⟩:=dropCons h 0
    rw [bytesOf_length] at g1
    have hb:=bt_of g2
    refine Ev.step (fun k=>spec_name_round s k i g1 h1 hs) ?_
    rw [hb]
    refine evIte (fun hc=>?_) (fun hc=>?_)
    · simp only [List.all_cons,hc,Bool.true_and];exact spec_name_l0 s hs r (i+1) g3 (by omega) (by omega)
    · simp only [List.all_cons,Bool.eq_false_iff.mpr hc,Bool.false_and];exact Ev.now _
theorem spec_NameRight_ev (s:ByteArray) (hs:s.size≤1048576):Ev (fun k=>Y15.f k s) (nameOk s):=by
  have hl:=bytesOf_length s
  unfold Y15.f nameOk
  refine evIte (fun h=>?_) (fun h=>?_)
  · refine Ev.step (f:=fun _=>some false) (fun k=>by simp only [Y15.j0];rw [if_pos trivial]) ?_
    have:bytesOf s=[]:=by rw [← List.length_eq_zero_iff,hl];omega
    simp only [this,nameList,Bool.and_false]
    exact Ev.now _
  · by_cases h20:(s.size:Int)>20
    · refine Ev.step (f:=fun _=>some false) (fun k=>by simp only [Y15.j0];rw [if_pos (by simpa using h20)]) ?_
      have:¬ s.size≤20:=by omega
      simp only [this,decide_false,Bool.false_and]
      exact Ev.now _
    · refine Ev.step (fun k=>by simp only [Y15.j0];rw [if_neg (by simpa using h20)]) ?_
      have h20':s.size≤20:=by omega
      simp only [h20',decide_true,Bool.true_and]
      cases hb:bytesOf s with
      | nil=>rw [hb] at hl;simp at hl;omega
      | cons c r =>
        have hc:bt s ((0:Nat):Int)=c:=bt_of (by rw [hb];rfl)
        refine Ev.step (fun k=>spec_name_first s k (by omega) hs) ?_
        rw [show (0:Int)=((0:Nat):Int) from rfl,hc]
        refine evIte (fun h1=>?_) (fun h1=>?_)
        · simp only [nameList,h1,Bool.true_and]
          exact spec_name_l0 s hs r 1 (by rw [hb];rfl) (by omega) (by omega)
        · simp only [nameList,Bool.eq_false_iff.mpr h1,Bool.false_and];exact Ev.now _
theorem impl_name_round (s:ByteArray) (k i:Nat) (hi:i<s.size) (hs:s.size≤140737488351232) :
    Y19.l0 (k+1) s (s.size:Int) (i:Int)=if nameCh (bt s i) then Y19.l0 k s (s.size:Int) ((i+1:Nat):Int) else some false:=by
  simp only [Y19.l0]
  rw [if_pos (by omega),if_pos (by omega),if_pos (by omega),w64 (by omega) (by omega)]
  simp only [nameCh,lowCh]
  generalize bt s i=c
  by_cases h1:97≤c <;> by_cases h2:c≤122 <;> by_cases h3:48≤c <;> by_cases h4:c≤57 <;> by_cases h5:c=95 <;> first | (exfalso;omega) | simp [ge_iff_le,h1,h2,h3,h4,h5]
theorem impl_name_l0 (s:ByteArray) (hs:s.size≤140737488351232):∀ (r:List Int) (i:Nat),(bytesOf s).drop i=r→i≤s.size→Ev (fun k=>Y19.l0 k s (s.size:Int) (i:Int)) (r.all nameCh)
  | [],i,h,hi=>by
    have:=dropNil h
    rw [bytesOf_length] at this
    refine Ev.step (f:=fun _=>some true) (fun k=>?_) (Ev.now _)
    simp only [Y19.l0]
    rw [if_neg (by omega)]
  | c :: r,i,h,hi=>by
    obtain ⟨g1,g2,g3⟩:=dropCons h 0
    rw [bytesOf_length] at g1
    have hb:=bt_of g2
    refine Ev.step (fun k=>impl_name_round s k i g1 hs) ?_
    rw [hb]
    refine evIte (fun hc=>?_) (fun hc=>?_)
    · simp only [List.all_cons,hc,Bool.true_and];exact impl_name_l0 s hs r (i+1) g3 (by omega)
    · simp only [List.all_cons,Bool.eq_false_iff.mpr hc,Bool.false_and];exact Ev.now _
theorem low_name {c:Int} (h:lowCh c=true):nameCh c=true:=by simp [nameCh,h]
theorem impl_NameRight_ev (s:ByteArray) (hs:s.size≤140737488351232):Ev (fun k=>Y19.f k s) (nameOk s):=by
  have hl:=bytesOf_length s
  unfold Y19.f nameOk Y86.f
  refine evBind1 rfl (evBind1 (within_is _ _ _) ?_)
  refine evIte (fun h=>?_) (fun h=>?_)
  · have hw:1≤(s.size:Int)∧(s.size:Int)≤20:=by simpa [isWithin] using h
    refine evPos (by omega) ?_
    have h20':s.size≤20:=by omega
    simp only [h20',decide_true,Bool.true_and]
    cases hb:bytesOf s with
    | nil=>rw [hb] at hl;simp at hl;omega
    | cons c r =>
      have hc:bt s ((0:Nat):Int)=c:=bt_of (by rw [hb];rfl)
      have hc':bt s 0=c:=hc
      rw [hc']
      refine evIte (fun h1=>?_) (fun h1=>?_)
      · refine Ev.step (f:=fun _=>some false) (fun k=>by simp only [Y19.j0];rw [if_pos trivial]) ?_
        have:lowCh c=false:=by simp [lowCh];omega
        simp only [nameList,this,Bool.false_and];exact Ev.now _
      · by_cases h2:c>122
        · refine Ev.step (f:=fun _=>some false) (fun k=>by simp only [Y19.j0];rw [if_pos (by simpa using h2)]) ?_
          have:lowCh c=false:=by simp [lowCh];omega
          simp only [nameList,this,Bool.false_and];exact Ev.now _
        · refine Ev.step (fun k=>by simp only [Y19.j0];rw [if_neg (by simpa using h2)]) ?_
          have hlow:lowCh c=true:=by simp [lowCh];omega
          simp only [nameList,hlow,Bool.true_and]
          have:=impl_name_l0 s hs (c :: r) 0 (by rw [hb];rfl) (by omega)
          simpa [low_name hlow] using this
  · refine Ev.step (f:=fun _=>some false) (fun k=>by simp only [Y19.j0];rw [if_pos trivial]) ?_
    have hw:isWithin (s.size:Int) 1 20=false:=by simpa using h
    have:(decide (s.size≤20) && nameList (bytesOf s))=false:=by
      by_cases h20:s.size≤20
      · have:bytesOf s=[]:=by
          rw [← List.length_eq_zero_iff,hl]
          simp [isWithin] at hw;omega
        simp [this,nameList]
      · simp [h20]
    rw [this]
    exact Ev.now _
end Go.Proofs.YtelecnmflodkkaaDoor.Q

namespace Go.Proofs.YtelecnmflodkkaaDoor.Q
open Go.RowKit Go.Proofs.YtelecnmflodkkaaDoor.P Go.Proofs.YtelecnmflodkkaaDoorW.PrintWords Go.Proofs.YtelecnmflodkkaaDoorW.PrintMore

theorem bits_xor_nat (k:IntKind) (j:Nat) (hj:j≤k.bits) (hk:∀ n:Int,0≤n→n<2 ^ j→k.wrap n=n) (a b:Nat) (ha:a<2 ^ j) (hb:b<2 ^ j):bits .xor k a b=((a ^^^ b:Nat):Int):=by
  have hp:2 ^ j≤2 ^ k.bits:=Nat.pow_le_pow_right (by decide) hj
  have ha':a % 2 ^ k.bits=a:=Nat.mod_eq_of_lt (Nat.lt_of_lt_of_le ha hp)
  have hb':b % 2 ^ k.bits=b:=Nat.mod_eq_of_lt (Nat.lt_of_lt_of_le hb hp)
  simp only [bits,BitVec.ofInt_natCast,BitVec.toNat_xor,BitVec.toNat_ofNat,ha',hb']
  exact hk _ (Int.natCast_nonneg _) (by exact_mod_cast Nat.xor_lt_two_pow ha hb)
theorem wraps_u32 (n:Int) (h₀:0≤n) (h₁:n<2 ^ 32):IntKind.u32.wrap n=n:=by rw [IntKind.wrap_u32];omega
theorem xor_range (a b:Int) (ha:0≤a) (ha':a<4294967296) (hb:0≤b) (hb':b<256) :
    Go.bits .xor .i64 a b=Go.bits .xor .u32 a b∧0≤Go.bits .xor .u32 a b∧Go.bits .xor .u32 a b<4294967296:=by
  obtain ⟨m,rfl⟩:=Int.eq_ofNat_of_zero_le ha
  obtain ⟨n,rfl⟩:=Int.eq_ofNat_of_zero_le hb
  have hm:m<2 ^ 32:=by omega
  have hn:n<2 ^ 32:=by omega
  have e1:=bits_xor_nat .u32 32 (by decide) wraps_u32 m n hm hn
  have e2:=bits_xor_nat .i64 63 (by decide) wraps_i64 m n (by omega) (by omega)
  have h:=Nat.xor_lt_two_pow hm hn
  rw [e1,e2]
  refine ⟨rfl,by omega,by omega⟩
def fnvStep (x b:Int):Int:=(Go.bits .xor .u32 x b*16777619) % 4294967296
def fnv (s:ByteArray):Int:=(bytesOf s).foldl fnvStep 2166136261
theorem fnvStep_range (x b:Int):0≤fnvStep x b∧fnvStep x b<4294967296:=by unfold fnvStep;omega
theorem spec_fnv_l0 (s:ByteArray) (hs:s.size≤140737488351232):∀ (r:List Int) (i:Nat),(bytesOf s).drop i=r→i≤s.size→∀ x:Int,0≤x→x<4294967296→Ev (fun k=>Y38.l0 k s x (i:Int)) (r.foldl fnvStep x)
  | [],i,h,hi,x,h0,h1=>by
    have:=dropNil h
    rw [bytesOf_length] at this
    refine Ev.step (f:=fun _=>some x) (fun k=>?_) (Ev.now _)
    simp only [Y38.l0]
    rw [if_neg (by omega)]
  | c :: r,i,h,hi,x,h0,h1=>by
    obtain ⟨g1,g2,g3⟩:=dropCons h 0
    rw [bytesOf_length] at g1
    have hb:=bt_of g2
    have hr:=bt_range s (i:Int)
    rw [hb] at hr
    have hx:=xor_range x c h0 h1 hr.1 (by omega)
    have hq:=fnvStep_range x c
    refine Ev.step (fun k=>?_) (spec_fnv_l0 s hs r (i+1) g3 (by omega) (fnvStep x c) hq.1 hq.2)
    simp only [Y38.l0,hb]
    rw [if_pos (by omega),if_pos (by omega),w64 (x:=c) (by omega) (by omega),hx.1,w64 (x:=_*16777619) (by omega) (by omega),w64 (by omega) (by omega),Int.tmod_eq_emod_of_nonneg (by omega)]
    rfl
theorem impl_fnv_l0 (s:ByteArray) (hs:s.size≤140737488351232):∀ (r:List Int) (i:Nat),(bytesOf s).drop i=r→i≤s.size→∀ x:Int,0≤x→x<4294967296→Ev (fun k=>Y48.l0 k s x (s.size:Int) (i:Int)) (r.foldl fnvStep x)
  | [],i,h,hi,x,h0,h1=>by
    have:=dropNil h
    rw [bytesOf_length] at this
    refine Ev.step (f:=fun _=>some x) (fun k=>?_) (Ev.now _)
    simp only [Y48.l0]
    rw [if_neg (by omega),w64 (by omega) (by omega)]
  | c :: r,i,h,hi,x,h0,h1=>by
    obtain ⟨g1,g2,g3⟩:=dropCons h 0
    rw [bytesOf_length] at g1
    have hb:=bt_of g2
    have hr:=bt_range s (i:Int)
    rw [hb] at hr
    have hq:=fnvStep_range x c
    refine Ev.step (fun k=>?_) (impl_fnv_l0 s hs r (i+1) g3 (by omega) (fnvStep x c) hq.1 hq.2)
    simp only [Y48.l0,hb]
    rw [if_pos (by omega),if_pos (by omega),if_pos (by omega),show c % 4294967296=c from by omega,w64 (by omega) (by omega)]
    rfl
theorem spec_l04Fnv_ev (s:ByteArray) (hs:s.size≤140737488351232):Ev (fun k=>Y38.f k s) (fnv s):=spec_fnv_l0 s hs _ 0 rfl (by omega) _ (by omega) (by omega)
theorem impl_fnv_ev (s:ByteArray) (hs:s.size≤140737488351232):Ev (fun k=>Y48.f k s) (fnv s):=impl_fnv_l0 s hs _ 0 rfl (by omega) _ (by omega) (by omega)
end Go.Proofs.YtelecnmflodkkaaDoor.Q

namespace Go.Proofs.YtelecnmflodkkaaDoor.P
open Go.RowKit Go.Proofs.YtelecnmflodkkaaDoorW.PrintWords Go.Proofs.YtelecnmflodkkaaDoorW.PrintLast Go.Proofs.YtelecnmflodkkaaDoorW.PrintMore
attribute [local go_sem] max2_int min2_int max_two min_two max_three min_three max_four min_four   -- for this text's walks alone
set_option linter.unusedVariables false
set_option linter.unusedSimpArgs false

/-! ### Y67: function 31 -/
def Y67.l0:Nat→List Int→List Int→Int→Option (List Int)
 | 0,_,_,_=>none
 | k+1,x0,x3,x4=>if x4<(x0.length:Int) then (if 0≤x4 then (if x4<(x3.length:Int) then (Y67.l0 k x0 (x3.set (x4:Int).toNat (rd x0 x4)) (wrap64 (x4+1))) else (none)) else (none)) else (some x3)
def Y67.f (k:Nat) (l0:List Int):Option (List Int):=if 0≤(l0.length:Int) then (if ((l0.length:Int):Int).toNat≤35184372088832 then (Y67.l0 k l0 (List.replicate ((l0.length:Int):Int).toNat 0) 0) else (none)) else (none)
theorem Y67.mono_l:∀ k,(∀ y0 y1 y2,LeO (Y67.l0 k y0 y1 y2) (Y67.l0 (k+1) y0 y1 y2))
 | 0=>by intros <;> exact LeO.none _
 | k+1=>by
  have ih0:=Y67.mono_l k
  ·intros
   unfold Y67.l0
   exact mO
theorem Y67.mono:∀ a0 k,LeO (Y67.f k a0) (Y67.f (k+1) a0):=by
 intro a0 k
 have ih0:=Y67.mono_l k
 unfold Y67.f
 exact mO

/-! ### Y68: function 25 -/
def Y68.l0:Nat→List Int→List Int→Int→Option (Bool)
 | 0,_,_,_=>none
 | k+1,x0,x1,x5=>if x5<(x0.length:Int) then (if 0≤x5 then (if x5<(x1.length:Int) then (if (rd x0 x5)=(rd x1 x5) then (Y68.l0 k x0 x1 (wrap64 (x5+1))) else (none)) else (none)) else (none)) else (some true)
def Y68.f (k:Nat) (l0:List Int) (l1:List Int):Option (Bool):=if (l0.length:Int)=(l1.length:Int) then (Y68.l0 k l0 l1 0) else (none)
theorem Y68.mono_l:∀ k,(∀ y0 y1 y2,LeO (Y68.l0 k y0 y1 y2) (Y68.l0 (k+1) y0 y1 y2))
 | 0=>by intros <;> exact LeO.none _
 | k+1=>by
  have ih0:=Y68.mono_l k
  ·intros
   unfold Y68.l0
   exact mO
theorem Y68.mono:∀ a0 a1 k,LeO (Y68.f k a0 a1) (Y68.f (k+1) a0 a1):=by
 intro a0 a1 k
 have ih0:=Y68.mono_l k
 unfold Y68.f
 exact mO

/-! ### Y60: function 28 -/
def Y60.l0:Nat→List Int→Int→Int→Option (Int × List Int)
 | 0,_,_,_=>none
 | k+1,x0,x1,x5=>if x5<(x0.length:Int) then (if 0≤x5 then (Y60.l0 k (x0.set (x5:Int).toNat x1) (wrap64 (x1+1)) (wrap64 (x5+1))) else (none)) else (some (x1,x0))
def Y60.f (k:Nat) (l0:List Int) (a1:Int):Option (Int × List Int):=Y60.l0 k l0 a1 0
theorem Y60.mono_l:∀ k,(∀ y0 y1 y2,LeO (Y60.l0 k y0 y1 y2) (Y60.l0 (k+1) y0 y1 y2))
 | 0=>by intros <;> exact LeO.none _
 | k+1=>by
  have ih0:=Y60.mono_l k
  ·intros
   unfold Y60.l0
   exact mO
theorem Y60.mono:∀ a0 a1 k,LeO (Y60.f k a0 a1) (Y60.f (k+1) a0 a1):=by
 intro a0 a1 k
 have ih0:=Y60.mono_l k
 unfold Y60.f
 exact mO

/-! ### Y61: function 29 -/
def Y61.l0:Nat→List Int→Int→Int→Option (Int)
 | 0,_,_,_=>none
 | k+1,x0,x1,x5=>if x5<(x0.length:Int) then (if 0≤x5 then (if (rd x0 x5)=x1 then (Y61.l0 k x0 (wrap64 (x1+1)) (wrap64 (x5+1))) else (none)) else (none)) else (some x1)
def Y61.f (k:Nat) (l0:List Int) (a1:Int):Option (Int):=Y61.l0 k l0 a1 0
theorem Y61.mono_l:∀ k,(∀ y0 y1 y2,LeO (Y61.l0 k y0 y1 y2) (Y61.l0 (k+1) y0 y1 y2))
 | 0=>by intros <;> exact LeO.none _
 | k+1=>by
  have ih0:=Y61.mono_l k
  ·intros
   unfold Y61.l0
   exact mO
theorem Y61.mono:∀ a0 a1 k,LeO (Y61.f k a0 a1) (Y61.f (k+1) a0 a1):=by
 intro a0 a1 k
 have ih0:=Y61.mono_l k
 unfold Y61.f
 exact mO
end Go.Proofs.YtelecnmflodkkaaDoor.P

namespace Go.Proofs.YtelecnmflodkkaaDoor.Q
open Go.RowKit Go.Proofs.YtelecnmflodkkaaDoor.P Go.Proofs.YtelecnmflodkkaaDoorW.PrintWords Go.Proofs.YtelecnmflodkkaaDoorW.PrintMore

theorem rd_of {l:List Int} {i:Nat} {m:Int} (h:l.getD i 0=m):rd l (i:Int)=m:=by simpa [rd] using h
end Go.Proofs.YtelecnmflodkkaaDoor.Q

namespace Go.Proofs.YtelecnmflodkkaaDoor.Q
open Go.RowKit Go.Proofs.YtelecnmflodkkaaDoor.P Go.Proofs.YtelecnmflodkkaaDoorW.PrintWords Go.Proofs.YtelecnmflodkkaaDoorW.PrintMore

theorem among_l0 (l:List Int) (n:Int) (hl:l.length≤4611686018427387904):∀ (s:List Int) (i:Nat),l.drop i=s→i≤l.length→Ev (fun k=>Y33.l0 k l n (i:Int)) (decide (n ∈ s))
  | [],i,h,hi=>by
    have:=dropNil' h hi
    refine Ev.step (f:=fun _=>some false) (fun k=>?_) (by simp;exact Ev.now _)
    simp only [Y33.l0]
    rw [if_neg (by omega)]
  | m :: s,i,h,hi=>by
    obtain ⟨h1,h2,h3⟩:=dropCons h 0
    have hr:=rd_of h2
    by_cases e:m=n
    · refine Ev.step (f:=fun _=>some true) (fun k=>?_) (by simp [e];exact Ev.now _)
      simp only [Y33.l0,hr]
      rw [if_pos (by omega),if_pos (by omega),if_pos e]
    · have ih:=among_l0 l n hl s (i+1) h3 (by omega)
      have e2:decide (n ∈ m :: s)=decide (n ∈ s):=by simp [show ¬ n=m from fun h=>e h.symm]
      rw [e2]
      refine Ev.step (fun k=>?_) ih
      simp only [Y33.l0,hr]
      rw [if_pos (by omega),if_pos (by omega),if_neg e,w64 (by omega) (by omega)]
      rfl
theorem among_ev (l:List Int) (n:Int) (hl:l.length≤4611686018427387904):Ev (fun k=>Y33.f k l n) (decide (n ∈ l)):=among_l0 l n hl l 0 rfl (by omega)
theorem indexI_l0 (l:List Int) (n:Int) (hl:l.length≤4611686018427387904):∀ (s:List Int) (i:Nat),l.drop i=s→i≤l.length→∃ r,Ev (fun k=>Y25.l0 k l n (l.length:Int) (i:Int)) r∧decide (r≥0)=decide (n ∈ s)
  | [],i,h,hi=>by
    have:=dropNil' h hi
    refine ⟨-1,Ev.step (f:=fun _=>some (-1)) (fun k=>?_) (Ev.now _),by simp⟩
    simp only [Y25.l0]
    rw [if_neg (by omega)]
  | m :: s,i,h,hi=>by
    obtain ⟨h1,h2,h3⟩:=dropCons h 0
    have hr:=rd_of h2
    by_cases e:n=m
    · refine ⟨i,Ev.step (f:=fun _=>some (i:Int)) (fun k=>?_) (Ev.now _),by simp [e]⟩
      simp only [Y25.l0,hr]
      rw [if_pos (by omega),if_pos (by omega),if_pos (by omega),if_pos e]
    · obtain ⟨r,e1,e2⟩:=indexI_l0 l n hl s (i+1) h3 (by omega)
      refine ⟨r,Ev.step (fun k=>?_) e1,by rw [e2];simp [e]⟩
      simp only [Y25.l0,hr]
      rw [if_pos (by omega),if_pos (by omega),if_pos (by omega),if_neg e,w64 (by omega) (by omega)]
      rfl
theorem Contains_ev (l:List Int) (n:Int) (hl:l.length≤4611686018427387904):Ev (fun k=>Y26.f k l n) (decide (n ∈ l)):=by
  obtain ⟨r,e1,e2⟩:=indexI_l0 l n hl l 0 rfl (by omega)
  unfold Y26.f
  rw [← e2]
  exact Ev.bind e1 (Ev.now _)
/-- How many tokens lie ahead. -/
def firstAt (h:Int):List Tok→Nat→Nat
  | [],i=>i
  | t :: r,i=>if t.f0<h then firstAt h r (i+1) else i
theorem firstAt_le (h:Int):∀ (s:List Tok) (i:Nat),i≤firstAt h s i∧firstAt h s i≤i+s.length
  | [],i=>by simp [firstAt]
  | t :: r,i=>by
    have:=firstAt_le h r (i+1)
    simp only [firstAt,List.length_cons]
    split <;> omega
def ordFrom (l:List Tok) (first:Nat):Nat→Nat→List Int→List Int
  | 0,_,acc=>acc
  | f+1,i,acc=>ordFrom l first f (i+1) (if (l.getD ((first+i) % l.length) z77).f1 ∈ acc then acc else acc ++ [(l.getD ((first+i) % l.length) z77).f1])
theorem ordFrom_mod (l:List Tok) (a b:Nat) (h:a % l.length=b % l.length):∀ (f i:Nat) (acc:List Int),ordFrom l a f i acc=ordFrom l b f i acc
  | 0,_,_=>rfl
  | f+1,i,acc=>by
    simp only [ordFrom]
    have e:(a+i) % l.length=(b+i) % l.length:=by rw [Nat.add_mod,h,← Nat.add_mod]
    rw [e]
    exact ordFrom_mod l a b h f (i+1) _
theorem ordFrom_length (l:List Tok) (a:Nat):∀ (f i:Nat) (acc:List Int),(ordFrom l a f i acc).length≤acc.length+f
  | 0,_,_=>by simp [ordFrom]
  | f+1,i,acc=>by
    simp only [ordFrom]
    split
    · have:=ordFrom_length l a f (i+1) acc;omega
    · have:=ordFrom_length l a f (i+1) (acc ++ [(l.getD ((a+i) % l.length) z77).f1])
      simp only [List.length_append,List.length_cons,List.length_nil] at this
      omega
def orderL (l:List Tok) (h:Int):List Int:=ordFrom l (firstAt h l 0) l.length 0 []
theorem orderL_length (l:List Tok) (h:Int):(orderL l h).length≤l.length:=by
  have:=ordFrom_length l (firstAt h l 0) l.length 0 []
  simp only [List.length_nil,Nat.zero_add] at this
  exact this
theorem tmod_at (l:List Tok) (a i:Nat) (ha:a≤l.length) (hi:i<l.length) (hl:l.length≤1048576) :
    Int.tmod (wrap64 ((a:Int)+(i:Int))) (l.length:Int)=(((a+i) % l.length:Nat):Int)∧(((a+i) % l.length:Nat):Int)<(l.length:Int):=by
  have hm:=Nat.mod_lt (a+i) (show 0<l.length by omega)
  rw [w64 (by omega) (by omega),Int.tmod_eq_emod_of_nonneg (by omega)]
  refine ⟨?_,by omega⟩
  rw [show (a:Int)+(i:Int)=((a+i:Nat):Int) by omega]
  exact (Int.natCast_emod (a+i) l.length).symm
theorem rdT_at (l:List Tok) (a:Nat):rd_T77 l (a:Int)=l.getD a z77:=by simp [rd_T77]
theorem specOrder_l1 (n:Int) (l:List Tok) (a:Nat) (ha:a≤l.length) (hl:l.length≤1048576):∀ (f i:Nat) (acc:List Int),i+f=l.length→acc.length≤i →
    Ev (fun k=>Y21.l1 k (a:Int) acc (i:Int) n l) (ordFrom l a f i acc)
  | 0,i,acc,h,hc=>by
    refine Ev.step (f:=fun _=>some acc) (fun k=>?_) (Ev.now _)
    simp only [Y21.l1]
    rw [if_neg (by omega)]
  | f+1,i,acc,h,hc=>by
    obtain ⟨t1,t2⟩:=tmod_at l a i ha (by omega) hl
    refine Ev.step (fun k=>by simp only [Y21.l1,t1,rdT_at];rw [if_pos (by omega),if_neg (by omega),if_pos (by omega),if_pos t2]) (Ev.bind (among_ev acc _ (by omega)) ?_)
    simp only [ordFrom]
    by_cases e:(l.getD ((a+i) % l.length) z77).f1 ∈ acc
    · rw [if_pos e,decide_eq_true e]
      refine evPos rfl ?_
      rw [w64 (by omega) (by omega)]
      exact specOrder_l1 n l a ha hl f (i+1) acc (by omega) (by omega)
    · rw [if_neg e,decide_eq_false e]
      refine evNeg (by simp) (evPos (by omega) ?_)
      rw [w64 (by omega) (by omega)]
      exact specOrder_l1 n l a ha hl f (i+1) _ (by omega) (by simp;omega)
theorem specOrder_l0 (n h:Int) (l:List Tok) (hl:l.length≤1048576):∀ (s:List Tok) (i:Nat),l.drop i=s→i≤l.length →
    Ev (fun k=>Y21.l0 k h (i:Int) n l) (ordFrom l (firstAt h s i) l.length 0 [])
  | [],i,hd,hi=>by
    have:=dropNil' hd hi
    refine Ev.step (f:=fun k=>Y21.j1 k h (i:Int) false n l) (fun k=>?_) (Ev.step (fun k=>?_) (specOrder_l1 n l i (by omega) hl l.length 0 [] (by omega) (by simp)))
    · simp only [Y21.l0]
      rw [if_neg (by omega)]
    · simp only [Y21.j1]
      rw [if_neg (by simp)]
      rfl
  | t :: s,i,hd,hi=>by
    obtain ⟨h1,h2,h3⟩:=dropCons hd z77
    have hr:rd_T77 l (i:Int)=t:=by simpa [rd_T77] using h2
    simp only [firstAt]
    by_cases e:t.f0<h
    · rw [if_pos e]
      refine Ev.step (f:=fun k=>Y21.j1 k h (i:Int) true n l) (fun k=>?_) (Ev.step (fun k=>?_) (specOrder_l0 n h l hl s (i+1) h3 (by omega)))
      · simp only [Y21.l0,hr]
        rw [if_pos (by omega),if_pos (by omega),decide_eq_true e]
      · simp only [Y21.j1]
        rw [if_pos trivial,w64 (by omega) (by omega)]
        rfl
    · rw [if_neg e]
      refine Ev.step (f:=fun k=>Y21.j1 k h (i:Int) false n l) (fun k=>?_) (Ev.step (fun k=>?_) (specOrder_l1 n l i hi hl l.length 0 [] (by omega) (by simp)))
      · simp only [Y21.l0,hr]
        rw [if_pos (by omega),if_pos (by omega),decide_eq_false e]
      · simp only [Y21.j1]
        rw [if_neg (by simp)]
        rfl
theorem l04Order_ev (n:Int) (l:List Tok) (key:ByteArray) (hl:l.length≤1048576) (hk:key.size≤1048576):Ev (fun k=>Y21.f k n l key) (orderL l (fnv key)) :=
  Ev.bind (spec_l04Fnv_ev key (by omega)) (specOrder_l0 n (fnv key) l hl l 0 rfl (by omega))
def atOr (n L:Nat):Int:=if n=L then -1 else (n:Int)
theorem atOr_eq {n L:Nat} (h:n=L):atOr n L = -1:=if_pos h
theorem atOr_ne {n L:Nat} (h:¬ n=L):atOr n L=(n:Int):=if_neg h
theorem indexT_l0 (l:List Tok) (h:Int) (hl:l.length≤1048576):∀ (s:List Tok) (i:Nat),l.drop i=s→i≤l.length →
    Ev (fun k=>Y4.l0 k l (l.length:Int) (i:Int) h) (atOr (firstAt h s i) l.length)
  | [],i,hd,hi=>by
    have:=dropNil' hd hi
    simp only [firstAt]
    rw [atOr_eq (by omega)]
    refine Ev.step (f:=fun _=>some (-1)) (fun k=>?_) (Ev.now _)
    simp only [Y4.l0]
    rw [if_neg (by omega)]
  | t :: s,i,hd,hi=>by
    obtain ⟨h1,h2,h3⟩:=dropCons hd z77
    have hr:rd_T77 l (i:Int)=t:=by simpa [rd_T77] using h2
    simp only [firstAt]
    by_cases e:t.f0<h
    · rw [if_pos e]
      refine Ev.step (fun k=>?_) (indexT_l0 l h hl s (i+1) h3 (by omega))
      simp only [Y4.l0,hr,Y76.f,Option.bind_some]
      rw [if_pos (by omega),if_pos (by omega),if_pos (by omega),if_neg (by simp;omega),w64 (by omega) (by omega)]
      rfl
    · rw [if_neg e,atOr_ne (by omega)]
      refine Ev.step (f:=fun _=>some (i:Int)) (fun k=>?_) (Ev.now _)
      simp only [Y4.l0,hr,Y76.f,Option.bind_some]
      rw [if_pos (by omega),if_pos (by omega),if_pos (by omega),if_pos (by simp;omega)]
theorem implOrder_l0 (n:Int) (l:List Tok) (a:Nat) (ha:a≤l.length) (hl:l.length≤1048576):∀ (f i:Nat) (acc:List Int),i+f=l.length→acc.length≤i →
    Ev (fun k=>Y29.l0 k (a:Int) acc (l.length:Int) (i:Int) n l) (ordFrom l a f i acc)
  | 0,i,acc,h,hc=>by
    refine Ev.step (f:=fun _=>some acc) (fun k=>?_) (Ev.now _)
    simp only [Y29.l0]
    rw [if_neg (by omega)]
  | f+1,i,acc,h,hc=>by
    obtain ⟨t1,t2⟩:=tmod_at l a i ha (by omega) hl
    refine Ev.step (fun k=>by simp only [Y29.l0,t1,rdT_at];rw [if_pos (by omega),if_neg (by omega),if_pos (by omega),if_pos t2]) (Ev.bind (Contains_ev acc _ (by omega)) ?_)
    simp only [ordFrom]
    by_cases e:(l.getD ((a+i) % l.length) z77).f1 ∈ acc
    · rw [if_pos e,decide_eq_true e]
      refine evPos rfl ?_
      rw [w64 (by omega) (by omega)]
      exact implOrder_l0 n l a ha hl f (i+1) acc (by omega) (by omega)
    · rw [if_neg e,decide_eq_false e]
      refine evNeg (by simp) (evPos (by omega) ?_)
      rw [w64 (by omega) (by omega)]
      exact implOrder_l0 n l a ha hl f (i+1) _ (by omega) (by simp;omega)
theorem order_ev (n:Int) (l:List Tok) (key:ByteArray) (hl:l.length≤1048576) (hk:key.size≤1048576):Ev (fun k=>Y29.f k n l key) (orderL l (fnv key)):=by
  refine Ev.bind (impl_fnv_ev key (by omega)) (Ev.bind (indexT_l0 l (fnv key) hl l 0 rfl (by omega)) ?_)
  have hf:=(firstAt_le (fnv key) l 0).2
  by_cases e:firstAt (fnv key) l 0=l.length
  · rw [atOr_eq e]
    refine evPos (by omega) (Ev.step (f:=fun k=>Y29.l0 k 0 [] (l.length:Int) 0 n l) (fun k=>by simp only [Y29.j0]) ?_)
    unfold orderL
    rw [ordFrom_mod l (firstAt (fnv key) l 0) 0 (by rw [e];simp)]
    exact implOrder_l0 n l 0 (by omega) hl l.length 0 [] (by omega) (by simp)
  · rw [atOr_ne e]
    refine evNeg (by omega) (Ev.step (f:=fun k=>Y29.l0 k (firstAt (fnv key) l 0:Int) [] (l.length:Int) 0 n l) (fun k=>by simp only [Y29.j0]) ?_)
    exact implOrder_l0 n l (firstAt (fnv key) l 0) (by omega) hl l.length 0 [] (by omega) (by simp)
def keyed (n:Int) (l:List Tok) (key:ByteArray):Bool:=ringOk n l && nameOk key
theorem nameOk_size {key:ByteArray} (h:nameOk key=true):key.size≤20:=by
  simp only [nameOk,Bool.and_eq_true,decide_eq_true_eq] at h
  exact h.1
theorem isKeyed_ev (n:Int) (l:List Tok) (key:ByteArray) (hl:l.length≤1048576) (hk:key.size≤1048576):Ev (fun k=>Y53.f k n l key) (keyed n l key):=by
  unfold Y53.f keyed
  refine Ev.bind (isLong1_ev key) ?_
  by_cases h:8000<key.size
  · have e:nameOk key=false:=by
      cases e:nameOk key with
      | false=>rfl
      | true=>have:=nameOk_size e;omega
    rw [e,Bool.and_false]
    exact evPos (by simpa using h) (Ev.now _)
  · refine evNeg (by simpa using h) (Ev.bind (impl_RingRight_ev n l hl) ?_)
    cases ringOk n l with
    | false=>exact evNeg (by simp) (Ev.now _)
    | true=>exact evPos rfl (Ev.bind (impl_NameRight_ev key (by omega)) (Ev.now _))
def orderOut (n:Int) (l:List Tok) (key:ByteArray):List Int:=if keyed n l key=true then orderL l (fnv key) else []
theorem impl_Order_ev (n:Int) (l:List Tok) (key:ByteArray) (hl:l.length≤1048576) (hk:key.size≤1048576):Ev (fun k=>Y72.f k n l key) (orderOut n l key):=by
  unfold Y72.f orderOut
  refine Ev.bind (isKeyed_ev n l key hl hk) (evIte (fun h=>?_) (fun h=>?_))
  · rw [if_pos h];exact Ev.bind (order_ev n l key hl hk) (Ev.now _)
  · rw [if_neg h];exact Ev.now _
def ownersL (l:List Tok) (h:Int) (m:Nat):List Int:=(orderL l h).take (min m (orderL l h).length)
theorem l01Min_is (a b:Int):Y78.f a b=some (if a<b then a else b):=by
  unfold Y78.f
  split <;> rfl
theorem l04Owners_ev (n:Int) (l:List Tok) (key:ByteArray) (m:Nat) (hl:l.length≤1048576) (hk:key.size≤1048576):Ev (fun k=>Y57.f k n l key (m:Int)) (ownersL l (fnv key) m):=by
  refine Ev.bind (l04Order_ev n l key hl hk) (evBind1 (l01Min_is _ _) ?_)
  have e:(if (m:Int)<((orderL l (fnv key)).length:Int) then (m:Int) else ((orderL l (fnv key)).length:Int))=((min m (orderL l (fnv key)).length:Nat):Int):=by split <;> omega
  rw [e]
  exact evPos (by omega) (evPos (by omega) (Ev.now _))
theorem owners_ev (n:Int) (l:List Tok) (key:ByteArray) (m:Nat) (hl:l.length≤1048576) (hk:key.size≤1048576):Ev (fun k=>Y75.f k n l key (m:Int)) (ownersL l (fnv key) m):=by
  refine Ev.bind (order_ev n l key hl hk) ?_
  have e:mn (m:Int) ((orderL l (fnv key)).length:Int)=((min m (orderL l (fnv key)).length:Nat):Int):=by unfold mn;split <;> omega
  rw [e]
  exact evPos (by omega) (evPos (by omega) (Ev.now _))
theorem ownersL_length (l:List Tok) (h:Int) (m:Nat):(ownersL l h m).length≤l.length:=by
  have:=orderL_length l h
  unfold ownersL
  rw [List.length_take]
  omega
def notIn (d:List Int) (x:Int):Bool:=!decide (x ∈ d)
theorem notIn_pos {d:List Int} {x:Int} (h:x ∉ d):notIn d x=true:=by simp [notIn,h]
theorem notIn_neg {d:List Int} {x:Int} (h:x ∈ d):¬ notIn d x=true:=by simp [notIn,h]
end Go.Proofs.YtelecnmflodkkaaDoor.Q

namespace Go.Proofs.YtelecnmflodkkaaDoor.Q
open Go.RowKit Go.Proofs.YtelecnmflodkkaaDoor.P Go.Proofs.YtelecnmflodkkaaDoorW.PrintWords Go.Proofs.YtelecnmflodkkaaDoorW.PrintMore

def dedup:List Int→List Tok→List Int
  | acc,[]=>acc
  | acc,t :: r=>dedup (if t.f1 ∈ acc then acc else acc ++ [t.f1]) r
def rot (l:List Tok) (a:Nat):List Tok:=l.drop a ++ l.take a
theorem rot_length (l:List Tok) (a:Nat) (h:a≤l.length):(rot l a).length=l.length:=by
  unfold rot
  rw [List.length_append,List.length_drop,List.length_take]
  omega
theorem rot_at (l:List Tok) (a i:Nat) (z:Tok) (h:a≤l.length) (hi:i<l.length):(rot l a).getD i z=l.getD ((a+i) % l.length) z:=by
  unfold rot
  rw [List.getD_eq_getElem?_getD,List.getD_eq_getElem?_getD]
  by_cases c:a+i<l.length
  · rw [List.getElem?_append_left (by rw [List.length_drop];omega),List.getElem?_drop,Nat.mod_eq_of_lt c]
  · rw [List.getElem?_append_right (by rw [List.length_drop];omega),List.length_drop,List.getElem?_take_of_lt (by omega)]
    have e:(a+i) % l.length=i-(l.length-a):=by
      rw [Nat.mod_eq_sub_mod (by omega),Nat.mod_eq_of_lt (by omega)]
      omega
    rw [e]
theorem ordFrom_rot (l:List Tok) (a:Nat) (h:a≤l.length):∀ (f i:Nat) (acc:List Int),i+f=l.length→ordFrom l a f i acc=dedup acc ((rot l a).drop i)
  | 0,i,acc,hi=>by
    rw [List.drop_eq_nil_of_le (by rw [rot_length l a h];omega)]
    rfl
  | f+1,i,acc,hi=>by
    have hr:=rot_length l a h
    rw [List.drop_eq_getElem_cons (show i<(rot l a).length by omega)]
    have e:(rot l a)[i]'(by omega)=l.getD ((a+i) % l.length) z77:=by
      rw [← rot_at l a i z77 h (by omega),List.getD_eq_getElem?_getD,List.getElem?_eq_getElem (by omega)]
      rfl
    simp only [ordFrom,dedup,e]
    exact ordFrom_rot l a h f (i+1) _ (by omega)
def below (h:Int) (t:Tok):Bool:=decide (t.f0<h)
theorem firstAt_tw (h:Int):∀ (s:List Tok) (i:Nat),firstAt h s i=i+(s.takeWhile (below h)).length
  | [],i=>rfl
  | t :: r,i=>by
    simp only [firstAt,List.takeWhile_cons]
    by_cases c:t.f0<h
    · have e:below h t=true:=decide_eq_true c
      rw [if_pos c,if_pos e,firstAt_tw h r (i+1),List.length_cons]
      omega
    · have e:¬ below h t=true:=by simp [below,c]
      rw [if_neg c,if_neg e]
      rfl
theorem drop_tw (p:Tok→Bool):∀ s:List Tok,s.drop (s.takeWhile p).length=s.dropWhile p∧s.take (s.takeWhile p).length=s.takeWhile p
  | []=>⟨rfl,rfl⟩
  | t :: r=>by
    have ih:=drop_tw p r
    rw [List.takeWhile_cons,List.dropWhile_cons]
    cases p t with
    | true=>exact ⟨by simpa using ih.1,by simpa using ih.2⟩
    | false=>exact ⟨rfl,rfl⟩
theorem orderL_eq (l:List Tok) (h:Int):orderL l h=dedup [] (l.dropWhile (below h) ++ l.takeWhile (below h)):=by
  unfold orderL
  have hf:=(firstAt_le h l 0).2
  rw [ordFrom_rot l _ (by omega) l.length 0 [] (by omega),List.drop_zero,firstAt_tw,Nat.zero_add]
  unfold rot
  rw [(drop_tw (below h) l).1,(drop_tw (below h) l).2]
def sortedB:List Tok→Bool
  | []=>true
  | [_]=>true
  | x :: y :: r=>decide (x.f0≤y.f0) && sortedB (y :: r)
theorem sorted_tail:∀ (r:List Tok) (x:Tok),sortedB (x :: r)=true→sortedB r=true
  | [],_,_=>rfl
  | z :: r,x,hs=>by
    simp only [sortedB,Bool.and_eq_true] at hs
    exact hs.2
theorem sorted_head:∀ (r:List Tok) (x:Tok),sortedB (x :: r)=true→∀ y ∈ r,x.f0≤y.f0
  | [],_,_,y,h=>by cases h
  | z :: r,x,hs,y,h=>by
    simp only [sortedB,Bool.and_eq_true,decide_eq_true_eq] at hs
    rcases List.mem_cons.1 h with rfl | h
    · exact hs.1
    · have:=sorted_head r z hs.2 y h
      omega
theorem none_tw (p:Tok→Bool) (s:List Tok) (h:∀ x ∈ s,p x=false):s.takeWhile p=[]∧s.dropWhile p=s:=by
  cases s with
  | nil=>exact ⟨rfl,rfl⟩
  | cons x s =>
    have e:=h x (by simp)
    rw [List.takeWhile_cons,List.dropWhile_cons,e]
    exact ⟨rfl,rfl⟩
def other (N:Int) (t:Tok):Bool:=decide (t.f1≠N)
def notN (N x:Int):Bool:=decide (x≠N)
theorem filter_tw (N h:Int):∀ L:List Tok,sortedB L=true→(L.filter (other N)).dropWhile (below h)=(L.dropWhile (below h)).filter (other N)∧(L.filter (other N)).takeWhile (below h)=(L.takeWhile (below h)).filter (other N)
  | [],_=>⟨rfl,rfl⟩
  | t :: r,hs=>by
    have ih:=filter_tw N h r (sorted_tail r t hs)
    by_cases c:below h t=true
    · rw [List.takeWhile_cons,List.dropWhile_cons,if_pos c,if_pos c]
      by_cases q:other N t=true
      · rw [List.filter_cons_of_pos q,List.filter_cons_of_pos q,List.takeWhile_cons,List.dropWhile_cons,if_pos c,if_pos c,ih.2]
        exact ⟨ih.1,rfl⟩
      · rw [List.filter_cons_of_neg q,List.filter_cons_of_neg q]
        exact ih
    · have ha:∀ x ∈ t :: r,below h x=false:=fun x hx=>by
        have c':¬ t.f0<h:=fun e=>c (decide_eq_true e)
        rcases List.mem_cons.1 hx with rfl | hx
        · exact decide_eq_false c'
        · have:=sorted_head r t hs x hx
          exact decide_eq_false (by omega)
      have hb:∀ x ∈ (t :: r).filter (other N),below h x=false:=fun x hx=>ha x (List.mem_filter.1 hx).1
      rw [(none_tw _ _ ha).1,(none_tw _ _ ha).2,(none_tw _ _ hb).1,(none_tw _ _ hb).2]
      exact ⟨rfl,rfl⟩
theorem dedup_filter (N:Int):∀ (s:List Tok) (acc:List Int),(dedup acc s).filter (notN N)=dedup (acc.filter (notN N)) (s.filter (other N))
  | [],acc=>rfl
  | t :: r,acc=>by
    simp only [dedup]
    rw [dedup_filter N r]
    by_cases q:t.f1=N
    · have e:¬ other N t=true:=by simp [other,q]
      have e2:(if t.f1 ∈ acc then acc else acc ++ [t.f1]).filter (notN N)=acc.filter (notN N):=by
        split
        · rfl
        · rw [List.filter_append,List.filter_cons_of_neg (by simp [notN,q])]
          simp
      rw [e2,List.filter_cons_of_neg e]
    · have e:other N t=true:=by simp [other,q]
      rw [List.filter_cons_of_pos e]
      simp only [dedup]
      have hm:t.f1 ∈ acc.filter (notN N) ↔ t.f1 ∈ acc:=by
        rw [List.mem_filter]
        simp [notN,q]
      by_cases c:t.f1 ∈ acc
      · rw [if_pos c,if_pos (hm.2 c)]
      · rw [if_neg c,if_neg (fun h=>c (hm.1 h)),List.filter_append,List.filter_cons_of_pos (by simp [notN,q])]
        rfl
theorem more_order (N h:Int) (L:List Tok) (hs:sortedB L=true):(orderL L h).filter (notN N)=orderL (L.filter (other N)) h:=by
  rw [orderL_eq,orderL_eq,dedup_filter,List.filter_append,(filter_tw N h L hs).1,(filter_tw N h L hs).2]
  rfl
theorem dedup_nodup:∀ (s:List Tok) (acc:List Int),acc.Nodup→(dedup acc s).Nodup
  | [],_,h=>h
  | t :: r,acc,h=>by
    simp only [dedup]
    refine dedup_nodup r _ ?_
    split
    · exact h
    · rename_i c
      rw [List.nodup_append]
      refine ⟨h,by simp,fun a ha b hb=>?_⟩
      rw [List.mem_singleton] at hb
      rintro rfl
      exact c (hb ▸ ha)
theorem mem_dedup (x:Int):∀ (s:List Tok) (acc:List Int),x ∈ dedup acc s ↔ x ∈ acc∨∃ t ∈ s,t.f1=x
  | [],acc=>by simp [dedup]
  | t :: r,acc=>by
    simp only [dedup]
    rw [mem_dedup x r]
    by_cases c:t.f1 ∈ acc
    · rw [if_pos c]
      constructor
      · rintro (h | ⟨y,h1,h2⟩)
        · exact .inl h
        · exact .inr ⟨y,List.mem_cons_of_mem _ h1,h2⟩
      · rintro (h | ⟨y,h1,h2⟩)
        · exact .inl h
        · rcases List.mem_cons.1 h1 with rfl | h1
          · exact .inl (h2 ▸ c)
          · exact .inr ⟨y,h1,h2⟩
    · rw [if_neg c,List.mem_append,List.mem_singleton]
      constructor
      · rintro ((h | h) | ⟨y,h1,h2⟩)
        · exact .inl h
        · exact .inr ⟨t,by simp,h.symm⟩
        · exact .inr ⟨y,List.mem_cons_of_mem _ h1,h2⟩
      · rintro (h | ⟨y,h1,h2⟩)
        · exact .inl (.inl h)
        · rcases List.mem_cons.1 h1 with rfl | h1
          · exact .inl (.inr h2.symm)
          · exact .inr ⟨y,h1,h2⟩
theorem orderL_nodup (l:List Tok) (h:Int):(orderL l h).Nodup:=by
  rw [orderL_eq]
  exact dedup_nodup _ _ List.nodup_nil
theorem mem_orderL (l:List Tok) (h x:Int):x ∈ orderL l h ↔ ∃ t ∈ l,t.f1=x:=by
  rw [orderL_eq,mem_dedup]
  have e:∀ t:Tok,t ∈ l.dropWhile (below h) ++ l.takeWhile (below h) ↔ t ∈ l:=fun t=>by
    rw [List.mem_append,Or.comm,← List.mem_append,List.takeWhile_append_dropWhile]
  simp only [e,List.not_mem_nil,false_or]
theorem ownersL_take (l:List Tok) (h:Int) (m:Nat):ownersL l h m=(orderL l h).take m:=by
  unfold ownersL
  by_cases c:m≤(orderL l h).length
  · rw [Nat.min_eq_left c]
  · rw [Nat.min_eq_right (by omega),List.take_of_length_le (by omega),List.take_of_length_le (by omega)]
theorem take_more {x:Int}:∀ (A:List Int) (m:Nat),x ∈ A.take m→x ∈ A.take (m+1)
  | [],_,h=>by simp at h
  | a :: A,0,h=>by simp at h
  | a :: A,m+1,h=>by
    rw [List.take_succ_cons,List.mem_cons] at h ⊢
    rcases h with h | h
    · exact .inl h
    · exact .inr (take_more A m h)
theorem take_filter {x N:Int} (hx:x≠N):∀ (A:List Int) (m:Nat),x ∈ A.take m→x ∈ (A.filter (notN N)).take m
  | [],_,h=>by simp at h
  | a :: A,0,h=>by simp at h
  | a :: A,m+1,h=>by
    rw [List.take_succ_cons,List.mem_cons] at h
    by_cases c:a=N
    · rw [List.filter_cons_of_neg (by simp [notN,c])]
      rcases h with h | h
      · exact absurd (h.trans c) hx
      · exact take_more _ _ (take_filter hx A m h)
    · rw [List.filter_cons_of_pos (by simp [notN,c]),List.take_succ_cons,List.mem_cons]
      rcases h with h | h
      · exact .inl h
      · exact .inr (take_filter hx A m h)
theorem nodup_without {N:Int}:∀ s:List Int,s.Nodup→N ∈ s→s.length=(s.filter (notN N)).length+1
  | [],_,h=>by cases h
  | a :: s,hn,h=>by
    rw [List.nodup_cons] at hn
    by_cases c:a=N
    · subst c
      have e:s.filter (notN a)=s:=List.filter_eq_self.2 (fun x hx=>by
        have:x≠a:=fun e=>hn.1 (e ▸ hx)
        simp [notN,this])
      rw [List.filter_cons_of_neg (by simp [notN]),e]
      rfl
    · have h2:N ∈ s:=by
        rcases List.mem_cons.1 h with h | h
        · exact absurd h.symm c
        · exact h
      rw [List.filter_cons_of_pos (by simp [notN,c]),List.length_cons,List.length_cons,nodup_without s hn.2 h2]
/-- What the forty rings are like. -/
def nodeIn (l:List Tok) (n:Int):Bool:=l.any (fun t=>t.f1 == n)
def ringLook (n e:Nat):Bool:=sortedB (ringT (n:Int) (e:Int)) && ((ringT (n:Int) (e:Int)).all (fun t=>decide (1≤t.f1) && decide (t.f1≤(n:Int))) && ((List.range n).all (fun j=>nodeIn (ringT (n:Int) (e:Int)) ((j:Int)+1)) &&
  (decide (n=1) || eqToks ((ringT (n:Int) (e:Int)).filter (other (n:Int))) (ringT ((n:Int)-1) (e:Int)))))
set_option maxRecDepth 1000000 in
theorem look_all:(List.range 40).all (fun j=>ringLook (j / 8+1) (j % 8+1))=true:=by kernel_rfl
theorem ring_look {n e:Int} (hn:isNode n=true) (he:isWithin e 1 8=true) :
    sortedB (ringT n e)=true∧(∀ t ∈ ringT n e,1≤t.f1∧t.f1≤n)∧(∀ m:Int,1≤m→m≤n→∃ t ∈ ringT n e,t.f1=m)∧(n≠1→(ringT n e).filter (other n)=ringT (n-1) e):=by
  rw [isNode_iff] at hn
  simp only [isWithin,Bool.and_eq_true,decide_eq_true_eq] at he
  obtain ⟨n,rfl⟩:=Int.eq_ofNat_of_zero_le (show 0≤n by omega)
  obtain ⟨e,rfl⟩:=Int.eq_ofNat_of_zero_le (show 0≤e by omega)
  have h:=List.all_eq_true.1 look_all ((n-1)*8+(e-1)) (List.mem_range.2 (by omega))
  rw [show ((n-1)*8+(e-1)) / 8+1=n by omega,show ((n-1)*8+(e-1)) % 8+1=e by omega] at h
  unfold ringLook at h
  simp only [Bool.and_eq_true,Bool.or_eq_true,decide_eq_true_eq] at h
  obtain ⟨h1,h2,h3,h4⟩:=h
  refine ⟨h1,fun t ht=>?_,fun m hm1 hm2=>?_,fun hne=>?_⟩
  · have:=List.all_eq_true.1 h2 t ht
    simp only [Bool.and_eq_true,decide_eq_true_eq] at this
    exact this
  · obtain ⟨m,rfl⟩:=Int.eq_ofNat_of_zero_le (show 0≤m by omega)
    have:=List.all_eq_true.1 h3 (m-1) (List.mem_range.2 (by omega))
    rw [show ((m-1:Nat):Int)+1=(m:Int) by omega] at this
    obtain ⟨t,ht,h5⟩:=List.any_eq_true.1 this
    exact ⟨t,ht,by simpa using h5⟩
  · rcases h4 with h4 | h4
    · exact absurd (by rw [h4];rfl) hne
    · exact eqToks_eq _ _ h4
theorem ringOk_is {n:Int} {l:List Tok} (h:ringOk n l=true):isNode n=true∧isWithin ((l.length:Int) / n) 1 8=true∧l=ringT n ((l.length:Int) / n):=by
  simp only [ringOk,Bool.and_eq_true] at h
  exact ⟨h.1,h.2.1,eqToks_eq _ _ h.2.2⟩
theorem ringT_ok {n e:Int} (hn:isNode n=true) (he:isWithin e 1 8=true):ringOk n (ringT n e)=true:=by
  have hl:=(ring_is hn he).2.2
  have h1:=(isNode_iff n).1 hn
  have e1:((ringT n e).length:Int) / n=e:=by
    rw [hl,Int.mul_ediv_cancel_left _ (show n≠0 by omega)]
  unfold ringOk
  rw [e1,hn,he,eqToks_refl]
  rfl
end Go.Proofs.YtelecnmflodkkaaDoor.Q

namespace Go.Proofs.YtelecnmflodkkaaDoor.Q
open Go.RowKit Go.Proofs.YtelecnmflodkkaaDoor.P Go.Proofs.YtelecnmflodkkaaDoorW.PrintWords Go.Proofs.YtelecnmflodkkaaDoorW.PrintMore

theorem capN_ev (d:List Int) (x:Int) (hd:d.length≤1048576):Ev (fun k=>Y41.f k x d) (decide (x ∈ d)):=Ev.bind (Contains_ev d x (by omega)) (Ev.now _)
theorem indexN_l0 (l d:List Int) (hl:l.length≤1048576) (hd:d.length≤1048576):∀ (s:List Int) (i:Nat),l.drop i=s→i≤l.length →
    ∃ r,Ev (fun k=>Y7.l0 k l (l.length:Int) (i:Int) d) r∧((r = -1∧∀ x ∈ s,x ∉ d)∨∃ a b:List Int,∃ m:Int,s=a ++ m :: b∧r=((i+a.length:Nat):Int)∧(∀ x ∈ a,x ∉ d)∧m ∈ d)
  | [],i,h,hi=>by
    have:=dropNil' h hi
    refine ⟨-1,Ev.step (f:=fun _=>some (-1)) (fun k=>?_) (Ev.now _),.inl ⟨rfl,fun _ h=>by cases h⟩⟩
    simp only [Y7.l0]
    rw [if_neg (by omega)]
  | m :: s,i,h,hi=>by
    obtain ⟨h1,h2,h3⟩:=dropCons h 0
    have hr:=rd_of h2
    have st:∀ {R:Int},Ev (fun k=>if decide (m ∈ d)=true then some (i:Int) else Y7.l0 k l (l.length:Int) (wrap64 ((i:Int)+1)) d) R→Ev (fun k=>Y7.l0 k l (l.length:Int) (i:Int) d) R:=fun h =>
      Ev.step (fun k=>by simp only [Y7.l0,hr];rw [if_pos (by omega),if_pos (by omega),if_pos (by omega)]) (Ev.bind (capN_ev d m hd) h)
    by_cases hm:m ∈ d
    · exact ⟨i,st (evPos (decide_eq_true hm) (Ev.now _)),.inr ⟨[],s,m,rfl,by simp,(fun _ h=>by cases h),hm⟩⟩
    · obtain ⟨r,e1,e2⟩:=indexN_l0 l d hl hd s (i+1) h3 (by omega)
      refine ⟨r,st (evNeg (by simp [hm]) (by rw [w64 (by omega) (by omega)];exact e1)),?_⟩
      rcases e2 with ⟨rfl,e2⟩ | ⟨a,b,c,rfl,rfl,e3,e4⟩
      · refine .inl ⟨rfl,fun x hx=>?_⟩
        rcases List.mem_cons.1 hx with rfl | hx
        · exact hm
        · exact e2 x hx
      · refine .inr ⟨m :: a,b,c,rfl,by simp only [List.length_cons];omega,fun x hx=>?_,e4⟩
        rcases List.mem_cons.1 hx with rfl | hx
        · exact hm
        · exact e3 x hx
theorem deleteN_l0 (d:List Int) (hd:d.length≤1048576):∀ (s cur:List Int) (a j:Nat),cur.drop j=s→j≤cur.length→a≤j→cur.length≤1048576 →
    Ev (fun k=>Y6.l0 k cur (a:Int) (j:Int) d) (cur.take a ++ s.filter (notIn d))
  | [],cur,a,j,h,hj,ha,hl=>by
    have:=dropNil' h hj
    refine Ev.step (f:=fun _=>some (cur.take a)) (fun k=>?_) (by simp only [List.filter_nil,List.append_nil];exact Ev.now _)
    simp only [Y6.l0]
    rw [if_neg (by omega),if_pos (by omega),if_pos (by omega),Int.toNat_natCast]
  | m :: s,cur,a,j,h,hj,ha,hl=>by
    obtain ⟨h1,h2,h3⟩:=dropCons h 0
    have hr:=rd_of h2
    refine Ev.step (fun k=>by simp only [Y6.l0,hr];rw [if_pos (by omega),if_pos (by omega)]) (Ev.bind (capN_ev d m hd) ?_)
    by_cases hm:m ∈ d
    · rw [List.filter_cons_of_neg (notIn_neg hm)]
      refine evPos (decide_eq_true hm) ?_
      rw [w64 (by omega) (by omega)]
      exact deleteN_l0 d hd s cur a (j+1) h3 (by omega) (by omega) hl
    · rw [List.filter_cons_of_pos (notIn_pos hm)]
      refine evNeg (by simp [hm]) (evPos (by omega) (evPos (by omega) ?_))
      rw [w64 (by omega) (by omega),w64 (by omega) (by omega),Int.toNat_natCast]
      have ih:=deleteN_l0 d hd s (cur.set a m) (a+1) (j+1) (by rw [List.drop_set_of_lt (by omega)];exact h3) (by rw [List.length_set];omega) (by omega) (by rw [List.length_set];exact hl)
      have e:(cur.set a m).take (a+1)=cur.take a ++ [m]:=by
        rw [List.take_succ_eq_append_getElem (by simp;omega),List.take_set_of_le (by omega)]
        simp
      rw [e,List.append_assoc,List.singleton_append] at ih
      exact ih
theorem DeleteFuncN_ev (l d:List Int) (hl:l.length≤1048576) (hd:d.length≤1048576):Ev (fun k=>Y6.f k l d) (l.filter (notIn d)):=by
  obtain ⟨r,e1,e2⟩:=indexN_l0 l d hl hd l 0 rfl (by omega)
  refine Ev.bind e1 ?_
  rcases e2 with ⟨rfl,e2⟩ | ⟨a,b,m,rfl,rfl,e3,e4⟩
  · refine evPos rfl ?_
    rw [List.filter_eq_self.2 (fun x hx=>notIn_pos (e2 x hx))]
    exact Ev.now _
  · refine evNeg (by omega) ?_
    have ih:=deleteN_l0 d hd b (a ++ m :: b) a.length (a.length+1) (by simp) (by simp) (by omega) hl
    have ef:(a ++ m :: b).filter (notIn d)=(a ++ m :: b).take a.length ++ b.filter (notIn d):=by
      rw [List.filter_append,List.filter_cons_of_neg (notIn_neg e4),List.filter_eq_self.2 (fun x hx=>notIn_pos (e3 x hx))]
      simp
    simp only [List.length_append,List.length_cons] at hl
    rw [ef,Nat.zero_add,w64 (by omega) (by omega)]
    exact ih
def newL (l1 l2:List Tok) (h:Int) (m:Nat):List Int:=(ownersL l2 h m).filter (notIn (ownersL l1 h m))
theorem newL_length (l1 l2:List Tok) (h:Int) (m:Nat):(newL l1 l2 h m).length≤l2.length:=by
  have:=ownersL_length l2 h m
  have:=List.length_filter_le (notIn (ownersL l1 h m)) (ownersL l2 h m)
  unfold newL
  omega
def newOut (n1:Int) (l1:List Tok) (n2:Int) (l2:List Tok) (key:ByteArray) (m:Int):List Int:=if (keyed n1 l1 key && (ringOk n2 l2 && isNode m))=true then newL l1 l2 (fnv key) m.toNat else []
theorem newOut_length (n1:Int) (l1:List Tok) (n2:Int) (l2:List Tok) (key:ByteArray) (m:Int) (hl:l2.length≤1048576):(newOut n1 l1 n2 l2 key m).length≤1048576:=by
  unfold newOut
  split
  · have:=newL_length l1 l2 (fnv key) m.toNat;omega
  · simp
theorem newcomers_ev (n1:Int) (l1:List Tok) (n2:Int) (l2:List Tok) (key:ByteArray) (m:Nat) (h1:l1.length≤1048576) (h2:l2.length≤1048576) (hk:key.size≤1048576):Ev (fun k=>Y64.f k n1 l1 n2 l2 key (m:Int)) (newL l1 l2 (fnv key) m):=by
  have o1:=ownersL_length l1 (fnv key) m
  have o2:=ownersL_length l2 (fnv key) m
  refine Ev.bind (owners_ev n1 l1 key m h1 hk) (Ev.bind (owners_ev n2 l2 key m h2 hk) (evBind1 (a:=ownersL l2 (fnv key) m) ?_ ?_))
  · simp only [Y69.f,Option.bind_some,List.length_nil,List.nil_append]
    rw [if_pos (by omega)]
  · exact DeleteFuncN_ev _ _ (by omega) (by omega)
theorem impl_Newcomers_ev (n1:Int) (l1:List Tok) (n2:Int) (l2:List Tok) (key:ByteArray) (m:Int) (h1:l1.length≤1048576) (h2:l2.length≤1048576) (hk:key.size≤1048576):Ev (fun k=>Y23.f k n1 l1 n2 l2 key m) (newOut n1 l1 n2 l2 key m):=by
  unfold Y23.f newOut
  have jT:Ev (fun k=>Y23.j0 k key m true n1 l1 n2 l2) []:=Ev.step (f:=fun _=>some []) (fun k=>by simp [Y23.j0]) (Ev.now _)
  refine Ev.bind (isKeyed_ev n1 l1 key h1 hk) ?_
  cases keyed n1 l1 key with
  | false=>exact evNeg (by simp) jT
  | true =>
    refine evPos rfl (Ev.bind (impl_RingRight_ev n2 l2 h2) ?_)
    cases ringOk n2 l2 with
    | false=>exact evNeg (by simp) jT
    | true =>
      refine evPos rfl (evBind1 (isNode_is _) ?_)
      cases hm:isNode m with
      | false=>exact jT
      | true =>
        have hm':=(isNode_iff m).1 hm
        obtain ⟨m,rfl⟩:=Int.eq_ofNat_of_zero_le (show 0≤m by omega)
        exact Ev.step (fun k=>by simp only [Y23.j0];rw [if_neg (by simp)]) (Ev.bind (newcomers_ev n1 l1 n2 l2 key m h1 h2 hk) (Ev.now _))
theorem specNew_l0 (d own:List Int) (hd:d.length≤1048576) (hw:own.length≤1048576):∀ (s:List Int) (i:Nat) (out:List Int),own.drop i=s→i≤own.length→out.length≤i →
    Ev (fun k=>Y12.l0 k out d own (i:Int)) (out ++ s.filter (notIn d))
  | [],i,out,h,hi,hc=>by
    have:=dropNil' h hi
    refine Ev.step (f:=fun _=>some out) (fun k=>?_) (by simp only [List.filter_nil,List.append_nil];exact Ev.now _)
    simp only [Y12.l0]
    rw [if_neg (by omega)]
  | m :: s,i,out,h,hi,hc=>by
    obtain ⟨g1,g2,g3⟩:=dropCons h 0
    have hr:=rd_of g2
    refine Ev.step (fun k=>by simp only [Y12.l0,hr];rw [if_pos (by omega),if_pos (by omega)]) (Ev.bind (among_ev d m (by omega)) ?_)
    by_cases hm:m ∈ d
    · rw [List.filter_cons_of_neg (notIn_neg hm)]
      refine evPos (decide_eq_true hm) ?_
      rw [w64 (by omega) (by omega)]
      exact specNew_l0 d own hd hw s (i+1) out g3 (by omega) (by omega)
    · rw [List.filter_cons_of_pos (notIn_pos hm)]
      refine evNeg (by simp [hm]) (evPos (by omega) ?_)
      rw [w64 (by omega) (by omega)]
      have ih:=specNew_l0 d own hd hw s (i+1) (out ++ [m]) g3 (by omega) (by simp;omega)
      rw [List.append_assoc,List.singleton_append] at ih
      exact ih
theorem spec_Newcomers_ev (n1:Int) (l1:List Tok) (n2:Int) (l2:List Tok) (key:ByteArray) (m:Int) (h1:l1.length≤1048576) (h2:l2.length≤1048576) (hk:key.size≤1048576):Ev (fun k=>Y12.f k n1 l1 n2 l2 key m) (newOut n1 l1 n2 l2 key m):=by
  unfold Y12.f newOut keyed
  have jT:Ev (fun k=>Y12.j0 k key m [] true n1 l1 n2 l2) []:=Ev.step (f:=fun _=>some []) (fun k=>by simp [Y12.j0]) (Ev.now _)
  refine evBind1 rfl (Ev.bind (spec_RingRight_ev n1 l1 h1) ?_)
  cases ringOk n1 l1 with
  | false=>exact evNeg (by simp) jT
  | true =>
    refine evPos rfl (Ev.bind (spec_RingRight_ev n2 l2 h2) ?_)
    cases ringOk n2 l2 with
    | false=>rw [Bool.false_and,Bool.and_false];exact evNeg (by simp) jT
    | true =>
      refine evPos rfl (Ev.bind (spec_NameRight_ev key hk) ?_)
      cases nameOk key with
      | false=>exact evNeg (by simp) jT
      | true =>
        refine evPos rfl (evBind1 (l02Node_is _) ?_)
        cases hm:isNode m with
        | false=>exact jT
        | true =>
          have hm':=(isNode_iff m).1 hm
          obtain ⟨m,rfl⟩:=Int.eq_ofNat_of_zero_le (show 0≤m by omega)
          have o1:=ownersL_length l1 (fnv key) m
          have o2:=ownersL_length l2 (fnv key) m
          refine Ev.step (fun k=>by simp only [Y12.j0];rw [if_neg (by simp)]) (Ev.bind (l04Owners_ev n1 l1 key m h1 hk) (Ev.bind (l04Owners_ev n2 l2 key m h2 hk) ?_))
          exact specNew_l0 (ownersL l1 (fnv key) m) (ownersL l2 (fnv key) m) (by omega) (by omega) _ 0 [] rfl (by omega) (by simp)
end Go.Proofs.YtelecnmflodkkaaDoor.Q

namespace Go.Proofs.YtelecnmflodkkaaDoor.Q
open Go.RowKit Go.Proofs.YtelecnmflodkkaaDoor.P Go.Proofs.YtelecnmflodkkaaDoorW.PrintWords Go.Proofs.YtelecnmflodkkaaDoorW.PrintMore

/-- A source in order: where it stands, its mix, its size. -/
def SrcOk (b:List Int) (a m z:Int):Prop:=(0≤a∧a≤(b.length:Int))∧(0≤m∧m<18446744073709551616)∧(0≤z∧z≤12)∧b.length≤1048576
theorem xorw_range (x y:Int):0≤Go.bits .xor .u64 x y∧Go.bits .xor .u64 x y<18446744073709551616:=by
  have key:∀ n:Int,0≤IntKind.u64.wrap n∧IntKind.u64.wrap n<18446744073709551616:=fun n=>by rw [u64w];omega
  exact key _
theorem n_end {q most:Int} (hm:1<most) (hm2:most≤9223372036854775807):IntKind.u64.wrap most=most∧wrap64 (Int.tmod (IntKind.u64.wrap q) most)=(q % 18446744073709551616) % most:=by
  refine ⟨by rw [u64w];omega,?_⟩
  rw [u64w,Int.tmod_eq_emod_of_nonneg (by omega)]
  have h1:=Int.emod_nonneg (q % 18446744073709551616) (show most≠0 by omega)
  have h2:=Int.emod_lt_of_pos (q % 18446744073709551616) (show 0<most by omega)
  exact w64 (by omega) (by omega)
theorem n_ok {b:List Int} {a m z:Int} (h:SrcOk b a m z) (most:Int) (h2:most≤9223372036854775807) :
    ∃ r a' m',Y3.f b a m z most=some (r,a',m',z)∧0≤r∧(1<most→r<most)∧(most≤1→r=0)∧SrcOk b a' m' z:=by
  obtain ⟨⟨a0,a1⟩,hm,hz,hb⟩:=h
  by_cases h1:most≤1
  · exact ⟨0,a,m,by unfold Y3.f;rw [if_pos h1],by omega,by omega,fun _=>rfl,⟨a0,a1⟩,hm,hz,hb⟩
  · have hx:=fun x y=>xorw_range x y
    have fin:∀ q:Int,0≤(q % 18446744073709551616) % most∧(q % 18446744073709551616) % most<most:=fun q=>⟨Int.emod_nonneg _ (by omega),Int.emod_lt_of_pos _ (by omega)⟩
    unfold Y3.f
    rw [if_neg h1]
    by_cases ha:a<(b.length:Int)
    · rw [if_pos ha,if_pos a0,if_neg (by rw [(n_end (q:=0) (by omega) h2).1];omega)]
      refine ⟨_,_,_,by rw [(n_end (q:=0) (by omega) h2).1,(n_end (by omega) h2).2],(fin _).1,fun _=>(fin _).2,by omega,?_,hx _ _,hz,hb⟩
      rw [w64 (by omega) (by omega)];omega
    · rw [if_neg ha,if_neg (by rw [(n_end (q:=0) (by omega) h2).1];omega)]
      exact ⟨_,_,_,by rw [(n_end (q:=0) (by omega) h2).1,(n_end (by omega) h2).2],(fin _).1,fun _=>(fin _).2,by omega,⟨a0,a1⟩,hx _ _,hz,hb⟩
theorem one_ok {b:List Int} {a m z:Int} (h:SrcOk b a m z) (of:Int) (h2:of≤9223372036854775807):∃ r a' m',Y49.f b a m z of=some (r,a',m',z)∧SrcOk b a' m' z:=by
  obtain ⟨r,a',m',e,_,_,_,g⟩:=n_ok h of h2
  exact ⟨_,a',m',by unfold Y49.f;rw [e];rfl,g⟩
theorem source_l0 (l:List Int) (hl:l.length≤1048576):∀ (d i:Nat),l.length-i=d→i≤l.length→∀ m:Int,0≤m→m<18446744073709551616 →
    ∃ m' z,Ev (fun k=>Y22.l0 k l (i:Int) l 0 m 0) (l,0,m',z)∧SrcOk l 0 m' z:=by
  have stop:∀ (i:Int) (m:Int),0≤m→m<18446744073709551616→∃ m' z,Ev (fun k=>Y22.j1 k l i false l 0 m 0) (l,0,m',z)∧SrcOk l 0 m' z:=by
    intro i m h0 h1
    by_cases h:wrap64 ((l.length:Int) / 20)>12
    · exact ⟨m,12,Ev.step (f:=fun _=>some (l,0,m,12)) (fun k=>by simp only [Y22.j1];rw [if_neg (by simp),if_pos h]) (Ev.now _),⟨by omega,by omega⟩,⟨h0,h1⟩,by omega,hl⟩
    · refine ⟨m,wrap64 ((l.length:Int) / 20),Ev.step (f:=fun _=>some (l,0,m,wrap64 ((l.length:Int) / 20))) (fun k=>by simp only [Y22.j1];rw [if_neg (by simp),if_neg h]) (Ev.now _),⟨by omega,by omega⟩,⟨h0,h1⟩,?_,hl⟩
      rw [w64 (by omega) (by omega)] at h ⊢
      omega
  intro d
  induction d with
  | zero =>
    intro i hd hi m h0 h1
    obtain ⟨m',z,e,g⟩:=stop i m h0 h1
    refine ⟨m',z,Ev.step (fun k=>?_) e,g⟩
    simp only [Y22.l0]
    rw [if_neg (by omega)]
  | succ d ih =>
    intro i hd hi m h0 h1
    by_cases h64:i<64
    · have hw:∀ q:Int,0≤IntKind.u64.wrap q∧IntKind.u64.wrap q<18446744073709551616:=fun q=>by rw [u64w];omega
      obtain ⟨m',z,e,g⟩:=ih (i+1) (by omega) (by omega) (IntKind.u64.wrap ((Go.bits .xor .u64 m (IntKind.u64.wrap (rd l (i:Int))))*1099511628211)) (hw _).1 (hw _).2
      refine ⟨m',z,Ev.step (f:=fun k=>Y22.j1 k l (i:Int) true l 0 m 0) (fun k=>?_) (Ev.step (fun k=>?_) e),g⟩
      · simp only [Y22.l0]
        rw [if_pos (by omega)]
        congr 1
        simp;omega
      · simp only [Y22.j1]
        rw [if_pos trivial,if_pos (by omega),if_pos (by omega),w64 (x:=(i:Int)+1) (by omega) (by omega)]
        rfl
    · obtain ⟨m',z,e,g⟩:=stop i m h0 h1
      refine ⟨m',z,Ev.step (fun k=>?_) e,g⟩
      simp only [Y22.l0]
      rw [if_pos (by omega)]
      congr 1
      simp;omega
theorem source_ok (l:List Int) (hl:l.length≤1048576):∃ m z,Ev (fun k=>Y22.f k l) (l,0,m,z)∧SrcOk l 0 m z :=
  source_l0 l hl _ 0 rfl (by omega) _ (by omega) (by omega)
theorem strOfNums_size (l:List Int):(strOfNums l).size=l.length:=by
  rw [← data_length]
  simp [strOfNums]
end Go.Proofs.YtelecnmflodkkaaDoor.Q

namespace Go.Proofs.YtelecnmflodkkaaDoor.Q
open Go.RowKit Go.Proofs.YtelecnmflodkkaaDoor.P Go.Proofs.YtelecnmflodkkaaDoorW.PrintWords Go.Proofs.YtelecnmflodkkaaDoorW.PrintMore
theorem l04Ring_ok {b:List Int} {a m z:Int} (h:SrcOk b a m z):∃ n l a' m',Ev (fun k=>Y34.f k b a m z) (n,l,a',m',z)∧l.length≤40∧SrcOk b a' m' z:=by
  obtain ⟨r1,a1,m1,e1,p0,p1,_,g1⟩:=n_ok h 5 (by omega)
  have p1:=p1 (by omega)
  obtain ⟨r2,a2,m2,e2,q0,q1,_,g2⟩:=n_ok g1 4 (by omega)
  have q1:=q1 (by omega)
  have hn:isNode (1+r1)=true:=(isNode_iff _).2 (by omega)
  have he:isWithin (1+r2) 1 8=true:=by simp only [isWithin,Bool.and_eq_true,decide_eq_true_eq];omega
  have hT:=(ring_is hn he).2.1
  have hL:=ringT_length hn he
  have hL1:=(ring_is hn he).2.2
  have hw1:wrap64 (1+r1)=1+r1:=w64 (by omega) (by omega)
  have hw2:wrap64 (1+r2)=1+r2:=w64 (by omega) (by omega)
  obtain ⟨r3,a3,m3,e3,g3⟩:=one_ok g2 15 (by omega)
  cases r3 with
  | false =>
    refine ⟨1+r1,ringT (1+r1) (1+r2),a3,m3,evBind1 e1 (evBind1 e2 ?_),hL,g3⟩
    simp only [hw1,hw2]
    exact Ev.bind hT (evBind1 e3 (evNeg (by simp) (Ev.now _)))
  | true =>
    obtain ⟨r4,a4,m4,e4,t0,t1,_,g4⟩:=n_ok g3 2 (by omega)
    by_cases c:r4=0
    · obtain ⟨r5,a5,m5,e5,_,_,_,g5⟩:=n_ok g4 7 (by omega)
      refine ⟨r5,ringT (1+r1) (1+r2),a5,m5,evBind1 e1 (evBind1 e2 ?_),hL,g5⟩
      simp only [hw1,hw2]
      exact Ev.bind hT (evBind1 e3 (evPos rfl (evBind1 e4 (evPos c (evBind1 e5 (Ev.now _))))))
    · obtain ⟨r5,a5,m5,e5,_,_,_,g5⟩:=n_ok g4 6 (by omega)
      have h1:1*1≤(1+r1)*(1+r2):=Int.mul_le_mul (by omega) (by omega) (by omega) (by omega)
      refine ⟨1+r1,(ringT (1+r1) (1+r2)).set (0:Int).toNat ⟨(rd_T77 (ringT (1+r1) (1+r2)) 0).f0,r5⟩,a5,m5,evBind1 e1 (evBind1 e2 ?_),by rw [List.length_set];exact hL,g5⟩
      simp only [hw1,hw2]
      exact Ev.bind hT (evBind1 e3 (evPos rfl (evBind1 e4 (evNeg c (evBind1 e5 (evPos (by show (0:Int)<((ringT (1+r1) (1+r2)).length:Int);omega) (Ev.now _)))))))
theorem DrawRingMore_ok (l:List Int) (hl:l.length≤1048576):∃ n r,Ev (fun k=>Y59.f k l) (n,r)∧r.length≤40:=by
  obtain ⟨m,z,e,g⟩:=source_ok l hl
  obtain ⟨n,r,a1,m1,e1,h1,_⟩:=l04Ring_ok g
  exact ⟨n,r,Ev.bind e (Ev.bind e1 (Ev.now _)),h1⟩
theorem name_l0 {b:List Int} {z:Int}:∀ (d:Nat) (t:ByteArray) (a m:Int),t.size+d≤1000→SrcOk b a m z→∃ t' a' m',Ev (fun k=>Y32.l0 k t (d:Int) b a m z) (t',a',m',z)∧t'.size≤t.size+d∧SrcOk b a' m' z
  | 0,t,a,m,_,h=>by
    refine ⟨t,a,m,Ev.step (f:=fun _=>some (t,a,m,z)) (fun k=>?_) (Ev.now _),by omega,h⟩
    simp only [Y32.l0]
    rw [if_neg (by omega)]
  | d+1,t,a,m,ht,h=>by
    obtain ⟨r,a1,m1,e1,p0,p1,_,g1⟩:=n_ok h 10 (by omega)
    have p1:=p1 (by omega)
    have hs:(strOfNums ([bt (⟨#[97,98,99,100,101,102,48,49,57,95]⟩:ByteArray) r]:List Int)).size=1:=by rw [strOfNums_size];rfl
    obtain ⟨t',a2,m2,e2,h2,g2⟩:=name_l0 d (t ++ strOfNums ([bt (⟨#[97,98,99,100,101,102,48,49,57,95]⟩:ByteArray) r]:List Int)) a1 m1 (by rw [ByteArray.size_append,hs];omega) g1
    rw [ByteArray.size_append,hs] at h2
    refine ⟨t',a2,m2,Ev.step (fun k=>?_) e2,by omega,g2⟩
    simp only [Y32.l0,e1,Option.bind_some]
    rw [if_pos (by omega),if_pos p0,if_pos p1,if_pos (by rw [hs];omega),w64 (by omega) (by omega),show ((d+1:Nat):Int)-1=(d:Int) by omega]
theorem name_ok {b:List Int} {a m z:Int} (h:SrcOk b a m z):∃ t a' m',Ev (fun k=>Y32.f k b a m z) (t,a',m',z)∧t.size≤10∧SrcOk b a' m' z:=by
  obtain ⟨r1,a1,m1,e1,p0,p1,_,g1⟩:=n_ok h 6 (by omega)
  obtain ⟨r2,a2,m2,e2,q0,q1,_,g2⟩:=n_ok g1 4 (by omega)
  have q1:=q1 (by omega)
  obtain ⟨d,rfl⟩:=Int.eq_ofNat_of_zero_le q0
  have hs:(strOfNums (([(wrap64 (97+r1)) % 256]:List Int))).size=1:=by rw [strOfNums_size];rfl
  obtain ⟨t,a3,m3,e3,h3,g3⟩:=name_l0 d (strOfNums (([(wrap64 (97+r1)) % 256]:List Int))) a2 m2 (by rw [hs];omega) g2
  exact ⟨t,a3,m3,evBind1 e1 (evBind1 e2 e3),by omega,g3⟩
theorem DrawNewcomers_ok (l:List Int) (hl:l.length≤1048576):∃ n r n2 r2 key m,Ev (fun k=>Y20.f k l) (n,r,n2,r2,key,m)∧r.length≤40∧r2.length≤40∧key.size≤10:=by
  obtain ⟨m,z,e,g⟩:=source_ok l hl
  obtain ⟨n,r,a1,m1,e1,h1,g1⟩:=l04Ring_ok g
  have hm:=spec_RingMore_ev n r (by omega)
  have hml:=ringMore_length n r
  obtain ⟨t,a2,m2,e2,g2⟩:=one_ok g1 4 (by omega)
  have fin:∀ (a m:Int) (n2:Int) (r2:List Tok),SrcOk l a m z→∃ key q,Ev (fun k=>Y20.j0 k l a m z n r n2 r2) (n,r,n2,r2,key,q)∧key.size≤10:=by
    intro a m n2 r2 g
    obtain ⟨key,a3,m3,e3,h3,g3⟩:=name_ok g
    obtain ⟨q,a4,m4,e4,_⟩:=n_ok g3 7 (by omega)
    refine ⟨key,q,Ev.step (fun k=>by rw [Y20.j0]) ?_,h3⟩
    exact Ev.bind e3 (evBind1 e4 (Ev.now _))
  cases t with
  | true =>
    obtain ⟨n3,r3,a3,m3,e3,h3,g3⟩:=l04Ring_ok g2
    obtain ⟨key,q,e4,h4⟩:=fin a3 m3 n3 r3 g3
    exact ⟨n,r,n3,r3,key,q,Ev.bind e (Ev.bind e1 (Ev.bind hm (evBind1 e2 (evPos rfl (Ev.bind e3 e4))))),h1,h3,h4⟩
  | false =>
    obtain ⟨key,q,e4,h4⟩:=fin a2 m2 (ringMore n r).1 (ringMore n r).2.1 g2
    exact ⟨n,r,_,_,key,q,Ev.bind e (Ev.bind e1 (Ev.bind hm (evBind1 e2 (evNeg (by simp) e4)))),h1,hml,h4⟩
end Go.Proofs.YtelecnmflodkkaaDoor.Q

namespace Go.Proofs.YtelecnmflodkkaaDoor.Q
open Go.RowKit Go.Proofs.YtelecnmflodkkaaDoor.P Go.Proofs.YtelecnmflodkkaaDoorW.PrintWords Go.Proofs.YtelecnmflodkkaaDoorW.PrintMore
theorem lwNums_l0 (l:List Int) (hl:l.length≤4611686018427387904):∀ (d i:Nat),i+d=l.length→Ev (fun k=>Y36.l0 k l l (i:Int)) true
  | 0,i,h=>by
    refine Ev.step (f:=fun _=>some true) (fun k=>?_) (Ev.now _)
    simp only [Y36.l0]
    rw [if_neg (by omega)]
  | d+1,i,h=>by
    refine Ev.step (fun k=>?_) (lwNums_l0 l hl d (i+1) (by omega))
    simp only [Y36.l0]
    rw [if_pos (by omega),if_pos (by omega),if_pos (by omega),if_pos trivial,w64 (by omega) (by omega)]
    rfl
theorem lwNums_ev (l:List Int) (hl:l.length≤4611686018427387904):Ev (fun k=>Y36.f k l l) true:=by
  unfold Y36.f
  exact evPos rfl (lwNums_l0 l hl l.length 0 (by omega))
theorem lwRing_l0 (n c:Int) (l:List S77) (hl:l.length≤4611686018427387904):∀ (d i:Nat),i+d=l.length→Ev (fun k=>Y40.l0 k (i:Int) n l c n l c) true
  | 0,i,h=>by
    refine Ev.step (f:=fun _=>some true) (fun k=>?_) (Ev.now _)
    simp only [Y40.l0]
    rw [if_neg (by omega)]
  | d+1,i,h=>by
    refine Ev.step (fun k=>?_) (lwRing_l0 n c l hl d (i+1) (by omega))
    simp only [Y40.l0]
    rw [if_pos (by omega),if_pos (by omega),if_pos (by omega),if_neg (by simp),w64 (by omega) (by omega)]
    rfl
theorem lwRing_ev (n c:Int) (l:List S77) (hl:l.length≤4611686018427387904):Ev (fun k=>Y40.f k n l c n l c) true:=by
  unfold Y40.f
  exact evPos rfl (evPos rfl (evPos rfl (lwRing_l0 n c l hl l.length 0 (by omega))))
end Go.Proofs.YtelecnmflodkkaaDoor.Q

namespace Go.Proofs.YtelecnmflodkkaaDoor.Pure
open Go.RowKit Go.Proofs.YtelecnmflodkkaaDoor.P Go.Proofs.YtelecnmflodkkaaDoor.Q Go.Proofs.YtelecnmflodkkaaDoorW.PrintWords Go.Proofs.YtelecnmflodkkaaDoorW.PrintMore
theorem left_l0 (key:ByteArray) (all:List Int) (n:Int) (l:List S77) (N:Int) (L:List S77) (c:Int) (ha:all.length≤1048576) {R:Bool}:∀ (s:List Int) (i:Nat) (acc:List Int),all.drop i=s→i≤all.length→acc.length≤i →
    Ev (fun k=>Y9.l0 k key (acc ++ s.filter (notN N)) all (all.length:Int) n l N L c) R→Ev (fun k=>Y9.l0 k key acc all (i:Int) n l N L c) R
  | [],i,acc,h,hi,_,fin=>by
    have e:=dropNil' h hi
    rw [List.filter_nil,List.append_nil] at fin
    rw [← e]
    exact fin
  | x :: s,i,acc,h,hi,hc,fin=>by
    obtain ⟨h1,h2,h3⟩:=dropCons h 0
    have hr:=rd_of h2
    by_cases q:x=N
    · rw [List.filter_cons_of_neg (by simp [notN,q])] at fin
      refine Ev.step (fun k=>?_) (left_l0 key all n l N L c ha s (i+1) acc h3 (by omega) (by omega) fin)
      simp only [Y9.l0,hr]
      rw [if_pos (by omega),if_pos (by omega),if_pos q,w64 (by omega) (by omega)]
      rfl
    · rw [List.filter_cons_of_pos (by simp [notN,q]),← List.singleton_append,← List.append_assoc] at fin
      refine Ev.step (fun k=>?_) (left_l0 key all n l N L c ha s (i+1) (acc ++ [x]) h3 (by omega) (by simp;omega) fin)
      simp only [Y9.l0,hr]
      rw [if_pos (by omega),if_pos (by omega),if_neg q,if_pos (by omega),w64 (by omega) (by omega)]
      rfl
theorem new_l1 (key:ByteArray) (d:List Int) (n:Int) (l:List S77) (N:Int) (L:List S77) (c:Int) (hd:d.length≤1048576) {R:Bool} (fin:Ev (fun k=>Y9.l1 k key d (d.length:Int) n l N L c) R):∀ (s:List Int) (i:Nat),d.drop i=s→i≤d.length→(∀ x ∈ s,x=N) →
    Ev (fun k=>Y9.l1 k key d (i:Int) n l N L c) R
  | [],i,h,hi,_=>by
    have e:=dropNil' h hi
    rw [← e]
    exact fin
  | x :: s,i,h,hi,hs=>by
    obtain ⟨h1,h2,h3⟩:=dropCons h 0
    have hr:=rd_of h2
    refine Ev.step (fun k=>?_) (new_l1 key d n l N L c hd fin s (i+1) h3 (by omega) (fun y hy=>hs y (List.mem_cons_of_mem _ hy)))
    simp only [Y9.l1,hr]
    rw [if_pos (by omega),if_pos (by omega),if_pos (hs x (by simp)),w64 (by omega) (by omega)]
    rfl
theorem same_nodup {N:Int}:∀ s:List Int,s.Nodup→(∀ x ∈ s,x=N)→s.length≤1
  | [],_,_=>by simp
  | [_],_,_=>by simp
  | a :: b :: s,hn,h=>by
    rw [List.nodup_cons] at hn
    exact absurd (by rw [h a (by simp),← h b (by simp)];simp) hn.1
theorem new_same {n:Int} {l:List S77} {key:ByteArray} (m:Int):newOut n l n l key m=[]:=by
  unfold newOut
  split
  · unfold newL
    rw [List.filter_eq_nil_iff]
    intro x hx
    simp [notIn,hx]
  · rfl
theorem FnMore:Y9.Pure:=by
  intro l0 l1 hl0 hl1
  obtain ⟨hl0,_⟩:=hl0
  obtain ⟨hl1,_⟩:=hl1
  refine Ev.rounds ?_
  have j0T:Ev (fun k=>Y9.j0 k l0 l1 true) true:=Ev.step (f:=fun _=>some true) (fun k=>by simp [Y9.j0]) (Ev.now _)
  unfold Y9.f
  refine evIte (fun _=>j0T) (fun h0=>?_)
  by_cases h1:(l1.length:Int)>1048576
  · rw [decide_eq_true h1];exact j0T
  · rw [decide_eq_false h1]
    obtain ⟨n,l,e1,hl⟩:=DrawRingMore_ok l0 (by omega)
    obtain ⟨a,la,b,lb,key,m,e2,hla,hlb,hk⟩:=DrawNewcomers_ok l1 (by omega)
    have hml:=ringMore_length n l
    have hno:=newOut_length a la b lb key m (by omega)
    refine Ev.step (fun k=>by simp only [Y9.j0];rw [if_neg (by simp)]) (Ev.bind e1 (Ev.bind (impl_RingMore_ev n l (by omega)) (Ev.bind e2 (Ev.bind (spec_RingMore_ev n l (by omega)) (Ev.bind (lwRing_ev (ringMore n l).1 (ringMore n l).2.2 (ringMore n l).2.1 (by omega)) (evPos rfl (Ev.bind (impl_Newcomers_ev a la b lb key m (by omega) (by omega) (by omega)) (Ev.bind (spec_Newcomers_ev a la b lb key m (by omega) (by omega) (by omega)) (Ev.bind (lwNums_ev (newOut a la b lb key m) (by omega)) (evPos rfl ?_))))))))))
    have j2T:∀ x0 x1 x2,Ev (fun k=>Y9.j1 k key true n l x0 x1 x2) true:=fun x0 x1 x2=>Ev.step (f:=fun _=>some true) (fun k=>by simp [Y9.j1]) (Ev.now _)
    by_cases hc:ringOk n l=true∧n≠5
    · obtain ⟨ho,h5⟩:=hc
      have hx:ringMore n l=(n+1,ringT (n+1) ((l.length:Int) / n),0):=by unfold ringMore;rw [if_pos ho,if_neg h5]
      obtain ⟨s1,s2,s3⟩:=ringMore_step ho h5
      have hT:=ringT_length s1 s2
      have hTo:=ringT_ok s1 s2
      have hlk:=ring_look s1 s2
      have hli:=(ringOk_is ho).2.2
      rw [hx]
      generalize (l.length:Int) / n=e at s2 hT hTo hlk hli
      have hf:(ringT (n+1) e).filter (other (n+1))=l:=by
        rw [hlk.2.2.2 (by omega),show n+1-1=n by omega]
        exact hli.symm
      generalize ringT (n+1) e=L at hT hTo hlk hf
      refine evPos rfl (Ev.bind (spec_NameRight_ev key (by omega)) ?_)
      cases hname:nameOk key with
      | false=>exact j2T _ _ _
      | true =>
        have hK:keyed (n+1) L key=true:=by unfold keyed;rw [hTo,hname];rfl
        have hk2:keyed n l key=true:=by unfold keyed;rw [ho,hname];rfl
        have o1:orderOut (n+1) L key=orderL L (fnv key):=by unfold orderOut;rw [if_pos hK]
        have o2:orderOut n l key=orderL l (fnv key):=by unfold orderOut;rw [if_pos hk2]
        have hord:(orderL L (fnv key)).filter (notN (n+1))=orderL l (fnv key):=by rw [more_order (n+1) (fnv key) L hlk.1,hf]
        have hmem:(n+1) ∈ orderL L (fnv key):=(mem_orderL L (fnv key) (n+1)).2 (hlk.2.2.1 (n+1) (by omega) (by omega))
        have hlen:=nodup_without (orderL L (fnv key)) (orderL_nodup L (fnv key)) hmem
        rw [hord] at hlen
        have hLl:=orderL_length L (fnv key)
        have hll:=orderL_length l (fnv key)
        have w1:=impl_Order_ev (n+1) L key (by omega) (by omega)
        have w2:=impl_Order_ev n l key (by omega) (by omega)
        rw [o1] at w1
        rw [o2] at w2
        refine Ev.step (fun k=>by simp only [Y9.j1];rw [if_neg (by simp)]) (Ev.bind w1 (left_l0 key (orderL L (fnv key)) n l (n+1) L 0 (by omega) _ 0 [] rfl (by omega) (by simp) ?_))
        rw [List.nil_append,List.drop_zero,hord]
        have w3:=impl_Newcomers_ev n l (n+1) L key 2 (by omega) (by omega) (by omega)
        have w4:=impl_Newcomers_ev n l n l key 2 (by omega) (by omega) (by omega)
        rw [new_same] at w4
        have h3:∀ x ∈ newOut n l (n+1) L key 2,x=n+1:=by
          intro x hx
          unfold newOut at hx
          split at hx
          · unfold newL at hx
            rw [List.mem_filter,ownersL_take,ownersL_take] at hx
            obtain ⟨hx1,hx2⟩:=hx
            by_cases q:x=n+1
            · exact q
            · have:=take_filter q _ _ hx1
              rw [hord] at this
              simp [notIn] at hx2
              exact absurd this hx2
          · cases hx
        have h4:(newOut n l (n+1) L key 2).length≤1:=by
          refine same_nodup _ ?_ h3
          unfold newOut
          split
          · unfold newL
            rw [ownersL_take,ownersL_take]
            exact ((orderL_nodup L (fnv key)).sublist (List.take_sublist _ _)).filter _
          · exact List.nodup_nil
        refine Ev.step (fun k=>by simp only [Y9.l0];rw [if_neg (by omega)]) (Ev.bind w2 (Ev.bind (lwNums_ev (orderL l (fnv key)) (by omega)) (evPos rfl ?_)))
        rw [w64 (by omega) (by omega)]
        refine evPos (by omega) (Ev.bind w3 ?_)
        refine new_l1 key (newOut n l (n+1) L key 2) n l (n+1) L 0 (by omega) ?_ _ 0 rfl (by omega) h3
        exact Ev.step (fun k=>by simp only [Y9.l1];rw [if_neg (by omega),if_pos (by omega)]) (Ev.bind w4 (Ev.now _))
    · have hx:(ringMore n l).2.2≠0:=by
        unfold ringMore
        split
        · rename_i ho
          rw [if_pos (by
            apply Classical.byContradiction
            intro h5
            exact hc ⟨ho,h5⟩)]
          show (9:Int)≠0
          omega
        · show (1:Int)≠0
          omega
      exact evNeg hx (j2T _ _ _)
end Go.Proofs.YtelecnmflodkkaaDoor.Pure

namespace Go.Proofs.YtelecnmflodkkaaDoor.fnMore
open Go.ChangeShapes Go.WideShapes Go.ChangeAt Go.RowKit Go.Proofs.YtelecnmflodkkaaDoor.P Go.Proofs.YtelecnmflodkkaaDoor.Open Go.Proofs.YtelecnmflodkkaaDoorW.PrintWords
open Go.ChangeMaps (open_string shut_string)
set_option linter.unusedVariables false
theorem own:ownKnob Tryd.prog.godebug=none:=by kernel_rfl
theorem laidOut:laidOutB Tryd.prog=true:=by kernel_rfl
set_option maxRecDepth 100000 in
theorem lifted (os:Os) (started:os.Started) (H:Type) (enc:TypeId × Value→H) :
    ReturnsInHanded {} Tryd.checked os 4 .any (fun w args=>(Rows.fnMoreSpec.pre enc Tryd.prog Tryd.f4 Rows.fnMoreRow.domain false w args∧laidMetH Tryd.prog Rows.fnMoreRow.laid w)∧sizedMet enc Tryd.prog Tryd.f4 (OpenSpec.ofChange Rows.fnMoreSpec) false w args) (Rows.fnMoreSpec.post enc Tryd.prog Tryd.f4 false true false false):=by
  refine returnsInHanded_of_change_and (C:=Tryd.checked) (X:=fun w _=>laidMetH Tryd.prog Rows.fnMoreRow.laid w) (fun _ _ _ hh h=>h.of_heap hh) own started (by kernel_rfl) Tryd.func4
    (ChangeSpec.witness_shaped (enc:=enc) (C:=Tryd.checked) (X:=fun w _=>laidMetH Tryd.prog Rows.fnMoreRow.laid w) false (World.laidAll Tryd.prog os Rows.fnMoreRow.laid) #[.slice none 0 0,.slice none 0 0] 8 (World.laidAll_os _ _ _) (World.shaped_of_ZipB (by kernel_rfl) (by kernel_rfl)) (by kernel_rfl) (by kernel_rfl) (by kernel_rfl)
      (by rw [MakeChecks.laidMetH_plain _ _ _ (by kernel_rfl)];exact laidMet_laidAll _ (by kernel_rfl) (by kernel_rfl))) ?_
  intro W base args ds gs before hval0 hW hcnd hsz0 hL_ _
  have hsz:(DataW.weightsEach Tryd.prog (Tryd.f4.params.toList ++ Rows.fnMoreSpec.plain.varTypes Tryd.prog) (ds ++ gs)).all (· ≤ reachBytes)=true:=hsz0
  have hval:∀ (j:Nat) t v,Tryd.f4.params[j]? = some t→args[j]? = some v→Value.okWide Tryd.prog W .any base t v:=hval0
  have hW':=hW
  obtain ⟨p,q,hA0,hV,rfl,hfz,hnd⟩:=hW
  have hA:DataW.TrodAll enc Tryd.prog W 0 (fun _=>true) true Tryd.f4.params.toList args.toList ds p:=hA0
  rw [Tryd.params4] at hA hval hsz
  obtain ⟨v0,vs0,d0,ds0,p0,q0,hargs,rfl,rfl,h0,r0⟩:=trodAll_cons hA
  obtain ⟨v1,vs1,d1,ds1,p1,q1,rfl,rfl,rfl,h1,r1⟩:=trodAll_cons r0
  obtain ⟨rfl,rfl,rfl⟩:=trodAll_nil r1
  obtain rfl:args=#[v0,v1]:=by cases args;simp_all
  obtain ⟨rfl,rfl⟩:=trodVars_none hV
  have k0:=h0
  have lt0:∀ x ∈ p0,x.block<W.heap.size:=by obtain ⟨m,hm⟩:=k0;exact DataW.trod_lt m _ _ _ hm
  obtain ⟨a0,len0,cap0,rfl⟩:=okWide_slice Tryd.underlying31 (hval 0 31 v0 rfl rfl)
  obtain ⟨fuel0,hf0⟩:=h0
  obtain ⟨x0,hk0,w0⟩:=(opens_slice Tryd.underlying31 (by kernel_rfl) (opens_int Tryd.underlying5)) hf0
  obtain ⟨A0,c0,hcs0,hl0,hr0⟩:=hk0
  simp only [Value.cells] at hcs0
  injection hcs0 with hcs0 _
  injection hcs0 with e1_0 e2_0 e3_0
  subst e1_0 e2_0 e3_0
  have k1:=h1
  have lt1:∀ x ∈ p1,x.block<W.heap.size:=by obtain ⟨m,hm⟩:=k1;exact DataW.trod_lt m _ _ _ hm
  obtain ⟨a1,len1,cap1,rfl⟩:=okWide_slice Tryd.underlying31 (hval 1 31 v1 rfl rfl)
  obtain ⟨fuel1,hf1⟩:=h1
  obtain ⟨x1,hk1,w1⟩:=(opens_slice Tryd.underlying31 (by kernel_rfl) (opens_int Tryd.underlying5)) hf1
  obtain ⟨A1,c1,hcs1,hl1,hr1⟩:=hk1
  simp only [Value.cells] at hcs1
  injection hcs1 with hcs1 _
  injection hcs1 with e1_1 e2_1 e3_1
  subst e1_1 e2_1 e3_1
  clear hA0 hval0 hsz0 hsz
  obtain ⟨k,hp⟩:=Pure.FnMore x0 x1 w0 w1
  refine (P.Y9.calls k _ _ x0 _ _ x1 true W hr0 hl0 hr1 hl1 hp).mono fun e W' ⟨he,bel0⟩=>?_
  have bel:Below W.heap.size W W':=bel0
  subst he
  exact ⟨_,rfl,_,_,_,[],_,[],hW',trodAll_mk1 (shut_bool Tryd.underlying4 _),(trodAll_cons_mk (Below.trod laidOut (by kernel_rfl) (of_decide_eq_true (by kernel_rfl)) k0 bel lt0) (trodAll_cons_mk (Below.trod laidOut (by kernel_rfl) (of_decide_eq_true (by kernel_rfl)) k1 bel lt1) trodAll_mk0)),rfl,bel.frame _,fun h=>by cases h⟩
theorem over:Rows.fnMoreRow.holds Tryd.pinned (OpenSpec.ofChange Rows.fnMoreSpec) :=
  OpenClaim.holds_of_wide 4 Tryd.f4 rfl rfl rfl rfl rfl rfl rfl ⟨rfl,rfl,rfl,rfl,rfl⟩ rfl rfl rfl rfl rfl (by kernel_rfl) Tryd.func4 (by kernel_rfl)
    (of_decide_eq_true (by kernel_rfl)) (by unfold Func.isWrapper;first | (rw [if_pos (by decide +kernel)];kernel_rfl) | (rw [if_neg (by decide +kernel)];exact ⟨rfl,rfl⟩))
    (fun os started H enc _=>lifted os started H enc)
theorem proved:Rows.FnMoreSaid:=over
theorem card:Rows.FnMoreCardSaid :=
  Claim7.holds_tied_plain_at .later [] [.data,.data,.data] true (true, "04c657a4273198521dd21b683870fc34c9a056806fe1bb8915cf020c2ff00ca4") false proved (fun _ h=>by cases h) (by kernel_rfl) (fun _ h=>by cases h) fnMore_row_tie rfl ⟨rfl,rfl⟩ (by kernel_rfl) rfl
    (fun f fn hf hfn=>by
      obtain rfl:f=4:=Option.some.inj ((show Tryd.prog.funcNamed Rows.fnMoreRow.func=some 4 by kernel_rfl).symm.trans hf) |>.symm
      obtain rfl:fn=Tryd.f4:=(Option.some.inj (Tryd.func4.symm.trans hfn)).symm
      exact ⟨by kernel_rfl,fun j t ht=>by
        rw [Tryd.params4] at ht
        have h_:t ∈ [31,31]:=by have:=Array.mem_of_getElem? ht;simpa using this
        have hs_:∀ x ∈ [31,31],Tryd.prog.wantsStandIn x=false:=by
          intro x hx
          simp only [List.mem_cons,List.not_mem_nil,or_false] at hx
          rcases hx with rfl | rfl <;> kernel_rfl
        exact hs_ t h_⟩)
    (by kernel_rfl)
#print axioms card
#print axioms proved
end Go.Proofs.YtelecnmflodkkaaDoor.fnMore
namespace Go.Proofs.YtelecnmflodkkaaDoor
/-- The row, under a short name, for the claim. -/
theorem fnMore_holds:Rows.FnMoreCardSaid:=fnMore.card
end Go.Proofs.YtelecnmflodkkaaDoor
