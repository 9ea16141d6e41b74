/- For every request the program's ReqRight and the reference's return the same answer, and the request stays as it was. No condition. (Part 5 of 5: written by programs of this workplace and by hand, merged.) -/
import Derived.Test.YtbkiajppiogifaaGreatMFnExactReqRightd
import Derived.Test.YtbkiajppiogifaaGreatMFnExactReqRighta
import Derived.Test.YtbkiajppiogifaaGreatMFnExactReqRightc
import Derived.Test.YtbkiajppiogifaaGreatMFnExactReqRightb
import Derived.Test.YtbkiajppiogifaaGreatRows
import Derived.WalkKit
import Derived.ProofKit
import Derived.OpenShut
import Derived.ShutString
import Derived.ChangeOld
import Derived.Below
import Derived.SizedLaws
set_option linter.unusedVariables false
set_option linter.unusedSimpArgs false
set_option maxHeartbeats 8000000
set_option maxRecDepth 100000

namespace Go.Proofs.YtbkiajppiogifaaGreat.Q
open Go.RowKit Go.Proofs.YtbkiajppiogifaaGreat.P Go.Proofs.YtbkiajppiogifaaGreatW.PrintWords Go.Proofs.YtbkiajppiogifaaGreatW.PrintMore

abbrev Sib:=S75
def dotLess (a b c d:Int):Bool:=decide (a<c) || (decide (a=c) && decide (b<d))
def dataOk (t:ByteArray) (gone:Bool):Bool:=decide (t.size≤16) && (!gone || decide (t.toList=[]))
def sibOk (v:List Mark) (x:Sib):Bool:=isDot x.f0.f0 x.f0.f1 && (seenHas v x.f0.f0 x.f0.f1 && dataOk x.f2 x.f1)
def sibsFrom (v:List Mark):Option Sib→List Sib→Bool
  | _,[]=>true
  | none,x :: r=>sibOk v x && sibsFrom v (some x) r
  | some y,x :: r=>sibOk v x && (dotLess y.f0.f0 y.f0.f1 x.f0.f0 x.f0.f1 && sibsFrom v (some x) r)
def setOk (v:List Mark) (s:List Sib):Bool:=seenOk v && (decide (s.length≤8) && sibsFrom v none s)
/-- The sibling ahead of place i. -/
def prevSib (l:List Sib) (i:Nat):Option Sib:=if i=0 then none else some (l.getD (i-1) z75)
theorem prevSib_succ {l:List Sib} {i:Nat} {x:Sib} (h:l.getD i z75=x):prevSib l (i+1)=some x:=by
  simp only [prevSib,Nat.add_sub_cancel,h]
  simp
theorem l03Less_is (a b c d:Int):Y68.f a b c d=some (dotLess a b c d):=by
  unfold Y68.f dotLess
  by_cases h:a<c
  · rw [if_pos h];simp [h]
  · rw [if_neg h]
    by_cases h2:a=c
    · rw [if_pos h2];simp [h2]
    · rw [if_neg h2];simp [h,h2]
def cmpI (a b:Int):Int:=if a<b then -1 else if a>b then 1 else 0
theorem Compare_is (a b:Int):Y69.f a b=some (cmpI a b):=by
  simp only [Y69.f,Y80.f,cmpI]
  by_cases h:a<b
  · simp [h]
  · by_cases h2:a>b
    · simp [h,h2]
    · simp [h,h2]
theorem Or_ev (x y:Int):Ev (fun k=>Y62.f k [x,y]) (if x=0 then y else x):=by
  unfold Y62.f
  have hx:rd [x,y] 0=x:=rfl
  have hy:rd [x,y] 1=y:=rfl
  have hl:(([x,y]:List Int).length:Int)=2:=rfl
  rw [hl]
  refine Ev.step (f:=fun k=>if x=0 then Y62.l0 k 0 [x,y] 2 1 else some x) (fun k=>?_) ?_
  · simp only [Y62.l0,hx,hl]
    rw [if_pos (by omega),if_pos (by omega),if_pos (by omega),w64 (by omega) (by omega)]
    rfl
  · refine evIte (fun h=>?_) (fun h=>?_)
    · rw [if_pos h]
      refine Ev.step (f:=fun k=>if y=0 then Y62.l0 k 0 [x,y] 2 2 else some y) (fun k=>?_) ?_
      · simp only [Y62.l0,hy,hl]
        rw [if_pos (by omega),if_pos (by omega),if_pos (by omega),w64 (by omega) (by omega)]
        rfl
      · refine evIte (fun h=>?_) (fun h=>Ev.now _)
        refine Ev.step (f:=fun _=>some y) (fun k=>?_) (Ev.now _)
        simp only [Y62.l0]
        rw [if_neg (by omega),h]
    · rw [if_neg h];exact Ev.now _
def cmpDots (a b c d:Int):Int:=if cmpI a c=0 then cmpI b d else cmpI a c
theorem compareDots_ev (a b c d:Int):Ev (fun k=>Y41.f k a b c d) (cmpDots a b c d):=by
  unfold Y41.f
  exact evBind1 (Compare_is a c) (evBind1 (Compare_is b d) (Ev.bind (Or_ev _ _) (Ev.now _)))
theorem cmpDots_ge (a b c d:Int):decide (cmpDots a b c d≥0)=!dotLess a b c d:=by
  unfold cmpDots cmpI dotLess
  by_cases h1:a<c
  · simp [h1]
  · by_cases h2:a>c
    · have:¬ a=c:=by omega
      simp [h1,h2,this]
    · have:a=c:=by omega
      subst this
      by_cases h3:b<d
      · simp [h3]
      · by_cases h4:b>d
        · simp [h3,h4]
        · simp [h3,h4]
theorem isData_is (t:ByteArray) (g:Bool):Y92.f t g=some (dataOk t g):=by
  unfold Y92.f dataOk
  by_cases h:(t.size:Int)≤16
  · have h':t.size≤16:=by omega
    rw [if_pos h]
    cases g with
    | true =>
      by_cases e:t.toList=[]
      · simp [h',e]
      · simp [h',e]
    | false=>simp [h']
  · have h':¬ t.size≤16:=by omega
    rw [if_neg h];simp [h']
theorem impl_SetRight_l0 (v:List Mark) (hv:v.length≤4611686018427387904) (l:List Sib) (hl:l.length≤1048576):∀ (s:List Sib) (i:Nat),l.drop i=s→i≤l.length →
    Ev (fun k=>Y7.l0 k l (l.length:Int) (i:Int) v l) (sibsFrom v (prevSib l i) s)
  | [],i,h,hi=>by
    have:=dropNil' h hi
    refine Ev.step (f:=fun _=>some true) (fun k=>?_) (by simp only [sibsFrom];exact Ev.now _)
    simp only [Y7.l0]
    rw [if_neg (by omega)]
  | x :: s,i,h,hi=>by
    obtain ⟨h1,h2,h3⟩:=dropCons h z75
    have hr:rd_T75 l (i:Int)=x:=by simpa [rd_T75] using h2
    have ih:=impl_SetRight_l0 v hv l hl s (i+1) h3 (by omega)
    rw [prevSib_succ h2] at ih
    have hj:∀ b:Bool,Ev (fun k=>Y7.j2 k l (l.length:Int) (i:Int) b v l) (!b && sibsFrom v (some x) s):=fun b=>by
      cases b with
      | true=>exact Ev.step (f:=fun _=>some false) (fun k=>by simp [Y7.j2]) (Ev.now _)
      | false=>exact Ev.step (fun k=>by simp only [Y7.j2];rw [if_neg (by simp),w64 (x:=(i:Int)+1) (by omega) (by omega)]) (by simpa using ih)
    have main:∀ (p:Bool) (g:Nat→Option Bool),Ev g (p && sibsFrom v (some x) s)→Ev (fun k=>(Y73.f x.f0.f0 x.f0.f1).bind fun t=>if t=true then ((Y47.f k v x.f0.f0 x.f0.f1).bind fun t=>if t=true then ((Y92.f x.f2 x.f1).bind fun t=>if t=true then g k else Y7.j2 k l (l.length:Int) (i:Int) true v l) else Y7.j2 k l (l.length:Int) (i:Int) true v l) else Y7.j2 k l (l.length:Int) (i:Int) true v l) (sibOk v x && (p && sibsFrom v (some x) s)):=by
      intro p g hg
      unfold sibOk
      refine evBind1 (isDot_is _ _) ?_
      cases isDot x.f0.f0 x.f0.f1 with
      | false=>exact evNeg (by simp) (by simpa using hj true)
      | true =>
        refine evPos rfl (Ev.bind (seenHas_ev v _ _ hv) ?_)
        cases seenHas v x.f0.f0 x.f0.f1 with
        | false=>exact evNeg (by simp) (by simpa using hj true)
        | true =>
          refine evPos rfl (evBind1 (isData_is _ _) ?_)
          cases dataOk x.f2 x.f1 with
          | false=>exact evNeg (by simp) (by simpa using hj true)
          | true=>exact evPos rfl (by simpa using hg)
    by_cases hi0:i=0
    · have hp:prevSib l i=none:=by simp [prevSib,hi0]
      rw [hp]
      have h0:¬ ((i:Int)>0):=by omega
      refine Ev.step (fun k=>?_) (show Ev _ (sibsFrom v none (x :: s)) from by
        have:=main true _ (by simpa using hj false)
        simpa [sibsFrom] using this)
      simp only [Y7.l0,hr,if_neg h0]
      rw [if_pos (by omega),if_pos (by omega),if_pos (by omega)]
    · have hp:prevSib l i=some (l.getD (i-1) z75):=by simp [prevSib,hi0]
      rw [hp]
      generalize hy:l.getD (i-1) z75=y
      have hq:rd_T75 l ((i:Int)-1)=y:=by
        rw [← hy];simp only [rd_T75];congr 1;omega
      have h0:(i:Int)>0:=by omega
      have hw:wrap64 ((i:Int)-1)=(i:Int)-1:=w64 (by omega) (by omega)
      have hA:(0:Int)≤(i:Int)-1:=by omega
      have hB:(i:Int)-1<(l.length:Int):=by omega
      refine Ev.step (fun k=>?_) (show Ev _ (sibsFrom v (some y) (x :: s)) from by
        have:=main (dotLess y.f0.f0 y.f0.f1 x.f0.f0 x.f0.f1) (fun k=>(Y41.f k y.f0.f0 y.f0.f1 x.f0.f0 x.f0.f1).bind fun t=>Y7.j2 k l (l.length:Int) (i:Int) (decide (t≥0)) v l)
          (Ev.bind (compareDots_ev _ _ _ _) (by
            have:=hj (decide (cmpDots y.f0.f0 y.f0.f1 x.f0.f0 x.f0.f1≥0))
            rw [cmpDots_ge] at this ⊢
            simpa using this))
        simpa [sibsFrom] using this)
      simp only [Y7.l0,hr,if_pos h0,hw,if_pos hA,if_pos hB,hq]
      rw [if_pos (by omega),if_pos (by omega),if_pos (by omega)]
theorem impl_SetRight_ev (v:List Mark) (l:List Sib) (hv:v.length≤4611686018427387904) (hl:l.length≤1048576):Ev (fun k=>Y7.f k v l) (setOk v l):=by
  unfold Y7.f setOk
  refine Ev.bind (impl_seenRight_ev v hv) ?_
  cases seenOk v with
  | false=>exact evNeg (by simp) (Ev.step (f:=fun _=>some false) (fun k=>by simp [Y7.j0]) (Ev.now _))
  | true =>
    refine evPos rfl ?_
    by_cases h:l.length≤8
    · have hd:decide ((l.length:Int)>8)=false:=by simp;omega
      rw [hd]
      refine Ev.step (fun k=>by simp only [Y7.j0];rw [if_neg (by simp)]) ?_
      simpa [h,prevSib] using impl_SetRight_l0 v hv l hl l 0 rfl (by omega)
    · have hd:decide ((l.length:Int)>8)=true:=by simp;omega
      rw [hd]
      exact Ev.step (f:=fun _=>some false) (fun k=>by simp [Y7.j0]) (by simp [h];exact Ev.now _)
theorem spec_SetRight_l0 (v:List Mark) (hv:v.length≤4611686018427387904) (hk:seenOk v=true) (l:List Sib) (hl:l.length≤1048576):∀ (s:List Sib) (i:Nat),l.drop i=s→i≤l.length →
    Ev (fun k=>Y5.l0 k (i:Int) v l) (sibsFrom v (prevSib l i) s)
  | [],i,h,hi=>by
    have:=dropNil' h hi
    refine Ev.step (f:=fun _=>some true) (fun k=>?_) (by simp only [sibsFrom];exact Ev.now _)
    simp only [Y5.l0]
    rw [if_neg (by omega)]
  | x :: s,i,h,hi=>by
    obtain ⟨h1,h2,h3⟩:=dropCons h z75
    have hr:rd_T75 l (i:Int)=x:=by simpa [rd_T75] using h2
    have ih:=spec_SetRight_l0 v hv hk l hl s (i+1) h3 (by omega)
    rw [prevSib_succ h2] at ih
    have hj:∀ b:Bool,Ev (fun k=>if b=true then Y5.l0 k ((i:Int)+1) v l else some false) (b && sibsFrom v (some x) s):=fun b=>by
      cases b with
      | false=>exact evNeg (by simp) (Ev.now _)
      | true=>exact evPos rfl (by simpa using ih)
    have hi1:wrap64 ((i:Int)+1)=(i:Int)+1:=w64 (by omega) (by omega)
    have main:∀ (p:Bool) (g:Nat→Option Bool),Ev g (p && sibsFrom v (some x) s)→Ev (fun k=>(Y35.f k v x.f0.f0 x.f0.f1).bind fun t=>if t=true then (if (x.f2.size:Int)>16 then some false else (if x.f1=true then (if x.f2.toList=([]:List UInt8) then g k else some false) else g k)) else some false) (sibOk v x && (p && sibsFrom v (some x) s)):=by
      intro p g hg
      have e:seenHasOut v x.f0.f0 x.f0.f1=(isDot x.f0.f0 x.f0.f1 && seenHas v x.f0.f0 x.f0.f1):=by simp [seenHasOut,hk]
      unfold sibOk
      rw [← Bool.and_assoc (isDot _ _),← e]
      refine Ev.bind (spec_SeenHas_ev v _ _ hv) ?_
      cases seenHasOut v x.f0.f0 x.f0.f1 with
      | false=>exact evNeg (by simp) (Ev.now _)
      | true =>
        refine evPos rfl ?_
        unfold dataOk
        by_cases hs:(x.f2.size:Int)>16
        · have hs':¬ x.f2.size≤16:=by omega
          exact evPos hs (by simpa [hs'] using Ev.now false)
        · have hs':x.f2.size≤16:=by omega
          refine evNeg hs ?_
          cases hg1:x.f1 with
          | false=>exact evNeg (by simp) (by simpa [hs'] using hg)
          | true =>
            refine evPos rfl ?_
            by_cases he:x.f2.toList=[]
            · exact evPos he (by simpa [hs',he] using hg)
            · exact evNeg he (by simpa [hs',he] using Ev.now false)
    by_cases hi0:i=0
    · have hp:prevSib l i=none:=by simp [prevSib,hi0]
      rw [hp]
      have h0:¬ ((i:Int)>0):=by omega
      refine Ev.step (fun k=>?_) (show Ev _ (sibsFrom v none (x :: s)) from by
        have:=main true (fun k=>Y5.l0 k ((i:Int)+1) v l) (by simpa using ih)
        simpa [sibsFrom] using this)
      simp only [Y5.l0,hr,if_neg h0,hi1]
      rw [if_pos (by omega),if_pos (by omega)]
    · have hp:prevSib l i=some (l.getD (i-1) z75):=by simp [prevSib,hi0]
      rw [hp]
      generalize hy:l.getD (i-1) z75=y
      have hq:rd_T75 l ((i:Int)-1)=y:=by
        rw [← hy];simp only [rd_T75];congr 1;omega
      have h0:(i:Int)>0:=by omega
      have hw:wrap64 ((i:Int)-1)=(i:Int)-1:=w64 (by omega) (by omega)
      have hA:(0:Int)≤(i:Int)-1:=by omega
      have hB:(i:Int)-1<(l.length:Int):=by omega
      refine Ev.step (fun k=>?_) (show Ev _ (sibsFrom v (some y) (x :: s)) from by
        have:=main (dotLess y.f0.f0 y.f0.f1 x.f0.f0 x.f0.f1) (fun k=>(Y68.f y.f0.f0 y.f0.f1 x.f0.f0 x.f0.f1).bind fun t=>if t=true then Y5.l0 k ((i:Int)+1) v l else some false)
          (evBind1 (l03Less_is _ _ _ _) (hj (dotLess y.f0.f0 y.f0.f1 x.f0.f0 x.f0.f1)))
        simpa [sibsFrom] using this)
      simp only [Y5.l0,hr,hi1,if_pos h0,hw,if_pos hA,if_pos hB,hq]
      rw [if_pos (by omega),if_pos (by omega)]
theorem spec_SetRight_ev (v:List Mark) (l:List Sib) (hv:v.length≤4611686018427387904) (hl:l.length≤1048576):Ev (fun k=>Y5.f k v l) (setOk v l):=by
  unfold Y5.f setOk
  refine Ev.bind (spec_SeenRight_ev v hv) ?_
  cases hk:seenOk v with
  | false=>exact evNeg (by simp) (Ev.step (f:=fun _=>some false) (fun k=>by simp [Y5.j0]) (Ev.now _))
  | true =>
    refine evPos rfl ?_
    by_cases h:l.length≤8
    · have hd:decide ((l.length:Int)>8)=false:=by simp;omega
      rw [hd]
      refine Ev.step (fun k=>by simp only [Y5.j0];rw [if_neg (by simp)]) ?_
      simpa [h,prevSib] using spec_SetRight_l0 v hv hk l hl l 0 rfl (by omega)
    · have hd:decide ((l.length:Int)>8)=true:=by simp;omega
      rw [hd]
      exact Ev.step (f:=fun _=>some false) (fun k=>by simp [Y5.j0]) (by simp [h];exact Ev.now _)
end Go.Proofs.YtbkiajppiogifaaGreat.Q

namespace Go.Proofs.YtbkiajppiogifaaGreat.Q
open Go.RowKit Go.Proofs.YtbkiajppiogifaaGreat.P Go.Proofs.YtbkiajppiogifaaGreatW.PrintWords Go.Proofs.YtbkiajppiogifaaGreatW.PrintMore

abbrev LSib:=S96
def toSib (x:LSib):Sib:=⟨toMark x.f0,x.f1,x.f2⟩
theorem szSib_is (a b:Int) (c:Bool) (t:ByteArray) (n:Int) (h0:0≤n) (h1:n≤1048576) (ht:t.size≤9223372036854775807) :
    Y99.f a b c t n=some (if n<(t.size:Int) then -1 else n-(t.size:Int)):=by
  unfold Y99.f
  rw [w64 (by omega) (by omega)]
  split
  · rw [if_pos (by omega)]
  · rw [if_neg (by omega)]
theorem szSibS_l0 (l:List LSib) (hl:l.length≤1048576) (hx:∀ x ∈ l,x.f2.size≤9223372036854775807):∀ (s:List LSib) (i:Nat),l.drop i=s→i≤l.length→∀ n:Int,0≤n→n≤1048576 →
    ∃ r,Ev (fun k=>Y60.l0 k l n (i:Int)) r∧r≤n∧(0≤r→∀ x ∈ s,(x.f2.size:Int)≤n)
  | [],i,h,hi,n,h0,h1=>by
    have:=dropNil' h hi
    refine ⟨n,Ev.step (f:=fun _=>some n) (fun k=>?_) (Ev.now _),by omega,by simp⟩
    simp only [Y60.l0]
    rw [if_neg (by omega)]
  | m :: s,i,h,hi,n,h0,h1=>by
    obtain ⟨g1,g2,g3⟩:=dropCons h z96
    have hr:rd_T96 l (i:Int)=m:=by simpa [rd_T96] using g2
    have hm:m ∈ l:=List.mem_of_mem_drop (by rw [h];exact List.mem_cons_self)
    have e:=szSib_is m.f0.f0 m.f0.f1 m.f1 m.f2 n h0 h1 (hx m hm)
    by_cases hn:n<(m.f2.size:Int)
    · rw [if_pos hn] at e
      refine ⟨-1,Ev.step (f:=fun _=>some (-1)) (fun k=>?_) (Ev.now _),by omega,by omega⟩
      simp only [Y60.l0,hr,e,Option.bind_some]
      rw [if_pos (by omega),if_pos (by omega),if_pos (by omega)]
    · rw [if_neg hn] at e
      obtain ⟨r,e1,e2,e3⟩:=szSibS_l0 l hl hx s (i+1) g3 (by omega) (n-(m.f2.size:Int)) (by omega) (by omega)
      refine ⟨r,Ev.step (fun k=>?_) e1,by omega,fun hr0 x hxm=>?_⟩
      · simp only [Y60.l0,hr,e,Option.bind_some]
        rw [if_pos (by omega),if_pos (by omega),if_neg (by omega),w64 (by omega) (by omega)]
        rfl
      · rcases List.mem_cons.1 hxm with rfl | hxm
        · omega
        · have:=e3 hr0 x hxm;omega
theorem szSibS_ev (l:List LSib) (hl:l.length≤9223372036854775807) (hx:∀ x ∈ l,x.f2.size≤9223372036854775807) (n:Int) (h0:0≤n) (h1:n≤1048576) :
    ∃ r,Ev (fun k=>Y60.f k l n) r∧r≤n∧(0≤r→(l.length:Int)≤n∧∀ x ∈ l,(x.f2.size:Int)≤n):=by
  unfold Y60.f
  rw [w64 (by omega) (by omega)]
  by_cases h:n-(l.length:Int)<0
  · exact ⟨-1,evPos h (Ev.now _),by omega,by omega⟩
  · obtain ⟨r,e1,e2,e3⟩:=szSibS_l0 l (by omega) hx l 0 rfl (by omega) (n-(l.length:Int)) (by omega) (by omega)
    exact ⟨r,evNeg h e1,by omega,fun h0=>⟨by omega,fun x hx=>by have:=e3 h0 x hx;omega⟩⟩
theorem szSet_ev (v:List LMark) (l:List LSib) (hv:v.length≤9223372036854775807) (hl:l.length≤9223372036854775807) (hx:∀ x ∈ l,x.f2.size≤9223372036854775807) (n:Int) (h0:0≤n) (h1:n≤1048576) :
    ∃ r,Ev (fun k=>Y84.f k v l n) r∧r≤n∧(0≤r→v.length≤1048576∧l.length≤1048576∧∀ x ∈ l,x.f2.size≤1048576):=by
  unfold Y84.f
  rw [szMarkS_is v n h0 h1 hv]
  simp only [Option.bind_some]
  by_cases h:n<(v.length:Int)
  · rw [if_pos h]
    exact ⟨-1,evPos (by omega) (Ev.now _),by omega,by omega⟩
  · rw [if_neg h]
    obtain ⟨r,e1,e2,e3⟩:=szSibS_ev l hl hx (n-(v.length:Int)) (by omega) (by omega)
    by_cases hr:r<0
    · exact ⟨-1,evNeg (by omega) (Ev.bind e1 (evPos hr (Ev.now _))),by omega,by omega⟩
    · refine ⟨r,evNeg (by omega) (Ev.bind e1 (evNeg hr (Ev.now _))),by omega,fun h0=>?_⟩
      obtain ⟨g1,g2⟩:=e3 h0
      exact ⟨by omega,by omega,fun x hx=>by have:=g2 x hx;omega⟩
theorem toSibS_l0 (l:List LSib) (hl:l.length≤1048576):∀ (s:List LSib) (i:Nat),l.drop i=s→i≤l.length→∀ (acc:List Sib),acc.length=l.length→acc.take i=(l.take i).map toSib →
    Ev (fun k=>Y58.l0 k l acc (i:Int)) (l.map toSib)
  | [],i,h,hi,acc,ha,hc=>by
    have:=dropNil' h hi
    refine Ev.step (f:=fun _=>some (l.map toSib)) (fun k=>?_) (Ev.now _)
    simp only [Y58.l0]
    rw [if_neg (by omega)]
    rw [← this,List.take_of_length_le (by omega),List.take_length] at hc
    rw [hc]
  | m :: s,i,h,hi,acc,ha,hc=>by
    obtain ⟨h1,h2,h3⟩:=dropCons h z96
    have hr:rd_T96 l (i:Int)=m:=by simpa [rd_T96] using h2
    have hm:l[i]'h1=m:=by
      rw [List.getD_eq_getElem?_getD,List.getElem?_eq_getElem h1] at h2;exact h2
    refine Ev.step (fun k=>?_) (toSibS_l0 l hl s (i+1) h3 (by omega) (acc.set i (toSib m)) (by simpa using ha) (by
      rw [List.take_succ_eq_append_getElem (by simp;omega),List.take_succ_eq_append_getElem h1,List.map_append,List.take_set_of_le (by omega),hc]
      simp [hm]))
    simp only [Y58.l0,Y104.f,Y79.f,hr,Option.bind_some,Int.toNat_natCast]
    rw [if_pos (by omega),if_pos (by omega),if_pos (by omega),w64 (by omega) (by omega)]
    rfl
theorem toSibS_ev (l:List LSib) (hl:l.length≤1048576):Ev (fun k=>Y58.f k l) (l.map toSib):=by
  unfold Y58.f
  refine evPos (by omega) (evPos (by omega) ?_)
  exact toSibS_l0 l hl l 0 rfl (by omega) _ (by simp) (by simp)
theorem toSet_ev (v:List LMark) (l:List LSib) (hv:v.length≤1048576) (hl:l.length≤1048576):Ev (fun k=>Y89.f k v l) (v.map toMark,l.map toSib) :=
  Ev.bind (toMarkS_ev v hv) (Ev.bind (toSibS_ev l hl) (Ev.now _))
theorem eqSib_refl (a b:Int) (c:Bool) (t:ByteArray):Y102.f a b c t a b c t=some true:=by simp [Y102.f,eqMark_refl]
theorem eqSibS_l0 (l:List Sib) (hl:l.length≤4611686018427387904):∀ (s:List Sib) (i:Nat),l.drop i=s→i≤l.length →
    Ev (fun k=>Y49.l0 k l l (i:Int)) true
  | [],i,h,hi=>by
    have:=dropNil' h hi
    refine Ev.step (f:=fun _=>some true) (fun k=>?_) (Ev.now _)
    simp only [Y49.l0]
    rw [if_neg (by omega)]
  | m :: s,i,h,hi=>by
    obtain ⟨h1,h2,h3⟩:=dropCons h z75
    refine Ev.step (fun k=>?_) (eqSibS_l0 l hl s (i+1) h3 (by omega))
    simp only [Y49.l0,eqSib_refl,Option.bind_some]
    rw [if_pos (by omega),if_pos (by omega),if_pos (by omega),if_pos trivial,w64 (by omega) (by omega)]
    rfl
theorem eqSibS_ev (l:List Sib) (hl:l.length≤4611686018427387904):Ev (fun k=>Y49.f k l l) true:=by
  unfold Y49.f
  exact evPos rfl (eqSibS_l0 l hl l 0 rfl (by omega))
theorem eqSet_ev (v:List Mark) (l:List Sib) (hv:v.length≤4611686018427387904) (hl:l.length≤4611686018427387904):Ev (fun k=>Y90.f k v l v l) true :=
  Ev.bind (eqMarkS_ev v hv) (evPos rfl (Ev.bind (eqSibS_ev l hl) (evPos rfl (Ev.now _))))
end Go.Proofs.YtbkiajppiogifaaGreat.Q

namespace Go.Proofs.YtbkiajppiogifaaGreat.Q
open Go.RowKit Go.Proofs.YtbkiajppiogifaaGreat.P Go.Proofs.YtbkiajppiogifaaGreatW.PrintWords Go.Proofs.YtbkiajppiogifaaGreatW.PrintMore

abbrev LAsk:=S70
abbrev Ask:=S61
def toAsk (x:LAsk):Ask:=⟨x.f0,x.f1,x.f2,x.f3⟩
theorem szAsk_is (a b:Int) (c:Bool) (t:ByteArray) (n:Int) (h0:0≤n) (h1:n≤1048576) (ht:t.size≤9223372036854775807) :
    Y98.f a b c t n=some (if n<(t.size:Int) then -1 else n-(t.size:Int)):=by
  unfold Y98.f
  rw [w64 (by omega) (by omega)]
  split
  · rw [if_pos (by omega)]
  · rw [if_neg (by omega)]
theorem szAskS_l0 (l:List LAsk) (hl:l.length≤1048576) (hx:∀ x ∈ l,x.f3.size≤9223372036854775807):∀ (s:List LAsk) (i:Nat),l.drop i=s→i≤l.length→∀ n:Int,0≤n→n≤1048576 →
    ∃ r,Ev (fun k=>Y59.l0 k l n (i:Int)) r∧r≤n∧(0≤r→∀ x ∈ s,(x.f3.size:Int)≤n)
  | [],i,h,hi,n,h0,h1=>by
    have:=dropNil' h hi
    refine ⟨n,Ev.step (f:=fun _=>some n) (fun k=>?_) (Ev.now _),by omega,by simp⟩
    simp only [Y59.l0]
    rw [if_neg (by omega)]
  | m :: s,i,h,hi,n,h0,h1=>by
    obtain ⟨g1,g2,g3⟩:=dropCons h z70
    have hr:rd_T70 l (i:Int)=m:=by simpa [rd_T70] using g2
    have hm:m ∈ l:=List.mem_of_mem_drop (by rw [h];exact List.mem_cons_self)
    have e:=szAsk_is m.f0 m.f1 m.f2 m.f3 n h0 h1 (hx m hm)
    by_cases hn:n<(m.f3.size:Int)
    · rw [if_pos hn] at e
      refine ⟨-1,Ev.step (f:=fun _=>some (-1)) (fun k=>?_) (Ev.now _),by omega,by omega⟩
      simp only [Y59.l0,hr,e,Option.bind_some]
      rw [if_pos (by omega),if_pos (by omega),if_pos (by omega)]
    · rw [if_neg hn] at e
      obtain ⟨r,e1,e2,e3⟩:=szAskS_l0 l hl hx s (i+1) g3 (by omega) (n-(m.f3.size:Int)) (by omega) (by omega)
      refine ⟨r,Ev.step (fun k=>?_) e1,by omega,fun hr0 x hxm=>?_⟩
      · simp only [Y59.l0,hr,e,Option.bind_some]
        rw [if_pos (by omega),if_pos (by omega),if_neg (by omega),w64 (by omega) (by omega)]
        rfl
      · rcases List.mem_cons.1 hxm with rfl | hxm
        · omega
        · have:=e3 hr0 x hxm;omega
theorem szAskS_ev (l:List LAsk) (hl:l.length≤9223372036854775807) (hx:∀ x ∈ l,x.f3.size≤9223372036854775807) (n:Int) (h0:0≤n) (h1:n≤1048576) :
    ∃ r,Ev (fun k=>Y59.f k l n) r∧r≤n∧(0≤r→(l.length:Int)≤n∧∀ x ∈ l,(x.f3.size:Int)≤n):=by
  unfold Y59.f
  rw [w64 (by omega) (by omega)]
  by_cases h:n-(l.length:Int)<0
  · exact ⟨-1,evPos h (Ev.now _),by omega,by omega⟩
  · obtain ⟨r,e1,e2,e3⟩:=szAskS_l0 l (by omega) hx l 0 rfl (by omega) (n-(l.length:Int)) (by omega) (by omega)
    exact ⟨r,evNeg h e1,by omega,fun h0=>⟨by omega,fun x hx=>by have:=e3 h0 x hx;omega⟩⟩
theorem toAskS_l0 (l:List LAsk) (hl:l.length≤1048576):∀ (s:List LAsk) (i:Nat),l.drop i=s→i≤l.length→∀ (acc:List Ask),acc.length=l.length→acc.take i=(l.take i).map toAsk →
    Ev (fun k=>Y57.l0 k l acc (i:Int)) (l.map toAsk)
  | [],i,h,hi,acc,ha,hc=>by
    have:=dropNil' h hi
    refine Ev.step (f:=fun _=>some (l.map toAsk)) (fun k=>?_) (Ev.now _)
    simp only [Y57.l0]
    rw [if_neg (by omega)]
    rw [← this,List.take_of_length_le (by omega),List.take_length] at hc
    rw [hc]
  | m :: s,i,h,hi,acc,ha,hc=>by
    obtain ⟨h1,h2,h3⟩:=dropCons h z70
    have hr:rd_T70 l (i:Int)=m:=by simpa [rd_T70] using h2
    have hm:l[i]'h1=m:=by
      rw [List.getD_eq_getElem?_getD,List.getElem?_eq_getElem h1] at h2;exact h2
    refine Ev.step (fun k=>?_) (toAskS_l0 l hl s (i+1) h3 (by omega) (acc.set i (toAsk m)) (by simpa using ha) (by
      rw [List.take_succ_eq_append_getElem (by simp;omega),List.take_succ_eq_append_getElem h1,List.map_append,List.take_set_of_le (by omega),hc]
      simp [hm]))
    simp only [Y57.l0,Y103.f,hr,Option.bind_some,Int.toNat_natCast]
    rw [if_pos (by omega),if_pos (by omega),if_pos (by omega),w64 (by omega) (by omega)]
    rfl
theorem toAskS_ev (l:List LAsk) (hl:l.length≤1048576):Ev (fun k=>Y57.f k l) (l.map toAsk):=by
  unfold Y57.f
  refine evPos (by omega) (evPos (by omega) ?_)
  exact toAskS_l0 l hl l 0 rfl (by omega) _ (by simp) (by simp)
theorem eqAsk_refl (a b:Int) (c:Bool) (t:ByteArray):Y101.f a b c t a b c t=some true:=by simp [Y101.f]
theorem eqAskS_l0 (l:List Ask) (hl:l.length≤4611686018427387904):∀ (s:List Ask) (i:Nat),l.drop i=s→i≤l.length →
    Ev (fun k=>Y48.l0 k l l (i:Int)) true
  | [],i,h,hi=>by
    have:=dropNil' h hi
    refine Ev.step (f:=fun _=>some true) (fun k=>?_) (Ev.now _)
    simp only [Y48.l0]
    rw [if_neg (by omega)]
  | m :: s,i,h,hi=>by
    obtain ⟨h1,h2,h3⟩:=dropCons h z61
    refine Ev.step (fun k=>?_) (eqAskS_l0 l hl s (i+1) h3 (by omega))
    simp only [Y48.l0,eqAsk_refl,Option.bind_some]
    rw [if_pos (by omega),if_pos (by omega),if_pos (by omega),if_pos trivial,w64 (by omega) (by omega)]
    rfl
theorem eqAskS_ev (l:List Ask) (hl:l.length≤4611686018427387904):Ev (fun k=>Y48.f k l l) true:=by
  unfold Y48.f
  exact evPos rfl (eqAskS_l0 l hl l 0 rfl (by omega))
end Go.Proofs.YtbkiajppiogifaaGreat.Q

namespace Go.Proofs.YtbkiajppiogifaaGreat.Q
open Go.RowKit Go.Proofs.YtbkiajppiogifaaGreat.P Go.Proofs.YtbkiajppiogifaaGreatW.PrintWords Go.Proofs.YtbkiajppiogifaaGreatW.PrintMore

def lowCh (c:Int):Bool:=decide (97≤c) && decide (c≤122)
def nameCh (c:Int):Bool:=lowCh c || (decide (48≤c) && decide (c≤57)) || decide (c=95)
def nameList:List Int→Bool
  | []=>false
  | c :: r=>lowCh c && r.all nameCh
def nameOk (s:ByteArray):Bool:=decide (s.size≤20) && nameList (bytesOf s)
theorem bt_of {s:ByteArray} {i:Nat} {c:Int} (h:(bytesOf s).getD i 0=c):bt s (i:Int)=c:=by
  rw [← rd_bytesOf];simpa [rd] using h
theorem spec_name_round (s:ByteArray) (k i:Nat) (hi:i<s.size) (h1:1≤i) (hs:s.size≤1048576) :
    Y17.l0 (k+1) s (i:Int)=if nameCh (bt s i) then Y17.l0 k s ((i+1:Nat):Int) else some false:=by
  simp only [Y17.l0]
  rw [if_pos (by omega),if_pos (by omega),w64 (by omega) (by omega)]
  have h0:¬ ((i:Int)=0):=by omega
  simp only [if_neg h0,nameCh,lowCh]
  generalize bt s i=c
  by_cases h1:97≤c <;> by_cases h2:c≤122 <;> by_cases h3:48≤c <;> by_cases h4:c≤57 <;> by_cases h5:c=95 <;> first | (exfalso;omega) | simp [ge_iff_le,h1,h2,h3,h4,h5]
theorem spec_name_first (s:ByteArray) (k:Nat) (hi:0<s.size) (hs:s.size≤1048576) :
    Y17.l0 (k+1) s 0=if lowCh (bt s 0) then Y17.l0 k s 1 else some false:=by
  simp only [Y17.l0]
  rw [if_pos (by omega),if_pos (by omega),w64 (by omega) (by omega)]
  simp only [if_true,lowCh,Int.zero_add]
  generalize bt s 0=c
  by_cases h1:97≤c <;> by_cases h2:c≤122 <;> first | (exfalso;omega) | simp [ge_iff_le,h1,h2]
theorem spec_name_l0 (s:ByteArray) (hs:s.size≤1048576):∀ (r:List Int) (i:Nat),(bytesOf s).drop i=r→i≤s.size→1≤i→Ev (fun k=>Y17.l0 k s (i:Int)) (r.all nameCh)
  | [],i,h,hi,h1=>by
    have:=dropNil h
    rw [bytesOf_length] at this
    refine Ev.step (f:=fun _=>some true) (fun k=>?_) (Ev.now _)
    simp only [Y17.l0]
    rw [if_neg (by omega)]
  | c :: r,i,h,hi,h1=>by
    obtain ⟨g1,g2,g3⟩:=dropCons h 0
    rw [bytesOf_length] at g1
    have hb:=bt_of g2
    refine Ev.step (fun k=>spec_name_round s k i g1 h1 hs) ?_
    rw [hb]
    refine evIte (fun hc=>?_) (fun hc=>?_)
    · simp only [List.all_cons,hc,Bool.true_and];exact spec_name_l0 s hs r (i+1) g3 (by omega) (by omega)
    · simp only [List.all_cons,Bool.eq_false_iff.mpr hc,Bool.false_and];exact Ev.now _
theorem spec_NameRight_ev (s:ByteArray) (hs:s.size≤1048576):Ev (fun k=>Y17.f k s) (nameOk s):=by
  have hl:=bytesOf_length s
  unfold Y17.f nameOk
  refine evIte (fun h=>?_) (fun h=>?_)
  · refine Ev.step (f:=fun _=>some false) (fun k=>by simp only [Y17.j0];rw [if_pos trivial]) ?_
    have:bytesOf s=[]:=by rw [← List.length_eq_zero_iff,hl];omega
    simp only [this,nameList,Bool.and_false]
    exact Ev.now _
  · by_cases h20:(s.size:Int)>20
    · refine Ev.step (f:=fun _=>some false) (fun k=>by simp only [Y17.j0];rw [if_pos (by simpa using h20)]) ?_
      have:¬ s.size≤20:=by omega
      simp only [this,decide_false,Bool.false_and]
      exact Ev.now _
    · refine Ev.step (fun k=>by simp only [Y17.j0];rw [if_neg (by simpa using h20)]) ?_
      have h20':s.size≤20:=by omega
      simp only [h20',decide_true,Bool.true_and]
      cases hb:bytesOf s with
      | nil=>rw [hb] at hl;simp at hl;omega
      | cons c r =>
        have hc:bt s ((0:Nat):Int)=c:=bt_of (by rw [hb];rfl)
        refine Ev.step (fun k=>spec_name_first s k (by omega) hs) ?_
        rw [show (0:Int)=((0:Nat):Int) from rfl,hc]
        refine evIte (fun h1=>?_) (fun h1=>?_)
        · simp only [nameList,h1,Bool.true_and]
          exact spec_name_l0 s hs r 1 (by rw [hb];rfl) (by omega) (by omega)
        · simp only [nameList,Bool.eq_false_iff.mpr h1,Bool.false_and];exact Ev.now _
theorem impl_name_round (s:ByteArray) (k i:Nat) (hi:i<s.size) (hs:s.size≤140737488351232) :
    Y19.l0 (k+1) s (s.size:Int) (i:Int)=if nameCh (bt s i) then Y19.l0 k s (s.size:Int) ((i+1:Nat):Int) else some false:=by
  simp only [Y19.l0]
  rw [if_pos (by omega),if_pos (by omega),if_pos (by omega),w64 (by omega) (by omega)]
  simp only [nameCh,lowCh]
  generalize bt s i=c
  by_cases h1:97≤c <;> by_cases h2:c≤122 <;> by_cases h3:48≤c <;> by_cases h4:c≤57 <;> by_cases h5:c=95 <;> first | (exfalso;omega) | simp [ge_iff_le,h1,h2,h3,h4,h5]
theorem impl_name_l0 (s:ByteArray) (hs:s.size≤140737488351232):∀ (r:List Int) (i:Nat),(bytesOf s).drop i=r→i≤s.size→Ev (fun k=>Y19.l0 k s (s.size:Int) (i:Int)) (r.all nameCh)
  | [],i,h,hi=>by
    have:=dropNil h
    rw [bytesOf_length] at this
    refine Ev.step (f:=fun _=>some true) (fun k=>?_) (Ev.now _)
    simp only [Y19.l0]
    rw [if_neg (by omega)]
  | c :: r,i,h,hi=>by
    obtain ⟨g1,g2,g3⟩:=dropCons h 0
    rw [bytesOf_length] at g1
    have hb:=bt_of g2
    refine Ev.step (fun k=>impl_name_round s k i g1 hs) ?_
    rw [hb]
    refine evIte (fun hc=>?_) (fun hc=>?_)
    · simp only [List.all_cons,hc,Bool.true_and];exact impl_name_l0 s hs r (i+1) g3 (by omega)
    · simp only [List.all_cons,Bool.eq_false_iff.mpr hc,Bool.false_and];exact Ev.now _
theorem low_name {c:Int} (h:lowCh c=true):nameCh c=true:=by simp [nameCh,h]
theorem impl_NameRight_ev (s:ByteArray) (hs:s.size≤140737488351232):Ev (fun k=>Y19.f k s) (nameOk s):=by
  have hl:=bytesOf_length s
  unfold Y19.f nameOk Y67.f
  refine evBind1 rfl (evBind1 (within_is _ _ _) ?_)
  refine evIte (fun h=>?_) (fun h=>?_)
  · have hw:1≤(s.size:Int)∧(s.size:Int)≤20:=by simpa [isWithin] using h
    refine evPos (by omega) ?_
    have h20':s.size≤20:=by omega
    simp only [h20',decide_true,Bool.true_and]
    cases hb:bytesOf s with
    | nil=>rw [hb] at hl;simp at hl;omega
    | cons c r =>
      have hc:bt s ((0:Nat):Int)=c:=bt_of (by rw [hb];rfl)
      have hc':bt s 0=c:=hc
      rw [hc']
      refine evIte (fun h1=>?_) (fun h1=>?_)
      · refine Ev.step (f:=fun _=>some false) (fun k=>by simp only [Y19.j0];rw [if_pos trivial]) ?_
        have:lowCh c=false:=by simp [lowCh];omega
        simp only [nameList,this,Bool.false_and];exact Ev.now _
      · by_cases h2:c>122
        · refine Ev.step (f:=fun _=>some false) (fun k=>by simp only [Y19.j0];rw [if_pos (by simpa using h2)]) ?_
          have:lowCh c=false:=by simp [lowCh];omega
          simp only [nameList,this,Bool.false_and];exact Ev.now _
        · refine Ev.step (fun k=>by simp only [Y19.j0];rw [if_neg (by simpa using h2)]) ?_
          have hlow:lowCh c=true:=by simp [lowCh];omega
          simp only [nameList,hlow,Bool.true_and]
          have:=impl_name_l0 s hs (c :: r) 0 (by rw [hb];rfl) (by omega)
          simpa [low_name hlow] using this
  · refine Ev.step (f:=fun _=>some false) (fun k=>by simp only [Y19.j0];rw [if_pos trivial]) ?_
    have hw:isWithin (s.size:Int) 1 20=false:=by simpa using h
    have:(decide (s.size≤20) && nameList (bytesOf s))=false:=by
      by_cases h20:s.size≤20
      · have:bytesOf s=[]:=by
          rw [← List.length_eq_zero_iff,hl]
          simp [isWithin] at hw;omega
        simp [this,nameList]
      · simp [h20]
    rw [this]
    exact Ev.now _
end Go.Proofs.YtbkiajppiogifaaGreat.Q

namespace Go.Proofs.YtbkiajppiogifaaGreat.Q
open Go.RowKit Go.Proofs.YtbkiajppiogifaaGreat.P Go.Proofs.YtbkiajppiogifaaGreatW.PrintWords Go.Proofs.YtbkiajppiogifaaGreatW.PrintMore

theorem bits_xor_nat (k:IntKind) (j:Nat) (hj:j≤k.bits) (hk:∀ n:Int,0≤n→n<2 ^ j→k.wrap n=n) (a b:Nat) (ha:a<2 ^ j) (hb:b<2 ^ j):bits .xor k a b=((a ^^^ b:Nat):Int):=by
  have hp:2 ^ j≤2 ^ k.bits:=Nat.pow_le_pow_right (by decide) hj
  have ha':a % 2 ^ k.bits=a:=Nat.mod_eq_of_lt (Nat.lt_of_lt_of_le ha hp)
  have hb':b % 2 ^ k.bits=b:=Nat.mod_eq_of_lt (Nat.lt_of_lt_of_le hb hp)
  simp only [bits,BitVec.ofInt_natCast,BitVec.toNat_xor,BitVec.toNat_ofNat,ha',hb']
  exact hk _ (Int.natCast_nonneg _) (by exact_mod_cast Nat.xor_lt_two_pow ha hb)
end Go.Proofs.YtbkiajppiogifaaGreat.Q

namespace Go.Proofs.YtbkiajppiogifaaGreat.Q
open Go.RowKit Go.Proofs.YtbkiajppiogifaaGreat.P Go.Proofs.YtbkiajppiogifaaGreatW.PrintWords Go.Proofs.YtbkiajppiogifaaGreatW.PrintMore

def unzig (u:Int):Int:=if u % 2=1 then -(u / 2)-1 else u / 2
/-- f more bytes; the bytes left; the number so far; the place; the weight of the next seven bits. -/
def numGo:Nat→List Int→Int→Int→Int→Int × Int × Int
  | 0,_,_,_,_=>(0,0,3)
  | _+1,[],_,_,_=>(0,0,4)
  | f+1,c :: r,u,p,w =>
    if f=0∧c>1 then (0,0,3)
    else if c<128 then (if c=0∧f<9 then (0,0,3) else (unzig (u+c % 128*w),p+1,0))
    else numGo f r (u+c % 128*w) (p+1) (w*128)
def getNum (s:ByteArray) (at_:Int):Int × Int × Int :=
  if 8000<s.size then (0,0,2) else if at_<0 then (0,0,1) else numGo 10 ((bytesOf s).drop at_.toNat) 0 at_ 1
theorem pow_le_pow_ {b:Int} (hb:1≤b) {i j:Nat} (h:i≤j):b ^ i≤b ^ j:=by
  induction h with
  | refl=>exact Int.le_refl _
  | step h ih =>
    rw [Int.pow_succ]
    have h0:0≤b ^ i:=Int.le_of_lt (Int.pow_pos (by omega))
    have h1:=Int.mul_le_mul_of_nonneg_left hb (Int.le_trans h0 ih)
    omega
theorem bits_or_comm (k:IntKind) (a b:Int):Go.bits .or k a b=Go.bits .or k b a:=by
  simp only [bits,BitVec.or_comm]
theorem u64_or_add {i:Nat} (hi:i≤9) {x y:Int} (hx:0≤x) (hx':x<2 ^ (7*i)) (hy:0≤y) (hy':y % 2 ^ (7*i)=0) (hy2:y<18446744073709551616):Go.bits .or .u64 x y=x+y:=by
  have hp:(2:Int) ^ (7*i)≤2 ^ 63:=pow_le_pow_ (by omega) (by omega)
  rw [bits_or_comm,bits_join .u64 64 (by decide) wraps_u64 (7*i) y x hy hy' (by omega) hx hx' (by omega)]
  omega
theorem xor_i64_zero {x:Int} (h0:0≤x) (h1:x<9223372036854775808):Go.bits .xor .i64 x 0=x:=by
  obtain ⟨a,rfl⟩:=Int.eq_ofNat_of_zero_le h0
  have:=bits_xor_nat .i64 63 (by decide) wraps_i64 a 0 (by omega) (by omega)
  simpa using this
theorem xor_i64_ones {x:Int} (h0:0≤x) (h1:x<9223372036854775808):Go.bits .xor .i64 x (-1) = -x-1:=by
  obtain ⟨a,rfl⟩:=Int.eq_ofNat_of_zero_le h0
  have ha:a<2 ^ 64:=by omega
  have hw:IntKind.bits .i64=64:=rfl
  simp only [bits]
  rw [BitVec.ofInt_natCast]
  have h2:(BitVec.ofInt (IntKind.bits .i64) (-1))=BitVec.allOnes _:=by decide
  rw [h2,BitVec.xor_allOnes,BitVec.toNat_not,BitVec.toNat_ofNat,hw,Nat.mod_eq_of_lt ha,IntKind.wrap_i64]
  omega
theorem u64_and1 {x:Int} (h₀:0≤x) (h₁:x<18446744073709551616):Go.bits .and .u64 x 1=x % 2:=bits_mask .u64 64 (by decide) wraps_u64 1 (by decide) x h₀ h₁
theorem u8_and127 {x:Int} (h₀:0≤x) (h₁:x<256):Go.bits .and .u8 x 127=x % 128:=bits_mask .u8 8 (by decide) wraps_u8 7 (by decide) x h₀ h₁
theorem pow128 (i:Nat):(2:Int) ^ (7*i)=128 ^ i:=by rw [Int.pow_mul];rfl
theorem pow128_pos (i:Nat):0<(128:Int) ^ i:=Int.pow_pos (by omega)
theorem pow128_le {i j:Nat} (h:i≤j):(128:Int) ^ i≤128 ^ j:=pow_le_pow_ (by omega) h
/-- The number with seven bits more: where the sum lies. -/
theorem sum_range {i:Nat} (hi:i≤9) {u c:Int} (hu0:0≤u) (hu:u<128 ^ i) (hc0:0≤c) (hc:c<256) (h9:i=9→c≤1) :
    0≤c % 128*128 ^ i∧c % 128*128 ^ i<18446744073709551616∧u+c % 128*128 ^ i<18446744073709551616∧(i<9→u+c % 128*128 ^ i<128 ^ (i+1)):=by
  have hp:=pow128_pos i
  have h0:0≤c % 128*128 ^ i:=Int.mul_nonneg (by omega) (by omega)
  rcases Nat.lt_or_ge i 9 with h | h
  · have h1:c % 128*128 ^ i≤127*128 ^ i:=Int.mul_le_mul_of_nonneg_right (by omega) (by omega)
    have h2:(128:Int) ^ i≤128 ^ 8:=pow128_le (by omega)
    have h3:(128:Int) ^ (i+1)=128 ^ i*128:=Int.pow_succ _ _
    refine ⟨h0,by omega,by omega,fun _=>by omega⟩
  · obtain rfl:i=9:=by omega
    have h1:c % 128*128 ^ 9≤1*128 ^ 9:=Int.mul_le_mul_of_nonneg_right (by have:=h9 rfl;omega) (by omega)
    refine ⟨h0,by omega,by omega,fun h=>by omega⟩
theorem shl_is {i:Nat} (hi:i≤9) {u c:Int} (hu0:0≤u) (hu:u<128 ^ i) (hc0:0≤c) (hc:c<256) (h9:i=9→c≤1):shl .u64 (c % 128) (7*(i:Int))=c % 128*128 ^ i:=by
  have h:=sum_range hi hu0 hu hc0 hc h9
  unfold shl
  rw [show min (7*(i:Int)).toNat (IntKind.bits .u64)=7*i from by simp only [IntKind.bits];omega,pow128,u64w]
  omega
theorem numGo_place:∀ (f:Nat) (bs:List Int) (u p w:Int),0≤p→∀ n q c,numGo f bs u p w=(n,q,c)→c=0→p+1≤q∧q≤p+bs.length
  | 0,_,_,_,_,_,_,_,_,h,hc=>by simp [numGo] at h;omega
  | _+1,[],_,_,_,_,_,_,_,h,hc=>by simp [numGo] at h;omega
  | f+1,c :: r,u,p,w,hp,n,q,d,h,hd=>by
    simp only [numGo] at h
    split at h
    · simp at h;omega
    · split at h
      · split at h
        · simp at h;omega
        · simp at h;simp;omega
      · have:=numGo_place f r _ (p+1) _ (by omega) n q d h hd
        simp;omega
theorem drop_bt {s:ByteArray} {j:Nat} {c:Int} {r:List Int} (h:(bytesOf s).drop j=c :: r):j<s.size∧bt s (j:Int)=c∧(bytesOf s).drop (j+1)=r∧0≤c∧c<256:=by
  obtain ⟨g1,g2,g3⟩:=dropCons h 0
  rw [bytesOf_length] at g1
  have hb:=bt_of g2
  have hr:=bt_range s (j:Int)
  rw [hb] at hr
  exact ⟨g1,hb,g3,hr.1,by omega⟩
theorem drop_nil_size {s:ByteArray} {j:Nat} (h:(bytesOf s).drop j=[]):s.size≤j:=by
  have:=dropNil h
  rwa [bytesOf_length] at this
theorem spec_num_end {k:Nat} {x1 u:Int} {i:Nat} (hu0:0≤u) (hu:u<18446744073709551616) (h1:0≤x1+i) (h2:x1+i<9000) :
    Y18.j2 (k+1) x1 u (i:Int) false=some (unzig u,x1+i+1,0):=by
  simp only [Y18.j2]
  rw [if_neg (by simp)]
  rw [Int.tmod_eq_emod_of_nonneg hu0,Int.tdiv_eq_ediv_of_nonneg hu0,u64w,w64 (x:=x1+i) (by omega) (by omega),w64 (x:=x1+i+1) (by omega) (by omega),show u / 2 % 18446744073709551616=u / 2 from by omega,
    w64 (x:=u / 2) (by omega) (by omega),w64 (x := -(u / 2)) (by omega) (by omega),w64 (x := -(u / 2)-1) (by omega) (by omega)]
  unfold unzig
  split <;> rfl
theorem spec_num_go (s:ByteArray) (hs:s.size≤8000) (x1:Int) (hx:0≤x1) (hx2:x1≤9223372036854775807):∀ (f i:Nat),f+i=10→∀ (bs:List Int),(bytesOf s).drop (x1.toNat+i)=bs→∀ u:Int,0≤u→u<128 ^ i →
    Ev (fun k=>Y18.l0 k s x1 u (i:Int)) (numGo f bs u (x1+i) (128 ^ i))
  | 0,i,hf,bs,hb,u,hu0,hu=>by
    refine Ev.step (f:=fun _=>some (0,0,3)) (fun k=>?_) (by simp only [numGo];exact Ev.now _)
    simp only [Y18.l0]
    rw [if_neg (by omega)]
  | f+1,i,hf,[],hb,u,hu0,hu=>by
    have:=drop_nil_size hb
    refine Ev.step (f:=fun _=>some (0,0,4)) (fun k=>?_) (by simp only [numGo];exact Ev.now _)
    simp only [Y18.l0]
    rw [if_pos (by omega),w64 (by omega) (by omega),if_pos (by omega)]
  | f+1,i,hf,c :: r,hb,u,hu0,hu=>by
    obtain ⟨g1,g2,g3,g4,g5⟩:=drop_bt hb
    have ex:x1+i=((x1.toNat+i:Nat):Int):=by omega
    have hl0:∀ k,Y18.l0 (k+1) s x1 u (i:Int)=Y18.j1 k s x1 u (i:Int) c (decide (i=9∧c>1)):=fun k=>by
      simp only [Y18.l0]
      rw [if_pos (by omega),w64 (x:=(s.size:Int)-i) (by omega) (by omega),if_neg (by omega),w64 (x:=x1+i) (by omega) (by omega),if_pos (by omega),if_pos (by omega),ex,g2,u64w,show c % 18446744073709551616=c from by omega]
      by_cases h9:i=9
      · subst h9
        rw [if_pos (by omega)];simp
      · rw [if_neg (by omega)];simp [h9]
    by_cases hbad:i=9∧c>1
    · refine Ev.step hl0 (Ev.step (f:=fun _=>some (0,0,3)) (fun k=>?_) ?_)
      · simp only [hbad,Y18.j1];simp
      · have hf0:f=0:=by omega
        simp only [numGo,hf0,hbad.2,and_self,if_true];exact Ev.now _
    · have h9:i=9→c≤1:=fun e=>by omega
      have hsum:=sum_range (by omega) hu0 hu g4 g5 h9
      have hsh:=shl_is (by omega) hu0 hu g4 g5 h9
      have hj1:∀ k,Y18.j1 (k+1) s x1 u (i:Int) c (decide (i=9∧c>1))=if c<128 then Y18.j2 k x1 (u+c % 128*128 ^ i) (i:Int) (decide (c=0∧(i:Int)>0)) else Y18.l0 k s x1 (u+c % 128*128 ^ i) ((i+1:Nat):Int):=fun k=>by
        simp only [hbad,decide_false,Y18.j1]
        rw [if_neg (by simp),w64 (x:=7*(i:Int)) (by omega) (by omega),u64w,show 7*(i:Int) % 18446744073709551616=7*(i:Int) from by omega,if_pos (by omega),Int.tmod_eq_emod_of_nonneg g4,hsh,u64w,
          show (u+c % 128*128 ^ i) % 18446744073709551616=u+c % 128*128 ^ i from by omega,w64 (x:=(i:Int)+1) (by omega) (by omega)]
        by_cases hc:c<128
        · rw [if_pos hc,if_pos hc]
          by_cases h0:c=0
          · rw [if_pos h0];simp [h0]
          · rw [if_neg h0];simp [h0]
        · rw [if_neg hc,if_neg hc];rfl
      refine Ev.step hl0 (Ev.step hj1 ?_)
      have hng:¬ (f=0∧c>1):=fun e=>hbad ⟨by omega,e.2⟩
      simp only [numGo,if_neg hng]
      refine evIte (fun hc=>?_) (fun hc=>?_)
      · rw [if_pos hc]
        by_cases h0:c=0∧(i:Int)>0
        · rw [if_pos (by omega)]
          refine Ev.step (f:=fun _=>some (0,0,3)) (fun k=>?_) (Ev.now _)
          simp only [h0,Y18.j2];simp
        · rw [if_neg (by omega)]
          refine Ev.step (f:=fun _=>_) (fun k=>?_) (Ev.now _)
          simp only [h0,decide_false]
          exact spec_num_end (by omega) (by omega) (by omega) (by omega)
      · rw [if_neg hc]
        have h8:i<9:=by
          rcases Nat.lt_or_ge i 9 with h | h
          · exact h
          · have:=h9 (by omega);omega
        have ih:=spec_num_go s hs x1 hx hx2 f (i+1) (by omega) r (by rw [← g3];congr 1) (u+c % 128*128 ^ i) (by omega) (hsum.2.2.2 h8)
        rw [show x1+((i+1:Nat):Int)=x1+i+1 from by omega,Int.pow_succ] at ih
        exact ih
theorem spec_GetNum_ev (s:ByteArray) (x1:Int) (h1 : -9223372036854775808≤x1) (h2:x1≤9223372036854775807):Ev (fun k=>Y18.f k s x1) (getNum s x1):=by
  unfold Y18.f getNum
  by_cases h:8000<s.size
  · rw [if_pos h];exact evPos (by omega) (Ev.now _)
  · rw [if_neg h]
    refine evNeg (by omega) ?_
    by_cases h0:x1<0
    · rw [if_pos h0];exact evPos h0 (Ev.now _)
    · rw [if_neg h0]
      refine evNeg h0 ?_
      have:=spec_num_go s (by omega) x1 (by omega) h2 10 0 rfl _ rfl 0 (by omega) (by simp)
      simpa using this
theorem impl_num_end {x1 u:Int} {i:Nat} (hu0:0≤u) (hu:u<18446744073709551616) (h1:0≤x1+i) (h2:x1+i<9000) :
    (Go.bits .xor .i64 (wrap64 (u / 2)) (wrap64 (-(wrap64 (Go.bits .and .u64 u 1)))),wrap64 ((wrap64 (x1+i))+1),(0:Int))=(unzig u,x1+i+1,0):=by
  rw [u64_and1 hu0 hu,w64 (x:=x1+i) (by omega) (by omega),w64 (x:=x1+i+1) (by omega) (by omega),w64 (x:=u / 2) (by omega) (by omega),w64 (x:=u % 2) (by omega) (by omega),w64 (x := -(u % 2)) (by omega) (by omega)]
  unfold unzig
  split
  · rename_i h
    rw [h,xor_i64_ones (by omega) (by omega)]
  · rename_i h
    rw [show -(u % 2)=0 from by omega,xor_i64_zero (by omega) (by omega)]
theorem impl_num_go (s:ByteArray) (hs:s.size≤8000) (x1:Int) (hx:0≤x1) (hx2:x1≤9223372036854775807):∀ (f i:Nat),f+i=10→∀ (bs:List Int),(bytesOf s).drop (x1.toNat+i)=bs→∀ u:Int,0≤u→u<128 ^ i →
    Ev (fun k=>Y20.l0 k s x1 u (i:Int)) (numGo f bs u (x1+i) (128 ^ i))
  | 0,i,hf,bs,hb,u,hu0,hu=>by
    refine Ev.step (f:=fun _=>some (0,0,3)) (fun k=>?_) (by simp only [numGo];exact Ev.now _)
    simp only [Y20.l0]
    rw [if_neg (by omega)]
  | f+1,i,hf,[],hb,u,hu0,hu=>by
    have:=drop_nil_size hb
    refine Ev.step (f:=fun k=>Y20.j1 k s x1 u (i:Int) (i:Int) true) (fun k=>?_) (Ev.step (f:=fun _=>some (0,0,4)) (fun k=>?_) (by simp only [numGo];exact Ev.now _))
    · simp only [Y20.l0,Y67.f,Option.bind_some]
      rw [if_pos (by omega)]
      by_cases h:x1≥(s.size:Int)
      · rw [if_pos h]
      · rw [if_neg h,w64 (x:=(s.size:Int)-x1) (by omega) (by omega)]
        congr 1
        simp;omega
    · simp [Y20.j1]
  | f+1,i,hf,c :: r,hb,u,hu0,hu=>by
    obtain ⟨g1,g2,g3,g4,g5⟩:=drop_bt hb
    have ex:x1+i=((x1.toNat+i:Nat):Int):=by omega
    have hl0:∀ k,Y20.l0 (k+1) s x1 u (i:Int)=Y20.j1 k s x1 u (i:Int) (i:Int) false:=fun k=>by
      simp only [Y20.l0,Y67.f,Option.bind_some]
      rw [if_pos (by omega),if_neg (by omega),w64 (x:=(s.size:Int)-x1) (by omega) (by omega)]
      congr 1
      simp;omega
    have hj1:∀ k,Y20.j1 (k+1) s x1 u (i:Int) (i:Int) false=Y20.j2 k s x1 u (i:Int) c (i:Int) (decide (i=9∧c>1)):=fun k=>by
      simp only [Y20.j1]
      rw [if_neg (by simp),w64 (x:=x1+i) (by omega) (by omega),if_pos (by omega),if_pos (by omega),ex,g2]
      by_cases h9:i=9
      · subst h9
        rw [if_pos (by omega)];simp
      · rw [if_neg (by omega)];simp [h9]
    refine Ev.step hl0 (Ev.step hj1 ?_)
    by_cases hbad:i=9∧c>1
    · refine Ev.step (f:=fun _=>some (0,0,3)) (fun k=>?_) ?_
      · simp only [hbad,Y20.j2];simp
      · have hf0:f=0:=by omega
        simp only [numGo,hf0,hbad.2,and_self,if_true];exact Ev.now _
    · have h9:i=9→c≤1:=fun e=>by omega
      have hsum:=sum_range (by omega) hu0 hu g4 g5 h9
      have hsh:=shl_is (by omega) hu0 hu g4 g5 h9
      have hmod:c % 128*128 ^ i % 2 ^ (7*i)=0:=by rw [pow128];exact Int.mul_emod_left _ _
      have hor:=u64_or_add (i:=i) (by omega) hu0 (by rw [pow128];exact hu) hsum.1 hmod hsum.2.1
      have hj2:∀ k,Y20.j2 (k+1) s x1 u (i:Int) c (i:Int) (decide (i=9∧c>1))=if c<128 then (if c=0∧(i:Int)>0 then some (0,0,3) else some (unzig (u+c % 128*128 ^ i),x1+i+1,0)) else Y20.l0 k s x1 (u+c % 128*128 ^ i) ((i+1:Nat):Int):=fun k=>by
        simp only [hbad,decide_false,Y20.j2]
        rw [if_neg (by simp),u64w,u64w,show (i:Int) % 18446744073709551616=i from by omega,show 7*(i:Int) % 18446744073709551616=7*(i:Int) from by omega,if_pos (by omega),u8_and127 g4 g5,u64w,show c % 128 % 18446744073709551616=c % 128 from by omega,hsh,hor,
          w64 (x:=(i:Int)+1) (by omega) (by omega),impl_num_end (by omega) (by omega) (by omega) (by omega)]
        by_cases hc:c<128
        · rw [if_pos hc,if_pos hc]
          by_cases h0:c=0
          · rw [if_pos h0]
            by_cases hi:(i:Int)>0
            · rw [if_pos hi,if_pos ⟨h0,hi⟩]
            · rw [if_neg hi,if_neg (fun e=>hi e.2)]
          · rw [if_neg h0,if_neg (fun e=>h0 e.1)]
        · rw [if_neg hc,if_neg hc];rfl
      refine Ev.step hj2 ?_
      have hng:¬ (f=0∧c>1):=fun e=>hbad ⟨by omega,e.2⟩
      simp only [numGo,if_neg hng]
      refine evIte (fun hc=>?_) (fun hc=>?_)
      · rw [if_pos hc]
        by_cases h0:c=0∧(i:Int)>0
        · rw [if_pos (show c=0∧f<9 by omega)];simp only [if_pos h0];exact Ev.now _
        · rw [if_neg (show ¬ (c=0∧f<9) by omega)];simp only [if_neg h0];exact Ev.now _
      · rw [if_neg hc]
        have h8:i<9:=by
          rcases Nat.lt_or_ge i 9 with h | h
          · exact h
          · have:=h9 (by omega);omega
        have ih:=impl_num_go s hs x1 hx hx2 f (i+1) (by omega) r (by rw [← g3];congr 1) (u+c % 128*128 ^ i) (by omega) (hsum.2.2.2 h8)
        rw [show x1+((i+1:Nat):Int)=x1+i+1 from by omega,Int.pow_succ] at ih
        exact ih
theorem impl_GetNum_ev (s:ByteArray) (x1:Int) (h1 : -9223372036854775808≤x1) (h2:x1≤9223372036854775807):Ev (fun k=>Y20.f k s x1) (getNum s x1):=by
  unfold Y20.f getNum
  refine Ev.bind (isLong1_ev s) ?_
  by_cases h:8000<s.size
  · rw [if_pos h];exact evPos (by simpa using h) (Ev.now _)
  · rw [if_neg h]
    refine evNeg (by simpa using h) ?_
    by_cases h0:x1<0
    · rw [if_pos h0];exact evPos h0 (Ev.now _)
    · rw [if_neg h0]
      refine evNeg h0 ?_
      have:=impl_num_go s (by omega) x1 (by omega) h2 10 0 rfl _ rfl 0 (by omega) (by simp)
      simpa using this
theorem getNum_place {s:ByteArray} {x1 n p:Int} (h:getNum s x1=(n,p,0)):s.size≤8000∧0≤x1∧x1+1≤p∧p≤s.size:=by
  unfold getNum at h
  split at h
  · simp at h
  · split at h
    · simp at h
    · have:=numGo_place 10 _ 0 x1 1 (by omega) n p 0 h rfl
      rw [List.length_drop,bytesOf_length] at this
      omega
def getText (s:ByteArray) (at_:Int):ByteArray × Int × Int :=
  if (getNum s at_).2.2=0 then
    (if (getNum s at_).1<0∨(getNum s at_).1>8000 then (⟨#[]⟩,0,3)
     else if (getNum s at_).1>s.size-(getNum s at_).2.1 then (⟨#[]⟩,0,4)
     else (s.extract (getNum s at_).2.1.toNat ((getNum s at_).2.1+(getNum s at_).1).toNat,(getNum s at_).2.1+(getNum s at_).1,0))
  else (⟨#[]⟩,0,(getNum s at_).2.2)
theorem spec_GetText_ev (s:ByteArray) (x1:Int) (h1 : -9223372036854775808≤x1) (h2:x1≤9223372036854775807):Ev (fun k=>Y38.f k s x1) (getText s x1):=by
  unfold Y38.f getText
  refine Ev.bind (spec_GetNum_ev s x1 h1 h2) ?_
  generalize hg:getNum s x1=g
  obtain ⟨n,p,c⟩:=g
  by_cases hc:c=0
  · subst hc
    have hp:=getNum_place hg
    refine evPos rfl ?_
    simp only [if_true]
    by_cases hn:n<0
    · refine evPos hn (Ev.step (f:=fun _=>some (⟨#[]⟩,0,3)) (fun k=>by simp [Y38.j0]) ?_)
      rw [if_pos (Or.inl hn)];exact Ev.now _
    · refine evNeg hn ?_
      by_cases h8:n>8000
      · refine Ev.step (f:=fun _=>some (⟨#[]⟩,0,3)) (fun k=>by simp [Y38.j0,h8]) ?_
        rw [if_pos (Or.inr h8)];exact Ev.now _
      · rw [if_neg (by omega)]
        refine Ev.step (f:=fun _=>_) (fun k=>?_) (evOf rfl)
        simp only [h8,decide_false,Y38.j0]
        rw [if_neg (by simp),w64 (x:=(s.size:Int)-n) (by omega) (by omega),w64 (x:=p+n) (by omega) (by omega)]
        by_cases hl:n>s.size-p
        · rw [if_pos (by omega),if_pos hl]
        · rw [if_neg (by omega),if_neg hl,if_pos (by omega),if_pos (by omega),if_pos (by omega)]
  · exact evNeg hc (by rw [if_neg hc];exact Ev.now _)
theorem impl_GetText_ev (s:ByteArray) (x1:Int) (h1 : -9223372036854775808≤x1) (h2:x1≤9223372036854775807):Ev (fun k=>Y50.f k s x1) (getText s x1):=by
  unfold Y50.f getText
  refine Ev.bind (impl_GetNum_ev s x1 h1 h2) ?_
  generalize hg:getNum s x1=g
  obtain ⟨n,p,c⟩:=g
  by_cases hc:c=0
  · subst hc
    have hp:=getNum_place hg
    refine evPos rfl (evBind1 (within_is _ _ _) ?_)
    simp only [if_true]
    by_cases hn:isWithin n 0 8000=true
    · have hn':0≤n∧n≤8000:=by simpa [isWithin] using hn
      refine evPos hn (evBind1 rfl ?_)
      rw [if_neg (show ¬ (n<0∨n>8000) by omega)]
      simp only [w64 (x:=(s.size:Int)-p) (by omega) (by omega),w64 (x:=p+n) (by omega) (by omega)]
      by_cases hl:n>s.size-p
      · simp only [if_pos hl];exact Ev.now _
      · simp only [if_neg hl];exact (evPos (by omega) (evPos (by omega) (evPos (by omega) (Ev.now _))))
    · have hn':n<0∨n>8000:=by
        simp [isWithin] at hn;omega
      rw [if_pos hn']
      exact evNeg hn (Ev.now _)
  · exact evNeg hc (by rw [if_neg hc];exact Ev.now _)
end Go.Proofs.YtbkiajppiogifaaGreat.Q

namespace Go.Proofs.YtbkiajppiogifaaGreat.Q
open Go.RowKit Go.Proofs.YtbkiajppiogifaaGreat.P Go.Proofs.YtbkiajppiogifaaGreatW.PrintWords Go.Proofs.YtbkiajppiogifaaGreatW.PrintMore

theorem zig_unzig {u:Int} (h:0≤u):zig (unzig u)=u:=by
  unfold zig unzig
  split <;> split <;> omega
theorem vbytes_small (f:Nat) {c:Int} (h0:0≤c) (h1:c<128):vbytes f c=[c]:=by
  cases f with
  | zero=>simp only [vbytes];rw [show c % 256=c from by omega]
  | succ f=>simp only [vbytes];rw [if_neg (by omega),show c % 256=c from by omega]
theorem numGo_canon:∀ (f:Nat),f≤9→∀ (bs:List Int) (u p w n q:Int),(∀ c ∈ bs,0≤c∧c<256)→numGo (f+1) bs u p w=(n,q,0) →
    ∃ v r,0≤v∧(f<9→1≤v)∧bs=vbytes f v ++ r∧q=p+((vbytes f v).length:Int)∧n=unzig (u+v*w)∧v<128 ^ (f+1)
  | f,_,[],u,p,w,n,q,_,h=>by simp [numGo] at h
  | f,hf9,c :: r,u,p,w,n,q,hb,h=>by
    have hc:=hb c List.mem_cons_self
    simp only [numGo] at h
    split at h
    · simp at h
    · rename_i h1
      split at h
      · rename_i h2
        split at h
        · simp at h
        · rename_i h3
          simp only [Prod.mk.injEq,and_true] at h
          refine ⟨c,r,hc.1,fun hf=>by omega,?_,?_,?_,Int.lt_of_lt_of_le h2 (pow128_le (i:=1) (by omega))⟩
          · rw [vbytes_small f hc.1 h2];rfl
          · rw [vbytes_small f hc.1 h2];simp;omega
          · rw [← h.1,show c % 128=c from by omega]
      · rename_i h2
        cases f with
        | zero=>omega
        | succ f =>
          obtain ⟨v,r',g0,g1,g2,g3,g4,g5⟩:=numGo_canon f (by omega) r (u+c % 128*w) (p+1) (w*128) n q (fun x hx=>hb x (List.mem_cons_of_mem _ hx)) h
          have hv1:1≤v:=g1 (by omega)
          have e:vbytes (f+1) (c % 128+128*v)=c :: vbytes f v:=by
            simp only [vbytes]
            rw [if_pos (by omega),show (c % 128+128*v) % 128+128=c from by omega,show (c % 128+128*v) / 128=v from by omega]
          refine ⟨c % 128+128*v,r',by omega,fun _=>by omega,?_,?_,?_,by rw [Int.pow_succ];omega⟩
          · rw [e,g2];rfl
          · rw [e];simp;omega
          · rw [g4,Int.add_mul,show 128*v*w=v*(w*128) from by rw [Int.mul_comm 128 v,Int.mul_assoc,Int.mul_comm 128 w],Int.add_assoc]
theorem bytesOf_range (s:ByteArray):∀ c ∈ bytesOf s,0≤c∧c<256:=by
  intro c hc
  simp only [bytesOf,List.mem_map] at hc
  obtain ⟨b,_,rfl⟩:=hc
  have:=b.toNat_lt
  omega
/-- What is read lies there as PutNum writes it. -/
theorem getNum_canon {s:ByteArray} {x n p:Int} (h:getNum s x=(n,p,0)):∃ r,(bytesOf s).drop x.toNat=vbytes 9 (zig n) ++ r∧p=x+((vbytes 9 (zig n)).length:Int)∧zig n<128 ^ 10∧0≤zig n:=by
  unfold getNum at h
  split at h
  · simp at h
  · split at h
    · simp at h
    · obtain ⟨v,r,g0,_,g2,g3,g4,g5⟩:=numGo_canon 9 (by omega) _ 0 x 1 n p (fun c hc=>bytesOf_range s c (List.mem_of_mem_drop hc)) h
      have e:zig n=v:=by rw [g4,show 0+v*1=v from by omega,zig_unzig g0]
      rw [e]
      exact ⟨r,g2,g3,g5,g0⟩
end Go.Proofs.YtbkiajppiogifaaGreat.Q

namespace Go.Proofs.YtbkiajppiogifaaGreat.Q
open Go.RowKit Go.Proofs.YtbkiajppiogifaaGreat.P Go.Proofs.YtbkiajppiogifaaGreatW.PrintWords Go.Proofs.YtbkiajppiogifaaGreatW.PrintMore

theorem bytesOf_append (a b:ByteArray):bytesOf (a ++ b)=bytesOf a ++ bytesOf b:=by
  simp only [bytesOf]
  rw [show (a ++ b).data=a.data ++ b.data from by simp]
  simp
theorem bytesOf_strOfNums:∀ (l:List Int),(∀ c ∈ l,0≤c∧c<256)→bytesOf (strOfNums l)=l:=by
  intro l h
  simp only [bytesOf,strOfNums]
  rw [List.map_map]
  conv=>rhs;rw [← List.map_id l]
  refine List.map_congr_left (fun c hc=>?_)
  have:=h c hc
  simp only [Function.comp,id,UInt8.toNat_ofNat']
  omega
theorem vbytes_range:∀ (f:Nat) (u:Int),∀ c ∈ vbytes f u,0≤c∧c<256
  | 0,u,c,hc=>by simp only [vbytes,List.mem_singleton] at hc;omega
  | f+1,u,c,hc=>by
    simp only [vbytes] at hc
    split at hc
    · rcases List.mem_cons.1 hc with rfl | hc
      · omega
      · exact vbytes_range f _ c hc
    · simp only [List.mem_singleton] at hc;omega
theorem bytesOf_putNum (n:Int):bytesOf (putNum n)=vbytes 9 (zig n):=bytesOf_strOfNums _ (vbytes_range 9 _)
theorem bytesOf_inj {a b:ByteArray} (h:bytesOf a=bytesOf b):a=b:=by
  have key:∀ (l m:List UInt8),l.map (fun b=>(b.toNat:Int))=m.map (fun b=>(b.toNat:Int))→l=m:=by
    intro l
    induction l with
    | nil=>intro m hm;cases m with
      | nil=>rfl
      | cons x r=>simp at hm
    | cons x r ih =>
      intro m hm
      cases m with
      | nil=>simp at hm
      | cons y q =>
        simp only [List.map_cons,List.cons.injEq] at hm
        rw [ih q hm.2,UInt8.toNat_inj.1 (Int.ofNat.inj hm.1)]
  have h2:=key _ _ h
  obtain ⟨a⟩:=a
  obtain ⟨b⟩:=b
  simp only [ByteArray.mk.injEq]
  exact Array.toList_inj.1 h2
/-- From p to q the text s has the bytes bs. -/
def Span (s:ByteArray) (p:Int) (bs:List Int) (q:Int):Prop:=0≤p∧q=p+(bs.length:Int)∧q≤(s.size:Int)∧(bytesOf s).drop p.toNat=bs ++ (bytesOf s).drop q.toNat
theorem Span.of {s:ByteArray} {p q:Int} {bs r:List Int} (h0:0≤p) (h1:q=p+(bs.length:Int)) (h2:q≤(s.size:Int)) (h:(bytesOf s).drop p.toNat=bs ++ r):Span s p bs q:=by
  refine ⟨h0,h1,h2,?_⟩
  rw [h,show q.toNat=p.toNat+bs.length from by omega,← List.drop_drop,h,List.drop_left]
theorem Span.trans {s:ByteArray} {p q r:Int} {b c:List Int} (h:Span s p b q) (h2:Span s q c r):Span s p (b ++ c) r:=by
  obtain ⟨a0,a1,a2,a3⟩:=h
  obtain ⟨b0,b1,b2,b3⟩:=h2
  exact ⟨a0,by rw [List.length_append];omega,b2,by rw [a3,b3,List.append_assoc]⟩
theorem Span.nil {s:ByteArray} {p:Int} (h0:0≤p) (h1:p≤(s.size:Int)):Span s p [] p:=⟨h0,by simp,h1,by simp⟩
theorem Span.whole {s:ByteArray} {q:Int} {bs:List Int} (h:Span s 0 bs q):q=(s.size:Int) ↔ bytesOf s=bs:=by
  obtain ⟨_,a1,a2,a3⟩:=h
  rw [show (0:Int).toNat=0 from rfl,List.drop_zero] at a3
  have hl:=congrArg List.length a3
  rw [bytesOf_length,List.length_append,List.length_drop,bytesOf_length] at hl
  constructor
  · intro e
    rw [a3,e,List.drop_of_length_le (by rw [bytesOf_length];omega),List.append_nil]
  · intro e
    have:=congrArg List.length e
    rw [bytesOf_length] at this
    omega
def rNum (s:ByteArray):Option Int→Option Int × Int
  | none=>(none,0)
  | some p=>if (getNum s p).2.2=0 then (some (getNum s p).2.1,(getNum s p).1) else (none,0)
theorem rNum_span {s:ByteArray} {p q n:Int} (h:rNum s (some p)=(some q,n)):Span s p (bytesOf (putNum n)) q∧p+1≤q∧zig n<128 ^ 10∧0≤zig n:=by
  simp only [rNum] at h
  split at h
  · rename_i hc
    simp only [Prod.mk.injEq,Option.some.injEq] at h
    have e:getNum s p=(n,q,0):=by
      obtain ⟨h1,h2⟩:=h
      rw [← h1,← h2,← hc]
    obtain ⟨r,g1,g2,g3,g4⟩:=getNum_canon e
    have hp:=getNum_place e
    rw [bytesOf_putNum]
    exact ⟨Span.of hp.2.1 g2 hp.2.2.2 g1,hp.2.2.1,g3,g4⟩
  · simp at h
def rMany (s:ByteArray) (o:Option Int) (most:Int):Option Int × Int:=if isWithin (rNum s o).2 0 most=true then rNum s o else (none,0)
theorem rMany_le (s:ByteArray) (o:Option Int) (most:Int) (h:0≤most):0≤(rMany s o most).2∧(rMany s o most).2≤most:=by
  unfold rMany
  split
  · rename_i hw
    simpa [isWithin] using hw
  · exact ⟨Int.le_refl _,h⟩
/-- Marks, k of them at the most, up to the first thing that is wrong. -/
def rMarks (s:ByteArray):Nat→Option Int→Option Int × List Mark
  | 0,o=>(o,[])
  | _+1,none=>(none,[])
  | k+1,some p=>((rMarks s k (rNum s (rNum s (some p)).1).1).1,⟨(rNum s (some p)).2,(rNum s (rNum s (some p)).1).2⟩ :: (rMarks s k (rNum s (rNum s (some p)).1).1).2)
theorem rMarks_length (s:ByteArray):∀ (k:Nat) (o:Option Int),(rMarks s k o).2.length≤k
  | 0,_=>by simp [rMarks]
  | _+1,none=>by simp [rMarks]
  | k+1,some p=>by
    have:=rMarks_length s k (rNum s (rNum s (some p)).1).1
    simp only [rMarks,List.length_cons];omega
theorem rMarks_none (s:ByteArray):∀ k,(rMarks s k none).1=none
  | 0=>rfl
  | _+1=>rfl
def marksBytes (l:List Mark):List Int:=l.flatMap fun m=>bytesOf (markBytes m)
theorem rMarks_span {s:ByteArray}:∀ (k:Nat) (p q:Int),0≤p→p≤(s.size:Int)→(rMarks s k (some p)).1=some q→Span s p (marksBytes (rMarks s k (some p)).2) q∧(rMarks s k (some p)).2.length=k
  | 0,p,q,h0,h1,h=>by
    simp only [rMarks,Option.some.injEq] at h
    subst h
    exact ⟨Span.nil h0 h1,rfl⟩
  | k+1,p,q,h0,h1,h=>by
    simp only [rMarks] at h ⊢
    cases ha:rNum s (some p) with
    | mk a n =>
      rw [ha] at h
      cases a with
      | none=>simp only [rNum,rMarks_none] at h;cases h
      | some a =>
        cases hb:rNum s (some a) with
        | mk b m =>
          simp only [hb] at h ⊢
          cases b with
          | none=>rw [rMarks_none] at h;cases h
          | some b =>
            have s1:=(rNum_span ha).1
            have s2:=(rNum_span hb).1
            have ih:=rMarks_span k b q (by have:=s2.1;have:=s2.2.1;omega) s2.2.2.1 h
            refine ⟨?_,by simp only [List.length_cons,ih.2]⟩
            show Span s p (bytesOf (putNum n ++ putNum m) ++ marksBytes (rMarks s k (some b)).2) q
            rw [bytesOf_append]
            exact (s1.trans s2).trans ih.1
theorem bytesOf_foldl (f:Mark→ByteArray):∀ (l:List Mark) (t:ByteArray),bytesOf (l.foldl (fun t m=>t ++ f m) t)=bytesOf t ++ l.flatMap fun m=>bytesOf (f m)
  | [],t=>by simp
  | m :: r,t=>by
    rw [List.foldl_cons,bytesOf_foldl f r,bytesOf_append,List.flatMap_cons,List.append_assoc]
theorem bytesOf_seenBytes (v:List Mark):bytesOf (seenBytes v)=bytesOf (putNum (v.length:Int)) ++ marksBytes v:=bytesOf_foldl markBytes v _
/-- Marks as they are read: how many, and they. -/
def rSeen (s:ByteArray) (o:Option Int):Option Int × List Mark:=rMarks s (rMany s o 5).2.toNat (rMany s o 5).1
theorem rSeen_length (s:ByteArray) (o:Option Int):(rSeen s o).2.length≤5:=by
  have h1:=rMarks_length s (rMany s o 5).2.toNat (rMany s o 5).1
  have h2:=rMany_le s o 5 (by omega)
  unfold rSeen;omega
theorem rMany_span {s:ByteArray} {p q n most:Int} (hm:0≤most) (h:rMany s (some p) most=(some q,n)):Span s p (bytesOf (putNum n)) q∧p+1≤q∧0≤n∧n≤most:=by
  have hn:=rMany_le s (some p) most hm
  rw [h] at hn
  unfold rMany at h
  split at h
  · exact ⟨(rNum_span h).1,(rNum_span h).2.1,hn⟩
  · simp at h
theorem rSeen_span {s:ByteArray} {p q:Int} (h:(rSeen s (some p)).1=some q):Span s p (bytesOf (seenBytes (rSeen s (some p)).2)) q∧p+1≤q:=by
  unfold rSeen at h ⊢
  cases ha:rMany s (some p) 5 with
  | mk a n =>
    rw [ha] at h
    cases a with
    | none=>rw [rMarks_none] at h;cases h
    | some a =>
      have s1:=rMany_span (by omega) ha
      have s2:=rMarks_span n.toNat a q (by have:=s1.1.1;omega) s1.1.2.2.1 h
      refine ⟨?_,by have:=s2.1.2.1;omega⟩
      rw [bytesOf_seenBytes,s2.2,show ((n.toNat:Nat):Int)=n from by omega]
      exact s1.1.trans s2.1
end Go.Proofs.YtbkiajppiogifaaGreat.Q

namespace Go.Proofs.YtbkiajppiogifaaGreat.Q
open Go.RowKit Go.Proofs.YtbkiajppiogifaaGreat.P Go.Proofs.YtbkiajppiogifaaGreatW.PrintWords Go.Proofs.YtbkiajppiogifaaGreatW.PrintMore

theorem numGo_bad:∀ (f:Nat) (bs:List Int) (u p w:Int),(numGo f bs u p w).2.2≠0→(numGo f bs u p w).1=0∧(numGo f bs u p w).2.1=0
  | 0,_,_,_,_,_=>by simp [numGo]
  | _+1,[],_,_,_,_=>by simp [numGo]
  | f+1,c :: r,u,p,w,h=>by
    simp only [numGo] at h ⊢
    split
    · simp
    · rename_i h1
      rw [if_neg h1] at h
      split
      · rename_i h2
        rw [if_pos h2] at h
        split
        · simp
        · rename_i h3
          rw [if_neg h3] at h
          simp at h
      · rename_i h2
        rw [if_neg h2] at h
        exact numGo_bad f r _ _ _ h
theorem getNum_bad {s:ByteArray} {x:Int} (h:(getNum s x).2.2≠0):(getNum s x).1=0∧(getNum s x).2.1=0:=by
  unfold getNum at h ⊢
  split
  · simp
  · rename_i h1
    rw [if_neg h1] at h
    split
    · simp
    · rename_i h2
      rw [if_neg h2] at h
      exact numGo_bad _ _ _ _ _ h
/-- Where a reader stands: at p, or nowhere any more. -/
def St (s:ByteArray) (o:Option Int) (p:Int) (b:Bool):Prop:=0≤p∧p≤(s.size:Int)∧o=if b=true then none else some p
theorem St.bad {s:ByteArray} {o:Option Int} {p:Int} (h:St s o p true):o=none:=h.2.2
theorem St.good {s:ByteArray} {o:Option Int} {p:Int} (h:St s o p false):o=some p:=h.2.2
theorem getNum_ok {s:ByteArray} {x:Int} (h:(getNum s x).2.2=0):0≤(getNum s x).2.1∧(getNum s x).2.1≤(s.size:Int):=by
  have:=getNum_place (s:=s) (x1:=x) (n:=(getNum s x).1) (p:=(getNum s x).2.1) (by rw [← h])
  omega
theorem impl_num_ev {s:ByteArray} (hs:s.size≤8000) {o:Option Int} {p:Int} {b:Bool} (h:St s o p b):∃ p' b',St s (rNum s o).1 p' b'∧Ev (fun k=>Y28.f k s p b) ((rNum s o).2,s,p',b'):=by
  obtain ⟨h0,h1,h2⟩:=h
  unfold Y28.f
  cases b with
  | true =>
    simp only [if_true] at h2
    subst h2
    exact ⟨p,true,⟨h0,h1,rfl⟩,evPos rfl (Ev.now _)⟩
  | false =>
    simp only [Bool.false_eq_true,if_false] at h2
    subst h2
    have e:=impl_GetNum_ev s p (by omega) (by omega)
    by_cases hc:(getNum s p).2.2=0
    · have hk:=getNum_ok hc
      refine ⟨(getNum s p).2.1,false,⟨hk.1,hk.2,by simp [rNum,hc]⟩,evNeg (by simp) (Ev.bind e ?_)⟩
      simp only [rNum,if_pos hc,hc]
      exact Ev.now _
    · have hk:=getNum_bad hc
      refine ⟨0,true,⟨Int.le_refl _,by omega,by simp [rNum,hc]⟩,evNeg (by simp) (Ev.bind e ?_)⟩
      simp only [rNum,if_neg hc,hk.1,hk.2]
      have:((getNum s p).2.2 != 0)=true:=by simpa using hc
      rw [this]
      exact Ev.now _
theorem spec_num_ev {s:ByteArray} (hs:s.size≤8000) {o:Option Int} {p:Int} {b:Bool} (h:St s o p b):∃ p' b',St s (rNum s o).1 p' b'∧Ev (fun k=>Y10.f k s p b) ((rNum s o).2,s,p',b'):=by
  obtain ⟨h0,h1,h2⟩:=h
  unfold Y10.f
  have e:=spec_GetNum_ev s p (by omega) (by omega)
  have jT:∀ b n q c,Ev (fun k=>Y10.j0 k true s p b n q c) (0,s,p,true):=fun b n q c=>Ev.step (f:=fun _=>some (0,s,p,true)) (fun k=>by simp [Y10.j0]) (Ev.now _)
  cases b with
  | true =>
    simp only [if_true] at h2
    subst h2
    exact ⟨p,true,⟨h0,h1,rfl⟩,Ev.bind e (evPos rfl (jT _ _ _ _))⟩
  | false =>
    simp only [Bool.false_eq_true,if_false] at h2
    subst h2
    by_cases hc:(getNum s p).2.2=0
    · have hk:=getNum_ok hc
      have er:rNum s (some p)=(some (getNum s p).2.1,(getNum s p).1):=by simp [rNum,hc]
      rw [er]
      refine ⟨(getNum s p).2.1,false,⟨hk.1,hk.2,rfl⟩,Ev.bind e (evNeg (by simp) ?_)⟩
      simp only [hc]
      exact Ev.step (f:=fun _=>some _) (fun k=>by simp only [Y10.j0];rw [if_neg (by simp)]) (Ev.now _)
    · refine ⟨p,true,⟨h0,h1,by simp [rNum,hc]⟩,Ev.bind e (evNeg (by simp) ?_)⟩
      simp only [rNum,if_neg hc]
      have:((getNum s p).2.2 != 0)=true:=by simpa using hc
      rw [this]
      exact jT _ _ _ _
theorem impl_count_ev {s:ByteArray} (hs:s.size≤8000) {o:Option Int} {p:Int} {b:Bool} (h:St s o p b) (most:Int):∃ p' b',St s (rMany s o most).1 p' b'∧Ev (fun k=>Y63.f k s p b most) ((rMany s o most).2,s,p',b'):=by
  obtain ⟨p',b',h1,h2⟩:=impl_num_ev hs h
  unfold Y63.f rMany
  by_cases hw:isWithin (rNum s o).2 0 most=true
  · rw [if_pos hw]
    exact ⟨p',b',h1,Ev.bind h2 (evBind1 (within_is _ _ _) (evPos hw (Ev.now _)))⟩
  · rw [if_neg hw]
    exact ⟨p',true,⟨h1.1,h1.2.1,rfl⟩,Ev.bind h2 (evBind1 (within_is _ _ _) (evNeg hw (Ev.now _)))⟩
theorem spec_many_ev {s:ByteArray} (hs:s.size≤8000) {o:Option Int} {p:Int} {b:Bool} (h:St s o p b) (most:Int):∃ p' b',St s (rMany s o most).1 p' b'∧Ev (fun k=>Y52.f k s p b most) ((rMany s o most).2,s,p',b'):=by
  obtain ⟨p',b',h1,h2⟩:=spec_num_ev hs h
  unfold Y52.f rMany
  by_cases hw:isWithin (rNum s o).2 0 most=true
  · rw [if_pos hw]
    exact ⟨p',b',h1,Ev.bind h2 (evBind1 (l02Is_is _ _ _) (evPos hw (Ev.now _)))⟩
  · rw [if_neg hw]
    exact ⟨p',true,⟨h1.1,h1.2.1,rfl⟩,Ev.bind h2 (evBind1 (l02Is_is _ _ _) (evNeg hw (Ev.now _)))⟩
theorem spec_seen_l0 {s:ByteArray} (hs:s.size≤8000):∀ (n:Nat) (o:Option Int) (p:Int) (b:Bool) (acc:List Mark),n≤5→acc.length+n≤5→St s o p b →
    ∃ p' b',St s (rMarks s n o).1 p' b'∧Ev (fun k=>Y13.l0 k acc (n:Int) s p b) (acc ++ (rMarks s n o).2,s,p',b')
  | 0,o,p,b,acc,hn,ha,h=>by
    refine ⟨p,b,h,?_⟩
    simp only [rMarks,List.append_nil]
    refine Ev.step (f:=fun k=>Y13.j1 k acc ((0:Nat):Int) false s p b) (fun k=>?_) (Ev.step (f:=fun _=>some (acc,s,p,b)) (fun k=>by simp [Y13.j1]) (Ev.now _))
    simp only [Y13.l0]
    rw [if_neg (by omega)]
  | n+1,o,p,true,acc,hn,ha,h=>by
    have ho:=h.bad
    subst ho
    refine ⟨p,true,h,?_⟩
    simp only [rMarks,List.append_nil]
    refine Ev.step (f:=fun k=>Y13.j1 k acc ((n+1:Nat):Int) false s p true) (fun k=>?_) (Ev.step (f:=fun _=>some (acc,s,p,true)) (fun k=>by simp [Y13.j1]) (Ev.now _))
    simp only [Y13.l0]
    rw [if_pos (by omega)]
    rfl
  | n+1,o,p,false,acc,hn,ha,h=>by
    have ho:=h.good
    subst ho
    obtain ⟨p1,b1,s1,e1⟩:=spec_num_ev hs h
    obtain ⟨p2,b2,s2,e2⟩:=spec_num_ev hs s1
    obtain ⟨p3,b3,s3,e3⟩:=spec_seen_l0 hs n _ p2 b2 (acc ++ [⟨(rNum s (some p)).2,(rNum s (rNum s (some p)).1).2⟩]) (by omega) (by simp;omega) s2
    refine ⟨p3,b3,s3,?_⟩
    simp only [rMarks]
    rw [List.append_assoc,List.singleton_append] at e3
    refine Ev.step (f:=fun k=>Y13.j1 k acc ((n+1:Nat):Int) true s p false) (fun k=>?_) ?_
    · simp only [Y13.l0]
      rw [if_pos (by omega)]
      rfl
    · have hj:∀ k,Y13.j1 (k+1) acc ((n+1:Nat):Int) true s p false=(Y10.f k s p false).bind fun a=>(Y10.f k a.2.1 a.2.2.1 a.2.2.2).bind fun c=>if acc.length<8796093022208 then Y13.l0 k (acc ++ [⟨a.1,c.1⟩]) (wrap64 (((n+1:Nat):Int)-1)) c.2.1 c.2.2.1 c.2.2.2 else none:=fun k=>by simp [Y13.j1]
      refine Ev.step hj (Ev.bind e1 (Ev.bind e2 (evPos (by omega) ?_)))
      rw [w64 (by omega) (by omega),show ((n+1:Nat):Int)-1=(n:Int) from by omega]
      exact e3
theorem spec_seen_ev {s:ByteArray} (hs:s.size≤8000) {o:Option Int} {p:Int} {b:Bool} (h:St s o p b):∃ p' b',St s (rSeen s o).1 p' b'∧Ev (fun k=>Y13.f k s p b) ((rSeen s o).2,s,p',b'):=by
  obtain ⟨p1,b1,s1,e1⟩:=spec_many_ev hs h 5
  have hm:=rMany_le s o 5 (by omega)
  obtain ⟨p2,b2,s2,e2⟩:=spec_seen_l0 hs (rMany s o 5).2.toNat _ p1 b1 [] (by omega) (by simp;omega) s1
  refine ⟨p2,b2,s2,Ev.bind e1 ?_⟩
  rw [show (((rMany s o 5).2.toNat:Nat):Int)=(rMany s o 5).2 from by omega,List.nil_append] at e2
  exact e2
theorem impl_seen_l0 {s:ByteArray} (hs:s.size≤8000):∀ (n:Nat) (o:Option Int) (p:Int) (b:Bool) (acc:List Mark),n≤5→acc.length+n≤5→St s o p b →
    ∃ p' b',St s (rMarks s n o).1 p' b'∧Ev (fun k=>Y26.l0 k acc (n:Int) s p b) (acc ++ (rMarks s n o).2,s,p',b' || !seenOk (acc ++ (rMarks s n o).2)):=by
  have jE:∀ (acc:List Mark) (n:Int) (p:Int) (b:Bool),acc.length≤5→Ev (fun k=>Y26.j1 k acc n false s p b) (acc,s,p,b || !seenOk acc):=by
    intro acc n p b ha
    cases b with
    | true=>exact Ev.step (f:=fun _=>some (acc,s,p,true)) (fun k=>by simp [Y26.j1]) (Ev.now _)
    | false =>
      refine Ev.step (fun k=>by simp only [Y26.j1];rw [if_neg (by simp),if_neg (by simp)]) (Ev.bind (impl_seenRight_ev acc (by omega)) ?_)
      simp only [Bool.false_or]
      exact Ev.now _
  intro n
  induction n with
  | zero =>
    intro o p b acc hn ha h
    refine ⟨p,b,h,?_⟩
    simp only [rMarks,List.append_nil]
    refine Ev.step (fun k=>?_) (jE acc ((0:Nat):Int) p b (by omega))
    simp only [Y26.l0]
    rw [if_neg (by omega)]
  | succ n ih =>
    intro o p b acc hn ha h
    cases b with
    | true =>
      have ho:=h.bad
      subst ho
      refine ⟨p,true,h,?_⟩
      simp only [rMarks,List.append_nil]
      refine Ev.step (fun k=>?_) (jE acc ((n+1:Nat):Int) p true (by omega))
      simp only [Y26.l0]
      rw [if_pos (by omega)]
      rfl
    | false =>
      have ho:=h.good
      subst ho
      obtain ⟨p1,b1,s1,e1⟩:=impl_num_ev hs h
      obtain ⟨p2,b2,s2,e2⟩:=impl_num_ev hs s1
      obtain ⟨p3,b3,s3,e3⟩:=ih _ p2 b2 (acc ++ [⟨(rNum s (some p)).2,(rNum s (rNum s (some p)).1).2⟩]) (by omega) (by simp;omega) s2
      refine ⟨p3,b3,s3,?_⟩
      simp only [rMarks]
      rw [List.append_assoc,List.singleton_append] at e3
      refine Ev.step (f:=fun k=>Y26.j1 k acc ((n+1:Nat):Int) true s p false) (fun k=>?_) ?_
      · simp only [Y26.l0]
        rw [if_pos (by omega)]
        rfl
      · have hj:∀ k,Y26.j1 (k+1) acc ((n+1:Nat):Int) true s p false=(Y28.f k s p false).bind fun a=>(Y28.f k a.2.1 a.2.2.1 a.2.2.2).bind fun c=>if acc.length<8796093022208 then Y26.l0 k (acc ++ [⟨a.1,c.1⟩]) (wrap64 (((n+1:Nat):Int)-1)) c.2.1 c.2.2.1 c.2.2.2 else none:=fun k=>by simp [Y26.j1]
        refine Ev.step hj (Ev.bind e1 (Ev.bind e2 (evPos (by omega) ?_)))
        rw [w64 (by omega) (by omega),show ((n+1:Nat):Int)-1=(n:Int) from by omega]
        exact e3
theorem impl_seen_ev {s:ByteArray} (hs:s.size≤8000) {o:Option Int} {p:Int} {b:Bool} (h:St s o p b):∃ p' b',St s (rSeen s o).1 p' b'∧Ev (fun k=>Y26.f k s p b) ((rSeen s o).2,s,p',b' || !seenOk (rSeen s o).2):=by
  obtain ⟨p1,b1,s1,e1⟩:=impl_count_ev hs h 5
  have hm:=rMany_le s o 5 (by omega)
  obtain ⟨p2,b2,s2,e2⟩:=impl_seen_l0 hs (rMany s o 5).2.toNat _ p1 b1 [] (by omega) (by simp;omega) s1
  refine ⟨p2,b2,s2,Ev.bind e1 ?_⟩
  rw [show (((rMany s o 5).2.toNat:Nat):Int)=(rMany s o 5).2 from by omega,List.nil_append] at e2
  exact e2
theorem St.start (s:ByteArray):St s (some 0) 0 false:=⟨Int.le_refl _,by omega,rfl⟩
end Go.Proofs.YtbkiajppiogifaaGreat.Q

namespace Go.Proofs.YtbkiajppiogifaaGreat.Q
open Go.RowKit Go.Proofs.YtbkiajppiogifaaGreat.P Go.Proofs.YtbkiajppiogifaaGreatW.PrintWords Go.Proofs.YtbkiajppiogifaaGreatW.PrintMore

def isAt (x:Sib) (a b:Int):Bool:=x.f0.f0 == a && x.f0.f1 == b
/-- The place of a dot, from place i on; -1 if it's nowhere. -/
def sibAt (a b:Int):Int→List Sib→Int
  | _,[] => -1
  | i,x :: r=>if isAt x a b=true then i else sibAt a b (i+1) r
theorem l03At_l0 (l:List Sib) (a b:Int) (hl:l.length≤4611686018427387904):∀ (s:List Sib) (i:Nat),l.drop i=s→i≤l.length→Ev (fun k=>Y61.l0 k l (i:Int) a b) (sibAt a b (i:Int) s)
  | [],i,h,hi=>by
    have:=dropNil' h hi
    refine Ev.step (f:=fun _=>some (-1)) (fun k=>?_) (Ev.now _)
    simp only [Y61.l0]
    rw [if_neg (by omega)]
  | x :: s,i,h,hi=>by
    obtain ⟨h1,h2,h3⟩:=dropCons h z75
    have hr:rd_T75 l (i:Int)=x:=by simpa [rd_T75] using h2
    refine Ev.step (f:=fun k=>if isAt x a b=true then some (i:Int) else Y61.l0 k l ((i+1:Nat):Int) a b) (fun k=>?_) ?_
    · simp only [Y61.l0,hr,isAt]
      rw [if_pos (by omega),if_pos (by omega),w64 (by omega) (by omega)]
      rfl
    · simp only [sibAt]
      refine evIte (fun h=>?_) (fun h=>?_)
      · rw [if_pos h];exact Ev.now _
      · rw [if_neg h];exact l03At_l0 l a b hl s (i+1) h3 (by omega)
theorem l03At_ev (l:List Sib) (a b:Int) (hl:l.length≤4611686018427387904):Ev (fun k=>Y61.f k l a b) (sibAt a b 0 l):=l03At_l0 l a b hl l 0 rfl (by omega)
/-- A sibling's bytes. -/
def sibBytes (x:Sib):ByteArray:=putNum x.f0.f0 ++ putNum x.f0.f1 ++ putNum (if x.f1=true then 1 else 0) ++ putText x.f2
theorem truth_is (b:Bool):Y100.f b=some (if b=true then 1 else 0):=by
  unfold Y100.f
  cases b <;> rfl
theorem indexSib_l0 (l:List Sib) (a b:Int) (hl:l.length≤4611686018427387904):∀ (s:List Sib) (i:Nat),l.drop i=s→i≤l.length→Ev (fun k=>Y4.l0 k l (l.length:Int) (i:Int) a b) (sibAt a b (i:Int) s)
  | [],i,h,hi=>by
    have:=dropNil' h hi
    refine Ev.step (f:=fun _=>some (-1)) (fun k=>?_) (Ev.now _)
    simp only [Y4.l0]
    rw [if_neg (by omega)]
  | x :: s,i,h,hi=>by
    obtain ⟨h1,h2,h3⟩:=dropCons h z75
    have hr:rd_T75 l (i:Int)=x:=by simpa [rd_T75] using h2
    refine Ev.step (f:=fun k=>if isAt x a b=true then some (i:Int) else Y4.l0 k l (l.length:Int) ((i+1:Nat):Int) a b) (fun k=>?_) ?_
    · simp only [Y4.l0,hr,Y91.f,Option.bind_some,isAt]
      rw [if_pos (by omega),if_pos (by omega),if_pos (by omega),w64 (by omega) (by omega)]
      rfl
    · simp only [sibAt]
      refine evIte (fun h=>?_) (fun h=>?_)
      · rw [if_pos h];exact Ev.now _
      · rw [if_neg h];exact indexSib_l0 l a b hl s (i+1) h3 (by omega)
theorem Set_sib_ev (v:List Mark) (l:List Sib) (a b:Int) (hl:l.length≤4611686018427387904):Ev (fun k=>Y75.f k v l a b) (sibAt a b 0 l) :=
  Ev.bind (indexSib_l0 l a b hl l 0 rfl (by omega)) (Ev.now _)
theorem sibsFrom_mem (v:List Mark):∀ (s:List Sib) (p:Option Sib),sibsFrom v p s=true→∀ x ∈ s,sibOk v x=true
  | [],_,_,x,hx=>by simp at hx
  | y :: r,p,h,x,hx=>by
    have h2:sibOk v y=true∧sibsFrom v (some y) r=true:=by
      cases p with
      | none=>simpa [sibsFrom] using h
      | some z =>
        simp only [sibsFrom,Bool.and_eq_true] at h
        exact ⟨h.1,h.2.2⟩
    rcases List.mem_cons.1 hx with rfl | hx
    · exact h2.1
    · exact sibsFrom_mem v r _ h2.2 x hx
def SmallSibs (l:List Sib):Prop:=∀ x ∈ l,((0≤x.f0.f0∧x.f0.f0≤4294967295)∧0≤x.f0.f1∧x.f0.f1≤4294967295)∧x.f2.size≤16
theorem setOk_iff (v:List Mark) (l:List Sib):setOk v l=true ↔ seenOk v=true∧l.length≤8∧sibsFrom v none l=true:=by
  simp [setOk]
theorem setOk_small {v:List Mark} {l:List Sib} (h:setOk v l=true):SmallSibs l:=fun x hx=>by
  have h1:=sibsFrom_mem v l none ((setOk_iff v l).1 h).2.2 x hx
  simp only [sibOk,Bool.and_eq_true,dataOk,decide_eq_true_eq] at h1
  have h2:=(isDot_iff _ _).1 h1.1
  omega
theorem putText_size (t:ByteArray):(putText t).size≤10+t.size:=by
  have:=putNum_size (t.size:Int)
  unfold putText
  split
  · show 0≤_;omega
  · simp only [ByteArray.size_append];omega
theorem sibBytes_size (x:Sib):(sibBytes x).size≤40+x.f2.size:=by
  have p0:=putNum_size x.f0.f0
  have p1:=putNum_size x.f0.f1
  have p2:=putNum_size (if x.f1=true then 1 else 0)
  have p3:=putText_size x.f2
  simp only [sibBytes,ByteArray.size_append];omega
theorem seenBytes_size (v:List Mark):(seenBytes v).size≤10+20*v.length:=by
  have key:∀ (s:List Mark) (t:ByteArray),(s.foldl (fun t m=>t ++ markBytes m) t).size≤t.size+20*s.length:=by
    intro s
    induction s with
    | nil=>intro t;simp
    | cons m r ih =>
      intro t
      have:=ih (t ++ markBytes m)
      have p0:=putNum_size m.f0
      have p1:=putNum_size m.f1
      simp only [List.foldl_cons,List.length_cons]
      simp only [markBytes,ByteArray.size_append] at this ⊢
      omega
  have:=key v (putNum (v.length:Int))
  have:=putNum_size (v.length:Int)
  unfold seenBytes
  omega
def setBytes (v:List Mark) (l:List Sib):ByteArray:=l.foldl (fun t x=>t ++ sibBytes x) (seenBytes v ++ putNum (l.length:Int))
theorem l03Bytes_l0 (v:List Mark) (l:List Sib) (hl:l.length≤1048576) (hsm:SmallSibs l):∀ (s:List Sib) (i:Nat),l.drop i=s→i≤l.length→∀ t:ByteArray,t.size≤1099511627776+56*i→Ev (fun k=>Y16.l0 k t (i:Int) v l) (s.foldl (fun t x=>t ++ sibBytes x) t)
  | [],i,h,hi,t,ht=>by
    have:=dropNil' h hi
    refine Ev.step (f:=fun _=>some t) (fun k=>?_) (Ev.now _)
    simp only [Y16.l0]
    rw [if_neg (by omega)]
  | x :: s,i,h,hi,t,ht=>by
    obtain ⟨h1,h2,h3⟩:=dropCons h z75
    have hr:rd_T75 l (i:Int)=x:=by simpa [rd_T75] using h2
    have hm:x ∈ l:=List.mem_of_mem_drop (by rw [h];exact List.mem_cons_self)
    have hb:=hsm x hm
    have p0:=putNum_size x.f0.f0
    have p1:=putNum_size x.f0.f1
    have p2:=putNum_size (if x.f1=true then 1 else 0)
    have p3:=putText_size x.f2
    have p4:=sibBytes_size x
    refine Ev.step (f:=fun k=>Y16.j1 k t (i:Int) (if x.f1=true then 1 else 0) v l x.f0.f0 x.f0.f1 x.f1 x.f2) (fun k=>?_) ?_
    · simp only [Y16.l0,hr]
      rw [if_pos (show (i:Int)<l.length by omega),if_pos (show (0:Int)≤i by omega)]
      cases x.f1 <;> rfl
    · refine Ev.step (fun k=>by simp only [Y16.j1];rw [w64 (x:=(i:Int)+1) (by omega) (by omega)]) ?_
      refine Ev.bind (spec_PutNum_ev (by omega) (by omega)) (evPos (by omega) (Ev.bind (spec_PutNum_ev (by omega) (by omega)) (evPos (by omega) (Ev.bind (spec_PutNum_ev (by split <;> omega) (by split <;> omega)) (evPos (by omega) (Ev.bind (spec_PutText_ev _) (evPos (by omega) ?_)))))))
      have ih:=l03Bytes_l0 v l hl hsm s (i+1) h3 (by omega) (t ++ sibBytes x) (by simp only [ByteArray.size_append];omega)
      simp only [sibBytes,← ByteArray.append_assoc] at ih
      simpa [sibBytes,← ByteArray.append_assoc] using ih
theorem l03Bytes_ev (v:List Mark) (l:List Sib) (hv:v.length≤1048576) (hvs:Small v) (hl:l.length≤1048576) (hsm:SmallSibs l):Ev (fun k=>Y16.f k v l) (setBytes v l):=by
  unfold Y16.f
  have q0:=seenBytes_size v
  have q1:=putNum_size (l.length:Int)
  exact Ev.bind (l02Bytes_ev v hv hvs) (Ev.bind (spec_PutNum_ev (by omega) (by omega)) (evPos (by omega) (l03Bytes_l0 v l hl hsm l 0 rfl (by omega) _ (by simp only [ByteArray.size_append];omega))))
def setBytesOut (v:List Mark) (l:List Sib):ByteArray:=if setOk v l=true then setBytes v l else ⟨#[]⟩
theorem spec_SetBytes_ev (v:List Mark) (l:List Sib) (hv:v.length≤1048576) (hl:l.length≤1048576):Ev (fun k=>Y74.f k v l) (setBytesOut v l):=by
  unfold Y74.f setBytesOut
  refine Ev.bind (spec_SetRight_ev v l (by omega) hl) (evIte (fun h=>?_) (fun h=>?_))
  · rw [if_pos h];exact Ev.bind (l03Bytes_ev v l hv (seenOk_small ((setOk_iff v l).1 h).1) hl (setOk_small h)) (Ev.now _)
  · rw [if_neg h];exact Ev.now _
end Go.Proofs.YtbkiajppiogifaaGreat.Q

namespace Go.Proofs.YtbkiajppiogifaaGreat.Q
open Go.RowKit Go.Proofs.YtbkiajppiogifaaGreat.P Go.Proofs.YtbkiajppiogifaaGreatW.PrintWords Go.Proofs.YtbkiajppiogifaaGreatW.PrintMore

theorem vbytes_free:∀ (f:Nat) (u v:Int) (r r':List Int),0≤u→u<128 ^ (f+1)→0≤v→v<128 ^ (f+1)→vbytes f u ++ r=vbytes f v ++ r'→u=v∧r=r'
  | 0,u,v,r,r',u0,u1,v0,v1,h=>by
    simp only [vbytes,List.cons_append,List.nil_append,List.cons.injEq] at h
    exact ⟨by omega,h.2⟩
  | f+1,u,v,r,r',u0,u1,v0,v1,h=>by
    rw [Int.pow_succ] at u1 v1
    simp only [vbytes] at h
    by_cases hu:u≥128
    · rw [if_pos hu] at h
      by_cases hv:v≥128
      · rw [if_pos hv] at h
        simp only [List.cons_append,List.cons.injEq] at h
        have ih:=vbytes_free f (u / 128) (v / 128) r r' (by omega) (by omega) (by omega) (by omega) h.2
        exact ⟨by omega,ih.2⟩
      · rw [if_neg hv] at h
        simp only [List.cons_append,List.cons.injEq] at h
        omega
    · rw [if_neg hu] at h
      by_cases hv:v≥128
      · rw [if_pos hv] at h
        simp only [List.cons_append,List.cons.injEq] at h
        omega
      · rw [if_neg hv] at h
        simp only [List.cons_append,List.nil_append,List.cons.injEq] at h
        exact ⟨by omega,h.2⟩
theorem zig_inj {a b:Int} (h:zig a=zig b):a=b:=by
  unfold zig at h
  split at h <;> split at h <;> omega
theorem putNum_free {a b:Int} {r r':List Int} (ha:zig a<128 ^ 10∧0≤zig a) (hb:zig b<128 ^ 10∧0≤zig b) (h:bytesOf (putNum a) ++ r=bytesOf (putNum b) ++ r'):a=b∧r=r':=by
  rw [bytesOf_putNum,bytesOf_putNum] at h
  have:=vbytes_free 9 _ _ r r' ha.2 ha.1 hb.2 hb.1 h
  exact ⟨zig_inj this.1,this.2⟩
def rText (s:ByteArray):Option Int→Option Int × ByteArray
  | none=>(none,⟨#[]⟩)
  | some p=>if (getText s p).2.2=0 then (some (getText s p).2.1,(getText s p).1) else (none,⟨#[]⟩)
theorem bytesOf_extract (s:ByteArray) (a b:Nat):bytesOf (s.extract a b)=((bytesOf s).drop a).take (b-a):=by
  simp only [bytesOf]
  rw [show (s.extract a b).data=s.data.extract a b from by simp]
  rw [Array.toList_extract,List.extract_eq_take_drop,List.map_take,List.map_drop]
theorem rText_span {s:ByteArray} {p q:Int} {t:ByteArray} (h:rText s (some p)=(some q,t)):Span s p (bytesOf (putText t)) q∧p+1≤q:=by
  simp only [rText] at h
  split at h
  · rename_i hc
    simp only [Prod.mk.injEq,Option.some.injEq] at h
    obtain ⟨h1,h2⟩:=h
    unfold getText at hc h1 h2
    split at hc
    · rename_i hn
      rw [if_pos hn] at h1 h2
      split at hc
      · simp at hc
      · rename_i hr
        rw [if_neg hr] at h1 h2
        split at hc
        · simp at hc
        · rename_i hl
          rw [if_neg hl] at h1 h2
          simp only at h1 h2
          have e:rNum s (some p)=(some (getNum s p).2.1,(getNum s p).1):=by simp [rNum,hn]
          generalize getNum s p=g at *
          have s1:=rNum_span e
          have hlen:(bytesOf t).length=g.1.toNat:=by
            rw [← h2,bytesOf_extract,List.length_take,List.length_drop,bytesOf_length]
            have:=s1.1.2.2.1
            have:=s1.1.1
            have:=s1.1.2.1
            omega
          have ht:t.size=g.1.toNat:=by rw [← hlen,bytesOf_length]
          have s2:Span s g.2.1 (bytesOf t) q:=by
            have a1:=s1.1.1
            have a2:=s1.1.2.1
            have a3:=s1.1.2.2.1
            refine ⟨by omega,by rw [hlen];omega,by omega,?_⟩
            rw [← h2,bytesOf_extract,← h1]
            have e2:(g.2.1+g.1).toNat=g.2.1.toNat+g.1.toNat:=by omega
            rw [e2,show g.2.1.toNat+g.1.toNat-g.2.1.toNat=g.1.toNat from by omega,← List.drop_drop,List.take_append_drop]
          refine ⟨?_,by have:=s2.2.1;omega⟩
          unfold putText
          rw [if_neg (by omega),bytesOf_append,ht,show ((g.1.toNat:Nat):Int)=g.1 from by omega]
          exact s1.1.trans s2
    · rename_i hn
      exact absurd hc hn
  · simp at h
/-- Siblings, k of them at the most, up to the first thing that is wrong; beside each its mark of a removal. -/
def rSibs (s:ByteArray):Nat→Option Int→Option Int × List (Sib × Int)
  | 0,o=>(o,[])
  | _+1,none=>(none,[])
  | k+1,some p =>
    ((rSibs s k (rText s (rNum s (rNum s (rNum s (some p)).1).1).1).1).1,
      (⟨⟨(rNum s (some p)).2,(rNum s (rNum s (some p)).1).2⟩,(rNum s (rNum s (rNum s (some p)).1).1).2 == 1,(rText s (rNum s (rNum s (rNum s (some p)).1).1).1).2⟩,(rNum s (rNum s (rNum s (some p)).1).1).2) :: (rSibs s k (rText s (rNum s (rNum s (rNum s (some p)).1).1).1).1).2)
/-- The same, up to the first mark of a removal that is neither 0 nor 1. -/
def rSibsI (s:ByteArray):Nat→Option Int→Option Int × List Sib
  | 0,o=>(o,[])
  | _+1,none=>(none,[])
  | k+1,some p =>
    ((rSibsI s k (if isWithin (rNum s (rNum s (rNum s (some p)).1).1).2 0 1=true then (rText s (rNum s (rNum s (rNum s (some p)).1).1).1).1 else none)).1,
      ⟨⟨(rNum s (some p)).2,(rNum s (rNum s (some p)).1).2⟩,(rNum s (rNum s (rNum s (some p)).1).1).2 == 1,(rText s (rNum s (rNum s (rNum s (some p)).1).1).1).2⟩ :: (rSibsI s k (if isWithin (rNum s (rNum s (rNum s (some p)).1).1).2 0 1=true then (rText s (rNum s (rNum s (rNum s (some p)).1).1).1).1 else none)).2)
def gonesOk (l:List (Sib × Int)):Bool:=l.all fun x=>isWithin x.2 0 1
theorem rSibs_none (s:ByteArray):∀ k,(rSibs s k none).1=none
  | 0=>rfl
  | _+1=>rfl
theorem rSibsI_none (s:ByteArray):∀ k,(rSibsI s k none).1=none
  | 0=>rfl
  | _+1=>rfl
theorem rSibs_length (s:ByteArray):∀ (k:Nat) (o:Option Int),(rSibs s k o).2.length≤k
  | 0,_=>by simp [rSibs]
  | _+1,none=>by simp [rSibs]
  | k+1,some p=>by
    have:=rSibs_length s k (rText s (rNum s (rNum s (rNum s (some p)).1).1).1).1
    simp only [rSibs,List.length_cons];omega
theorem rSibsI_good (s:ByteArray):∀ (k:Nat) (o:Option Int),gonesOk (rSibs s k o).2=true→rSibsI s k o=((rSibs s k o).1,(rSibs s k o).2.map (·.1))
  | 0,_,_=>rfl
  | _+1,none,_=>rfl
  | k+1,some p,h=>by
    simp only [rSibs,gonesOk,List.all_cons,Bool.and_eq_true] at h
    have ih:=rSibsI_good s k _ h.2
    simp only [rSibsI,rSibs,if_pos h.1,ih,List.map_cons]
theorem rSibsI_some (s:ByteArray):∀ (k:Nat) (o:Option Int) (q:Int),(rSibsI s k o).1=some q→gonesOk (rSibs s k o).2=true
  | 0,_,_,_=>rfl
  | _+1,none,_,_=>rfl
  | k+1,some p,q,h=>by
    simp only [rSibsI] at h
    simp only [rSibs,gonesOk,List.all_cons,Bool.and_eq_true]
    by_cases hw:isWithin (rNum s (rNum s (rNum s (some p)).1).1).2 0 1=true
    · rw [if_pos hw] at h
      exact ⟨hw,rSibsI_some s k _ q h⟩
    · rw [if_neg hw,rSibsI_none] at h
      cases h
def rawSib (x:Sib × Int):List Int:=bytesOf (putNum x.1.f0.f0) ++ bytesOf (putNum x.1.f0.f1) ++ (bytesOf (putNum x.2) ++ bytesOf (putText x.1.f2))
def rawSibs (l:List (Sib × Int)):List Int:=l.flatMap rawSib
/-- The marks' numbers are those of the flags, and they are numbers that can be read. -/
def RawOk (l:List (Sib × Int)):Prop:=∀ x ∈ l,x.1.f1=(x.2 == 1)∧zig x.2<128 ^ 10∧0≤zig x.2
theorem rSibs_span {s:ByteArray}:∀ (k:Nat) (p q:Int),0≤p→p≤(s.size:Int)→(rSibs s k (some p)).1=some q→Span s p (rawSibs (rSibs s k (some p)).2) q∧(rSibs s k (some p)).2.length=k∧RawOk (rSibs s k (some p)).2
  | 0,p,q,h0,h1,h=>by
    simp only [rSibs,Option.some.injEq] at h
    subst h
    exact ⟨Span.nil h0 h1,rfl,fun x hx=>by cases hx⟩
  | k+1,p,q,h0,h1,h=>by
    simp only [rSibs] at h ⊢
    cases ha:rNum s (some p) with
    | mk a n =>
      rw [ha] at h
      cases a with
      | none=>simp only [rNum,rText,rSibs_none] at h;cases h
      | some a =>
        cases hb:rNum s (some a) with
        | mk b m =>
          simp only [hb] at h ⊢
          cases b with
          | none=>simp only [rNum,rText,rSibs_none] at h;cases h
          | some b =>
            cases hc:rNum s (some b) with
            | mk c g =>
              simp only [hc] at h ⊢
              cases c with
              | none=>simp only [rText,rSibs_none] at h;cases h
              | some c =>
                cases hd:rText s (some c) with
                | mk d t =>
                  simp only [hd] at h ⊢
                  cases d with
                  | none=>rw [rSibs_none] at h;cases h
                  | some d =>
                    have s1:=rNum_span ha
                    have s2:=rNum_span hb
                    have s3:=rNum_span hc
                    have s4:=rText_span hd
                    have ih:=rSibs_span k d q (by have:=s4.1.1;have:=s4.1.2.1;omega) s4.1.2.2.1 h
                    refine ⟨?_,by simp only [List.length_cons,ih.2.1],fun x hx=>?_⟩
                    · exact ((s1.1.trans s2.1).trans (s3.1.trans s4.1)).trans ih.1
                    · rcases List.mem_cons.1 hx with rfl | hx
                      · exact ⟨rfl,s3.2.2⟩
                      · exact ih.2.2 x hx
theorem bytesOf_sib (x:Sib):bytesOf (sibBytes x)=bytesOf (putNum x.f0.f0) ++ bytesOf (putNum x.f0.f1) ++ (bytesOf (putNum (if x.f1=true then 1 else 0)) ++ bytesOf (putText x.f2)):=by
  simp only [sibBytes,bytesOf_append,List.append_assoc]
theorem bytesOf_foldlS (f:Sib→ByteArray):∀ (l:List Sib) (t:ByteArray),bytesOf (l.foldl (fun t m=>t ++ f m) t)=bytesOf t ++ l.flatMap fun m=>bytesOf (f m)
  | [],t=>by simp
  | m :: r,t=>by
    rw [List.foldl_cons,bytesOf_foldlS f r,bytesOf_append,List.flatMap_cons,List.append_assoc]
def sibsBytes (l:List Sib):List Int:=l.flatMap fun x=>bytesOf (sibBytes x)
theorem bytesOf_setBytes (v:List Mark) (l:List Sib):bytesOf (setBytes v l)=bytesOf (seenBytes v) ++ bytesOf (putNum (l.length:Int)) ++ sibsBytes l:=by
  unfold setBytes
  rw [bytesOf_foldlS sibBytes l,bytesOf_append]
  rfl
theorem flag_num {g:Int} (h:isWithin g 0 1=true):(if (g == 1)=true then (1:Int) else 0)=g:=by
  have:0≤g∧g≤1:=by simpa [isWithin] using h
  by_cases e:g=1
  · simp [e]
  · simp [e];omega
theorem raw_good:∀ (l:List (Sib × Int)),RawOk l→gonesOk l=true→rawSibs l=sibsBytes (l.map (·.1))
  | [],_,_=>rfl
  | x :: r,ho,hg=>by
    simp only [gonesOk,List.all_cons,Bool.and_eq_true] at hg
    have ih:=raw_good r (fun y hy=>ho y (List.mem_cons_of_mem _ hy)) hg.2
    have hx:=ho x List.mem_cons_self
    show rawSib x ++ rawSibs r=bytesOf (sibBytes x.1) ++ sibsBytes (r.map (·.1))
    rw [ih,bytesOf_sib,hx.1,flag_num hg.1]
    rfl
theorem raw_only:∀ (l:List (Sib × Int)) (r r':List Int),RawOk l→rawSibs l ++ r=sibsBytes (l.map (·.1)) ++ r'→gonesOk l=true
  | [],_,_,_,_=>rfl
  | x :: t,r,r',ho,h=>by
    have hx:=ho x List.mem_cons_self
    have e:rawSib x ++ rawSibs t ++ r=bytesOf (sibBytes x.1) ++ sibsBytes (t.map (·.1)) ++ r':=h
    rw [bytesOf_sib] at e
    simp only [rawSib,List.append_assoc] at e
    have e1:=List.append_cancel_left (List.append_cancel_left e)
    have e2:=putNum_free hx.2 (by unfold zig;split <;> split <;> omega) e1
    have e3:=List.append_cancel_left e2.2
    have ih:=raw_only t r r' (fun y hy=>ho y (List.mem_cons_of_mem _ hy)) e3
    simp only [gonesOk,List.all_cons,Bool.and_eq_true]
    refine ⟨?_,ih⟩
    rw [e2.1]
    split <;> rfl
end Go.Proofs.YtbkiajppiogifaaGreat.Q

namespace Go.Proofs.YtbkiajppiogifaaGreat.Q
open Go.RowKit Go.Proofs.YtbkiajppiogifaaGreat.P Go.Proofs.YtbkiajppiogifaaGreatW.PrintWords Go.Proofs.YtbkiajppiogifaaGreatW.PrintMore

theorem getText_bad {s:ByteArray} {x:Int} (h:(getText s x).2.2≠0):(getText s x).1=⟨#[]⟩∧(getText s x).2.1=0:=by
  unfold getText at h ⊢
  split
  · rename_i h1
    rw [if_pos h1] at h
    split
    · exact ⟨rfl,rfl⟩
    · rename_i h2
      rw [if_neg h2] at h
      split
      · exact ⟨rfl,rfl⟩
      · rename_i h3
        rw [if_neg h3] at h
        exact absurd rfl h
  · exact ⟨rfl,rfl⟩
theorem getText_ok {s:ByteArray} {x:Int} (h:(getText s x).2.2=0):0≤(getText s x).2.1∧(getText s x).2.1≤(s.size:Int):=by
  unfold getText at h ⊢
  split
  · rename_i h1
    rw [if_pos h1] at h
    have hk:=getNum_ok h1
    split
    · exact ⟨Int.le_refl _,by show (0:Int)≤_;omega⟩
    · rename_i h2
      split
      · exact ⟨Int.le_refl _,by show (0:Int)≤_;omega⟩
      · refine ⟨?_,?_⟩ <;> dsimp only <;> omega
  · exact ⟨Int.le_refl _,by show (0:Int)≤_;omega⟩
theorem impl_str_ev {s:ByteArray} (hs:s.size≤8000) {o:Option Int} {p:Int} {b:Bool} (h:St s o p b):∃ p' b',St s (rText s o).1 p' b'∧Ev (fun k=>Y43.f k s p b) ((rText s o).2,s,p',b'):=by
  obtain ⟨h0,h1,h2⟩:=h
  unfold Y43.f
  cases b with
  | true =>
    simp only [if_true] at h2
    subst h2
    exact ⟨p,true,⟨h0,h1,rfl⟩,evPos rfl (Ev.now _)⟩
  | false =>
    simp only [Bool.false_eq_true,if_false] at h2
    subst h2
    have e:=impl_GetText_ev s p (by omega) (by omega)
    by_cases hc:(getText s p).2.2=0
    · have hk:=getText_ok hc
      refine ⟨(getText s p).2.1,false,⟨hk.1,hk.2,by simp [rText,hc]⟩,evNeg (by simp) (Ev.bind e ?_)⟩
      simp only [rText,if_pos hc,hc]
      exact Ev.now _
    · have hk:=getText_bad hc
      refine ⟨0,true,⟨Int.le_refl _,by omega,by simp [rText,hc]⟩,evNeg (by simp) (Ev.bind e ?_)⟩
      simp only [rText,if_neg hc,hk.1,hk.2]
      have:((getText s p).2.2 != 0)=true:=by simpa using hc
      rw [this]
      exact Ev.now _
theorem spec_text_ev {s:ByteArray} (hs:s.size≤8000) {o:Option Int} {p:Int} {b:Bool} (h:St s o p b):∃ p' b',St s (rText s o).1 p' b'∧Ev (fun k=>Y21.f k s p b) ((rText s o).2,s,p',b'):=by
  obtain ⟨h0,h1,h2⟩:=h
  unfold Y21.f
  have e:=spec_GetText_ev s p (by omega) (by omega)
  have jT:∀ b n q c,Ev (fun k=>Y21.j0 k true s p b n q c) (⟨#[]⟩,s,p,true):=fun b n q c=>Ev.step (f:=fun _=>some (⟨#[]⟩,s,p,true)) (fun k=>by simp [Y21.j0]) (Ev.now _)
  cases b with
  | true =>
    simp only [if_true] at h2
    subst h2
    exact ⟨p,true,⟨h0,h1,rfl⟩,Ev.bind e (evPos rfl (jT _ _ _ _))⟩
  | false =>
    simp only [Bool.false_eq_true,if_false] at h2
    subst h2
    by_cases hc:(getText s p).2.2=0
    · have hk:=getText_ok hc
      have er:rText s (some p)=(some (getText s p).2.1,(getText s p).1):=by simp [rText,hc]
      rw [er]
      refine ⟨(getText s p).2.1,false,⟨hk.1,hk.2,rfl⟩,Ev.bind e (evNeg (by simp) ?_)⟩
      simp only [hc]
      exact Ev.step (f:=fun _=>some _) (fun k=>by simp only [Y21.j0];rw [if_neg (by simp)]) (Ev.now _)
    · refine ⟨p,true,⟨h0,h1,by simp [rText,hc]⟩,Ev.bind e (evNeg (by simp) ?_)⟩
      simp only [rText,if_neg hc]
      have:((getText s p).2.2 != 0)=true:=by simpa using hc
      rw [this]
      exact jT _ _ _ _
/-- A set's reading. -/
noncomputable def setRead (s:ByteArray):List Mark × List Sib × Int :=
  if 8000<s.size then ([],[],2)
  else if (rSibs s (rMany s (rSeen s (some 0)).1 8).2.toNat (rMany s (rSeen s (some 0)).1 8).1).1=some (s.size:Int) ∧
      (setOk (rSeen s (some 0)).2 ((rSibs s (rMany s (rSeen s (some 0)).1 8).2.toNat (rMany s (rSeen s (some 0)).1 8).1).2.map (·.1))=true ∧
      gonesOk (rSibs s (rMany s (rSeen s (some 0)).1 8).2.toNat (rMany s (rSeen s (some 0)).1 8).1).2=true) then
    ((rSeen s (some 0)).2,(rSibs s (rMany s (rSeen s (some 0)).1 8).2.toNat (rMany s (rSeen s (some 0)).1 8).1).2.map (·.1),0)
  else ([],[],3)
theorem setRead_length (s:ByteArray):(setRead s).1.length≤5∧(setRead s).2.1.length≤8:=by
  have h1:=rSeen_length s (some 0)
  have h2:=rMany_le s (rSeen s (some 0)).1 8 (by omega)
  have h3:=rSibs_length s (rMany s (rSeen s (some 0)).1 8).2.toNat (rMany s (rSeen s (some 0)).1 8).1
  unfold setRead
  split
  · simp
  · split
    · exact ⟨h1,by simp only [List.length_map];omega⟩
    · simp
/-- What the reference asks at the end. -/
def specEnd (s:ByteArray) (v:List Mark) (l:List Sib) (b:Bool):List Mark × List Sib × Int × Int × Int :=
  if b=true then ([],[],0,0,3) else if s.toList=[] then ([],[],0,0,3) else if ((setBytesOut v l).toList != s.toList)=true then ([],[],0,0,3) else (v,l,0,0,0)
theorem spec_set_j2 (v:List Mark) (l:List Sib) (b:Bool):Ev (fun k=>Y23.j2 k b v l) (if b=true then ([],[],0,0,3) else (v,l,0,0,0)):=by
  cases b with
  | true=>exact Ev.step (f:=fun _=>some _) (fun k=>by simp [Y23.j2,Y86.f]) (Ev.now _)
  | false=>exact Ev.step (f:=fun _=>some _) (fun k=>by simp [Y23.j2]) (Ev.now _)
theorem spec_set_end (s:ByteArray) (n:Int) (p:Int) (b:Bool) (v:List Mark) (l:List Sib) (hv:v.length≤1048576) (hl:l.length≤1048576):Ev (fun k=>Y23.j1 k s n false s p b v l) (specEnd s v l b):=by
  unfold specEnd
  cases b with
  | true=>exact Ev.step (fun k=>by simp only [Y23.j1];rw [if_neg (by simp),if_pos trivial]) (spec_set_j2 v l true)
  | false =>
    rw [if_neg (by simp)]
    refine Ev.step (fun k=>by simp only [Y23.j1];rw [if_neg (by simp),if_neg (by simp)]) ?_
    by_cases h:s.toList=[]
    · rw [if_pos h];exact evPos h (spec_set_j2 v l true)
    · rw [if_neg h]
      exact evNeg h (Ev.bind (spec_SetBytes_ev v l hv hl) (spec_set_j2 v l _))
theorem spec_set_l0 {s:ByteArray} (hs:s.size≤8000) (v:List Mark) (hv:v.length≤5):∀ (n:Nat) (o:Option Int) (p:Int) (b:Bool) (acc:List Sib),n≤8→acc.length+n≤8→St s o p b →
    ∃ p' b',St s (rSibs s n o).1 p' b'∧Ev (fun k=>Y23.l0 k s (n:Int) s p b v acc) (specEnd s v (acc ++ (rSibs s n o).2.map (·.1)) b')
  | 0,o,p,b,acc,hn,ha,h=>by
    refine ⟨p,b,h,?_⟩
    simp only [rSibs,List.map_nil,List.append_nil]
    refine Ev.step (fun k=>?_) (spec_set_end s ((0:Nat):Int) p b v acc (by omega) (by omega))
    simp only [Y23.l0]
    rw [if_neg (by omega)]
  | n+1,o,p,true,acc,hn,ha,h=>by
    have ho:=h.bad
    subst ho
    refine ⟨p,true,h,?_⟩
    simp only [rSibs,List.map_nil,List.append_nil]
    refine Ev.step (fun k=>?_) (spec_set_end s ((n+1:Nat):Int) p true v acc (by omega) (by omega))
    simp only [Y23.l0]
    rw [if_pos (by omega)]
    rfl
  | n+1,o,p,false,acc,hn,ha,h=>by
    have ho:=h.good
    subst ho
    obtain ⟨p1,b1,s1,e1⟩:=spec_num_ev hs h
    obtain ⟨p2,b2,s2,e2⟩:=spec_num_ev hs s1
    obtain ⟨p3,b3,s3,e3⟩:=spec_num_ev hs s2
    obtain ⟨p4,b4,s4,e4⟩:=spec_text_ev hs s3
    obtain ⟨p5,b5,s5,e5⟩:=spec_set_l0 hs v hv n _ p4 b4 (acc ++ [⟨⟨(rNum s (some p)).2,(rNum s (rNum s (some p)).1).2⟩,(rNum s (rNum s (rNum s (some p)).1).1).2 == 1,(rText s (rNum s (rNum s (rNum s (some p)).1).1).1).2⟩]) (by omega) (by simp;omega) s4
    refine ⟨p5,b5,s5,?_⟩
    simp only [rSibs,List.map_cons]
    rw [List.append_assoc,List.singleton_append] at e5
    refine Ev.step (f:=fun k=>Y23.j1 k s ((n+1:Nat):Int) true s p false v acc) (fun k=>?_) ?_
    · simp only [Y23.l0]
      rw [if_pos (by omega)]
      rfl
    · have hj:∀ k,Y23.j1 (k+1) s ((n+1:Nat):Int) true s p false v acc=(Y10.f k s p false).bind fun a=>(Y10.f k a.2.1 a.2.2.1 a.2.2.2).bind fun c=>(Y10.f k c.2.1 c.2.2.1 c.2.2.2).bind fun d=>(Y21.f k d.2.1 d.2.2.1 d.2.2.2).bind fun e=>if acc.length<3518437208883 then Y23.l0 k s (wrap64 (((n+1:Nat):Int)-1)) e.2.1 e.2.2.1 e.2.2.2 v (acc ++ [⟨⟨a.1,c.1⟩,d.1 == 1,e.1⟩]) else none:=fun k=>by simp [Y23.j1]
      refine Ev.step hj (Ev.bind e1 (Ev.bind e2 (Ev.bind e3 (Ev.bind e4 (evPos (by omega) ?_)))))
      rw [w64 (by omega) (by omega),show ((n+1:Nat):Int)-1=(n:Int) from by omega]
      exact e5
theorem setRead_end {s:ByteArray} (h:¬ 8000<s.size) {q:Int} (b3:Bool) (s3:St s (rSibs s (rMany s (rSeen s (some 0)).1 8).2.toNat (rMany s (rSeen s (some 0)).1 8).1).1 q b3) :
    specEnd s (rSeen s (some 0)).2 ((rSibs s (rMany s (rSeen s (some 0)).1 8).2.toNat (rMany s (rSeen s (some 0)).1 8).1).2.map (·.1)) b3=((setRead s).1,(setRead s).2.1,0,0,(setRead s).2.2):=by
  unfold setRead
  rw [if_neg h]
  have hsn:=@rSeen_span s 0
  generalize rSeen s (some 0)=av at s3 hsn ⊢
  obtain ⟨a,v⟩:=av
  simp only at s3 hsn ⊢
  have hmn:=fun p q n=>@rMany_span s p q n 8 (by omega)
  have hm0:=rMany_le s a 8 (by omega)
  have hmN:a=none→(rMany s a 8).1=none:=fun e=>by subst e;unfold rMany;split <;> rfl
  generalize hb:rMany s a 8=cn at s3 hm0 hmN ⊢
  obtain ⟨c,n⟩:=cn
  simp only at s3 hm0 hmN ⊢
  have hsb:=@rSibs_span s n.toNat
  have hsN:c=none→(rSibs s n.toNat c).1=none:=fun e=>by subst e;exact rSibs_none s _
  generalize hc:rSibs s n.toNat c=dl at s3 hsN ⊢
  obtain ⟨d,l⟩:=dl
  simp only at s3 hsN ⊢
  unfold specEnd
  cases b3 with
  | true =>
    have:=s3.bad
    subst this
    rw [if_pos rfl,if_neg (by simp)]
  | false =>
    have:=s3.good
    subst this
    cases c with
    | none=>cases hsN rfl
    | some c =>
      cases a with
      | none=>cases hmN rfl
      | some a =>
        have p1:=hsn rfl
        have p2:=hmn a c n hb
        have p3:=hsb c q (by have:=p2.1.1;omega) p2.1.2.2.1 (by rw [hc])
        rw [hc] at p3
        simp only at p3
        have hlen:n=(l.length:Int):=by have:=p3.2.1;omega
        subst hlen
        have hsp:=(p1.1.trans p2.1).trans p3.1
        have hsz0:¬ s.toList=[]:=fun e=>by
          have:=toList_nil e
          have:=p2.1.2.2.1
          have:=p1.2
          have:=p2.2.1
          omega
        rw [if_neg (by simp),if_neg hsz0]
        have e2:=bytesOf_setBytes v (l.map (·.1))
        rw [List.length_map] at e2
        by_cases hg:q=(s.size:Int)∧(setOk v (l.map (·.1))=true∧gonesOk l=true)
        · have e:=hsp.whole.1 hg.1
          rw [raw_good l p3.2.2 hg.2.2] at e
          have e3:=bytesOf_inj (e.trans e2.symm)
          have hne:((setBytesOut v (l.map (·.1))).toList != s.toList)=false:=by
            unfold setBytesOut
            rw [if_pos hg.2.1,← e3]
            simp
          rw [hne,if_neg (show ¬ (false=true) by simp),if_pos ⟨by rw [hg.1],hg.2⟩]
        · have hne:((setBytesOut v (l.map (·.1))).toList != s.toList)=true:=by
            simp only [bne_iff_ne,ne_eq]
            intro e
            have e:=toList_inj e
            unfold setBytesOut at e
            by_cases hk:setOk v (l.map (·.1))=true
            · rw [if_pos hk] at e
              have a3:=hsp.2.2.2
              rw [show (0:Int).toNat=0 from rfl,List.drop_zero] at a3
              rw [e,a3,List.append_assoc (bytesOf (seenBytes v) ++ _)] at e2
              have e4:=List.append_cancel_left e2
              have g:=raw_only l ((bytesOf s).drop q.toNat) [] p3.2.2 (by rw [List.append_nil];exact e4)
              refine hg ⟨hsp.whole.2 ?_,hk,g⟩
              rw [raw_good l p3.2.2 g] at e4
              have e5:(bytesOf s).drop q.toNat=[]:=by
                have:=congrArg List.length e4
                rw [List.length_append] at this
                exact List.length_eq_zero_iff.1 (by omega)
              rw [e5,List.append_nil] at a3
              exact a3
            · rw [if_neg hk] at e
              rw [← e] at hsz0
              exact hsz0 (by rw [toList_data])
          rw [hne,if_pos rfl,if_neg (fun e=>hg ⟨Option.some.inj e.1,e.2⟩)]
theorem spec_SetRead_ev (s:ByteArray):Ev (fun k=>Y23.f k s) ((setRead s).1,(setRead s).2.1,0,0,(setRead s).2.2):=by
  unfold Y23.f setRead
  by_cases h:8000<s.size
  · rw [if_pos h];exact evPos (by omega) (evBind1 rfl (Ev.now _))
  · rw [if_neg h]
    refine evNeg (by omega) ?_
    obtain ⟨p1,b1,s1,e1⟩:=spec_seen_ev (by omega) (St.start s)
    obtain ⟨p2,b2,s2,e2⟩:=spec_many_ev (by omega) s1 8
    have hl:=rSeen_length s (some 0)
    have hm:=rMany_le s (rSeen s (some 0)).1 8 (by omega)
    obtain ⟨p3,b3,s3,e3⟩:=spec_set_l0 (by omega) (rSeen s (some 0)).2 hl (rMany s (rSeen s (some 0)).1 8).2.toNat _ p2 b2 [] (by omega) (by simp;omega) s2
    rw [show (((rMany s (rSeen s (some 0)).1 8).2.toNat:Nat):Int)=(rMany s (rSeen s (some 0)).1 8).2 from by omega,List.nil_append] at e3
    have key:specEnd s (rSeen s (some 0)).2 ((rSibs s (rMany s (rSeen s (some 0)).1 8).2.toNat (rMany s (rSeen s (some 0)).1 8).1).2.map (·.1)) b3=((setRead s).1,(setRead s).2.1,0,0,(setRead s).2.2):=setRead_end h b3 s3
    unfold setRead at key
    rw [if_neg h] at key
    rw [← key]
    exact Ev.bind e1 (Ev.bind e2 e3)
theorem isW01 (g:Int):Y34.f g 0 1=some (isWithin g 0 1):=within_is g 0 1
theorem impl_set_l0 {s:ByteArray} (hs:s.size≤8000) (v:List Mark) (hv:v.length≤5):∀ (n:Nat) (o:Option Int) (p:Int) (b:Bool) (acc:List Sib),n≤8→acc.length+n≤8→St s o p b →
    ∃ p' b',St s (rSibsI s n o).1 p' b'∧Ev (fun k=>Y24.l0 k (n:Int) s p b v acc) (v,acc ++ (rSibsI s n o).2,s,p',b' || !setOk v (acc ++ (rSibsI s n o).2)):=by
  have jE:∀ (acc:List Sib) (n:Int) (p:Int) (b:Bool),acc.length≤8→Ev (fun k=>Y24.j1 k n false s p b v acc) (v,acc,s,p,b || !setOk v acc):=by
    intro acc n p b ha
    cases b with
    | true=>exact Ev.step (f:=fun _=>some (v,acc,s,p,true)) (fun k=>by simp [Y24.j1]) (Ev.now _)
    | false =>
      refine Ev.step (fun k=>by simp only [Y24.j1];rw [if_neg (by simp),if_neg (by simp)]) (Ev.bind (impl_SetRight_ev v acc (by omega) (by omega)) ?_)
      simp only [Bool.false_or]
      exact Ev.now _
  intro n
  induction n with
  | zero =>
    intro o p b acc hn ha h
    refine ⟨p,b,h,?_⟩
    simp only [rSibsI,List.append_nil]
    refine Ev.step (fun k=>?_) (jE acc ((0:Nat):Int) p b (by omega))
    simp only [Y24.l0]
    rw [if_neg (by omega)]
  | succ n ih =>
    intro o p b acc hn ha h
    cases b with
    | true =>
      have ho:=h.bad
      subst ho
      refine ⟨p,true,h,?_⟩
      simp only [rSibsI,List.append_nil]
      refine Ev.step (fun k=>?_) (jE acc ((n+1:Nat):Int) p true (by omega))
      simp only [Y24.l0]
      rw [if_pos (by omega)]
      rfl
    | false =>
      have ho:=h.good
      subst ho
      obtain ⟨p1,b1,s1,e1⟩:=impl_num_ev hs h
      obtain ⟨p2,b2,s2,e2⟩:=impl_num_ev hs s1
      obtain ⟨p3,b3,s3,e3⟩:=impl_num_ev hs s2
      obtain ⟨p4,b4,s4,e4⟩:=impl_str_ev hs s3
      have hw:=isW01 (rNum s (rNum s (rNum s (some p)).1).1).2
      have hJ:∀ (b5:Bool) (o5:Option Int),(b4=true∨b5=!isWithin (rNum s (rNum s (rNum s (some p)).1).1).2 0 1)→St s o5 p4 b5→(b4=true→b5=true) →
          ∃ p' b',St s (rSibsI s n o5).1 p' b'∧Ev (fun k=>Y24.j1 k ((n+1:Nat):Int) true s p false v acc) (v,acc ++ ⟨⟨(rNum s (some p)).2,(rNum s (rNum s (some p)).1).2⟩,(rNum s (rNum s (rNum s (some p)).1).1).2 == 1,(rText s (rNum s (rNum s (rNum s (some p)).1).1).1).2⟩ :: (rSibsI s n o5).2,s,p',b' || !setOk v (acc ++ ⟨⟨(rNum s (some p)).2,(rNum s (rNum s (some p)).1).2⟩,(rNum s (rNum s (rNum s (some p)).1).1).2 == 1,(rText s (rNum s (rNum s (rNum s (some p)).1).1).1).2⟩ :: (rSibsI s n o5).2)):=by
        intro b5 o5 h5 s5 h6
        obtain ⟨p6,b6,s6,e6⟩:=ih o5 p4 b5 (acc ++ [⟨⟨(rNum s (some p)).2,(rNum s (rNum s (some p)).1).2⟩,(rNum s (rNum s (rNum s (some p)).1).1).2 == 1,(rText s (rNum s (rNum s (rNum s (some p)).1).1).1).2⟩]) (by omega) (by simp;omega) s5
        rw [List.append_assoc,List.singleton_append] at e6
        refine ⟨p6,b6,s6,?_⟩
        have hj:∀ k,Y24.j1 (k+1) ((n+1:Nat):Int) true s p false v acc=(Y28.f k s p false).bind fun a=>(Y28.f k a.2.1 a.2.2.1 a.2.2.2).bind fun c=>(Y28.f k c.2.1 c.2.2.1 c.2.2.2).bind fun d=>(Y43.f k d.2.1 d.2.2.1 d.2.2.2).bind fun e=>if e.2.2.2=true then (if acc.length<3518437208883 then Y24.l0 k (wrap64 (((n+1:Nat):Int)-1)) e.2.1 e.2.2.1 true v (acc ++ [⟨⟨a.1,c.1⟩,d.1 == 1,e.1⟩]) else none) else (Y34.f d.1 0 1).bind fun t=>if acc.length<3518437208883 then Y24.l0 k (wrap64 (((n+1:Nat):Int)-1)) e.2.1 e.2.2.1 (!t) v (acc ++ [⟨⟨a.1,c.1⟩,d.1 == 1,e.1⟩]) else none:=fun k=>by simp [Y24.j1]
        refine Ev.step hj (Ev.bind e1 (Ev.bind e2 (Ev.bind e3 (Ev.bind e4 ?_))))
        cases b4 with
        | true =>
          have:=h6 rfl
          subst this
          refine evPos rfl (evPos (by omega) ?_)
          rw [w64 (by omega) (by omega),show ((n+1:Nat):Int)-1=(n:Int) from by omega]
          exact e6
        | false =>
          have:=h5.resolve_left (by simp)
          subst this
          refine evNeg (by simp) (evBind1 hw (evPos (by omega) ?_))
          rw [w64 (by omega) (by omega),show ((n+1:Nat):Int)-1=(n:Int) from by omega]
          exact e6
      have hl0:∀ k,Y24.l0 (k+1) ((n+1:Nat):Int) s p false v acc=Y24.j1 k ((n+1:Nat):Int) true s p false v acc:=fun k=>by
        simp only [Y24.l0]
        rw [if_pos (by omega)]
        rfl
      simp only [rSibsI]
      by_cases hq:isWithin (rNum s (rNum s (rNum s (some p)).1).1).2 0 1=true
      · rw [if_pos hq]
        obtain ⟨p6,b6,s6,e6⟩:=hJ b4 (rText s (rNum s (rNum s (rNum s (some p)).1).1).1).1 (by cases b4 <;> simp [hq]) s4 id
        exact ⟨p6,b6,s6,Ev.step hl0 e6⟩
      · rw [if_neg hq]
        have hq':isWithin (rNum s (rNum s (rNum s (some p)).1).1).2 0 1=false:=by simpa using hq
        obtain ⟨p6,b6,s6,e6⟩:=hJ true none (by simp [hq']) ⟨s4.1,s4.2.1,rfl⟩ (fun _=>rfl)
        exact ⟨p6,b6,s6,Ev.step hl0 e6⟩
theorem setOk_seen {v:List Mark} {l:List Sib} (h:seenOk v=false):setOk v l=false:=by simp [setOk,h]
theorem impl_SetRead_ev (s:ByteArray):Ev (fun k=>Y72.f k s) ((setRead s).1,(setRead s).2.1,0,0,(setRead s).2.2):=by
  unfold Y72.f setRead
  refine Ev.bind (isLong1_ev s) ?_
  by_cases h:8000<s.size
  · rw [if_pos h];exact evPos (by simpa using h) (Ev.now _)
  · rw [if_neg h]
    refine evNeg (by simpa using h) ?_
    have hv:=rSeen_length s (some 0)
    obtain ⟨p1,b1,s1,e1⟩:=impl_seen_ev (by omega) (St.start s)
    have fin:∀ (v:List Mark) (l:List Sib) (q:Int) (b:Bool) (o:Option Int),St s o q b→Ev (fun _=>(Y85.f s q (b || !setOk v l)).bind fun t=>if t.1=true then some (v,l,(0:Int),(0:Int),(0:Int)) else some ([],[],0,0,3))
        (if o=some (s.size:Int)∧setOk v l=true then (v,l,0,0,0) else ([],[],0,0,3)):=by
      intro v l q b o hs
      obtain ⟨_,_,h3⟩:=hs
      simp only [Y85.f,Y67.f,Option.bind_some]
      cases b with
      | true =>
        simp only [if_true] at h3
        subst h3
        rw [if_neg (show ¬ ((none:Option Int)=some (s.size:Int)∧setOk v l=true) by simp)]
        simp only [Bool.true_or,if_true,Option.bind_some]
        exact evNeg (by simp) (Ev.now _)
      | false =>
        simp only [Bool.false_eq_true,if_false] at h3
        subst h3
        cases hk:setOk v l with
        | false =>
          rw [if_neg (show ¬ (some q=some (s.size:Int)∧false=true) by simp)]
          simp only [Bool.false_or,Bool.not_false,if_true,Option.bind_some]
          exact evNeg (by simp) (Ev.now _)
        | true =>
          simp only [Bool.false_or,Bool.not_true,Bool.false_eq_true,if_false,Option.bind_some,Option.some.injEq,and_true]
          by_cases hp:q=(s.size:Int)
          · rw [if_pos hp];exact evPos (by simpa using hp) (Ev.now _)
          · rw [if_neg hp];exact evNeg (by simpa using hp) (Ev.now _)
    have st1:St s (if seenOk (rSeen s (some 0)).2=true then (rSeen s (some 0)).1 else none) p1 (b1 || !seenOk (rSeen s (some 0)).2):=by
      cases hk:seenOk (rSeen s (some 0)).2 with
      | true=>rw [if_pos rfl];simpa using s1
      | false=>rw [if_neg (by simp)];exact ⟨s1.1,s1.2.1,by simp⟩
    obtain ⟨p2,b2,s2,e2⟩:=impl_count_ev (by omega) st1 8
    have hm:=rMany_le s (if seenOk (rSeen s (some 0)).2=true then (rSeen s (some 0)).1 else none) 8 (by omega)
    obtain ⟨p3,b3,s3,e3⟩:=impl_set_l0 (by omega) (rSeen s (some 0)).2 hv (rMany s (if seenOk (rSeen s (some 0)).2=true then (rSeen s (some 0)).1 else none) 8).2.toNat _ p2 b2 [] (by omega) (by simp;omega) s2
    rw [show (((rMany s (if seenOk (rSeen s (some 0)).2=true then (rSeen s (some 0)).1 else none) 8).2.toNat:Nat):Int)=(rMany s (if seenOk (rSeen s (some 0)).2=true then (rSeen s (some 0)).1 else none) 8).2 from by omega,List.nil_append] at e3
    have e4:=fin (rSeen s (some 0)).2 (rSibsI s (rMany s (if seenOk (rSeen s (some 0)).2=true then (rSeen s (some 0)).1 else none) 8).2.toNat (rMany s (if seenOk (rSeen s (some 0)).2=true then (rSeen s (some 0)).1 else none) 8).1).2 p3 b3 _ s3
    have key:(if (rSibsI s (rMany s (if seenOk (rSeen s (some 0)).2=true then (rSeen s (some 0)).1 else none) 8).2.toNat (rMany s (if seenOk (rSeen s (some 0)).2=true then (rSeen s (some 0)).1 else none) 8).1).1=some (s.size:Int)∧setOk (rSeen s (some 0)).2 (rSibsI s (rMany s (if seenOk (rSeen s (some 0)).2=true then (rSeen s (some 0)).1 else none) 8).2.toNat (rMany s (if seenOk (rSeen s (some 0)).2=true then (rSeen s (some 0)).1 else none) 8).1).2=true then ((rSeen s (some 0)).2,(rSibsI s (rMany s (if seenOk (rSeen s (some 0)).2=true then (rSeen s (some 0)).1 else none) 8).2.toNat (rMany s (if seenOk (rSeen s (some 0)).2=true then (rSeen s (some 0)).1 else none) 8).1).2,(0:Int),(0:Int),(0:Int)) else ([],[],0,0,3))=((setRead s).1,(setRead s).2.1,0,0,(setRead s).2.2):=by
      unfold setRead
      rw [if_neg h]
      cases hk:seenOk (rSeen s (some 0)).2 with
      | false =>
        rw [setOk_seen hk,setOk_seen hk,if_neg (by simp),if_neg (by simp)]
      | true =>
        rw [if_pos rfl]
        generalize rMany s (rSeen s (some 0)).1 8=cn
        generalize (rSeen s (some 0)).2=v
        by_cases hg:gonesOk (rSibs s cn.2.toNat cn.1).2=true
        · rw [rSibsI_good s _ _ hg]
          simp only [hg,and_true]
          split <;> rfl
        · rw [if_neg (fun e=>hg (rSibsI_some s _ _ _ e.1)),if_neg (fun e=>hg e.2.2)]
    unfold setRead at key
    rw [if_neg h] at key
    rw [← key]
    have eS:Ev (fun k=>Y24.f k s 0 false) _:=Ev.bind e1 (Ev.bind e2 e3)
    exact Ev.bind eS e4
end Go.Proofs.YtbkiajppiogifaaGreat.Q

namespace Go.Proofs.YtbkiajppiogifaaGreat.Q
open Go.RowKit Go.Proofs.YtbkiajppiogifaaGreat.P Go.Proofs.YtbkiajppiogifaaGreatW.PrintWords Go.Proofs.YtbkiajppiogifaaGreatW.PrintMore

def ltS (x y:Sib):Bool:=dotLess x.f0.f0 x.f0.f1 y.f0.f0 y.f0.f1
theorem ltS_iff {x y:Sib}:ltS x y=true ↔ x.f0.f0<y.f0.f0∨(x.f0.f0=y.f0.f0∧x.f0.f1<y.f0.f1):=by simp [ltS,dotLess]
theorem ltS_trans {x y z:Sib} (h:ltS x y=true) (k:ltS y z=true):ltS x z=true:=by
  rw [ltS_iff] at *;omega
theorem ltS_asymm {x y:Sib} (h:ltS x y=true):¬ ltS y x=true:=by
  rw [ltS_iff] at *;omega
/-- The two have dots of their own. -/
def Apart (x y:Sib):Prop:=ltS x y=true∨ltS y x=true
def insS:List Sib→Sib→List Sib
  | [],x=>[x]
  | y :: r,x=>if ltS y x=true then y :: insS r x else x :: y :: r
/-- From the right; what it goes into stands turned around. -/
def insR:List Sib→Sib→List Sib
  | [],x=>[x]
  | y :: r,x=>if ltS x y=true then insR r x ++ [y] else r.reverse ++ [y,x]
theorem insR_length (x:Sib):∀ p:List Sib,(insR p x).length=p.length+1
  | []=>rfl
  | y :: r=>by
    simp only [insR]
    split
    · rw [List.length_append,insR_length x r];rfl
    · simp
theorem insS_snoc (x y:Sib) (hxy:Apart x y):∀ p:List Sib,(∀ z ∈ p,ltS z y=true)→insS (p ++ [y]) x=if ltS x y=true then insS p x ++ [y] else p ++ [y,x]
  | [],_=>by
    by_cases h:ltS x y=true
    · rw [if_pos h]
      simp only [List.nil_append,insS]
      rw [if_neg (ltS_asymm h)]
      rfl
    · rw [if_neg h]
      simp only [List.nil_append,insS]
      rw [if_pos (hxy.resolve_left h)]
  | z :: p,hp=>by
    have ih:=insS_snoc x y hxy p (fun w hw=>hp w (List.mem_cons_of_mem _ hw))
    have hz:=hp z List.mem_cons_self
    simp only [List.cons_append,insS]
    by_cases h:ltS x y=true
    · rw [if_pos h] at ih ⊢
      by_cases hzx:ltS z x=true
      · rw [if_pos hzx,if_pos hzx,ih];rfl
      · rw [if_neg hzx,if_neg hzx];rfl
    · rw [if_neg h] at ih ⊢
      rw [if_pos (ltS_trans hz (hxy.resolve_left h)),ih]
abbrev Sorted (p:List Sib):Prop:=p.Pairwise fun a b=>ltS a b=true
theorem insR_insS (x:Sib):∀ p:List Sib,Sorted p.reverse→(∀ z ∈ p,Apart x z)→insR p x=insS p.reverse x
  | [],_,_=>rfl
  | y :: r,hs,ha=>by
    rw [List.reverse_cons] at hs ⊢
    have h1:=List.pairwise_append.1 hs
    rw [insS_snoc x y (ha y List.mem_cons_self) r.reverse (fun z hz=>h1.2.2 z hz y (by simp))]
    simp only [insR]
    rw [insR_insS x r h1.1 (fun z hz=>ha z (List.mem_cons_of_mem _ hz))]
theorem insS_mem (x:Sib):∀ (p:List Sib) (z:Sib),z ∈ insS p x→z=x∨z ∈ p
  | [],z,h=>by simpa [insS] using h
  | y :: r,z,h=>by
    simp only [insS] at h
    split at h
    · rcases List.mem_cons.1 h with rfl | h
      · exact .inr List.mem_cons_self
      · rcases insS_mem x r z h with h | h
        · exact .inl h
        · exact .inr (List.mem_cons_of_mem _ h)
    · rcases List.mem_cons.1 h with rfl | h
      · exact .inl rfl
      · exact .inr h
theorem insS_sorted (x:Sib):∀ p:List Sib,Sorted p→(∀ z ∈ p,Apart x z)→Sorted (insS p x)
  | [],_,_=>by simp [insS,Sorted]
  | y :: r,hs,ha=>by
    have hs2:=List.pairwise_cons.1 hs
    simp only [insS]
    split
    · rename_i h
      refine List.pairwise_cons.2 ⟨fun z hz=>?_,insS_sorted x r hs2.2 (fun z hz=>ha z (List.mem_cons_of_mem _ hz))⟩
      rcases insS_mem x r z hz with rfl | hz
      · exact h
      · exact hs2.1 z hz
    · rename_i h
      have hxy:ltS x y=true:=(ha y List.mem_cons_self).resolve_right h
      refine List.pairwise_cons.2 ⟨fun z hz=>?_,hs⟩
      rcases List.mem_cons.1 hz with rfl | hz
      · exact hxy
      · exact ltS_trans hxy (hs2.1 z hz)
def insF (p:List Sib) (x:Sib):List Sib:=insR p.reverse x
theorem foldl_same:∀ (s p:List Sib),Sorted p→(∀ x ∈ s,∀ z ∈ p,Apart x z)→(s.Pairwise fun a b=>Apart b a)→s.foldl insF p=s.foldl insS p
  | [],_,_,_,_=>rfl
  | x :: s,p,hs,ha,hd=>by
    have hd2:=List.pairwise_cons.1 hd
    have e:insF p x=insS p x:=by
      have:=insR_insS x p.reverse (by rw [List.reverse_reverse];exact hs) (fun z hz=>ha x List.mem_cons_self z (List.mem_reverse.1 hz))
      rw [List.reverse_reverse] at this
      exact this
    rw [List.foldl_cons,List.foldl_cons,e]
    refine foldl_same s _ (insS_sorted x p hs (ha x List.mem_cons_self)) (fun y hy z hz=>?_) hd2.2
    rcases insS_mem x p z hz with rfl | hz
    · exact hd2.1 y hy
    · exact ha y (List.mem_cons_of_mem _ hy) z hz
theorem foldl_length (f:List Sib→Sib→List Sib) (hf:∀ p x,(f p x).length=p.length+1):∀ (s p:List Sib),(s.foldl f p).length=p.length+s.length
  | [],p=>rfl
  | x :: s,p=>by rw [List.foldl_cons,foldl_length f hf s,hf,List.length_cons];omega
theorem insS_length (x:Sib):∀ p:List Sib,(insS p x).length=p.length+1
  | []=>rfl
  | y :: r=>by
    simp only [insS]
    split
    · rw [List.length_cons,insS_length x r];rfl
    · rfl
theorem sibsFrom_lt (v:List Mark):∀ (s:List Sib) (y:Sib),sibsFrom v (some y) s=true→∀ z ∈ s,ltS y z=true
  | [],_,_,z,hz=>by cases hz
  | x :: r,y,h,z,hz=>by
    simp only [sibsFrom,Bool.and_eq_true] at h
    rcases List.mem_cons.1 hz with rfl | hz
    · exact h.2.1
    · exact ltS_trans h.2.1 (sibsFrom_lt v r x h.2.2 z hz)
theorem sibsFrom_sorted (v:List Mark):∀ (s:List Sib) (o:Option Sib),sibsFrom v o s=true→Sorted s
  | [],_,_=>List.Pairwise.nil
  | x :: r,o,h=>by
    have h2:sibsFrom v (some x) r=true:=by
      cases o with
      | none=>simp only [sibsFrom,Bool.and_eq_true] at h;exact h.2
      | some y=>simp only [sibsFrom,Bool.and_eq_true] at h;exact h.2.2
    exact List.pairwise_cons.2 ⟨sibsFrom_lt v r x h2,sibsFrom_sorted v r _ h2⟩
theorem setOk_sorted {v:List Mark} {l:List Sib} (h:setOk v l=true):Sorted l:=sibsFrom_sorted v l none ((setOk_iff v l).1 h).2.2
theorem sibAt_none (a b:Int):∀ (l:List Sib) (i:Int),0≤i→sibAt a b i l<0→∀ z ∈ l,¬ (z.f0.f0=a∧z.f0.f1=b)
  | [],_,_,_,z,hz=>by cases hz
  | x :: r,i,hi,h,z,hz=>by
    simp only [sibAt] at h
    split at h
    · omega
    · rename_i hx
      rcases List.mem_cons.1 hz with rfl | hz
      · intro e
        exact hx (by simp [isAt,e.1,e.2])
      · exact sibAt_none a b r (i+1) (by omega) h z hz
def keepA (vb:List Mark) (lb:List Sib) (x:Sib):Bool:=decide (sibAt x.f0.f0 x.f0.f1 0 lb≥0) || !seenHas vb x.f0.f0 x.f0.f1
def keepB (va:List Mark) (la:List Sib) (x:Sib):Bool:=decide (sibAt x.f0.f0 x.f0.f1 0 la<0) && !seenHas va x.f0.f0 x.f0.f1
def kept (va:List Mark) (la:List Sib) (vb:List Mark) (lb:List Sib):List Sib:=la.filter (keepA vb lb) ++ lb.filter (keepB va la)
theorem kept_apart {va vb:List Mark} {la lb:List Sib} (ha:setOk va la=true) (hb:setOk vb lb=true):(kept va la vb lb).Pairwise fun a b=>Apart b a:=by
  refine List.pairwise_append.2 ⟨((setOk_sorted ha).sublist List.filter_sublist).imp (fun h=>.inr h),((setOk_sorted hb).sublist List.filter_sublist).imp (fun h=>.inr h),fun a hxa b hxb=>?_⟩
  have h1:=(List.mem_filter.1 hxa).1
  have h2:=(List.mem_filter.1 hxb).2
  simp only [keepB,Bool.and_eq_true,decide_eq_true_eq] at h2
  have h3:=sibAt_none _ _ la 0 (Int.le_refl _) h2.1 a h1
  unfold Apart
  rw [ltS_iff,ltS_iff]
  omega
noncomputable def setSync (va:List Mark) (la:List Sib) (vb:List Mark) (lb:List Sib):List Mark × List Sib × Int :=
  if setOk va la=true∧setOk vb lb=true then (if (kept va la vb lb).length>8 then ([],[],9) else (seenJoin va vb,(kept va la vb lb).foldl insS [],0)) else ([],[],1)
theorem setSync_length (va:List Mark) (la:List Sib) (vb:List Mark) (lb:List Sib):(setSync va la vb lb).1.length≤5∧(setSync va la vb lb).2.1.length≤8:=by
  unfold setSync
  split
  · split
    · simp
    · refine ⟨joinFrom_length va vb 5 1,?_⟩
      have:=foldl_length insS (fun p x=>insS_length x p) (kept va la vb lb) []
      simp only [List.length_nil] at this
      show (List.foldl insS [] (kept va la vb lb)).length≤8
      omega
  · simp
theorem getD_midS (pre:List Sib) (m:Sib) (s:List Sib) (d:Sib):(pre ++ m :: s).getD pre.length d=m:=by
  simp [List.getD_eq_getElem?_getD]
theorem l03In_l0 (x:Sib):∀ (s pre:List Sib),pre.length+s.length≤1048576→Ev (fun k=>Y33.l0 k (pre ++ s) (pre.length:Int) x.f0.f0 x.f0.f1 x.f1 x.f2) (pre ++ insS s x):=by
  have stop:∀ (s pre:List Sib),pre.length+s.length≤1048576→Ev (fun k=>Y33.j1 k (pre ++ s) (pre.length:Int) false x.f0.f0 x.f0.f1 x.f1 x.f2) (pre ++ x :: s):=by
    intro s pre hl
    refine Ev.step (fun k=>by simp only [Y33.j1];rw [if_neg (by simp)]) ?_
    refine evBind1 rfl (evPos (by omega) (evPos (by simp;omega) (evBind1 rfl (evPos (by simp;omega) (evBind1 rfl (evPos (by simp;omega) (evBind1 rfl (evBind1 rfl (evPos (by simp;omega) ?_)))))))))
    have e:(pre ++ s).take pre.length=pre:=by simp
    have e2:(pre ++ s).drop pre.length=s:=by simp
    simp only [Int.toNat_natCast,e,e2,List.nil_append,List.append_assoc,List.singleton_append]
    exact Ev.now _
  intro s
  induction s with
  | nil =>
    intro pre hl
    have:=stop [] pre hl
    simp only [insS]
    refine Ev.step (fun k=>?_) this
    simp only [Y33.l0]
    rw [if_neg (by simp)]
  | cons y r ih =>
    intro pre hl
    simp only [List.length_cons] at hl
    have hr:rd_T75 (pre ++ y :: r) (pre.length:Int)=y:=by simp only [rd_T75,Int.toNat_natCast,getD_midS]
    have hl0:∀ k,Y33.l0 (k+1) (pre ++ y :: r) (pre.length:Int) x.f0.f0 x.f0.f1 x.f1 x.f2=Y33.j1 k (pre ++ y :: r) (pre.length:Int) (ltS y x) x.f0.f0 x.f0.f1 x.f1 x.f2:=fun k=>by
      simp only [Y33.l0,hr,l03Less_is,Option.bind_some]
      rw [if_pos (by simp;omega),if_pos (by omega)]
      rfl
    refine Ev.step hl0 ?_
    simp only [insS]
    cases h:ltS y x with
    | true =>
      rw [if_pos rfl]
      have e:=ih (pre ++ [y]) (by simp;omega)
      simp only [List.length_append,List.length_cons,List.length_nil,List.append_assoc,List.cons_append,List.nil_append] at e
      refine Ev.step (fun k=>?_) e
      simp only [Y33.j1]
      rw [if_pos trivial,w64 (by omega) (by omega)]
      rfl
    | false =>
      rw [if_neg (by simp)]
      exact stop (y :: r) pre (by simp;omega)
theorem l03In_ev (l:List Sib) (x:Sib) (hl:l.length≤1048576):Ev (fun k=>Y33.f k l x.f0.f0 x.f0.f1 x.f1 x.f2) (insS l x):=l03In_l0 x l [] (by simpa using hl)
def keepAS (vb:List Mark) (lb:List Sib) (x:Sib):Bool:=decide (sibAt x.f0.f0 x.f0.f1 0 lb≥0) || !seenHasOut vb x.f0.f0 x.f0.f1
def keepBS (va:List Mark) (la:List Sib) (x:Sib):Bool:=decide (sibAt x.f0.f0 x.f0.f1 0 la<0) && !seenHasOut va x.f0.f0 x.f0.f1
theorem l03Sync_l1 (va:List Mark) (la:List Sib) (vb:List Mark) (lb:List Sib) (v:List Mark) (hva:va.length≤1048576) (hla:la.length≤8) (hlb:lb.length≤8):∀ (s:List Sib) (i:Nat),lb.drop i=s→i≤lb.length→∀ acc:List Sib,acc.length+s.length≤16 →
    Ev (fun k=>Y1.l1 k (i:Int) va la vb lb v acc) (if ((s.filter (keepBS va la)).foldl insS acc).length>8 then ([],[],0,0,9) else (v,(s.filter (keepBS va la)).foldl insS acc,0,0,0))
  | [],i,h,hi,acc,hc=>by
    have:=dropNil' h hi
    show Ev _ (if acc.length>8 then ([],[],0,0,9) else (v,acc,0,0,0))
    refine Ev.step (f:=fun k=>if (acc.length:Int)>8 then some ([],[],0,0,9) else some (v,acc,0,0,0)) (fun k=>?_) (evIte (fun h=>?_) (fun h=>?_))
    · simp only [Y1.l1,Y86.f,Option.bind_some]
      rw [if_neg (by omega)]
    · rw [if_pos (by omega)];exact Ev.now _
    · rw [if_neg (by omega)];exact Ev.now _
  | x :: s,i,h,hi,acc,hc=>by
    obtain ⟨h1,h2,h3⟩:=dropCons h z75
    simp only [List.length_cons] at hc
    have hr:rd_T75 lb (i:Int)=x:=by simpa [rd_T75] using h2
    have hj:Ev (fun k=>Y1.j3 k (i:Int) (keepBS va la x) va la vb lb v acc) (if (((x :: s).filter (keepBS va la)).foldl insS acc).length>8 then ([],[],0,0,9) else (v,((x :: s).filter (keepBS va la)).foldl insS acc,0,0,0)):=by
      cases hk:keepBS va la x with
      | true =>
        rw [List.filter_cons_of_pos hk,List.foldl_cons]
        have ih:=l03Sync_l1 va la vb lb v hva hla hlb s (i+1) h3 (by omega) (insS acc x) (by rw [insS_length];omega)
        refine Ev.step (fun k=>by simp only [Y1.j3,hr];rw [if_pos trivial,if_pos (by omega),if_pos (by omega)]) (Ev.bind (l03In_ev acc x (by omega)) ?_)
        rw [w64 (by omega) (by omega)]
        exact ih
      | false =>
        rw [List.filter_cons_of_neg (by simp [hk])]
        have ih:=l03Sync_l1 va la vb lb v hva hla hlb s (i+1) h3 (by omega) acc (by omega)
        refine Ev.step (fun k=>?_) ih
        simp only [Y1.j3]
        rw [if_neg (by simp),w64 (by omega) (by omega)]
        rfl
    refine Ev.step (fun k=>by simp only [Y1.l1,hr];rw [if_pos (by omega),if_pos (by omega)]) (Ev.bind (l03At_ev la _ _ (by omega)) ?_)
    by_cases hn:sibAt x.f0.f0 x.f0.f1 0 la<0
    · refine evPos hn (Ev.bind (spec_SeenHas_ev va _ _ (by omega)) ?_)
      have e:keepBS va la x=!seenHasOut va x.f0.f0 x.f0.f1:=by simp [keepBS,hn]
      rw [e] at hj
      exact hj
    · refine evNeg hn ?_
      have e:keepBS va la x=false:=by simp [keepBS,hn]
      rw [e] at hj
      exact hj
theorem l03Sync_l0 (va:List Mark) (la:List Sib) (vb:List Mark) (lb:List Sib) (v:List Mark) (hva:va.length≤1048576) (hvb:vb.length≤1048576) (hla:la.length≤8) (hlb:lb.length≤8):∀ (s:List Sib) (i:Nat),la.drop i=s→i≤la.length→∀ acc:List Sib,acc.length+s.length≤8 →
    Ev (fun k=>Y1.l0 k (i:Int) va la vb lb v acc) (if ((s.filter (keepAS vb lb) ++ lb.filter (keepBS va la)).foldl insS acc).length>8 then ([],[],0,0,9) else (v,(s.filter (keepAS vb lb) ++ lb.filter (keepBS va la)).foldl insS acc,0,0,0))
  | [],i,h,hi,acc,hc=>by
    have:=dropNil' h hi
    simp only [List.filter_nil,List.nil_append]
    refine Ev.step (fun k=>?_) (l03Sync_l1 va la vb lb v hva hla hlb lb 0 rfl (by omega) acc (by simp only [List.length_nil] at hc;omega))
    simp only [Y1.l0]
    rw [if_neg (by omega)]
    rfl
  | x :: s,i,h,hi,acc,hc=>by
    obtain ⟨h1,h2,h3⟩:=dropCons h z75
    simp only [List.length_cons] at hc
    have hr:rd_T75 la (i:Int)=x:=by simpa [rd_T75] using h2
    have hj:Ev (fun k=>Y1.j1 k (i:Int) (keepAS vb lb x) va la vb lb v acc) (if (((x :: s).filter (keepAS vb lb) ++ lb.filter (keepBS va la)).foldl insS acc).length>8 then ([],[],0,0,9) else (v,((x :: s).filter (keepAS vb lb) ++ lb.filter (keepBS va la)).foldl insS acc,0,0,0)):=by
      cases hk:keepAS vb lb x with
      | true =>
        rw [List.filter_cons_of_pos hk,List.cons_append,List.foldl_cons]
        have ih:=l03Sync_l0 va la vb lb v hva hvb hla hlb s (i+1) h3 (by omega) (insS acc x) (by rw [insS_length];omega)
        refine Ev.step (fun k=>by simp only [Y1.j1,hr];rw [if_pos trivial,if_pos (by omega),if_pos (by omega)]) (Ev.bind (l03In_ev acc x (by omega)) ?_)
        rw [w64 (by omega) (by omega)]
        exact ih
      | false =>
        rw [List.filter_cons_of_neg (by simp [hk])]
        have ih:=l03Sync_l0 va la vb lb v hva hvb hla hlb s (i+1) h3 (by omega) acc (by omega)
        refine Ev.step (fun k=>?_) ih
        simp only [Y1.j1]
        rw [if_neg (by simp),w64 (by omega) (by omega)]
        rfl
    refine Ev.step (fun k=>by simp only [Y1.l0,hr];rw [if_pos (by omega),if_pos (by omega)]) (Ev.bind (l03At_ev lb _ _ (by omega)) ?_)
    by_cases hn:sibAt x.f0.f0 x.f0.f1 0 lb≥0
    · refine evPos hn ?_
      have e:keepAS vb lb x=true:=by simp [keepAS,hn]
      rw [e] at hj
      exact hj
    · refine evNeg hn (Ev.bind (spec_SeenHas_ev vb _ _ (by omega)) ?_)
      have e:keepAS vb lb x=!seenHasOut vb x.f0.f0 x.f0.f1:=by simp [keepAS,hn]
      rw [e] at hj
      exact hj
theorem seenHas_out {v w:List Mark} {l:List Sib} (hw:seenOk w=true) (h:setOk v l=true):∀ x ∈ l,seenHasOut w x.f0.f0 x.f0.f1=seenHas w x.f0.f0 x.f0.f1:=fun x hx=>by
  have h1:=sibsFrom_mem v l none ((setOk_iff v l).1 h).2.2 x hx
  simp only [sibOk,Bool.and_eq_true] at h1
  simp [seenHasOut,hw,h1.1]
theorem keptS {va vb:List Mark} {la lb:List Sib} (ha:setOk va la=true) (hb:setOk vb lb=true):la.filter (keepAS vb lb) ++ lb.filter (keepBS va la)=kept va la vb lb:=by
  unfold kept
  have h1:=((setOk_iff va la).1 ha).1
  have h2:=((setOk_iff vb lb).1 hb).1
  congr 1
  · exact List.filter_congr (fun x hx=>by simp only [keepAS,keepA,seenHas_out h2 ha x hx])
  · exact List.filter_congr (fun x hx=>by simp only [keepBS,keepB,seenHas_out h1 hb x hx])
theorem l03Sync_ev {va vb:List Mark} {la lb:List Sib} (ha:setOk va la=true) (hb:setOk vb lb=true) (hva:va.length≤1048576) (hvb:vb.length≤1048576) :
    Ev (fun k=>Y1.f k va la vb lb) ((setSync va la vb lb).1,(setSync va la vb lb).2.1,0,0,(setSync va la vb lb).2.2):=by
  have hla:=((setOk_iff va la).1 ha).2.1
  have hlb:=((setOk_iff vb lb).1 hb).2.1
  have e:=l03Sync_l0 va la vb lb (seenJoin va vb) hva hvb hla hlb la 0 rfl (by omega) [] (by simpa using hla)
  rw [keptS ha hb] at e
  have hn:=foldl_length insS (fun p x=>insS_length x p) (kept va la vb lb) []
  rw [List.length_nil,Nat.zero_add] at hn
  rw [hn] at e
  unfold setSync
  rw [if_pos ⟨ha,hb⟩]
  refine Ev.bind (l02Join_ev va vb (by omega) (by omega)) ?_
  by_cases h:(kept va la vb lb).length>8
  · rw [if_pos h] at e ⊢;exact e
  · rw [if_neg h] at e ⊢;exact e
theorem cmpDots_lt (a b c d:Int):decide (cmpDots a b c d<0)=dotLess a b c d:=by
  have h:=cmpDots_ge a b c d
  by_cases h1:cmpDots a b c d<0
  · rw [decide_eq_true h1]
    rw [decide_eq_false (by omega)] at h
    simpa using h
  · rw [decide_eq_false h1]
    rw [decide_eq_true (by omega)] at h
    simpa using h
theorem sorted1_ev (x y:Sib):Ev (fun k=>Y71.f k x.f0.f0 x.f0.f1 x.f1 x.f2 y.f0.f0 y.f0.f1 y.f1 y.f2) (cmpDots x.f0.f0 x.f0.f1 y.f0.f0 y.f0.f1):=Ev.bind (compareDots_ev _ _ _ _) (Ev.now _)
theorem set_mid2 (pre:List Sib) (y x:Sib) (q:List Sib):((pre ++ y :: x :: q).set (pre.length+1) y).set pre.length x=pre ++ x :: y :: q:=by
  rw [List.set_append_right _ _ (by omega),List.set_append_right _ _ (by omega)]
  simp
theorem sort_l1 (n i:Int) {R:List Sib} (x:Sib):∀ (r q:List Sib),r.length+q.length≤1048576 →
    Ev (fun k=>Y0.l0 k (insR r x ++ q) 0 n (wrap64 (i+1))) R →
    Ev (fun k=>Y0.l1 k (r.reverse ++ x :: q) 0 n i (r.length:Int)) R
  | [],q,hl,h=>by
    refine Ev.step (f:=fun k=>Y0.j2 k ([].reverse ++ x :: q) 0 n i (([]:List Sib).length:Int) false) (fun k=>?_) (Ev.step (fun k=>?_) h)
    · simp only [Y0.l1]
      rw [if_neg (by simp)]
    · simp only [Y0.j2]
      rw [if_neg (by simp)]
      rfl
  | y :: r,q,hl,h=>by
    simp only [List.length_cons] at hl
    have hL:(y :: r).reverse ++ x :: q=r.reverse ++ y :: x :: q:=by simp
    have hlen:(r.reverse ++ y :: x :: q).length=r.length+(q.length+1+1):=by simp
    have r1:rd_T75 (r.reverse ++ y :: x :: q) ((r.length+1:Nat):Int)=x:=by
      simp only [rd_T75,Int.toNat_natCast]
      rw [show r.reverse ++ y :: x :: q=(r.reverse ++ [y]) ++ x :: q from by simp,show r.length+1=(r.reverse ++ [y]).length from by simp]
      exact getD_midS _ _ _ _
    have r2:rd_T75 (r.reverse ++ y :: x :: q) (r.length:Int)=y:=by
      simp only [rd_T75,Int.toNat_natCast]
      rw [show r.length=r.reverse.length from by simp]
      exact getD_midS _ _ _ _
    have w1:wrap64 (((r.length+1:Nat):Int)-1)=(r.length:Int):=by rw [w64 (by omega) (by omega)];omega
    rw [hL]
    show Ev (fun k=>Y0.l1 k (r.reverse ++ y :: x :: q) 0 n i ((r.length+1:Nat):Int)) R
    refine Ev.step (f:=fun k=>(Y71.f k x.f0.f0 x.f0.f1 x.f1 x.f2 y.f0.f0 y.f0.f1 y.f1 y.f2).bind fun t=>Y0.j2 k (r.reverse ++ y :: x :: q) 0 n i ((r.length+1:Nat):Int) (decide (t<0))) (fun k=>?_) (Ev.bind (sorted1_ev x y) ?_)
    · simp only [Y0.l1,w1,r1,r2]
      rw [if_pos (by omega),if_pos (by omega),if_pos (by omega),if_pos (by omega),if_pos (by omega)]
    · rw [cmpDots_lt]
      cases hk:dotLess x.f0.f0 x.f0.f1 y.f0.f0 y.f0.f1 with
      | true =>
        have e:insR (y :: r) x=insR r x ++ [y]:=if_pos hk
        rw [e,List.append_assoc,List.singleton_append] at h
        have ih:=sort_l1 n i x r (y :: q) (by simp;omega) h
        refine Ev.step (fun k=>?_) ih
        simp only [Y0.j2,w1,r1,r2,Int.toNat_natCast]
        rw [if_pos trivial,if_pos (by omega),if_pos (by omega),if_pos (by omega),if_pos (by omega)]
        have:=set_mid2 r.reverse y x q
        rw [List.length_reverse] at this
        rw [this]
      | false =>
        have e:insR (y :: r) x=r.reverse ++ [y,x]:=if_neg (show ¬ ltS x y=true by simp only [ltS,hk];simp)
        rw [e,List.append_assoc] at h
        refine Ev.step (fun k=>?_) h
        simp only [Y0.j2]
        rw [if_neg (by simp)]
        rfl
theorem insF_length (p:List Sib) (x:Sib):(insF p x).length=p.length+1:=by
  unfold insF
  rw [insR_length,List.length_reverse]
theorem sort_l0 (n:Nat) (hn:n≤1048576):∀ (s p:List Sib),p.length+s.length=n →
    Ev (fun k=>Y0.l0 k (p ++ s) 0 (n:Int) (p.length:Int)) (s.foldl insF p)
  | [],p,h=>by
    refine Ev.step (f:=fun _=>some (p ++ [])) (fun k=>?_) (by rw [List.append_nil];exact Ev.now _)
    simp only [Y0.l0]
    simp only [List.length_nil] at h
    rw [if_neg (by omega)]
  | x :: s,p,h=>by
    simp only [List.length_cons] at h
    have ih:=sort_l0 n hn s (insF p x) (by rw [insF_length];omega)
    rw [insF_length] at ih
    have e:=sort_l1 (n:Int) (p.length:Int) (R:=s.foldl insF (insF p x)) x p.reverse s (by simp;omega) (by
      rw [w64 (by omega) (by omega)]
      exact ih)
    rw [List.reverse_reverse,List.length_reverse] at e
    refine Ev.step (fun k=>?_) e
    simp only [Y0.l0]
    rw [if_pos (by omega)]
theorem insertion_ev (l:List Sib) (hl:l.length≤1048576):Ev (fun k=>Y0.f k l 0 (l.length:Int)) (l.foldl insF []):=by
  unfold Y0.f
  rw [show wrap64 (0+1)=1 from (w64 (by omega) (by omega)).trans (by omega)]
  cases l with
  | nil =>
    refine Ev.step (f:=fun _=>some []) (fun k=>?_) (Ev.now _)
    simp only [Y0.l0]
    rw [if_neg (by simp)]
  | cons x s=>exact sort_l0 (x :: s).length hl s [x] (by simp;omega)
set_option maxRecDepth 100000 in
theorem bits_Len64_ev (n:Int) (h0:0≤n) (h1:n<256):∃ r,Ev (fun k=>Y44.f k n) r:=by
  have e1:∀ k,Y44.j1 (k+1) n 0=Y44.j1 1 n 0:=fun k=>by
    rw [Y44.j1,Y44.j1]
  have e:(Y44.j1 1 n 0).isSome=true:=by
    rw [Y44.j1,if_neg (by omega),if_pos (by omega),if_pos (by omega)]
    rfl
  generalize Y44.j1 1 n 0=z at e e1
  obtain ⟨r,rfl⟩:=Option.isSome_iff_exists.1 e
  refine ⟨r,?_⟩
  unfold Y44.f
  exact evNeg (by omega) (Ev.step (f:=fun k=>Y44.j1 k n 0) (fun k=>by rw [Y44.j0,if_neg (by omega)]) (Ev.step (f:=fun _=>some r) e1 (Ev.now _)))
theorem sorted_ev (l:List Sib) (hl:l.length≤8):Ev (fun k=>Y76.f k l) (l.foldl insF []):=by
  have hu:IntKind.u64.wrap (l.length:Int)=(l.length:Int):=by rw [u64w];omega
  obtain ⟨r,hr⟩:=bits_Len64_ev (l.length:Int) (by omega) (by omega)
  refine Ev.bind (f:=fun _ t=>some t) ?_ (Ev.now _)
  unfold Y31.f
  rw [hu]
  refine Ev.bind (Ev.bind hr (Ev.now _)) (Ev.bind ?_ (Ev.now _))
  refine Ev.step (fun k=>by rw [Y9.f]) (Ev.step (fun k=>by rw [Y9.l0]) (evPos ?_ (Ev.bind (insertion_ev l (by omega)) (Ev.now _))))
  rw [w64 (by omega) (by omega)]
  omega
theorem implSync_l1 (va:List Mark) (la:List Sib) (v:List Mark) (hva:va.length≤1048576) (hla:la.length≤8) (lb:List Sib) (hlb:lb.length≤8) {R:List Mark × List Sib × Int × Int × Int}:∀ (s:List Sib) (i:Nat),lb.drop i=s→i≤lb.length→∀ acc:List Sib,acc.length+s.length≤16 →
    Ev (fun k=>if ((acc ++ s.filter (keepB va la)).length:Int)>8 then some ([],[],0,0,9) else (Y76.f k (acc ++ s.filter (keepB va la))).bind fun t=>some (v,t,0,0,0)) R →
    Ev (fun k=>Y11.l1 k lb (lb.length:Int) (i:Int) va la v acc) R
  | [],i,h,hi,acc,hc,hR=>by
    have:=dropNil' h hi
    simp only [List.filter_nil,List.append_nil] at hR
    refine Ev.step (fun k=>?_) hR
    simp only [Y11.l1]
    rw [if_neg (by omega)]
  | x :: s,i,h,hi,acc,hc,hR=>by
    obtain ⟨h1,h2,h3⟩:=dropCons h z75
    simp only [List.length_cons] at hc
    have hr:rd_T75 lb (i:Int)=x:=by simpa [rd_T75] using h2
    have hj:Ev (fun k=>Y11.j4 k lb (lb.length:Int) (i:Int) (keepB va la x) va la v acc x.f0.f0 x.f0.f1 x.f1 x.f2) R:=by
      cases hk:keepB va la x with
      | true =>
        rw [List.filter_cons_of_pos hk] at hR
        have ih:=implSync_l1 va la v hva hla lb hlb s (i+1) h3 (by omega) (acc ++ [x]) (by simp;omega) (by rw [List.append_assoc,List.singleton_append];exact hR)
        refine Ev.step (fun k=>?_) ih
        simp only [Y11.j4]
        rw [if_pos trivial,if_pos (by omega),w64 (by omega) (by omega)]
        rfl
      | false =>
        rw [List.filter_cons_of_neg (by simp [hk])] at hR
        have ih:=implSync_l1 va la v hva hla lb hlb s (i+1) h3 (by omega) acc (by omega) hR
        refine Ev.step (fun k=>?_) ih
        simp only [Y11.j4]
        rw [if_neg (by simp),w64 (by omega) (by omega)]
        rfl
    refine Ev.step (fun k=>by simp only [Y11.l1,hr];rw [if_pos (by omega),if_pos (by omega),if_pos (by omega)]) (Ev.bind (Set_sib_ev va la _ _ (by omega)) ?_)
    by_cases hn:sibAt x.f0.f0 x.f0.f1 0 la<0
    · refine evPos hn (Ev.bind (seenHas_ev va _ _ (by omega)) ?_)
      have e:keepB va la x=!seenHas va x.f0.f0 x.f0.f1:=by simp [keepB,hn]
      rw [e] at hj
      exact hj
    · refine evNeg hn ?_
      have e:keepB va la x=false:=by simp [keepB,hn]
      rw [e] at hj
      exact hj
theorem implSync_l0 (va:List Mark) (la:List Sib) (vb:List Mark) (lb:List Sib) (v:List Mark) (hva:va.length≤1048576) (hvb:vb.length≤1048576) (hla:la.length≤8) (hlb:lb.length≤8) {R:List Mark × List Sib × Int × Int × Int}:∀ (s:List Sib) (i:Nat),la.drop i=s→i≤la.length→∀ acc:List Sib,acc.length+s.length≤8 →
    Ev (fun k=>if ((acc ++ s.filter (keepA vb lb) ++ lb.filter (keepB va la)).length:Int)>8 then some ([],[],0,0,9) else (Y76.f k (acc ++ s.filter (keepA vb lb) ++ lb.filter (keepB va la))).bind fun t=>some (v,t,0,0,0)) R →
    Ev (fun k=>Y11.l0 k la (la.length:Int) (i:Int) va la vb lb v acc) R
  | [],i,h,hi,acc,hc,hR=>by
    have:=dropNil' h hi
    simp only [List.filter_nil,List.append_nil] at hR
    refine Ev.step (fun k=>?_) (implSync_l1 va la v hva hla lb hlb lb 0 rfl (by omega) acc (by simp only [List.length_nil] at hc;omega) hR)
    simp only [Y11.l0]
    rw [if_neg (by omega)]
    rfl
  | x :: s,i,h,hi,acc,hc,hR=>by
    obtain ⟨h1,h2,h3⟩:=dropCons h z75
    simp only [List.length_cons] at hc
    have hr:rd_T75 la (i:Int)=x:=by simpa [rd_T75] using h2
    have hj:Ev (fun k=>Y11.j2 k la (la.length:Int) (i:Int) (keepA vb lb x) va la vb lb v acc x.f0.f0 x.f0.f1 x.f1 x.f2) R:=by
      cases hk:keepA vb lb x with
      | true =>
        rw [List.filter_cons_of_pos hk] at hR
        have ih:=implSync_l0 va la vb lb v hva hvb hla hlb s (i+1) h3 (by omega) (acc ++ [x]) (by simp;omega) (by rw [List.append_assoc acc,List.singleton_append];exact hR)
        refine Ev.step (fun k=>?_) ih
        simp only [Y11.j2]
        rw [if_pos trivial,if_pos (by omega),w64 (by omega) (by omega)]
        rfl
      | false =>
        rw [List.filter_cons_of_neg (by simp [hk])] at hR
        have ih:=implSync_l0 va la vb lb v hva hvb hla hlb s (i+1) h3 (by omega) acc (by omega) hR
        refine Ev.step (fun k=>?_) ih
        simp only [Y11.j2]
        rw [if_neg (by simp),w64 (by omega) (by omega)]
        rfl
    refine Ev.step (fun k=>by simp only [Y11.l0,hr];rw [if_pos (by omega),if_pos (by omega),if_pos (by omega)]) (Ev.bind (Set_sib_ev vb lb _ _ (by omega)) ?_)
    by_cases hn:sibAt x.f0.f0 x.f0.f1 0 lb≥0
    · refine evPos hn ?_
      have e:keepA vb lb x=true:=by simp [keepA,hn]
      rw [e] at hj
      exact hj
    · refine evNeg hn (Ev.bind (seenHas_ev vb _ _ (by omega)) ?_)
      have e:keepA vb lb x=!seenHas vb x.f0.f0 x.f0.f1:=by simp [keepA,hn]
      rw [e] at hj
      exact hj
theorem impl_SetSync_ev (va:List Mark) (la:List Sib) (vb:List Mark) (lb:List Sib) (hva:va.length≤1048576) (hvb:vb.length≤1048576) (hla:la.length≤1048576) (hlb:lb.length≤1048576) :
    Ev (fun k=>Y11.f k va la vb lb) ((setSync va la vb lb).1,(setSync va la vb lb).2.1,0,0,(setSync va la vb lb).2.2):=by
  unfold Y11.f
  have jT:Ev (fun k=>Y11.j0 k true va la vb lb) ([],[],0,0,1):=Ev.step (f:=fun _=>some ([],[],0,0,1)) (fun k=>by simp [Y11.j0]) (Ev.now _)
  refine Ev.bind (impl_SetRight_ev va la (by omega) hla) ?_
  cases ha:setOk va la with
  | false =>
    have e:setSync va la vb lb=([],[],1):=by unfold setSync;rw [if_neg (by simp [ha])]
    rw [e]
    exact evNeg (by simp) jT
  | true =>
    refine evPos rfl (Ev.bind (impl_SetRight_ev vb lb (by omega) hlb) ?_)
    cases hb:setOk vb lb with
    | false =>
      have e:setSync va la vb lb=([],[],1):=by unfold setSync;rw [if_neg (by simp [hb])]
      rw [e]
      exact jT
    | true =>
      have ha8:=((setOk_iff va la).1 ha).2.1
      have hb8:=((setOk_iff vb lb).1 hb).2.1
      refine Ev.step (fun k=>by simp only [Y11.j0];rw [if_neg (by simp)]) (Ev.bind (seenJoin_ev va vb (by omega) (by omega)) ?_)
      refine implSync_l0 va la vb lb (seenJoin va vb) hva hvb ha8 hb8 la 0 rfl (by omega) [] (by simpa using ha8) ?_
      rw [List.nil_append]
      show Ev (fun k=>if ((kept va la vb lb).length:Int)>8 then some ([],[],0,0,9) else (Y76.f k (kept va la vb lb)).bind fun t=>some (seenJoin va vb,t,0,0,0)) _
      unfold setSync
      rw [if_pos ⟨ha,hb⟩]
      by_cases h:(kept va la vb lb).length>8
      · rw [if_pos h];exact evPos (by omega) (Ev.now _)
      · rw [if_neg h]
        refine evNeg (by omega) (Ev.bind (sorted_ev (kept va la vb lb) (by omega)) ?_)
        rw [foldl_same (kept va la vb lb) [] List.Pairwise.nil (fun _ _ z hz=>by cases hz) (kept_apart ha hb)]
        exact Ev.now _
end Go.Proofs.YtbkiajppiogifaaGreat.Q

namespace Go.Proofs.YtbkiajppiogifaaGreat.Q
open Go.RowKit Go.Proofs.YtbkiajppiogifaaGreat.P Go.Proofs.YtbkiajppiogifaaGreatW.PrintWords Go.Proofs.YtbkiajppiogifaaGreatW.PrintMore

/-- The marks of a function, at the nodes from one on. -/
def fromFn (f:Int→Int):Nat→Int→List Mark
  | 0,_=>[]
  | k+1,n=>(if f n>0 then [⟨n,f n⟩] else []) ++ fromFn f k (n+1)
theorem joinFrom_fn (a b:List Mark):∀ (k:Nat) (n:Int),joinFrom a b k n=fromFn (fun n=>mx (seenOf a n) (seenOf b n)) k n
  | 0,_=>rfl
  | k+1,n=>by simp only [joinFrom,fromFn,joinFrom_fn a b k (n+1)]
theorem seenJoin_fn (a b:List Mark):seenJoin a b=fromFn (fun n=>mx (seenOf a n) (seenOf b n)) 5 1:=joinFrom_fn a b 5 1
theorem seenOf_append (a b:List Mark) (n:Int) (h:∀ m ∈ a,m.f0≠n):seenOf (a ++ b) n=seenOf b n:=by
  induction a with
  | nil=>rfl
  | cons m r ih =>
    rw [List.cons_append,seenOf,if_neg (h m List.mem_cons_self)]
    exact ih (fun x hx=>h x (List.mem_cons_of_mem _ hx))
theorem fromFn_mem {f:Int→Int}:∀ (k:Nat) (n:Int),∀ m ∈ fromFn f k n,n≤m.f0∧m.f0<n+k∧m.f1=f m.f0∧0<m.f1
  | 0,_,m,hm=>by simp [fromFn] at hm
  | k+1,n,m,hm=>by
    simp only [fromFn,List.mem_append] at hm
    rcases hm with hm | hm
    · split at hm
      · simp only [List.mem_singleton] at hm
        subst hm
        exact ⟨by simp,by simp;omega,rfl,by assumption⟩
      · simp at hm
    · have:=fromFn_mem k (n+1) m hm
      exact ⟨by omega,by omega,this.2.2⟩
theorem seenOf_none (l:List Mark) (n:Int) (h:∀ m ∈ l,m.f0≠n):seenOf l n=0:=by
  have:=seenOf_append l [] n h
  rwa [List.append_nil] at this
theorem seenOf_fn {f:Int→Int}:∀ (k:Nat) (n m:Int),n≤m→m<n+k→seenOf (fromFn f k n) m=if f m>0 then f m else 0
  | 0,_,_,h1,h2=>by omega
  | k+1,n,m,h1,h2=>by
    simp only [fromFn]
    by_cases hm:m=n
    · subst hm
      by_cases hf:f m>0
      · rw [if_pos hf,if_pos hf,List.cons_append,seenOf,if_pos rfl]
      · rw [if_neg hf,if_neg hf,List.nil_append]
        exact seenOf_none _ _ (fun x hx=>by have:=(fromFn_mem k (m+1) x hx).1;omega)
    · rw [seenOf_append _ _ _ (fun x hx=>by
        split at hx
        · simp only [List.mem_singleton] at hx
          subst hx
          exact fun e=>hm e.symm
        · simp at hx)]
      exact seenOf_fn k (n+1) m (by omega) (by omega)
theorem okFrom_fn {f:Int→Int}:∀ (k:Nat) (n p:Int),1≤n→n+k≤6→p<n→(∀ m,n≤m→m<n+k→f m≤1000000)→okFrom p (fromFn f k n)=true
  | 0,_,_,_,_,_,_=>rfl
  | k+1,n,p,h1,h2,h3,h4=>by
    have ih:=fun q hq=>okFrom_fn (f:=f) k (n+1) q (by omega) (by omega) hq (fun m a b=>h4 m (by omega) (by omega))
    simp only [fromFn]
    by_cases hf:f n>0
    · rw [if_pos hf,List.cons_append,List.nil_append]
      simp only [okFrom,Bool.and_eq_true,decide_eq_true_eq,isDot_iff]
      exact ⟨⟨by omega,by have:=h4 n (by omega) (by omega);omega⟩,h3,ih n (by omega)⟩
    · rw [if_neg hf,List.nil_append]
      exact ih p (by omega)
/-- A right list's function: where it is what. -/
theorem ok_range {v:List Mark} (h:seenOk v=true) (n:Int):0≤seenOf v n∧seenOf v n≤1000000∧(¬ (1≤n∧n≤5)→seenOf v n=0):=by
  have key:∀ (l:List Mark) (p:Int),okFrom p l=true→0≤seenOf l n∧seenOf l n≤1000000∧(¬ (1≤n∧n≤5)→seenOf l n=0):=by
    intro l
    induction l with
    | nil=>intro p _;exact ⟨Int.le_refl _,by show (0:Int)≤1000000;omega,fun _=>rfl⟩
    | cons m r ih =>
      intro p ho
      simp only [okFrom,Bool.and_eq_true,decide_eq_true_eq,isDot_iff] at ho
      simp only [seenOf]
      split
      · rename_i e
        exact ⟨by omega,by omega,fun hn=>by omega⟩
      · exact ih m.f0 ho.2.2
  exact key v 0 h
theorem mx_le {a b c:Int} (h1:a≤c) (h2:b≤c):mx a b≤c:=by unfold mx;split <;> omega
theorem le_mx (a b:Int):a≤mx a b∧b≤mx a b:=by unfold mx;split <;> omega
theorem join_ok {a b:List Mark} (ha:seenOk a=true) (hb:seenOk b=true):seenOk (seenJoin a b)=true:=by
  rw [seenJoin_fn]
  exact okFrom_fn 5 1 0 (by omega) (by omega) (by omega) (fun m _ _=>mx_le (ok_range ha m).2.1 (ok_range hb m).2.1)
theorem join_of {a b:List Mark} (ha:seenOk a=true) (hb:seenOk b=true) (n:Int):seenOf (seenJoin a b) n=mx (seenOf a n) (seenOf b n):=by
  by_cases h:1≤n∧n≤5
  · rw [seenJoin_fn,seenOf_fn 5 1 n h.1 (by omega)]
    have h1:=(ok_range ha n).1
    have:=(le_mx (seenOf a n) (seenOf b n)).1
    split
    · rfl
    · omega
  · rw [(ok_range (join_ok ha hb) n).2.2 h,(ok_range ha n).2.2 h,(ok_range hb n).2.2 h]
    rfl
end Go.Proofs.YtbkiajppiogifaaGreat.Q

namespace Go.Proofs.YtbkiajppiogifaaGreat.Q
open Go.RowKit Go.Proofs.YtbkiajppiogifaaGreat.P Go.Proofs.YtbkiajppiogifaaGreatW.PrintWords Go.Proofs.YtbkiajppiogifaaGreatW.PrintMore

theorem insS_has (x:Sib) (p:List Sib):∀ z,z=x∨z ∈ p→z ∈ insS p x:=by
  induction p with
  | nil=>intro z h;simpa [insS] using h
  | cons y p ih =>
    intro z h
    simp only [insS]
    split
    · rcases h with h | h
      · exact List.mem_cons_of_mem _ (ih z (.inl h))
      · rcases List.mem_cons.1 h with e | h
        · rw [e];exact List.mem_cons_self ..
        · exact List.mem_cons_of_mem _ (ih z (.inr h))
    · rcases h with h | h
      · rw [h];exact List.mem_cons_self ..
      · exact List.mem_cons_of_mem _ h
theorem foldS_mem (s:List Sib):∀ (p:List Sib) (z:Sib),z ∈ s.foldl insS p ↔ z ∈ s∨z ∈ p:=by
  induction s with
  | nil=>intro p z;simp
  | cons x s ih =>
    intro p z
    rw [List.foldl_cons,ih]
    constructor
    · rintro (h | h)
      · exact .inl (List.mem_cons_of_mem _ h)
      · rcases insS_mem x p z h with e | h
        · rw [e];exact .inl (List.mem_cons_self ..)
        · exact .inr h
    · rintro (h | h)
      · rcases List.mem_cons.1 h with e | h
        · exact .inr (insS_has x p z (.inl e))
        · exact .inl h
      · exact .inr (insS_has x p z (.inr h))
theorem foldS_sorted (s:List Sib):∀ p:List Sib,Sorted p→(∀ x ∈ s,∀ z ∈ p,Apart x z)→(s.Pairwise fun a b=>Apart b a)→Sorted (s.foldl insS p):=by
  induction s with
  | nil=>intro p hp _ _;exact hp
  | cons x s ih =>
    intro p hp ha hs
    obtain ⟨h1,h2⟩:=List.pairwise_cons.1 hs
    rw [List.foldl_cons]
    refine ih _ (insS_sorted x p hp (ha x (List.mem_cons_self ..))) (fun y hy z hz=>?_) h2
    rcases insS_mem x p z hz with e | hz
    · rw [e];exact h1 y hy
    · exact ha y (List.mem_cons_of_mem _ hy) z hz
/-! ### Dots -/
def same (x y:Sib):Prop:=x.f0.f0=y.f0.f0∧x.f0.f1=y.f0.f1
theorem at_has {l:List Sib} {x:Sib}:sibAt x.f0.f0 x.f0.f1 0 l≥0 ↔ ∃ z ∈ l,same z x:=by
  constructor
  · intro h
    by_cases hc:∃ z ∈ l,same z x
    · exact hc
    · exfalso
      have key:∀ (l:List Sib) (i:Int),(∀ z ∈ l,¬ same z x)→sibAt x.f0.f0 x.f0.f1 i l = -1:=by
        intro l
        induction l with
        | nil=>intro i _;rfl
        | cons y l ih =>
          intro i hn
          have hy:=hn y (List.mem_cons_self ..)
          simp only [sibAt]
          rw [if_neg (by unfold same at hy;simp only [isAt,Bool.and_eq_true,beq_iff_eq];exact hy)]
          exact ih (i+1) (fun z hz=>hn z (List.mem_cons_of_mem _ hz))
      have:=key l 0 (fun z hz hs=>hc ⟨z,hz,hs⟩)
      omega
  · rintro ⟨z,hz,hs⟩
    by_cases hn:sibAt x.f0.f0 x.f0.f1 0 l<0
    · exact absurd hs (sibAt_none _ _ l 0 (by omega) hn z hz)
    · omega
theorem ok_sib {v:List Mark} {l:List Sib} (h:setOk v l=true):∀ x ∈ l,sibOk v x=true:=sibsFrom_mem v l none ((setOk_iff v l).1 h).2.2
/-! ### The merged set -/
def mrg (va:List Mark) (la:List Sib) (vb:List Mark) (lb:List Sib):List Sib:=(kept va la vb lb).foldl insS []
theorem mrg_mem (va:List Mark) (la:List Sib) (vb:List Mark) (lb:List Sib) (z:Sib):z ∈ mrg va la vb lb ↔ (z ∈ la∧((∃ w ∈ lb,same w z)∨seenHas vb z.f0.f0 z.f0.f1=false))∨(z ∈ lb∧¬ (∃ w ∈ la,same w z)∧seenHas va z.f0.f0 z.f0.f1=false):=by
  unfold mrg
  rw [foldS_mem]
  have hA:keepA vb lb z=true ↔ (∃ w ∈ lb,same w z)∨seenHas vb z.f0.f0 z.f0.f1=false:=by
    unfold keepA
    rw [Bool.or_eq_true,decide_eq_true_eq,at_has,Bool.not_eq_true']
  have hB:keepB va la z=true ↔ ¬ (∃ w ∈ la,same w z)∧seenHas va z.f0.f0 z.f0.f1=false:=by
    unfold keepB
    rw [Bool.and_eq_true,decide_eq_true_eq,← at_has,Bool.not_eq_true',Int.not_le]
  unfold kept
  rw [List.mem_append,List.mem_filter,List.mem_filter,hA,hB]
  simp
section
variable {va vb:List Mark} {la lb:List Sib} (ha:setOk va la=true) (hb:setOk vb lb=true)
include ha hb
theorem mrg_sorted:Sorted (mrg va la vb lb):=foldS_sorted _ [] List.Pairwise.nil (fun _ _ _ h=>by cases h) (kept_apart ha hb)
theorem join_has (x y:Int):seenHas (seenJoin va vb) x y=(seenHas va x y || seenHas vb x y):=by
  have hva:=((setOk_iff va la).1 ha).1
  have hvb:=((setOk_iff vb lb).1 hb).1
  unfold seenHas
  rw [join_of hva hvb]
  rw [Bool.eq_iff_iff,Bool.or_eq_true,decide_eq_true_eq,decide_eq_true_eq,decide_eq_true_eq]
  unfold mx
  split <;> omega
theorem mrg_ok (hl:(mrg va la vb lb).length≤8):setOk (seenJoin va vb) (mrg va la vb lb)=true:=by
  have hva:=((setOk_iff va la).1 ha).1
  have hvb:=((setOk_iff vb lb).1 hb).1
  refine (setOk_iff _ _).2 ⟨join_ok hva hvb,hl,?_⟩
  have key:∀ (s:List Sib) (o:Option Sib),Sorted s→(∀ x ∈ s,sibOk (seenJoin va vb) x=true)→(∀ y,o=some y→∀ x ∈ s,ltS y x=true)→sibsFrom (seenJoin va vb) o s=true:=by
    intro s
    induction s with
    | nil=>intro o _ _ _;cases o <;> rfl
    | cons x s ih =>
      intro o hs hk ho
      obtain ⟨h1,h2⟩:=List.pairwise_cons.1 hs
      have ht:=ih (some x) h2 (fun y hy=>hk y (List.mem_cons_of_mem _ hy)) (fun y hy z hz=>by cases hy;exact h1 z hz)
      cases o with
      | none=>simp only [sibsFrom];rw [hk x (List.mem_cons_self ..),ht];rfl
      | some y =>
        have hy:dotLess y.f0.f0 y.f0.f1 x.f0.f0 x.f0.f1=true:=ho y rfl x (List.mem_cons_self ..)
        simp only [sibsFrom]
        rw [hk x (List.mem_cons_self ..),ht,hy]
        rfl
  refine key _ none (mrg_sorted ha hb) (fun x hx=>?_) (fun y hy=>by cases hy)
  have hj:=join_has ha hb x.f0.f0 x.f0.f1
  rcases (mrg_mem va la vb lb x).1 hx with ⟨h,_⟩ | ⟨h,_⟩
  · have:=ok_sib ha x h
    simp only [sibOk,Bool.and_eq_true] at this ⊢
    exact ⟨this.1,by rw [hj,this.2.1];rfl,this.2.2⟩
  · have:=ok_sib hb x h
    simp only [sibOk,Bool.and_eq_true] at this ⊢
    exact ⟨this.1,by rw [hj,this.2.1];simp,this.2.2⟩
end
end Go.Proofs.YtbkiajppiogifaaGreat.Q

namespace Go.Proofs.YtbkiajppiogifaaGreat.Q
open Go.RowKit Go.Proofs.YtbkiajppiogifaaGreat.P Go.Proofs.YtbkiajppiogifaaGreatW.PrintWords Go.Proofs.YtbkiajppiogifaaGreatW.PrintMore

theorem zig_lt {n:Int} (h0 : -9223372036854775808≤n) (h1:n≤9223372036854775807):0≤zig n∧zig n<2*128 ^ 9:=by
  have:=zig_range h0 h1
  omega
end Go.Proofs.YtbkiajppiogifaaGreat.Q

namespace Go.Proofs.YtbkiajppiogifaaGreat.Q
open Go.RowKit Go.Proofs.YtbkiajppiogifaaGreat.P Go.Proofs.YtbkiajppiogifaaGreatW.PrintWords Go.Proofs.YtbkiajppiogifaaGreatW.PrintMore
theorem numOk {n:Int} (h0:0≤n) (h1:n≤4294967295):zig n<128 ^ 10∧0≤zig n:=by
  have h:=zig_lt (n:=n) (by omega) (by omega)
  have h2:(2*128 ^ 9:Int)≤128 ^ 10:=by decide
  omega
theorem text_free {t u:ByteArray} {r r':List Int} (ht:t.size≤1000) (hu:u.size≤1000) (h:bytesOf (putText t) ++ r=bytesOf (putText u) ++ r'):t=u∧r=r':=by
  unfold putText at h
  rw [if_neg (by omega),if_neg (by omega)] at h
  rw [bytesOf_append,bytesOf_append,List.append_assoc,List.append_assoc] at h
  obtain ⟨h1,h2⟩:=putNum_free (numOk (by omega) (by omega)) (numOk (by omega) (by omega)) h
  obtain ⟨h3,h4⟩:=List.append_inj h2 (by rw [bytesOf_length,bytesOf_length];omega)
  exact ⟨bytesOf_inj h3,h4⟩
theorem marks_free:∀ (a b:List Mark) (r r':List Int),a.length=b.length→Small a→Small b→marksBytes a ++ r=marksBytes b ++ r'→a=b∧r=r'
  | [],[],_,_,_,_,_,h=>⟨rfl,h⟩
  | x :: a,y :: b,r,r',hl,ha,hb,h=>by
    have hx:=ha x (by simp)
    have hy:=hb y (by simp)
    have e:∀ (m:Mark) (l:List Mark) (s:List Int),marksBytes (m :: l) ++ s=bytesOf (putNum m.f0) ++ (bytesOf (putNum m.f1) ++ (marksBytes l ++ s)):=by
      intro m l s
      show (bytesOf (markBytes m) ++ marksBytes l) ++ s=_
      unfold markBytes
      rw [bytesOf_append,List.append_assoc,List.append_assoc]
    rw [e,e] at h
    obtain ⟨h1,h⟩:=putNum_free (numOk (by omega) (by omega)) (numOk (by omega) (by omega)) h
    obtain ⟨h2,h⟩:=putNum_free (numOk (by omega) (by omega)) (numOk (by omega) (by omega)) h
    obtain ⟨h3,h4⟩:=marks_free a b r r' (by simpa using hl) (fun z hz=>ha z (List.mem_cons_of_mem _ hz)) (fun z hz=>hb z (List.mem_cons_of_mem _ hz)) h
    obtain ⟨x0,x1⟩:=x
    obtain ⟨y0,y1⟩:=y
    simp only at h1 h2
    exact ⟨by rw [h1,h2,h3],h4⟩
theorem sibs_free:∀ (a b:List Sib) (r r':List Int),a.length=b.length→SmallSibs a→SmallSibs b→sibsBytes a ++ r=sibsBytes b ++ r'→a=b∧r=r'
  | [],[],_,_,_,_,_,h=>⟨rfl,h⟩
  | x :: a,y :: b,r,r',hl,ha,hb,h=>by
    have hx:=ha x (by simp)
    have hy:=hb y (by simp)
    have e:∀ (m:Sib) (l:List Sib) (s:List Int),sibsBytes (m :: l) ++ s=bytesOf (putNum m.f0.f0) ++ (bytesOf (putNum m.f0.f1) ++ (bytesOf (putNum (if m.f1=true then 1 else 0)) ++ (bytesOf (putText m.f2) ++ (sibsBytes l ++ s)))):=by
      intro m l s
      show (bytesOf (sibBytes m) ++ sibsBytes l) ++ s=_
      rw [bytesOf_sib]
      simp only [List.append_assoc]
    rw [e,e] at h
    obtain ⟨h1,h⟩:=putNum_free (numOk (by omega) (by omega)) (numOk (by omega) (by omega)) h
    obtain ⟨h2,h⟩:=putNum_free (numOk (by omega) (by omega)) (numOk (by omega) (by omega)) h
    obtain ⟨h3,h⟩:=putNum_free (numOk (by split <;> omega) (by split <;> omega)) (numOk (by split <;> omega) (by split <;> omega)) h
    obtain ⟨h4,h⟩:=text_free (by omega) (by omega) h
    obtain ⟨h5,h6⟩:=sibs_free a b r r' (by simpa using hl) (fun z hz=>ha z (List.mem_cons_of_mem _ hz)) (fun z hz=>hb z (List.mem_cons_of_mem _ hz)) h
    obtain ⟨⟨x0,x1⟩,x2,x3⟩:=x
    obtain ⟨⟨y0,y1⟩,y2,y3⟩:=y
    simp only at h1 h2 h3 h4
    have h7:x2=y2:=by cases x2 <;> cases y2 <;> simp at h3 ⊢
    exact ⟨by rw [h1,h2,h4,h5,h7],h6⟩
theorem setBytes_inj {v w:List Mark} {l m:List Sib} (h1:setOk v l=true) (h2:setOk w m=true) (h:setBytes v l=setBytes w m):v=w∧l=m:=by
  have a1:=(setOk_iff v l).1 h1
  have a2:=(setOk_iff w m).1 h2
  have b1:=seenOk_length a1.1
  have b2:=seenOk_length a2.1
  have h:=congrArg bytesOf h
  rw [bytesOf_setBytes,bytesOf_setBytes,bytesOf_seenBytes,bytesOf_seenBytes] at h
  simp only [List.append_assoc] at h
  obtain ⟨e1,h⟩:=putNum_free (numOk (by omega) (by omega)) (numOk (by omega) (by omega)) h
  obtain ⟨e2,h⟩:=marks_free v w _ _ (by omega) (seenOk_small a1.1) (seenOk_small a2.1) h
  obtain ⟨e3,h⟩:=putNum_free (numOk (by omega) (by omega)) (numOk (by omega) (by omega)) h
  rw [← List.append_nil (sibsBytes l),← List.append_nil (sibsBytes m)] at h
  exact ⟨e2,(sibs_free l m _ _ (by omega) (setOk_small h1) (setOk_small h2) h).1⟩
end Go.Proofs.YtbkiajppiogifaaGreat.Q

namespace Go.Proofs.YtbkiajppiogifaaGreat.Q
open Go.RowKit Go.Proofs.YtbkiajppiogifaaGreat.P Go.Proofs.YtbkiajppiogifaaGreatW.PrintWords Go.Proofs.YtbkiajppiogifaaGreatW.PrintMore

/-! ### How many asks were heard -/
def heardN (s:List Ask):Nat:=(s.filter (fun a=>a.f2)).length
theorem heardN_cons (x:Ask) (s:List Ask):heardN (x :: s)=(if x.f2=true then 1 else 0)+heardN s:=by
  cases hx:x.f2 <;> simp [heardN,hx];omega
theorem l11Heard_l0 (a0 a1:Int) (g:Bool) (t:ByteArray) (a4 a5:Int) (l:List Ask) (v:List Mark) (w:List Sib) (a9 a10:Int) (hl:l.length≤1048576):∀ (s:List Ask) (i:Nat),l.drop i=s→i≤l.length→∀ n:Nat,n≤i →
    Ev (fun k=>Y39.l0 k (n:Int) (i:Int) a0 a1 g t a4 a5 l v w a9 a10) ((n+heardN s:Nat):Int)
  | [],i,h,hi,n,hn=>by
    have:=dropNil' h hi
    refine Ev.step (f:=fun _=>some ((n+heardN []:Nat):Int)) (fun k=>?_) (Ev.now _)
    simp only [Y39.l0]
    rw [if_neg (by omega)]
    simp [heardN]
  | x :: s,i,h,hi,n,hn=>by
    obtain ⟨h1,h2,h3⟩:=dropCons h z61
    have hr:rd_T61 l (i:Int)=x:=by simpa [rd_T61] using h2
    have hc:=heardN_cons x s
    cases hx:x.f2 with
    | true =>
      have e:=l11Heard_l0 a0 a1 g t a4 a5 l v w a9 a10 hl s (i+1) h3 (by omega) (n+1) (by omega)
      rw [hx,if_pos rfl] at hc
      rw [show n+1+heardN s=n+heardN (x :: s) by omega] at e
      refine Ev.step (fun k=>?_) e
      simp only [Y39.l0,hr]
      rw [if_pos (by omega),if_pos (by omega),if_pos hx,w64 (by omega) (by omega),w64 (by omega) (by omega)]
      rfl
    | false =>
      have e:=l11Heard_l0 a0 a1 g t a4 a5 l v w a9 a10 hl s (i+1) h3 (by omega) n (by omega)
      rw [hx,if_neg (by simp),Nat.zero_add] at hc
      rw [hc]
      refine Ev.step (fun k=>?_) e
      simp only [Y39.l0,hr]
      rw [if_pos (by omega),if_pos (by omega),if_neg (by rw [hx];simp),w64 (by omega) (by omega)]
      rfl
theorem heard_l0 (l:List Ask) (hl:l.length≤1048576):∀ (s:List Ask) (i:Nat),l.drop i=s→i≤l.length→∀ n:Nat,n≤i →
    Ev (fun k=>Y42.l0 k (n:Int) l (l.length:Int) (i:Int)) ((n+heardN s:Nat):Int)
  | [],i,h,hi,n,hn=>by
    have:=dropNil' h hi
    refine Ev.step (f:=fun _=>some ((n+heardN []:Nat):Int)) (fun k=>?_) (Ev.now _)
    simp only [Y42.l0]
    rw [if_neg (by omega)]
    simp [heardN]
  | x :: s,i,h,hi,n,hn=>by
    obtain ⟨h1,h2,h3⟩:=dropCons h z61
    have hr:rd_T61 l (i:Int)=x:=by simpa [rd_T61] using h2
    have hc:=heardN_cons x s
    cases hx:x.f2 with
    | true =>
      have e:=heard_l0 l hl s (i+1) h3 (by omega) (n+1) (by omega)
      rw [hx,if_pos rfl] at hc
      rw [show n+1+heardN s=n+heardN (x :: s) by omega] at e
      refine Ev.step (fun k=>?_) e
      simp only [Y42.l0,hr,truth_is,Option.bind_some,hx,if_true]
      rw [if_pos (by omega),if_pos (by omega),if_pos (by omega),w64 (by omega) (by omega),w64 (by omega) (by omega)]
      rfl
    | false =>
      have e:=heard_l0 l hl s (i+1) h3 (by omega) n (by omega)
      rw [hx,if_neg (by simp),Nat.zero_add] at hc
      rw [hc]
      refine Ev.step (fun k=>?_) e
      simp only [Y42.l0,hr,truth_is,Option.bind_some,hx,Bool.false_eq_true,if_false,Int.add_zero]
      rw [if_pos (by omega),if_pos (by omega),if_pos (by omega),w64 (by omega) (by omega),w64 (by omega) (by omega)]
      rfl
/-! ### The asks -/
def badS (g:Bool) (a:Ask):Bool:=(a.f3.toList != ([]:List UInt8)) != (if a.f2=true then g else false)
def badI (g:Bool) (a:Ask):Bool:=if a.f2=true then (if g=true then false else (a.f3.toList != ([]:List UInt8))) else (a.f3.toList != ([]:List UInt8))
def dupA (p:List Ask) (n:Int):Bool:=p.any fun b=>b.f0 == n
def asksOk (bad:Ask→Bool):List Ask→List Ask→Bool
  | _,[]=>true
  | p,a :: s=>isNode a.f0 && (isNode a.f1 && (!(bad a) && (!(dupA p a.f0) && asksOk bad (p ++ [a]) s)))
theorem takeSucc {l:List Ask} {i:Nat} {x:Ask} {s:List Ask} (h:l.drop i=x :: s):l.take (i+1)=l.take i ++ [x]:=by
  obtain ⟨h1,h2,h3⟩:=dropCons h z61
  rw [List.take_succ_eq_append_getElem h1]
  rw [List.getD_eq_getElem?_getD,List.getElem?_eq_getElem h1] at h2
  rw [← h2];rfl
section
variable (a0 a1:Int) (g:Bool) (t:ByteArray) (a4 a5:Int) (l:List Ask) (v:List Mark) (w:List Sib) (a9 a10:Int) (hl:l.length≤1048576)
include hl
theorem l11Asks_l1 (i:Nat) (hi:i≤l.length) (c0 c1:Int) (c2:Bool) (c3:ByteArray) {R:Bool} (hE:Ev (fun k=>Y22.l0 k ((i+1:Nat):Int) a0 a1 g t a4 a5 l v w a9 a10) R):∀ (s:List Ask) (j:Nat),(l.take i).drop j=s→j≤i →
    Ev (fun k=>Y22.l1 k (i:Int) (j:Int) a0 a1 g t a4 a5 l v w a9 a10 c0 c1 c2 c3) (if dupA s c0=true then false else R)
  | [],j,h,hj=>by
    have hn:(l.take i).length=i:=by simp;omega
    have:=dropNil' h (by omega)
    refine Ev.step (fun k=>?_) hE
    simp only [Y22.l1]
    rw [if_neg (by omega),w64 (by omega) (by omega)]
    rfl
  | x :: s,j,h,hj=>by
    have hn:(l.take i).length=i:=by simp;omega
    obtain ⟨h1,h2,h3⟩:=dropCons h z61
    have h4:l.getD j z61=x:=by
      rw [← h2,List.getD_eq_getElem?_getD,List.getD_eq_getElem?_getD,List.getElem?_take,if_pos (by omega)]
    have hr:rd_T61 l (j:Int)=x:=by simpa [rd_T61] using h4
    have ih:=l11Asks_l1 i hi c0 c1 c2 c3 hE s (j+1) h3 (by omega)
    by_cases hx:x.f0=c0
    · have hd:dupA (x :: s) c0=true:=by simp [dupA,hx]
      rw [hd,if_pos rfl]
      refine Ev.step (f:=fun _=>some false) (fun k=>?_) (Ev.now _)
      simp only [Y22.l1,hr]
      rw [if_pos (by omega),if_pos (by omega),if_pos (by omega),if_pos hx]
    · have hd:dupA (x :: s) c0=dupA s c0:=by simp [dupA,hx]
      rw [hd]
      refine Ev.step (fun k=>?_) ih
      simp only [Y22.l1,hr]
      rw [if_pos (by omega),if_pos (by omega),if_pos (by omega),if_neg hx,w64 (by omega) (by omega)]
      rfl
theorem l11Asks_l0:∀ (s:List Ask) (i:Nat),l.drop i=s→i≤l.length →
    Ev (fun k=>Y22.l0 k (i:Int) a0 a1 g t a4 a5 l v w a9 a10) (asksOk (badS g) (l.take i) s)
  | [],i,h,hi=>by
    have:=dropNil' h hi
    refine Ev.step (f:=fun _=>some true) (fun k=>?_) (Ev.now _)
    simp only [Y22.l0]
    rw [if_neg (by omega)]
  | x :: s,i,h,hi=>by
    obtain ⟨h1,h2,h3⟩:=dropCons h z61
    have hr:rd_T61 l (i:Int)=x:=by simpa [rd_T61] using h2
    have ih:=l11Asks_l0 s (i+1) h3 (by omega)
    rw [takeSucc h] at ih
    have ih2:=l11Asks_l1 a0 a1 g t a4 a5 l v w a9 a10 hl i hi x.f0 x.f1 x.f2 x.f3 ih (l.take i) 0 rfl (by omega)
    have j1:∀ b:Bool,Ev (fun k=>Y22.j1 k (i:Int) b a0 a1 g t a4 a5 l v w a9 a10 x.f0 x.f1 x.f2 x.f3) (if b=true then false else if dupA (l.take i) x.f0=true then false else asksOk (badS g) (l.take i ++ [x]) s):=by
      intro b
      cases b with
      | true=>exact Ev.step (f:=fun _=>some false) (fun k=>by simp [Y22.j1]) (Ev.now _)
      | false=>exact Ev.step (fun k=>by simp [Y22.j1]) ih2
    refine Ev.step (fun k=>by simp only [Y22.l0,hr];rw [if_pos (by omega),if_pos (by omega)]) ?_
    simp only [asksOk]
    refine evBind1 (l02Node_is _) ?_
    cases isNode x.f0 with
    | false=>exact evNeg (by simp) (by simpa using j1 true)
    | true =>
      refine evPos rfl (evBind1 (l02Node_is _) ?_)
      cases isNode x.f1 with
      | false=>exact evNeg (by simp) (by simpa using j1 true)
      | true =>
        refine evPos rfl ?_
        have q:∀ b,(if b=true then false else if dupA (l.take i) x.f0=true then false else asksOk (badS g) (l.take i ++ [x]) s)=(true && (true && (!b && (!(dupA (l.take i) x.f0) && asksOk (badS g) (l.take i ++ [x]) s)))):=by
          intro b;cases b <;> cases dupA (l.take i) x.f0 <;> simp
        rw [← q (badS g x)]
        cases hx:x.f2 with
        | true =>
          refine evPos rfl ?_
          have:=j1 ((x.f3.toList != ([]:List UInt8)) != g)
          simpa [badS,hx] using this
        | false =>
          refine evNeg (by simp) ?_
          have:=j1 ((x.f3.toList != ([]:List UInt8)) != false)
          simpa [badS,hx] using this
end
theorem indexAsk_l0 (l:List Ask) (hl:l.length≤1048576) (c0 c1:Int) (c2:Bool) (c3:ByteArray):∀ (s:List Ask) (i:Nat),l.drop i=s→i≤l.length →
    ∃ r,Ev (fun k=>Y2.l0 k l (l.length:Int) (i:Int) c0 c1 c2 c3) r∧decide (r≥0)=dupA s c0
  | [],i,h,hi=>by
    have:=dropNil' h hi
    refine ⟨-1,Ev.step (f:=fun _=>some (-1)) (fun k=>?_) (Ev.now _),by simp [dupA]⟩
    simp only [Y2.l0]
    rw [if_neg (by omega)]
  | x :: s,i,h,hi=>by
    obtain ⟨h1,h2,h3⟩:=dropCons h z61
    have hr:rd_T61 l (i:Int)=x:=by simpa [rd_T61] using h2
    by_cases hx:x.f0=c0
    · refine ⟨(i:Int),Ev.step (f:=fun _=>some (i:Int)) (fun k=>?_) (Ev.now _),by simp [dupA,hx]⟩
      simp only [Y2.l0,hr,Y83.f,Option.bind_some]
      rw [if_pos (by omega),if_pos (by omega),if_pos (by omega),if_pos (by simp [hx])]
    · obtain ⟨r,e,hd⟩:=indexAsk_l0 l hl c0 c1 c2 c3 s (i+1) h3 (by omega)
      refine ⟨r,Ev.step (fun k=>?_) e,by rw [hd];simp [dupA,hx]⟩
      simp only [Y2.l0,hr,Y83.f,Option.bind_some]
      rw [if_pos (by omega),if_pos (by omega),if_pos (by omega),if_neg (by simp [hx]),w64 (by omega) (by omega)]
      rfl
theorem containsAsk_ev (l:List Ask) (hl:l.length≤1048576) (c0 c1:Int) (c2:Bool) (c3:ByteArray):Ev (fun k=>Y25.f k l c0 c1 c2 c3) (dupA l c0):=by
  obtain ⟨r,e,h⟩:=indexAsk_l0 l hl c0 c1 c2 c3 l 0 rfl (by omega)
  rw [← h]
  exact Ev.bind e (Ev.now _)
theorem implAsks_l0 (a0 a1:Int) (g:Bool) (t:ByteArray) (a4 a5:Int) (l:List Ask) (v:List Mark) (w:List Sib) (a9 a10:Int) (hl:l.length≤1048576) {R:Bool}
    (hE:Ev (fun k=>Y3.l0 k l (l.length:Int) ((l.length:Nat):Int) a0 a1 g t a4 a5 l v w a9 a10) R):∀ (s:List Ask) (i:Nat),l.drop i=s→i≤l.length →
    Ev (fun k=>Y3.l0 k l (l.length:Int) (i:Int) a0 a1 g t a4 a5 l v w a9 a10) (asksOk (badI g) (l.take i) s && R)
  | [],i,h,hi=>by
    have:=dropNil' h hi
    subst this
    simpa [asksOk] using hE
  | x :: s,i,h,hi=>by
    obtain ⟨h1,h2,h3⟩:=dropCons h z61
    have hr:rd_T61 l (i:Int)=x:=by simpa [rd_T61] using h2
    have ih:=implAsks_l0 a0 a1 g t a4 a5 l v w a9 a10 hl hE s (i+1) h3 (by omega)
    rw [takeSucc h] at ih
    have j2:∀ b:Bool,Ev (fun k=>Y3.j2 k l (l.length:Int) (i:Int) b a0 a1 g t a4 a5 l v w a9 a10) (!b && (asksOk (badI g) (l.take i ++ [x]) s && R)):=by
      intro b
      cases b with
      | true=>exact Ev.step (f:=fun _=>some false) (fun k=>by simp [Y3.j2]) (Ev.now _)
      | false =>
        rw [Bool.not_false,Bool.true_and]
        refine Ev.step (fun k=>?_) ih
        simp only [Y3.j2]
        rw [if_neg (by simp),w64 (by omega) (by omega)]
        rfl
    refine Ev.step (fun k=>by simp only [Y3.l0,hr];rw [if_pos (by omega),if_pos (by omega),if_pos (by omega)]) ?_
    simp only [asksOk]
    refine evBind1 (isNode_is _) ?_
    cases isNode x.f0 with
    | false=>exact evNeg (by simp) (by simpa using j2 true)
    | true =>
      refine evPos rfl (evBind1 (isNode_is _) ?_)
      cases isNode x.f1 with
      | false=>exact evNeg (by simp) (by simpa using j2 true)
      | true =>
        refine evPos rfl (evPos (by omega) ?_)
        rw [show ((i:Nat):Int).toNat=i by omega]
        refine Ev.bind (containsAsk_ev (l.take i) (by simp;omega) _ _ _ _) ?_
        cases hd:dupA (l.take i) x.f0 with
        | true=>exact evPos rfl (by simpa using j2 true)
        | false =>
          refine evNeg (by simp) ?_
          have q:∀ b,(!b && (asksOk (badI g) (l.take i ++ [x]) s && R))=((true && (true && (!b && (!false && asksOk (badI g) (l.take i ++ [x]) s)))) && R):=by
            intro b;cases b <;> simp
          rw [← q (badI g x)]
          cases hx:x.f2 with
          | true =>
            refine evPos rfl ?_
            cases hg:g with
            | true=>subst hg;exact evPos rfl (by simpa [badI,hx] using j2 false)
            | false=>subst hg;exact evNeg (by simp) (by simpa [badI,hx] using j2 (x.f3.toList != ([]:List UInt8)))
          | false=>exact evNeg (by simp) (by simpa [badI,hx] using j2 (x.f3.toList != ([]:List UInt8)))
/-- Where the reference refuses an ask that the program lets pass: a read that was heard with no bytes. -/
theorem asks_gap (g:Bool):∀ (s p:List Ask),asksOk (badI g) p s=true→asksOk (badS g) p s=false→g=true∧∃ a ∈ s,a.f2=true∧a.f3.toList=[]
  | [],_,_,h=>by simp [asksOk] at h
  | x :: s,p,h,h'=>by
    simp only [asksOk,Bool.and_eq_true,Bool.not_eq_true'] at h
    obtain ⟨h1,h2,h3,h4,h5⟩:=h
    simp only [asksOk,h1,h2,h4,Bool.true_and,Bool.not_false] at h'
    cases hb:badS g x with
    | true =>
      cases hx:x.f2 with
      | true =>
        cases g with
        | true =>
          refine ⟨rfl,x,List.mem_cons_self,hx,?_⟩
          simpa [badS,hx] using hb
        | false=>simp [badS,badI,hx] at hb h3;exact absurd h3 hb
      | false=>simp [badS,badI,hx] at hb h3;exact absurd h3 hb
    | false =>
      rw [hb] at h'
      obtain ⟨q1,a,q2,q3⟩:=asks_gap g s (p ++ [x]) h5 (by simpa using h')
      exact ⟨q1,a,List.mem_cons_of_mem _ q2,q3⟩
theorem asks_le (g:Bool):∀ (s p:List Ask),asksOk (badS g) p s=true→asksOk (badI g) p s=true
  | [],_,_=>rfl
  | x :: s,p,h=>by
    simp only [asksOk,Bool.and_eq_true,Bool.not_eq_true'] at h ⊢
    obtain ⟨h1,h2,h3,h4,h5⟩:=h
    refine ⟨h1,h2,?_,h4,asks_le g s _ h5⟩
    cases hx:x.f2 <;> cases g <;> simp [badS,badI,hx] at h3 ⊢ <;> exact h3
/-! ### Merging what was heard -/
theorem setRead_ok {s:ByteArray} (h:(setRead s).2.2=0):setOk (setRead s).1 (setRead s).2.1=true:=by
  unfold setRead at h ⊢
  split
  · rename_i h1;rw [if_pos h1] at h;simp at h
  · rename_i h1
    rw [if_neg h1] at h
    split
    · rename_i h2;exact h2.2.1
    · rename_i h2;rw [if_neg h2] at h;simp at h
theorem setRead_empty {s:ByteArray} (hs:s.toList=[]):(setRead s).2.2≠0:=by
  have e:s=⟨#[]⟩:=toList_inj (by rw [hs,toList_data])
  subst e
  have h1:(rNum (⟨#[]⟩:ByteArray) (some 0))=(none,0):=by
    have:(getNum (⟨#[]⟩:ByteArray) 0).2.2=4:=by
      have hz:(⟨#[]⟩:ByteArray).size=0:=rfl
      simp [getNum,bytesOf,numGo,hz]
    simp [rNum,this]
  have h2:(rMany (⟨#[]⟩:ByteArray) (some 0) 5)=(none,0):=by unfold rMany;rw [h1];simp
  have h3:(rSeen (⟨#[]⟩:ByteArray) (some 0)).1=none:=by unfold rSeen;rw [h2];rfl
  have h4:(rMany (⟨#[]⟩:ByteArray) none 8)=(none,0):=by unfold rMany;simp only [rNum];exact ite_self _
  unfold setRead
  split
  · simp
  · rw [h3,h4]
    rw [if_neg (by simp [rSibs])]
    simp
theorem setSync_ok {va vb:List Mark} {la lb:List Sib} (ha:setOk va la=true) (hb:setOk vb lb=true) (h:(setSync va la vb lb).2.2=0):setOk (setSync va la vb lb).1 (setSync va la vb lb).2.1=true:=by
  unfold setSync at h ⊢
  rw [if_pos ⟨ha,hb⟩] at h ⊢
  split
  · rename_i h1;rw [if_pos h1] at h;simp at h
  · rename_i h1
    have hn:=foldl_length insS (fun p x=>insS_length x p) (kept va la vb lb) []
    exact mrg_ok ha hb (by unfold mrg;rw [hn];simp;omega)
noncomputable def mg:List Mark→List Sib→List Ask→Option (List Mark × List Sib)
  | v,w,[]=>some (v,w)
  | v,w,a :: s=>if a.f2=true then (if (setRead a.f3).2.2=0 then (if (setSync v w (setRead a.f3).1 (setRead a.f3).2.1).2.2=0 then mg (setSync v w (setRead a.f3).1 (setRead a.f3).2.1).1 (setSync v w (setRead a.f3).1 (setRead a.f3).2.1).2.1 s else none) else none) else mg v w s
theorem mg_ok:∀ (s:List Ask) (v:List Mark) (w:List Sib) (z:List Mark × List Sib),setOk v w=true→mg v w s=some z→setOk z.1 z.2=true
  | [],v,w,z,h,e=>by simp only [mg,Option.some.injEq] at e;subst e;exact h
  | a :: s,v,w,z,h,e=>by
    simp only [mg] at e
    split at e
    · split at e
      · rename_i h1
        split at e
        · rename_i h2
          exact mg_ok s _ _ z (setSync_ok h (setRead_ok h1) h2) e
        · cases e
      · cases e
    · exact mg_ok s v w z h e
theorem mg_gap:∀ (s:List Ask) (v:List Mark) (w:List Sib),(∃ a ∈ s,a.f2=true∧a.f3.toList=[])→mg v w s=none
  | [],_,_,h=>by obtain ⟨a,h,_⟩:=h;cases h
  | x :: s,v,w,h=>by
    obtain ⟨a,ha,h1,h2⟩:=h
    simp only [mg]
    rcases List.mem_cons.1 ha with rfl | hm
    · rw [if_pos h1,if_neg (setRead_empty h2)]
    · have q:=fun v w=>mg_gap s v w ⟨a,hm,h1,h2⟩
      split
      · split
        · split
          · exact q _ _
          · rfl
        · rfl
      · exact q _ _
/-- What the end of a merging is: the set and no error, or an error. -/
def MgEnd (o:Option (List Mark × List Sib)) (R:List Mark × List Sib × Int × Int × Int):Prop:=(∀ z,o=some z→R=(z.1,z.2,0,0,0))∧(o=none→R.2.2.2.2≠0)
theorem MgEnd.ok (v:List Mark) (w:List Sib):MgEnd (some (v,w)) (v,w,0,0,0):=⟨fun z h=>by cases h;rfl,fun h=>by cases h⟩
theorem MgEnd.bad {R:List Mark × List Sib × Int × Int × Int} (h:R.2.2.2.2≠0):MgEnd none R:=⟨fun z h=>(by cases h),fun _=>h⟩
theorem merged_l0 (l:List Ask) (hl:l.length≤1048576):∀ (s:List Ask) (i:Nat),l.drop i=s→i≤l.length→∀ (v:List Mark) (w:List Sib),setOk v w=true→v.length≤1048576 →
    ∃ R,Ev (fun k=>Y36.l0 k l (l.length:Int) (i:Int) v w 0 0 0) R∧MgEnd (mg v w s) R
  | [],i,h,hi,v,w,hv,hn=>by
    have:=dropNil' h hi
    refine ⟨(v,w,0,0,0),Ev.step (f:=fun _=>some (v,w,0,0,0)) (fun k=>?_) (Ev.now _),MgEnd.ok v w⟩
    simp only [Y36.l0]
    rw [if_neg (by omega)]
  | x :: s,i,h,hi,v,w,hv,hn=>by
    obtain ⟨h1,h2,h3⟩:=dropCons h z61
    have hr:rd_T61 l (i:Int)=x:=by simpa [rd_T61] using h2
    have hstep:∀ {R},Ev (fun k=>if x.f2=true then ((Y72.f k x.f3).bind fun b=>(if b.2.2.2.2=0 then ((Y11.f k v w b.1 b.2.1).bind fun c=>(if c.2.2.2.2=0 then (Y36.l0 k l (l.length:Int) ((i+1:Nat):Int) c.1 c.2.1 c.2.2.1 c.2.2.2.1 c.2.2.2.2) else (some (c.1,c.2.1,c.2.2.1,c.2.2.2.1,c.2.2.2.2)))) else (some (([]:List Mark),([]:List Sib),0,0,b.2.2.2.2)))) else (Y36.l0 k l (l.length:Int) ((i+1:Nat):Int) v w 0 0 0)) R→Ev (fun k=>Y36.l0 k l (l.length:Int) (i:Int) v w 0 0 0) R:=by
      intro R e
      refine Ev.step (fun k=>?_) e
      simp only [Y36.l0,hr]
      rw [if_pos (by omega),if_pos (by omega),if_pos (by omega),w64 (by omega) (by omega)]
      rfl
    simp only [mg]
    cases hx:x.f2 with
    | false =>
      obtain ⟨R,e,q⟩:=merged_l0 l hl s (i+1) h3 (by omega) v w hv hn
      exact ⟨R,hstep (evNeg (by rw [hx];simp) e),by simpa using q⟩
    | true =>
      rw [if_pos rfl]
      have hlen:=setRead_length x.f3
      by_cases hc:(setRead x.f3).2.2=0
      · rw [if_pos hc]
        have hw:=((setOk_iff v w).1 hv).2.1
        have es:=impl_SetSync_ev v w (setRead x.f3).1 (setRead x.f3).2.1 hn (by omega) (by omega) (by omega)
        by_cases hd:(setSync v w (setRead x.f3).1 (setRead x.f3).2.1).2.2=0
        · rw [if_pos hd]
          have EJ2:=setSync_length v w (setRead x.f3).1 (setRead x.f3).2.1
          obtain ⟨R,e,q⟩:=merged_l0 l hl s (i+1) h3 (by omega) _ _ (setSync_ok hv (setRead_ok hc) hd) (by omega)
          refine ⟨R,hstep (evPos hx (Ev.bind (impl_SetRead_ev x.f3) (evPos hc (Ev.bind es (evPos hd ?_))))),q⟩
          rw [hd];exact e
        · rw [if_neg hd]
          exact ⟨_,hstep (evPos hx (Ev.bind (impl_SetRead_ev x.f3) (evPos hc (Ev.bind es (evNeg hd (Ev.now _)))))),MgEnd.bad hd⟩
      · rw [if_neg hc]
        exact ⟨_,hstep (evPos hx (Ev.bind (impl_SetRead_ev x.f3) (evNeg hc (Ev.now _)))),MgEnd.bad hc⟩
theorem l11All_stop (l:List Ask) (hl:l.length≤1048576) (i:Nat) (hi:i≤l.length) (v:List Mark) (w:List Sib) (a b c:Int) (hc:c≠0):Ev (fun k=>Y29.l0 k l (i:Int) v w a b c) (v,w,a,b,c):=by
  have j:Ev (fun k=>Y29.j1 k l (i:Int) false v w a b c) (v,w,a,b,c):=Ev.step (f:=fun _=>some (v,w,a,b,c)) (fun k=>by simp [Y29.j1]) (Ev.now _)
  refine Ev.step (f:=fun k=>if (i:Int)<(l.length:Int) then Y29.j1 k l (i:Int) (c == 0) v w a b c else Y29.j1 k l (i:Int) false v w a b c) (fun k=>by simp only [Y29.l0]) (evIte (fun _=>?_) (fun _=>j))
  rw [show (c == 0)=false by simpa using hc]
  exact j
theorem l11All_l0 (l:List Ask) (hl:l.length≤1048576):∀ (s:List Ask) (i:Nat),l.drop i=s→i≤l.length→∀ (v:List Mark) (w:List Sib),setOk v w=true→v.length≤1048576 →
    ∃ R,Ev (fun k=>Y29.l0 k l (i:Int) v w 0 0 0) R∧MgEnd (mg v w s) R
  | [],i,h,hi,v,w,hv,hn=>by
    have:=dropNil' h hi
    have j:Ev (fun k=>Y29.j1 k l (i:Int) false v w 0 0 0) (v,w,0,0,0):=Ev.step (f:=fun _=>some (v,w,0,0,0)) (fun k=>by simp [Y29.j1]) (Ev.now _)
    exact ⟨(v,w,0,0,0),Ev.step (fun k=>by simp only [Y29.l0];rw [if_neg (by omega)]) j,MgEnd.ok v w⟩
  | x :: s,i,h,hi,v,w,hv,hn=>by
    obtain ⟨h1,h2,h3⟩:=dropCons h z61
    have hr:rd_T61 l (i:Int)=x:=by simpa [rd_T61] using h2
    have hstep:∀ {R},Ev (fun k=>if x.f2=true then ((Y23.f k x.f3).bind fun b=>(if b.2.2.2.2=0 then ((Y1.f k v w b.1 b.2.1).bind fun c=>(Y29.l0 k l ((i+1:Nat):Int) c.1 c.2.1 c.2.2.1 c.2.2.2.1 c.2.2.2.2)) else (some (b.1,b.2.1,b.2.2.1,b.2.2.2.1,b.2.2.2.2)))) else (Y29.l0 k l ((i+1:Nat):Int) v w 0 0 0)) R→Ev (fun k=>Y29.l0 k l (i:Int) v w 0 0 0) R:=by
      intro R e
      have j:Ev (fun k=>Y29.j1 k l (i:Int) true v w 0 0 0) R:=by
        refine Ev.step (fun k=>?_) e
        simp only [Y29.j1,hr]
        rw [if_pos trivial,if_pos (by omega),if_pos (by omega),w64 (by omega) (by omega)]
        rfl
      refine Ev.step (fun k=>by simp only [Y29.l0];rw [if_pos (by omega)]) ?_
      rw [show ((0:Int) == 0)=true by rfl]
      exact j
    simp only [mg]
    cases hx:x.f2 with
    | false =>
      obtain ⟨R,e,q⟩:=l11All_l0 l hl s (i+1) h3 (by omega) v w hv hn
      exact ⟨R,hstep (evNeg (by rw [hx];simp) e),by simpa using q⟩
    | true =>
      rw [if_pos rfl]
      have hlen:=setRead_length x.f3
      by_cases hc:(setRead x.f3).2.2=0
      · rw [if_pos hc]
        have es:=l03Sync_ev hv (setRead_ok hc) hn (by omega)
        by_cases hd:(setSync v w (setRead x.f3).1 (setRead x.f3).2.1).2.2=0
        · rw [if_pos hd]
          have EJ2:=setSync_length v w (setRead x.f3).1 (setRead x.f3).2.1
          obtain ⟨R,e,q⟩:=l11All_l0 l hl s (i+1) h3 (by omega) _ _ (setSync_ok hv (setRead_ok hc) hd) (by omega)
          refine ⟨R,hstep (evPos hx (Ev.bind (spec_SetRead_ev x.f3) (evPos hc (Ev.bind es ?_)))),q⟩
          rw [hd];exact e
        · rw [if_neg hd]
          exact ⟨_,hstep (evPos hx (Ev.bind (spec_SetRead_ev x.f3) (evPos hc (Ev.bind es (l11All_stop l hl (i+1) (by omega) _ _ _ _ _ hd))))),MgEnd.bad hd⟩
      · rw [if_neg hc]
        exact ⟨_,hstep (evPos hx (Ev.bind (spec_SetRead_ev x.f3) (evNeg hc (Ev.now _)))),MgEnd.bad hc⟩
/-! ### Equal sets -/
theorem equalMark_l0 (l m:List Mark) (hl:l.length≤1048576) (hm:l.length=m.length):∀ (s t:List Mark) (i:Nat),l.drop i=s→m.drop i=t→i≤l.length →
    ∃ b,Ev (fun k=>Y12.l0 k l m (l.length:Int) (i:Int)) b∧(b=true ↔ s=t)
  | [],t,i,h,h',hi=>by
    have:=dropNil' h hi
    have ht:t=[]:=by rw [← h'];exact List.drop_eq_nil_of_le (by omega)
    refine ⟨true,Ev.step (f:=fun _=>some true) (fun k=>?_) (Ev.now _),by simp [ht]⟩
    simp only [Y12.l0]
    rw [if_neg (by omega)]
  | x :: s,[],i,h,h',hi=>by
    have h1:=(dropCons h z38).1
    have:=dropNil h'
    omega
  | x :: s,y :: t,i,h,h',hi=>by
    obtain ⟨h1,h2,h3⟩:=dropCons h z38
    obtain ⟨g1,g2,g3⟩:=dropCons h' z38
    have hr:rd_T38 l (i:Int)=x:=by simpa [rd_T38] using h2
    have gr:rd_T38 m (i:Int)=y:=by simpa [rd_T38] using g2
    obtain ⟨x0,x1⟩:=x
    obtain ⟨y0,y1⟩:=y
    by_cases hc:x0=y0∧x1=y1
    · obtain ⟨b,e,q⟩:=equalMark_l0 l m hl hm s t (i+1) h3 g3 (by omega)
      refine ⟨b,Ev.step (fun k=>?_) e,by rw [q];simp [hc.1,hc.2]⟩
      simp only [Y12.l0,hr,gr]
      rw [if_pos (by omega),if_pos (by omega),if_pos (by omega),if_pos (by omega),if_neg (by simp [hc.1,hc.2]),w64 (by omega) (by omega)]
      rfl
    · refine ⟨false,Ev.step (f:=fun _=>some false) (fun k=>?_) (Ev.now _),by simp;intro h1 h2;exact absurd ⟨h1,h2⟩ hc⟩
      simp only [Y12.l0,hr,gr]
      rw [if_pos (by omega),if_pos (by omega),if_pos (by omega),if_pos (by omega),if_pos (by simp;by_cases h0:x0=y0 <;> simp [h0];exact fun h1=>hc ⟨h0,h1⟩)]
theorem equalMark_ev (l m:List Mark) (hl:l.length≤1048576):∃ b,Ev (fun k=>Y12.f k l m) b∧(b=true ↔ l=m):=by
  unfold Y12.f
  by_cases h:l.length=m.length
  · obtain ⟨b,e,q⟩:=equalMark_l0 l m hl h l m 0 rfl rfl (by omega)
    exact ⟨b,evPos (by omega) e,q⟩
  · exact ⟨false,evNeg (by omega) (Ev.now _),by simp;intro e;exact h (by rw [e])⟩
theorem equalSib_l0 (l m:List Sib) (hl:l.length≤1048576) (hm:l.length=m.length):∀ (s t:List Sib) (i:Nat),l.drop i=s→m.drop i=t→i≤l.length →
    ∃ b,Ev (fun k=>Y15.l0 k l m (l.length:Int) (i:Int)) b∧(b=true ↔ s=t)
  | [],t,i,h,h',hi=>by
    have:=dropNil' h hi
    have ht:t=[]:=by rw [← h'];exact List.drop_eq_nil_of_le (by omega)
    refine ⟨true,Ev.step (f:=fun _=>some true) (fun k=>?_) (Ev.now _),by simp [ht]⟩
    simp only [Y15.l0]
    rw [if_neg (by omega)]
  | x :: s,[],i,h,h',hi=>by
    have h1:=(dropCons h z75).1
    have:=dropNil h'
    omega
  | x :: s,y :: t,i,h,h',hi=>by
    obtain ⟨h1,h2,h3⟩:=dropCons h z75
    obtain ⟨g1,g2,g3⟩:=dropCons h' z75
    have hr:rd_T75 l (i:Int)=x:=by simpa [rd_T75] using h2
    have gr:rd_T75 m (i:Int)=y:=by simpa [rd_T75] using g2
    obtain ⟨⟨x0,x1⟩,x2,x3⟩:=x
    obtain ⟨⟨y0,y1⟩,y2,y3⟩:=y
    by_cases hc:x0=y0∧x1=y1∧x2=y2∧x3.toList=y3.toList
    · obtain ⟨c0,c1,c2,c3⟩:=hc
      obtain ⟨b,e,q⟩:=equalSib_l0 l m hl hm s t (i+1) h3 g3 (by omega)
      refine ⟨b,Ev.step (fun k=>?_) e,by rw [q];simp [c0,c1,c2,toList_inj c3]⟩
      simp only [Y15.l0,hr,gr]
      rw [if_pos (by omega),if_pos (by omega),if_pos (by omega),if_pos (by omega),if_neg (by simp [c0,c1,c2,c3]),w64 (by omega) (by omega)]
      rfl
    · refine ⟨false,Ev.step (f:=fun _=>some false) (fun k=>?_) (Ev.now _),by
        simp;intro h1 h2 h3 h4;exact absurd ⟨h1,h2,h3,by rw [h4]⟩ hc⟩
      simp only [Y15.l0,hr,gr]
      rw [if_pos (by omega),if_pos (by omega),if_pos (by omega),if_pos (by omega),if_pos]
      by_cases d0:x0=y0
      · by_cases d1:x1=y1
        · by_cases d2:x2=y2
          · have d3:¬ x3.toList=y3.toList:=fun d3=>hc ⟨d0,d1,d2,d3⟩
            simp [d0,d1,d2,d3]
          · simp [d0,d1,d2]
        · simp [d0,d1]
      · simp [d0]
theorem equalSib_ev (l m:List Sib) (hl:l.length≤1048576):∃ b,Ev (fun k=>Y15.f k l m) b∧(b=true ↔ l=m):=by
  unfold Y15.f
  by_cases h:l.length=m.length
  · obtain ⟨b,e,q⟩:=equalSib_l0 l m hl h l m 0 rfl rfl (by omega)
    exact ⟨b,evPos (by omega) e,q⟩
  · exact ⟨false,evNeg (by omega) (Ev.now _),by simp;intro e;exact h (by rw [e])⟩
theorem sameSet_ev (v v':List Mark) (w w':List Sib) (hv:v.length≤1048576) (hw:w.length≤1048576):∃ b,Ev (fun k=>Y78.f k v w v' w') b∧(b=true ↔ v=v'∧w=w'):=by
  obtain ⟨b,e,q⟩:=equalMark_ev v v' hv
  unfold Y78.f
  cases b with
  | false=>exact ⟨false,Ev.bind e (evNeg (by simp) (Ev.now _)),by simp;intro h;exact absurd (q.2 h) (by simp)⟩
  | true =>
    obtain ⟨c,e',q'⟩:=equalSib_ev w w' hw
    exact ⟨c,Ev.bind e (evPos rfl (Ev.bind e' (Ev.now _))),by rw [q'];simp [q.1 rfl]⟩
end Go.Proofs.YtbkiajppiogifaaGreat.Q

namespace Go.Proofs.YtbkiajppiogifaaGreat.Q
open Go.RowKit Go.Proofs.YtbkiajppiogifaaGreat.P Go.Proofs.YtbkiajppiogifaaGreatW.PrintWords Go.Proofs.YtbkiajppiogifaaGreatW.PrintMore
theorem szSet_more {x:S26} (hw:Go.Proofs.YtbkiajppiogifaaGreat.RO.wfT26 x) (n:Int) (h0:0≤n) (h1:n≤1048576):∃ r,Ev (fun k=>Y84.f k x.f0 x.f1 n) r∧r≤1048576∧(¬ r<0→x.f0.length≤1048576∧x.f1.length≤1048576∧∀ y ∈ x.f1,y.f2.size≤1048576):=by
  obtain ⟨r,e1,e2,e3⟩:=szSet_ev x.f0 x.f1 hw.1.1 hw.2.1 (fun y hy=>(hw.2.2 y hy).2.2) n h0 h1
  exact ⟨r,e1,by omega,fun h=>e3 (by omega)⟩
end Go.Proofs.YtbkiajppiogifaaGreat.Q

namespace Go.Proofs.YtbkiajppiogifaaGreat.Q
open Go.RowKit Go.Proofs.YtbkiajppiogifaaGreat.P Go.Proofs.YtbkiajppiogifaaGreatW.PrintWords Go.Proofs.YtbkiajppiogifaaGreatW.PrintMore
section
variable (a0 a1:Int) (g:Bool) (t:ByteArray) (a4 a5:Int) (l:List Ask) (v:List Mark) (w:List Sib) (a9 a10:Int) (ht:t.size≤1048576) (hl:l.length≤1048576) (hv:v.length≤1048576) (hw:w.length≤1048576)
include hl hv hw
/-- What stands behind the tests of the request's own fields. -/
theorem req_tail:∃ b:Bool,(setOk v w=true→Ev (fun k=>Y6.j0 k false a0 a1 g t a4 a5 l v w a9 a10) b) ∧
    Ev (fun k=>Y3.l0 k l (l.length:Int) ((l.length:Nat):Int) a0 a1 g t a4 a5 l v w a9 a10) (if setOk v w=true then b else false) ∧
    (g=true→mg [] [] l=none→b=false):=by
  have he:setOk [] []=true:=rfl
  have e1:=impl_SetRight_ev v w (by omega) hw
  cases hs:setOk v w with
  | false =>
    rw [hs] at e1
    refine ⟨false,fun h=>by simp at h,?_,fun _ _=>rfl⟩
    refine Ev.step (fun k=>by simp only [Y3.l0];rw [if_neg (by omega)]) ?_
    exact Ev.bind e1 (evNeg (by simp) (Ev.now _))
  | true =>
    rw [hs] at e1
    cases g with
    | false =>
      refine ⟨seenHasOut v a9 a10,fun _=>?_,?_,fun h=>by simp at h⟩
      · exact Ev.step (fun k=>by simp only [Y6.j0];rw [if_neg (by simp),if_neg (by simp)]) (Ev.bind (spec_SeenHas_ev v a9 a10 (by omega)) (Ev.now _))
      · refine Ev.step (fun k=>by simp only [Y3.l0];rw [if_neg (by omega)]) ?_
        refine Ev.bind e1 (evPos rfl (evNeg (by simp) (evBind1 (isDot_is _ _) ?_)))
        have hk:=((setOk_iff v w).1 hs).1
        rw [if_pos rfl]
        unfold seenHasOut
        rw [hk]
        cases isDot a9 a10 with
        | false=>exact evNeg (by simp) (Ev.now _)
        | true=>exact evPos rfl (Ev.bind (seenHas_ev v a9 a10 (by omega)) (Ev.now _))
    | true =>
      obtain ⟨R,eR,qR⟩:=merged_l0 l hl l 0 rfl (by omega) [] [] he (by simp)
      obtain ⟨X,eX,qX⟩:=l11All_l0 l hl l 0 rfl (by omega) [] [] he (by simp)
      have fR:Ev (fun k=>Y36.f k a0 a1 true t a4 a5 l v w a9 a10) R:=eR
      have fX:Ev (fun k=>Y29.f k l) X:=eX
      cases hm:mg [] [] l with
      | none =>
        rw [hm] at qR qX
        refine ⟨false,fun _=>?_,?_,fun _ _=>rfl⟩
        · exact Ev.step (fun k=>by simp only [Y6.j0];rw [if_neg (by simp),if_pos trivial]) (Ev.bind fX (evIte (fun _=>evNeg (qX.2 rfl) (Ev.now _)) (fun _=>Ev.now _)))
        · refine Ev.step (fun k=>by simp only [Y3.l0];rw [if_neg (by omega)]) ?_
          exact Ev.bind e1 (evPos rfl (evPos trivial (Ev.bind fR (evIte (fun _=>evNeg (qR.2 rfl) (Ev.now _)) (fun _=>Ev.now _)))))
      | some z =>
        rw [hm] at qR qX
        have hz:=mg_ok l [] [] z he hm
        have nR:=qR.1 z rfl
        have nX:=qX.1 z rfl
        subst nR
        subst nX
        obtain ⟨b,eb,qb⟩:=sameSet_ev z.1 v z.2 w (by have:=seenOk_length ((setOk_iff z.1 z.2).1 hz).1;omega) (by have:=((setOk_iff z.1 z.2).1 hz).2.1;omega)
        have lz:=seenOk_length ((setOk_iff z.1 z.2).1 hz).1
        have lz2:=((setOk_iff z.1 z.2).1 hz).2.1
        have b1:=l03Bytes_ev z.1 z.2 (by omega) (seenOk_small ((setOk_iff z.1 z.2).1 hz).1) (by omega) (setOk_small hz)
        have b2:=l03Bytes_ev v w hv (seenOk_small ((setOk_iff v w).1 hs).1) hw (setOk_small hs)
        have hb:((setBytes z.1 z.2).toList == (setBytes v w).toList)=b:=by
          rw [Bool.eq_iff_iff,beq_iff_eq,qb]
          constructor
          · intro h;exact setBytes_inj hz hs (toList_inj h)
          · rintro ⟨h1,h2⟩;rw [h1,h2]
        refine ⟨if (a9 == 0 && a10 == 0)=true then b else false,fun _=>?_,?_,fun _ h=>by cases h⟩
        · refine Ev.step (fun k=>by simp only [Y6.j0];rw [if_neg (by simp),if_pos trivial]) (Ev.bind fX ?_)
          by_cases hd:(a9 == 0 && a10 == 0)=true
          · rw [if_pos hd,← hb]
            exact evPos hd (evPos rfl (Ev.bind b1 (Ev.bind b2 (Ev.now _))))
          · rw [if_neg hd]
            exact evNeg hd (Ev.now _)
        · refine Ev.step (fun k=>by simp only [Y3.l0];rw [if_neg (by omega)]) ?_
          refine Ev.bind e1 (evPos rfl (evPos trivial (Ev.bind fR ?_)))
          rw [if_pos rfl]
          by_cases hd:(a9 == 0 && a10 == 0)=true
          · rw [if_pos hd]
            exact evPos hd (evPos rfl (Ev.bind eb (Ev.now _)))
          · rw [if_neg hd]
            exact evNeg hd (Ev.now _)
include ht
theorem req_ev:∃ b:Bool,Ev (fun k=>Y6.f k a0 a1 g t a4 a5 l v w a9 a10) b∧Ev (fun k=>Y3.f k a0 a1 g t a4 a5 l v w a9 a10) b:=by
  obtain ⟨b,s1,i1,gap⟩:=req_tail a0 a1 g t a4 a5 l v w a9 a10 hl hv hw
  have sT:Ev (fun k=>Y6.j0 k true a0 a1 g t a4 a5 l v w a9 a10) false:=Ev.step (f:=fun _=>some false) (fun k=>by simp [Y6.j0]) (Ev.now _)
  have iT:Ev (fun k=>Y3.j0 k true a0 a1 g t a4 a5 l v w a9 a10) false:=Ev.step (f:=fun _=>some false) (fun k=>by simp [Y3.j0]) (Ev.now _)
  have iA:=implAsks_l0 a0 a1 g t a4 a5 l v w a9 a10 hl i1 l 0 rfl (by omega)
  rw [List.take_zero] at iA
  have iF:Ev (fun k=>Y3.j0 k false a0 a1 g t a4 a5 l v w a9 a10) (asksOk (badI g) [] l && (if setOk v w=true then b else false)):=Ev.step (fun k=>by simp only [Y3.j0];rw [if_neg (by simp)];rfl) iA
  have sA:Ev (fun k=>Y22.f k a0 a1 g t a4 a5 l v w a9 a10) (asksOk (badS g) [] l):=l11Asks_l0 a0 a1 g t a4 a5 l v w a9 a10 hl l 0 rfl (by omega)
  have sH:Ev (fun k=>Y39.f k a0 a1 g t a4 a5 l v w a9 a10) ((heardN l:Nat):Int):=by
    have:=l11Heard_l0 a0 a1 g t a4 a5 l v w a9 a10 hl l 0 rfl (by omega) 0 (by omega)
    rw [Nat.zero_add] at this
    exact this
  have iH:Ev (fun k=>Y42.f k a0 a1 g t a4 a5 l v w a9 a10) ((heardN l:Nat):Int):=by
    have:=heard_l0 l hl l 0 rfl (by omega) 0 (by omega)
    rw [Nat.zero_add] at this
    exact this
  unfold Y6.f Y3.f
  cases c0:isWithin a0 1 1000000 with
  | false=>exact ⟨false,evBind1 (by rw [l02Is_is,c0]) (evNeg (by simp) sT),evBind1 (by rw [within_is,c0]) (evNeg (by simp) iT)⟩
  | true =>
  cases c1:isNode a1 with
  | false=>exact ⟨false,evBind1 (by rw [l02Is_is,c0]) (evPos rfl (evBind1 (by rw [l02Node_is,c1]) (evNeg (by simp) sT))),evBind1 (by rw [within_is,c0]) (evPos rfl (evBind1 (by rw [isNode_is,c1]) (evNeg (by simp) iT)))⟩
  | true =>
  have tn:=spec_NameRight_ev t ht
  have jn:=impl_NameRight_ev t (by omega)
  cases c2:nameOk t with
  | false =>
    rw [c2] at tn jn
    refine ⟨false,evBind1 (by rw [l02Is_is,c0]) (evPos rfl (evBind1 (by rw [l02Node_is,c1]) (evPos rfl (Ev.bind tn (evNeg (by simp) sT))))),evBind1 (by rw [within_is,c0]) (evPos rfl (evBind1 (by rw [isNode_is,c1]) (evPos rfl (evBind1 (isNode_is a4) (evIte (fun _=>Ev.bind jn (evNeg (by simp) iT)) (fun _=>iT))))))⟩
  | true =>
  rw [c2] at tn jn
  cases c4:isNode a4 with
  | false =>
    refine ⟨false,evBind1 (by rw [l02Is_is,c0]) (evPos rfl (evBind1 (by rw [l02Node_is,c1]) (evPos rfl (Ev.bind tn (evPos rfl (evBind1 (by rw [l02Node_is,c4]) (evNeg (by simp) sT))))))),evBind1 (by rw [within_is,c0]) (evPos rfl (evBind1 (by rw [isNode_is,c1]) (evPos rfl (evBind1 (by rw [isNode_is,c4]) (evNeg (by simp) iT)))))⟩
  | true =>
  suffices hh:∃ b:Bool,Ev (fun k=>(Y55.f a5 1 6).bind fun Bc4=>(if Bc4=true then (if (l.length:Int)<1 then (Y6.j0 k true a0 a1 g t a4 a5 l v w a9 a10) else (if (l.length:Int)>5 then (Y6.j0 k true a0 a1 g t a4 a5 l v w a9 a10) else ((Y22.f k a0 a1 g t a4 a5 l v w a9 a10).bind fun Bc5=>(if Bc5=true then ((Y39.f k a0 a1 g t a4 a5 l v w a9 a10).bind fun A35=>(if A35>a4 then (Y6.j0 k true a0 a1 g t a4 a5 l v w a9 a10) else ((Y5.f k v w).bind fun BU0=>(Y6.j0 k (!BU0) a0 a1 g t a4 a5 l v w a9 a10)))) else (Y6.j0 k true a0 a1 g t a4 a5 l v w a9 a10))))) else (Y6.j0 k true a0 a1 g t a4 a5 l v w a9 a10))) b ∧
      Ev (fun k=>(Y34.f a5 1 6).bind fun BP5=>(if BP5=true then ((Y34.f (l.length:Int) 1 5).bind fun BP6=>(if BP6=true then ((Y42.f k a0 a1 g t a4 a5 l v w a9 a10).bind fun BB2=>(Y3.j0 k (decide (BB2>a4)) a0 a1 g t a4 a5 l v w a9 a10)) else (Y3.j0 k true a0 a1 g t a4 a5 l v w a9 a10))) else (Y3.j0 k true a0 a1 g t a4 a5 l v w a9 a10))) b by
    obtain ⟨b,h1,h2⟩:=hh
    exact ⟨b,evBind1 (by rw [l02Is_is,c0]) (evPos rfl (evBind1 (by rw [l02Node_is,c1]) (evPos rfl (Ev.bind tn (evPos rfl (evBind1 (by rw [l02Node_is,c4]) (evPos rfl h1))))))),evBind1 (by rw [within_is,c0]) (evPos rfl (evBind1 (by rw [isNode_is,c1]) (evPos rfl (evBind1 (by rw [isNode_is,c4]) (evPos rfl (Ev.bind jn (evPos rfl h2)))))))⟩
  cases c5:isWithin a5 1 6 with
  | false=>exact ⟨false,evBind1 (by rw [l02Is_is,c5]) (evNeg (by simp) sT),evBind1 (by rw [within_is,c5]) (evNeg (by simp) iT)⟩
  | true =>
  by_cases n1:(l.length:Int)<1
  · exact ⟨false,evBind1 (by rw [l02Is_is,c5]) (evPos rfl (evPos n1 sT)),evBind1 (by rw [within_is,c5]) (evPos rfl (evBind1 (within_is _ _ _) (evNeg (by simp [isWithin];omega) iT)))⟩
  by_cases n5:(l.length:Int)>5
  · exact ⟨false,evBind1 (by rw [l02Is_is,c5]) (evPos rfl (evNeg n1 (evPos n5 sT))),evBind1 (by rw [within_is,c5]) (evPos rfl (evBind1 (within_is _ _ _) (evNeg (by simp [isWithin];omega) iT)))⟩
  have hw5:isWithin (l.length:Int) 1 5=true:=by simp [isWithin];omega
  have I:∀ {r:Bool},Ev (fun k=>Y3.j0 k (decide (((heardN l:Nat):Int)>a4)) a0 a1 g t a4 a5 l v w a9 a10) r→Ev (fun k=>(Y34.f a5 1 6).bind fun BP5=>(if BP5=true then ((Y34.f (l.length:Int) 1 5).bind fun BP6=>(if BP6=true then ((Y42.f k a0 a1 g t a4 a5 l v w a9 a10).bind fun BB2=>(Y3.j0 k (decide (BB2>a4)) a0 a1 g t a4 a5 l v w a9 a10)) else (Y3.j0 k true a0 a1 g t a4 a5 l v w a9 a10))) else (Y3.j0 k true a0 a1 g t a4 a5 l v w a9 a10))) r :=
    fun h=>evBind1 (by rw [within_is,c5]) (evPos rfl (evBind1 (by rw [within_is,hw5]) (evPos rfl (Ev.bind iH h))))
  cases cS:asksOk (badS g) [] l with
  | false =>
    rw [cS] at sA
    refine ⟨false,evBind1 (by rw [l02Is_is,c5]) (evPos rfl (evNeg n1 (evNeg n5 (Ev.bind sA (evNeg (by simp) sT))))),I ?_⟩
    by_cases hh:((heardN l:Nat):Int)>a4
    · rw [decide_eq_true hh];exact iT
    · rw [decide_eq_false hh]
      cases cI:asksOk (badI g) [] l with
      | false=>rw [cI,Bool.false_and] at iF;exact iF
      | true =>
        obtain ⟨q1,q2⟩:=asks_gap g l [] cI cS
        rw [cI,gap q1 (mg_gap l [] [] q2),ite_self,Bool.and_false] at iF
        exact iF
  | true =>
    rw [cS] at sA
    have cI:=asks_le g l [] cS
    rw [cI,Bool.true_and] at iF
    by_cases hh:((heardN l:Nat):Int)>a4
    · refine ⟨false,evBind1 (by rw [l02Is_is,c5]) (evPos rfl (evNeg n1 (evNeg n5 (Ev.bind sA (evPos rfl (Ev.bind sH (evPos hh sT))))))),I ?_⟩
      rw [decide_eq_true hh];exact iT
    · have eS:=spec_SetRight_ev v w (by omega) hw
      refine ⟨if setOk v w=true then b else false,evBind1 (by rw [l02Is_is,c5]) (evPos rfl (evNeg n1 (evNeg n5 (Ev.bind sA (evPos rfl (Ev.bind sH (evNeg hh (Ev.bind eS ?_)))))))),I ?_⟩
      · cases hs:setOk v w with
        | false=>exact sT
        | true=>exact s1 hs
      · rw [decide_eq_false hh];exact iF
end
theorem eqReq_ev (a0 a1:Int) (g:Bool) (t:ByteArray) (a4 a5:Int) (l:List Ask) (v:List Mark) (w:List Sib) (a9 a10:Int) (hl:l.length≤1048576) (hv:v.length≤1048576) (hw:w.length≤1048576) :
    Ev (fun k=>Y88.f k a0 a1 g t a4 a5 l v w a9 a10 a0 a1 g t a4 a5 l v w a9 a10) true:=by
  unfold Y88.f
  exact evPos rfl (evPos rfl (evNeg (by simp) (evPos rfl (evPos rfl (evPos rfl (Ev.bind (eqAskS_ev l (by omega)) (evPos rfl (Ev.bind (eqSet_ev v w (by omega) (by omega)) (evPos rfl (evBind1 (eqMark_refl _ _) (evPos rfl (Ev.now _))))))))))))
theorem szReq_small {x:S30} (hw:Go.Proofs.YtbkiajppiogifaaGreat.RO.wfT30 x):∃ r,Ev (fun k=>Y87.f k x.f0 x.f1 x.f2 x.f3 x.f4 x.f5 x.f6 x.f7.f0 x.f7.f1 x.f8.f0 x.f8.f1 1048576) r∧(¬ r<0→x.f3.size≤1048576∧x.f6.length≤1048576∧x.f7.f0.length≤1048576∧x.f7.f1.length≤1048576):=by
  obtain ⟨_,_,_,h3,_,_,⟨h6,h6'⟩,h7,_⟩:=hw
  have h3':x.f3.size≤9223372036854775807:=h3
  unfold Y87.f
  rw [w64 (by omega) (by omega)]
  by_cases c:(1048576:Int)-(x.f3.size:Int)<0
  · exact ⟨-1,evPos c (Ev.now _),fun h=>absurd (by omega) h⟩
  · obtain ⟨r,e1,e2,e3⟩:=szAskS_ev x.f6 h6 (fun y hy=>(h6' y hy).2.2.2) (1048576-(x.f3.size:Int)) (by omega) (by omega)
    by_cases c2:r<0
    · exact ⟨-1,evNeg c (Ev.bind e1 (evPos c2 (Ev.now _))),fun h=>absurd (by omega) h⟩
    · obtain ⟨q,f1,f2,f3⟩:=szSet_more h7 r (by omega) (by omega)
      by_cases c3:q<0
      · exact ⟨-1,evNeg c (Ev.bind e1 (evNeg c2 (Ev.bind f1 (evPos c3 (Ev.now _))))),fun h=>absurd (by omega) h⟩
      · exact ⟨q,evNeg c (Ev.bind e1 (evNeg c2 (Ev.bind f1 (evNeg c3 (Ev.now _))))),fun _=>⟨by omega,by have:=(e3 (by omega)).1;omega,(f3 c3).1,(f3 c3).2.1⟩⟩
theorem toReq_ev (a0 a1:Int) (g:Bool) (t:ByteArray) (a4 a5:Int) (l:List LAsk) (v:List LMark) (w:List LSib) (a9 a10:Int) (hl:l.length≤1048576) (hv:v.length≤1048576) (hw:w.length≤1048576) :
    Ev (fun k=>Y70.f k a0 a1 g t a4 a5 l v w a9 a10) (a0,a1,g,t,a4,a5,l.map toAsk,v.map toMark,w.map toSib,a9,a10):=by
  unfold Y70.f
  exact Ev.bind (toAskS_ev l hl) (Ev.bind (toSet_ev v w hv hw) (evBind1 (show Y79.f a9 a10=some (a9,a10) from rfl) (Ev.now _)))
end Go.Proofs.YtbkiajppiogifaaGreat.Q
namespace Go.Proofs.YtbkiajppiogifaaGreat.Pure
open Go.RowKit Go.Proofs.YtbkiajppiogifaaGreat.P Go.Proofs.YtbkiajppiogifaaGreat.Q Go.Proofs.YtbkiajppiogifaaGreatW.PrintWords Go.Proofs.YtbkiajppiogifaaGreatW.PrintMore
theorem FnExactReqRight:Y65.Pure:=by
  intro x hx
  obtain ⟨r,e,hr⟩:=szReq_small hx
  refine Ev.rounds ?_
  unfold Y65.f
  refine Ev.bind e (evIte (fun _=>Ev.now _) (fun h=>?_))
  obtain ⟨g3,g6,g7,g8⟩:=hr h
  have tq:=toReq_ev x.f0 x.f1 x.f2 x.f3 x.f4 x.f5 x.f6 x.f7.f0 x.f7.f1 x.f8.f0 x.f8.f1 g6 g7 g8
  have m6:(x.f6.map toAsk).length≤1048576:=by simpa using g6
  have m7:(x.f7.f0.map toMark).length≤1048576:=by simpa using g7
  have m8:(x.f7.f1.map toSib).length≤1048576:=by simpa using g8
  obtain ⟨b,b1,b2⟩:=req_ev x.f0 x.f1 x.f2 x.f3 x.f4 x.f5 (x.f6.map toAsk) (x.f7.f0.map toMark) (x.f7.f1.map toSib) x.f8.f0 x.f8.f1 g3 m6 m7 m8
  exact Ev.bind tq (Ev.bind b1 (Ev.bind tq (Ev.bind b2 (evNeg (by simp) (Ev.bind tq (Ev.bind (eqReq_ev x.f0 x.f1 x.f2 x.f3 x.f4 x.f5 (x.f6.map toAsk) (x.f7.f0.map toMark) (x.f7.f1.map toSib) x.f8.f0 x.f8.f1 m6 m7 m8) (evPos rfl (Ev.now _))))))))
end Go.Proofs.YtbkiajppiogifaaGreat.Pure

namespace Go.Proofs.YtbkiajppiogifaaGreat.fnExactReqRight
open Go.ChangeShapes Go.WideShapes Go.ChangeAt Go.RowKit Go.Proofs.YtbkiajppiogifaaGreat.P Go.Proofs.YtbkiajppiogifaaGreat.RO Go.Proofs.YtbkiajppiogifaaGreat.Open Go.Proofs.YtbkiajppiogifaaGreatW.PrintWords
open Go.ChangeMaps (open_string shut_string)
set_option linter.unusedVariables false
theorem own:ownKnob Tryz.prog.godebug=none:=by kernel_rfl
theorem laidOut:laidOutB Tryz.prog=true:=by kernel_rfl
set_option maxRecDepth 100000 in
theorem lifted (os:Os) (started:os.Started) (H:Type) (enc:TypeId × Value→H) :
    ReturnsInHanded {} Tryz.checked os 3 .any (Rows.fnExactReqRightSpec.pre6 enc Tryz.prog Tryz.f3 Rows.fnExactReqRightRow.domain false) (Rows.fnExactReqRightSpec.post enc Tryz.prog Tryz.f3 false true false false):=by
  refine returnsInHanded_of_change_sized (C:=Tryz.checked) own started (by kernel_rfl) Tryz.func3
    (ChangeSpec.witness6 (enc:=enc) (C:=Tryz.checked) false ⟨#[],#[.agg #[.int .i64 0,.int .i64 0,.bool false,.string ByteArray.empty,.int .i64 0,.int .i64 0,.slice none 0 0,.slice none 0 0,.slice none 0 0,.int .i64 0,.int .i64 0]],[]⟩ 8 (by kernel_rfl) (by kernel_rfl) (by kernel_rfl) (by kernel_rfl)) ?_
  intro W base args ds gs before hval0 hW hcnd hsz0 _
  have hsz:(DataW.weightsEach Tryz.prog (Tryz.f3.params.toList ++ Rows.fnExactReqRightSpec.plain.varTypes Tryz.prog) (ds ++ gs)).all (· ≤ reachBytes)=true:=hsz0
  have hval:∀ (j:Nat) t v,Tryz.f3.params[j]? = some t→args[j]? = some v→Value.okWide Tryz.prog W .any base t v:=hval0
  have hW':=hW
  obtain ⟨p,q,hA0,hV,rfl,hfz,hnd⟩:=hW
  have hA:DataW.TrodAll enc Tryz.prog W 0 (fun _=>true) true Tryz.f3.params.toList args.toList ds p:=hA0
  rw [Tryz.params3] at hA hval hsz
  obtain ⟨v0,vs0,d0,ds0,p0,q0,hargs,rfl,rfl,h0,r0⟩:=trodAll_cons hA
  obtain ⟨rfl,rfl,rfl⟩:=trodAll_nil r0
  obtain rfl:args=#[v0]:=by cases args;simp_all
  obtain ⟨rfl,rfl⟩:=trodVars_none hV
  have k0:=h0
  have lt0:∀ x ∈ p0,x.block<W.heap.size:=by obtain ⟨m,hm⟩:=k0;exact DataW.trod_lt m _ _ _ hm
  obtain ⟨cs0,rfl,_⟩:=okWide_struct Tryz.underlying30 (hval 0 30 v0 rfl rfl)
  obtain ⟨fuel0,hf0⟩:=h0
  obtain ⟨x0,hk0,w0⟩:=op_T30 hf0
  obtain ⟨J4,I5,I7,I8,I9,J0,EW0,EJ3,P2,EJ4,P3,EJ5,P4⟩:=k30_open hk0
  obtain rfl:cs0=#[.int .i64 x0.f0,.int .i64 x0.f1,.bool x0.f2,.string x0.f3,.int .i64 x0.f4,.int .i64 x0.f5,.slice J4 x0.f6.length I5,.slice I7 x0.f7.f0.length I8,.slice I9 x0.f7.f1.length J0,.int .i64 x0.f8.f0,.int .i64 x0.f8.f1]:=Array.toList_inj.1 EW0
  clear hA0 hval0 hsz0 hsz
  obtain ⟨k,hp⟩:=Pure.FnExactReqRight x0 w0
  refine (P.Y65.calls k x0.f0 x0.f1 x0.f2 x0.f3 x0.f4 x0.f5 _ _ x0.f6 _ _ x0.f7.f0 _ _ x0.f7.f1 x0.f8.f0 x0.f8.f1 true W P2 EJ3 P3 EJ4 P4 EJ5 hp).mono fun e W' ⟨he,EW1⟩=>?_
  have bel:Below W.heap.size W W':=EW1
  subst he
  exact ⟨_,rfl,_,_,_,[],_,[],hW',trodAll_mk1 (shut_bool Tryz.underlying4 _),(trodAll_cons_mk (Below.trod laidOut (by kernel_rfl) (of_decide_eq_true (by kernel_rfl)) k0 bel lt0) trodAll_mk0),rfl,bel.frame _,fun h=>by cases h⟩
theorem over:Rows.fnExactReqRightRow.holds Tryz.pinned (OpenSpec.ofChange Rows.fnExactReqRightSpec) :=
  OpenClaim.holds_of_wide 3 Tryz.f3 rfl rfl rfl rfl rfl rfl rfl ⟨rfl,rfl,rfl,rfl,rfl⟩ rfl rfl rfl rfl rfl (by kernel_rfl) Tryz.func3 (by kernel_rfl)
    (of_decide_eq_true (by kernel_rfl)) (by unfold Func.isWrapper;first | (rw [if_pos (by decide +kernel)];kernel_rfl) | (rw [if_neg (by decide +kernel)];exact ⟨rfl,rfl⟩))
    (fun os started H enc _=>lifted os started H enc)
theorem proved:Rows.FnExactReqRightSaid:=over
#print axioms proved
end Go.Proofs.YtbkiajppiogifaaGreat.fnExactReqRight
namespace Go.Proofs.YtbkiajppiogifaaGreat
/-- The row, under a short name, for the claim. -/
theorem fnExactReqRight_holds:Rows.FnExactReqRightSaid:=fnExactReqRight.proved
end Go.Proofs.YtbkiajppiogifaaGreat
