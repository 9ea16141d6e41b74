/- Of drawn version vectors: a join contains what either contains and nothing else, an added dot is contained, what is encoded is read back; and all the program's functions of version vectors are the reference's. No condition. (Part 5 of 5: written by programs of this workplace and by hand, merged.) -/
import Derived.Test.YtmefchanjoadfaaMFnSeena
import Derived.Test.YtmefchanjoadfaaMFnSeenWWords
import Derived.Test.YtmefchanjoadfaaMFnSeenWMore
import Derived.Laws.BitsLemmas
import Derived.Test.YtmefchanjoadfaaMFnSeenb
import Derived.Test.YtmefchanjoadfaaMFnSeenc
import Derived.Test.YtmefchanjoadfaaMFnSeend
import Derived.Test.YtmefchanjoadfaaRows
import Derived.WalkKit
import Derived.ProofKit
import Derived.OpenShut
import Derived.ShutString
import Derived.ChangeOld
import Derived.Below
import Derived.SizedLaws
import Derived.Test.YtmefchanjoadfaaMFnSeenWSized
set_option linter.unusedVariables false
set_option linter.unusedSimpArgs false
set_option maxHeartbeats 8000000
set_option maxRecDepth 100000

namespace Go.Proofs.Ytmefchanjoadfaa.Q
open Go.RowKit Go.Proofs.YtmefchanjoadfaaW.PrintWords Go.Proofs.YtmefchanjoadfaaW.PrintMore

theorem w64 {x:Int} (h0 : -9223372036854775808≤x) (h1:x≤9223372036854775807):wrap64 x=x:=by unfold wrap64;omega
theorem u64w (n:Int):IntKind.u64.wrap n=n % 18446744073709551616:=by simp [IntKind.wrap,IntKind.bits,IntKind.signed]
theorem evIte {α:Type} {c:Prop} [Decidable c] {f g:Nat→Option α} {r:α} (h:c→Ev f r) (h':¬ c→Ev g r):Ev (fun k=>if c then f k else g k) r:=by
  by_cases hc:c
  · simp only [if_pos hc];exact h hc
  · simp only [if_neg hc];exact h' hc
theorem evPos {α:Type} {c:Prop} [Decidable c] {f g:Nat→Option α} {r:α} (hc:c) (h:Ev f r):Ev (fun k=>if c then f k else g k) r:=by
  simp only [if_pos hc];exact h
theorem evNeg {α:Type} {c:Prop} [Decidable c] {f g:Nat→Option α} {r:α} (hc:¬ c) (h:Ev g r):Ev (fun k=>if c then f k else g k) r:=by
  simp only [if_neg hc];exact h
theorem evBind1 {α β:Type} {g:Option α} {f:Nat→α→Option β} {a:α} {r:β} (h:g=some a) (k:Ev (fun n=>f n a) r):Ev (fun n=>g.bind (f n)) r:=by
  subst h;exact k
theorem dropCons {α:Type} {l:List α} {i:Nat} {a:α} {s:List α} (h:l.drop i=a :: s) (d:α):i<l.length∧l.getD i d=a∧l.drop (i+1)=s:=by
  have hl:i<l.length:=by
    have:=congrArg List.length h
    simp at this;omega
  rw [List.drop_eq_getElem_cons hl] at h
  injection h with h1 h2
  exact ⟨hl,by rw [List.getD_eq_getElem?_getD,List.getElem?_eq_getElem hl];exact h1,h2⟩
theorem dropNil {α:Type} {l:List α} {i:Nat} (h:l.drop i=[]):l.length≤i:=by
  have:=congrArg List.length h
  simp at this;omega
theorem dropNil' {α:Type} {l:List α} {i:Nat} (h:l.drop i=[]) (hi:i≤l.length):l.length=i:=by
  have:=dropNil h;omega
theorem bits_xor_zero {x:Int} (h0:0≤x) (h1:x<18446744073709551616):Go.bits .xor .u64 x 0=x:=by
  obtain ⟨a,rfl⟩:=Int.eq_ofNat_of_zero_le h0
  have ha:a<2 ^ 64:=by omega
  have e:(0:Int)=((0:Nat):Int):=rfl
  have hw:IntKind.bits .u64=64:=rfl
  simp only [bits]
  rw [e,BitVec.ofInt_natCast,BitVec.ofInt_natCast,BitVec.xor_zero,BitVec.toNat_ofNat,hw,Nat.mod_eq_of_lt ha,u64w]
  omega
theorem bits_xor_ones {x:Int} (h0:0≤x) (h1:x<18446744073709551616):Go.bits .xor .u64 x 18446744073709551615=18446744073709551615-x:=by
  obtain ⟨a,rfl⟩:=Int.eq_ofNat_of_zero_le h0
  have ha:a<2 ^ 64:=by omega
  have e:(18446744073709551615:Int)=((18446744073709551615:Nat):Int):=rfl
  have hw:IntKind.bits .u64=64:=rfl
  simp only [bits]
  rw [e,BitVec.ofInt_natCast,BitVec.ofInt_natCast]
  have h2:(BitVec.ofNat (IntKind.bits .u64) 18446744073709551615)=BitVec.allOnes _:=by decide
  rw [h2,BitVec.xor_allOnes,BitVec.toNat_not,BitVec.toNat_ofNat,hw,Nat.mod_eq_of_lt ha,u64w]
  omega
theorem wraps_u64 (n:Int) (h₀:0≤n) (h₁:n<2 ^ 64):IntKind.u64.wrap n=n:=by rw [u64w];omega
theorem wraps_i64 (n:Int) (h₀:0≤n) (h₁:n<2 ^ 63):IntKind.i64.wrap n=n:=by rw [IntKind.wrap_i64];omega
theorem u64_and127 {x:Int} (h₀:0≤x) (h₁:x<18446744073709551616):Go.bits .and .u64 x 127=x % 128:=bits_mask .u64 64 (by decide) wraps_u64 7 (by decide) x h₀ h₁
theorem u8_or128' {x:Int} (h₀:0≤x) (h₁:x<128):Go.bits .or .u8 x 128=x+128:=by
  obtain ⟨a,rfl⟩:=Int.eq_ofNat_of_zero_le h₀
  have ha:a<2 ^ 8:=by omega
  have e1:=(bits_nat .u8 8 (by decide) wraps_u8 a 128 ha (by decide)).2
  have e2:=(bits_nat .u8 8 (by decide) wraps_u8 128 a (by decide) ha).2
  have e3:Go.bits .or .u8 128 a=128+a:=bits_join .u8 8 (by decide) wraps_u8 7 128 a (by decide) (by decide) (by decide) (by omega) (by omega) (by omega)
  have e4:((128:Nat):Int)=128:=rfl
  rw [e4] at e1 e2
  rw [e1,Nat.or_comm,← e2,e3];omega
end Go.Proofs.Ytmefchanjoadfaa.Q

namespace Go.Proofs.Ytmefchanjoadfaa.Q
open Go.RowKit Go.Proofs.Ytmefchanjoadfaa.P Go.Proofs.YtmefchanjoadfaaW.PrintWords Go.Proofs.YtmefchanjoadfaaW.PrintMore

/-- A source in order: where it stands, its mix, its size. -/
def SrcOk (b:List Int) (a m z:Int):Prop:=(0≤a∧a≤(b.length:Int))∧(0≤m∧m<18446744073709551616)∧(0≤z∧z≤12)∧b.length≤1048576
theorem xorw_range (x y:Int):0≤Go.bits .xor .u64 x y∧Go.bits .xor .u64 x y<18446744073709551616:=by
  have key:∀ n:Int,0≤IntKind.u64.wrap n∧IntKind.u64.wrap n<18446744073709551616:=fun n=>by rw [u64w];omega
  exact key _
theorem n_end {q most:Int} (hm:1<most) (hm2:most≤9223372036854775807):IntKind.u64.wrap most=most∧wrap64 (Int.tmod (IntKind.u64.wrap q) most)=(q % 18446744073709551616) % most:=by
  refine ⟨by rw [u64w];omega,?_⟩
  rw [u64w,Int.tmod_eq_emod_of_nonneg (by omega)]
  have h1:=Int.emod_nonneg (q % 18446744073709551616) (show most≠0 by omega)
  have h2:=Int.emod_lt_of_pos (q % 18446744073709551616) (show 0<most by omega)
  exact w64 (by omega) (by omega)
theorem n_ok {b:List Int} {a m z:Int} (h:SrcOk b a m z) (most:Int) (h2:most≤9223372036854775807) :
    ∃ r a' m',Y2.f b a m z most=some (r,a',m',z)∧0≤r∧(1<most→r<most)∧(most≤1→r=0)∧SrcOk b a' m' z:=by
  obtain ⟨⟨a0,a1⟩,hm,hz,hb⟩:=h
  by_cases h1:most≤1
  · exact ⟨0,a,m,by unfold Y2.f;rw [if_pos h1],by omega,by omega,fun _=>rfl,⟨a0,a1⟩,hm,hz,hb⟩
  · have hx:=fun x y=>xorw_range x y
    have fin:∀ q:Int,0≤(q % 18446744073709551616) % most∧(q % 18446744073709551616) % most<most:=fun q=>⟨Int.emod_nonneg _ (by omega),Int.emod_lt_of_pos _ (by omega)⟩
    unfold Y2.f
    rw [if_neg h1]
    by_cases ha:a<(b.length:Int)
    · rw [if_pos ha,if_pos a0,if_neg (by rw [(n_end (q:=0) (by omega) h2).1];omega)]
      refine ⟨_,_,_,by rw [(n_end (q:=0) (by omega) h2).1,(n_end (by omega) h2).2],(fin _).1,fun _=>(fin _).2,by omega,?_,hx _ _,hz,hb⟩
      rw [w64 (by omega) (by omega)];omega
    · rw [if_neg ha,if_neg (by rw [(n_end (q:=0) (by omega) h2).1];omega)]
      exact ⟨_,_,_,by rw [(n_end (q:=0) (by omega) h2).1,(n_end (by omega) h2).2],(fin _).1,fun _=>(fin _).2,by omega,⟨a0,a1⟩,hx _ _,hz,hb⟩
theorem one_ok {b:List Int} {a m z:Int} (h:SrcOk b a m z) (of:Int) (h2:of≤9223372036854775807):∃ r a' m',Y38.f b a m z of=some (r,a',m',z)∧SrcOk b a' m' z:=by
  obtain ⟨r,a',m',e,_,_,_,g⟩:=n_ok h of h2
  exact ⟨_,a',m',by unfold Y38.f;rw [e];rfl,g⟩
theorem source_l0 (l:List Int) (hl:l.length≤1048576):∀ (d i:Nat),l.length-i=d→i≤l.length→∀ m:Int,0≤m→m<18446744073709551616 →
    ∃ m' z,Ev (fun k=>Y14.l0 k l (i:Int) l 0 m 0) (l,0,m',z)∧SrcOk l 0 m' z:=by
  have stop:∀ (i:Int) (m:Int),0≤m→m<18446744073709551616→∃ m' z,Ev (fun k=>Y14.j1 k l i false l 0 m 0) (l,0,m',z)∧SrcOk l 0 m' z:=by
    intro i m h0 h1
    by_cases h:wrap64 ((l.length:Int) / 20)>12
    · exact ⟨m,12,Ev.step (f:=fun _=>some (l,0,m,12)) (fun k=>by simp only [Y14.j1];rw [if_neg (by simp),if_pos h]) (Ev.now _),⟨by omega,by omega⟩,⟨h0,h1⟩,by omega,hl⟩
    · refine ⟨m,wrap64 ((l.length:Int) / 20),Ev.step (f:=fun _=>some (l,0,m,wrap64 ((l.length:Int) / 20))) (fun k=>by simp only [Y14.j1];rw [if_neg (by simp),if_neg h]) (Ev.now _),⟨by omega,by omega⟩,⟨h0,h1⟩,?_,hl⟩
      rw [w64 (by omega) (by omega)] at h ⊢
      omega
  intro d
  induction d with
  | zero =>
    intro i hd hi m h0 h1
    obtain ⟨m',z,e,g⟩:=stop i m h0 h1
    refine ⟨m',z,Ev.step (fun k=>?_) e,g⟩
    simp only [Y14.l0]
    rw [if_neg (by omega)]
  | succ d ih =>
    intro i hd hi m h0 h1
    by_cases h64:i<64
    · have hw:∀ q:Int,0≤IntKind.u64.wrap q∧IntKind.u64.wrap q<18446744073709551616:=fun q=>by rw [u64w];omega
      obtain ⟨m',z,e,g⟩:=ih (i+1) (by omega) (by omega) (IntKind.u64.wrap ((Go.bits .xor .u64 m (IntKind.u64.wrap (rd l (i:Int))))*1099511628211)) (hw _).1 (hw _).2
      refine ⟨m',z,Ev.step (f:=fun k=>Y14.j1 k l (i:Int) true l 0 m 0) (fun k=>?_) (Ev.step (fun k=>?_) e),g⟩
      · simp only [Y14.l0]
        rw [if_pos (by omega)]
        congr 1
        simp;omega
      · simp only [Y14.j1]
        rw [if_pos trivial,if_pos (by omega),if_pos (by omega),w64 (x:=(i:Int)+1) (by omega) (by omega)]
        rfl
    · obtain ⟨m',z,e,g⟩:=stop i m h0 h1
      refine ⟨m',z,Ev.step (fun k=>?_) e,g⟩
      simp only [Y14.l0]
      rw [if_pos (by omega)]
      congr 1
      simp;omega
theorem source_ok (l:List Int) (hl:l.length≤1048576):∃ m z,Ev (fun k=>Y14.f k l) (l,0,m,z)∧SrcOk l 0 m z :=
  source_l0 l hl _ 0 rfl (by omega) _ (by omega) (by omega)
theorem strOfNums_size (l:List Int):(strOfNums l).size=l.length:=by
  rw [← data_length]
  simp [strOfNums]
end Go.Proofs.Ytmefchanjoadfaa.Q

namespace Go.Proofs.Ytmefchanjoadfaa.Q
open Go.RowKit Go.Proofs.Ytmefchanjoadfaa.P Go.Proofs.YtmefchanjoadfaaW.PrintWords Go.Proofs.YtmefchanjoadfaaW.PrintMore

def isWithin (n low high:Int):Bool:=decide (low≤n) && decide (n≤high)
def isNode (n:Int):Bool:=isWithin n 1 5
def isDot (a b:Int):Bool:=isNode a && isWithin b 1 1000000
theorem l02Is_is (n a b:Int):Y65.f n a b=some (isWithin n a b):=by
  unfold Y65.f isWithin
  split
  · rename_i h;simp [show a≤n from h]
  · rename_i h;simp [show ¬ a≤n from h]
theorem l02Node_is (n:Int):Y70.f n=some (isNode n):=by simp [Y70.f,l02Is_is,isNode]
theorem l02Dot_is (a b:Int):Y57.f a b=some (isDot a b):=by
  simp only [Y57.f,l02Node_is,l02Is_is,isDot,Option.bind_some]
  cases isNode a <;> simp
theorem within_is (n a b:Int):Y61.f n a b=some (isWithin n a b):=by
  unfold Y61.f isWithin
  split
  · rename_i h;simp [show a≤n from h]
  · rename_i h;simp [show ¬ a≤n from h]
theorem isNode_is (n:Int):Y72.f n=some (isNode n):=by simp [Y72.f,within_is,isNode]
theorem isDot_is (a b:Int):Y58.f a b=some (isDot a b):=by
  simp only [Y58.f,isNode_is,within_is,isDot,Option.bind_some]
  cases isNode a <;> simp
theorem isDot_iff (a b:Int):isDot a b=true ↔ (1≤a∧a≤5)∧1≤b∧b≤1000000:=by simp [isDot,isNode,isWithin]
end Go.Proofs.Ytmefchanjoadfaa.Q

namespace Go.Proofs.Ytmefchanjoadfaa.Q
open Go.RowKit Go.Proofs.Ytmefchanjoadfaa.P Go.Proofs.YtmefchanjoadfaaW.PrintWords Go.Proofs.YtmefchanjoadfaaW.PrintMore

abbrev Mark:=S49
/-- Dots whose nodes rise from above p. -/
def okFrom:Int→List Mark→Bool
  | _,[]=>true
  | p,m :: r=>isDot m.f0 m.f1 && (decide (p<m.f0) && okFrom m.f0 r)
def seenOk (v:List Mark):Bool:=okFrom 0 v
theorem okFrom_length:∀ (s:List Mark) (p:Int),p≤5→okFrom p s=true→(s.length:Int)≤5-p
  | [],p,h,_=>by simp;omega
  | m :: r,p,h,ho=>by
    simp only [okFrom,Bool.and_eq_true,decide_eq_true_eq,isDot_iff] at ho
    have:=okFrom_length r m.f0 ho.1.1.2 ho.2.2
    simp;omega
theorem seenOk_length {v:List Mark} (h:seenOk v=true):v.length≤5:=by
  have:=okFrom_length v 0 (by omega) h
  omega
/-- The node ahead of place i. -/
def prevAt (l:List Mark) (i:Nat):Int:=if i=0 then 0 else (l.getD (i-1) z49).f0
theorem prevAt_succ {l:List Mark} {i:Nat} {m:Mark} (h:l.getD i z49=m):prevAt l (i+1)=m.f0:=by
  simp only [prevAt,Nat.add_sub_cancel,h]
  simp
theorem impl_seenRight_l0 (l:List Mark) (hl:l.length≤4611686018427387904):∀ (s:List Mark) (i:Nat),l.drop i=s→i≤l.length→0≤prevAt l i →
    Ev (fun k=>Y3.l0 k l l (l.length:Int) (i:Int)) (okFrom (prevAt l i) s)
  | [],i,h,hi,hp=>by
    have:=dropNil' h hi
    refine Ev.step (f:=fun _=>some true) (fun k=>?_) (Ev.now _)
    simp only [Y3.l0]
    rw [if_neg (by omega)]
  | m :: s,i,h,hi,hp=>by
    obtain ⟨h1,h2,h3⟩:=dropCons h z49
    have hr:rd_T49 l (i:Int)=m:=by simpa [rd_T49] using h2
    have ih:=fun hq=>impl_seenRight_l0 l hl s (i+1) h3 (by omega) hq
    rw [prevAt_succ h2] at ih
    by_cases hd:isDot m.f0 m.f1=true
    · have hd':=(isDot_iff _ _).1 hd
      by_cases hlt:prevAt l i<m.f0
      · have ih:=ih (by omega)
        refine Ev.step (fun k=>?_) (show Ev _ (okFrom (prevAt l i) (m :: s)) from by simp only [okFrom,hd,hlt,decide_true,Bool.true_and];exact ih)
        simp only [Y3.l0,hr,isDot_is,Option.bind_some]
        rw [if_pos (by omega),if_pos (by omega),if_pos (by omega),if_pos hd,w64 (x:=(i:Int)+1) (by omega) (by omega)]
        by_cases hi0:i=0
        · subst hi0
          rw [if_neg (by omega)];rfl
        · have hq:rd_T49 l ((i:Int)-1)=l.getD (i-1) z49:=by
            simp only [rd_T49];congr 1;omega
          rw [w64 (x:=(i:Int)-1) (by omega) (by omega),if_pos (by omega),if_pos (by omega),if_pos (by omega),hq,if_neg (by simp only [prevAt,if_neg hi0] at hlt;omega)]
          rfl
      · refine Ev.step (f:=fun _=>some false) (fun k=>?_) (show Ev _ (okFrom (prevAt l i) (m :: s)) from by simp only [okFrom,hd,hlt,decide_false,Bool.false_and,Bool.and_false];exact Ev.now _)
        have hi0:i≠0:=by
          intro e;subst e
          simp [prevAt] at hlt;omega
        have hq:rd_T49 l ((i:Int)-1)=l.getD (i-1) z49:=by
          simp only [rd_T49];congr 1;omega
        simp only [Y3.l0,hr,isDot_is,Option.bind_some]
        rw [if_pos (by omega),if_pos (by omega),if_pos (by omega),if_pos hd,w64 (x:=(i:Int)-1) (by omega) (by omega),if_pos (by omega),if_pos (by omega),if_pos (by omega),hq,
          if_pos (by simp only [prevAt,if_neg hi0] at hlt;omega)]
    · refine Ev.step (f:=fun _=>some false) (fun k=>?_) (show Ev _ (okFrom (prevAt l i) (m :: s)) from by simp only [okFrom,Bool.eq_false_iff.mpr hd,Bool.false_and];exact Ev.now _)
      simp only [Y3.l0,hr,isDot_is,Option.bind_some]
      rw [if_pos (by omega),if_pos (by omega),if_pos (by omega),if_neg hd]
theorem impl_seenRight_ev (l:List Mark) (hl:l.length≤4611686018427387904):Ev (fun k=>Y3.f k l) (seenOk l) :=
  impl_seenRight_l0 l hl l 0 rfl (by omega) (by simp [prevAt])
theorem impl_SeenRight_ev (l:List Mark) (hl:l.length≤4611686018427387904):Ev (fun k=>Y12.f k l) (seenOk l):=by
  unfold Y12.f Y50.f
  refine evBind1 rfl ?_
  by_cases h:(l.length:Int)>400
  · have:seenOk l=false:=by
      rw [Bool.eq_false_iff];intro hs
      have:=seenOk_length hs;omega
    rw [this]
    exact evPos (by simpa using h) (Ev.now _)
  · exact evNeg (by simpa using h) (Ev.bind (impl_seenRight_ev l hl) (Ev.now _))
theorem spec_SeenRight_l0 (l:List Mark) (hl:l.length≤4611686018427387904):∀ (s:List Mark) (i:Nat),l.drop i=s→i≤l.length→(i:Int)≤prevAt l i→prevAt l i≤5 →
    Ev (fun k=>Y1.l0 k l (i:Int)) (okFrom (prevAt l i) s)
  | [],i,h,hi,hp,hp5=>by
    have:=dropNil' h hi
    refine Ev.step (f:=fun k=>Y1.j1 k l (i:Int) false) (fun k=>?_) (Ev.step (f:=fun _=>some true) (fun k=>?_) (Ev.now _))
    · simp only [Y1.l0]
      rw [if_neg (by omega)]
    · simp only [Y1.j1]
      rw [if_neg (by simp)]
      congr 1
      simp;omega
  | m :: s,i,h,hi,hp,hp5=>by
    obtain ⟨h1,h2,h3⟩:=dropCons h z49
    have hr:rd_T49 l (i:Int)=m:=by simpa [rd_T49] using h2
    have ih:=fun hq=>spec_SeenRight_l0 l hl s (i+1) h3 (by omega) hq
    rw [prevAt_succ h2] at ih
    have hj:decide ((i:Int)≤5)=true:=by simp;omega
    have hl0:∀ k,Y1.l0 (k+1) l (i:Int)=Y1.j1 k l (i:Int) true:=fun k=>by
      simp only [Y1.l0]
      rw [if_pos (by omega),hj]
    by_cases hd:isDot m.f0 m.f1=true
    · have hd':=(isDot_iff _ _).1 hd
      by_cases hlt:prevAt l i<m.f0
      · have ih:=ih (by omega) (by omega)
        refine Ev.step hl0 (Ev.step (fun k=>?_) (show Ev _ (okFrom (prevAt l i) (m :: s)) from by simp only [okFrom,hd,hlt,decide_true,Bool.true_and];exact ih))
        simp only [Y1.j1,hr,l02Dot_is,Option.bind_some]
        rw [if_pos trivial,if_pos (by omega),if_pos (by omega),if_pos hd,w64 (x:=(i:Int)+1) (by omega) (by omega)]
        by_cases hi0:i=0
        · subst hi0
          rw [if_neg (by omega)];rfl
        · have hq:rd_T49 l ((i:Int)-1)=l.getD (i-1) z49:=by
            simp only [rd_T49];congr 1;omega
          rw [w64 (x:=(i:Int)-1) (by omega) (by omega),if_pos (by omega),if_pos (by omega),if_pos (by omega),hq,if_neg (by simp only [prevAt,if_neg hi0] at hlt;omega)]
          rfl
      · refine Ev.step hl0 (Ev.step (f:=fun _=>some false) (fun k=>?_) (show Ev _ (okFrom (prevAt l i) (m :: s)) from by simp only [okFrom,hd,hlt,decide_false,Bool.false_and,Bool.and_false];exact Ev.now _))
        have hi0:i≠0:=by
          intro e;subst e
          simp [prevAt] at hlt;omega
        have hq:rd_T49 l ((i:Int)-1)=l.getD (i-1) z49:=by
          simp only [rd_T49];congr 1;omega
        simp only [Y1.j1,hr,l02Dot_is,Option.bind_some]
        rw [if_pos trivial,if_pos (by omega),if_pos (by omega),if_pos hd,w64 (x:=(i:Int)-1) (by omega) (by omega),if_pos (by omega),if_pos (by omega),if_pos (by omega),hq,
          if_pos (by simp only [prevAt,if_neg hi0] at hlt;omega)]
    · refine Ev.step hl0 (Ev.step (f:=fun _=>some false) (fun k=>?_) (show Ev _ (okFrom (prevAt l i) (m :: s)) from by simp only [okFrom,Bool.eq_false_iff.mpr hd,Bool.false_and];exact Ev.now _))
      simp only [Y1.j1,hr,l02Dot_is,Option.bind_some]
      rw [if_pos trivial,if_pos (by omega),if_pos (by omega),if_neg hd]
theorem spec_SeenRight_ev (l:List Mark) (hl:l.length≤4611686018427387904):Ev (fun k=>Y1.f k l) (seenOk l) :=
  spec_SeenRight_l0 l hl l 0 rfl (by omega) (by simp [prevAt]) (by simp [prevAt])
end Go.Proofs.Ytmefchanjoadfaa.Q

namespace Go.Proofs.Ytmefchanjoadfaa.Q
open Go.RowKit Go.Proofs.Ytmefchanjoadfaa.P Go.Proofs.YtmefchanjoadfaaW.PrintWords Go.Proofs.YtmefchanjoadfaaW.PrintMore

/-- The number that stands for n: an even one for n ≥ 0. -/
def zig (n:Int):Int:=if n<0 then -2*n-1 else 2*n
theorem zig_range {n:Int} (h0 : -9223372036854775808≤n) (h1:n≤9223372036854775807):0≤zig n∧zig n<18446744073709551616:=by
  unfold zig;split <;> omega
/-- Seven bits a byte, the lowest first; f + 1 bytes at the most. -/
def vbytes:Nat→Int→List Int
  | 0,u=>[u % 256]
  | f+1,u=>if u≥128 then (u % 128+128) :: vbytes f (u / 128) else [u % 256]
def putNum (n:Int):ByteArray:=strOfNums (vbytes 9 (zig n))
theorem fold_is {n:Int} (h0 : -9223372036854775808≤n) (h1:n≤9223372036854775807):Y73.f n=some (zig n):=by
  unfold Y73.f zig
  split
  · rw [w64 (x:=n+1) (by omega) (by omega),w64 (by omega) (by omega)]
    simp only [u64w]
    congr 1
    omega
  · simp only [u64w]
    congr 1
    omega
theorem xor_is {n:Int} (h0 : -9223372036854775808≤n) (h1:n≤9223372036854775807) :
    Go.bits .xor .u64 (IntKind.u64.wrap ((IntKind.u64.wrap n)*2)) (IntKind.u64.wrap (n / 9223372036854775808))=zig n:=by
  unfold zig
  simp only [u64w]
  split
  · have e:n / 9223372036854775808 = -1:=by omega
    rw [e,show ((-1:Int) % 18446744073709551616)=18446744073709551615 from by decide,bits_xor_ones (by omega) (by omega)]
    omega
  · have e:n / 9223372036854775808=0:=by omega
    rw [e,show ((0:Int) % 18446744073709551616)=0 from by decide,bits_xor_zero (by omega) (by omega)]
    omega
theorem vbytes_length:∀ f u,(vbytes f u).length≤f+1
  | 0,u=>by simp [vbytes]
  | f+1,u=>by
    unfold vbytes
    split
    · have:=vbytes_length f (u / 128)
      simp;omega
    · simp
theorem spec_PutNum_l0:∀ (f:Nat) (u:Int) (acc:List Int),0≤u→u<128 ^ (f+1)→u<18446744073709551616→acc.length+f+1<140737488355328 →
    Ev (fun k=>Y37.l0 k u acc) (strOfNums (acc ++ vbytes f u))
  | 0,u,acc,h0,h1,h2,h3=>by
    refine Ev.step (f:=fun _=>some (strOfNums (acc ++ vbytes 0 u))) (fun k=>?_) (Ev.now _)
    simp only [Y37.l0]
    rw [if_neg (by omega),if_pos (by omega)]
    rfl
  | f+1,u,acc,h0,h1,h2,h3=>by
    by_cases h:u≥128
    · have ih:=spec_PutNum_l0 f (u / 128) (acc ++ [u % 128+128]) (by omega) (by rw [Int.pow_succ] at h1;omega) (by omega) (by simp;omega)
      have hv:vbytes (f+1) u=[u % 128+128] ++ vbytes f (u / 128):=by simp [vbytes,h]
      rw [hv,← List.append_assoc]
      refine Ev.step (fun k=>?_) ih
      simp only [Y37.l0]
      rw [if_pos h,if_pos (by omega),Int.tdiv_eq_ediv_of_nonneg h0,Int.tmod_eq_emod_of_nonneg h0,u64w,u64w,show (u / 128) % 18446744073709551616=u / 128 from by omega,
        show (u % 128+128) % 18446744073709551616 % 256=u % 128+128 from by omega]
    · refine Ev.step (f:=fun _=>some (strOfNums (acc ++ vbytes (f+1) u))) (fun k=>?_) (Ev.now _)
      simp only [Y37.l0]
      rw [if_neg h,if_pos (by omega)]
      simp [vbytes,h]
theorem impl_PutNum_l0:∀ (f:Nat) (u:Int) (acc:List Int),0≤u→u<128 ^ (f+1)→u<18446744073709551616→acc.length+f+1<140737488355328 →
    Ev (fun k=>Y39.l0 k u acc) (strOfNums (acc ++ vbytes f u))
  | 0,u,acc,h0,h1,h2,h3=>by
    refine Ev.step (f:=fun _=>some (strOfNums (acc ++ vbytes 0 u))) (fun k=>?_) (Ev.now _)
    simp only [Y39.l0]
    rw [if_neg (by omega),if_pos (by omega)]
    rfl
  | f+1,u,acc,h0,h1,h2,h3=>by
    by_cases h:u≥128
    · have ih:=impl_PutNum_l0 f (u / 128) (acc ++ [u % 128+128]) (by omega) (by rw [Int.pow_succ] at h1;omega) (by omega) (by simp;omega)
      have hv:vbytes (f+1) u=[u % 128+128] ++ vbytes f (u / 128):=by simp [vbytes,h]
      rw [hv,← List.append_assoc]
      refine Ev.step (fun k=>?_) ih
      simp only [Y39.l0]
      rw [if_pos h,if_pos (by omega),u64_and127 h0 h2,show (u % 128) % 256=u % 128 from by omega,u8_or128' (by omega) (by omega)]
    · refine Ev.step (f:=fun _=>some (strOfNums (acc ++ vbytes (f+1) u))) (fun k=>?_) (Ev.now _)
      simp only [Y39.l0]
      rw [if_neg h,if_pos (by omega)]
      simp [vbytes,h]
theorem spec_PutNum_ev {n:Int} (h0 : -9223372036854775808≤n) (h1:n≤9223372036854775807):Ev (fun k=>Y37.f k n) (putNum n):=by
  have hz:=zig_range h0 h1
  unfold Y37.f
  rw [fold_is h0 h1]
  simp only [Option.bind_some]
  have:=spec_PutNum_l0 9 (zig n) [] hz.1 (by omega) hz.2 (by simp)
  simpa [putNum] using this
theorem impl_PutNum_ev {n:Int} (h0 : -9223372036854775808≤n) (h1:n≤9223372036854775807):Ev (fun k=>Y39.f k n) (putNum n):=by
  have hz:=zig_range h0 h1
  unfold Y39.f
  rw [xor_is h0 h1]
  have:=impl_PutNum_l0 9 (zig n) [] hz.1 (by omega) hz.2 (by simp)
  simpa [putNum] using this
end Go.Proofs.Ytmefchanjoadfaa.Q

namespace Go.Proofs.Ytmefchanjoadfaa.Q
open Go.RowKit Go.Proofs.Ytmefchanjoadfaa.P Go.Proofs.YtmefchanjoadfaaW.PrintWords Go.Proofs.YtmefchanjoadfaaW.PrintMore

def firstLong:List ByteArray→Int→Int
  | [],_ => -1
  | a :: s,i=>if 8000<a.size then i else firstLong s (i+1)
theorem firstLong_any:∀ (s:List ByteArray) (i:Int),0≤i→decide (firstLong s i≥0)=s.any fun a=>decide (8000<a.size)
  | [],i,h=>by simp [firstLong]
  | a :: s,i,h=>by
    have ih:=firstLong_any s (i+1) (by omega)
    by_cases ha:8000<a.size
    · simp [firstLong,ha,h]
    · rw [firstLong,if_neg ha,ih,List.any_cons]
      simp [ha]
theorem isLong_l0 (l:List ByteArray) (hl:l.length≤4611686018427387904):∀ (s:List ByteArray) (i:Nat),l.drop i=s→i≤l.length →
    Ev (fun k=>Y7.l0 k l (l.length:Int) (i:Int)) (firstLong s i)
  | [],i,h,hi=>by
    have:=dropNil' h hi
    refine Ev.step (f:=fun _=>some (-1)) (fun k=>?_) (Ev.now _)
    simp only [Y7.l0]
    rw [if_neg (by omega)]
  | a :: s,i,h,hi=>by
    obtain ⟨h1,h2,h3⟩:=dropCons h ByteArray.empty
    have ih:=isLong_l0 l hl s (i+1) h3 (by omega)
    by_cases ha:8000<a.size
    · refine Ev.step (f:=fun _=>some (firstLong (a :: s) i)) (fun k=>?_) (Ev.now _)
      simp only [Y7.l0,Y71.f,rdOf,Int.toNat_natCast,h2]
      rw [if_pos (by omega),if_pos (by omega),if_pos (by omega)]
      simp [firstLong,ha]
      omega
    · refine Ev.step (fun k=>?_) (show Ev _ (firstLong (a :: s) i) from by simp only [firstLong,if_neg ha];exact ih)
      simp only [Y7.l0,Y71.f,rdOf,Int.toNat_natCast,h2]
      rw [if_pos (by omega),if_pos (by omega),if_pos (by omega),w64 (by omega) (by omega)]
      have:¬ ((a.size:Int)>8000):=by omega
      simp [this]
theorem isLong_ev (l:List ByteArray) (hl:l.length≤4611686018427387904):Ev (fun k=>Y52.f k l) (l.any fun a=>decide (8000<a.size)):=by
  unfold Y52.f Y28.f Y7.f
  have h:=isLong_l0 l hl l 0 rfl (by omega)
  refine Ev.bind (Ev.bind h (Ev.now _)) ?_
  have e:=firstLong_any l 0 (by omega)
  rw [show ((0:Nat):Int)=0 from rfl,e]
  exact Ev.now _
theorem isLong1_ev (a:ByteArray):Ev (fun k=>Y52.f k ([a]:List ByteArray)) (decide (8000<a.size)):=by
  have:=isLong_ev [a] (by simp)
  simpa using this
theorem putNum_size (n:Int):(putNum n).size≤10:=by
  have h:=vbytes_length 9 (zig n)
  unfold putNum
  rw [← data_length]
  simp only [strOfNums]
  simpa using h
end Go.Proofs.Ytmefchanjoadfaa.Q

namespace Go.Proofs.Ytmefchanjoadfaa.Q
open Go.RowKit Go.Proofs.Ytmefchanjoadfaa.P Go.Proofs.YtmefchanjoadfaaW.PrintWords Go.Proofs.YtmefchanjoadfaaW.PrintMore

def seenOf:List Mark→Int→Int
  | [],_=>0
  | m :: r,n=>if m.f0=n then m.f1 else seenOf r n
theorem l02Of_l0 (l:List Mark) (n:Int) (hl:l.length≤4611686018427387904):∀ (s:List Mark) (i:Nat),l.drop i=s→i≤l.length→Ev (fun k=>Y30.l0 k l n (i:Int)) (seenOf s n)
  | [],i,h,hi=>by
    have:=dropNil' h hi
    refine Ev.step (f:=fun _=>some 0) (fun k=>?_) (Ev.now _)
    simp only [Y30.l0]
    rw [if_neg (by omega)]
  | m :: s,i,h,hi=>by
    obtain ⟨h1,h2,h3⟩:=dropCons h z49
    have hr:rd_T49 l (i:Int)=m:=by simpa [rd_T49] using h2
    refine Ev.step (f:=fun k=>if m.f0=n then some m.f1 else Y30.l0 k l n ((i+1:Nat):Int)) (fun k=>?_) ?_
    · simp only [Y30.l0,hr]
      rw [if_pos (by omega),if_pos (by omega),w64 (by omega) (by omega)]
      rfl
    · simp only [seenOf]
      refine evIte (fun h=>?_) (fun h=>?_)
      · rw [if_pos h];exact Ev.now _
      · rw [if_neg h];exact l02Of_l0 l n hl s (i+1) h3 (by omega)
theorem l02Of_ev (l:List Mark) (n:Int) (hl:l.length≤4611686018427387904):Ev (fun k=>Y30.f k l n) (seenOf l n):=l02Of_l0 l n hl l 0 rfl (by omega)
theorem seenOf_l0 (l:List Mark) (n:Int) (hl:l.length≤4611686018427387904):∀ (s:List Mark) (i:Nat),l.drop i=s→i≤l.length→Ev (fun k=>Y35.l0 k n l (l.length:Int) (i:Int)) (seenOf s n)
  | [],i,h,hi=>by
    have:=dropNil' h hi
    refine Ev.step (f:=fun _=>some 0) (fun k=>?_) (Ev.now _)
    simp only [Y35.l0]
    rw [if_neg (by omega)]
  | m :: s,i,h,hi=>by
    obtain ⟨h1,h2,h3⟩:=dropCons h z49
    have hr:rd_T49 l (i:Int)=m:=by simpa [rd_T49] using h2
    refine Ev.step (f:=fun k=>if m.f0=n then some m.f1 else Y35.l0 k n l (l.length:Int) ((i+1:Nat):Int)) (fun k=>?_) ?_
    · simp only [Y35.l0,hr]
      rw [if_pos (by omega),if_pos (by omega),if_pos (by omega),w64 (by omega) (by omega)]
      rfl
    · simp only [seenOf]
      refine evIte (fun h=>?_) (fun h=>?_)
      · rw [if_pos h];exact Ev.now _
      · rw [if_neg h];exact seenOf_l0 l n hl s (i+1) h3 (by omega)
theorem seenOf_ev (l:List Mark) (n:Int) (hl:l.length≤4611686018427387904):Ev (fun k=>Y35.f k l n) (seenOf l n):=seenOf_l0 l n hl l 0 rfl (by omega)
def seenOfOut (l:List Mark) (n:Int):Int:=if seenOk l=true then seenOf l n else 0
theorem spec_SeenOf_ev (l:List Mark) (n:Int) (hl:l.length≤4611686018427387904):Ev (fun k=>Y40.f k l n) (seenOfOut l n):=by
  unfold Y40.f seenOfOut
  refine Ev.bind (spec_SeenRight_ev l hl) (evIte (fun h=>?_) (fun h=>?_))
  · rw [if_pos h];exact Ev.bind (l02Of_ev l n hl) (Ev.now _)
  · rw [if_neg h];exact Ev.now _
theorem impl_SeenOf_ev (l:List Mark) (n:Int) (hl:l.length≤4611686018427387904):Ev (fun k=>Y33.f k l n) (seenOfOut l n):=by
  unfold Y33.f seenOfOut
  refine Ev.bind (impl_SeenRight_ev l hl) (evIte (fun h=>?_) (fun h=>?_))
  · rw [if_pos h];exact Ev.bind (seenOf_ev l n hl) (Ev.now _)
  · rw [if_neg h];exact Ev.now _
def seenHas (l:List Mark) (a b:Int):Bool:=decide (b≤seenOf l a)
def seenHasOut (l:List Mark) (a b:Int):Bool:=seenOk l && (isDot a b && seenHas l a b)
theorem seenHas_ev (l:List Mark) (a b:Int) (hl:l.length≤4611686018427387904):Ev (fun k=>Y46.f k l a b) (seenHas l a b):=Ev.bind (seenOf_ev l a hl) (Ev.now _)
theorem spec_SeenHas_ev (l:List Mark) (a b:Int) (hl:l.length≤4611686018427387904):Ev (fun k=>Y8.f k l a b) (seenHasOut l a b):=by
  unfold Y8.f seenHasOut
  refine Ev.bind (spec_SeenRight_ev l hl) ?_
  cases seenOk l with
  | false=>exact evNeg (by simp) (Ev.now _)
  | true =>
    refine evPos rfl (evBind1 (l02Dot_is a b) ?_)
    cases isDot a b with
    | false=>exact evNeg (by simp) (Ev.now _)
    | true=>exact evPos rfl (Ev.bind (l02Of_ev l a hl) (Ev.now _))
theorem impl_SeenHas_ev (l:List Mark) (a b:Int) (hl:l.length≤4611686018427387904):Ev (fun k=>Y4.f k l a b) (seenHasOut l a b):=by
  unfold Y4.f seenHasOut
  refine Ev.bind (impl_SeenRight_ev l hl) ?_
  cases seenOk l with
  | false=>exact evNeg (by simp) (Ev.now _)
  | true =>
    refine evPos rfl (evBind1 (isDot_is a b) ?_)
    cases isDot a b with
    | false=>exact evNeg (by simp) (Ev.now _)
    | true=>exact evPos rfl (Ev.bind (seenHas_ev l a b hl) (Ev.now _))
/-- The join at the nodes from one on. -/
def joinFrom (a b:List Mark):Nat→Int→List Mark
  | 0,_=>[]
  | f+1,n=>(if mx (seenOf a n) (seenOf b n)>0 then [⟨n,mx (seenOf a n) (seenOf b n)⟩] else []) ++ joinFrom a b f (n+1)
def seenJoin (a b:List Mark):List Mark:=joinFrom a b 5 1
theorem l01Max_is (a b:Int):Y69.f a b=some (mx a b):=by
  unfold Y69.f mx
  by_cases h:a>b
  · rw [if_pos h,if_neg (by omega)]
  · rw [if_neg h]
    by_cases h2:a<b
    · rw [if_pos h2]
    · rw [if_neg h2,show a=b from by omega]
theorem l02Join_l0 (a b:List Mark) (ha:a.length≤4611686018427387904) (hb:b.length≤4611686018427387904):∀ (f:Nat) (n:Int),n+f=6→f≤5→∀ acc:List Mark,acc.length+f≤5→Ev (fun k=>Y29.l0 k a b acc n) (acc ++ joinFrom a b f n)
  | 0,n,hn,hf,acc,hacc=>by
    refine Ev.step (f:=fun _=>some acc) (fun k=>?_) (by simp only [joinFrom,List.append_nil];exact Ev.now _)
    simp only [Y29.l0]
    rw [if_neg (by omega)]
  | f+1,n,hn,hf,acc,hacc=>by
    refine Ev.step (fun k=>by simp only [Y29.l0];rw [if_pos (show n≤5 by omega),w64 (x:=n+1) (by omega) (by omega)]) (Ev.bind (l02Of_ev a n ha) (Ev.bind (l02Of_ev b n hb) (evBind1 (l01Max_is _ _) ?_)))
    simp only [joinFrom]
    refine evIte (fun h=>?_) (fun h=>?_)
    · rw [if_pos h,← List.append_assoc]
      exact evPos (by omega) (l02Join_l0 a b ha hb f (n+1) (by omega) (by omega) _ (by simp;omega))
    · rw [if_neg h,List.nil_append]
      exact l02Join_l0 a b ha hb f (n+1) (by omega) (by omega) _ (by omega)
theorem l02Join_ev (a b:List Mark) (ha:a.length≤4611686018427387904) (hb:b.length≤4611686018427387904):Ev (fun k=>Y29.f k a b) (seenJoin a b):=by
  have:=l02Join_l0 a b ha hb 5 1 (by omega) (by omega) [] (by simp)
  simpa [Y29.f,seenJoin] using this
theorem seenJoin_l0 (a b:List Mark) (ha:a.length≤4611686018427387904) (hb:b.length≤4611686018427387904):∀ (f:Nat) (n:Int),n+f=6→f≤5→∀ acc:List Mark,acc.length+f≤5→Ev (fun k=>Y25.l0 k a b acc n) (acc ++ joinFrom a b f n)
  | 0,n,hn,hf,acc,hacc=>by
    refine Ev.step (f:=fun _=>some acc) (fun k=>?_) (by simp only [joinFrom,List.append_nil];exact Ev.now _)
    simp only [Y25.l0]
    rw [if_neg (by omega)]
  | f+1,n,hn,hf,acc,hacc=>by
    refine Ev.step (fun k=>by simp only [Y25.l0];rw [if_pos (show n≤5 by omega),w64 (x:=n+1) (by omega) (by omega)]) (Ev.bind (seenOf_ev a n ha) (Ev.bind (seenOf_ev b n hb) ?_))
    simp only [joinFrom]
    refine evIte (fun h=>?_) (fun h=>?_)
    · rw [if_pos h,← List.append_assoc]
      exact evPos (by omega) (seenJoin_l0 a b ha hb f (n+1) (by omega) (by omega) _ (by simp;omega))
    · rw [if_neg h,List.nil_append]
      exact seenJoin_l0 a b ha hb f (n+1) (by omega) (by omega) _ (by omega)
theorem seenJoin_ev (a b:List Mark) (ha:a.length≤4611686018427387904) (hb:b.length≤4611686018427387904):Ev (fun k=>Y25.f k a b) (seenJoin a b):=by
  have:=seenJoin_l0 a b ha hb 5 1 (by omega) (by omega) [] (by simp)
  simpa [Y25.f,seenJoin] using this
theorem joinFrom_length (a b:List Mark):∀ (f:Nat) (n:Int),(joinFrom a b f n).length≤f
  | 0,n=>by simp [joinFrom]
  | f+1,n=>by
    have:=joinFrom_length a b f (n+1)
    simp only [joinFrom]
    split <;> simp <;> omega
theorem seenJoin_length (a b:List Mark):(seenJoin a b).length≤5:=joinFrom_length a b 5 1
def seenJoinOut (a b:List Mark):List Mark:=if seenOk a=true then (if seenOk b=true then seenJoin a b else []) else []
theorem seenJoinOut_length (a b:List Mark):(seenJoinOut a b).length≤5:=by
  unfold seenJoinOut
  split
  · split
    · exact seenJoin_length a b
    · simp
  · simp
theorem spec_SeenJoin_ev (a b:List Mark) (ha:a.length≤4611686018427387904) (hb:b.length≤4611686018427387904):Ev (fun k=>Y47.f k a b) (seenJoinOut a b):=by
  unfold Y47.f seenJoinOut
  refine Ev.bind (spec_SeenRight_ev a ha) (evIte (fun h=>?_) (fun h=>?_))
  · rw [if_pos h]
    refine Ev.bind (spec_SeenRight_ev b hb) (evIte (fun h=>?_) (fun h=>?_))
    · rw [if_pos h];exact Ev.bind (l02Join_ev a b ha hb) (Ev.now _)
    · rw [if_neg h];exact Ev.now _
  · rw [if_neg h];exact Ev.now _
theorem impl_SeenJoin_ev (a b:List Mark) (ha:a.length≤4611686018427387904) (hb:b.length≤4611686018427387904):Ev (fun k=>Y51.f k a b) (seenJoinOut a b):=by
  unfold Y51.f seenJoinOut
  refine Ev.bind (impl_SeenRight_ev a ha) (evIte (fun h=>?_) (fun h=>?_))
  · rw [if_pos h]
    refine Ev.bind (impl_SeenRight_ev b hb) (evIte (fun h=>?_) (fun h=>?_))
    · rw [if_pos h];exact Ev.bind (seenJoin_ev a b ha hb) (Ev.now _)
    · rw [if_neg h];exact Ev.now _
  · rw [if_neg h];exact Ev.now _
theorem okFrom_mem:∀ (s:List Mark) (p:Int),okFrom p s=true→∀ m ∈ s,isDot m.f0 m.f1=true∧p<m.f0
  | [],_,_,m,hm=>by simp at hm
  | x :: r,p,h,m,hm=>by
    simp only [okFrom,Bool.and_eq_true,decide_eq_true_eq] at h
    rcases List.mem_cons.1 hm with rfl | hm
    · exact ⟨h.1,h.2.1⟩
    · have:=okFrom_mem r x.f0 h.2.2 m hm
      exact ⟨this.1,by omega⟩
/-- Marks whose numbers are small. -/
def Small (v:List Mark):Prop:=∀ m ∈ v,(0≤m.f0∧m.f0≤4294967295)∧0≤m.f1∧m.f1≤4294967295
theorem seenOk_small {v:List Mark} (h:seenOk v=true):Small v:=fun m hm=>by
  have:=(isDot_iff _ _).1 (okFrom_mem v 0 h m hm).1
  omega
def markBytes (m:Mark):ByteArray:=putNum m.f0 ++ putNum m.f1
def seenBytes (v:List Mark):ByteArray:=v.foldl (fun t m=>t ++ markBytes m) (putNum (v.length:Int))
theorem l02Bytes_l0 (l:List Mark) (hl:l.length≤1048576) (hsm:Small l):∀ (s:List Mark) (i:Nat),l.drop i=s→i≤l.length→∀ t:ByteArray,t.size≤10+20*i→Ev (fun k=>Y31.l0 k l t (i:Int)) (s.foldl (fun t m=>t ++ markBytes m) t)
  | [],i,h,hi,t,ht=>by
    have:=dropNil' h hi
    refine Ev.step (f:=fun _=>some t) (fun k=>?_) (Ev.now _)
    simp only [Y31.l0]
    rw [if_neg (by omega)]
  | m :: s,i,h,hi,t,ht=>by
    obtain ⟨h1,h2,h3⟩:=dropCons h z49
    have hr:rd_T49 l (i:Int)=m:=by simpa [rd_T49] using h2
    have hm:m ∈ l:=List.mem_of_mem_drop (by rw [h];exact List.mem_cons_self)
    have hb:=hsm m hm
    have p0:=putNum_size m.f0
    have p1:=putNum_size m.f1
    refine Ev.step (fun k=>by simp only [Y31.l0,hr];rw [if_pos (show (i:Int)<l.length by omega),if_pos (show (0:Int)≤i by omega),w64 (x:=(i:Int)+1) (by omega) (by omega)]) ?_
    refine Ev.bind (spec_PutNum_ev (by omega) (by omega)) (evPos (by omega) (Ev.bind (spec_PutNum_ev (by omega) (by omega)) (evPos (by omega) ?_)))
    rw [ByteArray.append_assoc]
    exact l02Bytes_l0 l hl hsm s (i+1) h3 (by omega) _ (by simp only [ByteArray.size_append];omega)
theorem l02Bytes_ev (l:List Mark) (hl:l.length≤1048576) (hsm:Small l):Ev (fun k=>Y31.f k l) (seenBytes l):=by
  unfold Y31.f
  exact Ev.bind (spec_PutNum_ev (by omega) (by omega)) (l02Bytes_l0 l hl hsm l 0 rfl (by omega) _ (by have:=putNum_size (l.length:Int);omega))
theorem seenBytes_l0 (l:List Mark) (hl:l.length≤1048576) (hsm:Small l):∀ (s:List Mark) (i:Nat),l.drop i=s→i≤l.length→∀ t:ByteArray,t.size≤10+20*i→Ev (fun k=>Y26.l0 k t l (l.length:Int) (i:Int)) (s.foldl (fun t m=>t ++ markBytes m) t)
  | [],i,h,hi,t,ht=>by
    have:=dropNil' h hi
    refine Ev.step (f:=fun _=>some t) (fun k=>?_) (Ev.now _)
    simp only [Y26.l0]
    rw [if_neg (by omega)]
  | m :: s,i,h,hi,t,ht=>by
    obtain ⟨h1,h2,h3⟩:=dropCons h z49
    have hr:rd_T49 l (i:Int)=m:=by simpa [rd_T49] using h2
    have hm:m ∈ l:=List.mem_of_mem_drop (by rw [h];exact List.mem_cons_self)
    have hb:=hsm m hm
    have p0:=putNum_size m.f0
    have p1:=putNum_size m.f1
    refine Ev.step (fun k=>by simp only [Y26.l0,hr];rw [if_pos (show (i:Int)<l.length by omega),if_pos (show (0:Int)≤i by omega),if_pos (show (i:Int)<l.length by omega),w64 (x:=(i:Int)+1) (by omega) (by omega)]) ?_
    refine Ev.bind (impl_PutNum_ev (by omega) (by omega)) (Ev.bind (impl_PutNum_ev (by omega) (by omega)) (evPos (by omega) (evPos (by omega) ?_)))
    exact seenBytes_l0 l hl hsm s (i+1) h3 (by omega) _ (by simp only [ByteArray.size_append];omega)
theorem seenBytes_ev (l:List Mark) (hl:l.length≤1048576) (hsm:Small l):Ev (fun k=>Y26.f k l) (seenBytes l):=by
  unfold Y26.f
  exact Ev.bind (impl_PutNum_ev (by omega) (by omega)) (seenBytes_l0 l hl hsm l 0 rfl (by omega) _ (by have:=putNum_size (l.length:Int);omega))
def seenBytesOut (l:List Mark):ByteArray:=if seenOk l=true then seenBytes l else ⟨#[]⟩
theorem spec_SeenBytes_ev (l:List Mark) (hl:l.length≤1048576):Ev (fun k=>Y22.f k l) (seenBytesOut l):=by
  unfold Y22.f seenBytesOut
  refine Ev.bind (spec_SeenRight_ev l (by omega)) (evIte (fun h=>?_) (fun h=>?_))
  · rw [if_pos h];exact Ev.bind (l02Bytes_ev l hl (seenOk_small h)) (Ev.now _)
  · rw [if_neg h];exact Ev.now _
theorem impl_SeenBytes_ev (l:List Mark) (hl:l.length≤1048576):Ev (fun k=>Y9.f k l) (seenBytesOut l):=by
  unfold Y9.f seenBytesOut
  refine Ev.bind (impl_SeenRight_ev l (by omega)) (evIte (fun h=>?_) (fun h=>?_))
  · rw [if_pos h];exact Ev.bind (seenBytes_ev l hl (seenOk_small h)) (Ev.now _)
  · rw [if_neg h];exact Ev.now _
end Go.Proofs.Ytmefchanjoadfaa.Q

namespace Go.Proofs.Ytmefchanjoadfaa.P
open Go.RowKit Go.Proofs.YtmefchanjoadfaaW.PrintWords Go.Proofs.YtmefchanjoadfaaW.PrintLast Go.Proofs.YtmefchanjoadfaaW.PrintMore
attribute [local go_sem] max2_int min2_int max_two min_two max_three min_three max_four min_four   -- for this text's walks alone
set_option linter.unusedVariables false
set_option linter.unusedSimpArgs false

/-! ### Y76: function 110 -/
def Y76.f (l0:List (S137)) (a1:Int):Option (Int):=if (wrap64 (a1-(l0.length:Int)))<0 then (some (-1)) else (some (wrap64 (a1-(l0.length:Int))))

/-! ### Y74: function 124 -/
def Y74.f (a0_0:Int) (a0_1:Int):Option (Int × Int):=some (a0_0,a0_1)

/-! ### Y67: function 111 -/
def Y67.l0:Nat→List (S137)→List (S49)→Int→Option ((List (S49)))
 | 0,_,_,_=>none
 | k+1,x0,x3,x4=>if x4<(x0.length:Int) then (if 0≤x4 then ((Y74.f ((rd_T137 x0 x4).f0) ((rd_T137 x0 x4).f1)).bind fun bt230=>(if x4<(x3.length:Int) then (Y67.l0 k x0 (x3.set (x4:Int).toNat (⟨bt230.1,bt230.2⟩:S49)) (wrap64 (x4+1))) else (none))) else (none)) else (some x3)
def Y67.f (k:Nat) (l0:List (S137)):Option ((List (S49))):=if 0≤(l0.length:Int) then (if ((l0.length:Int):Int).toNat≤17592186044416 then (Y67.l0 k l0 (List.replicate ((l0.length:Int):Int).toNat z49) 0) else (none)) else (none)
theorem Y67.mono_l:∀ k,(∀ y0 y1 y2,LeO (Y67.l0 k y0 y1 y2) (Y67.l0 (k+1) y0 y1 y2))
 | 0=>by intros <;> exact LeO.none _
 | k+1=>by
  have ih0:=Y67.mono_l k
  ·intros
   unfold Y67.l0
   exact mO
theorem Y67.mono:∀ a0 k,LeO (Y67.f k a0) (Y67.f (k+1) a0):=by
 intro a0 k
 have ih0:=Y67.mono_l k
 unfold Y67.f
 exact mO

/-! ### Y75: function 65 -/
def Y75.f (a0_0:Int) (a0_1:Int) (a1_0:Int) (a1_1:Int):Option (Bool):=if a0_0=a1_0 then (if a0_1=a1_1 then (some true) else (none)) else (none)

/-! ### Y68: function 14 -/
def Y68.l0:Nat→List (S49)→List (S49)→Int→Option (Bool)
 | 0,_,_,_=>none
 | k+1,x0,x1,x5=>if x5<(x0.length:Int) then (if 0≤x5 then (if x5<(x1.length:Int) then ((Y75.f ((rd_T49 x0 x5).f0) ((rd_T49 x0 x5).f1) ((rd_T49 x1 x5).f0) ((rd_T49 x1 x5).f1)).bind fun t298=>(if t298=true then (Y68.l0 k x0 x1 (wrap64 (x5+1))) else (none))) else (none)) else (none)) else (some true)
def Y68.f (k:Nat) (l0:List (S49)) (l1:List (S49)):Option (Bool):=if (l0.length:Int)=(l1.length:Int) then (Y68.l0 k l0 l1 0) else (none)
theorem Y68.mono_l:∀ k,(∀ y0 y1 y2,LeO (Y68.l0 k y0 y1 y2) (Y68.l0 (k+1) y0 y1 y2))
 | 0=>by intros <;> exact LeO.none _
 | k+1=>by
  have ih0:=Y68.mono_l k
  ·intros
   unfold Y68.l0
   exact mO
theorem Y68.mono:∀ a0 a1 k,LeO (Y68.f k a0 a1) (Y68.f (k+1) a0 a1):=by
 intro a0 a1 k
 have ih0:=Y68.mono_l k
 unfold Y68.f
 exact mO

/-! ### Y62: function 17 -/
def Y62.l0:Nat→List (S49)→Int→Int→Option (Int × (List (S49)))
 | 0,_,_,_=>none
 | k+1,x0,x1,x5=>if x5<(x0.length:Int) then (if 0≤x5 then ((some (x0.set (x5:Int).toNat (⟨x1,(rd_T49 x0 x5).f1⟩:S49):List (S49))).bind fun y308=>(Y62.l0 k (y308.set (x5:Int).toNat (⟨(rd_T49 y308 x5).f0,wrap64 (x1+1)⟩:S49)) (wrap64 ((wrap64 (x1+1))+1)) (wrap64 (x5+1)))) else (none)) else (some (x1,x0))
def Y62.f (k:Nat) (l0:List (S49)) (a1:Int):Option (Int × (List (S49))):=Y62.l0 k l0 a1 0
theorem Y62.mono_l:∀ k,(∀ y0 y1 y2,LeO (Y62.l0 k y0 y1 y2) (Y62.l0 (k+1) y0 y1 y2))
 | 0=>by intros <;> exact LeO.none _
 | k+1=>by
  have ih0:=Y62.mono_l k
  ·intros
   unfold Y62.l0
   exact mO
theorem Y62.mono:∀ a0 a1 k,LeO (Y62.f k a0 a1) (Y62.f (k+1) a0 a1):=by
 intro a0 a1 k
 have ih0:=Y62.mono_l k
 unfold Y62.f
 exact mO

/-! ### Y63: function 18 -/
def Y63.l0:Nat→List (S49)→Int→Int→Option (Int)
 | 0,_,_,_=>none
 | k+1,x0,x1,x5=>if x5<(x0.length:Int) then (if 0≤x5 then (if ((rd_T49 x0 x5).f0)=x1 then (if ((rd_T49 x0 x5).f1)=(wrap64 (x1+1)) then (Y63.l0 k x0 (wrap64 ((wrap64 (x1+1))+1)) (wrap64 (x5+1))) else (none)) else (none)) else (none)) else (some x1)
def Y63.f (k:Nat) (l0:List (S49)) (a1:Int):Option (Int):=Y63.l0 k l0 a1 0
theorem Y63.mono_l:∀ k,(∀ y0 y1 y2,LeO (Y63.l0 k y0 y1 y2) (Y63.l0 (k+1) y0 y1 y2))
 | 0=>by intros <;> exact LeO.none _
 | k+1=>by
  have ih0:=Y63.mono_l k
  ·intros
   unfold Y63.l0
   exact mO
theorem Y63.mono:∀ a0 a1 k,LeO (Y63.f k a0 a1) (Y63.f (k+1) a0 a1):=by
 intro a0 a1 k
 have ih0:=Y63.mono_l k
 unfold Y63.f
 exact mO
end Go.Proofs.Ytmefchanjoadfaa.P

namespace Go.Proofs.Ytmefchanjoadfaa.Q
open Go.RowKit Go.Proofs.Ytmefchanjoadfaa.P Go.Proofs.YtmefchanjoadfaaW.PrintWords Go.Proofs.YtmefchanjoadfaaW.PrintMore

def seenPut (v:List Mark) (a b:Int):List Mark × Int :=
  if (v.length:Int)>400 then ([],2) else if seenOk v=true then (if isDot a b=true then (seenJoin v [⟨a,b⟩],0) else ([],1)) else ([],1)
theorem seenPut_length (v:List Mark) (a b:Int):(seenPut v a b).1.length≤5:=by
  have:=seenJoin_length v [⟨a,b⟩]
  unfold seenPut
  split
  · simp
  · split
    · split
      · exact this
      · simp
    · simp
theorem spec_SeenPut_ev (v:List Mark) (a b:Int) (hv:v.length≤4611686018427387904):Ev (fun k=>Y16.f k v a b) (seenPut v a b):=by
  have jF:Ev (fun k=>Y16.j0 k v true a b) ([],1):=Ev.step (f:=fun _=>some ([],1)) (fun k=>by simp [Y16.j0]) (Ev.now _)
  have jT:Ev (fun k=>Y16.j0 k v false a b) (seenJoin v [⟨a,b⟩],0):=Ev.step (fun k=>by rw [Y16.j0]) (evNeg (by simp) (Ev.bind (l02Join_ev v [⟨a,b⟩] hv (by simp)) (Ev.now _)))
  unfold Y16.f seenPut
  refine evIte (fun h=>?_) (fun h=>?_)
  · rw [if_pos h];exact Ev.now _
  · rw [if_neg h]
    refine Ev.bind (spec_SeenRight_ev v hv) ?_
    cases seenOk v with
    | false=>exact evNeg (by simp) jF
    | true =>
      refine evPos rfl (evBind1 (l02Dot_is _ _) ?_)
      cases isDot a b with
      | false=>exact jF
      | true=>exact jT
theorem impl_SeenPut_ev (v:List Mark) (a b:Int) (hv:v.length≤4611686018427387904):Ev (fun k=>Y34.f k v a b) (seenPut v a b):=by
  have jF:Ev (fun k=>Y34.j0 k v true a b) ([],1):=Ev.step (f:=fun _=>some ([],1)) (fun k=>by simp [Y34.j0]) (Ev.now _)
  have jT:Ev (fun k=>Y34.j0 k v false a b) (seenJoin v [⟨a,b⟩],0):=Ev.step (fun k=>by rw [Y34.j0]) (evNeg (by simp) (Ev.bind (seenJoin_ev v [⟨a,b⟩] hv (by simp)) (Ev.now _)))
  unfold Y34.f Y50.f seenPut
  refine evBind1 rfl ?_
  by_cases h:(v.length:Int)>400
  · rw [if_pos h];exact evPos (by simpa using h) (Ev.now _)
  · rw [if_neg h]
    refine evNeg (by simpa using h) (Ev.bind (impl_seenRight_ev v hv) ?_)
    cases seenOk v with
    | false=>exact evNeg (by simp) jF
    | true =>
      refine evPos rfl (evBind1 (isDot_is _ _) ?_)
      cases isDot a b with
      | false=>exact jF
      | true=>exact jT
end Go.Proofs.Ytmefchanjoadfaa.Q

namespace Go.Proofs.Ytmefchanjoadfaa.Q
open Go.RowKit Go.Proofs.Ytmefchanjoadfaa.P Go.Proofs.YtmefchanjoadfaaW.PrintWords Go.Proofs.YtmefchanjoadfaaW.PrintMore
theorem l02Dot_ok {b:List Int} {a m z:Int} (h:SrcOk b a m z):∃ x y a' m',Y36.f b a m z=some (x,y,a',m',z)∧SrcOk b a' m' z:=by
  obtain ⟨r,a1,m1,e,g⟩:=one_ok h 15 (by omega)
  unfold Y36.f
  simp only [e,Option.bind_some]
  cases r with
  | true =>
    obtain ⟨p,a2,m2,e2,p0,p1,_,g2⟩:=n_ok g 3 (by omega)
    have p1:=p1 (by omega)
    obtain ⟨q,a3,m3,e3,q0,q1,_,g3⟩:=n_ok g2 4 (by omega)
    have q1:=q1 (by omega)
    rw [if_pos rfl]
    simp only [e2,e3,Option.bind_some]
    rw [if_pos p0,if_pos (by simp only [List.length_cons,List.length_nil];omega),if_pos q0,if_pos (by simp only [List.length_cons,List.length_nil];omega)]
    exact ⟨_,_,a3,m3,rfl,g3⟩
  | false =>
    obtain ⟨p,a2,m2,e2,p0,p1,_,g2⟩:=n_ok g 3 (by omega)
    obtain ⟨q,a3,m3,e3,q0,q1,_,g3⟩:=n_ok g2 4 (by omega)
    rw [if_neg (by simp)]
    simp only [e2,e3,Option.bind_some]
    exact ⟨_,_,a3,m3,rfl,g3⟩
theorem l02Seen_l0 {b:List Int} {z:Int}:∀ (d:Nat) (v:List Mark) (a m:Int),d≤1000→v.length≤5→SrcOk b a m z →
    ∃ v' a' m',Ev (fun k=>Y10.l0 k v (d:Int) b a m z) (v',a',m',z)∧v'.length≤6∧SrcOk b a' m' z
  | 0,v,a,m,hd,hv,h=>by
    obtain ⟨t,a1,m1,e1,g1⟩:=one_ok h 15 (by omega)
    cases t with
    | true =>
      obtain ⟨x,y,a2,m2,e2,g2⟩:=l02Dot_ok g1
      refine ⟨v ++ [⟨x,y⟩],a2,m2,Ev.step (f:=fun _=>some (v ++ [⟨x,y⟩],a2,m2,z)) (fun k=>?_) (Ev.now _),by simp;omega,g2⟩
      simp only [Y10.l0,e1,e2,Option.bind_some]
      rw [if_neg (by omega),if_pos trivial,if_pos (by omega)]
    | false =>
      refine ⟨v,a1,m1,Ev.step (f:=fun _=>some (v,a1,m1,z)) (fun k=>?_) (Ev.now _),by omega,g1⟩
      simp only [Y10.l0,e1,Option.bind_some]
      rw [if_neg (by omega),if_neg (by simp)]
  | d+1,v,a,m,hd,hv,h=>by
    obtain ⟨x,y,a1,m1,e1,g1⟩:=l02Dot_ok h
    have hs:=spec_SeenPut_ev v x y (by omega)
    have hl:=seenPut_length v x y
    have hw:wrap64 (((d+1:Nat):Int)-1)=(d:Int):=by rw [w64 (by omega) (by omega)];omega
    by_cases c:(seenPut v x y).2=0
    · obtain ⟨v',a2,m2,e2,h2,g2⟩:=l02Seen_l0 d (seenPut v x y).1 a1 m1 (by omega) hl g1
      refine ⟨v',a2,m2,Ev.step (fun k=>by simp only [Y10.l0,e1,Option.bind_some,hw];rw [if_pos (by omega)]) (Ev.bind hs (evPos c e2)),h2,g2⟩
    · obtain ⟨v',a2,m2,e2,h2,g2⟩:=l02Seen_l0 d v a1 m1 (by omega) hv g1
      refine ⟨v',a2,m2,Ev.step (fun k=>by simp only [Y10.l0,e1,Option.bind_some,hw];rw [if_pos (by omega)]) (Ev.bind hs (evNeg c e2)),h2,g2⟩
theorem l02Seen_ok {b:List Int} {a m z:Int} (h:SrcOk b a m z):∃ v a' m',Ev (fun k=>Y10.f k b a m z) (v,a',m',z)∧v.length≤6∧SrcOk b a' m' z:=by
  obtain ⟨r,a1,m1,e,r0,r1,_,g⟩:=n_ok h 5 (by omega)
  have r1:=r1 (by omega)
  obtain ⟨d,rfl⟩:=Int.eq_ofNat_of_zero_le r0
  obtain ⟨v,a2,m2,e2,h2,g2⟩:=l02Seen_l0 d [] a1 m1 (by omega) (by simp) g
  exact ⟨v,a2,m2,evBind1 e e2,h2,g2⟩
theorem DrawSeenJoin_ok (l:List Int) (hl:l.length≤1048576):∃ a b,Ev (fun k=>Y48.f k l) (a,b)∧a.length≤6∧b.length≤6:=by
  obtain ⟨m,z,e,g⟩:=source_ok l hl
  obtain ⟨a,a1,m1,e1,h1,g1⟩:=l02Seen_ok g
  obtain ⟨b,a2,m2,e2,h2,g2⟩:=l02Seen_ok g1
  exact ⟨a,b,Ev.bind e (Ev.bind e1 (Ev.bind e2 (Ev.now _))),h1,h2⟩
theorem DrawSeenLess_ok (l:List Int) (hl:l.length≤1048576):∃ a b,Ev (fun k=>Y54.f k l) (a,b)∧a.length≤6∧b.length≤6:=by
  obtain ⟨a,b,e,h1,h2⟩:=DrawSeenJoin_ok l hl
  exact ⟨a,b,Ev.bind e (Ev.now _),h1,h2⟩
theorem DrawSeenHas_ok (l:List Int) (hl:l.length≤1048576):∃ v x y,Ev (fun k=>Y43.f k l) (v,x,y)∧v.length≤6:=by
  obtain ⟨m,z,e,g⟩:=source_ok l hl
  obtain ⟨v,a1,m1,e1,h1,g1⟩:=l02Seen_ok g
  obtain ⟨x,y,a2,m2,e2,g2⟩:=l02Dot_ok g1
  exact ⟨v,x,y,Ev.bind e (Ev.bind e1 (evBind1 e2 (Ev.now _))),h1⟩
theorem DrawSeenPut_ok (l:List Int) (hl:l.length≤1048576):∃ v x y,Ev (fun k=>Y55.f k l) (v,x,y)∧v.length≤6:=by
  obtain ⟨v,x,y,e,h⟩:=DrawSeenHas_ok l hl
  exact ⟨v,x,y,Ev.bind e (Ev.now _),h⟩
theorem DrawSeenOf_ok (l:List Int) (hl:l.length≤1048576):∃ v n,Ev (fun k=>Y53.f k l) (v,n)∧v.length≤6:=by
  obtain ⟨m,z,e,g⟩:=source_ok l hl
  obtain ⟨v,a1,m1,e1,h1,g1⟩:=l02Seen_ok g
  obtain ⟨n,a2,m2,e2,_⟩:=n_ok g1 7 (by omega)
  exact ⟨v,n,Ev.bind e (Ev.bind e1 (evBind1 e2 (Ev.now _))),h1⟩
theorem DrawSeenBytes_ok (l:List Int) (hl:l.length≤1048576):∃ v,Ev (fun k=>Y44.f k l) v∧v.length≤6:=by
  obtain ⟨m,z,e,g⟩:=source_ok l hl
  obtain ⟨v,a1,m1,e1,h1,g1⟩:=l02Seen_ok g
  exact ⟨v,Ev.bind e (Ev.bind e1 (Ev.now _)),h1⟩
theorem extract_le (t:ByteArray) (i j:Nat):(t.extract i j).size≤t.size:=by
  rw [ByteArray.size_extract];omega
theorem spoil_j0 {b:List Int} {z:Int} (t:ByteArray) (ht:t.size≤1000000) (i:Nat) (hi:i≤t.size) (c:ByteArray) (hc:c.size=1) (q:Bool) (hq:q=false→i<t.size) (a m:Int) (h:SrcOk b a m z) :
    ∃ t' a' m',Ev (fun k=>Y23.j0 k t (i:Int) c q b a m z) (t',a',m',z)∧SrcOk b a' m' z:=by
  have l1:=extract_le t 0 i
  have l2:=extract_le t i t.size
  have l3:=extract_le t (i+1) t.size
  cases q with
  | true =>
    refine ⟨_,a,m,Ev.step (f:=fun _=>some (((t.extract 0 i) ++ c) ++ (t.extract i t.size),a,m,z)) (fun k=>?_) (Ev.now _),h⟩
    simp only [Y23.j0,Int.toNat_natCast]
    rw [if_pos trivial,if_pos (by omega),if_pos (by omega),if_pos (by omega),if_pos (by omega)]
  | false =>
    have hi2:=hq rfl
    have hw:wrap64 ((i:Int)+1)=((i+1:Nat):Int):=by rw [w64 (by omega) (by omega)];omega
    obtain ⟨r,a1,m1,e1,g1⟩:=one_ok h 2 (by omega)
    cases r with
    | true =>
      refine ⟨_,a1,m1,Ev.step (f:=fun _=>some ((t.extract 0 i) ++ (t.extract (i+1) t.size),a1,m1,z)) (fun k=>?_) (Ev.now _),g1⟩
      simp only [Y23.j0,e1,Option.bind_some,hw,Int.toNat_natCast]
      rw [if_neg (by simp),if_pos trivial,if_pos (by omega),if_pos (by omega),if_pos (by omega),if_pos (by omega),if_pos (by omega)]
    | false =>
      refine ⟨_,a1,m1,Ev.step (f:=fun _=>some (((t.extract 0 i) ++ c) ++ (t.extract (i+1) t.size),a1,m1,z)) (fun k=>?_) (Ev.now _),g1⟩
      simp only [Y23.j0,e1,Option.bind_some,hw,Int.toNat_natCast]
      rw [if_neg (by simp),if_neg (by simp),if_pos (by omega),if_pos (by omega),if_pos (by omega),if_pos (by omega),if_pos (by omega),if_pos (by omega)]
theorem spoil_ok {b:List Int} {a m z:Int} (h:SrcOk b a m z) (t:ByteArray) (ht:t.size≤1000000):∃ t' a' m',Ev (fun k=>Y23.f k b a m z t) (t',a',m',z)∧SrcOk b a' m' z:=by
  have hw:wrap64 ((t.size:Int)+1)=(t.size:Int)+1:=w64 (by omega) (by omega)
  have key:∃ r a' m',Y2.f b a m z ((t.size:Int)+1)=some (r,a',m',z)∧0≤r∧r≤(t.size:Int)∧SrcOk b a' m' z:=by
    obtain ⟨r,a1,m1,e,r0,r1,r2,g⟩:=n_ok h ((t.size:Int)+1) (by omega)
    refine ⟨r,a1,m1,e,r0,?_,g⟩
    by_cases c:(t.size:Int)+1≤1
    · have:=r2 c;omega
    · have:=r1 (by omega);omega
  obtain ⟨r,a1,m1,e1,r0,r1,g1⟩:=key
  obtain ⟨i,rfl⟩:=Int.eq_ofNat_of_zero_le r0
  obtain ⟨p,a2,m2,e2,p0,p1,_,g2⟩:=n_ok g1 17 (by omega)
  have p1:=p1 (by omega)
  have hs:(strOfNums ([bt (⟨#[32,10,48,97,45,110,44,58,93,255,40,120,126,49,128,225,59]⟩:ByteArray) p]:List Int)).size=1:=by rw [strOfNums_size];rfl
  by_cases c:(i:Int)=(t.size:Int)
  · obtain ⟨t',a3,m3,e3,g3⟩:=spoil_j0 t ht i (by omega) _ hs true (by simp) a2 m2 g2
    refine ⟨t',a3,m3,?_,g3⟩
    unfold Y23.f
    rw [hw]
    exact evBind1 e1 (evBind1 e2 (evPos p0 (evPos p1 (evBind1 rfl (evPos c e3)))))
  · obtain ⟨q,a3,m3,e3,g3⟩:=one_ok g2 3 (by omega)
    obtain ⟨t',a4,m4,e4,g4⟩:=spoil_j0 t ht i (by omega) _ hs q (fun _=>by omega) a3 m3 g3
    refine ⟨t',a4,m4,?_,g4⟩
    unfold Y23.f
    rw [hw]
    exact evBind1 e1 (evBind1 e2 (evPos p0 (evPos p1 (evBind1 rfl (evNeg c (evBind1 e3 e4))))))
theorem foldl_size:∀ (l:List Mark) (t:ByteArray),(l.foldl (fun t m=>t ++ markBytes m) t).size≤t.size+20*l.length
  | [],t=>by simp
  | m :: r,t=>by
    have:=foldl_size r (t ++ markBytes m)
    have p:=putNum_size m.f0
    have q:=putNum_size m.f1
    rw [List.foldl_cons,List.length_cons]
    unfold markBytes at this
    unfold markBytes
    rw [ByteArray.size_append,ByteArray.size_append] at this
    omega
theorem seenBytesOut_size (v:List Mark):(seenBytesOut v).size≤200:=by
  unfold seenBytesOut
  split
  · rename_i h
    have h5:=seenOk_length h
    have:=foldl_size v (putNum (v.length:Int))
    have p:=putNum_size (v.length:Int)
    unfold seenBytes
    omega
  · show (0:Nat)≤200
    omega
theorem DrawSeenRead_ok (l:List Int) (hl:l.length≤1048576):∃ t,Ev (fun k=>Y42.f k l) t:=by
  obtain ⟨m,z,e,g⟩:=source_ok l hl
  obtain ⟨v,a1,m1,e1,h1,g1⟩:=l02Seen_ok g
  have hb:=spec_SeenBytes_ev v (by omega)
  have hz:=seenBytesOut_size v
  generalize seenBytesOut v=t at hb hz
  obtain ⟨r,a2,m2,e2,r0,r1,_,g2⟩:=n_ok g1 4 (by omega)
  by_cases c:r=0
  · obtain ⟨t',a3,m3,e3,_⟩:=spoil_ok g2 t (by omega)
    exact ⟨t',Ev.bind e (Ev.bind e1 (Ev.bind hb (evBind1 e2 (evPos c (Ev.bind e3 (Ev.now _))))))⟩
  · by_cases c1:r=1
    · have hw:wrap64 ((t.size:Int)+1)=(t.size:Int)+1:=w64 (by omega) (by omega)
      obtain ⟨q,a3,m3,e3,q0,q1,q2,g3⟩:=n_ok g2 ((t.size:Int)+1) (by omega)
      have hq:q≤(t.size:Int):=by
        by_cases c:(t.size:Int)+1≤1
        · have:=q2 c;omega
        · have:=q1 (by omega);omega
      refine ⟨t.extract 0 q.toNat,Ev.bind e (Ev.bind e1 (Ev.bind hb (evBind1 e2 (evNeg c (evPos c1 ?_)))))⟩
      simp only [hw]
      exact evBind1 e3 (evPos q0 (evPos hq (Ev.now _)))
    · exact ⟨t,Ev.bind e (Ev.bind e1 (Ev.bind hb (evBind1 e2 (evNeg c (evNeg c1 (Ev.now _))))))⟩
end Go.Proofs.Ytmefchanjoadfaa.Q

namespace Go.Proofs.Ytmefchanjoadfaa.Q
open Go.RowKit Go.Proofs.Ytmefchanjoadfaa.P Go.Proofs.YtmefchanjoadfaaW.PrintWords Go.Proofs.YtmefchanjoadfaaW.PrintMore

def lessList (a b:List Mark):Bool:=a.all fun m=>seenHas b m.f0 m.f1
def lessOut (a b:List Mark):Bool:=seenOk a && (seenOk b && lessList a b)
theorem spec_SeenLess_l0 (l b:List Mark) (hl:l.length≤4611686018427387904) (hb:b.length≤4611686018427387904):∀ (s:List Mark) (i:Nat),l.drop i=s→i≤l.length→Ev (fun k=>Y17.l0 k l b (i:Int)) (lessList s b)
  | [],i,h,hi=>by
    have:=dropNil' h hi
    refine Ev.step (f:=fun _=>some true) (fun k=>?_) (Ev.now _)
    simp only [Y17.l0]
    rw [if_neg (by omega)]
  | m :: s,i,h,hi=>by
    obtain ⟨h1,h2,h3⟩:=dropCons h z49
    have hr:rd_T49 l (i:Int)=m:=by simpa [rd_T49] using h2
    refine Ev.step (fun k=>by simp only [Y17.l0,hr];rw [if_pos (show (i:Int)<l.length by omega),if_pos (show (0:Int)≤i by omega),w64 (x:=(i:Int)+1) (by omega) (by omega)]) (Ev.bind (l02Of_ev b m.f0 hb) ?_)
    have ih:=spec_SeenLess_l0 l b hl hb s (i+1) h3 (by omega)
    refine evIte (fun h=>?_) (fun h=>?_)
    · have:seenHas b m.f0 m.f1=false:=by simp [seenHas];omega
      simp only [lessList,List.all_cons,this,Bool.false_and];exact Ev.now _
    · have:seenHas b m.f0 m.f1=true:=by simp [seenHas];omega
      simp only [lessList,List.all_cons,this,Bool.true_and];exact ih
theorem spec_SeenLess_ev (a b:List Mark) (ha:a.length≤4611686018427387904) (hb:b.length≤4611686018427387904):Ev (fun k=>Y17.f k a b) (lessOut a b):=by
  unfold Y17.f lessOut
  refine Ev.bind (spec_SeenRight_ev a ha) ?_
  cases seenOk a with
  | false=>exact evNeg (by simp) (Ev.step (f:=fun _=>some false) (fun k=>by simp [Y17.j0]) (Ev.now _))
  | true =>
    refine evPos rfl (Ev.bind (spec_SeenRight_ev b hb) ?_)
    cases seenOk b with
    | false=>exact Ev.step (f:=fun _=>some false) (fun k=>by simp [Y17.j0]) (Ev.now _)
    | true=>exact Ev.step (f:=fun k=>Y17.l0 k a b 0) (fun k=>by simp [Y17.j0]) (spec_SeenLess_l0 a b ha hb a 0 rfl (by omega))
theorem seenLess_l0 (l b:List Mark) (hl:l.length≤4611686018427387904) (hb:b.length≤4611686018427387904):∀ (s:List Mark) (i:Nat),l.drop i=s→i≤l.length →
    ∃ r,Ev (fun k=>Y5.l0 k l (l.length:Int) (i:Int) b) r∧(!(decide (r≥0)))=lessList s b
  | [],i,h,hi=>by
    have:=dropNil' h hi
    refine ⟨-1,Ev.step (f:=fun _=>some (-1)) (fun k=>?_) (Ev.now _),by simp [lessList]⟩
    simp only [Y5.l0]
    rw [if_neg (by omega)]
  | m :: s,i,h,hi=>by
    obtain ⟨h1,h2,h3⟩:=dropCons h z49
    have hr:rd_T49 l (i:Int)=m:=by simpa [rd_T49] using h2
    have hst:∀ r,Ev (fun k=>if (!seenHas b m.f0 m.f1)=true then some (i:Int) else Y5.l0 k l (l.length:Int) ((i+1:Nat):Int) b) r →
        Ev (fun k=>Y5.l0 k l (l.length:Int) (i:Int) b) r:=fun r hr2=>by
      refine Ev.step (fun k=>by simp only [Y5.l0,hr,Y56.f];rw [if_pos (show (i:Int)<l.length by omega),if_pos (show (0:Int)≤i by omega),if_pos (show (i:Int)<l.length by omega),w64 (x:=(i:Int)+1) (by omega) (by omega)]) ?_
      exact Ev.bind (Ev.bind (seenHas_ev b m.f0 m.f1 hb) (Ev.now _)) hr2
    cases hs:seenHas b m.f0 m.f1 with
    | true =>
      obtain ⟨r,hr1,hr2⟩:=seenLess_l0 l b hl hb s (i+1) h3 (by omega)
      refine ⟨r,hst r (evNeg (by simp [hs]) hr1),by rw [hr2];simp [lessList,hs]⟩
    | false =>
      refine ⟨(i:Int),hst _ (evPos (by simp [hs]) (Ev.now _)),?_⟩
      simp [lessList,hs]
theorem seenLess_ev (a b:List Mark) (ha:a.length≤4611686018427387904) (hb:b.length≤4611686018427387904):Ev (fun k=>Y60.f k a b) (lessList a b):=by
  unfold Y60.f Y24.f Y5.f
  obtain ⟨r,hr1,hr2⟩:=seenLess_l0 a b ha hb a 0 rfl (by omega)
  rw [← hr2]
  exact Ev.bind (Ev.bind hr1 (Ev.now _)) (Ev.now _)
theorem impl_SeenLess_ev (a b:List Mark) (ha:a.length≤4611686018427387904) (hb:b.length≤4611686018427387904):Ev (fun k=>Y32.f k a b) (lessOut a b):=by
  unfold Y32.f lessOut
  refine Ev.bind (impl_SeenRight_ev a ha) ?_
  cases seenOk a with
  | false=>exact evNeg (by simp) (Ev.now _)
  | true =>
    refine evPos rfl (Ev.bind (impl_SeenRight_ev b hb) ?_)
    cases seenOk b with
    | false=>exact evNeg (by simp) (Ev.now _)
    | true=>exact evPos rfl (Ev.bind (seenLess_ev a b ha hb) (Ev.now _))
end Go.Proofs.Ytmefchanjoadfaa.Q

namespace Go.Proofs.Ytmefchanjoadfaa.Q
open Go.RowKit Go.Proofs.Ytmefchanjoadfaa.P Go.Proofs.YtmefchanjoadfaaW.PrintWords Go.Proofs.YtmefchanjoadfaaW.PrintMore

/-- The marks of a function, at the nodes from one on. -/
def fromFn (f:Int→Int):Nat→Int→List Mark
  | 0,_=>[]
  | k+1,n=>(if f n>0 then [⟨n,f n⟩] else []) ++ fromFn f k (n+1)
theorem joinFrom_fn (a b:List Mark):∀ (k:Nat) (n:Int),joinFrom a b k n=fromFn (fun n=>mx (seenOf a n) (seenOf b n)) k n
  | 0,_=>rfl
  | k+1,n=>by simp only [joinFrom,fromFn,joinFrom_fn a b k (n+1)]
theorem seenJoin_fn (a b:List Mark):seenJoin a b=fromFn (fun n=>mx (seenOf a n) (seenOf b n)) 5 1:=joinFrom_fn a b 5 1
theorem fromFn_congr {f g:Int→Int}:∀ (k:Nat) (n:Int),(∀ m,n≤m→m<n+k→f m=g m)→fromFn f k n=fromFn g k n
  | 0,_,_=>rfl
  | k+1,n,h=>by
    simp only [fromFn]
    rw [h n (by omega) (by omega),fromFn_congr k (n+1) (fun m h1 h2=>h m (by omega) (by omega))]
theorem seenOf_append (a b:List Mark) (n:Int) (h:∀ m ∈ a,m.f0≠n):seenOf (a ++ b) n=seenOf b n:=by
  induction a with
  | nil=>rfl
  | cons m r ih =>
    rw [List.cons_append,seenOf,if_neg (h m List.mem_cons_self)]
    exact ih (fun x hx=>h x (List.mem_cons_of_mem _ hx))
theorem fromFn_mem {f:Int→Int}:∀ (k:Nat) (n:Int),∀ m ∈ fromFn f k n,n≤m.f0∧m.f0<n+k∧m.f1=f m.f0∧0<m.f1
  | 0,_,m,hm=>by simp [fromFn] at hm
  | k+1,n,m,hm=>by
    simp only [fromFn,List.mem_append] at hm
    rcases hm with hm | hm
    · split at hm
      · simp only [List.mem_singleton] at hm
        subst hm
        exact ⟨by simp,by simp;omega,rfl,by assumption⟩
      · simp at hm
    · have:=fromFn_mem k (n+1) m hm
      exact ⟨by omega,by omega,this.2.2⟩
theorem seenOf_none (l:List Mark) (n:Int) (h:∀ m ∈ l,m.f0≠n):seenOf l n=0:=by
  have:=seenOf_append l [] n h
  rwa [List.append_nil] at this
theorem seenOf_fn {f:Int→Int}:∀ (k:Nat) (n m:Int),n≤m→m<n+k→seenOf (fromFn f k n) m=if f m>0 then f m else 0
  | 0,_,_,h1,h2=>by omega
  | k+1,n,m,h1,h2=>by
    simp only [fromFn]
    by_cases hm:m=n
    · subst hm
      by_cases hf:f m>0
      · rw [if_pos hf,if_pos hf,List.cons_append,seenOf,if_pos rfl]
      · rw [if_neg hf,if_neg hf,List.nil_append]
        exact seenOf_none _ _ (fun x hx=>by have:=(fromFn_mem k (m+1) x hx).1;omega)
    · rw [seenOf_append _ _ _ (fun x hx=>by
        split at hx
        · simp only [List.mem_singleton] at hx
          subst hx
          exact fun e=>hm e.symm
        · simp at hx)]
      exact seenOf_fn k (n+1) m (by omega) (by omega)
theorem okFrom_fn {f:Int→Int}:∀ (k:Nat) (n p:Int),1≤n→n+k≤6→p<n→(∀ m,n≤m→m<n+k→f m≤1000000)→okFrom p (fromFn f k n)=true
  | 0,_,_,_,_,_,_=>rfl
  | k+1,n,p,h1,h2,h3,h4=>by
    have ih:=fun q hq=>okFrom_fn (f:=f) k (n+1) q (by omega) (by omega) hq (fun m a b=>h4 m (by omega) (by omega))
    simp only [fromFn]
    by_cases hf:f n>0
    · rw [if_pos hf,List.cons_append,List.nil_append]
      simp only [okFrom,Bool.and_eq_true,decide_eq_true_eq,isDot_iff]
      exact ⟨⟨by omega,by have:=h4 n (by omega) (by omega);omega⟩,h3,ih n (by omega)⟩
    · rw [if_neg hf,List.nil_append]
      exact ih p (by omega)
/-- A right list is the list of its function. -/
theorem fn_of_ok:∀ (l:List Mark) (k:Nat) (n:Int),n+k=6→okFrom (n-1) l=true→l=fromFn (seenOf l) k n
  | [],0,n,_,_=>rfl
  | [],k+1,n,h,ho=>by
    have ih:=fn_of_ok [] k (n+1) (by omega) rfl
    have hz:seenOf [] n=0:=rfl
    simp only [fromFn,hz]
    rw [if_neg (by omega),List.nil_append]
    exact ih
  | m :: r,0,n,h,ho=>by
    simp only [okFrom,Bool.and_eq_true,decide_eq_true_eq,isDot_iff] at ho
    omega
  | m :: r,k+1,n,h,ho=>by
    have ho':=ho
    simp only [okFrom,Bool.and_eq_true,decide_eq_true_eq,isDot_iff] at ho
    have hgt:∀ x ∈ r,m.f0<x.f0:=fun x hx=>(okFrom_mem r m.f0 ho.2.2 x hx).2
    by_cases hn:m.f0=n
    · have ih:=fn_of_ok r k (n+1) (by omega) (by rw [show n+1-1=m.f0 from by omega];exact ho.2.2)
      have e1:seenOf (m :: r) n=m.f1:=by rw [seenOf,if_pos hn]
      have e2:fromFn (seenOf (m :: r)) k (n+1)=fromFn (seenOf r) k (n+1):=fromFn_congr k (n+1) (fun q h1 h2=>by rw [seenOf,if_neg (by omega)])
      simp only [fromFn,e1,e2]
      rw [if_pos (by omega),← ih,← hn]
      rfl
    · have hz:seenOf (m :: r) n=0:=seenOf_none _ _ (fun x hx=>by
        rcases List.mem_cons.1 hx with rfl | hx
        · exact hn
        · have:=hgt x hx
          omega)
      have ih:=fn_of_ok (m :: r) k (n+1) (by omega) (by
        simp only [okFrom,Bool.and_eq_true,decide_eq_true_eq,isDot_iff]
        exact ⟨ho.1,by omega,ho.2.2⟩)
      simp only [fromFn,hz]
      rw [if_neg (by omega),List.nil_append]
      exact ih
theorem ok_fn {v:List Mark} (h:seenOk v=true):v=fromFn (seenOf v) 5 1:=fn_of_ok v 5 1 (by omega) h
/-- A right list's function: where it is what. -/
theorem ok_range {v:List Mark} (h:seenOk v=true) (n:Int):0≤seenOf v n∧seenOf v n≤1000000∧(¬ (1≤n∧n≤5)→seenOf v n=0):=by
  have key:∀ (l:List Mark) (p:Int),okFrom p l=true→0≤seenOf l n∧seenOf l n≤1000000∧(¬ (1≤n∧n≤5)→seenOf l n=0):=by
    intro l
    induction l with
    | nil=>intro p _;exact ⟨Int.le_refl _,by show (0:Int)≤1000000;omega,fun _=>rfl⟩
    | cons m r ih =>
      intro p ho
      simp only [okFrom,Bool.and_eq_true,decide_eq_true_eq,isDot_iff] at ho
      simp only [seenOf]
      split
      · rename_i e
        exact ⟨by omega,by omega,fun hn=>by omega⟩
      · exact ih m.f0 ho.2.2
  exact key v 0 h
theorem ok_mem {v:List Mark} (h:seenOk v=true):∀ m ∈ v,seenOf v m.f0=m.f1:=by
  have key:∀ (l:List Mark) (p:Int),okFrom p l=true→∀ m ∈ l,seenOf l m.f0=m.f1:=by
    intro l
    induction l with
    | nil=>intro p _ m hm;simp at hm
    | cons x r ih =>
      intro p ho m hm
      simp only [okFrom,Bool.and_eq_true,decide_eq_true_eq,isDot_iff] at ho
      rcases List.mem_cons.1 hm with rfl | hm
      · rw [seenOf,if_pos rfl]
      · have:=(okFrom_mem r x.f0 ho.2.2 m hm).2
        rw [seenOf,if_neg (by omega)]
        exact ih x.f0 ho.2.2 m hm
  exact key v 0 h
theorem mx_le {a b c:Int} (h1:a≤c) (h2:b≤c):mx a b≤c:=by unfold mx;split <;> omega
theorem mx_comm (a b:Int):mx a b=mx b a:=by unfold mx;split <;> split <;> omega
theorem le_mx (a b:Int):a≤mx a b∧b≤mx a b:=by unfold mx;split <;> omega
theorem join_ok {a b:List Mark} (ha:seenOk a=true) (hb:seenOk b=true):seenOk (seenJoin a b)=true:=by
  rw [seenJoin_fn]
  exact okFrom_fn 5 1 0 (by omega) (by omega) (by omega) (fun m _ _=>mx_le (ok_range ha m).2.1 (ok_range hb m).2.1)
theorem join_of {a b:List Mark} (ha:seenOk a=true) (hb:seenOk b=true) (n:Int):seenOf (seenJoin a b) n=mx (seenOf a n) (seenOf b n):=by
  by_cases h:1≤n∧n≤5
  · rw [seenJoin_fn,seenOf_fn 5 1 n h.1 (by omega)]
    have h1:=(ok_range ha n).1
    have:=(le_mx (seenOf a n) (seenOf b n)).1
    split
    · rfl
    · omega
  · rw [(ok_range (join_ok ha hb) n).2.2 h,(ok_range ha n).2.2 h,(ok_range hb n).2.2 h]
    rfl
theorem join_comm (a b:List Mark):seenJoin a b=seenJoin b a:=by
  rw [seenJoin_fn,seenJoin_fn]
  exact fromFn_congr 5 1 (fun m _ _=>mx_comm _ _)
theorem ok_ext {a b:List Mark} (ha:seenOk a=true) (hb:seenOk b=true) (h:∀ n,seenOf a n=seenOf b n):a=b:=by
  rw [ok_fn ha,ok_fn hb]
  exact fromFn_congr 5 1 (fun m _ _=>h m)
end Go.Proofs.Ytmefchanjoadfaa.Q

namespace Go.Proofs.Ytmefchanjoadfaa.P
open Go.RowKit Go.Proofs.YtmefchanjoadfaaW.PrintWords Go.Proofs.YtmefchanjoadfaaW.PrintLast Go.Proofs.YtmefchanjoadfaaW.PrintMore
attribute [local go_sem] max2_int min2_int max_two min_two max_three min_three max_four min_four   -- for this text's walks alone
set_option linter.unusedVariables false
set_option linter.unusedSimpArgs false

/-! ### Y45: function 46 -/
mutual
def Y45.j0:Nat→ByteArray→Bool→Option (Bool)
 | 0,_,_=>none
 | k+1,x0,x12=>if x12=true then (some false) else (Y45.l0 k x0 0)
def Y45.l0:Nat→ByteArray→Int→Option (Bool)
 | 0,_,_=>none
 | k+1,x0,x3=>if x3<(x0.size:Int) then (if 0≤x3 then (if (bt x0 x3)≥97 then (if ((bt x0 x3)≤122) then (Y45.l0 k x0 (wrap64 (x3+1))) else (if x3=0 then (some false) else (if (bt x0 x3)≥48 then (if ((bt x0 x3)≤57) then (Y45.l0 k x0 (wrap64 (x3+1))) else (if (bt x0 x3)=95 then (Y45.l0 k x0 (wrap64 (x3+1))) else (some false))) else (if (bt x0 x3)=95 then (Y45.l0 k x0 (wrap64 (x3+1))) else (some false))))) else (if x3=0 then (some false) else (if (bt x0 x3)≥48 then (if ((bt x0 x3)≤57) then (Y45.l0 k x0 (wrap64 (x3+1))) else (if (bt x0 x3)=95 then (Y45.l0 k x0 (wrap64 (x3+1))) else (some false))) else (if (bt x0 x3)=95 then (Y45.l0 k x0 (wrap64 (x3+1))) else (some false))))) else (none)) else (some true)
end
def Y45.f (k:Nat) (a0:ByteArray):Option (Bool):=if (a0.size:Int)<1 then (Y45.j0 k a0 true) else (Y45.j0 k a0 (decide ((a0.size:Int)>20)))
theorem Y45.mono_l:∀ k,(∀ y0 y1,LeO (Y45.j0 k y0 y1) (Y45.j0 (k+1) y0 y1))∧(∀ y0 y1,LeO (Y45.l0 k y0 y1) (Y45.l0 (k+1) y0 y1))
 | 0=>by refine ⟨?_,?_⟩ <;> intros <;> exact LeO.none _
 | k+1=>by
  obtain ⟨ih0,ih1⟩:=Y45.mono_l k
  refine ⟨?_,?_⟩
  ·intros
   unfold Y45.j0
   exact mO
  ·intros
   unfold Y45.l0
   exact mO
theorem Y45.mono:∀ a0 k,LeO (Y45.f k a0) (Y45.f (k+1) a0):=by
 intro a0 k
 obtain ⟨ih0,ih1⟩:=Y45.mono_l k
 unfold Y45.f
 exact mO

/-! ### Y41: function 56 -/
mutual
def Y41.j0:Nat→ByteArray→Bool→Option (Bool)
 | 0,_,_=>none
 | k+1,x0,x18=>if x18=true then (some false) else (Y41.l0 k x0 (x0.size:Int) 0)
def Y41.l0:Nat→ByteArray→Int→Int→Option (Bool)
 | 0,_,_,_=>none
 | k+1,x0,x20,x21=>if x21<x20 then (if 0≤x21 then (if x21<(x0.size:Int) then (if (bt x0 x21)≥97 then (if (bt x0 x21)≤122 then (Y41.l0 k x0 x20 (wrap64 (x21+1))) else (if (bt x0 x21)≥48 then (if (bt x0 x21)≤57 then (Y41.l0 k x0 x20 (wrap64 (x21+1))) else (if ((bt x0 x21)=95) then (Y41.l0 k x0 x20 (wrap64 (x21+1))) else (some false))) else (if ((bt x0 x21)=95) then (Y41.l0 k x0 x20 (wrap64 (x21+1))) else (some false)))) else (if (bt x0 x21)≥48 then (if (bt x0 x21)≤57 then (Y41.l0 k x0 x20 (wrap64 (x21+1))) else (if ((bt x0 x21)=95) then (Y41.l0 k x0 x20 (wrap64 (x21+1))) else (some false))) else (if ((bt x0 x21)=95) then (Y41.l0 k x0 x20 (wrap64 (x21+1))) else (some false)))) else (none)) else (none)) else (some true)
end
def Y41.f (k:Nat) (a0:ByteArray):Option (Bool):=(Y66.f a0).bind fun t127=>((Y61.f t127 1 20).bind fun t128=>(if t128=true then (if 0<(a0.size:Int) then (if (bt a0 0)<97 then (Y41.j0 k a0 true) else (Y41.j0 k a0 (decide ((bt a0 0)>122)))) else (none)) else (Y41.j0 k a0 true)))
theorem Y41.mono_l:∀ k,(∀ y0 y1,LeO (Y41.j0 k y0 y1) (Y41.j0 (k+1) y0 y1))∧(∀ y0 y1 y2,LeO (Y41.l0 k y0 y1 y2) (Y41.l0 (k+1) y0 y1 y2))
 | 0=>by refine ⟨?_,?_⟩ <;> intros <;> exact LeO.none _
 | k+1=>by
  obtain ⟨ih0,ih1⟩:=Y41.mono_l k
  refine ⟨?_,?_⟩
  ·intros
   unfold Y41.j0
   exact mO
  ·intros
   unfold Y41.l0
   exact mO
theorem Y41.mono:∀ a0 k,LeO (Y41.f k a0) (Y41.f (k+1) a0):=by
 intro a0 k
 obtain ⟨ih0,ih1⟩:=Y41.mono_l k
 unfold Y41.f
 exact mO
end Go.Proofs.Ytmefchanjoadfaa.P

namespace Go.Proofs.Ytmefchanjoadfaa.Q
open Go.RowKit Go.Proofs.Ytmefchanjoadfaa.P Go.Proofs.YtmefchanjoadfaaW.PrintWords Go.Proofs.YtmefchanjoadfaaW.PrintMore

theorem bt_of {s:ByteArray} {i:Nat} {c:Int} (h:(bytesOf s).getD i 0=c):bt s (i:Int)=c:=by
  rw [← rd_bytesOf];simpa [rd] using h
end Go.Proofs.Ytmefchanjoadfaa.Q

namespace Go.Proofs.Ytmefchanjoadfaa.Q
open Go.RowKit Go.Proofs.Ytmefchanjoadfaa.P Go.Proofs.YtmefchanjoadfaaW.PrintWords Go.Proofs.YtmefchanjoadfaaW.PrintMore

theorem bits_xor_nat (k:IntKind) (j:Nat) (hj:j≤k.bits) (hk:∀ n:Int,0≤n→n<2 ^ j→k.wrap n=n) (a b:Nat) (ha:a<2 ^ j) (hb:b<2 ^ j):bits .xor k a b=((a ^^^ b:Nat):Int):=by
  have hp:2 ^ j≤2 ^ k.bits:=Nat.pow_le_pow_right (by decide) hj
  have ha':a % 2 ^ k.bits=a:=Nat.mod_eq_of_lt (Nat.lt_of_lt_of_le ha hp)
  have hb':b % 2 ^ k.bits=b:=Nat.mod_eq_of_lt (Nat.lt_of_lt_of_le hb hp)
  simp only [bits,BitVec.ofInt_natCast,BitVec.toNat_xor,BitVec.toNat_ofNat,ha',hb']
  exact hk _ (Int.natCast_nonneg _) (by exact_mod_cast Nat.xor_lt_two_pow ha hb)
end Go.Proofs.Ytmefchanjoadfaa.Q

namespace Go.Proofs.Ytmefchanjoadfaa.Q
open Go.RowKit Go.Proofs.Ytmefchanjoadfaa.P Go.Proofs.YtmefchanjoadfaaW.PrintWords Go.Proofs.YtmefchanjoadfaaW.PrintMore

def unzig (u:Int):Int:=if u % 2=1 then -(u / 2)-1 else u / 2
/-- f more bytes; the bytes left; the number so far; the place; the weight of the next seven bits. -/
def numGo:Nat→List Int→Int→Int→Int→Int × Int × Int
  | 0,_,_,_,_=>(0,0,3)
  | _+1,[],_,_,_=>(0,0,4)
  | f+1,c :: r,u,p,w =>
    if f=0∧c>1 then (0,0,3)
    else if c<128 then (if c=0∧f<9 then (0,0,3) else (unzig (u+c % 128*w),p+1,0))
    else numGo f r (u+c % 128*w) (p+1) (w*128)
def getNum (s:ByteArray) (at_:Int):Int × Int × Int :=
  if 8000<s.size then (0,0,2) else if at_<0 then (0,0,1) else numGo 10 ((bytesOf s).drop at_.toNat) 0 at_ 1
theorem pow_le_pow_ {b:Int} (hb:1≤b) {i j:Nat} (h:i≤j):b ^ i≤b ^ j:=by
  induction h with
  | refl=>exact Int.le_refl _
  | step h ih =>
    rw [Int.pow_succ]
    have h0:0≤b ^ i:=Int.le_of_lt (Int.pow_pos (by omega))
    have h1:=Int.mul_le_mul_of_nonneg_left hb (Int.le_trans h0 ih)
    omega
theorem bits_or_comm (k:IntKind) (a b:Int):Go.bits .or k a b=Go.bits .or k b a:=by
  simp only [bits,BitVec.or_comm]
theorem u64_or_add {i:Nat} (hi:i≤9) {x y:Int} (hx:0≤x) (hx':x<2 ^ (7*i)) (hy:0≤y) (hy':y % 2 ^ (7*i)=0) (hy2:y<18446744073709551616):Go.bits .or .u64 x y=x+y:=by
  have hp:(2:Int) ^ (7*i)≤2 ^ 63:=pow_le_pow_ (by omega) (by omega)
  rw [bits_or_comm,bits_join .u64 64 (by decide) wraps_u64 (7*i) y x hy hy' (by omega) hx hx' (by omega)]
  omega
theorem xor_i64_zero {x:Int} (h0:0≤x) (h1:x<9223372036854775808):Go.bits .xor .i64 x 0=x:=by
  obtain ⟨a,rfl⟩:=Int.eq_ofNat_of_zero_le h0
  have:=bits_xor_nat .i64 63 (by decide) wraps_i64 a 0 (by omega) (by omega)
  simpa using this
theorem xor_i64_ones {x:Int} (h0:0≤x) (h1:x<9223372036854775808):Go.bits .xor .i64 x (-1) = -x-1:=by
  obtain ⟨a,rfl⟩:=Int.eq_ofNat_of_zero_le h0
  have ha:a<2 ^ 64:=by omega
  have hw:IntKind.bits .i64=64:=rfl
  simp only [bits]
  rw [BitVec.ofInt_natCast]
  have h2:(BitVec.ofInt (IntKind.bits .i64) (-1))=BitVec.allOnes _:=by decide
  rw [h2,BitVec.xor_allOnes,BitVec.toNat_not,BitVec.toNat_ofNat,hw,Nat.mod_eq_of_lt ha,IntKind.wrap_i64]
  omega
theorem u64_and1 {x:Int} (h₀:0≤x) (h₁:x<18446744073709551616):Go.bits .and .u64 x 1=x % 2:=bits_mask .u64 64 (by decide) wraps_u64 1 (by decide) x h₀ h₁
theorem u8_and127 {x:Int} (h₀:0≤x) (h₁:x<256):Go.bits .and .u8 x 127=x % 128:=bits_mask .u8 8 (by decide) wraps_u8 7 (by decide) x h₀ h₁
theorem pow128 (i:Nat):(2:Int) ^ (7*i)=128 ^ i:=by rw [Int.pow_mul];rfl
theorem pow128_pos (i:Nat):0<(128:Int) ^ i:=Int.pow_pos (by omega)
theorem pow128_le {i j:Nat} (h:i≤j):(128:Int) ^ i≤128 ^ j:=pow_le_pow_ (by omega) h
/-- The number with seven bits more: where the sum lies. -/
theorem sum_range {i:Nat} (hi:i≤9) {u c:Int} (hu0:0≤u) (hu:u<128 ^ i) (hc0:0≤c) (hc:c<256) (h9:i=9→c≤1) :
    0≤c % 128*128 ^ i∧c % 128*128 ^ i<18446744073709551616∧u+c % 128*128 ^ i<18446744073709551616∧(i<9→u+c % 128*128 ^ i<128 ^ (i+1)):=by
  have hp:=pow128_pos i
  have h0:0≤c % 128*128 ^ i:=Int.mul_nonneg (by omega) (by omega)
  rcases Nat.lt_or_ge i 9 with h | h
  · have h1:c % 128*128 ^ i≤127*128 ^ i:=Int.mul_le_mul_of_nonneg_right (by omega) (by omega)
    have h2:(128:Int) ^ i≤128 ^ 8:=pow128_le (by omega)
    have h3:(128:Int) ^ (i+1)=128 ^ i*128:=Int.pow_succ _ _
    refine ⟨h0,by omega,by omega,fun _=>by omega⟩
  · obtain rfl:i=9:=by omega
    have h1:c % 128*128 ^ 9≤1*128 ^ 9:=Int.mul_le_mul_of_nonneg_right (by have:=h9 rfl;omega) (by omega)
    refine ⟨h0,by omega,by omega,fun h=>by omega⟩
theorem shl_is {i:Nat} (hi:i≤9) {u c:Int} (hu0:0≤u) (hu:u<128 ^ i) (hc0:0≤c) (hc:c<256) (h9:i=9→c≤1):shl .u64 (c % 128) (7*(i:Int))=c % 128*128 ^ i:=by
  have h:=sum_range hi hu0 hu hc0 hc h9
  unfold shl
  rw [show min (7*(i:Int)).toNat (IntKind.bits .u64)=7*i from by simp only [IntKind.bits];omega,pow128,u64w]
  omega
theorem numGo_place:∀ (f:Nat) (bs:List Int) (u p w:Int),0≤p→∀ n q c,numGo f bs u p w=(n,q,c)→c=0→p+1≤q∧q≤p+bs.length
  | 0,_,_,_,_,_,_,_,_,h,hc=>by simp [numGo] at h;omega
  | _+1,[],_,_,_,_,_,_,_,h,hc=>by simp [numGo] at h;omega
  | f+1,c :: r,u,p,w,hp,n,q,d,h,hd=>by
    simp only [numGo] at h
    split at h
    · simp at h;omega
    · split at h
      · split at h
        · simp at h;omega
        · simp at h;simp;omega
      · have:=numGo_place f r _ (p+1) _ (by omega) n q d h hd
        simp;omega
theorem drop_bt {s:ByteArray} {j:Nat} {c:Int} {r:List Int} (h:(bytesOf s).drop j=c :: r):j<s.size∧bt s (j:Int)=c∧(bytesOf s).drop (j+1)=r∧0≤c∧c<256:=by
  obtain ⟨g1,g2,g3⟩:=dropCons h 0
  rw [bytesOf_length] at g1
  have hb:=bt_of g2
  have hr:=bt_range s (j:Int)
  rw [hb] at hr
  exact ⟨g1,hb,g3,hr.1,by omega⟩
theorem drop_nil_size {s:ByteArray} {j:Nat} (h:(bytesOf s).drop j=[]):s.size≤j:=by
  have:=dropNil h
  rwa [bytesOf_length] at this
theorem spec_num_end {k:Nat} {x1 u:Int} {i:Nat} (hu0:0≤u) (hu:u<18446744073709551616) (h1:0≤x1+i) (h2:x1+i<9000) :
    Y21.j2 (k+1) x1 u (i:Int) false=some (unzig u,x1+i+1,0):=by
  simp only [Y21.j2]
  rw [if_neg (by simp)]
  rw [Int.tmod_eq_emod_of_nonneg hu0,Int.tdiv_eq_ediv_of_nonneg hu0,u64w,w64 (x:=x1+i) (by omega) (by omega),w64 (x:=x1+i+1) (by omega) (by omega),show u / 2 % 18446744073709551616=u / 2 from by omega,
    w64 (x:=u / 2) (by omega) (by omega),w64 (x := -(u / 2)) (by omega) (by omega),w64 (x := -(u / 2)-1) (by omega) (by omega)]
  unfold unzig
  split <;> rfl
theorem spec_num_go (s:ByteArray) (hs:s.size≤8000) (x1:Int) (hx:0≤x1) (hx2:x1≤9223372036854775807):∀ (f i:Nat),f+i=10→∀ (bs:List Int),(bytesOf s).drop (x1.toNat+i)=bs→∀ u:Int,0≤u→u<128 ^ i →
    Ev (fun k=>Y21.l0 k s x1 u (i:Int)) (numGo f bs u (x1+i) (128 ^ i))
  | 0,i,hf,bs,hb,u,hu0,hu=>by
    refine Ev.step (f:=fun _=>some (0,0,3)) (fun k=>?_) (by simp only [numGo];exact Ev.now _)
    simp only [Y21.l0]
    rw [if_neg (by omega)]
  | f+1,i,hf,[],hb,u,hu0,hu=>by
    have:=drop_nil_size hb
    refine Ev.step (f:=fun _=>some (0,0,4)) (fun k=>?_) (by simp only [numGo];exact Ev.now _)
    simp only [Y21.l0]
    rw [if_pos (by omega),w64 (by omega) (by omega),if_pos (by omega)]
  | f+1,i,hf,c :: r,hb,u,hu0,hu=>by
    obtain ⟨g1,g2,g3,g4,g5⟩:=drop_bt hb
    have ex:x1+i=((x1.toNat+i:Nat):Int):=by omega
    have hl0:∀ k,Y21.l0 (k+1) s x1 u (i:Int)=Y21.j1 k s x1 u (i:Int) c (decide (i=9∧c>1)):=fun k=>by
      simp only [Y21.l0]
      rw [if_pos (by omega),w64 (x:=(s.size:Int)-i) (by omega) (by omega),if_neg (by omega),w64 (x:=x1+i) (by omega) (by omega),if_pos (by omega),if_pos (by omega),ex,g2,u64w,show c % 18446744073709551616=c from by omega]
      by_cases h9:i=9
      · subst h9
        rw [if_pos (by omega)];simp
      · rw [if_neg (by omega)];simp [h9]
    by_cases hbad:i=9∧c>1
    · refine Ev.step hl0 (Ev.step (f:=fun _=>some (0,0,3)) (fun k=>?_) ?_)
      · simp only [hbad,Y21.j1];simp
      · have hf0:f=0:=by omega
        simp only [numGo,hf0,hbad.2,and_self,if_true];exact Ev.now _
    · have h9:i=9→c≤1:=fun e=>by omega
      have hsum:=sum_range (by omega) hu0 hu g4 g5 h9
      have hsh:=shl_is (by omega) hu0 hu g4 g5 h9
      have hj1:∀ k,Y21.j1 (k+1) s x1 u (i:Int) c (decide (i=9∧c>1))=if c<128 then Y21.j2 k x1 (u+c % 128*128 ^ i) (i:Int) (decide (c=0∧(i:Int)>0)) else Y21.l0 k s x1 (u+c % 128*128 ^ i) ((i+1:Nat):Int):=fun k=>by
        simp only [hbad,decide_false,Y21.j1]
        rw [if_neg (by simp),w64 (x:=7*(i:Int)) (by omega) (by omega),u64w,show 7*(i:Int) % 18446744073709551616=7*(i:Int) from by omega,if_pos (by omega),Int.tmod_eq_emod_of_nonneg g4,hsh,u64w,
          show (u+c % 128*128 ^ i) % 18446744073709551616=u+c % 128*128 ^ i from by omega,w64 (x:=(i:Int)+1) (by omega) (by omega)]
        by_cases hc:c<128
        · rw [if_pos hc,if_pos hc]
          by_cases h0:c=0
          · rw [if_pos h0];simp [h0]
          · rw [if_neg h0];simp [h0]
        · rw [if_neg hc,if_neg hc];rfl
      refine Ev.step hl0 (Ev.step hj1 ?_)
      have hng:¬ (f=0∧c>1):=fun e=>hbad ⟨by omega,e.2⟩
      simp only [numGo,if_neg hng]
      refine evIte (fun hc=>?_) (fun hc=>?_)
      · rw [if_pos hc]
        by_cases h0:c=0∧(i:Int)>0
        · rw [if_pos (by omega)]
          refine Ev.step (f:=fun _=>some (0,0,3)) (fun k=>?_) (Ev.now _)
          simp only [h0,Y21.j2];simp
        · rw [if_neg (by omega)]
          refine Ev.step (f:=fun _=>_) (fun k=>?_) (Ev.now _)
          simp only [h0,decide_false]
          exact spec_num_end (by omega) (by omega) (by omega) (by omega)
      · rw [if_neg hc]
        have h8:i<9:=by
          rcases Nat.lt_or_ge i 9 with h | h
          · exact h
          · have:=h9 (by omega);omega
        have ih:=spec_num_go s hs x1 hx hx2 f (i+1) (by omega) r (by rw [← g3];congr 1) (u+c % 128*128 ^ i) (by omega) (hsum.2.2.2 h8)
        rw [show x1+((i+1:Nat):Int)=x1+i+1 from by omega,Int.pow_succ] at ih
        exact ih
theorem spec_GetNum_ev (s:ByteArray) (x1:Int) (h1 : -9223372036854775808≤x1) (h2:x1≤9223372036854775807):Ev (fun k=>Y21.f k s x1) (getNum s x1):=by
  unfold Y21.f getNum
  by_cases h:8000<s.size
  · rw [if_pos h];exact evPos (by omega) (Ev.now _)
  · rw [if_neg h]
    refine evNeg (by omega) ?_
    by_cases h0:x1<0
    · rw [if_pos h0];exact evPos h0 (Ev.now _)
    · rw [if_neg h0]
      refine evNeg h0 ?_
      have:=spec_num_go s (by omega) x1 (by omega) h2 10 0 rfl _ rfl 0 (by omega) (by simp)
      simpa using this
theorem impl_num_end {x1 u:Int} {i:Nat} (hu0:0≤u) (hu:u<18446744073709551616) (h1:0≤x1+i) (h2:x1+i<9000) :
    (Go.bits .xor .i64 (wrap64 (u / 2)) (wrap64 (-(wrap64 (Go.bits .and .u64 u 1)))),wrap64 ((wrap64 (x1+i))+1),(0:Int))=(unzig u,x1+i+1,0):=by
  rw [u64_and1 hu0 hu,w64 (x:=x1+i) (by omega) (by omega),w64 (x:=x1+i+1) (by omega) (by omega),w64 (x:=u / 2) (by omega) (by omega),w64 (x:=u % 2) (by omega) (by omega),w64 (x := -(u % 2)) (by omega) (by omega)]
  unfold unzig
  split
  · rename_i h
    rw [h,xor_i64_ones (by omega) (by omega)]
  · rename_i h
    rw [show -(u % 2)=0 from by omega,xor_i64_zero (by omega) (by omega)]
theorem impl_num_go (s:ByteArray) (hs:s.size≤8000) (x1:Int) (hx:0≤x1) (hx2:x1≤9223372036854775807):∀ (f i:Nat),f+i=10→∀ (bs:List Int),(bytesOf s).drop (x1.toNat+i)=bs→∀ u:Int,0≤u→u<128 ^ i →
    Ev (fun k=>Y18.l0 k s x1 u (i:Int)) (numGo f bs u (x1+i) (128 ^ i))
  | 0,i,hf,bs,hb,u,hu0,hu=>by
    refine Ev.step (f:=fun _=>some (0,0,3)) (fun k=>?_) (by simp only [numGo];exact Ev.now _)
    simp only [Y18.l0]
    rw [if_neg (by omega)]
  | f+1,i,hf,[],hb,u,hu0,hu=>by
    have:=drop_nil_size hb
    refine Ev.step (f:=fun k=>Y18.j1 k s x1 u (i:Int) (i:Int) true) (fun k=>?_) (Ev.step (f:=fun _=>some (0,0,4)) (fun k=>?_) (by simp only [numGo];exact Ev.now _))
    · simp only [Y18.l0,Y66.f,Option.bind_some]
      rw [if_pos (by omega)]
      by_cases h:x1≥(s.size:Int)
      · rw [if_pos h]
      · rw [if_neg h,w64 (x:=(s.size:Int)-x1) (by omega) (by omega)]
        congr 1
        simp;omega
    · simp [Y18.j1]
  | f+1,i,hf,c :: r,hb,u,hu0,hu=>by
    obtain ⟨g1,g2,g3,g4,g5⟩:=drop_bt hb
    have ex:x1+i=((x1.toNat+i:Nat):Int):=by omega
    have hl0:∀ k,Y18.l0 (k+1) s x1 u (i:Int)=Y18.j1 k s x1 u (i:Int) (i:Int) false:=fun k=>by
      simp only [Y18.l0,Y66.f,Option.bind_some]
      rw [if_pos (by omega),if_neg (by omega),w64 (x:=(s.size:Int)-x1) (by omega) (by omega)]
      congr 1
      simp;omega
    have hj1:∀ k,Y18.j1 (k+1) s x1 u (i:Int) (i:Int) false=Y18.j2 k s x1 u (i:Int) c (i:Int) (decide (i=9∧c>1)):=fun k=>by
      simp only [Y18.j1]
      rw [if_neg (by simp),w64 (x:=x1+i) (by omega) (by omega),if_pos (by omega),if_pos (by omega),ex,g2]
      by_cases h9:i=9
      · subst h9
        rw [if_pos (by omega)];simp
      · rw [if_neg (by omega)];simp [h9]
    refine Ev.step hl0 (Ev.step hj1 ?_)
    by_cases hbad:i=9∧c>1
    · refine Ev.step (f:=fun _=>some (0,0,3)) (fun k=>?_) ?_
      · simp only [hbad,Y18.j2];simp
      · have hf0:f=0:=by omega
        simp only [numGo,hf0,hbad.2,and_self,if_true];exact Ev.now _
    · have h9:i=9→c≤1:=fun e=>by omega
      have hsum:=sum_range (by omega) hu0 hu g4 g5 h9
      have hsh:=shl_is (by omega) hu0 hu g4 g5 h9
      have hmod:c % 128*128 ^ i % 2 ^ (7*i)=0:=by rw [pow128];exact Int.mul_emod_left _ _
      have hor:=u64_or_add (i:=i) (by omega) hu0 (by rw [pow128];exact hu) hsum.1 hmod hsum.2.1
      have hj2:∀ k,Y18.j2 (k+1) s x1 u (i:Int) c (i:Int) (decide (i=9∧c>1))=if c<128 then (if c=0∧(i:Int)>0 then some (0,0,3) else some (unzig (u+c % 128*128 ^ i),x1+i+1,0)) else Y18.l0 k s x1 (u+c % 128*128 ^ i) ((i+1:Nat):Int):=fun k=>by
        simp only [hbad,decide_false,Y18.j2]
        rw [if_neg (by simp),u64w,u64w,show (i:Int) % 18446744073709551616=i from by omega,show 7*(i:Int) % 18446744073709551616=7*(i:Int) from by omega,if_pos (by omega),u8_and127 g4 g5,u64w,show c % 128 % 18446744073709551616=c % 128 from by omega,hsh,hor,
          w64 (x:=(i:Int)+1) (by omega) (by omega),impl_num_end (by omega) (by omega) (by omega) (by omega)]
        by_cases hc:c<128
        · rw [if_pos hc,if_pos hc]
          by_cases h0:c=0
          · rw [if_pos h0]
            by_cases hi:(i:Int)>0
            · rw [if_pos hi,if_pos ⟨h0,hi⟩]
            · rw [if_neg hi,if_neg (fun e=>hi e.2)]
          · rw [if_neg h0,if_neg (fun e=>h0 e.1)]
        · rw [if_neg hc,if_neg hc];rfl
      refine Ev.step hj2 ?_
      have hng:¬ (f=0∧c>1):=fun e=>hbad ⟨by omega,e.2⟩
      simp only [numGo,if_neg hng]
      refine evIte (fun hc=>?_) (fun hc=>?_)
      · rw [if_pos hc]
        by_cases h0:c=0∧(i:Int)>0
        · rw [if_pos (show c=0∧f<9 by omega)];simp only [if_pos h0];exact Ev.now _
        · rw [if_neg (show ¬ (c=0∧f<9) by omega)];simp only [if_neg h0];exact Ev.now _
      · rw [if_neg hc]
        have h8:i<9:=by
          rcases Nat.lt_or_ge i 9 with h | h
          · exact h
          · have:=h9 (by omega);omega
        have ih:=impl_num_go s hs x1 hx hx2 f (i+1) (by omega) r (by rw [← g3];congr 1) (u+c % 128*128 ^ i) (by omega) (hsum.2.2.2 h8)
        rw [show x1+((i+1:Nat):Int)=x1+i+1 from by omega,Int.pow_succ] at ih
        exact ih
theorem impl_GetNum_ev (s:ByteArray) (x1:Int) (h1 : -9223372036854775808≤x1) (h2:x1≤9223372036854775807):Ev (fun k=>Y18.f k s x1) (getNum s x1):=by
  unfold Y18.f getNum
  refine Ev.bind (isLong1_ev s) ?_
  by_cases h:8000<s.size
  · rw [if_pos h];exact evPos (by simpa using h) (Ev.now _)
  · rw [if_neg h]
    refine evNeg (by simpa using h) ?_
    by_cases h0:x1<0
    · rw [if_pos h0];exact evPos h0 (Ev.now _)
    · rw [if_neg h0]
      refine evNeg h0 ?_
      have:=impl_num_go s (by omega) x1 (by omega) h2 10 0 rfl _ rfl 0 (by omega) (by simp)
      simpa using this
theorem getNum_place {s:ByteArray} {x1 n p:Int} (h:getNum s x1=(n,p,0)):s.size≤8000∧0≤x1∧x1+1≤p∧p≤s.size:=by
  unfold getNum at h
  split at h
  · simp at h
  · split at h
    · simp at h
    · have:=numGo_place 10 _ 0 x1 1 (by omega) n p 0 h rfl
      rw [List.length_drop,bytesOf_length] at this
      omega
end Go.Proofs.Ytmefchanjoadfaa.Q

namespace Go.Proofs.Ytmefchanjoadfaa.Q
open Go.RowKit Go.Proofs.Ytmefchanjoadfaa.P Go.Proofs.YtmefchanjoadfaaW.PrintWords Go.Proofs.YtmefchanjoadfaaW.PrintMore

theorem zig_unzig {u:Int} (h:0≤u):zig (unzig u)=u:=by
  unfold zig unzig
  split <;> split <;> omega
theorem vbytes_small (f:Nat) {c:Int} (h0:0≤c) (h1:c<128):vbytes f c=[c]:=by
  cases f with
  | zero=>simp only [vbytes];rw [show c % 256=c from by omega]
  | succ f=>simp only [vbytes];rw [if_neg (by omega),show c % 256=c from by omega]
theorem numGo_canon:∀ (f:Nat),f≤9→∀ (bs:List Int) (u p w n q:Int),(∀ c ∈ bs,0≤c∧c<256)→numGo (f+1) bs u p w=(n,q,0) →
    ∃ v r,0≤v∧(f<9→1≤v)∧bs=vbytes f v ++ r∧q=p+((vbytes f v).length:Int)∧n=unzig (u+v*w)∧v<128 ^ (f+1)
  | f,_,[],u,p,w,n,q,_,h=>by simp [numGo] at h
  | f,hf9,c :: r,u,p,w,n,q,hb,h=>by
    have hc:=hb c List.mem_cons_self
    simp only [numGo] at h
    split at h
    · simp at h
    · rename_i h1
      split at h
      · rename_i h2
        split at h
        · simp at h
        · rename_i h3
          simp only [Prod.mk.injEq,and_true] at h
          refine ⟨c,r,hc.1,fun hf=>by omega,?_,?_,?_,Int.lt_of_lt_of_le h2 (pow128_le (i:=1) (by omega))⟩
          · rw [vbytes_small f hc.1 h2];rfl
          · rw [vbytes_small f hc.1 h2];simp;omega
          · rw [← h.1,show c % 128=c from by omega]
      · rename_i h2
        cases f with
        | zero=>omega
        | succ f =>
          obtain ⟨v,r',g0,g1,g2,g3,g4,g5⟩:=numGo_canon f (by omega) r (u+c % 128*w) (p+1) (w*128) n q (fun x hx=>hb x (List.mem_cons_of_mem _ hx)) h
          have hv1:1≤v:=g1 (by omega)
          have e:vbytes (f+1) (c % 128+128*v)=c :: vbytes f v:=by
            simp only [vbytes]
            rw [if_pos (by omega),show (c % 128+128*v) % 128+128=c from by omega,show (c % 128+128*v) / 128=v from by omega]
          refine ⟨c % 128+128*v,r',by omega,fun _=>by omega,?_,?_,?_,by rw [Int.pow_succ];omega⟩
          · rw [e,g2];rfl
          · rw [e];simp;omega
          · rw [g4,Int.add_mul,show 128*v*w=v*(w*128) from by rw [Int.mul_comm 128 v,Int.mul_assoc,Int.mul_comm 128 w],Int.add_assoc]
theorem bytesOf_range (s:ByteArray):∀ c ∈ bytesOf s,0≤c∧c<256:=by
  intro c hc
  simp only [bytesOf,List.mem_map] at hc
  obtain ⟨b,_,rfl⟩:=hc
  have:=b.toNat_lt
  omega
/-- What is read lies there as PutNum writes it. -/
theorem getNum_canon {s:ByteArray} {x n p:Int} (h:getNum s x=(n,p,0)):∃ r,(bytesOf s).drop x.toNat=vbytes 9 (zig n) ++ r∧p=x+((vbytes 9 (zig n)).length:Int)∧zig n<128 ^ 10∧0≤zig n:=by
  unfold getNum at h
  split at h
  · simp at h
  · split at h
    · simp at h
    · obtain ⟨v,r,g0,_,g2,g3,g4,g5⟩:=numGo_canon 9 (by omega) _ 0 x 1 n p (fun c hc=>bytesOf_range s c (List.mem_of_mem_drop hc)) h
      have e:zig n=v:=by rw [g4,show 0+v*1=v from by omega,zig_unzig g0]
      rw [e]
      exact ⟨r,g2,g3,g5,g0⟩
end Go.Proofs.Ytmefchanjoadfaa.Q

namespace Go.Proofs.Ytmefchanjoadfaa.Q
open Go.RowKit Go.Proofs.Ytmefchanjoadfaa.P Go.Proofs.YtmefchanjoadfaaW.PrintWords Go.Proofs.YtmefchanjoadfaaW.PrintMore

theorem toList_loop (b:ByteArray):∀ (n i:Nat) (r:List UInt8),b.size-i=n→ByteArray.toList.loop b i r=r.reverse ++ b.data.toList.drop i:=by
  intro n
  induction n with
  | zero =>
    intro i r h
    unfold ByteArray.toList.loop
    have hs:b.data.toList.length=b.size:=by rw [Array.length_toList];rfl
    rw [if_neg (by omega),List.drop_of_length_le (by omega),List.append_nil]
  | succ n ih =>
    intro i r h
    unfold ByteArray.toList.loop
    have hs:b.data.toList.length=b.size:=by rw [Array.length_toList];rfl
    rw [if_pos (by omega),ih (i+1) _ (by omega),List.drop_eq_getElem_cons (i:=i) (by omega)]
    have:b.get! i=b.data.toList[i]'(by omega):=by
      have hi:i<b.data.size:=by rw [← Array.length_toList];omega
      show b.data[i]! = _
      rw [getElem!_pos b.data i hi]
      simp
    simp [this]
theorem toList_data (b:ByteArray):b.toList=b.data.toList:=by
  unfold ByteArray.toList
  rw [toList_loop b _ 0 [] rfl]
  simp
theorem toList_inj {a b:ByteArray} (h:a.toList=b.toList):a=b:=by
  rw [toList_data,toList_data] at h
  obtain ⟨a⟩:=a
  obtain ⟨b⟩:=b
  simp only [ByteArray.mk.injEq]
  exact Array.toList_inj.1 h
theorem toList_nil {s:ByteArray} (h:s.toList=[]):s.size=0:=by
  have h5:s.data.toList.length=s.size:=data_length s
  rw [← toList_data,h] at h5
  simpa using h5.symm
theorem bytesOf_append (a b:ByteArray):bytesOf (a ++ b)=bytesOf a ++ bytesOf b:=by
  simp only [bytesOf]
  rw [show (a ++ b).data=a.data ++ b.data from by simp]
  simp
theorem bytesOf_strOfNums:∀ (l:List Int),(∀ c ∈ l,0≤c∧c<256)→bytesOf (strOfNums l)=l:=by
  intro l h
  simp only [bytesOf,strOfNums]
  rw [List.map_map]
  conv=>rhs;rw [← List.map_id l]
  refine List.map_congr_left (fun c hc=>?_)
  have:=h c hc
  simp only [Function.comp,id,UInt8.toNat_ofNat']
  omega
theorem vbytes_range:∀ (f:Nat) (u:Int),∀ c ∈ vbytes f u,0≤c∧c<256
  | 0,u,c,hc=>by simp only [vbytes,List.mem_singleton] at hc;omega
  | f+1,u,c,hc=>by
    simp only [vbytes] at hc
    split at hc
    · rcases List.mem_cons.1 hc with rfl | hc
      · omega
      · exact vbytes_range f _ c hc
    · simp only [List.mem_singleton] at hc;omega
theorem bytesOf_putNum (n:Int):bytesOf (putNum n)=vbytes 9 (zig n):=bytesOf_strOfNums _ (vbytes_range 9 _)
theorem bytesOf_inj {a b:ByteArray} (h:bytesOf a=bytesOf b):a=b:=by
  have key:∀ (l m:List UInt8),l.map (fun b=>(b.toNat:Int))=m.map (fun b=>(b.toNat:Int))→l=m:=by
    intro l
    induction l with
    | nil=>intro m hm;cases m with
      | nil=>rfl
      | cons x r=>simp at hm
    | cons x r ih =>
      intro m hm
      cases m with
      | nil=>simp at hm
      | cons y q =>
        simp only [List.map_cons,List.cons.injEq] at hm
        rw [ih q hm.2,UInt8.toNat_inj.1 (Int.ofNat.inj hm.1)]
  have h2:=key _ _ h
  obtain ⟨a⟩:=a
  obtain ⟨b⟩:=b
  simp only [ByteArray.mk.injEq]
  exact Array.toList_inj.1 h2
/-- From p to q the text s has the bytes bs. -/
def Span (s:ByteArray) (p:Int) (bs:List Int) (q:Int):Prop:=0≤p∧q=p+(bs.length:Int)∧q≤(s.size:Int)∧(bytesOf s).drop p.toNat=bs ++ (bytesOf s).drop q.toNat
theorem Span.of {s:ByteArray} {p q:Int} {bs r:List Int} (h0:0≤p) (h1:q=p+(bs.length:Int)) (h2:q≤(s.size:Int)) (h:(bytesOf s).drop p.toNat=bs ++ r):Span s p bs q:=by
  refine ⟨h0,h1,h2,?_⟩
  rw [h,show q.toNat=p.toNat+bs.length from by omega,← List.drop_drop,h,List.drop_left]
theorem Span.trans {s:ByteArray} {p q r:Int} {b c:List Int} (h:Span s p b q) (h2:Span s q c r):Span s p (b ++ c) r:=by
  obtain ⟨a0,a1,a2,a3⟩:=h
  obtain ⟨b0,b1,b2,b3⟩:=h2
  exact ⟨a0,by rw [List.length_append];omega,b2,by rw [a3,b3,List.append_assoc]⟩
theorem Span.nil {s:ByteArray} {p:Int} (h0:0≤p) (h1:p≤(s.size:Int)):Span s p [] p:=⟨h0,by simp,h1,by simp⟩
theorem Span.whole {s:ByteArray} {q:Int} {bs:List Int} (h:Span s 0 bs q):q=(s.size:Int) ↔ bytesOf s=bs:=by
  obtain ⟨_,a1,a2,a3⟩:=h
  rw [show (0:Int).toNat=0 from rfl,List.drop_zero] at a3
  have hl:=congrArg List.length a3
  rw [bytesOf_length,List.length_append,List.length_drop,bytesOf_length] at hl
  constructor
  · intro e
    rw [a3,e,List.drop_of_length_le (by rw [bytesOf_length];omega),List.append_nil]
  · intro e
    have:=congrArg List.length e
    rw [bytesOf_length] at this
    omega
def rNum (s:ByteArray):Option Int→Option Int × Int
  | none=>(none,0)
  | some p=>if (getNum s p).2.2=0 then (some (getNum s p).2.1,(getNum s p).1) else (none,0)
theorem rNum_span {s:ByteArray} {p q n:Int} (h:rNum s (some p)=(some q,n)):Span s p (bytesOf (putNum n)) q∧p+1≤q∧zig n<128 ^ 10∧0≤zig n:=by
  simp only [rNum] at h
  split at h
  · rename_i hc
    simp only [Prod.mk.injEq,Option.some.injEq] at h
    have e:getNum s p=(n,q,0):=by
      obtain ⟨h1,h2⟩:=h
      rw [← h1,← h2,← hc]
    obtain ⟨r,g1,g2,g3,g4⟩:=getNum_canon e
    have hp:=getNum_place e
    rw [bytesOf_putNum]
    exact ⟨Span.of hp.2.1 g2 hp.2.2.2 g1,hp.2.2.1,g3,g4⟩
  · simp at h
def rMany (s:ByteArray) (o:Option Int) (most:Int):Option Int × Int:=if isWithin (rNum s o).2 0 most=true then rNum s o else (none,0)
theorem rMany_le (s:ByteArray) (o:Option Int) (most:Int) (h:0≤most):0≤(rMany s o most).2∧(rMany s o most).2≤most:=by
  unfold rMany
  split
  · rename_i hw
    simpa [isWithin] using hw
  · exact ⟨Int.le_refl _,h⟩
/-- Marks, k of them at the most, up to the first thing that is wrong. -/
def rMarks (s:ByteArray):Nat→Option Int→Option Int × List Mark
  | 0,o=>(o,[])
  | _+1,none=>(none,[])
  | k+1,some p=>((rMarks s k (rNum s (rNum s (some p)).1).1).1,⟨(rNum s (some p)).2,(rNum s (rNum s (some p)).1).2⟩ :: (rMarks s k (rNum s (rNum s (some p)).1).1).2)
theorem rMarks_length (s:ByteArray):∀ (k:Nat) (o:Option Int),(rMarks s k o).2.length≤k
  | 0,_=>by simp [rMarks]
  | _+1,none=>by simp [rMarks]
  | k+1,some p=>by
    have:=rMarks_length s k (rNum s (rNum s (some p)).1).1
    simp only [rMarks,List.length_cons];omega
theorem rMarks_none (s:ByteArray):∀ k,(rMarks s k none).1=none
  | 0=>rfl
  | _+1=>rfl
def marksBytes (l:List Mark):List Int:=l.flatMap fun m=>bytesOf (markBytes m)
theorem rMarks_span {s:ByteArray}:∀ (k:Nat) (p q:Int),0≤p→p≤(s.size:Int)→(rMarks s k (some p)).1=some q→Span s p (marksBytes (rMarks s k (some p)).2) q∧(rMarks s k (some p)).2.length=k
  | 0,p,q,h0,h1,h=>by
    simp only [rMarks,Option.some.injEq] at h
    subst h
    exact ⟨Span.nil h0 h1,rfl⟩
  | k+1,p,q,h0,h1,h=>by
    simp only [rMarks] at h ⊢
    cases ha:rNum s (some p) with
    | mk a n =>
      rw [ha] at h
      cases a with
      | none=>simp only [rNum,rMarks_none] at h;cases h
      | some a =>
        cases hb:rNum s (some a) with
        | mk b m =>
          simp only [hb] at h ⊢
          cases b with
          | none=>rw [rMarks_none] at h;cases h
          | some b =>
            have s1:=(rNum_span ha).1
            have s2:=(rNum_span hb).1
            have ih:=rMarks_span k b q (by have:=s2.1;have:=s2.2.1;omega) s2.2.2.1 h
            refine ⟨?_,by simp only [List.length_cons,ih.2]⟩
            show Span s p (bytesOf (putNum n ++ putNum m) ++ marksBytes (rMarks s k (some b)).2) q
            rw [bytesOf_append]
            exact (s1.trans s2).trans ih.1
theorem bytesOf_foldl (f:Mark→ByteArray):∀ (l:List Mark) (t:ByteArray),bytesOf (l.foldl (fun t m=>t ++ f m) t)=bytesOf t ++ l.flatMap fun m=>bytesOf (f m)
  | [],t=>by simp
  | m :: r,t=>by
    rw [List.foldl_cons,bytesOf_foldl f r,bytesOf_append,List.flatMap_cons,List.append_assoc]
theorem bytesOf_seenBytes (v:List Mark):bytesOf (seenBytes v)=bytesOf (putNum (v.length:Int)) ++ marksBytes v:=bytesOf_foldl markBytes v _
/-- Marks as they are read: how many, and they. -/
def rSeen (s:ByteArray) (o:Option Int):Option Int × List Mark:=rMarks s (rMany s o 5).2.toNat (rMany s o 5).1
theorem rSeen_length (s:ByteArray) (o:Option Int):(rSeen s o).2.length≤5:=by
  have h1:=rMarks_length s (rMany s o 5).2.toNat (rMany s o 5).1
  have h2:=rMany_le s o 5 (by omega)
  unfold rSeen;omega
theorem rMany_span {s:ByteArray} {p q n most:Int} (hm:0≤most) (h:rMany s (some p) most=(some q,n)):Span s p (bytesOf (putNum n)) q∧p+1≤q∧0≤n∧n≤most:=by
  have hn:=rMany_le s (some p) most hm
  rw [h] at hn
  unfold rMany at h
  split at h
  · exact ⟨(rNum_span h).1,(rNum_span h).2.1,hn⟩
  · simp at h
theorem rSeen_span {s:ByteArray} {p q:Int} (h:(rSeen s (some p)).1=some q):Span s p (bytesOf (seenBytes (rSeen s (some p)).2)) q∧p+1≤q:=by
  unfold rSeen at h ⊢
  cases ha:rMany s (some p) 5 with
  | mk a n =>
    rw [ha] at h
    cases a with
    | none=>rw [rMarks_none] at h;cases h
    | some a =>
      have s1:=rMany_span (by omega) ha
      have s2:=rMarks_span n.toNat a q (by have:=s1.1.1;omega) s1.1.2.2.1 h
      refine ⟨?_,by have:=s2.1.2.1;omega⟩
      rw [bytesOf_seenBytes,s2.2,show ((n.toNat:Nat):Int)=n from by omega]
      exact s1.1.trans s2.1
end Go.Proofs.Ytmefchanjoadfaa.Q

namespace Go.Proofs.Ytmefchanjoadfaa.Q
open Go.RowKit Go.Proofs.Ytmefchanjoadfaa.P Go.Proofs.YtmefchanjoadfaaW.PrintWords Go.Proofs.YtmefchanjoadfaaW.PrintMore

theorem numGo_bad:∀ (f:Nat) (bs:List Int) (u p w:Int),(numGo f bs u p w).2.2≠0→(numGo f bs u p w).1=0∧(numGo f bs u p w).2.1=0
  | 0,_,_,_,_,_=>by simp [numGo]
  | _+1,[],_,_,_,_=>by simp [numGo]
  | f+1,c :: r,u,p,w,h=>by
    simp only [numGo] at h ⊢
    split
    · simp
    · rename_i h1
      rw [if_neg h1] at h
      split
      · rename_i h2
        rw [if_pos h2] at h
        split
        · simp
        · rename_i h3
          rw [if_neg h3] at h
          simp at h
      · rename_i h2
        rw [if_neg h2] at h
        exact numGo_bad f r _ _ _ h
theorem getNum_bad {s:ByteArray} {x:Int} (h:(getNum s x).2.2≠0):(getNum s x).1=0∧(getNum s x).2.1=0:=by
  unfold getNum at h ⊢
  split
  · simp
  · rename_i h1
    rw [if_neg h1] at h
    split
    · simp
    · rename_i h2
      rw [if_neg h2] at h
      exact numGo_bad _ _ _ _ _ h
/-- Where a reader stands: at p, or nowhere any more. -/
def St (s:ByteArray) (o:Option Int) (p:Int) (b:Bool):Prop:=0≤p∧p≤(s.size:Int)∧o=if b=true then none else some p
theorem St.bad {s:ByteArray} {o:Option Int} {p:Int} (h:St s o p true):o=none:=h.2.2
theorem St.good {s:ByteArray} {o:Option Int} {p:Int} (h:St s o p false):o=some p:=h.2.2
theorem getNum_ok {s:ByteArray} {x:Int} (h:(getNum s x).2.2=0):0≤(getNum s x).2.1∧(getNum s x).2.1≤(s.size:Int):=by
  have:=getNum_place (s:=s) (x1:=x) (n:=(getNum s x).1) (p:=(getNum s x).2.1) (by rw [← h])
  omega
theorem impl_num_ev {s:ByteArray} (hs:s.size≤8000) {o:Option Int} {p:Int} {b:Bool} (h:St s o p b):∃ p' b',St s (rNum s o).1 p' b'∧Ev (fun k=>Y27.f k s p b) ((rNum s o).2,s,p',b'):=by
  obtain ⟨h0,h1,h2⟩:=h
  unfold Y27.f
  cases b with
  | true =>
    simp only [if_true] at h2
    subst h2
    exact ⟨p,true,⟨h0,h1,rfl⟩,evPos rfl (Ev.now _)⟩
  | false =>
    simp only [Bool.false_eq_true,if_false] at h2
    subst h2
    have e:=impl_GetNum_ev s p (by omega) (by omega)
    by_cases hc:(getNum s p).2.2=0
    · have hk:=getNum_ok hc
      refine ⟨(getNum s p).2.1,false,⟨hk.1,hk.2,by simp [rNum,hc]⟩,evNeg (by simp) (Ev.bind e ?_)⟩
      simp only [rNum,if_pos hc,hc]
      exact Ev.now _
    · have hk:=getNum_bad hc
      refine ⟨0,true,⟨Int.le_refl _,by omega,by simp [rNum,hc]⟩,evNeg (by simp) (Ev.bind e ?_)⟩
      simp only [rNum,if_neg hc,hk.1,hk.2]
      have:((getNum s p).2.2 != 0)=true:=by simpa using hc
      rw [this]
      exact Ev.now _
theorem spec_num_ev {s:ByteArray} (hs:s.size≤8000) {o:Option Int} {p:Int} {b:Bool} (h:St s o p b):∃ p' b',St s (rNum s o).1 p' b'∧Ev (fun k=>Y15.f k s p b) ((rNum s o).2,s,p',b'):=by
  obtain ⟨h0,h1,h2⟩:=h
  unfold Y15.f
  have e:=spec_GetNum_ev s p (by omega) (by omega)
  have jT:∀ b n q c,Ev (fun k=>Y15.j0 k true s p b n q c) (0,s,p,true):=fun b n q c=>Ev.step (f:=fun _=>some (0,s,p,true)) (fun k=>by simp [Y15.j0]) (Ev.now _)
  cases b with
  | true =>
    simp only [if_true] at h2
    subst h2
    exact ⟨p,true,⟨h0,h1,rfl⟩,Ev.bind e (evPos rfl (jT _ _ _ _))⟩
  | false =>
    simp only [Bool.false_eq_true,if_false] at h2
    subst h2
    by_cases hc:(getNum s p).2.2=0
    · have hk:=getNum_ok hc
      have er:rNum s (some p)=(some (getNum s p).2.1,(getNum s p).1):=by simp [rNum,hc]
      rw [er]
      refine ⟨(getNum s p).2.1,false,⟨hk.1,hk.2,rfl⟩,Ev.bind e (evNeg (by simp) ?_)⟩
      simp only [hc]
      exact Ev.step (f:=fun _=>some _) (fun k=>by simp only [Y15.j0];rw [if_neg (by simp)]) (Ev.now _)
    · refine ⟨p,true,⟨h0,h1,by simp [rNum,hc]⟩,Ev.bind e (evNeg (by simp) ?_)⟩
      simp only [rNum,if_neg hc]
      have:((getNum s p).2.2 != 0)=true:=by simpa using hc
      rw [this]
      exact jT _ _ _ _
theorem impl_count_ev {s:ByteArray} (hs:s.size≤8000) {o:Option Int} {p:Int} {b:Bool} (h:St s o p b) (most:Int):∃ p' b',St s (rMany s o most).1 p' b'∧Ev (fun k=>Y59.f k s p b most) ((rMany s o most).2,s,p',b'):=by
  obtain ⟨p',b',h1,h2⟩:=impl_num_ev hs h
  unfold Y59.f rMany
  by_cases hw:isWithin (rNum s o).2 0 most=true
  · rw [if_pos hw]
    exact ⟨p',b',h1,Ev.bind h2 (evBind1 (within_is _ _ _) (evPos hw (Ev.now _)))⟩
  · rw [if_neg hw]
    exact ⟨p',true,⟨h1.1,h1.2.1,rfl⟩,Ev.bind h2 (evBind1 (within_is _ _ _) (evNeg hw (Ev.now _)))⟩
theorem spec_many_ev {s:ByteArray} (hs:s.size≤8000) {o:Option Int} {p:Int} {b:Bool} (h:St s o p b) (most:Int):∃ p' b',St s (rMany s o most).1 p' b'∧Ev (fun k=>Y49.f k s p b most) ((rMany s o most).2,s,p',b'):=by
  obtain ⟨p',b',h1,h2⟩:=spec_num_ev hs h
  unfold Y49.f rMany
  by_cases hw:isWithin (rNum s o).2 0 most=true
  · rw [if_pos hw]
    exact ⟨p',b',h1,Ev.bind h2 (evBind1 (l02Is_is _ _ _) (evPos hw (Ev.now _)))⟩
  · rw [if_neg hw]
    exact ⟨p',true,⟨h1.1,h1.2.1,rfl⟩,Ev.bind h2 (evBind1 (l02Is_is _ _ _) (evNeg hw (Ev.now _)))⟩
theorem spec_seen_l0 {s:ByteArray} (hs:s.size≤8000):∀ (n:Nat) (o:Option Int) (p:Int) (b:Bool) (acc:List Mark),n≤5→acc.length+n≤5→St s o p b →
    ∃ p' b',St s (rMarks s n o).1 p' b'∧Ev (fun k=>Y13.l0 k acc (n:Int) s p b) (acc ++ (rMarks s n o).2,s,p',b')
  | 0,o,p,b,acc,hn,ha,h=>by
    refine ⟨p,b,h,?_⟩
    simp only [rMarks,List.append_nil]
    refine Ev.step (f:=fun k=>Y13.j1 k acc ((0:Nat):Int) false s p b) (fun k=>?_) (Ev.step (f:=fun _=>some (acc,s,p,b)) (fun k=>by simp [Y13.j1]) (Ev.now _))
    simp only [Y13.l0]
    rw [if_neg (by omega)]
  | n+1,o,p,true,acc,hn,ha,h=>by
    have ho:=h.bad
    subst ho
    refine ⟨p,true,h,?_⟩
    simp only [rMarks,List.append_nil]
    refine Ev.step (f:=fun k=>Y13.j1 k acc ((n+1:Nat):Int) false s p true) (fun k=>?_) (Ev.step (f:=fun _=>some (acc,s,p,true)) (fun k=>by simp [Y13.j1]) (Ev.now _))
    simp only [Y13.l0]
    rw [if_pos (by omega)]
    rfl
  | n+1,o,p,false,acc,hn,ha,h=>by
    have ho:=h.good
    subst ho
    obtain ⟨p1,b1,s1,e1⟩:=spec_num_ev hs h
    obtain ⟨p2,b2,s2,e2⟩:=spec_num_ev hs s1
    obtain ⟨p3,b3,s3,e3⟩:=spec_seen_l0 hs n _ p2 b2 (acc ++ [⟨(rNum s (some p)).2,(rNum s (rNum s (some p)).1).2⟩]) (by omega) (by simp;omega) s2
    refine ⟨p3,b3,s3,?_⟩
    simp only [rMarks]
    rw [List.append_assoc,List.singleton_append] at e3
    refine Ev.step (f:=fun k=>Y13.j1 k acc ((n+1:Nat):Int) true s p false) (fun k=>?_) ?_
    · simp only [Y13.l0]
      rw [if_pos (by omega)]
      rfl
    · have hj:∀ k,Y13.j1 (k+1) acc ((n+1:Nat):Int) true s p false=(Y15.f k s p false).bind fun a=>(Y15.f k a.2.1 a.2.2.1 a.2.2.2).bind fun c=>if acc.length<8796093022208 then Y13.l0 k (acc ++ [⟨a.1,c.1⟩]) (wrap64 (((n+1:Nat):Int)-1)) c.2.1 c.2.2.1 c.2.2.2 else none:=fun k=>by simp [Y13.j1]
      refine Ev.step hj (Ev.bind e1 (Ev.bind e2 (evPos (by omega) ?_)))
      rw [w64 (by omega) (by omega),show ((n+1:Nat):Int)-1=(n:Int) from by omega]
      exact e3
theorem spec_seen_ev {s:ByteArray} (hs:s.size≤8000) {o:Option Int} {p:Int} {b:Bool} (h:St s o p b):∃ p' b',St s (rSeen s o).1 p' b'∧Ev (fun k=>Y13.f k s p b) ((rSeen s o).2,s,p',b'):=by
  obtain ⟨p1,b1,s1,e1⟩:=spec_many_ev hs h 5
  have hm:=rMany_le s o 5 (by omega)
  obtain ⟨p2,b2,s2,e2⟩:=spec_seen_l0 hs (rMany s o 5).2.toNat _ p1 b1 [] (by omega) (by simp;omega) s1
  refine ⟨p2,b2,s2,Ev.bind e1 ?_⟩
  rw [show (((rMany s o 5).2.toNat:Nat):Int)=(rMany s o 5).2 from by omega,List.nil_append] at e2
  exact e2
theorem impl_seen_l0 {s:ByteArray} (hs:s.size≤8000):∀ (n:Nat) (o:Option Int) (p:Int) (b:Bool) (acc:List Mark),n≤5→acc.length+n≤5→St s o p b →
    ∃ p' b',St s (rMarks s n o).1 p' b'∧Ev (fun k=>Y19.l0 k acc (n:Int) s p b) (acc ++ (rMarks s n o).2,s,p',b' || !seenOk (acc ++ (rMarks s n o).2)):=by
  have jE:∀ (acc:List Mark) (n:Int) (p:Int) (b:Bool),acc.length≤5→Ev (fun k=>Y19.j1 k acc n false s p b) (acc,s,p,b || !seenOk acc):=by
    intro acc n p b ha
    cases b with
    | true=>exact Ev.step (f:=fun _=>some (acc,s,p,true)) (fun k=>by simp [Y19.j1]) (Ev.now _)
    | false =>
      refine Ev.step (fun k=>by simp only [Y19.j1];rw [if_neg (by simp),if_neg (by simp)]) (Ev.bind (impl_seenRight_ev acc (by omega)) ?_)
      simp only [Bool.false_or]
      exact Ev.now _
  intro n
  induction n with
  | zero =>
    intro o p b acc hn ha h
    refine ⟨p,b,h,?_⟩
    simp only [rMarks,List.append_nil]
    refine Ev.step (fun k=>?_) (jE acc ((0:Nat):Int) p b (by omega))
    simp only [Y19.l0]
    rw [if_neg (by omega)]
  | succ n ih =>
    intro o p b acc hn ha h
    cases b with
    | true =>
      have ho:=h.bad
      subst ho
      refine ⟨p,true,h,?_⟩
      simp only [rMarks,List.append_nil]
      refine Ev.step (fun k=>?_) (jE acc ((n+1:Nat):Int) p true (by omega))
      simp only [Y19.l0]
      rw [if_pos (by omega)]
      rfl
    | false =>
      have ho:=h.good
      subst ho
      obtain ⟨p1,b1,s1,e1⟩:=impl_num_ev hs h
      obtain ⟨p2,b2,s2,e2⟩:=impl_num_ev hs s1
      obtain ⟨p3,b3,s3,e3⟩:=ih _ p2 b2 (acc ++ [⟨(rNum s (some p)).2,(rNum s (rNum s (some p)).1).2⟩]) (by omega) (by simp;omega) s2
      refine ⟨p3,b3,s3,?_⟩
      simp only [rMarks]
      rw [List.append_assoc,List.singleton_append] at e3
      refine Ev.step (f:=fun k=>Y19.j1 k acc ((n+1:Nat):Int) true s p false) (fun k=>?_) ?_
      · simp only [Y19.l0]
        rw [if_pos (by omega)]
        rfl
      · have hj:∀ k,Y19.j1 (k+1) acc ((n+1:Nat):Int) true s p false=(Y27.f k s p false).bind fun a=>(Y27.f k a.2.1 a.2.2.1 a.2.2.2).bind fun c=>if acc.length<8796093022208 then Y19.l0 k (acc ++ [⟨a.1,c.1⟩]) (wrap64 (((n+1:Nat):Int)-1)) c.2.1 c.2.2.1 c.2.2.2 else none:=fun k=>by simp [Y19.j1]
        refine Ev.step hj (Ev.bind e1 (Ev.bind e2 (evPos (by omega) ?_)))
        rw [w64 (by omega) (by omega),show ((n+1:Nat):Int)-1=(n:Int) from by omega]
        exact e3
theorem impl_seen_ev {s:ByteArray} (hs:s.size≤8000) {o:Option Int} {p:Int} {b:Bool} (h:St s o p b):∃ p' b',St s (rSeen s o).1 p' b'∧Ev (fun k=>Y19.f k s p b) ((rSeen s o).2,s,p',b' || !seenOk (rSeen s o).2):=by
  obtain ⟨p1,b1,s1,e1⟩:=impl_count_ev hs h 5
  have hm:=rMany_le s o 5 (by omega)
  obtain ⟨p2,b2,s2,e2⟩:=impl_seen_l0 hs (rMany s o 5).2.toNat _ p1 b1 [] (by omega) (by simp;omega) s1
  refine ⟨p2,b2,s2,Ev.bind e1 ?_⟩
  rw [show (((rMany s o 5).2.toNat:Nat):Int)=(rMany s o 5).2 from by omega,List.nil_append] at e2
  exact e2
/-- A version vector's reading. -/
def seenRead (s:ByteArray):List Mark × Int:=if 8000<s.size then ([],2) else if (rSeen s (some 0)).1=some (s.size:Int)∧seenOk (rSeen s (some 0)).2=true then ((rSeen s (some 0)).2,0) else ([],3)
theorem seenRead_length (s:ByteArray):(seenRead s).1.length≤5:=by
  have:=rSeen_length s (some 0)
  unfold seenRead
  split
  · simp
  · split
    · exact this
    · simp
theorem St.start (s:ByteArray):St s (some 0) 0 false:=⟨Int.le_refl _,by omega,rfl⟩
theorem impl_SeenRead_ev (s:ByteArray):Ev (fun k=>Y20.f k s) (seenRead s):=by
  unfold Y20.f seenRead
  refine Ev.bind (isLong1_ev s) ?_
  by_cases h:8000<s.size
  · rw [if_pos h];exact evPos (by simpa using h) (Ev.now _)
  · rw [if_neg h]
    refine evNeg (by simpa using h) ?_
    obtain ⟨p,b,h1,h2⟩:=impl_seen_ev (by omega) (St.start s)
    refine Ev.bind h2 ?_
    clear h2
    simp only [Y64.f,Y66.f,Option.bind_some]
    generalize rSeen s (some 0)=r at h1 ⊢
    obtain ⟨_,_,h3⟩:=h1
    cases b with
    | true =>
      rw [if_neg (show ¬ (r.1=some (s.size:Int)∧seenOk r.2=true) from fun e=>by rw [h3] at e;exact absurd e.1 (by simp))]
      simp only [Bool.true_or,if_true,Option.bind_some]
      exact evNeg (by simp) (Ev.now _)
    | false =>
      simp only [Bool.false_eq_true,if_false] at h3
      rw [h3]
      cases hk:seenOk r.2 with
      | false =>
        simp only [Bool.false_or,Bool.not_false,if_true,Option.bind_some,Bool.false_eq_true,and_false,if_false]
        exact Ev.now _
      | true =>
        simp only [Bool.false_or,Bool.not_true,Bool.false_eq_true,if_false,Option.bind_some,Option.some.injEq,and_true]
        by_cases hp:p=(s.size:Int)
        · rw [if_pos hp];exact evPos (by simpa using hp) (Ev.now _)
        · rw [if_neg hp];exact evNeg (by simpa using hp) (Ev.now _)
theorem spec_SeenRead_ev (s:ByteArray):Ev (fun k=>Y11.f k s) (seenRead s):=by
  unfold Y11.f seenRead
  by_cases h:8000<s.size
  · rw [if_pos h];exact evPos (by omega) (Ev.now _)
  · rw [if_neg h]
    refine evNeg (by omega) ?_
    obtain ⟨p,b,h1,h2⟩:=spec_seen_ev (by omega) (St.start s)
    refine Ev.bind h2 ?_
    have hl:=rSeen_length s (some 0)
    have hsp:=rSeen_span (s:=s) (p:=0) (q:=p)
    clear h2
    generalize rSeen s (some 0)=r at h1 hl hsp ⊢
    obtain ⟨g0,g1,h3⟩:=h1
    have jT:Ev (fun k=>Y11.j0 k r.2 true) ([],3):=Ev.step (f:=fun _=>some ([],3)) (fun k=>by simp [Y11.j0]) (Ev.now _)
    have jF:Ev (fun k=>Y11.j0 k r.2 false) (r.2,0):=Ev.step (f:=fun _=>some (r.2,0)) (fun k=>by simp [Y11.j0]) (Ev.now _)
    cases b with
    | true =>
      rw [if_neg (show ¬ (r.1=some (s.size:Int)∧seenOk r.2=true) from fun e=>by rw [h3] at e;exact absurd e.1 (by simp))]
      exact evPos rfl jT
    | false =>
      simp only [Bool.false_eq_true,if_false] at h3
      have hq:=hsp h3
      refine evNeg (by simp) (evNeg (fun e=>?_) (Ev.bind (spec_SeenBytes_ev r.2 (by omega)) ?_))
      · have:=toList_nil e
        omega
      · rw [h3]
        unfold seenBytesOut
        cases hk:seenOk r.2 with
        | false =>
          rw [if_neg (by simp),if_neg (by simp)]
          have:((⟨#[]⟩:ByteArray).toList != s.toList)=true:=by
            simp only [bne_iff_ne,ne_eq]
            intro e
            have:=congrArg ByteArray.size (toList_inj e)
            have h0:(⟨#[]⟩:ByteArray).size=0:=rfl
            omega
          rw [this]
          exact jT
        | true =>
          rw [if_pos rfl]
          by_cases hp:p=(s.size:Int)
          · rw [if_pos ⟨by rw [hp],rfl⟩]
            have e:=bytesOf_inj ((hq.1.whole.1 hp).symm)
            rw [e]
            simp only [bne_self_eq_false]
            exact jF
          · rw [if_neg (fun e=>hp (Option.some.inj e.1))]
            have:((seenBytes r.2).toList != s.toList)=true:=by
              simp only [bne_iff_ne,ne_eq]
              intro e
              refine hp (hq.1.whole.2 ?_)
              rw [toList_inj e]
            rw [this]
            exact jT
end Go.Proofs.Ytmefchanjoadfaa.Q

namespace Go.Proofs.Ytmefchanjoadfaa.Q
open Go.RowKit Go.Proofs.Ytmefchanjoadfaa.P Go.Proofs.YtmefchanjoadfaaW.PrintWords Go.Proofs.YtmefchanjoadfaaW.PrintMore

theorem unzig_zig (n:Int):unzig (zig n)=n:=by
  unfold zig unzig
  split <;> split <;> omega
theorem numGo_put:∀ (f:Nat) (v u p w:Int) (r:List Int),f≤9→0≤v→v<2*128 ^ f→(f=9∨1≤v)→numGo (f+1) (vbytes f v ++ r) u p w=(unzig (u+v*w),p+((vbytes f v).length:Int),0)
  | 0,v,u,p,w,r,hf,h0,h1,h2=>by
    have h1':v<2:=by simpa using h1
    have e:v % 256=v:=by omega
    have e2:v % 128=v:=by omega
    simp only [vbytes,e,List.cons_append,List.nil_append,numGo]
    rw [if_neg (by omega),if_pos (by omega),if_neg (by omega),e2]
    rfl
  | f+1,v,u,p,w,r,hf,h0,h1,h2=>by
    have hp:(128:Int) ^ (f+1)=128 ^ f*128:=Int.pow_succ _ _
    by_cases h:v≥128
    · have ih:=numGo_put f (v / 128) (u+v % 128*w) (p+1) (w*128) r (by omega) (by omega) (by omega) (by omega)
      simp only [vbytes,if_pos h,List.cons_append,List.length_cons]
      simp only [numGo]
      rw [if_neg (by omega),if_neg (by omega),show (v % 128+128) % 128=v % 128 from by omega,ih]
      have e:u+v % 128*w+v / 128*(w*128)=u+v*w:=by
        have:v*w=(v % 128+128*(v / 128))*w:=by rw [Int.emod_add_mul_ediv]
        rw [this,Int.add_mul,Int.add_assoc]
        congr 2
        rw [Int.mul_comm 128 (v / 128),Int.mul_assoc,Int.mul_comm 128 w]
      rw [e]
      refine Prod.ext rfl (Prod.ext ?_ rfl)
      simp;omega
    · have e:v % 256=v:=by omega
      have e2:v % 128=v:=by omega
      simp only [vbytes,if_neg h,e,List.cons_append,List.nil_append]
      simp only [numGo]
      rw [if_neg (by omega),if_pos (by omega),if_neg (by omega),e2]
      rfl
theorem zig_lt {n:Int} (h0 : -9223372036854775808≤n) (h1:n≤9223372036854775807):0≤zig n∧zig n<2*128 ^ 9:=by
  have:=zig_range h0 h1
  omega
/-- A number that lies there is read. -/
theorem getNum_put {s:ByteArray} {x n:Int} {r:List Int} (hs:s.size≤8000) (hx:0≤x) (h0 : -9223372036854775808≤n) (h1:n≤9223372036854775807) (h:(bytesOf s).drop x.toNat=bytesOf (putNum n) ++ r) :
    getNum s x=(n,x+((putNum n).size:Int),0):=by
  have hz:=zig_lt h0 h1
  have hl:(putNum n).size=(vbytes 9 (zig n)).length:=by rw [← bytesOf_length,bytesOf_putNum]
  unfold getNum
  rw [if_neg (by omega),if_neg (by omega),h,bytesOf_putNum,numGo_put 9 (zig n) 0 x 1 r (by omega) hz.1 hz.2 (Or.inl rfl),hl]
  rw [show 0+zig n*1=zig n from by omega,unzig_zig]
end Go.Proofs.Ytmefchanjoadfaa.Q

namespace Go.Proofs.Ytmefchanjoadfaa.Q
open Go.RowKit Go.Proofs.Ytmefchanjoadfaa.P Go.Proofs.YtmefchanjoadfaaW.PrintWords Go.Proofs.YtmefchanjoadfaaW.PrintMore
theorem rNum_put {s:ByteArray} {x n:Int} {r:List Int} (hs:s.size≤8000) (hx:0≤x) (h0 : -9223372036854775808≤n) (h1:n≤9223372036854775807) (h:(bytesOf s).drop x.toNat=bytesOf (putNum n) ++ r) :
    rNum s (some x)=(some (x+((putNum n).size:Int)),n)∧(bytesOf s).drop (x+((putNum n).size:Int)).toNat=r:=by
  have e:=getNum_put hs hx h0 h1 h
  refine ⟨by simp only [rNum,e];rfl,?_⟩
  rw [show (x+((putNum n).size:Int)).toNat=x.toNat+(putNum n).size by omega,← List.drop_drop,h,← bytesOf_length]
  exact List.drop_left
theorem rMarks_put {s:ByteArray} (hs:s.size≤8000):∀ (l:List Mark) (x:Int) (r:List Int),0≤x→Small l→(bytesOf s).drop x.toNat=marksBytes l ++ r →
    rMarks s l.length (some x)=(some (x+((marksBytes l).length:Int)),l)
  | [],x,r,hx,_,h=>by simp [rMarks,marksBytes]
  | m :: l,x,r,hx,hl,h=>by
    have hm:=hl m (by simp)
    have e:marksBytes (m :: l)=bytesOf (putNum m.f0) ++ (bytesOf (putNum m.f1) ++ marksBytes l):=by
      show bytesOf (markBytes m) ++ marksBytes l=_
      unfold markBytes
      rw [bytesOf_append,List.append_assoc]
    rw [e,List.append_assoc,List.append_assoc] at h
    obtain ⟨e1,d1⟩:=rNum_put hs hx (by omega) (by omega) h
    obtain ⟨e2,d2⟩:=rNum_put hs (by omega) (by omega) (by omega) d1
    have ih:=rMarks_put hs l _ r (by omega) (fun y hy=>hl y (List.mem_cons_of_mem _ hy)) d2
    simp only [List.length_cons,rMarks,e1,e2,ih]
    rw [e,List.length_append,List.length_append,bytesOf_length,bytesOf_length]
    congr 2
    omega
theorem read_bytes {w:List Mark} (h:seenOk w=true) (hz:(seenBytes w).size≤8000):seenRead (seenBytes w)=(w,0):=by
  have h5:=seenOk_length h
  have hd:(bytesOf (seenBytes w)).drop (0:Int).toNat=bytesOf (putNum (w.length:Int)) ++ (marksBytes w ++ []):=by
    rw [List.append_nil]
    exact bytesOf_seenBytes w
  obtain ⟨e1,d1⟩:=rNum_put hz (Int.le_refl 0) (by omega) (by omega) hd
  have hm:rMany (seenBytes w) (some 0) 5=rNum (seenBytes w) (some 0):=by
    unfold rMany
    rw [e1,if_pos]
    simp only [isWithin,Bool.and_eq_true,decide_eq_true_eq]
    omega
  have e2:=rMarks_put hz w _ [] (by omega) (seenOk_small h) d1
  have hr:rSeen (seenBytes w) (some 0)=(some ((seenBytes w).size:Int),w):=by
    unfold rSeen
    rw [hm,e1]
    simp only [Int.toNat_natCast]
    rw [e2]
    congr 2
    rw [← bytesOf_length (seenBytes w),bytesOf_seenBytes,List.length_append,bytesOf_length]
    omega
  unfold seenRead
  rw [if_neg (by omega),hr,if_pos ⟨rfl,h⟩]
theorem bytes_read {u:ByteArray} (h:(seenRead u).2=0):seenBytesOut (seenRead u).1=u:=by
  unfold seenRead at h ⊢
  split at h
  · simp at h
  · rename_i h1
    rw [if_neg h1]
    split at h
    · rename_i h2
      rw [if_pos h2]
      unfold seenBytesOut
      rw [if_pos h2.2]
      have:=(rSeen_span h2.1).1
      exact bytesOf_inj ((Span.whole this).1 rfl).symm
    · simp at h
theorem put_has {v:List Mark} {a b:Int} (h:(seenPut v a b).2=0):seenHasOut (seenPut v a b).1 a b=true:=by
  unfold seenPut at h ⊢
  split at h
  · simp at h
  · rename_i h1
    rw [if_neg h1]
    split at h
    · rename_i h2
      rw [if_pos h2]
      split at h
      · rename_i h3
        rw [if_pos h3]
        have hd:=(isDot_iff a b).1 h3
        have h4:seenOk [(⟨a,b⟩:Mark)]=true:=by
          simp only [seenOk,okFrom,h3,Bool.true_and,Bool.and_true,decide_eq_true_eq]
          omega
        have h5:=join_of h2 h4 a
        unfold seenHasOut seenHas
        rw [join_ok h2 h4,h3,Bool.true_and,Bool.true_and,decide_eq_true_eq,h5]
        have h6:seenOf [(⟨a,b⟩:Mark)] a=b:=by simp [seenOf]
        rw [h6]
        exact (le_mx _ _).2
      · simp at h
    · simp at h
theorem seenOf_mem:∀ (l:List Mark) (n:Int),seenOf l n=0∨∃ m ∈ l,m.f0=n∧m.f1=seenOf l n
  | [],n=>.inl rfl
  | m :: r,n=>by
    simp only [seenOf]
    by_cases c:m.f0=n
    · rw [if_pos c]
      exact .inr ⟨m,by simp,c,rfl⟩
    · rw [if_neg c]
      rcases seenOf_mem r n with h | ⟨x,h1,h2⟩
      · exact .inl h
      · exact .inr ⟨x,List.mem_cons_of_mem _ h1,h2⟩
theorem less_iff {a b:List Mark}:lessList a b=true ↔ ∀ m ∈ a,m.f1≤seenOf b m.f0:=by
  unfold lessList
  rw [List.all_eq_true]
  simp only [seenHas,decide_eq_true_eq]
theorem less_join {a b:List Mark} (ha:seenOk a=true) (hb:seenOk b=true):lessList a (seenJoin a b)=true∧lessList b (seenJoin a b)=true:=by
  refine ⟨less_iff.2 fun m hm=>?_,less_iff.2 fun m hm=>?_⟩
  · rw [join_of ha hb,← ok_mem ha m hm]
    exact (le_mx _ _).1
  · rw [join_of ha hb,← ok_mem hb m hm]
    exact (le_mx _ _).2
theorem less_eq_join {a b:List Mark} (ha:seenOk a=true) (hb:seenOk b=true):lessList a b=true ↔ seenJoin a b=b:=by
  constructor
  · intro h
    refine ok_ext (join_ok ha hb) hb (fun n=>?_)
    rw [join_of ha hb]
    have hr:=(ok_range hb n).1
    have:seenOf a n≤seenOf b n:=by
      rcases seenOf_mem a n with h0 | ⟨m,h1,h2,h3⟩
      · omega
      · have:=less_iff.1 h m h1
        rw [h2] at this
        omega
    unfold mx
    split <;> omega
  · intro h
    refine less_iff.2 fun m hm=>?_
    have h1:=join_of ha hb m.f0
    rw [h,ok_mem ha m hm] at h1
    rw [h1]
    exact (le_mx _ _).1
def eqM:List Mark→List Mark→Bool
  | [],[]=>true
  | x :: a,y :: b=>(x.f0 == y.f0 && x.f1 == y.f1) && eqM a b
  | _,_=>false
theorem eqM_iff:∀ a b:List Mark,eqM a b=true ↔ a=b
  | [],[]=>by simp [eqM]
  | ⟨x0,x1⟩ :: a,⟨y0,y1⟩ :: b=>by
    simp only [eqM,Bool.and_eq_true,beq_iff_eq,eqM_iff a b,List.cons.injEq,S49.mk.injEq]
  | [],_ :: _=>by simp [eqM]
  | _ :: _,[]=>by simp [eqM]
theorem eqM_length:∀ a b:List Mark,a.length≠b.length→eqM a b=false:=fun a b h=>by
  cases e:eqM a b with
  | false=>rfl
  | true=>exact absurd (by rw [(eqM_iff a b).1 e]) h
theorem markNe (x y:Mark):(!(x.f0 == y.f0) || (!(x.f1 == y.f1)))=!(x.f0 == y.f0 && x.f1 == y.f1):=by
  cases x.f0 == y.f0 <;> cases x.f1 == y.f1 <;> rfl
theorem lwSeen_l0 (l m:List Mark) (hl:l.length≤1048576) (hm:m.length=l.length):∀ (s t:List Mark) (i:Nat),l.drop i=s→m.drop i=t→i≤l.length →
    Ev (fun k=>Y6.l0 k l m (i:Int)) (eqM s t)
  | [],t,i,h,h',hi=>by
    have e:=dropNil' h hi
    have:t=[]:=by rw [← h',List.drop_eq_nil_of_le (by omega)]
    subst this
    refine Ev.step (f:=fun _=>some true) (fun k=>?_) (Ev.now _)
    simp only [Y6.l0]
    rw [if_neg (by omega)]
  | x :: s,[],i,h,h',hi=>by
    have a:=(dropCons h z49).1
    have b:=dropNil h'
    omega
  | x :: s,y :: t,i,h,h',hi=>by
    obtain ⟨h1,h2,h3⟩:=dropCons h z49
    obtain ⟨g1,g2,g3⟩:=dropCons h' z49
    have hr:rd_T49 l (i:Int)=x:=by simpa [rd_T49] using h2
    have gr:rd_T49 m (i:Int)=y:=by simpa [rd_T49] using g2
    have ih:=lwSeen_l0 l m hl hm s t (i+1) h3 g3 (by omega)
    refine Ev.step (fun k=>by simp only [Y6.l0,hr,gr,markNe];rw [if_pos (by omega),if_pos (by omega),if_pos (by omega)]) ?_
    unfold eqM
    cases x.f0 == y.f0 && x.f1 == y.f1 with
    | false=>exact evPos (by rfl) (Ev.now _)
    | true =>
      refine evNeg (by simp) ?_
      rw [w64 (by omega) (by omega)]
      exact ih
theorem lwSeen_ev (l m:List Mark) (hl:l.length≤1048576):Ev (fun k=>Y6.f k l m) (eqM l m):=by
  unfold Y6.f
  refine evIte (fun h=>?_) (fun h=>?_)
  · exact lwSeen_l0 l m hl (by omega) l m 0 rfl rfl (by omega)
  · rw [eqM_length l m (by omega)]
    exact Ev.now _
theorem lwSeen_refl (l:List Mark) (hl:l.length≤1048576):Ev (fun k=>Y6.f k l l) true:=by
  have:=lwSeen_ev l l hl
  rwa [(eqM_iff l l).2 rfl] at this
end Go.Proofs.Ytmefchanjoadfaa.Q

namespace Go.Proofs.Ytmefchanjoadfaa.Pure
open Go.RowKit Go.Proofs.Ytmefchanjoadfaa.P Go.Proofs.Ytmefchanjoadfaa.Q Go.Proofs.YtmefchanjoadfaaW.PrintWords Go.Proofs.YtmefchanjoadfaaW.PrintMore
theorem j2T (a b j:List S49):Ev (fun k=>Y0.j2 k a b j true) true:=Ev.step (f:=fun _=>some true) (fun k=>by simp [Y0.j2]) (Ev.now _)
theorem seen_l0 {a b:List S49} (ha:seenOk a=true) (hb:seenOk b=true):∀ (d:Nat) (n:Int),n+d=6→1≤n→Ev (fun k=>Y0.l0 k a b (seenJoin a b) n) true
  | 0,n,h,h1=>by
    have la:=seenOk_length ha
    have lb:=seenOk_length hb
    have lj:=seenJoin_length a b
    have hj:=join_ok ha hb
    have w1:=impl_SeenLess_ev a (seenJoin a b) (by omega) (by omega)
    have w2:=impl_SeenLess_ev b (seenJoin a b) (by omega) (by omega)
    have w3:=impl_SeenJoin_ev b a (by omega) (by omega)
    have w4:=impl_SeenLess_ev a b (by omega) (by omega)
    have w5:=lwSeen_ev (seenJoin a b) b (by omega)
    have e1:lessOut a (seenJoin a b)=true:=by unfold lessOut;rw [ha,hj,(less_join ha hb).1];rfl
    have e2:lessOut b (seenJoin a b)=true:=by unfold lessOut;rw [hb,hj,(less_join ha hb).2];rfl
    have e3:seenJoinOut b a=seenJoin a b:=by unfold seenJoinOut;rw [if_pos hb,if_pos ha,join_comm]
    have e4:lessOut a b=eqM (seenJoin a b) b:=by
      unfold lessOut
      rw [ha,hb,Bool.true_and,Bool.true_and,Bool.eq_iff_iff,less_eq_join ha hb,eqM_iff]
    rw [e1] at w1
    rw [e2] at w2
    rw [e3] at w3
    rw [e4] at w4
    refine Ev.step (fun k=>by simp only [Y0.l0];rw [if_neg (by omega)]) (Ev.bind w1 (evPos rfl (Ev.bind w2 (evPos rfl (Ev.bind w3 (Ev.bind (lwSeen_refl (seenJoin a b) (by omega)) (evPos rfl (Ev.bind w4 (Ev.bind w5 ?_)))))))))
    rw [beq_self_eq_true]
    exact Ev.now _
  | d+1,n,h,h1=>by
    have la:=seenOk_length ha
    have lb:=seenOk_length hb
    have lj:=seenJoin_length a b
    have w1:=impl_SeenOf_ev (seenJoin a b) n (by omega)
    have w2:=impl_SeenOf_ev a n (by omega)
    have w3:=impl_SeenOf_ev b n (by omega)
    have hw:wrap64 (n+1)=n+1:=w64 (by omega) (by omega)
    have ih:=seen_l0 ha hb d (n+1) (by omega) (by omega)
    refine Ev.step (fun k=>by simp only [Y0.l0,hw];rw [if_pos (by omega)]) (Ev.bind w1 (Ev.bind w2 ?_))
    by_cases c:seenOfOut (seenJoin a b) n=seenOfOut a n
    · exact evPos c ih
    · refine evNeg c (Ev.bind w1 (Ev.bind w3 (evPos ?_ ih)))
      unfold seenOfOut at c ⊢
      rw [if_pos (join_ok ha hb),join_of ha hb] at c ⊢
      rw [if_pos ha] at c
      rw [if_pos hb]
      unfold mx at c ⊢
      split
      · rfl
      · rename_i h3
        rw [if_neg h3] at c
        exact absurd rfl c
theorem seen_j1 (a b:List S49) (ha:a.length≤6) (hb:b.length≤6):Ev (fun k=>Y0.j1 k a b (seenJoinOut a b) false) true:=by
  refine Ev.step (fun k=>by simp only [Y0.j1];rw [if_neg (by simp)]) (Ev.bind (spec_SeenRight_ev a (by omega)) ?_)
  cases h1:seenOk a with
  | false=>exact evNeg (by simp) (j2T _ _ _)
  | true =>
    refine evPos rfl (Ev.bind (spec_SeenRight_ev b (by omega)) ?_)
    cases h2:seenOk b with
    | false=>exact j2T _ _ _
    | true =>
      have e:seenJoinOut a b=seenJoin a b:=by unfold seenJoinOut;rw [if_pos h1,if_pos h2]
      rw [e]
      exact Ev.step (fun k=>by simp only [Y0.j2];rw [if_neg (by simp)]) (seen_l0 h1 h2 5 1 (by omega) (by omega))
theorem FnSeen:Y0.Pure:=by
  intro l0 l1 hl0 _ _ hl1 _ _
  refine Ev.rounds ?_
  have j0T:Ev (fun k=>Y0.j0 k l0 l1 true) true:=Ev.step (f:=fun _=>some true) (fun k=>by simp [Y0.j0]) (Ev.now _)
  unfold Y0.f
  refine evIte (fun _=>j0T) (fun h0=>?_)
  by_cases h1:(l1.length:Int)>1048576
  · rw [decide_eq_true h1];exact j0T
  · rw [decide_eq_false h1]
    obtain ⟨a,b,e1,ha,hb⟩:=DrawSeenJoin_ok l0 (by omega)
    obtain ⟨c,d,e2,hc,hd⟩:=DrawSeenLess_ok l1 (by omega)
    obtain ⟨v,x,y,e3,hv⟩:=DrawSeenPut_ok l1 (by omega)
    obtain ⟨o,n,e4,ho⟩:=DrawSeenOf_ok l0 (by omega)
    obtain ⟨p,p1,p2,e5,hp⟩:=DrawSeenHas_ok l0 (by omega)
    obtain ⟨w,e6,hw⟩:=DrawSeenBytes_ok l1 (by omega)
    obtain ⟨u,e7⟩:=DrawSeenRead_ok l0 (by omega)
    have b1:=seenJoinOut_length a b
    have b2:=seenPut_length v x y
    have b3:=seenRead_length u
    refine Ev.step (fun k=>by simp only [Y0.j0];rw [if_neg (by simp)]) (Ev.bind e1 (Ev.bind (impl_SeenJoin_ev a b (by omega) (by omega)) (Ev.bind e2 (Ev.bind e3 (Ev.bind (impl_SeenPut_ev v x y (by omega)) (Ev.bind e4 (Ev.bind e5 (Ev.bind e6 (Ev.bind (impl_SeenBytes_ev w (by omega)) (Ev.bind e7 (Ev.bind (impl_SeenRead_ev u) ?_)))))))))))
    refine Ev.bind (spec_SeenJoin_ev a b (by omega) (by omega)) (Ev.bind (lwSeen_refl (seenJoinOut a b) (by omega)) (evPos rfl ?_))
    refine Ev.bind (impl_SeenLess_ev c d (by omega) (by omega)) (Ev.bind (spec_SeenLess_ev c d (by omega) (by omega)) (evNeg (by simp) ?_))
    refine Ev.bind (spec_SeenPut_ev v x y (by omega)) (evPos rfl (Ev.bind (spec_SeenPut_ev v x y (by omega)) (Ev.bind (lwSeen_refl (seenPut v x y).1 (by omega)) (evPos rfl ?_))))
    refine Ev.bind (impl_SeenOf_ev o n (by omega)) (Ev.bind (spec_SeenOf_ev o n (by omega)) (evPos rfl ?_))
    refine Ev.bind (impl_SeenHas_ev p p1 p2 (by omega)) (Ev.bind (spec_SeenHas_ev p p1 p2 (by omega)) (evNeg (by simp) ?_))
    refine Ev.bind (spec_SeenBytes_ev w (by omega)) (evPos rfl ?_)
    refine Ev.bind (spec_SeenRead_ev u) (evPos rfl (Ev.bind (spec_SeenRead_ev u) (Ev.bind (lwSeen_refl (seenRead u).1 (by omega)) (evPos rfl ?_))))
    refine Ev.bind (impl_SeenRight_ev a (by omega)) (Ev.bind (spec_SeenRight_ev a (by omega)) (evNeg (by simp) ?_))
    have P2:Ev (fun k=>if (seenPut v x y).2=0 then (Y4.f k (seenPut v x y).1 x y).bind fun t=>Y0.j1 k a b (seenJoinOut a b) (!t) else Y0.j1 k a b (seenJoinOut a b) false) true:=by
      refine evIte (fun h=>?_) (fun _=>seen_j1 a b ha hb)
      have:=impl_SeenHas_ev (seenPut v x y).1 x y (by omega)
      rw [put_has h] at this
      exact Ev.bind this (seen_j1 a b ha hb)
    have P1:Ev (fun k=>if (seenRead u).2=0 then (Y9.f k (seenRead u).1).bind fun t=>if t.toList=u.toList then (if (seenPut v x y).2=0 then (Y4.f k (seenPut v x y).1 x y).bind fun t=>Y0.j1 k a b (seenJoinOut a b) (!t) else Y0.j1 k a b (seenJoinOut a b) false) else none else (if (seenPut v x y).2=0 then (Y4.f k (seenPut v x y).1 x y).bind fun t=>Y0.j1 k a b (seenJoinOut a b) (!t) else Y0.j1 k a b (seenJoinOut a b) false)) true:=by
      refine evIte (fun h=>?_) (fun _=>P2)
      have:=impl_SeenBytes_ev (seenRead u).1 (by omega)
      rw [bytes_read h] at this
      exact Ev.bind this (evPos rfl P2)
    refine evIte (fun _=>P1) (fun h=>?_)
    have hok:seenOk w=true:=by
      cases hq:seenOk w with
      | true=>rfl
      | false =>
        have:seenBytesOut w=⟨#[]⟩:=by unfold seenBytesOut;rw [hq];rfl
        rw [this] at h
        exact absurd (show (⟨#[]⟩:ByteArray).toList=[] by rw [toList_data]) h
    have hsz:=seenBytesOut_size w
    have eb:seenBytesOut w=seenBytes w:=by unfold seenBytesOut;rw [if_pos hok]
    have:=impl_SeenRead_ev (seenBytesOut w)
    rw [eb] at this hsz
    rw [read_bytes hok (by omega)] at this
    rw [eb]
    exact Ev.bind this (Ev.bind (lwSeen_refl w (by omega)) (evPos rfl P1))
end Go.Proofs.Ytmefchanjoadfaa.Pure

namespace Go.Proofs.Ytmefchanjoadfaa.fnSeen
open Go.ChangeShapes Go.WideShapes Go.ChangeAt Go.RowKit
open Go.ChangeMaps (open_string shut_string)
set_option linter.unusedVariables false
theorem own:ownKnob Try.prog.godebug=none:=by kernel_rfl
theorem laidOut:laidOutB Try.prog=true:=by kernel_rfl
def IsRow (k:IntKind) (w:World) (a:Option Addr) (len cap:Nat) (zs:List Int):Prop :=
  (a=none∧len=0∧cap=0∧zs=[]) ∨
  ∃ x,a=some x∧len≤cap∧cap≤maxLen∧zs.length=cap∧(∀ i,i<zs.length→w.cell? (x.add i)=some (.int k (zs.getD i 0)))∧∀ n ∈ zs,(Lit.int k n).wf=true
set_option maxRecDepth 100000 in
theorem lifted (os:Os) (started:os.Started) (H:Type) (enc:TypeId × Value→H) :
    ReturnsInHanded {} Try.checked os 5 .any (Rows.fnSeenSpec.pre6 enc Try.prog Try.f5 Rows.fnSeenRow.domain false) (Rows.fnSeenSpec.post enc Try.prog Try.f5 false true false false):=by
  refine returnsInHanded_of_change_sized (C:=Try.checked) own started (by kernel_rfl) Try.func5
    (ChangeSpec.witness6 (enc:=enc) (C:=Try.checked) false ⟨#[],#[.slice none 0 0,.slice none 0 0],[]⟩ 8 (by kernel_rfl) (by kernel_rfl) (by kernel_rfl) (by kernel_rfl)) ?_
  intro W base args ds gs before hval0 hW hcnd hsz0 _
  have hsz:(DataW.weightsEach Try.prog (Try.f5.params.toList ++ Rows.fnSeenSpec.plain.varTypes Try.prog) (ds ++ gs)).all (· ≤ reachBytes)=true:=hsz0
  have hval:∀ (j:Nat) t v,Try.f5.params[j]? = some t→args[j]? = some v→Value.okWide Try.prog W .any base t v:=hval0
  have hW':=hW
  obtain ⟨p,q,hA0,hV,rfl,hfz,hnd⟩:=hW
  have hA:DataW.TrodAll enc Try.prog W 0 (fun _=>true) true Try.f5.params.toList args.toList ds p:=hA0
  rw [Try.params5] at hA hval hsz
  obtain ⟨v0,vs0,d0,ds0,p0,q0,hargs,rfl,rfl,h0,r0⟩:=trodAll_cons hA
  obtain ⟨v1,vs1,d1,ds1,p1,q1,rfl,rfl,rfl,h1,r1⟩:=trodAll_cons r0
  obtain ⟨rfl,rfl,rfl⟩:=trodAll_nil r1
  obtain rfl:args=#[v0,v1]:=by cases args;simp_all
  obtain ⟨rfl,rfl⟩:=trodVars_none hV
  obtain ⟨a0,len0,cap0,rfl⟩:=okWide_slice Try.underlying44 (hval 0 44 v0 rfl rfl)
  have k0:=h0
  have lt0:∀ x ∈ p0,x.block<W.heap.size:=by obtain ⟨m,hm⟩:=k0;exact DataW.trod_lt m _ _ _ hm
  obtain ⟨z0,w0⟩:∃ zs,IsRow .u8 W a0 len0 cap0 zs:=by
    obtain ⟨fuel,hf⟩:=h0
    rcases open_ints Try.underlying44 Try.underlying5 (by kernel_rfl) hf with ⟨hcs,_⟩ | ⟨x,l,c,zs,hcs,_,hl,hm,hz,_,hcell,hwz⟩
    · simp [Value.cells] at hcs
      obtain ⟨rfl,rfl,rfl⟩:=hcs
      exact ⟨[],.inl ⟨rfl,rfl,rfl,rfl⟩⟩
    · simp [Value.cells] at hcs
      obtain ⟨rfl,rfl,rfl⟩:=hcs
      exact ⟨zs,.inr ⟨_,rfl,hl,hm,by simpa using hz,hcell,hwz⟩⟩
  have y0:len0*1≤140737488351232:=Go.Proofs.YtmefchanjoadfaaW.PrintWords.sized_ints hsz (j:=0) (t:=44) rfl rfl Try.underlying44 Try.underlying5 (by kernel_rfl) (by kernel_rfl) h0
  obtain ⟨a1,len1,cap1,rfl⟩:=okWide_slice Try.underlying44 (hval 1 44 v1 rfl rfl)
  have k1:=h1
  have lt1:∀ x ∈ p1,x.block<W.heap.size:=by obtain ⟨m,hm⟩:=k1;exact DataW.trod_lt m _ _ _ hm
  obtain ⟨z1,w1⟩:∃ zs,IsRow .u8 W a1 len1 cap1 zs:=by
    obtain ⟨fuel,hf⟩:=h1
    rcases open_ints Try.underlying44 Try.underlying5 (by kernel_rfl) hf with ⟨hcs,_⟩ | ⟨x,l,c,zs,hcs,_,hl,hm,hz,_,hcell,hwz⟩
    · simp [Value.cells] at hcs
      obtain ⟨rfl,rfl,rfl⟩:=hcs
      exact ⟨[],.inl ⟨rfl,rfl,rfl,rfl⟩⟩
    · simp [Value.cells] at hcs
      obtain ⟨rfl,rfl,rfl⟩:=hcs
      exact ⟨zs,.inr ⟨_,rfl,hl,hm,by simpa using hz,hcell,hwz⟩⟩
  have y1:len1*1≤140737488351232:=Go.Proofs.YtmefchanjoadfaaW.PrintWords.sized_ints hsz (j:=1) (t:=44) rfl rfl Try.underlying44 Try.underlying5 (by kernel_rfl) (by kernel_rfl) h1
  clear hA0 hval0 hsz0 hsz
  refine (P.Y0.walk Pure.FnSeen a0 len0 cap0 z0 a1 len1 cap1 z1 W w0 y0 w1 y1).mono fun e W' ⟨he,bel⟩=>?_
  subst he
  exact ⟨_,rfl,_,_,_,[],_,[],hW',trodAll_mk1 (shut_bool Try.underlying4 _),(trodAll_cons_mk (Below.trod laidOut (by kernel_rfl) (of_decide_eq_true (by kernel_rfl)) k0 bel lt0) (trodAll_cons_mk (Below.trod laidOut (by kernel_rfl) (of_decide_eq_true (by kernel_rfl)) k1 bel lt1) trodAll_mk0)),rfl,bel.frame _,fun h=>by cases h⟩
theorem over:Rows.fnSeenRow.holds Try.pinned (OpenSpec.ofChange Rows.fnSeenSpec) :=
  OpenClaim.holds_of_wide 5 Try.f5 rfl rfl rfl rfl rfl rfl rfl ⟨rfl,rfl,rfl,rfl,rfl⟩ rfl rfl rfl rfl rfl (by kernel_rfl) Try.func5 (by kernel_rfl)
    (of_decide_eq_true (by kernel_rfl)) (by unfold Func.isWrapper;first | (rw [if_pos (by decide +kernel)];kernel_rfl) | (rw [if_neg (by decide +kernel)];exact ⟨rfl,rfl⟩))
    (fun os started H enc _=>lifted os started H enc)
theorem proved:Rows.FnSeenSaid:=over
#print axioms proved
end Go.Proofs.Ytmefchanjoadfaa.fnSeen
namespace Go.Proofs.Ytmefchanjoadfaa
/-- The row, under a short name, for the claim. -/
theorem fnSeen_holds:Rows.FnSeenSaid:=fnSeen.proved
end Go.Proofs.Ytmefchanjoadfaa
