/- For all sets the program's SetSync and the reference's return the same, of its own memory, and leave what they are given. No condition. (Part 6 of 6: written by programs of this workplace and by hand, merged.) -/
import Derived.Test.YtphbgcfpcadabaaMFnExactSetSynce
import Derived.Test.YtphbgcfpcadabaaMFnExactSetSynca
import Derived.Test.YtphbgcfpcadabaaMFnExactSetSyncd
import Derived.Test.YtphbgcfpcadabaaMFnExactSetSyncb
import Derived.Test.YtphbgcfpcadabaaMFnExactSetSyncc
import Derived.Test.YtphbgcfpcadabaaRows
import Derived.WalkKit
import Derived.ProofKit
import Derived.OpenShut
import Derived.ShutString
import Derived.ChangeOld
import Derived.Below
import Derived.SizedLaws
set_option linter.unusedVariables false
set_option linter.unusedSimpArgs false

namespace Go.Proofs.Ytphbgcfpcadabaa.Q
open Go.RowKit Go.Proofs.Ytphbgcfpcadabaa.P Go.Proofs.YtphbgcfpcadabaaW.PrintWords Go.Proofs.YtphbgcfpcadabaaW.PrintMore

abbrev LSib:=S107
def toSib (x:LSib):Sib:=⟨toMark x.f0,x.f1,x.f2⟩
theorem szSib_is (a b:Int) (c:Bool) (t:ByteArray) (n:Int) (h0:0≤n) (h1:n≤1048576) (ht:t.size≤9223372036854775807) :
    laws_szSib.f a b c t n=some (if n<(t.size:Int) then -1 else n-(t.size:Int)):=by
  unfold laws_szSib.f
  rw [w64 (by omega) (by omega)]
  split
  · rw [if_pos (by omega)]
  · rw [if_neg (by omega)]
theorem szSibS_l0 (l:List LSib) (hl:l.length≤1048576) (hx:∀ x ∈ l,x.f2.size≤9223372036854775807):∀ (s:List LSib) (i:Nat),l.drop i=s→i≤l.length→∀ n:Int,0≤n→n≤1048576 →
    ∃ r,Ev (fun k=>laws_szSibS.l0 k l n (i:Int)) r∧r≤n∧(0≤r→∀ x ∈ s,(x.f2.size:Int)≤n)
  | [],i,h,hi,n,h0,h1=>by
    have:=dropNil' h hi
    refine ⟨n,Ev.step (f:=fun _=>some n) (fun k=>?_) (Ev.now _),by omega,by simp⟩
    simp only [laws_szSibS.l0]
    rw [if_neg (by omega)]
  | m :: s,i,h,hi,n,h0,h1=>by
    obtain ⟨g1,g2,g3⟩:=dropCons h z107
    have hr:rd_T107 l (i:Int)=m:=by simpa [rd_T107] using g2
    have hm:m ∈ l:=List.mem_of_mem_drop (by rw [h];exact List.mem_cons_self)
    have e:=szSib_is m.f0.f0 m.f0.f1 m.f1 m.f2 n h0 h1 (hx m hm)
    by_cases hn:n<(m.f2.size:Int)
    · rw [if_pos hn] at e
      refine ⟨-1,Ev.step (f:=fun _=>some (-1)) (fun k=>?_) (Ev.now _),by omega,by omega⟩
      simp only [laws_szSibS.l0,hr,e,Option.bind_some]
      rw [if_pos (by omega),if_pos (by omega),if_pos (by omega)]
    · rw [if_neg hn] at e
      obtain ⟨r,e1,e2,e3⟩:=szSibS_l0 l hl hx s (i+1) g3 (by omega) (n-(m.f2.size:Int)) (by omega) (by omega)
      refine ⟨r,Ev.step (fun k=>?_) e1,by omega,fun hr0 x hxm=>?_⟩
      · simp only [laws_szSibS.l0,hr,e,Option.bind_some]
        rw [if_pos (by omega),if_pos (by omega),if_neg (by omega),w64 (by omega) (by omega)]
        rfl
      · rcases List.mem_cons.1 hxm with rfl | hxm
        · omega
        · have:=e3 hr0 x hxm;omega
theorem szSibS_ev (l:List LSib) (hl:l.length≤9223372036854775807) (hx:∀ x ∈ l,x.f2.size≤9223372036854775807) (n:Int) (h0:0≤n) (h1:n≤1048576) :
    ∃ r,Ev (fun k=>laws_szSibS.f k l n) r∧r≤n∧(0≤r→(l.length:Int)≤n∧∀ x ∈ l,(x.f2.size:Int)≤n):=by
  unfold laws_szSibS.f
  rw [w64 (by omega) (by omega)]
  by_cases h:n-(l.length:Int)<0
  · exact ⟨-1,evPos h (Ev.now _),by omega,by omega⟩
  · obtain ⟨r,e1,e2,e3⟩:=szSibS_l0 l (by omega) hx l 0 rfl (by omega) (n-(l.length:Int)) (by omega) (by omega)
    exact ⟨r,evNeg h e1,by omega,fun h0=>⟨by omega,fun x hx=>by have:=e3 h0 x hx;omega⟩⟩
theorem szSet_ev (v:List LMark) (l:List LSib) (hv:v.length≤9223372036854775807) (hl:l.length≤9223372036854775807) (hx:∀ x ∈ l,x.f2.size≤9223372036854775807) (n:Int) (h0:0≤n) (h1:n≤1048576) :
    ∃ r,Ev (fun k=>laws_szSet.f k v l n) r∧r≤n∧(0≤r→v.length≤1048576∧l.length≤1048576∧∀ x ∈ l,x.f2.size≤1048576):=by
  unfold laws_szSet.f
  rw [szMarkS_is v n h0 h1 hv]
  simp only [Option.bind_some]
  by_cases h:n<(v.length:Int)
  · rw [if_pos h]
    exact ⟨-1,evPos (by omega) (Ev.now _),by omega,by omega⟩
  · rw [if_neg h]
    obtain ⟨r,e1,e2,e3⟩:=szSibS_ev l hl hx (n-(v.length:Int)) (by omega) (by omega)
    by_cases hr:r<0
    · exact ⟨-1,evNeg (by omega) (Ev.bind e1 (evPos hr (Ev.now _))),by omega,by omega⟩
    · refine ⟨r,evNeg (by omega) (Ev.bind e1 (evNeg hr (Ev.now _))),by omega,fun h0=>?_⟩
      obtain ⟨g1,g2⟩:=e3 h0
      exact ⟨by omega,by omega,fun x hx=>by have:=g2 x hx;omega⟩
theorem toSibS_l0 (l:List LSib) (hl:l.length≤1048576):∀ (s:List LSib) (i:Nat),l.drop i=s→i≤l.length→∀ (acc:List Sib),acc.length=l.length→acc.take i=(l.take i).map toSib →
    Ev (fun k=>laws_toSibS.l0 k l acc (i:Int)) (l.map toSib)
  | [],i,h,hi,acc,ha,hc=>by
    have:=dropNil' h hi
    refine Ev.step (f:=fun _=>some (l.map toSib)) (fun k=>?_) (Ev.now _)
    simp only [laws_toSibS.l0]
    rw [if_neg (by omega)]
    rw [← this,List.take_of_length_le (by omega),List.take_length] at hc
    rw [hc]
  | m :: s,i,h,hi,acc,ha,hc=>by
    obtain ⟨h1,h2,h3⟩:=dropCons h z107
    have hr:rd_T107 l (i:Int)=m:=by simpa [rd_T107] using h2
    have hm:l[i]'h1=m:=by
      rw [List.getD_eq_getElem?_getD,List.getElem?_eq_getElem h1] at h2;exact h2
    refine Ev.step (fun k=>?_) (toSibS_l0 l hl s (i+1) h3 (by omega) (acc.set i (toSib m)) (by simpa using ha) (by
      rw [List.take_succ_eq_append_getElem (by simp;omega),List.take_succ_eq_append_getElem h1,List.map_append,List.take_set_of_le (by omega),hc]
      simp [hm]))
    simp only [laws_toSibS.l0,laws_toSib.f,laws_toMark.f,hr,Option.bind_some,Int.toNat_natCast]
    rw [if_pos (by omega),if_pos (by omega),if_pos (by omega),w64 (by omega) (by omega)]
    rfl
theorem toSibS_ev (l:List LSib) (hl:l.length≤1048576):Ev (fun k=>laws_toSibS.f k l) (l.map toSib):=by
  unfold laws_toSibS.f
  refine evPos (by omega) (evPos (by omega) ?_)
  exact toSibS_l0 l hl l 0 rfl (by omega) _ (by simp) (by simp)
theorem toSet_ev (v:List LMark) (l:List LSib) (hv:v.length≤1048576) (hl:l.length≤1048576):Ev (fun k=>laws_toSet.f k v l) (v.map toMark,l.map toSib) :=
  Ev.bind (toMarkS_ev v hv) (Ev.bind (toSibS_ev l hl) (Ev.now _))
theorem eqSib_refl (a b:Int) (c:Bool) (t:ByteArray):laws_eqSib.f a b c t a b c t=some true:=by simp [laws_eqSib.f,eqMark_refl]
theorem eqSibS_l0 (l:List Sib) (hl:l.length≤4611686018427387904):∀ (s:List Sib) (i:Nat),l.drop i=s→i≤l.length →
    Ev (fun k=>laws_eqSibS.l0 k l l (i:Int)) true
  | [],i,h,hi=>by
    have:=dropNil' h hi
    refine Ev.step (f:=fun _=>some true) (fun k=>?_) (Ev.now _)
    simp only [laws_eqSibS.l0]
    rw [if_neg (by omega)]
  | m :: s,i,h,hi=>by
    obtain ⟨h1,h2,h3⟩:=dropCons h z91
    refine Ev.step (fun k=>?_) (eqSibS_l0 l hl s (i+1) h3 (by omega))
    simp only [laws_eqSibS.l0,eqSib_refl,Option.bind_some]
    rw [if_pos (by omega),if_pos (by omega),if_pos (by omega),if_pos trivial,w64 (by omega) (by omega)]
    rfl
theorem eqSibS_ev (l:List Sib) (hl:l.length≤4611686018427387904):Ev (fun k=>laws_eqSibS.f k l l) true:=by
  unfold laws_eqSibS.f
  exact evPos rfl (eqSibS_l0 l hl l 0 rfl (by omega))
theorem eqSet_ev (v:List Mark) (l:List Sib) (hv:v.length≤4611686018427387904) (hl:l.length≤4611686018427387904):Ev (fun k=>laws_eqSet.f k v l v l) true :=
  Ev.bind (eqMarkS_ev v hv) (evPos rfl (Ev.bind (eqSibS_ev l hl) (evPos rfl (Ev.now _))))
end Go.Proofs.Ytphbgcfpcadabaa.Q

namespace Go.Proofs.Ytphbgcfpcadabaa.Q
open Go.RowKit Go.Proofs.Ytphbgcfpcadabaa.P Go.Proofs.YtphbgcfpcadabaaW.PrintWords Go.Proofs.YtphbgcfpcadabaaW.PrintMore

theorem markText_l0:∀ (m:Nat) (n:Int),n.toNat≤m→0≤n→∀ t:ByteArray,(t.size:Int)+n+1≤9223372036854775807→∃ r,Ev (fun k=>laws_markText.l0 k n t) r
  | 0,n,hm,h0,t,ht=>by
    refine ⟨(⟨#[109]⟩:ByteArray) ++ t,Ev.step (f:=fun _=>some ((⟨#[109]⟩:ByteArray) ++ t)) (fun k=>?_) (Ev.now _)⟩
    simp only [laws_markText.l0]
    rw [if_neg (by omega),if_pos (by omega)]
  | m+1,n,hm,h0,t,ht=>by
    by_cases hn:n>0
    · have hs:(strOfNums [(wrap64 (48+(Int.tmod n 10))) % 256]).size=1:=rfl
      have e:Int.tdiv n 10=n / 10:=Int.tdiv_eq_ediv_of_nonneg h0
      obtain ⟨r,hr⟩:=markText_l0 m (n / 10) (by omega) (by omega) (strOfNums [(wrap64 (48+(Int.tmod n 10))) % 256] ++ t) (by rw [ByteArray.size_append,hs];omega)
      refine ⟨r,Ev.step (fun k=>?_) hr⟩
      simp only [laws_markText.l0,Option.bind_some]
      rw [if_pos hn,if_pos (by rw [hs];omega),e,w64 (x:=n / 10) (by omega) (by omega)]
    · refine ⟨(⟨#[109]⟩:ByteArray) ++ t,Ev.step (f:=fun _=>some ((⟨#[109]⟩:ByteArray) ++ t)) (fun k=>?_) (Ev.now _)⟩
      simp only [laws_markText.l0]
      rw [if_neg hn,if_pos (by omega)]
theorem markText_is (n:Int) (h1:n≤1152921504606846976):∃ r,Ev (fun k=>laws_markText.f k n) r:=by
  unfold laws_markText.f
  by_cases h:n≤0
  · exact ⟨_,evPos h (Ev.now _)⟩
  · obtain ⟨r,hr⟩:=markText_l0 n.toNat n (by omega) (by omega) ⟨#[]⟩ (by show (0:Int)+n+1≤_;omega)
    exact ⟨r,evNeg h hr⟩
open Classical in
noncomputable def markT (n:Int):ByteArray:=if h:∃ r,Ev (fun k=>laws_markText.f k n) r then h.choose else ⟨#[]⟩
theorem markT_ev (n:Int) (h1:n≤1152921504606846976):Ev (fun k=>laws_markText.f k n) (markT n):=by
  have h:=markText_is n h1
  unfold markT
  rw [dif_pos h]
  exact h.choose_spec
noncomputable def markSL:Int→List Sib→List Sib
  | _,[]=>[]
  | n,_ :: r=>⟨⟨n,n+1⟩,(Int.tmod (n+2) 3) == 0,markT (n+3)⟩ :: markSL (n+4) r
theorem markSibS_l0 (N:Int) (hN:N≤1152921504606846976):∀ (s pre:List Sib) (n:Int),0≤n→n+4*(s.length:Int)≤N→(pre.length:Int)+s.length≤N →
    Ev (fun k=>laws_markSibS.l0 k (pre ++ s) n (pre.length:Int)) (n+4*(s.length:Int),pre ++ markSL n s)
  | [],pre,n,h0,h1,h2=>by
    refine Ev.step (f:=fun _=>some (n,pre)) (fun k=>?_) (by simp [markSL];exact Ev.now _)
    simp only [laws_markSibS.l0,List.append_nil]
    rw [if_neg (by omega)]
  | x :: s,pre,n,h0,h1,h2=>by
    simp only [List.length_cons] at h1 h2
    have ih:=markSibS_l0 N hN s (pre ++ [⟨⟨n,n+1⟩,(Int.tmod (n+2) 3) == 0,markT (n+3)⟩]) (n+4) (by omega) (by omega) (by simp;omega)
    simp only [List.length_append,List.length_cons,List.length_nil,List.append_assoc,List.cons_append,List.nil_append] at ih
    have w1:wrap64 (n+1)=n+1:=w64 (by omega) (by omega)
    have w2:wrap64 (n+1+1)=n+2:=by rw [w64 (by omega) (by omega)];omega
    have w3:wrap64 (n+2+1)=n+3:=by rw [w64 (by omega) (by omega)];omega
    have w4:wrap64 (n+3+1)=n+4:=by rw [w64 (by omega) (by omega)];omega
    refine Ev.step (f:=fun k=>(laws_markText.f k (n+3)).bind fun t=>laws_markSibS.l0 k (pre ++ ⟨⟨n,n+1⟩,(Int.tmod (n+2) 3) == 0,t⟩ :: s) (n+4) ((pre.length+(0+1):Nat):Int)) (fun k=>?_) (show Ev _ (n+4*((x :: s).length:Int),pre ++ markSL n (x :: s)) from by
      simp only [markSL,List.length_cons]
      rw [show n+4*((s.length+1:Nat):Int)=n+4+4*(s.length:Int) from by omega]
      exact Ev.bind (markT_ev (n+3) (by omega)) ih)
    simp only [laws_markSibS.l0,Option.bind_some,Int.toNat_natCast,rd_T91,set_mid,getD_mid,w1,w2,w3,w4]
    rw [if_pos (by simp;omega),if_pos (by omega),w64 (x:=(pre.length:Int)+1) (by omega) (by omega)]
    rfl
theorem markSibS_ev (s:List Sib) (n:Int) (h0:0≤n) (h1:n+4*(s.length:Int)≤1152921504606846976):Ev (fun k=>laws_markSibS.f k s n) (n+4*(s.length:Int),markSL n s) :=
  markSibS_l0 1152921504606846976 (Int.le_refl _) s [] n h0 h1 (by simp;omega)
theorem markSet_ev (v:List Mark) (l:List Sib) (n:Int) (h0:0≤n) (h1:n+2*(v.length:Int)+4*(l.length:Int)≤1152921504606846976) :
    Ev (fun k=>laws_markSet.f k v l n) (n+2*(v.length:Int)+4*(l.length:Int),markL n v,markSL (n+2*(v.length:Int)) l) :=
  Ev.bind (markMarkS_ev v n h0 (by omega)) (Ev.bind (markSibS_ev l _ (by omega) h1) (Ev.now _))
end Go.Proofs.Ytphbgcfpcadabaa.Q

namespace Go.Proofs.Ytphbgcfpcadabaa.Q
open Go.RowKit Go.Proofs.Ytphbgcfpcadabaa.P Go.Proofs.YtphbgcfpcadabaaW.PrintWords Go.Proofs.YtphbgcfpcadabaaW.PrintMore

theorem heldSibS_l0 (N:Int) (hN:N≤1152921504606846976):∀ (s pre:List Sib) (n:Int),0≤n→n+4*(s.length:Int)≤N→(pre.length:Int)+s.length≤N →
    Ev (fun k=>laws_heldSibS.l0 k (pre ++ markSL n s) n (pre.length:Int)) (n+4*(s.length:Int))
  | [],pre,n,h0,h1,h2=>by
    refine Ev.step (f:=fun _=>some n) (fun k=>?_) (by simp;exact Ev.now _)
    simp only [laws_heldSibS.l0,markSL,List.append_nil]
    rw [if_neg (by omega)]
  | x :: s,pre,n,h0,h1,h2=>by
    simp only [List.length_cons] at h1 h2
    have ih:=heldSibS_l0 N hN s (pre ++ [⟨⟨n,n+1⟩,(Int.tmod (n+2) 3) == 0,markT (n+3)⟩]) (n+4) (by omega) (by omega) (by simp;omega)
    simp only [List.length_append,List.length_cons,List.length_nil,List.append_assoc,List.cons_append,List.nil_append] at ih
    have hr:rd_T91 (pre ++ markSL n (x :: s)) (pre.length:Int)=⟨⟨n,n+1⟩,(Int.tmod (n+2) 3) == 0,markT (n+3)⟩:=by simp only [rd_T91,Int.toNat_natCast,markSL,getD_mid]
    have w1:wrap64 (n+1)=n+1:=w64 (by omega) (by omega)
    have w2:wrap64 (n+1+1)=n+2:=by rw [w64 (by omega) (by omega)];omega
    have w3:wrap64 (n+2+1)=n+3:=by rw [w64 (by omega) (by omega)];omega
    have w4:wrap64 (n+3+1)=n+4:=by rw [w64 (by omega) (by omega)];omega
    refine Ev.step (f:=fun k=>(laws_markText.f k (n+3)).bind fun t=>if (markT (n+3)).toList=t.toList then laws_heldSibS.l0 k (pre ++ markSL n (x :: s)) (n+4) ((pre.length+(0+1):Nat):Int) else none) (fun k=>?_) (show Ev _ (n+4*((x :: s).length:Int)) from by
      simp only [List.length_cons]
      rw [show n+4*((s.length+1:Nat):Int)=n+4+4*(s.length:Int) from by omega]
      exact Ev.bind (markT_ev (n+3) (by omega)) (evPos rfl ih))
    simp only [laws_heldSibS.l0,hr,w1,w2,w3,w4]
    rw [if_pos (by simp [markSL];omega),if_pos (by omega),if_pos trivial,if_pos trivial,if_neg (by simp),w64 (x:=(pre.length:Int)+1) (by omega) (by omega)]
    rfl
theorem heldSibS_ev (s:List Sib) (n:Int) (h0:0≤n) (h1:n+4*(s.length:Int)≤1152921504606846976):Ev (fun k=>laws_heldSibS.f k (markSL n s) n) (n+4*(s.length:Int)) :=
  heldSibS_l0 1152921504606846976 (Int.le_refl _) s [] n h0 h1 (by simp;omega)
theorem heldSet_ev (v:List Mark) (l:List Sib) (n:Int) (h0:0≤n) (h1:n+2*(v.length:Int)+4*(l.length:Int)≤1152921504606846976) :
    Ev (fun k=>laws_heldSet.f k (markL n v) (markSL (n+2*(v.length:Int)) l) n) (n+2*(v.length:Int)+4*(l.length:Int)) :=
  Ev.bind (heldMarkS_ev v n h0 (by omega)) (evNeg (by omega) (Ev.bind (heldSibS_ev l _ (by omega) h1) (evNeg (by omega) (Ev.now _))))
theorem eqSetOut_ev (v:List Mark) (l:List Sib) (a b c:Int) (hv:v.length≤4611686018427387904) (hl:l.length≤4611686018427387904):Ev (fun k=>laws_eqSetOut.f k v l a b c v l a b c) true :=
  Ev.bind (eqSet_ev v l hv hl) (evPos rfl (evBind1 (eqMark_refl a b) (evPos rfl (evPos rfl (Ev.now _)))))
theorem markSetOut_ev (v:List Mark) (l:List Sib) (a b c n:Int) (h0:0≤n) (h1:n+2*(v.length:Int)+4*(l.length:Int)≤1152921504606846976) :
    Ev (fun k=>laws_markSetOut.f k v l a b c n) (n+2*(v.length:Int)+4*(l.length:Int),markL n v,markSL (n+2*(v.length:Int)) l) :=
  Ev.bind (markSet_ev v l n h0 h1) (Ev.now _)
theorem heldSetOut_ev (v:List Mark) (l:List Sib) (a b c n:Int) (h0:0≤n) (h1:n+2*(v.length:Int)+4*(l.length:Int)≤1152921504606846976) :
    Ev (fun k=>laws_heldSetOut.f k (markL n v) (markSL (n+2*(v.length:Int)) l) a b c n) (n+2*(v.length:Int)+4*(l.length:Int)) :=
  Ev.bind (heldSet_ev v l n h0 h1) (evNeg (by omega) (Ev.now _))
end Go.Proofs.Ytphbgcfpcadabaa.Q

namespace Go.Proofs.Ytphbgcfpcadabaa.Q
open Go.RowKit Go.Proofs.Ytphbgcfpcadabaa.P Go.Proofs.YtphbgcfpcadabaaW.PrintWords Go.Proofs.YtphbgcfpcadabaaW.PrintMore

def isAt (x:Sib) (a b:Int):Bool:=x.f0.f0 == a && x.f0.f1 == b
/-- The place of a dot, from place i on; -1 if it's nowhere. -/
def sibAt (a b:Int):Int→List Sib→Int
  | _,[] => -1
  | i,x :: r=>if isAt x a b=true then i else sibAt a b (i+1) r
theorem l03At_l0 (l:List Sib) (a b:Int) (hl:l.length≤4611686018427387904):∀ (s:List Sib) (i:Nat),l.drop i=s→i≤l.length→Ev (fun k=>spec_l03At.l0 k l (i:Int) a b) (sibAt a b (i:Int) s)
  | [],i,h,hi=>by
    have:=dropNil' h hi
    refine Ev.step (f:=fun _=>some (-1)) (fun k=>?_) (Ev.now _)
    simp only [spec_l03At.l0]
    rw [if_neg (by omega)]
  | x :: s,i,h,hi=>by
    obtain ⟨h1,h2,h3⟩:=dropCons h z91
    have hr:rd_T91 l (i:Int)=x:=by simpa [rd_T91] using h2
    refine Ev.step (f:=fun k=>if isAt x a b=true then some (i:Int) else spec_l03At.l0 k l ((i+1:Nat):Int) a b) (fun k=>?_) ?_
    · simp only [spec_l03At.l0,hr,isAt]
      rw [if_pos (by omega),if_pos (by omega),w64 (by omega) (by omega)]
      rfl
    · simp only [sibAt]
      refine evIte (fun h=>?_) (fun h=>?_)
      · rw [if_pos h];exact Ev.now _
      · rw [if_neg h];exact l03At_l0 l a b hl s (i+1) h3 (by omega)
theorem l03At_ev (l:List Sib) (a b:Int) (hl:l.length≤4611686018427387904):Ev (fun k=>spec_l03At.f k l a b) (sibAt a b 0 l):=l03At_l0 l a b hl l 0 rfl (by omega)
theorem indexSib_l0 (l:List Sib) (a b:Int) (hl:l.length≤4611686018427387904):∀ (s:List Sib) (i:Nat),l.drop i=s→i≤l.length→Ev (fun k=>slices_IndexFunc_impl_Sib_impl_Sib_impl_Set_sib_1.l0 k l (l.length:Int) (i:Int) a b) (sibAt a b (i:Int) s)
  | [],i,h,hi=>by
    have:=dropNil' h hi
    refine Ev.step (f:=fun _=>some (-1)) (fun k=>?_) (Ev.now _)
    simp only [slices_IndexFunc_impl_Sib_impl_Sib_impl_Set_sib_1.l0]
    rw [if_neg (by omega)]
  | x :: s,i,h,hi=>by
    obtain ⟨h1,h2,h3⟩:=dropCons h z91
    have hr:rd_T91 l (i:Int)=x:=by simpa [rd_T91] using h2
    refine Ev.step (f:=fun k=>if isAt x a b=true then some (i:Int) else slices_IndexFunc_impl_Sib_impl_Sib_impl_Set_sib_1.l0 k l (l.length:Int) ((i+1:Nat):Int) a b) (fun k=>?_) ?_
    · simp only [slices_IndexFunc_impl_Sib_impl_Sib_impl_Set_sib_1.l0,hr,impl_Set_sib_1_cap.f,Option.bind_some,isAt]
      rw [if_pos (by omega),if_pos (by omega),if_pos (by omega),w64 (by omega) (by omega)]
      rfl
    · simp only [sibAt]
      refine evIte (fun h=>?_) (fun h=>?_)
      · rw [if_pos h];exact Ev.now _
      · rw [if_neg h];exact indexSib_l0 l a b hl s (i+1) h3 (by omega)
theorem Set_sib_ev (v:List Mark) (l:List Sib) (a b:Int) (hl:l.length≤4611686018427387904):Ev (fun k=>impl_Set_sib.f k v l a b) (sibAt a b 0 l) :=
  Ev.bind (indexSib_l0 l a b hl l 0 rfl (by omega)) (Ev.now _)
theorem sibsFrom_mem (v:List Mark):∀ (s:List Sib) (p:Option Sib),sibsFrom v p s=true→∀ x ∈ s,sibOk v x=true
  | [],_,_,x,hx=>by simp at hx
  | y :: r,p,h,x,hx=>by
    have h2:sibOk v y=true∧sibsFrom v (some y) r=true:=by
      cases p with
      | none=>simpa [sibsFrom] using h
      | some z =>
        simp only [sibsFrom,Bool.and_eq_true] at h
        exact ⟨h.1,h.2.2⟩
    rcases List.mem_cons.1 hx with rfl | hx
    · exact h2.1
    · exact sibsFrom_mem v r _ h2.2 x hx
theorem setOk_iff (v:List Mark) (l:List Sib):setOk v l=true ↔ seenOk v=true∧l.length≤8∧sibsFrom v none l=true:=by
  simp [setOk]
end Go.Proofs.Ytphbgcfpcadabaa.Q

namespace Go.Proofs.Ytphbgcfpcadabaa.Q
open Go.RowKit Go.Proofs.Ytphbgcfpcadabaa.P Go.Proofs.YtphbgcfpcadabaaW.PrintWords Go.Proofs.YtphbgcfpcadabaaW.PrintMore

def ltS (x y:Sib):Bool:=dotLess x.f0.f0 x.f0.f1 y.f0.f0 y.f0.f1
theorem ltS_iff {x y:Sib}:ltS x y=true ↔ x.f0.f0<y.f0.f0∨(x.f0.f0=y.f0.f0∧x.f0.f1<y.f0.f1):=by simp [ltS,dotLess]
theorem ltS_trans {x y z:Sib} (h:ltS x y=true) (k:ltS y z=true):ltS x z=true:=by
  rw [ltS_iff] at *;omega
theorem ltS_asymm {x y:Sib} (h:ltS x y=true):¬ ltS y x=true:=by
  rw [ltS_iff] at *;omega
/-- The two have dots of their own. -/
def Apart (x y:Sib):Prop:=ltS x y=true∨ltS y x=true
def insS:List Sib→Sib→List Sib
  | [],x=>[x]
  | y :: r,x=>if ltS y x=true then y :: insS r x else x :: y :: r
/-- From the right; what it goes into stands turned around. -/
def insR:List Sib→Sib→List Sib
  | [],x=>[x]
  | y :: r,x=>if ltS x y=true then insR r x ++ [y] else r.reverse ++ [y,x]
theorem insR_length (x:Sib):∀ p:List Sib,(insR p x).length=p.length+1
  | []=>rfl
  | y :: r=>by
    simp only [insR]
    split
    · rw [List.length_append,insR_length x r];rfl
    · simp
theorem insS_snoc (x y:Sib) (hxy:Apart x y):∀ p:List Sib,(∀ z ∈ p,ltS z y=true)→insS (p ++ [y]) x=if ltS x y=true then insS p x ++ [y] else p ++ [y,x]
  | [],_=>by
    by_cases h:ltS x y=true
    · rw [if_pos h]
      simp only [List.nil_append,insS]
      rw [if_neg (ltS_asymm h)]
      rfl
    · rw [if_neg h]
      simp only [List.nil_append,insS]
      rw [if_pos (hxy.resolve_left h)]
  | z :: p,hp=>by
    have ih:=insS_snoc x y hxy p (fun w hw=>hp w (List.mem_cons_of_mem _ hw))
    have hz:=hp z List.mem_cons_self
    simp only [List.cons_append,insS]
    by_cases h:ltS x y=true
    · rw [if_pos h] at ih ⊢
      by_cases hzx:ltS z x=true
      · rw [if_pos hzx,if_pos hzx,ih];rfl
      · rw [if_neg hzx,if_neg hzx];rfl
    · rw [if_neg h] at ih ⊢
      rw [if_pos (ltS_trans hz (hxy.resolve_left h)),ih]
abbrev Sorted (p:List Sib):Prop:=p.Pairwise fun a b=>ltS a b=true
theorem insR_insS (x:Sib):∀ p:List Sib,Sorted p.reverse→(∀ z ∈ p,Apart x z)→insR p x=insS p.reverse x
  | [],_,_=>rfl
  | y :: r,hs,ha=>by
    rw [List.reverse_cons] at hs ⊢
    have h1:=List.pairwise_append.1 hs
    rw [insS_snoc x y (ha y List.mem_cons_self) r.reverse (fun z hz=>h1.2.2 z hz y (by simp))]
    simp only [insR]
    rw [insR_insS x r h1.1 (fun z hz=>ha z (List.mem_cons_of_mem _ hz))]
theorem insS_mem (x:Sib):∀ (p:List Sib) (z:Sib),z ∈ insS p x→z=x∨z ∈ p
  | [],z,h=>by simpa [insS] using h
  | y :: r,z,h=>by
    simp only [insS] at h
    split at h
    · rcases List.mem_cons.1 h with rfl | h
      · exact .inr List.mem_cons_self
      · rcases insS_mem x r z h with h | h
        · exact .inl h
        · exact .inr (List.mem_cons_of_mem _ h)
    · rcases List.mem_cons.1 h with rfl | h
      · exact .inl rfl
      · exact .inr h
theorem insS_sorted (x:Sib):∀ p:List Sib,Sorted p→(∀ z ∈ p,Apart x z)→Sorted (insS p x)
  | [],_,_=>by simp [insS,Sorted]
  | y :: r,hs,ha=>by
    have hs2:=List.pairwise_cons.1 hs
    simp only [insS]
    split
    · rename_i h
      refine List.pairwise_cons.2 ⟨fun z hz=>?_,insS_sorted x r hs2.2 (fun z hz=>ha z (List.mem_cons_of_mem _ hz))⟩
      rcases insS_mem x r z hz with rfl | hz
      · exact h
      · exact hs2.1 z hz
    · rename_i h
      have hxy:ltS x y=true:=(ha y List.mem_cons_self).resolve_right h
      refine List.pairwise_cons.2 ⟨fun z hz=>?_,hs⟩
      rcases List.mem_cons.1 hz with rfl | hz
      · exact hxy
      · exact ltS_trans hxy (hs2.1 z hz)
def insF (p:List Sib) (x:Sib):List Sib:=insR p.reverse x
theorem foldl_same:∀ (s p:List Sib),Sorted p→(∀ x ∈ s,∀ z ∈ p,Apart x z)→(s.Pairwise fun a b=>Apart b a)→s.foldl insF p=s.foldl insS p
  | [],_,_,_,_=>rfl
  | x :: s,p,hs,ha,hd=>by
    have hd2:=List.pairwise_cons.1 hd
    have e:insF p x=insS p x:=by
      have:=insR_insS x p.reverse (by rw [List.reverse_reverse];exact hs) (fun z hz=>ha x List.mem_cons_self z (List.mem_reverse.1 hz))
      rw [List.reverse_reverse] at this
      exact this
    rw [List.foldl_cons,List.foldl_cons,e]
    refine foldl_same s _ (insS_sorted x p hs (ha x List.mem_cons_self)) (fun y hy z hz=>?_) hd2.2
    rcases insS_mem x p z hz with rfl | hz
    · exact hd2.1 y hy
    · exact ha y (List.mem_cons_of_mem _ hy) z hz
theorem foldl_length (f:List Sib→Sib→List Sib) (hf:∀ p x,(f p x).length=p.length+1):∀ (s p:List Sib),(s.foldl f p).length=p.length+s.length
  | [],p=>rfl
  | x :: s,p=>by rw [List.foldl_cons,foldl_length f hf s,hf,List.length_cons];omega
theorem insS_length (x:Sib):∀ p:List Sib,(insS p x).length=p.length+1
  | []=>rfl
  | y :: r=>by
    simp only [insS]
    split
    · rw [List.length_cons,insS_length x r];rfl
    · rfl
theorem sibsFrom_lt (v:List Mark):∀ (s:List Sib) (y:Sib),sibsFrom v (some y) s=true→∀ z ∈ s,ltS y z=true
  | [],_,_,z,hz=>by cases hz
  | x :: r,y,h,z,hz=>by
    simp only [sibsFrom,Bool.and_eq_true] at h
    rcases List.mem_cons.1 hz with rfl | hz
    · exact h.2.1
    · exact ltS_trans h.2.1 (sibsFrom_lt v r x h.2.2 z hz)
theorem sibsFrom_sorted (v:List Mark):∀ (s:List Sib) (o:Option Sib),sibsFrom v o s=true→Sorted s
  | [],_,_=>List.Pairwise.nil
  | x :: r,o,h=>by
    have h2:sibsFrom v (some x) r=true:=by
      cases o with
      | none=>simp only [sibsFrom,Bool.and_eq_true] at h;exact h.2
      | some y=>simp only [sibsFrom,Bool.and_eq_true] at h;exact h.2.2
    exact List.pairwise_cons.2 ⟨sibsFrom_lt v r x h2,sibsFrom_sorted v r _ h2⟩
theorem setOk_sorted {v:List Mark} {l:List Sib} (h:setOk v l=true):Sorted l:=sibsFrom_sorted v l none ((setOk_iff v l).1 h).2.2
theorem sibAt_none (a b:Int):∀ (l:List Sib) (i:Int),0≤i→sibAt a b i l<0→∀ z ∈ l,¬ (z.f0.f0=a∧z.f0.f1=b)
  | [],_,_,_,z,hz=>by cases hz
  | x :: r,i,hi,h,z,hz=>by
    simp only [sibAt] at h
    split at h
    · omega
    · rename_i hx
      rcases List.mem_cons.1 hz with rfl | hz
      · intro e
        exact hx (by simp [isAt,e.1,e.2])
      · exact sibAt_none a b r (i+1) (by omega) h z hz
def keepA (vb:List Mark) (lb:List Sib) (x:Sib):Bool:=decide (sibAt x.f0.f0 x.f0.f1 0 lb≥0) || !seenHas vb x.f0.f0 x.f0.f1
def keepB (va:List Mark) (la:List Sib) (x:Sib):Bool:=decide (sibAt x.f0.f0 x.f0.f1 0 la<0) && !seenHas va x.f0.f0 x.f0.f1
def kept (va:List Mark) (la:List Sib) (vb:List Mark) (lb:List Sib):List Sib:=la.filter (keepA vb lb) ++ lb.filter (keepB va la)
theorem kept_apart {va vb:List Mark} {la lb:List Sib} (ha:setOk va la=true) (hb:setOk vb lb=true):(kept va la vb lb).Pairwise fun a b=>Apart b a:=by
  refine List.pairwise_append.2 ⟨((setOk_sorted ha).sublist List.filter_sublist).imp (fun h=>.inr h),((setOk_sorted hb).sublist List.filter_sublist).imp (fun h=>.inr h),fun a hxa b hxb=>?_⟩
  have h1:=(List.mem_filter.1 hxa).1
  have h2:=(List.mem_filter.1 hxb).2
  simp only [keepB,Bool.and_eq_true,decide_eq_true_eq] at h2
  have h3:=sibAt_none _ _ la 0 (Int.le_refl _) h2.1 a h1
  unfold Apart
  rw [ltS_iff,ltS_iff]
  omega
noncomputable def setSync (va:List Mark) (la:List Sib) (vb:List Mark) (lb:List Sib):List Mark × List Sib × Int :=
  if setOk va la=true∧setOk vb lb=true then (if (kept va la vb lb).length>8 then ([],[],9) else (seenJoin va vb,(kept va la vb lb).foldl insS [],0)) else ([],[],1)
theorem setSync_length (va:List Mark) (la:List Sib) (vb:List Mark) (lb:List Sib):(setSync va la vb lb).1.length≤5∧(setSync va la vb lb).2.1.length≤8:=by
  unfold setSync
  split
  · split
    · simp
    · refine ⟨joinFrom_length va vb 5 1,?_⟩
      have:=foldl_length insS (fun p x=>insS_length x p) (kept va la vb lb) []
      simp only [List.length_nil] at this
      show (List.foldl insS [] (kept va la vb lb)).length≤8
      omega
  · simp
theorem getD_midS (pre:List Sib) (m:Sib) (s:List Sib) (d:Sib):(pre ++ m :: s).getD pre.length d=m:=by
  simp [List.getD_eq_getElem?_getD]
theorem l03In_l0 (x:Sib):∀ (s pre:List Sib),pre.length+s.length≤1048576→Ev (fun k=>spec_l03In.l0 k (pre ++ s) (pre.length:Int) x.f0.f0 x.f0.f1 x.f1 x.f2) (pre ++ insS s x):=by
  have stop:∀ (s pre:List Sib),pre.length+s.length≤1048576→Ev (fun k=>spec_l03In.j1 k (pre ++ s) (pre.length:Int) false x.f0.f0 x.f0.f1 x.f1 x.f2) (pre ++ x :: s):=by
    intro s pre hl
    refine Ev.step (fun k=>by simp only [spec_l03In.j1];rw [if_neg (by simp)]) ?_
    refine evBind1 rfl (evPos (by omega) (evPos (by simp;omega) (evBind1 rfl (evPos (by simp;omega) (evBind1 rfl (evPos (by simp;omega) (evBind1 rfl (evBind1 rfl (evPos (by simp;omega) ?_)))))))))
    have e:(pre ++ s).take pre.length=pre:=by simp
    have e2:(pre ++ s).drop pre.length=s:=by simp
    simp only [Int.toNat_natCast,e,e2,List.nil_append,List.append_assoc,List.singleton_append]
    exact Ev.now _
  intro s
  induction s with
  | nil =>
    intro pre hl
    have:=stop [] pre hl
    simp only [insS]
    refine Ev.step (fun k=>?_) this
    simp only [spec_l03In.l0]
    rw [if_neg (by simp)]
  | cons y r ih =>
    intro pre hl
    simp only [List.length_cons] at hl
    have hr:rd_T91 (pre ++ y :: r) (pre.length:Int)=y:=by simp only [rd_T91,Int.toNat_natCast,getD_midS]
    have hl0:∀ k,spec_l03In.l0 (k+1) (pre ++ y :: r) (pre.length:Int) x.f0.f0 x.f0.f1 x.f1 x.f2=spec_l03In.j1 k (pre ++ y :: r) (pre.length:Int) (ltS y x) x.f0.f0 x.f0.f1 x.f1 x.f2:=fun k=>by
      simp only [spec_l03In.l0,hr,l03Less_is,Option.bind_some]
      rw [if_pos (by simp;omega),if_pos (by omega)]
      rfl
    refine Ev.step hl0 ?_
    simp only [insS]
    cases h:ltS y x with
    | true =>
      rw [if_pos rfl]
      have e:=ih (pre ++ [y]) (by simp;omega)
      simp only [List.length_append,List.length_cons,List.length_nil,List.append_assoc,List.cons_append,List.nil_append] at e
      refine Ev.step (fun k=>?_) e
      simp only [spec_l03In.j1]
      rw [if_pos trivial,w64 (by omega) (by omega)]
      rfl
    | false =>
      rw [if_neg (by simp)]
      exact stop (y :: r) pre (by simp;omega)
theorem l03In_ev (l:List Sib) (x:Sib) (hl:l.length≤1048576):Ev (fun k=>spec_l03In.f k l x.f0.f0 x.f0.f1 x.f1 x.f2) (insS l x):=l03In_l0 x l [] (by simpa using hl)
def keepAS (vb:List Mark) (lb:List Sib) (x:Sib):Bool:=decide (sibAt x.f0.f0 x.f0.f1 0 lb≥0) || !seenHasOut vb x.f0.f0 x.f0.f1
def keepBS (va:List Mark) (la:List Sib) (x:Sib):Bool:=decide (sibAt x.f0.f0 x.f0.f1 0 la<0) && !seenHasOut va x.f0.f0 x.f0.f1
theorem l03Sync_l1 (va:List Mark) (la:List Sib) (vb:List Mark) (lb:List Sib) (v:List Mark) (hva:va.length≤1048576) (hla:la.length≤8) (hlb:lb.length≤8):∀ (s:List Sib) (i:Nat),lb.drop i=s→i≤lb.length→∀ acc:List Sib,acc.length+s.length≤16 →
    Ev (fun k=>spec_l03Sync.l1 k (i:Int) va la vb lb v acc) (if ((s.filter (keepBS va la)).foldl insS acc).length>8 then ([],[],0,0,9) else (v,(s.filter (keepBS va la)).foldl insS acc,0,0,0))
  | [],i,h,hi,acc,hc=>by
    have:=dropNil' h hi
    show Ev _ (if acc.length>8 then ([],[],0,0,9) else (v,acc,0,0,0))
    refine Ev.step (f:=fun k=>if (acc.length:Int)>8 then some ([],[],0,0,9) else some (v,acc,0,0,0)) (fun k=>?_) (evIte (fun h=>?_) (fun h=>?_))
    · simp only [spec_l03Sync.l1,spec_l03Ill.f,Option.bind_some]
      rw [if_neg (by omega)]
    · rw [if_pos (by omega)];exact Ev.now _
    · rw [if_neg (by omega)];exact Ev.now _
  | x :: s,i,h,hi,acc,hc=>by
    obtain ⟨h1,h2,h3⟩:=dropCons h z91
    simp only [List.length_cons] at hc
    have hr:rd_T91 lb (i:Int)=x:=by simpa [rd_T91] using h2
    have hj:Ev (fun k=>spec_l03Sync.j3 k (i:Int) (keepBS va la x) va la vb lb v acc) (if (((x :: s).filter (keepBS va la)).foldl insS acc).length>8 then ([],[],0,0,9) else (v,((x :: s).filter (keepBS va la)).foldl insS acc,0,0,0)):=by
      cases hk:keepBS va la x with
      | true =>
        rw [List.filter_cons_of_pos hk,List.foldl_cons]
        have ih:=l03Sync_l1 va la vb lb v hva hla hlb s (i+1) h3 (by omega) (insS acc x) (by rw [insS_length];omega)
        refine Ev.step (fun k=>by simp only [spec_l03Sync.j3,hr];rw [if_pos trivial,if_pos (by omega),if_pos (by omega)]) (Ev.bind (l03In_ev acc x (by omega)) ?_)
        rw [w64 (by omega) (by omega)]
        exact ih
      | false =>
        rw [List.filter_cons_of_neg (by simp [hk])]
        have ih:=l03Sync_l1 va la vb lb v hva hla hlb s (i+1) h3 (by omega) acc (by omega)
        refine Ev.step (fun k=>?_) ih
        simp only [spec_l03Sync.j3]
        rw [if_neg (by simp),w64 (by omega) (by omega)]
        rfl
    refine Ev.step (fun k=>by simp only [spec_l03Sync.l1,hr];rw [if_pos (by omega),if_pos (by omega)]) (Ev.bind (l03At_ev la _ _ (by omega)) ?_)
    by_cases hn:sibAt x.f0.f0 x.f0.f1 0 la<0
    · refine evPos hn (Ev.bind (spec_SeenHas_ev va _ _ (by omega)) ?_)
      have e:keepBS va la x=!seenHasOut va x.f0.f0 x.f0.f1:=by simp [keepBS,hn]
      rw [e] at hj
      exact hj
    · refine evNeg hn ?_
      have e:keepBS va la x=false:=by simp [keepBS,hn]
      rw [e] at hj
      exact hj
theorem l03Sync_l0 (va:List Mark) (la:List Sib) (vb:List Mark) (lb:List Sib) (v:List Mark) (hva:va.length≤1048576) (hvb:vb.length≤1048576) (hla:la.length≤8) (hlb:lb.length≤8):∀ (s:List Sib) (i:Nat),la.drop i=s→i≤la.length→∀ acc:List Sib,acc.length+s.length≤8 →
    Ev (fun k=>spec_l03Sync.l0 k (i:Int) va la vb lb v acc) (if ((s.filter (keepAS vb lb) ++ lb.filter (keepBS va la)).foldl insS acc).length>8 then ([],[],0,0,9) else (v,(s.filter (keepAS vb lb) ++ lb.filter (keepBS va la)).foldl insS acc,0,0,0))
  | [],i,h,hi,acc,hc=>by
    have:=dropNil' h hi
    simp only [List.filter_nil,List.nil_append]
    refine Ev.step (fun k=>?_) (l03Sync_l1 va la vb lb v hva hla hlb lb 0 rfl (by omega) acc (by simp only [List.length_nil] at hc;omega))
    simp only [spec_l03Sync.l0]
    rw [if_neg (by omega)]
    rfl
  | x :: s,i,h,hi,acc,hc=>by
    obtain ⟨h1,h2,h3⟩:=dropCons h z91
    simp only [List.length_cons] at hc
    have hr:rd_T91 la (i:Int)=x:=by simpa [rd_T91] using h2
    have hj:Ev (fun k=>spec_l03Sync.j1 k (i:Int) (keepAS vb lb x) va la vb lb v acc) (if (((x :: s).filter (keepAS vb lb) ++ lb.filter (keepBS va la)).foldl insS acc).length>8 then ([],[],0,0,9) else (v,((x :: s).filter (keepAS vb lb) ++ lb.filter (keepBS va la)).foldl insS acc,0,0,0)):=by
      cases hk:keepAS vb lb x with
      | true =>
        rw [List.filter_cons_of_pos hk,List.cons_append,List.foldl_cons]
        have ih:=l03Sync_l0 va la vb lb v hva hvb hla hlb s (i+1) h3 (by omega) (insS acc x) (by rw [insS_length];omega)
        refine Ev.step (fun k=>by simp only [spec_l03Sync.j1,hr];rw [if_pos trivial,if_pos (by omega),if_pos (by omega)]) (Ev.bind (l03In_ev acc x (by omega)) ?_)
        rw [w64 (by omega) (by omega)]
        exact ih
      | false =>
        rw [List.filter_cons_of_neg (by simp [hk])]
        have ih:=l03Sync_l0 va la vb lb v hva hvb hla hlb s (i+1) h3 (by omega) acc (by omega)
        refine Ev.step (fun k=>?_) ih
        simp only [spec_l03Sync.j1]
        rw [if_neg (by simp),w64 (by omega) (by omega)]
        rfl
    refine Ev.step (fun k=>by simp only [spec_l03Sync.l0,hr];rw [if_pos (by omega),if_pos (by omega)]) (Ev.bind (l03At_ev lb _ _ (by omega)) ?_)
    by_cases hn:sibAt x.f0.f0 x.f0.f1 0 lb≥0
    · refine evPos hn ?_
      have e:keepAS vb lb x=true:=by simp [keepAS,hn]
      rw [e] at hj
      exact hj
    · refine evNeg hn (Ev.bind (spec_SeenHas_ev vb _ _ (by omega)) ?_)
      have e:keepAS vb lb x=!seenHasOut vb x.f0.f0 x.f0.f1:=by simp [keepAS,hn]
      rw [e] at hj
      exact hj
theorem seenHas_out {v w:List Mark} {l:List Sib} (hw:seenOk w=true) (h:setOk v l=true):∀ x ∈ l,seenHasOut w x.f0.f0 x.f0.f1=seenHas w x.f0.f0 x.f0.f1:=fun x hx=>by
  have h1:=sibsFrom_mem v l none ((setOk_iff v l).1 h).2.2 x hx
  simp only [sibOk,Bool.and_eq_true] at h1
  simp [seenHasOut,hw,h1.1]
theorem keptS {va vb:List Mark} {la lb:List Sib} (ha:setOk va la=true) (hb:setOk vb lb=true):la.filter (keepAS vb lb) ++ lb.filter (keepBS va la)=kept va la vb lb:=by
  unfold kept
  have h1:=((setOk_iff va la).1 ha).1
  have h2:=((setOk_iff vb lb).1 hb).1
  congr 1
  · exact List.filter_congr (fun x hx=>by simp only [keepAS,keepA,seenHas_out h2 ha x hx])
  · exact List.filter_congr (fun x hx=>by simp only [keepBS,keepB,seenHas_out h1 hb x hx])
theorem l03Sync_ev {va vb:List Mark} {la lb:List Sib} (ha:setOk va la=true) (hb:setOk vb lb=true) (hva:va.length≤1048576) (hvb:vb.length≤1048576) :
    Ev (fun k=>spec_l03Sync.f k va la vb lb) ((setSync va la vb lb).1,(setSync va la vb lb).2.1,0,0,(setSync va la vb lb).2.2):=by
  have hla:=((setOk_iff va la).1 ha).2.1
  have hlb:=((setOk_iff vb lb).1 hb).2.1
  have e:=l03Sync_l0 va la vb lb (seenJoin va vb) hva hvb hla hlb la 0 rfl (by omega) [] (by simpa using hla)
  rw [keptS ha hb] at e
  have hn:=foldl_length insS (fun p x=>insS_length x p) (kept va la vb lb) []
  rw [List.length_nil,Nat.zero_add] at hn
  rw [hn] at e
  unfold setSync
  rw [if_pos ⟨ha,hb⟩]
  refine Ev.bind (l02Join_ev va vb (by omega) (by omega)) ?_
  by_cases h:(kept va la vb lb).length>8
  · rw [if_pos h] at e ⊢;exact e
  · rw [if_neg h] at e ⊢;exact e
theorem spec_SetSync_ev (va:List Mark) (la:List Sib) (vb:List Mark) (lb:List Sib) (hva:va.length≤1048576) (hvb:vb.length≤1048576) (hla:la.length≤1048576) (hlb:lb.length≤1048576) :
    Ev (fun k=>spec_SetSync.f k va la vb lb) ((setSync va la vb lb).1,(setSync va la vb lb).2.1,0,0,(setSync va la vb lb).2.2):=by
  unfold spec_SetSync.f
  have jT:Ev (fun k=>spec_SetSync.j0 k true va la vb lb) ([],[],0,0,1):=Ev.step (f:=fun _=>some ([],[],0,0,1)) (fun k=>by simp [spec_SetSync.j0,spec_l03Ill.f]) (Ev.now _)
  refine Ev.bind (spec_SetRight_ev va la (by omega) hla) ?_
  cases ha:setOk va la with
  | false =>
    have e:setSync va la vb lb=([],[],1):=by unfold setSync;rw [if_neg (by simp [ha])]
    rw [e]
    exact evNeg (by simp) jT
  | true =>
    refine evPos rfl (Ev.bind (spec_SetRight_ev vb lb (by omega) hlb) ?_)
    cases hb:setOk vb lb with
    | false =>
      have e:setSync va la vb lb=([],[],1):=by unfold setSync;rw [if_neg (by simp [hb])]
      rw [e]
      exact jT
    | true=>exact Ev.step (fun k=>by simp only [spec_SetSync.j0];rw [if_neg (by simp)]) (Ev.bind (l03Sync_ev ha hb hva hvb) (Ev.now _))
theorem cmpDots_lt (a b c d:Int):decide (cmpDots a b c d<0)=dotLess a b c d:=by
  have h:=cmpDots_ge a b c d
  by_cases h1:cmpDots a b c d<0
  · rw [decide_eq_true h1]
    rw [decide_eq_false (by omega)] at h
    simpa using h
  · rw [decide_eq_false h1]
    rw [decide_eq_true (by omega)] at h
    simpa using h
theorem sorted1_ev (x y:Sib):Ev (fun k=>impl_sorted_1.f k x.f0.f0 x.f0.f1 x.f1 x.f2 y.f0.f0 y.f0.f1 y.f1 y.f2) (cmpDots x.f0.f0 x.f0.f1 y.f0.f0 y.f0.f1):=Ev.bind (compareDots_ev _ _ _ _) (Ev.now _)
theorem set_mid2 (pre:List Sib) (y x:Sib) (q:List Sib):((pre ++ y :: x :: q).set (pre.length+1) y).set pre.length x=pre ++ x :: y :: q:=by
  rw [List.set_append_right _ _ (by omega),List.set_append_right _ _ (by omega)]
  simp
theorem sort_l1 (n i:Int) {R:List Sib} (x:Sib):∀ (r q:List Sib),r.length+q.length≤1048576 →
    Ev (fun k=>slices_insertionSortCmpFunc_impl_Sib_impl_sorted_1.l0 k (insR r x ++ q) 0 n (wrap64 (i+1))) R →
    Ev (fun k=>slices_insertionSortCmpFunc_impl_Sib_impl_sorted_1.l1 k (r.reverse ++ x :: q) 0 n i (r.length:Int)) R
  | [],q,hl,h=>by
    refine Ev.step (f:=fun k=>slices_insertionSortCmpFunc_impl_Sib_impl_sorted_1.j2 k ([].reverse ++ x :: q) 0 n i (([]:List Sib).length:Int) false) (fun k=>?_) (Ev.step (fun k=>?_) h)
    · simp only [slices_insertionSortCmpFunc_impl_Sib_impl_sorted_1.l1]
      rw [if_neg (by simp)]
    · simp only [slices_insertionSortCmpFunc_impl_Sib_impl_sorted_1.j2]
      rw [if_neg (by simp)]
      rfl
  | y :: r,q,hl,h=>by
    simp only [List.length_cons] at hl
    have hL:(y :: r).reverse ++ x :: q=r.reverse ++ y :: x :: q:=by simp
    have hlen:(r.reverse ++ y :: x :: q).length=r.length+(q.length+1+1):=by simp
    have r1:rd_T91 (r.reverse ++ y :: x :: q) ((r.length+1:Nat):Int)=x:=by
      simp only [rd_T91,Int.toNat_natCast]
      rw [show r.reverse ++ y :: x :: q=(r.reverse ++ [y]) ++ x :: q from by simp,show r.length+1=(r.reverse ++ [y]).length from by simp]
      exact getD_midS _ _ _ _
    have r2:rd_T91 (r.reverse ++ y :: x :: q) (r.length:Int)=y:=by
      simp only [rd_T91,Int.toNat_natCast]
      rw [show r.length=r.reverse.length from by simp]
      exact getD_midS _ _ _ _
    have w1:wrap64 (((r.length+1:Nat):Int)-1)=(r.length:Int):=by rw [w64 (by omega) (by omega)];omega
    rw [hL]
    show Ev (fun k=>slices_insertionSortCmpFunc_impl_Sib_impl_sorted_1.l1 k (r.reverse ++ y :: x :: q) 0 n i ((r.length+1:Nat):Int)) R
    refine Ev.step (f:=fun k=>(impl_sorted_1.f k x.f0.f0 x.f0.f1 x.f1 x.f2 y.f0.f0 y.f0.f1 y.f1 y.f2).bind fun t=>slices_insertionSortCmpFunc_impl_Sib_impl_sorted_1.j2 k (r.reverse ++ y :: x :: q) 0 n i ((r.length+1:Nat):Int) (decide (t<0))) (fun k=>?_) (Ev.bind (sorted1_ev x y) ?_)
    · simp only [slices_insertionSortCmpFunc_impl_Sib_impl_sorted_1.l1,w1,r1,r2]
      rw [if_pos (by omega),if_pos (by omega),if_pos (by omega),if_pos (by omega),if_pos (by omega)]
    · rw [cmpDots_lt]
      cases hk:dotLess x.f0.f0 x.f0.f1 y.f0.f0 y.f0.f1 with
      | true =>
        have e:insR (y :: r) x=insR r x ++ [y]:=if_pos hk
        rw [e,List.append_assoc,List.singleton_append] at h
        have ih:=sort_l1 n i x r (y :: q) (by simp;omega) h
        refine Ev.step (fun k=>?_) ih
        simp only [slices_insertionSortCmpFunc_impl_Sib_impl_sorted_1.j2,w1,r1,r2,Int.toNat_natCast]
        rw [if_pos trivial,if_pos (by omega),if_pos (by omega),if_pos (by omega),if_pos (by omega)]
        have:=set_mid2 r.reverse y x q
        rw [List.length_reverse] at this
        rw [this]
      | false =>
        have e:insR (y :: r) x=r.reverse ++ [y,x]:=if_neg (show ¬ ltS x y=true by simp only [ltS,hk];simp)
        rw [e,List.append_assoc] at h
        refine Ev.step (fun k=>?_) h
        simp only [slices_insertionSortCmpFunc_impl_Sib_impl_sorted_1.j2]
        rw [if_neg (by simp)]
        rfl
theorem insF_length (p:List Sib) (x:Sib):(insF p x).length=p.length+1:=by
  unfold insF
  rw [insR_length,List.length_reverse]
theorem sort_l0 (n:Nat) (hn:n≤1048576):∀ (s p:List Sib),p.length+s.length=n →
    Ev (fun k=>slices_insertionSortCmpFunc_impl_Sib_impl_sorted_1.l0 k (p ++ s) 0 (n:Int) (p.length:Int)) (s.foldl insF p)
  | [],p,h=>by
    refine Ev.step (f:=fun _=>some (p ++ [])) (fun k=>?_) (by rw [List.append_nil];exact Ev.now _)
    simp only [slices_insertionSortCmpFunc_impl_Sib_impl_sorted_1.l0]
    simp only [List.length_nil] at h
    rw [if_neg (by omega)]
  | x :: s,p,h=>by
    simp only [List.length_cons] at h
    have ih:=sort_l0 n hn s (insF p x) (by rw [insF_length];omega)
    rw [insF_length] at ih
    have e:=sort_l1 (n:Int) (p.length:Int) (R:=s.foldl insF (insF p x)) x p.reverse s (by simp;omega) (by
      rw [w64 (by omega) (by omega)]
      exact ih)
    rw [List.reverse_reverse,List.length_reverse] at e
    refine Ev.step (fun k=>?_) e
    simp only [slices_insertionSortCmpFunc_impl_Sib_impl_sorted_1.l0]
    rw [if_pos (by omega)]
theorem insertion_ev (l:List Sib) (hl:l.length≤1048576):Ev (fun k=>slices_insertionSortCmpFunc_impl_Sib_impl_sorted_1.f k l 0 (l.length:Int)) (l.foldl insF []):=by
  unfold slices_insertionSortCmpFunc_impl_Sib_impl_sorted_1.f
  rw [show wrap64 (0+1)=1 from (w64 (by omega) (by omega)).trans (by omega)]
  cases l with
  | nil =>
    refine Ev.step (f:=fun _=>some []) (fun k=>?_) (Ev.now _)
    simp only [slices_insertionSortCmpFunc_impl_Sib_impl_sorted_1.l0]
    rw [if_neg (by simp)]
  | cons x s=>exact sort_l0 (x :: s).length hl s [x] (by simp;omega)
set_option maxRecDepth 100000 in
theorem bits_Len64_ev (n:Int) (h0:0≤n) (h1:n<256):∃ r,Ev (fun k=>bits_Len64.f k n) r:=by
  have e1:∀ k,bits_Len64.j1 (k+1) n 0=bits_Len64.j1 1 n 0:=fun k=>by
    rw [bits_Len64.j1,bits_Len64.j1]
  have e:(bits_Len64.j1 1 n 0).isSome=true:=by
    rw [bits_Len64.j1,if_neg (by omega),if_pos (by omega),if_pos (by omega)]
    rfl
  generalize bits_Len64.j1 1 n 0=z at e e1
  obtain ⟨r,rfl⟩:=Option.isSome_iff_exists.1 e
  refine ⟨r,?_⟩
  unfold bits_Len64.f
  exact evNeg (by omega) (Ev.step (f:=fun k=>bits_Len64.j1 k n 0) (fun k=>by rw [bits_Len64.j0,if_neg (by omega)]) (Ev.step (f:=fun _=>some r) e1 (Ev.now _)))
theorem sorted_ev (l:List Sib) (hl:l.length≤8):Ev (fun k=>impl_sorted.f k l) (l.foldl insF []):=by
  have hu:IntKind.u64.wrap (l.length:Int)=(l.length:Int):=by rw [u64w];omega
  obtain ⟨r,hr⟩:=bits_Len64_ev (l.length:Int) (by omega) (by omega)
  refine Ev.bind (f:=fun _ t=>some t) ?_ (Ev.now _)
  unfold slices_SortFunc_impl_Sib_impl_Sib_impl_sorted_1.f
  rw [hu]
  refine Ev.bind (Ev.bind hr (Ev.now _)) (Ev.bind ?_ (Ev.now _))
  refine Ev.step (fun k=>by rw [slices_pdqsortCmpFunc_impl_Sib_impl_sorted_1.f]) (Ev.step (fun k=>by rw [slices_pdqsortCmpFunc_impl_Sib_impl_sorted_1.l0]) (evPos ?_ (Ev.bind (insertion_ev l (by omega)) (Ev.now _))))
  rw [w64 (by omega) (by omega)]
  omega
theorem implSync_l1 (va:List Mark) (la:List Sib) (v:List Mark) (hva:va.length≤1048576) (hla:la.length≤8) (lb:List Sib) (hlb:lb.length≤8) {R:List Mark × List Sib × Int × Int × Int}:∀ (s:List Sib) (i:Nat),lb.drop i=s→i≤lb.length→∀ acc:List Sib,acc.length+s.length≤16 →
    Ev (fun k=>if ((acc ++ s.filter (keepB va la)).length:Int)>8 then some ([],[],0,0,9) else (impl_sorted.f k (acc ++ s.filter (keepB va la))).bind fun t=>some (v,t,0,0,0)) R →
    Ev (fun k=>impl_SetSync.l1 k lb (lb.length:Int) (i:Int) va la v acc) R
  | [],i,h,hi,acc,hc,hR=>by
    have:=dropNil' h hi
    simp only [List.filter_nil,List.append_nil] at hR
    refine Ev.step (fun k=>?_) hR
    simp only [impl_SetSync.l1]
    rw [if_neg (by omega)]
  | x :: s,i,h,hi,acc,hc,hR=>by
    obtain ⟨h1,h2,h3⟩:=dropCons h z91
    simp only [List.length_cons] at hc
    have hr:rd_T91 lb (i:Int)=x:=by simpa [rd_T91] using h2
    have hj:Ev (fun k=>impl_SetSync.j4 k lb (lb.length:Int) (i:Int) (keepB va la x) va la v acc x.f0.f0 x.f0.f1 x.f1 x.f2) R:=by
      cases hk:keepB va la x with
      | true =>
        rw [List.filter_cons_of_pos hk] at hR
        have ih:=implSync_l1 va la v hva hla lb hlb s (i+1) h3 (by omega) (acc ++ [x]) (by simp;omega) (by rw [List.append_assoc,List.singleton_append];exact hR)
        refine Ev.step (fun k=>?_) ih
        simp only [impl_SetSync.j4]
        rw [if_pos trivial,if_pos (by omega),w64 (by omega) (by omega)]
        rfl
      | false =>
        rw [List.filter_cons_of_neg (by simp [hk])] at hR
        have ih:=implSync_l1 va la v hva hla lb hlb s (i+1) h3 (by omega) acc (by omega) hR
        refine Ev.step (fun k=>?_) ih
        simp only [impl_SetSync.j4]
        rw [if_neg (by simp),w64 (by omega) (by omega)]
        rfl
    refine Ev.step (fun k=>by simp only [impl_SetSync.l1,hr];rw [if_pos (by omega),if_pos (by omega),if_pos (by omega)]) (Ev.bind (Set_sib_ev va la _ _ (by omega)) ?_)
    by_cases hn:sibAt x.f0.f0 x.f0.f1 0 la<0
    · refine evPos hn (Ev.bind (seenHas_ev va _ _ (by omega)) ?_)
      have e:keepB va la x=!seenHas va x.f0.f0 x.f0.f1:=by simp [keepB,hn]
      rw [e] at hj
      exact hj
    · refine evNeg hn ?_
      have e:keepB va la x=false:=by simp [keepB,hn]
      rw [e] at hj
      exact hj
theorem implSync_l0 (va:List Mark) (la:List Sib) (vb:List Mark) (lb:List Sib) (v:List Mark) (hva:va.length≤1048576) (hvb:vb.length≤1048576) (hla:la.length≤8) (hlb:lb.length≤8) {R:List Mark × List Sib × Int × Int × Int}:∀ (s:List Sib) (i:Nat),la.drop i=s→i≤la.length→∀ acc:List Sib,acc.length+s.length≤8 →
    Ev (fun k=>if ((acc ++ s.filter (keepA vb lb) ++ lb.filter (keepB va la)).length:Int)>8 then some ([],[],0,0,9) else (impl_sorted.f k (acc ++ s.filter (keepA vb lb) ++ lb.filter (keepB va la))).bind fun t=>some (v,t,0,0,0)) R →
    Ev (fun k=>impl_SetSync.l0 k la (la.length:Int) (i:Int) va la vb lb v acc) R
  | [],i,h,hi,acc,hc,hR=>by
    have:=dropNil' h hi
    simp only [List.filter_nil,List.append_nil] at hR
    refine Ev.step (fun k=>?_) (implSync_l1 va la v hva hla lb hlb lb 0 rfl (by omega) acc (by simp only [List.length_nil] at hc;omega) hR)
    simp only [impl_SetSync.l0]
    rw [if_neg (by omega)]
    rfl
  | x :: s,i,h,hi,acc,hc,hR=>by
    obtain ⟨h1,h2,h3⟩:=dropCons h z91
    simp only [List.length_cons] at hc
    have hr:rd_T91 la (i:Int)=x:=by simpa [rd_T91] using h2
    have hj:Ev (fun k=>impl_SetSync.j2 k la (la.length:Int) (i:Int) (keepA vb lb x) va la vb lb v acc x.f0.f0 x.f0.f1 x.f1 x.f2) R:=by
      cases hk:keepA vb lb x with
      | true =>
        rw [List.filter_cons_of_pos hk] at hR
        have ih:=implSync_l0 va la vb lb v hva hvb hla hlb s (i+1) h3 (by omega) (acc ++ [x]) (by simp;omega) (by rw [List.append_assoc acc,List.singleton_append];exact hR)
        refine Ev.step (fun k=>?_) ih
        simp only [impl_SetSync.j2]
        rw [if_pos trivial,if_pos (by omega),w64 (by omega) (by omega)]
        rfl
      | false =>
        rw [List.filter_cons_of_neg (by simp [hk])] at hR
        have ih:=implSync_l0 va la vb lb v hva hvb hla hlb s (i+1) h3 (by omega) acc (by omega) hR
        refine Ev.step (fun k=>?_) ih
        simp only [impl_SetSync.j2]
        rw [if_neg (by simp),w64 (by omega) (by omega)]
        rfl
    refine Ev.step (fun k=>by simp only [impl_SetSync.l0,hr];rw [if_pos (by omega),if_pos (by omega),if_pos (by omega)]) (Ev.bind (Set_sib_ev vb lb _ _ (by omega)) ?_)
    by_cases hn:sibAt x.f0.f0 x.f0.f1 0 lb≥0
    · refine evPos hn ?_
      have e:keepA vb lb x=true:=by simp [keepA,hn]
      rw [e] at hj
      exact hj
    · refine evNeg hn (Ev.bind (seenHas_ev vb _ _ (by omega)) ?_)
      have e:keepA vb lb x=!seenHas vb x.f0.f0 x.f0.f1:=by simp [keepA,hn]
      rw [e] at hj
      exact hj
theorem impl_SetSync_ev (va:List Mark) (la:List Sib) (vb:List Mark) (lb:List Sib) (hva:va.length≤1048576) (hvb:vb.length≤1048576) (hla:la.length≤1048576) (hlb:lb.length≤1048576) :
    Ev (fun k=>impl_SetSync.f k va la vb lb) ((setSync va la vb lb).1,(setSync va la vb lb).2.1,0,0,(setSync va la vb lb).2.2):=by
  unfold impl_SetSync.f
  have jT:Ev (fun k=>impl_SetSync.j0 k true va la vb lb) ([],[],0,0,1):=Ev.step (f:=fun _=>some ([],[],0,0,1)) (fun k=>by simp [impl_SetSync.j0]) (Ev.now _)
  refine Ev.bind (impl_SetRight_ev va la (by omega) hla) ?_
  cases ha:setOk va la with
  | false =>
    have e:setSync va la vb lb=([],[],1):=by unfold setSync;rw [if_neg (by simp [ha])]
    rw [e]
    exact evNeg (by simp) jT
  | true =>
    refine evPos rfl (Ev.bind (impl_SetRight_ev vb lb (by omega) hlb) ?_)
    cases hb:setOk vb lb with
    | false =>
      have e:setSync va la vb lb=([],[],1):=by unfold setSync;rw [if_neg (by simp [hb])]
      rw [e]
      exact jT
    | true =>
      have ha8:=((setOk_iff va la).1 ha).2.1
      have hb8:=((setOk_iff vb lb).1 hb).2.1
      refine Ev.step (fun k=>by simp only [impl_SetSync.j0];rw [if_neg (by simp)]) (Ev.bind (seenJoin_ev va vb (by omega) (by omega)) ?_)
      refine implSync_l0 va la vb lb (seenJoin va vb) hva hvb ha8 hb8 la 0 rfl (by omega) [] (by simpa using ha8) ?_
      rw [List.nil_append]
      show Ev (fun k=>if ((kept va la vb lb).length:Int)>8 then some ([],[],0,0,9) else (impl_sorted.f k (kept va la vb lb)).bind fun t=>some (seenJoin va vb,t,0,0,0)) _
      unfold setSync
      rw [if_pos ⟨ha,hb⟩]
      by_cases h:(kept va la vb lb).length>8
      · rw [if_pos h];exact evPos (by omega) (Ev.now _)
      · rw [if_neg h]
        refine evNeg (by omega) (Ev.bind (sorted_ev (kept va la vb lb) (by omega)) ?_)
        rw [foldl_same (kept va la vb lb) [] List.Pairwise.nil (fun _ _ z hz=>by cases hz) (kept_apart ha hb)]
        exact Ev.now _
end Go.Proofs.Ytphbgcfpcadabaa.Q

namespace Go.Proofs.Ytphbgcfpcadabaa.Q
open Go.RowKit Go.Proofs.Ytphbgcfpcadabaa.P Go.Proofs.YtphbgcfpcadabaaW.PrintWords Go.Proofs.YtphbgcfpcadabaaW.PrintMore
/-- Of any set: it is too large, or it is small. -/
theorem szSet_small {x:S32} (hw:Go.Proofs.Ytphbgcfpcadabaa.RO.wfT32 x):∃ r,Ev (fun k=>laws_szSet.f k x.f0 x.f1 1048576) r∧r≤1048576∧(¬ r<0→x.f0.length≤1048576∧x.f1.length≤1048576∧∀ y ∈ x.f1,y.f2.size≤1048576):=by
  obtain ⟨r,e1,e2,e3⟩:=szSet_ev x.f0 x.f1 hw.1.1 hw.2.1 (fun y hy=>(hw.2.2 y hy).2.2) 1048576 (by omega) (by omega)
  exact ⟨r,e1,e2,fun h=>e3 (by omega)⟩
theorem szSet_more {x:S32} (hw:Go.Proofs.Ytphbgcfpcadabaa.RO.wfT32 x) (n:Int) (h0:0≤n) (h1:n≤1048576):∃ r,Ev (fun k=>laws_szSet.f k x.f0 x.f1 n) r∧r≤1048576∧(¬ r<0→x.f0.length≤1048576∧x.f1.length≤1048576∧∀ y ∈ x.f1,y.f2.size≤1048576):=by
  obtain ⟨r,e1,e2,e3⟩:=szSet_ev x.f0 x.f1 hw.1.1 hw.2.1 (fun y hy=>(hw.2.2 y hy).2.2) n h0 h1
  exact ⟨r,e1,by omega,fun h=>e3 (by omega)⟩
end Go.Proofs.Ytphbgcfpcadabaa.Q

namespace Go.Proofs.Ytphbgcfpcadabaa.Pure
open Go.RowKit Go.Proofs.Ytphbgcfpcadabaa.P Go.Proofs.Ytphbgcfpcadabaa.Q Go.Proofs.YtphbgcfpcadabaaW.PrintWords Go.Proofs.YtphbgcfpcadabaaW.PrintMore
theorem FnExactSetSync:laws_FnExactSetSync.Pure:=by
  intro a b ha hb
  refine Ev.rounds ?_
  unfold laws_FnExactSetSync.f
  obtain ⟨n,e1,hn1,hn2⟩:=szSet_small ha
  refine Ev.bind e1 (evIte (fun _=>Ev.now _) (fun h0=>?_))
  obtain ⟨va1,la1,lx1⟩:=hn2 h0
  obtain ⟨n2,e2,hm1,hm2⟩:=szSet_more hb n (by omega) hn1
  refine Ev.bind e2 (evIte (fun _=>Ev.now _) (fun h02=>?_))
  obtain ⟨vb1,lb1,lx2⟩:=hm2 h02
  have ta:=toSet_ev a.f0 a.f1 va1 la1
  have tb:=toSet_ev b.f0 b.f1 vb1 lb1
  have ga:(a.f0.map toMark).length≤1048576:=by simpa using va1
  have ga2:(a.f1.map toSib).length≤1048576:=by simpa using la1
  have gb:(b.f0.map toMark).length≤1048576:=by simpa using vb1
  have gb2:(b.f1.map toSib).length≤1048576:=by simpa using lb1
  generalize a.f0.map toMark=va at ta ga
  generalize a.f1.map toSib=la at ta ga2
  generalize b.f0.map toMark=vb at tb gb
  generalize b.f1.map toSib=lb at tb gb2
  have s1:=spec_SetSync_ev va la vb lb ga gb ga2 gb2
  have s2:=impl_SetSync_ev va la vb lb ga gb ga2 gb2
  have hj:=setSync_length va la vb lb
  generalize setSync va la vb lb=r at s1 s2 hj
  obtain ⟨v,l,c⟩:=r
  simp only at hj s1 s2
  refine Ev.bind ta (Ev.bind tb (Ev.bind s1 (Ev.bind ta (Ev.bind tb (Ev.bind s2 (Ev.bind (eqSetOut_ev v l 0 0 c (by omega) (by omega)) (evPos rfl ?_)))))))
  refine Ev.bind ta (Ev.bind (eqSet_ev va la (by omega) (by omega)) (evPos rfl (Ev.bind tb (Ev.bind (eqSet_ev vb lb (by omega) (by omega)) (evPos rfl ?_)))))
  refine Ev.bind (markSet_ev va la 1 (by omega) (by omega)) (Ev.bind (markSet_ev vb lb _ (by omega) (by omega)) (evNeg (by omega) (Ev.bind (eqSetOut_ev v l 0 0 c (by omega) (by omega)) ?_)))
  refine Ev.step (fun k=>by simp only [laws_FnExactSetSync.j0];rw [if_neg (by simp)]) ?_
  refine Ev.bind (markSetOut_ev v l 0 0 c 1 (by omega) (by omega)) (Ev.bind (heldSetOut_ev v l 0 0 c 1 (by omega) (by omega)) (evNeg (by omega) (evPos rfl ?_)))
  refine Ev.bind ta (Ev.bind tb (Ev.bind s2 (Ev.bind (eqSetOut_ev v l 0 0 c (by omega) (by omega)) (evPos rfl ?_))))
  exact Ev.bind (heldSetOut_ev v l 0 0 c 1 (by omega) (by omega)) (evNeg (by omega) (evPos rfl (Ev.now _)))
end Go.Proofs.Ytphbgcfpcadabaa.Pure

namespace Go.Proofs.Ytphbgcfpcadabaa.fnExactSetSync
open Go.ChangeShapes Go.WideShapes Go.ChangeAt Go.RowKit Go.Proofs.Ytphbgcfpcadabaa.P Go.Proofs.Ytphbgcfpcadabaa.RO Go.Proofs.Ytphbgcfpcadabaa.Open Go.Proofs.YtphbgcfpcadabaaW.PrintWords
open Go.ChangeMaps (open_string shut_string)
set_option linter.unusedVariables false
theorem own:ownKnob Try.prog.godebug=none:=by kernel_rfl
theorem laidOut:laidOutB Try.prog=true:=by kernel_rfl
set_option maxRecDepth 100000 in
theorem lifted (os:Os) (started:os.Started) (H:Type) (enc:TypeId × Value→H) :
    ReturnsInHanded {} Try.checked os 5 .any (Rows.fnExactSetSyncSpec.pre6 enc Try.prog Try.f5 Rows.fnExactSetSyncRow.domain false) (Rows.fnExactSetSyncSpec.post enc Try.prog Try.f5 false true false false):=by
  refine returnsInHanded_of_change_sized (C:=Try.checked) own started (by kernel_rfl) Try.func5
    (ChangeSpec.witness6 (enc:=enc) (C:=Try.checked) false ⟨#[],#[.agg #[.slice none 0 0,.slice none 0 0],.agg #[.slice none 0 0,.slice none 0 0]],[]⟩ 8 (by kernel_rfl) (by kernel_rfl) (by kernel_rfl) (by kernel_rfl)) ?_
  intro W base args ds gs before hval0 hW hcnd hsz0 _
  have hsz:(DataW.weightsEach Try.prog (Try.f5.params.toList ++ Rows.fnExactSetSyncSpec.plain.varTypes Try.prog) (ds ++ gs)).all (· ≤ reachBytes)=true:=hsz0
  have hval:∀ (j:Nat) t v,Try.f5.params[j]? = some t→args[j]? = some v→Value.okWide Try.prog W .any base t v:=hval0
  have hW':=hW
  obtain ⟨p,q,hA0,hV,rfl,hfz,hnd⟩:=hW
  have hA:DataW.TrodAll enc Try.prog W 0 (fun _=>true) true Try.f5.params.toList args.toList ds p:=hA0
  rw [Try.params5] at hA hval hsz
  obtain ⟨v0,vs0,d0,ds0,p0,q0,hargs,rfl,rfl,h0,r0⟩:=trodAll_cons hA
  obtain ⟨v1,vs1,d1,ds1,p1,q1,rfl,rfl,rfl,h1,r1⟩:=trodAll_cons r0
  obtain ⟨rfl,rfl,rfl⟩:=trodAll_nil r1
  obtain rfl:args=#[v0,v1]:=by cases args;simp_all
  obtain ⟨rfl,rfl⟩:=trodVars_none hV
  have k0:=h0
  have lt0:∀ x ∈ p0,x.block<W.heap.size:=by obtain ⟨m,hm⟩:=k0;exact DataW.trod_lt m _ _ _ hm
  obtain ⟨cs0,rfl,_⟩:=okWide_struct Try.underlying32 (hval 0 32 v0 rfl rfl)
  obtain ⟨fuel0,hf0⟩:=h0
  obtain ⟨x0,hk0,w0⟩:=op_T32 hf0
  obtain ⟨A0_0,c0_0,A0_1,c0_1,hcs0,hl0_0,hr0_0,hl0_1,hr0_1⟩:=k32_open hk0
  obtain rfl:cs0=#[.slice A0_0 x0.f0.length c0_0,.slice A0_1 x0.f1.length c0_1]:=Array.toList_inj.1 hcs0
  have k1:=h1
  have lt1:∀ x ∈ p1,x.block<W.heap.size:=by obtain ⟨m,hm⟩:=k1;exact DataW.trod_lt m _ _ _ hm
  obtain ⟨cs1,rfl,_⟩:=okWide_struct Try.underlying32 (hval 1 32 v1 rfl rfl)
  obtain ⟨fuel1,hf1⟩:=h1
  obtain ⟨x1,hk1,w1⟩:=op_T32 hf1
  obtain ⟨A1_0,c1_0,A1_1,c1_1,hcs1,hl1_0,hr1_0,hl1_1,hr1_1⟩:=k32_open hk1
  obtain rfl:cs1=#[.slice A1_0 x1.f0.length c1_0,.slice A1_1 x1.f1.length c1_1]:=Array.toList_inj.1 hcs1
  clear hA0 hval0 hsz0 hsz
  obtain ⟨k,hp⟩:=Pure.FnExactSetSync x0 x1 w0 w1
  refine (P.laws_FnExactSetSync.calls k _ _ x0.f0 _ _ x0.f1 _ _ x1.f0 _ _ x1.f1 true W hr0_0 hl0_0 hr0_1 hl0_1 hr1_0 hl1_0 hr1_1 hl1_1 hp).mono fun e W' ⟨he,bel0⟩=>?_
  have bel:Below W.heap.size W W':=bel0
  subst he
  exact ⟨_,rfl,_,_,_,[],_,[],hW',trodAll_mk1 (shut_bool Try.underlying4 _),(trodAll_cons_mk (Below.trod laidOut (by kernel_rfl) (of_decide_eq_true (by kernel_rfl)) k0 bel lt0) (trodAll_cons_mk (Below.trod laidOut (by kernel_rfl) (of_decide_eq_true (by kernel_rfl)) k1 bel lt1) trodAll_mk0)),rfl,bel.frame _,fun h=>by cases h⟩
theorem over:Rows.fnExactSetSyncRow.holds Try.pinned (OpenSpec.ofChange Rows.fnExactSetSyncSpec) :=
  OpenClaim.holds_of_wide 5 Try.f5 rfl rfl rfl rfl rfl rfl rfl ⟨rfl,rfl,rfl,rfl,rfl⟩ rfl rfl rfl rfl rfl (by kernel_rfl) Try.func5 (by kernel_rfl)
    (of_decide_eq_true (by kernel_rfl)) (by unfold Func.isWrapper;first | (rw [if_pos (by decide +kernel)];kernel_rfl) | (rw [if_neg (by decide +kernel)];exact ⟨rfl,rfl⟩))
    (fun os started H enc _=>lifted os started H enc)
theorem proved:Rows.FnExactSetSyncSaid:=over
#print axioms proved
end Go.Proofs.Ytphbgcfpcadabaa.fnExactSetSync
namespace Go.Proofs.Ytphbgcfpcadabaa
/-- The row, under a short name, for the claim. -/
theorem fnExactSetSync_holds:Rows.FnExactSetSyncSaid:=fnExactSetSync.proved
end Go.Proofs.Ytphbgcfpcadabaa
