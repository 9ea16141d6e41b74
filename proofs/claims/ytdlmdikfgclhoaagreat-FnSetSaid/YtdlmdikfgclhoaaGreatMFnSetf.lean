/- Of drawn sets: what is written is stored beside what its writer had not read and in place of what it had; a set is decoded from its encoding, and what is decoded was encoded so; and the program's answers are the reference's. No condition. (Part 6 of 6: written by programs of this workplace and by hand, merged.) -/
import Derived.Test.YtdlmdikfgclhoaaGreatMFnSete
import Derived.Test.YtdlmdikfgclhoaaGreatMFnSetd
import Derived.Test.YtdlmdikfgclhoaaGreatMFnSeta
import Derived.Test.YtdlmdikfgclhoaaGreatRows
import Derived.WalkKit
import Derived.ProofKit
import Derived.OpenShut
import Derived.ShutString
import Derived.ChangeOld
import Derived.Below
import Derived.SizedLaws
import Derived.Test.YtdlmdikfgclhoaaGreatMFnSetWSized
set_option linter.unusedVariables false
set_option linter.unusedSimpArgs false
set_option maxHeartbeats 8000000
set_option maxRecDepth 100000
namespace Go.Proofs.YtdlmdikfgclhoaaGreat.Q
open Go.RowKit Go.Proofs.YtdlmdikfgclhoaaGreat.P Go.Proofs.YtdlmdikfgclhoaaGreatW.PrintWords Go.Proofs.YtdlmdikfgclhoaaGreatW.PrintMore
theorem a9K {s:ByteArray} {x:Int} (h:(dh s x).2.2≠0):(dh s x).1=⟨#[]⟩∧(dh s x).2.1=0:=by
 unfold dh at h ⊢;split
 ·rename_i h1;rw [if_pos h1] at h;split
  ·exact ⟨rfl,rfl⟩
  ·rename_i h2;rw [if_neg h2] at h;split
   ·exact ⟨rfl,rfl⟩
   ·rename_i h3;rw [if_neg h3] at h;exact absurd rfl h
 ·exact ⟨rfl,rfl⟩
theorem a7B {s:ByteArray} {x:Int} (h:(dh s x).2.2=0):0≤(dh s x).2.1∧(dh s x).2.1≤(s.size:Int):=by
 unfold dh at h ⊢;split
 ·rename_i h1;rw [if_pos h1] at h;have hk:=a6a h1;split
  ·exact ⟨Int.le_refl _,by show (0:Int)≤_;omega⟩
  ·rename_i h2;split
   ·exact ⟨Int.le_refl _,by show (0:Int)≤_;omega⟩
   ·refine ⟨?_,?_⟩ <;> dsimp only <;> omega
 ·exact ⟨Int.le_refl _,by show (0:Int)≤_;omega⟩
theorem b0g {s:ByteArray} (hs:s.size≤8000) {o:Option Int} {p:Int} {b:Bool} (h:St s o p b):∃ p' b',St s (dV s o).1 p' b'∧Ev (fun k=>Y65.f k s p b) ((dV s o).2,s,p',b'):=by
 obtain ⟨h0,h1,h2⟩:=h;unfold Y65.f
 cases b with
 | true =>
  simp only [if_true] at h2;subst h2;exact ⟨p,true,⟨h0,h1,rfl⟩,aX rfl (Ev.now _)⟩
 | false =>
  simp only [Bool.false_eq_true,if_false] at h2;subst h2;have e:=a6H s p (by omega) (by omega);by_cases hc:(dh s p).2.2=0
  ·have hk:=a7B hc;refine ⟨(dh s p).2.1,false,⟨hk.1,hk.2,by simp [dV,hc]⟩,bG (by simp) (Ev.bind e ?_)⟩;simp only [dV,if_pos hc,hc];exact Ev.now _
  ·have hk:=a9K hc;refine ⟨0,true,⟨Int.le_refl _,by omega,by simp [dV,hc]⟩,bG (by simp) (Ev.bind e ?_)⟩;simp only [dV,if_neg hc,hk.1,hk.2];(have:((dh s p).2.2 != 0)=true:=by simpa using hc);rw [this];exact Ev.now _
theorem a9c {s:ByteArray} (hs:s.size≤8000) {o:Option Int} {p:Int} {b:Bool} (h:St s o p b):∃ p' b',St s (dV s o).1 p' b'∧Ev (fun k=>Y25.f k s p b) ((dV s o).2,s,p',b'):=by
 obtain ⟨h0,h1,h2⟩:=h;unfold Y25.f;have e:=a6N s p (by omega) (by omega);have jT:∀ b n q c,Ev (fun k=>Y25.j0 k true s p b n q c) (⟨#[]⟩,s,p,true):=fun b n q c=>Ev.step (f:=fun _=>some (⟨#[]⟩,s,p,true)) (fun k=>by simp [Y25.j0]) (Ev.now _)
 cases b with
 | true =>
  simp only [if_true] at h2;subst h2;exact ⟨p,true,⟨h0,h1,rfl⟩,Ev.bind e (aX rfl (jT _ _ _ _))⟩
 | false =>
  simp only [Bool.false_eq_true,if_false] at h2;subst h2;by_cases hc:(dh s p).2.2=0
  ·have hk:=a7B hc;(have er:dV s (some p)=(some (dh s p).2.1,(dh s p).1):=by simp [dV,hc]);rw [er];refine ⟨(dh s p).2.1,false,⟨hk.1,hk.2,rfl⟩,Ev.bind e (bG (by simp) ?_)⟩;simp only [hc];exact Ev.step (f:=fun _=>some _) (fun k=>by simp only [Y25.j0];rw [if_neg (by simp)]) (Ev.now _)
  ·refine ⟨p,true,⟨h0,h1,by simp [dV,hc]⟩,Ev.bind e (bG (by simp) ?_)⟩;simp only [dV,if_neg hc];(have:((dh s p).2.2 != 0)=true:=by simpa using hc);rw [this];exact jT _ _ _ _
noncomputable def cj (s:ByteArray):List Mark × List Sib × Int :=
 if 8000<s.size then ([],[],2)
 else if (dB s (cF s (bV s (some 0)).1 8).2.toNat (cF s (bV s (some 0)).1 8).1).1=some (s.size:Int) ∧
   (cS (bV s (some 0)).2 ((dB s (cF s (bV s (some 0)).1 8).2.toNat (cF s (bV s (some 0)).1 8).1).2.map (·.1))=true ∧
   a0W (dB s (cF s (bV s (some 0)).1 8).2.toNat (cF s (bV s (some 0)).1 8).1).2=true) then
  ((bV s (some 0)).2,(dB s (cF s (bV s (some 0)).1 8).2.toNat (cF s (bV s (some 0)).1 8).1).2.map (·.1),0)
 else ([],[],3)
theorem a7D (s:ByteArray):(cj s).1.length≤5∧(cj s).2.1.length≤8:=by
 have h1:=a3d s (some 0);have h2:=a1Q s (bV s (some 0)).1 8 (by omega);have h3:=a5h s (cF s (bV s (some 0)).1 8).2.toNat (cF s (bV s (some 0)).1 8).1;unfold cj;split
 ·simp
 ·split
  ·exact ⟨h1,by simp only [List.length_map];omega⟩
  ·simp
def a4n (s:ByteArray) (v:List Mark) (l:List Sib) (b:Bool):List Mark × List Sib × Int × Int × Int :=
 if b=true then ([],[],0,0,3) else if s.toList=[] then ([],[],0,0,3) else if ((a0a v l).toList != s.toList)=true then ([],[],0,0,3) else (v,l,0,0,0)
theorem a3I (v:List Mark) (l:List Sib) (b:Bool):Ev (fun k=>Y21.j2 k b v l) (if b=true then ([],[],0,0,3) else (v,l,0,0,0)):=by
 cases b with
 | true=>exact Ev.step (f:=fun _=>some _) (fun k=>by simp [Y21.j2,Y61.f]) (Ev.now _)
 | false=>exact Ev.step (f:=fun _=>some _) (fun k=>by simp [Y21.j2]) (Ev.now _)
theorem a5r (s:ByteArray) (n:Int) (p:Int) (b:Bool) (v:List Mark) (l:List Sib) (hv:v.length≤1048576) (hl:l.length≤1048576):Ev (fun k=>Y21.j1 k s n false s p b v l) (a4n s v l b):=by
 unfold a4n
 cases b with
 | true=>exact Ev.step (fun k=>by simp only [Y21.j1];rw [if_neg (by simp),if_pos trivial]) (a3I v l true)
 | false =>
  rw [if_neg (by simp)];refine Ev.step (fun k=>by simp only [Y21.j1];rw [if_neg (by simp),if_neg (by simp)]) ?_;by_cases h:s.toList=[]
  ·rw [if_pos h];exact aX h (a3I v l true)
  ·rw [if_neg h];exact bG h (Ev.bind (a1y v l hv hl) (a3I v l _))
theorem a6u {s:ByteArray} (hs:s.size≤8000) (v:List Mark) (hv:v.length≤5):∀ (n:Nat) (o:Option Int) (p:Int) (b:Bool) (acc:List Sib),n≤8→acc.length+n≤8→St s o p b →
  ∃ p' b',St s (dB s n o).1 p' b'∧Ev (fun k=>Y21.l0 k s (n:Int) s p b v acc) (a4n s v (acc ++ (dB s n o).2.map (·.1)) b')
 | 0,o,p,b,acc,hn,ha,h=>by
  refine ⟨p,b,h,?_⟩;simp only [dB,List.map_nil,List.append_nil];refine Ev.step (fun k=>?_) (a5r s ((0:Nat):Int) p b v acc (by omega) (by omega));simp only [Y21.l0];rw [if_neg (by omega)]
 | n+1,o,p,true,acc,hn,ha,h=>by
  have ho:=h.bad;subst ho;refine ⟨p,true,h,?_⟩;simp only [dB,List.map_nil,List.append_nil];refine Ev.step (fun k=>?_) (a5r s ((n+1:Nat):Int) p true v acc (by omega) (by omega));simp only [Y21.l0];rw [if_pos (by omega)];rfl
 | n+1,o,p,false,acc,hn,ha,h=>by
  have ho:=h.good;subst ho;obtain ⟨p1,b1,s1,e1⟩:=a1n hs h;obtain ⟨p2,b2,s2,e2⟩:=a1n hs s1;obtain ⟨p3,b3,s3,e3⟩:=a1n hs s2;obtain ⟨p4,b4,s4,e4⟩:=a9c hs s3;obtain ⟨p5,b5,s5,e5⟩:=a6u hs v hv n _ p4 b4 (acc ++ [⟨⟨(bD s (some p)).2,(bD s (bD s (some p)).1).2⟩,(bD s (bD s (bD s (some p)).1).1).2 == 1,(dV s (bD s (bD s (bD s (some p)).1).1).1).2⟩]) (by omega) (by simp;omega) s4;refine ⟨p5,b5,s5,?_⟩;simp only [dB,List.map_cons];rw [List.append_assoc,List.singleton_append] at e5;refine Ev.step (f:=fun k=>Y21.j1 k s ((n+1:Nat):Int) true s p false v acc) (fun k=>?_) ?_
  ·simp only [Y21.l0];rw [if_pos (by omega)];rfl
  ·(have hj:∀ k,Y21.j1 (k+1) s ((n+1:Nat):Int) true s p false v acc=(Y12.f k s p false).bind fun a=>(Y12.f k a.2.1 a.2.2.1 a.2.2.2).bind fun c=>(Y12.f k c.2.1 c.2.2.1 c.2.2.2).bind fun d=>(Y25.f k d.2.1 d.2.2.1 d.2.2.2).bind fun e=>if acc.length<3518437208883 then Y21.l0 k s (wrap64 (((n+1:Nat):Int)-1)) e.2.1 e.2.2.1 e.2.2.2 v (acc ++ [⟨⟨a.1,c.1⟩,d.1 == 1,e.1⟩]) else none:=fun k=>by simp [Y21.j1]);refine Ev.step hj (Ev.bind e1 (Ev.bind e2 (Ev.bind e3 (Ev.bind e4 (aX (by omega) ?_)))));rw [w64 (by omega) (by omega),show ((n+1:Nat):Int)-1=(n:Int) from by omega];exact e5
theorem a9F {s:ByteArray} (h:¬ 8000<s.size) {q:Int} (b3:Bool) (s3:St s (dB s (cF s (bV s (some 0)).1 8).2.toNat (cF s (bV s (some 0)).1 8).1).1 q b3) :
  a4n s (bV s (some 0)).2 ((dB s (cF s (bV s (some 0)).1 8).2.toNat (cF s (bV s (some 0)).1 8).1).2.map (·.1)) b3=((cj s).1,(cj s).2.1,0,0,(cj s).2.2):=by
 unfold cj;rw [if_neg h];have hsn:=@a7C s 0;generalize bV s (some 0)=av at s3 hsn ⊢;obtain ⟨a,v⟩:=av;simp only at s3 hsn ⊢;(have hmn:=fun p q n=>@a4Q s p q n 8 (by omega));have hm0:=a1Q s a 8 (by omega);(have hmN:a=none→(cF s a 8).1=none:=fun e=>by subst e;unfold cF;split <;> rfl);generalize hb:cF s a 8=cn at s3 hm0 hmN ⊢;obtain ⟨c,n⟩:=cn;simp only at s3 hm0 hmN ⊢;have hsb:=@a4Y s n.toNat;(have hsN:c=none→(dB s n.toNat c).1=none:=fun e=>by subst e;exact a1A s _);generalize hc:dB s n.toNat c=dl at s3 hsN ⊢;obtain ⟨d,l⟩:=dl;simp only at s3 hsN ⊢;unfold a4n
 cases b3 with
 | true =>
  have:=s3.bad;subst this;rw [if_pos rfl,if_neg (by simp)]
 | false =>
  have:=s3.good;subst this
  cases c with
  | none=>cases hsN rfl
  | some c =>
   cases a with
   | none=>cases hmN rfl
   | some a =>
    have p1:=hsn rfl;have p2:=hmn a c n hb;have p3:=hsb c q (by have:=p2.1.1;omega) p2.1.2.2.1 (by rw [hc]);rw [hc] at p3;simp only at p3;(have hlen:n=(l.length:Int):=by have:=p3.2.1;omega);subst hlen;have hsp:=(p1.1.trans p2.1).trans p3.1
    have hsz0:¬ s.toList=[]:=fun e=>by
     have:=toList_nil e;have:=p2.1.2.2.1;have:=p1.2;have:=p2.2.1;omega
    rw [if_neg (by simp),if_neg hsz0];have e2:=a0E v (l.map (·.1));rw [List.length_map] at e2;by_cases hg:q=(s.size:Int)∧(cS v (l.map (·.1))=true∧a0W l=true)
    ·have e:=hsp.whole.1 hg.1;rw [a5k l p3.2.2 hg.2.2] at e;have e3:=a3V (e.trans e2.symm)
     have hne:((a0a v (l.map (·.1))).toList != s.toList)=false:=by
      unfold a0a;rw [if_pos hg.2.1,← e3];simp
     rw [hne,if_neg (show ¬ (false=true) by simp),if_pos ⟨by rw [hg.1],hg.2⟩]
    ·have hne:((a0a v (l.map (·.1))).toList != s.toList)=true:=by
      simp only [bne_iff_ne,ne_eq];intro e;have e:=toList_inj e;unfold a0a at e;by_cases hk:cS v (l.map (·.1))=true
      ·rw [if_pos hk] at e;have a3:=hsp.2.2.2;rw [show (0:Int).toNat=0 from rfl,List.drop_zero] at a3;rw [e,a3,List.append_assoc (bytesOf (a0X v) ++ _)] at e2;have e4:=List.append_cancel_left e2;have g:=b0c l ((bytesOf s).drop q.toNat) [] p3.2.2 (by rw [List.append_nil];exact e4);refine hg ⟨hsp.whole.2 ?_,hk,g⟩;rw [a5k l p3.2.2 g] at e4
       have e5:(bytesOf s).drop q.toNat=[]:=by
        have:=congrArg List.length e4;rw [List.length_append] at this;exact List.length_eq_zero_iff.1 (by omega)
       rw [e5,List.append_nil] at a3;exact a3
      ·rw [if_neg hk] at e;rw [← e] at hsz0;exact hsz0 (by rw [toList_data])
     rw [hne,if_pos rfl,if_neg (fun e=>hg ⟨Option.some.inj e.1,e.2⟩)]
theorem a6F (s:ByteArray):Ev (fun k=>Y21.f k s) ((cj s).1,(cj s).2.1,0,0,(cj s).2.2):=by
 unfold Y21.f cj;by_cases h:8000<s.size
 ·rw [if_pos h];exact aX (by omega) (bp rfl (Ev.now _))
 ·rw [if_neg h];refine bG (by omega) ?_;obtain ⟨p1,b1,s1,e1⟩:=a9a (by omega) (St.start s);obtain ⟨p2,b2,s2,e2⟩:=a5s (by omega) s1 8;have hl:=a3d s (some 0);have hm:=a1Q s (bV s (some 0)).1 8 (by omega);obtain ⟨p3,b3,s3,e3⟩:=a6u (by omega) (bV s (some 0)).2 hl (cF s (bV s (some 0)).1 8).2.toNat _ p2 b2 [] (by omega) (by simp;omega) s2;rw [show (((cF s (bV s (some 0)).1 8).2.toNat:Nat):Int)=(cF s (bV s (some 0)).1 8).2 from by omega,List.nil_append] at e3;have key:a4n s (bV s (some 0)).2 ((dB s (cF s (bV s (some 0)).1 8).2.toNat (cF s (bV s (some 0)).1 8).1).2.map (·.1)) b3=((cj s).1,(cj s).2.1,0,0,(cj s).2.2):=a9F h b3 s3;unfold cj at key;rw [if_neg h] at key;rw [← key];exact Ev.bind e1 (Ev.bind e2 e3)
theorem b5Y (g:Int):Y66.f g 0 1=some (cM g 0 1):=a2g g 0 1
theorem a9G {s:ByteArray} (hs:s.size≤8000) (v:List Mark) (hv:v.length≤5):∀ (n:Nat) (o:Option Int) (p:Int) (b:Bool) (acc:List Sib),n≤8→acc.length+n≤8→St s o p b →
  ∃ p' b',St s (ek s n o).1 p' b'∧Ev (fun k=>Y19.l0 k (n:Int) s p b v acc) (v,acc ++ (ek s n o).2,s,p',b' || !cS v (acc ++ (ek s n o).2)):=by
 have jE:∀ (acc:List Sib) (n:Int) (p:Int) (b:Bool),acc.length≤8→Ev (fun k=>Y19.j1 k n false s p b v acc) (v,acc,s,p,b || !cS v acc):=by
  intro acc n p b ha
  cases b with
  | true=>exact Ev.step (f:=fun _=>some (v,acc,s,p,true)) (fun k=>by simp [Y19.j1]) (Ev.now _)
  | false =>
   refine Ev.step (fun k=>by simp only [Y19.j1];rw [if_neg (by simp),if_neg (by simp)]) (Ev.bind (a0v v acc (by omega) (by omega)) ?_);simp only [Bool.false_or];exact Ev.now _
 intro n
 induction n with
 | zero =>
  intro o p b acc hn ha h;refine ⟨p,b,h,?_⟩;simp only [ek,List.append_nil];refine Ev.step (fun k=>?_) (jE acc ((0:Nat):Int) p b (by omega));simp only [Y19.l0];rw [if_neg (by omega)]
 | succ n ih =>
  intro o p b acc hn ha h
  cases b with
  | true =>
   have ho:=h.bad;subst ho;refine ⟨p,true,h,?_⟩;simp only [ek,List.append_nil];refine Ev.step (fun k=>?_) (jE acc ((n+1:Nat):Int) p true (by omega));simp only [Y19.l0];rw [if_pos (by omega)];rfl
  | false =>
   have ho:=h.good;subst ho;obtain ⟨p1,b1,s1,e1⟩:=a1l hs h;obtain ⟨p2,b2,s2,e2⟩:=a1l hs s1;obtain ⟨p3,b3,s3,e3⟩:=a1l hs s2;obtain ⟨p4,b4,s4,e4⟩:=b0g hs s3;have hw:=b5Y (bD s (bD s (bD s (some p)).1).1).2
   have hJ:∀ (b5:Bool) (o5:Option Int),(b4=true∨b5=!cM (bD s (bD s (bD s (some p)).1).1).2 0 1)→St s o5 p4 b5→(b4=true→b5=true) →
     ∃ p' b',St s (ek s n o5).1 p' b'∧Ev (fun k=>Y19.j1 k ((n+1:Nat):Int) true s p false v acc) (v,acc ++ ⟨⟨(bD s (some p)).2,(bD s (bD s (some p)).1).2⟩,(bD s (bD s (bD s (some p)).1).1).2 == 1,(dV s (bD s (bD s (bD s (some p)).1).1).1).2⟩ :: (ek s n o5).2,s,p',b' || !cS v (acc ++ ⟨⟨(bD s (some p)).2,(bD s (bD s (some p)).1).2⟩,(bD s (bD s (bD s (some p)).1).1).2 == 1,(dV s (bD s (bD s (bD s (some p)).1).1).1).2⟩ :: (ek s n o5).2)):=by
    intro b5 o5 h5 s5 h6;obtain ⟨p6,b6,s6,e6⟩:=ih o5 p4 b5 (acc ++ [⟨⟨(bD s (some p)).2,(bD s (bD s (some p)).1).2⟩,(bD s (bD s (bD s (some p)).1).1).2 == 1,(dV s (bD s (bD s (bD s (some p)).1).1).1).2⟩]) (by omega) (by simp;omega) s5;rw [List.append_assoc,List.singleton_append] at e6;refine ⟨p6,b6,s6,?_⟩;(have hj:∀ k,Y19.j1 (k+1) ((n+1:Nat):Int) true s p false v acc=(Y35.f k s p false).bind fun a=>(Y35.f k a.2.1 a.2.2.1 a.2.2.2).bind fun c=>(Y35.f k c.2.1 c.2.2.1 c.2.2.2).bind fun d=>(Y65.f k d.2.1 d.2.2.1 d.2.2.2).bind fun e=>if e.2.2.2=true then (if acc.length<3518437208883 then Y19.l0 k (wrap64 (((n+1:Nat):Int)-1)) e.2.1 e.2.2.1 true v (acc ++ [⟨⟨a.1,c.1⟩,d.1 == 1,e.1⟩]) else none) else (Y66.f d.1 0 1).bind fun t=>if acc.length<3518437208883 then Y19.l0 k (wrap64 (((n+1:Nat):Int)-1)) e.2.1 e.2.2.1 (!t) v (acc ++ [⟨⟨a.1,c.1⟩,d.1 == 1,e.1⟩]) else none:=fun k=>by simp [Y19.j1]);refine Ev.step hj (Ev.bind e1 (Ev.bind e2 (Ev.bind e3 (Ev.bind e4 ?_))))
    cases b4 with
    | true =>
     have:=h6 rfl;subst this;refine aX rfl (aX (by omega) ?_);rw [w64 (by omega) (by omega),show ((n+1:Nat):Int)-1=(n:Int) from by omega];exact e6
    | false =>
     have:=h5.resolve_left (by simp);subst this;refine bG (by simp) (bp hw (aX (by omega) ?_));rw [w64 (by omega) (by omega),show ((n+1:Nat):Int)-1=(n:Int) from by omega];exact e6
   have hl0:∀ k,Y19.l0 (k+1) ((n+1:Nat):Int) s p false v acc=Y19.j1 k ((n+1:Nat):Int) true s p false v acc:=fun k=>by
    simp only [Y19.l0];rw [if_pos (by omega)];rfl
   simp only [ek];by_cases hq:cM (bD s (bD s (bD s (some p)).1).1).2 0 1=true
   ·rw [if_pos hq];obtain ⟨p6,b6,s6,e6⟩:=hJ b4 (dV s (bD s (bD s (bD s (some p)).1).1).1).1 (by cases b4 <;> simp [hq]) s4 id;exact ⟨p6,b6,s6,Ev.step hl0 e6⟩
   ·rw [if_neg hq];(have hq':cM (bD s (bD s (bD s (some p)).1).1).2 0 1=false:=by simpa using hq);obtain ⟨p6,b6,s6,e6⟩:=hJ true none (by simp [hq']) ⟨s4.1,s4.2.1,rfl⟩ (fun _=>rfl);exact ⟨p6,b6,s6,Ev.step hl0 e6⟩
theorem a7S {v:List Mark} {l:List Sib} (h:bX v=false):cS v l=false:=by simp [cS,h]
theorem a3w (s:ByteArray):Ev (fun k=>Y76.f k s) ((cj s).1,(cj s).2.1,0,0,(cj s).2.2):=by
 unfold Y76.f cj;refine Ev.bind (a3g s) ?_;by_cases h:8000<s.size
 ·rw [if_pos h];exact aX (by simpa using h) (Ev.now _)
 ·rw [if_neg h];refine bG (by simpa using h) ?_;have hv:=a3d s (some 0);obtain ⟨p1,b1,s1,e1⟩:=a9e (by omega) (St.start s)
  have fin:∀ (v:List Mark) (l:List Sib) (q:Int) (b:Bool) (o:Option Int),St s o q b→Ev (fun _=>(Y92.f s q (b || !cS v l)).bind fun t=>if t.1=true then some (v,l,(0:Int),(0:Int),(0:Int)) else some ([],[],0,0,3))
    (if o=some (s.size:Int)∧cS v l=true then (v,l,0,0,0) else ([],[],0,0,3)):=by
   intro v l q b o hs;obtain ⟨_,_,h3⟩:=hs;simp only [Y92.f,Y71.f,Option.bind_some]
   cases b with
   | true =>
    simp only [if_true] at h3;subst h3;rw [if_neg (show ¬ ((none:Option Int)=some (s.size:Int)∧cS v l=true) by simp)];simp only [Bool.true_or,if_true,Option.bind_some];exact bG (by simp) (Ev.now _)
   | false =>
    simp only [Bool.false_eq_true,if_false] at h3;subst h3
    cases hk:cS v l with
    | false =>
     rw [if_neg (show ¬ (some q=some (s.size:Int)∧false=true) by simp)];simp only [Bool.false_or,Bool.not_false,if_true,Option.bind_some];exact bG (by simp) (Ev.now _)
    | true =>
     simp only [Bool.false_or,Bool.not_true,Bool.false_eq_true,if_false,Option.bind_some,Option.some.injEq,and_true];by_cases hp:q=(s.size:Int)
     ·rw [if_pos hp];exact aX (by simpa using hp) (Ev.now _)
     ·rw [if_neg hp];exact bG (by simpa using hp) (Ev.now _)
  have st1:St s (if bX (bV s (some 0)).2=true then (bV s (some 0)).1 else none) p1 (b1 || !bX (bV s (some 0)).2):=by
   cases hk:bX (bV s (some 0)).2 with
   | true=>rw [if_pos rfl];simpa using s1
   | false=>rw [if_neg (by simp)];exact ⟨s1.1,s1.2.1,by simp⟩
  obtain ⟨p2,b2,s2,e2⟩:=a4A (by omega) st1 8;have hm:=a1Q s (if bX (bV s (some 0)).2=true then (bV s (some 0)).1 else none) 8 (by omega);obtain ⟨p3,b3,s3,e3⟩:=a9G (by omega) (bV s (some 0)).2 hv (cF s (if bX (bV s (some 0)).2=true then (bV s (some 0)).1 else none) 8).2.toNat _ p2 b2 [] (by omega) (by simp;omega) s2;rw [show (((cF s (if bX (bV s (some 0)).2=true then (bV s (some 0)).1 else none) 8).2.toNat:Nat):Int)=(cF s (if bX (bV s (some 0)).2=true then (bV s (some 0)).1 else none) 8).2 from by omega,List.nil_append] at e3;have e4:=fin (bV s (some 0)).2 (ek s (cF s (if bX (bV s (some 0)).2=true then (bV s (some 0)).1 else none) 8).2.toNat (cF s (if bX (bV s (some 0)).2=true then (bV s (some 0)).1 else none) 8).1).2 p3 b3 _ s3
  have key:(if (ek s (cF s (if bX (bV s (some 0)).2=true then (bV s (some 0)).1 else none) 8).2.toNat (cF s (if bX (bV s (some 0)).2=true then (bV s (some 0)).1 else none) 8).1).1=some (s.size:Int)∧cS (bV s (some 0)).2 (ek s (cF s (if bX (bV s (some 0)).2=true then (bV s (some 0)).1 else none) 8).2.toNat (cF s (if bX (bV s (some 0)).2=true then (bV s (some 0)).1 else none) 8).1).2=true then ((bV s (some 0)).2,(ek s (cF s (if bX (bV s (some 0)).2=true then (bV s (some 0)).1 else none) 8).2.toNat (cF s (if bX (bV s (some 0)).2=true then (bV s (some 0)).1 else none) 8).1).2,(0:Int),(0:Int),(0:Int)) else ([],[],0,0,3))=((cj s).1,(cj s).2.1,0,0,(cj s).2.2):=by
   unfold cj;rw [if_neg h]
   cases hk:bX (bV s (some 0)).2 with
   | false =>
    rw [a7S hk,a7S hk,if_neg (by simp),if_neg (by simp)]
   | true =>
    rw [if_pos rfl];generalize cF s (bV s (some 0)).1 8=cn;generalize (bV s (some 0)).2=v;by_cases hg:a0W (dB s cn.2.toNat cn.1).2=true
    ·rw [a6y s _ _ hg];simp only [hg,and_true];split <;> rfl
    ·rw [if_neg (fun e=>hg (a6n s _ _ _ e.1)),if_neg (fun e=>hg e.2.2)]
  unfold cj at key;rw [if_neg h] at key;rw [← key];have eS:Ev (fun k=>Y19.f k s 0 false) _:=Ev.bind e1 (Ev.bind e2 e3);exact Ev.bind eS e4
theorem b1U (n:Int):a3v (zig n)=n:=by
 unfold zig a3v;split <;> split <;> omega
theorem a8y:∀ (f:Nat) (v u p w:Int) (r:List Int),f≤9→0≤v→v<2*128 ^ f→(f=9∨1≤v)→dZ (f+1) (cL f v ++ r) u p w=(a3v (u+v*w),p+((cL f v).length:Int),0)
 | 0,v,u,p,w,r,hf,h0,h1,h2=>by
  (have h1':v<2:=by simpa using h1);(have e:v % 256=v:=by omega);(have e2:v % 128=v:=by omega);simp only [cL,e,List.cons_append,List.nil_append,dZ];rw [if_neg (by omega),if_pos (by omega),if_neg (by omega),e2];rfl
 | f+1,v,u,p,w,r,hf,h0,h1,h2=>by
  have hp:(128:Int) ^ (f+1)=128 ^ f*128:=Int.pow_succ _ _;by_cases h:v≥128
  ·have ih:=a8y f (v / 128) (u+v % 128*w) (p+1) (w*128) r (by omega) (by omega) (by omega) (by omega);simp only [cL,if_pos h,List.cons_append,List.length_cons];simp only [dZ];rw [if_neg (by omega),if_neg (by omega),show (v % 128+128) % 128=v % 128 from by omega,ih]
   have e:u+v % 128*w+v / 128*(w*128)=u+v*w:=by
    (have:v*w=(v % 128+128*(v / 128))*w:=by rw [Int.emod_add_mul_ediv]);rw [this,Int.add_mul,Int.add_assoc];congr 2;rw [Int.mul_comm 128 (v / 128),Int.mul_assoc,Int.mul_comm 128 w]
   rw [e];refine Prod.ext rfl (Prod.ext ?_ rfl);simp;omega
  ·(have e:v % 256=v:=by omega);(have e2:v % 128=v:=by omega);simp only [cL,if_neg h,e,List.cons_append,List.nil_append];simp only [dZ];rw [if_neg (by omega),if_pos (by omega),if_neg (by omega),e2];rfl
theorem b4L {n:Int} (h0 : -9223372036854775808≤n) (h1:n≤9223372036854775807):0≤zig n∧zig n<2*128 ^ 9:=by
 have:=a5Z h0 h1;omega
theorem a7R {s:ByteArray} {x n:Int} {r:List Int} (hs:s.size≤8000) (hx:0≤x) (h0 : -9223372036854775808≤n) (h1:n≤9223372036854775807) (h:(bytesOf s).drop x.toNat=bytesOf (bI n) ++ r) :
  cC s x=(n,x+((bI n).size:Int),0):=by
 have hz:=b4L h0 h1;(have hl:(bI n).size=(cL 9 (zig n)).length:=by rw [← bg,a0G]);unfold cC;rw [if_neg (by omega),if_neg (by omega),h,a0G,a8y 9 (zig n) 0 x 1 r (by omega) hz.1 hz.2 (Or.inl rfl),hl];rw [show 0+zig n*1=zig n from by omega,b1U]
theorem b0K (n:Int):1≤(bI n).size:=by
 rw [← bg,a0G];simp only [cL];split <;> simp
theorem b0n {s:ByteArray} {x:Int} {u:ByteArray} {r:List Int} (hs:s.size≤8000) (hx:0≤x) (hu:u.size≤8000) (h:(bytesOf s).drop x.toNat=bytesOf (dL u) ++ r) :
  dh s x=(u,x+((dL u).size:Int),0):=by
 (have e:dL u=bI (u.size:Int) ++ u:=by unfold dL;rw [if_neg (by omega)]);rw [e,a0n,List.append_assoc] at h;have hg:=a7R hs hx (by omega) (by omega) h;have hl:=congrArg List.length h;rw [List.length_drop,bg,List.length_append,List.length_append,bg,bg] at hl;have hp:=b0K (u.size:Int);unfold dh;rw [hg];simp only [if_true];rw [if_neg (by omega),if_neg (by omega),e,ByteArray.size_append];refine Prod.ext ?_ (Prod.ext ?_ rfl)
 ·apply a3V;simp only [bytesOf];rw [show (s.extract (x+((bI (u.size:Int)).size:Int)).toNat (x+((bI (u.size:Int)).size:Int)+(u.size:Int)).toNat).data=s.data.extract (x+((bI (u.size:Int)).size:Int)).toNat (x+((bI (u.size:Int)).size:Int)+(u.size:Int)).toNat from by simp];rw [Array.toList_extract,List.extract_eq_take_drop,List.map_take,List.map_drop]
  have h2:(bytesOf s).drop (x+((bI (u.size:Int)).size:Int)).toNat=bytesOf u ++ r:=by
   rw [show (x+((bI (u.size:Int)).size:Int)).toNat=x.toNat+(bytesOf (bI (u.size:Int))).length from by rw [bg];omega,← List.drop_drop,h,List.drop_left]
  have h3:List.drop (x+((bI (u.size:Int)).size:Int)).toNat (List.map (fun b=>(b.toNat:Int)) s.data.toList)=bytesOf u ++ r:=h2;rw [h3,show (x+((bI (u.size:Int)).size:Int)+(u.size:Int)).toNat-(x+((bI (u.size:Int)).size:Int)).toNat=(bytesOf u).length from by rw [bg];omega,List.take_left];rfl
 ·simp;omega
theorem a2l {s:ByteArray} {x n:Int} {r:List Int} (hs:s.size≤8000) (hx:0≤x) (h0 : -9223372036854775808≤n) (h1:n≤9223372036854775807) (h:(bytesOf s).drop x.toNat=bytesOf (bI n) ++ r) :
  bD s (some x)=(some (x+((bI n).size:Int)),n)∧(bytesOf s).drop (x+((bI n).size:Int)).toNat=r:=by
 have e:=a7R hs hx h0 h1 h;refine ⟨by simp only [bD,e];rfl,?_⟩;rw [show (x+((bI n).size:Int)).toNat=x.toNat+(bI n).size by omega,← List.drop_drop,h,← bg];exact List.drop_left
theorem a7g {s:ByteArray} (hs:s.size≤8000):∀ (l:List Mark) (x:Int) (r:List Int),0≤x→Small l→(bytesOf s).drop x.toNat=a0b l ++ r →
  dI s l.length (some x)=(some (x+((a0b l).length:Int)),l)
 | [],x,r,hx,_,h=>by simp [dI,a0b]
 | m :: l,x,r,hx,hl,h=>by
  have hm:=hl m (by simp)
  have e:a0b (m :: l)=bytesOf (bI m.f0) ++ (bytesOf (bI m.f1) ++ a0b l):=by
   show bytesOf (a0N m) ++ a0b l=_;unfold a0N;rw [a0n,List.append_assoc]
  rw [e,List.append_assoc,List.append_assoc] at h;obtain ⟨e1,d1⟩:=a2l hs hx (by omega) (by omega) h;obtain ⟨e2,d2⟩:=a2l hs (by omega) (by omega) (by omega) d1;have ih:=a7g hs l _ r (by omega) (fun y hy=>hl y (List.mem_cons_of_mem _ hy)) d2;simp only [List.length_cons,dI,e1,e2,ih];rw [e,List.length_append,List.length_append,bg,bg];congr 2;omega
def eqM:List Mark→List Mark→Bool
 | [],[]=>true
 | x :: a,y :: b=>(x.f0 == y.f0 && x.f1 == y.f1) && eqM a b
 | _,_=>false
theorem a9v:∀ a b:List Mark,eqM a b=true ↔ a=b
 | [],[]=>by simp [eqM]
 | ⟨x0,x1⟩ :: a,⟨y0,y1⟩ :: b=>by
  simp only [eqM,Bool.and_eq_true,beq_iff_eq,a9v a b,List.cons.injEq,S30.mk.injEq]
 | [],_ :: _=>by simp [eqM]
 | _ :: _,[]=>by simp [eqM]
theorem b0Z:∀ a b:List Mark,a.length≠b.length→eqM a b=false:=fun a b h=>by
 cases e:eqM a b with
 | false=>rfl
 | true=>exact absurd (by rw [(a9v a b).1 e]) h
theorem b4N (x y:Mark):(!(x.f0 == y.f0) || (!(x.f1 == y.f1)))=!(x.f0 == y.f0 && x.f1 == y.f1):=by
 cases x.f0 == y.f0 <;> cases x.f1 == y.f1 <;> rfl
theorem a8v (l m:List Mark) (hl:l.length≤1048576) (hm:m.length=l.length):∀ (s t:List Mark) (i:Nat),l.drop i=s→m.drop i=t→i≤l.length →
  Ev (fun k=>Y50.l0 k l m (i:Int)) (eqM s t)
 | [],t,i,h,h',hi=>by
  have e:=dy h hi;(have:t=[]:=by rw [← h',List.drop_eq_nil_of_le (by omega)]);subst this;refine Ev.step (f:=fun _=>some true) (fun k=>?_) (Ev.now _);simp only [Y50.l0];rw [if_neg (by omega)]
 | x :: s,[],i,h,h',hi=>by
  have a:=(cX h z30).1;have b:=a9x h';omega
 | x :: s,y :: t,i,h,h',hi=>by
  obtain ⟨h1,h2,h3⟩:=cX h z30;obtain ⟨g1,g2,g3⟩:=cX h' z30;(have hr:aG l (i:Int)=x:=by simpa [aG] using h2);(have gr:aG m (i:Int)=y:=by simpa [aG] using g2);have ih:=a8v l m hl hm s t (i+1) h3 g3 (by omega);refine Ev.step (fun k=>by simp only [Y50.l0,hr,gr,b4N];rw [if_pos (by omega),if_pos (by omega),if_pos (by omega)]) ?_;unfold eqM
  cases x.f0 == y.f0 && x.f1 == y.f1 with
  | false=>exact aX (by rfl) (Ev.now _)
  | true =>
   refine bG (by simp) ?_;rw [w64 (by omega) (by omega)];exact ih
theorem b2c (l m:List Mark) (hl:l.length≤1048576):Ev (fun k=>Y50.f k l m) (eqM l m):=by
 unfold Y50.f;refine ez (fun h=>?_) (fun h=>?_)
 ·exact a8v l m hl (by omega) l m 0 rfl rfl (by omega)
 ·rw [b0Z l m (by omega)];exact Ev.now _
theorem a9U (l:List Mark) (hl:l.length≤1048576):Ev (fun k=>Y50.f k l l) true:=by
 have:=b2c l l hl;rwa [(a9v l l).2 rfl] at this
theorem b1K {s:ByteArray} {x:Int} {u:ByteArray} {r:List Int} (hs:s.size≤8000) (hx:0≤x) (hu:u.size≤8000) (h:(bytesOf s).drop x.toNat=bytesOf (dL u) ++ r) :
  dV s (some x)=(some (x+((dL u).size:Int)),u)∧(bytesOf s).drop (x+((dL u).size:Int)).toNat=r:=by
 have e:=b0n hs hx hu h;refine ⟨by simp only [dV,e];rfl,?_⟩;rw [show (x+((dL u).size:Int)).toNat=x.toNat+(dL u).size by omega,← List.drop_drop,h,← bg];exact List.drop_left
theorem a8E {s:ByteArray} (hs:s.size≤8000):∀ (l:List Sib) (x:Int) (r:List Int),0≤x→a1D l→(bytesOf s).drop x.toNat=a0d l ++ r →
  dB s l.length (some x)=(some (x+((a0d l).length:Int)),l.map fun y=>(y,if y.f1=true then 1 else 0))
 | [],x,r,hx,_,h=>by simp [dB,a0d]
 | y :: l,x,r,hx,hl,h=>by
  have hm:=hl y (by simp)
  have e:a0d (y :: l)=bytesOf (bI y.f0.f0) ++ (bytesOf (bI y.f0.f1) ++ (bytesOf (bI (if y.f1=true then 1 else 0)) ++ (bytesOf (dL y.f2) ++ a0d l))):=by
   show bytesOf (a0m y) ++ a0d l=_;rw [a3H];simp only [List.append_assoc]
  rw [e,List.append_assoc,List.append_assoc,List.append_assoc,List.append_assoc] at h;(have hf:(0:Int)≤(if y.f1=true then 1 else 0)∧(if y.f1=true then (1:Int) else 0)≤1:=by split <;> omega);obtain ⟨e1,d1⟩:=a2l hs hx (by omega) (by omega) h;obtain ⟨e2,d2⟩:=a2l hs (by omega) (by omega) (by omega) d1;obtain ⟨e3,d3⟩:=a2l hs (by omega) (by omega) (by omega) d2;obtain ⟨e4,d4⟩:=b1K hs (by omega) (by omega) d3;have ih:=a8E hs l _ r (by omega) (fun z hz=>hl z (List.mem_cons_of_mem _ hz)) d4;simp only [List.length_cons,dB,e1,e2,e3,e4,ih];rw [e,List.length_append,List.length_append,List.length_append,List.length_append,bg,bg,bg,bg];(have hg:((if y.f1=true then (1:Int) else 0) == 1)=y.f1:=by cases y.f1 <;> rfl);rw [hg];refine Prod.ext ?_ rfl;simp only [Option.some.injEq];omega
theorem a4K {v:List Mark} {l:List Sib} (h:cS v l=true):(setBytes v l).size≤8000:=by
 have h5:=a2F ((cK v l).1 h).1;have h8:=((cK v l).1 h).2.1;have hs:=a2y h
 have key:∀ (l:List Sib),a1D l→(a0d l).length≤56*l.length:=by
  intro l
  induction l with
  | nil=>intro _;simp [a0d]
  | cons y l ih =>
   intro hl;have q:=a2I y;have hy:=(hl y (by simp)).2;have:=ih (fun z hz=>hl z (List.mem_cons_of_mem _ hz));show (bytesOf (a0m y) ++ a0d l).length≤_;rw [List.length_append,bg,List.length_cons];omega
 have q0:=a2s v;have q1:=bW (l.length:Int);have q2:=key l hs;rw [← bg,a0E,List.length_append,List.length_append,bg,bg];omega
theorem b2H {v:List Mark} {l:List Sib} (h:cS v l=true):cj (setBytes v l)=(v,l,0):=by
 have hz:=a4K h;have hk:=((cK v l).1 h).1;have h5:=a2F hk;have h8:=((cK v l).1 h).2.1
 have hd:(bytesOf (setBytes v l)).drop (0:Int).toNat=bytesOf (bI (v.length:Int)) ++ (a0b v ++ (bytesOf (bI (l.length:Int)) ++ (a0d l ++ []))):=by
  rw [List.append_nil];show bytesOf (setBytes v l)=_;rw [a0E,a1o];simp only [List.append_assoc]
 obtain ⟨e1,d1⟩:=a2l hz (Int.le_refl 0) (by omega) (by omega) hd
 have hm:cF (setBytes v l) (some 0) 5=bD (setBytes v l) (some 0):=by
  unfold cF;rw [e1,if_pos];simp only [cM,Bool.and_eq_true,decide_eq_true_eq];omega
 have e2:=a7g hz v _ _ (by omega) (a0I hk) d1
 have hr:bV (setBytes v l) (some 0)=(some (0+((bI (v.length:Int)).size:Int)+((a0b v).length:Int)),v):=by
  unfold bV;rw [hm,e1];simp only [Int.toNat_natCast];exact e2
 have d2:(bytesOf (setBytes v l)).drop (0+((bI (v.length:Int)).size:Int)+((a0b v).length:Int)).toNat=bytesOf (bI (l.length:Int)) ++ (a0d l ++ []):=by
  rw [show (0+((bI (v.length:Int)).size:Int)+((a0b v).length:Int)).toNat=(0+((bI (v.length:Int)).size:Int)).toNat+(a0b v).length by omega,← List.drop_drop,d1];exact List.drop_left
 obtain ⟨e3,d3⟩:=a2l hz (by omega) (by omega) (by omega) d2
 have hm2:cF (setBytes v l) (some (0+((bI (v.length:Int)).size:Int)+((a0b v).length:Int))) 8=bD (setBytes v l) (some (0+((bI (v.length:Int)).size:Int)+((a0b v).length:Int))):=by
  unfold cF;rw [e3,if_pos];simp only [cM,Bool.and_eq_true,decide_eq_true_eq];omega
 have e4:=a8E hz l _ [] (by omega) (a2y h) d3;have hmap:(l.map fun y=>(y,if y.f1=true then (1:Int) else 0)).map (·.1)=l:=by rw [List.map_map];exact List.map_id' l
 have hgo:a0W (l.map fun y=>(y,if y.f1=true then (1:Int) else 0))=true:=by
  unfold a0W;rw [List.all_map,List.all_eq_true];intro y _;simp only [Function.comp,cM,Bool.and_eq_true,decide_eq_true_eq];split <;> omega
 have hsz:0+((bI (v.length:Int)).size:Int)+((a0b v).length:Int)+((bI (l.length:Int)).size:Int)+((a0d l).length:Int)=((setBytes v l).size:Int):=by
  rw [← bg (setBytes v l),a0E,a1o];simp only [List.length_append,bg];omega
 unfold cj;rw [if_neg (by omega),hr];simp only;rw [hm2,e3];simp only [Int.toNat_natCast];rw [e4];simp only;rw [hmap,hsz,if_pos ⟨rfl,h,hgo⟩]
theorem a7o {s:ByteArray} (h:(cj s).2.2=0):a0a (cj s).1 (cj s).2.1=s:=by
 unfold cj at h ⊢;split at h
 ·simp at h
 ·rename_i h0;rw [if_neg h0];split at h
  ·rename_i hg;rw [if_pos hg];obtain ⟨g1,g2,g3⟩:=hg;simp only;have hsn:=@a7C s 0;generalize bV s (some 0)=av at g1 g2 g3 hsn ⊢;obtain ⟨a,v⟩:=av;simp only at g1 g2 g3 hsn ⊢;(have hmn:=fun p q n=>@a4Q s p q n 8 (by omega));(have hmN:a=none→(cF s a 8).1=none:=fun e=>by subst e;unfold cF;split <;> rfl);generalize hb:cF s a 8=cn at g1 g2 g3 hmN ⊢;obtain ⟨c,n⟩:=cn;simp only at g1 g2 g3 hmN ⊢;have hsb:=@a4Y s n.toNat;(have hsN:c=none→(dB s n.toNat c).1=none:=fun e=>by subst e;exact a1A s _);generalize hc:dB s n.toNat c=dl at g1 g2 g3 hsN ⊢;obtain ⟨d,l⟩:=dl;simp only at g1 g2 g3 hsN ⊢;subst g1
   cases c with
   | none=>cases hsN rfl
   | some c =>
    cases a with
    | none=>cases hmN rfl
    | some a =>
     have p1:=hsn rfl;have p2:=hmn a c n hb;have p3:=hsb c (s.size:Int) (by have:=p2.1.1;omega) p2.1.2.2.1 (by rw [hc]);rw [hc] at p3;simp only at p3;(have hlen:n=(l.length:Int):=by have:=p3.2.1;omega);subst hlen;have hsp:=(p1.1.trans p2.1).trans p3.1;have e2:=a0E v (l.map (·.1));rw [List.length_map] at e2;have e:=hsp.whole.1 rfl;rw [a5k l p3.2.2 g3] at e;unfold a0a;rw [if_pos g2];exact a3V (e2.trans e.symm)
  ·simp at h
theorem a9E (v:List Mark):∀ (s:List Sib) (o:Option Sib),a1W s→(∀ x ∈ s,a1Z v x=true)→(∀ y,o=some y→∀ x ∈ s,ltS y x=true)→cg v o s=true:=by
 intro s
 induction s with
 | nil=>intro o _ _ _;cases o <;> rfl
 | cons x s ih =>
  intro o hs hk ho;obtain ⟨h1,h2⟩:=List.pairwise_cons.1 hs;have ht:=ih (some x) h2 (fun y hy=>hk y (List.mem_cons_of_mem _ hy)) (fun y hy z hz=>by cases hy;exact h1 z hz)
  cases o with
  | none=>simp only [cg];rw [hk x (List.mem_cons_self ..),ht];rfl
  | some y =>
   have hy:a1a y.f0.f0 y.f0.f1 x.f0.f0 x.f0.f1=true:=ho y rfl x (List.mem_cons_self ..);simp only [cg];rw [hk x (List.mem_cons_self ..),ht,hy];rfl
section
variable {v u:List Mark} {l:List Sib} {nd:Int} {t:ByteArray} {g:Bool} (hp:eG v l u nd t g=true) (hN:¬ dR v u nd≥1000000) (hL:¬ (di l u).length+1>8)
include hp hN
theorem a2e:cS v l=true∧bX u=true∧isNode nd=true∧a1C t g=true∧eM nd (dR v u nd+1)=true∧bz v nd≤dR v u nd∧0≤dR v u nd:=by
 simp only [eG,Bool.and_eq_true] at hp;obtain ⟨h1,h2,h3,h4⟩:=hp;have h5:=a3f ((cK v l).1 h1).1 h2 h3;refine ⟨h1,h2,h3,h4,?_,h5.2.2,h5.1⟩;simp only [eM,h3,cM,Bool.true_and,Bool.and_eq_true,decide_eq_true_eq];omega
theorem a8G:bX [(⟨nd,dR v u nd+1⟩:Mark)]=true:=by
 obtain ⟨_,_,h3,_,h5,_,_⟩:=a2e hp hN;have h6:=(a7m nd).1 h3;simp only [bX,dQ,h5,Bool.and_true,Bool.true_and,decide_eq_true_eq];omega
theorem a6Z:bX (bx (bx v u) [(⟨nd,dR v u nd+1⟩:Mark)])=true:=by
 obtain ⟨h1,h2,_⟩:=a2e hp hN;exact a6U (a6U ((cK v l).1 h1).1 h2) (a8G hp hN)
theorem b0Y (m:Int):bz (bx (bx v u) [(⟨nd,dR v u nd+1⟩:Mark)]) m=mx (mx (bz v m) (bz u m)) (if nd=m then dR v u nd+1 else 0):=by
 obtain ⟨h1,h2,_⟩:=a2e hp hN;rw [b1u (a6U ((cK v l).1 h1).1 h2) (a8G hp hN),b1u ((cK v l).1 h1).1 h2];rfl
include hL
theorem a5S:cS (bx (bx v u) [(⟨nd,dR v u nd+1⟩:Mark)]) (dD (di l u) (ff v u nd t g))=true:=by
 obtain ⟨h1,h2,h3,h4,h5,h6,h7⟩:=a2e hp hN;refine (cK _ _).2 ⟨a6Z hp hN,by rw [a0D];omega,?_⟩;have hs:a1W (di l u):=(a3q h1).filter _;refine a9E _ _ none (a3W _ _ hs (a6s h1 h2 h3 t g)) (fun x hx=>?_) (fun y hy=>by cases hy);rcases a2J _ _ _ hx with rfl | hx
 ·have e:=b0Y hp hN nd;rw [if_pos rfl] at e;have m1:=a5M (mx (bz v nd) (bz u nd)) (dR v u nd+1);simp only [a1Z,ff,h5,h4,Bool.true_and,Bool.and_true];unfold dP;rw [e,decide_eq_true_eq];exact m1.2.1
 ·have hx:=(List.mem_filter.1 hx).1;have hk:=b2P h1 x hx;simp only [a1Z,Bool.and_eq_true] at hk ⊢;refine ⟨hk.1,?_,hk.2.2⟩;have e:=b0Y hp hN x.f0.f0;have m1:=a5M (mx (bz v x.f0.f0) (bz u x.f0.f0)) (if nd=x.f0.f0 then dR v u nd+1 else 0);have m2:=a5M (bz v x.f0.f0) (bz u x.f0.f0);have hv:=of_decide_eq_true (show decide (x.f0.f1≤bz v x.f0.f0)=true from hk.2.1);unfold dP;rw [e,decide_eq_true_eq];omega
theorem b4d:a3p (bx (bx v u) [(⟨nd,dR v u nd+1⟩:Mark)]) (dD (di l u) (ff v u nd t g)) nd (dR v u nd+1)=true:=by
 unfold a3p;rw [a5S hp hN hL,Bool.true_and,decide_eq_true_eq];exact (b2F (x:=ff v u nd t g)).2 ⟨ff v u nd t g,a9Z _ _ _ (Or.inl rfl),rfl,rfl⟩
theorem b3O:∀ x ∈ l,a3p (bx (bx v u) [(⟨nd,dR v u nd+1⟩:Mark)]) (dD (di l u) (ff v u nd t g)) x.f0.f0 x.f0.f1=!cD u x.f0.f0 x.f0.f1:=by
 intro x hx;obtain ⟨h1,h2,h3,h4,h5,h6,h7⟩:=a2e hp hN;rw [a1O h2 h1 x hx];unfold a3p;rw [a5S hp hN hL,Bool.true_and]
 have hiff:eL x.f0.f0 x.f0.f1 0 (dD (di l u) (ff v u nd t g))≥0 ↔ dP u x.f0.f0 x.f0.f1=false:=by
  rw [b2F];constructor
  ·rintro ⟨z,hz,hs⟩;rcases a2J _ _ _ hz with rfl | hz
   ·exfalso;have hv:=of_decide_eq_true (show decide (x.f0.f1≤bz v x.f0.f0)=true from b3M h1 x hx);obtain ⟨s1,s2⟩:=hs;simp only [ff] at s1 s2;rw [← s1] at hv;omega
   ·obtain ⟨z1,z2⟩:=List.mem_filter.1 hz;have:=b0E l (a3q h1) z z1 x hx hs;subst this;simpa using z2
  ·intro hn;exact ⟨x,a9Z _ _ _ (Or.inr (List.mem_filter.2 ⟨hx,by simp [hn]⟩)),rfl,rfl⟩
 cases hc:dP u x.f0.f0 x.f0.f1 with
 | true=>rw [hc] at hiff;rw [Bool.not_true,decide_eq_false_iff_not,hiff];simp
 | false=>rw [hc] at hiff;rw [Bool.not_false,decide_eq_true_eq,hiff]
theorem b4b:(a3p (bx (bx v u) [(⟨nd,dR v u nd+1⟩:Mark)]) (dD (di l u) (ff v u nd t g)) nd (dR v u nd+1)=true)∧cD v nd (dR v u nd+1)=false∧cD (bx (bx v u) [(⟨nd,dR v u nd+1⟩:Mark)]) nd (dR v u nd+1)=true:=by
 obtain ⟨h1,h2,h3,h4,h5,h6,h7⟩:=a2e hp hN;refine ⟨b4d hp hN hL,?_,?_⟩
 ·unfold cD dP;rw [decide_eq_false (by omega)];simp
 ·have e:=b0Y hp hN nd;rw [if_pos rfl] at e;have m1:=a5M (mx (bz v nd) (bz u nd)) (dR v u nd+1);unfold cD dP;rw [a6Z hp hN,h5,e,decide_eq_true m1.2.1];rfl
end
def vals:List Sib→List ByteArray
 | []=>[]
 | x :: r=>if x.f1=true then vals r else x.f2 :: vals r
theorem a2v:∀ s:List Sib,(vals s).length≤s.length
 | []=>by simp [vals]
 | x :: r=>by
  have:=a2v r;simp only [vals];split <;> simp <;> omega
def values (v:List Mark) (l:List Sib):List ByteArray:=if cS v l=true then vals l else []
theorem a4y (v:List Mark) (l:List Sib):(values v l).length≤l.length:=by
 have:=a2v l;unfold values;split
 ·exact this
 ·simp
theorem a2k (v:List Mark) (l:List Sib) (hl:l.length≤1048576):∀ (s:List Sib) (i:Nat),l.drop i=s→i≤l.length→∀ acc:List ByteArray,acc.length≤i→Ev (fun k=>Y44.l0 k acc (i:Int) v l) (acc ++ vals s)
 | [],i,h,hi,acc,ha=>by
  have:=dy h hi;refine Ev.step (f:=fun _=>some acc) (fun k=>?_) (by simp only [vals,List.append_nil];exact Ev.now _);simp only [Y44.l0];rw [if_neg (by omega)]
 | x :: s,i,h,hi,acc,ha=>by
  obtain ⟨h1,h2,h3⟩:=cX h z48;(have hr:aa l (i:Int)=x:=by simpa [aa] using h2);refine Ev.step (f:=fun k=>if x.f1=true then Y44.l0 k acc ((i+1:Nat):Int) v l else Y44.l0 k (acc ++ [x.f2]) ((i+1:Nat):Int) v l) (fun k=>?_) ?_
  ·simp only [Y44.l0,hr];rw [if_pos (by omega),if_pos (by omega),if_pos (show acc.length<8796093022208 by omega),w64 (by omega) (by omega)];rfl
  ·simp only [vals];refine ez (fun h=>?_) (fun h=>?_)
   ·rw [if_pos h];exact a2k v l hl s (i+1) h3 (by omega) acc (by omega)
   ·rw [if_neg h];have:=a2k v l hl s (i+1) h3 (by omega) (acc ++ [x.f2]) (by simp;omega);simpa using this
theorem a7d (v:List Mark) (l:List Sib) (hv:v.length≤4611686018427387904) (hl:l.length≤1048576):Ev (fun k=>Y44.f k v l) (values v l):=by
 unfold Y44.f values;refine bp rfl (Ev.bind (a0c v l hv hl) (ez (fun h=>?_) (fun h=>?_)))
 ·rw [if_pos h];simpa using a2k v l hl l 0 rfl (by omega) [] (by simp)
 ·rw [if_neg h];exact Ev.now _
theorem a2p (l:List Sib) (hl:l.length≤1048576):∀ (s:List Sib) (i:Nat),l.drop i=s→i≤l.length→∀ acc:List ByteArray,acc.length≤i→Ev (fun k=>Y47.l0 k acc l (l.length:Int) (i:Int)) (acc ++ vals s)
 | [],i,h,hi,acc,ha=>by
  have:=dy h hi;refine Ev.step (f:=fun _=>some acc) (fun k=>?_) (by simp only [vals,List.append_nil];exact Ev.now _);simp only [Y47.l0];rw [if_neg (by omega)]
 | x :: s,i,h,hi,acc,ha=>by
  obtain ⟨h1,h2,h3⟩:=cX h z48;(have hr:aa l (i:Int)=x:=by simpa [aa] using h2);refine Ev.step (f:=fun k=>if x.f1=true then Y47.l0 k acc l (l.length:Int) ((i+1:Nat):Int) else Y47.l0 k (acc ++ [x.f2]) l (l.length:Int) ((i+1:Nat):Int)) (fun k=>?_) ?_
  ·simp only [Y47.l0,hr];rw [if_pos (by omega),if_pos (by omega),if_pos (by omega),if_pos (show acc.length<8796093022208 by omega),w64 (by omega) (by omega)];rfl
  ·simp only [vals];refine ez (fun h=>?_) (fun h=>?_)
   ·rw [if_pos h];exact a2p l hl s (i+1) h3 (by omega) acc (by omega)
   ·rw [if_neg h];have:=a2p l hl s (i+1) h3 (by omega) (acc ++ [x.f2]) (by simp;omega);simpa using this
theorem a7h (v:List Mark) (l:List Sib) (hv:v.length≤4611686018427387904) (hl:l.length≤1048576):Ev (fun k=>Y47.f k v l) (values v l):=by
 unfold Y47.f values;refine Ev.bind (a0v v l hv hl) (ez (fun h=>?_) (fun h=>?_))
 ·rw [if_pos h];simpa using a2p l hl l 0 rfl (by omega) [] (by simp)
 ·rw [if_neg h];exact Ev.now _
end Go.Proofs.YtdlmdikfgclhoaaGreat.Q
namespace Go.Proofs.YtdlmdikfgclhoaaGreat.Pure
open Go.RowKit Go.Proofs.YtdlmdikfgclhoaaGreat.P Go.Proofs.YtdlmdikfgclhoaaGreat.Q Go.Proofs.YtdlmdikfgclhoaaGreatW.PrintWords Go.Proofs.YtdlmdikfgclhoaaGreatW.PrintMore
theorem rdS {l:List S48} {i:Nat} (h:i<l.length):aa l (i:Int)=l[i]:=by
 simp [aa,List.getD_eq_getElem?_getD,h]
theorem b3f (v:List S30) (s:List S48) (hs:s.length≤1048576):∀ (d i:Nat),i+d=s.length→Ev (fun k=>Y57.l0 k (i:Int) v s v s) true:=by
 intro d
 induction d with
 | zero =>
  intro i h;refine Ev.step (f:=fun _=>some true) (fun k=>?_) (Ev.now _);simp only [Y57.l0];rw [if_neg (by omega)]
 | succ d ih =>
  intro i h;refine Ev.step (fun k=>?_) (ih (i+1) (by omega));simp only [Y57.l0];rw [if_pos (by omega),if_pos (by omega),if_pos (by omega),if_neg (by simp),w64 (by omega) (by omega)];rfl
theorem a7O (v:List S30) (s:List S48) (hv:v.length≤1048576) (hs:s.length≤1048576):Ev (fun k=>Y57.f k v s v s) true :=
 Ev.bind (a9U v hv) (aX rfl (aX rfl (b3f v s hs s.length 0 (by omega))))
theorem a6g (v:List S30) (s:List S48) (p q c:Int) (hv:v.length≤1048576) (hs:s.length≤1048576) (h:c=0→cS v s=true):Ev (fun k=>Y86.f k v s p q c v s p q c) true:=by
 refine aX rfl (aX (by simp) (Ev.bind (a7O v s hv hs) (aX rfl ?_)));refine ez (fun hc=>?_) (fun _=>Ev.now _);have:=a0c v s (by omega) hs;rw [h hc] at this;exact Ev.bind this (Ev.now _)
theorem b0D (l:List ByteArray) (hl:l.length≤1048576):∀ (d i:Nat),i+d=l.length→Ev (fun k=>Y56.l0 k l l (i:Int)) true:=by
 intro d
 induction d with
 | zero =>
  intro i h;refine Ev.step (f:=fun _=>some true) (fun k=>?_) (Ev.now _);simp only [Y56.l0];rw [if_neg (by omega)]
 | succ d ih =>
  intro i h;refine Ev.step (fun k=>?_) (ih (i+1) (by omega));simp only [Y56.l0];rw [if_pos (by omega),if_pos (by omega),if_pos (by omega),if_pos trivial,w64 (by omega) (by omega)];rfl
theorem a9g (l:List ByteArray) (hl:l.length≤1048576):Ev (fun k=>Y56.f k l l) true :=
 aX rfl (b0D l hl l.length 0 (by omega))
theorem a2v:∀ l:List S48,(vals l).length≤l.length:=by
 intro l
 induction l with
 | nil=>exact Nat.le_refl _
 | cons x l ih =>
  unfold vals;split <;> simp <;> omega
theorem a4y (v:List S30) (l:List S48):(values v l).length≤l.length:=by
 unfold values;split
 ·exact a2v l
 ·exact Nat.zero_le _
theorem b3a {v u:List S30} {l:List S48} {nd:Int} {t:ByteArray} {g:Bool} (h:(cE v l u nd t g).2.2.2.2=0):eG v l u nd t g=true∧¬ dR v u nd≥1000000∧¬ (di l u).length+1>8 ∧
  cE v l u nd t g=(bx (bx v u) [⟨nd,dR v u nd+1⟩],dD (di l u) (ff v u nd t g),nd,dR v u nd+1,0):=by
 unfold cE at h ⊢;split at h
 ·simp at h
 ·rename_i h0;split at h
  ·rename_i h1;split at h
   ·simp at h
   ·rename_i h2;split at h
    ·simp at h
    ·rename_i h3;rw [if_neg h0,if_pos h1,if_neg h2,if_neg h3];exact ⟨h1,h2,h3,rfl⟩
  ·simp at h
theorem b4h {v u:List S30} {l:List S48} {nd:Int} {t:ByteArray} {g:Bool} (h:(cE v l u nd t g).2.2.2.2=0):cS (cE v l u nd t g).1 (cE v l u nd t g).2.1=true:=by
 obtain ⟨h1,h2,h3,e⟩:=b3a h;rw [e];exact a5S h1 h2 h3
theorem b3d {s:ByteArray} (h:(cj s).2.2=0):cS (cj s).1 (cj s).2.1=true:=by
 unfold cj at h ⊢;split at h
 ·simp at h
 ·rename_i h0;rw [if_neg h0];split at h
  ·rename_i h1;rw [if_pos h1];exact h1.2.1
  ·simp at h
theorem b0M {v u:List S30} {l:List S48} {nd:Int} {t:ByteArray} {g:Bool} (hp:eG v l u nd t g=true) (hN:¬ dR v u nd≥1000000) (hL:¬ (di l u).length+1>8) (hv:v.length≤1048576) (hl:l.length≤1048576) (hu:u.length≤1048576):∀ (d i:Nat),i+d=l.length →
  Ev (fun k=>Y14.l0 k u (i:Int) v l (bx (bx v u) [⟨nd,dR v u nd+1⟩]) (dD (di l u) (ff v u nd t g)) nd (dR v u nd+1) 0) true:=by
 have hj:=a0y (bx v u) [⟨nd,dR v u nd+1⟩];(have hi:(dD (di l u) (ff v u nd t g)).length≤8:=by rw [a0D];omega);intro d
 induction d with
 | zero =>
  intro i h;obtain ⟨e1,e2,e3⟩:=b4b hp hN hL;have s1:=a2o (bx (bx v u) [⟨nd,dR v u nd+1⟩]) (dD (di l u) (ff v u nd t g)) nd (dR v u nd+1) (by omega) (by omega);have s2:=a0x v nd (dR v u nd+1) (by omega);have s3:=a6D (bx (bx v u) [⟨nd,dR v u nd+1⟩]) nd (dR v u nd+1) (by omega);rw [e1] at s1;rw [e2] at s2;rw [e3] at s3;refine Ev.step (fun k=>by simp only [Y14.l0];rw [if_neg (by omega)]) (Ev.bind s1 (aX rfl (Ev.bind s2 (bG (show ¬ (false=true) by decide) (Ev.bind s3 (Ev.now _))))))
 | succ d ih =>
  intro i h;(have hi':i<l.length:=by omega);have hm:=b3O hp hN hL l[i] (List.getElem_mem hi');have s1:=a2o (bx (bx v u) [⟨nd,dR v u nd+1⟩]) (dD (di l u) (ff v u nd t g)) l[i].f0.f0 l[i].f0.f1 (by omega) (by omega);have s2:=a0x u l[i].f0.f0 l[i].f0.f1 (by omega);rw [hm] at s1;have rx:=rdS hi';refine Ev.step (fun k=>by simp only [Y14.l0,rx];rw [if_pos (by omega),if_pos (by omega)]) (Ev.bind s1 (Ev.bind s2 (bG (show ¬ (((!cD u l[i].f0.f0 l[i].f0.f1) == cD u l[i].f0.f0 l[i].f0.f1)=true) from ?_) ?_)))
  ·generalize cD u l[i].f0.f0 l[i].f0.f1=z;cases z <;> decide
  ·rw [w64 (by omega) (by omega)];exact ih (i+1) (by omega)
theorem a8e (l:List Int) (hl:l.length≤1048576):∃ v s u nd t g,Ev (fun k=>Y64.f k l) (v,s,u,nd,t,g)∧v.length≤100∧s.length≤100∧u.length≤6:=by
 obtain ⟨m,z,e,g0⟩:=a2Y l hl;obtain ⟨v,s,a1,m1,e1,hv,hs,g1⟩:=a3a g0;obtain ⟨u,a2,m2,e2,hu,g2⟩:=a7P g1;obtain ⟨n,a3,m3,e3,n0,n1,_,g3⟩:=fq g2 4 (by omega);obtain ⟨q,a4,m4,e4,g4⟩:=a1Y g3 10 (by omega)
 cases q with
 | true =>
  obtain ⟨i,a5,m5,e5,i0,i1,_,g5⟩:=fq g4 3 (by omega);have i1:=i1 (by omega);obtain ⟨c,a6,m6,e6,c0,c1,_,g6⟩:=fq g5 3 (by omega);have c1:=c1 (by omega);have hw:wrap64 (15+c)=15+c:=w64 (by omega) (by omega);obtain ⟨b,a7,m7,e7,g7⟩:=a1Y g6 2 (by omega);exact ⟨v,s,u,_,_,b,Ev.bind e (Ev.bind e1 (Ev.bind e2 (bp e3 (bp e4 (aX rfl (bp rfl (bp e5 (aX i0 (aX (show i<(([0,5,6]:List Int).length:Int) by simp;omega) (bp e6 (aX (show 0≤wrap64 (15+c) by rw [hw];omega) (aX (show (wrap64 (15+c):Int).toNat≤281474976710656 by rw [hw];omega) (bp e7 (Ev.now _)))))))))))))),hv,hs,hu⟩
 | false =>
  obtain ⟨b,a5,m5,e5,g5⟩:=a1Y g4 4 (by omega)
  cases b with
  | true=>exact ⟨v,s,u,_,_,_,Ev.bind e (Ev.bind e1 (Ev.bind e2 (bp e3 (bp e4 (bG (by simp) (bp e5 (aX rfl (Ev.now _)))))))),hv,hs,hu⟩
  | false =>
   obtain ⟨c,a6,m6,e6,c0,c1,_,g6⟩:=fq g5 4 (by omega);have c1:=c1 (by omega);obtain ⟨t,a7,m7,e7,_,g7⟩:=b2u g6 c0 (by omega);exact ⟨v,s,u,_,_,_,Ev.bind e (Ev.bind e1 (Ev.bind e2 (bp e3 (bp e4 (bG (by simp) (bp e5 (bG (by simp) (bp e6 (Ev.bind e7 (Ev.now _)))))))))),hv,hs,hu⟩
theorem a6K (l:List Int) (hl:l.length≤1048576):∃ v s,Ev (fun k=>Y70.f k l) (v,s)∧v.length≤100∧s.length≤100:=by
 obtain ⟨m,z,e,g0⟩:=a2Y l hl;obtain ⟨v,s,a1,m1,e1,hv,hs,g1⟩:=a3a g0;exact ⟨v,s,Ev.bind e (Ev.bind e1 (Ev.now _)),hv,hs⟩
theorem a8p (l:List Int) (hl:l.length≤1048576):∃ v s,Ev (fun k=>Y80.f k l) (v,s)∧v.length≤100∧s.length≤100:=by
 obtain ⟨m,z,e,g0⟩:=a2Y l hl;obtain ⟨v,s,a1,m1,e1,hv,hs,g1⟩:=a3a g0;exact ⟨v,s,Ev.bind e (Ev.bind e1 (Ev.now _)),hv,hs⟩
theorem a8g (l:List Int) (hl:l.length≤1048576):∃ v s x y,Ev (fun k=>Y79.f k l) (v,s,x,y)∧v.length≤100∧s.length≤100:=by
 obtain ⟨m,z,e,g0⟩:=a2Y l hl;obtain ⟨v,s,a1,m1,e1,hv,hs,g1⟩:=a3a g0;obtain ⟨x,y,a2,m2,e2,g2⟩:=a4r g1;exact ⟨v,s,x,y,Ev.bind e (Ev.bind e1 (bp e2 (Ev.now _))),hv,hs⟩
theorem a8k (v:List S30) (s:List S48):(a0a v s).size≤8000:=by
 unfold a0a;split
 ·rename_i h;exact a4K h
 ·exact Nat.zero_le _
theorem a7F (l:List Int) (hl:l.length≤1048576):∃ t,Ev (fun k=>Y73.f k l) t:=by
 obtain ⟨m,z,e,g⟩:=a2Y l hl;obtain ⟨v,s,a1,m1,e1,hv,hs,g1⟩:=a3a g;have hb:=a1y v s (by omega) (by omega);have hz:=a8k v s;generalize a0a v s=t at hb hz;obtain ⟨r,a2,m2,e2,r0,r1,_,g2⟩:=fq g1 4 (by omega);by_cases c:r=0
 ·obtain ⟨t',a3,m3,e3,_⟩:=b3k g2 t (by omega);exact ⟨t',Ev.bind e (Ev.bind e1 (Ev.bind hb (bp e2 (aX c (Ev.bind e3 (Ev.now _))))))⟩
 ·by_cases c1:r=1
  ·have hw:wrap64 ((t.size:Int)+1)=(t.size:Int)+1:=w64 (by omega) (by omega);obtain ⟨q,a3,m3,e3,q0,q1,q2,g3⟩:=fq g2 ((t.size:Int)+1) (by omega)
   have hq:q≤(t.size:Int):=by
    by_cases c:(t.size:Int)+1≤1
    ·have:=q2 c;omega
    ·have:=q1 (by omega);omega
   refine ⟨t.extract 0 q.toNat,Ev.bind e (Ev.bind e1 (Ev.bind hb (bp e2 (bG c (aX c1 ?_)))))⟩;simp only [hw];exact bp e3 (aX q0 (aX hq (Ev.now _)))
  ·exact ⟨t,Ev.bind e (Ev.bind e1 (Ev.bind hb (bp e2 (bG c (bG c1 (Ev.now _))))))⟩
theorem b5L:Y14.Pure:=by
 intro l0 l1 hl0 _ _ hl1 _ _;refine Ev.rounds ?_;have j0T:Ev (fun k=>Y14.j0 k l0 l1 true) true:=Ev.step (f:=fun _=>some true) (fun k=>by simp [Y14.j0]) (Ev.now _);unfold Y14.f;refine ez (fun h0=>j0T) (fun h0=>?_);by_cases h1:(l1.length:Int)>1048576
 ·rw [decide_eq_true h1];exact j0T
 rw [decide_eq_false h1];obtain ⟨v,s,u,nd,t,g,d1,b1,b2,b3⟩:=a8e l0 (by omega);obtain ⟨w,ws,d2,b4,b5⟩:=a6K l1 (by omega);obtain ⟨u3,d3⟩:=a7F l1 (by omega);obtain ⟨hv,hs,p,q,d4,b6,b7⟩:=a8g l0 (by omega);obtain ⟨vv,vs,d5,b8,b9⟩:=a8p l1 (by omega);have x1:=a7j v s u nd t g (by omega) (by omega) (by omega);have x4:=a3P v s u nd t g (by omega) (by omega) (by omega);have x2:=a2T w ws (by omega) (by omega);have x5:=a1y w ws (by omega) (by omega);have x3:=a3w u3;have x6:=a6F u3;have x7:=a2o hv hs p q (by omega) (by omega);have x8:=a7i hv hs p q (by omega) (by omega);have x9:=a7h vv vs (by omega) (by omega);have x10:=a7d vv vs (by omega) (by omega);have x11:=a0v v s (by omega) (by omega);have x12:=a0c v s (by omega) (by omega);have n1:=a4M v s u nd t g;have n2:=a7D u3;have n3:=a4y vv vs;have q1:=a6g (cE v s u nd t g).1 (cE v s u nd t g).2.1 (cE v s u nd t g).2.2.1 (cE v s u nd t g).2.2.2.1 (cE v s u nd t g).2.2.2.2 (by omega) (by omega) b4h;have q2:=a6g (cj u3).1 (cj u3).2.1 0 0 (cj u3).2.2 (by omega) (by omega) b3d;have q3:=a9g (values vv vs) (by omega)
 have J:Ev (fun k=>Y14.j1 k u false v s (cE v s u nd t g).1 (cE v s u nd t g).2.1 (cE v s u nd t g).2.2.1 (cE v s u nd t g).2.2.2.1 (cE v s u nd t g).2.2.2.2) true:=by
  refine Ev.step (f:=fun k=>if (cE v s u nd t g).2.2.2.2=0 then _ else some true) (fun k=>by simp only [Y14.j1];rw [if_neg (by simp)]) ?_;refine ez (fun hc=>?_) (fun _=>Ev.now _);obtain ⟨p1,p2,p3,e⟩:=b3a hc;rw [e];exact b0M p1 p2 p3 (by omega) (by omega) (by omega) s.length 0 (by omega)
 have x13:=a2T (cj u3).1 (cj u3).2.1 (by omega) (by omega)
 have T:Ev (fun k=>if (cj u3).2.2=0 then ((Y67.f k (cj u3).1 (cj u3).2.1).bind fun Ba6=>(Y14.j1 k u (Ba6.toList != u3.toList) v s (cE v s u nd t g).1 (cE v s u nd t g).2.1 (cE v s u nd t g).2.2.1 (cE v s u nd t g).2.2.2.1 (cE v s u nd t g).2.2.2.2)) else (Y14.j1 k u false v s (cE v s u nd t g).1 (cE v s u nd t g).2.1 (cE v s u nd t g).2.2.1 (cE v s u nd t g).2.2.2.1 (cE v s u nd t g).2.2.2.2)) true:=by
  refine ez (fun hc=>?_) (fun _=>J);refine Ev.bind x13 ?_;rw [a7o hc,bne_self_eq_false];exact J
 refine Ev.step (f:=fun k=>(Y64.f k l0).bind _) (fun k=>by simp only [Y14.j0];rw [if_neg (by simp)]) ?_;refine Ev.bind d1 (Ev.bind x1 (Ev.bind d2 (Ev.bind x2 (Ev.bind d3 (Ev.bind x3 (Ev.bind d4 (Ev.bind d5 (Ev.bind x4 (Ev.bind q1 (aX rfl (Ev.bind x5 (aX rfl (Ev.bind x6 (Ev.bind q2 (aX rfl (Ev.bind x7 (Ev.bind x8 (bG (by simp) (Ev.bind x9 (Ev.bind x10 (Ev.bind q3 (aX rfl (Ev.bind x11 (Ev.bind x12 (bG (by simp) ?_)))))))))))))))))))))))));refine ez (fun _=>T) (fun hne=>?_)
 have hw:cS w ws=true:=by
  cases hk:cS w ws with
  | true=>rfl
  | false=>exact absurd (by unfold a0a;rw [hk,if_neg (by decide),toList_data]) hne
 (have eb:a0a w ws=setBytes w ws:=by unfold a0a;rw [if_pos hw]);have x14:=a3w (a0a w ws);rw [eb,b2H hw] at x14;rw [eb];exact Ev.bind x14 (Ev.bind (a7O w ws (by omega) (by omega)) (aX rfl T))
end Go.Proofs.YtdlmdikfgclhoaaGreat.Pure
namespace Go.Proofs.YtdlmdikfgclhoaaGreat.fnSet
open Go.ChangeShapes Go.WideShapes Go.ChangeAt Go.RowKit
open Go.ChangeMaps (open_string shut_string)
set_option linter.unusedVariables false
theorem own:ownKnob Tryz.prog.godebug=none:=by kernel_rfl
theorem laidOut:laidOutB Tryz.prog=true:=by kernel_rfl
def b4o (k:IntKind) (w:World) (a:Option Addr) (len cap:Nat) (zs:List Int):Prop :=
 (a=none∧len=0∧cap=0∧zs=[]) ∨
 ∃ x,a=some x∧len≤cap∧cap≤maxLen∧zs.length=cap∧(∀ i,i<zs.length→w.cell? (x.add i)=some (.int k (zs.getD i 0)))∧∀ n ∈ zs,(Lit.int k n).wf=true
set_option maxRecDepth 100000 in
theorem lifted (os:Os) (started:os.Started) (H:Type) (enc:TypeId × Value→H) :
  ReturnsInHanded {} Tryz.checked os 3 .any (Rows.fnSetSpec.pre6 enc Tryz.prog Tryz.f3 Rows.fnSetRow.domain false) (Rows.fnSetSpec.post enc Tryz.prog Tryz.f3 false true false false):=by
 refine returnsInHanded_of_change_sized (C:=Tryz.checked) own started (by kernel_rfl) Tryz.func3
  (ChangeSpec.witness6 (enc:=enc) (C:=Tryz.checked) false ⟨#[],#[.slice none 0 0,.slice none 0 0],[]⟩ 8 (by kernel_rfl) (by kernel_rfl) (by kernel_rfl) (by kernel_rfl)) ?_
 intro W base args ds gs before hval0 hW hcnd hsz0 _;have hsz:(DataW.weightsEach Tryz.prog (Tryz.f3.params.toList ++ Rows.fnSetSpec.plain.varTypes Tryz.prog) (ds ++ gs)).all (· ≤ reachBytes)=true:=hsz0;have hval:∀ (j:Nat) t v,Tryz.f3.params[j]? = some t→args[j]? = some v→Value.okWide Tryz.prog W .any base t v:=hval0;have hW':=hW;obtain ⟨p,q,hA0,hV,rfl,hfz,hnd⟩:=hW;have hA:DataW.TrodAll enc Tryz.prog W 0 (fun _=>true) true Tryz.f3.params.toList args.toList ds p:=hA0;rw [Tryz.params3] at hA hval hsz;obtain ⟨v0,vs0,d0,ds0,p0,q0,hargs,rfl,rfl,h0,r0⟩:=trodAll_cons hA;obtain ⟨v1,vs1,d1,ds1,p1,q1,rfl,rfl,rfl,h1,r1⟩:=trodAll_cons r0;obtain ⟨rfl,rfl,rfl⟩:=trodAll_nil r1;(obtain rfl:args=#[v0,v1]:=by cases args;simp_all);obtain ⟨rfl,rfl⟩:=trodVars_none hV;obtain ⟨a0,B36,cap0,rfl⟩:=okWide_slice Tryz.underlying22 (hval 0 22 v0 rfl rfl);have k0:=h0;have lt0:∀ x ∈ p0,x.block<W.heap.size:=by obtain ⟨m,hm⟩:=k0;exact DataW.trod_lt m _ _ _ hm
 obtain ⟨z0,w0⟩:∃ zs,b4o .u8 W a0 B36 cap0 zs:=by
  obtain ⟨fuel,hf⟩:=h0;rcases open_ints Tryz.underlying22 Tryz.underlying5 (by kernel_rfl) hf with ⟨hcs,_⟩ | ⟨x,l,c,zs,hcs,_,hl,hm,hz,_,hcell,hwz⟩
  ·simp [Value.cells] at hcs;obtain ⟨rfl,rfl,rfl⟩:=hcs;exact ⟨[],.inl ⟨rfl,rfl,rfl,rfl⟩⟩
  ·simp [Value.cells] at hcs;obtain ⟨rfl,rfl,rfl⟩:=hcs;exact ⟨zs,.inr ⟨_,rfl,hl,hm,by simpa using hz,hcell,hwz⟩⟩
 have y0:B36*1≤140737488351232:=Go.Proofs.YtdlmdikfgclhoaaGreatW.PrintWords.a7r hsz (j:=0) (t:=22) rfl rfl Tryz.underlying22 Tryz.underlying5 (by kernel_rfl) (by kernel_rfl) h0;obtain ⟨a1,B37,B38,rfl⟩:=okWide_slice Tryz.underlying22 (hval 1 22 v1 rfl rfl);have k1:=h1;have lt1:∀ x ∈ p1,x.block<W.heap.size:=by obtain ⟨m,hm⟩:=k1;exact DataW.trod_lt m _ _ _ hm
 obtain ⟨z1,w1⟩:∃ zs,b4o .u8 W a1 B37 B38 zs:=by
  obtain ⟨fuel,hf⟩:=h1;rcases open_ints Tryz.underlying22 Tryz.underlying5 (by kernel_rfl) hf with ⟨hcs,_⟩ | ⟨x,l,c,zs,hcs,_,hl,hm,hz,_,hcell,hwz⟩
  ·simp [Value.cells] at hcs;obtain ⟨rfl,rfl,rfl⟩:=hcs;exact ⟨[],.inl ⟨rfl,rfl,rfl,rfl⟩⟩
  ·simp [Value.cells] at hcs;obtain ⟨rfl,rfl,rfl⟩:=hcs;exact ⟨zs,.inr ⟨_,rfl,hl,hm,by simpa using hz,hcell,hwz⟩⟩
 have y1:B37*1≤140737488351232:=Go.Proofs.YtdlmdikfgclhoaaGreatW.PrintWords.a7r hsz (j:=1) (t:=22) rfl rfl Tryz.underlying22 Tryz.underlying5 (by kernel_rfl) (by kernel_rfl) h1;clear hA0 hval0 hsz0 hsz;(refine (P.Y14.walk Pure.b5L a0 B36 cap0 z0 a1 B37 B38 z1 W w0 y0 w1 y1).mono fun e W' ⟨he,bel⟩=>?_);subst he;exact ⟨_,rfl,_,_,_,[],_,[],hW',trodAll_mk1 (shut_bool Tryz.underlying4 _),(trodAll_cons_mk (Below.trod laidOut (by kernel_rfl) (of_decide_eq_true (by kernel_rfl)) k0 bel lt0) (trodAll_cons_mk (Below.trod laidOut (by kernel_rfl) (of_decide_eq_true (by kernel_rfl)) k1 bel lt1) trodAll_mk0)),rfl,bel.frame _,fun h=>by cases h⟩
theorem over:Rows.fnSetRow.holds Tryz.pinned (OpenSpec.ofChange Rows.fnSetSpec) :=
 OpenClaim.holds_of_wide 3 Tryz.f3 rfl rfl rfl rfl rfl rfl rfl ⟨rfl,rfl,rfl,rfl,rfl⟩ rfl rfl rfl rfl rfl (by kernel_rfl) Tryz.func3 (by kernel_rfl)
  (of_decide_eq_true (by kernel_rfl)) (by unfold Func.isWrapper;first | (rw [if_pos (by decide +kernel)];kernel_rfl) | (rw [if_neg (by decide +kernel)];exact ⟨rfl,rfl⟩))
  (fun os started H enc _=>lifted os started H enc)
theorem proved:Rows.FnSetSaid:=over
#print axioms proved
end Go.Proofs.YtdlmdikfgclhoaaGreat.fnSet
namespace Go.Proofs.YtdlmdikfgclhoaaGreat
theorem fnSet_holds:Rows.FnSetSaid:=fnSet.proved
end Go.Proofs.YtdlmdikfgclhoaaGreat
