/- Words of the print, those that this claim needs. -/
import Derived.Test.YtdlmdikfgclhoaaGreatMFnSetWLast
import Derived.Test.YtdlmdikfgclhoaaGreatMFnSetWWords
namespace Go.Proofs.YtdlmdikfgclhoaaGreatW.PrintLast
open Go.Proofs.YtdlmdikfgclhoaaGreatW.PrintWords (af)
def a4i (md:Region.Mode) (o:Oper):List Nat:=(o.after.toList.filter (fun e=>Region.binds md e)).map (fun e=>e.on)
def a9f (md:Region.Mode) (ops:Array Oper) (i:Nat) (oi:Oper):List Nat:=(List.range ops.size).filter fun j=>!(j == i) && match ops[j]? with
 | some oj=>!(oj.after.any (fun e=>Region.binds md e && e.on == i) || oi.apart ops oj)
 | none=>false
def dX (md:Region.Mode) (ops:Array Oper):Bool × List (List Nat × List Nat):=(Region.noSelect ops,(List.range ops.size).map fun i=>match ops[i]? with
 | some o=>(a4i md o,a9f md ops i o)
 | none=>([],[]))
def a1I (T:List (List Nat × List Nat)) (l:List Bool) (i:Nat):Bool:=!l.getD i true && match T[i]? with
 | some r=>r.1.all (fun j=>l.getD j false)
 | none=>false
def a2r (T:List (List Nat × List Nat)) (l:List Bool):List Nat:=(List.range T.length).filter (a1I T l)
def b0a (T:List (List Nat × List Nat)) (l:List Bool) (i:Nat):Bool:=match T[i]? with
 | some r=>r.2.all (fun j=>l.getD j true)
 | none=>false
def a6V (T:List (List Nat × List Nat)) (l:List Bool):Bool:=(List.range T.length).all fun j=>!l.getD j false || match T[j]? with
 | some r=>r.1.all (fun k=>l.getD k false)
 | none=>true
def a5O (T:List (List Nat × List Nat)) (i:Nat):Nat→Nat→Bool
 | 0,_=>false
 | fuel+1,d=>match T[d]? with
  | some r=>r.1.any fun j=>j == i || a5O T i fuel j
  | none=>false
def b1z (T:List (List Nat × List Nat)) (l:List Bool) (ds:List Nat) (i:Nat):Bool:=ds.all fun d=>l.getD d true || a5O T i T.length d
section
variable {md:Region.Mode} {ops:Array Oper} {T:Bool × List (List Nat × List Nat)} {l l' li lj lk:Array Bool} {ds:List Nat} {i j k:Nat}
theorem gd (l:Array Bool) (j:Nat) (b:Bool):l.getD j b=l.toList.getD j b:=by simp [Array.getD_eq_getD_getElem?,List.getD_eq_getElem?_getD]
theorem a8K (o:Oper) (p:Nat→Bool):o.after.all (fun e=>!Region.binds md e || p e.on)=(a4i md o).all p:=by
 unfold a4i;rw [← Array.all_toList]
 induction o.after.toList with
 | nil=>rfl
 | cons e r ih =>
  rw [List.all_cons,ih,List.filter_cons];cases h:Region.binds md e <;> simp
theorem b1I (o:Oper) (p:Nat→Bool):o.after.any (fun e=>Region.binds md e && p e.on)=(a4i md o).any p:=by
 unfold a4i;rw [← Array.any_toList]
 induction o.after.toList with
 | nil=>rfl
 | cons e r ih =>
  rw [List.any_cons,ih,List.filter_cons];cases h:Region.binds md e <;> simp
theorem a2z:(dX md ops).2.length=ops.size:=by simp [dX]
theorem a4q {o:Oper} (h:ops[i]? = some o):(dX md ops).2[i]? = some (a4i md o,a9f md ops i o):=by
 have hi:=(Array.getElem?_eq_some_iff.1 h).1;unfold dX;rw [List.getElem?_map,List.getElem?_range hi,Option.map_some,h]
theorem a4t (h:ops[i]? = none):(dX md ops).2[i]? = none:=by
 have hi:ops.size≤i:=Array.getElem?_eq_none_iff.1 h;exact List.getElem?_eq_none (by rw [a2z];exact hi)
theorem b0T:a1I (dX md ops).2 l.toList i=(!l.getD i true && ((ops[i]?).map (·.after.all fun e=>!Region.binds md e || l.getD e.on false)).getD false):=by
 unfold a1I;rw [gd]
 cases h:ops[i]? with
 | none=>rw [a4t h];rfl
 | some o =>
  rw [a4q h];simp only [Option.map_some,Option.getD_some];rw [← a8K];simp only [gd]
theorem a2Z:Region.ready md ops l=a2r (dX md ops).2 l.toList:=by
 unfold Region.ready a2r;rw [a2z];refine List.filter_congr (fun i _=>?_);rw [b0T]
theorem b1x:Region.free md ops l i=b0a (dX md ops).2 l.toList i:=by
 unfold Region.free b0a
 cases h:ops[i]? with
 | none=>rw [a4t h]
 | some oi =>
  rw [a4q h];simp only [a9f];rw [List.all_filter];congr 1;funext j;rw [gd]
  cases hj:ops[j]? with
  | none=>cases (j == i) <;> cases (l.toList.getD j true) <;> simp
  | some oj =>
   cases (j == i) <;> cases (l.toList.getD j true) <;> cases (oj.after.any (fun e=>Region.binds md e && e.on == i) || oi.apart ops oj) <;> simp_all
theorem b1V:Region.a5l md ops l=a6V (dX md ops).2 l.toList:=by
 unfold Region.a5l a6V;rw [a2z];congr 1;funext j;rw [gd]
 cases h:ops[j]? with
 | none=>rw [a4t h]
 | some o =>
  rw [a4q h];simp only;rw [← a8K];simp only [gd]
theorem a9T:∀ (fuel d:Nat),Region.a1V md ops i fuel d=a5O (dX md ops).2 i fuel d
 | 0,_=>rfl
 | fuel+1,d=>by
  unfold Region.a1V a5O
  cases h:ops[d]? with
  | none=>rw [a4t h]
  | some o =>
   rw [a4q h];simp only;rw [← b1I];congr 1;funext e;rw [a9T fuel]
theorem b4a:Region.b1r md ops l ds i=b1z (dX md ops).2 l.toList ds i:=by
 unfold Region.b1r b1z;rw [a2z];congr 1;funext d;rw [gd,a9T]
theorem a6p (h:a1I T.2 l.toList i=true) (hT:dX md ops=T):(Region.ready md ops l).contains i=true:=by
 subst hT;rw [a2Z];unfold a2r;rw [List.contains_iff_mem,List.mem_filter,List.mem_range];refine ⟨?_,h⟩;unfold a1I at h;rw [Bool.and_eq_true] at h
 cases hq:(dX md ops).2[i]? with
 | none=>rw [hq] at h;simp at h
 | some r=>exact (List.getElem?_eq_some_iff.1 hq).1
theorem a6Y (h:(l.toList.set i true == l'.toList)=true):(l.setIfInBounds i true == l')=true:=by
 rw [beq_iff_eq] at h ⊢;apply Array.ext';rw [Array.toList_setIfInBounds];exact h
def b2Y (T:Bool × List (List Nat × List Nat)) (l l':List Bool) (i:Nat):Bool:=T.1 && b0a T.2 l i && a1I T.2 l i && (l.set i true == l')
theorem b0C (hT:dX md ops=T) (h:b2Y T l.toList l'.toList i=true):b3y md ops l l' i=true:=by
 simp only [b2Y,Bool.and_eq_true] at h;obtain ⟨⟨⟨h1,h2⟩,h3⟩,h4⟩:=h;have h5:=a6p h3 hT;have h6:=a6Y h4;subst hT;simp only [b3y,Bool.and_eq_true];exact ⟨⟨⟨h1,by rw [b1x];exact h2⟩,h5⟩,h6⟩
def b2L (T:Bool × List (List Nat × List Nat)) (ds:List Nat) (l l':List Bool) (i:Nat):Bool:=T.1 && b0a T.2 l i && a1I T.2 l i && a6V T.2 l && b1z T.2 l ds i && (l.set i true == l')
theorem b3V (hT:dX md ops=T) (h:b2L T ds l.toList l'.toList i=true):a9X md ops ds l l' i=true:=by
 simp only [b2L,Bool.and_eq_true] at h;obtain ⟨⟨⟨⟨⟨h1,h2⟩,h3⟩,h4⟩,h5⟩,h6⟩:=h;have h7:=a6p h3 hT;have h8:=a6Y h6;subst hT;simp only [a9X,Bool.and_eq_true];exact ⟨⟨⟨⟨⟨h1,by rw [b1x];exact h2⟩,h7⟩,by rw [b1V];exact h4⟩,by rw [b4a];exact h5⟩,h8⟩
theorem dz (hT:dX md ops=T) (h:(a2r T.2 l.toList == [i] && l.toList.set i true == l'.toList)=true):a5W md ops l l' i=true:=by
 simp only [Bool.and_eq_true] at h;obtain ⟨h1,h2⟩:=h;subst hT;simp only [a5W,Bool.and_eq_true];exact ⟨by rw [a2Z];exact h1,a6Y h2⟩
theorem b4W (hT:dX md ops=T) (h:(a2r T.2 l.toList == [i,j] && l.toList.set i true == li.toList && l.toList.set j true == lj.toList)=true):(Region.ready md ops l == [i,j] && l.setIfInBounds i true == li && l.setIfInBounds j true == lj)=true:=by
 simp only [Bool.and_eq_true] at h ⊢;obtain ⟨⟨h1,h2⟩,h3⟩:=h;subst hT;exact ⟨⟨by rw [a2Z];exact h1,a6Y h2⟩,a6Y h3⟩
theorem bk (hT:dX md ops=T) (h:(a2r T.2 l.toList == [])=true):(Region.ready md ops l == [])=true:=by
 subst hT;rw [a2Z];exact h
def upM (B:List Nat) (d:Nat):List Nat→Nat
 | []=>0
 | n :: r=>(2 ^ n ||| (if n<d then B.getD n 0 else 0)) ||| upM B d r
def a0Y (T:List (List Nat × List Nat)) (B:List Nat):Bool:=(List.range T.length).all fun d=>match T[d]? with
 | some r=>(B.getD d 0 ||| upM B d r.1) == upM B d r.1
 | none=>false
theorem a3l {B:List Nat} {d i:Nat}:∀ {ns:List Nat},(upM B d ns).testBit i=true→∃ n ∈ ns,n=i∨(n<d∧(B.getD n 0).testBit i=true)
 | [],h=>by simp [upM] at h
 | n :: r,h=>by
  unfold upM at h;rw [Nat.testBit_or,Nat.testBit_or,Bool.or_eq_true,Bool.or_eq_true] at h;rcases h with (h | h) | h
  ·rw [Nat.testBit_two_pow] at h;exact ⟨n,List.mem_cons_self,.inl (by simpa using h)⟩
  ·by_cases hn:n<d
   ·rw [if_pos hn] at h;exact ⟨n,List.mem_cons_self,.inr ⟨hn,h⟩⟩
   ·rw [if_neg hn] at h;simp at h
  ·obtain ⟨m,hm,h2⟩:=a3l h;exact ⟨m,List.mem_cons_of_mem _ hm,h2⟩
theorem a8M {T:List (List Nat × List Nat)} {B:List Nat} (hB:a0Y T B=true):∀ (fuel d:Nat),d<fuel→d<T.length→(B.getD d 0).testBit i=true→a5O T i fuel d=true
 | 0,d,h,_,_=>by omega
 | fuel+1,d,h,hd,hb=>by
  have h1:=List.all_eq_true.1 hB d (List.mem_range.2 hd)
  cases hr:T[d]? with
  | none=>rw [hr] at h1;simp at h1
  | some r =>
   rw [hr] at h1;simp only [beq_iff_eq] at h1;(have h2:(upM B d r.1).testBit i=true:=by rw [← h1,Nat.testBit_or,hb,Bool.true_or]);obtain ⟨n,hn,h3⟩:=a3l h2;unfold a5O;rw [hr];simp only;rw [List.any_eq_true];refine ⟨n,hn,?_⟩;rcases h3 with rfl | ⟨h4,h5⟩
   ·simp
   ·rw [a8M hB fuel n (by omega) (by omega) h5,Bool.or_true]
def b4t (T:List (List Nat × List Nat)) (B:List Nat) (l:List Bool) (ds:List Nat) (i:Nat):Bool:=ds.all fun d=>l.getD d true || (decide (d<T.length) && (B.getD d 0).testBit i)
def b1l (T:Bool × List (List Nat × List Nat)) (B:List Nat) (ds:List Nat) (l l':List Bool) (i:Nat):Bool:=T.1 && b0a T.2 l i && a1I T.2 l i && a6V T.2 l && b4t T.2 B l ds i && (l.set i true == l')
theorem a0A {B:List Nat} (hT:dX md ops=T) (hB:a0Y T.2 B=true) (h:b1l T B ds l.toList l'.toList i=true):a9X md ops ds l l' i=true:=by
 refine b3V hT ?_;simp only [b1l,b2L,Bool.and_eq_true] at h ⊢;obtain ⟨⟨⟨⟨⟨h1,h2⟩,h3⟩,h4⟩,h5⟩,h6⟩:=h;refine ⟨⟨⟨⟨⟨h1,h2⟩,h3⟩,h4⟩,?_⟩,h6⟩;unfold b4t at h5;unfold b1z;rw [List.all_eq_true] at h5 ⊢;intro d hd;have h7:=h5 d hd;rw [Bool.or_eq_true,Bool.and_eq_true,decide_eq_true_eq] at h7;rcases h7 with h7 | ⟨h8,h9⟩
 ·rw [h7,Bool.true_or]
 ·rw [a8M hB _ d h8 h8 h9,Bool.or_true]
theorem b5H {P:Program} {Q:Exit→Act→World→Prop} {S:World→Prop} {n:Nat} {a:Act} {w:World} {B:List Nat} (hT:dX md ops=T) (hB:a0Y T.2 B=true) (h:af (dX md ops=T)→af (a0Y T.2 B=true)→aU P md ops Q S ds n l a w):aU P md ops Q S ds n l a w:=h ⟨hT⟩ ⟨hB⟩
end
def a4J:Code→Nat→Option (Array Oper)
 | .region id ops _,k=>if id == k then some ops else none
 | .seq a b,k=>match a4J a k with
  | some o=>some o
  | none=>a4J b k
 | .cond _ a b,k=>match a4J a k with
  | some o=>some o
  | none=>a4J b k
 | .block _ c,k=>a4J c k
 | .loop c,k=>a4J c k
 | .scope c,k=>a4J c k
 | .rangeFunc _ _ a b,k=>match a4J a k with
  | some o=>some o
  | none=>a4J b k
 | _,_=>none
def opsOf (f:Func) (k:Nat):Array Oper:=((f.body.bind fun c=>a4J c k)).getD #[]
end Go.Proofs.YtdlmdikfgclhoaaGreatW.PrintLast
