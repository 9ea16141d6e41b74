/- For all numbers the program's WorldNew and the reference's return the same, of memory of its own. No condition. (Part 1 of 4: written by programs of this workplace and by hand, merged.) -/
import Derived.Test.YtelecnmflodkkaaGreatDoorProg
import Derived.Below
import Derived.Deep.Draws
import Derived.Deep.AppendLies
import Derived.Maps.AppendAt
import Derived.OwnWalk
import Derived.Laws.BytesArg
import Derived.Laws.MakeOwn
import Derived.Laws.OwnMore
import Derived.Deep.OwnRows
import Derived.Tactics
import Derived.Lib.ConvBytes
import Derived.Laws.Slices
import Derived.WalkKit
import Derived.KernelRfl
import Derived.RowKit3
import Derived.Deep.LoopGhost
import Derived.Deep.QuietTactic
import Derived.BigQuiet
import Derived.WideLaws
import Derived.Deep.DeepCutAuto
import Derived.Deep.CutBlock
import Derived.Deep.RegionHeld3
import Derived.Laws.Rows
import Derived.Lib.AppendStr
import Derived.ArgAppend
import Derived.Laws.IdiomCopy
import Derived.OrdersHeld
import Derived.Laws.BitsLemmas
import Derived.RowKit
import Derived.Lib.Bytealg
import Derived.Lib.Walk
import Derived.Test.YtelecnmflodkkaaGreatDoorMFnExactWorldNewWWords
import Derived.Test.YtelecnmflodkkaaGreatDoorMFnExactWorldNewWLast
import Derived.Test.YtelecnmflodkkaaGreatDoorMFnExactWorldNewWTab
import Derived.Test.YtelecnmflodkkaaGreatDoorMFnExactWorldNewWApart
import Derived.Test.YtelecnmflodkkaaGreatDoorMFnExactWorldNewWFoot
import Derived.Test.YtelecnmflodkkaaGreatDoorMFnExactWorldNewWKept
import Derived.Test.YtelecnmflodkkaaGreatDoorMFnExactWorldNewWShare
import Derived.Test.YtelecnmflodkkaaGreatDoorMFnExactWorldNewWN
import Derived.Test.YtelecnmflodkkaaGreatDoorMFnExactWorldNewWFootNe
import Derived.Test.YtelecnmflodkkaaGreatDoorMFnExactWorldNewWEqStruct
import Derived.Test.YtelecnmflodkkaaGreatDoorMFnExactWorldNewWRepsOne
import Derived.Test.YtelecnmflodkkaaGreatDoorMFnExactWorldNewWMore
set_option linter.unusedVariables false
set_option linter.unusedSimpArgs false
set_option maxHeartbeats 8000000
set_option maxRecDepth 100000

namespace Go.Proofs.YtelecnmflodkkaaGreatDoor.P
open Go.RowKit Go.Proofs.YtelecnmflodkkaaGreatDoorW.PrintWords Go.Proofs.YtelecnmflodkkaaGreatDoorW.PrintLast Go.Proofs.YtelecnmflodkkaaGreatDoorW.PrintMore
attribute [local go_sem] max2_int min2_int max_two min_two max_three min_three max_four min_four   -- for this text's walks alone
set_option linter.unusedVariables false
set_option linter.unusedSimpArgs false

theorem sa_ {α:Type _} (l:List α) (i:Nat) (a:α):l.toArray.setIfInBounds i a=(l.set i a).toArray:=List.setIfInBounds_toArray ..
theorem s0_ {α:Type _} (x:α) (l:List α) (a:α):(x :: l).set 0 a=a :: l:=List.set_cons_zero ..
theorem ss_ {α:Type _} (x:α) (l:List α) (n:Nat) (a:α):(x :: l).set (n+1) a=x :: l.set n a:=List.set_cons_succ ..
section
variable {P:Program} {ops:Array Oper} {Q:Exit→Act→World→Prop}
/-- A call of a function value, as a step of a region that draws. -/
theorem goesD_ {oi:Oper} {N:Option Tmp} {a:Act} {w:World} {K:Act→World→Prop} {f:FuncId} {fn:Func} {as_:Array Operand} {ts:Array TypeId} {x:Operand} (hf:P.funcs[f]? = some fn) (hname:(fn.name == "runtime.NumGoroutine")=false) (hb:fn.body.isSome=true) (args:Array Value)
    (hw:Region.wanted oi (yielded ops a.tmps)=true) (hN:oi.dst=N) (hop:oi.op = .call { callee:=.value x,args:=as_,argTypes:=ts }) (hx:a.eval x = .func (.func f) #[] #[]) (hargs:as_.map a.eval=args)
    (h:Calls P f args w fun e w'=>∃ v,e = .returned v∧K (a.put N v) w'):if Region.wanted oi (yielded ops a.tmps)=true then Oper.wp P oi a w K Q else K (a.put N undef) w:=by
  refine call_ f args hw hN ?_ h
  have he:=enters_ hf hname hb args w
  unfold execOp
  simp [hop,resolve,Deferred.ofValue,invoke,hx,hargs,he]
end



def errW:Option Int→Value
  | none=>.nilIface
  | some c=>.iface 0 (.int .i64 c)
theorem errW_none:errW none = .nilIface:=rfl
theorem errW_some (c:Int):errW (some c) = .iface 0 (.int .i64 c):=rfl

theorem info78:(Tryz.prog.info? 78).map (fun i=>(i.zero,i.size,i.bytes))=some (some (.agg #[(.int .i64 0),(.int .i64 0)]),2,16):=by kernel_rfl
theorem info115:(Tryz.prog.info? 115).map (fun i=>(i.zero,i.size,i.bytes))=some (some (.agg #[(.int .i64 0),(.slice none 0 0),(.string ⟨#[]⟩),(.int .i64 0)]),4,56):=by kernel_rfl
-- the values' own types
/-! #### struct type 78 -/
structure S78 where
  f0:Int
  f1:Int
def z78:S78:=⟨(0:Int),(0:Int)⟩
def k78:Kd S78:=Kd.iso (Kd.pair (Kd.int .i64) (Kd.int .i64)) (fun x:S78=>(x.f0,x.f1))
theorem k78_heap:Kd.Heap k78:=Kd.heap_iso _ (Kd.heap_pair (Kd.heap_int .i64) (Kd.heap_int .i64))
theorem k78_open {w:World} {x:S78} {cs:List Value} (h:k78.K w x cs):cs=[.int .i64 x.f0,.int .i64 x.f1]:=by
  obtain ⟨_,_,rfl,rfl,rfl⟩:=h
  exact rfl
theorem k78_openM {w:World} {base:Nat} {ok:Nat→Prop} {x:S78} {cs:List Value} (h:k78.M w base ok x cs):cs=[.int .i64 x.f0,.int .i64 x.f1]:=by
  obtain ⟨_,_,rfl,rfl,rfl⟩:=h
  exact rfl
theorem k78_mkM (w:World) (base:Nat) (ok:Nat→Prop) (x:S78)  : k78.M w base ok x [.int .i64 x.f0,.int .i64 x.f1]:=⟨[.int .i64 x.f0],[.int .i64 x.f1],rfl,rfl,rfl⟩
def rd_T78 (xs:List S78) (i:Int):S78:=xs.getD i.toNat z78
theorem at_T78 {w:World} {A:Option Addr} {n:Nat} {xs:List S78} (h:Kd.C k78 w A n xs) (i:Int) (h0:0≤i) (h1:i<n):∃ ad , A=some ad∧w.cell? (ad.add (i.toNat*2))=some (.int .i64 (rd_T78 xs i).f0)∧w.cell? ⟨(ad.add (i.toNat*2)).block,(ad.add (i.toNat*2)).off+1,none⟩=some (.int .i64 (rd_T78 xs i).f1):=by
  obtain ⟨ad,c,e,_,hK,hc0⟩:=Kd.C_get h z78 i h0 h1
  have hc:∀ j u,c[j]? = some u→w.cell? (ad.add (i.toNat*2+j))=some u:=hc0
  obtain rfl:=k78_open hK
  exact ⟨ad,e,hc 0 _ rfl,by rw [← add_field _ _ 1 (by omega)];exact hc 1 _ rfl⟩

/-! #### struct type 115 -/
structure S115 where
  f0:Int
  f1:Int
  f2:ByteArray
  f3:Int
def z115:S115:=⟨(0:Int),(0:Int),(⟨#[]⟩:ByteArray),(0:Int)⟩
def k115:Kd S115:=Kd.iso (Kd.pair (Kd.int .i64) (Kd.pair (Kd.scalar (fun _:Int=>Value.slice none 0 0) (fun _=>rfl)) (Kd.pair Kd.string (Kd.int .i64)))) (fun x:S115=>(x.f0,x.f1,x.f2,x.f3))
theorem k115_open {w:World} {x:S115} {cs:List Value} (h:k115.K w x cs):cs=[.int .i64 x.f0,.slice none 0 0,.string x.f2,.int .i64 x.f3]:=by
  obtain ⟨_,_,rfl,rfl,⟨_,_,rfl,rfl,⟨_,_,rfl,rfl,rfl⟩⟩⟩:=h
  exact rfl
theorem k115_openM {w:World} {base:Nat} {ok:Nat→Prop} {x:S115} {cs:List Value} (h:k115.M w base ok x cs):cs=[.int .i64 x.f0,.slice none 0 0,.string x.f2,.int .i64 x.f3]:=by
  obtain ⟨_,_,rfl,rfl,⟨_,_,rfl,rfl,⟨_,_,rfl,rfl,rfl⟩⟩⟩:=h
  exact rfl
theorem k115_mkM (w:World) (base:Nat) (ok:Nat→Prop) (x:S115)  : k115.M w base ok x [.int .i64 x.f0,.slice none 0 0,.string x.f2,.int .i64 x.f3]:=⟨[.int .i64 x.f0],[.slice none 0 0,.string x.f2,.int .i64 x.f3],rfl,rfl,⟨[.slice none 0 0],[.string x.f2,.int .i64 x.f3],rfl,rfl,⟨[.string x.f2],[.int .i64 x.f3],rfl,rfl,rfl⟩⟩⟩
def rd_T115 (xs:List S115) (i:Int):S115:=xs.getD i.toNat z115
theorem at_T115 {w:World} {A:Option Addr} {n:Nat} {xs:List S115} (h:Kd.C k115 w A n xs) (i:Int) (h0:0≤i) (h1:i<n):∃ ad , A=some ad∧w.cell? (ad.add (i.toNat*4))=some (.int .i64 (rd_T115 xs i).f0)∧w.cell? ⟨(ad.add (i.toNat*4)).block,(ad.add (i.toNat*4)).off+1,none⟩=some (.slice none 0 0)∧w.cell? ⟨(ad.add (i.toNat*4)).block,(ad.add (i.toNat*4)).off+2,none⟩=some (.string (rd_T115 xs i).f2)∧w.cell? ⟨(ad.add (i.toNat*4)).block,(ad.add (i.toNat*4)).off+3,none⟩=some (.int .i64 (rd_T115 xs i).f3):=by
  obtain ⟨ad,c,e,_,hK,hc0⟩:=Kd.C_get h z115 i h0 h1
  have hc:∀ j u,c[j]? = some u→w.cell? (ad.add (i.toNat*4+j))=some u:=hc0
  obtain rfl:=k115_open hK
  exact ⟨ad,e,hc 0 _ rfl,by rw [← add_field _ _ 1 (by omega)];exact hc 1 _ rfl,by rw [← add_field _ _ 2 (by omega)];exact hc 2 _ rfl,by rw [← add_field _ _ 3 (by omega)];exact hc 3 _ rfl⟩

end Go.Proofs.YtelecnmflodkkaaGreatDoor.P

namespace Go.Proofs.YtelecnmflodkkaaGreatDoor.P
open Go.RowKit Go.Proofs.YtelecnmflodkkaaGreatDoorW.PrintWords Go.Proofs.YtelecnmflodkkaaGreatDoorW.PrintLast Go.Proofs.YtelecnmflodkkaaGreatDoorW.PrintMore
abbrev I:=true
abbrev O:=false
theorem mO {p:Prop} (h:p:=by repeat' first | (with_reducible exact LeO.refl _) | (with_reducible exact LeO.none _) | (with_reducible refine LeO.ite ?_ ?_) | (with_reducible refine LeO.bind ?_ (fun _=>?_)) | (with_reducible apply_assumption) | apply_assumption | exact LeO.none _ | refine LeO.ite ?_ ?_ | refine LeO.bind ?_ (fun _=>?_)):p:=h
theorem nO {q p:Prop} (h:q) (f:¬q:=by simp):p:=absurd h f
theorem aM {p:Prop} (h:p):Aside0 p:=⟨h⟩
theorem sI {α:Type _} {a b:α} (h:some a=some b):a=b:=Option.some.inj h
theorem bS {α β:Type _} {x:Option α} {f:α→Option β} {b:β} (h:x.bind f=some b):∃ a,x=some a∧f a=some b:=Option.bind_eq_some_iff.mp h
theorem dT {p:Prop} [Decidable p] (h:decide p=true):p:=of_decide_eq_true h
theorem dE {p:Prop} [Decidable p] (h:p):decide p=true:=decide_eq_true h
theorem dF {p:Prop} [Decidable p] (h:¬p):decide p=false:=decide_eq_false h
section
variable {P:Program} {ops:Array Oper} {Q:Exit→Act→World→Prop} {md:Region.Mode} {S:World→Prop} {ds:List Nat}
theorem pu_ {T:Bool × List (List Nat × List Nat)} (i:Nat) (N:Tmp) {oi:Oper} {v:Value} {fuel:Nat} {l:Array Bool} {a a':Act} {w:World} (l':Array Bool) (hT:rtab md ops=T) (h:wpAnyLast P md ops Q S ds fuel l' a' w) (hi:ops[i]? = some oi:=by exact rfl) (hN:oi.dst=some N:=by exact rfl) (hc:anyT T l.toList l'.toList i=true:=by kernel_rfl) (hQ:∀ c a w,Q (.panic c) (a.put oi.dst v) w→Q (.panic c) a w:=by exact fun _ _ _ h=>h) (hw:Region.wanted oi (yielded ops a.tmps)=true:=by rfl) (hy:∀ w',(execOp a.eval oi).run P w' = .ok (.value v) w':=by (intro w');go_simp;(with_reducible rfl)) (ha:a.put (some N) v=a':=by (simp only [Act.put,sa_,s0_,ss_,i64_w,i32_w]);exact rfl):wpAnyLast P md ops Q S ds (fuel+1) l a w:=pure_ l' hi hN (any_of hT hc) hQ (Or.inl ⟨hw,hy⟩) ha h
theorem pn_ {T:Bool × List (List Nat × List Nat)} (i:Nat) (N:Tmp) {oi:Oper} {v:Value} {fuel:Nat} {l:Array Bool} {a a':Act} {w:World} (l':Array Bool) (hT:rtab md ops=T) (h:wpAnyLast P md ops Q S ds fuel l' a' w) (hi:ops[i]? = some oi:=by exact rfl) (hN:oi.dst=some N:=by exact rfl) (hc:anyT T l.toList l'.toList i=true:=by kernel_rfl) (hQ:∀ c a w,Q (.panic c) (a.put oi.dst v) w→Q (.panic c) a w:=by exact fun _ _ _ h=>h) (hw:Region.wanted oi (yielded ops a.tmps)=false:=by rfl) (hy:v=undef:=by rfl) (ha:a.put (some N) v=a':=by (simp only [Act.put,sa_,s0_,ss_,i64_w,i32_w]);exact rfl):wpAnyLast P md ops Q S ds (fuel+1) l a w:=pure_ l' hi hN (any_of hT hc) hQ (Or.inr ⟨hw,hy⟩) ha h
theorem tk2_ {T:Bool × List (List Nat × List Nat)} (i:Nat) (N:Tmp) {oi:Oper} {v:Value} {fuel:Nat} {l:Array Bool} {a a':Act} {w:World} (l':Array Bool) {B:List Nat} (hT:rtab md ops=T) (hB:waitsOk T.2 B=true) (hS:S w) (h:wpAnyLast P md ops Q S ds fuel l' a' w) (hi:ops[i]? = some oi:=by exact rfl) (hN:oi.dst=some N:=by exact rfl) (hc:takeW T B ds l.toList l'.toList i=true:=by kernel_rfl) (hQ:∀ c a w,Q (.panic c) (a.put oi.dst v) w→Q (.panic c) a w:=by exact fun _ _ _ h=>h) (hw:Region.wanted oi (yielded ops a.tmps)=true:=by rfl) (hy:∀ w',S w'→(execOp a.eval oi).run P w' = .ok (.value v) w':=by (rintro w' ⟨s0,s1⟩);go_simp;(with_reducible rfl)) (ha:a.put (some N) v=a':=by (simp only [Act.put,sa_,s0_,ss_,i64_w,i32_w]);exact rfl):wpAnyLast P md ops Q S ds (fuel+1) l a w:=take_ l' hi hN (take_ofW hT hB hc) hQ (Or.inl ⟨hw,hy⟩) hS ha h
theorem tk4_ {T:Bool × List (List Nat × List Nat)} (i:Nat) (N:Tmp) {oi:Oper} {v:Value} {fuel:Nat} {l:Array Bool} {a a':Act} {w:World} (l':Array Bool) {B:List Nat} (hT:rtab md ops=T) (hB:waitsOk T.2 B=true) (hS:S w) (h:wpAnyLast P md ops Q S ds fuel l' a' w) (hi:ops[i]? = some oi:=by exact rfl) (hN:oi.dst=some N:=by exact rfl) (hc:takeW T B ds l.toList l'.toList i=true:=by kernel_rfl) (hQ:∀ c a w,Q (.panic c) (a.put oi.dst v) w→Q (.panic c) a w:=by exact fun _ _ _ h=>h) (hw:Region.wanted oi (yielded ops a.tmps)=true:=by rfl) (hy:∀ w',S w'→(execOp a.eval oi).run P w' = .ok (.value v) w':=by (rintro w' ⟨s0,s1,s2,s3⟩);go_simp;(with_reducible rfl)) (ha:a.put (some N) v=a':=by (simp only [Act.put,sa_,s0_,ss_,i64_w,i32_w]);exact rfl):wpAnyLast P md ops Q S ds (fuel+1) l a w:=take_ l' hi hN (take_ofW hT hB hc) hQ (Or.inl ⟨hw,hy⟩) hS ha h
theorem tk8_ {T:Bool × List (List Nat × List Nat)} (i:Nat) (N:Tmp) {oi:Oper} {v:Value} {fuel:Nat} {l:Array Bool} {a a':Act} {w:World} (l':Array Bool) {B:List Nat} (hT:rtab md ops=T) (hB:waitsOk T.2 B=true) (hS:S w) (h:wpAnyLast P md ops Q S ds fuel l' a' w) (hi:ops[i]? = some oi:=by exact rfl) (hN:oi.dst=some N:=by exact rfl) (hc:takeW T B ds l.toList l'.toList i=true:=by kernel_rfl) (hQ:∀ c a w,Q (.panic c) (a.put oi.dst v) w→Q (.panic c) a w:=by exact fun _ _ _ h=>h) (hw:Region.wanted oi (yielded ops a.tmps)=true:=by rfl) (hy:∀ w',S w'→(execOp a.eval oi).run P w' = .ok (.value v) w':=by (rintro w' ⟨s0,s1,s2,s3,s4,s5,s6,s7⟩);go_simp;(with_reducible rfl)) (ha:a.put (some N) v=a':=by (simp only [Act.put,sa_,s0_,ss_,i64_w,i32_w]);exact rfl):wpAnyLast P md ops Q S ds (fuel+1) l a w:=take_ l' hi hN (take_ofW hT hB hc) hQ (Or.inl ⟨hw,hy⟩) hS ha h
theorem o1_ {T:Bool × List (List Nat × List Nat)} (i:Nat) (N:Tmp) {oi:Oper} {fuel:Nat} {l:Array Bool} {a:Act} {w:World} (l':Array Bool) (hT:rtab md ops=T) (h:∀ K:Act→World→Prop,Shut (∀ a' w',S w'→(S w'→wpAnyLast P md ops Q S ds fuel l' a' w')→K a' w')→if Region.wanted oi (yielded ops a.tmps)=true then Oper.wp P oi a w K Q else K (a.put (some N) undef) w) (hi:ops[i]? = some oi:=by exact rfl) (hN:oi.dst=some N:=by exact rfl) (hc:(readyT T.2 l.toList == [i] && l.toList.set i true == l'.toList)=true:=by kernel_rfl) (hd:i ∉ ds:=by decide):wpAnyLast P md ops Q S ds (fuel+1) l a w:=one_ l' hi hN (one_of hT hc) hd h
theorem nm_ (N:Tmp) {fuel:Nat} {l:Array Bool} {a a':Act} {v:Value} {w:World} (h:wpAnyLast P md ops Q S ds fuel l a' w) (ha:Act.put a (some N) v=a':=by simp only [Act.put,sa_,s0_,ss_,i64_w,i32_w];rfl):wpAnyLast P md ops Q S ds fuel l (Act.put a (some N) v) w:=norm_ ha h
end
section
variable {P:Program} {ops:Array Oper} {rest:List Oper} {o:Oper} {a:Act} {Q:Exit→Act→World→Prop} {W:World}
theorem gd_ (N:Tmp) (h:wpList P ops Q (o :: rest) a W) (hN:o.dst=some N:=by with_reducible rfl):wpList P ops Q (o :: rest) a W:=h
theorem gc_ (f:FuncId) {ars:Array Operand} {ts:Array TypeId} (h:wpList P ops Q (o :: rest) a W) (ho:o.op = .call { callee:=.value (.func f),args:=ars,argTypes:=ts }:=by with_reducible rfl):wpList P ops Q (o :: rest) a W:=h
theorem be_ (N:Tmp) (cs:Array Value) (t:TypeId) (h:∀ g,g=W.heap.size→∀ w1,w1.heap[g]? = some (.cells cs t (0,0))→Below W.heap.size W w1→wpList P ops Q rest (a.put o.dst (.pointer (some ⟨g,0,none⟩))) w1) (hd:o.dst=some N:=by rfl) (hgd:o.guard=none:=by rfl) (hrun:(execOp a.eval o).run P W = .ok (.value (.pointer (some ⟨W.heap.size,0,none⟩))) (W.alloc (.cells cs t (0,0))):=by first | (go_simp;done) | (go_simp;rfl)):wpList P ops Q (o :: rest) a W:=box_event hgd hd hrun h
theorem gl_ (N:Option Tmp) {f:FuncId} {fn:Func} {ars:Array Operand} {ts:Array TypeId} (hf:P.funcs[f]? = some fn) (args:Array Value) (h:Calls P f args W fun e w'=>∃ v,e = .returned v∧wpList P ops Q rest (a.put N v) w') (hd:o.dst=N:=by exact rfl) (hg:o.guard=none:=by exact rfl) (hname:(fn.name == "runtime.NumGoroutine")=false:=by kernel_rfl) (hb:fn.body.isSome=true:=by exact rfl) (hop:o.op = .call { callee:=.value (.func f),args:=ars,argTypes:=ts }:=by exact rfl) (hargs:ars.map a.eval=args:=by (try simp only [List.map_toArray,List.map_cons,List.map_nil]);first | done | rfl | (simp only [List.length_drop,List.length_take];rfl)):wpList P ops Q (o :: rest) a W:=goesL_ N hd hg hf hname hb args hop hargs h
theorem gs_ {N:Option Tmp} {K:Act→World→Prop} {f:FuncId} {fn:Func} {ars:Array Operand} {ts:Array TypeId} (hf:P.funcs[f]? = some fn) (args:Array Value) (h:Calls P f args W fun e w'=>∃ v,e = .returned v∧K (a.put N v) w') (hname:(fn.name == "runtime.NumGoroutine")=false:=by kernel_rfl) (hb:fn.body.isSome=true:=by exact rfl) (hw:Region.wanted o (yielded ops a.tmps)=true:=by rfl) (hN:o.dst=N:=by exact rfl) (hop:o.op = .call { callee:=.value (.func f),args:=ars,argTypes:=ts }:=by exact rfl) (hargs:ars.map a.eval=args:=by (try simp only [List.map_toArray,List.map_cons,List.map_nil]);first | done | rfl | (simp only [List.length_drop,List.length_take];rfl)):if Region.wanted o (yielded ops a.tmps)=true then Oper.wp P o a W K Q else K (a.put N undef) W:=goes_ hf hname hb args hw hN hop hargs h
end
theorem cc2_ {w:World} {g:Nat} {t:TypeId} {v0 v1:Value} (h:w.heap[g]? = some (.cells #[v0,v1] t (0,0))):w.cell? ⟨g,0,none⟩=some v0∧w.cell? ⟨g,1,none⟩=some v1:=⟨blk_cell h 0,blk_cell h 1⟩
theorem cj2_ {p:Prop} {w:World} {g:Nat} {t:TypeId} {v0 v1:Value} (h:w.heap[g]? = some (.cells #[v0,v1] t (0,0))) (r:p):w.cell? ⟨g,0,none⟩=some v0∧w.cell? ⟨g,1,none⟩=some v1∧p:=⟨blk_cell h 0,blk_cell h 1,r⟩
theorem blkB_ {W0 W W':World} {g:Nat} {o:Obj} (h:W0.heap[g]? = some o) (hb:Below W.heap.size W W') (f:W0.heap[g]? = some o→W.heap[g]? = some o:=by intro h_;(with_reducible repeat (first | refine blk_drewN ?_ _ | refine blk_drew ?_ | refine blk_alloc ?_ _));exact h_):W'.heap[g]? = some o:=blk_below (f h) hb
theorem neL_ {W0 W:World} {g b:Nat} {o:Obj} (h:W0.heap[b]? = some o) (hg:g=W.heap.size) (f:W0.heap[b]? = some o→W.heap[b]? = some o:=by intro h_;(with_reducible repeat (first | refine blk_drewN ?_ _ | refine blk_drew ?_ | refine blk_alloc ?_ _));exact h_):b≠g:=by rw [hg];exact Nat.ne_of_lt (blk_lt (f h))
theorem neG_ {W0 W:World} {g b:Nat} {o:Obj} (h:W0.heap[b]? = some o) (hg:g=W.heap.size) (f:W0.heap[b]? = some o→W.heap[b]? = some o:=by intro h_;(with_reducible repeat (first | refine blk_drewN ?_ _ | refine blk_drew ?_ | refine blk_alloc ?_ _));exact h_):g≠b:=by rw [hg];exact Nat.ne_of_gt (blk_lt (f h))
theorem cz2_ {w:World} {g:Nat} {t:TypeId} {v0 v1:Value} (h:w.heap[g]? = some (.cells #[v0,v1] t (0,0))):w.cell? ⟨g,0,none⟩=some v0∧w.cell? ⟨g,1,none⟩=some v1∧w.frozen? ⟨g,0,none⟩=false∧w.frozen? ⟨g,1,none⟩=false:=⟨blk_cell h 0,blk_cell h 1,blk_frozen h 0,blk_frozen h 1⟩
theorem cz4_ {w:World} {g:Nat} {t:TypeId} {v0 v1 v2 v3:Value} (h:w.heap[g]? = some (.cells #[v0,v1,v2,v3] t (0,0))):w.cell? ⟨g,0,none⟩=some v0∧w.cell? ⟨g,1,none⟩=some v1∧w.cell? ⟨g,2,none⟩=some v2∧w.cell? ⟨g,3,none⟩=some v3∧w.frozen? ⟨g,0,none⟩=false∧w.frozen? ⟨g,1,none⟩=false∧w.frozen? ⟨g,2,none⟩=false∧w.frozen? ⟨g,3,none⟩=false:=⟨blk_cell h 0,blk_cell h 1,blk_cell h 2,blk_cell h 3,blk_frozen h 0,blk_frozen h 1,blk_frozen h 2,blk_frozen h 3⟩
theorem cz7_ {w:World} {g:Nat} {t:TypeId} {v0 v1 v2 v3 v4 v5 v6:Value} (h:w.heap[g]? = some (.cells #[v0,v1,v2,v3,v4,v5,v6] t (0,0))):w.cell? ⟨g,0,none⟩=some v0∧w.cell? ⟨g,1,none⟩=some v1∧w.cell? ⟨g,2,none⟩=some v2∧w.cell? ⟨g,3,none⟩=some v3∧w.cell? ⟨g,4,none⟩=some v4∧w.cell? ⟨g,5,none⟩=some v5∧w.cell? ⟨g,6,none⟩=some v6∧w.frozen? ⟨g,0,none⟩=false∧w.frozen? ⟨g,1,none⟩=false∧w.frozen? ⟨g,2,none⟩=false∧w.frozen? ⟨g,3,none⟩=false∧w.frozen? ⟨g,4,none⟩=false∧w.frozen? ⟨g,5,none⟩=false∧w.frozen? ⟨g,6,none⟩=false:=⟨blk_cell h 0,blk_cell h 1,blk_cell h 2,blk_cell h 3,blk_cell h 4,blk_cell h 5,blk_cell h 6,blk_frozen h 0,blk_frozen h 1,blk_frozen h 2,blk_frozen h 3,blk_frozen h 4,blk_frozen h 5,blk_frozen h 6⟩
theorem cz10_ {w:World} {g:Nat} {t:TypeId} {v0 v1 v2 v3 v4 v5 v6 v7 v8 v9:Value} (h:w.heap[g]? = some (.cells #[v0,v1,v2,v3,v4,v5,v6,v7,v8,v9] t (0,0))):w.cell? ⟨g,0,none⟩=some v0∧w.cell? ⟨g,1,none⟩=some v1∧w.cell? ⟨g,2,none⟩=some v2∧w.cell? ⟨g,3,none⟩=some v3∧w.cell? ⟨g,4,none⟩=some v4∧w.cell? ⟨g,5,none⟩=some v5∧w.cell? ⟨g,6,none⟩=some v6∧w.cell? ⟨g,7,none⟩=some v7∧w.cell? ⟨g,8,none⟩=some v8∧w.cell? ⟨g,9,none⟩=some v9∧w.frozen? ⟨g,0,none⟩=false∧w.frozen? ⟨g,1,none⟩=false∧w.frozen? ⟨g,2,none⟩=false∧w.frozen? ⟨g,3,none⟩=false∧w.frozen? ⟨g,4,none⟩=false∧w.frozen? ⟨g,5,none⟩=false∧w.frozen? ⟨g,6,none⟩=false∧w.frozen? ⟨g,7,none⟩=false∧w.frozen? ⟨g,8,none⟩=false∧w.frozen? ⟨g,9,none⟩=false:=⟨blk_cell h 0,blk_cell h 1,blk_cell h 2,blk_cell h 3,blk_cell h 4,blk_cell h 5,blk_cell h 6,blk_cell h 7,blk_cell h 8,blk_cell h 9,blk_frozen h 0,blk_frozen h 1,blk_frozen h 2,blk_frozen h 3,blk_frozen h 4,blk_frozen h 5,blk_frozen h 6,blk_frozen h 7,blk_frozen h 8,blk_frozen h 9⟩
theorem cz12_ {w:World} {g:Nat} {t:TypeId} {v0 v1 v2 v3 v4 v5 v6 v7 v8 v9 v10 v11:Value} (h:w.heap[g]? = some (.cells #[v0,v1,v2,v3,v4,v5,v6,v7,v8,v9,v10,v11] t (0,0))):w.cell? ⟨g,0,none⟩=some v0∧w.cell? ⟨g,1,none⟩=some v1∧w.cell? ⟨g,2,none⟩=some v2∧w.cell? ⟨g,3,none⟩=some v3∧w.cell? ⟨g,4,none⟩=some v4∧w.cell? ⟨g,5,none⟩=some v5∧w.cell? ⟨g,6,none⟩=some v6∧w.cell? ⟨g,7,none⟩=some v7∧w.cell? ⟨g,8,none⟩=some v8∧w.cell? ⟨g,9,none⟩=some v9∧w.cell? ⟨g,10,none⟩=some v10∧w.cell? ⟨g,11,none⟩=some v11∧w.frozen? ⟨g,0,none⟩=false∧w.frozen? ⟨g,1,none⟩=false∧w.frozen? ⟨g,2,none⟩=false∧w.frozen? ⟨g,3,none⟩=false∧w.frozen? ⟨g,4,none⟩=false∧w.frozen? ⟨g,5,none⟩=false∧w.frozen? ⟨g,6,none⟩=false∧w.frozen? ⟨g,7,none⟩=false∧w.frozen? ⟨g,8,none⟩=false∧w.frozen? ⟨g,9,none⟩=false∧w.frozen? ⟨g,10,none⟩=false∧w.frozen? ⟨g,11,none⟩=false:=⟨blk_cell h 0,blk_cell h 1,blk_cell h 2,blk_cell h 3,blk_cell h 4,blk_cell h 5,blk_cell h 6,blk_cell h 7,blk_cell h 8,blk_cell h 9,blk_cell h 10,blk_cell h 11,blk_frozen h 0,blk_frozen h 1,blk_frozen h 2,blk_frozen h 3,blk_frozen h 4,blk_frozen h 5,blk_frozen h 6,blk_frozen h 7,blk_frozen h 8,blk_frozen h 9,blk_frozen h 10,blk_frozen h 11⟩
theorem put2_ {w:World} {g:Nat} {t:TypeId} {v0 v1 z0 z1:Value} (h:w.heap[g]? = some (.cells #[z0,z1] t (0,0))):((w.setCell ⟨g,0,none⟩ v0).setCell ⟨g,1,none⟩ v1).heap[g]? = some (.cells #[v0,v1] t (0,0)):=(blk_put (cs':=#[v0,v1]) (blk_put (cs':=#[v0,z1]) h 0 v0 rfl) 1 v1 rfl)
theorem rf2_ {α:Type} {d:Kd α} {e:TypeId} {w:World} {base g:Nat} {ok:Nat→Prop} {v:Value} {xs:List α} {v0 v1:Value} (h:d.R e w base ok v xs) (f:∀ k,ok k→k≠g):d.R e ((w.setCell ⟨g,0,none⟩ v0).setCell ⟨g,1,none⟩ v1) base ok v xs:=(Kd.R_far (p:=⟨g,1,none⟩) (Kd.R_far (p:=⟨g,0,none⟩) h f v0) f v1)
theorem put7_ {w:World} {g:Nat} {t:TypeId} {v0 v1 v2 v3 v4 v5 v6 z0 z1 z2 z3 z4 z5 z6:Value} (h:w.heap[g]? = some (.cells #[z0,z1,z2,z3,z4,z5,z6] t (0,0))):(((((((w.setCell ⟨g,0,none⟩ v0).setCell ⟨g,1,none⟩ v1).setCell ⟨g,2,none⟩ v2).setCell ⟨g,3,none⟩ v3).setCell ⟨g,4,none⟩ v4).setCell ⟨g,5,none⟩ v5).setCell ⟨g,6,none⟩ v6).heap[g]? = some (.cells #[v0,v1,v2,v3,v4,v5,v6] t (0,0)):=(blk_put (cs':=#[v0,v1,v2,v3,v4,v5,v6]) (blk_put (cs':=#[v0,v1,v2,v3,v4,v5,z6]) (blk_put (cs':=#[v0,v1,v2,v3,v4,z5,z6]) (blk_put (cs':=#[v0,v1,v2,v3,z4,z5,z6]) (blk_put (cs':=#[v0,v1,v2,z3,z4,z5,z6]) (blk_put (cs':=#[v0,v1,z2,z3,z4,z5,z6]) (blk_put (cs':=#[v0,z1,z2,z3,z4,z5,z6]) h 0 v0 rfl) 1 v1 rfl) 2 v2 rfl) 3 v3 rfl) 4 v4 rfl) 5 v5 rfl) 6 v6 rfl)
theorem rf7_ {α:Type} {d:Kd α} {e:TypeId} {w:World} {base g:Nat} {ok:Nat→Prop} {v:Value} {xs:List α} {v0 v1 v2 v3 v4 v5 v6:Value} (h:d.R e w base ok v xs) (f:∀ k,ok k→k≠g):d.R e (((((((w.setCell ⟨g,0,none⟩ v0).setCell ⟨g,1,none⟩ v1).setCell ⟨g,2,none⟩ v2).setCell ⟨g,3,none⟩ v3).setCell ⟨g,4,none⟩ v4).setCell ⟨g,5,none⟩ v5).setCell ⟨g,6,none⟩ v6) base ok v xs:=(Kd.R_far (p:=⟨g,6,none⟩) (Kd.R_far (p:=⟨g,5,none⟩) (Kd.R_far (p:=⟨g,4,none⟩) (Kd.R_far (p:=⟨g,3,none⟩) (Kd.R_far (p:=⟨g,2,none⟩) (Kd.R_far (p:=⟨g,1,none⟩) (Kd.R_far (p:=⟨g,0,none⟩) h f v0) f v1) f v2) f v3) f v4) f v5) f v6)
theorem put10_ {w:World} {g:Nat} {t:TypeId} {v0 v1 v2 v3 v4 v5 v6 v7 v8 v9 z0 z1 z2 z3 z4 z5 z6 z7 z8 z9:Value} (h:w.heap[g]? = some (.cells #[z0,z1,z2,z3,z4,z5,z6,z7,z8,z9] t (0,0))):((((((((((w.setCell ⟨g,0,none⟩ v0).setCell ⟨g,1,none⟩ v1).setCell ⟨g,2,none⟩ v2).setCell ⟨g,3,none⟩ v3).setCell ⟨g,4,none⟩ v4).setCell ⟨g,5,none⟩ v5).setCell ⟨g,6,none⟩ v6).setCell ⟨g,7,none⟩ v7).setCell ⟨g,8,none⟩ v8).setCell ⟨g,9,none⟩ v9).heap[g]? = some (.cells #[v0,v1,v2,v3,v4,v5,v6,v7,v8,v9] t (0,0)):=(blk_put (cs':=#[v0,v1,v2,v3,v4,v5,v6,v7,v8,v9]) (blk_put (cs':=#[v0,v1,v2,v3,v4,v5,v6,v7,v8,z9]) (blk_put (cs':=#[v0,v1,v2,v3,v4,v5,v6,v7,z8,z9]) (blk_put (cs':=#[v0,v1,v2,v3,v4,v5,v6,z7,z8,z9]) (blk_put (cs':=#[v0,v1,v2,v3,v4,v5,z6,z7,z8,z9]) (blk_put (cs':=#[v0,v1,v2,v3,v4,z5,z6,z7,z8,z9]) (blk_put (cs':=#[v0,v1,v2,v3,z4,z5,z6,z7,z8,z9]) (blk_put (cs':=#[v0,v1,v2,z3,z4,z5,z6,z7,z8,z9]) (blk_put (cs':=#[v0,v1,z2,z3,z4,z5,z6,z7,z8,z9]) (blk_put (cs':=#[v0,z1,z2,z3,z4,z5,z6,z7,z8,z9]) h 0 v0 rfl) 1 v1 rfl) 2 v2 rfl) 3 v3 rfl) 4 v4 rfl) 5 v5 rfl) 6 v6 rfl) 7 v7 rfl) 8 v8 rfl) 9 v9 rfl)
theorem rf10_ {α:Type} {d:Kd α} {e:TypeId} {w:World} {base g:Nat} {ok:Nat→Prop} {v:Value} {xs:List α} {v0 v1 v2 v3 v4 v5 v6 v7 v8 v9:Value} (h:d.R e w base ok v xs) (f:∀ k,ok k→k≠g):d.R e ((((((((((w.setCell ⟨g,0,none⟩ v0).setCell ⟨g,1,none⟩ v1).setCell ⟨g,2,none⟩ v2).setCell ⟨g,3,none⟩ v3).setCell ⟨g,4,none⟩ v4).setCell ⟨g,5,none⟩ v5).setCell ⟨g,6,none⟩ v6).setCell ⟨g,7,none⟩ v7).setCell ⟨g,8,none⟩ v8).setCell ⟨g,9,none⟩ v9) base ok v xs:=(Kd.R_far (p:=⟨g,9,none⟩) (Kd.R_far (p:=⟨g,8,none⟩) (Kd.R_far (p:=⟨g,7,none⟩) (Kd.R_far (p:=⟨g,6,none⟩) (Kd.R_far (p:=⟨g,5,none⟩) (Kd.R_far (p:=⟨g,4,none⟩) (Kd.R_far (p:=⟨g,3,none⟩) (Kd.R_far (p:=⟨g,2,none⟩) (Kd.R_far (p:=⟨g,1,none⟩) (Kd.R_far (p:=⟨g,0,none⟩) h f v0) f v1) f v2) f v3) f v4) f v5) f v6) f v7) f v8) f v9)
theorem rf12_ {α:Type} {d:Kd α} {e:TypeId} {w:World} {base g:Nat} {ok:Nat→Prop} {v:Value} {xs:List α} {v0 v1 v2 v3 v4 v5 v6 v7 v8 v9 v10 v11:Value} (h:d.R e w base ok v xs) (f:∀ k,ok k→k≠g):d.R e ((((((((((((w.setCell ⟨g,0,none⟩ v0).setCell ⟨g,1,none⟩ v1).setCell ⟨g,2,none⟩ v2).setCell ⟨g,3,none⟩ v3).setCell ⟨g,4,none⟩ v4).setCell ⟨g,5,none⟩ v5).setCell ⟨g,6,none⟩ v6).setCell ⟨g,7,none⟩ v7).setCell ⟨g,8,none⟩ v8).setCell ⟨g,9,none⟩ v9).setCell ⟨g,10,none⟩ v10).setCell ⟨g,11,none⟩ v11) base ok v xs:=(Kd.R_far (p:=⟨g,11,none⟩) (Kd.R_far (p:=⟨g,10,none⟩) (Kd.R_far (p:=⟨g,9,none⟩) (Kd.R_far (p:=⟨g,8,none⟩) (Kd.R_far (p:=⟨g,7,none⟩) (Kd.R_far (p:=⟨g,6,none⟩) (Kd.R_far (p:=⟨g,5,none⟩) (Kd.R_far (p:=⟨g,4,none⟩) (Kd.R_far (p:=⟨g,3,none⟩) (Kd.R_far (p:=⟨g,2,none⟩) (Kd.R_far (p:=⟨g,1,none⟩) (Kd.R_far (p:=⟨g,0,none⟩) h f v0) f v1) f v2) f v3) f v4) f v5) f v6) f v7) f v8) f v9) f v10) f v11)
theorem z0_ {a0 p:Prop} (h0:a0) (f:a0→p:=by intro h0_;(with_reducible repeat (first | apply Kd.R_alloc | apply Kd.R_drewN | apply Kd.R_drew));exact h0_):p:=f h0
theorem z1_ {p:Prop} (f:p:=by first | rfl | (simp;done) | (simp [*];done) | (simp [bne];done)):p:=f
theorem z2_ {p:Prop} (f:p:=by first | (with_reducible assumption) | assumption):p:=f
theorem z3_ {a0 p:Prop} (h0:a0) (f:a0→p:=by intro h0_;repeat (first | (with_reducible first | exact h0_ | apply below_alloc | apply pw_below_drewN | apply below_drew1) | exact h0_)):p:=f h0
theorem z4_ {a0 p:Prop} (h0:a0) (f:a0→p:=by intro h0_;(with_reducible repeat (first | refine blk_drewN ?_ _ | refine blk_drew ?_ | refine blk_alloc ?_ _));exact h0_):p:=f h0
theorem z5_ {p:Prop} (f:p:=by repeat (first | exact Drawn0.refl _ | apply Drawn0.step)):p:=f
theorem z6_ {a0 p:Prop} (h0:a0) (f:a0→p:=by intro h0_;repeat (first | (with_reducible first | exact h0_ | apply Kept.alloc | apply Kept.drewN | apply Kept.drew) | exact h0_)):p:=f h0
theorem z7_ {a0 a1 p:Prop} (h0:a0) (h1:a1) (f:a0→a1→p:=by intro h0_ h1_;repeat (first | (with_reducible first | exact h0_ | apply below_alloc | apply pw_below_drewN | apply below_drew1 | refine below_set ?_ h1_) | exact h0_)):p:=f h0 h1
theorem z8_ {a0 a1 a2 p:Prop} (h0:a0) (h1:a1) (h2:a2) (f:a0→a1→a2→p:=by intro h0_ h1_ h2_;repeat (first | (with_reducible first | exact h0_ | apply below_alloc | apply pw_below_drewN | apply below_drew1 | refine below_set ?_ h1_ | refine below_set ?_ h2_) | exact h0_)):p:=f h0 h1 h2
theorem z9_ {a0 p:Prop} (h0:a0) (f:a0→p:=by intro h0_;rw [hg];exact (below_size (by repeat (first | (with_reducible first | exact h0_ | apply below_alloc | apply pw_below_drewN | apply below_drew1) | exact h0_)))):p:=f h0
theorem z10_ {p:Prop} (f:p:=by first | rfl | (simp [errW_none,errW_some] <;> rfl) | (simp [*,errW_none,errW_some] <;> rfl)):p:=f
theorem z11_ {a0 a1 p:Prop} (h0:a0) (h1:a1) (f:a0→a1→p:=by intro h0_ h1_;rw [hg];exact (below_size (by repeat (first | (with_reducible first | exact h0_ | apply below_alloc | apply pw_below_drewN | apply below_drew1 | refine below_set ?_ h1_) | exact h0_)))):p:=f h0 h1
theorem z12_ {a0 a1 a2 a3 p:Prop} (h0:a0) (h1:a1) (h2:a2) (h3:a3) (f:a0→a1→a2→a3→p:=by intro h0_ h1_ h2_ h3_;repeat (first | (with_reducible first | exact h0_ | apply below_alloc | apply pw_below_drewN | apply below_drew1 | refine below_set ?_ h1_ | refine below_set ?_ h2_ | refine below_set ?_ h3_) | exact h0_)):p:=f h0 h1 h2 h3
theorem z13_ {p:Prop} (f:p:=by first | exact Kd.R_nil _ _ _ _ _ | exact Kd.N_nil _ _ _ _ _ | exact Kd.V_nil _ _ _ _ _ | exact Kd.Q_nil _ _ _ _ _ | exact Kd.S_nil _ _ _ _ _):p:=f
theorem z14_ {a0 a1 p:Prop} (h0:a0) (h1:a1) (f:a0→a1→p:=by intro h0_ h1_;(with_reducible repeat (first | apply Kd.R_alloc | apply Kd.R_drewN | apply Kd.R_drew));exact (Kd.R_mono (Kd.R_far (p:=⟨gb1018,13,none⟩) (Kd.R_far (p:=⟨gb1018,12,none⟩) (rf12_ (Kd.R_types h0_ h1_ (by decide)) (fun _ hk=>hk.2)) (fun _ hk=>hk.2) (.int .i64 t1016)) (fun _ hk=>hk.2) (.int .i64 t1017)) (fun _ h_=>h_.1))):p:=f h0 h1
theorem z15_ {a0 a1 p:Prop} (h0:a0) (h1:a1) (f:a0→a1→p:=by intro h0_ h1_;repeat (first | (with_reducible first | exact h0_ | apply below_alloc | apply pw_below_drewN | apply below_drew1 | refine below_set ?_ (IsS3.ge h1_)) | exact h0_)):p:=f h0 h1
theorem z16_ {a0 a1 p:Prop} (h0:a0) (h1:a1) (f:a0→a1→p:=by intro h0_ h1_;(with_reducible repeat (first | apply Kd.R_alloc | apply Kd.R_drewN | apply Kd.R_drew));exact (Kd.R_mono (Kd.R_far (p:=⟨gb988,13,none⟩) (Kd.R_far (p:=⟨gb988,12,none⟩) (rf12_ (Kd.R_types h0_ h1_ (by decide)) (fun _ hk=>hk.2)) (fun _ hk=>hk.2) (.int .i64 t986)) (fun _ hk=>hk.2) (.int .i64 t987)) (fun _ h_=>h_.1))):p:=f h0 h1
theorem z17_ {a0 p:Prop} (h0:a0) (f:a0→p:=by intro h0_;repeat (first | (with_reducible first | exact h0_ | apply KeepBut.set_ | apply keep_drewN | apply keep_drew | apply keep_alloc) | exact h0_)):p:=f h0
theorem z18_ {a0 a1 p:Prop} (h0:a0) (h1:a1) (f:a0→a1→p:=by intro h0_ h1_;repeat (first | (with_reducible first | exact h0_ | apply Kept.alloc | apply Kept.drewN | apply Kept.drew | refine Kept.setCell ?_ (.inr h1_) _) | exact h0_)):p:=f h0 h1
theorem z19_ {a0 p:Prop} (h0:a0) (f:a0→p:=by intro h0_;have h_:(x5_1:Int)<((x0_1.length:Int):Int):=dT (by first | (with_reducible assumption) | assumption);first | exact h_ | (have e_:=(Kd.R_reads' h0_).1;omega) | simpa using h_):p:=f h0
theorem z20_ {a0 a1 p:Prop} (h0:a0) (h1:a1) (f:a0→a1→p:=by intro h0_ h1_;(with_reducible repeat (first | apply Kd.R_alloc | apply Kd.R_drewN | apply Kd.R_drew));exact (Kd.R_mono (Kd.R_far (p:=⟨gb965,13,none⟩) (Kd.R_far (p:=⟨gb965,12,none⟩) (rf12_ (Kd.R_types h0_ h1_ (by decide)) (fun _ hk=>hk.2)) (fun _ hk=>hk.2) (.int .i64 t963)) (fun _ hk=>hk.2) (.int .i64 t964)) (fun _ h_=>h_.1))):p:=f h0 h1
theorem z21_ {a0 a1 a2 p:Prop} (h0:a0) (h1:a1) (h2:a2) (f:a0→a1→a2→p:=by intro h0_ h1_ h2_;have:=h0_;have:=h1_;have:=h2_;first | omega | exact Nat.le_refl _):p:=f h0 h1 h2
theorem z22_ {a0 p:Prop} (h0:a0) (f:a0→p:=by intro h0_;repeat (first | (with_reducible first | exact h0_ | apply IsS3.alloc | apply IsS3.drewN | apply IsS3.drew | apply IsS3.set_0) | exact h0_)):p:=f h0
theorem z23_ {a0 p:Prop} (h0:a0) (f:a0→p:=by intro h0_;(try simp only [hl0_1]);(try simp only [hl0_5]);(with_reducible repeat (first | apply Kd.R_alloc | apply Kd.R_drewN | apply Kd.R_drew));exact h0_):p:=f h0
theorem z24_ {a0 a1 a2 p:Prop} (h0:a0) (h1:a1) (h2:a2) (f:a0→a1→a2→p:=by intro h0_ h1_ h2_;rw [hg];exact (below_size (by repeat (first | (with_reducible first | exact h0_ | apply below_alloc | apply pw_below_drewN | apply below_drew1 | refine below_set ?_ h1_ | refine below_set ?_ h2_) | exact h0_)))):p:=f h0 h1 h2
theorem z25_ {a0 p:Prop} (h0:a0) (f:a0→p:=by intro h0_;(try simp only [hl0_1]);(with_reducible repeat (first | apply Kd.R_alloc | apply Kd.R_drewN | apply Kd.R_drew));exact h0_):p:=f h0
theorem z26_ {a0 a1 p:Prop} (h0:a0) (h1:a1) (f:a0→a1→p:=by intro h0_ h1_;(with_reducible repeat (first | apply Kd.R_alloc | apply Kd.R_drewN | apply Kd.R_drew));exact Kd.R_mono (rf10_ (Kd.R_types h0_ h1_ (by decide)) (fun _ hk=>hk.2)) (fun _ hk=>trivial)):p:=f h0 h1
theorem z27_ {a0 a1 p:Prop} (h0:a0) (h1:a1) (f:a0→a1→p:=by intro h0_ h1_;(with_reducible repeat (first | apply Kd.R_alloc | apply Kd.R_drewN | apply Kd.R_drew));exact (Kd.R_mono (rf10_ (Kd.R_types h0_ h1_ (by decide)) (fun _ hk=>hk.2)) (fun _ h_=>h_.1))):p:=f h0 h1
theorem z28_ {a0 p:Prop} (h0:a0) (f:a0→p:=by intro h0_;repeat (first | (with_reducible exact h0_) | (with_reducible refine Kd.C_alloc ?_ _) | (with_reducible refine Kd.C_drewN ?_ _) | (with_reducible refine Kd.C_drew ?_) | exact h0_)):p:=f h0
theorem z29_ {a0 p:Prop} (h0:a0) (f:a0→p:=by intro h0_;(with_reducible repeat (first | refine blk_drewN ?_ _ | refine blk_drew ?_ | refine blk_alloc ?_ _));apply put10_;(with_reducible repeat (first | refine blk_drewN ?_ _ | refine blk_drew ?_ | refine blk_alloc ?_ _));exact h0_):p:=f h0
theorem z30_ {a0 a1 p:Prop} (h0:a0) (h1:a1) (f:a0→a1→p:=by intro h0_ h1_;repeat (first | (with_reducible first | exact h0_ | apply Kept.alloc | apply Kept.drewN | apply Kept.drew | refine Kept.setCell ?_ h1_ _ | refine Kept.setCell ?_ h1_ _ | refine Kept.setCell ?_ h1_ _ | refine Kept.setCell ?_ h1_ _) | exact h0_)):p:=f h0 h1
theorem z31_ {a0 a1 p:Prop} (h0:a0) (h1:a1) (f:a0→a1→p:=by intro h0_ h1_;repeat (first | (with_reducible first | exact h0_ | apply below_alloc | apply pw_below_drewN | apply below_drew1 | refine below_set ?_ h1_ | refine below_set ?_ h1_ | refine below_set ?_ h1_ | refine below_set ?_ h1_) | exact h0_)):p:=f h0 h1
theorem z32_ {p:Prop} (f:p:=by (try simp only [List.map_toArray,List.map_cons,List.map_nil]);first | done | rfl | (simp only [List.length_drop,List.length_take];rfl)):p:=f
theorem z33_ {a0 p:Prop} (h0:a0) (f:a0→p:=by intro h0_;(with_reducible repeat (first | refine blk_drewN ?_ _ | refine blk_drew ?_ | refine blk_alloc ?_ _));apply put2_;(with_reducible repeat (first | refine blk_drewN ?_ _ | refine blk_drew ?_ | refine blk_alloc ?_ _));exact h0_):p:=f h0
theorem z34_ {a0 a1 p:Prop} (h0:a0) (h1:a1) (f:a0→a1→p:=by intro h0_ h1_;(with_reducible repeat (first | refine blk_drewN ?_ _ | refine blk_drew ?_ | refine blk_alloc ?_ _));refine blk_far ?_ h0_ _;(with_reducible repeat (first | refine blk_drewN ?_ _ | refine blk_drew ?_ | refine blk_alloc ?_ _));refine blk_far ?_ h0_ _;(with_reducible repeat (first | refine blk_drewN ?_ _ | refine blk_drew ?_ | refine blk_alloc ?_ _));exact h1_):p:=f h0 h1
theorem z35_ {a0 a1 p:Prop} (h0:a0) (h1:a1) (f:a0→a1→p:=by intro h0_ h1_;(with_reducible repeat (first | refine blk_drewN ?_ _ | refine blk_drew ?_ | refine blk_alloc ?_ _));refine blk_far ?_ h0_ _;(with_reducible repeat (first | refine blk_drewN ?_ _ | refine blk_drew ?_ | refine blk_alloc ?_ _));exact h1_):p:=f h0 h1
theorem z36_ {a0 p:Prop} (h0:a0) (f:a0→p:=by intro h0_;have h_:(x13_3:Int)<((y279.length:Int):Int):=dT (by first | (with_reducible assumption) | assumption);first | exact h_ | (have e_:=(Kd.R_reads' h0_).1;omega) | simpa using h_):p:=f h0
theorem z37_ {a0 p:Prop} (h0:a0) (f:a0→p:=by intro h0_;have h_:(x13_8:Int)<((x0_5.length:Int):Int):=dT (by first | (with_reducible assumption) | assumption);first | exact h_ | (have e_:=(Kd.R_reads' h0_).1;omega) | simpa using h_):p:=f h0
theorem z38_ {a0 p:Prop} (h0:a0) (f:a0→p:=by intro h0_;(with_reducible repeat (first | apply Kd.R_alloc | apply Kd.R_drewN | apply Kd.R_drew));exact Kd.R_mono h0_ (fun _ hk=>hk.1)):p:=f h0
theorem z39_ {a0 p:Prop} (h0:a0) (f:a0→p:=by intro h0_;(with_reducible repeat (first | apply Kd.R_alloc | apply Kd.R_drewN | apply Kd.R_drew));exact Kd.R_mono h0_ (fun _ hk=>⟨hk.1.2,hk.2⟩)):p:=f h0
theorem z40_ {a0 a1 p:Prop} (h0:a0) (h1:a1) (f:a0→a1→p:=by intro h0_ h1_;(with_reducible repeat (first | refine blk_drewN ?_ _ | refine blk_drew ?_ | refine blk_alloc ?_ _));refine blk_far ?_ h0_ _;(with_reducible repeat (first | refine blk_drewN ?_ _ | refine blk_drew ?_ | refine blk_alloc ?_ _));refine blk_far ?_ h0_ _;(with_reducible repeat (first | refine blk_drewN ?_ _ | refine blk_drew ?_ | refine blk_alloc ?_ _));refine blk_far ?_ h0_ _;(with_reducible repeat (first | refine blk_drewN ?_ _ | refine blk_drew ?_ | refine blk_alloc ?_ _));refine blk_far ?_ h0_ _;(with_reducible repeat (first | refine blk_drewN ?_ _ | refine blk_drew ?_ | refine blk_alloc ?_ _));refine blk_far ?_ h0_ _;(with_reducible repeat (first | refine blk_drewN ?_ _ | refine blk_drew ?_ | refine blk_alloc ?_ _));refine blk_far ?_ h0_ _;(with_reducible repeat (first | refine blk_drewN ?_ _ | refine blk_drew ?_ | refine blk_alloc ?_ _));refine blk_far ?_ h0_ _;(with_reducible repeat (first | refine blk_drewN ?_ _ | refine blk_drew ?_ | refine blk_alloc ?_ _));refine blk_far ?_ h0_ _;(with_reducible repeat (first | refine blk_drewN ?_ _ | refine blk_drew ?_ | refine blk_alloc ?_ _));refine blk_far ?_ h0_ _;(with_reducible repeat (first | refine blk_drewN ?_ _ | refine blk_drew ?_ | refine blk_alloc ?_ _));refine blk_far ?_ h0_ _;(with_reducible repeat (first | refine blk_drewN ?_ _ | refine blk_drew ?_ | refine blk_alloc ?_ _));refine blk_far ?_ h0_ _;(with_reducible repeat (first | refine blk_drewN ?_ _ | refine blk_drew ?_ | refine blk_alloc ?_ _));refine blk_far ?_ h0_ _;(with_reducible repeat (first | refine blk_drewN ?_ _ | refine blk_drew ?_ | refine blk_alloc ?_ _));refine blk_far ?_ h0_ _;(with_reducible repeat (first | refine blk_drewN ?_ _ | refine blk_drew ?_ | refine blk_alloc ?_ _));refine blk_far ?_ h0_ _;(with_reducible repeat (first | refine blk_drewN ?_ _ | refine blk_drew ?_ | refine blk_alloc ?_ _));exact h1_):p:=f h0 h1
end Go.Proofs.YtelecnmflodkkaaGreatDoor.P

namespace Go.Proofs.YtelecnmflodkkaaGreatDoor.P
open Go.RowKit Go.Proofs.YtelecnmflodkkaaGreatDoorW.PrintWords Go.Proofs.YtelecnmflodkkaaGreatDoorW.PrintLast Go.Proofs.YtelecnmflodkkaaGreatDoorW.PrintMore
attribute [local go_sem] max2_int min2_int max_two min_two max_three min_three max_four min_four   -- for this text's walks alone
set_option linter.unusedVariables false
set_option linter.unusedSimpArgs false

/-! ### Y51: function 55 -/
def Y51.l0:Nat→ByteArray→Int→Int→Option (Int)
 | 0,_,_,_=>none
 | k+1,x0,x3,x4=>if x4<(x0.size:Int) then (if 0≤x4 then (Y51.l0 k x0 (Int.tmod (wrap64 ((Go.bits .xor .i64 x3 (wrap64 (bt x0 x4)))*16777619)) 4294967296) (wrap64 (x4+1))) else (none)) else (some x3)
def Y51.f (k:Nat) (a0:ByteArray):Option (Int):=Y51.l0 k a0 2166136261 0
theorem Y51.mono_l:∀ k,(∀ y0 y1 y2,LeO (Y51.l0 k y0 y1 y2) (Y51.l0 (k+1) y0 y1 y2))
 | 0=>by intros <;> exact LeO.none _
 | k+1=>by
  have ih0:=Y51.mono_l k
  ·intros
   unfold Y51.l0
   exact mO
theorem Y51.mono:∀ a0 k,LeO (Y51.f k a0) (Y51.f (k+1) a0):=by
 intro a0 k
 have ih0:=Y51.mono_l k
 unfold Y51.f
 exact mO
theorem Y51.calls (k:Nat) (a0:ByteArray) (r:Int) (w:World) (h:Y51.f k a0=some r) :
  Calls Tryz.prog 55 #[.string a0] w fun e w'=>e = .returned (.int .i64 r)∧Drawn0 w w':=by
 have H:(Y51.l0 k a0 2166136261 0)=some r:=h
 clear h
 have H':=aM H
 clear H
 go_enter Tryz.func55,Tryz.ntmps55
 go_wp2
 go_loopg [3,4] k (fun kq v3 v4 w'=>∃ (x3_1:Int) (x4_1:Int),v3 = .int .i64 x3_1∧v4 = .int .i64 x4_1∧Aside0 (Y51.l0 kq a0 x3_1 x4_1=some r)∧Aside0 (kq≤k)∧Drawn0 w w')
 case atStart=>exact ⟨(2166136261),(0),(z1_),(z1_),H',⟨Nat.le_refl _⟩,z5_⟩
 case round =>
  clear H'
  obtain ⟨x3_1,x4_1,rfl,rfl,HA,HK1,⟨m1,rfl⟩⟩:=hrel
  cases gk with
  | zero=>exact absurd HA.out (by simp [Y51.l0])
  | succ k1 =>
   have H:=HA.out
   clear HA
   simp only [Y51.l0] at H
   by_cases c2:x4_1<(a0.size:Int)
   ·rw [if_pos c2] at H
    have c2b0:decide (x4_1<(a0.size:Int))=true:=dE c2
    clear c2
    by_cases c3:0≤x4_1
    ·rw [if_pos c3] at H
     have c3b0:decide (0≤x4_1)=true:=dE c3
     clear c3
     have H':=aM H
     clear H
     have p4:0≤(x4_1:Int):=dT (z2_)
     have q4:x4_1<(a0.size:Int):=dT (z2_)
     have hx4:=bt_at a0 x4_1
     replace p4:=eq_true p4
     replace q4:=eq_true q4
     go_wp2
     go_roundg k1
     case measure=>have:=HK1.out;omega
     case rel=>exact ⟨(Int.tmod (wrap64 ((Go.bits .xor .i64 x3_1 (wrap64 (bt a0 x4_1)))*16777619)) 4294967296),(wrap64 (x4_1+1)),(z1_),(z1_),H',⟨by have:=HK1.out;omega⟩,z5_⟩
    ·rw [if_neg c3] at H
     exact nO H
   ·rw [if_neg c2] at H
    have c2b0:decide (x4_1<(a0.size:Int))=false:=dF c2
    clear c2
    obtain rfl:=sI H
    go_wp2
    go_ret
    exact ⟨z1_,z5_⟩


/-! ### Y36: function 75 -/
def Y36.l0:Nat→Int→Bool→ByteArray→Option (ByteArray)
 | 0,_,_,_=>none
 | k+1,x0,x3,x4=>if x0=0 then (if x3=true then (if 1+x4.size≤9223372036854775807 then (some ((⟨#[45]⟩:ByteArray) ++ x4)) else (none)) else (some x4)) else (if (Int.tmod x0 10)<0 then ((some (([(wrap64 (48+(wrap64 (-(Int.tmod x0 10))))) % 256]:List Int):List Int)).bind fun y121=>(if (strOfNums y121).size+x4.size≤9223372036854775807 then (Y36.l0 k (wrap64 (Int.tdiv x0 10)) x3 ((strOfNums y121) ++ x4)) else (none))) else ((some (([(wrap64 (48+(Int.tmod x0 10))) % 256]:List Int):List Int)).bind fun y124=>(if (strOfNums y124).size+x4.size≤9223372036854775807 then (Y36.l0 k (wrap64 (Int.tdiv x0 10)) x3 ((strOfNums y124) ++ x4)) else (none))))
def Y36.f (k:Nat) (a0:Int):Option (ByteArray):=if a0=0 then (some (⟨#[48]⟩:ByteArray)) else (Y36.l0 k a0 (decide (a0<0)) (⟨#[]⟩:ByteArray))
theorem Y36.mono_l:∀ k,(∀ y0 y1 y2,LeO (Y36.l0 k y0 y1 y2) (Y36.l0 (k+1) y0 y1 y2))
 | 0=>by intros <;> exact LeO.none _
 | k+1=>by
  have ih0:=Y36.mono_l k
  ·intros
   unfold Y36.l0
   exact mO
theorem Y36.mono:∀ a0 k,LeO (Y36.f k a0) (Y36.f (k+1) a0):=by
 intro a0 k
 have ih0:=Y36.mono_l k
 unfold Y36.f
 exact mO
theorem Y36.calls (k:Nat) (a0:Int) (r:ByteArray) (w:World) (h:Y36.f k a0=some r) :
  Calls Tryz.prog 75 #[.int .i64 a0] w fun e w'=>e = .returned (.string r)∧Below w.heap.size w w':=by
 have HB:=aM (Below.refl w.heap.size w)
 have H:(if a0=0 then (some (⟨#[48]⟩:ByteArray)) else (Y36.l0 k a0 (decide (a0<0)) (⟨#[]⟩:ByteArray)))=some r:=h
 clear h
 by_cases c2:a0=0
 ·rw [if_pos c2] at H
  have c2b0:(a0 == 0)=true:=beq_iff_eq.mpr c2
  have c2b1:(a0 != 0)=false:=bne_eq_false_iff_eq.mpr c2
  clear c2
  obtain rfl:=sI H
  go_enter Tryz.func75,Tryz.ntmps75
  go_wp2
  go_ret
  exact ⟨z10_,z3_ HB.out⟩
 ·rw [if_neg c2] at H
  have c2b0:(a0 == 0)=false:=beq_eq_false_iff_ne.mpr c2
  have c2b1:(a0 != 0)=true:=bne_iff_ne.mpr c2
  have H':=aM H
  clear H
  go_enter Tryz.func75,Tryz.ntmps75
  go_wp2
  go_loopg [0,4] k (fun kq v0 v4 w'=>∃ (x0_1:Int) (x4_1:ByteArray),v0 = .int .i64 x0_1∧v4 = .string x4_1∧Aside0 (Y36.l0 kq x0_1 (decide (a0<0)) x4_1=some r)∧Aside0 (kq≤k)∧Aside0 (Below w.heap.size w w'))
  case atStart=>exact ⟨(a0),((⟨#[]⟩:ByteArray)),(z1_),(z1_),H',⟨Nat.le_refl _⟩,⟨z3_ HB.out⟩⟩
  case round =>
   clear H'
   try clear c2
   try clear c2b0
   try clear c2b1
   try clear p2
   obtain ⟨x0_1,x4_1,rfl,rfl,HA,HK1,HB⟩:=hrel
   cases gk with
   | zero=>exact absurd HA.out (by simp [Y36.l0])
   | succ k1 =>
    have H:=HA.out
    clear HA
    simp only [Y36.l0] at H
    by_cases c3:x0_1=0
    ·rw [if_pos c3] at H
     have c3b0:(x0_1 == 0)=true:=beq_iff_eq.mpr c3
     have c3b1:(x0_1 != 0)=false:=bne_eq_false_iff_eq.mpr c3
     clear c3
     by_cases c4:(decide (a0<0))=true
     ·rw [if_pos c4] at H
      have c4b0:(decide (a0<0))=true:=c4
      have c4q0:(a0<0):=dT c4b0
      have c4q1:=eq_true c4q0
      clear c4
      by_cases c5:1+x4_1.size≤9223372036854775807
      ·rw [if_pos c5] at H
       have c5b0:=eq_true c5
       have c5b1:decide (1+x4_1.size≤9223372036854775807)=true:=dE c5
       try have c5b2:(9223372036854775807<1+x4_1.size)=False:=eq_false (Nat.not_lt.2 c5)
       obtain rfl:=sI H
       go_wp2
       go_ret
       exact ⟨z10_,z3_ HB.out⟩
      ·rw [if_neg c5] at H
       exact nO H
     ·rw [if_neg c4] at H
      have c4b0:(decide (a0<0))=false:=by simpa using c4
      have c4q0:¬ (a0<0):=of_decide_eq_false c4b0
      have c4q1:=eq_false c4q0
      clear c4
      obtain rfl:=sI H
      go_wp2
      go_ret
      exact ⟨z10_,z3_ HB.out⟩
    ·rw [if_neg c3] at H
     have c3b0:(x0_1 == 0)=false:=beq_eq_false_iff_ne.mpr c3
     have c3b1:(x0_1 != 0)=true:=bne_iff_ne.mpr c3
     by_cases c6:(Int.tmod x0_1 10)<0
     ·rw [if_pos c6] at H
      have c6b0:decide ((Int.tmod x0_1 10)<0)=true:=dE c6
      clear c6
      obtain ⟨y121,hy121⟩:∃ y_:List Int,y_=(([(wrap64 (48+(wrap64 (-(Int.tmod x0_1 10))))) % 256]:List Int)):=⟨_,rfl⟩
      replace H:(if (strOfNums y121).size+x4_1.size≤9223372036854775807 then (Y36.l0 k1 (wrap64 (Int.tdiv x0_1 10)) (decide (a0<0)) ((strOfNums y121) ++ x4_1)) else (none))=some r:=by first | (rw [hy121];with_reducible exact H) | (have H2_:=(Option.bind_some _ _).symm.trans H;rw [hy121];with_reducible exact H2_) | (have H2_:=(Option.bind_some _ _).symm.trans H;with_reducible exact H2_) | with_reducible exact H | (rw [hy121];exact H) | exact H
      have Ny121:=aM hy121
      clear hy121
      by_cases c7:(strOfNums y121).size+x4_1.size≤9223372036854775807
      ·rw [if_pos c7] at H
       have c7b0:=eq_true c7
       have c7b1:decide ((strOfNums y121).size+x4_1.size≤9223372036854775807)=true:=dE c7
       try have c7b2:(9223372036854775807<(strOfNums y121).size+x4_1.size)=False:=eq_false (Nat.not_lt.2 c7)
       have H':=aM H
       clear H
       go_wp2_with (first | ((with_reducible refine gd_ 21 ?_);refine Kd.R_lit (Kd.int .u8) _ 5 ?hg (N:=21) ?hd (xs:=([(wrap64 (48+(wrap64 (-(Int.tmod x0_1 10))))) % 256]:List Int)) (inner:=[.int .u8 ((wrap64 (48+(wrap64 (-(Int.tmod x0_1 10))))) % 256)]) (ok:=fun _=>True) (okp:=fun _=>True) ?hr ?hp (fun _ hk=>hk) trivial (Below.refl _ _) (Nat.le_refl _) (by simp) ?_;(case hd=>rfl);(case hg=>rfl);(case hr=>first | (go_simp;done) | (go_simp;rfl));(case hp=>exact (Reps.one (show Kd.M (Kd.int .u8) _ _ _ ((wrap64 (48+(wrap64 (-(Int.tmod x0_1 10))))) % 256) [.int .u8 ((wrap64 (48+(wrap64 (-(Int.tmod x0_1 10))))) % 256)] from rfl) (Reps.none _ _)));intro v122 w8 ho9 hb hg_ hnew_;clear hg_ hnew_;(first | rw [← Ny121.out] at ho9 | (simp only [Int.reduceToNat] at ho9;rw [← Ny121.out] at ho9));have n0_:=aM (Kd.R_lower ho9 (below_size (z3_ HB.out)));have n1_:=aM (below_step (z3_ HB.out) hb);clear HB;have HO123:=n0_;have HB:=n1_;clear n0_ n1_;clear hb ho9;have hcv10:=own_string (P:=Tryz.prog) Tryz.underlying22 Tryz.underlying5 Tryz.underlying9 (Kd.own_of_R HO123.out)))
       go_roundg k1
       case measure=>have:=HK1.out;omega
       case rel=>exact ⟨(wrap64 (Int.tdiv x0_1 10)),((strOfNums y121) ++ x4_1),(z1_),(z1_),H',⟨by have:=HK1.out;omega⟩,⟨z3_ HB.out⟩⟩
      ·rw [if_neg c7] at H
       exact nO H
     ·rw [if_neg c6] at H
      have c6b0:decide ((Int.tmod x0_1 10)<0)=false:=dF c6
      clear c6
      obtain ⟨y124,hy124⟩:∃ y_:List Int,y_=(([(wrap64 (48+(Int.tmod x0_1 10))) % 256]:List Int)):=⟨_,rfl⟩
      replace H:(if (strOfNums y124).size+x4_1.size≤9223372036854775807 then (Y36.l0 k1 (wrap64 (Int.tdiv x0_1 10)) (decide (a0<0)) ((strOfNums y124) ++ x4_1)) else (none))=some r:=by first | (rw [hy124];with_reducible exact H) | (have H2_:=(Option.bind_some _ _).symm.trans H;rw [hy124];with_reducible exact H2_) | (have H2_:=(Option.bind_some _ _).symm.trans H;with_reducible exact H2_) | with_reducible exact H | (rw [hy124];exact H) | exact H
      have Ny124:=aM hy124
      clear hy124
      by_cases c11:(strOfNums y124).size+x4_1.size≤9223372036854775807
      ·rw [if_pos c11] at H
       have c11b0:=eq_true c11
       have c11b1:decide ((strOfNums y124).size+x4_1.size≤9223372036854775807)=true:=dE c11
       try have c11b2:(9223372036854775807<(strOfNums y124).size+x4_1.size)=False:=eq_false (Nat.not_lt.2 c11)
       have H':=aM H
       clear H
       go_wp2_with (first | ((with_reducible refine gd_ 21 ?_);refine Kd.R_lit (Kd.int .u8) _ 5 ?hg (N:=21) ?hd (xs:=([(wrap64 (48+(Int.tmod x0_1 10))) % 256]:List Int)) (inner:=[.int .u8 ((wrap64 (48+(Int.tmod x0_1 10))) % 256)]) (ok:=fun _=>True) (okp:=fun _=>True) ?hr ?hp (fun _ hk=>hk) trivial (Below.refl _ _) (Nat.le_refl _) (by simp) ?_;(case hd=>rfl);(case hg=>rfl);(case hr=>first | (go_simp;done) | (go_simp;rfl));(case hp=>exact (Reps.one (show Kd.M (Kd.int .u8) _ _ _ ((wrap64 (48+(Int.tmod x0_1 10))) % 256) [.int .u8 ((wrap64 (48+(Int.tmod x0_1 10))) % 256)] from rfl) (Reps.none _ _)));intro v125 w12 ho13 hb hg_ hnew_;clear hg_ hnew_;(first | rw [← Ny124.out] at ho13 | (simp only [Int.reduceToNat] at ho13;rw [← Ny124.out] at ho13));have n0_:=aM (Kd.R_lower ho13 (below_size (z3_ HB.out)));have n1_:=aM (below_step (z3_ HB.out) hb);clear HB;have HO126:=n0_;have HB:=n1_;clear n0_ n1_;clear hb ho13;have hcv14:=own_string (P:=Tryz.prog) Tryz.underlying22 Tryz.underlying5 Tryz.underlying9 (Kd.own_of_R HO126.out)))
       go_roundg k1
       case measure=>have:=HK1.out;omega
       case rel=>exact ⟨(wrap64 (Int.tdiv x0_1 10)),((strOfNums y124) ++ x4_1),(z1_),(z1_),H',⟨by have:=HK1.out;omega⟩,⟨z3_ HB.out⟩⟩
      ·rw [if_neg c11] at H
       exact nO H


/-! ### Y9: function 46 -/
mutual
def Y9.l0:Nat→Int→Int→Int→Int→List (S78)→Option (Int × (List (S78)))
 | 0,_,_,_,_,_=>none
 | k+1,x0,x1,x6,x129000,x129001=>if x6≤x0 then (Y9.l1 k x0 x1 x6 1 x129000 x129001) else (some (x129000,x129001))
def Y9.l1:Nat→Int→Int→Int→Int→Int→List (S78)→Option (Int × (List (S78)))
 | 0,_,_,_,_,_,_=>none
 | k+1,x0,x1,x6,x7,x129000,x129001=>if x7≤x1 then ((Y36.f k x6).bind fun t129=>(if t129.size+1≤9223372036854775807 then ((Y36.f k x7).bind fun t130=>(if (t129.size+1)+t130.size≤9223372036854775807 then ((Y51.f k ((t129 ++ (⟨#[45]⟩:ByteArray)) ++ t130)).bind fun t131=>(Y9.l2 k x0 x1 x6 x7 0 x129000 x129001 t131 x6)) else (none))) else (none))) else (Y9.l0 k x0 x1 (wrap64 (x6+1)) x129000 x129001)
def Y9.l2:Nat→Int→Int→Int→Int→Int→Int→List (S78)→Int→Int→Option (Int × (List (S78)))
 | 0,_,_,_,_,_,_,_,_,_=>none
 | k+1,x0,x1,x6,x7,x9,x129000,x129001,x133000,x133001=>if x9<(x129001.length:Int) then (if 0≤x9 then (if ((rd_T78 x129001 x9).f0)<x133000 then (Y9.j3 k x0 x1 x6 x7 x9 true x129000 x129001 x133000 x133001) else (if ((rd_T78 x129001 x9).f0)=x133000 then (Y9.j3 k x0 x1 x6 x7 x9 (decide (((rd_T78 x129001 x9).f1)<x133001)) x129000 x129001 x133000 x133001) else (Y9.j3 k x0 x1 x6 x7 x9 false x129000 x129001 x133000 x133001))) else (none)) else (Y9.j3 k x0 x1 x6 x7 x9 false x129000 x129001 x133000 x133001)
def Y9.j3:Nat→Int→Int→Int→Int→Int→Bool→Int→List (S78)→Int→Int→Option (Int × (List (S78)))
 | 0,_,_,_,_,_,_,_,_,_,_=>none
 | k+1,x0,x1,x6,x7,x9,x69,x129000,x129001,x133000,x133001=>if x69=true then (Y9.l2 k x0 x1 x6 x7 (wrap64 (x9+1)) x129000 x129001 x133000 x133001) else ((some (([]:List (S78)):List (S78))).bind fun y136=>(if 0≤x9 then (if x9≤(x129001.length:Int) then ((some (x129001.take (x9:Int).toNat:List (S78))).bind fun y139=>(if y136.length+y139.length<8796093022208 then ((some (y136 ++ y139:List (S78))).bind fun y143=>(if y143.length<8796093022208 then ((some (y143 ++ [(⟨x133000,x133001⟩:S78)]:List (S78))).bind fun y146=>((some (x129001.drop (x9:Int).toNat:List (S78))).bind fun y149=>(if y146.length+y149.length<8796093022208 then (Y9.l1 k x0 x1 x6 (wrap64 (x7+1)) x129000 (y146 ++ y149)) else (none)))) else (none))) else (none))) else (none)) else (none)))
end
def Y9.f (k:Nat) (a0:Int) (a1:Int):Option (Int × (List (S78))):=Y9.l0 k a0 a1 1 a0 ([]:List (S78))
theorem Y9.mono_l:∀ k,(∀ y0 y1 y2 y3 y4,LeO (Y9.l0 k y0 y1 y2 y3 y4) (Y9.l0 (k+1) y0 y1 y2 y3 y4))∧(∀ y0 y1 y2 y3 y4 y5,LeO (Y9.l1 k y0 y1 y2 y3 y4 y5) (Y9.l1 (k+1) y0 y1 y2 y3 y4 y5))∧(∀ y0 y1 y2 y3 y4 y5 y6 y7 y8,LeO (Y9.l2 k y0 y1 y2 y3 y4 y5 y6 y7 y8) (Y9.l2 (k+1) y0 y1 y2 y3 y4 y5 y6 y7 y8))∧(∀ y0 y1 y2 y3 y4 y5 y6 y7 y8 y9,LeO (Y9.j3 k y0 y1 y2 y3 y4 y5 y6 y7 y8 y9) (Y9.j3 (k+1) y0 y1 y2 y3 y4 y5 y6 y7 y8 y9))
 | 0=>by refine ⟨?_,?_,?_,?_⟩ <;> intros <;> exact LeO.none _
 | k+1=>by
  obtain ⟨ih0,ih1,ih2,ih3⟩:=Y9.mono_l k
  have m0:=@Y36.mono
  have m1:=@Y51.mono
  refine ⟨?_,?_,?_,?_⟩
  ·intros
   unfold Y9.l0
   exact mO
  ·intros
   unfold Y9.l1
   exact mO
  ·intros
   unfold Y9.l2
   exact mO
  ·intros
   unfold Y9.j3
   exact mO
theorem Y9.mono:∀ a0 a1 k,LeO (Y9.f k a0 a1) (Y9.f (k+1) a0 a1):=by
 intro a0 a1 k
 have m0:=@Y36.mono
 have m1:=@Y51.mono
 obtain ⟨ih0,ih1,ih2,ih3⟩:=Y9.mono_l k
 unfold Y9.f
 exact mO
theorem Y9.calls (k:Nat) (a0:Int) (a1:Int) (r1:Int) (r2:List (S78)) (w:World) (h:Y9.f k a0 a1=some (r1,r2)) :
  Calls Tryz.prog 46 #[.int .i64 a0,.int .i64 a1] w fun e w'=>∃ v1_:Value,e = .returned (.agg #[.int .i64 r1,v1_])∧Kd.R k78 78 w' w.heap.size (fun _=>True) v1_ r2∧Below w.heap.size w w':=by
 have hu27:=Tryz.underlying27
 have hu78:=Tryz.underlying78
 have HB:=aM (Below.refl w.heap.size w)
 have H:(Y9.l0 k a0 a1 1 a0 ([]:List (S78)))=some (r1,r2):=h
 clear h
 have H':=aM H
 clear H
 go_enter Tryz.func46,Tryz.ntmps46
 go_wp2_with (first | ((with_reducible refine gd_ 4 ?_);refine be_ 4 #[.int .i64 0,.slice none 0 0] 27 ?_;intro gb127 hg w3 hbox hb;have n0_:=aM (below_step (z3_ HB.out) hb);have n1_:=aM (hbox);have n2_:=aM ((z9_ HB.out:w.heap.size≤gb127));have n3_:=aM ((z9_ HB.out:w.heap.size≤gb127));clear HB;have HB:=n0_;have BK127:=n1_;have GW127:=n2_;have GE127:=n3_;clear n0_ n1_ n2_ n3_;clear hb hbox hg) | ((with_reducible refine gd_ 5 ?_);refine be_ 5 #[.int .i64 0,.slice none 0 0] 27 ?_;intro gb128 hg w4 hbox hb;have n0_:=aM (blkB_ BK127.out hb);have n1_:=aM (below_step (z7_ HB.out GE127.out) hb);have n2_:=aM (hbox);have n3_:=aM ((z11_ HB.out GE127.out:w.heap.size≤gb128));have n4_:=aM ((z11_ HB.out GE127.out:w.heap.size≤gb128));have n5_:=aM (neL_ BK127.out hg);have n6_:=aM (neG_ BK127.out hg);clear BK127;clear HB;have BK127:=n0_;have HB:=n1_;have BK128:=n2_;have GW128:=n3_;have GE128:=n4_;have NB127_128:=n5_;have NB128_127:=n6_;clear n0_ n1_ n2_ n3_ n4_ n5_ n6_;clear hb hbox hg;have hnb5:=NB128_127.out;have hnc5:=NB127_128.out;have ⟨hcz6_0,hcz6_1,hfz6_0,hfz6_1⟩:=cz2_ BK128.out))
 repeat (go_quiet (first | ((with_reducible refine gd_ 4 ?_);refine be_ 4 #[.int .i64 0,.slice none 0 0] 27 ?_;intro gb127 hg w3 hbox hb;have n0_:=aM (below_step (z3_ HB.out) hb);have n1_:=aM (hbox);have n2_:=aM ((z9_ HB.out:w.heap.size≤gb127));have n3_:=aM ((z9_ HB.out:w.heap.size≤gb127));clear HB;have HB:=n0_;have BK127:=n1_;have GW127:=n2_;have GE127:=n3_;clear n0_ n1_ n2_ n3_;clear hb hbox hg) | ((with_reducible refine gd_ 5 ?_);refine be_ 5 #[.int .i64 0,.slice none 0 0] 27 ?_;intro gb128 hg w4 hbox hb;have n0_:=aM (blkB_ BK127.out hb);have n1_:=aM (below_step (z7_ HB.out GE127.out) hb);have n2_:=aM (hbox);have n3_:=aM ((z11_ HB.out GE127.out:w.heap.size≤gb128));have n4_:=aM ((z11_ HB.out GE127.out:w.heap.size≤gb128));have n5_:=aM (neL_ BK127.out hg);have n6_:=aM (neG_ BK127.out hg);clear BK127;clear HB;have BK127:=n0_;have HB:=n1_;have BK128:=n2_;have GW128:=n3_;have GE128:=n4_;have NB127_128:=n5_;have NB128_127:=n6_;clear n0_ n1_ n2_ n3_ n4_ n5_ n6_;clear hb hbox hg;have hnb5:=NB128_127.out;have hnc5:=NB127_128.out;have ⟨hcz6_0,hcz6_1,hfz6_0,hfz6_1⟩:=cz2_ BK128.out));try go_wp2_with (first | ((with_reducible refine gd_ 4 ?_);refine be_ 4 #[.int .i64 0,.slice none 0 0] 27 ?_;intro gb127 hg w3 hbox hb;have n0_:=aM (below_step (z3_ HB.out) hb);have n1_:=aM (hbox);have n2_:=aM ((z9_ HB.out:w.heap.size≤gb127));have n3_:=aM ((z9_ HB.out:w.heap.size≤gb127));clear HB;have HB:=n0_;have BK127:=n1_;have GW127:=n2_;have GE127:=n3_;clear n0_ n1_ n2_ n3_;clear hb hbox hg) | ((with_reducible refine gd_ 5 ?_);refine be_ 5 #[.int .i64 0,.slice none 0 0] 27 ?_;intro gb128 hg w4 hbox hb;have n0_:=aM (blkB_ BK127.out hb);have n1_:=aM (below_step (z7_ HB.out GE127.out) hb);have n2_:=aM (hbox);have n3_:=aM ((z11_ HB.out GE127.out:w.heap.size≤gb128));have n4_:=aM ((z11_ HB.out GE127.out:w.heap.size≤gb128));have n5_:=aM (neL_ BK127.out hg);have n6_:=aM (neG_ BK127.out hg);clear BK127;clear HB;have BK127:=n0_;have HB:=n1_;have BK128:=n2_;have GW128:=n3_;have GE128:=n4_;have NB127_128:=n5_;have NB128_127:=n6_;clear n0_ n1_ n2_ n3_ n4_ n5_ n6_;clear hb hbox hg;have hnb5:=NB128_127.out;have hnc5:=NB127_128.out;have ⟨hcz6_0,hcz6_1,hfz6_0,hfz6_1⟩:=cz2_ BK128.out)))
 go_loopg [6] k (fun kq v6 w'=>∃ (x6_1:Int) (x129001_1:List (S78)) (u129001:Value),v6 = .int .i64 x6_1∧Aside0 (Y9.l0 kq a0 a1 x6_1 a0 x129001_1=some (r1,r2))∧Aside0 (kq≤k)∧Aside0 (Kd.R k78 78 w' w.heap.size (fun _=>True) u129001 x129001_1)∧Aside0 (w'.heap[gb127]? = some (.cells #[.int .i64 0,(.slice none 0 0)] 27 (0,0)))∧Aside0 (w'.heap[gb128]? = some (.cells #[.int .i64 a0,u129001] 27 (0,0)))∧Aside0 (Below w.heap.size w w'))
 case atStart=>exact ⟨(1),(([]:List (S78))),(.slice none 0 0),(z1_),H',⟨Nat.le_refl _⟩,⟨z13_⟩,⟨z34_ NB127_128.out BK127.out⟩,⟨z33_ BK128.out⟩,⟨z8_ HB.out GE127.out GE128.out⟩⟩
 case round =>
  clear H'
  try clear p2
  try clear c4
  try clear c5
  try clear hcz6_0
  try clear hcz6_1
  try clear hfz6_0
  try clear hfz6_1
  obtain ⟨x6_1,x129001_1,u129001,rfl,HA,HK1,HO_129001,BK127,BK128,HB⟩:=hrel
  cases gk with
  | zero=>exact absurd HA.out (by simp [Y9.l0])
  | succ k1 =>
   have H:=HA.out
   clear HA
   simp only [Y9.l0] at H
   by_cases c7:x6_1≤a0
   ·rw [if_pos c7] at H
    have c7b0:decide (x6_1≤a0)=true:=dE c7
    clear c7
    have H':=aM H
    clear H
    go_wp2
    repeat (go_quiet (fail);try go_wp2)
    go_loopg [7] k1 (fun kq v7 w'=>∃ (x7_2:Int) (x129001_2:List (S78)) (u129001:Value),v7 = .int .i64 x7_2∧Aside0 (Y9.l1 kq a0 a1 x6_1 x7_2 a0 x129001_2=some (r1,r2))∧Aside0 (kq≤k1)∧Aside0 (Kd.R k78 78 w' w.heap.size (fun _=>True) u129001 x129001_2)∧Aside0 (w'.heap[gb127]? = some (.cells #[.int .i64 0,(.slice none 0 0)] 27 (0,0)))∧Aside0 (w'.heap[gb128]? = some (.cells #[.int .i64 a0,u129001] 27 (0,0)))∧Aside0 (Below w.heap.size w w'))
    case atStart=>exact ⟨(1),(x129001_1),(u129001),(z1_),H',⟨Nat.le_refl _⟩,⟨z0_ HO_129001.out⟩,⟨z4_ BK127.out⟩,⟨z4_ BK128.out⟩,⟨z8_ HB.out GE127.out GE128.out⟩⟩
    case round =>
     clear H'
     try clear p2
     try clear c4
     try clear c5
     try clear c7
     try clear c7b0
     try clear hcz6_0
     try clear hcz6_1
     try clear hfz6_0
     try clear hfz6_1
     try clear p2
     obtain ⟨x7_2,x129001_2,u129001,rfl,HA,HK2,HO_129001,BK127,BK128,HB⟩:=hrel
     cases gk with
     | zero=>exact absurd HA.out (by simp [Y9.l1])
     | succ k2 =>
      have H:=HA.out
      clear HA
      simp only [Y9.l1] at H
      by_cases c8:x7_2≤a1
      ·rw [if_pos c8] at H
       have c8b0:decide (x7_2≤a1)=true:=dE c8
       clear c8
       replace H:=bS H
       obtain ⟨t129,A90,H⟩:=H
       replace H:(if t129.size+1≤9223372036854775807 then ((Y36.f k2 x7_2).bind fun t130=>(if (t129.size+1)+t130.size≤9223372036854775807 then ((Y51.f k2 ((t129 ++ (⟨#[45]⟩:ByteArray)) ++ t130)).bind fun t131=>(Y9.l2 k2 a0 a1 x6_1 x7_2 0 a0 x129001_2 t131 x6_1)) else (none))) else (none))=some (r1,r2):=H
       have A9:=aM A90
       clear A90
       by_cases c10:t129.size+1≤9223372036854775807
       ·rw [if_pos c10] at H
        have c10b0:=eq_true c10
        have c10b1:decide (t129.size+1≤9223372036854775807)=true:=dE c10
        try have c10b2:(9223372036854775807<t129.size+1)=False:=eq_false (Nat.not_lt.2 c10)
        replace H:=bS H
        obtain ⟨t130,A110,H⟩:=H
        replace H:(if (t129.size+1)+t130.size≤9223372036854775807 then ((Y51.f k2 ((t129 ++ (⟨#[45]⟩:ByteArray)) ++ t130)).bind fun t131=>(Y9.l2 k2 a0 a1 x6_1 x7_2 0 a0 x129001_2 t131 x6_1)) else (none))=some (r1,r2):=H
        have A11:=aM A110
        clear A110
        by_cases c12:(t129.size+1)+t130.size≤9223372036854775807
        ·rw [if_pos c12] at H
         have c12b0:=eq_true c12
         have c12b1:decide ((t129.size+1)+t130.size≤9223372036854775807)=true:=dE c12
         try have c12b2:(9223372036854775807<(t129.size+1)+t130.size)=False:=eq_false (Nat.not_lt.2 c12)
         replace H:=bS H
         obtain ⟨t131,A130,H⟩:=H
         replace H:(Y9.l2 k2 a0 a1 x6_1 x7_2 0 a0 x129001_2 t131 x6_1)=some (r1,r2):=H
         have A13:=aM A130
         clear A130
         have H':=aM H
         clear H
         go_wp2_with (first | (go_at_call 75;(with_reducible refine (Y36.calls k2 x6_1 t129 _ A9.out).mono ?_);rintro e w14 ⟨rfl,hb⟩;have n0_:=aM (Kd.R_below (z0_ HO_129001.out) hb);have n1_:=aM (blkB_ BK127.out hb);have n2_:=aM (blkB_ BK128.out hb);have n3_:=aM (below_step (z8_ HB.out GE127.out GE128.out) hb);clear HO_129001;clear BK127;clear BK128;clear HB;have HO_129001:=n0_;have BK127:=n1_;have BK128:=n2_;have HB:=n3_;clear n0_ n1_ n2_ n3_;(try clear hb)) | (go_at_call 75;(with_reducible refine (Y36.calls k2 x7_2 t130 _ A11.out).mono ?_);rintro e w15 ⟨rfl,hb⟩;have n0_:=aM (Kd.R_below (z0_ HO_129001.out) hb);have n1_:=aM (blkB_ BK127.out hb);have n2_:=aM (blkB_ BK128.out hb);have n3_:=aM (below_step (z8_ HB.out GE127.out GE128.out) hb);clear HO_129001;clear BK127;clear BK128;clear HB;have HO_129001:=n0_;have BK127:=n1_;have BK128:=n2_;have HB:=n3_;clear n0_ n1_ n2_ n3_;(try clear hb)) | (go_at_call 55;(with_reducible refine (Y51.calls k2 ((t129 ++ (⟨#[45]⟩:ByteArray)) ++ t130) t131 _ A13.out).mono ?_);rintro e w' ⟨rfl,⟨nd,rfl⟩⟩;(try first | exact ⟨rfl,_,World.drewN_drewN _ _ _⟩ | exact ⟨rfl,_,Eq.trans (World.drewN_drewN _ _ _) (congrArg (World.drewN _) (Nat.add_assoc _ _ _))⟩)) | ((with_reducible refine gd_ 8 ?_);refine be_ 8 #[.int .i64 0,.int .i64 0] 78 ?_;intro gb132 hg w16 hbox hb;have n0_:=aM (Kd.R_below (Kd.R_elderB (z0_ HO_129001.out) gb132 (Nat.le_of_eq hg.symm)) hb);have n1_:=aM (blkB_ BK127.out hb);have n2_:=aM (blkB_ BK128.out hb);have n3_:=aM (below_step (z8_ HB.out GE127.out GE128.out) hb);have n4_:=aM (hbox);have n5_:=aM ((z24_ HB.out GE127.out GE128.out:w.heap.size≤gb132));have n6_:=aM ((z24_ HB.out GE127.out GE128.out:w.heap.size≤gb132));have n7_:=aM (neL_ BK127.out hg);have n8_:=aM (neG_ BK127.out hg);have n9_:=aM (neL_ BK128.out hg);have n10_:=aM (neG_ BK128.out hg);clear HO_129001;clear BK127;clear BK128;clear HB;have HO_129001:=n0_;have BK127:=n1_;have BK128:=n2_;have HB:=n3_;have BK132:=n4_;have GW132:=n5_;have GE132:=n6_;have NB127_132:=n7_;have NB132_127:=n8_;have NB128_132:=n9_;have NB132_128:=n10_;clear n0_ n1_ n2_ n3_ n4_ n5_ n6_ n7_ n8_ n9_ n10_;clear hb hbox hg;have hnb17:=NB132_127.out;have hnc17:=NB127_132.out;have hnb18:=NB132_128.out;have hnc18:=NB128_132.out;have ⟨hcz19_0,hcz19_1,hfz19_0,hfz19_1⟩:=cz2_ BK132.out))
         repeat (go_quiet (first | (go_at_call 75;(with_reducible refine (Y36.calls k2 x6_1 t129 _ A9.out).mono ?_);rintro e w14 ⟨rfl,hb⟩;have n0_:=aM (Kd.R_below (z0_ HO_129001.out) hb);have n1_:=aM (blkB_ BK127.out hb);have n2_:=aM (blkB_ BK128.out hb);have n3_:=aM (below_step (z8_ HB.out GE127.out GE128.out) hb);clear HO_129001;clear BK127;clear BK128;clear HB;have HO_129001:=n0_;have BK127:=n1_;have BK128:=n2_;have HB:=n3_;clear n0_ n1_ n2_ n3_;(try clear hb)) | (go_at_call 75;(with_reducible refine (Y36.calls k2 x7_2 t130 _ A11.out).mono ?_);rintro e w15 ⟨rfl,hb⟩;have n0_:=aM (Kd.R_below (z0_ HO_129001.out) hb);have n1_:=aM (blkB_ BK127.out hb);have n2_:=aM (blkB_ BK128.out hb);have n3_:=aM (below_step (z8_ HB.out GE127.out GE128.out) hb);clear HO_129001;clear BK127;clear BK128;clear HB;have HO_129001:=n0_;have BK127:=n1_;have BK128:=n2_;have HB:=n3_;clear n0_ n1_ n2_ n3_;(try clear hb)) | (go_at_call 55;(with_reducible refine (Y51.calls k2 ((t129 ++ (⟨#[45]⟩:ByteArray)) ++ t130) t131 _ A13.out).mono ?_);rintro e w' ⟨rfl,⟨nd,rfl⟩⟩;(try first | exact ⟨rfl,_,World.drewN_drewN _ _ _⟩ | exact ⟨rfl,_,Eq.trans (World.drewN_drewN _ _ _) (congrArg (World.drewN _) (Nat.add_assoc _ _ _))⟩)) | ((with_reducible refine gd_ 8 ?_);refine be_ 8 #[.int .i64 0,.int .i64 0] 78 ?_;intro gb132 hg w16 hbox hb;have n0_:=aM (Kd.R_below (Kd.R_elderB (z0_ HO_129001.out) gb132 (Nat.le_of_eq hg.symm)) hb);have n1_:=aM (blkB_ BK127.out hb);have n2_:=aM (blkB_ BK128.out hb);have n3_:=aM (below_step (z8_ HB.out GE127.out GE128.out) hb);have n4_:=aM (hbox);have n5_:=aM ((z24_ HB.out GE127.out GE128.out:w.heap.size≤gb132));have n6_:=aM ((z24_ HB.out GE127.out GE128.out:w.heap.size≤gb132));have n7_:=aM (neL_ BK127.out hg);have n8_:=aM (neG_ BK127.out hg);have n9_:=aM (neL_ BK128.out hg);have n10_:=aM (neG_ BK128.out hg);clear HO_129001;clear BK127;clear BK128;clear HB;have HO_129001:=n0_;have BK127:=n1_;have BK128:=n2_;have HB:=n3_;have BK132:=n4_;have GW132:=n5_;have GE132:=n6_;have NB127_132:=n7_;have NB132_127:=n8_;have NB128_132:=n9_;have NB132_128:=n10_;clear n0_ n1_ n2_ n3_ n4_ n5_ n6_ n7_ n8_ n9_ n10_;clear hb hbox hg;have hnb17:=NB132_127.out;have hnc17:=NB127_132.out;have hnb18:=NB132_128.out;have hnc18:=NB128_132.out;have ⟨hcz19_0,hcz19_1,hfz19_0,hfz19_1⟩:=cz2_ BK132.out));try go_wp2_with (first | (go_at_call 75;(with_reducible refine (Y36.calls k2 x6_1 t129 _ A9.out).mono ?_);rintro e w14 ⟨rfl,hb⟩;have n0_:=aM (Kd.R_below (z0_ HO_129001.out) hb);have n1_:=aM (blkB_ BK127.out hb);have n2_:=aM (blkB_ BK128.out hb);have n3_:=aM (below_step (z8_ HB.out GE127.out GE128.out) hb);clear HO_129001;clear BK127;clear BK128;clear HB;have HO_129001:=n0_;have BK127:=n1_;have BK128:=n2_;have HB:=n3_;clear n0_ n1_ n2_ n3_;(try clear hb)) | (go_at_call 75;(with_reducible refine (Y36.calls k2 x7_2 t130 _ A11.out).mono ?_);rintro e w15 ⟨rfl,hb⟩;have n0_:=aM (Kd.R_below (z0_ HO_129001.out) hb);have n1_:=aM (blkB_ BK127.out hb);have n2_:=aM (blkB_ BK128.out hb);have n3_:=aM (below_step (z8_ HB.out GE127.out GE128.out) hb);clear HO_129001;clear BK127;clear BK128;clear HB;have HO_129001:=n0_;have BK127:=n1_;have BK128:=n2_;have HB:=n3_;clear n0_ n1_ n2_ n3_;(try clear hb)) | (go_at_call 55;(with_reducible refine (Y51.calls k2 ((t129 ++ (⟨#[45]⟩:ByteArray)) ++ t130) t131 _ A13.out).mono ?_);rintro e w' ⟨rfl,⟨nd,rfl⟩⟩;(try first | exact ⟨rfl,_,World.drewN_drewN _ _ _⟩ | exact ⟨rfl,_,Eq.trans (World.drewN_drewN _ _ _) (congrArg (World.drewN _) (Nat.add_assoc _ _ _))⟩)) | ((with_reducible refine gd_ 8 ?_);refine be_ 8 #[.int .i64 0,.int .i64 0] 78 ?_;intro gb132 hg w16 hbox hb;have n0_:=aM (Kd.R_below (Kd.R_elderB (z0_ HO_129001.out) gb132 (Nat.le_of_eq hg.symm)) hb);have n1_:=aM (blkB_ BK127.out hb);have n2_:=aM (blkB_ BK128.out hb);have n3_:=aM (below_step (z8_ HB.out GE127.out GE128.out) hb);have n4_:=aM (hbox);have n5_:=aM ((z24_ HB.out GE127.out GE128.out:w.heap.size≤gb132));have n6_:=aM ((z24_ HB.out GE127.out GE128.out:w.heap.size≤gb132));have n7_:=aM (neL_ BK127.out hg);have n8_:=aM (neG_ BK127.out hg);have n9_:=aM (neL_ BK128.out hg);have n10_:=aM (neG_ BK128.out hg);clear HO_129001;clear BK127;clear BK128;clear HB;have HO_129001:=n0_;have BK127:=n1_;have BK128:=n2_;have HB:=n3_;have BK132:=n4_;have GW132:=n5_;have GE132:=n6_;have NB127_132:=n7_;have NB132_127:=n8_;have NB128_132:=n9_;have NB132_128:=n10_;clear n0_ n1_ n2_ n3_ n4_ n5_ n6_ n7_ n8_ n9_ n10_;clear hb hbox hg;have hnb17:=NB132_127.out;have hnc17:=NB127_132.out;have hnb18:=NB132_128.out;have hnc18:=NB128_132.out;have ⟨hcz19_0,hcz19_1,hfz19_0,hfz19_1⟩:=cz2_ BK132.out)))
         go_loopg [9] k2 (fun kq v9 w'=>∃ (x9_3:Int),v9 = .int .i64 x9_3∧Aside0 (Y9.l2 kq a0 a1 x6_1 x7_2 x9_3 a0 x129001_2 t131 x6_1=some (r1,r2))∧Aside0 (kq≤k2)∧Aside0 (Kd.R k78 78 w' w.heap.size (fun k_=>k_≠gb132) u129001 x129001_2)∧Aside0 (w'.heap[gb127]? = some (.cells #[.int .i64 0,(.slice none 0 0)] 27 (0,0)))∧Aside0 (w'.heap[gb128]? = some (.cells #[.int .i64 a0,u129001] 27 (0,0)))∧Aside0 (w'.heap[gb132]? = some (.cells #[.int .i64 t131,.int .i64 x6_1] 78 (0,0)))∧Aside0 (Below w.heap.size w w'))
         case atStart=>exact ⟨(0),(z1_),H',⟨Nat.le_refl _⟩,⟨by (with_reducible repeat (first | apply Kd.R_alloc | apply Kd.R_drewN | apply Kd.R_drew));exact Kd.R_mono (rf2_ (Kd.R_mono HO_129001.out (fun k_ hk=>(⟨hk,hk.2⟩:_∧k_≠gb132))) (fun _ hk=>hk.2)) (fun _ hk=>hk.1.2)⟩,⟨z34_ NB127_132.out BK127.out⟩,⟨z34_ NB128_132.out BK128.out⟩,⟨z33_ BK132.out⟩,⟨z12_ HB.out GE127.out GE128.out GE132.out⟩⟩
         case round =>
          clear H'
          try clear c1
          try clear p2
          try clear c4
          try clear c5
          try clear c7
          try clear c7b0
          try clear c8
          try clear c8b0
          try clear c10
          try clear c10b0
          try clear c10b1
          try clear c10b2
          try clear c12
          try clear c12b0
          try clear c12b1
          try clear c12b2
          try clear c17
          try clear c18
          try clear hcz19_0
          try clear hcz19_1
          try clear hcz6_0
          try clear hcz6_1
          try clear hfz19_0
          try clear hfz19_1
          try clear hfz6_0
          try clear hfz6_1
          try clear p2
          obtain ⟨x9_3,rfl,HA,HK3,HO_129001,BK127,BK128,BK132,HB⟩:=hrel
          cases gk with
          | zero=>exact absurd HA.out (by simp [Y9.l2])
          | succ k3 =>
           have H:=HA.out
           clear HA
           simp only [Y9.l2] at H
           have HC20:=aM H
           clear H
           go_upto_region 10 with (fail)
           repeat (go_quiet (fail);go_upto_region 10 with (fail))
           go_cut [69] (fun v69 wc=>∃ (kq:Nat) (x69_19:Bool),v69 = .bool x69_19∧Aside0 (Y9.j3 kq a0 a1 x6_1 x7_2 x9_3 x69_19 a0 x129001_2 t131 x6_1=some (r1,r2))∧Aside0 (kq≤k3)∧Aside0 (Kd.R k78 78 wc w.heap.size (fun k_=>k_≠gb132) u129001 x129001_2)∧Aside0 (wc.heap[gb127]? = some (.cells #[.int .i64 0,(.slice none 0 0)] 27 (0,0)))∧Aside0 (wc.heap[gb128]? = some (.cells #[.int .i64 a0,u129001] 27 (0,0)))∧Aside0 (wc.heap[gb132]? = some (.cells #[.int .i64 t131,.int .i64 x6_1] 78 (0,0)))∧Aside0 (Below w.heap.size w wc))
           case first =>
            have H:=HC20.out
            clear HC20
            by_cases c21:x9_3<(x129001_2.length:Int)
            ·rw [if_pos c21] at H
             have c21b0:decide (x9_3<(x129001_2.length:Int))=true:=dE c21
             clear c21
             (first | rw [c21b0] | (simp only [i64_w,i32_w];rw [c21b0]) | skip)
             by_cases c22:0≤x9_3
             ·rw [if_pos c22] at H
              have c22b0:decide (0≤x9_3)=true:=dE c22
              clear c22
              by_cases c23:((rd_T78 x129001_2 x9_3).f0)<t131
              ·rw [if_pos c23] at H
               have c23b0:decide (((rd_T78 x129001_2 x9_3).f0)<t131)=true:=dE c23
               clear c23
               have H':=aM H
               clear H
               have hnb24:=NB128_127.out
               have hnc24:=NB127_128.out
               have hnb25:=NB128_132.out
               have hnc25:=NB132_128.out
               have ⟨hcz26_0,hcz26_1,hfz26_0,hfz26_1⟩:=cz2_ BK128.out
               obtain ⟨Ao27,co27,eo27⟩:=Kd.R_slice HO_129001.out
               subst eo27
               have p133:0≤(x9_3:Int):=dT (z2_)
               have q133:x9_3<(x129001_2.length:Int):=dT (z2_)
               obtain ⟨ad133,e133,hx133_0,hx133_1⟩:=at_T78 (Kd.R_reads' HO_129001.out).2.2 x9_3 p133 q133
               cases e133
               replace p133:=eq_true p133
               replace q133:=eq_true q133
               have hnb28:=NB132_127.out
               have hnc28:=NB127_132.out
               have ⟨hcz29_0,hcz29_1,hfz29_0,hfz29_1⟩:=cz2_ BK132.out
               go_wp2
               repeat (go_quiet (fail);try go_wp2)
               go_meet
               case rel=>exact ⟨_,(true),(z1_),H',⟨z21_ HK1.out HK2.out HK3.out⟩,⟨z0_ HO_129001.out⟩,⟨z4_ BK127.out⟩,⟨z4_ BK128.out⟩,⟨z4_ BK132.out⟩,⟨z12_ HB.out GE127.out GE128.out GE132.out⟩⟩
              ·rw [if_neg c23] at H
               have c23b0:decide (((rd_T78 x129001_2 x9_3).f0)<t131)=false:=dF c23
               clear c23
               by_cases c30:((rd_T78 x129001_2 x9_3).f0)=t131
               ·rw [if_pos c30] at H
                have c30b0:(((rd_T78 x129001_2 x9_3).f0) == t131)=true:=beq_iff_eq.mpr c30
                have c30b1:(((rd_T78 x129001_2 x9_3).f0) != t131)=false:=bne_eq_false_iff_eq.mpr c30
                clear c30
                have H':=aM H
                clear H
                have hnb31:=NB128_127.out
                have hnc31:=NB127_128.out
                have hnb32:=NB128_132.out
                have hnc32:=NB132_128.out
                have ⟨hcz33_0,hcz33_1,hfz33_0,hfz33_1⟩:=cz2_ BK128.out
                obtain ⟨Ao34,co34,eo34⟩:=Kd.R_slice HO_129001.out
                subst eo34
                have p133:0≤(x9_3:Int):=dT (z2_)
                have q133:x9_3<(x129001_2.length:Int):=dT (z2_)
                obtain ⟨ad133,e133,hx133_0,hx133_1⟩:=at_T78 (Kd.R_reads' HO_129001.out).2.2 x9_3 p133 q133
                cases e133
                replace p133:=eq_true p133
                replace q133:=eq_true q133
                have hnb35:=NB132_127.out
                have hnc35:=NB127_132.out
                have ⟨hcz36_0,hcz36_1,hfz36_0,hfz36_1⟩:=cz2_ BK132.out
                have p134:0≤(x9_3:Int):=dT (z2_)
                have q134:x9_3<(x129001_2.length:Int):=dT (z2_)
                obtain ⟨ad134,e134,hx134_0,hx134_1⟩:=at_T78 (Kd.R_reads' HO_129001.out).2.2 x9_3 p134 q134
                obtain rfl:ad133=ad134:=(by injection e134)
                replace p134:=eq_true p134
                replace q134:=eq_true q134
                have p135:0≤(x9_3:Int):=dT (z2_)
                have q135:x9_3<(x129001_2.length:Int):=dT (z2_)
                obtain ⟨ad135,e135,hx135_0,hx135_1⟩:=at_T78 (Kd.R_reads' HO_129001.out).2.2 x9_3 p135 q135
                obtain rfl:ad133=ad135:=(by injection e135)
                replace p135:=eq_true p135
                replace q135:=eq_true q135
                go_wp2
                repeat (go_quiet (fail);try go_wp2)
                go_meet
                case rel=>exact ⟨_,(decide (((rd_T78 x129001_2 x9_3).f1)<x6_1)),(z1_),H',⟨z21_ HK1.out HK2.out HK3.out⟩,⟨z0_ HO_129001.out⟩,⟨z4_ BK127.out⟩,⟨z4_ BK128.out⟩,⟨z4_ BK132.out⟩,⟨z12_ HB.out GE127.out GE128.out GE132.out⟩⟩
               ·rw [if_neg c30] at H
                have c30b0:(((rd_T78 x129001_2 x9_3).f0) == t131)=false:=beq_eq_false_iff_ne.mpr c30
                have c30b1:(((rd_T78 x129001_2 x9_3).f0) != t131)=true:=bne_iff_ne.mpr c30
                have H':=aM H
                clear H
                have hnb37:=NB128_127.out
                have hnc37:=NB127_128.out
                have hnb38:=NB128_132.out
                have hnc38:=NB132_128.out
                have ⟨hcz39_0,hcz39_1,hfz39_0,hfz39_1⟩:=cz2_ BK128.out
                obtain ⟨Ao40,co40,eo40⟩:=Kd.R_slice HO_129001.out
                subst eo40
                have p133:0≤(x9_3:Int):=dT (z2_)
                have q133:x9_3<(x129001_2.length:Int):=dT (z2_)
                obtain ⟨ad133,e133,hx133_0,hx133_1⟩:=at_T78 (Kd.R_reads' HO_129001.out).2.2 x9_3 p133 q133
                cases e133
                replace p133:=eq_true p133
                replace q133:=eq_true q133
                have hnb41:=NB132_127.out
                have hnc41:=NB127_132.out
                have ⟨hcz42_0,hcz42_1,hfz42_0,hfz42_1⟩:=cz2_ BK132.out
                have p134:0≤(x9_3:Int):=dT (z2_)
                have q134:x9_3<(x129001_2.length:Int):=dT (z2_)
                obtain ⟨ad134,e134,hx134_0,hx134_1⟩:=at_T78 (Kd.R_reads' HO_129001.out).2.2 x9_3 p134 q134
                obtain rfl:ad133=ad134:=(by injection e134)
                replace p134:=eq_true p134
                replace q134:=eq_true q134
                go_wp2
                repeat (go_quiet (fail);try go_wp2)
                go_meet
                case rel=>exact ⟨_,(false),(z1_),H',⟨z21_ HK1.out HK2.out HK3.out⟩,⟨z0_ HO_129001.out⟩,⟨z4_ BK127.out⟩,⟨z4_ BK128.out⟩,⟨z4_ BK132.out⟩,⟨z12_ HB.out GE127.out GE128.out GE132.out⟩⟩
             ·rw [if_neg c22] at H
              exact nO H
            ·rw [if_neg c21] at H
             have c21b0:decide (x9_3<(x129001_2.length:Int))=false:=dF c21
             clear c21
             (first | rw [c21b0] | (simp only [i64_w,i32_w];rw [c21b0]) | skip)
             have H':=aM H
             clear H
             have hnb43:=NB128_127.out
             have hnc43:=NB127_128.out
             have hnb44:=NB128_132.out
             have hnc44:=NB132_128.out
             have ⟨hcz45_0,hcz45_1,hfz45_0,hfz45_1⟩:=cz2_ BK128.out
             obtain ⟨Ao46,co46,eo46⟩:=Kd.R_slice HO_129001.out
             subst eo46
             go_wp2
             repeat (go_quiet (fail);try go_wp2)
             go_meet
             case rel=>exact ⟨_,(false),(z1_),H',⟨z21_ HK1.out HK2.out HK3.out⟩,⟨z0_ HO_129001.out⟩,⟨z4_ BK127.out⟩,⟨z4_ BK128.out⟩,⟨z4_ BK132.out⟩,⟨z12_ HB.out GE127.out GE128.out GE132.out⟩⟩
           case rest =>
            clear HC20
            try clear c1
            try clear p1
            try clear q1
            try clear hx1
            try clear c2
            try clear p2
            try clear c3
            try clear c4
            try clear c5
            try clear c7
            try clear c7b0
            try clear c8
            try clear c8b0
            try clear c10
            try clear c10b0
            try clear c10b1
            try clear c10b2
            try clear c12
            try clear c12b0
            try clear c12b1
            try clear c12b2
            try clear p13
            try clear q13
            try clear hx13
            try clear c17
            try clear c18
            try clear c21
            try clear c21b0
            try clear c22
            try clear c22b0
            try clear c23
            try clear c23b0
            try clear c24
            try clear c25
            try clear c28
            try clear c30
            try clear c30b0
            try clear c30b1
            try clear c31
            try clear c32
            try clear c35
            try clear c37
            try clear c38
            try clear c41
            try clear c43
            try clear c44
            try clear c46
            try clear hcz19_0
            try clear hcz19_1
            try clear hcz26_0
            try clear hcz26_1
            try clear hcz29_0
            try clear hcz29_1
            try clear hcz33_0
            try clear hcz33_1
            try clear hcz36_0
            try clear hcz36_1
            try clear hcz39_0
            try clear hcz39_1
            try clear hcz42_0
            try clear hcz42_1
            try clear hcz45_0
            try clear hcz45_1
            try clear hcz6_0
            try clear hcz6_1
            try clear hfz19_0
            try clear hfz19_1
            try clear hfz26_0
            try clear hfz26_1
            try clear hfz29_0
            try clear hfz29_1
            try clear hfz33_0
            try clear hfz33_1
            try clear hfz36_0
            try clear hfz36_1
            try clear hfz39_0
            try clear hfz39_1
            try clear hfz42_0
            try clear hfz42_1
            try clear hfz45_0
            try clear hfz45_1
            try clear hfz6_0
            try clear hfz6_1
            try clear hx133_0
            try clear hx133_1
            try clear hx134_0
            try clear hx134_1
            try clear hx135_0
            try clear hx135_1
            try clear p133
            try clear p134
            try clear p135
            try clear p2
            try clear q133
            try clear q134
            try clear q135
            obtain ⟨kq,x69_19,rfl,HA,HJ19,HO_129001,BK127,BK128,BK132,HB⟩:=hcut
            cases kq with
            | zero=>exact absurd HA.out (by simp [Y9.j3])
            | succ kj19 =>
             have H:=HA.out
             clear HA
             simp only [Y9.j3] at H
             by_cases c47:x69_19=true
             ·subst c47
              have H1:(Y9.l2 kj19 a0 a1 x6_1 x7_2 (wrap64 (x9_3+1)) a0 x129001_2 t131 x6_1)=some (r1,r2):=by rw [if_pos rfl] at H;exact H
              clear H
              have H:=H1
              clear H1
              have H':=aM H
              clear H
              go_wp2
              repeat (go_quiet (fail);try go_wp2)
              go_roundg kj19
              case measure=>have:=HK1.out;have:=HK2.out;have:=HK3.out;have:=HJ19.out;omega
              case rel=>exact ⟨(wrap64 (x9_3+1)),(z1_),H',⟨by have:=HK1.out;have:=HK2.out;have:=HK3.out;have:=HJ19.out;omega⟩,⟨z0_ HO_129001.out⟩,⟨z4_ BK127.out⟩,⟨z4_ BK128.out⟩,⟨z4_ BK132.out⟩,⟨z12_ HB.out GE127.out GE128.out GE132.out⟩⟩
             ·replace c47:=Bool.eq_false_iff.mpr c47
              subst c47
              have H1:((some (([]:List (S78)):List (S78))).bind fun y136=>(if 0≤x9_3 then (if x9_3≤(x129001_2.length:Int) then ((some (x129001_2.take (x9_3:Int).toNat:List (S78))).bind fun y139=>(if y136.length+y139.length<8796093022208 then ((some (y136 ++ y139:List (S78))).bind fun y143=>(if y143.length<8796093022208 then ((some (y143 ++ [(⟨t131,x6_1⟩:S78)]:List (S78))).bind fun y146=>((some (x129001_2.drop (x9_3:Int).toNat:List (S78))).bind fun y149=>(if y146.length+y149.length<8796093022208 then (Y9.l1 kj19 a0 a1 x6_1 (wrap64 (x7_2+1)) a0 (y146 ++ y149)) else (none)))) else (none))) else (none))) else (none)) else (none)))=some (r1,r2):=by rw [if_neg (show ¬ (false=true) by decide)] at H;exact H
              clear H
              have H:=H1
              clear H1
              obtain ⟨y136,hy136⟩:∃ y_:List (S78),y_=(([]:List (S78))):=⟨_,rfl⟩
              replace H:(if 0≤x9_3 then (if x9_3≤(x129001_2.length:Int) then ((some (x129001_2.take (x9_3:Int).toNat:List (S78))).bind fun y139=>(if y136.length+y139.length<8796093022208 then ((some (y136 ++ y139:List (S78))).bind fun y143=>(if y143.length<8796093022208 then ((some (y143 ++ [(⟨t131,x6_1⟩:S78)]:List (S78))).bind fun y146=>((some (x129001_2.drop (x9_3:Int).toNat:List (S78))).bind fun y149=>(if y146.length+y149.length<8796093022208 then (Y9.l1 kj19 a0 a1 x6_1 (wrap64 (x7_2+1)) a0 (y146 ++ y149)) else (none)))) else (none))) else (none))) else (none)) else (none))=some (r1,r2):=by first | (rw [hy136];with_reducible exact H) | (have H2_:=(Option.bind_some _ _).symm.trans H;rw [hy136];with_reducible exact H2_) | (have H2_:=(Option.bind_some _ _).symm.trans H;with_reducible exact H2_) | with_reducible exact H | (rw [hy136];exact H) | exact H
              have Ny136:=aM hy136
              clear hy136
              by_cases c48:0≤x9_3
              ·rw [if_pos c48] at H
               have c48b0:=eq_true c48
               have c48b1:decide (0≤x9_3)=true:=dE c48
               clear c48
               by_cases c49:x9_3≤(x129001_2.length:Int)
               ·rw [if_pos c49] at H
                have c49b0:=eq_true c49
                have c49b1:decide (x9_3≤(x129001_2.length:Int))=true:=dE c49
                clear c49
                obtain ⟨y139,hy139⟩:∃ y_:List (S78),y_=(x129001_2.take (x9_3:Int).toNat):=⟨_,rfl⟩
                replace H:(if y136.length+y139.length<8796093022208 then ((some (y136 ++ y139:List (S78))).bind fun y143=>(if y143.length<8796093022208 then ((some (y143 ++ [(⟨t131,x6_1⟩:S78)]:List (S78))).bind fun y146=>((some (x129001_2.drop (x9_3:Int).toNat:List (S78))).bind fun y149=>(if y146.length+y149.length<8796093022208 then (Y9.l1 kj19 a0 a1 x6_1 (wrap64 (x7_2+1)) a0 (y146 ++ y149)) else (none)))) else (none))) else (none))=some (r1,r2):=by first | (rw [hy139];with_reducible exact H) | (have H2_:=(Option.bind_some _ _).symm.trans H;rw [hy139];with_reducible exact H2_) | (have H2_:=(Option.bind_some _ _).symm.trans H;with_reducible exact H2_) | with_reducible exact H | (rw [hy139];exact H) | exact H
                have Ny139:=aM hy139
                clear hy139
                by_cases c50:y136.length+y139.length<8796093022208
                ·rw [if_pos c50] at H
                 have LMc50:=aM c50
                 clear c50
                 obtain ⟨y143,hy143⟩:∃ y_:List (S78),y_=(y136 ++ y139):=⟨_,rfl⟩
                 replace H:(if y143.length<8796093022208 then ((some (y143 ++ [(⟨t131,x6_1⟩:S78)]:List (S78))).bind fun y146=>((some (x129001_2.drop (x9_3:Int).toNat:List (S78))).bind fun y149=>(if y146.length+y149.length<8796093022208 then (Y9.l1 kj19 a0 a1 x6_1 (wrap64 (x7_2+1)) a0 (y146 ++ y149)) else (none)))) else (none))=some (r1,r2):=by first | (rw [hy143];with_reducible exact H) | (have H2_:=(Option.bind_some _ _).symm.trans H;rw [hy143];with_reducible exact H2_) | (have H2_:=(Option.bind_some _ _).symm.trans H;with_reducible exact H2_) | with_reducible exact H | (rw [hy143];exact H) | exact H
                 have Ny143:=aM hy143
                 clear hy143
                 by_cases c51:y143.length<8796093022208
                 ·rw [if_pos c51] at H
                  have LMc51:=aM c51
                  clear c51
                  obtain ⟨y146,hy146⟩:∃ y_:List (S78),y_=(y143 ++ [(⟨t131,x6_1⟩:S78)]):=⟨_,rfl⟩
                  replace H:((some (x129001_2.drop (x9_3:Int).toNat:List (S78))).bind fun y149=>(if y146.length+y149.length<8796093022208 then (Y9.l1 kj19 a0 a1 x6_1 (wrap64 (x7_2+1)) a0 (y146 ++ y149)) else (none)))=some (r1,r2):=by first | (rw [hy146];with_reducible exact H) | (have H2_:=(Option.bind_some _ _).symm.trans H;rw [hy146];with_reducible exact H2_) | (have H2_:=(Option.bind_some _ _).symm.trans H;with_reducible exact H2_) | with_reducible exact H | (rw [hy146];exact H) | exact H
                  have Ny146:=aM hy146
                  clear hy146
                  have c52b0:=eq_true (dT (z2_):0≤x9_3)
                  have c53b0:=eq_true (dT (z2_):x9_3≤(x129001_2.length:Int))
                  obtain ⟨y149,hy149⟩:∃ y_:List (S78),y_=(x129001_2.drop (x9_3:Int).toNat):=⟨_,rfl⟩
                  replace H:(if y146.length+y149.length<8796093022208 then (Y9.l1 kj19 a0 a1 x6_1 (wrap64 (x7_2+1)) a0 (y146 ++ y149)) else (none))=some (r1,r2):=by first | (rw [hy149];with_reducible exact H) | (have H2_:=(Option.bind_some _ _).symm.trans H;rw [hy149];with_reducible exact H2_) | (have H2_:=(Option.bind_some _ _).symm.trans H;with_reducible exact H2_) | with_reducible exact H | (rw [hy149];exact H) | exact H
                  have Ny149:=aM hy149
                  clear hy149
                  by_cases c54:y146.length+y149.length<8796093022208
                  ·rw [if_pos c54] at H
                   have LMc54:=aM c54
                   clear c54
                   obtain ⟨y153,hy153⟩:∃ y_:List (S78),y_=(y146 ++ y149):=⟨_,rfl⟩
                   replace H:(Y9.l1 kj19 a0 a1 x6_1 (wrap64 (x7_2+1)) a0 y153)=some (r1,r2):=by first | (rw [hy153];with_reducible exact H) | (have H2_:=(Option.bind_some _ _).symm.trans H;rw [hy153];with_reducible exact H2_) | (have H2_:=(Option.bind_some _ _).symm.trans H;with_reducible exact H2_) | with_reducible exact H | (rw [hy153];exact H) | exact H
                   have Ny153:=aM hy153
                   clear hy153
                   have H':=aM H
                   clear H
                   go_wp2_with (first | ((with_reducible refine gd_ 72 ?_);refine Kd.R_lit k78 _ 78 ?hg (N:=72) ?hd (xs:=([]:List (S78))) (inner:=[]) (ok:=fun _=>True) (okp:=fun _=>True) ?hr ?hp (fun _ hk=>hk) trivial (Below.refl _ _) (Nat.le_refl _) (by simp) ?_;(case hd=>rfl);(case hg=>rfl);(case hr=>first | (go_simp;done) | (go_simp;rfl));(case hp=>exact (Reps.none _ _));intro v137 w55 ho56 hb hg_ hnew_;clear hg_ hnew_;(first | rw [← Ny136.out] at ho56 | (simp only [Int.reduceToNat] at ho56;rw [← Ny136.out] at ho56));have n0_:=aM (Kd.R_elder' (z0_ HO_129001.out) (Kd.R_base ho56) hb);have n1_:=aM (Kd.R_lower (Kd.R_newB (Kd.R_new' ho56 (Kd.R_lt (z0_ HO_129001.out))) (g:=gb132) (o:=.cells #[.int .i64 t131,.int .i64 x6_1] 78 (0,0)) (z4_ BK132.out)) (below_size (z12_ HB.out GE127.out GE128.out GE132.out)));have n2_:=aM (blkB_ BK127.out hb);have n3_:=aM (blkB_ BK128.out hb);have n4_:=aM (blkB_ BK132.out hb);have n5_:=aM (below_step (z12_ HB.out GE127.out GE128.out GE132.out) hb);clear HO_129001;clear BK127;clear BK128;clear BK132;clear HB;have HO_129001:=n0_;have HO138:=n1_;have BK127:=n2_;have BK128:=n3_;have BK132:=n4_;have HB:=n5_;clear n0_ n1_ n2_ n3_ n4_ n5_;clear hb ho56;have hnb57:=NB128_127.out;have hnc57:=NB127_128.out;have hnb58:=NB128_132.out;have hnc58:=NB132_128.out;have ⟨hcz59_0,hcz59_1,hfz59_0,hfz59_1⟩:=cz2_ BK128.out;obtain ⟨Ao61,co61,eo61⟩:=Kd.R_slice HO_129001.out;subst eo61;have q60:(x9_3:Int)≤((x129001_2.length:Int):Int):=dT (z2_);obtain ⟨i060,hi060,_,hsz60,_⟩:=info_parts info78;have hroom60:x129001_2.length≤co61:=(Kd.R_reads' HO_129001.out).2.1;have hC60:Kd.C k78 _ Ao61 x129001_2.length x129001_2:=(Kd.R_reads' HO_129001.out).2.2;have hcut60:=cut_to (P:=Tryz.prog) 25 78 .i64 Tryz.underlying25 hi060 Ao61 x129001_2.length co61 x9_3 (dT (z2_)) q60 hroom60;have hr60:=Kd.C_take (m:=(x9_3:Int).toNat) hC60 (by omega);have hy60:y139.length=(x9_3:Int).toNat:=(by rw [Ny139.out,List.length_take];omega);rw [← Ny139.out] at hr60;rw [← hy60] at hcut60;have HR142:=aM hr60;have HC142:=aM (show y139.length≤co61 from by omega);clear hr60 hC60 hroom60 hi060 hsz60;have KY60:=aM hy60;clear hy60;have KL60:=aM (show (x9_3:Int).toNat≤x129001_2.length from by omega);replace q60:=eq_true q60) | ((with_reducible refine gate_builtin (b:=.append) (xs:=#[.tmp 72,.tmp 76]) rfl ?_);at_builtin;refine Kd.R_append_rows k78 (w0:=w) w.heap.size rfl (.tmp 72) (.tmp 76) 25 78 (.agg #[(.int .i64 0),(.int .i64 0)]) 16 rfl Tryz.underlying25 info78 rfl (by decide) (by omega) v137 y136 y139 _ _ _ (fun k_=>some k_≠(.slice Ao61 x129001_2.length co61:Value).ownBlock∧k_≠gb132) (fun _=>False) rfl rfl ?aO ?aR (fun _ _ h=>h) (fun _ h=>h.elim) ?aF ?aB ?aS ?aL ?_;(case aR=>repeat (first | exact (z28_ HR142.out) | (with_reducible refine Kd.C_alloc ?_ _) | (with_reducible refine Kd.C_drewN ?_ _) | (with_reducible refine Kd.C_drew ?_)));(case aB=>exact (z12_ HB.out GE127.out GE128.out GE132.out));(case aF=>exact (fun k_ hk=>⟨Kd.fresh' (Kd.R_lt (z0_ HO_129001.out)) k_ hk,Kd.freshB (g:=gb132) (o:=.cells #[.int .i64 t131,.int .i64 x6_1] 78 (0,0)) (z4_ BK132.out) k_ hk⟩));(case aO=>exact (z39_ HO138.out));(case aS=>exact (below_size (z12_ HB.out GE127.out GE128.out GE132.out)));(case aL=>have:=LMc50.out;omega);intro v144 w62 ho hb hg hat;rw [← Ny143.out] at ho;have n0_:=aM (Kd.R_after (ok:=(fun k_=>k_≠gb132)) (z0_ HO_129001.out) hg hat);have n1_:=aM (blk_grown (g:=gb127) (o:=.cells #[.int .i64 0,.slice none 0 0] 27 (0,0)) (z4_ BK127.out) hg (Kd.R_ne HO138.out BK127.out (by decide)));have n2_:=aM (blk_grown (g:=gb128) (o:=.cells #[.int .i64 a0,.slice Ao61 x129001_2.length co61] 27 (0,0)) (z4_ BK128.out) hg (Kd.R_ne HO138.out BK128.out (by decide)));have n3_:=aM (blk_grown (g:=gb132) (o:=.cells #[.int .i64 t131,.int .i64 x6_1] 78 (0,0)) (z4_ BK132.out) hg (Kd.R_away HO138.out (fun _ hk=>hk.2)));have n4_:=aM (hb);have n5_:=aM ((show Kd.C k78 w62 Ao61 y139.length y139 from by rw [Ny139.out];exact Kd.C_take (m:=(x9_3:Int).toNat) ((Kd.R_reads' (Kd.R_after (ok:=(fun k_=>k_≠gb132)) (z0_ HO_129001.out) hg hat)).2.2) KL60.out));have n6_:=aM (ho);clear HO_129001;clear BK127;clear BK128;clear BK132;clear HB;clear HR142;clear HO138;have HO_129001:=n0_;have BK127:=n1_;have BK128:=n2_;have BK132:=n3_;have HB:=n4_;have HR142:=n5_;have HO145:=n6_;clear n0_ n1_ n2_ n3_ n4_ n5_ n6_;clear ho hb hg hat;have hnb63:=NB132_127.out;have hnc63:=NB127_132.out;have ⟨hcz64_0,hcz64_1,hfz64_0,hfz64_1⟩:=cz2_ BK132.out) | ((with_reducible refine gate_builtin (b:=.append) (xs:=#[.tmp 78,.tmp 80]) rfl ?_);at_builtin;refine Kd.R_append k78 (w0:=w) w.heap.size rfl (.tmp 78) (.tmp 80) 25 78 (.agg #[(.int .i64 0),(.int .i64 0)]) 16 rfl Tryz.underlying25 info78 rfl (by decide) (by omega) v144 y143 (⟨t131,x6_1⟩:S78) [.int .i64 t131,.int .i64 x6_1] (fun k_=>some k_≠(.slice Ao61 x129001_2.length co61:Value).ownBlock∧k_≠gb132) (fun _=>False) rfl rfl ?aP (fun _ hk=>hk.elim) ?aF ?aO ?aB ?aS ?aL ?_;(case aP=>exact k78_mkM _ _ _ (⟨t131,x6_1⟩:S78));(case aB=>exact (z12_ HB.out GE127.out GE128.out GE132.out));(case aF=>exact (fun k_ hk=>⟨Kd.fresh' (Kd.R_lt (z0_ HO_129001.out)) k_ hk,Kd.freshB (g:=gb132) (o:=.cells #[.int .i64 t131,.int .i64 x6_1] 78 (0,0)) (z4_ BK132.out) k_ hk⟩));(case aO=>exact (z0_ HO145.out));(case aS=>exact (below_size (z12_ HB.out GE127.out GE128.out GE132.out)));(case aL=>have:=LMc51.out;omega);intro v147 w65 ho hb hg hat;rw [← Ny146.out] at ho;have n0_:=aM (Kd.R_after (ok:=(fun k_=>k_≠gb132)) (z0_ HO_129001.out) hg hat);have n1_:=aM (blk_grown (g:=gb127) (o:=.cells #[.int .i64 0,.slice none 0 0] 27 (0,0)) (z4_ BK127.out) hg (Kd.R_ne HO145.out BK127.out (by decide)));have n2_:=aM (blk_grown (g:=gb128) (o:=.cells #[.int .i64 a0,.slice Ao61 x129001_2.length co61] 27 (0,0)) (z4_ BK128.out) hg (Kd.R_ne HO145.out BK128.out (by decide)));have n3_:=aM (blk_grown (g:=gb132) (o:=.cells #[.int .i64 t131,.int .i64 x6_1] 78 (0,0)) (z4_ BK132.out) hg (Kd.R_away HO145.out (fun _ hk=>hk.2)));have n4_:=aM (hb);have n5_:=aM ((show Kd.C k78 w65 Ao61 y139.length y139 from by rw [Ny139.out];exact Kd.C_take (m:=(x9_3:Int).toNat) ((Kd.R_reads' (Kd.R_after (ok:=(fun k_=>k_≠gb132)) (z0_ HO_129001.out) hg hat)).2.2) KL60.out));have n6_:=aM (ho);clear HO_129001;clear BK127;clear BK128;clear BK132;clear HB;clear HR142;clear HO145;have HO_129001:=n0_;have BK127:=n1_;have BK128:=n2_;have BK132:=n3_;have HB:=n4_;have HR142:=n5_;have HO148:=n6_;clear n0_ n1_ n2_ n3_ n4_ n5_ n6_;clear ho hb hg hat;have ⟨hcz66_0,hcz66_1,hfz66_0,hfz66_1⟩:=cz2_ BK128.out;have q67:(x9_3:Int)≤((x129001_2.length:Int):Int):=dT (z2_);obtain ⟨i067,hi067,_,hsz67,_⟩:=info_parts info78;have hroom67:x129001_2.length≤co61:=(Kd.R_reads' HO_129001.out).2.1;have hC67:Kd.C k78 _ Ao61 x129001_2.length x129001_2:=(Kd.R_reads' HO_129001.out).2.2;have q067:(0:Int)≤(x9_3:Int):=dT (z2_);have hcut67:=cut_from (P:=Tryz.prog) 25 78 .i64 Tryz.underlying25 hi067 2 hsz67 Ao61 x129001_2.length co61 x9_3 q067 q67;have hr67:=Kd.C_drop (m:=(x9_3:Int).toNat) (c:=co61) hC67 (by omega) hroom67;obtain ⟨A67,hA67⟩:∃ A1,A1=(if co61=(x9_3:Int).toNat then Ao61 else (Ao61:Option Addr).map (·.add ((x9_3:Int).toNat*2))):=⟨_,rfl⟩;obtain ⟨c67,hc67⟩:∃ c1,c1=co61-(x9_3:Int).toNat:=⟨_,rfl⟩;have hy67:y149.length=x129001_2.length-(x9_3:Int).toNat:=(by rw [Ny149.out,List.length_drop] <;> omega);rw [show (x129001_2).drop (x9_3:Int).toNat=y149 from Ny149.out.symm] at hr67;replace hr67:Kd.C k78 _ A67 y149.length y149:=(by rw [hA67];exact hr67);rw [← hy67,← hA67,← hc67] at hcut67;have HR152:=aM hr67;have HC152:=aM (show y149.length≤c67 from by rw [hy67,hc67];exact Nat.sub_le_sub_right hroom67 _);clear hr67 hC67 hroom67 hi067 hsz67 hc67;have KY67:=aM hy67;have KA67:=aM hA67;clear hy67 hA67;have KL67:=aM (show (x9_3:Int).toNat≤x129001_2.length from by omega);replace q67:=eq_true q67) | ((with_reducible refine gate_builtin (b:=.append) (xs:=#[.tmp 82,.tmp 86]) rfl ?_);at_builtin;refine Kd.R_append_rows k78 (w0:=w) w.heap.size rfl (.tmp 82) (.tmp 86) 25 78 (.agg #[(.int .i64 0),(.int .i64 0)]) 16 rfl Tryz.underlying25 info78 rfl (by decide) (by omega) v147 y146 y149 _ _ _ (fun k_=>some k_≠(.slice Ao61 x129001_2.length co61:Value).ownBlock∧k_≠gb132) (fun _=>False) rfl rfl ?aO ?aR (fun _ _ h=>h) (fun _ h=>h.elim) ?aF ?aB ?aS ?aL ?_;(case aR=>repeat (first | exact (z28_ HR152.out) | (with_reducible refine Kd.C_alloc ?_ _) | (with_reducible refine Kd.C_drewN ?_ _) | (with_reducible refine Kd.C_drew ?_)));(case aB=>exact (z12_ HB.out GE127.out GE128.out GE132.out));(case aF=>exact (fun k_ hk=>⟨Kd.fresh' (Kd.R_lt (z0_ HO_129001.out)) k_ hk,Kd.freshB (g:=gb132) (o:=.cells #[.int .i64 t131,.int .i64 x6_1] 78 (0,0)) (z4_ BK132.out) k_ hk⟩));(case aO=>exact (z0_ HO148.out));(case aS=>exact (below_size (z12_ HB.out GE127.out GE128.out GE132.out)));(case aL=>have:=LMc54.out;omega);intro v154 w68 ho hb hg hat;rw [← Ny153.out] at ho;have n0_:=aM (Kd.R_after (ok:=(fun k_=>k_≠gb132)) (z0_ HO_129001.out) hg hat);have n1_:=aM (blk_grown (g:=gb127) (o:=.cells #[.int .i64 0,.slice none 0 0] 27 (0,0)) (z4_ BK127.out) hg (Kd.R_ne HO148.out BK127.out (by decide)));have n2_:=aM (blk_grown (g:=gb128) (o:=.cells #[.int .i64 a0,.slice Ao61 x129001_2.length co61] 27 (0,0)) (z4_ BK128.out) hg (Kd.R_ne HO148.out BK128.out (by decide)));have n3_:=aM (blk_grown (g:=gb132) (o:=.cells #[.int .i64 t131,.int .i64 x6_1] 78 (0,0)) (z4_ BK132.out) hg (Kd.R_away HO148.out (fun _ hk=>hk.2)));have n4_:=aM (hb);have n5_:=aM ((show Kd.C k78 w68 Ao61 y139.length y139 from by rw [Ny139.out];exact Kd.C_take (m:=(x9_3:Int).toNat) ((Kd.R_reads' (Kd.R_after (ok:=(fun k_=>k_≠gb132)) (z0_ HO_129001.out) hg hat)).2.2) KL60.out));have n6_:=aM ((show Kd.C k78 w68 A67 y149.length y149 from by rw [Ny149.out,KA67.out];exact Kd.C_drop (m:=(x9_3:Int).toNat) (c:=co61) ((Kd.R_reads' (Kd.R_after (ok:=(fun k_=>k_≠gb132)) (z0_ HO_129001.out) hg hat)).2.2) KL67.out ((Kd.R_reads' (Kd.R_after (ok:=(fun k_=>k_≠gb132)) (z0_ HO_129001.out) hg hat)).2.1)));have n7_:=aM (ho);clear HO_129001;clear BK127;clear BK128;clear BK132;clear HB;clear HR142;clear HR152;clear HO148;have HO_129001:=n0_;have BK127:=n1_;have BK128:=n2_;have BK132:=n3_;have HB:=n4_;have HR142:=n5_;have HR152:=n6_;have HO155:=n7_;clear n0_ n1_ n2_ n3_ n4_ n5_ n6_ n7_;clear ho hb hg hat;obtain ⟨Ao69,co69,eo69⟩:=Kd.R_slice HO155.out;subst eo69;have ⟨hcz70_0,hcz70_1,hfz70_0,hfz70_1⟩:=cz2_ BK128.out))
                   repeat (go_quiet (first | ((with_reducible refine gd_ 72 ?_);refine Kd.R_lit k78 _ 78 ?hg (N:=72) ?hd (xs:=([]:List (S78))) (inner:=[]) (ok:=fun _=>True) (okp:=fun _=>True) ?hr ?hp (fun _ hk=>hk) trivial (Below.refl _ _) (Nat.le_refl _) (by simp) ?_;(case hd=>rfl);(case hg=>rfl);(case hr=>first | (go_simp;done) | (go_simp;rfl));(case hp=>exact (Reps.none _ _));intro v137 w55 ho56 hb hg_ hnew_;clear hg_ hnew_;(first | rw [← Ny136.out] at ho56 | (simp only [Int.reduceToNat] at ho56;rw [← Ny136.out] at ho56));have n0_:=aM (Kd.R_elder' (z0_ HO_129001.out) (Kd.R_base ho56) hb);have n1_:=aM (Kd.R_lower (Kd.R_newB (Kd.R_new' ho56 (Kd.R_lt (z0_ HO_129001.out))) (g:=gb132) (o:=.cells #[.int .i64 t131,.int .i64 x6_1] 78 (0,0)) (z4_ BK132.out)) (below_size (z12_ HB.out GE127.out GE128.out GE132.out)));have n2_:=aM (blkB_ BK127.out hb);have n3_:=aM (blkB_ BK128.out hb);have n4_:=aM (blkB_ BK132.out hb);have n5_:=aM (below_step (z12_ HB.out GE127.out GE128.out GE132.out) hb);clear HO_129001;clear BK127;clear BK128;clear BK132;clear HB;have HO_129001:=n0_;have HO138:=n1_;have BK127:=n2_;have BK128:=n3_;have BK132:=n4_;have HB:=n5_;clear n0_ n1_ n2_ n3_ n4_ n5_;clear hb ho56;have hnb57:=NB128_127.out;have hnc57:=NB127_128.out;have hnb58:=NB128_132.out;have hnc58:=NB132_128.out;have ⟨hcz59_0,hcz59_1,hfz59_0,hfz59_1⟩:=cz2_ BK128.out;obtain ⟨Ao61,co61,eo61⟩:=Kd.R_slice HO_129001.out;subst eo61;have q60:(x9_3:Int)≤((x129001_2.length:Int):Int):=dT (z2_);obtain ⟨i060,hi060,_,hsz60,_⟩:=info_parts info78;have hroom60:x129001_2.length≤co61:=(Kd.R_reads' HO_129001.out).2.1;have hC60:Kd.C k78 _ Ao61 x129001_2.length x129001_2:=(Kd.R_reads' HO_129001.out).2.2;have hcut60:=cut_to (P:=Tryz.prog) 25 78 .i64 Tryz.underlying25 hi060 Ao61 x129001_2.length co61 x9_3 (dT (z2_)) q60 hroom60;have hr60:=Kd.C_take (m:=(x9_3:Int).toNat) hC60 (by omega);have hy60:y139.length=(x9_3:Int).toNat:=(by rw [Ny139.out,List.length_take];omega);rw [← Ny139.out] at hr60;rw [← hy60] at hcut60;have HR142:=aM hr60;have HC142:=aM (show y139.length≤co61 from by omega);clear hr60 hC60 hroom60 hi060 hsz60;have KY60:=aM hy60;clear hy60;have KL60:=aM (show (x9_3:Int).toNat≤x129001_2.length from by omega);replace q60:=eq_true q60) | ((with_reducible refine gate_builtin (b:=.append) (xs:=#[.tmp 72,.tmp 76]) rfl ?_);at_builtin;refine Kd.R_append_rows k78 (w0:=w) w.heap.size rfl (.tmp 72) (.tmp 76) 25 78 (.agg #[(.int .i64 0),(.int .i64 0)]) 16 rfl Tryz.underlying25 info78 rfl (by decide) (by omega) v137 y136 y139 _ _ _ (fun k_=>some k_≠(.slice Ao61 x129001_2.length co61:Value).ownBlock∧k_≠gb132) (fun _=>False) rfl rfl ?aO ?aR (fun _ _ h=>h) (fun _ h=>h.elim) ?aF ?aB ?aS ?aL ?_;(case aR=>repeat (first | exact (z28_ HR142.out) | (with_reducible refine Kd.C_alloc ?_ _) | (with_reducible refine Kd.C_drewN ?_ _) | (with_reducible refine Kd.C_drew ?_)));(case aB=>exact (z12_ HB.out GE127.out GE128.out GE132.out));(case aF=>exact (fun k_ hk=>⟨Kd.fresh' (Kd.R_lt (z0_ HO_129001.out)) k_ hk,Kd.freshB (g:=gb132) (o:=.cells #[.int .i64 t131,.int .i64 x6_1] 78 (0,0)) (z4_ BK132.out) k_ hk⟩));(case aO=>exact (z39_ HO138.out));(case aS=>exact (below_size (z12_ HB.out GE127.out GE128.out GE132.out)));(case aL=>have:=LMc50.out;omega);intro v144 w62 ho hb hg hat;rw [← Ny143.out] at ho;have n0_:=aM (Kd.R_after (ok:=(fun k_=>k_≠gb132)) (z0_ HO_129001.out) hg hat);have n1_:=aM (blk_grown (g:=gb127) (o:=.cells #[.int .i64 0,.slice none 0 0] 27 (0,0)) (z4_ BK127.out) hg (Kd.R_ne HO138.out BK127.out (by decide)));have n2_:=aM (blk_grown (g:=gb128) (o:=.cells #[.int .i64 a0,.slice Ao61 x129001_2.length co61] 27 (0,0)) (z4_ BK128.out) hg (Kd.R_ne HO138.out BK128.out (by decide)));have n3_:=aM (blk_grown (g:=gb132) (o:=.cells #[.int .i64 t131,.int .i64 x6_1] 78 (0,0)) (z4_ BK132.out) hg (Kd.R_away HO138.out (fun _ hk=>hk.2)));have n4_:=aM (hb);have n5_:=aM ((show Kd.C k78 w62 Ao61 y139.length y139 from by rw [Ny139.out];exact Kd.C_take (m:=(x9_3:Int).toNat) ((Kd.R_reads' (Kd.R_after (ok:=(fun k_=>k_≠gb132)) (z0_ HO_129001.out) hg hat)).2.2) KL60.out));have n6_:=aM (ho);clear HO_129001;clear BK127;clear BK128;clear BK132;clear HB;clear HR142;clear HO138;have HO_129001:=n0_;have BK127:=n1_;have BK128:=n2_;have BK132:=n3_;have HB:=n4_;have HR142:=n5_;have HO145:=n6_;clear n0_ n1_ n2_ n3_ n4_ n5_ n6_;clear ho hb hg hat;have hnb63:=NB132_127.out;have hnc63:=NB127_132.out;have ⟨hcz64_0,hcz64_1,hfz64_0,hfz64_1⟩:=cz2_ BK132.out) | ((with_reducible refine gate_builtin (b:=.append) (xs:=#[.tmp 78,.tmp 80]) rfl ?_);at_builtin;refine Kd.R_append k78 (w0:=w) w.heap.size rfl (.tmp 78) (.tmp 80) 25 78 (.agg #[(.int .i64 0),(.int .i64 0)]) 16 rfl Tryz.underlying25 info78 rfl (by decide) (by omega) v144 y143 (⟨t131,x6_1⟩:S78) [.int .i64 t131,.int .i64 x6_1] (fun k_=>some k_≠(.slice Ao61 x129001_2.length co61:Value).ownBlock∧k_≠gb132) (fun _=>False) rfl rfl ?aP (fun _ hk=>hk.elim) ?aF ?aO ?aB ?aS ?aL ?_;(case aP=>exact k78_mkM _ _ _ (⟨t131,x6_1⟩:S78));(case aB=>exact (z12_ HB.out GE127.out GE128.out GE132.out));(case aF=>exact (fun k_ hk=>⟨Kd.fresh' (Kd.R_lt (z0_ HO_129001.out)) k_ hk,Kd.freshB (g:=gb132) (o:=.cells #[.int .i64 t131,.int .i64 x6_1] 78 (0,0)) (z4_ BK132.out) k_ hk⟩));(case aO=>exact (z0_ HO145.out));(case aS=>exact (below_size (z12_ HB.out GE127.out GE128.out GE132.out)));(case aL=>have:=LMc51.out;omega);intro v147 w65 ho hb hg hat;rw [← Ny146.out] at ho;have n0_:=aM (Kd.R_after (ok:=(fun k_=>k_≠gb132)) (z0_ HO_129001.out) hg hat);have n1_:=aM (blk_grown (g:=gb127) (o:=.cells #[.int .i64 0,.slice none 0 0] 27 (0,0)) (z4_ BK127.out) hg (Kd.R_ne HO145.out BK127.out (by decide)));have n2_:=aM (blk_grown (g:=gb128) (o:=.cells #[.int .i64 a0,.slice Ao61 x129001_2.length co61] 27 (0,0)) (z4_ BK128.out) hg (Kd.R_ne HO145.out BK128.out (by decide)));have n3_:=aM (blk_grown (g:=gb132) (o:=.cells #[.int .i64 t131,.int .i64 x6_1] 78 (0,0)) (z4_ BK132.out) hg (Kd.R_away HO145.out (fun _ hk=>hk.2)));have n4_:=aM (hb);have n5_:=aM ((show Kd.C k78 w65 Ao61 y139.length y139 from by rw [Ny139.out];exact Kd.C_take (m:=(x9_3:Int).toNat) ((Kd.R_reads' (Kd.R_after (ok:=(fun k_=>k_≠gb132)) (z0_ HO_129001.out) hg hat)).2.2) KL60.out));have n6_:=aM (ho);clear HO_129001;clear BK127;clear BK128;clear BK132;clear HB;clear HR142;clear HO145;have HO_129001:=n0_;have BK127:=n1_;have BK128:=n2_;have BK132:=n3_;have HB:=n4_;have HR142:=n5_;have HO148:=n6_;clear n0_ n1_ n2_ n3_ n4_ n5_ n6_;clear ho hb hg hat;have ⟨hcz66_0,hcz66_1,hfz66_0,hfz66_1⟩:=cz2_ BK128.out;have q67:(x9_3:Int)≤((x129001_2.length:Int):Int):=dT (z2_);obtain ⟨i067,hi067,_,hsz67,_⟩:=info_parts info78;have hroom67:x129001_2.length≤co61:=(Kd.R_reads' HO_129001.out).2.1;have hC67:Kd.C k78 _ Ao61 x129001_2.length x129001_2:=(Kd.R_reads' HO_129001.out).2.2;have q067:(0:Int)≤(x9_3:Int):=dT (z2_);have hcut67:=cut_from (P:=Tryz.prog) 25 78 .i64 Tryz.underlying25 hi067 2 hsz67 Ao61 x129001_2.length co61 x9_3 q067 q67;have hr67:=Kd.C_drop (m:=(x9_3:Int).toNat) (c:=co61) hC67 (by omega) hroom67;obtain ⟨A67,hA67⟩:∃ A1,A1=(if co61=(x9_3:Int).toNat then Ao61 else (Ao61:Option Addr).map (·.add ((x9_3:Int).toNat*2))):=⟨_,rfl⟩;obtain ⟨c67,hc67⟩:∃ c1,c1=co61-(x9_3:Int).toNat:=⟨_,rfl⟩;have hy67:y149.length=x129001_2.length-(x9_3:Int).toNat:=(by rw [Ny149.out,List.length_drop] <;> omega);rw [show (x129001_2).drop (x9_3:Int).toNat=y149 from Ny149.out.symm] at hr67;replace hr67:Kd.C k78 _ A67 y149.length y149:=(by rw [hA67];exact hr67);rw [← hy67,← hA67,← hc67] at hcut67;have HR152:=aM hr67;have HC152:=aM (show y149.length≤c67 from by rw [hy67,hc67];exact Nat.sub_le_sub_right hroom67 _);clear hr67 hC67 hroom67 hi067 hsz67 hc67;have KY67:=aM hy67;have KA67:=aM hA67;clear hy67 hA67;have KL67:=aM (show (x9_3:Int).toNat≤x129001_2.length from by omega);replace q67:=eq_true q67) | ((with_reducible refine gate_builtin (b:=.append) (xs:=#[.tmp 82,.tmp 86]) rfl ?_);at_builtin;refine Kd.R_append_rows k78 (w0:=w) w.heap.size rfl (.tmp 82) (.tmp 86) 25 78 (.agg #[(.int .i64 0),(.int .i64 0)]) 16 rfl Tryz.underlying25 info78 rfl (by decide) (by omega) v147 y146 y149 _ _ _ (fun k_=>some k_≠(.slice Ao61 x129001_2.length co61:Value).ownBlock∧k_≠gb132) (fun _=>False) rfl rfl ?aO ?aR (fun _ _ h=>h) (fun _ h=>h.elim) ?aF ?aB ?aS ?aL ?_;(case aR=>repeat (first | exact (z28_ HR152.out) | (with_reducible refine Kd.C_alloc ?_ _) | (with_reducible refine Kd.C_drewN ?_ _) | (with_reducible refine Kd.C_drew ?_)));(case aB=>exact (z12_ HB.out GE127.out GE128.out GE132.out));(case aF=>exact (fun k_ hk=>⟨Kd.fresh' (Kd.R_lt (z0_ HO_129001.out)) k_ hk,Kd.freshB (g:=gb132) (o:=.cells #[.int .i64 t131,.int .i64 x6_1] 78 (0,0)) (z4_ BK132.out) k_ hk⟩));(case aO=>exact (z0_ HO148.out));(case aS=>exact (below_size (z12_ HB.out GE127.out GE128.out GE132.out)));(case aL=>have:=LMc54.out;omega);intro v154 w68 ho hb hg hat;rw [← Ny153.out] at ho;have n0_:=aM (Kd.R_after (ok:=(fun k_=>k_≠gb132)) (z0_ HO_129001.out) hg hat);have n1_:=aM (blk_grown (g:=gb127) (o:=.cells #[.int .i64 0,.slice none 0 0] 27 (0,0)) (z4_ BK127.out) hg (Kd.R_ne HO148.out BK127.out (by decide)));have n2_:=aM (blk_grown (g:=gb128) (o:=.cells #[.int .i64 a0,.slice Ao61 x129001_2.length co61] 27 (0,0)) (z4_ BK128.out) hg (Kd.R_ne HO148.out BK128.out (by decide)));have n3_:=aM (blk_grown (g:=gb132) (o:=.cells #[.int .i64 t131,.int .i64 x6_1] 78 (0,0)) (z4_ BK132.out) hg (Kd.R_away HO148.out (fun _ hk=>hk.2)));have n4_:=aM (hb);have n5_:=aM ((show Kd.C k78 w68 Ao61 y139.length y139 from by rw [Ny139.out];exact Kd.C_take (m:=(x9_3:Int).toNat) ((Kd.R_reads' (Kd.R_after (ok:=(fun k_=>k_≠gb132)) (z0_ HO_129001.out) hg hat)).2.2) KL60.out));have n6_:=aM ((show Kd.C k78 w68 A67 y149.length y149 from by rw [Ny149.out,KA67.out];exact Kd.C_drop (m:=(x9_3:Int).toNat) (c:=co61) ((Kd.R_reads' (Kd.R_after (ok:=(fun k_=>k_≠gb132)) (z0_ HO_129001.out) hg hat)).2.2) KL67.out ((Kd.R_reads' (Kd.R_after (ok:=(fun k_=>k_≠gb132)) (z0_ HO_129001.out) hg hat)).2.1)));have n7_:=aM (ho);clear HO_129001;clear BK127;clear BK128;clear BK132;clear HB;clear HR142;clear HR152;clear HO148;have HO_129001:=n0_;have BK127:=n1_;have BK128:=n2_;have BK132:=n3_;have HB:=n4_;have HR142:=n5_;have HR152:=n6_;have HO155:=n7_;clear n0_ n1_ n2_ n3_ n4_ n5_ n6_ n7_;clear ho hb hg hat;obtain ⟨Ao69,co69,eo69⟩:=Kd.R_slice HO155.out;subst eo69;have ⟨hcz70_0,hcz70_1,hfz70_0,hfz70_1⟩:=cz2_ BK128.out));try go_wp2_with (first | ((with_reducible refine gd_ 72 ?_);refine Kd.R_lit k78 _ 78 ?hg (N:=72) ?hd (xs:=([]:List (S78))) (inner:=[]) (ok:=fun _=>True) (okp:=fun _=>True) ?hr ?hp (fun _ hk=>hk) trivial (Below.refl _ _) (Nat.le_refl _) (by simp) ?_;(case hd=>rfl);(case hg=>rfl);(case hr=>first | (go_simp;done) | (go_simp;rfl));(case hp=>exact (Reps.none _ _));intro v137 w55 ho56 hb hg_ hnew_;clear hg_ hnew_;(first | rw [← Ny136.out] at ho56 | (simp only [Int.reduceToNat] at ho56;rw [← Ny136.out] at ho56));have n0_:=aM (Kd.R_elder' (z0_ HO_129001.out) (Kd.R_base ho56) hb);have n1_:=aM (Kd.R_lower (Kd.R_newB (Kd.R_new' ho56 (Kd.R_lt (z0_ HO_129001.out))) (g:=gb132) (o:=.cells #[.int .i64 t131,.int .i64 x6_1] 78 (0,0)) (z4_ BK132.out)) (below_size (z12_ HB.out GE127.out GE128.out GE132.out)));have n2_:=aM (blkB_ BK127.out hb);have n3_:=aM (blkB_ BK128.out hb);have n4_:=aM (blkB_ BK132.out hb);have n5_:=aM (below_step (z12_ HB.out GE127.out GE128.out GE132.out) hb);clear HO_129001;clear BK127;clear BK128;clear BK132;clear HB;have HO_129001:=n0_;have HO138:=n1_;have BK127:=n2_;have BK128:=n3_;have BK132:=n4_;have HB:=n5_;clear n0_ n1_ n2_ n3_ n4_ n5_;clear hb ho56;have hnb57:=NB128_127.out;have hnc57:=NB127_128.out;have hnb58:=NB128_132.out;have hnc58:=NB132_128.out;have ⟨hcz59_0,hcz59_1,hfz59_0,hfz59_1⟩:=cz2_ BK128.out;obtain ⟨Ao61,co61,eo61⟩:=Kd.R_slice HO_129001.out;subst eo61;have q60:(x9_3:Int)≤((x129001_2.length:Int):Int):=dT (z2_);obtain ⟨i060,hi060,_,hsz60,_⟩:=info_parts info78;have hroom60:x129001_2.length≤co61:=(Kd.R_reads' HO_129001.out).2.1;have hC60:Kd.C k78 _ Ao61 x129001_2.length x129001_2:=(Kd.R_reads' HO_129001.out).2.2;have hcut60:=cut_to (P:=Tryz.prog) 25 78 .i64 Tryz.underlying25 hi060 Ao61 x129001_2.length co61 x9_3 (dT (z2_)) q60 hroom60;have hr60:=Kd.C_take (m:=(x9_3:Int).toNat) hC60 (by omega);have hy60:y139.length=(x9_3:Int).toNat:=(by rw [Ny139.out,List.length_take];omega);rw [← Ny139.out] at hr60;rw [← hy60] at hcut60;have HR142:=aM hr60;have HC142:=aM (show y139.length≤co61 from by omega);clear hr60 hC60 hroom60 hi060 hsz60;have KY60:=aM hy60;clear hy60;have KL60:=aM (show (x9_3:Int).toNat≤x129001_2.length from by omega);replace q60:=eq_true q60) | ((with_reducible refine gate_builtin (b:=.append) (xs:=#[.tmp 72,.tmp 76]) rfl ?_);at_builtin;refine Kd.R_append_rows k78 (w0:=w) w.heap.size rfl (.tmp 72) (.tmp 76) 25 78 (.agg #[(.int .i64 0),(.int .i64 0)]) 16 rfl Tryz.underlying25 info78 rfl (by decide) (by omega) v137 y136 y139 _ _ _ (fun k_=>some k_≠(.slice Ao61 x129001_2.length co61:Value).ownBlock∧k_≠gb132) (fun _=>False) rfl rfl ?aO ?aR (fun _ _ h=>h) (fun _ h=>h.elim) ?aF ?aB ?aS ?aL ?_;(case aR=>repeat (first | exact (z28_ HR142.out) | (with_reducible refine Kd.C_alloc ?_ _) | (with_reducible refine Kd.C_drewN ?_ _) | (with_reducible refine Kd.C_drew ?_)));(case aB=>exact (z12_ HB.out GE127.out GE128.out GE132.out));(case aF=>exact (fun k_ hk=>⟨Kd.fresh' (Kd.R_lt (z0_ HO_129001.out)) k_ hk,Kd.freshB (g:=gb132) (o:=.cells #[.int .i64 t131,.int .i64 x6_1] 78 (0,0)) (z4_ BK132.out) k_ hk⟩));(case aO=>exact (z39_ HO138.out));(case aS=>exact (below_size (z12_ HB.out GE127.out GE128.out GE132.out)));(case aL=>have:=LMc50.out;omega);intro v144 w62 ho hb hg hat;rw [← Ny143.out] at ho;have n0_:=aM (Kd.R_after (ok:=(fun k_=>k_≠gb132)) (z0_ HO_129001.out) hg hat);have n1_:=aM (blk_grown (g:=gb127) (o:=.cells #[.int .i64 0,.slice none 0 0] 27 (0,0)) (z4_ BK127.out) hg (Kd.R_ne HO138.out BK127.out (by decide)));have n2_:=aM (blk_grown (g:=gb128) (o:=.cells #[.int .i64 a0,.slice Ao61 x129001_2.length co61] 27 (0,0)) (z4_ BK128.out) hg (Kd.R_ne HO138.out BK128.out (by decide)));have n3_:=aM (blk_grown (g:=gb132) (o:=.cells #[.int .i64 t131,.int .i64 x6_1] 78 (0,0)) (z4_ BK132.out) hg (Kd.R_away HO138.out (fun _ hk=>hk.2)));have n4_:=aM (hb);have n5_:=aM ((show Kd.C k78 w62 Ao61 y139.length y139 from by rw [Ny139.out];exact Kd.C_take (m:=(x9_3:Int).toNat) ((Kd.R_reads' (Kd.R_after (ok:=(fun k_=>k_≠gb132)) (z0_ HO_129001.out) hg hat)).2.2) KL60.out));have n6_:=aM (ho);clear HO_129001;clear BK127;clear BK128;clear BK132;clear HB;clear HR142;clear HO138;have HO_129001:=n0_;have BK127:=n1_;have BK128:=n2_;have BK132:=n3_;have HB:=n4_;have HR142:=n5_;have HO145:=n6_;clear n0_ n1_ n2_ n3_ n4_ n5_ n6_;clear ho hb hg hat;have hnb63:=NB132_127.out;have hnc63:=NB127_132.out;have ⟨hcz64_0,hcz64_1,hfz64_0,hfz64_1⟩:=cz2_ BK132.out) | ((with_reducible refine gate_builtin (b:=.append) (xs:=#[.tmp 78,.tmp 80]) rfl ?_);at_builtin;refine Kd.R_append k78 (w0:=w) w.heap.size rfl (.tmp 78) (.tmp 80) 25 78 (.agg #[(.int .i64 0),(.int .i64 0)]) 16 rfl Tryz.underlying25 info78 rfl (by decide) (by omega) v144 y143 (⟨t131,x6_1⟩:S78) [.int .i64 t131,.int .i64 x6_1] (fun k_=>some k_≠(.slice Ao61 x129001_2.length co61:Value).ownBlock∧k_≠gb132) (fun _=>False) rfl rfl ?aP (fun _ hk=>hk.elim) ?aF ?aO ?aB ?aS ?aL ?_;(case aP=>exact k78_mkM _ _ _ (⟨t131,x6_1⟩:S78));(case aB=>exact (z12_ HB.out GE127.out GE128.out GE132.out));(case aF=>exact (fun k_ hk=>⟨Kd.fresh' (Kd.R_lt (z0_ HO_129001.out)) k_ hk,Kd.freshB (g:=gb132) (o:=.cells #[.int .i64 t131,.int .i64 x6_1] 78 (0,0)) (z4_ BK132.out) k_ hk⟩));(case aO=>exact (z0_ HO145.out));(case aS=>exact (below_size (z12_ HB.out GE127.out GE128.out GE132.out)));(case aL=>have:=LMc51.out;omega);intro v147 w65 ho hb hg hat;rw [← Ny146.out] at ho;have n0_:=aM (Kd.R_after (ok:=(fun k_=>k_≠gb132)) (z0_ HO_129001.out) hg hat);have n1_:=aM (blk_grown (g:=gb127) (o:=.cells #[.int .i64 0,.slice none 0 0] 27 (0,0)) (z4_ BK127.out) hg (Kd.R_ne HO145.out BK127.out (by decide)));have n2_:=aM (blk_grown (g:=gb128) (o:=.cells #[.int .i64 a0,.slice Ao61 x129001_2.length co61] 27 (0,0)) (z4_ BK128.out) hg (Kd.R_ne HO145.out BK128.out (by decide)));have n3_:=aM (blk_grown (g:=gb132) (o:=.cells #[.int .i64 t131,.int .i64 x6_1] 78 (0,0)) (z4_ BK132.out) hg (Kd.R_away HO145.out (fun _ hk=>hk.2)));have n4_:=aM (hb);have n5_:=aM ((show Kd.C k78 w65 Ao61 y139.length y139 from by rw [Ny139.out];exact Kd.C_take (m:=(x9_3:Int).toNat) ((Kd.R_reads' (Kd.R_after (ok:=(fun k_=>k_≠gb132)) (z0_ HO_129001.out) hg hat)).2.2) KL60.out));have n6_:=aM (ho);clear HO_129001;clear BK127;clear BK128;clear BK132;clear HB;clear HR142;clear HO145;have HO_129001:=n0_;have BK127:=n1_;have BK128:=n2_;have BK132:=n3_;have HB:=n4_;have HR142:=n5_;have HO148:=n6_;clear n0_ n1_ n2_ n3_ n4_ n5_ n6_;clear ho hb hg hat;have ⟨hcz66_0,hcz66_1,hfz66_0,hfz66_1⟩:=cz2_ BK128.out;have q67:(x9_3:Int)≤((x129001_2.length:Int):Int):=dT (z2_);obtain ⟨i067,hi067,_,hsz67,_⟩:=info_parts info78;have hroom67:x129001_2.length≤co61:=(Kd.R_reads' HO_129001.out).2.1;have hC67:Kd.C k78 _ Ao61 x129001_2.length x129001_2:=(Kd.R_reads' HO_129001.out).2.2;have q067:(0:Int)≤(x9_3:Int):=dT (z2_);have hcut67:=cut_from (P:=Tryz.prog) 25 78 .i64 Tryz.underlying25 hi067 2 hsz67 Ao61 x129001_2.length co61 x9_3 q067 q67;have hr67:=Kd.C_drop (m:=(x9_3:Int).toNat) (c:=co61) hC67 (by omega) hroom67;obtain ⟨A67,hA67⟩:∃ A1,A1=(if co61=(x9_3:Int).toNat then Ao61 else (Ao61:Option Addr).map (·.add ((x9_3:Int).toNat*2))):=⟨_,rfl⟩;obtain ⟨c67,hc67⟩:∃ c1,c1=co61-(x9_3:Int).toNat:=⟨_,rfl⟩;have hy67:y149.length=x129001_2.length-(x9_3:Int).toNat:=(by rw [Ny149.out,List.length_drop] <;> omega);rw [show (x129001_2).drop (x9_3:Int).toNat=y149 from Ny149.out.symm] at hr67;replace hr67:Kd.C k78 _ A67 y149.length y149:=(by rw [hA67];exact hr67);rw [← hy67,← hA67,← hc67] at hcut67;have HR152:=aM hr67;have HC152:=aM (show y149.length≤c67 from by rw [hy67,hc67];exact Nat.sub_le_sub_right hroom67 _);clear hr67 hC67 hroom67 hi067 hsz67 hc67;have KY67:=aM hy67;have KA67:=aM hA67;clear hy67 hA67;have KL67:=aM (show (x9_3:Int).toNat≤x129001_2.length from by omega);replace q67:=eq_true q67) | ((with_reducible refine gate_builtin (b:=.append) (xs:=#[.tmp 82,.tmp 86]) rfl ?_);at_builtin;refine Kd.R_append_rows k78 (w0:=w) w.heap.size rfl (.tmp 82) (.tmp 86) 25 78 (.agg #[(.int .i64 0),(.int .i64 0)]) 16 rfl Tryz.underlying25 info78 rfl (by decide) (by omega) v147 y146 y149 _ _ _ (fun k_=>some k_≠(.slice Ao61 x129001_2.length co61:Value).ownBlock∧k_≠gb132) (fun _=>False) rfl rfl ?aO ?aR (fun _ _ h=>h) (fun _ h=>h.elim) ?aF ?aB ?aS ?aL ?_;(case aR=>repeat (first | exact (z28_ HR152.out) | (with_reducible refine Kd.C_alloc ?_ _) | (with_reducible refine Kd.C_drewN ?_ _) | (with_reducible refine Kd.C_drew ?_)));(case aB=>exact (z12_ HB.out GE127.out GE128.out GE132.out));(case aF=>exact (fun k_ hk=>⟨Kd.fresh' (Kd.R_lt (z0_ HO_129001.out)) k_ hk,Kd.freshB (g:=gb132) (o:=.cells #[.int .i64 t131,.int .i64 x6_1] 78 (0,0)) (z4_ BK132.out) k_ hk⟩));(case aO=>exact (z0_ HO148.out));(case aS=>exact (below_size (z12_ HB.out GE127.out GE128.out GE132.out)));(case aL=>have:=LMc54.out;omega);intro v154 w68 ho hb hg hat;rw [← Ny153.out] at ho;have n0_:=aM (Kd.R_after (ok:=(fun k_=>k_≠gb132)) (z0_ HO_129001.out) hg hat);have n1_:=aM (blk_grown (g:=gb127) (o:=.cells #[.int .i64 0,.slice none 0 0] 27 (0,0)) (z4_ BK127.out) hg (Kd.R_ne HO148.out BK127.out (by decide)));have n2_:=aM (blk_grown (g:=gb128) (o:=.cells #[.int .i64 a0,.slice Ao61 x129001_2.length co61] 27 (0,0)) (z4_ BK128.out) hg (Kd.R_ne HO148.out BK128.out (by decide)));have n3_:=aM (blk_grown (g:=gb132) (o:=.cells #[.int .i64 t131,.int .i64 x6_1] 78 (0,0)) (z4_ BK132.out) hg (Kd.R_away HO148.out (fun _ hk=>hk.2)));have n4_:=aM (hb);have n5_:=aM ((show Kd.C k78 w68 Ao61 y139.length y139 from by rw [Ny139.out];exact Kd.C_take (m:=(x9_3:Int).toNat) ((Kd.R_reads' (Kd.R_after (ok:=(fun k_=>k_≠gb132)) (z0_ HO_129001.out) hg hat)).2.2) KL60.out));have n6_:=aM ((show Kd.C k78 w68 A67 y149.length y149 from by rw [Ny149.out,KA67.out];exact Kd.C_drop (m:=(x9_3:Int).toNat) (c:=co61) ((Kd.R_reads' (Kd.R_after (ok:=(fun k_=>k_≠gb132)) (z0_ HO_129001.out) hg hat)).2.2) KL67.out ((Kd.R_reads' (Kd.R_after (ok:=(fun k_=>k_≠gb132)) (z0_ HO_129001.out) hg hat)).2.1)));have n7_:=aM (ho);clear HO_129001;clear BK127;clear BK128;clear BK132;clear HB;clear HR142;clear HR152;clear HO148;have HO_129001:=n0_;have BK127:=n1_;have BK128:=n2_;have BK132:=n3_;have HB:=n4_;have HR142:=n5_;have HR152:=n6_;have HO155:=n7_;clear n0_ n1_ n2_ n3_ n4_ n5_ n6_ n7_;clear ho hb hg hat;obtain ⟨Ao69,co69,eo69⟩:=Kd.R_slice HO155.out;subst eo69;have ⟨hcz70_0,hcz70_1,hfz70_0,hfz70_1⟩:=cz2_ BK128.out)))
                   go_roundg kj19
                   case measure=>have:=HK1.out;have:=HK2.out;have:=HK3.out;have:=HJ19.out;omega
                   case rel=>exact ⟨(wrap64 (x7_2+1)),(y153),(.slice Ao69 y153.length co69),(z1_),H',⟨by have:=HK1.out;have:=HK2.out;have:=HK3.out;have:=HJ19.out;omega⟩,⟨by (with_reducible repeat (first | apply Kd.R_alloc | apply Kd.R_drewN | apply Kd.R_drew));exact Kd.R_mono (Kd.R_far (p:=⟨gb128,1,none⟩) (Kd.R_types HO155.out BK128.out (by decide)) (fun _ hk=>hk.2) (.slice Ao69 y153.length co69)) (fun _ hk=>trivial)⟩,⟨z35_ NB127_128.out BK127.out⟩,⟨by (with_reducible repeat (first | refine blk_drewN ?_ _ | refine blk_drew ?_ | refine blk_alloc ?_ _));refine blk_put (cs:=#[.int .i64 a0,.slice Ao61 x129001_2.length co61]) ?_ 1 _ rfl;(with_reducible repeat (first | refine blk_drewN ?_ _ | refine blk_drew ?_ | refine blk_alloc ?_ _));exact BK128.out⟩,⟨z12_ HB.out GE127.out GE128.out GE132.out⟩⟩
                  ·rw [if_neg c54] at H
                   exact nO H
                 ·rw [if_neg c51] at H
                  exact nO H
                ·rw [if_neg c50] at H
                 exact nO H
               ·rw [if_neg c49] at H
                exact nO H
              ·rw [if_neg c48] at H
               exact nO H
        ·rw [if_neg c12] at H
         exact nO H
       ·rw [if_neg c10] at H
        exact nO H
      ·rw [if_neg c8] at H
       have c8b0:decide (x7_2≤a1)=false:=dF c8
       clear c8
       have H':=aM H
       clear H
       go_wp2
       repeat (go_quiet (fail);try go_wp2)
       go_roundg k2
       case measure=>have:=HK1.out;have:=HK2.out;omega
       case rel=>exact ⟨(wrap64 (x6_1+1)),(x129001_2),(u129001),(z1_),H',⟨by have:=HK1.out;have:=HK2.out;omega⟩,⟨z0_ HO_129001.out⟩,⟨z4_ BK127.out⟩,⟨z4_ BK128.out⟩,⟨z8_ HB.out GE127.out GE128.out⟩⟩
   ·rw [if_neg c7] at H
    have c7b0:decide (x6_1≤a0)=false:=dF c7
    clear c7
    simp only [Option.some.injEq,Prod.mk.injEq] at H
    obtain ⟨rfl,rfl⟩:=H
    have hnb71:=NB128_127.out
    have hnc71:=NB127_128.out
    have ⟨hcz72_0,hcz72_1,hfz72_0,hfz72_1⟩:=cz2_ BK128.out
    have ⟨hcz73_0,hcz73_1,hfz73_0,hfz73_1⟩:=cz2_ BK127.out
    obtain ⟨Ao74,co74,eo74⟩:=Kd.R_slice HO_129001.out
    subst eo74
    go_wp2
    repeat (go_quiet (fail);try go_wp2)
    refine bodyPost_ret (results_cell_row rfl _ _ gb127 27 #[.int .i64 a0,.slice Ao74 x129001_1.length co74] (0,0) _ rfl (z33_ BK127.out) Tryz.underlying27 rfl (by kernel_rfl)) rfl ?_
    exact ⟨_,z10_,by (with_reducible repeat (first | apply Kd.R_alloc | apply Kd.R_drewN | apply Kd.R_drew));exact Kd.R_mono (rf2_ (Kd.R_types HO_129001.out BK127.out (by decide)) (fun _ hk=>hk.2)) (fun _ hk=>trivial),z8_ HB.out GE127.out GE128.out⟩


/-! ### Y48: function 45 -/
def Y48.f (a0:Int) (a1:Int) (a2:Int):Option (Bool):=if a0≥a1 then (some (decide (a0≤a2))) else (some false)
theorem Y48.calls (a0:Int) (a1:Int) (a2:Int) (r:Bool) (w:World) (h:Y48.f a0 a1 a2=some r) :
  Calls Tryz.prog 45 #[.int .i64 a0,.int .i64 a1,.int .i64 a2] w fun e w'=>e = .returned (.bool r)∧Drawn0 w w':=by
 have H:(if a0≥a1 then (some (decide (a0≤a2))) else (some false))=some r:=h
 clear h
 by_cases c4:a0≥a1
 ·rw [if_pos c4] at H
  have c4b0:decide (a1≤a0)=true:=dE c4
  clear c4
  obtain rfl:=sI H
  go_enter Tryz.func45,Tryz.ntmps45
  go_wp2
  go_ret
  exact ⟨z1_,z5_⟩
 ·rw [if_neg c4] at H
  have c4b0:decide (a1≤a0)=false:=dF c4
  clear c4
  obtain rfl:=sI H
  go_enter Tryz.func45,Tryz.ntmps45
  go_wp2
  go_ret
  exact ⟨z1_,z5_⟩


/-! ### Y73: function 44 -/
def Y73.f (a0:Int):Option (Bool):=(Y48.f a0 1 5).bind fun t540=>(some t540)
theorem Y73.calls (a0:Int) (r:Bool) (w:World) (h:Y73.f a0=some r) :
  Calls Tryz.prog 44 #[.int .i64 a0] w fun e w'=>e = .returned (.bool r)∧Drawn0 w w':=by
 have H:((Y48.f a0 1 5).bind fun t540=>(some t540))=some r:=h
 clear h
 replace H:=bS H
 obtain ⟨t540,A20,H⟩:=H
 replace H:(some t540)=some r:=H
 have A2:=aM A20
 clear A20
 obtain rfl:=sI H
 go_enter Tryz.func44,Tryz.ntmps44
 go_wp2_with (first | ((with_reducible refine gc_ 45 ?_);refine gl_ (some 4) Tryz.func45 #[.int .i64 a0,.int .i64 1,.int .i64 5] ?_;(with_reducible refine (Y48.calls a0 1 5 t540 _ A2.out).mono ?_);rintro e w' ⟨rfl,⟨nd,rfl⟩⟩;refine ⟨_,rfl,?_⟩))
 go_ret
 exact ⟨z1_,z5_⟩


/-! ### Y81: function 80 -/
def Y81.f (a0:Int):Option (Int × (List (S78)) × (List (S115)) × List Int × Int × Int × Int × Int × Int × Int):=some (0,([]:List (S78)),([]:List (S115)),([]:List Int),0,0,0,0,0,a0)
theorem Y81.calls (a0:Int) (r1:Int) (r2:List (S78)) (r3:List (S115)) (r4:List Int) (r5:Int) (r6:Int) (r7:Int) (r8:Int) (r9:Int) (r10:Int) (w:World) (h:Y81.f a0=some (r1,r2,r3,r4,r5,r6,r7,r8,r9,r10)) :
  Calls Tryz.prog 80 #[.int .i64 a0] w fun e w'=>∃ v1_ v2_ v3_:Value,e = .returned (.agg #[.int .i64 r1,v1_,v2_,v3_,.int .i64 r5,.int .i64 r6,.int .i64 r7,.slice none 0 0,.slice none 0 0,.int .i64 r10])∧Kd.R k78 78 w' w.heap.size (fun _=>True) v1_ r2∧Kd.R k115 115 w' w.heap.size (fun _=>True) v2_ r3∧Kd.R (Kd.int .i64) 2 w' w.heap.size (fun _=>True) v3_ r4∧Below w.heap.size w w':=by
 have hu91:=Tryz.underlying91
 have HB:=aM (Below.refl w.heap.size w)
 have H:(some (0,([]:List (S78)),([]:List (S115)),([]:List Int),0,0,0,0,0,a0))=some (r1,r2,r3,r4,r5,r6,r7,r8,r9,r10):=h
 clear h
 simp only [Option.some.injEq,Prod.mk.injEq] at H
 obtain ⟨rfl,rfl,rfl,rfl,rfl,rfl,rfl,rfl,rfl,rfl⟩:=H
 go_enter Tryz.func80,Tryz.ntmps80
 go_wp2_with (first | ((with_reducible refine gd_ 2 ?_);refine be_ 2 #[.int .i64 0,.slice none 0 0,.slice none 0 0,.slice none 0 0,.int .i64 0,.int .i64 0,.int .i64 0,.slice none 0 0,.slice none 0 0,.int .i64 0] 91 ?_;intro gb746 hg w2 hbox hb;have n0_:=aM (below_step (z3_ HB.out) hb);have n1_:=aM (hbox);have n2_:=aM ((z9_ HB.out:w.heap.size≤gb746));have n3_:=aM ((z9_ HB.out:w.heap.size≤gb746));clear HB;have HB:=n0_;have BK746:=n1_;have GW746:=n2_;have GE746:=n3_;clear n0_ n1_ n2_ n3_;clear hb hbox hg;have ⟨hcz3_0,hcz3_1,hcz3_2,hcz3_3,hcz3_4,hcz3_5,hcz3_6,hcz3_7,hcz3_8,hcz3_9,hfz3_0,hfz3_1,hfz3_2,hfz3_3,hfz3_4,hfz3_5,hfz3_6,hfz3_7,hfz3_8,hfz3_9⟩:=cz10_ BK746.out))
 refine bodyPost_ret (results_cell_row rfl _ _ gb746 91 #[.int .i64 0,.slice none 0 0,.slice none 0 0,.slice none 0 0,.int .i64 0,.int .i64 0,.int .i64 0,.slice none 0 0,.slice none 0 0,.int .i64 a0] (0,0) _ rfl (z29_ BK746.out) Tryz.underlying91 rfl (by kernel_rfl)) rfl ?_
 exact ⟨_,_,_,z10_,z13_,z13_,z13_,z7_ HB.out GE746.out⟩


/-! ### Y7: function 57 -/
mutual
def Y7.j0:Nat→Int→Int→Int→Int→Bool→Option (Int × (List (S78)) × (List (S115)) × List Int × Int × Int × Int × Int × Int × Int)
 | 0,_,_,_,_,_=>none
 | k+1,x0,x1,x2,x3,x31=>if x31=true then ((Y81.f 1).bind fun bt752=>(some (bt752.1,bt752.2.1,bt752.2.2.1,bt752.2.2.2.1,bt752.2.2.2.2.1,bt752.2.2.2.2.2.1,bt752.2.2.2.2.2.2.1,bt752.2.2.2.2.2.2.2.1,bt752.2.2.2.2.2.2.2.2.1,bt752.2.2.2.2.2.2.2.2.2))) else ((Y9.f k x0 4).bind fun bt768=>(Y7.l0 k x0 1 bt768.1 bt768.2 ([]:List (S115)) x1 x2 x3))
def Y7.l0:Nat→Int→Int→Int→List (S78)→List (S115)→Int→Int→Int→Option (Int × (List (S78)) × (List (S115)) × List Int × Int × Int × Int × Int × Int × Int)
 | 0,_,_,_,_,_,_,_,_=>none
 | k+1,x0,x10,x773000,x773001,x773002,x773004,x773005,x773006=>if x10≤x0 then (if x773002.length<2513169434916 then (Y7.l0 k x0 (wrap64 (x10+1)) x773000 x773001 (x773002 ++ [(⟨x10,0,(⟨#[]⟩:ByteArray),0⟩:S115)]) x773004 x773005 x773006) else (none)) else (some (x773000,x773001,x773002,([]:List Int),x773004,x773005,x773006,0,0,0))
end
def Y7.f (k:Nat) (a0:Int) (a1:Int) (a2:Int) (a3:Int):Option (Int × (List (S78)) × (List (S115)) × List Int × Int × Int × Int × Int × Int × Int):=(Y73.f a0).bind fun t748=>(if t748=true then ((Y48.f a1 1 a0).bind fun t749=>(if t749=true then ((Y48.f a2 1 a1).bind fun t750=>(if t750=true then ((Y48.f a3 1 a1).bind fun t751=>(Y7.j0 k a0 a1 a2 a3 (!t751))) else (Y7.j0 k a0 a1 a2 a3 true))) else (Y7.j0 k a0 a1 a2 a3 true))) else (Y7.j0 k a0 a1 a2 a3 true))
theorem Y7.mono_l:∀ k,(∀ y0 y1 y2 y3 y4,LeO (Y7.j0 k y0 y1 y2 y3 y4) (Y7.j0 (k+1) y0 y1 y2 y3 y4))∧(∀ y0 y1 y2 y3 y4 y5 y6 y7,LeO (Y7.l0 k y0 y1 y2 y3 y4 y5 y6 y7) (Y7.l0 (k+1) y0 y1 y2 y3 y4 y5 y6 y7))
 | 0=>by refine ⟨?_,?_⟩ <;> intros <;> exact LeO.none _
 | k+1=>by
  obtain ⟨ih0,ih1⟩:=Y7.mono_l k
  have m0:=@Y9.mono
  refine ⟨?_,?_⟩
  ·intros
   unfold Y7.j0
   exact mO
  ·intros
   unfold Y7.l0
   exact mO
theorem Y7.mono:∀ a0 a1 a2 a3 k,LeO (Y7.f k a0 a1 a2 a3) (Y7.f (k+1) a0 a1 a2 a3):=by
 intro a0 a1 a2 a3 k
 have m0:=@Y9.mono
 obtain ⟨ih0,ih1⟩:=Y7.mono_l k
 unfold Y7.f
 exact mO
theorem Y7.calls (k:Nat) (a0:Int) (a1:Int) (a2:Int) (a3:Int) (r1:Int) (r2:List (S78)) (r3:List (S115)) (r4:List Int) (r5:Int) (r6:Int) (r7:Int) (r8:Int) (r9:Int) (r10:Int) (w:World) (h:Y7.f k a0 a1 a2 a3=some (r1,r2,r3,r4,r5,r6,r7,r8,r9,r10)) :
  Calls Tryz.prog 57 #[.int .i64 a0,.int .i64 a1,.int .i64 a2,.int .i64 a3] w fun e w'=>∃ v1_ v2_ v3_:Value,e = .returned (.agg #[.int .i64 r1,v1_,v2_,v3_,.int .i64 r5,.int .i64 r6,.int .i64 r7,.slice none 0 0,.slice none 0 0,.int .i64 r10])∧Kd.R k78 78 w' w.heap.size (fun _=>True) v1_ r2∧Kd.R k115 115 w' w.heap.size (fun _=>True) v2_ r3∧Kd.R (Kd.int .i64) 2 w' w.heap.size (fun _=>True) v3_ r4∧Below w.heap.size w w':=by
 have hu91:=Tryz.underlying91
 have hu50:=Tryz.underlying50
 have hu115:=Tryz.underlying115
 have HB:=aM (Below.refl w.heap.size w)
 have H:((Y73.f a0).bind fun t748=>(if t748=true then ((Y48.f a1 1 a0).bind fun t749=>(if t749=true then ((Y48.f a2 1 a1).bind fun t750=>(if t750=true then ((Y48.f a3 1 a1).bind fun t751=>(Y7.j0 k a0 a1 a2 a3 (!t751))) else (Y7.j0 k a0 a1 a2 a3 true))) else (Y7.j0 k a0 a1 a2 a3 true))) else (Y7.j0 k a0 a1 a2 a3 true)))=some (r1,r2,r3,r4,r5,r6,r7,r8,r9,r10):=h
 clear h
 have HC5:=aM H
 clear H
 go_enter Tryz.func57,Tryz.ntmps57
 go_upto_region 1 with (first | ((with_reducible refine gd_ 8 ?_);refine be_ 8 #[.int .i64 0,.slice none 0 0,.slice none 0 0,.slice none 0 0,.int .i64 0,.int .i64 0,.int .i64 0,.slice none 0 0,.slice none 0 0,.int .i64 0] 91 ?_;intro gb747 hg w6 hbox hb;have n0_:=aM (below_step (z3_ HB.out) hb);have n1_:=aM (hbox);have n2_:=aM ((z9_ HB.out:w.heap.size≤gb747));have n3_:=aM ((z9_ HB.out:w.heap.size≤gb747));clear HB;have HB:=n0_;have BK747:=n1_;have GW747:=n2_;have GE747:=n3_;clear n0_ n1_ n2_ n3_;clear hb hbox hg))
 (try simp only [Act.put,sa_,s0_,ss_])
 go_cut [31] (fun v31 wc=>∃ (kq:Nat) (x31_4:Bool),v31 = .bool x31_4∧Aside0 (Y7.j0 kq a0 a1 a2 a3 x31_4=some (r1,r2,r3,r4,r5,r6,r7,r8,r9,r10))∧Aside0 (kq≤k)∧Aside0 (wc.heap[gb747]? = some (.cells #[.int .i64 0,(.slice none 0 0),(.slice none 0 0),(.slice none 0 0),.int .i64 0,.int .i64 0,.int .i64 0,.slice none 0 0,.slice none 0 0,.int .i64 0] 91 (0,0)))∧Aside0 (Below w.heap.size w wc))
 case first =>
  have H:=HC5.out
  clear HC5
  replace H:=bS H
  obtain ⟨t748,A70,H⟩:=H
  replace H:(if t748=true then ((Y48.f a1 1 a0).bind fun t749=>(if t749=true then ((Y48.f a2 1 a1).bind fun t750=>(if t750=true then ((Y48.f a3 1 a1).bind fun t751=>(Y7.j0 k a0 a1 a2 a3 (!t751))) else (Y7.j0 k a0 a1 a2 a3 true))) else (Y7.j0 k a0 a1 a2 a3 true))) else (Y7.j0 k a0 a1 a2 a3 true))=some (r1,r2,r3,r4,r5,r6,r7,r8,r9,r10):=H
  have A7:=aM A70
  clear A70
  by_cases c8:t748=true
  ·subst c8
   have H1:((Y48.f a1 1 a0).bind fun t749=>(if t749=true then ((Y48.f a2 1 a1).bind fun t750=>(if t750=true then ((Y48.f a3 1 a1).bind fun t751=>(Y7.j0 k a0 a1 a2 a3 (!t751))) else (Y7.j0 k a0 a1 a2 a3 true))) else (Y7.j0 k a0 a1 a2 a3 true)))=some (r1,r2,r3,r4,r5,r6,r7,r8,r9,r10):=by rw [if_pos rfl] at H;exact H
   clear H
   have H:=H1
   clear H1
   replace H:=bS H
   obtain ⟨t749,A90,H⟩:=H
   replace H:(if t749=true then ((Y48.f a2 1 a1).bind fun t750=>(if t750=true then ((Y48.f a3 1 a1).bind fun t751=>(Y7.j0 k a0 a1 a2 a3 (!t751))) else (Y7.j0 k a0 a1 a2 a3 true))) else (Y7.j0 k a0 a1 a2 a3 true))=some (r1,r2,r3,r4,r5,r6,r7,r8,r9,r10):=H
   have A9:=aM A90
   clear A90
   by_cases c10:t749=true
   ·subst c10
    have H1:((Y48.f a2 1 a1).bind fun t750=>(if t750=true then ((Y48.f a3 1 a1).bind fun t751=>(Y7.j0 k a0 a1 a2 a3 (!t751))) else (Y7.j0 k a0 a1 a2 a3 true)))=some (r1,r2,r3,r4,r5,r6,r7,r8,r9,r10):=by rw [if_pos rfl] at H;exact H
    clear H
    have H:=H1
    clear H1
    replace H:=bS H
    obtain ⟨t750,A110,H⟩:=H
    replace H:(if t750=true then ((Y48.f a3 1 a1).bind fun t751=>(Y7.j0 k a0 a1 a2 a3 (!t751))) else (Y7.j0 k a0 a1 a2 a3 true))=some (r1,r2,r3,r4,r5,r6,r7,r8,r9,r10):=H
    have A11:=aM A110
    clear A110
    by_cases c12:t750=true
    ·subst c12
     have H1:((Y48.f a3 1 a1).bind fun t751=>(Y7.j0 k a0 a1 a2 a3 (!t751)))=some (r1,r2,r3,r4,r5,r6,r7,r8,r9,r10):=by rw [if_pos rfl] at H;exact H
     clear H
     have H:=H1
     clear H1
     replace H:=bS H
     obtain ⟨t751,A130,H⟩:=H
     replace H:(Y7.j0 k a0 a1 a2 a3 (!t751))=some (r1,r2,r3,r4,r5,r6,r7,r8,r9,r10):=H
     have A13:=aM A130
     clear A130
     have H':=aM H
     clear H
     go_wp2_with (first | ((with_reducible refine gc_ 44 ?_);refine gl_ (some 12) Tryz.func44 #[.int .i64 a0] ?_;(with_reducible refine (Y73.calls a0 true _ A7.out).mono ?_);rintro e w' ⟨rfl,⟨nd,rfl⟩⟩;refine ⟨_,rfl,?_⟩) | (go_at_call 45;(with_reducible refine (Y48.calls a1 1 a0 true _ A9.out).mono ?_);rintro e w' ⟨rfl,⟨nd,rfl⟩⟩) | (go_at_call 45;(with_reducible refine (Y48.calls a2 1 a1 true _ A11.out).mono ?_);rintro e w' ⟨rfl,⟨nd,rfl⟩⟩) | (go_at_call 45;(with_reducible refine (Y48.calls a3 1 a1 t751 _ A13.out).mono ?_);rintro e w' ⟨rfl,⟨nd,rfl⟩⟩))
     go_meet
     case rel=>exact ⟨_,(!t751),(z1_),H',⟨by first | omega | exact Nat.le_refl _⟩,⟨z4_ BK747.out⟩,⟨z7_ HB.out GE747.out⟩⟩
    ·replace c12:=Bool.eq_false_iff.mpr c12
     subst c12
     have H1:(Y7.j0 k a0 a1 a2 a3 true)=some (r1,r2,r3,r4,r5,r6,r7,r8,r9,r10):=by rw [if_neg (show ¬ (false=true) by decide)] at H;exact H
     clear H
     have H:=H1
     clear H1
     have H':=aM H
     clear H
     go_wp2_with (first | ((with_reducible refine gc_ 44 ?_);refine gl_ (some 12) Tryz.func44 #[.int .i64 a0] ?_;(with_reducible refine (Y73.calls a0 true _ A7.out).mono ?_);rintro e w' ⟨rfl,⟨nd,rfl⟩⟩;refine ⟨_,rfl,?_⟩) | (go_at_call 45;(with_reducible refine (Y48.calls a1 1 a0 true _ A9.out).mono ?_);rintro e w' ⟨rfl,⟨nd,rfl⟩⟩) | (go_at_call 45;(with_reducible refine (Y48.calls a2 1 a1 false _ A11.out).mono ?_);rintro e w' ⟨rfl,⟨nd,rfl⟩⟩))
     go_meet
     case rel=>exact ⟨_,(true),(z1_),H',⟨by first | omega | exact Nat.le_refl _⟩,⟨z4_ BK747.out⟩,⟨z7_ HB.out GE747.out⟩⟩
   ·replace c10:=Bool.eq_false_iff.mpr c10
    subst c10
    have H1:(Y7.j0 k a0 a1 a2 a3 true)=some (r1,r2,r3,r4,r5,r6,r7,r8,r9,r10):=by rw [if_neg (show ¬ (false=true) by decide)] at H;exact H
    clear H
    have H:=H1
    clear H1
    have H':=aM H
    clear H
    go_wp2_with (first | ((with_reducible refine gc_ 44 ?_);refine gl_ (some 12) Tryz.func44 #[.int .i64 a0] ?_;(with_reducible refine (Y73.calls a0 true _ A7.out).mono ?_);rintro e w' ⟨rfl,⟨nd,rfl⟩⟩;refine ⟨_,rfl,?_⟩) | (go_at_call 45;(with_reducible refine (Y48.calls a1 1 a0 false _ A9.out).mono ?_);rintro e w' ⟨rfl,⟨nd,rfl⟩⟩))
    go_meet
    case rel=>exact ⟨_,(true),(z1_),H',⟨by first | omega | exact Nat.le_refl _⟩,⟨z4_ BK747.out⟩,⟨z7_ HB.out GE747.out⟩⟩
  ·replace c8:=Bool.eq_false_iff.mpr c8
   subst c8
   have H1:(Y7.j0 k a0 a1 a2 a3 true)=some (r1,r2,r3,r4,r5,r6,r7,r8,r9,r10):=by rw [if_neg (show ¬ (false=true) by decide)] at H;exact H
   clear H
   have H:=H1
   clear H1
   have H':=aM H
   clear H
   go_wp2_with (first | ((with_reducible refine gc_ 44 ?_);refine gl_ (some 12) Tryz.func44 #[.int .i64 a0] ?_;(with_reducible refine (Y73.calls a0 false _ A7.out).mono ?_);rintro e w' ⟨rfl,⟨nd,rfl⟩⟩;refine ⟨_,rfl,?_⟩))
   go_meet
   case rel=>exact ⟨_,(true),(z1_),H',⟨by first | omega | exact Nat.le_refl _⟩,⟨z4_ BK747.out⟩,⟨z7_ HB.out GE747.out⟩⟩
 case rest =>
  clear HC5
  try clear c1
  try clear p2
  try clear c4
  try clear c5
  try clear c8
  try clear c10
  try clear c12
  obtain ⟨kq,x31_4,rfl,HA,HJ4,BK747,HB⟩:=hcut
  cases kq with
  | zero=>exact absurd HA.out (by simp [Y7.j0])
  | succ kj4 =>
   have H:=HA.out
   clear HA
   simp only [Y7.j0] at H
   by_cases c14:x31_4=true
   ·subst c14
    have H1:((Y81.f 1).bind fun bt752=>(some (bt752.1,bt752.2.1,bt752.2.2.1,bt752.2.2.2.1,bt752.2.2.2.2.1,bt752.2.2.2.2.2.1,bt752.2.2.2.2.2.2.1,bt752.2.2.2.2.2.2.2.1,bt752.2.2.2.2.2.2.2.2.1,bt752.2.2.2.2.2.2.2.2.2)))=some (r1,r2,r3,r4,r5,r6,r7,r8,r9,r10):=by rw [if_pos rfl] at H;exact H
    clear H
    have H:=H1
    clear H1
    replace H:=bS H
    obtain ⟨⟨t752,t753,t756,t759,t762,t763,t764,t765,t766,t767⟩,A150,H⟩:=H
    replace H:(some (t752,t753,t756,t759,t762,t763,t764,t765,t766,t767))=some (r1,r2,r3,r4,r5,r6,r7,r8,r9,r10):=H
    have A15:=aM A150
    clear A150
    simp only [Option.some.injEq,Prod.mk.injEq] at H
    obtain ⟨rfl,rfl,rfl,rfl,rfl,rfl,rfl,rfl,rfl,rfl⟩:=H
    go_wp2_with (first | ((with_reducible refine gc_ 80 ?_);refine gl_ (some 32) Tryz.func80 #[.int .i64 1] ?_;(with_reducible refine (Y81.calls 1 t752 t753 t756 t759 t762 t763 t764 t765 t766 t767 _ A15.out).mono ?_);rintro e w16 ⟨v754,v757,v760,rfl,ho0,ho1,ho2,hb⟩;refine ⟨_,rfl,?_⟩;have n0_:=aM (Kd.R_lower ho0 (below_size (z7_ HB.out GE747.out)));have n1_:=aM (Kd.R_lower ho1 (below_size (z7_ HB.out GE747.out)));have n2_:=aM (Kd.R_lower ho2 (below_size (z7_ HB.out GE747.out)));have n3_:=aM (blkB_ BK747.out hb);have n4_:=aM (below_step (z7_ HB.out GE747.out) hb);clear BK747;clear HB;have HO755:=n0_;have HO758:=n1_;have HO761:=n2_;have BK747:=n3_;have HB:=n4_;clear n0_ n1_ n2_ n3_ n4_;(try clear hb);(try clear ho0);(try clear ho1);(try clear ho2);have ⟨hcz17_0,hcz17_1,hcz17_2,hcz17_3,hcz17_4,hcz17_5,hcz17_6,hcz17_7,hcz17_8,hcz17_9,hfz17_0,hfz17_1,hfz17_2,hfz17_3,hfz17_4,hfz17_5,hfz17_6,hfz17_7,hfz17_8,hfz17_9⟩:=cz10_ BK747.out;obtain ⟨Ao18,co18,eo18⟩:=Kd.R_slice HO755.out;subst eo18;obtain ⟨Ao19,co19,eo19⟩:=Kd.R_slice HO758.out;subst eo19;obtain ⟨Ao20,co20,eo20⟩:=Kd.R_slice HO761.out;subst eo20))
    refine bodyPost_ret (results_cell_row rfl _ _ gb747 91 #[.int .i64 t752,.slice Ao18 t753.length co18,.slice Ao19 t756.length co19,.slice Ao20 t759.length co20,.int .i64 t762,.int .i64 t763,.int .i64 t764,.slice none 0 0,.slice none 0 0,.int .i64 t767] (0,0) _ rfl (z29_ BK747.out) Tryz.underlying91 rfl (by kernel_rfl)) rfl ?_
    exact ⟨_,_,_,z10_,z26_ HO755.out BK747.out,z26_ HO758.out BK747.out,z26_ HO761.out BK747.out,z7_ HB.out GE747.out⟩
   ·replace c14:=Bool.eq_false_iff.mpr c14
    subst c14
    have H1:((Y9.f kj4 a0 4).bind fun bt768=>(Y7.l0 kj4 a0 1 bt768.1 bt768.2 ([]:List (S115)) a1 a2 a3))=some (r1,r2,r3,r4,r5,r6,r7,r8,r9,r10):=by rw [if_neg (show ¬ (false=true) by decide)] at H;exact H
    clear H
    have H:=H1
    clear H1
    replace H:=bS H
    obtain ⟨⟨t768,t769⟩,A210,H⟩:=H
    replace H:(Y7.l0 kj4 a0 1 t768 t769 ([]:List (S115)) a1 a2 a3)=some (r1,r2,r3,r4,r5,r6,r7,r8,r9,r10):=H
    have A21:=aM A210
    clear A210
    have H':=aM H
    clear H
    go_wp2_with (first | ((with_reducible refine gc_ 46 ?_);refine gl_ (some 34) Tryz.func46 #[.int .i64 a0,.int .i64 4] ?_;(with_reducible refine (Y9.calls kj4 a0 4 t768 t769 _ A21.out).mono ?_);rintro e w22 ⟨v770,rfl,ho0,hb⟩;refine ⟨_,rfl,?_⟩;have n0_:=aM (Kd.R_lower ho0 (below_size (z7_ HB.out GE747.out)));have n1_:=aM (blkB_ BK747.out hb);have n2_:=aM (below_step (z7_ HB.out GE747.out) hb);clear BK747;clear HB;have HO771:=n0_;have BK747:=n1_;have HB:=n2_;clear n0_ n1_ n2_;(try clear hb);(try clear ho0);obtain ⟨Ao23,co23,eo23⟩:=Kd.R_slice HO771.out;subst eo23) | ((with_reducible refine gd_ 9 ?_);refine be_ 9 #[.int .i64 0,.slice none 0 0,.slice none 0 0,.slice none 0 0,.int .i64 0,.int .i64 0,.int .i64 0] 50 ?_;intro gb772 hg w24 hbox hb;have n0_:=aM (Kd.R_below (z0_ HO771.out) hb);have n1_:=aM (blkB_ BK747.out hb);have n2_:=aM (below_step (z7_ HB.out GE747.out) hb);have n3_:=aM (hbox);have n4_:=aM ((z11_ HB.out GE747.out:w.heap.size≤gb772));have n5_:=aM ((z11_ HB.out GE747.out:w.heap.size≤gb772));have n6_:=aM (neL_ BK747.out hg);have n7_:=aM (neG_ BK747.out hg);clear HO771;clear BK747;clear HB;have HO771:=n0_;have BK747:=n1_;have HB:=n2_;have BK772:=n3_;have GW772:=n4_;have GE772:=n5_;have NB747_772:=n6_;have NB772_747:=n7_;clear n0_ n1_ n2_ n3_ n4_ n5_ n6_ n7_;clear hb hbox hg;have hnb25:=NB772_747.out;have hnc25:=NB747_772.out;have ⟨hcz26_0,hcz26_1,hcz26_2,hcz26_3,hcz26_4,hcz26_5,hcz26_6,hfz26_0,hfz26_1,hfz26_2,hfz26_3,hfz26_4,hfz26_5,hfz26_6⟩:=cz7_ BK772.out))
    go_loopg [10] kj4 (fun kq v10 w'=>∃ (x10_2:Int) (x773002_2:List (S115)) (u773002:Value),v10 = .int .i64 x10_2∧Aside0 (Y7.l0 kq a0 x10_2 t768 t769 x773002_2 a1 a2 a3=some (r1,r2,r3,r4,r5,r6,r7,r8,r9,r10))∧Aside0 (kq≤kj4)∧Aside0 (Kd.R k78 78 w' w.heap.size (fun _=>True) (.slice Ao23 t769.length co23) t769)∧Aside0 (Kd.R k115 115 w' w.heap.size (fun _=>True) u773002 x773002_2)∧Aside0 (w'.heap[gb747]? = some (.cells #[.int .i64 0,(.slice none 0 0),(.slice none 0 0),(.slice none 0 0),.int .i64 0,.int .i64 0,.int .i64 0,.slice none 0 0,.slice none 0 0,.int .i64 0] 91 (0,0)))∧Aside0 (w'.heap[gb772]? = some (.cells #[.int .i64 t768,(.slice Ao23 t769.length co23),u773002,(.slice none 0 0),.int .i64 a1,.int .i64 a2,.int .i64 a3] 50 (0,0)))∧Aside0 (Below w.heap.size w w'))
    case atStart=>exact ⟨(1),(([]:List (S115))),(.slice none 0 0),(z1_),H',⟨Nat.le_refl _⟩,⟨by (with_reducible repeat (first | apply Kd.R_alloc | apply Kd.R_drewN | apply Kd.R_drew));exact Kd.R_mono (rf7_ (Kd.R_types HO771.out BK772.out (by decide)) (fun _ hk=>hk.2)) (fun _ hk=>trivial)⟩,⟨z13_⟩,⟨by (with_reducible repeat (first | refine blk_drewN ?_ _ | refine blk_drew ?_ | refine blk_alloc ?_ _));refine blk_far ?_ NB747_772.out _;(with_reducible repeat (first | refine blk_drewN ?_ _ | refine blk_drew ?_ | refine blk_alloc ?_ _));refine blk_far ?_ NB747_772.out _;(with_reducible repeat (first | refine blk_drewN ?_ _ | refine blk_drew ?_ | refine blk_alloc ?_ _));refine blk_far ?_ NB747_772.out _;(with_reducible repeat (first | refine blk_drewN ?_ _ | refine blk_drew ?_ | refine blk_alloc ?_ _));refine blk_far ?_ NB747_772.out _;(with_reducible repeat (first | refine blk_drewN ?_ _ | refine blk_drew ?_ | refine blk_alloc ?_ _));refine blk_far ?_ NB747_772.out _;(with_reducible repeat (first | refine blk_drewN ?_ _ | refine blk_drew ?_ | refine blk_alloc ?_ _));refine blk_far ?_ NB747_772.out _;(with_reducible repeat (first | refine blk_drewN ?_ _ | refine blk_drew ?_ | refine blk_alloc ?_ _));refine blk_far ?_ NB747_772.out _;(with_reducible repeat (first | refine blk_drewN ?_ _ | refine blk_drew ?_ | refine blk_alloc ?_ _));exact BK747.out⟩,⟨by (with_reducible repeat (first | refine blk_drewN ?_ _ | refine blk_drew ?_ | refine blk_alloc ?_ _));apply put7_;(with_reducible repeat (first | refine blk_drewN ?_ _ | refine blk_drew ?_ | refine blk_alloc ?_ _));exact BK772.out⟩,⟨z8_ HB.out GE747.out GE772.out⟩⟩
    case round =>
     clear H'
     try clear c1
     try clear c2
     try clear p2
     try clear c4
     try clear c5
     try clear c8
     try clear c10
     try clear c12
     try clear c14
     try clear c25
     try clear hcz17_0
     try clear hcz17_1
     try clear hcz17_2
     try clear hcz17_3
     try clear hcz17_4
     try clear hcz17_5
     try clear hcz17_6
     try clear hcz17_7
     try clear hcz17_8
     try clear hcz17_9
     try clear hcz26_0
     try clear hcz26_1
     try clear hcz26_2
     try clear hcz26_3
     try clear hcz26_4
     try clear hcz26_5
     try clear hcz26_6
     try clear hfz17_0
     try clear hfz17_1
     try clear hfz17_2
     try clear hfz17_3
     try clear hfz17_4
     try clear hfz17_5
     try clear hfz17_6
     try clear hfz17_7
     try clear hfz17_8
     try clear hfz17_9
     try clear hfz26_0
     try clear hfz26_1
     try clear hfz26_2
     try clear hfz26_3
     try clear hfz26_4
     try clear hfz26_5
     try clear hfz26_6
     try clear p2
     obtain ⟨x10_2,x773002_2,u773002,rfl,HA,HK2,HO_773001,HO_773002,BK747,BK772,HB⟩:=hrel
     cases gk with
     | zero=>exact absurd HA.out (by simp [Y7.l0])
     | succ k2 =>
      have H:=HA.out
      clear HA
      simp only [Y7.l0] at H
      by_cases c27:x10_2≤a0
      ·rw [if_pos c27] at H
       have c27b0:decide (x10_2≤a0)=true:=dE c27
       clear c27
       by_cases c28:x773002_2.length<2513169434916
       ·rw [if_pos c28] at H
        have LMc28:=aM c28
        clear c28
        obtain ⟨y773,hy773⟩:∃ y_:List (S115),y_=(x773002_2 ++ [(⟨x10_2,0,(⟨#[]⟩:ByteArray),0⟩:S115)]):=⟨_,rfl⟩
        replace H:(Y7.l0 k2 a0 (wrap64 (x10_2+1)) t768 t769 y773 a1 a2 a3)=some (r1,r2,r3,r4,r5,r6,r7,r8,r9,r10):=by first | (rw [hy773];with_reducible exact H) | (have H2_:=(Option.bind_some _ _).symm.trans H;rw [hy773];with_reducible exact H2_) | (have H2_:=(Option.bind_some _ _).symm.trans H;with_reducible exact H2_) | with_reducible exact H | (rw [hy773];exact H) | exact H
        have Ny773:=aM hy773
        clear hy773
        have H':=aM H
        clear H
        have hnb29:=NB772_747.out
        have hnc29:=NB747_772.out
        have ⟨hcz30_0,hcz30_1,hcz30_2,hcz30_3,hcz30_4,hcz30_5,hcz30_6,hfz30_0,hfz30_1,hfz30_2,hfz30_3,hfz30_4,hfz30_5,hfz30_6⟩:=cz7_ BK772.out
        go_wp2_with (first | ((with_reducible refine gate_builtin (b:=.append) (xs:=#[.tmp 45,.tmp 48]) rfl ?_);at_builtin;refine Kd.R_append k115 (w0:=w) w.heap.size rfl (.tmp 45) (.tmp 48) 48 115 (.agg #[(.int .i64 0),(.slice none 0 0),(.string ⟨#[]⟩),(.int .i64 0)]) 56 rfl Tryz.underlying48 info115 rfl (by decide) (by omega) u773002 x773002_2 (⟨x10_2,0,(⟨#[]⟩:ByteArray),0⟩:S115) [.int .i64 x10_2,.slice none 0 0,.string (⟨#[]⟩:ByteArray),.int .i64 0] (fun _=>True) (fun _=>False) rfl rfl ?aP (fun _ hk=>hk.elim) ?aF ?aO ?aB ?aS ?aL ?_;(case aP=>exact k115_mkM _ _ _ (⟨x10_2,0,(⟨#[]⟩:ByteArray),0⟩:S115));(case aB=>exact (z8_ HB.out GE747.out GE772.out));(case aF=>exact (fun _ _=>trivial));(case aO=>exact (z0_ HO_773002.out));(case aS=>exact (below_size (z8_ HB.out GE747.out GE772.out)));(case aL=>have:=LMc28.out;omega);intro v774 w31 ho hb hg hat;rw [← Ny773.out] at ho;have n0_:=aM (Kd.R_over' (z0_ HO_773001.out) (Kd.R_typed (z0_ HO_773002.out)) (by decide) hg);have n1_:=aM (blk_grown (g:=gb747) (o:=.cells #[.int .i64 0,.slice none 0 0,.slice none 0 0,.slice none 0 0,.int .i64 0,.int .i64 0,.int .i64 0,.slice none 0 0,.slice none 0 0,.int .i64 0] 91 (0,0)) (z4_ BK747.out) hg (Kd.R_ne HO_773002.out BK747.out (by decide)));have n2_:=aM (blk_grown (g:=gb772) (o:=.cells #[.int .i64 t768,.slice Ao23 t769.length co23,u773002,.slice none 0 0,.int .i64 a1,.int .i64 a2,.int .i64 a3] 50 (0,0)) (z4_ BK772.out) hg (Kd.R_ne HO_773002.out BK772.out (by decide)));have n3_:=aM (hb);have n4_:=aM (ho);clear HO_773001;clear BK747;clear BK772;clear HB;clear HO_773002;have HO_773001:=n0_;have BK747:=n1_;have BK772:=n2_;have HB:=n3_;have HO775:=n4_;clear n0_ n1_ n2_ n3_ n4_;clear ho hb hg hat;obtain ⟨Ao32,co32,eo32⟩:=Kd.R_slice HO775.out;subst eo32;have ⟨hcz33_0,hcz33_1,hcz33_2,hcz33_3,hcz33_4,hcz33_5,hcz33_6,hfz33_0,hfz33_1,hfz33_2,hfz33_3,hfz33_4,hfz33_5,hfz33_6⟩:=cz7_ BK772.out))
        go_roundg k2
        case measure=>have:=HJ4.out;have:=HK2.out;omega
        case rel=>exact ⟨(wrap64 (x10_2+1)),(y773),(.slice Ao32 y773.length co32),(z1_),H',⟨by have:=HJ4.out;have:=HK2.out;omega⟩,⟨by (with_reducible repeat (first | apply Kd.R_alloc | apply Kd.R_drewN | apply Kd.R_drew));exact Kd.R_mono (Kd.R_far (p:=⟨gb772,2,none⟩) (Kd.R_types HO_773001.out BK772.out (by decide)) (fun _ hk=>hk.2) (.slice Ao32 y773.length co32)) (fun _ hk=>trivial)⟩,⟨by (with_reducible repeat (first | apply Kd.R_alloc | apply Kd.R_drewN | apply Kd.R_drew));exact Kd.R_mono (Kd.R_far (p:=⟨gb772,2,none⟩) (Kd.R_types HO775.out BK772.out (by decide)) (fun _ hk=>hk.2) (.slice Ao32 y773.length co32)) (fun _ hk=>trivial)⟩,⟨z35_ NB747_772.out BK747.out⟩,⟨by (with_reducible repeat (first | refine blk_drewN ?_ _ | refine blk_drew ?_ | refine blk_alloc ?_ _));refine blk_put (cs:=#[.int .i64 t768,.slice Ao23 t769.length co23,u773002,.slice none 0 0,.int .i64 a1,.int .i64 a2,.int .i64 a3]) ?_ 2 _ rfl;(with_reducible repeat (first | refine blk_drewN ?_ _ | refine blk_drew ?_ | refine blk_alloc ?_ _));exact BK772.out⟩,⟨z8_ HB.out GE747.out GE772.out⟩⟩
       ·rw [if_neg c28] at H
        exact nO H
      ·rw [if_neg c27] at H
       have c27b0:decide (x10_2≤a0)=false:=dF c27
       clear c27
       simp only [Option.some.injEq,Prod.mk.injEq] at H
       obtain ⟨rfl,rfl,rfl,rfl,rfl,rfl,rfl,rfl,rfl,rfl⟩:=H
       have hnb34:=NB772_747.out
       have hnc34:=NB747_772.out
       have ⟨hcz35_0,hcz35_1,hcz35_2,hcz35_3,hcz35_4,hcz35_5,hcz35_6,hfz35_0,hfz35_1,hfz35_2,hfz35_3,hfz35_4,hfz35_5,hfz35_6⟩:=cz7_ BK772.out
       obtain ⟨Ao36,co36,eo36⟩:=Kd.R_slice HO_773002.out
       subst eo36
       have ⟨hcz37_0,hcz37_1,hcz37_2,hcz37_3,hcz37_4,hcz37_5,hcz37_6,hcz37_7,hcz37_8,hcz37_9,hfz37_0,hfz37_1,hfz37_2,hfz37_3,hfz37_4,hfz37_5,hfz37_6,hfz37_7,hfz37_8,hfz37_9⟩:=cz10_ BK747.out
       go_wp2
       refine bodyPost_ret (results_cell_row rfl _ _ gb747 91 #[.int .i64 t768,.slice Ao23 t769.length co23,.slice Ao36 x773002_2.length co36,.slice none 0 0,.int .i64 a1,.int .i64 a2,.int .i64 a3,.slice none 0 0,.slice none 0 0,.int .i64 0] (0,0) _ rfl (z29_ BK747.out) Tryz.underlying91 rfl (by kernel_rfl)) rfl ?_
       exact ⟨_,_,_,z10_,z26_ HO_773001.out BK747.out,z26_ HO_773002.out BK747.out,z13_,z8_ HB.out GE747.out GE772.out⟩


/-! ### Y82: function 58 -/
def Y82.f (a0:Int):Option (Int × (List (S78)) × (List (S115)) × List Int × Int × Int × Int × List Int × Int × Int × Int × Int × Int × Int):=some (0,([]:List (S78)),([]:List (S115)),([]:List Int),0,0,0,([]:List Int),0,0,0,0,0,a0)
theorem Y82.calls (a0:Int) (r1:Int) (r2:List (S78)) (r3:List (S115)) (r4:List Int) (r5:Int) (r6:Int) (r7:Int) (r8:List Int) (r9:Int) (r10:Int) (r11:Int) (r12:Int) (r13:Int) (r14:Int) (w:World) (h:Y82.f a0=some (r1,r2,r3,r4,r5,r6,r7,r8,r9,r10,r11,r12,r13,r14)) :
  Calls Tryz.prog 58 #[.int .i64 a0] w fun e w'=>∃ v1_ v2_ v3_ v7_:Value,e = .returned (.agg #[.int .i64 r1,v1_,v2_,v3_,.int .i64 r5,.int .i64 r6,.int .i64 r7,v7_,.slice none 0 0,.slice none 0 0,.slice none 0 0,.slice none 0 0,.int .i64 r13,.int .i64 r14])∧Kd.R k78 78 w' w.heap.size (fun _=>True) v1_ r2∧Kd.R k115 115 w' w.heap.size (fun _=>True) v2_ r3∧Kd.R (Kd.int .i64) 2 w' w.heap.size (fun k_=>some k_≠(v7_:Value).ownBlock) v3_ r4∧Kd.R (Kd.int .i64) 2 w' w.heap.size (fun k_=>some k_≠(v3_:Value).ownBlock) v7_ r8∧Below w.heap.size w w':=by
 have hu58:=Tryz.underlying58
 have HB:=aM (Below.refl w.heap.size w)
 have H:(some (0,([]:List (S78)),([]:List (S115)),([]:List Int),0,0,0,([]:List Int),0,0,0,0,0,a0))=some (r1,r2,r3,r4,r5,r6,r7,r8,r9,r10,r11,r12,r13,r14):=h
 clear h
 simp only [Option.some.injEq,Prod.mk.injEq] at H
 obtain ⟨rfl,rfl,rfl,rfl,rfl,rfl,rfl,rfl,rfl,rfl,rfl,rfl,rfl,rfl⟩:=H
 go_enter Tryz.func58,Tryz.ntmps58
 go_wp2_with (first | ((with_reducible refine gd_ 2 ?_);refine be_ 2 #[.int .i64 0,.slice none 0 0,.slice none 0 0,.slice none 0 0,.int .i64 0,.int .i64 0,.int .i64 0,.slice none 0 0,.slice none 0 0,.slice none 0 0,.slice none 0 0,.slice none 0 0,.int .i64 0,.int .i64 0] 58 ?_;intro gb776 hg w2 hbox hb;have n0_:=aM (below_step (z3_ HB.out) hb);have n1_:=aM (hbox);have n2_:=aM ((z9_ HB.out:w.heap.size≤gb776));have n3_:=aM ((z9_ HB.out:w.heap.size≤gb776));clear HB;have HB:=n0_;have BK776:=n1_;have GW776:=n2_;have GE776:=n3_;clear n0_ n1_ n2_ n3_;clear hb hbox hg;have hcz3_0:w2.cell? ⟨gb776,0,none⟩=some (.int .i64 0):=(blk_cell BK776.out 0).trans rfl;have hcz3_1:w2.cell? ⟨gb776,1,none⟩=some (.slice none 0 0):=(blk_cell BK776.out 1).trans rfl;have hcz3_2:w2.cell? ⟨gb776,2,none⟩=some (.slice none 0 0):=(blk_cell BK776.out 2).trans rfl;have hcz3_3:w2.cell? ⟨gb776,3,none⟩=some (.slice none 0 0):=(blk_cell BK776.out 3).trans rfl;have hcz3_4:w2.cell? ⟨gb776,4,none⟩=some (.int .i64 0):=(blk_cell BK776.out 4).trans rfl;have hcz3_5:w2.cell? ⟨gb776,5,none⟩=some (.int .i64 0):=(blk_cell BK776.out 5).trans rfl;have hcz3_6:w2.cell? ⟨gb776,6,none⟩=some (.int .i64 0):=(blk_cell BK776.out 6).trans rfl;have hcz3_7:w2.cell? ⟨gb776,7,none⟩=some (.slice none 0 0):=(blk_cell BK776.out 7).trans rfl;have hcz3_8:w2.cell? ⟨gb776,8,none⟩=some (.slice none 0 0):=(blk_cell BK776.out 8).trans rfl;have hcz3_9:w2.cell? ⟨gb776,9,none⟩=some (.slice none 0 0):=(blk_cell BK776.out 9).trans rfl;have hcz3_10:w2.cell? ⟨gb776,10,none⟩=some (.slice none 0 0):=(blk_cell BK776.out 10).trans rfl;have hcz3_11:w2.cell? ⟨gb776,11,none⟩=some (.slice none 0 0):=(blk_cell BK776.out 11).trans rfl;have hcz3_12:w2.cell? ⟨gb776,12,none⟩=some (.int .i64 0):=(blk_cell BK776.out 12).trans rfl;have hcz3_13:w2.cell? ⟨gb776,13,none⟩=some (.int .i64 0):=(blk_cell BK776.out 13).trans rfl;have hfz3_0:=blk_frozen BK776.out 0;have hfz3_1:=blk_frozen BK776.out 1;have hfz3_2:=blk_frozen BK776.out 2;have hfz3_3:=blk_frozen BK776.out 3;have hfz3_4:=blk_frozen BK776.out 4;have hfz3_5:=blk_frozen BK776.out 5;have hfz3_6:=blk_frozen BK776.out 6;have hfz3_7:=blk_frozen BK776.out 7;have hfz3_8:=blk_frozen BK776.out 8;have hfz3_9:=blk_frozen BK776.out 9;have hfz3_10:=blk_frozen BK776.out 10;have hfz3_11:=blk_frozen BK776.out 11;have hfz3_12:=blk_frozen BK776.out 12;have hfz3_13:=blk_frozen BK776.out 13))
 refine bodyPost_ret (results_cell_row rfl _ _ gb776 58 #[.int .i64 0,.slice none 0 0,.slice none 0 0,.slice none 0 0,.int .i64 0,.int .i64 0,.int .i64 0,.slice none 0 0,.slice none 0 0,.slice none 0 0,.slice none 0 0,.slice none 0 0,.int .i64 0,.int .i64 a0] (0,0) _ rfl (by (with_reducible repeat (first | refine blk_drewN ?_ _ | refine blk_drew ?_ | refine blk_alloc ?_ _));refine blk_put (cs:=#[.int .i64 0,.slice none 0 0,.slice none 0 0,.slice none 0 0,.int .i64 0,.int .i64 0,.int .i64 0,.slice none 0 0,.slice none 0 0,.slice none 0 0,.slice none 0 0,.slice none 0 0,.int .i64 0,.int .i64 0]) ?_ 13 _ rfl;(with_reducible repeat (first | refine blk_drewN ?_ _ | refine blk_drew ?_ | refine blk_alloc ?_ _));refine blk_put (cs:=#[.int .i64 0,.slice none 0 0,.slice none 0 0,.slice none 0 0,.int .i64 0,.int .i64 0,.int .i64 0,.slice none 0 0,.slice none 0 0,.slice none 0 0,.slice none 0 0,.slice none 0 0,.int .i64 0,.int .i64 0]) ?_ 12 _ rfl;(with_reducible repeat (first | refine blk_drewN ?_ _ | refine blk_drew ?_ | refine blk_alloc ?_ _));refine blk_put (cs:=#[.int .i64 0,.slice none 0 0,.slice none 0 0,.slice none 0 0,.int .i64 0,.int .i64 0,.int .i64 0,.slice none 0 0,.slice none 0 0,.slice none 0 0,.slice none 0 0,.slice none 0 0,.int .i64 0,.int .i64 0]) ?_ 11 _ rfl;(with_reducible repeat (first | refine blk_drewN ?_ _ | refine blk_drew ?_ | refine blk_alloc ?_ _));refine blk_put (cs:=#[.int .i64 0,.slice none 0 0,.slice none 0 0,.slice none 0 0,.int .i64 0,.int .i64 0,.int .i64 0,.slice none 0 0,.slice none 0 0,.slice none 0 0,.slice none 0 0,.slice none 0 0,.int .i64 0,.int .i64 0]) ?_ 10 _ rfl;(with_reducible repeat (first | refine blk_drewN ?_ _ | refine blk_drew ?_ | refine blk_alloc ?_ _));refine blk_put (cs:=#[.int .i64 0,.slice none 0 0,.slice none 0 0,.slice none 0 0,.int .i64 0,.int .i64 0,.int .i64 0,.slice none 0 0,.slice none 0 0,.slice none 0 0,.slice none 0 0,.slice none 0 0,.int .i64 0,.int .i64 0]) ?_ 9 _ rfl;(with_reducible repeat (first | refine blk_drewN ?_ _ | refine blk_drew ?_ | refine blk_alloc ?_ _));refine blk_put (cs:=#[.int .i64 0,.slice none 0 0,.slice none 0 0,.slice none 0 0,.int .i64 0,.int .i64 0,.int .i64 0,.slice none 0 0,.slice none 0 0,.slice none 0 0,.slice none 0 0,.slice none 0 0,.int .i64 0,.int .i64 0]) ?_ 8 _ rfl;(with_reducible repeat (first | refine blk_drewN ?_ _ | refine blk_drew ?_ | refine blk_alloc ?_ _));refine blk_put (cs:=#[.int .i64 0,.slice none 0 0,.slice none 0 0,.slice none 0 0,.int .i64 0,.int .i64 0,.int .i64 0,.slice none 0 0,.slice none 0 0,.slice none 0 0,.slice none 0 0,.slice none 0 0,.int .i64 0,.int .i64 0]) ?_ 7 _ rfl;(with_reducible repeat (first | refine blk_drewN ?_ _ | refine blk_drew ?_ | refine blk_alloc ?_ _));refine blk_put (cs:=#[.int .i64 0,.slice none 0 0,.slice none 0 0,.slice none 0 0,.int .i64 0,.int .i64 0,.int .i64 0,.slice none 0 0,.slice none 0 0,.slice none 0 0,.slice none 0 0,.slice none 0 0,.int .i64 0,.int .i64 0]) ?_ 6 _ rfl;(with_reducible repeat (first | refine blk_drewN ?_ _ | refine blk_drew ?_ | refine blk_alloc ?_ _));refine blk_put (cs:=#[.int .i64 0,.slice none 0 0,.slice none 0 0,.slice none 0 0,.int .i64 0,.int .i64 0,.int .i64 0,.slice none 0 0,.slice none 0 0,.slice none 0 0,.slice none 0 0,.slice none 0 0,.int .i64 0,.int .i64 0]) ?_ 5 _ rfl;(with_reducible repeat (first | refine blk_drewN ?_ _ | refine blk_drew ?_ | refine blk_alloc ?_ _));refine blk_put (cs:=#[.int .i64 0,.slice none 0 0,.slice none 0 0,.slice none 0 0,.int .i64 0,.int .i64 0,.int .i64 0,.slice none 0 0,.slice none 0 0,.slice none 0 0,.slice none 0 0,.slice none 0 0,.int .i64 0,.int .i64 0]) ?_ 4 _ rfl;(with_reducible repeat (first | refine blk_drewN ?_ _ | refine blk_drew ?_ | refine blk_alloc ?_ _));refine blk_put (cs:=#[.int .i64 0,.slice none 0 0,.slice none 0 0,.slice none 0 0,.int .i64 0,.int .i64 0,.int .i64 0,.slice none 0 0,.slice none 0 0,.slice none 0 0,.slice none 0 0,.slice none 0 0,.int .i64 0,.int .i64 0]) ?_ 3 _ rfl;(with_reducible repeat (first | refine blk_drewN ?_ _ | refine blk_drew ?_ | refine blk_alloc ?_ _));refine blk_put (cs:=#[.int .i64 0,.slice none 0 0,.slice none 0 0,.slice none 0 0,.int .i64 0,.int .i64 0,.int .i64 0,.slice none 0 0,.slice none 0 0,.slice none 0 0,.slice none 0 0,.slice none 0 0,.int .i64 0,.int .i64 0]) ?_ 2 _ rfl;(with_reducible repeat (first | refine blk_drewN ?_ _ | refine blk_drew ?_ | refine blk_alloc ?_ _));refine blk_put (cs:=#[.int .i64 0,.slice none 0 0,.slice none 0 0,.slice none 0 0,.int .i64 0,.int .i64 0,.int .i64 0,.slice none 0 0,.slice none 0 0,.slice none 0 0,.slice none 0 0,.slice none 0 0,.int .i64 0,.int .i64 0]) ?_ 1 _ rfl;(with_reducible repeat (first | refine blk_drewN ?_ _ | refine blk_drew ?_ | refine blk_alloc ?_ _));refine blk_put (cs:=#[.int .i64 0,.slice none 0 0,.slice none 0 0,.slice none 0 0,.int .i64 0,.int .i64 0,.int .i64 0,.slice none 0 0,.slice none 0 0,.slice none 0 0,.slice none 0 0,.slice none 0 0,.int .i64 0,.int .i64 0]) ?_ 0 _ rfl;(with_reducible repeat (first | refine blk_drewN ?_ _ | refine blk_drew ?_ | refine blk_alloc ?_ _));exact BK776.out) Tryz.underlying58 rfl (by kernel_rfl)) rfl ?_
 exact ⟨_,_,_,_,z10_,z13_,z13_,z13_,z13_,z7_ HB.out GE776.out⟩


/-! ### Y70: function 25 -/
def Y70.f (k:Nat) (a0:Int) (a1:Int) (a2:Int) (a3:Int):Option (Int × (List (S78)) × (List (S115)) × List Int × Int × Int × Int × List Int × Int × Int × Int × Int × Int × Int):=(Y7.f k a0 a1 a2 a3).bind fun bt778=>(if bt778.2.2.2.2.2.2.2.2.2=0 then (some (bt778.1,bt778.2.1,bt778.2.2.1,bt778.2.2.2.1,bt778.2.2.2.2.1,bt778.2.2.2.2.2.1,bt778.2.2.2.2.2.2.1,([]:List Int),0,0,0,0,0,0)) else ((Y82.f bt778.2.2.2.2.2.2.2.2.2).bind fun bt795=>(some (bt795.1,bt795.2.1,bt795.2.2.1,bt795.2.2.2.1,bt795.2.2.2.2.1,bt795.2.2.2.2.2.1,bt795.2.2.2.2.2.2.1,bt795.2.2.2.2.2.2.2.1,bt795.2.2.2.2.2.2.2.2.1,bt795.2.2.2.2.2.2.2.2.2.1,bt795.2.2.2.2.2.2.2.2.2.2.1,bt795.2.2.2.2.2.2.2.2.2.2.2.1,bt795.2.2.2.2.2.2.2.2.2.2.2.2.1,bt795.2.2.2.2.2.2.2.2.2.2.2.2.2))))
theorem Y70.mono:∀ a0 a1 a2 a3 k,LeO (Y70.f k a0 a1 a2 a3) (Y70.f (k+1) a0 a1 a2 a3):=by
 intro a0 a1 a2 a3 k
 have m0:=@Y7.mono
 unfold Y70.f
 exact mO
theorem Y70.calls (k:Nat) (a0:Int) (a1:Int) (a2:Int) (a3:Int) (r1:Int) (r2:List (S78)) (r3:List (S115)) (r4:List Int) (r5:Int) (r6:Int) (r7:Int) (r8:List Int) (r9:Int) (r10:Int) (r11:Int) (r12:Int) (r13:Int) (r14:Int) (w:World) (h:Y70.f k a0 a1 a2 a3=some (r1,r2,r3,r4,r5,r6,r7,r8,r9,r10,r11,r12,r13,r14)) :
  Calls Tryz.prog 25 #[.int .i64 a0,.int .i64 a1,.int .i64 a2,.int .i64 a3] w fun e w'=>∃ v1_ v2_ v3_ v7_:Value,e = .returned (.agg #[.int .i64 r1,v1_,v2_,v3_,.int .i64 r5,.int .i64 r6,.int .i64 r7,v7_,.slice none 0 0,.slice none 0 0,.slice none 0 0,.slice none 0 0,.int .i64 r13,.int .i64 r14])∧Kd.R k78 78 w' w.heap.size (fun _=>True) v1_ r2∧Kd.R k115 115 w' w.heap.size (fun _=>True) v2_ r3∧Kd.R (Kd.int .i64) 2 w' w.heap.size (fun k_=>some k_≠(v7_:Value).ownBlock) v3_ r4∧Kd.R (Kd.int .i64) 2 w' w.heap.size (fun k_=>some k_≠(v3_:Value).ownBlock) v7_ r8∧Below w.heap.size w w':=by
 have hu58:=Tryz.underlying58
 have hu91:=Tryz.underlying91
 have hu50:=Tryz.underlying50
 have hu56:=Tryz.underlying56
 have HB:=aM (Below.refl w.heap.size w)
 have H:((Y7.f k a0 a1 a2 a3).bind fun bt778=>(if bt778.2.2.2.2.2.2.2.2.2=0 then (some (bt778.1,bt778.2.1,bt778.2.2.1,bt778.2.2.2.1,bt778.2.2.2.2.1,bt778.2.2.2.2.2.1,bt778.2.2.2.2.2.2.1,([]:List Int),0,0,0,0,0,0)) else ((Y82.f bt778.2.2.2.2.2.2.2.2.2).bind fun bt795=>(some (bt795.1,bt795.2.1,bt795.2.2.1,bt795.2.2.2.1,bt795.2.2.2.2.1,bt795.2.2.2.2.2.1,bt795.2.2.2.2.2.2.1,bt795.2.2.2.2.2.2.2.1,bt795.2.2.2.2.2.2.2.2.1,bt795.2.2.2.2.2.2.2.2.2.1,bt795.2.2.2.2.2.2.2.2.2.2.1,bt795.2.2.2.2.2.2.2.2.2.2.2.1,bt795.2.2.2.2.2.2.2.2.2.2.2.2.1,bt795.2.2.2.2.2.2.2.2.2.2.2.2.2)))))=some (r1,r2,r3,r4,r5,r6,r7,r8,r9,r10,r11,r12,r13,r14):=h
 clear h
 replace H:=bS H
 obtain ⟨⟨t778,t779,t782,t785,t788,t789,t790,t791,t792,t793⟩,A50,H⟩:=H
 replace H:(if t793=0 then (some (t778,t779,t782,t785,t788,t789,t790,([]:List Int),0,0,0,0,0,0)) else ((Y82.f t793).bind fun bt795=>(some (bt795.1,bt795.2.1,bt795.2.2.1,bt795.2.2.2.1,bt795.2.2.2.2.1,bt795.2.2.2.2.2.1,bt795.2.2.2.2.2.2.1,bt795.2.2.2.2.2.2.2.1,bt795.2.2.2.2.2.2.2.2.1,bt795.2.2.2.2.2.2.2.2.2.1,bt795.2.2.2.2.2.2.2.2.2.2.1,bt795.2.2.2.2.2.2.2.2.2.2.2.1,bt795.2.2.2.2.2.2.2.2.2.2.2.2.1,bt795.2.2.2.2.2.2.2.2.2.2.2.2.2))))=some (r1,r2,r3,r4,r5,r6,r7,r8,r9,r10,r11,r12,r13,r14):=H
 have A5:=aM A50
 clear A50
 by_cases c6:t793=0
 ·rw [if_pos c6] at H
  have c6b0:(t793 == 0)=true:=beq_iff_eq.mpr c6
  have c6b1:(t793 != 0)=false:=bne_eq_false_iff_eq.mpr c6
  clear c6
  simp only [Option.some.injEq,Prod.mk.injEq] at H
  obtain ⟨rfl,rfl,rfl,rfl,rfl,rfl,rfl,rfl,rfl,rfl,rfl,rfl,rfl,rfl⟩:=H
  go_enter Tryz.func25,Tryz.ntmps25
  go_wp2_with (first | ((with_reducible refine gd_ 8 ?_);refine be_ 8 #[.int .i64 0,.slice none 0 0,.slice none 0 0,.slice none 0 0,.int .i64 0,.int .i64 0,.int .i64 0,.slice none 0 0,.slice none 0 0,.slice none 0 0,.slice none 0 0,.slice none 0 0,.int .i64 0,.int .i64 0] 58 ?_;intro gb777 hg w7 hbox hb;have n0_:=aM (below_step (z3_ HB.out) hb);have n1_:=aM (hbox);have n2_:=aM ((z9_ HB.out:w.heap.size≤gb777));have n3_:=aM ((z9_ HB.out:w.heap.size≤gb777));clear HB;have HB:=n0_;have BK777:=n1_;have GW777:=n2_;have GE777:=n3_;clear n0_ n1_ n2_ n3_;clear hb hbox hg) | ((with_reducible refine gc_ 57 ?_);refine gl_ (some 14) Tryz.func57 #[.int .i64 a0,.int .i64 a1,.int .i64 a2,.int .i64 a3] ?_;(with_reducible refine (Y7.calls k a0 a1 a2 a3 t778 t779 t782 t785 t788 t789 t790 t791 t792 t793 _ A5.out).mono ?_);rintro e w8 ⟨v780,v783,v786,rfl,ho0,ho1,ho2,hb⟩;refine ⟨_,rfl,?_⟩;have n0_:=aM (Kd.R_lower ho0 (below_size (z7_ HB.out GE777.out)));have n1_:=aM (Kd.R_lower ho1 (below_size (z7_ HB.out GE777.out)));have n2_:=aM (Kd.R_lower ho2 (below_size (z7_ HB.out GE777.out)));have n3_:=aM (blkB_ BK777.out hb);have n4_:=aM (below_step (z7_ HB.out GE777.out) hb);clear BK777;clear HB;have HO781:=n0_;have HO784:=n1_;have HO787:=n2_;have BK777:=n3_;have HB:=n4_;clear n0_ n1_ n2_ n3_ n4_;(try clear hb);(try clear ho0);(try clear ho1);(try clear ho2)) | ((with_reducible refine gd_ 9 ?_);refine be_ 9 #[.int .i64 0,.slice none 0 0,.slice none 0 0,.slice none 0 0,.int .i64 0,.int .i64 0,.int .i64 0,.slice none 0 0,.slice none 0 0,.int .i64 0] 91 ?_;intro gb794 hg w9 hbox hb;have n0_:=aM (Kd.R_below (z0_ HO781.out) hb);have n1_:=aM (Kd.R_below (z0_ HO784.out) hb);have n2_:=aM (Kd.R_below (z0_ HO787.out) hb);have n3_:=aM (blkB_ BK777.out hb);have n4_:=aM (below_step (z7_ HB.out GE777.out) hb);have n5_:=aM (hbox);have n6_:=aM ((z11_ HB.out GE777.out:w.heap.size≤gb794));have n7_:=aM ((z11_ HB.out GE777.out:w.heap.size≤gb794));have n8_:=aM (neL_ BK777.out hg);have n9_:=aM (neG_ BK777.out hg);clear HO781;clear HO784;clear HO787;clear BK777;clear HB;have HO781:=n0_;have HO784:=n1_;have HO787:=n2_;have BK777:=n3_;have HB:=n4_;have BK794:=n5_;have GW794:=n6_;have GE794:=n7_;have NB777_794:=n8_;have NB794_777:=n9_;clear n0_ n1_ n2_ n3_ n4_ n5_ n6_ n7_ n8_ n9_;clear hb hbox hg;have hnb10:=NB794_777.out;have hnc10:=NB777_794.out;have ⟨hcz11_0,hcz11_1,hcz11_2,hcz11_3,hcz11_4,hcz11_5,hcz11_6,hcz11_7,hcz11_8,hcz11_9,hfz11_0,hfz11_1,hfz11_2,hfz11_3,hfz11_4,hfz11_5,hfz11_6,hfz11_7,hfz11_8,hfz11_9⟩:=cz10_ BK794.out;obtain ⟨Ao12,co12,eo12⟩:=Kd.R_slice HO781.out;subst eo12;obtain ⟨Ao13,co13,eo13⟩:=Kd.R_slice HO784.out;subst eo13;obtain ⟨Ao14,co14,eo14⟩:=Kd.R_slice HO787.out;subst eo14;have hcz15_0:w9.cell? ⟨gb777,0,none⟩=some (.int .i64 0):=(blk_cell BK777.out 0).trans rfl;have hcz15_1:w9.cell? ⟨gb777,1,none⟩=some (.slice none 0 0):=(blk_cell BK777.out 1).trans rfl;have hcz15_2:w9.cell? ⟨gb777,2,none⟩=some (.slice none 0 0):=(blk_cell BK777.out 2).trans rfl;have hcz15_3:w9.cell? ⟨gb777,3,none⟩=some (.slice none 0 0):=(blk_cell BK777.out 3).trans rfl;have hcz15_4:w9.cell? ⟨gb777,4,none⟩=some (.int .i64 0):=(blk_cell BK777.out 4).trans rfl;have hcz15_5:w9.cell? ⟨gb777,5,none⟩=some (.int .i64 0):=(blk_cell BK777.out 5).trans rfl;have hcz15_6:w9.cell? ⟨gb777,6,none⟩=some (.int .i64 0):=(blk_cell BK777.out 6).trans rfl;have hcz15_7:w9.cell? ⟨gb777,7,none⟩=some (.slice none 0 0):=(blk_cell BK777.out 7).trans rfl;have hcz15_8:w9.cell? ⟨gb777,8,none⟩=some (.slice none 0 0):=(blk_cell BK777.out 8).trans rfl;have hcz15_9:w9.cell? ⟨gb777,9,none⟩=some (.slice none 0 0):=(blk_cell BK777.out 9).trans rfl;have hcz15_10:w9.cell? ⟨gb777,10,none⟩=some (.slice none 0 0):=(blk_cell BK777.out 10).trans rfl;have hcz15_11:w9.cell? ⟨gb777,11,none⟩=some (.slice none 0 0):=(blk_cell BK777.out 11).trans rfl;have hcz15_12:w9.cell? ⟨gb777,12,none⟩=some (.int .i64 0):=(blk_cell BK777.out 12).trans rfl;have hcz15_13:w9.cell? ⟨gb777,13,none⟩=some (.int .i64 0):=(blk_cell BK777.out 13).trans rfl;have hfz15_0:=blk_frozen BK777.out 0;have hfz15_1:=blk_frozen BK777.out 1;have hfz15_2:=blk_frozen BK777.out 2;have hfz15_3:=blk_frozen BK777.out 3;have hfz15_4:=blk_frozen BK777.out 4;have hfz15_5:=blk_frozen BK777.out 5;have hfz15_6:=blk_frozen BK777.out 6;have hfz15_7:=blk_frozen BK777.out 7;have hfz15_8:=blk_frozen BK777.out 8;have hfz15_9:=blk_frozen BK777.out 9;have hfz15_10:=blk_frozen BK777.out 10;have hfz15_11:=blk_frozen BK777.out 11;have hfz15_12:=blk_frozen BK777.out 12;have hfz15_13:=blk_frozen BK777.out 13))
  refine bodyPost_ret (results_cell_row rfl _ _ gb777 58 #[.int .i64 t778,.slice Ao12 t779.length co12,.slice Ao13 t782.length co13,.slice Ao14 t785.length co14,.int .i64 t788,.int .i64 t789,.int .i64 t790,.slice none 0 0,.slice none 0 0,.slice none 0 0,.slice none 0 0,.slice none 0 0,.int .i64 0,.int .i64 0] (0,0) _ rfl (by (with_reducible repeat (first | refine blk_drewN ?_ _ | refine blk_drew ?_ | refine blk_alloc ?_ _));refine blk_put (cs:=#[.int .i64 t778,.slice Ao12 t779.length co12,.slice Ao13 t782.length co13,.slice Ao14 t785.length co14,.int .i64 t788,.int .i64 t789,.int .i64 t790,.slice none 0 0,.slice none 0 0,.slice none 0 0,.slice none 0 0,.slice none 0 0,.int .i64 0,.int .i64 0]) ?_ 13 _ rfl;(with_reducible repeat (first | refine blk_drewN ?_ _ | refine blk_drew ?_ | refine blk_alloc ?_ _));refine blk_put (cs:=#[.int .i64 t778,.slice Ao12 t779.length co12,.slice Ao13 t782.length co13,.slice Ao14 t785.length co14,.int .i64 t788,.int .i64 t789,.int .i64 t790,.slice none 0 0,.slice none 0 0,.slice none 0 0,.slice none 0 0,.slice none 0 0,.int .i64 0,.int .i64 0]) ?_ 12 _ rfl;(with_reducible repeat (first | refine blk_drewN ?_ _ | refine blk_drew ?_ | refine blk_alloc ?_ _));refine blk_put (cs:=#[.int .i64 t778,.slice Ao12 t779.length co12,.slice Ao13 t782.length co13,.slice Ao14 t785.length co14,.int .i64 t788,.int .i64 t789,.int .i64 t790,.slice none 0 0,.slice none 0 0,.slice none 0 0,.slice none 0 0,.slice none 0 0,.int .i64 0,.int .i64 0]) ?_ 11 _ rfl;(with_reducible repeat (first | refine blk_drewN ?_ _ | refine blk_drew ?_ | refine blk_alloc ?_ _));refine blk_put (cs:=#[.int .i64 t778,.slice Ao12 t779.length co12,.slice Ao13 t782.length co13,.slice Ao14 t785.length co14,.int .i64 t788,.int .i64 t789,.int .i64 t790,.slice none 0 0,.slice none 0 0,.slice none 0 0,.slice none 0 0,.slice none 0 0,.int .i64 0,.int .i64 0]) ?_ 10 _ rfl;(with_reducible repeat (first | refine blk_drewN ?_ _ | refine blk_drew ?_ | refine blk_alloc ?_ _));refine blk_put (cs:=#[.int .i64 t778,.slice Ao12 t779.length co12,.slice Ao13 t782.length co13,.slice Ao14 t785.length co14,.int .i64 t788,.int .i64 t789,.int .i64 t790,.slice none 0 0,.slice none 0 0,.slice none 0 0,.slice none 0 0,.slice none 0 0,.int .i64 0,.int .i64 0]) ?_ 9 _ rfl;(with_reducible repeat (first | refine blk_drewN ?_ _ | refine blk_drew ?_ | refine blk_alloc ?_ _));refine blk_put (cs:=#[.int .i64 t778,.slice Ao12 t779.length co12,.slice Ao13 t782.length co13,.slice Ao14 t785.length co14,.int .i64 t788,.int .i64 t789,.int .i64 t790,.slice none 0 0,.slice none 0 0,.slice none 0 0,.slice none 0 0,.slice none 0 0,.int .i64 0,.int .i64 0]) ?_ 8 _ rfl;(with_reducible repeat (first | refine blk_drewN ?_ _ | refine blk_drew ?_ | refine blk_alloc ?_ _));refine blk_put (cs:=#[.int .i64 t778,.slice Ao12 t779.length co12,.slice Ao13 t782.length co13,.slice Ao14 t785.length co14,.int .i64 t788,.int .i64 t789,.int .i64 t790,.slice none 0 0,.slice none 0 0,.slice none 0 0,.slice none 0 0,.slice none 0 0,.int .i64 0,.int .i64 0]) ?_ 7 _ rfl;(with_reducible repeat (first | refine blk_drewN ?_ _ | refine blk_drew ?_ | refine blk_alloc ?_ _));refine blk_put (cs:=#[.int .i64 t778,.slice Ao12 t779.length co12,.slice Ao13 t782.length co13,.slice Ao14 t785.length co14,.int .i64 t788,.int .i64 t789,.int .i64 0,.slice none 0 0,.slice none 0 0,.slice none 0 0,.slice none 0 0,.slice none 0 0,.int .i64 0,.int .i64 0]) ?_ 6 _ rfl;(with_reducible repeat (first | refine blk_drewN ?_ _ | refine blk_drew ?_ | refine blk_alloc ?_ _));refine blk_put (cs:=#[.int .i64 t778,.slice Ao12 t779.length co12,.slice Ao13 t782.length co13,.slice Ao14 t785.length co14,.int .i64 t788,.int .i64 0,.int .i64 0,.slice none 0 0,.slice none 0 0,.slice none 0 0,.slice none 0 0,.slice none 0 0,.int .i64 0,.int .i64 0]) ?_ 5 _ rfl;(with_reducible repeat (first | refine blk_drewN ?_ _ | refine blk_drew ?_ | refine blk_alloc ?_ _));refine blk_put (cs:=#[.int .i64 t778,.slice Ao12 t779.length co12,.slice Ao13 t782.length co13,.slice Ao14 t785.length co14,.int .i64 0,.int .i64 0,.int .i64 0,.slice none 0 0,.slice none 0 0,.slice none 0 0,.slice none 0 0,.slice none 0 0,.int .i64 0,.int .i64 0]) ?_ 4 _ rfl;(with_reducible repeat (first | refine blk_drewN ?_ _ | refine blk_drew ?_ | refine blk_alloc ?_ _));refine blk_put (cs:=#[.int .i64 t778,.slice Ao12 t779.length co12,.slice Ao13 t782.length co13,.slice none 0 0,.int .i64 0,.int .i64 0,.int .i64 0,.slice none 0 0,.slice none 0 0,.slice none 0 0,.slice none 0 0,.slice none 0 0,.int .i64 0,.int .i64 0]) ?_ 3 _ rfl;(with_reducible repeat (first | refine blk_drewN ?_ _ | refine blk_drew ?_ | refine blk_alloc ?_ _));refine blk_put (cs:=#[.int .i64 t778,.slice Ao12 t779.length co12,.slice none 0 0,.slice none 0 0,.int .i64 0,.int .i64 0,.int .i64 0,.slice none 0 0,.slice none 0 0,.slice none 0 0,.slice none 0 0,.slice none 0 0,.int .i64 0,.int .i64 0]) ?_ 2 _ rfl;(with_reducible repeat (first | refine blk_drewN ?_ _ | refine blk_drew ?_ | refine blk_alloc ?_ _));refine blk_put (cs:=#[.int .i64 t778,.slice none 0 0,.slice none 0 0,.slice none 0 0,.int .i64 0,.int .i64 0,.int .i64 0,.slice none 0 0,.slice none 0 0,.slice none 0 0,.slice none 0 0,.slice none 0 0,.int .i64 0,.int .i64 0]) ?_ 1 _ rfl;(with_reducible repeat (first | refine blk_drewN ?_ _ | refine blk_drew ?_ | refine blk_alloc ?_ _));refine blk_put (cs:=#[.int .i64 0,.slice none 0 0,.slice none 0 0,.slice none 0 0,.int .i64 0,.int .i64 0,.int .i64 0,.slice none 0 0,.slice none 0 0,.slice none 0 0,.slice none 0 0,.slice none 0 0,.int .i64 0,.int .i64 0]) ?_ 0 _ rfl;(with_reducible repeat (first | refine blk_drewN ?_ _ | refine blk_drew ?_ | refine blk_alloc ?_ _));refine blk_far ?_ NB777_794.out _;(with_reducible repeat (first | refine blk_drewN ?_ _ | refine blk_drew ?_ | refine blk_alloc ?_ _));refine blk_far ?_ NB777_794.out _;(with_reducible repeat (first | refine blk_drewN ?_ _ | refine blk_drew ?_ | refine blk_alloc ?_ _));refine blk_far ?_ NB777_794.out _;(with_reducible repeat (first | refine blk_drewN ?_ _ | refine blk_drew ?_ | refine blk_alloc ?_ _));refine blk_far ?_ NB777_794.out _;(with_reducible repeat (first | refine blk_drewN ?_ _ | refine blk_drew ?_ | refine blk_alloc ?_ _));refine blk_far ?_ NB777_794.out _;(with_reducible repeat (first | refine blk_drewN ?_ _ | refine blk_drew ?_ | refine blk_alloc ?_ _));refine blk_far ?_ NB777_794.out _;(with_reducible repeat (first | refine blk_drewN ?_ _ | refine blk_drew ?_ | refine blk_alloc ?_ _));refine blk_far ?_ NB777_794.out _;(with_reducible repeat (first | refine blk_drewN ?_ _ | refine blk_drew ?_ | refine blk_alloc ?_ _));refine blk_far ?_ NB777_794.out _;(with_reducible repeat (first | refine blk_drewN ?_ _ | refine blk_drew ?_ | refine blk_alloc ?_ _));refine blk_far ?_ NB777_794.out _;(with_reducible repeat (first | refine blk_drewN ?_ _ | refine blk_drew ?_ | refine blk_alloc ?_ _));refine blk_far ?_ NB777_794.out _;(with_reducible repeat (first | refine blk_drewN ?_ _ | refine blk_drew ?_ | refine blk_alloc ?_ _));exact BK777.out) Tryz.underlying58 rfl (by kernel_rfl)) rfl ?_
  exact ⟨_,_,_,_,z10_,by (with_reducible repeat (first | apply Kd.R_alloc | apply Kd.R_drewN | apply Kd.R_drew));exact Kd.R_mono (Kd.R_far (p:=⟨gb777,13,none⟩) (Kd.R_far (p:=⟨gb777,12,none⟩) (rf12_ (Kd.R_far (p:=⟨gb794,9,none⟩) (Kd.R_far (p:=⟨gb794,8,none⟩) (Kd.R_far (p:=⟨gb794,7,none⟩) (Kd.R_far (p:=⟨gb794,6,none⟩) (Kd.R_far (p:=⟨gb794,5,none⟩) (Kd.R_far (p:=⟨gb794,4,none⟩) (Kd.R_far (p:=⟨gb794,3,none⟩) (Kd.R_far (p:=⟨gb794,2,none⟩) (Kd.R_far (p:=⟨gb794,1,none⟩) (Kd.R_far (p:=⟨gb794,0,none⟩) (Kd.R_types (Kd.R_types HO781.out BK794.out (by decide)) BK777.out (by decide)) (fun _ hk=>hk.1.2) (.int .i64 t778)) (fun _ hk=>hk.1.2) (.slice Ao12 t779.length co12)) (fun _ hk=>hk.1.2) (.slice Ao13 t782.length co13)) (fun _ hk=>hk.1.2) (.slice Ao14 t785.length co14)) (fun _ hk=>hk.1.2) (.int .i64 t788)) (fun _ hk=>hk.1.2) (.int .i64 t789)) (fun _ hk=>hk.1.2) (.int .i64 t790)) (fun _ hk=>hk.1.2) (.slice none 0 0)) (fun _ hk=>hk.1.2) (.slice none 0 0)) (fun _ hk=>hk.1.2) (.int .i64 t793)) (fun _ hk=>hk.2)) (fun _ hk=>hk.2) (.int .i64 0)) (fun _ hk=>hk.2) (.int .i64 0)) (fun _ hk=>trivial),by (with_reducible repeat (first | apply Kd.R_alloc | apply Kd.R_drewN | apply Kd.R_drew));exact Kd.R_mono (Kd.R_far (p:=⟨gb777,13,none⟩) (Kd.R_far (p:=⟨gb777,12,none⟩) (rf12_ (Kd.R_far (p:=⟨gb794,9,none⟩) (Kd.R_far (p:=⟨gb794,8,none⟩) (Kd.R_far (p:=⟨gb794,7,none⟩) (Kd.R_far (p:=⟨gb794,6,none⟩) (Kd.R_far (p:=⟨gb794,5,none⟩) (Kd.R_far (p:=⟨gb794,4,none⟩) (Kd.R_far (p:=⟨gb794,3,none⟩) (Kd.R_far (p:=⟨gb794,2,none⟩) (Kd.R_far (p:=⟨gb794,1,none⟩) (Kd.R_far (p:=⟨gb794,0,none⟩) (Kd.R_types (Kd.R_types HO784.out BK794.out (by decide)) BK777.out (by decide)) (fun _ hk=>hk.1.2) (.int .i64 t778)) (fun _ hk=>hk.1.2) (.slice Ao12 t779.length co12)) (fun _ hk=>hk.1.2) (.slice Ao13 t782.length co13)) (fun _ hk=>hk.1.2) (.slice Ao14 t785.length co14)) (fun _ hk=>hk.1.2) (.int .i64 t788)) (fun _ hk=>hk.1.2) (.int .i64 t789)) (fun _ hk=>hk.1.2) (.int .i64 t790)) (fun _ hk=>hk.1.2) (.slice none 0 0)) (fun _ hk=>hk.1.2) (.slice none 0 0)) (fun _ hk=>hk.1.2) (.int .i64 t793)) (fun _ hk=>hk.2)) (fun _ hk=>hk.2) (.int .i64 0)) (fun _ hk=>hk.2) (.int .i64 0)) (fun _ hk=>trivial),by (with_reducible repeat (first | apply Kd.R_alloc | apply Kd.R_drewN | apply Kd.R_drew));exact Kd.R_mono (Kd.R_far (p:=⟨gb777,13,none⟩) (Kd.R_far (p:=⟨gb777,12,none⟩) (rf12_ (Kd.R_far (p:=⟨gb794,9,none⟩) (Kd.R_far (p:=⟨gb794,8,none⟩) (Kd.R_far (p:=⟨gb794,7,none⟩) (Kd.R_far (p:=⟨gb794,6,none⟩) (Kd.R_far (p:=⟨gb794,5,none⟩) (Kd.R_far (p:=⟨gb794,4,none⟩) (Kd.R_far (p:=⟨gb794,3,none⟩) (Kd.R_far (p:=⟨gb794,2,none⟩) (Kd.R_far (p:=⟨gb794,1,none⟩) (Kd.R_far (p:=⟨gb794,0,none⟩) (Kd.R_types (Kd.R_types HO787.out BK794.out (by decide)) BK777.out (by decide)) (fun _ hk=>hk.1.2) (.int .i64 t778)) (fun _ hk=>hk.1.2) (.slice Ao12 t779.length co12)) (fun _ hk=>hk.1.2) (.slice Ao13 t782.length co13)) (fun _ hk=>hk.1.2) (.slice Ao14 t785.length co14)) (fun _ hk=>hk.1.2) (.int .i64 t788)) (fun _ hk=>hk.1.2) (.int .i64 t789)) (fun _ hk=>hk.1.2) (.int .i64 t790)) (fun _ hk=>hk.1.2) (.slice none 0 0)) (fun _ hk=>hk.1.2) (.slice none 0 0)) (fun _ hk=>hk.1.2) (.int .i64 t793)) (fun _ hk=>hk.2)) (fun _ hk=>hk.2) (.int .i64 0)) (fun _ hk=>hk.2) (.int .i64 0)) (fun _ hk=>(by simp [Value.ownBlock])),z13_,z8_ HB.out GE777.out GE794.out⟩
 ·rw [if_neg c6] at H
  have c6b0:(t793 == 0)=false:=beq_eq_false_iff_ne.mpr c6
  have c6b1:(t793 != 0)=true:=bne_iff_ne.mpr c6
  replace H:=bS H
  obtain ⟨⟨t795,t796,t799,t802,t805,t806,t807,t808,t811,t812,t813,t814,t815,t816⟩,A160,H⟩:=H
  replace H:(some (t795,t796,t799,t802,t805,t806,t807,t808,t811,t812,t813,t814,t815,t816))=some (r1,r2,r3,r4,r5,r6,r7,r8,r9,r10,r11,r12,r13,r14):=H
  have A16:=aM A160
  clear A160
  simp only [Option.some.injEq,Prod.mk.injEq] at H
  obtain ⟨rfl,rfl,rfl,rfl,rfl,rfl,rfl,rfl,rfl,rfl,rfl,rfl,rfl,rfl⟩:=H
  go_enter Tryz.func25,Tryz.ntmps25
  go_wp2_with (first | ((with_reducible refine gd_ 8 ?_);refine be_ 8 #[.int .i64 0,.slice none 0 0,.slice none 0 0,.slice none 0 0,.int .i64 0,.int .i64 0,.int .i64 0,.slice none 0 0,.slice none 0 0,.slice none 0 0,.slice none 0 0,.slice none 0 0,.int .i64 0,.int .i64 0] 58 ?_;intro gb777 hg w17 hbox hb;have n0_:=aM (below_step (z3_ HB.out) hb);have n1_:=aM (hbox);have n2_:=aM ((z9_ HB.out:w.heap.size≤gb777));have n3_:=aM ((z9_ HB.out:w.heap.size≤gb777));clear HB;have HB:=n0_;have BK777:=n1_;have GW777:=n2_;have GE777:=n3_;clear n0_ n1_ n2_ n3_;clear hb hbox hg) | ((with_reducible refine gc_ 57 ?_);refine gl_ (some 14) Tryz.func57 #[.int .i64 a0,.int .i64 a1,.int .i64 a2,.int .i64 a3] ?_;(with_reducible refine (Y7.calls k a0 a1 a2 a3 t778 t779 t782 t785 t788 t789 t790 t791 t792 t793 _ A5.out).mono ?_);rintro e w18 ⟨v780,v783,v786,rfl,ho0,ho1,ho2,hb⟩;refine ⟨_,rfl,?_⟩;have n0_:=aM (Kd.R_lower ho0 (below_size (z7_ HB.out GE777.out)));have n1_:=aM (Kd.R_lower ho1 (below_size (z7_ HB.out GE777.out)));have n2_:=aM (Kd.R_lower ho2 (below_size (z7_ HB.out GE777.out)));have n3_:=aM (blkB_ BK777.out hb);have n4_:=aM (below_step (z7_ HB.out GE777.out) hb);clear BK777;clear HB;have HO781:=n0_;have HO784:=n1_;have HO787:=n2_;have BK777:=n3_;have HB:=n4_;clear n0_ n1_ n2_ n3_ n4_;(try clear hb);(try clear ho0);(try clear ho1);(try clear ho2)) | ((with_reducible refine gd_ 9 ?_);refine be_ 9 #[.int .i64 0,.slice none 0 0,.slice none 0 0,.slice none 0 0,.int .i64 0,.int .i64 0,.int .i64 0,.slice none 0 0,.slice none 0 0,.int .i64 0] 91 ?_;intro gb794 hg w19 hbox hb;have n0_:=aM (Kd.R_below (z0_ HO781.out) hb);have n1_:=aM (Kd.R_below (z0_ HO784.out) hb);have n2_:=aM (Kd.R_below (z0_ HO787.out) hb);have n3_:=aM (blkB_ BK777.out hb);have n4_:=aM (below_step (z7_ HB.out GE777.out) hb);have n5_:=aM (hbox);have n6_:=aM ((z11_ HB.out GE777.out:w.heap.size≤gb794));have n7_:=aM ((z11_ HB.out GE777.out:w.heap.size≤gb794));have n8_:=aM (neL_ BK777.out hg);have n9_:=aM (neG_ BK777.out hg);clear HO781;clear HO784;clear HO787;clear BK777;clear HB;have HO781:=n0_;have HO784:=n1_;have HO787:=n2_;have BK777:=n3_;have HB:=n4_;have BK794:=n5_;have GW794:=n6_;have GE794:=n7_;have NB777_794:=n8_;have NB794_777:=n9_;clear n0_ n1_ n2_ n3_ n4_ n5_ n6_ n7_ n8_ n9_;clear hb hbox hg;have hnb20:=NB794_777.out;have hnc20:=NB777_794.out;have ⟨hcz21_0,hcz21_1,hcz21_2,hcz21_3,hcz21_4,hcz21_5,hcz21_6,hcz21_7,hcz21_8,hcz21_9,hfz21_0,hfz21_1,hfz21_2,hfz21_3,hfz21_4,hfz21_5,hfz21_6,hfz21_7,hfz21_8,hfz21_9⟩:=cz10_ BK794.out;obtain ⟨Ao22,co22,eo22⟩:=Kd.R_slice HO781.out;subst eo22;obtain ⟨Ao23,co23,eo23⟩:=Kd.R_slice HO784.out;subst eo23;obtain ⟨Ao24,co24,eo24⟩:=Kd.R_slice HO787.out;subst eo24) | ((with_reducible refine gc_ 58 ?_);refine gl_ (some 20) Tryz.func58 #[.int .i64 t793] ?_;(with_reducible refine (Y82.calls t793 t795 t796 t799 t802 t805 t806 t807 t808 t811 t812 t813 t814 t815 t816 _ A16.out).mono ?_);rintro e w25 ⟨v797,v800,v803,v809,rfl,ho0,ho1,ho2,ho3,hb⟩;refine ⟨_,rfl,?_⟩;have n0_:=aM (Kd.R_elder' (z27_ HO781.out BK794.out) (Kd.R_base ho0) hb);have n1_:=aM (Kd.R_elder' (z27_ HO784.out BK794.out) (Kd.R_base ho1) hb);have n2_:=aM (Kd.R_mono (Kd.R_told (Kd.R_told (Kd.R_old (z27_ HO787.out BK794.out) hb) (Kd.R_base ho2)) (Kd.R_base ho3)) (fun _ h_=>h_.1));have n3_:=aM (Kd.R_lower (Kd.R_new' ho0 (Kd.R_lt (z27_ HO781.out BK794.out))) (below_size (z8_ HB.out GE777.out GE794.out)));have n4_:=aM (Kd.R_lower (Kd.R_new' ho1 (Kd.R_lt (z27_ HO784.out BK794.out))) (below_size (z8_ HB.out GE777.out GE794.out)));have n5_:=aM (Kd.R_lower (Kd.R_new' ho2 (Kd.R_lt (z27_ HO787.out BK794.out))) (below_size (z8_ HB.out GE777.out GE794.out)));have n6_:=aM (Kd.R_lower (Kd.R_new' ho3 (Kd.R_lt (z27_ HO787.out BK794.out))) (below_size (z8_ HB.out GE777.out GE794.out)));have n7_:=aM (blk_below (g:=gb777) (o:=.cells #[.int .i64 0,.slice none 0 0,.slice none 0 0,.slice none 0 0,.int .i64 0,.int .i64 0,.int .i64 0,.slice none 0 0,.slice none 0 0,.slice none 0 0,.slice none 0 0,.slice none 0 0,.int .i64 0,.int .i64 0] 58 (0,0)) (by (with_reducible repeat (first | refine blk_drewN ?_ _ | refine blk_drew ?_ | refine blk_alloc ?_ _));refine blk_far ?_ NB777_794.out _;(with_reducible repeat (first | refine blk_drewN ?_ _ | refine blk_drew ?_ | refine blk_alloc ?_ _));refine blk_far ?_ NB777_794.out _;(with_reducible repeat (first | refine blk_drewN ?_ _ | refine blk_drew ?_ | refine blk_alloc ?_ _));refine blk_far ?_ NB777_794.out _;(with_reducible repeat (first | refine blk_drewN ?_ _ | refine blk_drew ?_ | refine blk_alloc ?_ _));refine blk_far ?_ NB777_794.out _;(with_reducible repeat (first | refine blk_drewN ?_ _ | refine blk_drew ?_ | refine blk_alloc ?_ _));refine blk_far ?_ NB777_794.out _;(with_reducible repeat (first | refine blk_drewN ?_ _ | refine blk_drew ?_ | refine blk_alloc ?_ _));refine blk_far ?_ NB777_794.out _;(with_reducible repeat (first | refine blk_drewN ?_ _ | refine blk_drew ?_ | refine blk_alloc ?_ _));refine blk_far ?_ NB777_794.out _;(with_reducible repeat (first | refine blk_drewN ?_ _ | refine blk_drew ?_ | refine blk_alloc ?_ _));refine blk_far ?_ NB777_794.out _;(with_reducible repeat (first | refine blk_drewN ?_ _ | refine blk_drew ?_ | refine blk_alloc ?_ _));refine blk_far ?_ NB777_794.out _;(with_reducible repeat (first | refine blk_drewN ?_ _ | refine blk_drew ?_ | refine blk_alloc ?_ _));refine blk_far ?_ NB777_794.out _;(with_reducible repeat (first | refine blk_drewN ?_ _ | refine blk_drew ?_ | refine blk_alloc ?_ _));exact BK777.out) hb);have n8_:=aM (blk_below (g:=gb794) (o:=.cells #[.int .i64 t778,.slice Ao22 t779.length co22,.slice Ao23 t782.length co23,.slice Ao24 t785.length co24,.int .i64 t788,.int .i64 t789,.int .i64 t790,.slice none 0 0,.slice none 0 0,.int .i64 t793] 91 (0,0)) (z29_ BK794.out) hb);have n9_:=aM (below_step (z8_ HB.out GE777.out GE794.out) hb);clear HO781;clear HO784;clear HO787;clear BK777;clear BK794;clear HB;have HO781:=n0_;have HO784:=n1_;have HO787:=n2_;have HO798:=n3_;have HO801:=n4_;have HO804:=n5_;have HO810:=n6_;have BK777:=n7_;have BK794:=n8_;have HB:=n9_;clear n0_ n1_ n2_ n3_ n4_ n5_ n6_ n7_ n8_ n9_;(try clear hb);(try clear hb2);(try clear hk);(try clear hi);(try clear ho0);(try clear ho1);(try clear ho2);(try clear ho3);have hcz26_0:w25.cell? ⟨gb777,0,none⟩=some (.int .i64 0):=(blk_cell BK777.out 0).trans rfl;have hcz26_1:w25.cell? ⟨gb777,1,none⟩=some (.slice none 0 0):=(blk_cell BK777.out 1).trans rfl;have hcz26_2:w25.cell? ⟨gb777,2,none⟩=some (.slice none 0 0):=(blk_cell BK777.out 2).trans rfl;have hcz26_3:w25.cell? ⟨gb777,3,none⟩=some (.slice none 0 0):=(blk_cell BK777.out 3).trans rfl;have hcz26_4:w25.cell? ⟨gb777,4,none⟩=some (.int .i64 0):=(blk_cell BK777.out 4).trans rfl;have hcz26_5:w25.cell? ⟨gb777,5,none⟩=some (.int .i64 0):=(blk_cell BK777.out 5).trans rfl;have hcz26_6:w25.cell? ⟨gb777,6,none⟩=some (.int .i64 0):=(blk_cell BK777.out 6).trans rfl;have hcz26_7:w25.cell? ⟨gb777,7,none⟩=some (.slice none 0 0):=(blk_cell BK777.out 7).trans rfl;have hcz26_8:w25.cell? ⟨gb777,8,none⟩=some (.slice none 0 0):=(blk_cell BK777.out 8).trans rfl;have hcz26_9:w25.cell? ⟨gb777,9,none⟩=some (.slice none 0 0):=(blk_cell BK777.out 9).trans rfl;have hcz26_10:w25.cell? ⟨gb777,10,none⟩=some (.slice none 0 0):=(blk_cell BK777.out 10).trans rfl;have hcz26_11:w25.cell? ⟨gb777,11,none⟩=some (.slice none 0 0):=(blk_cell BK777.out 11).trans rfl;have hcz26_12:w25.cell? ⟨gb777,12,none⟩=some (.int .i64 0):=(blk_cell BK777.out 12).trans rfl;have hcz26_13:w25.cell? ⟨gb777,13,none⟩=some (.int .i64 0):=(blk_cell BK777.out 13).trans rfl;have hfz26_0:=blk_frozen BK777.out 0;have hfz26_1:=blk_frozen BK777.out 1;have hfz26_2:=blk_frozen BK777.out 2;have hfz26_3:=blk_frozen BK777.out 3;have hfz26_4:=blk_frozen BK777.out 4;have hfz26_5:=blk_frozen BK777.out 5;have hfz26_6:=blk_frozen BK777.out 6;have hfz26_7:=blk_frozen BK777.out 7;have hfz26_8:=blk_frozen BK777.out 8;have hfz26_9:=blk_frozen BK777.out 9;have hfz26_10:=blk_frozen BK777.out 10;have hfz26_11:=blk_frozen BK777.out 11;have hfz26_12:=blk_frozen BK777.out 12;have hfz26_13:=blk_frozen BK777.out 13;obtain ⟨Ao27,co27,eo27⟩:=Kd.R_slice HO798.out;subst eo27;obtain ⟨Ao28,co28,eo28⟩:=Kd.R_slice HO801.out;subst eo28;obtain ⟨Ao29,co29,eo29⟩:=Kd.R_slice HO804.out;subst eo29;obtain ⟨Ao30,co30,eo30⟩:=Kd.R_slice HO810.out;subst eo30))
  refine bodyPost_ret (results_cell_row rfl _ _ gb777 58 #[.int .i64 t795,.slice Ao27 t796.length co27,.slice Ao28 t799.length co28,.slice Ao29 t802.length co29,.int .i64 t805,.int .i64 t806,.int .i64 t807,.slice Ao30 t808.length co30,.slice none 0 0,.slice none 0 0,.slice none 0 0,.slice none 0 0,.int .i64 t815,.int .i64 t816] (0,0) _ rfl (by (with_reducible repeat (first | refine blk_drewN ?_ _ | refine blk_drew ?_ | refine blk_alloc ?_ _));refine blk_put (cs:=#[.int .i64 t795,.slice Ao27 t796.length co27,.slice Ao28 t799.length co28,.slice Ao29 t802.length co29,.int .i64 t805,.int .i64 t806,.int .i64 t807,.slice Ao30 t808.length co30,.slice none 0 0,.slice none 0 0,.slice none 0 0,.slice none 0 0,.int .i64 t815,.int .i64 0]) ?_ 13 _ rfl;(with_reducible repeat (first | refine blk_drewN ?_ _ | refine blk_drew ?_ | refine blk_alloc ?_ _));refine blk_put (cs:=#[.int .i64 t795,.slice Ao27 t796.length co27,.slice Ao28 t799.length co28,.slice Ao29 t802.length co29,.int .i64 t805,.int .i64 t806,.int .i64 t807,.slice Ao30 t808.length co30,.slice none 0 0,.slice none 0 0,.slice none 0 0,.slice none 0 0,.int .i64 0,.int .i64 0]) ?_ 12 _ rfl;(with_reducible repeat (first | refine blk_drewN ?_ _ | refine blk_drew ?_ | refine blk_alloc ?_ _));refine blk_put (cs:=#[.int .i64 t795,.slice Ao27 t796.length co27,.slice Ao28 t799.length co28,.slice Ao29 t802.length co29,.int .i64 t805,.int .i64 t806,.int .i64 t807,.slice Ao30 t808.length co30,.slice none 0 0,.slice none 0 0,.slice none 0 0,.slice none 0 0,.int .i64 0,.int .i64 0]) ?_ 11 _ rfl;(with_reducible repeat (first | refine blk_drewN ?_ _ | refine blk_drew ?_ | refine blk_alloc ?_ _));refine blk_put (cs:=#[.int .i64 t795,.slice Ao27 t796.length co27,.slice Ao28 t799.length co28,.slice Ao29 t802.length co29,.int .i64 t805,.int .i64 t806,.int .i64 t807,.slice Ao30 t808.length co30,.slice none 0 0,.slice none 0 0,.slice none 0 0,.slice none 0 0,.int .i64 0,.int .i64 0]) ?_ 10 _ rfl;(with_reducible repeat (first | refine blk_drewN ?_ _ | refine blk_drew ?_ | refine blk_alloc ?_ _));refine blk_put (cs:=#[.int .i64 t795,.slice Ao27 t796.length co27,.slice Ao28 t799.length co28,.slice Ao29 t802.length co29,.int .i64 t805,.int .i64 t806,.int .i64 t807,.slice Ao30 t808.length co30,.slice none 0 0,.slice none 0 0,.slice none 0 0,.slice none 0 0,.int .i64 0,.int .i64 0]) ?_ 9 _ rfl;(with_reducible repeat (first | refine blk_drewN ?_ _ | refine blk_drew ?_ | refine blk_alloc ?_ _));refine blk_put (cs:=#[.int .i64 t795,.slice Ao27 t796.length co27,.slice Ao28 t799.length co28,.slice Ao29 t802.length co29,.int .i64 t805,.int .i64 t806,.int .i64 t807,.slice Ao30 t808.length co30,.slice none 0 0,.slice none 0 0,.slice none 0 0,.slice none 0 0,.int .i64 0,.int .i64 0]) ?_ 8 _ rfl;(with_reducible repeat (first | refine blk_drewN ?_ _ | refine blk_drew ?_ | refine blk_alloc ?_ _));refine blk_put (cs:=#[.int .i64 t795,.slice Ao27 t796.length co27,.slice Ao28 t799.length co28,.slice Ao29 t802.length co29,.int .i64 t805,.int .i64 t806,.int .i64 t807,.slice none 0 0,.slice none 0 0,.slice none 0 0,.slice none 0 0,.slice none 0 0,.int .i64 0,.int .i64 0]) ?_ 7 _ rfl;(with_reducible repeat (first | refine blk_drewN ?_ _ | refine blk_drew ?_ | refine blk_alloc ?_ _));refine blk_put (cs:=#[.int .i64 t795,.slice Ao27 t796.length co27,.slice Ao28 t799.length co28,.slice Ao29 t802.length co29,.int .i64 t805,.int .i64 t806,.int .i64 0,.slice none 0 0,.slice none 0 0,.slice none 0 0,.slice none 0 0,.slice none 0 0,.int .i64 0,.int .i64 0]) ?_ 6 _ rfl;(with_reducible repeat (first | refine blk_drewN ?_ _ | refine blk_drew ?_ | refine blk_alloc ?_ _));refine blk_put (cs:=#[.int .i64 t795,.slice Ao27 t796.length co27,.slice Ao28 t799.length co28,.slice Ao29 t802.length co29,.int .i64 t805,.int .i64 0,.int .i64 0,.slice none 0 0,.slice none 0 0,.slice none 0 0,.slice none 0 0,.slice none 0 0,.int .i64 0,.int .i64 0]) ?_ 5 _ rfl;(with_reducible repeat (first | refine blk_drewN ?_ _ | refine blk_drew ?_ | refine blk_alloc ?_ _));refine blk_put (cs:=#[.int .i64 t795,.slice Ao27 t796.length co27,.slice Ao28 t799.length co28,.slice Ao29 t802.length co29,.int .i64 0,.int .i64 0,.int .i64 0,.slice none 0 0,.slice none 0 0,.slice none 0 0,.slice none 0 0,.slice none 0 0,.int .i64 0,.int .i64 0]) ?_ 4 _ rfl;(with_reducible repeat (first | refine blk_drewN ?_ _ | refine blk_drew ?_ | refine blk_alloc ?_ _));refine blk_put (cs:=#[.int .i64 t795,.slice Ao27 t796.length co27,.slice Ao28 t799.length co28,.slice none 0 0,.int .i64 0,.int .i64 0,.int .i64 0,.slice none 0 0,.slice none 0 0,.slice none 0 0,.slice none 0 0,.slice none 0 0,.int .i64 0,.int .i64 0]) ?_ 3 _ rfl;(with_reducible repeat (first | refine blk_drewN ?_ _ | refine blk_drew ?_ | refine blk_alloc ?_ _));refine blk_put (cs:=#[.int .i64 t795,.slice Ao27 t796.length co27,.slice none 0 0,.slice none 0 0,.int .i64 0,.int .i64 0,.int .i64 0,.slice none 0 0,.slice none 0 0,.slice none 0 0,.slice none 0 0,.slice none 0 0,.int .i64 0,.int .i64 0]) ?_ 2 _ rfl;(with_reducible repeat (first | refine blk_drewN ?_ _ | refine blk_drew ?_ | refine blk_alloc ?_ _));refine blk_put (cs:=#[.int .i64 t795,.slice none 0 0,.slice none 0 0,.slice none 0 0,.int .i64 0,.int .i64 0,.int .i64 0,.slice none 0 0,.slice none 0 0,.slice none 0 0,.slice none 0 0,.slice none 0 0,.int .i64 0,.int .i64 0]) ?_ 1 _ rfl;(with_reducible repeat (first | refine blk_drewN ?_ _ | refine blk_drew ?_ | refine blk_alloc ?_ _));refine blk_put (cs:=#[.int .i64 0,.slice none 0 0,.slice none 0 0,.slice none 0 0,.int .i64 0,.int .i64 0,.int .i64 0,.slice none 0 0,.slice none 0 0,.slice none 0 0,.slice none 0 0,.slice none 0 0,.int .i64 0,.int .i64 0]) ?_ 0 _ rfl;(with_reducible repeat (first | refine blk_drewN ?_ _ | refine blk_drew ?_ | refine blk_alloc ?_ _));exact BK777.out) Tryz.underlying58 rfl (by kernel_rfl)) rfl ?_
  exact ⟨_,_,_,_,z10_,by (with_reducible repeat (first | apply Kd.R_alloc | apply Kd.R_drewN | apply Kd.R_drew));exact Kd.R_mono (Kd.R_far (p:=⟨gb777,13,none⟩) (Kd.R_far (p:=⟨gb777,12,none⟩) (rf12_ (Kd.R_types HO798.out BK777.out (by decide)) (fun _ hk=>hk.2)) (fun _ hk=>hk.2) (.int .i64 t815)) (fun _ hk=>hk.2) (.int .i64 t816)) (fun _ hk=>trivial),by (with_reducible repeat (first | apply Kd.R_alloc | apply Kd.R_drewN | apply Kd.R_drew));exact Kd.R_mono (Kd.R_far (p:=⟨gb777,13,none⟩) (Kd.R_far (p:=⟨gb777,12,none⟩) (rf12_ (Kd.R_types HO801.out BK777.out (by decide)) (fun _ hk=>hk.2)) (fun _ hk=>hk.2) (.int .i64 t815)) (fun _ hk=>hk.2) (.int .i64 t816)) (fun _ hk=>trivial),by (with_reducible repeat (first | apply Kd.R_alloc | apply Kd.R_drewN | apply Kd.R_drew));exact Kd.R_mono (Kd.R_far (p:=⟨gb777,13,none⟩) (Kd.R_far (p:=⟨gb777,12,none⟩) (rf12_ (Kd.R_types HO804.out BK777.out (by decide)) (fun _ hk=>hk.2)) (fun _ hk=>hk.2) (.int .i64 t815)) (fun _ hk=>hk.2) (.int .i64 t816)) (fun _ hk=>hk.1.1),by (with_reducible repeat (first | apply Kd.R_alloc | apply Kd.R_drewN | apply Kd.R_drew));exact Kd.R_mono (Kd.R_far (p:=⟨gb777,13,none⟩) (Kd.R_far (p:=⟨gb777,12,none⟩) (rf12_ (Kd.R_types HO810.out BK777.out (by decide)) (fun _ hk=>hk.2)) (fun _ hk=>hk.2) (.int .i64 t815)) (fun _ hk=>hk.2) (.int .i64 t816)) (fun _ hk=>hk.1.1),z8_ HB.out GE777.out GE794.out⟩


/-! ### Y37: function 42 -/
def Y37.f (a0:Int) (a1:Int) (a2:Int):Option (Bool):=if a1≤a0 then (some (decide (a0≤a2))) else (some false)
theorem Y37.calls (a0:Int) (a1:Int) (a2:Int) (r:Bool) (w:World) (h:Y37.f a0 a1 a2=some r) :
  Calls Tryz.prog 42 #[.int .i64 a0,.int .i64 a1,.int .i64 a2] w fun e w'=>e = .returned (.bool r)∧Drawn0 w w':=by
 have H:(if a1≤a0 then (some (decide (a0≤a2))) else (some false))=some r:=h
 clear h
 by_cases c4:a1≤a0
 ·rw [if_pos c4] at H
  have c4b0:decide (a1≤a0)=true:=dE c4
  clear c4
  obtain rfl:=sI H
  go_enter Tryz.func42,Tryz.ntmps42
  go_wp2
  go_ret
  exact ⟨z1_,z5_⟩
 ·rw [if_neg c4] at H
  have c4b0:decide (a1≤a0)=false:=dF c4
  clear c4
  obtain rfl:=sI H
  go_enter Tryz.func42,Tryz.ntmps42
  go_wp2
  go_ret
  exact ⟨z1_,z5_⟩


/-! ### Y76: function 38 -/
def Y76.f (a0:Int):Option (Bool):=(Y37.f a0 1 5).bind fun t228=>(some t228)
theorem Y76.calls (a0:Int) (r:Bool) (w:World) (h:Y76.f a0=some r) :
  Calls Tryz.prog 38 #[.int .i64 a0] w fun e w'=>e = .returned (.bool r)∧Drawn0 w w':=by
 have H:((Y37.f a0 1 5).bind fun t228=>(some t228))=some r:=h
 clear h
 replace H:=bS H
 obtain ⟨t228,A20,H⟩:=H
 replace H:(some t228)=some r:=H
 have A2:=aM A20
 clear A20
 obtain rfl:=sI H
 go_enter Tryz.func38,Tryz.ntmps38
 go_wp2_with (first | ((with_reducible refine gc_ 42 ?_);refine gl_ (some 4) Tryz.func42 #[.int .i64 a0,.int .i64 1,.int .i64 5] ?_;(with_reducible refine (Y37.calls a0 1 5 t228 _ A2.out).mono ?_);rintro e w' ⟨rfl,⟨nd,rfl⟩⟩;refine ⟨_,rfl,?_⟩))
 go_ret
 exact ⟨z1_,z5_⟩


/-! ### Y60: function 54 -/
def Y60.l0:Nat→ByteArray→Int→Int→Int→Option (Int)
 | 0,_,_,_,_=>none
 | k+1,x0,x3,x6,x7=>if x7<x6 then (if 0≤x7 then (if x7<(x0.size:Int) then (Y60.l0 k x0 (((Go.bits .xor .u32 x3 ((bt x0 x7) % 4294967296))*16777619) % 4294967296) x6 (wrap64 (x7+1))) else (none)) else (none)) else (some (wrap64 (x3)))
def Y60.f (k:Nat) (a0:ByteArray):Option (Int):=Y60.l0 k a0 2166136261 (a0.size:Int) 0
theorem Y60.mono_l:∀ k,(∀ y0 y1 y2 y3,LeO (Y60.l0 k y0 y1 y2 y3) (Y60.l0 (k+1) y0 y1 y2 y3))
 | 0=>by intros <;> exact LeO.none _
 | k+1=>by
  have ih0:=Y60.mono_l k
  ·intros
   unfold Y60.l0
   exact mO
theorem Y60.mono:∀ a0 k,LeO (Y60.f k a0) (Y60.f (k+1) a0):=by
 intro a0 k
 have ih0:=Y60.mono_l k
 unfold Y60.f
 exact mO
theorem Y60.calls (k:Nat) (a0:ByteArray) (r:Int) (w:World) (h:Y60.f k a0=some r) :
  Calls Tryz.prog 54 #[.string a0] w fun e w'=>e = .returned (.int .i64 r)∧Drawn0 w w':=by
 have H:(Y60.l0 k a0 2166136261 (a0.size:Int) 0)=some r:=h
 clear h
 have H':=aM H
 clear H
 go_enter Tryz.func54,Tryz.ntmps54
 go_wp2
 go_loopg [3,7] k (fun kq v3 v7 w'=>∃ (x3_1:Int) (x7_1:Int),v3 = .int .u32 x3_1∧v7 = .int .i64 x7_1∧Aside0 (Y60.l0 kq a0 x3_1 (a0.size:Int) x7_1=some r)∧Aside0 (kq≤k)∧Drawn0 w w')
 case atStart=>exact ⟨(2166136261),(0),(z1_),(z1_),H',⟨Nat.le_refl _⟩,z5_⟩
 case round =>
  clear H'
  obtain ⟨x3_1,x7_1,rfl,rfl,HA,HK1,⟨m1,rfl⟩⟩:=hrel
  cases gk with
  | zero=>exact absurd HA.out (by simp [Y60.l0])
  | succ k1 =>
   have H:=HA.out
   clear HA
   simp only [Y60.l0] at H
   by_cases c2:x7_1<(a0.size:Int)
   ·rw [if_pos c2] at H
    have c2b0:decide (x7_1<(a0.size:Int))=true:=dE c2
    clear c2
    by_cases c3:0≤x7_1
    ·rw [if_pos c3] at H
     have c3b0:decide (0≤x7_1)=true:=dE c3
     clear c3
     by_cases c4:x7_1<(a0.size:Int)
     ·rw [if_pos c4] at H
      have c4b0:decide (x7_1<(a0.size:Int))=true:=dE c4
      clear c4
      have H':=aM H
      clear H
      have p5:0≤(x7_1:Int):=dT (z2_)
      have q5:x7_1<(a0.size:Int):=dT (z2_)
      have hx5:=bt_at a0 x7_1
      replace p5:=eq_true p5
      replace q5:=eq_true q5
      go_wp2
      go_roundg k1
      case measure=>have:=HK1.out;omega
      case rel=>exact ⟨(((Go.bits .xor .u32 x3_1 ((bt a0 x7_1) % 4294967296))*16777619) % 4294967296),(wrap64 (x7_1+1)),(z1_),(z1_),H',⟨by have:=HK1.out;omega⟩,z5_⟩
     ·rw [if_neg c4] at H
      exact nO H
    ·rw [if_neg c3] at H
     exact nO H
   ·rw [if_neg c2] at H
    have c2b0:decide (x7_1<(a0.size:Int))=false:=dF c2
    clear c2
    obtain rfl:=sI H
    go_wp2
    go_ret
    exact ⟨z1_,z5_⟩


/-! ### Y80: function 148 -/
def Y80.f (a0:Int):Option (ByteArray):=if a0<10 then (if 0≤a0 then (if a0≤(wrap64 (a0+1)) then (if (wrap64 (a0+1))≤36 then (some ((⟨#[48,49,50,51,52,53,54,55,56,57,97,98,99,100,101,102,103,104,105,106,107,108,109,110,111,112,113,114,115,116,117,118,119,120,121,122]⟩:ByteArray).extract (a0:Int).toNat ((wrap64 (a0+1)):Int).toNat)) else (none)) else (none)) else (none)) else (if 0≤(wrap64 (a0*2)) then (if (wrap64 (a0*2))≤(wrap64 ((wrap64 (a0*2))+2)) then (if (wrap64 ((wrap64 (a0*2))+2))≤200 then (some ((⟨#[48,48,48,49,48,50,48,51,48,52,48,53,48,54,48,55,48,56,48,57,49,48,49,49,49,50,49,51,49,52,49,53,49,54,49,55,49,56,49,57,50,48,50,49,50,50,50,51,50,52,50,53,50,54,50,55,50,56,50,57,51,48,51,49,51,50,51,51,51,52,51,53,51,54,51,55,51,56,51,57,52,48,52,49,52,50,52,51,52,52,52,53,52,54,52,55,52,56,52,57,53,48,53,49,53,50,53,51,53,52,53,53,53,54,53,55,53,56,53,57,54,48,54,49,54,50,54,51,54,52,54,53,54,54,54,55,54,56,54,57,55,48,55,49,55,50,55,51,55,52,55,53,55,54,55,55,55,56,55,57,56,48,56,49,56,50,56,51,56,52,56,53,56,54,56,55,56,56,56,57,57,48,57,49,57,50,57,51,57,52,57,53,57,54,57,55,57,56,57,57]⟩:ByteArray).extract ((wrap64 (a0*2)):Int).toNat ((wrap64 ((wrap64 (a0*2))+2)):Int).toNat)) else (none)) else (none)) else (none))
theorem Y80.calls (a0:Int) (r:ByteArray) (w:World) (h:Y80.f a0=some r) :
  Calls Tryz.prog 148 #[.int .i64 a0] w fun e w'=>e = .returned (.string r)∧Drawn0 w w':=by
 have H:(if a0<10 then (if 0≤a0 then (if a0≤(wrap64 (a0+1)) then (if (wrap64 (a0+1))≤36 then (some ((⟨#[48,49,50,51,52,53,54,55,56,57,97,98,99,100,101,102,103,104,105,106,107,108,109,110,111,112,113,114,115,116,117,118,119,120,121,122]⟩:ByteArray).extract (a0:Int).toNat ((wrap64 (a0+1)):Int).toNat)) else (none)) else (none)) else (none)) else (if 0≤(wrap64 (a0*2)) then (if (wrap64 (a0*2))≤(wrap64 ((wrap64 (a0*2))+2)) then (if (wrap64 ((wrap64 (a0*2))+2))≤200 then (some ((⟨#[48,48,48,49,48,50,48,51,48,52,48,53,48,54,48,55,48,56,48,57,49,48,49,49,49,50,49,51,49,52,49,53,49,54,49,55,49,56,49,57,50,48,50,49,50,50,50,51,50,52,50,53,50,54,50,55,50,56,50,57,51,48,51,49,51,50,51,51,51,52,51,53,51,54,51,55,51,56,51,57,52,48,52,49,52,50,52,51,52,52,52,53,52,54,52,55,52,56,52,57,53,48,53,49,53,50,53,51,53,52,53,53,53,54,53,55,53,56,53,57,54,48,54,49,54,50,54,51,54,52,54,53,54,54,54,55,54,56,54,57,55,48,55,49,55,50,55,51,55,52,55,53,55,54,55,55,55,56,55,57,56,48,56,49,56,50,56,51,56,52,56,53,56,54,56,55,56,56,56,57,57,48,57,49,57,50,57,51,57,52,57,53,57,54,57,55,57,56,57,57]⟩:ByteArray).extract ((wrap64 (a0*2)):Int).toNat ((wrap64 ((wrap64 (a0*2))+2)):Int).toNat)) else (none)) else (none)) else (none)))=some r:=h
 clear h
 by_cases c2:a0<10
 ·rw [if_pos c2] at H
  have c2b0:decide (a0<10)=true:=dE c2
  clear c2
  by_cases c3:0≤a0
  ·rw [if_pos c3] at H
   have c3b0:=eq_true c3
   have c3b1:decide (0≤a0)=true:=dE c3
   clear c3
   by_cases c4:a0≤(wrap64 (a0+1))
   ·rw [if_pos c4] at H
    have c4b0:=eq_true c4
    have c4b1:decide (a0≤(wrap64 (a0+1)))=true:=dE c4
    by_cases c5:(wrap64 (a0+1))≤36
    ·rw [if_pos c5] at H
     have c5b0:=eq_true c5
     have c5b1:decide ((wrap64 (a0+1))≤36)=true:=dE c5
     obtain rfl:=sI H
     go_enter Tryz.func148,Tryz.ntmps148
     go_wp2
     go_ret
     exact ⟨z1_,z5_⟩
    ·rw [if_neg c5] at H
     exact nO H
   ·rw [if_neg c4] at H
    exact nO H
  ·rw [if_neg c3] at H
   exact nO H
 ·rw [if_neg c2] at H
  have c2b0:decide (a0<10)=false:=dF c2
  clear c2
  obtain ⟨ji6,hji6⟩:∃ j_:Int,(wrap64 (a0*2))=j_:=⟨_,rfl⟩
  replace H:(if 0≤(ji6) then (if (ji6)≤(wrap64 ((ji6)+2)) then (if (wrap64 ((ji6)+2))≤200 then (some ((⟨#[48,48,48,49,48,50,48,51,48,52,48,53,48,54,48,55,48,56,48,57,49,48,49,49,49,50,49,51,49,52,49,53,49,54,49,55,49,56,49,57,50,48,50,49,50,50,50,51,50,52,50,53,50,54,50,55,50,56,50,57,51,48,51,49,51,50,51,51,51,52,51,53,51,54,51,55,51,56,51,57,52,48,52,49,52,50,52,51,52,52,52,53,52,54,52,55,52,56,52,57,53,48,53,49,53,50,53,51,53,52,53,53,53,54,53,55,53,56,53,57,54,48,54,49,54,50,54,51,54,52,54,53,54,54,54,55,54,56,54,57,55,48,55,49,55,50,55,51,55,52,55,53,55,54,55,55,55,56,55,57,56,48,56,49,56,50,56,51,56,52,56,53,56,54,56,55,56,56,56,57,57,48,57,49,57,50,57,51,57,52,57,53,57,54,57,55,57,56,57,57]⟩:ByteArray).extract ((ji6):Int).toNat ((wrap64 ((ji6)+2)):Int).toNat)) else (none)) else (none)) else (none))=some r:=by first | (rw [hji6] at H;exact H) | (simp only [hji6] at H ⊢;exact H)
  have hji6w:(IntKind.i64.wrap (a0*2))=ji6:=(i64_w _).trans hji6
  by_cases c7:0≤(ji6)
  ·rw [if_pos c7] at H
   have c7b0:=eq_true c7
   have c7b1:decide (0≤(ji6))=true:=dE c7
   clear c7
   by_cases c8:(ji6)≤(wrap64 ((ji6)+2))
   ·rw [if_pos c8] at H
    have c8b0:=eq_true c8
    have c8b1:decide ((ji6)≤(wrap64 ((ji6)+2)))=true:=dE c8
    by_cases c9:(wrap64 ((ji6)+2))≤200
    ·rw [if_pos c9] at H
     have c9b0:=eq_true c9
     have c9b1:decide ((wrap64 ((ji6)+2))≤200)=true:=dE c9
     obtain rfl:=sI H
     go_enter Tryz.func148,Tryz.ntmps148
     go_wp2
     go_ret
     exact ⟨by first | rfl | (simp;done) | (simp only [← hji6] <;> (first | rfl | simp)) | (simp [*];done),z5_⟩
    ·rw [if_neg c9] at H
     exact nO H
   ·rw [if_neg c8] at H
    exact nO H
  ·rw [if_neg c7] at H
   exact nO H


/-! ### Y18: function 126 -/
def Y18.j0:Nat→Int→Bool→Option (ByteArray)
 | 0,_,_=>none
 | k+1,x0,x17=>if x17=true then ((Y80.f x0).bind fun t229=>(some t229)) else (none)
def Y18.f (k:Nat) (a0:Int) (a1:Int):Option (ByteArray):=if a1=10 then (if 0≤a0 then (Y18.j0 k a0 (decide (a0<100))) else (Y18.j0 k a0 false)) else (none)
theorem Y18.mono_l:∀ k,(∀ y0 y1,LeO (Y18.j0 k y0 y1) (Y18.j0 (k+1) y0 y1))
 | 0=>by intros <;> exact LeO.none _
 | k+1=>by
  have ih0:=Y18.mono_l k
  ·intros
   unfold Y18.j0
   exact mO
theorem Y18.mono:∀ a0 a1 k,LeO (Y18.f k a0 a1) (Y18.f (k+1) a0 a1):=by
 intro a0 a1 k
 have ih0:=Y18.mono_l k
 unfold Y18.f
 exact mO
theorem Y18.calls (k:Nat) (a0:Int) (a1:Int) (r:ByteArray) (w:World) (h:Y18.f k a0 a1=some r) :
  Calls Tryz.prog 126 #[.int .i64 a0,.int .i64 a1] w fun e w'=>e = .returned (.string r)∧Drawn0 w w':=by
 have H:(if a1=10 then (if 0≤a0 then (Y18.j0 k a0 (decide (a0<100))) else (Y18.j0 k a0 false)) else (none))=some r:=h
 clear h
 by_cases c3:a1=10
 ·rw [if_pos c3] at H
  have c3b0:(a1 == 10)=true:=beq_iff_eq.mpr c3
  have c3b1:(a1 != 10)=false:=bne_eq_false_iff_eq.mpr c3
  clear c3
  have HC4:=aM H
  clear H
  go_enter Tryz.func126,Tryz.ntmps126
  go_upto_region 2 with (fail)
  go_cut [17] (fun v17 wc=>∃ (kq:Nat) (x17_3:Bool),v17 = .bool x17_3∧Aside0 (Y18.j0 kq a0 x17_3=some r)∧Aside0 (kq≤k)∧Drawn0 w wc)
  case first =>
   have H:=HC4.out
   clear HC4
   by_cases c5:0≤a0
   ·rw [if_pos c5] at H
    have c5b0:decide (0≤a0)=true:=dE c5
    clear c5
    (first | rw [c5b0] | (simp only [i64_w,i32_w];rw [c5b0]) | skip)
    have H':=aM H
    clear H
    go_wp2
    go_meet
    case rel=>exact ⟨_,(decide (a0<100)),(z1_),H',⟨by first | omega | exact Nat.le_refl _⟩,z5_⟩
   ·rw [if_neg c5] at H
    have c5b0:decide (0≤a0)=false:=dF c5
    clear c5
    (first | rw [c5b0] | (simp only [i64_w,i32_w];rw [c5b0]) | skip)
    have H':=aM H
    clear H
    go_wp2
    go_meet
    case rel=>exact ⟨_,(false),(z1_),H',⟨by first | omega | exact Nat.le_refl _⟩,z5_⟩
  case rest =>
   clear HC4
   try clear c1
   try clear p2
   try clear c3
   try clear c3b0
   try clear c3b1
   try clear c5
   try clear c5b0
   obtain ⟨kq,x17_3,rfl,HA,HJ3,⟨mc3,rfl⟩⟩:=hcut
   cases kq with
   | zero=>exact absurd HA.out (by simp [Y18.j0])
   | succ kj3 =>
    have H:=HA.out
    clear HA
    simp only [Y18.j0] at H
    by_cases c6:x17_3=true
    ·subst c6
     have H1:((Y80.f a0).bind fun t229=>(some t229))=some r:=by rw [if_pos rfl] at H;exact H
     clear H
     have H:=H1
     clear H1
     replace H:=bS H
     obtain ⟨t229,A70,H⟩:=H
     replace H:(some t229)=some r:=H
     have A7:=aM A70
     clear A70
     obtain rfl:=sI H
     go_wp2_with (first | ((with_reducible refine gc_ 148 ?_);refine gl_ (some 19) Tryz.func148 #[.int .i64 a0] ?_;(with_reducible refine (Y80.calls a0 t229 _ A7.out).mono ?_);rintro e w' ⟨rfl,⟨nd,rfl⟩⟩;refine ⟨_,rfl,?_⟩))
     go_ret
     exact ⟨z1_,z5_⟩
    ·replace c6:=Bool.eq_false_iff.mpr c6
     subst c6
     have H1:(none)=some r:=by rw [if_neg (show ¬ (false=true) by decide)] at H;exact H
     clear H
     have H:=H1
     clear H1
     exact nO H
 ·rw [if_neg c3] at H
  exact nO H


/-! ### Y58: function 102 -/
def Y58.f (k:Nat) (a0:Int) (a1:Int):Option (ByteArray):=(Y18.f k a0 a1).bind fun t230=>(some t230)
theorem Y58.mono:∀ a0 a1 k,LeO (Y58.f k a0 a1) (Y58.f (k+1) a0 a1):=by
 intro a0 a1 k
 have m0:=@Y18.mono
 unfold Y58.f
 exact mO
theorem Y58.calls (k:Nat) (a0:Int) (a1:Int) (r:ByteArray) (w:World) (h:Y58.f k a0 a1=some r) :
  Calls Tryz.prog 102 #[.int .i64 a0,.int .i64 a1] w fun e w'=>e = .returned (.string r)∧Drawn0 w w':=by
 have H:((Y18.f k a0 a1).bind fun t230=>(some t230))=some r:=h
 clear h
 replace H:=bS H
 obtain ⟨t230,A30,H⟩:=H
 replace H:(some t230)=some r:=H
 have A3:=aM A30
 clear A30
 obtain rfl:=sI H
 go_enter Tryz.func102,Tryz.ntmps102
 go_wp2_with (first | ((with_reducible refine gc_ 126 ?_);refine gl_ (some 7) Tryz.func126 #[.int .i64 a0,.int .i64 a1] ?_;(with_reducible refine (Y18.calls k a0 a1 t230 _ A3.out).mono ?_);rintro e w' ⟨rfl,⟨nd,rfl⟩⟩;refine ⟨_,rfl,?_⟩))
 go_ret
 exact ⟨z1_,z5_⟩


/-! ### Y67: function 70 -/
def Y67.f (k:Nat) (a0:Int):Option (ByteArray):=(Y58.f k a0 10).bind fun t231=>(some t231)
theorem Y67.mono:∀ a0 k,LeO (Y67.f k a0) (Y67.f (k+1) a0):=by
 intro a0 k
 have m0:=@Y58.mono
 unfold Y67.f
 exact mO
theorem Y67.calls (k:Nat) (a0:Int) (r:ByteArray) (w:World) (h:Y67.f k a0=some r) :
  Calls Tryz.prog 70 #[.int .i64 a0] w fun e w'=>e = .returned (.string r)∧Drawn0 w w':=by
 have H:((Y58.f k a0 10).bind fun t231=>(some t231))=some r:=h
 clear h
 replace H:=bS H
 obtain ⟨t231,A20,H⟩:=H
 replace H:(some t231)=some r:=H
 have A2:=aM A20
 clear A20
 obtain rfl:=sI H
 go_enter Tryz.func70,Tryz.ntmps70
 go_wp2_with (first | ((with_reducible refine gc_ 102 ?_);refine gl_ (some 4) Tryz.func102 #[.int .i64 a0,.int .i64 10] ?_;(with_reducible refine (Y58.calls k a0 10 t231 _ A2.out).mono ?_);rintro e w' ⟨rfl,⟨nd,rfl⟩⟩;refine ⟨_,rfl,?_⟩))
 go_ret
 exact ⟨z1_,z5_⟩


/-! ### Y46: function 136 -/
mutual
def Y46.j0:Nat→Int→Int→Option (Int)
 | 0,_,_=>none
 | k+1,x0,x2=>if x0≥65536 then (Y46.j1 k (x0 / 65536) (wrap64 (x2+16))) else (Y46.j1 k x0 x2)
def Y46.j1:Nat→Int→Int→Option (Int)
 | 0,_,_=>none
 | k+1,x0,x2=>if x0≥256 then (if 0≤((x0 / 256) % 256) then (if ((x0 / 256) % 256)<256 then (some (wrap64 ((wrap64 (x2+8))+(wrap64 (bt (⟨#[0,1,2,2,3,3,3,3,4,4,4,4,4,4,4,4,5,5,5,5,5,5,5,5,5,5,5,5,5,5,5,5,6,6,6,6,6,6,6,6,6,6,6,6,6,6,6,6,6,6,6,6,6,6,6,6,6,6,6,6,6,6,6,6,7,7,7,7,7,7,7,7,7,7,7,7,7,7,7,7,7,7,7,7,7,7,7,7,7,7,7,7,7,7,7,7,7,7,7,7,7,7,7,7,7,7,7,7,7,7,7,7,7,7,7,7,7,7,7,7,7,7,7,7,7,7,7,7,8,8,8,8,8,8,8,8,8,8,8,8,8,8,8,8,8,8,8,8,8,8,8,8,8,8,8,8,8,8,8,8,8,8,8,8,8,8,8,8,8,8,8,8,8,8,8,8,8,8,8,8,8,8,8,8,8,8,8,8,8,8,8,8,8,8,8,8,8,8,8,8,8,8,8,8,8,8,8,8,8,8,8,8,8,8,8,8,8,8,8,8,8,8,8,8,8,8,8,8,8,8,8,8,8,8,8,8,8,8,8,8,8,8,8,8,8,8,8,8,8,8,8,8,8,8,8,8]⟩:ByteArray) ((x0 / 256) % 256)))))) else (none)) else (none)) else (if 0≤((x0) % 256) then (if ((x0) % 256)<256 then (some (wrap64 (x2+(wrap64 (bt (⟨#[0,1,2,2,3,3,3,3,4,4,4,4,4,4,4,4,5,5,5,5,5,5,5,5,5,5,5,5,5,5,5,5,6,6,6,6,6,6,6,6,6,6,6,6,6,6,6,6,6,6,6,6,6,6,6,6,6,6,6,6,6,6,6,6,7,7,7,7,7,7,7,7,7,7,7,7,7,7,7,7,7,7,7,7,7,7,7,7,7,7,7,7,7,7,7,7,7,7,7,7,7,7,7,7,7,7,7,7,7,7,7,7,7,7,7,7,7,7,7,7,7,7,7,7,7,7,7,7,8,8,8,8,8,8,8,8,8,8,8,8,8,8,8,8,8,8,8,8,8,8,8,8,8,8,8,8,8,8,8,8,8,8,8,8,8,8,8,8,8,8,8,8,8,8,8,8,8,8,8,8,8,8,8,8,8,8,8,8,8,8,8,8,8,8,8,8,8,8,8,8,8,8,8,8,8,8,8,8,8,8,8,8,8,8,8,8,8,8,8,8,8,8,8,8,8,8,8,8,8,8,8,8,8,8,8,8,8,8,8,8,8,8,8,8,8,8,8,8,8,8,8,8,8,8,8,8]⟩:ByteArray) ((x0) % 256)))))) else (none)) else (none))
end
def Y46.f (k:Nat) (a0:Int):Option (Int):=if a0≥4294967296 then (Y46.j0 k (a0 / 4294967296) 32) else (Y46.j0 k a0 0)
theorem Y46.mono_l:∀ k,(∀ y0 y1,LeO (Y46.j0 k y0 y1) (Y46.j0 (k+1) y0 y1))∧(∀ y0 y1,LeO (Y46.j1 k y0 y1) (Y46.j1 (k+1) y0 y1))
 | 0=>by refine ⟨?_,?_⟩ <;> intros <;> exact LeO.none _
 | k+1=>by
  obtain ⟨ih0,ih1⟩:=Y46.mono_l k
  refine ⟨?_,?_⟩
  ·intros
   unfold Y46.j0
   exact mO
  ·intros
   unfold Y46.j1
   exact mO
theorem Y46.mono:∀ a0 k,LeO (Y46.f k a0) (Y46.f (k+1) a0):=by
 intro a0 k
 obtain ⟨ih0,ih1⟩:=Y46.mono_l k
 unfold Y46.f
 exact mO
theorem Y46.calls (k:Nat) (a0:Int) (r:Int) (w:World) (h:Y46.f k a0=some r) :
  Calls Tryz.prog 136 #[.int .u64 a0] w fun e w'=>e = .returned (.int .i64 r)∧Drawn0 w w':=by
 have H:(if a0≥4294967296 then (Y46.j0 k (a0 / 4294967296) 32) else (Y46.j0 k a0 0))=some r:=h
 clear h
 have HC2:=aM H
 clear H
 go_enter Tryz.func136,Tryz.ntmps136
 go_upto_if 4 with (fail)
 go_cut [0,2] (fun v0 v2 wc=>∃ (kq:Nat) (x0_1:Int) (x2_1:Int),v0 = .int .u64 x0_1∧v2 = .int .i64 x2_1∧Aside0 (Y46.j0 kq x0_1 x2_1=some r)∧Aside0 (kq≤k)∧Drawn0 w wc)
 case first =>
  have H:=HC2.out
  clear HC2
  by_cases c3:a0≥4294967296
  ·rw [if_pos c3] at H
   have c3b0:decide (4294967296≤a0)=true:=dE c3
   clear c3
   (first | rw [c3b0] | (simp only [i64_w,i32_w];rw [c3b0]) | skip)
   have H':=aM H
   clear H
   go_wp2
   go_meet
   case rel=>exact ⟨_,(a0 / 4294967296),(32),(z1_),(z1_),H',⟨by first | omega | exact Nat.le_refl _⟩,z5_⟩
  ·rw [if_neg c3] at H
   have c3b0:decide (4294967296≤a0)=false:=dF c3
   clear c3
   (first | rw [c3b0] | (simp only [i64_w,i32_w];rw [c3b0]) | skip)
   have H':=aM H
   clear H
   go_wp2
   go_meet
   case rel=>exact ⟨_,(a0),(0),(z1_),(z1_),H',⟨by first | omega | exact Nat.le_refl _⟩,z5_⟩
 case rest =>
  clear HC2
  try clear c1
  try clear p2
  try clear c3
  try clear c3b0
  obtain ⟨kq,x0_1,x2_1,rfl,rfl,HA,HJ1,⟨mc1,rfl⟩⟩:=hcut
  cases kq with
  | zero=>exact absurd HA.out (by simp [Y46.j0])
  | succ kj1 =>
   have H:=HA.out
   clear HA
   simp only [Y46.j0] at H
   have HC4:=aM H
   clear H
   go_upto_if 8 with (fail)
   go_cut [0,2] (fun v0 v2 wc=>∃ (kq:Nat) (x0_3:Int) (x2_3:Int),v0 = .int .u64 x0_3∧v2 = .int .i64 x2_3∧Aside0 (Y46.j1 kq x0_3 x2_3=some r)∧Aside0 (kq≤kj1)∧Drawn0 w wc)
   case first =>
    have H:=HC4.out
    clear HC4
    by_cases c5:x0_1≥65536
    ·rw [if_pos c5] at H
     have c5b0:decide (65536≤x0_1)=true:=dE c5
     clear c5
     (first | rw [c5b0] | (simp only [i64_w,i32_w];rw [c5b0]) | skip)
     have H':=aM H
     clear H
     go_wp2
     go_meet
     case rel=>exact ⟨_,(x0_1 / 65536),(wrap64 (x2_1+16)),(z1_),(z1_),H',⟨by have:=HJ1.out;first | omega | exact Nat.le_refl _⟩,z5_⟩
    ·rw [if_neg c5] at H
     have c5b0:decide (65536≤x0_1)=false:=dF c5
     clear c5
     (first | rw [c5b0] | (simp only [i64_w,i32_w];rw [c5b0]) | skip)
     have H':=aM H
     clear H
     go_wp2
     go_meet
     case rel=>exact ⟨_,(x0_1),(x2_1),(z1_),(z1_),H',⟨by have:=HJ1.out;first | omega | exact Nat.le_refl _⟩,z5_⟩
   case rest =>
    clear HC4
    try clear c1
    try clear p2
    try clear c3
    try clear c3b0
    try clear c5
    try clear c5b0
    try clear p2
    obtain ⟨kq,x0_3,x2_3,rfl,rfl,HA,HJ3,⟨mc3,rfl⟩⟩:=hcut
    cases kq with
    | zero=>exact absurd HA.out (by simp [Y46.j1])
    | succ kj3 =>
     have H:=HA.out
     clear HA
     simp only [Y46.j1] at H
     by_cases c6:x0_3≥256
     ·rw [if_pos c6] at H
      have c6b0:decide (256≤x0_3)=true:=dE c6
      clear c6
      obtain ⟨ji7,hji7⟩:∃ j_:Int,((x0_3 / 256) % 256)=j_:=⟨_,rfl⟩
      replace H:(if 0≤(ji7) then (if (ji7)<256 then (some (wrap64 ((wrap64 (x2_3+8))+(wrap64 (bt (⟨#[0,1,2,2,3,3,3,3,4,4,4,4,4,4,4,4,5,5,5,5,5,5,5,5,5,5,5,5,5,5,5,5,6,6,6,6,6,6,6,6,6,6,6,6,6,6,6,6,6,6,6,6,6,6,6,6,6,6,6,6,6,6,6,6,7,7,7,7,7,7,7,7,7,7,7,7,7,7,7,7,7,7,7,7,7,7,7,7,7,7,7,7,7,7,7,7,7,7,7,7,7,7,7,7,7,7,7,7,7,7,7,7,7,7,7,7,7,7,7,7,7,7,7,7,7,7,7,7,8,8,8,8,8,8,8,8,8,8,8,8,8,8,8,8,8,8,8,8,8,8,8,8,8,8,8,8,8,8,8,8,8,8,8,8,8,8,8,8,8,8,8,8,8,8,8,8,8,8,8,8,8,8,8,8,8,8,8,8,8,8,8,8,8,8,8,8,8,8,8,8,8,8,8,8,8,8,8,8,8,8,8,8,8,8,8,8,8,8,8,8,8,8,8,8,8,8,8,8,8,8,8,8,8,8,8,8,8,8,8,8,8,8,8,8,8,8,8,8,8,8,8,8,8,8,8,8]⟩:ByteArray) (ji7)))))) else (none)) else (none))=some r:=by first | (rw [hji7] at H;exact H) | (simp only [hji7] at H ⊢;exact H)
      by_cases c8:0≤(ji7)
      ·rw [if_pos c8] at H
       have c8b0:decide (0≤(ji7))=true:=dE c8
       clear c8
       by_cases c9:(ji7)<256
       ·rw [if_pos c9] at H
        have c9b0:decide ((ji7)<256)=true:=dE c9
        clear c9
        obtain rfl:=sI H
        have p10:0≤((ji7):Int):=dT (z2_)
        have q10:(ji7)<(256:Int):=dT (z2_)
        have hx10:=bt_at (⟨#[0,1,2,2,3,3,3,3,4,4,4,4,4,4,4,4,5,5,5,5,5,5,5,5,5,5,5,5,5,5,5,5,6,6,6,6,6,6,6,6,6,6,6,6,6,6,6,6,6,6,6,6,6,6,6,6,6,6,6,6,6,6,6,6,7,7,7,7,7,7,7,7,7,7,7,7,7,7,7,7,7,7,7,7,7,7,7,7,7,7,7,7,7,7,7,7,7,7,7,7,7,7,7,7,7,7,7,7,7,7,7,7,7,7,7,7,7,7,7,7,7,7,7,7,7,7,7,7,8,8,8,8,8,8,8,8,8,8,8,8,8,8,8,8,8,8,8,8,8,8,8,8,8,8,8,8,8,8,8,8,8,8,8,8,8,8,8,8,8,8,8,8,8,8,8,8,8,8,8,8,8,8,8,8,8,8,8,8,8,8,8,8,8,8,8,8,8,8,8,8,8,8,8,8,8,8,8,8,8,8,8,8,8,8,8,8,8,8,8,8,8,8,8,8,8,8,8,8,8,8,8,8,8,8,8,8,8,8,8,8,8,8,8,8,8,8,8,8,8,8,8,8,8,8,8,8]⟩:ByteArray) (ji7)
        replace p10:=eq_true p10
        replace q10:=eq_true q10
        go_wp2
        go_ret
        exact ⟨by first | rfl | (simp;done) | (simp only [← hji7] <;> (first | rfl | simp)) | (simp [*];done),z5_⟩
       ·rw [if_neg c9] at H
        exact nO H
      ·rw [if_neg c8] at H
       exact nO H
     ·rw [if_neg c6] at H
      have c6b0:decide (256≤x0_3)=false:=dF c6
      clear c6
      obtain ⟨ji11,hji11⟩:∃ j_:Int,((x0_3) % 256)=j_:=⟨_,rfl⟩
      replace H:(if 0≤(ji11) then (if (ji11)<256 then (some (wrap64 (x2_3+(wrap64 (bt (⟨#[0,1,2,2,3,3,3,3,4,4,4,4,4,4,4,4,5,5,5,5,5,5,5,5,5,5,5,5,5,5,5,5,6,6,6,6,6,6,6,6,6,6,6,6,6,6,6,6,6,6,6,6,6,6,6,6,6,6,6,6,6,6,6,6,7,7,7,7,7,7,7,7,7,7,7,7,7,7,7,7,7,7,7,7,7,7,7,7,7,7,7,7,7,7,7,7,7,7,7,7,7,7,7,7,7,7,7,7,7,7,7,7,7,7,7,7,7,7,7,7,7,7,7,7,7,7,7,7,8,8,8,8,8,8,8,8,8,8,8,8,8,8,8,8,8,8,8,8,8,8,8,8,8,8,8,8,8,8,8,8,8,8,8,8,8,8,8,8,8,8,8,8,8,8,8,8,8,8,8,8,8,8,8,8,8,8,8,8,8,8,8,8,8,8,8,8,8,8,8,8,8,8,8,8,8,8,8,8,8,8,8,8,8,8,8,8,8,8,8,8,8,8,8,8,8,8,8,8,8,8,8,8,8,8,8,8,8,8,8,8,8,8,8,8,8,8,8,8,8,8,8,8,8,8,8,8]⟩:ByteArray) (ji11)))))) else (none)) else (none))=some r:=by first | (rw [hji11] at H;exact H) | (simp only [hji11] at H ⊢;exact H)
      by_cases c12:0≤(ji11)
      ·rw [if_pos c12] at H
       have c12b0:decide (0≤(ji11))=true:=dE c12
       clear c12
       by_cases c13:(ji11)<256
       ·rw [if_pos c13] at H
        have c13b0:decide ((ji11)<256)=true:=dE c13
        clear c13
        obtain rfl:=sI H
        have p14:0≤((ji11):Int):=dT (z2_)
        have q14:(ji11)<(256:Int):=dT (z2_)
        have hx14:=bt_at (⟨#[0,1,2,2,3,3,3,3,4,4,4,4,4,4,4,4,5,5,5,5,5,5,5,5,5,5,5,5,5,5,5,5,6,6,6,6,6,6,6,6,6,6,6,6,6,6,6,6,6,6,6,6,6,6,6,6,6,6,6,6,6,6,6,6,7,7,7,7,7,7,7,7,7,7,7,7,7,7,7,7,7,7,7,7,7,7,7,7,7,7,7,7,7,7,7,7,7,7,7,7,7,7,7,7,7,7,7,7,7,7,7,7,7,7,7,7,7,7,7,7,7,7,7,7,7,7,7,7,8,8,8,8,8,8,8,8,8,8,8,8,8,8,8,8,8,8,8,8,8,8,8,8,8,8,8,8,8,8,8,8,8,8,8,8,8,8,8,8,8,8,8,8,8,8,8,8,8,8,8,8,8,8,8,8,8,8,8,8,8,8,8,8,8,8,8,8,8,8,8,8,8,8,8,8,8,8,8,8,8,8,8,8,8,8,8,8,8,8,8,8,8,8,8,8,8,8,8,8,8,8,8,8,8,8,8,8,8,8,8,8,8,8,8,8,8,8,8,8,8,8,8,8,8,8,8,8]⟩:ByteArray) (ji11)
        replace p14:=eq_true p14
        replace q14:=eq_true q14
        go_wp2
        go_ret
        exact ⟨by first | rfl | (simp;done) | (simp only [← hji11] <;> (first | rfl | simp)) | (simp [*];done),z5_⟩
       ·rw [if_neg c13] at H
        exact nO H
      ·rw [if_neg c12] at H
       exact nO H


/-! ### Y78: function 104 -/
def Y78.f (k:Nat) (a0:Int):Option (Int):=(Y46.f k a0).bind fun t232=>(some t232)
theorem Y78.mono:∀ a0 k,LeO (Y78.f k a0) (Y78.f (k+1) a0):=by
 intro a0 k
 have m0:=@Y46.mono
 unfold Y78.f
 exact mO
theorem Y78.calls (k:Nat) (a0:Int) (r:Int) (w:World) (h:Y78.f k a0=some r) :
  Calls Tryz.prog 104 #[.int .u64 a0] w fun e w'=>e = .returned (.int .i64 r)∧Drawn0 w w':=by
 have H:((Y46.f k a0).bind fun t232=>(some t232))=some r:=h
 clear h
 replace H:=bS H
 obtain ⟨t232,A20,H⟩:=H
 replace H:(some t232)=some r:=H
 have A2:=aM A20
 clear A20
 obtain rfl:=sI H
 go_enter Tryz.func104,Tryz.ntmps104
 go_wp2_with (first | ((with_reducible refine gc_ 136 ?_);refine gl_ (some 7) Tryz.func136 #[.int .u64 a0] ?_;(with_reducible refine (Y46.calls k a0 t232 _ A2.out).mono ?_);rintro e w' ⟨rfl,⟨nd,rfl⟩⟩;refine ⟨_,rfl,?_⟩))
 go_ret
 exact ⟨z1_,z5_⟩


/-! ### Y56: function 73 -/
def Y56.l0:Nat→Int→List Int→Int→Int→Option (Int)
 | 0,_,_,_,_=>none
 | k+1,x3,x6,x7,x8=>if x8<x7 then (if 0≤x8 then (if x8<(x6.length:Int) then (if (rd x6 x8)=x3 then (Y56.l0 k x3 x6 x7 (wrap64 (x8+1))) else (some (rd x6 x8))) else (none)) else (none)) else (some x3)
def Y56.f (k:Nat) (l0:List Int):Option (Int):=Y56.l0 k 0 l0 (l0.length:Int) 0
theorem Y56.mono_l:∀ k,(∀ y0 y1 y2 y3,LeO (Y56.l0 k y0 y1 y2 y3) (Y56.l0 (k+1) y0 y1 y2 y3))
 | 0=>by intros <;> exact LeO.none _
 | k+1=>by
  have ih0:=Y56.mono_l k
  ·intros
   unfold Y56.l0
   exact mO
theorem Y56.mono:∀ a0 k,LeO (Y56.f k a0) (Y56.f (k+1) a0):=by
 intro a0 k
 have ih0:=Y56.mono_l k
 unfold Y56.f
 exact mO
theorem Y56.calls (k:Nat) (A0:Option Addr) (c0:Nat) (l0:List Int) (r:Int) (w:World) (hr0:Kd.C (Kd.int .i64) w A0 l0.length l0) (hc0:l0.length≤c0) (h:Y56.f k l0=some r) :
  Calls Tryz.prog 73 #[.slice A0 l0.length c0] w fun e w'=>e = .returned (.int .i64 r)∧Drawn0 w w':=by
 have HR0:=aM hr0
 have HC0:=aM hc0
 clear hr0 hc0
 have H:(Y56.l0 k 0 l0 (l0.length:Int) 0)=some r:=h
 clear h
 have H':=aM H
 clear H
 go_enter Tryz.func73,Tryz.ntmps73
 go_wp2
 go_loopg [8] k (fun kq v8 w'=>∃ (x8_1:Int),v8 = .int .i64 x8_1∧Aside0 (Y56.l0 kq 0 l0 (l0.length:Int) x8_1=some r)∧Aside0 (kq≤k)∧Drawn0 w w')
 case atStart=>exact ⟨(0),(z1_),H',⟨Nat.le_refl _⟩,z5_⟩
 case round =>
  clear H'
  obtain ⟨x8_1,rfl,HA,HK1,⟨m1,rfl⟩⟩:=hrel
  cases gk with
  | zero=>exact absurd HA.out (by simp [Y56.l0])
  | succ k1 =>
   have H:=HA.out
   clear HA
   simp only [Y56.l0] at H
   by_cases c2:x8_1<(l0.length:Int)
   ·rw [if_pos c2] at H
    have c2b0:decide (x8_1<(l0.length:Int))=true:=dE c2
    clear c2
    by_cases c3:0≤x8_1
    ·rw [if_pos c3] at H
     have c3b0:decide (0≤x8_1)=true:=dE c3
     clear c3
     by_cases c4:x8_1<(l0.length:Int)
     ·rw [if_pos c4] at H
      have c4b0:decide (x8_1<(l0.length:Int))=true:=dE c4
      clear c4
      by_cases c5:(rd l0 x8_1)=0
      ·rw [if_pos c5] at H
       have c5b0:((rd l0 x8_1) == 0)=true:=beq_iff_eq.mpr c5
       have c5b1:((rd l0 x8_1) != 0)=false:=bne_eq_false_iff_eq.mpr c5
       clear c5
       have H':=aM H
       clear H
       have p233:0≤(x8_1:Int):=dT (z2_)
       have q233:x8_1<(l0.length:Int):=dT (z2_)
       obtain ⟨ad233,e233,hx233_0⟩:=Kd.at_int HR0.out x8_1 p233 q233
       cases e233
       replace p233:=eq_true p233
       replace q233:=eq_true q233
       go_wp2
       go_roundg k1
       case measure=>have:=HK1.out;omega
       case rel=>exact ⟨(wrap64 (x8_1+1)),(z1_),H',⟨by have:=HK1.out;omega⟩,z5_⟩
      ·rw [if_neg c5] at H
       have c5b0:((rd l0 x8_1) == 0)=false:=beq_eq_false_iff_ne.mpr c5
       have c5b1:((rd l0 x8_1) != 0)=true:=bne_iff_ne.mpr c5
       obtain rfl:=sI H
       have p233:0≤(x8_1:Int):=dT (z2_)
       have q233:x8_1<(l0.length:Int):=dT (z2_)
       obtain ⟨ad233,e233,hx233_0⟩:=Kd.at_int HR0.out x8_1 p233 q233
       cases e233
       replace p233:=eq_true p233
       replace q233:=eq_true q233
       go_wp2
       go_ret
       exact ⟨z1_,z5_⟩
     ·rw [if_neg c4] at H
      exact nO H
    ·rw [if_neg c3] at H
     exact nO H
   ·rw [if_neg c2] at H
    have c2b0:decide (x8_1<(l0.length:Int))=false:=dF c2
    clear c2
    obtain rfl:=sI H
    go_wp2
    go_ret
    exact ⟨z1_,z5_⟩


/-! ### Y52: function 105 -/
def Y52.f (a0:Int):Option (Bool):=some (a0 != a0)
theorem Y52.calls (a0:Int) (r:Bool) (w:World) (h:Y52.f a0=some r) :
  Calls Tryz.prog 105 #[.int .i64 a0] w fun e w'=>e = .returned (.bool r)∧Drawn0 w w':=by
 have H:(some (a0 != a0))=some r:=h
 clear h
 obtain rfl:=sI H
 go_enter Tryz.func105,Tryz.ntmps105
 go_wp2
 go_ret
 exact ⟨z1_,z5_⟩


/-! ### Y63: function 74 -/
def Y63.f (a0:Int) (a1:Int):Option (Int):=(Y52.f a0).bind fun t234=>((Y52.f a1).bind fun t235=>(if t234=true then (if t235=true then (some 0) else (some (-1))) else (if t235=true then (some 1) else (if a0<a1 then (some (-1)) else (if a0>a1 then (some 1) else (some 0))))))
theorem Y63.calls (a0:Int) (a1:Int) (r:Int) (w:World) (h:Y63.f a0 a1=some r) :
  Calls Tryz.prog 74 #[.int .i64 a0,.int .i64 a1] w fun e w'=>e = .returned (.int .i64 r)∧Drawn0 w w':=by
 have H:((Y52.f a0).bind fun t234=>((Y52.f a1).bind fun t235=>(if t234=true then (if t235=true then (some 0) else (some (-1))) else (if t235=true then (some 1) else (if a0<a1 then (some (-1)) else (if a0>a1 then (some 1) else (some 0)))))))=some r:=h
 clear h
 replace H:=bS H
 obtain ⟨t234,A30,H⟩:=H
 replace H:((Y52.f a1).bind fun t235=>(if t234=true then (if t235=true then (some 0) else (some (-1))) else (if t235=true then (some 1) else (if a0<a1 then (some (-1)) else (if a0>a1 then (some 1) else (some 0))))))=some r:=H
 have A3:=aM A30
 clear A30
 replace H:=bS H
 obtain ⟨t235,A40,H⟩:=H
 replace H:(if t234=true then (if t235=true then (some 0) else (some (-1))) else (if t235=true then (some 1) else (if a0<a1 then (some (-1)) else (if a0>a1 then (some 1) else (some 0)))))=some r:=H
 have A4:=aM A40
 clear A40
 by_cases c5:t234=true
 ·subst c5
  have H1:(if t235=true then (some 0) else (some (-1)))=some r:=by rw [if_pos rfl] at H;exact H
  clear H
  have H:=H1
  clear H1
  by_cases c6:t235=true
  ·subst c6
   have H1:(some 0)=some r:=by rw [if_pos rfl] at H;exact H
   clear H
   have H:=H1
   clear H1
   obtain rfl:=sI H
   go_enter Tryz.func74,Tryz.ntmps74
   go_wp2_with (first | ((with_reducible refine gc_ 105 ?_);refine gl_ (some 8) Tryz.func105 #[.int .i64 a0] ?_;(with_reducible refine (Y52.calls a0 true _ A3.out).mono ?_);rintro e w' ⟨rfl,⟨nd,rfl⟩⟩;refine ⟨_,rfl,?_⟩) | ((with_reducible refine gc_ 105 ?_);refine gl_ (some 10) Tryz.func105 #[.int .i64 a1] ?_;(with_reducible refine (Y52.calls a1 true _ A4.out).mono ?_);rintro e w' ⟨rfl,⟨nd,rfl⟩⟩;refine ⟨_,rfl,?_⟩))
   go_ret
   exact ⟨z1_,z5_⟩
  ·replace c6:=Bool.eq_false_iff.mpr c6
   subst c6
   have H1:(some (-1))=some r:=by rw [if_neg (show ¬ (false=true) by decide)] at H;exact H
   clear H
   have H:=H1
   clear H1
   obtain rfl:=sI H
   go_enter Tryz.func74,Tryz.ntmps74
   go_wp2_with (first | ((with_reducible refine gc_ 105 ?_);refine gl_ (some 8) Tryz.func105 #[.int .i64 a0] ?_;(with_reducible refine (Y52.calls a0 true _ A3.out).mono ?_);rintro e w' ⟨rfl,⟨nd,rfl⟩⟩;refine ⟨_,rfl,?_⟩) | ((with_reducible refine gc_ 105 ?_);refine gl_ (some 10) Tryz.func105 #[.int .i64 a1] ?_;(with_reducible refine (Y52.calls a1 false _ A4.out).mono ?_);rintro e w' ⟨rfl,⟨nd,rfl⟩⟩;refine ⟨_,rfl,?_⟩))
   go_ret
   exact ⟨z1_,z5_⟩
 ·replace c5:=Bool.eq_false_iff.mpr c5
  subst c5
  have H1:(if t235=true then (some 1) else (if a0<a1 then (some (-1)) else (if a0>a1 then (some 1) else (some 0))))=some r:=by rw [if_neg (show ¬ (false=true) by decide)] at H;exact H
  clear H
  have H:=H1
  clear H1
  by_cases c7:t235=true
  ·subst c7
   have H1:(some 1)=some r:=by rw [if_pos rfl] at H;exact H
   clear H
   have H:=H1
   clear H1
   obtain rfl:=sI H
   go_enter Tryz.func74,Tryz.ntmps74
   go_wp2_with (first | ((with_reducible refine gc_ 105 ?_);refine gl_ (some 8) Tryz.func105 #[.int .i64 a0] ?_;(with_reducible refine (Y52.calls a0 false _ A3.out).mono ?_);rintro e w' ⟨rfl,⟨nd,rfl⟩⟩;refine ⟨_,rfl,?_⟩) | ((with_reducible refine gc_ 105 ?_);refine gl_ (some 10) Tryz.func105 #[.int .i64 a1] ?_;(with_reducible refine (Y52.calls a1 true _ A4.out).mono ?_);rintro e w' ⟨rfl,⟨nd,rfl⟩⟩;refine ⟨_,rfl,?_⟩))
   go_ret
   exact ⟨z1_,z5_⟩
  ·replace c7:=Bool.eq_false_iff.mpr c7
   subst c7
   have H1:(if a0<a1 then (some (-1)) else (if a0>a1 then (some 1) else (some 0)))=some r:=by rw [if_neg (show ¬ (false=true) by decide)] at H;exact H
   clear H
   have H:=H1
   clear H1
   by_cases c8:a0<a1
   ·rw [if_pos c8] at H
    have c8b0:decide (a0<a1)=true:=dE c8
    clear c8
    obtain rfl:=sI H
    go_enter Tryz.func74,Tryz.ntmps74
    go_wp2_with (first | ((with_reducible refine gc_ 105 ?_);refine gl_ (some 8) Tryz.func105 #[.int .i64 a0] ?_;(with_reducible refine (Y52.calls a0 false _ A3.out).mono ?_);rintro e w' ⟨rfl,⟨nd,rfl⟩⟩;refine ⟨_,rfl,?_⟩) | ((with_reducible refine gc_ 105 ?_);refine gl_ (some 10) Tryz.func105 #[.int .i64 a1] ?_;(with_reducible refine (Y52.calls a1 false _ A4.out).mono ?_);rintro e w' ⟨rfl,⟨nd,rfl⟩⟩;refine ⟨_,rfl,?_⟩))
    go_ret
    exact ⟨z1_,z5_⟩
   ·rw [if_neg c8] at H
    have c8b0:decide (a0<a1)=false:=dF c8
    clear c8
    by_cases c9:a0>a1
    ·rw [if_pos c9] at H
     have c9b0:decide (a1<a0)=true:=dE c9
     clear c9
     obtain rfl:=sI H
     go_enter Tryz.func74,Tryz.ntmps74
     go_wp2_with (first | ((with_reducible refine gc_ 105 ?_);refine gl_ (some 8) Tryz.func105 #[.int .i64 a0] ?_;(with_reducible refine (Y52.calls a0 false _ A3.out).mono ?_);rintro e w' ⟨rfl,⟨nd,rfl⟩⟩;refine ⟨_,rfl,?_⟩) | ((with_reducible refine gc_ 105 ?_);refine gl_ (some 10) Tryz.func105 #[.int .i64 a1] ?_;(with_reducible refine (Y52.calls a1 false _ A4.out).mono ?_);rintro e w' ⟨rfl,⟨nd,rfl⟩⟩;refine ⟨_,rfl,?_⟩))
     go_ret
     exact ⟨z1_,z5_⟩
    ·rw [if_neg c9] at H
     have c9b0:decide (a1<a0)=false:=dF c9
     clear c9
     obtain rfl:=sI H
     go_enter Tryz.func74,Tryz.ntmps74
     go_wp2_with (first | ((with_reducible refine gc_ 105 ?_);refine gl_ (some 8) Tryz.func105 #[.int .i64 a0] ?_;(with_reducible refine (Y52.calls a0 false _ A3.out).mono ?_);rintro e w' ⟨rfl,⟨nd,rfl⟩⟩;refine ⟨_,rfl,?_⟩) | ((with_reducible refine gc_ 105 ?_);refine gl_ (some 10) Tryz.func105 #[.int .i64 a1] ?_;(with_reducible refine (Y52.calls a1 false _ A4.out).mono ?_);rintro e w' ⟨rfl,⟨nd,rfl⟩⟩;refine ⟨_,rfl,?_⟩))
     go_ret
     exact ⟨z1_,z5_⟩


/-! ### Y14: function 72 -/
def Y14.f (k:Nat) (a0_0:Int) (a0_1:Int) (a1_0:Int) (a1_1:Int):Option (Int):=(Y63.f a0_0 a1_0).bind fun t238=>((Y63.f a0_1 a1_1).bind fun t239=>((Y56.f k (([t238,t239]:List Int))).bind fun t243=>(some t243)))
theorem Y14.mono:∀ a0 a1 a2 a3 k,LeO (Y14.f k a0 a1 a2 a3) (Y14.f (k+1) a0 a1 a2 a3):=by
 intro a0 a1 a2 a3 k
 have m0:=@Y56.mono
 unfold Y14.f
 exact mO
def Y14.T1:Bool × List (List Nat × List Nat):=(true,[([],[]),([0],[0]),([],[]),([2],[2]),([1,3],[1,3]),([],[]),([5],[5]),([],[]),([7],[7]),([6,8,4],[6,8]),([4,9],[4,9]),([10,9],[10]),([11,11,0,1,2,3,4,5,6,7,8,9,10,11],[11])])
def Y14.B1:List Nat:=[0,1,0,4,15,0,32,0,128,511,1023,2047,4095]
theorem Y14.tab1:rtab .any (opsOf Tryz.f72 1)=Y14.T1:=by kernel_rfl
theorem Y14.bits1:waitsOk Y14.T1.2 Y14.B1=true:=by kernel_rfl
theorem Y14.calls (k:Nat) (a0_0:Int) (a0_1:Int) (a1_0:Int) (a1_1:Int) (r:Int) (w:World) (h:Y14.f k a0_0 a0_1 a1_0 a1_1=some r) :
  Calls Tryz.prog 72 #[.agg #[.int .i64 a0_0,.int .i64 a0_1],.agg #[.int .i64 a1_0,.int .i64 a1_1]] w fun e w'=>e = .returned (.int .i64 r)∧Below w.heap.size w w':=by
 have hu78:=Tryz.underlying78
 have HB:=aM (Below.refl w.heap.size w)
 have H:((Y63.f a0_0 a1_0).bind fun t238=>((Y63.f a0_1 a1_1).bind fun t239=>((Y56.f k (([t238,t239]:List Int))).bind fun t243=>(some t243))))=some r:=h
 clear h
 replace H:=bS H
 obtain ⟨t238,A30,H⟩:=H
 replace H:((Y63.f a0_1 a1_1).bind fun t239=>((Y56.f k (([t238,t239]:List Int))).bind fun t243=>(some t243)))=some r:=H
 have A3:=aM A30
 clear A30
 replace H:=bS H
 obtain ⟨t239,A40,H⟩:=H
 replace H:((Y56.f k (([t238,t239]:List Int))).bind fun t243=>(some t243))=some r:=H
 have A4:=aM A40
 clear A40
 obtain ⟨y240,hy240⟩:∃ y_:List Int,y_=(([t238,t239]:List Int)):=⟨_,rfl⟩
 replace H:((Y56.f k y240).bind fun t243=>(some t243))=some r:=by first | (rw [hy240];with_reducible exact H) | (have H2_:=(Option.bind_some _ _).symm.trans H;rw [hy240];with_reducible exact H2_) | (have H2_:=(Option.bind_some _ _).symm.trans H;with_reducible exact H2_) | with_reducible exact H | (rw [hy240];exact H) | exact H
 have Ny240:=aM hy240
 clear hy240
 replace H:=bS H
 obtain ⟨t243,A50,H⟩:=H
 replace H:(some t243)=some r:=H
 have A5:=aM A50
 clear A50
 obtain rfl:=sI H
 go_enter Tryz.func72,Tryz.ntmps72
 try go_wp2_with (first | ((with_reducible refine gd_ 2 ?_);refine be_ 2 #[.int .i64 a0_0,.int .i64 a0_1] 78 ?_;intro gb236 hg w6 hbox hb;have n0_:=aM (below_step (z3_ HB.out) hb);have n1_:=aM (hbox);have n2_:=aM ((z9_ HB.out:w.heap.size≤gb236));have n3_:=aM ((z9_ HB.out:w.heap.size≤gb236));clear HB;have HB:=n0_;have BK236:=n1_;have GW236:=n2_;have GE236:=n3_;clear n0_ n1_ n2_ n3_;clear hb hbox hg) | ((with_reducible refine gd_ 3 ?_);refine be_ 3 #[.int .i64 a1_0,.int .i64 a1_1] 78 ?_;intro gb237 hg w7 hbox hb;have n0_:=aM (blkB_ BK236.out hb);have n1_:=aM (below_step (z7_ HB.out GE236.out) hb);have n2_:=aM (hbox);have n3_:=aM ((z11_ HB.out GE236.out:w.heap.size≤gb237));have n4_:=aM ((z11_ HB.out GE236.out:w.heap.size≤gb237));have n5_:=aM (neL_ BK236.out hg);have n6_:=aM (neG_ BK236.out hg);clear BK236;clear HB;have BK236:=n0_;have HB:=n1_;have BK237:=n2_;have GW237:=n3_;have GE237:=n4_;have NB236_237:=n5_;have NB237_236:=n6_;clear n0_ n1_ n2_ n3_ n4_ n5_ n6_;clear hb hbox hg))
 have n0_:=aM (blk_drew BK236.out)
 have n1_:=aM (blk_drew BK237.out)
 have n2_:=aM (below_drew1 HB.out)
 clear BK236
 clear BK237
 clear HB
 have BK236:=n0_
 have BK237:=n1_
 have HB:=n2_
 clear n0_ n1_ n2_
 refine start_ (n:=13) (S:=fun w'=>w'.cell? ⟨gb236,0,none⟩=some (.int .i64 a0_0)∧w'.cell? ⟨gb236,1,none⟩=some (.int .i64 a0_1)∧w'.cell? ⟨gb237,0,none⟩=some (.int .i64 a1_0)∧w'.cell? ⟨gb237,1,none⟩=some (.int .i64 a1_1)) (ds:=[]) #[O,O,O,O,O,O,O,O,O,O,O,O,O] (by kernel_rfl) rfl rfl (cj2_ BK236.out (cc2_ BK237.out)) (fun hHeld=>?_);refine with_tabW Y14.tab1 Y14.bits1 (fun HT_ HW_=>?_)
 generalize w7.drew=w8 at BK236 BK237 HB hHeld ⊢
 refine pu_ 0 5 #[I,O,O,O,O,O,O,O,O,O,O,O,O] HT_.out ?_
 refine pu_ 2 7 #[I,O,I,O,O,O,O,O,O,O,O,O,O] HT_.out ?_
 refine pu_ 5 10 #[I,O,I,O,O,I,O,O,O,O,O,O,O] HT_.out ?_
 refine pu_ 7 12 #[I,O,I,O,O,I,O,I,O,O,O,O,O] HT_.out ?_
 refine tk4_ 1 6 #[I,I,I,O,O,I,O,I,O,O,O,O,O] HT_.out HW_.out hHeld ?_
 refine tk4_ 3 8 #[I,I,I,I,O,I,O,I,O,O,O,O,O] HT_.out HW_.out hHeld ?_
 refine tk4_ 6 11 #[I,I,I,I,O,I,I,I,O,O,O,O,O] HT_.out HW_.out hHeld ?_
 refine tk4_ 8 13 #[I,I,I,I,O,I,I,I,I,O,O,O,O] HT_.out HW_.out hHeld ?_
 refine o1_ 4 9 #[I,I,I,I,I,I,I,I,I,O,O,O,O] HT_.out (fun K hK=>?_)
 refine gs_ Tryz.func74 #[.int .i64 a0_0,.int .i64 a1_0] ?_
 with_reducible refine (Y63.calls a0_0 a1_0 t238 _ A3.out).mono ?_
 rintro e w' ⟨rfl,⟨nd,rfl⟩⟩
 refine ⟨_,rfl,?_⟩
 refine hK.out _ _ (cj2_ BK236.out (cc2_ BK237.out)) (fun hHeld=>?_)
 clear hK K
 refine nm_ 9 ?_
 refine o1_ 9 14 #[I,I,I,I,I,I,I,I,I,I,O,O,O] HT_.out (fun K hK=>?_)
 refine gs_ Tryz.func74 #[.int .i64 a0_1,.int .i64 a1_1] ?_
 with_reducible refine (Y63.calls a0_1 a1_1 t239 _ A4.out).mono ?_
 rintro e w' ⟨rfl,⟨nd,rfl⟩⟩
 refine ⟨_,rfl,?_⟩
 refine hK.out _ _ (cj2_ BK236.out (cc2_ BK237.out)) (fun hHeld=>?_)
 clear hK K
 refine nm_ 14 ?_
 refine o1_ 10 15 #[I,I,I,I,I,I,I,I,I,I,I,O,O] HT_.out (fun K hK=>?_)
 refine Kd.R_lit_step (Kd.int .i64) _ 3 ?hg (N:=15) ?hd (xs:=([t238,t239]:List Int)) (inner:=[.int .i64 t238,.int .i64 t239]) (ok:=fun _=>True) (okp:=fun _=>True) ?hr ?hp (fun _ hk=>hk) trivial (Below.refl _ _) (Nat.le_refl _) (by simp) ?_;(case hd=>rfl);(case hg=>rfl);(case hr=>first | (go_simp;done) | (go_simp;rfl));(case hp=>exact (Reps.one (show Kd.M (Kd.int .i64) _ _ _ t238 [.int .i64 t238] from rfl) (Reps.one (show Kd.M (Kd.int .i64) _ _ _ t239 [.int .i64 t239] from rfl) (Reps.none _ _))))
 intro v241 w9 ho10 hb hg_ hnew_
 clear hg_ hnew_
 (first | rw [← Ny240.out] at ho10 | (simp only [Int.reduceToNat] at ho10;rw [← Ny240.out] at ho10))
 have n0_:=aM (Kd.R_lower ho10 (below_size (z8_ HB.out GE236.out GE237.out)))
 have n1_:=aM (blkB_ BK236.out hb)
 have n2_:=aM (blkB_ BK237.out hb)
 have n3_:=aM (below_step (z8_ HB.out GE236.out GE237.out) hb)
 clear BK236
 clear BK237
 clear HB
 have HO242:=n0_
 have BK236:=n1_
 have BK237:=n2_
 have HB:=n3_
 clear n0_ n1_ n2_ n3_
 clear hb ho10
 obtain ⟨Ao11,co11,eo11⟩:=Kd.R_slice HO242.out
 (first | subst eo11 | (injection eo11 with f1_ f2_ f3_;have f4_:=f1_.symm;have f5_:=f3_.symm;clear f1_ f2_ f3_;subst f4_;subst f5_))
 refine hK.out _ _ (cj2_ BK236.out (cc2_ BK237.out)) (fun hHeld=>?_)
 clear hK K
 refine nm_ 15 ?_
 refine o1_ 11 16 #[I,I,I,I,I,I,I,I,I,I,I,I,O] HT_.out (fun K hK=>?_)
 refine gs_ Tryz.func73 #[.slice Ao11 y240.length co11] ?_
 with_reducible refine (Y56.calls k _ _ y240 t243 _ ?s1 ?s2 A5.out).mono ?_
 (case s1=>repeat (first | exact (Kd.R_reads' HO242.out).2.2 | (with_reducible refine Kd.C_alloc ?_ _) | (with_reducible refine Kd.C_drewN ?_ _) | (with_reducible refine Kd.C_drew ?_)))
 (case s2=>exact (Kd.R_reads' HO242.out).2.1)
 rintro e w' ⟨rfl,⟨nd,rfl⟩⟩
 refine ⟨_,rfl,?_⟩
 refine hK.out _ _ (cj2_ BK236.out (cc2_ BK237.out)) (fun hHeld=>?_)
 clear hK K
 refine nm_ 16 ?_
 refine pu_ 12 4 #[I,I,I,I,I,I,I,I,I,I,I,I,I] HT_.out ?_
 refine done_ (done_of HT_.out (by kernel_rfl)) ?_
 try go_wp2
 go_ret
 exact ⟨z10_,z8_ HB.out GE236.out GE237.out⟩


/-! ### Y2: function 127 -/
mutual
def Y2.l0:Nat→List (S78)→Int→Int→Int→Option ((List (S78)))
 | 0,_,_,_,_=>none
 | k+1,x0,x1,x2,x8=>if x8<x2 then (Y2.l1 k x0 x1 x2 x8 x8) else (some x0)
def Y2.l1:Nat→List (S78)→Int→Int→Int→Int→Option ((List (S78)))
 | 0,_,_,_,_,_=>none
 | k+1,x0,x1,x2,x8,x9=>if x9>x1 then (if 0≤x9 then (if x9<(x0.length:Int) then (if 0≤(wrap64 (x9-1)) then (if (wrap64 (x9-1))<(x0.length:Int) then ((Y14.f k ((rd_T78 x0 x9).f0) ((rd_T78 x0 x9).f1) ((rd_T78 x0 (wrap64 (x9-1))).f0) ((rd_T78 x0 (wrap64 (x9-1))).f1)).bind fun t246=>(Y2.j2 k x0 x1 x2 x8 x9 (decide (t246<0)))) else (none)) else (none)) else (none)) else (none)) else (Y2.j2 k x0 x1 x2 x8 x9 false)
def Y2.j2:Nat→List (S78)→Int→Int→Int→Int→Bool→Option ((List (S78)))
 | 0,_,_,_,_,_,_=>none
 | k+1,x0,x1,x2,x8,x9,x34=>if x34=true then (if 0≤(wrap64 (x9-1)) then (if (wrap64 (x9-1))<(x0.length:Int) then (if 0≤x9 then (if x9<(x0.length:Int) then (Y2.l1 k ((x0.set (x9:Int).toNat (⟨(rd_T78 x0 (wrap64 (x9-1))).f0,(rd_T78 x0 (wrap64 (x9-1))).f1⟩:S78)).set ((wrap64 (x9-1)):Int).toNat (⟨(rd_T78 x0 x9).f0,(rd_T78 x0 x9).f1⟩:S78)) x1 x2 x8 (wrap64 (x9-1))) else (none)) else (none)) else (none)) else (none)) else (Y2.l0 k x0 x1 x2 (wrap64 (x8+1)))
end
def Y2.f (k:Nat) (l0:List (S78)) (a1:Int) (a2:Int)  : Option ((List (S78))):=Y2.l0 k l0 a1 a2 (wrap64 (a1+1))
theorem Y2.mono_l:∀ k,(∀ y0 y1 y2 y3,LeO (Y2.l0 k y0 y1 y2 y3) (Y2.l0 (k+1) y0 y1 y2 y3))∧(∀ y0 y1 y2 y3 y4,LeO (Y2.l1 k y0 y1 y2 y3 y4) (Y2.l1 (k+1) y0 y1 y2 y3 y4))∧(∀ y0 y1 y2 y3 y4 y5,LeO (Y2.j2 k y0 y1 y2 y3 y4 y5) (Y2.j2 (k+1) y0 y1 y2 y3 y4 y5))
 | 0=>by refine ⟨?_,?_,?_⟩ <;> intros <;> exact LeO.none _
 | k+1=>by
  obtain ⟨ih0,ih1,ih2⟩:=Y2.mono_l k
  have m0:=@Y14.mono
  refine ⟨?_,?_,?_⟩
  ·intros
   unfold Y2.l0
   exact mO
  ·intros
   unfold Y2.l1
   exact mO
  ·intros
   unfold Y2.j2
   exact mO
theorem Y2.mono:∀ a0 a1 a2 k,LeO (Y2.f k a0 a1 a2) (Y2.f (k+1) a0 a1 a2):=by
 intro a0 a1 a2 k
 have m0:=@Y14.mono
 obtain ⟨ih0,ih1,ih2⟩:=Y2.mono_l k
 unfold Y2.f
 exact mO
def Y2.T4:Bool × List (List Nat × List Nat):=(true,[([],[]),([],[]),([0,1],[0,1]),([2],[2]),([3],[3]),([3],[3]),([3],[3]),([5,6,3],[3,5,6]),([7,3],[3,7]),([3],[3]),([3],[3]),([10,3],[3,10]),([9,11,3],[3,9,11]),([12,3],[3,12]),([4,8,13,3,3],[3,4,8,13]),([14,3],[3,14]),([3,15],[3,15])])
def Y2.B4:List Nat:=[0,0,3,7,15,15,15,111,239,15,15,1039,3599,7695,16383,32767,65535]
theorem Y2.tab4:rtab .any (opsOf Tryz.f127 4)=Y2.T4:=by kernel_rfl
theorem Y2.bits4:waitsOk Y2.T4.2 Y2.B4=true:=by kernel_rfl
def Y2.T6:Bool × List (List Nat × List Nat):=(true,[([],[]),([],[]),([],[]),([],[]),([3],[3]),([],[]),([],[]),([6],[6]),([5,7],[5,7]),([8],[8]),([],[]),([],[]),([10,11],[10,11]),([12],[12]),([0,1,0,1,5,6,7,8,9,13],[0,1]),([14,9,0,1,5,6,7,8,9,13],[9,14]),([2,4,0,1,2,3,4,5,6,7,8,9,10,11,12,13,14,15],[2,4]),([16,13,15,0,1,2,3,4,5,6,7,8,9,10,11,12,13,14,15],[13,16])])
def Y2.B6:List Nat:=[0,0,0,0,8,0,0,64,224,480,0,0,3072,7168,16355,32739,65535,131071]
theorem Y2.tab6:rtab .any (opsOf Tryz.f127 6)=Y2.T6:=by kernel_rfl
theorem Y2.bits6:waitsOk Y2.T6.2 Y2.B6=true:=by kernel_rfl
abbrev Y2.q0:Array Bool:=#[O,O,O,O,O,O,O,O,O,O,O,O,O,O,O,O,O]
abbrev Y2.q1:Array Bool:=#[I,O,O,O,O,O,O,O,O,O,O,O,O,O,O,O,O]
abbrev Y2.q2:Array Bool:=#[I,I,O,O,O,O,O,O,O,O,O,O,O,O,O,O,O]
abbrev Y2.q3:Array Bool:=#[I,I,I,O,O,O,O,O,O,O,O,O,O,O,O,O,O]
abbrev Y2.q4:Array Bool:=#[I,I,I,I,O,O,O,O,O,O,O,O,O,O,O,O,O]
abbrev Y2.q5:Array Bool:=#[I,I,I,I,I,O,O,O,O,O,O,O,O,O,O,O,O]
abbrev Y2.q6:Array Bool:=#[I,I,I,I,I,I,O,O,O,O,O,O,O,O,O,O,O]
abbrev Y2.q7:Array Bool:=#[I,I,I,I,I,I,I,O,O,O,O,O,O,O,O,O,O]
abbrev Y2.q8:Array Bool:=#[I,I,I,I,I,I,I,I,O,O,O,O,O,O,O,O,O]
abbrev Y2.q9:Array Bool:=#[I,I,I,I,I,I,I,I,I,I,I,I,I,O,O,O,O]
abbrev Y2.q10:Array Bool:=#[I,I,I,I,I,I,I,I,I,I,I,I,I,I,O,O,O]
abbrev Y2.q11:Array Bool:=#[I,I,I,I,I,I,I,I,I,I,I,I,I,I,I,O,O]
abbrev Y2.q12:Array Bool:=#[I,I,I,I,I,I,I,I,I,I,I,I,I,I,I,I,O]
abbrev Y2.q13:Array Bool:=#[I,I,I,I,I,I,I,I,I,I,I,I,I,I,I,I,I]
theorem Y2.calls (k:Nat) (P0_:Nat→Prop) (u9000_:Value) (l0:List (S78)) (a1:Int) (a2:Int)  (r:List (S78)) (w0 w:World) (hB:Below w0.heap.size w0 w) (ho0:Kd.R k78 78 w w0.heap.size P0_ u9000_ l0) (h:Y2.f k l0 a1 a2=some r) :
  Calls Tryz.prog 127 #[u9000_,.int .i64 a1,.int .i64 a2,.func (.func 72) #[] #[]] w fun e w'=>e = .returned (.tuple #[])∧Kd.R k78 78 w' w0.heap.size (fun k_=>(P0_ k_∨w.heap.size≤k_)) u9000_ r∧Below w0.heap.size w0 w'∧Kept w w' (fun k_=>P0_ k_):=by
 have hu78:=Tryz.underlying78
 have HO0:=aM (show Kd.R k78 78 w w0.heap.size (fun k_=>(P0_ k_∨w.heap.size≤k_)) u9000_ l0 from Kd.R_mono ho0 (fun k_ hk=>(.inl hk)))
 have HK:=aM (Kept.refl w (fun k_=>P0_ k_))
 have HW0:=aM hB.size
 have HB:=aM hB
 clear hB
 have H:(Y2.l0 k l0 a1 a2 (wrap64 (a1+1)))=some r:=h
 clear h
 have H':=aM H
 clear H
 go_enter Tryz.func127,Tryz.ntmps127
 go_wp2
 go_loopg [8] k (fun kq v8 w'=>∃ (x0_1:List (S78)) (x8_1:Int),v8 = .int .i64 x8_1∧Aside0 (Y2.l0 kq x0_1 a1 a2 x8_1=some r)∧Aside0 (kq≤k)∧Aside0 (Kd.R k78 78 w' w0.heap.size (fun k_=>(P0_ k_∨w.heap.size≤k_)) u9000_ x0_1)∧Aside0 (Kept w w' (fun k_=>P0_ k_))∧Aside0 (Below w0.heap.size w0 w'))
 case atStart=>exact ⟨(l0),(wrap64 (a1+1)),(z1_),H',⟨Nat.le_refl _⟩,⟨z0_ HO0.out⟩,⟨z6_ HK.out⟩,⟨z3_ HB.out⟩⟩
 case round =>
  clear H'
  try clear p2
  obtain ⟨x0_1,x8_1,rfl,HA,HK1,HO_0,HK,HB⟩:=hrel
  cases gk with
  | zero=>exact absurd HA.out (by simp [Y2.l0])
  | succ k1 =>
   have H:=HA.out
   clear HA
   simp only [Y2.l0] at H
   by_cases c5:x8_1<a2
   ·rw [if_pos c5] at H
    have c5b0:decide (x8_1<a2)=true:=dE c5
    clear c5
    have H':=aM H
    clear H
    go_wp2
    go_loopg [9] k1 (fun kq v9 w'=>∃ (x0_2:List (S78)) (x9_2:Int),v9 = .int .i64 x9_2∧Aside0 (Y2.l1 kq x0_2 a1 a2 x8_1 x9_2=some r)∧Aside0 (kq≤k1)∧Aside0 (Kd.R k78 78 w' w0.heap.size (fun k_=>(P0_ k_∨w.heap.size≤k_)) u9000_ x0_2)∧Aside0 (Kept w w' (fun k_=>P0_ k_))∧Aside0 (Below w0.heap.size w0 w'))
    case atStart=>exact ⟨(x0_1),(x8_1),(z1_),H',⟨Nat.le_refl _⟩,⟨z0_ HO_0.out⟩,⟨z6_ HK.out⟩,⟨z3_ HB.out⟩⟩
    case round =>
     clear H'
     try clear p2
     try clear c5
     try clear c5b0
     try clear p2
     obtain ⟨x0_2,x9_2,rfl,HA,HK2,HO_0,HK,HB⟩:=hrel
     cases gk with
     | zero=>exact absurd HA.out (by simp [Y2.l1])
     | succ k2 =>
      have H:=HA.out
      clear HA
      simp only [Y2.l1] at H
      have HC6:=aM H
      clear H
      go_upto_region 4 with (fail)
      go_cut [34] (fun v34 wc=>∃ (kq:Nat) (x34_5:Bool),v34 = .bool x34_5∧Aside0 (Y2.j2 kq x0_2 a1 a2 x8_1 x9_2 x34_5=some r)∧Aside0 (kq≤k2)∧Aside0 (Kd.R k78 78 wc w0.heap.size (fun k_=>(P0_ k_∨w.heap.size≤k_)) u9000_ x0_2)∧Aside0 (Kept w wc (fun k_=>P0_ k_))∧Aside0 (Below w0.heap.size w0 wc))
      case first =>
       have H:=HC6.out
       clear HC6
       by_cases c7:x9_2>a1
       ·rw [if_pos c7] at H
        have c7b0:decide (a1<x9_2)=true:=dE c7
        clear c7
        (first | rw [c7b0] | (simp only [i64_w,i32_w];rw [c7b0]) | skip)
        by_cases c8:0≤x9_2
        ·rw [if_pos c8] at H
         have c8b0:decide (0≤x9_2)=true:=dE c8
         clear c8
         by_cases c9:x9_2<(x0_2.length:Int)
         ·rw [if_pos c9] at H
          have c9b0:decide (x9_2<(x0_2.length:Int))=true:=dE c9
          clear c9
          obtain ⟨ji10,hji10⟩:∃ j_:Int,(wrap64 (x9_2-1))=j_:=⟨_,rfl⟩
          replace H:(if 0≤(ji10) then (if (ji10)<(x0_2.length:Int) then ((Y14.f k2 ((rd_T78 x0_2 x9_2).f0) ((rd_T78 x0_2 x9_2).f1) ((rd_T78 x0_2 (ji10)).f0) ((rd_T78 x0_2 (ji10)).f1)).bind fun t246=>(Y2.j2 k2 x0_2 a1 a2 x8_1 x9_2 (decide (t246<0)))) else (none)) else (none))=some r:=by first | (rw [hji10] at H;exact H) | (simp only [hji10] at H ⊢;exact H)
          have hji10w:(IntKind.i64.wrap (x9_2-1))=ji10:=(i64_w _).trans hji10
          by_cases c11:0≤(ji10)
          ·rw [if_pos c11] at H
           have c11b0:decide (0≤(ji10))=true:=dE c11
           clear c11
           by_cases c12:(ji10)<(x0_2.length:Int)
           ·rw [if_pos c12] at H
            have c12b0:decide ((ji10)<(x0_2.length:Int))=true:=dE c12
            clear c12
            replace H:=bS H
            obtain ⟨t246,A130,H⟩:=H
            replace H:(Y2.j2 k2 x0_2 a1 a2 x8_1 x9_2 (decide (t246<0)))=some r:=H
            have A13:=aM A130
            clear A130
            have H':=aM H
            clear H
            try go_wp2
            have n0_:=aM (Kd.R_drew HO_0.out)
            have n1_:=aM (Kept.drew HK.out)
            have n2_:=aM (below_drew1 HB.out)
            clear HO_0
            clear HK
            clear HB
            have HO_0:=n0_
            have HK:=n1_
            have HB:=n2_
            clear n0_ n1_ n2_
            obtain ⟨Ao15,co15,eo15⟩:=Kd.R_slice HO_0.out
            (first | subst eo15 | (injection eo15 with f1_ f2_ f3_;have f4_:=f1_.symm;have f5_:=f3_.symm;clear f1_ f2_ f3_;subst f4_;subst f5_))
            have p244:0≤(x9_2:Int):=dT (z2_)
            have q244:x9_2<(x0_2.length:Int):=dT (z2_)
            obtain ⟨ad244,e244,hx244_0,hx244_1⟩:=at_T78 (Kd.R_reads' HO_0.out).2.2 x9_2 p244 q244
            cases e244
            replace p244:=eq_true p244
            replace q244:=eq_true q244
            have p245:0≤((ji10):Int):=dT (z2_)
            have q245:(ji10)<(x0_2.length:Int):=dT (z2_)
            obtain ⟨ad245,e245,hx245_0,hx245_1⟩:=at_T78 (Kd.R_reads' HO_0.out).2.2 (ji10) p245 q245
            obtain rfl:ad244=ad245:=(by injection e245)
            replace p245:=eq_true p245
            replace q245:=eq_true q245
            refine start_ (n:=17) (S:=fun w'=>w'.cell? (ad244.add ((x9_2).toNat*2))=some (.int .i64 ((rd_T78 x0_2 x9_2).f0))∧w'.cell? ⟨(ad244.add ((x9_2).toNat*2)).block,(ad244.add ((x9_2).toNat*2)).off+1,none⟩=some (.int .i64 ((rd_T78 x0_2 x9_2).f1))∧w'.cell? (ad244.add (((ji10)).toNat*2))=some (.int .i64 ((rd_T78 x0_2 (ji10)).f0))∧w'.cell? ⟨(ad244.add (((ji10)).toNat*2)).block,(ad244.add (((ji10)).toNat*2)).off+1,none⟩=some (.int .i64 ((rd_T78 x0_2 (ji10)).f1))) (ds:=[]) Y2.q0 (by kernel_rfl) rfl rfl ⟨hx244_0,hx244_1,hx245_0,hx245_1⟩ (fun hHeld=>?_);refine with_tabW Y2.tab4 Y2.bits4 (fun HT_ HW_=>?_)
            generalize wr.drew=w14 at HO_0 HK HB hx244_0 hx244_1 hx245_0 hx245_1 hHeld ⊢
            refine pu_ 0 18 Y2.q1 HT_.out ?_
            refine pu_ 1 19 Y2.q2 HT_.out ?_
            refine pu_ 2 20 Y2.q3 HT_.out ?_
            refine pu_ 3 21 Y2.q4 HT_.out ?_
            refine pu_ 4 22 Y2.q5 HT_.out ?_
            refine pu_ 5 23 Y2.q6 HT_.out ?_
            refine pu_ 6 24 Y2.q7 HT_.out ?_
            refine pu_ 7 25 Y2.q8 HT_.out ?_
            refine pu_ 9 27 #[I,I,I,I,I,I,I,I,O,I,O,O,O,O,O,O,O] HT_.out ?_
            refine pu_ 10 28 #[I,I,I,I,I,I,I,I,O,I,I,O,O,O,O,O,O] HT_.out ?_
            refine pu_ 11 29 #[I,I,I,I,I,I,I,I,O,I,I,I,O,O,O,O,O] HT_.out ?_
            refine pu_ 12 30 #[I,I,I,I,I,I,I,I,O,I,I,I,I,O,O,O,O] HT_.out ?_
            refine tk4_ 8 26 Y2.q9 HT_.out HW_.out hHeld ?_
            refine tk4_ 13 31 Y2.q10 HT_.out HW_.out hHeld ?_
            refine o1_ 14 32 Y2.q11 HT_.out (fun K hK=>?_)
            refine goesD_ Tryz.func72 (by kernel_rfl) rfl #[.agg #[.int .i64 ((rd_T78 x0_2 x9_2).f0),.int .i64 ((rd_T78 x0_2 x9_2).f1)],.agg #[.int .i64 ((rd_T78 x0_2 (ji10)).f0),.int .i64 ((rd_T78 x0_2 (ji10)).f1)]] (by rfl) rfl rfl (by rfl) (by (try simp only [List.map_toArray,List.map_cons,List.map_nil]);first | done | (simp only [hji10];rfl) | rfl | (simp only [List.length_drop,List.length_take];rfl)) ?_
            with_reducible refine (Y14.calls k2 ((rd_T78 x0_2 x9_2).f0) ((rd_T78 x0_2 x9_2).f1) ((rd_T78 x0_2 (ji10)).f0) ((rd_T78 x0_2 (ji10)).f1) t246 _ A13.out).mono ?_
            rintro e w16 ⟨rfl,hb⟩
            have HS0_:=(hb.cell (World.block_lt_of_cell? _ _ (hHeld.1))).trans (hHeld.1)
            have HS1_:=(hb.cell (World.block_lt_of_cell? _ _ (hHeld.2.1))).trans (hHeld.2.1)
            have HS2_:=(hb.cell (World.block_lt_of_cell? _ _ (hHeld.2.2.1))).trans (hHeld.2.2.1)
            have HS3_:=(hb.cell (World.block_lt_of_cell? _ _ (hHeld.2.2.2))).trans (hHeld.2.2.2)
            refine ⟨_,rfl,?_⟩
            have n0_:=aM (Kd.R_below (z0_ HO_0.out) hb)
            have n1_:=aM (Kept.below (S:=(fun k_=>P0_ k_)) (z6_ HK.out) hb)
            have n2_:=aM (below_step (z3_ HB.out) hb)
            clear HO_0
            clear HK
            clear HB
            have HO_0:=n0_
            have HK:=n1_
            have HB:=n2_
            clear n0_ n1_ n2_
            (try clear hb)
            refine hK.out _ _ ⟨HS0_,HS1_,HS2_,HS3_⟩ (fun hHeld=>?_)
            clear hK K
            refine nm_ 32 ?_
            refine pu_ 15 33 Y2.q12 HT_.out ?_
            refine pu_ 16 34 Y2.q13 HT_.out ?_
            refine done_ (done_of HT_.out (by kernel_rfl)) ?_
            try go_wp2
            go_meet
            case rel=>exact ⟨_,(decide (t246<0)),(z1_),H',⟨by have:=HK1.out;have:=HK2.out;first | omega | exact Nat.le_refl _⟩,⟨z0_ HO_0.out⟩,⟨z6_ HK.out⟩,⟨z3_ HB.out⟩⟩
           ·rw [if_neg c12] at H
            exact nO H
          ·rw [if_neg c11] at H
           exact nO H
         ·rw [if_neg c9] at H
          exact nO H
        ·rw [if_neg c8] at H
         exact nO H
       ·rw [if_neg c7] at H
        have c7b0:decide (a1<x9_2)=false:=dF c7
        clear c7
        (first | rw [c7b0] | (simp only [i64_w,i32_w];rw [c7b0]) | skip)
        have H':=aM H
        clear H
        try go_wp2
        have n0_:=aM (Kd.R_drew HO_0.out)
        have n1_:=aM (Kept.drew HK.out)
        have n2_:=aM (below_drew1 HB.out)
        clear HO_0
        clear HK
        clear HB
        have HO_0:=n0_
        have HK:=n1_
        have HB:=n2_
        clear n0_ n1_ n2_
        refine start_ (n:=17) (S:=fun w'=>True) (ds:=[]) Y2.q0 (by kernel_rfl) rfl rfl trivial (fun hHeld=>?_);refine with_tabW Y2.tab4 Y2.bits4 (fun HT_ HW_=>?_)
        generalize wr.drew=w17 at HO_0 HK HB hHeld ⊢
        refine pu_ 0 18 Y2.q1 HT_.out ?_
        refine pu_ 1 19 Y2.q2 HT_.out ?_
        refine pu_ 2 20 Y2.q3 HT_.out ?_
        refine pu_ 3 21 Y2.q4 HT_.out ?_
        refine pn_ 4 22 Y2.q5 HT_.out ?_
        refine pn_ 5 23 Y2.q6 HT_.out ?_
        refine pn_ 6 24 Y2.q7 HT_.out ?_
        refine pn_ 7 25 Y2.q8 HT_.out ?_
        refine pn_ 8 26 #[I,I,I,I,I,I,I,I,I,O,O,O,O,O,O,O,O] HT_.out ?_
        refine pn_ 9 27 #[I,I,I,I,I,I,I,I,I,I,O,O,O,O,O,O,O] HT_.out ?_
        refine pn_ 10 28 #[I,I,I,I,I,I,I,I,I,I,I,O,O,O,O,O,O] HT_.out ?_
        refine pn_ 11 29 #[I,I,I,I,I,I,I,I,I,I,I,I,O,O,O,O,O] HT_.out ?_
        refine pn_ 12 30 Y2.q9 HT_.out ?_
        refine pn_ 13 31 Y2.q10 HT_.out ?_
        refine pn_ 14 32 Y2.q11 HT_.out ?_
        refine pn_ 15 33 Y2.q12 HT_.out ?_
        refine pu_ 16 34 Y2.q13 HT_.out ?_
        refine done_ (done_of HT_.out (by kernel_rfl)) ?_
        try go_wp2
        go_meet
        case rel=>exact ⟨_,(false),(z1_),H',⟨by have:=HK1.out;have:=HK2.out;first | omega | exact Nat.le_refl _⟩,⟨z0_ HO_0.out⟩,⟨z6_ HK.out⟩,⟨z3_ HB.out⟩⟩
      case rest =>
       clear HC6
       try clear c1
       try clear p2
       try clear q2
       try clear hx2
       try clear c5
       try clear c5b0
       try clear p6
       try clear c7
       try clear c7b0
       try clear c8
       try clear c8b0
       try clear c9
       try clear c9b0
       try clear c11
       try clear c11b0
       try clear c12
       try clear c12b0
       try clear hx244_0
       try clear hx244_1
       try clear hx245_0
       try clear hx245_1
       try clear p2
       try clear p244
       try clear p245
       try clear q244
       try clear q245
       obtain ⟨kq,x34_5,rfl,HA,HJ5,HO_0,HK,HB⟩:=hcut
       cases kq with
       | zero=>exact absurd HA.out (by simp [Y2.j2])
       | succ kj5 =>
        have H:=HA.out
        clear HA
        simp only [Y2.j2] at H
        by_cases c18:x34_5=true
        ·subst c18
         have H1:(if 0≤(wrap64 (x9_2-1)) then (if (wrap64 (x9_2-1))<(x0_2.length:Int) then (if 0≤x9_2 then (if x9_2<(x0_2.length:Int) then (Y2.l1 kj5 ((x0_2.set (x9_2:Int).toNat (⟨(rd_T78 x0_2 (wrap64 (x9_2-1))).f0,(rd_T78 x0_2 (wrap64 (x9_2-1))).f1⟩:S78)).set ((wrap64 (x9_2-1)):Int).toNat (⟨(rd_T78 x0_2 x9_2).f0,(rd_T78 x0_2 x9_2).f1⟩:S78)) a1 a2 x8_1 (wrap64 (x9_2-1))) else (none)) else (none)) else (none)) else (none))=some r:=by rw [if_pos rfl] at H;exact H
         clear H
         have H:=H1
         clear H1
         obtain ⟨ji19,hji19⟩:∃ j_:Int,(wrap64 (x9_2-1))=j_:=⟨_,rfl⟩
         replace H:(if 0≤(ji19) then (if (ji19)<(x0_2.length:Int) then (if 0≤x9_2 then (if x9_2<(x0_2.length:Int) then (Y2.l1 kj5 ((x0_2.set (x9_2:Int).toNat (⟨(rd_T78 x0_2 (ji19)).f0,(rd_T78 x0_2 (ji19)).f1⟩:S78)).set ((ji19):Int).toNat (⟨(rd_T78 x0_2 x9_2).f0,(rd_T78 x0_2 x9_2).f1⟩:S78)) a1 a2 x8_1 ji19) else (none)) else (none)) else (none)) else (none))=some r:=by first | (rw [hji19] at H;exact H) | (simp only [hji19] at H ⊢;exact H)
         have hji19w:(IntKind.i64.wrap (x9_2-1))=ji19:=(i64_w _).trans hji19
         by_cases c20:0≤(ji19)
         ·rw [if_pos c20] at H
          have c20b0:decide (0≤(ji19))=true:=dE c20
          clear c20
          by_cases c21:(ji19)<(x0_2.length:Int)
          ·rw [if_pos c21] at H
           have c21b0:decide ((ji19)<(x0_2.length:Int))=true:=dE c21
           clear c21
           by_cases c22:0≤x9_2
           ·rw [if_pos c22] at H
            have c22b0:decide (0≤x9_2)=true:=dE c22
            clear c22
            by_cases c23:x9_2<(x0_2.length:Int)
            ·rw [if_pos c23] at H
             have c23b0:decide (x9_2<(x0_2.length:Int))=true:=dE c23
             clear c23
             obtain ⟨y249,hy249⟩:∃ y_:List (S78),y_=(x0_2.set (x9_2:Int).toNat (⟨(rd_T78 x0_2 (ji19)).f0,(rd_T78 x0_2 (ji19)).f1⟩:S78)):=⟨_,rfl⟩
             replace H:(Y2.l1 kj5 (y249.set ((ji19):Int).toNat (⟨(rd_T78 x0_2 x9_2).f0,(rd_T78 x0_2 x9_2).f1⟩:S78)) a1 a2 x8_1 ji19)=some r:=by first | (rw [hy249];with_reducible exact H) | (have H2_:=(Option.bind_some _ _).symm.trans H;rw [hy249];with_reducible exact H2_) | (have H2_:=(Option.bind_some _ _).symm.trans H;with_reducible exact H2_) | with_reducible exact H | (rw [hy249];exact H) | exact H
             have Ny249:=aM hy249
             clear hy249
             obtain ⟨y250,hy250⟩:∃ y_:List (S78),y_=(y249.set ((ji19):Int).toNat (⟨(rd_T78 x0_2 x9_2).f0,(rd_T78 x0_2 x9_2).f1⟩:S78)):=⟨_,rfl⟩
             replace H:(Y2.l1 kj5 y250 a1 a2 x8_1 ji19)=some r:=by first | (rw [hy250];with_reducible exact H) | (have H2_:=(Option.bind_some _ _).symm.trans H;rw [hy250];with_reducible exact H2_) | (have H2_:=(Option.bind_some _ _).symm.trans H;with_reducible exact H2_) | with_reducible exact H | (rw [hy250];exact H) | exact H
             have Ny250:=aM hy250
             clear hy250
             have H':=aM H
             clear H
             try go_wp2
             have n0_:=aM (Kd.R_drew HO_0.out)
             have n1_:=aM (Kept.drew HK.out)
             have n2_:=aM (below_drew1 HB.out)
             clear HO_0
             clear HK
             clear HB
             have HO_0:=n0_
             have HK:=n1_
             have HB:=n2_
             clear n0_ n1_ n2_
             obtain ⟨Ao27,co27,eo27⟩:=Kd.R_slice HO_0.out
             (first | subst eo27 | (injection eo27 with f1_ f2_ f3_;have f4_:=f1_.symm;have f5_:=f3_.symm;clear f1_ f2_ f3_;subst f4_;subst f5_))
             have p247:0≤((ji19):Int):=dT (z2_)
             have q247:(ji19)<(x0_2.length:Int):=dT (z2_)
             obtain ⟨ad247,e247,hx247_0,hx247_1⟩:=at_T78 (Kd.R_reads' HO_0.out).2.2 (ji19) p247 q247
             cases e247
             replace p247:=eq_true p247
             replace q247:=eq_true q247
             have p248:0≤(x9_2:Int):=dT (z2_)
             have q248:x9_2<(x0_2.length:Int):=dT (z2_)
             obtain ⟨ad248,e248,hx248_0,hx248_1⟩:=at_T78 (Kd.R_reads' HO_0.out).2.2 x9_2 p248 q248
             obtain rfl:ad247=ad248:=(by injection e248)
             replace p248:=eq_true p248
             replace q248:=eq_true q248
             have p24:0≤(x9_2:Int):=dT (z2_)
             have q24:(x9_2:Int)<((x0_2.length:Int):Int):=dT (z2_)
             obtain ⟨go24,co24,eo24,gb24,gl24,cl24,HG24⟩:=Kd.R_form HO_0.out (by omega)
             (first | cases eo24 | (injection eo24 with ea_ en_ ec_;(first | subst ea_ | (injection ea_ with ea_;subst ea_));subst ec_;clear en_))
             have GB24:=aM gb24
             have GG24:=aM HG24
             clear gb24 gl24 HG24
             have HMgo24:=aM (show (P0_ go24∨w.heap.size≤go24) from (HO_0.out.1 _ rfl))
             (first | simp only [add_plain] at hx247_0 | skip)
             (first | simp only [add_plain] at hx247_1 | skip)
             (first | simp only [add_plain] at hx248_0 | skip)
             (first | simp only [add_plain] at hx248_1 | skip)
             obtain ⟨ce24,hcl24,hM24,hcc24,hfr24⟩:=Kd.R_elem HO_0.out z78 (x9_2:Int) p24 q24
             obtain rfl:=k78_openM hM24
             have hx24_0:World.cell? _ ⟨go24,(x9_2:Int).toNat*2,none⟩=some (.int .i64 ((rd_T78 x0_2 x9_2).f0)):=hcc24 0 _ rfl
             have hx24_1:World.cell? _ ⟨go24,(x9_2:Int).toNat*2+1,none⟩=some (.int .i64 ((rd_T78 x0_2 x9_2).f1)):=hcc24 1 _ rfl
             have hf24_0:World.frozen? _ ⟨go24,(x9_2:Int).toNat*2,none⟩=false:=hfr24 0
             have hf24_1:World.frozen? _ ⟨go24,(x9_2:Int).toNat*2+1,none⟩=false:=hfr24 1
             clear hcl24 hcc24 hfr24 hM24
             replace p24:=eq_true p24
             replace q24:=eq_true q24
             obtain ⟨ce28,hcl28,hM28,hcc28,hfr28⟩:=Kd.R_elem HO_0.out z78 (x9_2:Int) (dT (z2_)) (by have h_:(x9_2:Int)<((x0_2.length:Int):Int):=dT (by first | (with_reducible assumption) | assumption);first | exact h_ | (have e_:=(Kd.R_reads' HO_0.out).1;omega) | simpa using h_)
             obtain rfl:=k78_openM hM28
             have HP28:=(Kd.R_seg HO_0.out (x9_2:Int) (dT (z2_)) (by have h_:(x9_2:Int)<((x0_2.length:Int):Int):=dT (by first | (with_reducible assumption) | assumption);first | exact h_ | (have e_:=(Kd.R_reads' HO_0.out).1;omega) | simpa using h_) (seg:=[.int .i64 ((rd_T78 x0_2 (ji19)).f0),.int .i64 ((rd_T78 x0_2 (ji19)).f1)]) (j:=0) hcl28 hcc28 (show 2≤2 from by decide) (x':=(⟨(rd_T78 x0_2 (ji19)).f0,(rd_T78 x0_2 (ji19)).f1⟩:S78)) (k78_mkM _ _ _ (⟨(rd_T78 x0_2 (ji19)).f0,(rd_T78 x0_2 (ji19)).f1⟩:S78) ) (fun _ hk=>hk)).1
             rw [← Ny249.out] at HP28
             have HQ28:=aM HP28
             clear hcl28 hcc28 hfr28 hM28 HP28
             have p25:0≤((ji19):Int):=dT (z2_)
             have q25:((ji19):Int)<((x0_2.length:Int):Int):=dT (z2_)
             obtain ⟨ce25,hcl25,hM25,hcc25,hfr25⟩:=Kd.R_elem HQ28.out z78 ((ji19):Int) p25 q25
             obtain rfl:=k78_openM hM25
             have hx25_0:World.cell? _ ⟨go24,((ji19):Int).toNat*2,none⟩=some (.int .i64 ((rd_T78 y249 (ji19)).f0)):=hcc25 0 _ rfl
             have hx25_1:World.cell? _ ⟨go24,((ji19):Int).toNat*2+1,none⟩=some (.int .i64 ((rd_T78 y249 (ji19)).f1)):=hcc25 1 _ rfl
             have hf25_0:World.frozen? _ ⟨go24,((ji19):Int).toNat*2,none⟩=false:=hfr25 0
             have hf25_1:World.frozen? _ ⟨go24,((ji19):Int).toNat*2+1,none⟩=false:=hfr25 1
             clear hcl25 hcc25 hfr25 hM25
             replace p25:=eq_true p25
             replace q25:=eq_true q25
             obtain ⟨ce29,hcl29,hM29,hcc29,hfr29⟩:=Kd.R_elem HQ28.out z78 ((ji19):Int) (dT (z2_)) (by have h_:((ji19):Int)<((x0_2.length:Int):Int):=dT (by first | (with_reducible assumption) | assumption);first | exact h_ | (have e_:=(Kd.R_reads' HO_0.out).1;omega) | simpa using h_)
             obtain rfl:=k78_openM hM29
             have HP29:=(Kd.R_seg HQ28.out ((ji19):Int) (dT (z2_)) (by have h_:((ji19):Int)<((x0_2.length:Int):Int):=dT (by first | (with_reducible assumption) | assumption);first | exact h_ | (have e_:=(Kd.R_reads' HO_0.out).1;omega) | simpa using h_) (seg:=[.int .i64 ((rd_T78 x0_2 x9_2).f0),.int .i64 ((rd_T78 x0_2 x9_2).f1)]) (j:=0) hcl29 hcc29 (show 2≤2 from by decide) (x':=(⟨(rd_T78 x0_2 x9_2).f0,(rd_T78 x0_2 x9_2).f1⟩:S78)) (k78_mkM _ _ _ (⟨(rd_T78 x0_2 x9_2).f0,(rd_T78 x0_2 x9_2).f1⟩:S78) ) (fun _ hk=>hk)).1
             rw [← Ny250.out] at HP29
             have HQ29:=aM HP29
             clear hcl29 hcc29 hfr29 hM29 HP29
             refine start_ (n:=18) (S:=fun w'=>w'.cell? ⟨go24,((ji19)).toNat*2,none⟩=some (.int .i64 ((rd_T78 x0_2 (ji19)).f0))∧w'.cell? ⟨go24,((ji19)).toNat*2+1,none⟩=some (.int .i64 ((rd_T78 x0_2 (ji19)).f1))∧w'.cell? ⟨go24,((x9_2).toNat*2),none⟩=some (.int .i64 ((rd_T78 x0_2 x9_2).f0))∧w'.cell? ⟨go24,((x9_2).toNat*2)+1,none⟩=some (.int .i64 ((rd_T78 x0_2 x9_2).f1))) (ds:=[15,17]) #[O,O,O,O,O,O,O,O,O,O,O,O,O,O,O,O,O,O] (by kernel_rfl) rfl rfl ⟨hx247_0,hx247_1,hx248_0,hx248_1⟩ (fun hHeld=>?_);refine with_tabW Y2.tab6 Y2.bits6 (fun HT_ HW_=>?_)
             generalize wc.drew=w26 at HO_0 HK HB GG24 HQ28 HQ29 hf24_0 hf24_1 hf25_0 hf25_1 hx247_0 hx247_1 hx248_0 hx248_1 hx24_0 hx24_1 hx25_0 hx25_1 hHeld ⊢
             have hne_:ji19.toNat*2≠x9_2.toNat*2:=by have a_:=of_eq_true p247;have b_:=of_eq_true p248;unfold wrap64 at hji19;omega
             have hz25_0:∀ V,(w26.setCell ⟨go24,(x9_2:Int).toNat*2,none⟩ V).cell? ⟨go24,((ji19):Int).toNat*2,none⟩=some (.int .i64 ((rd_T78 x0_2 (ji19)).f0)):=fun V=>(World.cell?_setCell_other _ _ _ _ (by intro e_;injection e_;omega)).trans hx247_0
             have hz25_1:∀ V,(w26.setCell ⟨go24,(x9_2:Int).toNat*2+1,none⟩ V).cell? ⟨go24,((ji19):Int).toNat*2+1,none⟩=some (.int .i64 ((rd_T78 x0_2 (ji19)).f1)):=fun V=>(World.cell?_setCell_other _ _ _ _ (by intro e_;injection e_;omega)).trans hx247_1
             have hy25_0:w26.frozen? ⟨go24,((ji19):Int).toNat*2,none⟩=false:=by have h_:=hf25_0;first | exact h_ | simpa only [World.frozen?_setCell] using h_ | simpa [World.setCells] using h_
             have hy25_1:w26.frozen? ⟨go24,((ji19):Int).toNat*2+1,none⟩=false:=by have h_:=hf25_1;first | exact h_ | simpa only [World.frozen?_setCell] using h_ | simpa [World.setCells] using h_
             refine pu_ 0 37 #[I,O,O,O,O,O,O,O,O,O,O,O,O,O,O,O,O,O] HT_.out ?_
             refine pu_ 1 38 #[I,I,O,O,O,O,O,O,O,O,O,O,O,O,O,O,O,O] HT_.out ?_
             refine pu_ 2 39 #[I,I,I,O,O,O,O,O,O,O,O,O,O,O,O,O,O,O] HT_.out ?_
             refine pu_ 3 40 #[I,I,I,I,O,O,O,O,O,O,O,O,O,O,O,O,O,O] HT_.out ?_
             refine pu_ 4 41 #[I,I,I,I,I,O,O,O,O,O,O,O,O,O,O,O,O,O] HT_.out ?_
             refine pu_ 5 42 #[I,I,I,I,I,I,O,O,O,O,O,O,O,O,O,O,O,O] HT_.out ?_
             refine pu_ 6 43 #[I,I,I,I,I,I,I,O,O,O,O,O,O,O,O,O,O,O] HT_.out ?_
             refine pu_ 7 44 #[I,I,I,I,I,I,I,I,O,O,O,O,O,O,O,O,O,O] HT_.out ?_
             refine pu_ 8 45 #[I,I,I,I,I,I,I,I,I,O,O,O,O,O,O,O,O,O] HT_.out ?_
             refine pu_ 10 47 #[I,I,I,I,I,I,I,I,I,O,I,O,O,O,O,O,O,O] HT_.out ?_
             refine pu_ 11 48 #[I,I,I,I,I,I,I,I,I,O,I,I,O,O,O,O,O,O] HT_.out ?_
             refine pu_ 12 49 #[I,I,I,I,I,I,I,I,I,O,I,I,I,O,O,O,O,O] HT_.out ?_
             refine tk4_ 9 46 #[I,I,I,I,I,I,I,I,I,I,I,I,I,O,O,O,O,O] HT_.out HW_.out hHeld ?_
             refine tk4_ 13 50 #[I,I,I,I,I,I,I,I,I,I,I,I,I,I,O,O,O,O] HT_.out HW_.out hHeld ?_
             refine pu_ 14 51 #[I,I,I,I,I,I,I,I,I,I,I,I,I,I,I,O,O,O] HT_.out ?_
             refine last_ (i:=15) (N:=none) #[I,I,I,I,I,I,I,I,I,I,I,I,I,I,I,I,O,O] rfl rfl (one_of HT_.out (by kernel_rfl)) (by decide) (fun K hK=>?_)
             refine skip_ (w1:=?_) (by rfl) rfl ?_ ?_
             rotate_left
             ·go_simp
              rfl
             refine hK.out _ _ ?_
             clear hK K
             refine pu_ 16 52 #[I,I,I,I,I,I,I,I,I,I,I,I,I,I,I,I,I,O] HT_.out ?_
             refine last_ (i:=17) (N:=none) #[I,I,I,I,I,I,I,I,I,I,I,I,I,I,I,I,I,I] rfl rfl (one_of HT_.out (by kernel_rfl)) (by decide) (fun K hK=>?_)
             refine skip_ (w1:=?_) (by rfl) rfl ?_ ?_
             rotate_left
             ·go_simp
              rfl
             refine hK.out _ _ ?_
             clear hK K
             refine done_ (done_of HT_.out (by kernel_rfl)) ?_
             try go_wp2
             go_roundg kj5
             case measure=>have:=HK1.out;have:=HK2.out;have:=HJ5.out;omega
             case rel=>exact ⟨(y250),(ji19),(by first | rfl | (simp;done) | (simp only [← hji19] <;> (first | rfl | simp)) | (simp [*];done)),H',⟨by have:=HK1.out;have:=HK2.out;have:=HJ5.out;omega⟩,⟨z0_ HQ29.out⟩,⟨z30_ HK.out HMgo24.out⟩,⟨z31_ HB.out GB24.out⟩⟩
            ·rw [if_neg c23] at H
             exact nO H
           ·rw [if_neg c22] at H
            exact nO H
          ·rw [if_neg c21] at H
           exact nO H
         ·rw [if_neg c20] at H
          exact nO H
        ·replace c18:=Bool.eq_false_iff.mpr c18
         subst c18
         have H1:(Y2.l0 kj5 x0_2 a1 a2 (wrap64 (x8_1+1)))=some r:=by rw [if_neg (show ¬ (false=true) by decide)] at H;exact H
         clear H
         have H:=H1
         clear H1
         have H':=aM H
         clear H
         go_wp2
         go_roundg kj5
         case measure=>have:=HK1.out;have:=HK2.out;have:=HJ5.out;omega
         case rel=>exact ⟨(x0_2),(wrap64 (x8_1+1)),(z1_),H',⟨by have:=HK1.out;have:=HK2.out;have:=HJ5.out;omega⟩,⟨z0_ HO_0.out⟩,⟨z6_ HK.out⟩,⟨z3_ HB.out⟩⟩
   ·rw [if_neg c5] at H
    have c5b0:decide (x8_1<a2)=false:=dF c5
    clear c5
    obtain rfl:=sI H
    go_wp2
    first | go_end0 | ((try simp only [Exit.inBlock,Exit.then]);refine bodyPost_ret (results_none rfl _ _ _) rfl ?_)
    exact ⟨z10_,z0_ HO_0.out,z3_ HB.out,z6_ HK.out⟩


/-! ### Y55: function 128 -/
def Y55.f (l0:List (S78)) (a1:Int) (a2:Int)  : Option (Unit):=none
theorem Y55.calls (A0:Option Addr) (c0:Nat) (l0:List (S78)) (a1:Int) (a2:Int)  (w:World) (hr0:Kd.C k78 w A0 l0.length l0) (hc0:l0.length≤c0) (h:Y55.f l0 a1 a2=some ()) :
  Calls Tryz.prog 128 #[.slice A0 l0.length c0,.int .i64 a1,.int .i64 a2,.func (.func 72) #[] #[]] w fun e w'=>e = .returned (.tuple #[])∧Drawn0 w w':=by
 have HR0:=aM hr0
 have HC0:=aM hc0
 clear hr0 hc0
 have H:(none)=some ():=h
 clear h
 exact nO H


/-! ### Y43: function 129 -/
def Y43.f (l0:List (S78)) (a1:Int) (a2:Int)  : Option (Unit):=none
theorem Y43.calls (A0:Option Addr) (c0:Nat) (l0:List (S78)) (a1:Int) (a2:Int)  (w:World) (hr0:Kd.C k78 w A0 l0.length l0) (hc0:l0.length≤c0) (h:Y43.f l0 a1 a2=some ()) :
  Calls Tryz.prog 129 #[.slice A0 l0.length c0,.int .i64 a1,.int .i64 a2,.func (.func 72) #[] #[]] w fun e w'=>e = .returned (.tuple #[])∧Drawn0 w w':=by
 have HR0:=aM hr0
 have HC0:=aM hc0
 clear hr0 hc0
 have H:(none)=some ():=h
 clear h
 exact nO H

end Go.Proofs.YtelecnmflodkkaaGreatDoor.P
