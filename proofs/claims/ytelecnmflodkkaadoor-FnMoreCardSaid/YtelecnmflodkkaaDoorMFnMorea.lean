/- A drawn ring with one more node: every key goes round the other nodes as before; of the first two owners none is new but the new node; and the program's RingMore, Newcomers are the reference's. No condition. (Part 1 of 5: written by programs of this workplace and by hand, merged.) -/
import Derived.Test.YtelecnmflodkkaaDoorProg
import Derived.Below
import Derived.Deep.Draws
import Derived.Deep.AppendLies
import Derived.Maps.AppendAt
import Derived.OwnWalk
import Derived.Laws.BytesArg
import Derived.Laws.MakeOwn
import Derived.Laws.OwnMore
import Derived.Deep.OwnRows
import Derived.Tactics
import Derived.Lib.ConvBytes
import Derived.Laws.Slices
import Derived.WalkKit
import Derived.KernelRfl
import Derived.RowKit3
import Derived.Deep.LoopGhost
import Derived.Deep.QuietTactic
import Derived.BigQuiet
import Derived.WideLaws
import Derived.Deep.DeepCutAuto
import Derived.Deep.CutBlock
import Derived.Deep.RegionHeld3
import Derived.Laws.Rows
import Derived.Lib.AppendStr
import Derived.ArgAppend
import Derived.Laws.IdiomCopy
import Derived.OrdersHeld
import Derived.Laws.BitsLemmas
import Derived.RowKit
import Derived.Lib.Bytealg
import Derived.Lib.Walk
import Derived.Test.YtelecnmflodkkaaDoorMFnMoreWWords
import Derived.Test.YtelecnmflodkkaaDoorMFnMoreWLast
import Derived.Test.YtelecnmflodkkaaDoorMFnMoreWTab
import Derived.Test.YtelecnmflodkkaaDoorMFnMoreWApart
import Derived.Test.YtelecnmflodkkaaDoorMFnMoreWFoot
import Derived.Test.YtelecnmflodkkaaDoorMFnMoreWKept
import Derived.Test.YtelecnmflodkkaaDoorMFnMoreWShare
import Derived.Test.YtelecnmflodkkaaDoorMFnMoreWN
import Derived.Test.YtelecnmflodkkaaDoorMFnMoreWFootNe
import Derived.Test.YtelecnmflodkkaaDoorMFnMoreWEqStruct
import Derived.Test.YtelecnmflodkkaaDoorMFnMoreWRepsOne
import Derived.Test.YtelecnmflodkkaaDoorMFnMoreWGuard
import Derived.Test.YtelecnmflodkkaaDoorMFnMoreWMore
import Derived.ChangeArms
import Derived.ChangeSlices
import Derived.WideShapes
set_option linter.unusedVariables false
set_option linter.unusedSimpArgs false
set_option maxHeartbeats 8000000
set_option maxRecDepth 100000

namespace Go.Proofs.YtelecnmflodkkaaDoor.P
open Go.RowKit Go.Proofs.YtelecnmflodkkaaDoorW.PrintWords Go.Proofs.YtelecnmflodkkaaDoorW.PrintLast Go.Proofs.YtelecnmflodkkaaDoorW.PrintMore
attribute [local go_sem] max2_int min2_int max_two min_two max_three min_three max_four min_four   -- for this text's walks alone
set_option linter.unusedVariables false
set_option linter.unusedSimpArgs false

theorem sa_ {α:Type _} (l:List α) (i:Nat) (a:α):l.toArray.setIfInBounds i a=(l.set i a).toArray:=List.setIfInBounds_toArray ..
theorem s0_ {α:Type _} (x:α) (l:List α) (a:α):(x :: l).set 0 a=a :: l:=List.set_cons_zero ..
theorem ss_ {α:Type _} (x:α) (l:List α) (n:Nat) (a:α):(x :: l).set (n+1) a=x :: l.set n a:=List.set_cons_succ ..
section
variable {P:Program} {ops:Array Oper} {Q:Exit→Act→World→Prop}
/-- A call of a function value, as a step of a region that draws. -/
theorem goesD_ {oi:Oper} {N:Option Tmp} {a:Act} {w:World} {K:Act→World→Prop} {f:FuncId} {fn:Func} {as_:Array Operand} {ts:Array TypeId} {x:Operand} (hf:P.funcs[f]? = some fn) (hname:(fn.name == "runtime.NumGoroutine")=false) (hb:fn.body.isSome=true) (args:Array Value)
    (hw:Region.wanted oi (yielded ops a.tmps)=true) (hN:oi.dst=N) (hop:oi.op = .call { callee:=.value x,args:=as_,argTypes:=ts }) (hx:a.eval x = .func (.func f) #[] #[]) (hargs:as_.map a.eval=args)
    (h:Calls P f args w fun e w'=>∃ v,e = .returned v∧K (a.put N v) w'):if Region.wanted oi (yielded ops a.tmps)=true then Oper.wp P oi a w K Q else K (a.put N undef) w:=by
  refine call_ f args hw hN ?_ h
  have he:=enters_ hf hname hb args w
  unfold execOp
  simp [hop,resolve,Deferred.ofValue,invoke,hx,hargs,he]
end



def errW:Option Int→Value
  | none=>.nilIface
  | some c=>.iface 0 (.int .i64 c)
theorem errW_none:errW none = .nilIface:=rfl
theorem errW_some (c:Int):errW (some c) = .iface 0 (.int .i64 c):=rfl

theorem info2:(Tryd.prog.info? 2).map (fun i=>(i.zero,i.size,i.bytes))=some (some (.int .i64 0),1,8):=by kernel_rfl
theorem info77:(Tryd.prog.info? 77).map (fun i=>(i.zero,i.size,i.bytes))=some (some (.agg #[(.int .i64 0),(.int .i64 0)]),2,16):=by kernel_rfl
-- the values' own types
/-! #### struct type 77 -/
structure S77 where
  f0:Int
  f1:Int
def z77:S77:=⟨(0:Int),(0:Int)⟩
def k77:Kd S77:=Kd.iso (Kd.pair (Kd.int .i64) (Kd.int .i64)) (fun x:S77=>(x.f0,x.f1))
theorem k77_heap:Kd.Heap k77:=Kd.heap_iso _ (Kd.heap_pair (Kd.heap_int .i64) (Kd.heap_int .i64))
theorem k77_open {w:World} {x:S77} {cs:List Value} (h:k77.K w x cs):cs=[.int .i64 x.f0,.int .i64 x.f1]:=by
  obtain ⟨_,_,rfl,rfl,rfl⟩:=h
  exact rfl
theorem k77_openM {w:World} {base:Nat} {ok:Nat→Prop} {x:S77} {cs:List Value} (h:k77.M w base ok x cs):cs=[.int .i64 x.f0,.int .i64 x.f1]:=by
  obtain ⟨_,_,rfl,rfl,rfl⟩:=h
  exact rfl
theorem k77_mkM (w:World) (base:Nat) (ok:Nat→Prop) (x:S77)  : k77.M w base ok x [.int .i64 x.f0,.int .i64 x.f1]:=⟨[.int .i64 x.f0],[.int .i64 x.f1],rfl,rfl,rfl⟩
def rd_T77 (xs:List S77) (i:Int):S77:=xs.getD i.toNat z77
theorem at_T77 {w:World} {A:Option Addr} {n:Nat} {xs:List S77} (h:Kd.C k77 w A n xs) (i:Int) (h0:0≤i) (h1:i<n):∃ ad , A=some ad∧w.cell? (ad.add (i.toNat*2))=some (.int .i64 (rd_T77 xs i).f0)∧w.cell? ⟨(ad.add (i.toNat*2)).block,(ad.add (i.toNat*2)).off+1,none⟩=some (.int .i64 (rd_T77 xs i).f1):=by
  obtain ⟨ad,c,e,_,hK,hc0⟩:=Kd.C_get h z77 i h0 h1
  have hc:∀ j u,c[j]? = some u→w.cell? (ad.add (i.toNat*2+j))=some u:=hc0
  obtain rfl:=k77_open hK
  exact ⟨ad,e,hc 0 _ rfl,by rw [← add_field _ _ 1 (by omega)];exact hc 1 _ rfl⟩

/-! #### struct type 116 -/
structure S116 where
  f0:Int
  f1:Int
def z116:S116:=⟨(0:Int),(0:Int)⟩
def rd_T116 (xs:List S116) (i:Int):S116:=xs.getD i.toNat z116
end Go.Proofs.YtelecnmflodkkaaDoor.P

namespace Go.Proofs.YtelecnmflodkkaaDoor.P
open Go.RowKit Go.Proofs.YtelecnmflodkkaaDoorW.PrintWords Go.Proofs.YtelecnmflodkkaaDoorW.PrintLast Go.Proofs.YtelecnmflodkkaaDoorW.PrintMore
abbrev I:=true
abbrev O:=false
theorem mO {p:Prop} (h:p:=by repeat' first | (with_reducible exact LeO.refl _) | (with_reducible exact LeO.none _) | (with_reducible refine LeO.ite ?_ ?_) | (with_reducible refine LeO.bind ?_ (fun _=>?_)) | (with_reducible apply_assumption) | apply_assumption | exact LeO.none _ | refine LeO.ite ?_ ?_ | refine LeO.bind ?_ (fun _=>?_)):p:=h
theorem nO {q p:Prop} (h:q) (f:¬q:=by simp):p:=absurd h f
theorem aM {p:Prop} (h:p):Aside0 p:=⟨h⟩
theorem sI {α:Type _} {a b:α} (h:some a=some b):a=b:=Option.some.inj h
theorem bS {α β:Type _} {x:Option α} {f:α→Option β} {b:β} (h:x.bind f=some b):∃ a,x=some a∧f a=some b:=Option.bind_eq_some_iff.mp h
theorem dT {p:Prop} [Decidable p] (h:decide p=true):p:=of_decide_eq_true h
theorem dE {p:Prop} [Decidable p] (h:p):decide p=true:=decide_eq_true h
theorem dF {p:Prop} [Decidable p] (h:¬p):decide p=false:=decide_eq_false h
section
variable {P:Program} {ops:Array Oper} {Q:Exit→Act→World→Prop} {md:Region.Mode} {S:World→Prop} {ds:List Nat}
theorem pu_ {T:Bool × List (List Nat × List Nat)} (i:Nat) (N:Tmp) {oi:Oper} {v:Value} {fuel:Nat} {l:Array Bool} {a a':Act} {w:World} (l':Array Bool) (hT:rtab md ops=T) (h:wpAnyLast P md ops Q S ds fuel l' a' w) (hi:ops[i]? = some oi:=by exact rfl) (hN:oi.dst=some N:=by exact rfl) (hc:anyT T l.toList l'.toList i=true:=by kernel_rfl) (hQ:∀ c a w,Q (.panic c) (a.put oi.dst v) w→Q (.panic c) a w:=by exact fun _ _ _ h=>h) (hw:Region.wanted oi (yielded ops a.tmps)=true:=by rfl) (hy:∀ w',(execOp a.eval oi).run P w' = .ok (.value v) w':=by (intro w');go_simp;(with_reducible rfl)) (ha:a.put (some N) v=a':=by (simp only [Act.put,sa_,s0_,ss_,i64_w,i32_w]);exact rfl):wpAnyLast P md ops Q S ds (fuel+1) l a w:=pure_ l' hi hN (any_of hT hc) hQ (Or.inl ⟨hw,hy⟩) ha h
theorem pn_ {T:Bool × List (List Nat × List Nat)} (i:Nat) (N:Tmp) {oi:Oper} {v:Value} {fuel:Nat} {l:Array Bool} {a a':Act} {w:World} (l':Array Bool) (hT:rtab md ops=T) (h:wpAnyLast P md ops Q S ds fuel l' a' w) (hi:ops[i]? = some oi:=by exact rfl) (hN:oi.dst=some N:=by exact rfl) (hc:anyT T l.toList l'.toList i=true:=by kernel_rfl) (hQ:∀ c a w,Q (.panic c) (a.put oi.dst v) w→Q (.panic c) a w:=by exact fun _ _ _ h=>h) (hw:Region.wanted oi (yielded ops a.tmps)=false:=by rfl) (hy:v=undef:=by rfl) (ha:a.put (some N) v=a':=by (simp only [Act.put,sa_,s0_,ss_,i64_w,i32_w]);exact rfl):wpAnyLast P md ops Q S ds (fuel+1) l a w:=pure_ l' hi hN (any_of hT hc) hQ (Or.inr ⟨hw,hy⟩) ha h
theorem tk2_ {T:Bool × List (List Nat × List Nat)} (i:Nat) (N:Tmp) {oi:Oper} {v:Value} {fuel:Nat} {l:Array Bool} {a a':Act} {w:World} (l':Array Bool) {B:List Nat} (hT:rtab md ops=T) (hB:waitsOk T.2 B=true) (hS:S w) (h:wpAnyLast P md ops Q S ds fuel l' a' w) (hi:ops[i]? = some oi:=by exact rfl) (hN:oi.dst=some N:=by exact rfl) (hc:takeW T B ds l.toList l'.toList i=true:=by kernel_rfl) (hQ:∀ c a w,Q (.panic c) (a.put oi.dst v) w→Q (.panic c) a w:=by exact fun _ _ _ h=>h) (hw:Region.wanted oi (yielded ops a.tmps)=true:=by rfl) (hy:∀ w',S w'→(execOp a.eval oi).run P w' = .ok (.value v) w':=by (rintro w' ⟨s0,s1⟩);go_simp;(with_reducible rfl)) (ha:a.put (some N) v=a':=by (simp only [Act.put,sa_,s0_,ss_,i64_w,i32_w]);exact rfl):wpAnyLast P md ops Q S ds (fuel+1) l a w:=take_ l' hi hN (take_ofW hT hB hc) hQ (Or.inl ⟨hw,hy⟩) hS ha h
theorem tk4_ {T:Bool × List (List Nat × List Nat)} (i:Nat) (N:Tmp) {oi:Oper} {v:Value} {fuel:Nat} {l:Array Bool} {a a':Act} {w:World} (l':Array Bool) {B:List Nat} (hT:rtab md ops=T) (hB:waitsOk T.2 B=true) (hS:S w) (h:wpAnyLast P md ops Q S ds fuel l' a' w) (hi:ops[i]? = some oi:=by exact rfl) (hN:oi.dst=some N:=by exact rfl) (hc:takeW T B ds l.toList l'.toList i=true:=by kernel_rfl) (hQ:∀ c a w,Q (.panic c) (a.put oi.dst v) w→Q (.panic c) a w:=by exact fun _ _ _ h=>h) (hw:Region.wanted oi (yielded ops a.tmps)=true:=by rfl) (hy:∀ w',S w'→(execOp a.eval oi).run P w' = .ok (.value v) w':=by (rintro w' ⟨s0,s1,s2,s3⟩);go_simp;(with_reducible rfl)) (ha:a.put (some N) v=a':=by (simp only [Act.put,sa_,s0_,ss_,i64_w,i32_w]);exact rfl):wpAnyLast P md ops Q S ds (fuel+1) l a w:=take_ l' hi hN (take_ofW hT hB hc) hQ (Or.inl ⟨hw,hy⟩) hS ha h
theorem tk5_ {T:Bool × List (List Nat × List Nat)} (i:Nat) (N:Tmp) {oi:Oper} {v:Value} {fuel:Nat} {l:Array Bool} {a a':Act} {w:World} (l':Array Bool) {B:List Nat} (hT:rtab md ops=T) (hB:waitsOk T.2 B=true) (hS:S w) (h:wpAnyLast P md ops Q S ds fuel l' a' w) (hi:ops[i]? = some oi:=by exact rfl) (hN:oi.dst=some N:=by exact rfl) (hc:takeW T B ds l.toList l'.toList i=true:=by kernel_rfl) (hQ:∀ c a w,Q (.panic c) (a.put oi.dst v) w→Q (.panic c) a w:=by exact fun _ _ _ h=>h) (hw:Region.wanted oi (yielded ops a.tmps)=true:=by rfl) (hy:∀ w',S w'→(execOp a.eval oi).run P w' = .ok (.value v) w':=by (rintro w' ⟨s0,s1,s2,s3,s4⟩);go_simp;(with_reducible rfl)) (ha:a.put (some N) v=a':=by (simp only [Act.put,sa_,s0_,ss_,i64_w,i32_w]);exact rfl):wpAnyLast P md ops Q S ds (fuel+1) l a w:=take_ l' hi hN (take_ofW hT hB hc) hQ (Or.inl ⟨hw,hy⟩) hS ha h
theorem tk8_ {T:Bool × List (List Nat × List Nat)} (i:Nat) (N:Tmp) {oi:Oper} {v:Value} {fuel:Nat} {l:Array Bool} {a a':Act} {w:World} (l':Array Bool) {B:List Nat} (hT:rtab md ops=T) (hB:waitsOk T.2 B=true) (hS:S w) (h:wpAnyLast P md ops Q S ds fuel l' a' w) (hi:ops[i]? = some oi:=by exact rfl) (hN:oi.dst=some N:=by exact rfl) (hc:takeW T B ds l.toList l'.toList i=true:=by kernel_rfl) (hQ:∀ c a w,Q (.panic c) (a.put oi.dst v) w→Q (.panic c) a w:=by exact fun _ _ _ h=>h) (hw:Region.wanted oi (yielded ops a.tmps)=true:=by rfl) (hy:∀ w',S w'→(execOp a.eval oi).run P w' = .ok (.value v) w':=by (rintro w' ⟨s0,s1,s2,s3,s4,s5,s6,s7⟩);go_simp;(with_reducible rfl)) (ha:a.put (some N) v=a':=by (simp only [Act.put,sa_,s0_,ss_,i64_w,i32_w]);exact rfl):wpAnyLast P md ops Q S ds (fuel+1) l a w:=take_ l' hi hN (take_ofW hT hB hc) hQ (Or.inl ⟨hw,hy⟩) hS ha h
theorem tk9_ {T:Bool × List (List Nat × List Nat)} (i:Nat) (N:Tmp) {oi:Oper} {v:Value} {fuel:Nat} {l:Array Bool} {a a':Act} {w:World} (l':Array Bool) {B:List Nat} (hT:rtab md ops=T) (hB:waitsOk T.2 B=true) (hS:S w) (h:wpAnyLast P md ops Q S ds fuel l' a' w) (hi:ops[i]? = some oi:=by exact rfl) (hN:oi.dst=some N:=by exact rfl) (hc:takeW T B ds l.toList l'.toList i=true:=by kernel_rfl) (hQ:∀ c a w,Q (.panic c) (a.put oi.dst v) w→Q (.panic c) a w:=by exact fun _ _ _ h=>h) (hw:Region.wanted oi (yielded ops a.tmps)=true:=by rfl) (hy:∀ w',S w'→(execOp a.eval oi).run P w' = .ok (.value v) w':=by (rintro w' ⟨s0,s1,s2,s3,s4,s5,s6,s7,s8⟩);go_simp;(with_reducible rfl)) (ha:a.put (some N) v=a':=by (simp only [Act.put,sa_,s0_,ss_,i64_w,i32_w]);exact rfl):wpAnyLast P md ops Q S ds (fuel+1) l a w:=take_ l' hi hN (take_ofW hT hB hc) hQ (Or.inl ⟨hw,hy⟩) hS ha h
theorem o1_ {T:Bool × List (List Nat × List Nat)} (i:Nat) (N:Tmp) {oi:Oper} {fuel:Nat} {l:Array Bool} {a:Act} {w:World} (l':Array Bool) (hT:rtab md ops=T) (h:∀ K:Act→World→Prop,Shut (∀ a' w',S w'→(S w'→wpAnyLast P md ops Q S ds fuel l' a' w')→K a' w')→if Region.wanted oi (yielded ops a.tmps)=true then Oper.wp P oi a w K Q else K (a.put (some N) undef) w) (hi:ops[i]? = some oi:=by exact rfl) (hN:oi.dst=some N:=by exact rfl) (hc:(readyT T.2 l.toList == [i] && l.toList.set i true == l'.toList)=true:=by kernel_rfl) (hd:i ∉ ds:=by decide):wpAnyLast P md ops Q S ds (fuel+1) l a w:=one_ l' hi hN (one_of hT hc) hd h
theorem o2_ {T:Bool × List (List Nat × List Nat)} (i j:Nat) (Ni Nj:Tmp) {oi oj:Oper} {fuel:Nat} {l:Array Bool} {a:Act} {w:World} (li lj:Array Bool) (hT:rtab md ops=T) (h1:∀ K:Act→World→Prop,Shut (∀ a' w',S w'→(S w'→wpAnyLast P md ops Q S ds fuel li a' w')→K a' w')→if Region.wanted oi (yielded ops a.tmps)=true then Oper.wp P oi a w K Q else K (a.put (some Ni) undef) w) (h2:∀ K:Act→World→Prop,Shut (∀ a' w',S w'→(S w'→wpAnyLast P md ops Q S ds fuel lj a' w')→K a' w')→if Region.wanted oj (yielded ops a.tmps)=true then Oper.wp P oj a w K Q else K (a.put (some Nj) undef) w) (hi:ops[i]? = some oi:=by exact rfl) (hj:ops[j]? = some oj:=by exact rfl) (hNi:oi.dst=some Ni:=by exact rfl) (hNj:oj.dst=some Nj:=by exact rfl) (hc:(readyT T.2 l.toList == [i,j] && l.toList.set i true == li.toList && l.toList.set j true == lj.toList)=true:=by kernel_rfl) (hdi:i ∉ ds:=by decide) (hdj:j ∉ ds:=by decide):wpAnyLast P md ops Q S ds (fuel+1) l a w:=two_ li lj hi hj hNi hNj (two_of hT hc) hdi hdj h1 h2
theorem nm_ (N:Tmp) {fuel:Nat} {l:Array Bool} {a a':Act} {v:Value} {w:World} (h:wpAnyLast P md ops Q S ds fuel l a' w) (ha:Act.put a (some N) v=a':=by simp only [Act.put,sa_,s0_,ss_,i64_w,i32_w];rfl):wpAnyLast P md ops Q S ds fuel l (Act.put a (some N) v) w:=norm_ ha h
end
section
variable {P:Program} {ops:Array Oper} {rest:List Oper} {o:Oper} {a:Act} {Q:Exit→Act→World→Prop} {W:World}
theorem gd_ (N:Tmp) (h:wpList P ops Q (o :: rest) a W) (hN:o.dst=some N:=by with_reducible rfl):wpList P ops Q (o :: rest) a W:=h
theorem gc_ (f:FuncId) {ars:Array Operand} {ts:Array TypeId} (h:wpList P ops Q (o :: rest) a W) (ho:o.op = .call { callee:=.value (.func f),args:=ars,argTypes:=ts }:=by with_reducible rfl):wpList P ops Q (o :: rest) a W:=h
theorem be_ (N:Tmp) (cs:Array Value) (t:TypeId) (h:∀ g,g=W.heap.size→∀ w1,w1.heap[g]? = some (.cells cs t (0,0))→Below W.heap.size W w1→wpList P ops Q rest (a.put o.dst (.pointer (some ⟨g,0,none⟩))) w1) (hd:o.dst=some N:=by rfl) (hgd:o.guard=none:=by rfl) (hrun:(execOp a.eval o).run P W = .ok (.value (.pointer (some ⟨W.heap.size,0,none⟩))) (W.alloc (.cells cs t (0,0))):=by first | (go_simp;done) | (go_simp;rfl)):wpList P ops Q (o :: rest) a W:=box_event hgd hd hrun h
theorem bs_ {Kc:Act→World→Prop} (N:Tmp) (cs:Array Value) (t:TypeId) (h:∀ g,g=W.heap.size→∀ w1,w1.heap[g]? = some (.cells cs t (0,0))→Below W.heap.size W w1→Kc (a.put o.dst (.pointer (some ⟨g,0,none⟩))) w1) (hd:o.dst=some N:=by rfl) (hw:Region.wanted o (yielded ops a.tmps)=true:=by rfl) (hrun:(execOp a.eval o).run P W = .ok (.value (.pointer (some ⟨W.heap.size,0,none⟩))) (W.alloc (.cells cs t (0,0))):=by first | (go_simp;done) | (go_simp;rfl)):if Region.wanted o (yielded ops a.tmps)=true then Oper.wp P o a W Kc Q else Kc (a.put o.dst undef) W:=box_step hw hd hrun h
theorem gl_ (N:Option Tmp) {f:FuncId} {fn:Func} {ars:Array Operand} {ts:Array TypeId} (hf:P.funcs[f]? = some fn) (args:Array Value) (h:Calls P f args W fun e w'=>∃ v,e = .returned v∧wpList P ops Q rest (a.put N v) w') (hd:o.dst=N:=by exact rfl) (hg:o.guard=none:=by exact rfl) (hname:(fn.name == "runtime.NumGoroutine")=false:=by kernel_rfl) (hb:fn.body.isSome=true:=by exact rfl) (hop:o.op = .call { callee:=.value (.func f),args:=ars,argTypes:=ts }:=by exact rfl) (hargs:ars.map a.eval=args:=by (try simp only [List.map_toArray,List.map_cons,List.map_nil]);first | done | rfl | (simp only [List.length_drop,List.length_take];rfl)):wpList P ops Q (o :: rest) a W:=goesL_ N hd hg hf hname hb args hop hargs h
theorem gs_ {N:Option Tmp} {K:Act→World→Prop} {f:FuncId} {fn:Func} {ars:Array Operand} {ts:Array TypeId} (hf:P.funcs[f]? = some fn) (args:Array Value) (h:Calls P f args W fun e w'=>∃ v,e = .returned v∧K (a.put N v) w') (hname:(fn.name == "runtime.NumGoroutine")=false:=by kernel_rfl) (hb:fn.body.isSome=true:=by exact rfl) (hw:Region.wanted o (yielded ops a.tmps)=true:=by rfl) (hN:o.dst=N:=by exact rfl) (hop:o.op = .call { callee:=.value (.func f),args:=ars,argTypes:=ts }:=by exact rfl) (hargs:ars.map a.eval=args:=by (try simp only [List.map_toArray,List.map_cons,List.map_nil]);first | done | rfl | (simp only [List.length_drop,List.length_take];rfl)):if Region.wanted o (yielded ops a.tmps)=true then Oper.wp P o a W K Q else K (a.put N undef) W:=goes_ hf hname hb args hw hN hop hargs h
end
theorem cc2_ {w:World} {g:Nat} {t:TypeId} {v0 v1:Value} (h:w.heap[g]? = some (.cells #[v0,v1] t (0,0))):w.cell? ⟨g,0,none⟩=some v0∧w.cell? ⟨g,1,none⟩=some v1:=⟨blk_cell h 0,blk_cell h 1⟩
theorem cj2_ {p:Prop} {w:World} {g:Nat} {t:TypeId} {v0 v1:Value} (h:w.heap[g]? = some (.cells #[v0,v1] t (0,0))) (r:p):w.cell? ⟨g,0,none⟩=some v0∧w.cell? ⟨g,1,none⟩=some v1∧p:=⟨blk_cell h 0,blk_cell h 1,r⟩
theorem cj3_ {p:Prop} {w:World} {g:Nat} {t:TypeId} {v0 v1 v2:Value} (h:w.heap[g]? = some (.cells #[v0,v1,v2] t (0,0))) (r:p):w.cell? ⟨g,0,none⟩=some v0∧w.cell? ⟨g,1,none⟩=some v1∧w.cell? ⟨g,2,none⟩=some v2∧p:=⟨blk_cell h 0,blk_cell h 1,blk_cell h 2,r⟩
theorem cc4_ {w:World} {g:Nat} {t:TypeId} {v0 v1 v2 v3:Value} (h:w.heap[g]? = some (.cells #[v0,v1,v2,v3] t (0,0))):w.cell? ⟨g,0,none⟩=some v0∧w.cell? ⟨g,1,none⟩=some v1∧w.cell? ⟨g,2,none⟩=some v2∧w.cell? ⟨g,3,none⟩=some v3:=⟨blk_cell h 0,blk_cell h 1,blk_cell h 2,blk_cell h 3⟩
theorem cj4_ {p:Prop} {w:World} {g:Nat} {t:TypeId} {v0 v1 v2 v3:Value} (h:w.heap[g]? = some (.cells #[v0,v1,v2,v3] t (0,0))) (r:p):w.cell? ⟨g,0,none⟩=some v0∧w.cell? ⟨g,1,none⟩=some v1∧w.cell? ⟨g,2,none⟩=some v2∧w.cell? ⟨g,3,none⟩=some v3∧p:=⟨blk_cell h 0,blk_cell h 1,blk_cell h 2,blk_cell h 3,r⟩
theorem blkB_ {W0 W W':World} {g:Nat} {o:Obj} (h:W0.heap[g]? = some o) (hb:Below W.heap.size W W') (f:W0.heap[g]? = some o→W.heap[g]? = some o:=by intro h_;(with_reducible repeat (first | refine blk_drewN ?_ _ | refine blk_drew ?_ | refine blk_alloc ?_ _));exact h_):W'.heap[g]? = some o:=blk_below (f h) hb
theorem neL_ {W0 W:World} {g b:Nat} {o:Obj} (h:W0.heap[b]? = some o) (hg:g=W.heap.size) (f:W0.heap[b]? = some o→W.heap[b]? = some o:=by intro h_;(with_reducible repeat (first | refine blk_drewN ?_ _ | refine blk_drew ?_ | refine blk_alloc ?_ _));exact h_):b≠g:=by rw [hg];exact Nat.ne_of_lt (blk_lt (f h))
theorem neG_ {W0 W:World} {g b:Nat} {o:Obj} (h:W0.heap[b]? = some o) (hg:g=W.heap.size) (f:W0.heap[b]? = some o→W.heap[b]? = some o:=by intro h_;(with_reducible repeat (first | refine blk_drewN ?_ _ | refine blk_drew ?_ | refine blk_alloc ?_ _));exact h_):g≠b:=by rw [hg];exact Nat.ne_of_gt (blk_lt (f h))
theorem cz1_ {w:World} {g:Nat} {t:TypeId} {v0:Value} (h:w.heap[g]? = some (.cells #[v0] t (0,0))):w.cell? ⟨g,0,none⟩=some v0∧w.frozen? ⟨g,0,none⟩=false:=⟨blk_cell h 0,blk_frozen h 0⟩
theorem cz2_ {w:World} {g:Nat} {t:TypeId} {v0 v1:Value} (h:w.heap[g]? = some (.cells #[v0,v1] t (0,0))):w.cell? ⟨g,0,none⟩=some v0∧w.cell? ⟨g,1,none⟩=some v1∧w.frozen? ⟨g,0,none⟩=false∧w.frozen? ⟨g,1,none⟩=false:=⟨blk_cell h 0,blk_cell h 1,blk_frozen h 0,blk_frozen h 1⟩
theorem cz3_ {w:World} {g:Nat} {t:TypeId} {v0 v1 v2:Value} (h:w.heap[g]? = some (.cells #[v0,v1,v2] t (0,0))):w.cell? ⟨g,0,none⟩=some v0∧w.cell? ⟨g,1,none⟩=some v1∧w.cell? ⟨g,2,none⟩=some v2∧w.frozen? ⟨g,0,none⟩=false∧w.frozen? ⟨g,1,none⟩=false∧w.frozen? ⟨g,2,none⟩=false:=⟨blk_cell h 0,blk_cell h 1,blk_cell h 2,blk_frozen h 0,blk_frozen h 1,blk_frozen h 2⟩
theorem cz4_ {w:World} {g:Nat} {t:TypeId} {v0 v1 v2 v3:Value} (h:w.heap[g]? = some (.cells #[v0,v1,v2,v3] t (0,0))):w.cell? ⟨g,0,none⟩=some v0∧w.cell? ⟨g,1,none⟩=some v1∧w.cell? ⟨g,2,none⟩=some v2∧w.cell? ⟨g,3,none⟩=some v3∧w.frozen? ⟨g,0,none⟩=false∧w.frozen? ⟨g,1,none⟩=false∧w.frozen? ⟨g,2,none⟩=false∧w.frozen? ⟨g,3,none⟩=false:=⟨blk_cell h 0,blk_cell h 1,blk_cell h 2,blk_cell h 3,blk_frozen h 0,blk_frozen h 1,blk_frozen h 2,blk_frozen h 3⟩
theorem put2_ {w:World} {g:Nat} {t:TypeId} {v0 v1 z0 z1:Value} (h:w.heap[g]? = some (.cells #[z0,z1] t (0,0))):((w.setCell ⟨g,0,none⟩ v0).setCell ⟨g,1,none⟩ v1).heap[g]? = some (.cells #[v0,v1] t (0,0)):=(blk_put (cs':=#[v0,v1]) (blk_put (cs':=#[v0,z1]) h 0 v0 rfl) 1 v1 rfl)
theorem rf2_ {α:Type} {d:Kd α} {e:TypeId} {w:World} {base g:Nat} {ok:Nat→Prop} {v:Value} {xs:List α} {v0 v1:Value} (h:d.R e w base ok v xs) (f:∀ k,ok k→k≠g):d.R e ((w.setCell ⟨g,0,none⟩ v0).setCell ⟨g,1,none⟩ v1) base ok v xs:=(Kd.R_far (p:=⟨g,1,none⟩) (Kd.R_far (p:=⟨g,0,none⟩) h f v0) f v1)
theorem put3_ {w:World} {g:Nat} {t:TypeId} {v0 v1 v2 z0 z1 z2:Value} (h:w.heap[g]? = some (.cells #[z0,z1,z2] t (0,0))):(((w.setCell ⟨g,0,none⟩ v0).setCell ⟨g,1,none⟩ v1).setCell ⟨g,2,none⟩ v2).heap[g]? = some (.cells #[v0,v1,v2] t (0,0)):=(blk_put (cs':=#[v0,v1,v2]) (blk_put (cs':=#[v0,v1,z2]) (blk_put (cs':=#[v0,z1,z2]) h 0 v0 rfl) 1 v1 rfl) 2 v2 rfl)
theorem rf3_ {α:Type} {d:Kd α} {e:TypeId} {w:World} {base g:Nat} {ok:Nat→Prop} {v:Value} {xs:List α} {v0 v1 v2:Value} (h:d.R e w base ok v xs) (f:∀ k,ok k→k≠g):d.R e (((w.setCell ⟨g,0,none⟩ v0).setCell ⟨g,1,none⟩ v1).setCell ⟨g,2,none⟩ v2) base ok v xs:=(Kd.R_far (p:=⟨g,2,none⟩) (Kd.R_far (p:=⟨g,1,none⟩) (Kd.R_far (p:=⟨g,0,none⟩) h f v0) f v1) f v2)
theorem z0_ {p:Prop} (f:p:=by first | (with_reducible assumption) | assumption):p:=f
theorem z1_ {a0 p:Prop} (h0:a0) (f:a0→p:=by intro h0_;(with_reducible repeat (first | apply Kd.R_alloc | apply Kd.R_drewN | apply Kd.R_drew));exact h0_):p:=f h0
theorem z2_ {p:Prop} (f:p:=by first | rfl | (simp;done) | (simp [*];done) | (simp [bne];done)):p:=f
theorem z3_ {a0 p:Prop} (h0:a0) (f:a0→p:=by intro h0_;(with_reducible repeat (first | refine blk_drewN ?_ _ | refine blk_drew ?_ | refine blk_alloc ?_ _));exact h0_):p:=f h0
theorem z4_ {a0 a1 a2 p:Prop} (h0:a0) (h1:a1) (h2:a2) (f:a0→a1→a2→p:=by intro h0_ h1_ h2_;repeat (first | (with_reducible first | exact h0_ | apply below_alloc | apply pw_below_drewN | apply below_drew1 | refine below_set ?_ h1_ | refine below_set ?_ h2_) | exact h0_)):p:=f h0 h1 h2
theorem z5_ {a0 p:Prop} (h0:a0) (f:a0→p:=by intro h0_;repeat (first | (with_reducible first | exact h0_ | apply below_alloc | apply pw_below_drewN | apply below_drew1) | exact h0_)):p:=f h0
theorem z6_ {p:Prop} (f:p:=by repeat (first | exact Drawn0.refl _ | apply Drawn0.step)):p:=f
theorem z7_ {a0 a1 p:Prop} (h0:a0) (h1:a1) (f:a0→a1→p:=by intro h0_ h1_;repeat (first | (with_reducible first | exact h0_ | apply below_alloc | apply pw_below_drewN | apply below_drew1 | refine below_set ?_ h1_) | exact h0_)):p:=f h0 h1
theorem z8_ {a0 p:Prop} (h0:a0) (f:a0→p:=by intro h0_;rw [hg];exact (below_size (by repeat (first | (with_reducible first | exact h0_ | apply below_alloc | apply pw_below_drewN | apply below_drew1) | exact h0_)))):p:=f h0
theorem z9_ {p:Prop} (f:p:=by first | rfl | (simp [errW_none,errW_some] <;> rfl) | (simp [*,errW_none,errW_some] <;> rfl)):p:=f
theorem z10_ {a0 p:Prop} (h0:a0) (f:a0→p:=by intro h0_;repeat (first | (with_reducible first | exact h0_ | apply Kept.alloc | apply Kept.drewN | apply Kept.drew) | exact h0_)):p:=f h0
theorem z11_ {a0 a1 p:Prop} (h0:a0) (h1:a1) (f:a0→a1→p:=by intro h0_ h1_;rw [hg];exact (below_size (by repeat (first | (with_reducible first | exact h0_ | apply below_alloc | apply pw_below_drewN | apply below_drew1 | refine below_set ?_ h1_) | exact h0_)))):p:=f h0 h1
theorem z12_ {a0 p:Prop} (h0:a0) (f:a0→p:=by intro h0_;repeat (first | (with_reducible first | exact h0_ | apply KeepBut.set_ | apply keep_drewN | apply keep_drew | apply keep_alloc) | exact h0_)):p:=f h0
theorem z13_ {a0 a1 a2 a3 p:Prop} (h0:a0) (h1:a1) (h2:a2) (h3:a3) (f:a0→a1→a2→a3→p:=by intro h0_ h1_ h2_ h3_;repeat (first | (with_reducible first | exact h0_ | apply below_alloc | apply pw_below_drewN | apply below_drew1 | refine below_set ?_ h1_ | refine below_set ?_ h2_ | refine below_set ?_ h3_) | exact h0_)):p:=f h0 h1 h2 h3
theorem z14_ {a0 a1 a2 a3 a4 p:Prop} (h0:a0) (h1:a1) (h2:a2) (h3:a3) (h4:a4) (f:a0→a1→a2→a3→a4→p:=by intro h0_ h1_ h2_ h3_ h4_;repeat (first | (with_reducible first | exact h0_ | apply below_alloc | apply pw_below_drewN | apply below_drew1 | refine below_set ?_ h1_ | refine below_set ?_ h2_ | refine below_set ?_ h3_ | refine below_set ?_ h4_) | exact h0_)):p:=f h0 h1 h2 h3 h4
theorem z15_ {a0 a1 p:Prop} (h0:a0) (h1:a1) (f:a0→a1→p:=by intro h0_ h1_;have:=h0_;have:=h1_;omega):p:=f h0 h1
theorem z16_ {a0 p:Prop} (h0:a0) (f:a0→p:=by intro h0_;repeat (first | (with_reducible first | exact h0_ | apply IsS108.alloc | apply IsS108.drewN | apply IsS108.drew | apply IsS108.set_1 | apply IsS108.set_2 | apply IsS108.set_3) | exact h0_)):p:=f h0
theorem z17_ {a0 a1 p:Prop} (h0:a0) (h1:a1) (f:a0→a1→p:=by intro h0_ h1_;repeat (first | (with_reducible first | exact h0_ | apply below_alloc | apply pw_below_drewN | apply below_drew1 | refine below_set ?_ (IsS108.ge h1_)) | exact h0_)):p:=f h0 h1
theorem z18_ {a0 a1 p:Prop} (h0:a0) (h1:a1) (f:a0→a1→p:=by intro h0_ h1_;repeat (first | (with_reducible first | exact h0_ | apply below_alloc | apply pw_below_drewN | apply below_drew1 | refine below_set ?_ (IsS3.ge h1_)) | exact h0_)):p:=f h0 h1
theorem z19_ {a0 a1 p:Prop} (h0:a0) (h1:a1) (f:a0→a1→p:=by intro h0_ h1_;(with_reducible repeat (first | refine blk_drewN ?_ _ | refine blk_drew ?_ | refine blk_alloc ?_ _));refine blk_far ?_ h0_ _;(with_reducible repeat (first | refine blk_drewN ?_ _ | refine blk_drew ?_ | refine blk_alloc ?_ _));refine blk_far ?_ h0_ _;(with_reducible repeat (first | refine blk_drewN ?_ _ | refine blk_drew ?_ | refine blk_alloc ?_ _));exact h1_):p:=f h0 h1
theorem z20_ {a0 p:Prop} (h0:a0) (f:a0→p:=by intro h0_;(with_reducible repeat (first | refine blk_drewN ?_ _ | refine blk_drew ?_ | refine blk_alloc ?_ _));apply put2_;(with_reducible repeat (first | refine blk_drewN ?_ _ | refine blk_drew ?_ | refine blk_alloc ?_ _));exact h0_):p:=f h0
theorem z21_ {a0 a1 p:Prop} (h0:a0) (h1:a1) (f:a0→a1→p:=by intro h0_ h1_;repeat (first | (with_reducible first | exact h0_ | apply KeepBut.set_ | apply keep_drewN | apply keep_drew | apply keep_alloc | refine keep_far ?_ h1_ _) | exact h0_)):p:=f h0 h1
theorem z22_ {a0 p:Prop} (h0:a0) (f:a0→p:=by intro h0_;have:=h0_;first | omega | exact Nat.le_refl _):p:=f h0
theorem z23_ {a0 a1 p:Prop} (h0:a0) (h1:a1) (f:a0→a1→p:=by intro h0_ h1_;(with_reducible repeat (first | apply Kd.R_alloc | apply Kd.R_drewN | apply Kd.R_drew));exact (Kd.R_mono (rf2_ (Kd.R_types h0_ h1_ (by decide)) (fun _ hk=>hk.2)) (fun _ h_=>h_.1))):p:=f h0 h1
theorem z24_ {a0 a1 a2 p:Prop} (h0:a0) (h1:a1) (h2:a2) (f:a0→a1→a2→p:=by intro h0_ h1_ h2_;repeat (first | (with_reducible first | exact h0_ | apply KeepBut.set_ | apply keep_drewN | apply keep_drew | apply keep_alloc | refine keep_far ?_ h1_ _ | refine keep_far ?_ h2_ _) | exact h0_)):p:=f h0 h1 h2
theorem z25_ {a0 p:Prop} (h0:a0) (f:a0→p:=by intro h0_;(try simp only [hl0_1]);(with_reducible repeat (first | apply Kd.R_alloc | apply Kd.R_drewN | apply Kd.R_drew));exact h0_):p:=f h0
theorem z26_ {p:Prop} (f:p:=by first | exact Kd.R_nil _ _ _ _ _ | exact Kd.N_nil _ _ _ _ _ | exact Kd.V_nil _ _ _ _ _ | exact Kd.Q_nil _ _ _ _ _ | exact Kd.S_nil _ _ _ _ _):p:=f
theorem z27_ {a0 a1 a2 p:Prop} (h0:a0) (h1:a1) (h2:a2) (f:a0→a1→a2→p:=by intro h0_ h1_ h2_;have:=h0_;have:=h1_;have:=h2_;first | omega | exact Nat.le_refl _):p:=f h0 h1 h2
theorem z28_ {a0 p:Prop} (h0:a0) (f:a0→p:=by intro h0_;repeat (first | (with_reducible first | exact h0_ | apply IsS3.alloc | apply IsS3.drewN | apply IsS3.drew | apply IsS3.set_0) | exact h0_)):p:=f h0
theorem z29_ {a0 p:Prop} (h0:a0) (f:a0→p:=by intro h0_;(try simp only [hl0_1]);(try simp only [hl0_5]);(with_reducible repeat (first | apply Kd.R_alloc | apply Kd.R_drewN | apply Kd.R_drew));exact h0_):p:=f h0
theorem z30_ {a0 a1 a2 p:Prop} (h0:a0) (h1:a1) (h2:a2) (f:a0→a1→a2→p:=by intro h0_ h1_ h2_;rw [hg];exact (below_size (by repeat (first | (with_reducible first | exact h0_ | apply below_alloc | apply pw_below_drewN | apply below_drew1 | refine below_set ?_ h1_ | refine below_set ?_ h2_) | exact h0_)))):p:=f h0 h1 h2
theorem z31_ {a0 a1 a2 p:Prop} (h0:a0) (h1:a1) (h2:a2) (f:a0→a1→a2→p:=by intro h0_ h1_ h2_;repeat (first | (with_reducible first | exact h0_ | apply below_alloc | apply pw_below_drewN | apply below_drew1 | refine below_set ?_ (IsS108.ge h1_) | refine below_set ?_ h2_) | exact h0_)):p:=f h0 h1 h2
theorem z32_ {a0 p:Prop} (h0:a0) (f:a0→p:=by intro h0_;(with_reducible repeat (first | apply Kd.R_alloc | apply Kd.R_drewN | apply Kd.R_drew));exact Kd.R_mono h0_ (fun _ hk=>⟨hk.1.1,⟨hk.1.2.1,hk.1.2.2⟩⟩)):p:=f h0
theorem z33_ {a0 p:Prop} (h0:a0) (f:a0→p:=by intro h0_;(with_reducible repeat (first | refine blk_drewN ?_ _ | refine blk_drew ?_ | refine blk_alloc ?_ _));apply put3_;(with_reducible repeat (first | refine blk_drewN ?_ _ | refine blk_drew ?_ | refine blk_alloc ?_ _));exact h0_):p:=f h0
theorem z34_ {a0 p:Prop} (h0:a0) (f:a0→p:=by intro h0_;repeat (first | (with_reducible exact h0_) | (with_reducible refine Kd.C_alloc ?_ _) | (with_reducible refine Kd.C_drewN ?_ _) | (with_reducible refine Kd.C_drew ?_) | exact h0_)):p:=f h0
theorem z35_ {a0 p:Prop} (h0:a0) (f:a0→p:=by intro h0_;(with_reducible repeat (first | apply Kd.R_alloc | apply Kd.R_drewN | apply Kd.R_drew));exact Kd.R_mono h0_ (fun _ hk=>⟨hk.1.2,hk.2⟩)):p:=f h0
theorem z36_ {a0 a1 p:Prop} (h0:a0) (h1:a1) (f:a0→a1→p:=by intro h0_ h1_;(with_reducible repeat (first | apply Kd.R_alloc | apply Kd.R_drewN | apply Kd.R_drew));exact Kd.R_mono (rf2_ (Kd.R_types h0_ h1_ (by decide)) (fun _ hk=>hk.2)) (fun _ hk=>trivial)):p:=f h0 h1
theorem z37_ {a0 p:Prop} (h0:a0) (f:a0→p:=by intro h0_;rw [hg];exact (keep_size (w:=w) (g:=g) (row:=none) (by repeat (first | (with_reducible first | exact h0_ | apply KeepBut.set_ | apply keep_drewN | apply keep_drew | apply keep_alloc) | exact h0_)))):p:=f h0
theorem z38_ {a0 a1 p:Prop} (h0:a0) (h1:a1) (f:a0→a1→p:=by intro h0_ h1_;repeat (first | (with_reducible first | exact h0_ | apply IsS108.alloc | apply IsS108.drewN | apply IsS108.drew | apply IsS108.set_1 | apply IsS108.set_2 | apply IsS108.set_3 | refine IsS108.far ?_ (by exact h1_) _) | exact h0_)):p:=f h0 h1
theorem z39_ {a0 a1 p:Prop} (h0:a0) (h1:a1) (f:a0→a1→p:=by intro h0_ h1_;rw [hg];exact (keep_size (w:=w) (g:=g) (row:=none) (by repeat (first | (with_reducible first | exact h0_ | apply KeepBut.set_ | apply keep_drewN | apply keep_drew | apply keep_alloc | refine keep_far ?_ h1_ _) | exact h0_)))):p:=f h0 h1
theorem z40_ {a0 a1 p:Prop} (h0:a0) (h1:a1) (f:a0→a1→p:=by intro h0_ h1_;repeat (first | (with_reducible first | exact h0_ | apply Kept.alloc | apply Kept.drewN | apply Kept.drew | refine Kept.setCell ?_ h1_ _ | refine Kept.setCell ?_ h1_ _ | refine Kept.setCell ?_ h1_ _ | refine Kept.setCell ?_ h1_ _) | exact h0_)):p:=f h0 h1
theorem z41_ {a0 a1 p:Prop} (h0:a0) (h1:a1) (f:a0→a1→p:=by intro h0_ h1_;repeat (first | (with_reducible first | exact h0_ | apply below_alloc | apply pw_below_drewN | apply below_drew1 | refine below_set ?_ h1_ | refine below_set ?_ h1_ | refine below_set ?_ h1_ | refine below_set ?_ h1_) | exact h0_)):p:=f h0 h1
theorem z42_ {p:Prop} (f:p:=by (try simp only [List.map_toArray,List.map_cons,List.map_nil]);first | done | rfl | (simp only [List.length_drop,List.length_take];rfl)):p:=f
theorem z43_ {a0 a1 p:Prop} (h0:a0) (h1:a1) (f:a0→a1→p:=by intro h0_ h1_;(with_reducible repeat (first | apply Kd.R_alloc | apply Kd.R_drewN | apply Kd.R_drew));exact (Kd.R_mono (rf3_ (Kd.R_types h0_ h1_ (by decide)) (fun _ hk=>hk.2)) (fun _ h_=>h_.1))):p:=f h0 h1
theorem z44_ {a0 a1 p:Prop} (h0:a0) (h1:a1) (f:a0→a1→p:=by intro h0_ h1_;(with_reducible repeat (first | refine blk_drewN ?_ _ | refine blk_drew ?_ | refine blk_alloc ?_ _));refine blk_far ?_ h0_ _;(with_reducible repeat (first | refine blk_drewN ?_ _ | refine blk_drew ?_ | refine blk_alloc ?_ _));exact h1_):p:=f h0 h1
theorem z45_ {a0 a1 a2 a3 p:Prop} (h0:a0) (h1:a1) (h2:a2) (h3:a3) (f:a0→a1→a2→a3→p:=by intro h0_ h1_ h2_ h3_;repeat (first | (with_reducible first | exact h0_ | apply below_alloc | apply pw_below_drewN | apply below_drew1 | refine below_set ?_ (IsS108.ge h1_) | refine below_set ?_ h2_ | refine below_set ?_ h3_) | exact h0_)):p:=f h0 h1 h2 h3
theorem z46_ {a0 p:Prop} (h0:a0) (f:a0→p:=by intro h0_;(with_reducible repeat (first | apply Kd.R_alloc | apply Kd.R_drewN | apply Kd.R_drew));exact Kd.R_mono h0_ (fun _ hk=>hk.2)):p:=f h0
theorem z47_ {a0 a1 a2 p:Prop} (h0:a0) (h1:a1) (h2:a2) (f:a0→a1→a2→p:=by intro h0_ h1_ h2_;repeat (first | (with_reducible first | exact h0_ | apply IsS108.alloc | apply IsS108.drewN | apply IsS108.drew | apply IsS108.set_1 | apply IsS108.set_2 | apply IsS108.set_3 | refine IsS108.far ?_ (by exact h1_) _ | refine IsS108.far ?_ (by exact h2_) _) | exact h0_)):p:=f h0 h1 h2
theorem z48_ {a0 p:Prop} (h0:a0) (f:a0→p:=by intro h0_;have h_:(x13_3:Int)<((y195.length:Int):Int):=dT (by first | (with_reducible assumption) | assumption);first | exact h_ | (have e_:=(Kd.R_reads' h0_).1;omega) | simpa using h_):p:=f h0
theorem z49_ {a0 p:Prop} (h0:a0) (f:a0→p:=by intro h0_;have h_:(x13_8:Int)<((x0_5.length:Int):Int):=dT (by first | (with_reducible assumption) | assumption);first | exact h_ | (have e_:=(Kd.R_reads' h0_).1;omega) | simpa using h_):p:=f h0
theorem z50_ {a0 a1 a2 a3 a4 a5 p:Prop} (h0:a0) (h1:a1) (h2:a2) (h3:a3) (h4:a4) (h5:a5) (f:a0→a1→a2→a3→a4→a5→p:=by intro h0_ h1_ h2_ h3_ h4_ h5_;repeat (first | (with_reducible first | exact h0_ | apply below_alloc | apply pw_below_drewN | apply below_drew1 | refine below_set ?_ (IsS108.ge h1_) | refine below_set ?_ h2_ | refine below_set ?_ h3_ | refine below_set ?_ h4_ | refine below_set ?_ h5_) | exact h0_)):p:=f h0 h1 h2 h3 h4 h5
theorem z51_ {a0 p:Prop} (h0:a0) (f:a0→p:=by intro h0_;(with_reducible repeat (first | apply Kd.R_alloc | apply Kd.R_drewN | apply Kd.R_drew));exact Kd.R_mono h0_ (fun _ hk=>⟨hk.2,hk.1⟩)):p:=f h0
theorem z52_ {a0 p:Prop} (h0:a0) (f:a0→p:=by intro h0_;rw [hg];exact Nat.ne_of_lt (IsS108.lt (show IsS108 w0 _ g s0_0 s0_1 s0_2 s0_3 from by repeat (first | (with_reducible first | exact h0_ | apply IsS108.alloc | apply IsS108.drewN | apply IsS108.drew | apply IsS108.set_1 | apply IsS108.set_2 | apply IsS108.set_3) | exact h0_)))):p:=f h0
theorem z53_ {a0 p:Prop} (h0:a0) (f:a0→p:=by intro h0_;rw [hg];exact Nat.ne_of_gt (IsS108.lt (show IsS108 w0 _ g s0_0 s0_1 s0_2 s0_3 from by repeat (first | (with_reducible first | exact h0_ | apply IsS108.alloc | apply IsS108.drewN | apply IsS108.drew | apply IsS108.set_1 | apply IsS108.set_2 | apply IsS108.set_3) | exact h0_)))):p:=f h0
theorem z54_ {a0 a1 p:Prop} (h0:a0) (h1:a1) (f:a0→a1→p:=by intro h0_ h1_;rw [hg];exact Nat.ne_of_lt (IsS108.lt (show IsS108 w0 _ g s0_0 t317 t318 t319 from by repeat (first | (with_reducible first | exact h0_ | apply IsS108.alloc | apply IsS108.drewN | apply IsS108.drew | apply IsS108.set_1 | apply IsS108.set_2 | apply IsS108.set_3 | refine IsS108.far ?_ (by exact h1_) _) | exact h0_)))):p:=f h0 h1
theorem z55_ {a0 a1 p:Prop} (h0:a0) (h1:a1) (f:a0→a1→p:=by intro h0_ h1_;rw [hg];exact Nat.ne_of_gt (IsS108.lt (show IsS108 w0 _ g s0_0 t317 t318 t319 from by repeat (first | (with_reducible first | exact h0_ | apply IsS108.alloc | apply IsS108.drewN | apply IsS108.drew | apply IsS108.set_1 | apply IsS108.set_2 | apply IsS108.set_3 | refine IsS108.far ?_ (by exact h1_) _) | exact h0_)))):p:=f h0 h1
theorem z56_ {a0 a1 a2 a3 a4 p:Prop} (h0:a0) (h1:a1) (h2:a2) (h3:a3) (h4:a4) (f:a0→a1→a2→a3→a4→p:=by intro h0_ h1_ h2_ h3_ h4_;repeat (first | (with_reducible first | exact h0_ | apply below_alloc | apply pw_below_drewN | apply below_drew1 | refine below_set ?_ (IsS108.ge h1_) | refine below_set ?_ h2_ | refine below_set ?_ h3_ | refine below_set ?_ h4_) | exact h0_)):p:=f h0 h1 h2 h3 h4
theorem z57_ {p:Prop} (f:p:=by have:(0:Int)<(a0.size:Int):=dT (by first | (with_reducible assumption) | assumption);omega):p:=f
theorem z58_ {a0 p:Prop} (h0:a0) (f:a0→p:=by intro h0_;(with_reducible repeat (first | refine blk_drewN ?_ _ | refine blk_drew ?_ | refine blk_alloc ?_ _));refine blk_put (cs:=#[.int .i64 0]) ?_ 0 _ rfl;(with_reducible repeat (first | refine blk_drewN ?_ _ | refine blk_drew ?_ | refine blk_alloc ?_ _));exact h0_):p:=f h0
end Go.Proofs.YtelecnmflodkkaaDoor.P

namespace Go.Proofs.YtelecnmflodkkaaDoor.Open
open Go.RowKit Go.Proofs.YtelecnmflodkkaaDoorW.PrintWords

def Opens {α:Type} (P:Program) (t:TypeId) (d:Kd α) (wf:α→Prop):Prop :=
  ∀ {H:Type} {enc:TypeId × Value→H} {W:World} {base:Nat} {spare:Nat→Bool} {held:Bool} {fuel:Nat} {cs:List Value} {x:DataW H × List MemPlace},
    DataW.trod enc P W base spare held fuel t cs=some x→∃ a:α,d.K W a cs∧wf a
section
variable {P:Program} {t e:TypeId} {α β:Type} {d:Kd α} {d':Kd β} {wf:α→Prop} {wf':β→Prop}
theorem opens_int {k:IntKind} (ht:P.underlying t=some (.int k)):Opens P t (Kd.int k) (fun n=>(Lit.int k n).wf=true):=by
  intro H enc W base spare held fuel cs x h
  obtain ⟨n,rfl,_,hw⟩:=DataW.trod_int ht h
  exact ⟨n,rfl,hw⟩
theorem add_add_ (a:Addr) (i j:Nat):(a.add i).add j=a.add (i+j):=by
  by_cases hi:i=0 <;> by_cases hj:j=0 <;> simp [Addr.add,hi,hj,Nat.add_assoc]
theorem cells_get {W:World} {base n:Nat} {a:Addr} {c:List Value} (h:W.cells? base a n=some c):c.length=n∧∀ i u,c[i]? = some u→W.cell? (a.add i)=some u:=by
  unfold World.cells? at h
  split at h
  · have hl:c.length=n:=by simpa using mapM_some_length h
    refine ⟨hl,fun i u hu=>?_⟩
    have hi:i<n:=by rw [← hl];exact (List.getElem?_eq_some_iff.1 hu).1
    have:=mapM_some_get h i i (by simp [hi])
    rw [this,hu]
  · cases h
theorem opens_slice (ht:P.underlying t=some (.slice e)) (hs:P.cellsOf e=d.sz) (he:Opens P e d wf):Opens P t (Kd.slice e d) (fun l=>l.length≤maxLen∧∀ x ∈ l,wf x):=by
  intro H enc W base spare held fuel cs x h
  rcases DataW.trod_slice ht h with ⟨rfl,_⟩ | ⟨a,len,cap,elems,rest,n,_,rfl,rfl,hb,hl,hm,hlen,hel,_,_⟩
  · exact ⟨[],⟨none,0,rfl,Nat.le_refl _,Kd.C_nil _ _⟩,by simp [maxLen],by simp⟩
  have each:∀ i:Fin len,∃ y:α,∃ c:List Value,c.length=d.sz∧d.K W y c∧wf y∧∀ j u,c[j]? = some u→W.cell? (a.add (i.1*d.sz+j))=some u:=by
    intro i
    have h1:=hel i.1 i.2
    have h2:elems[i.1]? = some (elems[i.1]'(by rw [hlen];exact i.2)):=List.getElem?_eq_getElem _
    rw [h2,Option.bind_eq_some_iff] at h1
    obtain ⟨c,hc,hy⟩:=h1
    obtain ⟨y,hk,hw⟩:=he hy
    obtain ⟨_,hc2⟩:=cells_get hc
    refine ⟨y,c,d.K_len hk,hk,hw,fun j u hu=>?_⟩
    have:=hc2 j u hu
    rwa [add_add_,hs] at this
  have L:(List.ofFn fun i:Fin len=>(each i).choose).length=len:=List.length_ofFn
  have G:∀ j p,(List.ofFn fun i:Fin len=>(each i).choose)[j]? = some p→∃ h:j<len,p=(each ⟨j,h⟩).choose:=by
    intro j p hp
    have hj:j<len:=by rw [← L];exact (List.getElem?_eq_some_iff.1 hp).1
    refine ⟨hj,?_⟩
    rw [List.getElem?_ofFn] at hp
    simp only [hj,dite_true,Option.some.injEq] at hp
    exact hp.symm
  refine ⟨List.ofFn fun i:Fin len=>(each i).choose,⟨some a,cap,by rw [L],by rw [L];exact hl,rfl,by rw [L];exact Nat.le_trans hl hm,fun _=>⟨a,rfl,fun j p hp=>?_⟩⟩,by rw [L];exact Nat.le_trans hl hm,fun p hp=>?_⟩
  · obtain ⟨hj,rfl⟩:=G j p hp
    obtain ⟨c,h1,h2,_,h4⟩:=(each ⟨j,hj⟩).choose_spec
    exact ⟨c,h1,h2,h4⟩
  · obtain ⟨j,hj0⟩:=List.getElem?_of_mem hp
    obtain ⟨hj,rfl⟩:=G j p hj0
    exact (each ⟨j,hj⟩).choose_spec.choose_spec.2.2.1
end
end Go.Proofs.YtelecnmflodkkaaDoor.Open

namespace Go.Proofs.YtelecnmflodkkaaDoor.P
open Go.RowKit Go.Proofs.YtelecnmflodkkaaDoorW.PrintWords Go.Proofs.YtelecnmflodkkaaDoorW.PrintLast Go.Proofs.YtelecnmflodkkaaDoorW.PrintMore
attribute [local go_sem] max2_int min2_int max_two min_two max_three min_three max_four min_four   -- for this text's walks alone
set_option linter.unusedVariables false
set_option linter.unusedSimpArgs false

/-- A state of type 108 at block g of W; what its slices lead to came in by w0. -/
def IsS108 (w0 W:World) (g:Nat) (f0:List Int) (f1:Int) (f2:Int) (f3:Int):Prop:=∃ A0 c0,W.heap[g]? = some (.cells #[.slice A0 f0.length c0,.int .i64 f1,.int .u64 f2,.int .i64 f3] 108 (0,0))∧w0.heap.size≤g∧Kd.C (Kd.int .u8) w0 A0 f0.length f0
theorem IsS108.grown {w0 W:World} {g:Nat} {f0:List Int} {f1:Int} {f2:Int} {f3:Int} {W1:World} {row:Option Nat} (h:IsS108 w0 W g f0 f1 f2 f3) (hw:W.grownBy W1 row) (hne:some g≠row):IsS108 w0 W1 g f0 f1 f2 f3:=by
 obtain ⟨A0,c0,hb,hg,hr0⟩:=h
 exact ⟨A0,c0,blk_grown hb hw hne,hg,hr0⟩
theorem IsS108.kept {w0 W:World} {g:Nat} {f0:List Int} {f1:Int} {f2:Int} {f3:Int} {W1:World} {S:Nat→Prop} (h:IsS108 w0 W g f0 f1 f2 f3) (hk:Kept W W1 S) (hne:¬ S g):IsS108 w0 W1 g f0 f1 f2 f3:=by
 obtain ⟨A0,c0,hb,hg,hr0⟩:=h
 exact ⟨A0,c0,blk_kept hb hk hne,hg,hr0⟩
theorem IsS108.below {w0 W:World} {g:Nat} {f0:List Int} {f1:Int} {f2:Int} {f3:Int} {W1:World} (h:IsS108 w0 W g f0 f1 f2 f3) (hw:Below W.heap.size W W1):IsS108 w0 W1 g f0 f1 f2 f3:=h.grown (grown_of_below hw none) (by simp)
theorem IsS108.alloc {w0 W:World} {g:Nat} {f0:List Int} {f1:Int} {f2:Int} {f3:Int} (h:IsS108 w0 W g f0 f1 f2 f3) (o:Obj):IsS108 w0 (W.alloc o) g f0 f1 f2 f3:=h.below (below_alloc (Below.refl _ _) o)
theorem IsS108.drewN {w0 W:World} {g:Nat} {f0:List Int} {f1:Int} {f2:Int} {f3:Int} (h:IsS108 w0 W g f0 f1 f2 f3) (m:Nat):IsS108 w0 (W.drewN m) g f0 f1 f2 f3:=h
theorem IsS108.drew {w0 W:World} {g:Nat} {f0:List Int} {f1:Int} {f2:Int} {f3:Int} (h:IsS108 w0 W g f0 f1 f2 f3):IsS108 w0 W.drew g f0 f1 f2 f3:=h
theorem IsS108.apart {w0 W:World} {g:Nat} {f0:List Int} {f1:Int} {f2:Int} {f3:Int} {α:Type} {d:Kd α} {e:Nat} {base:Nat} {ok:Nat→Prop} {v:Value} {xs:List α} (h:IsS108 w0 W g f0 f1 f2 f3) (ho:d.R e W base ok v xs) (ht:∀ q,q ∈ e :: d.E→q≠108):d.R e W base (fun k=>ok k∧k≠g) v xs:=by
 obtain ⟨A0,c0,hb,hg,hr0⟩:=h
 exact Kd.R_types ho hb ht
theorem IsS108.own_ne {w0 W:World} {g:Nat} {f0:List Int} {f1:Int} {f2:Int} {f3:Int} {α:Type} {d:Kd α} {e:Nat} {base:Nat} {ok:Nat→Prop} {v:Value} {xs:List α} (h:IsS108 w0 W g f0 f1 f2 f3) (ho:d.R e W base ok v xs) (ht:e≠108):some g≠v.ownBlock:=by
 obtain ⟨A0,c0,hb,hg,hr0⟩:=h
 exact Kd.R_ne ho hb ht
theorem IsS108.lt {w0 W:World} {g:Nat} {f0:List Int} {f1:Int} {f2:Int} {f3:Int} (h:IsS108 w0 W g f0 f1 f2 f3):g<W.heap.size:=by
 obtain ⟨A0,c0,hb,hg,hr0⟩:=h
 exact blk_lt hb
theorem IsS108.ge {w0 W:World} {g:Nat} {f0:List Int} {f1:Int} {f2:Int} {f3:Int} (h:IsS108 w0 W g f0 f1 f2 f3):w0.heap.size≤g:=by
 obtain ⟨A0,c0,hb,hg,hr0⟩:=h
 exact hg
theorem IsS108.ne_blk {w0 W:World} {g:Nat} {f0:List Int} {f1:Int} {f2:Int} {f3:Int} {a:Nat} {cs:Array Value} {t:TypeId} {fr:Nat × Nat} (h:IsS108 w0 W g f0 f1 f2 f3) (hb2:W.heap[a]? = some (.cells cs t fr)) (ht:t≠108):g≠a:=by
 obtain ⟨A0,c0,hb,hg,hr0⟩:=h
 rintro rfl
 rw [hb] at hb2
 injection hb2 with hb2
 injection hb2 with _ ht2
 exact ht ht2.symm
theorem IsS108.far {w0 W:World} {g:Nat} {f0:List Int} {f1:Int} {f2:Int} {f3:Int} {p:Addr} (h:IsS108 w0 W g f0 f1 f2 f3) (hne:g≠p.block) (u:Value):IsS108 w0 (W.setCell p u) g f0 f1 f2 f3:=by
 obtain ⟨A0,c0,hb,hg,hr0⟩:=h
 exact ⟨A0,c0,blk_far hb hne u,hg,hr0⟩
theorem cellS108_0 {W:World} {g:Nat} {A0:Option Addr} {c0:Nat} {f0:List Int} {f1:Int} {f2:Int} {f3:Int} (h:W.heap[g]? = some (.cells #[.slice A0 f0.length c0,.int .i64 f1,.int .u64 f2,.int .i64 f3] 108 (0,0))):W.cell? ⟨g,0,none⟩=some (.slice A0 f0.length c0):=(blk_cell h 0).trans rfl
theorem cellS108_1 {W:World} {g:Nat} {A0:Option Addr} {c0:Nat} {f0:List Int} {f1:Int} {f2:Int} {f3:Int} (h:W.heap[g]? = some (.cells #[.slice A0 f0.length c0,.int .i64 f1,.int .u64 f2,.int .i64 f3] 108 (0,0))):W.cell? ⟨g,1,none⟩=some (.int .i64 f1):=(blk_cell h 1).trans rfl
theorem IsS108.set_1 {w0 W:World} {g:Nat} {f0:List Int} {f1:Int} {f2:Int} {f3:Int} (h:IsS108 w0 W g f0 f1 f2 f3) (x:Int):IsS108 w0 (W.setCell ⟨g,1,none⟩ (.int .i64 x)) g f0 x f2 f3:=by
 obtain ⟨A0,c0,hb,hg,hr0⟩:=h
 exact ⟨A0,c0,by simpa using blk_set hb 1 (.int .i64 x),hg,hr0⟩
theorem cellS108_2 {W:World} {g:Nat} {A0:Option Addr} {c0:Nat} {f0:List Int} {f1:Int} {f2:Int} {f3:Int} (h:W.heap[g]? = some (.cells #[.slice A0 f0.length c0,.int .i64 f1,.int .u64 f2,.int .i64 f3] 108 (0,0))):W.cell? ⟨g,2,none⟩=some (.int .u64 f2):=(blk_cell h 2).trans rfl
theorem IsS108.set_2 {w0 W:World} {g:Nat} {f0:List Int} {f1:Int} {f2:Int} {f3:Int} (h:IsS108 w0 W g f0 f1 f2 f3) (x:Int):IsS108 w0 (W.setCell ⟨g,2,none⟩ (.int .u64 x)) g f0 f1 x f3:=by
 obtain ⟨A0,c0,hb,hg,hr0⟩:=h
 exact ⟨A0,c0,by simpa using blk_set hb 2 (.int .u64 x),hg,hr0⟩
theorem cellS108_3 {W:World} {g:Nat} {A0:Option Addr} {c0:Nat} {f0:List Int} {f1:Int} {f2:Int} {f3:Int} (h:W.heap[g]? = some (.cells #[.slice A0 f0.length c0,.int .i64 f1,.int .u64 f2,.int .i64 f3] 108 (0,0))):W.cell? ⟨g,3,none⟩=some (.int .i64 f3):=(blk_cell h 3).trans rfl
theorem IsS108.set_3 {w0 W:World} {g:Nat} {f0:List Int} {f1:Int} {f2:Int} {f3:Int} (h:IsS108 w0 W g f0 f1 f2 f3) (x:Int):IsS108 w0 (W.setCell ⟨g,3,none⟩ (.int .i64 x)) g f0 f1 f2 x:=by
 obtain ⟨A0,c0,hb,hg,hr0⟩:=h
 exact ⟨A0,c0,by simpa using blk_set hb 3 (.int .i64 x),hg,hr0⟩
/-! ### Y22: function 45 -/
mutual
def Y22.l0:Nat→List Int→Int→List Int→Int→Int→Int→Option (List Int × Int × Int × Int)
 | 0,_,_,_,_,_,_=>none
 | k+1,x0,x4,x305000,x305001,x305002,x305003=>if x4<(x0.length:Int) then (Y22.j1 k x0 x4 (decide (x4<64)) x305000 x305001 x305002 x305003) else (Y22.j1 k x0 x4 false x305000 x305001 x305002 x305003)
def Y22.j1:Nat→List Int→Int→Bool→List Int→Int→Int→Int→Option (List Int × Int × Int × Int)
 | 0,_,_,_,_,_,_,_=>none
 | k+1,x0,x4,x15,x305000,x305001,x305002,x305003=>if x15=true then (if 0≤x4 then (if x4<(x0.length:Int) then (Y22.l0 k x0 (wrap64 (x4+1)) x305000 x305001 (IntKind.u64.wrap ((Go.bits .xor .u64 x305002 (IntKind.u64.wrap (rd x0 x4)))*1099511628211)) x305003) else (none)) else (none)) else (if (wrap64 ((x0.length:Int) / 20))>12 then (some (x305000,x305001,x305002,12)) else (some (x305000,x305001,x305002,wrap64 ((x0.length:Int) / 20))))
end
def Y22.f (k:Nat) (l0:List Int):Option (List Int × Int × Int × Int):=Y22.l0 k l0 0 l0 0 88172645463325252 0
theorem Y22.mono_l:∀ k,(∀ y0 y1 y2 y3 y4 y5,LeO (Y22.l0 k y0 y1 y2 y3 y4 y5) (Y22.l0 (k+1) y0 y1 y2 y3 y4 y5))∧(∀ y0 y1 y2 y3 y4 y5 y6,LeO (Y22.j1 k y0 y1 y2 y3 y4 y5 y6) (Y22.j1 (k+1) y0 y1 y2 y3 y4 y5 y6))
 | 0=>by refine ⟨?_,?_⟩ <;> intros <;> exact LeO.none _
 | k+1=>by
  obtain ⟨ih0,ih1⟩:=Y22.mono_l k
  refine ⟨?_,?_⟩
  ·intros
   unfold Y22.l0
   exact mO
  ·intros
   unfold Y22.j1
   exact mO
theorem Y22.mono:∀ a0 k,LeO (Y22.f k a0) (Y22.f (k+1) a0):=by
 intro a0 k
 obtain ⟨ih0,ih1⟩:=Y22.mono_l k
 unfold Y22.f
 exact mO
def Y22.T5:Bool × List (List Nat × List Nat):=(true,[([],[]),([],[]),([1],[1]),([2],[2]),([3],[3]),([],[]),([],[]),([5,6],[5,6]),([7],[7]),([8],[8]),([4,9],[4,9]),([10],[10]),([0,0,1,2,3,4,5,6,7,8,9,10,11],[0]),([12,0,1,2,3,4,5,6,7,8,9,10,11],[12]),([13,11,0,1,2,3,4,5,6,7,8,9,10,11],[11,13])])
def Y22.B5:List Nat:=[0,0,2,6,14,0,0,96,224,480,1022,2046,4095,8191,16383]
theorem Y22.tab5:rtab .any (opsOf Tryd.f45 5)=Y22.T5:=by kernel_rfl
theorem Y22.bits5:waitsOk Y22.T5.2 Y22.B5=true:=by kernel_rfl
theorem Y22.calls (k:Nat) (A0:Option Addr) (c0:Nat) (l0:List Int) (r1:List Int) (r2:Int) (r3:Int) (r4:Int) (w0 w:World) (hB:Below w0.heap.size w0 w) (hr0:Kd.C (Kd.int .u8) w0 A0 l0.length l0) (hc0:l0.length≤c0) (h:Y22.f k l0=some (r1,r2,r3,r4)) :
  Calls Tryd.prog 45 #[.slice A0 l0.length c0] w fun e w'=>∃ g_:Nat,e = .returned (.pointer (some ⟨g_,0,none⟩))∧IsS108 w0 w' g_ r1 r2 r3 r4∧Below w0.heap.size w0 w'∧Below w.heap.size w w':=by
 have hu108:=Tryd.underlying108
 have HRZ0:=aM hr0;have HR0:=aM (Kd.C_below hr0 hB)
 have HC0:=aM hc0
 clear hr0 hc0
 have HW0:=aM hB.size
 have HBZ:=aM hB
 clear hB
 have HB:=aM (Below.refl w.heap.size w)
 have H:(Y22.l0 k l0 0 l0 0 88172645463325252 0)=some (r1,r2,r3,r4):=h
 clear h
 have H':=aM H
 clear H
 go_enter Tryd.func45,Tryd.ntmps45
 go_wp2_with (first | ((with_reducible refine gd_ 7 ?_);refine be_ 7 #[.slice A0 l0.length c0,.int .i64 0,.int .u64 88172645463325252,.int .i64 0] 108 ?_;intro gb304 hg w2 hbox hb;have n0_:=aM (below_step (z5_ HB.out) hb);have n1_:=aM (hbox);have n2_:=aM ((z8_ HB.out:w.heap.size≤gb304));have n3_:=aM ((z8_ HB.out:w.heap.size≤gb304));clear HB;have HB:=n0_;have BK304:=n1_;have GW304:=n2_;have GE304:=n3_;clear n0_ n1_ n2_ n3_;clear hb hbox hg))
 go_loopg [4] k (fun kq v4 w'=>∃ (x4_1:Int) (x305002_1:Int),v4 = .int .i64 x4_1∧Aside0 (Y22.l0 kq l0 x4_1 l0 0 x305002_1 0=some (r1,r2,r3,r4))∧Aside0 (kq≤k)∧Aside0 (w'.heap[gb304]? = some (.cells #[(.slice A0 l0.length c0),.int .i64 0,.int .u64 x305002_1,.int .i64 0] 108 (0,0)))∧Aside0 (Below w.heap.size w w'))
 case atStart=>exact ⟨(0),(88172645463325252),(z2_),H',⟨Nat.le_refl _⟩,⟨z3_ BK304.out⟩,⟨z7_ HB.out GE304.out⟩⟩
 case round =>
  clear H'
  try clear p2
  obtain ⟨x4_1,x305002_1,rfl,HA,HK1,BK304,HB⟩:=hrel
  cases gk with
  | zero=>exact absurd HA.out (by simp [Y22.l0])
  | succ k1 =>
   have H:=HA.out
   clear HA
   simp only [Y22.l0] at H
   have HC3:=aM H
   clear H
   go_upto_region 3 with (fail)
   go_cut [15] (fun v15 wc=>∃ (kq:Nat) (x15_2:Bool),v15 = .bool x15_2∧Aside0 (Y22.j1 kq l0 x4_1 x15_2 l0 0 x305002_1 0=some (r1,r2,r3,r4))∧Aside0 (kq≤k1)∧Aside0 (wc.heap[gb304]? = some (.cells #[(.slice A0 l0.length c0),.int .i64 0,.int .u64 x305002_1,.int .i64 0] 108 (0,0)))∧Aside0 (Below w.heap.size w wc))
   case first =>
    have H:=HC3.out
    clear HC3
    by_cases c4:x4_1<(l0.length:Int)
    ·rw [if_pos c4] at H
     have c4b0:decide (x4_1<(l0.length:Int))=true:=dE c4
     clear c4
     (first | rw [c4b0] | (simp only [i64_w,i32_w];rw [c4b0]) | skip)
     have H':=aM H
     clear H
     go_wp2
     go_meet
     case rel=>exact ⟨_,(decide (x4_1<64)),(z2_),H',⟨z22_ HK1.out⟩,⟨z3_ BK304.out⟩,⟨z7_ HB.out GE304.out⟩⟩
    ·rw [if_neg c4] at H
     have c4b0:decide (x4_1<(l0.length:Int))=false:=dF c4
     clear c4
     (first | rw [c4b0] | (simp only [i64_w,i32_w];rw [c4b0]) | skip)
     have H':=aM H
     clear H
     go_wp2
     go_meet
     case rel=>exact ⟨_,(false),(z2_),H',⟨z22_ HK1.out⟩,⟨z3_ BK304.out⟩,⟨z7_ HB.out GE304.out⟩⟩
   case rest =>
    clear HC3
    try clear p2
    try clear c4
    try clear c4b0
    try clear p2
    obtain ⟨kq,x15_2,rfl,HA,HJ2,BK304,HB⟩:=hcut
    cases kq with
    | zero=>exact absurd HA.out (by simp [Y22.j1])
    | succ kj2 =>
     have H:=HA.out
     clear HA
     simp only [Y22.j1] at H
     by_cases c5:x15_2=true
     ·subst c5
      have H1:(if 0≤x4_1 then (if x4_1<(l0.length:Int) then (Y22.l0 kj2 l0 (wrap64 (x4_1+1)) l0 0 (IntKind.u64.wrap ((Go.bits .xor .u64 x305002_1 (IntKind.u64.wrap (rd l0 x4_1)))*1099511628211)) 0) else (none)) else (none))=some (r1,r2,r3,r4):=by rw [if_pos rfl] at H;exact H
      clear H
      have H:=H1
      clear H1
      by_cases c6:0≤x4_1
      ·rw [if_pos c6] at H
       have c6b0:decide (0≤x4_1)=true:=dE c6
       clear c6
       by_cases c7:x4_1<(l0.length:Int)
       ·rw [if_pos c7] at H
        have c7b0:decide (x4_1<(l0.length:Int))=true:=dE c7
        clear c7
        have H':=aM H
        clear H
        try go_wp2
        have n0_:=aM (blk_drew BK304.out)
        have n1_:=aM (below_drew1 HB.out)
        clear BK304
        clear HB
        have BK304:=n0_
        have HB:=n1_
        clear n0_ n1_
        have p305:0≤(x4_1:Int):=dT (z0_)
        have q305:x4_1<(l0.length:Int):=dT (z0_)
        obtain ⟨ad305,e305,hx305_0⟩:=Kd.at_int HR0.out x4_1 p305 q305
        have hw305_0:=hx305_0
        cases e305
        replace hx305_0:=pw_cell_below HB.out hx305_0
        replace p305:=eq_true p305
        replace q305:=eq_true q305
        refine start_ (n:=15) (S:=fun w'=>w'.cell? ⟨gb304,0,none⟩=some (.slice (some ad305) l0.length c0)∧w'.cell? ⟨gb304,1,none⟩=some (.int .i64 0)∧w'.cell? ⟨gb304,2,none⟩=some (.int .u64 x305002_1)∧w'.cell? ⟨gb304,3,none⟩=some (.int .i64 0)∧w'.cell? (ad305.add (x4_1).toNat)=some (.int .u8 (rd l0 x4_1))) (ds:=[14]) #[O,O,O,O,O,O,O,O,O,O,O,O,O,O,O] (by kernel_rfl) rfl rfl (cj4_ BK304.out ((HB.out.cell (World.block_lt_of_cell? w _ hw305_0)).trans hw305_0)) (fun hHeld=>?_);refine with_tabW Y22.tab5 Y22.bits5 (fun HT_ HW_=>?_)
        generalize wc.drew=w8 at BK304 HB hx305_0 hHeld ⊢
        refine pu_ 0 18 #[I,O,O,O,O,O,O,O,O,O,O,O,O,O,O] HT_.out ?_
        refine pu_ 1 19 #[I,I,O,O,O,O,O,O,O,O,O,O,O,O,O] HT_.out ?_
        refine pu_ 2 20 #[I,I,I,O,O,O,O,O,O,O,O,O,O,O,O] HT_.out ?_
        refine pu_ 3 21 #[I,I,I,I,O,O,O,O,O,O,O,O,O,O,O] HT_.out ?_
        refine pu_ 5 23 #[I,I,I,I,O,I,O,O,O,O,O,O,O,O,O] HT_.out ?_
        refine pu_ 6 24 #[I,I,I,I,O,I,I,O,O,O,O,O,O,O,O] HT_.out ?_
        refine pu_ 7 25 #[I,I,I,I,O,I,I,I,O,O,O,O,O,O,O] HT_.out ?_
        refine tk5_ 4 22 #[I,I,I,I,I,I,I,I,O,O,O,O,O,O,O] HT_.out HW_.out hHeld ?_
        refine tk5_ 8 26 #[I,I,I,I,I,I,I,I,I,O,O,O,O,O,O] HT_.out HW_.out hHeld ?_
        refine pu_ 9 27 #[I,I,I,I,I,I,I,I,I,I,O,O,O,O,O] HT_.out ?_
        refine pu_ 10 28 #[I,I,I,I,I,I,I,I,I,I,I,O,O,O,O] HT_.out ?_
        refine pu_ 11 29 #[I,I,I,I,I,I,I,I,I,I,I,I,O,O,O] HT_.out ?_
        refine pu_ 12 30 #[I,I,I,I,I,I,I,I,I,I,I,I,I,O,O] HT_.out ?_
        refine pu_ 13 31 #[I,I,I,I,I,I,I,I,I,I,I,I,I,I,O] HT_.out ?_
        refine last_ (i:=14) (N:=none) #[I,I,I,I,I,I,I,I,I,I,I,I,I,I,I] rfl rfl (one_of HT_.out (by kernel_rfl)) (by decide) (fun K hK=>?_)
        have hs9:w8.cell? ⟨gb304,2,none⟩=some (.int .u64 x305002_1):=(blk_cell BK304.out 2).trans rfl
        have hfs9:=blk_frozen BK304.out 2
        refine skip_ (w1:=?_) (by rfl) rfl ?_ ?_
        rotate_left
        ·go_simp
         rfl
        refine hK.out _ _ ?_
        clear hK K
        refine done_ (done_of HT_.out (by kernel_rfl)) ?_
        try go_wp2
        go_roundg kj2
        case measure=>have:=HK1.out;have:=HJ2.out;omega
        case rel=>exact ⟨(wrap64 (x4_1+1)),(IntKind.u64.wrap ((Go.bits .xor .u64 x305002_1 (IntKind.u64.wrap (rd l0 x4_1)))*1099511628211)),(z2_),H',⟨z15_ HK1.out HJ2.out⟩,⟨by (with_reducible repeat (first | refine blk_drewN ?_ _ | refine blk_drew ?_ | refine blk_alloc ?_ _));refine blk_put (cs:=#[.slice (some ad305) l0.length c0,.int .i64 0,.int .u64 x305002_1,.int .i64 0]) ?_ 2 _ rfl;(with_reducible repeat (first | refine blk_drewN ?_ _ | refine blk_drew ?_ | refine blk_alloc ?_ _));exact BK304.out⟩,⟨z7_ HB.out GE304.out⟩⟩
       ·rw [if_neg c7] at H
        exact nO H
      ·rw [if_neg c6] at H
       exact nO H
     ·replace c5:=Bool.eq_false_iff.mpr c5
      subst c5
      have H1:(if (wrap64 ((l0.length:Int) / 20))>12 then (some (l0,0,x305002_1,12)) else (some (l0,0,x305002_1,wrap64 ((l0.length:Int) / 20))))=some (r1,r2,r3,r4):=by rw [if_neg (show ¬ (false=true) by decide)] at H;exact H
      clear H
      have H:=H1
      clear H1
      by_cases c10:(wrap64 ((l0.length:Int) / 20))>12
      ·rw [if_pos c10] at H
       have c10b0:decide (12<(wrap64 ((l0.length:Int) / 20)))=true:=dE c10
       clear c10
       simp only [Option.some.injEq,Prod.mk.injEq] at H
       obtain ⟨rfl,rfl,rfl,rfl⟩:=H
       have ⟨hcz11_0,hcz11_1,hcz11_2,hcz11_3,hfz11_0,hfz11_1,hfz11_2,hfz11_3⟩:=cz4_ BK304.out
       go_wp2
       go_ret
       exact ⟨_,rfl,(show IsS108 w0 _ gb304 l0 0 x305002_1 12 from ⟨_,_,by (with_reducible repeat (first | refine blk_drewN ?_ _ | refine blk_drew ?_ | refine blk_alloc ?_ _));refine blk_put (cs:=#[.slice A0 l0.length c0,.int .i64 0,.int .u64 x305002_1,.int .i64 (wrap64 ((l0.length:Int) / 20))]) ?_ 3 _ rfl;(with_reducible repeat (first | refine blk_drewN ?_ _ | refine blk_drew ?_ | refine blk_alloc ?_ _));refine blk_put (cs:=#[.slice A0 l0.length c0,.int .i64 0,.int .u64 x305002_1,.int .i64 0]) ?_ 3 _ rfl;(with_reducible repeat (first | refine blk_drewN ?_ _ | refine blk_drew ?_ | refine blk_alloc ?_ _));exact BK304.out,Nat.le_trans HW0.out GE304.out,HRZ0.out⟩),below_step HBZ.out (z7_ HB.out GE304.out),z7_ HB.out GE304.out⟩
      ·rw [if_neg c10] at H
       have c10b0:decide (12<(wrap64 ((l0.length:Int) / 20)))=false:=dF c10
       clear c10
       simp only [Option.some.injEq,Prod.mk.injEq] at H
       obtain ⟨rfl,rfl,rfl,rfl⟩:=H
       have ⟨hcz12_0,hcz12_1,hcz12_2,hcz12_3,hfz12_0,hfz12_1,hfz12_2,hfz12_3⟩:=cz4_ BK304.out
       go_wp2
       go_ret
       exact ⟨_,rfl,(show IsS108 w0 _ gb304 l0 0 x305002_1 (wrap64 ((l0.length:Int) / 20)) from ⟨_,_,by (with_reducible repeat (first | refine blk_drewN ?_ _ | refine blk_drew ?_ | refine blk_alloc ?_ _));refine blk_put (cs:=#[.slice A0 l0.length c0,.int .i64 0,.int .u64 x305002_1,.int .i64 0]) ?_ 3 _ rfl;(with_reducible repeat (first | refine blk_drewN ?_ _ | refine blk_drew ?_ | refine blk_alloc ?_ _));exact BK304.out,Nat.le_trans HW0.out GE304.out,HRZ0.out⟩),below_step HBZ.out (z7_ HB.out GE304.out),z7_ HB.out GE304.out⟩


/-! ### Y38: function 73 -/
def Y38.l0:Nat→ByteArray→Int→Int→Option (Int)
 | 0,_,_,_=>none
 | k+1,x0,x3,x4=>if x4<(x0.size:Int) then (if 0≤x4 then (Y38.l0 k x0 (Int.tmod (wrap64 ((Go.bits .xor .i64 x3 (wrap64 (bt x0 x4)))*16777619)) 4294967296) (wrap64 (x4+1))) else (none)) else (some x3)
def Y38.f (k:Nat) (a0:ByteArray):Option (Int):=Y38.l0 k a0 2166136261 0
theorem Y38.mono_l:∀ k,(∀ y0 y1 y2,LeO (Y38.l0 k y0 y1 y2) (Y38.l0 (k+1) y0 y1 y2))
 | 0=>by intros <;> exact LeO.none _
 | k+1=>by
  have ih0:=Y38.mono_l k
  ·intros
   unfold Y38.l0
   exact mO
theorem Y38.mono:∀ a0 k,LeO (Y38.f k a0) (Y38.f (k+1) a0):=by
 intro a0 k
 have ih0:=Y38.mono_l k
 unfold Y38.f
 exact mO
theorem Y38.calls (k:Nat) (a0:ByteArray) (r:Int) (w:World) (h:Y38.f k a0=some r) :
  Calls Tryd.prog 73 #[.string a0] w fun e w'=>e = .returned (.int .i64 r)∧Drawn0 w w':=by
 have H:(Y38.l0 k a0 2166136261 0)=some r:=h
 clear h
 have H':=aM H
 clear H
 go_enter Tryd.func73,Tryd.ntmps73
 go_wp2
 go_loopg [3,4] k (fun kq v3 v4 w'=>∃ (x3_1:Int) (x4_1:Int),v3 = .int .i64 x3_1∧v4 = .int .i64 x4_1∧Aside0 (Y38.l0 kq a0 x3_1 x4_1=some r)∧Aside0 (kq≤k)∧Drawn0 w w')
 case atStart=>exact ⟨(2166136261),(0),(z2_),(z2_),H',⟨Nat.le_refl _⟩,z6_⟩
 case round =>
  clear H'
  obtain ⟨x3_1,x4_1,rfl,rfl,HA,HK1,⟨m1,rfl⟩⟩:=hrel
  cases gk with
  | zero=>exact absurd HA.out (by simp [Y38.l0])
  | succ k1 =>
   have H:=HA.out
   clear HA
   simp only [Y38.l0] at H
   by_cases c2:x4_1<(a0.size:Int)
   ·rw [if_pos c2] at H
    have c2b0:decide (x4_1<(a0.size:Int))=true:=dE c2
    clear c2
    by_cases c3:0≤x4_1
    ·rw [if_pos c3] at H
     have c3b0:decide (0≤x4_1)=true:=dE c3
     clear c3
     have H':=aM H
     clear H
     have p4:0≤(x4_1:Int):=dT (z0_)
     have q4:x4_1<(a0.size:Int):=dT (z0_)
     have hx4:=bt_at a0 x4_1
     replace p4:=eq_true p4
     replace q4:=eq_true q4
     go_wp2
     go_roundg k1
     case measure=>have:=HK1.out;omega
     case rel=>exact ⟨(Int.tmod (wrap64 ((Go.bits .xor .i64 x3_1 (wrap64 (bt a0 x4_1)))*16777619)) 4294967296),(wrap64 (x4_1+1)),(z2_),(z2_),H',⟨by have:=HK1.out;omega⟩,z6_⟩
    ·rw [if_neg c3] at H
     exact nO H
   ·rw [if_neg c2] at H
    have c2b0:decide (x4_1<(a0.size:Int))=false:=dF c2
    clear c2
    obtain rfl:=sI H
    go_wp2
    go_ret
    exact ⟨z2_,z6_⟩


/-! ### Y39: function 74 -/
def Y39.l0:Nat→Int→Bool→ByteArray→Option (ByteArray)
 | 0,_,_,_=>none
 | k+1,x0,x3,x4=>if x0=0 then (if x3=true then (if 1+x4.size≤9223372036854775807 then (some ((⟨#[45]⟩:ByteArray) ++ x4)) else (none)) else (some x4)) else (if (Int.tmod x0 10)<0 then ((some (([(wrap64 (48+(wrap64 (-(Int.tmod x0 10))))) % 256]:List Int):List Int)).bind fun y102=>(if (strOfNums y102).size+x4.size≤9223372036854775807 then (Y39.l0 k (wrap64 (Int.tdiv x0 10)) x3 ((strOfNums y102) ++ x4)) else (none))) else ((some (([(wrap64 (48+(Int.tmod x0 10))) % 256]:List Int):List Int)).bind fun y105=>(if (strOfNums y105).size+x4.size≤9223372036854775807 then (Y39.l0 k (wrap64 (Int.tdiv x0 10)) x3 ((strOfNums y105) ++ x4)) else (none))))
def Y39.f (k:Nat) (a0:Int):Option (ByteArray):=if a0=0 then (some (⟨#[48]⟩:ByteArray)) else (Y39.l0 k a0 (decide (a0<0)) (⟨#[]⟩:ByteArray))
theorem Y39.mono_l:∀ k,(∀ y0 y1 y2,LeO (Y39.l0 k y0 y1 y2) (Y39.l0 (k+1) y0 y1 y2))
 | 0=>by intros <;> exact LeO.none _
 | k+1=>by
  have ih0:=Y39.mono_l k
  ·intros
   unfold Y39.l0
   exact mO
theorem Y39.mono:∀ a0 k,LeO (Y39.f k a0) (Y39.f (k+1) a0):=by
 intro a0 k
 have ih0:=Y39.mono_l k
 unfold Y39.f
 exact mO
theorem Y39.calls (k:Nat) (a0:Int) (r:ByteArray) (w:World) (h:Y39.f k a0=some r) :
  Calls Tryd.prog 74 #[.int .i64 a0] w fun e w'=>e = .returned (.string r)∧Below w.heap.size w w':=by
 have HB:=aM (Below.refl w.heap.size w)
 have H:(if a0=0 then (some (⟨#[48]⟩:ByteArray)) else (Y39.l0 k a0 (decide (a0<0)) (⟨#[]⟩:ByteArray)))=some r:=h
 clear h
 by_cases c2:a0=0
 ·rw [if_pos c2] at H
  have c2b0:(a0 == 0)=true:=beq_iff_eq.mpr c2
  have c2b1:(a0 != 0)=false:=bne_eq_false_iff_eq.mpr c2
  clear c2
  obtain rfl:=sI H
  go_enter Tryd.func74,Tryd.ntmps74
  go_wp2
  go_ret
  exact ⟨z9_,z5_ HB.out⟩
 ·rw [if_neg c2] at H
  have c2b0:(a0 == 0)=false:=beq_eq_false_iff_ne.mpr c2
  have c2b1:(a0 != 0)=true:=bne_iff_ne.mpr c2
  have H':=aM H
  clear H
  go_enter Tryd.func74,Tryd.ntmps74
  go_wp2
  go_loopg [0,4] k (fun kq v0 v4 w'=>∃ (x0_1:Int) (x4_1:ByteArray),v0 = .int .i64 x0_1∧v4 = .string x4_1∧Aside0 (Y39.l0 kq x0_1 (decide (a0<0)) x4_1=some r)∧Aside0 (kq≤k)∧Aside0 (Below w.heap.size w w'))
  case atStart=>exact ⟨(a0),((⟨#[]⟩:ByteArray)),(z2_),(z2_),H',⟨Nat.le_refl _⟩,⟨z5_ HB.out⟩⟩
  case round =>
   clear H'
   try clear c2
   try clear c2b0
   try clear c2b1
   try clear p2
   obtain ⟨x0_1,x4_1,rfl,rfl,HA,HK1,HB⟩:=hrel
   cases gk with
   | zero=>exact absurd HA.out (by simp [Y39.l0])
   | succ k1 =>
    have H:=HA.out
    clear HA
    simp only [Y39.l0] at H
    by_cases c3:x0_1=0
    ·rw [if_pos c3] at H
     have c3b0:(x0_1 == 0)=true:=beq_iff_eq.mpr c3
     have c3b1:(x0_1 != 0)=false:=bne_eq_false_iff_eq.mpr c3
     clear c3
     by_cases c4:(decide (a0<0))=true
     ·rw [if_pos c4] at H
      have c4b0:(decide (a0<0))=true:=c4
      have c4q0:(a0<0):=dT c4b0
      have c4q1:=eq_true c4q0
      clear c4
      by_cases c5:1+x4_1.size≤9223372036854775807
      ·rw [if_pos c5] at H
       have c5b0:=eq_true c5
       have c5b1:decide (1+x4_1.size≤9223372036854775807)=true:=dE c5
       try have c5b2:(9223372036854775807<1+x4_1.size)=False:=eq_false (Nat.not_lt.2 c5)
       obtain rfl:=sI H
       go_wp2
       go_ret
       exact ⟨z9_,z5_ HB.out⟩
      ·rw [if_neg c5] at H
       exact nO H
     ·rw [if_neg c4] at H
      have c4b0:(decide (a0<0))=false:=by simpa using c4
      have c4q0:¬ (a0<0):=of_decide_eq_false c4b0
      have c4q1:=eq_false c4q0
      clear c4
      obtain rfl:=sI H
      go_wp2
      go_ret
      exact ⟨z9_,z5_ HB.out⟩
    ·rw [if_neg c3] at H
     have c3b0:(x0_1 == 0)=false:=beq_eq_false_iff_ne.mpr c3
     have c3b1:(x0_1 != 0)=true:=bne_iff_ne.mpr c3
     by_cases c6:(Int.tmod x0_1 10)<0
     ·rw [if_pos c6] at H
      have c6b0:decide ((Int.tmod x0_1 10)<0)=true:=dE c6
      clear c6
      obtain ⟨y102,hy102⟩:∃ y_:List Int,y_=(([(wrap64 (48+(wrap64 (-(Int.tmod x0_1 10))))) % 256]:List Int)):=⟨_,rfl⟩
      replace H:(if (strOfNums y102).size+x4_1.size≤9223372036854775807 then (Y39.l0 k1 (wrap64 (Int.tdiv x0_1 10)) (decide (a0<0)) ((strOfNums y102) ++ x4_1)) else (none))=some r:=by first | (rw [hy102];with_reducible exact H) | (have H2_:=(Option.bind_some _ _).symm.trans H;rw [hy102];with_reducible exact H2_) | (have H2_:=(Option.bind_some _ _).symm.trans H;with_reducible exact H2_) | with_reducible exact H | (rw [hy102];exact H) | exact H
      have Ny102:=aM hy102
      clear hy102
      by_cases c7:(strOfNums y102).size+x4_1.size≤9223372036854775807
      ·rw [if_pos c7] at H
       have c7b0:=eq_true c7
       have c7b1:decide ((strOfNums y102).size+x4_1.size≤9223372036854775807)=true:=dE c7
       try have c7b2:(9223372036854775807<(strOfNums y102).size+x4_1.size)=False:=eq_false (Nat.not_lt.2 c7)
       have H':=aM H
       clear H
       go_wp2_with (first | ((with_reducible refine gd_ 21 ?_);refine Kd.R_lit (Kd.int .u8) _ 5 ?hg (N:=21) ?hd (xs:=([(wrap64 (48+(wrap64 (-(Int.tmod x0_1 10))))) % 256]:List Int)) (inner:=[.int .u8 ((wrap64 (48+(wrap64 (-(Int.tmod x0_1 10))))) % 256)]) (ok:=fun _=>True) (okp:=fun _=>True) ?hr ?hp (fun _ hk=>hk) trivial (Below.refl _ _) (Nat.le_refl _) (by simp) ?_;(case hd=>rfl);(case hg=>rfl);(case hr=>first | (go_simp;done) | (go_simp;rfl));(case hp=>exact (Reps.one (show Kd.M (Kd.int .u8) _ _ _ ((wrap64 (48+(wrap64 (-(Int.tmod x0_1 10))))) % 256) [.int .u8 ((wrap64 (48+(wrap64 (-(Int.tmod x0_1 10))))) % 256)] from rfl) (Reps.none _ _)));intro v103 w8 ho9 hb hg_ hnew_;clear hg_ hnew_;(first | rw [← Ny102.out] at ho9 | (simp only [Int.reduceToNat] at ho9;rw [← Ny102.out] at ho9));have n0_:=aM (Kd.R_lower ho9 (below_size (z5_ HB.out)));have n1_:=aM (below_step (z5_ HB.out) hb);clear HB;have HO104:=n0_;have HB:=n1_;clear n0_ n1_;clear hb ho9;have hcv10:=own_string (P:=Tryd.prog) Tryd.underlying31 Tryd.underlying5 Tryd.underlying9 (Kd.own_of_R HO104.out)))
       go_roundg k1
       case measure=>have:=HK1.out;omega
       case rel=>exact ⟨(wrap64 (Int.tdiv x0_1 10)),((strOfNums y102) ++ x4_1),(z2_),(z2_),H',⟨by have:=HK1.out;omega⟩,⟨z5_ HB.out⟩⟩
      ·rw [if_neg c7] at H
       exact nO H
     ·rw [if_neg c6] at H
      have c6b0:decide ((Int.tmod x0_1 10)<0)=false:=dF c6
      clear c6
      obtain ⟨y105,hy105⟩:∃ y_:List Int,y_=(([(wrap64 (48+(Int.tmod x0_1 10))) % 256]:List Int)):=⟨_,rfl⟩
      replace H:(if (strOfNums y105).size+x4_1.size≤9223372036854775807 then (Y39.l0 k1 (wrap64 (Int.tdiv x0_1 10)) (decide (a0<0)) ((strOfNums y105) ++ x4_1)) else (none))=some r:=by first | (rw [hy105];with_reducible exact H) | (have H2_:=(Option.bind_some _ _).symm.trans H;rw [hy105];with_reducible exact H2_) | (have H2_:=(Option.bind_some _ _).symm.trans H;with_reducible exact H2_) | with_reducible exact H | (rw [hy105];exact H) | exact H
      have Ny105:=aM hy105
      clear hy105
      by_cases c11:(strOfNums y105).size+x4_1.size≤9223372036854775807
      ·rw [if_pos c11] at H
       have c11b0:=eq_true c11
       have c11b1:decide ((strOfNums y105).size+x4_1.size≤9223372036854775807)=true:=dE c11
       try have c11b2:(9223372036854775807<(strOfNums y105).size+x4_1.size)=False:=eq_false (Nat.not_lt.2 c11)
       have H':=aM H
       clear H
       go_wp2_with (first | ((with_reducible refine gd_ 21 ?_);refine Kd.R_lit (Kd.int .u8) _ 5 ?hg (N:=21) ?hd (xs:=([(wrap64 (48+(Int.tmod x0_1 10))) % 256]:List Int)) (inner:=[.int .u8 ((wrap64 (48+(Int.tmod x0_1 10))) % 256)]) (ok:=fun _=>True) (okp:=fun _=>True) ?hr ?hp (fun _ hk=>hk) trivial (Below.refl _ _) (Nat.le_refl _) (by simp) ?_;(case hd=>rfl);(case hg=>rfl);(case hr=>first | (go_simp;done) | (go_simp;rfl));(case hp=>exact (Reps.one (show Kd.M (Kd.int .u8) _ _ _ ((wrap64 (48+(Int.tmod x0_1 10))) % 256) [.int .u8 ((wrap64 (48+(Int.tmod x0_1 10))) % 256)] from rfl) (Reps.none _ _)));intro v106 w12 ho13 hb hg_ hnew_;clear hg_ hnew_;(first | rw [← Ny105.out] at ho13 | (simp only [Int.reduceToNat] at ho13;rw [← Ny105.out] at ho13));have n0_:=aM (Kd.R_lower ho13 (below_size (z5_ HB.out)));have n1_:=aM (below_step (z5_ HB.out) hb);clear HB;have HO107:=n0_;have HB:=n1_;clear n0_ n1_;clear hb ho13;have hcv14:=own_string (P:=Tryd.prog) Tryd.underlying31 Tryd.underlying5 Tryd.underlying9 (Kd.own_of_R HO107.out)))
       go_roundg k1
       case measure=>have:=HK1.out;omega
       case rel=>exact ⟨(wrap64 (Int.tdiv x0_1 10)),((strOfNums y105) ++ x4_1),(z2_),(z2_),H',⟨by have:=HK1.out;omega⟩,⟨z5_ HB.out⟩⟩
      ·rw [if_neg c11] at H
       exact nO H


/-! ### Y18: function 40 -/
mutual
def Y18.l0:Nat→Int→Int→Int→Int→List (S77)→Option (Int × (List (S77)))
 | 0,_,_,_,_,_=>none
 | k+1,x0,x1,x6,x110000,x110001=>if x6≤x0 then (Y18.l1 k x0 x1 x6 1 x110000 x110001) else (some (x110000,x110001))
def Y18.l1:Nat→Int→Int→Int→Int→Int→List (S77)→Option (Int × (List (S77)))
 | 0,_,_,_,_,_,_=>none
 | k+1,x0,x1,x6,x7,x110000,x110001=>if x7≤x1 then ((Y39.f k x6).bind fun t110=>(if t110.size+1≤9223372036854775807 then ((Y39.f k x7).bind fun t111=>(if (t110.size+1)+t111.size≤9223372036854775807 then ((Y38.f k ((t110 ++ (⟨#[45]⟩:ByteArray)) ++ t111)).bind fun t112=>(Y18.l2 k x0 x1 x6 x7 0 x110000 x110001 t112 x6)) else (none))) else (none))) else (Y18.l0 k x0 x1 (wrap64 (x6+1)) x110000 x110001)
def Y18.l2:Nat→Int→Int→Int→Int→Int→Int→List (S77)→Int→Int→Option (Int × (List (S77)))
 | 0,_,_,_,_,_,_,_,_,_=>none
 | k+1,x0,x1,x6,x7,x9,x110000,x110001,x114000,x114001=>if x9<(x110001.length:Int) then (if 0≤x9 then (if ((rd_T77 x110001 x9).f0)<x114000 then (Y18.j3 k x0 x1 x6 x7 x9 true x110000 x110001 x114000 x114001) else (if ((rd_T77 x110001 x9).f0)=x114000 then (Y18.j3 k x0 x1 x6 x7 x9 (decide (((rd_T77 x110001 x9).f1)<x114001)) x110000 x110001 x114000 x114001) else (Y18.j3 k x0 x1 x6 x7 x9 false x110000 x110001 x114000 x114001))) else (none)) else (Y18.j3 k x0 x1 x6 x7 x9 false x110000 x110001 x114000 x114001)
def Y18.j3:Nat→Int→Int→Int→Int→Int→Bool→Int→List (S77)→Int→Int→Option (Int × (List (S77)))
 | 0,_,_,_,_,_,_,_,_,_,_=>none
 | k+1,x0,x1,x6,x7,x9,x69,x110000,x110001,x114000,x114001=>if x69=true then (Y18.l2 k x0 x1 x6 x7 (wrap64 (x9+1)) x110000 x110001 x114000 x114001) else ((some (([]:List (S77)):List (S77))).bind fun y117=>(if 0≤x9 then (if x9≤(x110001.length:Int) then ((some (x110001.take (x9:Int).toNat:List (S77))).bind fun y120=>(if y117.length+y120.length<8796093022208 then ((some (y117 ++ y120:List (S77))).bind fun y124=>(if y124.length<8796093022208 then ((some (y124 ++ [(⟨x114000,x114001⟩:S77)]:List (S77))).bind fun y127=>((some (x110001.drop (x9:Int).toNat:List (S77))).bind fun y130=>(if y127.length+y130.length<8796093022208 then (Y18.l1 k x0 x1 x6 (wrap64 (x7+1)) x110000 (y127 ++ y130)) else (none)))) else (none))) else (none))) else (none)) else (none)))
end
def Y18.f (k:Nat) (a0:Int) (a1:Int):Option (Int × (List (S77))):=Y18.l0 k a0 a1 1 a0 ([]:List (S77))
theorem Y18.mono_l:∀ k,(∀ y0 y1 y2 y3 y4,LeO (Y18.l0 k y0 y1 y2 y3 y4) (Y18.l0 (k+1) y0 y1 y2 y3 y4))∧(∀ y0 y1 y2 y3 y4 y5,LeO (Y18.l1 k y0 y1 y2 y3 y4 y5) (Y18.l1 (k+1) y0 y1 y2 y3 y4 y5))∧(∀ y0 y1 y2 y3 y4 y5 y6 y7 y8,LeO (Y18.l2 k y0 y1 y2 y3 y4 y5 y6 y7 y8) (Y18.l2 (k+1) y0 y1 y2 y3 y4 y5 y6 y7 y8))∧(∀ y0 y1 y2 y3 y4 y5 y6 y7 y8 y9,LeO (Y18.j3 k y0 y1 y2 y3 y4 y5 y6 y7 y8 y9) (Y18.j3 (k+1) y0 y1 y2 y3 y4 y5 y6 y7 y8 y9))
 | 0=>by refine ⟨?_,?_,?_,?_⟩ <;> intros <;> exact LeO.none _
 | k+1=>by
  obtain ⟨ih0,ih1,ih2,ih3⟩:=Y18.mono_l k
  have m0:=@Y39.mono
  have m1:=@Y38.mono
  refine ⟨?_,?_,?_,?_⟩
  ·intros
   unfold Y18.l0
   exact mO
  ·intros
   unfold Y18.l1
   exact mO
  ·intros
   unfold Y18.l2
   exact mO
  ·intros
   unfold Y18.j3
   exact mO
theorem Y18.mono:∀ a0 a1 k,LeO (Y18.f k a0 a1) (Y18.f (k+1) a0 a1):=by
 intro a0 a1 k
 have m0:=@Y39.mono
 have m1:=@Y38.mono
 obtain ⟨ih0,ih1,ih2,ih3⟩:=Y18.mono_l k
 unfold Y18.f
 exact mO
theorem Y18.calls (k:Nat) (a0:Int) (a1:Int) (r1:Int) (r2:List (S77)) (w:World) (h:Y18.f k a0 a1=some (r1,r2)) :
  Calls Tryd.prog 40 #[.int .i64 a0,.int .i64 a1] w fun e w'=>∃ v1_:Value,e = .returned (.agg #[.int .i64 r1,v1_])∧Kd.R k77 77 w' w.heap.size (fun _=>True) v1_ r2∧Below w.heap.size w w':=by
 have hu24:=Tryd.underlying24
 have hu77:=Tryd.underlying77
 have HB:=aM (Below.refl w.heap.size w)
 have H:(Y18.l0 k a0 a1 1 a0 ([]:List (S77)))=some (r1,r2):=h
 clear h
 have H':=aM H
 clear H
 go_enter Tryd.func40,Tryd.ntmps40
 go_wp2_with (first | ((with_reducible refine gd_ 4 ?_);refine be_ 4 #[.int .i64 0,.slice none 0 0] 24 ?_;intro gb108 hg w3 hbox hb;have n0_:=aM (below_step (z5_ HB.out) hb);have n1_:=aM (hbox);have n2_:=aM ((z8_ HB.out:w.heap.size≤gb108));have n3_:=aM ((z8_ HB.out:w.heap.size≤gb108));clear HB;have HB:=n0_;have BK108:=n1_;have GW108:=n2_;have GE108:=n3_;clear n0_ n1_ n2_ n3_;clear hb hbox hg) | ((with_reducible refine gd_ 5 ?_);refine be_ 5 #[.int .i64 0,.slice none 0 0] 24 ?_;intro gb109 hg w4 hbox hb;have n0_:=aM (blkB_ BK108.out hb);have n1_:=aM (below_step (z7_ HB.out GE108.out) hb);have n2_:=aM (hbox);have n3_:=aM ((z11_ HB.out GE108.out:w.heap.size≤gb109));have n4_:=aM ((z11_ HB.out GE108.out:w.heap.size≤gb109));have n5_:=aM (neL_ BK108.out hg);have n6_:=aM (neG_ BK108.out hg);clear BK108;clear HB;have BK108:=n0_;have HB:=n1_;have BK109:=n2_;have GW109:=n3_;have GE109:=n4_;have NB108_109:=n5_;have NB109_108:=n6_;clear n0_ n1_ n2_ n3_ n4_ n5_ n6_;clear hb hbox hg;have hnb5:=NB109_108.out;have hnc5:=NB108_109.out;have ⟨hcz6_0,hcz6_1,hfz6_0,hfz6_1⟩:=cz2_ BK109.out))
 repeat (go_quiet (first | ((with_reducible refine gd_ 4 ?_);refine be_ 4 #[.int .i64 0,.slice none 0 0] 24 ?_;intro gb108 hg w3 hbox hb;have n0_:=aM (below_step (z5_ HB.out) hb);have n1_:=aM (hbox);have n2_:=aM ((z8_ HB.out:w.heap.size≤gb108));have n3_:=aM ((z8_ HB.out:w.heap.size≤gb108));clear HB;have HB:=n0_;have BK108:=n1_;have GW108:=n2_;have GE108:=n3_;clear n0_ n1_ n2_ n3_;clear hb hbox hg) | ((with_reducible refine gd_ 5 ?_);refine be_ 5 #[.int .i64 0,.slice none 0 0] 24 ?_;intro gb109 hg w4 hbox hb;have n0_:=aM (blkB_ BK108.out hb);have n1_:=aM (below_step (z7_ HB.out GE108.out) hb);have n2_:=aM (hbox);have n3_:=aM ((z11_ HB.out GE108.out:w.heap.size≤gb109));have n4_:=aM ((z11_ HB.out GE108.out:w.heap.size≤gb109));have n5_:=aM (neL_ BK108.out hg);have n6_:=aM (neG_ BK108.out hg);clear BK108;clear HB;have BK108:=n0_;have HB:=n1_;have BK109:=n2_;have GW109:=n3_;have GE109:=n4_;have NB108_109:=n5_;have NB109_108:=n6_;clear n0_ n1_ n2_ n3_ n4_ n5_ n6_;clear hb hbox hg;have hnb5:=NB109_108.out;have hnc5:=NB108_109.out;have ⟨hcz6_0,hcz6_1,hfz6_0,hfz6_1⟩:=cz2_ BK109.out));try go_wp2_with (first | ((with_reducible refine gd_ 4 ?_);refine be_ 4 #[.int .i64 0,.slice none 0 0] 24 ?_;intro gb108 hg w3 hbox hb;have n0_:=aM (below_step (z5_ HB.out) hb);have n1_:=aM (hbox);have n2_:=aM ((z8_ HB.out:w.heap.size≤gb108));have n3_:=aM ((z8_ HB.out:w.heap.size≤gb108));clear HB;have HB:=n0_;have BK108:=n1_;have GW108:=n2_;have GE108:=n3_;clear n0_ n1_ n2_ n3_;clear hb hbox hg) | ((with_reducible refine gd_ 5 ?_);refine be_ 5 #[.int .i64 0,.slice none 0 0] 24 ?_;intro gb109 hg w4 hbox hb;have n0_:=aM (blkB_ BK108.out hb);have n1_:=aM (below_step (z7_ HB.out GE108.out) hb);have n2_:=aM (hbox);have n3_:=aM ((z11_ HB.out GE108.out:w.heap.size≤gb109));have n4_:=aM ((z11_ HB.out GE108.out:w.heap.size≤gb109));have n5_:=aM (neL_ BK108.out hg);have n6_:=aM (neG_ BK108.out hg);clear BK108;clear HB;have BK108:=n0_;have HB:=n1_;have BK109:=n2_;have GW109:=n3_;have GE109:=n4_;have NB108_109:=n5_;have NB109_108:=n6_;clear n0_ n1_ n2_ n3_ n4_ n5_ n6_;clear hb hbox hg;have hnb5:=NB109_108.out;have hnc5:=NB108_109.out;have ⟨hcz6_0,hcz6_1,hfz6_0,hfz6_1⟩:=cz2_ BK109.out)))
 go_loopg [6] k (fun kq v6 w'=>∃ (x6_1:Int) (x110001_1:List (S77)) (u110001:Value),v6 = .int .i64 x6_1∧Aside0 (Y18.l0 kq a0 a1 x6_1 a0 x110001_1=some (r1,r2))∧Aside0 (kq≤k)∧Aside0 (Kd.R k77 77 w' w.heap.size (fun _=>True) u110001 x110001_1)∧Aside0 (w'.heap[gb108]? = some (.cells #[.int .i64 0,(.slice none 0 0)] 24 (0,0)))∧Aside0 (w'.heap[gb109]? = some (.cells #[.int .i64 a0,u110001] 24 (0,0)))∧Aside0 (Below w.heap.size w w'))
 case atStart=>exact ⟨(1),(([]:List (S77))),(.slice none 0 0),(z2_),H',⟨Nat.le_refl _⟩,⟨z26_⟩,⟨z19_ NB108_109.out BK108.out⟩,⟨z20_ BK109.out⟩,⟨z4_ HB.out GE108.out GE109.out⟩⟩
 case round =>
  clear H'
  try clear p2
  try clear c4
  try clear c5
  try clear hcz6_0
  try clear hcz6_1
  try clear hfz6_0
  try clear hfz6_1
  obtain ⟨x6_1,x110001_1,u110001,rfl,HA,HK1,HO_110001,BK108,BK109,HB⟩:=hrel
  cases gk with
  | zero=>exact absurd HA.out (by simp [Y18.l0])
  | succ k1 =>
   have H:=HA.out
   clear HA
   simp only [Y18.l0] at H
   by_cases c7:x6_1≤a0
   ·rw [if_pos c7] at H
    have c7b0:decide (x6_1≤a0)=true:=dE c7
    clear c7
    have H':=aM H
    clear H
    go_wp2
    repeat (go_quiet (fail);try go_wp2)
    go_loopg [7] k1 (fun kq v7 w'=>∃ (x7_2:Int) (x110001_2:List (S77)) (u110001:Value),v7 = .int .i64 x7_2∧Aside0 (Y18.l1 kq a0 a1 x6_1 x7_2 a0 x110001_2=some (r1,r2))∧Aside0 (kq≤k1)∧Aside0 (Kd.R k77 77 w' w.heap.size (fun _=>True) u110001 x110001_2)∧Aside0 (w'.heap[gb108]? = some (.cells #[.int .i64 0,(.slice none 0 0)] 24 (0,0)))∧Aside0 (w'.heap[gb109]? = some (.cells #[.int .i64 a0,u110001] 24 (0,0)))∧Aside0 (Below w.heap.size w w'))
    case atStart=>exact ⟨(1),(x110001_1),(u110001),(z2_),H',⟨Nat.le_refl _⟩,⟨z1_ HO_110001.out⟩,⟨z3_ BK108.out⟩,⟨z3_ BK109.out⟩,⟨z4_ HB.out GE108.out GE109.out⟩⟩
    case round =>
     clear H'
     try clear p2
     try clear c4
     try clear c5
     try clear c7
     try clear c7b0
     try clear hcz6_0
     try clear hcz6_1
     try clear hfz6_0
     try clear hfz6_1
     try clear p2
     obtain ⟨x7_2,x110001_2,u110001,rfl,HA,HK2,HO_110001,BK108,BK109,HB⟩:=hrel
     cases gk with
     | zero=>exact absurd HA.out (by simp [Y18.l1])
     | succ k2 =>
      have H:=HA.out
      clear HA
      simp only [Y18.l1] at H
      by_cases c8:x7_2≤a1
      ·rw [if_pos c8] at H
       have c8b0:decide (x7_2≤a1)=true:=dE c8
       clear c8
       replace H:=bS H
       obtain ⟨t110,A90,H⟩:=H
       replace H:(if t110.size+1≤9223372036854775807 then ((Y39.f k2 x7_2).bind fun t111=>(if (t110.size+1)+t111.size≤9223372036854775807 then ((Y38.f k2 ((t110 ++ (⟨#[45]⟩:ByteArray)) ++ t111)).bind fun t112=>(Y18.l2 k2 a0 a1 x6_1 x7_2 0 a0 x110001_2 t112 x6_1)) else (none))) else (none))=some (r1,r2):=H
       have A9:=aM A90
       clear A90
       by_cases c10:t110.size+1≤9223372036854775807
       ·rw [if_pos c10] at H
        have c10b0:=eq_true c10
        have c10b1:decide (t110.size+1≤9223372036854775807)=true:=dE c10
        try have c10b2:(9223372036854775807<t110.size+1)=False:=eq_false (Nat.not_lt.2 c10)
        replace H:=bS H
        obtain ⟨t111,A110,H⟩:=H
        replace H:(if (t110.size+1)+t111.size≤9223372036854775807 then ((Y38.f k2 ((t110 ++ (⟨#[45]⟩:ByteArray)) ++ t111)).bind fun t112=>(Y18.l2 k2 a0 a1 x6_1 x7_2 0 a0 x110001_2 t112 x6_1)) else (none))=some (r1,r2):=H
        have A11:=aM A110
        clear A110
        by_cases c12:(t110.size+1)+t111.size≤9223372036854775807
        ·rw [if_pos c12] at H
         have c12b0:=eq_true c12
         have c12b1:decide ((t110.size+1)+t111.size≤9223372036854775807)=true:=dE c12
         try have c12b2:(9223372036854775807<(t110.size+1)+t111.size)=False:=eq_false (Nat.not_lt.2 c12)
         replace H:=bS H
         obtain ⟨t112,A130,H⟩:=H
         replace H:(Y18.l2 k2 a0 a1 x6_1 x7_2 0 a0 x110001_2 t112 x6_1)=some (r1,r2):=H
         have A13:=aM A130
         clear A130
         have H':=aM H
         clear H
         go_wp2_with (first | (go_at_call 74;(with_reducible refine (Y39.calls k2 x6_1 t110 _ A9.out).mono ?_);rintro e w14 ⟨rfl,hb⟩;have n0_:=aM (Kd.R_below (z1_ HO_110001.out) hb);have n1_:=aM (blkB_ BK108.out hb);have n2_:=aM (blkB_ BK109.out hb);have n3_:=aM (below_step (z4_ HB.out GE108.out GE109.out) hb);clear HO_110001;clear BK108;clear BK109;clear HB;have HO_110001:=n0_;have BK108:=n1_;have BK109:=n2_;have HB:=n3_;clear n0_ n1_ n2_ n3_;(try clear hb)) | (go_at_call 74;(with_reducible refine (Y39.calls k2 x7_2 t111 _ A11.out).mono ?_);rintro e w15 ⟨rfl,hb⟩;have n0_:=aM (Kd.R_below (z1_ HO_110001.out) hb);have n1_:=aM (blkB_ BK108.out hb);have n2_:=aM (blkB_ BK109.out hb);have n3_:=aM (below_step (z4_ HB.out GE108.out GE109.out) hb);clear HO_110001;clear BK108;clear BK109;clear HB;have HO_110001:=n0_;have BK108:=n1_;have BK109:=n2_;have HB:=n3_;clear n0_ n1_ n2_ n3_;(try clear hb)) | (go_at_call 73;(with_reducible refine (Y38.calls k2 ((t110 ++ (⟨#[45]⟩:ByteArray)) ++ t111) t112 _ A13.out).mono ?_);rintro e w' ⟨rfl,⟨nd,rfl⟩⟩;(try first | exact ⟨rfl,_,World.drewN_drewN _ _ _⟩ | exact ⟨rfl,_,Eq.trans (World.drewN_drewN _ _ _) (congrArg (World.drewN _) (Nat.add_assoc _ _ _))⟩)) | ((with_reducible refine gd_ 8 ?_);refine be_ 8 #[.int .i64 0,.int .i64 0] 77 ?_;intro gb113 hg w16 hbox hb;have n0_:=aM (Kd.R_below (Kd.R_elderB (z1_ HO_110001.out) gb113 (Nat.le_of_eq hg.symm)) hb);have n1_:=aM (blkB_ BK108.out hb);have n2_:=aM (blkB_ BK109.out hb);have n3_:=aM (below_step (z4_ HB.out GE108.out GE109.out) hb);have n4_:=aM (hbox);have n5_:=aM ((z30_ HB.out GE108.out GE109.out:w.heap.size≤gb113));have n6_:=aM ((z30_ HB.out GE108.out GE109.out:w.heap.size≤gb113));have n7_:=aM (neL_ BK108.out hg);have n8_:=aM (neG_ BK108.out hg);have n9_:=aM (neL_ BK109.out hg);have n10_:=aM (neG_ BK109.out hg);clear HO_110001;clear BK108;clear BK109;clear HB;have HO_110001:=n0_;have BK108:=n1_;have BK109:=n2_;have HB:=n3_;have BK113:=n4_;have GW113:=n5_;have GE113:=n6_;have NB108_113:=n7_;have NB113_108:=n8_;have NB109_113:=n9_;have NB113_109:=n10_;clear n0_ n1_ n2_ n3_ n4_ n5_ n6_ n7_ n8_ n9_ n10_;clear hb hbox hg;have hnb17:=NB113_108.out;have hnc17:=NB108_113.out;have hnb18:=NB113_109.out;have hnc18:=NB109_113.out;have ⟨hcz19_0,hcz19_1,hfz19_0,hfz19_1⟩:=cz2_ BK113.out))
         repeat (go_quiet (first | (go_at_call 74;(with_reducible refine (Y39.calls k2 x6_1 t110 _ A9.out).mono ?_);rintro e w14 ⟨rfl,hb⟩;have n0_:=aM (Kd.R_below (z1_ HO_110001.out) hb);have n1_:=aM (blkB_ BK108.out hb);have n2_:=aM (blkB_ BK109.out hb);have n3_:=aM (below_step (z4_ HB.out GE108.out GE109.out) hb);clear HO_110001;clear BK108;clear BK109;clear HB;have HO_110001:=n0_;have BK108:=n1_;have BK109:=n2_;have HB:=n3_;clear n0_ n1_ n2_ n3_;(try clear hb)) | (go_at_call 74;(with_reducible refine (Y39.calls k2 x7_2 t111 _ A11.out).mono ?_);rintro e w15 ⟨rfl,hb⟩;have n0_:=aM (Kd.R_below (z1_ HO_110001.out) hb);have n1_:=aM (blkB_ BK108.out hb);have n2_:=aM (blkB_ BK109.out hb);have n3_:=aM (below_step (z4_ HB.out GE108.out GE109.out) hb);clear HO_110001;clear BK108;clear BK109;clear HB;have HO_110001:=n0_;have BK108:=n1_;have BK109:=n2_;have HB:=n3_;clear n0_ n1_ n2_ n3_;(try clear hb)) | (go_at_call 73;(with_reducible refine (Y38.calls k2 ((t110 ++ (⟨#[45]⟩:ByteArray)) ++ t111) t112 _ A13.out).mono ?_);rintro e w' ⟨rfl,⟨nd,rfl⟩⟩;(try first | exact ⟨rfl,_,World.drewN_drewN _ _ _⟩ | exact ⟨rfl,_,Eq.trans (World.drewN_drewN _ _ _) (congrArg (World.drewN _) (Nat.add_assoc _ _ _))⟩)) | ((with_reducible refine gd_ 8 ?_);refine be_ 8 #[.int .i64 0,.int .i64 0] 77 ?_;intro gb113 hg w16 hbox hb;have n0_:=aM (Kd.R_below (Kd.R_elderB (z1_ HO_110001.out) gb113 (Nat.le_of_eq hg.symm)) hb);have n1_:=aM (blkB_ BK108.out hb);have n2_:=aM (blkB_ BK109.out hb);have n3_:=aM (below_step (z4_ HB.out GE108.out GE109.out) hb);have n4_:=aM (hbox);have n5_:=aM ((z30_ HB.out GE108.out GE109.out:w.heap.size≤gb113));have n6_:=aM ((z30_ HB.out GE108.out GE109.out:w.heap.size≤gb113));have n7_:=aM (neL_ BK108.out hg);have n8_:=aM (neG_ BK108.out hg);have n9_:=aM (neL_ BK109.out hg);have n10_:=aM (neG_ BK109.out hg);clear HO_110001;clear BK108;clear BK109;clear HB;have HO_110001:=n0_;have BK108:=n1_;have BK109:=n2_;have HB:=n3_;have BK113:=n4_;have GW113:=n5_;have GE113:=n6_;have NB108_113:=n7_;have NB113_108:=n8_;have NB109_113:=n9_;have NB113_109:=n10_;clear n0_ n1_ n2_ n3_ n4_ n5_ n6_ n7_ n8_ n9_ n10_;clear hb hbox hg;have hnb17:=NB113_108.out;have hnc17:=NB108_113.out;have hnb18:=NB113_109.out;have hnc18:=NB109_113.out;have ⟨hcz19_0,hcz19_1,hfz19_0,hfz19_1⟩:=cz2_ BK113.out));try go_wp2_with (first | (go_at_call 74;(with_reducible refine (Y39.calls k2 x6_1 t110 _ A9.out).mono ?_);rintro e w14 ⟨rfl,hb⟩;have n0_:=aM (Kd.R_below (z1_ HO_110001.out) hb);have n1_:=aM (blkB_ BK108.out hb);have n2_:=aM (blkB_ BK109.out hb);have n3_:=aM (below_step (z4_ HB.out GE108.out GE109.out) hb);clear HO_110001;clear BK108;clear BK109;clear HB;have HO_110001:=n0_;have BK108:=n1_;have BK109:=n2_;have HB:=n3_;clear n0_ n1_ n2_ n3_;(try clear hb)) | (go_at_call 74;(with_reducible refine (Y39.calls k2 x7_2 t111 _ A11.out).mono ?_);rintro e w15 ⟨rfl,hb⟩;have n0_:=aM (Kd.R_below (z1_ HO_110001.out) hb);have n1_:=aM (blkB_ BK108.out hb);have n2_:=aM (blkB_ BK109.out hb);have n3_:=aM (below_step (z4_ HB.out GE108.out GE109.out) hb);clear HO_110001;clear BK108;clear BK109;clear HB;have HO_110001:=n0_;have BK108:=n1_;have BK109:=n2_;have HB:=n3_;clear n0_ n1_ n2_ n3_;(try clear hb)) | (go_at_call 73;(with_reducible refine (Y38.calls k2 ((t110 ++ (⟨#[45]⟩:ByteArray)) ++ t111) t112 _ A13.out).mono ?_);rintro e w' ⟨rfl,⟨nd,rfl⟩⟩;(try first | exact ⟨rfl,_,World.drewN_drewN _ _ _⟩ | exact ⟨rfl,_,Eq.trans (World.drewN_drewN _ _ _) (congrArg (World.drewN _) (Nat.add_assoc _ _ _))⟩)) | ((with_reducible refine gd_ 8 ?_);refine be_ 8 #[.int .i64 0,.int .i64 0] 77 ?_;intro gb113 hg w16 hbox hb;have n0_:=aM (Kd.R_below (Kd.R_elderB (z1_ HO_110001.out) gb113 (Nat.le_of_eq hg.symm)) hb);have n1_:=aM (blkB_ BK108.out hb);have n2_:=aM (blkB_ BK109.out hb);have n3_:=aM (below_step (z4_ HB.out GE108.out GE109.out) hb);have n4_:=aM (hbox);have n5_:=aM ((z30_ HB.out GE108.out GE109.out:w.heap.size≤gb113));have n6_:=aM ((z30_ HB.out GE108.out GE109.out:w.heap.size≤gb113));have n7_:=aM (neL_ BK108.out hg);have n8_:=aM (neG_ BK108.out hg);have n9_:=aM (neL_ BK109.out hg);have n10_:=aM (neG_ BK109.out hg);clear HO_110001;clear BK108;clear BK109;clear HB;have HO_110001:=n0_;have BK108:=n1_;have BK109:=n2_;have HB:=n3_;have BK113:=n4_;have GW113:=n5_;have GE113:=n6_;have NB108_113:=n7_;have NB113_108:=n8_;have NB109_113:=n9_;have NB113_109:=n10_;clear n0_ n1_ n2_ n3_ n4_ n5_ n6_ n7_ n8_ n9_ n10_;clear hb hbox hg;have hnb17:=NB113_108.out;have hnc17:=NB108_113.out;have hnb18:=NB113_109.out;have hnc18:=NB109_113.out;have ⟨hcz19_0,hcz19_1,hfz19_0,hfz19_1⟩:=cz2_ BK113.out)))
         go_loopg [9] k2 (fun kq v9 w'=>∃ (x9_3:Int),v9 = .int .i64 x9_3∧Aside0 (Y18.l2 kq a0 a1 x6_1 x7_2 x9_3 a0 x110001_2 t112 x6_1=some (r1,r2))∧Aside0 (kq≤k2)∧Aside0 (Kd.R k77 77 w' w.heap.size (fun k_=>k_≠gb113) u110001 x110001_2)∧Aside0 (w'.heap[gb108]? = some (.cells #[.int .i64 0,(.slice none 0 0)] 24 (0,0)))∧Aside0 (w'.heap[gb109]? = some (.cells #[.int .i64 a0,u110001] 24 (0,0)))∧Aside0 (w'.heap[gb113]? = some (.cells #[.int .i64 t112,.int .i64 x6_1] 77 (0,0)))∧Aside0 (Below w.heap.size w w'))
         case atStart=>exact ⟨(0),(z2_),H',⟨Nat.le_refl _⟩,⟨by (with_reducible repeat (first | apply Kd.R_alloc | apply Kd.R_drewN | apply Kd.R_drew));exact Kd.R_mono (rf2_ (Kd.R_mono HO_110001.out (fun k_ hk=>(⟨hk,hk.2⟩:_∧k_≠gb113))) (fun _ hk=>hk.2)) (fun _ hk=>hk.1.2)⟩,⟨z19_ NB108_113.out BK108.out⟩,⟨z19_ NB109_113.out BK109.out⟩,⟨z20_ BK113.out⟩,⟨z13_ HB.out GE108.out GE109.out GE113.out⟩⟩
         case round =>
          clear H'
          try clear c1
          try clear p2
          try clear c4
          try clear c5
          try clear c7
          try clear c7b0
          try clear c8
          try clear c8b0
          try clear c10
          try clear c10b0
          try clear c10b1
          try clear c10b2
          try clear c12
          try clear c12b0
          try clear c12b1
          try clear c12b2
          try clear c17
          try clear c18
          try clear hcz19_0
          try clear hcz19_1
          try clear hcz6_0
          try clear hcz6_1
          try clear hfz19_0
          try clear hfz19_1
          try clear hfz6_0
          try clear hfz6_1
          try clear p2
          obtain ⟨x9_3,rfl,HA,HK3,HO_110001,BK108,BK109,BK113,HB⟩:=hrel
          cases gk with
          | zero=>exact absurd HA.out (by simp [Y18.l2])
          | succ k3 =>
           have H:=HA.out
           clear HA
           simp only [Y18.l2] at H
           have HC20:=aM H
           clear H
           go_upto_region 10 with (fail)
           repeat (go_quiet (fail);go_upto_region 10 with (fail))
           go_cut [69] (fun v69 wc=>∃ (kq:Nat) (x69_19:Bool),v69 = .bool x69_19∧Aside0 (Y18.j3 kq a0 a1 x6_1 x7_2 x9_3 x69_19 a0 x110001_2 t112 x6_1=some (r1,r2))∧Aside0 (kq≤k3)∧Aside0 (Kd.R k77 77 wc w.heap.size (fun k_=>k_≠gb113) u110001 x110001_2)∧Aside0 (wc.heap[gb108]? = some (.cells #[.int .i64 0,(.slice none 0 0)] 24 (0,0)))∧Aside0 (wc.heap[gb109]? = some (.cells #[.int .i64 a0,u110001] 24 (0,0)))∧Aside0 (wc.heap[gb113]? = some (.cells #[.int .i64 t112,.int .i64 x6_1] 77 (0,0)))∧Aside0 (Below w.heap.size w wc))
           case first =>
            have H:=HC20.out
            clear HC20
            by_cases c21:x9_3<(x110001_2.length:Int)
            ·rw [if_pos c21] at H
             have c21b0:decide (x9_3<(x110001_2.length:Int))=true:=dE c21
             clear c21
             (first | rw [c21b0] | (simp only [i64_w,i32_w];rw [c21b0]) | skip)
             by_cases c22:0≤x9_3
             ·rw [if_pos c22] at H
              have c22b0:decide (0≤x9_3)=true:=dE c22
              clear c22
              by_cases c23:((rd_T77 x110001_2 x9_3).f0)<t112
              ·rw [if_pos c23] at H
               have c23b0:decide (((rd_T77 x110001_2 x9_3).f0)<t112)=true:=dE c23
               clear c23
               have H':=aM H
               clear H
               have hnb24:=NB109_108.out
               have hnc24:=NB108_109.out
               have hnb25:=NB109_113.out
               have hnc25:=NB113_109.out
               have ⟨hcz26_0,hcz26_1,hfz26_0,hfz26_1⟩:=cz2_ BK109.out
               obtain ⟨Ao27,co27,eo27⟩:=Kd.R_slice HO_110001.out
               subst eo27
               have p114:0≤(x9_3:Int):=dT (z0_)
               have q114:x9_3<(x110001_2.length:Int):=dT (z0_)
               obtain ⟨ad114,e114,hx114_0,hx114_1⟩:=at_T77 (Kd.R_reads' HO_110001.out).2.2 x9_3 p114 q114
               cases e114
               replace p114:=eq_true p114
               replace q114:=eq_true q114
               have hnb28:=NB113_108.out
               have hnc28:=NB108_113.out
               have ⟨hcz29_0,hcz29_1,hfz29_0,hfz29_1⟩:=cz2_ BK113.out
               go_wp2
               repeat (go_quiet (fail);try go_wp2)
               go_meet
               case rel=>exact ⟨_,(true),(z2_),H',⟨z27_ HK1.out HK2.out HK3.out⟩,⟨z1_ HO_110001.out⟩,⟨z3_ BK108.out⟩,⟨z3_ BK109.out⟩,⟨z3_ BK113.out⟩,⟨z13_ HB.out GE108.out GE109.out GE113.out⟩⟩
              ·rw [if_neg c23] at H
               have c23b0:decide (((rd_T77 x110001_2 x9_3).f0)<t112)=false:=dF c23
               clear c23
               by_cases c30:((rd_T77 x110001_2 x9_3).f0)=t112
               ·rw [if_pos c30] at H
                have c30b0:(((rd_T77 x110001_2 x9_3).f0) == t112)=true:=beq_iff_eq.mpr c30
                have c30b1:(((rd_T77 x110001_2 x9_3).f0) != t112)=false:=bne_eq_false_iff_eq.mpr c30
                clear c30
                have H':=aM H
                clear H
                have hnb31:=NB109_108.out
                have hnc31:=NB108_109.out
                have hnb32:=NB109_113.out
                have hnc32:=NB113_109.out
                have ⟨hcz33_0,hcz33_1,hfz33_0,hfz33_1⟩:=cz2_ BK109.out
                obtain ⟨Ao34,co34,eo34⟩:=Kd.R_slice HO_110001.out
                subst eo34
                have p114:0≤(x9_3:Int):=dT (z0_)
                have q114:x9_3<(x110001_2.length:Int):=dT (z0_)
                obtain ⟨ad114,e114,hx114_0,hx114_1⟩:=at_T77 (Kd.R_reads' HO_110001.out).2.2 x9_3 p114 q114
                cases e114
                replace p114:=eq_true p114
                replace q114:=eq_true q114
                have hnb35:=NB113_108.out
                have hnc35:=NB108_113.out
                have ⟨hcz36_0,hcz36_1,hfz36_0,hfz36_1⟩:=cz2_ BK113.out
                have p115:0≤(x9_3:Int):=dT (z0_)
                have q115:x9_3<(x110001_2.length:Int):=dT (z0_)
                obtain ⟨ad115,e115,hx115_0,hx115_1⟩:=at_T77 (Kd.R_reads' HO_110001.out).2.2 x9_3 p115 q115
                obtain rfl:ad114=ad115:=(by injection e115)
                replace p115:=eq_true p115
                replace q115:=eq_true q115
                have p116:0≤(x9_3:Int):=dT (z0_)
                have q116:x9_3<(x110001_2.length:Int):=dT (z0_)
                obtain ⟨ad116,e116,hx116_0,hx116_1⟩:=at_T77 (Kd.R_reads' HO_110001.out).2.2 x9_3 p116 q116
                obtain rfl:ad114=ad116:=(by injection e116)
                replace p116:=eq_true p116
                replace q116:=eq_true q116
                go_wp2
                repeat (go_quiet (fail);try go_wp2)
                go_meet
                case rel=>exact ⟨_,(decide (((rd_T77 x110001_2 x9_3).f1)<x6_1)),(z2_),H',⟨z27_ HK1.out HK2.out HK3.out⟩,⟨z1_ HO_110001.out⟩,⟨z3_ BK108.out⟩,⟨z3_ BK109.out⟩,⟨z3_ BK113.out⟩,⟨z13_ HB.out GE108.out GE109.out GE113.out⟩⟩
               ·rw [if_neg c30] at H
                have c30b0:(((rd_T77 x110001_2 x9_3).f0) == t112)=false:=beq_eq_false_iff_ne.mpr c30
                have c30b1:(((rd_T77 x110001_2 x9_3).f0) != t112)=true:=bne_iff_ne.mpr c30
                have H':=aM H
                clear H
                have hnb37:=NB109_108.out
                have hnc37:=NB108_109.out
                have hnb38:=NB109_113.out
                have hnc38:=NB113_109.out
                have ⟨hcz39_0,hcz39_1,hfz39_0,hfz39_1⟩:=cz2_ BK109.out
                obtain ⟨Ao40,co40,eo40⟩:=Kd.R_slice HO_110001.out
                subst eo40
                have p114:0≤(x9_3:Int):=dT (z0_)
                have q114:x9_3<(x110001_2.length:Int):=dT (z0_)
                obtain ⟨ad114,e114,hx114_0,hx114_1⟩:=at_T77 (Kd.R_reads' HO_110001.out).2.2 x9_3 p114 q114
                cases e114
                replace p114:=eq_true p114
                replace q114:=eq_true q114
                have hnb41:=NB113_108.out
                have hnc41:=NB108_113.out
                have ⟨hcz42_0,hcz42_1,hfz42_0,hfz42_1⟩:=cz2_ BK113.out
                have p115:0≤(x9_3:Int):=dT (z0_)
                have q115:x9_3<(x110001_2.length:Int):=dT (z0_)
                obtain ⟨ad115,e115,hx115_0,hx115_1⟩:=at_T77 (Kd.R_reads' HO_110001.out).2.2 x9_3 p115 q115
                obtain rfl:ad114=ad115:=(by injection e115)
                replace p115:=eq_true p115
                replace q115:=eq_true q115
                go_wp2
                repeat (go_quiet (fail);try go_wp2)
                go_meet
                case rel=>exact ⟨_,(false),(z2_),H',⟨z27_ HK1.out HK2.out HK3.out⟩,⟨z1_ HO_110001.out⟩,⟨z3_ BK108.out⟩,⟨z3_ BK109.out⟩,⟨z3_ BK113.out⟩,⟨z13_ HB.out GE108.out GE109.out GE113.out⟩⟩
             ·rw [if_neg c22] at H
              exact nO H
            ·rw [if_neg c21] at H
             have c21b0:decide (x9_3<(x110001_2.length:Int))=false:=dF c21
             clear c21
             (first | rw [c21b0] | (simp only [i64_w,i32_w];rw [c21b0]) | skip)
             have H':=aM H
             clear H
             have hnb43:=NB109_108.out
             have hnc43:=NB108_109.out
             have hnb44:=NB109_113.out
             have hnc44:=NB113_109.out
             have ⟨hcz45_0,hcz45_1,hfz45_0,hfz45_1⟩:=cz2_ BK109.out
             obtain ⟨Ao46,co46,eo46⟩:=Kd.R_slice HO_110001.out
             subst eo46
             go_wp2
             repeat (go_quiet (fail);try go_wp2)
             go_meet
             case rel=>exact ⟨_,(false),(z2_),H',⟨z27_ HK1.out HK2.out HK3.out⟩,⟨z1_ HO_110001.out⟩,⟨z3_ BK108.out⟩,⟨z3_ BK109.out⟩,⟨z3_ BK113.out⟩,⟨z13_ HB.out GE108.out GE109.out GE113.out⟩⟩
           case rest =>
            clear HC20
            try clear c1
            try clear p1
            try clear q1
            try clear hx1
            try clear c2
            try clear p2
            try clear c3
            try clear c4
            try clear c5
            try clear c7
            try clear c7b0
            try clear c8
            try clear c8b0
            try clear c10
            try clear c10b0
            try clear c10b1
            try clear c10b2
            try clear p11
            try clear q11
            try clear hx11
            try clear c12
            try clear c12b0
            try clear c12b1
            try clear c12b2
            try clear c17
            try clear c18
            try clear c21
            try clear c21b0
            try clear c22
            try clear c22b0
            try clear c23
            try clear c23b0
            try clear c24
            try clear c25
            try clear c28
            try clear c30
            try clear c30b0
            try clear c30b1
            try clear c31
            try clear c32
            try clear c35
            try clear c37
            try clear c38
            try clear c40
            try clear c41
            try clear c43
            try clear c44
            try clear hcz19_0
            try clear hcz19_1
            try clear hcz26_0
            try clear hcz26_1
            try clear hcz29_0
            try clear hcz29_1
            try clear hcz33_0
            try clear hcz33_1
            try clear hcz36_0
            try clear hcz36_1
            try clear hcz39_0
            try clear hcz39_1
            try clear hcz42_0
            try clear hcz42_1
            try clear hcz45_0
            try clear hcz45_1
            try clear hcz6_0
            try clear hcz6_1
            try clear hfz19_0
            try clear hfz19_1
            try clear hfz26_0
            try clear hfz26_1
            try clear hfz29_0
            try clear hfz29_1
            try clear hfz33_0
            try clear hfz33_1
            try clear hfz36_0
            try clear hfz36_1
            try clear hfz39_0
            try clear hfz39_1
            try clear hfz42_0
            try clear hfz42_1
            try clear hfz45_0
            try clear hfz45_1
            try clear hfz6_0
            try clear hfz6_1
            try clear hx114_0
            try clear hx114_1
            try clear hx115_0
            try clear hx115_1
            try clear hx116_0
            try clear hx116_1
            try clear p114
            try clear p115
            try clear p116
            try clear p2
            try clear q114
            try clear q115
            try clear q116
            obtain ⟨kq,x69_19,rfl,HA,HJ19,HO_110001,BK108,BK109,BK113,HB⟩:=hcut
            cases kq with
            | zero=>exact absurd HA.out (by simp [Y18.j3])
            | succ kj19 =>
             have H:=HA.out
             clear HA
             simp only [Y18.j3] at H
             by_cases c47:x69_19=true
             ·subst c47
              have H1:(Y18.l2 kj19 a0 a1 x6_1 x7_2 (wrap64 (x9_3+1)) a0 x110001_2 t112 x6_1)=some (r1,r2):=by rw [if_pos rfl] at H;exact H
              clear H
              have H:=H1
              clear H1
              have H':=aM H
              clear H
              go_wp2
              repeat (go_quiet (fail);try go_wp2)
              go_roundg kj19
              case measure=>have:=HK1.out;have:=HK2.out;have:=HK3.out;have:=HJ19.out;omega
              case rel=>exact ⟨(wrap64 (x9_3+1)),(z2_),H',⟨by have:=HK1.out;have:=HK2.out;have:=HK3.out;have:=HJ19.out;omega⟩,⟨z1_ HO_110001.out⟩,⟨z3_ BK108.out⟩,⟨z3_ BK109.out⟩,⟨z3_ BK113.out⟩,⟨z13_ HB.out GE108.out GE109.out GE113.out⟩⟩
             ·replace c47:=Bool.eq_false_iff.mpr c47
              subst c47
              have H1:((some (([]:List (S77)):List (S77))).bind fun y117=>(if 0≤x9_3 then (if x9_3≤(x110001_2.length:Int) then ((some (x110001_2.take (x9_3:Int).toNat:List (S77))).bind fun y120=>(if y117.length+y120.length<8796093022208 then ((some (y117 ++ y120:List (S77))).bind fun y124=>(if y124.length<8796093022208 then ((some (y124 ++ [(⟨t112,x6_1⟩:S77)]:List (S77))).bind fun y127=>((some (x110001_2.drop (x9_3:Int).toNat:List (S77))).bind fun y130=>(if y127.length+y130.length<8796093022208 then (Y18.l1 kj19 a0 a1 x6_1 (wrap64 (x7_2+1)) a0 (y127 ++ y130)) else (none)))) else (none))) else (none))) else (none)) else (none)))=some (r1,r2):=by rw [if_neg (show ¬ (false=true) by decide)] at H;exact H
              clear H
              have H:=H1
              clear H1
              obtain ⟨y117,hy117⟩:∃ y_:List (S77),y_=(([]:List (S77))):=⟨_,rfl⟩
              replace H:(if 0≤x9_3 then (if x9_3≤(x110001_2.length:Int) then ((some (x110001_2.take (x9_3:Int).toNat:List (S77))).bind fun y120=>(if y117.length+y120.length<8796093022208 then ((some (y117 ++ y120:List (S77))).bind fun y124=>(if y124.length<8796093022208 then ((some (y124 ++ [(⟨t112,x6_1⟩:S77)]:List (S77))).bind fun y127=>((some (x110001_2.drop (x9_3:Int).toNat:List (S77))).bind fun y130=>(if y127.length+y130.length<8796093022208 then (Y18.l1 kj19 a0 a1 x6_1 (wrap64 (x7_2+1)) a0 (y127 ++ y130)) else (none)))) else (none))) else (none))) else (none)) else (none))=some (r1,r2):=by first | (rw [hy117];with_reducible exact H) | (have H2_:=(Option.bind_some _ _).symm.trans H;rw [hy117];with_reducible exact H2_) | (have H2_:=(Option.bind_some _ _).symm.trans H;with_reducible exact H2_) | with_reducible exact H | (rw [hy117];exact H) | exact H
              have Ny117:=aM hy117
              clear hy117
              by_cases c48:0≤x9_3
              ·rw [if_pos c48] at H
               have c48b0:=eq_true c48
               have c48b1:decide (0≤x9_3)=true:=dE c48
               clear c48
               by_cases c49:x9_3≤(x110001_2.length:Int)
               ·rw [if_pos c49] at H
                have c49b0:=eq_true c49
                have c49b1:decide (x9_3≤(x110001_2.length:Int))=true:=dE c49
                clear c49
                obtain ⟨y120,hy120⟩:∃ y_:List (S77),y_=(x110001_2.take (x9_3:Int).toNat):=⟨_,rfl⟩
                replace H:(if y117.length+y120.length<8796093022208 then ((some (y117 ++ y120:List (S77))).bind fun y124=>(if y124.length<8796093022208 then ((some (y124 ++ [(⟨t112,x6_1⟩:S77)]:List (S77))).bind fun y127=>((some (x110001_2.drop (x9_3:Int).toNat:List (S77))).bind fun y130=>(if y127.length+y130.length<8796093022208 then (Y18.l1 kj19 a0 a1 x6_1 (wrap64 (x7_2+1)) a0 (y127 ++ y130)) else (none)))) else (none))) else (none))=some (r1,r2):=by first | (rw [hy120];with_reducible exact H) | (have H2_:=(Option.bind_some _ _).symm.trans H;rw [hy120];with_reducible exact H2_) | (have H2_:=(Option.bind_some _ _).symm.trans H;with_reducible exact H2_) | with_reducible exact H | (rw [hy120];exact H) | exact H
                have Ny120:=aM hy120
                clear hy120
                by_cases c50:y117.length+y120.length<8796093022208
                ·rw [if_pos c50] at H
                 have LMc50:=aM c50
                 clear c50
                 obtain ⟨y124,hy124⟩:∃ y_:List (S77),y_=(y117 ++ y120):=⟨_,rfl⟩
                 replace H:(if y124.length<8796093022208 then ((some (y124 ++ [(⟨t112,x6_1⟩:S77)]:List (S77))).bind fun y127=>((some (x110001_2.drop (x9_3:Int).toNat:List (S77))).bind fun y130=>(if y127.length+y130.length<8796093022208 then (Y18.l1 kj19 a0 a1 x6_1 (wrap64 (x7_2+1)) a0 (y127 ++ y130)) else (none)))) else (none))=some (r1,r2):=by first | (rw [hy124];with_reducible exact H) | (have H2_:=(Option.bind_some _ _).symm.trans H;rw [hy124];with_reducible exact H2_) | (have H2_:=(Option.bind_some _ _).symm.trans H;with_reducible exact H2_) | with_reducible exact H | (rw [hy124];exact H) | exact H
                 have Ny124:=aM hy124
                 clear hy124
                 by_cases c51:y124.length<8796093022208
                 ·rw [if_pos c51] at H
                  have LMc51:=aM c51
                  clear c51
                  obtain ⟨y127,hy127⟩:∃ y_:List (S77),y_=(y124 ++ [(⟨t112,x6_1⟩:S77)]):=⟨_,rfl⟩
                  replace H:((some (x110001_2.drop (x9_3:Int).toNat:List (S77))).bind fun y130=>(if y127.length+y130.length<8796093022208 then (Y18.l1 kj19 a0 a1 x6_1 (wrap64 (x7_2+1)) a0 (y127 ++ y130)) else (none)))=some (r1,r2):=by first | (rw [hy127];with_reducible exact H) | (have H2_:=(Option.bind_some _ _).symm.trans H;rw [hy127];with_reducible exact H2_) | (have H2_:=(Option.bind_some _ _).symm.trans H;with_reducible exact H2_) | with_reducible exact H | (rw [hy127];exact H) | exact H
                  have Ny127:=aM hy127
                  clear hy127
                  have c52b0:=eq_true (dT (z0_):0≤x9_3)
                  have c53b0:=eq_true (dT (z0_):x9_3≤(x110001_2.length:Int))
                  obtain ⟨y130,hy130⟩:∃ y_:List (S77),y_=(x110001_2.drop (x9_3:Int).toNat):=⟨_,rfl⟩
                  replace H:(if y127.length+y130.length<8796093022208 then (Y18.l1 kj19 a0 a1 x6_1 (wrap64 (x7_2+1)) a0 (y127 ++ y130)) else (none))=some (r1,r2):=by first | (rw [hy130];with_reducible exact H) | (have H2_:=(Option.bind_some _ _).symm.trans H;rw [hy130];with_reducible exact H2_) | (have H2_:=(Option.bind_some _ _).symm.trans H;with_reducible exact H2_) | with_reducible exact H | (rw [hy130];exact H) | exact H
                  have Ny130:=aM hy130
                  clear hy130
                  by_cases c54:y127.length+y130.length<8796093022208
                  ·rw [if_pos c54] at H
                   have LMc54:=aM c54
                   clear c54
                   obtain ⟨y134,hy134⟩:∃ y_:List (S77),y_=(y127 ++ y130):=⟨_,rfl⟩
                   replace H:(Y18.l1 kj19 a0 a1 x6_1 (wrap64 (x7_2+1)) a0 y134)=some (r1,r2):=by first | (rw [hy134];with_reducible exact H) | (have H2_:=(Option.bind_some _ _).symm.trans H;rw [hy134];with_reducible exact H2_) | (have H2_:=(Option.bind_some _ _).symm.trans H;with_reducible exact H2_) | with_reducible exact H | (rw [hy134];exact H) | exact H
                   have Ny134:=aM hy134
                   clear hy134
                   have H':=aM H
                   clear H
                   go_wp2_with (first | ((with_reducible refine gd_ 72 ?_);refine Kd.R_lit k77 _ 77 ?hg (N:=72) ?hd (xs:=([]:List (S77))) (inner:=[]) (ok:=fun _=>True) (okp:=fun _=>True) ?hr ?hp (fun _ hk=>hk) trivial (Below.refl _ _) (Nat.le_refl _) (by simp) ?_;(case hd=>rfl);(case hg=>rfl);(case hr=>first | (go_simp;done) | (go_simp;rfl));(case hp=>exact (Reps.none _ _));intro v118 w55 ho56 hb hg_ hnew_;clear hg_ hnew_;(first | rw [← Ny117.out] at ho56 | (simp only [Int.reduceToNat] at ho56;rw [← Ny117.out] at ho56));have n0_:=aM (Kd.R_elder' (z1_ HO_110001.out) (Kd.R_base ho56) hb);have n1_:=aM (Kd.R_lower (Kd.R_newB (Kd.R_new' ho56 (Kd.R_lt (z1_ HO_110001.out))) (g:=gb113) (o:=.cells #[.int .i64 t112,.int .i64 x6_1] 77 (0,0)) (z3_ BK113.out)) (below_size (z13_ HB.out GE108.out GE109.out GE113.out)));have n2_:=aM (blkB_ BK108.out hb);have n3_:=aM (blkB_ BK109.out hb);have n4_:=aM (blkB_ BK113.out hb);have n5_:=aM (below_step (z13_ HB.out GE108.out GE109.out GE113.out) hb);clear HO_110001;clear BK108;clear BK109;clear BK113;clear HB;have HO_110001:=n0_;have HO119:=n1_;have BK108:=n2_;have BK109:=n3_;have BK113:=n4_;have HB:=n5_;clear n0_ n1_ n2_ n3_ n4_ n5_;clear hb ho56;have hnb57:=NB109_108.out;have hnc57:=NB108_109.out;have hnb58:=NB109_113.out;have hnc58:=NB113_109.out;have ⟨hcz59_0,hcz59_1,hfz59_0,hfz59_1⟩:=cz2_ BK109.out;obtain ⟨Ao61,co61,eo61⟩:=Kd.R_slice HO_110001.out;subst eo61;have q60:(x9_3:Int)≤((x110001_2.length:Int):Int):=dT (z0_);obtain ⟨i060,hi060,_,hsz60,_⟩:=info_parts info77;have hroom60:x110001_2.length≤co61:=(Kd.R_reads' HO_110001.out).2.1;have hC60:Kd.C k77 _ Ao61 x110001_2.length x110001_2:=(Kd.R_reads' HO_110001.out).2.2;have hcut60:=cut_to (P:=Tryd.prog) 22 77 .i64 Tryd.underlying22 hi060 Ao61 x110001_2.length co61 x9_3 (dT (z0_)) q60 hroom60;have hr60:=Kd.C_take (m:=(x9_3:Int).toNat) hC60 (by omega);have hy60:y120.length=(x9_3:Int).toNat:=(by rw [Ny120.out,List.length_take];omega);rw [← Ny120.out] at hr60;rw [← hy60] at hcut60;have HR123:=aM hr60;have HC123:=aM (show y120.length≤co61 from by omega);clear hr60 hC60 hroom60 hi060 hsz60;have KY60:=aM hy60;clear hy60;have KL60:=aM (show (x9_3:Int).toNat≤x110001_2.length from by omega);replace q60:=eq_true q60) | ((with_reducible refine gate_builtin (b:=.append) (xs:=#[.tmp 72,.tmp 76]) rfl ?_);at_builtin;refine Kd.R_append_rows k77 (w0:=w) w.heap.size rfl (.tmp 72) (.tmp 76) 22 77 (.agg #[(.int .i64 0),(.int .i64 0)]) 16 rfl Tryd.underlying22 info77 rfl (by decide) (by omega) v118 y117 y120 _ _ _ (fun k_=>some k_≠(.slice Ao61 x110001_2.length co61:Value).ownBlock∧k_≠gb113) (fun _=>False) rfl rfl ?aO ?aR (fun _ _ h=>h) (fun _ h=>h.elim) ?aF ?aB ?aS ?aL ?_;(case aR=>repeat (first | exact (z34_ HR123.out) | (with_reducible refine Kd.C_alloc ?_ _) | (with_reducible refine Kd.C_drewN ?_ _) | (with_reducible refine Kd.C_drew ?_)));(case aB=>exact (z13_ HB.out GE108.out GE109.out GE113.out));(case aF=>exact (fun k_ hk=>⟨Kd.fresh' (Kd.R_lt (z1_ HO_110001.out)) k_ hk,Kd.freshB (g:=gb113) (o:=.cells #[.int .i64 t112,.int .i64 x6_1] 77 (0,0)) (z3_ BK113.out) k_ hk⟩));(case aO=>exact (z35_ HO119.out));(case aS=>exact (below_size (z13_ HB.out GE108.out GE109.out GE113.out)));(case aL=>have:=LMc50.out;omega);intro v125 w62 ho hb hg hat;rw [← Ny124.out] at ho;have n0_:=aM (Kd.R_after (ok:=(fun k_=>k_≠gb113)) (z1_ HO_110001.out) hg hat);have n1_:=aM (blk_grown (g:=gb108) (o:=.cells #[.int .i64 0,.slice none 0 0] 24 (0,0)) (z3_ BK108.out) hg (Kd.R_ne HO119.out BK108.out (by decide)));have n2_:=aM (blk_grown (g:=gb109) (o:=.cells #[.int .i64 a0,.slice Ao61 x110001_2.length co61] 24 (0,0)) (z3_ BK109.out) hg (Kd.R_ne HO119.out BK109.out (by decide)));have n3_:=aM (blk_grown (g:=gb113) (o:=.cells #[.int .i64 t112,.int .i64 x6_1] 77 (0,0)) (z3_ BK113.out) hg (Kd.R_away HO119.out (fun _ hk=>hk.2)));have n4_:=aM (hb);have n5_:=aM ((show Kd.C k77 w62 Ao61 y120.length y120 from by rw [Ny120.out];exact Kd.C_take (m:=(x9_3:Int).toNat) ((Kd.R_reads' (Kd.R_after (ok:=(fun k_=>k_≠gb113)) (z1_ HO_110001.out) hg hat)).2.2) KL60.out));have n6_:=aM (ho);clear HO_110001;clear BK108;clear BK109;clear BK113;clear HB;clear HR123;clear HO119;have HO_110001:=n0_;have BK108:=n1_;have BK109:=n2_;have BK113:=n3_;have HB:=n4_;have HR123:=n5_;have HO126:=n6_;clear n0_ n1_ n2_ n3_ n4_ n5_ n6_;clear ho hb hg hat;have hnb63:=NB113_108.out;have hnc63:=NB108_113.out;have ⟨hcz64_0,hcz64_1,hfz64_0,hfz64_1⟩:=cz2_ BK113.out) | ((with_reducible refine gate_builtin (b:=.append) (xs:=#[.tmp 78,.tmp 80]) rfl ?_);at_builtin;refine Kd.R_append k77 (w0:=w) w.heap.size rfl (.tmp 78) (.tmp 80) 22 77 (.agg #[(.int .i64 0),(.int .i64 0)]) 16 rfl Tryd.underlying22 info77 rfl (by decide) (by omega) v125 y124 (⟨t112,x6_1⟩:S77) [.int .i64 t112,.int .i64 x6_1] (fun k_=>some k_≠(.slice Ao61 x110001_2.length co61:Value).ownBlock∧k_≠gb113) (fun _=>False) rfl rfl ?aP (fun _ hk=>hk.elim) ?aF ?aO ?aB ?aS ?aL ?_;(case aP=>exact k77_mkM _ _ _ (⟨t112,x6_1⟩:S77));(case aB=>exact (z13_ HB.out GE108.out GE109.out GE113.out));(case aF=>exact (fun k_ hk=>⟨Kd.fresh' (Kd.R_lt (z1_ HO_110001.out)) k_ hk,Kd.freshB (g:=gb113) (o:=.cells #[.int .i64 t112,.int .i64 x6_1] 77 (0,0)) (z3_ BK113.out) k_ hk⟩));(case aO=>exact (z1_ HO126.out));(case aS=>exact (below_size (z13_ HB.out GE108.out GE109.out GE113.out)));(case aL=>have:=LMc51.out;omega);intro v128 w65 ho hb hg hat;rw [← Ny127.out] at ho;have n0_:=aM (Kd.R_after (ok:=(fun k_=>k_≠gb113)) (z1_ HO_110001.out) hg hat);have n1_:=aM (blk_grown (g:=gb108) (o:=.cells #[.int .i64 0,.slice none 0 0] 24 (0,0)) (z3_ BK108.out) hg (Kd.R_ne HO126.out BK108.out (by decide)));have n2_:=aM (blk_grown (g:=gb109) (o:=.cells #[.int .i64 a0,.slice Ao61 x110001_2.length co61] 24 (0,0)) (z3_ BK109.out) hg (Kd.R_ne HO126.out BK109.out (by decide)));have n3_:=aM (blk_grown (g:=gb113) (o:=.cells #[.int .i64 t112,.int .i64 x6_1] 77 (0,0)) (z3_ BK113.out) hg (Kd.R_away HO126.out (fun _ hk=>hk.2)));have n4_:=aM (hb);have n5_:=aM ((show Kd.C k77 w65 Ao61 y120.length y120 from by rw [Ny120.out];exact Kd.C_take (m:=(x9_3:Int).toNat) ((Kd.R_reads' (Kd.R_after (ok:=(fun k_=>k_≠gb113)) (z1_ HO_110001.out) hg hat)).2.2) KL60.out));have n6_:=aM (ho);clear HO_110001;clear BK108;clear BK109;clear BK113;clear HB;clear HR123;clear HO126;have HO_110001:=n0_;have BK108:=n1_;have BK109:=n2_;have BK113:=n3_;have HB:=n4_;have HR123:=n5_;have HO129:=n6_;clear n0_ n1_ n2_ n3_ n4_ n5_ n6_;clear ho hb hg hat;have ⟨hcz66_0,hcz66_1,hfz66_0,hfz66_1⟩:=cz2_ BK109.out;have q67:(x9_3:Int)≤((x110001_2.length:Int):Int):=dT (z0_);obtain ⟨i067,hi067,_,hsz67,_⟩:=info_parts info77;have hroom67:x110001_2.length≤co61:=(Kd.R_reads' HO_110001.out).2.1;have hC67:Kd.C k77 _ Ao61 x110001_2.length x110001_2:=(Kd.R_reads' HO_110001.out).2.2;have q067:(0:Int)≤(x9_3:Int):=dT (z0_);have hcut67:=cut_from (P:=Tryd.prog) 22 77 .i64 Tryd.underlying22 hi067 2 hsz67 Ao61 x110001_2.length co61 x9_3 q067 q67;have hr67:=Kd.C_drop (m:=(x9_3:Int).toNat) (c:=co61) hC67 (by omega) hroom67;obtain ⟨A67,hA67⟩:∃ A1,A1=(if co61=(x9_3:Int).toNat then Ao61 else (Ao61:Option Addr).map (·.add ((x9_3:Int).toNat*2))):=⟨_,rfl⟩;obtain ⟨c67,hc67⟩:∃ c1,c1=co61-(x9_3:Int).toNat:=⟨_,rfl⟩;have hy67:y130.length=x110001_2.length-(x9_3:Int).toNat:=(by rw [Ny130.out,List.length_drop] <;> omega);rw [show (x110001_2).drop (x9_3:Int).toNat=y130 from Ny130.out.symm] at hr67;replace hr67:Kd.C k77 _ A67 y130.length y130:=(by rw [hA67];exact hr67);rw [← hy67,← hA67,← hc67] at hcut67;have HR133:=aM hr67;have HC133:=aM (show y130.length≤c67 from by rw [hy67,hc67];exact Nat.sub_le_sub_right hroom67 _);clear hr67 hC67 hroom67 hi067 hsz67 hc67;have KY67:=aM hy67;have KA67:=aM hA67;clear hy67 hA67;have KL67:=aM (show (x9_3:Int).toNat≤x110001_2.length from by omega);replace q67:=eq_true q67) | ((with_reducible refine gate_builtin (b:=.append) (xs:=#[.tmp 82,.tmp 86]) rfl ?_);at_builtin;refine Kd.R_append_rows k77 (w0:=w) w.heap.size rfl (.tmp 82) (.tmp 86) 22 77 (.agg #[(.int .i64 0),(.int .i64 0)]) 16 rfl Tryd.underlying22 info77 rfl (by decide) (by omega) v128 y127 y130 _ _ _ (fun k_=>some k_≠(.slice Ao61 x110001_2.length co61:Value).ownBlock∧k_≠gb113) (fun _=>False) rfl rfl ?aO ?aR (fun _ _ h=>h) (fun _ h=>h.elim) ?aF ?aB ?aS ?aL ?_;(case aR=>repeat (first | exact (z34_ HR133.out) | (with_reducible refine Kd.C_alloc ?_ _) | (with_reducible refine Kd.C_drewN ?_ _) | (with_reducible refine Kd.C_drew ?_)));(case aB=>exact (z13_ HB.out GE108.out GE109.out GE113.out));(case aF=>exact (fun k_ hk=>⟨Kd.fresh' (Kd.R_lt (z1_ HO_110001.out)) k_ hk,Kd.freshB (g:=gb113) (o:=.cells #[.int .i64 t112,.int .i64 x6_1] 77 (0,0)) (z3_ BK113.out) k_ hk⟩));(case aO=>exact (z1_ HO129.out));(case aS=>exact (below_size (z13_ HB.out GE108.out GE109.out GE113.out)));(case aL=>have:=LMc54.out;omega);intro v135 w68 ho hb hg hat;rw [← Ny134.out] at ho;have n0_:=aM (Kd.R_after (ok:=(fun k_=>k_≠gb113)) (z1_ HO_110001.out) hg hat);have n1_:=aM (blk_grown (g:=gb108) (o:=.cells #[.int .i64 0,.slice none 0 0] 24 (0,0)) (z3_ BK108.out) hg (Kd.R_ne HO129.out BK108.out (by decide)));have n2_:=aM (blk_grown (g:=gb109) (o:=.cells #[.int .i64 a0,.slice Ao61 x110001_2.length co61] 24 (0,0)) (z3_ BK109.out) hg (Kd.R_ne HO129.out BK109.out (by decide)));have n3_:=aM (blk_grown (g:=gb113) (o:=.cells #[.int .i64 t112,.int .i64 x6_1] 77 (0,0)) (z3_ BK113.out) hg (Kd.R_away HO129.out (fun _ hk=>hk.2)));have n4_:=aM (hb);have n5_:=aM ((show Kd.C k77 w68 Ao61 y120.length y120 from by rw [Ny120.out];exact Kd.C_take (m:=(x9_3:Int).toNat) ((Kd.R_reads' (Kd.R_after (ok:=(fun k_=>k_≠gb113)) (z1_ HO_110001.out) hg hat)).2.2) KL60.out));have n6_:=aM ((show Kd.C k77 w68 A67 y130.length y130 from by rw [Ny130.out,KA67.out];exact Kd.C_drop (m:=(x9_3:Int).toNat) (c:=co61) ((Kd.R_reads' (Kd.R_after (ok:=(fun k_=>k_≠gb113)) (z1_ HO_110001.out) hg hat)).2.2) KL67.out ((Kd.R_reads' (Kd.R_after (ok:=(fun k_=>k_≠gb113)) (z1_ HO_110001.out) hg hat)).2.1)));have n7_:=aM (ho);clear HO_110001;clear BK108;clear BK109;clear BK113;clear HB;clear HR123;clear HR133;clear HO129;have HO_110001:=n0_;have BK108:=n1_;have BK109:=n2_;have BK113:=n3_;have HB:=n4_;have HR123:=n5_;have HR133:=n6_;have HO136:=n7_;clear n0_ n1_ n2_ n3_ n4_ n5_ n6_ n7_;clear ho hb hg hat;obtain ⟨Ao69,co69,eo69⟩:=Kd.R_slice HO136.out;subst eo69;have ⟨hcz70_0,hcz70_1,hfz70_0,hfz70_1⟩:=cz2_ BK109.out))
                   repeat (go_quiet (first | ((with_reducible refine gd_ 72 ?_);refine Kd.R_lit k77 _ 77 ?hg (N:=72) ?hd (xs:=([]:List (S77))) (inner:=[]) (ok:=fun _=>True) (okp:=fun _=>True) ?hr ?hp (fun _ hk=>hk) trivial (Below.refl _ _) (Nat.le_refl _) (by simp) ?_;(case hd=>rfl);(case hg=>rfl);(case hr=>first | (go_simp;done) | (go_simp;rfl));(case hp=>exact (Reps.none _ _));intro v118 w55 ho56 hb hg_ hnew_;clear hg_ hnew_;(first | rw [← Ny117.out] at ho56 | (simp only [Int.reduceToNat] at ho56;rw [← Ny117.out] at ho56));have n0_:=aM (Kd.R_elder' (z1_ HO_110001.out) (Kd.R_base ho56) hb);have n1_:=aM (Kd.R_lower (Kd.R_newB (Kd.R_new' ho56 (Kd.R_lt (z1_ HO_110001.out))) (g:=gb113) (o:=.cells #[.int .i64 t112,.int .i64 x6_1] 77 (0,0)) (z3_ BK113.out)) (below_size (z13_ HB.out GE108.out GE109.out GE113.out)));have n2_:=aM (blkB_ BK108.out hb);have n3_:=aM (blkB_ BK109.out hb);have n4_:=aM (blkB_ BK113.out hb);have n5_:=aM (below_step (z13_ HB.out GE108.out GE109.out GE113.out) hb);clear HO_110001;clear BK108;clear BK109;clear BK113;clear HB;have HO_110001:=n0_;have HO119:=n1_;have BK108:=n2_;have BK109:=n3_;have BK113:=n4_;have HB:=n5_;clear n0_ n1_ n2_ n3_ n4_ n5_;clear hb ho56;have hnb57:=NB109_108.out;have hnc57:=NB108_109.out;have hnb58:=NB109_113.out;have hnc58:=NB113_109.out;have ⟨hcz59_0,hcz59_1,hfz59_0,hfz59_1⟩:=cz2_ BK109.out;obtain ⟨Ao61,co61,eo61⟩:=Kd.R_slice HO_110001.out;subst eo61;have q60:(x9_3:Int)≤((x110001_2.length:Int):Int):=dT (z0_);obtain ⟨i060,hi060,_,hsz60,_⟩:=info_parts info77;have hroom60:x110001_2.length≤co61:=(Kd.R_reads' HO_110001.out).2.1;have hC60:Kd.C k77 _ Ao61 x110001_2.length x110001_2:=(Kd.R_reads' HO_110001.out).2.2;have hcut60:=cut_to (P:=Tryd.prog) 22 77 .i64 Tryd.underlying22 hi060 Ao61 x110001_2.length co61 x9_3 (dT (z0_)) q60 hroom60;have hr60:=Kd.C_take (m:=(x9_3:Int).toNat) hC60 (by omega);have hy60:y120.length=(x9_3:Int).toNat:=(by rw [Ny120.out,List.length_take];omega);rw [← Ny120.out] at hr60;rw [← hy60] at hcut60;have HR123:=aM hr60;have HC123:=aM (show y120.length≤co61 from by omega);clear hr60 hC60 hroom60 hi060 hsz60;have KY60:=aM hy60;clear hy60;have KL60:=aM (show (x9_3:Int).toNat≤x110001_2.length from by omega);replace q60:=eq_true q60) | ((with_reducible refine gate_builtin (b:=.append) (xs:=#[.tmp 72,.tmp 76]) rfl ?_);at_builtin;refine Kd.R_append_rows k77 (w0:=w) w.heap.size rfl (.tmp 72) (.tmp 76) 22 77 (.agg #[(.int .i64 0),(.int .i64 0)]) 16 rfl Tryd.underlying22 info77 rfl (by decide) (by omega) v118 y117 y120 _ _ _ (fun k_=>some k_≠(.slice Ao61 x110001_2.length co61:Value).ownBlock∧k_≠gb113) (fun _=>False) rfl rfl ?aO ?aR (fun _ _ h=>h) (fun _ h=>h.elim) ?aF ?aB ?aS ?aL ?_;(case aR=>repeat (first | exact (z34_ HR123.out) | (with_reducible refine Kd.C_alloc ?_ _) | (with_reducible refine Kd.C_drewN ?_ _) | (with_reducible refine Kd.C_drew ?_)));(case aB=>exact (z13_ HB.out GE108.out GE109.out GE113.out));(case aF=>exact (fun k_ hk=>⟨Kd.fresh' (Kd.R_lt (z1_ HO_110001.out)) k_ hk,Kd.freshB (g:=gb113) (o:=.cells #[.int .i64 t112,.int .i64 x6_1] 77 (0,0)) (z3_ BK113.out) k_ hk⟩));(case aO=>exact (z35_ HO119.out));(case aS=>exact (below_size (z13_ HB.out GE108.out GE109.out GE113.out)));(case aL=>have:=LMc50.out;omega);intro v125 w62 ho hb hg hat;rw [← Ny124.out] at ho;have n0_:=aM (Kd.R_after (ok:=(fun k_=>k_≠gb113)) (z1_ HO_110001.out) hg hat);have n1_:=aM (blk_grown (g:=gb108) (o:=.cells #[.int .i64 0,.slice none 0 0] 24 (0,0)) (z3_ BK108.out) hg (Kd.R_ne HO119.out BK108.out (by decide)));have n2_:=aM (blk_grown (g:=gb109) (o:=.cells #[.int .i64 a0,.slice Ao61 x110001_2.length co61] 24 (0,0)) (z3_ BK109.out) hg (Kd.R_ne HO119.out BK109.out (by decide)));have n3_:=aM (blk_grown (g:=gb113) (o:=.cells #[.int .i64 t112,.int .i64 x6_1] 77 (0,0)) (z3_ BK113.out) hg (Kd.R_away HO119.out (fun _ hk=>hk.2)));have n4_:=aM (hb);have n5_:=aM ((show Kd.C k77 w62 Ao61 y120.length y120 from by rw [Ny120.out];exact Kd.C_take (m:=(x9_3:Int).toNat) ((Kd.R_reads' (Kd.R_after (ok:=(fun k_=>k_≠gb113)) (z1_ HO_110001.out) hg hat)).2.2) KL60.out));have n6_:=aM (ho);clear HO_110001;clear BK108;clear BK109;clear BK113;clear HB;clear HR123;clear HO119;have HO_110001:=n0_;have BK108:=n1_;have BK109:=n2_;have BK113:=n3_;have HB:=n4_;have HR123:=n5_;have HO126:=n6_;clear n0_ n1_ n2_ n3_ n4_ n5_ n6_;clear ho hb hg hat;have hnb63:=NB113_108.out;have hnc63:=NB108_113.out;have ⟨hcz64_0,hcz64_1,hfz64_0,hfz64_1⟩:=cz2_ BK113.out) | ((with_reducible refine gate_builtin (b:=.append) (xs:=#[.tmp 78,.tmp 80]) rfl ?_);at_builtin;refine Kd.R_append k77 (w0:=w) w.heap.size rfl (.tmp 78) (.tmp 80) 22 77 (.agg #[(.int .i64 0),(.int .i64 0)]) 16 rfl Tryd.underlying22 info77 rfl (by decide) (by omega) v125 y124 (⟨t112,x6_1⟩:S77) [.int .i64 t112,.int .i64 x6_1] (fun k_=>some k_≠(.slice Ao61 x110001_2.length co61:Value).ownBlock∧k_≠gb113) (fun _=>False) rfl rfl ?aP (fun _ hk=>hk.elim) ?aF ?aO ?aB ?aS ?aL ?_;(case aP=>exact k77_mkM _ _ _ (⟨t112,x6_1⟩:S77));(case aB=>exact (z13_ HB.out GE108.out GE109.out GE113.out));(case aF=>exact (fun k_ hk=>⟨Kd.fresh' (Kd.R_lt (z1_ HO_110001.out)) k_ hk,Kd.freshB (g:=gb113) (o:=.cells #[.int .i64 t112,.int .i64 x6_1] 77 (0,0)) (z3_ BK113.out) k_ hk⟩));(case aO=>exact (z1_ HO126.out));(case aS=>exact (below_size (z13_ HB.out GE108.out GE109.out GE113.out)));(case aL=>have:=LMc51.out;omega);intro v128 w65 ho hb hg hat;rw [← Ny127.out] at ho;have n0_:=aM (Kd.R_after (ok:=(fun k_=>k_≠gb113)) (z1_ HO_110001.out) hg hat);have n1_:=aM (blk_grown (g:=gb108) (o:=.cells #[.int .i64 0,.slice none 0 0] 24 (0,0)) (z3_ BK108.out) hg (Kd.R_ne HO126.out BK108.out (by decide)));have n2_:=aM (blk_grown (g:=gb109) (o:=.cells #[.int .i64 a0,.slice Ao61 x110001_2.length co61] 24 (0,0)) (z3_ BK109.out) hg (Kd.R_ne HO126.out BK109.out (by decide)));have n3_:=aM (blk_grown (g:=gb113) (o:=.cells #[.int .i64 t112,.int .i64 x6_1] 77 (0,0)) (z3_ BK113.out) hg (Kd.R_away HO126.out (fun _ hk=>hk.2)));have n4_:=aM (hb);have n5_:=aM ((show Kd.C k77 w65 Ao61 y120.length y120 from by rw [Ny120.out];exact Kd.C_take (m:=(x9_3:Int).toNat) ((Kd.R_reads' (Kd.R_after (ok:=(fun k_=>k_≠gb113)) (z1_ HO_110001.out) hg hat)).2.2) KL60.out));have n6_:=aM (ho);clear HO_110001;clear BK108;clear BK109;clear BK113;clear HB;clear HR123;clear HO126;have HO_110001:=n0_;have BK108:=n1_;have BK109:=n2_;have BK113:=n3_;have HB:=n4_;have HR123:=n5_;have HO129:=n6_;clear n0_ n1_ n2_ n3_ n4_ n5_ n6_;clear ho hb hg hat;have ⟨hcz66_0,hcz66_1,hfz66_0,hfz66_1⟩:=cz2_ BK109.out;have q67:(x9_3:Int)≤((x110001_2.length:Int):Int):=dT (z0_);obtain ⟨i067,hi067,_,hsz67,_⟩:=info_parts info77;have hroom67:x110001_2.length≤co61:=(Kd.R_reads' HO_110001.out).2.1;have hC67:Kd.C k77 _ Ao61 x110001_2.length x110001_2:=(Kd.R_reads' HO_110001.out).2.2;have q067:(0:Int)≤(x9_3:Int):=dT (z0_);have hcut67:=cut_from (P:=Tryd.prog) 22 77 .i64 Tryd.underlying22 hi067 2 hsz67 Ao61 x110001_2.length co61 x9_3 q067 q67;have hr67:=Kd.C_drop (m:=(x9_3:Int).toNat) (c:=co61) hC67 (by omega) hroom67;obtain ⟨A67,hA67⟩:∃ A1,A1=(if co61=(x9_3:Int).toNat then Ao61 else (Ao61:Option Addr).map (·.add ((x9_3:Int).toNat*2))):=⟨_,rfl⟩;obtain ⟨c67,hc67⟩:∃ c1,c1=co61-(x9_3:Int).toNat:=⟨_,rfl⟩;have hy67:y130.length=x110001_2.length-(x9_3:Int).toNat:=(by rw [Ny130.out,List.length_drop] <;> omega);rw [show (x110001_2).drop (x9_3:Int).toNat=y130 from Ny130.out.symm] at hr67;replace hr67:Kd.C k77 _ A67 y130.length y130:=(by rw [hA67];exact hr67);rw [← hy67,← hA67,← hc67] at hcut67;have HR133:=aM hr67;have HC133:=aM (show y130.length≤c67 from by rw [hy67,hc67];exact Nat.sub_le_sub_right hroom67 _);clear hr67 hC67 hroom67 hi067 hsz67 hc67;have KY67:=aM hy67;have KA67:=aM hA67;clear hy67 hA67;have KL67:=aM (show (x9_3:Int).toNat≤x110001_2.length from by omega);replace q67:=eq_true q67) | ((with_reducible refine gate_builtin (b:=.append) (xs:=#[.tmp 82,.tmp 86]) rfl ?_);at_builtin;refine Kd.R_append_rows k77 (w0:=w) w.heap.size rfl (.tmp 82) (.tmp 86) 22 77 (.agg #[(.int .i64 0),(.int .i64 0)]) 16 rfl Tryd.underlying22 info77 rfl (by decide) (by omega) v128 y127 y130 _ _ _ (fun k_=>some k_≠(.slice Ao61 x110001_2.length co61:Value).ownBlock∧k_≠gb113) (fun _=>False) rfl rfl ?aO ?aR (fun _ _ h=>h) (fun _ h=>h.elim) ?aF ?aB ?aS ?aL ?_;(case aR=>repeat (first | exact (z34_ HR133.out) | (with_reducible refine Kd.C_alloc ?_ _) | (with_reducible refine Kd.C_drewN ?_ _) | (with_reducible refine Kd.C_drew ?_)));(case aB=>exact (z13_ HB.out GE108.out GE109.out GE113.out));(case aF=>exact (fun k_ hk=>⟨Kd.fresh' (Kd.R_lt (z1_ HO_110001.out)) k_ hk,Kd.freshB (g:=gb113) (o:=.cells #[.int .i64 t112,.int .i64 x6_1] 77 (0,0)) (z3_ BK113.out) k_ hk⟩));(case aO=>exact (z1_ HO129.out));(case aS=>exact (below_size (z13_ HB.out GE108.out GE109.out GE113.out)));(case aL=>have:=LMc54.out;omega);intro v135 w68 ho hb hg hat;rw [← Ny134.out] at ho;have n0_:=aM (Kd.R_after (ok:=(fun k_=>k_≠gb113)) (z1_ HO_110001.out) hg hat);have n1_:=aM (blk_grown (g:=gb108) (o:=.cells #[.int .i64 0,.slice none 0 0] 24 (0,0)) (z3_ BK108.out) hg (Kd.R_ne HO129.out BK108.out (by decide)));have n2_:=aM (blk_grown (g:=gb109) (o:=.cells #[.int .i64 a0,.slice Ao61 x110001_2.length co61] 24 (0,0)) (z3_ BK109.out) hg (Kd.R_ne HO129.out BK109.out (by decide)));have n3_:=aM (blk_grown (g:=gb113) (o:=.cells #[.int .i64 t112,.int .i64 x6_1] 77 (0,0)) (z3_ BK113.out) hg (Kd.R_away HO129.out (fun _ hk=>hk.2)));have n4_:=aM (hb);have n5_:=aM ((show Kd.C k77 w68 Ao61 y120.length y120 from by rw [Ny120.out];exact Kd.C_take (m:=(x9_3:Int).toNat) ((Kd.R_reads' (Kd.R_after (ok:=(fun k_=>k_≠gb113)) (z1_ HO_110001.out) hg hat)).2.2) KL60.out));have n6_:=aM ((show Kd.C k77 w68 A67 y130.length y130 from by rw [Ny130.out,KA67.out];exact Kd.C_drop (m:=(x9_3:Int).toNat) (c:=co61) ((Kd.R_reads' (Kd.R_after (ok:=(fun k_=>k_≠gb113)) (z1_ HO_110001.out) hg hat)).2.2) KL67.out ((Kd.R_reads' (Kd.R_after (ok:=(fun k_=>k_≠gb113)) (z1_ HO_110001.out) hg hat)).2.1)));have n7_:=aM (ho);clear HO_110001;clear BK108;clear BK109;clear BK113;clear HB;clear HR123;clear HR133;clear HO129;have HO_110001:=n0_;have BK108:=n1_;have BK109:=n2_;have BK113:=n3_;have HB:=n4_;have HR123:=n5_;have HR133:=n6_;have HO136:=n7_;clear n0_ n1_ n2_ n3_ n4_ n5_ n6_ n7_;clear ho hb hg hat;obtain ⟨Ao69,co69,eo69⟩:=Kd.R_slice HO136.out;subst eo69;have ⟨hcz70_0,hcz70_1,hfz70_0,hfz70_1⟩:=cz2_ BK109.out));try go_wp2_with (first | ((with_reducible refine gd_ 72 ?_);refine Kd.R_lit k77 _ 77 ?hg (N:=72) ?hd (xs:=([]:List (S77))) (inner:=[]) (ok:=fun _=>True) (okp:=fun _=>True) ?hr ?hp (fun _ hk=>hk) trivial (Below.refl _ _) (Nat.le_refl _) (by simp) ?_;(case hd=>rfl);(case hg=>rfl);(case hr=>first | (go_simp;done) | (go_simp;rfl));(case hp=>exact (Reps.none _ _));intro v118 w55 ho56 hb hg_ hnew_;clear hg_ hnew_;(first | rw [← Ny117.out] at ho56 | (simp only [Int.reduceToNat] at ho56;rw [← Ny117.out] at ho56));have n0_:=aM (Kd.R_elder' (z1_ HO_110001.out) (Kd.R_base ho56) hb);have n1_:=aM (Kd.R_lower (Kd.R_newB (Kd.R_new' ho56 (Kd.R_lt (z1_ HO_110001.out))) (g:=gb113) (o:=.cells #[.int .i64 t112,.int .i64 x6_1] 77 (0,0)) (z3_ BK113.out)) (below_size (z13_ HB.out GE108.out GE109.out GE113.out)));have n2_:=aM (blkB_ BK108.out hb);have n3_:=aM (blkB_ BK109.out hb);have n4_:=aM (blkB_ BK113.out hb);have n5_:=aM (below_step (z13_ HB.out GE108.out GE109.out GE113.out) hb);clear HO_110001;clear BK108;clear BK109;clear BK113;clear HB;have HO_110001:=n0_;have HO119:=n1_;have BK108:=n2_;have BK109:=n3_;have BK113:=n4_;have HB:=n5_;clear n0_ n1_ n2_ n3_ n4_ n5_;clear hb ho56;have hnb57:=NB109_108.out;have hnc57:=NB108_109.out;have hnb58:=NB109_113.out;have hnc58:=NB113_109.out;have ⟨hcz59_0,hcz59_1,hfz59_0,hfz59_1⟩:=cz2_ BK109.out;obtain ⟨Ao61,co61,eo61⟩:=Kd.R_slice HO_110001.out;subst eo61;have q60:(x9_3:Int)≤((x110001_2.length:Int):Int):=dT (z0_);obtain ⟨i060,hi060,_,hsz60,_⟩:=info_parts info77;have hroom60:x110001_2.length≤co61:=(Kd.R_reads' HO_110001.out).2.1;have hC60:Kd.C k77 _ Ao61 x110001_2.length x110001_2:=(Kd.R_reads' HO_110001.out).2.2;have hcut60:=cut_to (P:=Tryd.prog) 22 77 .i64 Tryd.underlying22 hi060 Ao61 x110001_2.length co61 x9_3 (dT (z0_)) q60 hroom60;have hr60:=Kd.C_take (m:=(x9_3:Int).toNat) hC60 (by omega);have hy60:y120.length=(x9_3:Int).toNat:=(by rw [Ny120.out,List.length_take];omega);rw [← Ny120.out] at hr60;rw [← hy60] at hcut60;have HR123:=aM hr60;have HC123:=aM (show y120.length≤co61 from by omega);clear hr60 hC60 hroom60 hi060 hsz60;have KY60:=aM hy60;clear hy60;have KL60:=aM (show (x9_3:Int).toNat≤x110001_2.length from by omega);replace q60:=eq_true q60) | ((with_reducible refine gate_builtin (b:=.append) (xs:=#[.tmp 72,.tmp 76]) rfl ?_);at_builtin;refine Kd.R_append_rows k77 (w0:=w) w.heap.size rfl (.tmp 72) (.tmp 76) 22 77 (.agg #[(.int .i64 0),(.int .i64 0)]) 16 rfl Tryd.underlying22 info77 rfl (by decide) (by omega) v118 y117 y120 _ _ _ (fun k_=>some k_≠(.slice Ao61 x110001_2.length co61:Value).ownBlock∧k_≠gb113) (fun _=>False) rfl rfl ?aO ?aR (fun _ _ h=>h) (fun _ h=>h.elim) ?aF ?aB ?aS ?aL ?_;(case aR=>repeat (first | exact (z34_ HR123.out) | (with_reducible refine Kd.C_alloc ?_ _) | (with_reducible refine Kd.C_drewN ?_ _) | (with_reducible refine Kd.C_drew ?_)));(case aB=>exact (z13_ HB.out GE108.out GE109.out GE113.out));(case aF=>exact (fun k_ hk=>⟨Kd.fresh' (Kd.R_lt (z1_ HO_110001.out)) k_ hk,Kd.freshB (g:=gb113) (o:=.cells #[.int .i64 t112,.int .i64 x6_1] 77 (0,0)) (z3_ BK113.out) k_ hk⟩));(case aO=>exact (z35_ HO119.out));(case aS=>exact (below_size (z13_ HB.out GE108.out GE109.out GE113.out)));(case aL=>have:=LMc50.out;omega);intro v125 w62 ho hb hg hat;rw [← Ny124.out] at ho;have n0_:=aM (Kd.R_after (ok:=(fun k_=>k_≠gb113)) (z1_ HO_110001.out) hg hat);have n1_:=aM (blk_grown (g:=gb108) (o:=.cells #[.int .i64 0,.slice none 0 0] 24 (0,0)) (z3_ BK108.out) hg (Kd.R_ne HO119.out BK108.out (by decide)));have n2_:=aM (blk_grown (g:=gb109) (o:=.cells #[.int .i64 a0,.slice Ao61 x110001_2.length co61] 24 (0,0)) (z3_ BK109.out) hg (Kd.R_ne HO119.out BK109.out (by decide)));have n3_:=aM (blk_grown (g:=gb113) (o:=.cells #[.int .i64 t112,.int .i64 x6_1] 77 (0,0)) (z3_ BK113.out) hg (Kd.R_away HO119.out (fun _ hk=>hk.2)));have n4_:=aM (hb);have n5_:=aM ((show Kd.C k77 w62 Ao61 y120.length y120 from by rw [Ny120.out];exact Kd.C_take (m:=(x9_3:Int).toNat) ((Kd.R_reads' (Kd.R_after (ok:=(fun k_=>k_≠gb113)) (z1_ HO_110001.out) hg hat)).2.2) KL60.out));have n6_:=aM (ho);clear HO_110001;clear BK108;clear BK109;clear BK113;clear HB;clear HR123;clear HO119;have HO_110001:=n0_;have BK108:=n1_;have BK109:=n2_;have BK113:=n3_;have HB:=n4_;have HR123:=n5_;have HO126:=n6_;clear n0_ n1_ n2_ n3_ n4_ n5_ n6_;clear ho hb hg hat;have hnb63:=NB113_108.out;have hnc63:=NB108_113.out;have ⟨hcz64_0,hcz64_1,hfz64_0,hfz64_1⟩:=cz2_ BK113.out) | ((with_reducible refine gate_builtin (b:=.append) (xs:=#[.tmp 78,.tmp 80]) rfl ?_);at_builtin;refine Kd.R_append k77 (w0:=w) w.heap.size rfl (.tmp 78) (.tmp 80) 22 77 (.agg #[(.int .i64 0),(.int .i64 0)]) 16 rfl Tryd.underlying22 info77 rfl (by decide) (by omega) v125 y124 (⟨t112,x6_1⟩:S77) [.int .i64 t112,.int .i64 x6_1] (fun k_=>some k_≠(.slice Ao61 x110001_2.length co61:Value).ownBlock∧k_≠gb113) (fun _=>False) rfl rfl ?aP (fun _ hk=>hk.elim) ?aF ?aO ?aB ?aS ?aL ?_;(case aP=>exact k77_mkM _ _ _ (⟨t112,x6_1⟩:S77));(case aB=>exact (z13_ HB.out GE108.out GE109.out GE113.out));(case aF=>exact (fun k_ hk=>⟨Kd.fresh' (Kd.R_lt (z1_ HO_110001.out)) k_ hk,Kd.freshB (g:=gb113) (o:=.cells #[.int .i64 t112,.int .i64 x6_1] 77 (0,0)) (z3_ BK113.out) k_ hk⟩));(case aO=>exact (z1_ HO126.out));(case aS=>exact (below_size (z13_ HB.out GE108.out GE109.out GE113.out)));(case aL=>have:=LMc51.out;omega);intro v128 w65 ho hb hg hat;rw [← Ny127.out] at ho;have n0_:=aM (Kd.R_after (ok:=(fun k_=>k_≠gb113)) (z1_ HO_110001.out) hg hat);have n1_:=aM (blk_grown (g:=gb108) (o:=.cells #[.int .i64 0,.slice none 0 0] 24 (0,0)) (z3_ BK108.out) hg (Kd.R_ne HO126.out BK108.out (by decide)));have n2_:=aM (blk_grown (g:=gb109) (o:=.cells #[.int .i64 a0,.slice Ao61 x110001_2.length co61] 24 (0,0)) (z3_ BK109.out) hg (Kd.R_ne HO126.out BK109.out (by decide)));have n3_:=aM (blk_grown (g:=gb113) (o:=.cells #[.int .i64 t112,.int .i64 x6_1] 77 (0,0)) (z3_ BK113.out) hg (Kd.R_away HO126.out (fun _ hk=>hk.2)));have n4_:=aM (hb);have n5_:=aM ((show Kd.C k77 w65 Ao61 y120.length y120 from by rw [Ny120.out];exact Kd.C_take (m:=(x9_3:Int).toNat) ((Kd.R_reads' (Kd.R_after (ok:=(fun k_=>k_≠gb113)) (z1_ HO_110001.out) hg hat)).2.2) KL60.out));have n6_:=aM (ho);clear HO_110001;clear BK108;clear BK109;clear BK113;clear HB;clear HR123;clear HO126;have HO_110001:=n0_;have BK108:=n1_;have BK109:=n2_;have BK113:=n3_;have HB:=n4_;have HR123:=n5_;have HO129:=n6_;clear n0_ n1_ n2_ n3_ n4_ n5_ n6_;clear ho hb hg hat;have ⟨hcz66_0,hcz66_1,hfz66_0,hfz66_1⟩:=cz2_ BK109.out;have q67:(x9_3:Int)≤((x110001_2.length:Int):Int):=dT (z0_);obtain ⟨i067,hi067,_,hsz67,_⟩:=info_parts info77;have hroom67:x110001_2.length≤co61:=(Kd.R_reads' HO_110001.out).2.1;have hC67:Kd.C k77 _ Ao61 x110001_2.length x110001_2:=(Kd.R_reads' HO_110001.out).2.2;have q067:(0:Int)≤(x9_3:Int):=dT (z0_);have hcut67:=cut_from (P:=Tryd.prog) 22 77 .i64 Tryd.underlying22 hi067 2 hsz67 Ao61 x110001_2.length co61 x9_3 q067 q67;have hr67:=Kd.C_drop (m:=(x9_3:Int).toNat) (c:=co61) hC67 (by omega) hroom67;obtain ⟨A67,hA67⟩:∃ A1,A1=(if co61=(x9_3:Int).toNat then Ao61 else (Ao61:Option Addr).map (·.add ((x9_3:Int).toNat*2))):=⟨_,rfl⟩;obtain ⟨c67,hc67⟩:∃ c1,c1=co61-(x9_3:Int).toNat:=⟨_,rfl⟩;have hy67:y130.length=x110001_2.length-(x9_3:Int).toNat:=(by rw [Ny130.out,List.length_drop] <;> omega);rw [show (x110001_2).drop (x9_3:Int).toNat=y130 from Ny130.out.symm] at hr67;replace hr67:Kd.C k77 _ A67 y130.length y130:=(by rw [hA67];exact hr67);rw [← hy67,← hA67,← hc67] at hcut67;have HR133:=aM hr67;have HC133:=aM (show y130.length≤c67 from by rw [hy67,hc67];exact Nat.sub_le_sub_right hroom67 _);clear hr67 hC67 hroom67 hi067 hsz67 hc67;have KY67:=aM hy67;have KA67:=aM hA67;clear hy67 hA67;have KL67:=aM (show (x9_3:Int).toNat≤x110001_2.length from by omega);replace q67:=eq_true q67) | ((with_reducible refine gate_builtin (b:=.append) (xs:=#[.tmp 82,.tmp 86]) rfl ?_);at_builtin;refine Kd.R_append_rows k77 (w0:=w) w.heap.size rfl (.tmp 82) (.tmp 86) 22 77 (.agg #[(.int .i64 0),(.int .i64 0)]) 16 rfl Tryd.underlying22 info77 rfl (by decide) (by omega) v128 y127 y130 _ _ _ (fun k_=>some k_≠(.slice Ao61 x110001_2.length co61:Value).ownBlock∧k_≠gb113) (fun _=>False) rfl rfl ?aO ?aR (fun _ _ h=>h) (fun _ h=>h.elim) ?aF ?aB ?aS ?aL ?_;(case aR=>repeat (first | exact (z34_ HR133.out) | (with_reducible refine Kd.C_alloc ?_ _) | (with_reducible refine Kd.C_drewN ?_ _) | (with_reducible refine Kd.C_drew ?_)));(case aB=>exact (z13_ HB.out GE108.out GE109.out GE113.out));(case aF=>exact (fun k_ hk=>⟨Kd.fresh' (Kd.R_lt (z1_ HO_110001.out)) k_ hk,Kd.freshB (g:=gb113) (o:=.cells #[.int .i64 t112,.int .i64 x6_1] 77 (0,0)) (z3_ BK113.out) k_ hk⟩));(case aO=>exact (z1_ HO129.out));(case aS=>exact (below_size (z13_ HB.out GE108.out GE109.out GE113.out)));(case aL=>have:=LMc54.out;omega);intro v135 w68 ho hb hg hat;rw [← Ny134.out] at ho;have n0_:=aM (Kd.R_after (ok:=(fun k_=>k_≠gb113)) (z1_ HO_110001.out) hg hat);have n1_:=aM (blk_grown (g:=gb108) (o:=.cells #[.int .i64 0,.slice none 0 0] 24 (0,0)) (z3_ BK108.out) hg (Kd.R_ne HO129.out BK108.out (by decide)));have n2_:=aM (blk_grown (g:=gb109) (o:=.cells #[.int .i64 a0,.slice Ao61 x110001_2.length co61] 24 (0,0)) (z3_ BK109.out) hg (Kd.R_ne HO129.out BK109.out (by decide)));have n3_:=aM (blk_grown (g:=gb113) (o:=.cells #[.int .i64 t112,.int .i64 x6_1] 77 (0,0)) (z3_ BK113.out) hg (Kd.R_away HO129.out (fun _ hk=>hk.2)));have n4_:=aM (hb);have n5_:=aM ((show Kd.C k77 w68 Ao61 y120.length y120 from by rw [Ny120.out];exact Kd.C_take (m:=(x9_3:Int).toNat) ((Kd.R_reads' (Kd.R_after (ok:=(fun k_=>k_≠gb113)) (z1_ HO_110001.out) hg hat)).2.2) KL60.out));have n6_:=aM ((show Kd.C k77 w68 A67 y130.length y130 from by rw [Ny130.out,KA67.out];exact Kd.C_drop (m:=(x9_3:Int).toNat) (c:=co61) ((Kd.R_reads' (Kd.R_after (ok:=(fun k_=>k_≠gb113)) (z1_ HO_110001.out) hg hat)).2.2) KL67.out ((Kd.R_reads' (Kd.R_after (ok:=(fun k_=>k_≠gb113)) (z1_ HO_110001.out) hg hat)).2.1)));have n7_:=aM (ho);clear HO_110001;clear BK108;clear BK109;clear BK113;clear HB;clear HR123;clear HR133;clear HO129;have HO_110001:=n0_;have BK108:=n1_;have BK109:=n2_;have BK113:=n3_;have HB:=n4_;have HR123:=n5_;have HR133:=n6_;have HO136:=n7_;clear n0_ n1_ n2_ n3_ n4_ n5_ n6_ n7_;clear ho hb hg hat;obtain ⟨Ao69,co69,eo69⟩:=Kd.R_slice HO136.out;subst eo69;have ⟨hcz70_0,hcz70_1,hfz70_0,hfz70_1⟩:=cz2_ BK109.out)))
                   go_roundg kj19
                   case measure=>have:=HK1.out;have:=HK2.out;have:=HK3.out;have:=HJ19.out;omega
                   case rel=>exact ⟨(wrap64 (x7_2+1)),(y134),(.slice Ao69 y134.length co69),(z2_),H',⟨by have:=HK1.out;have:=HK2.out;have:=HK3.out;have:=HJ19.out;omega⟩,⟨by (with_reducible repeat (first | apply Kd.R_alloc | apply Kd.R_drewN | apply Kd.R_drew));exact Kd.R_mono (Kd.R_far (p:=⟨gb109,1,none⟩) (Kd.R_types HO136.out BK109.out (by decide)) (fun _ hk=>hk.2) (.slice Ao69 y134.length co69)) (fun _ hk=>trivial)⟩,⟨z44_ NB108_109.out BK108.out⟩,⟨by (with_reducible repeat (first | refine blk_drewN ?_ _ | refine blk_drew ?_ | refine blk_alloc ?_ _));refine blk_put (cs:=#[.int .i64 a0,.slice Ao61 x110001_2.length co61]) ?_ 1 _ rfl;(with_reducible repeat (first | refine blk_drewN ?_ _ | refine blk_drew ?_ | refine blk_alloc ?_ _));exact BK109.out⟩,⟨z13_ HB.out GE108.out GE109.out GE113.out⟩⟩
                  ·rw [if_neg c54] at H
                   exact nO H
                 ·rw [if_neg c51] at H
                  exact nO H
                ·rw [if_neg c50] at H
                 exact nO H
               ·rw [if_neg c49] at H
                exact nO H
              ·rw [if_neg c48] at H
               exact nO H
        ·rw [if_neg c12] at H
         exact nO H
       ·rw [if_neg c10] at H
        exact nO H
      ·rw [if_neg c8] at H
       have c8b0:decide (x7_2≤a1)=false:=dF c8
       clear c8
       have H':=aM H
       clear H
       go_wp2
       repeat (go_quiet (fail);try go_wp2)
       go_roundg k2
       case measure=>have:=HK1.out;have:=HK2.out;omega
       case rel=>exact ⟨(wrap64 (x6_1+1)),(x110001_2),(u110001),(z2_),H',⟨z15_ HK1.out HK2.out⟩,⟨z1_ HO_110001.out⟩,⟨z3_ BK108.out⟩,⟨z3_ BK109.out⟩,⟨z4_ HB.out GE108.out GE109.out⟩⟩
   ·rw [if_neg c7] at H
    have c7b0:decide (x6_1≤a0)=false:=dF c7
    clear c7
    simp only [Option.some.injEq,Prod.mk.injEq] at H
    obtain ⟨rfl,rfl⟩:=H
    have hnb71:=NB109_108.out
    have hnc71:=NB108_109.out
    have ⟨hcz72_0,hcz72_1,hfz72_0,hfz72_1⟩:=cz2_ BK109.out
    have ⟨hcz73_0,hcz73_1,hfz73_0,hfz73_1⟩:=cz2_ BK108.out
    obtain ⟨Ao74,co74,eo74⟩:=Kd.R_slice HO_110001.out
    subst eo74
    go_wp2
    repeat (go_quiet (fail);try go_wp2)
    refine bodyPost_ret (results_cell_row rfl _ _ gb108 24 #[.int .i64 a0,.slice Ao74 x110001_1.length co74] (0,0) _ rfl (z20_ BK108.out) Tryd.underlying24 rfl (by kernel_rfl)) rfl ?_
    exact ⟨_,z9_,z36_ HO_110001.out BK108.out,z4_ HB.out GE108.out GE109.out⟩


/-! ### Y3: function 50 -/
def Y3.f (s0_0:List Int) (s0_1:Int) (s0_2:Int) (s0_3:Int) (a1:Int):Option (Int × Int × Int × Int):=if a1≤1 then (some (0,s0_1,s0_2,s0_3)) else (if s0_1<(s0_0.length:Int) then (if 0≤s0_1 then (if (IntKind.u64.wrap (a1))=0 then (none) else (some (wrap64 (Int.tmod (IntKind.u64.wrap ((IntKind.u64.wrap (rd s0_0 s0_1))+((Go.bits .xor .u64 (Go.bits .xor .u64 (Go.bits .xor .u64 s0_2 (IntKind.u64.wrap (s0_2*8192))) ((Go.bits .xor .u64 s0_2 (IntKind.u64.wrap (s0_2*8192))) / 128)) (IntKind.u64.wrap ((Go.bits .xor .u64 (Go.bits .xor .u64 s0_2 (IntKind.u64.wrap (s0_2*8192))) ((Go.bits .xor .u64 s0_2 (IntKind.u64.wrap (s0_2*8192))) / 128))*131072))) / 1048576))) (IntKind.u64.wrap (a1))),wrap64 (s0_1+1),Go.bits .xor .u64 (Go.bits .xor .u64 (Go.bits .xor .u64 s0_2 (IntKind.u64.wrap (s0_2*8192))) ((Go.bits .xor .u64 s0_2 (IntKind.u64.wrap (s0_2*8192))) / 128)) (IntKind.u64.wrap ((Go.bits .xor .u64 (Go.bits .xor .u64 s0_2 (IntKind.u64.wrap (s0_2*8192))) ((Go.bits .xor .u64 s0_2 (IntKind.u64.wrap (s0_2*8192))) / 128))*131072)),s0_3))) else (none)) else (if (IntKind.u64.wrap (a1))=0 then (none) else (some (wrap64 (Int.tmod (IntKind.u64.wrap (0+((Go.bits .xor .u64 (Go.bits .xor .u64 (Go.bits .xor .u64 s0_2 (IntKind.u64.wrap (s0_2*8192))) ((Go.bits .xor .u64 s0_2 (IntKind.u64.wrap (s0_2*8192))) / 128)) (IntKind.u64.wrap ((Go.bits .xor .u64 (Go.bits .xor .u64 s0_2 (IntKind.u64.wrap (s0_2*8192))) ((Go.bits .xor .u64 s0_2 (IntKind.u64.wrap (s0_2*8192))) / 128))*131072))) / 1048576))) (IntKind.u64.wrap (a1))),s0_1,Go.bits .xor .u64 (Go.bits .xor .u64 (Go.bits .xor .u64 s0_2 (IntKind.u64.wrap (s0_2*8192))) ((Go.bits .xor .u64 s0_2 (IntKind.u64.wrap (s0_2*8192))) / 128)) (IntKind.u64.wrap ((Go.bits .xor .u64 (Go.bits .xor .u64 s0_2 (IntKind.u64.wrap (s0_2*8192))) ((Go.bits .xor .u64 s0_2 (IntKind.u64.wrap (s0_2*8192))) / 128))*131072)),s0_3))))
def Y3.T4:Bool × List (List Nat × List Nat):=(true,[([],[]),([0],[0]),([1],[1]),([2],[2]),([],[]),([4],[4]),([5],[5]),([6],[6]),([7],[7]),([3,8],[3,8])])
def Y3.B4:List Nat:=[0,1,3,7,0,16,48,112,240,511]
theorem Y3.tab4:rtab .any (opsOf Tryd.f50 4)=Y3.T4:=by kernel_rfl
theorem Y3.bits4:waitsOk Y3.T4.2 Y3.B4=true:=by kernel_rfl
def Y3.T5:Bool × List (List Nat × List Nat):=(true,[([],[]),([0],[0]),([1],[1]),([2],[2]),([],[]),([4],[4]),([5],[5]),([6],[6]),([3,7],[3,7]),([8],[8]),([9],[9]),([10,0,1,2,3,4,5,6,7,8,9,10],[10])])
def Y3.B5:List Nat:=[0,1,3,7,0,16,48,112,255,511,1023,2047]
theorem Y3.tab5:rtab .any (opsOf Tryd.f50 5)=Y3.T5:=by kernel_rfl
theorem Y3.bits5:waitsOk Y3.T5.2 Y3.B5=true:=by kernel_rfl
def Y3.T7:Bool × List (List Nat × List Nat):=(true,[([],[]),([],[]),([1],[1]),([2],[2]),([3],[3]),([],[]),([5],[5]),([6],[6]),([7],[7]),([8],[8]),([4,9],[4,9]),([0,0,1,2,3,4,5,6,7,8,9,10],[0]),([11,0,1,2,3,4,5,6,7,8,9,10],[11]),([12,10,0,1,2,3,4,5,6,7,8,9,10],[10,12])])
def Y3.B7:List Nat:=[0,0,2,6,14,0,32,96,224,480,1022,2047,4095,8191]
theorem Y3.tab7:rtab .any (opsOf Tryd.f50 7)=Y3.T7:=by kernel_rfl
theorem Y3.bits7:waitsOk Y3.T7.2 Y3.B7=true:=by kernel_rfl
def Y3.T8:Bool × List (List Nat × List Nat):=(true,[([],[]),([],[]),([1],[1]),([2],[2]),([3],[3]),([],[]),([5],[5]),([6],[6]),([7],[7]),([8],[8]),([4,9],[4,9]),([0,0,1,2,3,4,5,6,7,8,9,10],[0]),([11,0,1,2,3,4,5,6,7,8,9,10],[11]),([12,10,0,1,2,3,4,5,6,7,8,9,10],[10,12])])
def Y3.B8:List Nat:=[0,0,2,6,14,0,32,96,224,480,1022,2047,4095,8191]
theorem Y3.tab8:rtab .any (opsOf Tryd.f50 8)=Y3.T8:=by kernel_rfl
theorem Y3.bits8:waitsOk Y3.T8.2 Y3.B8=true:=by kernel_rfl
def Y3.T9:Bool × List (List Nat × List Nat):=(true,[([],[]),([],[]),([1],[1]),([2],[2]),([3],[3]),([],[]),([5],[5]),([6],[6]),([7],[7]),([8],[8]),([4,9],[4,9]),([0,0,1,2,3,4,5,6,7,8,9,10],[0]),([11,0,1,2,3,4,5,6,7,8,9,10],[11]),([12,10,0,1,2,3,4,5,6,7,8,9,10],[10,12])])
def Y3.B9:List Nat:=[0,0,2,6,14,0,32,96,224,480,1022,2047,4095,8191]
theorem Y3.tab9:rtab .any (opsOf Tryd.f50 9)=Y3.T9:=by kernel_rfl
theorem Y3.bits9:waitsOk Y3.T9.2 Y3.B9=true:=by kernel_rfl
abbrev Y3.q0:Array Bool:=#[O,O,O,O,O,O,O,O,O,O,O,O,O,O]
abbrev Y3.q1:Array Bool:=#[I,O,O,O,O,O,O,O,O,O,O,O,O,O]
abbrev Y3.q2:Array Bool:=#[I,I,O,O,O,O,O,O,O,O,O,O,O,O]
abbrev Y3.q3:Array Bool:=#[I,I,I,O,O,O,O,O,O,O,O,O,O,O]
abbrev Y3.q4:Array Bool:=#[I,I,I,I,O,O,O,O,O,O,O,O,O,O]
abbrev Y3.q5:Array Bool:=#[I,I,I,I,O,I,O,O,O,O,O,O,O,O]
abbrev Y3.q6:Array Bool:=#[I,I,I,I,O,I,I,O,O,O,O,O,O,O]
abbrev Y3.q7:Array Bool:=#[I,I,I,I,O,I,I,I,O,O,O,O,O,O]
abbrev Y3.q8:Array Bool:=#[I,I,I,I,I,I,I,I,O,O,O,O,O,O]
abbrev Y3.q9:Array Bool:=#[I,I,I,I,I,I,I,I,I,O,O,O,O,O]
abbrev Y3.q10:Array Bool:=#[I,I,I,I,I,I,I,I,I,I,O,O,O,O]
abbrev Y3.q11:Array Bool:=#[I,I,I,I,I,I,I,I,I,I,I,O,O,O]
abbrev Y3.q12:Array Bool:=#[I,I,I,I,I,I,I,I,I,I,I,I,O,O]
abbrev Y3.q13:Array Bool:=#[I,I,I,I,I,I,I,I,I,I,I,I,I,O]
abbrev Y3.q14:Array Bool:=#[I,I,I,I,I,I,I,I,I,I,I,I,I,I]
theorem Y3.calls (g:Nat) (s0_0:List Int) (s0_1:Int) (s0_2:Int) (s0_3:Int) (a1:Int) (r1:Int) (r2:Int) (r3:Int) (r4:Int) (w0 w:World) (hI:IsS108 w0 w g s0_0 s0_1 s0_2 s0_3) (hB:Below w0.heap.size w0 w) (h:Y3.f s0_0 s0_1 s0_2 s0_3 a1=some (r1,r2,r3,r4)) :
  Calls Tryd.prog 50 #[.pointer (some ⟨g,0,none⟩),.int .i64 a1] w fun e w'=>e = .returned (.int .i64 r1)∧IsS108 w0 w' g s0_0 r2 r3 r4∧Below w0.heap.size w0 w'∧KeepBut w w' g none:=by
 have HI0:=aM hI
 have HK:=aM (KeepBut.refl w g none)
 have HL:=aM hB.size
 clear hI
 have HW0:=aM hB.size
 have HB:=aM hB
 clear hB
 have H:(if a1≤1 then (some (0,s0_1,s0_2,s0_3)) else (if s0_1<(s0_0.length:Int) then (if 0≤s0_1 then (if (IntKind.u64.wrap (a1))=0 then (none) else (some (wrap64 (Int.tmod (IntKind.u64.wrap ((IntKind.u64.wrap (rd s0_0 s0_1))+((Go.bits .xor .u64 (Go.bits .xor .u64 (Go.bits .xor .u64 s0_2 (IntKind.u64.wrap (s0_2*8192))) ((Go.bits .xor .u64 s0_2 (IntKind.u64.wrap (s0_2*8192))) / 128)) (IntKind.u64.wrap ((Go.bits .xor .u64 (Go.bits .xor .u64 s0_2 (IntKind.u64.wrap (s0_2*8192))) ((Go.bits .xor .u64 s0_2 (IntKind.u64.wrap (s0_2*8192))) / 128))*131072))) / 1048576))) (IntKind.u64.wrap (a1))),wrap64 (s0_1+1),Go.bits .xor .u64 (Go.bits .xor .u64 (Go.bits .xor .u64 s0_2 (IntKind.u64.wrap (s0_2*8192))) ((Go.bits .xor .u64 s0_2 (IntKind.u64.wrap (s0_2*8192))) / 128)) (IntKind.u64.wrap ((Go.bits .xor .u64 (Go.bits .xor .u64 s0_2 (IntKind.u64.wrap (s0_2*8192))) ((Go.bits .xor .u64 s0_2 (IntKind.u64.wrap (s0_2*8192))) / 128))*131072)),s0_3))) else (none)) else (if (IntKind.u64.wrap (a1))=0 then (none) else (some (wrap64 (Int.tmod (IntKind.u64.wrap (0+((Go.bits .xor .u64 (Go.bits .xor .u64 (Go.bits .xor .u64 s0_2 (IntKind.u64.wrap (s0_2*8192))) ((Go.bits .xor .u64 s0_2 (IntKind.u64.wrap (s0_2*8192))) / 128)) (IntKind.u64.wrap ((Go.bits .xor .u64 (Go.bits .xor .u64 s0_2 (IntKind.u64.wrap (s0_2*8192))) ((Go.bits .xor .u64 s0_2 (IntKind.u64.wrap (s0_2*8192))) / 128))*131072))) / 1048576))) (IntKind.u64.wrap (a1))),s0_1,Go.bits .xor .u64 (Go.bits .xor .u64 (Go.bits .xor .u64 s0_2 (IntKind.u64.wrap (s0_2*8192))) ((Go.bits .xor .u64 s0_2 (IntKind.u64.wrap (s0_2*8192))) / 128)) (IntKind.u64.wrap ((Go.bits .xor .u64 (Go.bits .xor .u64 s0_2 (IntKind.u64.wrap (s0_2*8192))) ((Go.bits .xor .u64 s0_2 (IntKind.u64.wrap (s0_2*8192))) / 128))*131072)),s0_3)))))=some (r1,r2,r3,r4):=h
 clear h
 by_cases c3:a1≤1
 ·rw [if_pos c3] at H
  have c3b0:decide (a1≤1)=true:=dE c3
  clear c3
  simp only [Option.some.injEq,Prod.mk.injEq] at H
  obtain ⟨rfl,rfl,rfl,rfl⟩:=H
  go_enter Tryd.func50,Tryd.ntmps50
  go_wp2
  go_ret
  exact ⟨z9_,z16_ HI0.out,z17_ HB.out HI0.out,z12_ HK.out⟩
 ·rw [if_neg c3] at H
  have c3b0:decide (a1≤1)=false:=dF c3
  clear c3
  by_cases c4:s0_1<(s0_0.length:Int)
  ·rw [if_pos c4] at H
   have c4b0:decide (s0_1<(s0_0.length:Int))=true:=dE c4
   clear c4
   by_cases c5:0≤s0_1
   ·rw [if_pos c5] at H
    have c5b0:decide (0≤s0_1)=true:=dE c5
    clear c5
    by_cases c6:(IntKind.u64.wrap (a1))=0
    ·rw [if_pos c6] at H
     exact nO H
    ·rw [if_neg c6] at H
     have c6b0:((IntKind.u64.wrap (a1)) == 0)=false:=beq_eq_false_iff_ne.mpr c6
     have c6b1:((IntKind.u64.wrap (a1)) != 0)=true:=bne_iff_ne.mpr c6
     simp only [Option.some.injEq,Prod.mk.injEq] at H
     obtain ⟨rfl,rfl,rfl,rfl⟩:=H
     go_enter Tryd.func50,Tryd.ntmps50
     try go_wp2
     have n0_:=aM (IsS108.drew HI0.out)
     have n1_:=aM (keep_drew HK.out)
     have n2_:=aM (below_drew1 HB.out)
     clear HI0
     clear HK
     clear HB
     have HI0:=n0_
     have HK:=n1_
     have HB:=n2_
     clear n0_ n1_ n2_
     obtain ⟨ASz8_0,cSz8_0,HGz8,hgz8,HSz8_0⟩:=HI0.out
     have HH9:=aM HGz8
     clear HGz8 hgz8
     refine start_ (n:=10) (S:=fun w'=>w'.cell? ⟨g,0,none⟩=some (.slice ASz8_0 s0_0.length cSz8_0)∧w'.cell? ⟨g,1,none⟩=some (.int .i64 s0_1)∧w'.cell? ⟨g,2,none⟩=some (.int .u64 s0_2)∧w'.cell? ⟨g,3,none⟩=some (.int .i64 s0_3)) (ds:=[]) #[O,O,O,O,O,O,O,O,O,O] (by kernel_rfl) rfl rfl (cc4_ HH9.out) (fun hHeld=>?_);refine with_tabW Y3.tab4 Y3.bits4 (fun HT_ HW_=>?_)
     generalize w.drew=w7 at HI0 HK HB HH9 hHeld ⊢
     refine pu_ 0 8 #[I,O,O,O,O,O,O,O,O,O] HT_.out ?_
     refine pu_ 1 9 #[I,I,O,O,O,O,O,O,O,O] HT_.out ?_
     refine pu_ 2 10 #[I,I,I,O,O,O,O,O,O,O] HT_.out ?_
     refine pu_ 4 12 #[I,I,I,O,I,O,O,O,O,O] HT_.out ?_
     refine pu_ 5 13 #[I,I,I,O,I,I,O,O,O,O] HT_.out ?_
     refine pu_ 6 14 #[I,I,I,O,I,I,I,O,O,O] HT_.out ?_
     refine tk4_ 3 11 #[I,I,I,I,I,I,I,O,O,O] HT_.out HW_.out hHeld ?_
     refine tk4_ 7 15 #[I,I,I,I,I,I,I,I,O,O] HT_.out HW_.out hHeld ?_
     refine pu_ 8 16 #[I,I,I,I,I,I,I,I,I,O] HT_.out ?_
     refine pu_ 9 17 #[I,I,I,I,I,I,I,I,I,I] HT_.out ?_
     refine done_ (done_of HT_.out (by kernel_rfl)) ?_
     try go_wp2
     have n0_:=aM (IsS108.drew HI0.out)
     have n1_:=aM (keep_drew HK.out)
     have n2_:=aM (below_drew1 HB.out)
     clear HI0
     clear HK
     clear HB
     have HI0:=n0_
     have HK:=n1_
     have HB:=n2_
     clear n0_ n1_ n2_
     obtain ⟨ASz11_0,cSz11_0,HGz11,hgz11,HSz11_0⟩:=HI0.out
     have HH12:=aM HGz11
     clear HGz11 hgz11
     have p306:0≤(s0_1:Int):=dT (z0_)
     have q306:s0_1<(s0_0.length:Int):=dT (z0_)
     obtain ⟨ad306,e306,hx306_0⟩:=Kd.at_int HSz11_0 s0_1 p306 q306
     have hw306_0:=hx306_0
     cases e306
     replace hx306_0:=pw_cell_below HB.out hx306_0
     replace p306:=eq_true p306
     replace q306:=eq_true q306
     refine start_ (n:=12) (S:=fun w'=>w'.cell? ⟨g,0,none⟩=some (.slice (some ad306) s0_0.length cSz11_0)∧w'.cell? ⟨g,1,none⟩=some (.int .i64 s0_1)∧w'.cell? ⟨g,2,none⟩=some (.int .u64 s0_2)∧w'.cell? ⟨g,3,none⟩=some (.int .i64 s0_3)∧w'.cell? (ad306.add (s0_1).toNat)=some (.int .u8 (rd s0_0 s0_1))) (ds:=[]) #[O,O,O,O,O,O,O,O,O,O,O,O] (by kernel_rfl) rfl rfl (cj4_ HH12.out ((HB.out.cell (World.block_lt_of_cell? w0 _ hw306_0)).trans hw306_0)) (fun hHeld=>?_);refine with_tabW Y3.tab5 Y3.bits5 (fun HT_ HW_=>?_)
     generalize w7.drew=w10 at HI0 HK HB HH12 hx306_0 hHeld ⊢
     refine pu_ 0 18 #[I,O,O,O,O,O,O,O,O,O,O,O] HT_.out ?_
     refine pu_ 1 19 #[I,I,O,O,O,O,O,O,O,O,O,O] HT_.out ?_
     refine pu_ 2 20 #[I,I,I,O,O,O,O,O,O,O,O,O] HT_.out ?_
     refine pu_ 4 22 #[I,I,I,O,I,O,O,O,O,O,O,O] HT_.out ?_
     refine pu_ 5 23 #[I,I,I,O,I,I,O,O,O,O,O,O] HT_.out ?_
     refine pu_ 6 24 #[I,I,I,O,I,I,I,O,O,O,O,O] HT_.out ?_
     refine tk5_ 3 21 #[I,I,I,I,I,I,I,O,O,O,O,O] HT_.out HW_.out hHeld ?_
     refine tk5_ 7 25 #[I,I,I,I,I,I,I,I,O,O,O,O] HT_.out HW_.out hHeld ?_
     refine pu_ 8 26 #[I,I,I,I,I,I,I,I,I,O,O,O] HT_.out ?_
     refine tk5_ 9 27 #[I,I,I,I,I,I,I,I,I,I,O,O] HT_.out HW_.out hHeld ?_
     refine pu_ 10 28 #[I,I,I,I,I,I,I,I,I,I,I,O] HT_.out ?_
     refine pu_ 11 5 #[I,I,I,I,I,I,I,I,I,I,I,I] HT_.out ?_
     refine done_ (done_of HT_.out (by kernel_rfl)) ?_
     obtain ⟨ASz13_0,cSz13_0,HGz13,hgz13,HSz13_0⟩:=HI0.out
     have hcz13_0:=cellS108_0 HGz13
     have hcz13_1:=cellS108_1 HGz13
     have hcz13_2:=cellS108_2 HGz13
     have hcz13_3:=cellS108_3 HGz13
     have hfz13_1:=blk_frozen HGz13 1
     have hfz13_2:=blk_frozen HGz13 2
     have hfz13_3:=blk_frozen HGz13 3
     clear HGz13 hgz13
     try go_wp2
     have n0_:Aside0 (IsS108 w0 (w10.setCell ⟨g,1,none⟩ (.int .i64 (wrap64 (s0_1+1)))) g s0_0 (wrap64 (s0_1+1)) s0_2 s0_3):=⟨z16_ HI0.out⟩
     have n1_:Aside0 (KeepBut w (w10.setCell ⟨g,1,none⟩ (.int .i64 (wrap64 (s0_1+1)))) g none):=⟨z12_ HK.out⟩
     have n2_:Aside0 (Below w0.heap.size w0 (w10.setCell ⟨g,1,none⟩ (.int .i64 (wrap64 (s0_1+1))))):=⟨z17_ HB.out HI0.out⟩
     (try clear HI0)
     (try clear HK)
     (try clear HB)
     generalize (w10.setCell ⟨g,1,none⟩ (.int .i64 (wrap64 (s0_1+1))))=w14 at n0_ n1_ n2_ ⊢
     have HI0:=n0_
     have HK:=n1_
     have HB:=n2_
     clear n0_ n1_ n2_
     have n0_:=aM (IsS108.drew HI0.out)
     have n1_:=aM (keep_drew HK.out)
     have n2_:=aM (below_drew1 HB.out)
     clear HI0
     clear HK
     clear HB
     have HI0:=n0_
     have HK:=n1_
     have HB:=n2_
     clear n0_ n1_ n2_
     obtain ⟨ASz16_0,cSz16_0,HGz16,hgz16,HSz16_0⟩:=HI0.out
     have HH17:=aM HGz16
     clear HGz16 hgz16
     refine start_ (n:=14) (S:=fun w'=>w'.cell? ⟨g,0,none⟩=some (.slice ASz16_0 s0_0.length cSz16_0)∧w'.cell? ⟨g,1,none⟩=some (.int .i64 (wrap64 (s0_1+1)))∧w'.cell? ⟨g,2,none⟩=some (.int .u64 s0_2)∧w'.cell? ⟨g,3,none⟩=some (.int .i64 s0_3)) (ds:=[13]) Y3.q0 (by kernel_rfl) rfl rfl (cc4_ HH17.out) (fun hHeld=>?_);refine with_tabW Y3.tab7 Y3.bits7 (fun HT_ HW_=>?_)
     generalize w14.drew=w15 at HI0 HK HB HH17 hHeld ⊢
     refine pu_ 0 37 Y3.q1 HT_.out ?_
     refine pu_ 1 38 Y3.q2 HT_.out ?_
     refine pu_ 2 39 Y3.q3 HT_.out ?_
     refine pu_ 3 40 Y3.q4 HT_.out ?_
     refine pu_ 5 42 Y3.q5 HT_.out ?_
     refine pu_ 6 43 Y3.q6 HT_.out ?_
     refine pu_ 7 44 Y3.q7 HT_.out ?_
     refine tk4_ 4 41 Y3.q8 HT_.out HW_.out hHeld ?_
     refine tk4_ 8 45 Y3.q9 HT_.out HW_.out hHeld ?_
     refine pu_ 9 46 Y3.q10 HT_.out ?_
     refine pu_ 10 47 Y3.q11 HT_.out ?_
     refine pu_ 11 48 Y3.q12 HT_.out ?_
     refine pu_ 12 49 Y3.q13 HT_.out ?_
     refine last_ (i:=13) (N:=none) Y3.q14 rfl rfl (one_of HT_.out (by kernel_rfl)) (by decide) (fun K hK=>?_)
     have hcQ13_0:=(blk_cell HH17.out 0).trans (show _=some (.slice ASz16_0 s0_0.length cSz16_0:Value) by rfl)
     have hfQ13_0:=blk_frozen HH17.out 0
     have hcQ13_1:=(blk_cell HH17.out 1).trans (show _=some (.int .i64 (wrap64 (s0_1+1)):Value) by rfl)
     have hfQ13_1:=blk_frozen HH17.out 1
     have hcQ13_2:=(blk_cell HH17.out 2).trans (show _=some (.int .u64 s0_2:Value) by rfl)
     have hfQ13_2:=blk_frozen HH17.out 2
     have hcQ13_3:=(blk_cell HH17.out 3).trans (show _=some (.int .i64 s0_3:Value) by rfl)
     have hfQ13_3:=blk_frozen HH17.out 3
     refine skip_ (w1:=?_) (by rfl) rfl ?_ ?_
     rotate_left
     ·go_simp
      rfl
     refine hK.out _ _ ?_
     clear hK K
     refine done_ (done_of HT_.out (by kernel_rfl)) ?_
     try go_wp2
     have n0_:Aside0 (IsS108 w0 (w15.setCell ⟨g,2,none⟩ (.int .u64 (Go.bits .xor .u64 s0_2 (IntKind.u64.wrap (s0_2*8192))))) g s0_0 (wrap64 (s0_1+1)) (Go.bits .xor .u64 s0_2 (IntKind.u64.wrap (s0_2*8192))) s0_3):=⟨z16_ HI0.out⟩
     have n1_:Aside0 (KeepBut w (w15.setCell ⟨g,2,none⟩ (.int .u64 (Go.bits .xor .u64 s0_2 (IntKind.u64.wrap (s0_2*8192))))) g none):=⟨z12_ HK.out⟩
     have n2_:Aside0 (Below w0.heap.size w0 (w15.setCell ⟨g,2,none⟩ (.int .u64 (Go.bits .xor .u64 s0_2 (IntKind.u64.wrap (s0_2*8192)))))):=⟨z17_ HB.out HI0.out⟩
     (try clear HI0)
     (try clear HK)
     (try clear HB)
     generalize (w15.setCell ⟨g,2,none⟩ (.int .u64 (Go.bits .xor .u64 s0_2 (IntKind.u64.wrap (s0_2*8192)))))=w18 at n0_ n1_ n2_ ⊢
     have HI0:=n0_
     have HK:=n1_
     have HB:=n2_
     clear n0_ n1_ n2_
     have n0_:=aM (IsS108.drew HI0.out)
     have n1_:=aM (keep_drew HK.out)
     have n2_:=aM (below_drew1 HB.out)
     clear HI0
     clear HK
     clear HB
     have HI0:=n0_
     have HK:=n1_
     have HB:=n2_
     clear n0_ n1_ n2_
     obtain ⟨ASz20_0,cSz20_0,HGz20,hgz20,HSz20_0⟩:=HI0.out
     have HH21:=aM HGz20
     clear HGz20 hgz20
     refine start_ (n:=14) (S:=fun w'=>w'.cell? ⟨g,0,none⟩=some (.slice ASz20_0 s0_0.length cSz20_0)∧w'.cell? ⟨g,1,none⟩=some (.int .i64 (wrap64 (s0_1+1)))∧w'.cell? ⟨g,2,none⟩=some (.int .u64 (Go.bits .xor .u64 s0_2 (IntKind.u64.wrap (s0_2*8192))))∧w'.cell? ⟨g,3,none⟩=some (.int .i64 s0_3)) (ds:=[13]) Y3.q0 (by kernel_rfl) rfl rfl (cc4_ HH21.out) (fun hHeld=>?_);refine with_tabW Y3.tab8 Y3.bits8 (fun HT_ HW_=>?_)
     generalize w18.drew=w19 at HI0 HK HB HH21 hHeld ⊢
     refine pu_ 0 50 Y3.q1 HT_.out ?_
     refine pu_ 1 51 Y3.q2 HT_.out ?_
     refine pu_ 2 52 Y3.q3 HT_.out ?_
     refine pu_ 3 53 Y3.q4 HT_.out ?_
     refine pu_ 5 55 Y3.q5 HT_.out ?_
     refine pu_ 6 56 Y3.q6 HT_.out ?_
     refine pu_ 7 57 Y3.q7 HT_.out ?_
     refine tk4_ 4 54 Y3.q8 HT_.out HW_.out hHeld ?_
     refine tk4_ 8 58 Y3.q9 HT_.out HW_.out hHeld ?_
     refine pu_ 9 59 Y3.q10 HT_.out ?_
     refine pu_ 10 60 Y3.q11 HT_.out ?_
     refine pu_ 11 61 Y3.q12 HT_.out ?_
     refine pu_ 12 62 Y3.q13 HT_.out ?_
     refine last_ (i:=13) (N:=none) Y3.q14 rfl rfl (one_of HT_.out (by kernel_rfl)) (by decide) (fun K hK=>?_)
     have hcQ13_0:=(blk_cell HH21.out 0).trans (show _=some (.slice ASz20_0 s0_0.length cSz20_0:Value) by rfl)
     have hfQ13_0:=blk_frozen HH21.out 0
     have hcQ13_1:=(blk_cell HH21.out 1).trans (show _=some (.int .i64 (wrap64 (s0_1+1)):Value) by rfl)
     have hfQ13_1:=blk_frozen HH21.out 1
     have hcQ13_2:=(blk_cell HH21.out 2).trans (show _=some (.int .u64 (Go.bits .xor .u64 s0_2 (IntKind.u64.wrap (s0_2*8192))):Value) by rfl)
     have hfQ13_2:=blk_frozen HH21.out 2
     have hcQ13_3:=(blk_cell HH21.out 3).trans (show _=some (.int .i64 s0_3:Value) by rfl)
     have hfQ13_3:=blk_frozen HH21.out 3
     refine skip_ (w1:=?_) (by rfl) rfl ?_ ?_
     rotate_left
     ·go_simp
      rfl
     refine hK.out _ _ ?_
     clear hK K
     refine done_ (done_of HT_.out (by kernel_rfl)) ?_
     try go_wp2
     have n0_:Aside0 (IsS108 w0 (w19.setCell ⟨g,2,none⟩ (.int .u64 (Go.bits .xor .u64 (Go.bits .xor .u64 s0_2 (IntKind.u64.wrap (s0_2*8192))) ((Go.bits .xor .u64 s0_2 (IntKind.u64.wrap (s0_2*8192))) / 128)))) g s0_0 (wrap64 (s0_1+1)) (Go.bits .xor .u64 (Go.bits .xor .u64 s0_2 (IntKind.u64.wrap (s0_2*8192))) ((Go.bits .xor .u64 s0_2 (IntKind.u64.wrap (s0_2*8192))) / 128)) s0_3):=⟨z16_ HI0.out⟩
     have n1_:Aside0 (KeepBut w (w19.setCell ⟨g,2,none⟩ (.int .u64 (Go.bits .xor .u64 (Go.bits .xor .u64 s0_2 (IntKind.u64.wrap (s0_2*8192))) ((Go.bits .xor .u64 s0_2 (IntKind.u64.wrap (s0_2*8192))) / 128)))) g none):=⟨z12_ HK.out⟩
     have n2_:Aside0 (Below w0.heap.size w0 (w19.setCell ⟨g,2,none⟩ (.int .u64 (Go.bits .xor .u64 (Go.bits .xor .u64 s0_2 (IntKind.u64.wrap (s0_2*8192))) ((Go.bits .xor .u64 s0_2 (IntKind.u64.wrap (s0_2*8192))) / 128))))):=⟨z17_ HB.out HI0.out⟩
     (try clear HI0)
     (try clear HK)
     (try clear HB)
     generalize (w19.setCell ⟨g,2,none⟩ (.int .u64 (Go.bits .xor .u64 (Go.bits .xor .u64 s0_2 (IntKind.u64.wrap (s0_2*8192))) ((Go.bits .xor .u64 s0_2 (IntKind.u64.wrap (s0_2*8192))) / 128))))=w22 at n0_ n1_ n2_ ⊢
     have HI0:=n0_
     have HK:=n1_
     have HB:=n2_
     clear n0_ n1_ n2_
     have n0_:=aM (IsS108.drew HI0.out)
     have n1_:=aM (keep_drew HK.out)
     have n2_:=aM (below_drew1 HB.out)
     clear HI0
     clear HK
     clear HB
     have HI0:=n0_
     have HK:=n1_
     have HB:=n2_
     clear n0_ n1_ n2_
     obtain ⟨ASz24_0,cSz24_0,HGz24,hgz24,HSz24_0⟩:=HI0.out
     have HH25:=aM HGz24
     clear HGz24 hgz24
     refine start_ (n:=14) (S:=fun w'=>w'.cell? ⟨g,0,none⟩=some (.slice ASz24_0 s0_0.length cSz24_0)∧w'.cell? ⟨g,1,none⟩=some (.int .i64 (wrap64 (s0_1+1)))∧w'.cell? ⟨g,2,none⟩=some (.int .u64 (Go.bits .xor .u64 (Go.bits .xor .u64 s0_2 (IntKind.u64.wrap (s0_2*8192))) ((Go.bits .xor .u64 s0_2 (IntKind.u64.wrap (s0_2*8192))) / 128)))∧w'.cell? ⟨g,3,none⟩=some (.int .i64 s0_3)) (ds:=[13]) Y3.q0 (by kernel_rfl) rfl rfl (cc4_ HH25.out) (fun hHeld=>?_);refine with_tabW Y3.tab9 Y3.bits9 (fun HT_ HW_=>?_)
     generalize w22.drew=w23 at HI0 HK HB HH25 hHeld ⊢
     refine pu_ 0 63 Y3.q1 HT_.out ?_
     refine pu_ 1 64 Y3.q2 HT_.out ?_
     refine pu_ 2 65 Y3.q3 HT_.out ?_
     refine pu_ 3 66 Y3.q4 HT_.out ?_
     refine pu_ 5 68 Y3.q5 HT_.out ?_
     refine pu_ 6 69 Y3.q6 HT_.out ?_
     refine pu_ 7 70 Y3.q7 HT_.out ?_
     refine tk4_ 4 67 Y3.q8 HT_.out HW_.out hHeld ?_
     refine tk4_ 8 71 Y3.q9 HT_.out HW_.out hHeld ?_
     refine pu_ 9 72 Y3.q10 HT_.out ?_
     refine pu_ 10 73 Y3.q11 HT_.out ?_
     refine pu_ 11 74 Y3.q12 HT_.out ?_
     refine pu_ 12 75 Y3.q13 HT_.out ?_
     refine last_ (i:=13) (N:=none) Y3.q14 rfl rfl (one_of HT_.out (by kernel_rfl)) (by decide) (fun K hK=>?_)
     have hcQ13_0:=(blk_cell HH25.out 0).trans (show _=some (.slice ASz24_0 s0_0.length cSz24_0:Value) by rfl)
     have hfQ13_0:=blk_frozen HH25.out 0
     have hcQ13_1:=(blk_cell HH25.out 1).trans (show _=some (.int .i64 (wrap64 (s0_1+1)):Value) by rfl)
     have hfQ13_1:=blk_frozen HH25.out 1
     have hcQ13_2:=(blk_cell HH25.out 2).trans (show _=some (.int .u64 (Go.bits .xor .u64 (Go.bits .xor .u64 s0_2 (IntKind.u64.wrap (s0_2*8192))) ((Go.bits .xor .u64 s0_2 (IntKind.u64.wrap (s0_2*8192))) / 128)):Value) by rfl)
     have hfQ13_2:=blk_frozen HH25.out 2
     have hcQ13_3:=(blk_cell HH25.out 3).trans (show _=some (.int .i64 s0_3:Value) by rfl)
     have hfQ13_3:=blk_frozen HH25.out 3
     refine skip_ (w1:=?_) (by rfl) rfl ?_ ?_
     rotate_left
     ·go_simp
      rfl
     refine hK.out _ _ ?_
     clear hK K
     refine done_ (done_of HT_.out (by kernel_rfl)) ?_
     obtain ⟨ASz26_0,cSz26_0,HGz26,hgz26,HSz26_0⟩:=HI0.out
     have hcz26_0:=cellS108_0 HGz26
     have hcz26_1:=cellS108_1 HGz26
     have hcz26_2:=cellS108_2 HGz26
     have hcz26_3:=cellS108_3 HGz26
     have hfz26_1:=blk_frozen HGz26 1
     have hfz26_2:=blk_frozen HGz26 2
     have hfz26_3:=blk_frozen HGz26 3
     clear HGz26 hgz26
     try go_wp2
     go_ret
     exact ⟨z9_,z16_ HI0.out,z17_ HB.out HI0.out,z12_ HK.out⟩
   ·rw [if_neg c5] at H
    exact nO H
  ·rw [if_neg c4] at H
   have c4b0:decide (s0_1<(s0_0.length:Int))=false:=dF c4
   clear c4
   by_cases c27:(IntKind.u64.wrap (a1))=0
   ·rw [if_pos c27] at H
    exact nO H
   ·rw [if_neg c27] at H
    have c27b0:((IntKind.u64.wrap (a1)) == 0)=false:=beq_eq_false_iff_ne.mpr c27
    have c27b1:((IntKind.u64.wrap (a1)) != 0)=true:=bne_iff_ne.mpr c27
    simp only [Option.some.injEq,Prod.mk.injEq] at H
    obtain ⟨rfl,rfl,rfl,rfl⟩:=H
    go_enter Tryd.func50,Tryd.ntmps50
    try go_wp2
    have n0_:=aM (IsS108.drew HI0.out)
    have n1_:=aM (keep_drew HK.out)
    have n2_:=aM (below_drew1 HB.out)
    clear HI0
    clear HK
    clear HB
    have HI0:=n0_
    have HK:=n1_
    have HB:=n2_
    clear n0_ n1_ n2_
    obtain ⟨ASz29_0,cSz29_0,HGz29,hgz29,HSz29_0⟩:=HI0.out
    have HH30:=aM HGz29
    clear HGz29 hgz29
    refine start_ (n:=10) (S:=fun w'=>w'.cell? ⟨g,0,none⟩=some (.slice ASz29_0 s0_0.length cSz29_0)∧w'.cell? ⟨g,1,none⟩=some (.int .i64 s0_1)∧w'.cell? ⟨g,2,none⟩=some (.int .u64 s0_2)∧w'.cell? ⟨g,3,none⟩=some (.int .i64 s0_3)) (ds:=[]) #[O,O,O,O,O,O,O,O,O,O] (by kernel_rfl) rfl rfl (cc4_ HH30.out) (fun hHeld=>?_);refine with_tabW Y3.tab4 Y3.bits4 (fun HT_ HW_=>?_)
    generalize w.drew=w28 at HI0 HK HB HH30 hHeld ⊢
    refine pu_ 0 8 #[I,O,O,O,O,O,O,O,O,O] HT_.out ?_
    refine pu_ 1 9 #[I,I,O,O,O,O,O,O,O,O] HT_.out ?_
    refine pu_ 2 10 #[I,I,I,O,O,O,O,O,O,O] HT_.out ?_
    refine pu_ 4 12 #[I,I,I,O,I,O,O,O,O,O] HT_.out ?_
    refine pu_ 5 13 #[I,I,I,O,I,I,O,O,O,O] HT_.out ?_
    refine pu_ 6 14 #[I,I,I,O,I,I,I,O,O,O] HT_.out ?_
    refine tk4_ 3 11 #[I,I,I,I,I,I,I,O,O,O] HT_.out HW_.out hHeld ?_
    refine tk4_ 7 15 #[I,I,I,I,I,I,I,I,O,O] HT_.out HW_.out hHeld ?_
    refine pu_ 8 16 #[I,I,I,I,I,I,I,I,I,O] HT_.out ?_
    refine pu_ 9 17 #[I,I,I,I,I,I,I,I,I,I] HT_.out ?_
    refine done_ (done_of HT_.out (by kernel_rfl)) ?_
    try go_wp2
    have n0_:=aM (IsS108.drew HI0.out)
    have n1_:=aM (keep_drew HK.out)
    have n2_:=aM (below_drew1 HB.out)
    clear HI0
    clear HK
    clear HB
    have HI0:=n0_
    have HK:=n1_
    have HB:=n2_
    clear n0_ n1_ n2_
    obtain ⟨ASz32_0,cSz32_0,HGz32,hgz32,HSz32_0⟩:=HI0.out
    have HH33:=aM HGz32
    clear HGz32 hgz32
    refine start_ (n:=14) (S:=fun w'=>w'.cell? ⟨g,0,none⟩=some (.slice ASz32_0 s0_0.length cSz32_0)∧w'.cell? ⟨g,1,none⟩=some (.int .i64 s0_1)∧w'.cell? ⟨g,2,none⟩=some (.int .u64 s0_2)∧w'.cell? ⟨g,3,none⟩=some (.int .i64 s0_3)) (ds:=[13]) Y3.q0 (by kernel_rfl) rfl rfl (cc4_ HH33.out) (fun hHeld=>?_);refine with_tabW Y3.tab7 Y3.bits7 (fun HT_ HW_=>?_)
    generalize w28.drew=w31 at HI0 HK HB HH33 hHeld ⊢
    refine pu_ 0 37 Y3.q1 HT_.out ?_
    refine pu_ 1 38 Y3.q2 HT_.out ?_
    refine pu_ 2 39 Y3.q3 HT_.out ?_
    refine pu_ 3 40 Y3.q4 HT_.out ?_
    refine pu_ 5 42 Y3.q5 HT_.out ?_
    refine pu_ 6 43 Y3.q6 HT_.out ?_
    refine pu_ 7 44 Y3.q7 HT_.out ?_
    refine tk4_ 4 41 Y3.q8 HT_.out HW_.out hHeld ?_
    refine tk4_ 8 45 Y3.q9 HT_.out HW_.out hHeld ?_
    refine pu_ 9 46 Y3.q10 HT_.out ?_
    refine pu_ 10 47 Y3.q11 HT_.out ?_
    refine pu_ 11 48 Y3.q12 HT_.out ?_
    refine pu_ 12 49 Y3.q13 HT_.out ?_
    refine last_ (i:=13) (N:=none) Y3.q14 rfl rfl (one_of HT_.out (by kernel_rfl)) (by decide) (fun K hK=>?_)
    have hcQ13_0:=(blk_cell HH33.out 0).trans (show _=some (.slice ASz32_0 s0_0.length cSz32_0:Value) by rfl)
    have hfQ13_0:=blk_frozen HH33.out 0
    have hcQ13_1:=(blk_cell HH33.out 1).trans (show _=some (.int .i64 s0_1:Value) by rfl)
    have hfQ13_1:=blk_frozen HH33.out 1
    have hcQ13_2:=(blk_cell HH33.out 2).trans (show _=some (.int .u64 s0_2:Value) by rfl)
    have hfQ13_2:=blk_frozen HH33.out 2
    have hcQ13_3:=(blk_cell HH33.out 3).trans (show _=some (.int .i64 s0_3:Value) by rfl)
    have hfQ13_3:=blk_frozen HH33.out 3
    refine skip_ (w1:=?_) (by rfl) rfl ?_ ?_
    rotate_left
    ·go_simp
     rfl
    refine hK.out _ _ ?_
    clear hK K
    refine done_ (done_of HT_.out (by kernel_rfl)) ?_
    try go_wp2
    have n0_:Aside0 (IsS108 w0 (w31.setCell ⟨g,2,none⟩ (.int .u64 (Go.bits .xor .u64 s0_2 (IntKind.u64.wrap (s0_2*8192))))) g s0_0 s0_1 (Go.bits .xor .u64 s0_2 (IntKind.u64.wrap (s0_2*8192))) s0_3):=⟨z16_ HI0.out⟩
    have n1_:Aside0 (KeepBut w (w31.setCell ⟨g,2,none⟩ (.int .u64 (Go.bits .xor .u64 s0_2 (IntKind.u64.wrap (s0_2*8192))))) g none):=⟨z12_ HK.out⟩
    have n2_:Aside0 (Below w0.heap.size w0 (w31.setCell ⟨g,2,none⟩ (.int .u64 (Go.bits .xor .u64 s0_2 (IntKind.u64.wrap (s0_2*8192)))))):=⟨z17_ HB.out HI0.out⟩
    (try clear HI0)
    (try clear HK)
    (try clear HB)
    generalize (w31.setCell ⟨g,2,none⟩ (.int .u64 (Go.bits .xor .u64 s0_2 (IntKind.u64.wrap (s0_2*8192)))))=w34 at n0_ n1_ n2_ ⊢
    have HI0:=n0_
    have HK:=n1_
    have HB:=n2_
    clear n0_ n1_ n2_
    have n0_:=aM (IsS108.drew HI0.out)
    have n1_:=aM (keep_drew HK.out)
    have n2_:=aM (below_drew1 HB.out)
    clear HI0
    clear HK
    clear HB
    have HI0:=n0_
    have HK:=n1_
    have HB:=n2_
    clear n0_ n1_ n2_
    obtain ⟨ASz36_0,cSz36_0,HGz36,hgz36,HSz36_0⟩:=HI0.out
    have HH37:=aM HGz36
    clear HGz36 hgz36
    refine start_ (n:=14) (S:=fun w'=>w'.cell? ⟨g,0,none⟩=some (.slice ASz36_0 s0_0.length cSz36_0)∧w'.cell? ⟨g,1,none⟩=some (.int .i64 s0_1)∧w'.cell? ⟨g,2,none⟩=some (.int .u64 (Go.bits .xor .u64 s0_2 (IntKind.u64.wrap (s0_2*8192))))∧w'.cell? ⟨g,3,none⟩=some (.int .i64 s0_3)) (ds:=[13]) Y3.q0 (by kernel_rfl) rfl rfl (cc4_ HH37.out) (fun hHeld=>?_);refine with_tabW Y3.tab8 Y3.bits8 (fun HT_ HW_=>?_)
    generalize w34.drew=w35 at HI0 HK HB HH37 hHeld ⊢
    refine pu_ 0 50 Y3.q1 HT_.out ?_
    refine pu_ 1 51 Y3.q2 HT_.out ?_
    refine pu_ 2 52 Y3.q3 HT_.out ?_
    refine pu_ 3 53 Y3.q4 HT_.out ?_
    refine pu_ 5 55 Y3.q5 HT_.out ?_
    refine pu_ 6 56 Y3.q6 HT_.out ?_
    refine pu_ 7 57 Y3.q7 HT_.out ?_
    refine tk4_ 4 54 Y3.q8 HT_.out HW_.out hHeld ?_
    refine tk4_ 8 58 Y3.q9 HT_.out HW_.out hHeld ?_
    refine pu_ 9 59 Y3.q10 HT_.out ?_
    refine pu_ 10 60 Y3.q11 HT_.out ?_
    refine pu_ 11 61 Y3.q12 HT_.out ?_
    refine pu_ 12 62 Y3.q13 HT_.out ?_
    refine last_ (i:=13) (N:=none) Y3.q14 rfl rfl (one_of HT_.out (by kernel_rfl)) (by decide) (fun K hK=>?_)
    have hcQ13_0:=(blk_cell HH37.out 0).trans (show _=some (.slice ASz36_0 s0_0.length cSz36_0:Value) by rfl)
    have hfQ13_0:=blk_frozen HH37.out 0
    have hcQ13_1:=(blk_cell HH37.out 1).trans (show _=some (.int .i64 s0_1:Value) by rfl)
    have hfQ13_1:=blk_frozen HH37.out 1
    have hcQ13_2:=(blk_cell HH37.out 2).trans (show _=some (.int .u64 (Go.bits .xor .u64 s0_2 (IntKind.u64.wrap (s0_2*8192))):Value) by rfl)
    have hfQ13_2:=blk_frozen HH37.out 2
    have hcQ13_3:=(blk_cell HH37.out 3).trans (show _=some (.int .i64 s0_3:Value) by rfl)
    have hfQ13_3:=blk_frozen HH37.out 3
    refine skip_ (w1:=?_) (by rfl) rfl ?_ ?_
    rotate_left
    ·go_simp
     rfl
    refine hK.out _ _ ?_
    clear hK K
    refine done_ (done_of HT_.out (by kernel_rfl)) ?_
    try go_wp2
    have n0_:Aside0 (IsS108 w0 (w35.setCell ⟨g,2,none⟩ (.int .u64 (Go.bits .xor .u64 (Go.bits .xor .u64 s0_2 (IntKind.u64.wrap (s0_2*8192))) ((Go.bits .xor .u64 s0_2 (IntKind.u64.wrap (s0_2*8192))) / 128)))) g s0_0 s0_1 (Go.bits .xor .u64 (Go.bits .xor .u64 s0_2 (IntKind.u64.wrap (s0_2*8192))) ((Go.bits .xor .u64 s0_2 (IntKind.u64.wrap (s0_2*8192))) / 128)) s0_3):=⟨z16_ HI0.out⟩
    have n1_:Aside0 (KeepBut w (w35.setCell ⟨g,2,none⟩ (.int .u64 (Go.bits .xor .u64 (Go.bits .xor .u64 s0_2 (IntKind.u64.wrap (s0_2*8192))) ((Go.bits .xor .u64 s0_2 (IntKind.u64.wrap (s0_2*8192))) / 128)))) g none):=⟨z12_ HK.out⟩
    have n2_:Aside0 (Below w0.heap.size w0 (w35.setCell ⟨g,2,none⟩ (.int .u64 (Go.bits .xor .u64 (Go.bits .xor .u64 s0_2 (IntKind.u64.wrap (s0_2*8192))) ((Go.bits .xor .u64 s0_2 (IntKind.u64.wrap (s0_2*8192))) / 128))))):=⟨z17_ HB.out HI0.out⟩
    (try clear HI0)
    (try clear HK)
    (try clear HB)
    generalize (w35.setCell ⟨g,2,none⟩ (.int .u64 (Go.bits .xor .u64 (Go.bits .xor .u64 s0_2 (IntKind.u64.wrap (s0_2*8192))) ((Go.bits .xor .u64 s0_2 (IntKind.u64.wrap (s0_2*8192))) / 128))))=w38 at n0_ n1_ n2_ ⊢
    have HI0:=n0_
    have HK:=n1_
    have HB:=n2_
    clear n0_ n1_ n2_
    have n0_:=aM (IsS108.drew HI0.out)
    have n1_:=aM (keep_drew HK.out)
    have n2_:=aM (below_drew1 HB.out)
    clear HI0
    clear HK
    clear HB
    have HI0:=n0_
    have HK:=n1_
    have HB:=n2_
    clear n0_ n1_ n2_
    obtain ⟨ASz40_0,cSz40_0,HGz40,hgz40,HSz40_0⟩:=HI0.out
    have HH41:=aM HGz40
    clear HGz40 hgz40
    refine start_ (n:=14) (S:=fun w'=>w'.cell? ⟨g,0,none⟩=some (.slice ASz40_0 s0_0.length cSz40_0)∧w'.cell? ⟨g,1,none⟩=some (.int .i64 s0_1)∧w'.cell? ⟨g,2,none⟩=some (.int .u64 (Go.bits .xor .u64 (Go.bits .xor .u64 s0_2 (IntKind.u64.wrap (s0_2*8192))) ((Go.bits .xor .u64 s0_2 (IntKind.u64.wrap (s0_2*8192))) / 128)))∧w'.cell? ⟨g,3,none⟩=some (.int .i64 s0_3)) (ds:=[13]) Y3.q0 (by kernel_rfl) rfl rfl (cc4_ HH41.out) (fun hHeld=>?_);refine with_tabW Y3.tab9 Y3.bits9 (fun HT_ HW_=>?_)
    generalize w38.drew=w39 at HI0 HK HB HH41 hHeld ⊢
    refine pu_ 0 63 Y3.q1 HT_.out ?_
    refine pu_ 1 64 Y3.q2 HT_.out ?_
    refine pu_ 2 65 Y3.q3 HT_.out ?_
    refine pu_ 3 66 Y3.q4 HT_.out ?_
    refine pu_ 5 68 Y3.q5 HT_.out ?_
    refine pu_ 6 69 Y3.q6 HT_.out ?_
    refine pu_ 7 70 Y3.q7 HT_.out ?_
    refine tk4_ 4 67 Y3.q8 HT_.out HW_.out hHeld ?_
    refine tk4_ 8 71 Y3.q9 HT_.out HW_.out hHeld ?_
    refine pu_ 9 72 Y3.q10 HT_.out ?_
    refine pu_ 10 73 Y3.q11 HT_.out ?_
    refine pu_ 11 74 Y3.q12 HT_.out ?_
    refine pu_ 12 75 Y3.q13 HT_.out ?_
    refine last_ (i:=13) (N:=none) Y3.q14 rfl rfl (one_of HT_.out (by kernel_rfl)) (by decide) (fun K hK=>?_)
    have hcQ13_0:=(blk_cell HH41.out 0).trans (show _=some (.slice ASz40_0 s0_0.length cSz40_0:Value) by rfl)
    have hfQ13_0:=blk_frozen HH41.out 0
    have hcQ13_1:=(blk_cell HH41.out 1).trans (show _=some (.int .i64 s0_1:Value) by rfl)
    have hfQ13_1:=blk_frozen HH41.out 1
    have hcQ13_2:=(blk_cell HH41.out 2).trans (show _=some (.int .u64 (Go.bits .xor .u64 (Go.bits .xor .u64 s0_2 (IntKind.u64.wrap (s0_2*8192))) ((Go.bits .xor .u64 s0_2 (IntKind.u64.wrap (s0_2*8192))) / 128)):Value) by rfl)
    have hfQ13_2:=blk_frozen HH41.out 2
    have hcQ13_3:=(blk_cell HH41.out 3).trans (show _=some (.int .i64 s0_3:Value) by rfl)
    have hfQ13_3:=blk_frozen HH41.out 3
    refine skip_ (w1:=?_) (by rfl) rfl ?_ ?_
    rotate_left
    ·go_simp
     rfl
    refine hK.out _ _ ?_
    clear hK K
    refine done_ (done_of HT_.out (by kernel_rfl)) ?_
    obtain ⟨ASz42_0,cSz42_0,HGz42,hgz42,HSz42_0⟩:=HI0.out
    have hcz42_0:=cellS108_0 HGz42
    have hcz42_1:=cellS108_1 HGz42
    have hcz42_2:=cellS108_2 HGz42
    have hcz42_3:=cellS108_3 HGz42
    have hfz42_1:=blk_frozen HGz42 1
    have hfz42_2:=blk_frozen HGz42 2
    have hfz42_3:=blk_frozen HGz42 3
    clear HGz42 hgz42
    try go_wp2
    go_ret
    exact ⟨z9_,z16_ HI0.out,z17_ HB.out HI0.out,z12_ HK.out⟩


/-! ### Y49: function 48 -/
def Y49.f (s0_0:List Int) (s0_1:Int) (s0_2:Int) (s0_3:Int) (a1:Int):Option (Bool × Int × Int × Int):=(Y3.f s0_0 s0_1 s0_2 s0_3 a1).bind fun bt307=>(some ((bt307.1 == 0),bt307.2.1,bt307.2.2.1,bt307.2.2.2))
theorem Y49.calls (g:Nat) (s0_0:List Int) (s0_1:Int) (s0_2:Int) (s0_3:Int) (a1:Int) (r1:Bool) (r2:Int) (r3:Int) (r4:Int) (w0 w:World) (hI:IsS108 w0 w g s0_0 s0_1 s0_2 s0_3) (hB:Below w0.heap.size w0 w) (h:Y49.f s0_0 s0_1 s0_2 s0_3 a1=some (r1,r2,r3,r4)) :
  Calls Tryd.prog 48 #[.pointer (some ⟨g,0,none⟩),.int .i64 a1] w fun e w'=>e = .returned (.bool r1)∧IsS108 w0 w' g s0_0 r2 r3 r4∧Below w0.heap.size w0 w'∧KeepBut w w' g none:=by
 have HI0:=aM hI
 have HK:=aM (KeepBut.refl w g none)
 have HL:=aM hB.size
 clear hI
 have HW0:=aM hB.size
 have HB:=aM hB
 clear hB
 have H:((Y3.f s0_0 s0_1 s0_2 s0_3 a1).bind fun bt307=>(some ((bt307.1 == 0),bt307.2.1,bt307.2.2.1,bt307.2.2.2)))=some (r1,r2,r3,r4):=h
 clear h
 replace H:=bS H
 obtain ⟨⟨t307,t308,t309,t310⟩,A30,H⟩:=H
 replace H:(some ((t307 == 0),t308,t309,t310))=some (r1,r2,r3,r4):=H
 have A3:=aM A30
 clear A30
 simp only [Option.some.injEq,Prod.mk.injEq] at H
 obtain ⟨rfl,rfl,rfl,rfl⟩:=H
 go_enter Tryd.func48,Tryd.ntmps48
 go_wp2_with (first | ((with_reducible refine gc_ 50 ?_);refine gl_ (some 7) Tryd.func50 #[.pointer (some ⟨g,0,none⟩),.int .i64 a1] ?_;(with_reducible refine (Y3.calls g s0_0 s0_1 s0_2 s0_3 a1 t307 t308 t309 t310 w0 _ ?s1 ?s2 A3.out).mono ?_);(case s1=>repeat (first | (with_reducible first | exact HI0.out | apply IsS108.alloc | apply IsS108.drewN | apply IsS108.drew | apply IsS108.set_1 | apply IsS108.set_2 | apply IsS108.set_3) | exact HI0.out));(case s2=>repeat (first | (with_reducible first | exact HB.out | apply below_alloc | apply pw_below_drewN | apply below_drew1 | refine below_set ?_ (IsS108.ge HI0.out)) | exact HB.out));rintro e w4 ⟨rfl,hi,hb,hk⟩;refine ⟨_,rfl,?_⟩;have n0_:=aM (KeepBut.trans (z12_ HK.out) hk (.inl rfl));have n1_:=aM (hb);have n2_:=aM (hi);clear HK;clear HB;clear HI0;have HK:=n0_;have HB:=n1_;have HI0:=n2_;clear n0_ n1_ n2_;(try clear hb);(try clear hk);(try clear hi)))
 go_ret
 exact ⟨z9_,z16_ HI0.out,z17_ HB.out HI0.out,z12_ HK.out⟩


/-! ### Y34: function 46 -/
def Y34.f (k:Nat) (s0_0:List Int) (s0_1:Int) (s0_2:Int) (s0_3:Int):Option (Int × (List (S77)) × Int × Int × Int):=(Y3.f s0_0 s0_1 s0_2 s0_3 5).bind fun bt312=>((Y3.f s0_0 bt312.2.1 bt312.2.2.1 bt312.2.2.2 4).bind fun bt316=>((Y18.f k (wrap64 (1+bt312.1)) (wrap64 (1+bt316.1))).bind fun bt320=>((Y49.f s0_0 bt316.2.1 bt316.2.2.1 bt316.2.2.2 15).bind fun bt325=>(if bt325.1=true then ((Y3.f s0_0 bt325.2.1 bt325.2.2.1 bt325.2.2.2 2).bind fun bt329=>(if bt329.1=0 then ((Y3.f s0_0 bt329.2.1 bt329.2.2.1 bt329.2.2.2 7).bind fun bt333=>(some (bt333.1,bt320.2,bt333.2.1,bt333.2.2.1,bt333.2.2.2))) else ((Y3.f s0_0 bt329.2.1 bt329.2.2.1 bt329.2.2.2 6).bind fun bt337=>(if 0<(bt320.2.length:Int) then (some (bt320.1,(bt320.2.set (0:Int).toNat (⟨(rd_T77 bt320.2 0).f0,bt337.1⟩:S77)),bt337.2.1,bt337.2.2.1,bt337.2.2.2)) else (none))))) else (some (bt320.1,bt320.2,bt325.2.1,bt325.2.2.1,bt325.2.2.2))))))
theorem Y34.mono:∀ a0 a1 a2 a3 k,LeO (Y34.f k a0 a1 a2 a3) (Y34.f (k+1) a0 a1 a2 a3):=by
 intro a0 a1 a2 a3 k
 have m0:=@Y18.mono
 unfold Y34.f
 exact mO
theorem Y34.calls (k:Nat) (g:Nat) (s0_0:List Int) (s0_1:Int) (s0_2:Int) (s0_3:Int) (r1:Int) (r2:List (S77)) (r3:Int) (r4:Int) (r5:Int) (w0 w:World) (hI:IsS108 w0 w g s0_0 s0_1 s0_2 s0_3) (hB:Below w0.heap.size w0 w) (h:Y34.f k s0_0 s0_1 s0_2 s0_3=some (r1,r2,r3,r4,r5)) :
  Calls Tryd.prog 46 #[.pointer (some ⟨g,0,none⟩)] w fun e w'=>∃ v1_:Value,e = .returned (.agg #[.int .i64 r1,v1_])∧Kd.R k77 77 w' w.heap.size (fun _=>True) v1_ r2∧IsS108 w0 w' g s0_0 r3 r4 r5∧Below w0.heap.size w0 w'∧KeepBut w w' g none:=by
 have hu24:=Tryd.underlying24
 have HI0:=aM hI
 have HK:=aM (KeepBut.refl w g none)
 have HL:=aM hB.size
 clear hI
 have HW0:=aM hB.size
 have HB:=aM hB
 clear hB
 have H:((Y3.f s0_0 s0_1 s0_2 s0_3 5).bind fun bt312=>((Y3.f s0_0 bt312.2.1 bt312.2.2.1 bt312.2.2.2 4).bind fun bt316=>((Y18.f k (wrap64 (1+bt312.1)) (wrap64 (1+bt316.1))).bind fun bt320=>((Y49.f s0_0 bt316.2.1 bt316.2.2.1 bt316.2.2.2 15).bind fun bt325=>(if bt325.1=true then ((Y3.f s0_0 bt325.2.1 bt325.2.2.1 bt325.2.2.2 2).bind fun bt329=>(if bt329.1=0 then ((Y3.f s0_0 bt329.2.1 bt329.2.2.1 bt329.2.2.2 7).bind fun bt333=>(some (bt333.1,bt320.2,bt333.2.1,bt333.2.2.1,bt333.2.2.2))) else ((Y3.f s0_0 bt329.2.1 bt329.2.2.1 bt329.2.2.2 6).bind fun bt337=>(if 0<(bt320.2.length:Int) then (some (bt320.1,(bt320.2.set (0:Int).toNat (⟨(rd_T77 bt320.2 0).f0,bt337.1⟩:S77)),bt337.2.1,bt337.2.2.1,bt337.2.2.2)) else (none))))) else (some (bt320.1,bt320.2,bt325.2.1,bt325.2.2.1,bt325.2.2.2)))))))=some (r1,r2,r3,r4,r5):=h
 clear h
 replace H:=bS H
 obtain ⟨⟨t312,t313,t314,t315⟩,A20,H⟩:=H
 replace H:((Y3.f s0_0 t313 t314 t315 4).bind fun bt316=>((Y18.f k (wrap64 (1+t312)) (wrap64 (1+bt316.1))).bind fun bt320=>((Y49.f s0_0 bt316.2.1 bt316.2.2.1 bt316.2.2.2 15).bind fun bt325=>(if bt325.1=true then ((Y3.f s0_0 bt325.2.1 bt325.2.2.1 bt325.2.2.2 2).bind fun bt329=>(if bt329.1=0 then ((Y3.f s0_0 bt329.2.1 bt329.2.2.1 bt329.2.2.2 7).bind fun bt333=>(some (bt333.1,bt320.2,bt333.2.1,bt333.2.2.1,bt333.2.2.2))) else ((Y3.f s0_0 bt329.2.1 bt329.2.2.1 bt329.2.2.2 6).bind fun bt337=>(if 0<(bt320.2.length:Int) then (some (bt320.1,(bt320.2.set (0:Int).toNat (⟨(rd_T77 bt320.2 0).f0,bt337.1⟩:S77)),bt337.2.1,bt337.2.2.1,bt337.2.2.2)) else (none))))) else (some (bt320.1,bt320.2,bt325.2.1,bt325.2.2.1,bt325.2.2.2))))))=some (r1,r2,r3,r4,r5):=H
 have A2:=aM A20
 clear A20
 replace H:=bS H
 obtain ⟨⟨t316,t317,t318,t319⟩,A30,H⟩:=H
 replace H:((Y18.f k (wrap64 (1+t312)) (wrap64 (1+t316))).bind fun bt320=>((Y49.f s0_0 t317 t318 t319 15).bind fun bt325=>(if bt325.1=true then ((Y3.f s0_0 bt325.2.1 bt325.2.2.1 bt325.2.2.2 2).bind fun bt329=>(if bt329.1=0 then ((Y3.f s0_0 bt329.2.1 bt329.2.2.1 bt329.2.2.2 7).bind fun bt333=>(some (bt333.1,bt320.2,bt333.2.1,bt333.2.2.1,bt333.2.2.2))) else ((Y3.f s0_0 bt329.2.1 bt329.2.2.1 bt329.2.2.2 6).bind fun bt337=>(if 0<(bt320.2.length:Int) then (some (bt320.1,(bt320.2.set (0:Int).toNat (⟨(rd_T77 bt320.2 0).f0,bt337.1⟩:S77)),bt337.2.1,bt337.2.2.1,bt337.2.2.2)) else (none))))) else (some (bt320.1,bt320.2,bt325.2.1,bt325.2.2.1,bt325.2.2.2)))))=some (r1,r2,r3,r4,r5):=H
 have A3:=aM A30
 clear A30
 replace H:=bS H
 obtain ⟨⟨t320,t321⟩,A40,H⟩:=H
 replace H:((Y49.f s0_0 t317 t318 t319 15).bind fun bt325=>(if bt325.1=true then ((Y3.f s0_0 bt325.2.1 bt325.2.2.1 bt325.2.2.2 2).bind fun bt329=>(if bt329.1=0 then ((Y3.f s0_0 bt329.2.1 bt329.2.2.1 bt329.2.2.2 7).bind fun bt333=>(some (bt333.1,t321,bt333.2.1,bt333.2.2.1,bt333.2.2.2))) else ((Y3.f s0_0 bt329.2.1 bt329.2.2.1 bt329.2.2.2 6).bind fun bt337=>(if 0<(t321.length:Int) then (some (t320,(t321.set (0:Int).toNat (⟨(rd_T77 t321 0).f0,bt337.1⟩:S77)),bt337.2.1,bt337.2.2.1,bt337.2.2.2)) else (none))))) else (some (t320,t321,bt325.2.1,bt325.2.2.1,bt325.2.2.2))))=some (r1,r2,r3,r4,r5):=H
 have A4:=aM A40
 clear A40
 replace H:=bS H
 obtain ⟨⟨t325,t326,t327,t328⟩,A50,H⟩:=H
 replace H:(if t325=true then ((Y3.f s0_0 t326 t327 t328 2).bind fun bt329=>(if bt329.1=0 then ((Y3.f s0_0 bt329.2.1 bt329.2.2.1 bt329.2.2.2 7).bind fun bt333=>(some (bt333.1,t321,bt333.2.1,bt333.2.2.1,bt333.2.2.2))) else ((Y3.f s0_0 bt329.2.1 bt329.2.2.1 bt329.2.2.2 6).bind fun bt337=>(if 0<(t321.length:Int) then (some (t320,(t321.set (0:Int).toNat (⟨(rd_T77 t321 0).f0,bt337.1⟩:S77)),bt337.2.1,bt337.2.2.1,bt337.2.2.2)) else (none))))) else (some (t320,t321,t326,t327,t328)))=some (r1,r2,r3,r4,r5):=H
 have A5:=aM A50
 clear A50
 by_cases c6:t325=true
 ·subst c6
  have H1:((Y3.f s0_0 t326 t327 t328 2).bind fun bt329=>(if bt329.1=0 then ((Y3.f s0_0 bt329.2.1 bt329.2.2.1 bt329.2.2.2 7).bind fun bt333=>(some (bt333.1,t321,bt333.2.1,bt333.2.2.1,bt333.2.2.2))) else ((Y3.f s0_0 bt329.2.1 bt329.2.2.1 bt329.2.2.2 6).bind fun bt337=>(if 0<(t321.length:Int) then (some (t320,(t321.set (0:Int).toNat (⟨(rd_T77 t321 0).f0,bt337.1⟩:S77)),bt337.2.1,bt337.2.2.1,bt337.2.2.2)) else (none)))))=some (r1,r2,r3,r4,r5):=by rw [if_pos rfl] at H;exact H
  clear H
  have H:=H1
  clear H1
  replace H:=bS H
  obtain ⟨⟨t329,t330,t331,t332⟩,A70,H⟩:=H
  replace H:(if t329=0 then ((Y3.f s0_0 t330 t331 t332 7).bind fun bt333=>(some (bt333.1,t321,bt333.2.1,bt333.2.2.1,bt333.2.2.2))) else ((Y3.f s0_0 t330 t331 t332 6).bind fun bt337=>(if 0<(t321.length:Int) then (some (t320,(t321.set (0:Int).toNat (⟨(rd_T77 t321 0).f0,bt337.1⟩:S77)),bt337.2.1,bt337.2.2.1,bt337.2.2.2)) else (none))))=some (r1,r2,r3,r4,r5):=H
  have A7:=aM A70
  clear A70
  by_cases c8:t329=0
  ·rw [if_pos c8] at H
   have c8b0:(t329 == 0)=true:=beq_iff_eq.mpr c8
   have c8b1:(t329 != 0)=false:=bne_eq_false_iff_eq.mpr c8
   clear c8
   replace H:=bS H
   obtain ⟨⟨t333,t334,t335,t336⟩,A90,H⟩:=H
   replace H:(some (t333,t321,t334,t335,t336))=some (r1,r2,r3,r4,r5):=H
   have A9:=aM A90
   clear A90
   simp only [Option.some.injEq,Prod.mk.injEq] at H
   obtain ⟨rfl,rfl,rfl,rfl,rfl⟩:=H
   go_enter Tryd.func46,Tryd.ntmps46
   go_wp2_with (first | ((with_reducible refine gd_ 2 ?_);refine be_ 2 #[.int .i64 0,.slice none 0 0] 24 ?_;intro gb311 hg w10 hbox hb;have n0_:=aM (IsS108.below (z16_ HI0.out) hb);have n1_:=aM (KeepBut.trans (z12_ HK.out) (KeepBut.of_below hb g none) (.inl rfl));have n2_:=aM (below_step (z17_ HB.out HI0.out) hb);have n3_:=aM (hbox);have n4_:=aM ((z37_ HK.out:w.heap.size≤gb311));have n5_:=aM ((Nat.le_trans HW0.out (z37_ HK.out:w.heap.size≤gb311):w0.heap.size≤gb311));have n6_:=aM ((z52_ HI0.out:g≠gb311));have n7_:=aM ((z53_ HI0.out:gb311≠g));clear HI0;clear HK;clear HB;have HI0:=n0_;have HK:=n1_;have HB:=n2_;have BK311:=n3_;have GW311:=n4_;have GE311:=n5_;have NB0_311:=n6_;have NB311_0:=n7_;clear n0_ n1_ n2_ n3_ n4_ n5_ n6_ n7_;clear hb hbox hg) | ((with_reducible refine gc_ 50 ?_);refine gl_ (some 5) Tryd.func50 #[.pointer (some ⟨g,0,none⟩),.int .i64 5] ?_;(with_reducible refine (Y3.calls g s0_0 s0_1 s0_2 s0_3 5 t312 t313 t314 t315 w0 _ ?s1 ?s2 A2.out).mono ?_);(case s1=>repeat (first | (with_reducible first | exact HI0.out | apply IsS108.alloc | apply IsS108.drewN | apply IsS108.drew | apply IsS108.set_1 | apply IsS108.set_2 | apply IsS108.set_3 | refine IsS108.far ?_ (by exact NB0_311.out) _) | exact HI0.out));(case s2=>repeat (first | (with_reducible first | exact HB.out | apply below_alloc | apply pw_below_drewN | apply below_drew1 | refine below_set ?_ (IsS108.ge HI0.out) | refine below_set ?_ GE311.out) | exact HB.out));rintro e w11 ⟨rfl,hi,hb,hk⟩;refine ⟨_,rfl,?_⟩;have n0_:=aM (KeepBut.blk hk (g':=gb311) (o:=.cells #[.int .i64 0,.slice none 0 0] 24 (0,0)) (z3_ BK311.out) NB311_0.out (by simp));have n1_:=aM (KeepBut.trans (z21_ HK.out GW311.out) hk (.inl rfl));have n2_:=aM (hb);have n3_:=aM (hi);clear BK311;clear HK;clear HB;clear HI0;have BK311:=n0_;have HK:=n1_;have HB:=n2_;have HI0:=n3_;clear n0_ n1_ n2_ n3_;(try clear hb);(try clear hk);(try clear hi)) | ((with_reducible refine gc_ 50 ?_);refine gl_ (some 8) Tryd.func50 #[.pointer (some ⟨g,0,none⟩),.int .i64 4] ?_;(with_reducible refine (Y3.calls g s0_0 t313 t314 t315 4 t316 t317 t318 t319 w0 _ ?s1 ?s2 A3.out).mono ?_);(case s1=>repeat (first | (with_reducible first | exact HI0.out | apply IsS108.alloc | apply IsS108.drewN | apply IsS108.drew | apply IsS108.set_1 | apply IsS108.set_2 | apply IsS108.set_3 | refine IsS108.far ?_ (by exact NB0_311.out) _) | exact HI0.out));(case s2=>repeat (first | (with_reducible first | exact HB.out | apply below_alloc | apply pw_below_drewN | apply below_drew1 | refine below_set ?_ (IsS108.ge HI0.out) | refine below_set ?_ GE311.out) | exact HB.out));rintro e w12 ⟨rfl,hi,hb,hk⟩;refine ⟨_,rfl,?_⟩;have n0_:=aM (KeepBut.blk hk (g':=gb311) (o:=.cells #[.int .i64 0,.slice none 0 0] 24 (0,0)) (z3_ BK311.out) NB311_0.out (by simp));have n1_:=aM (KeepBut.trans (z21_ HK.out GW311.out) hk (.inl rfl));have n2_:=aM (hb);have n3_:=aM (hi);clear BK311;clear HK;clear HB;clear HI0;have BK311:=n0_;have HK:=n1_;have HB:=n2_;have HI0:=n3_;clear n0_ n1_ n2_ n3_;(try clear hb);(try clear hk);(try clear hi)) | ((with_reducible refine gc_ 40 ?_);refine gl_ (some 10) Tryd.func40 #[.int .i64 (wrap64 (1+t312)),.int .i64 (wrap64 (1+t316))] ?_;(with_reducible refine (Y18.calls k (wrap64 (1+t312)) (wrap64 (1+t316)) t320 t321 _ A4.out).mono ?_);rintro e w13 ⟨v322,rfl,ho0,hb⟩;refine ⟨_,rfl,?_⟩;have n0_:=aM (Kd.R_lower ho0 (keep_size (w:=w) (g:=g) (row:=none) (z21_ HK.out GW311.out)));have n1_:=aM (IsS108.below (z38_ HI0.out NB0_311.out) hb);have n2_:=aM (blkB_ BK311.out hb);have n3_:=aM (KeepBut.trans (z21_ HK.out GW311.out) (KeepBut.of_below hb g none) (.inl rfl));have n4_:=aM (below_step (z31_ HB.out HI0.out GE311.out) hb);clear HI0;clear BK311;clear HK;clear HB;have HO323:=n0_;have HI0:=n1_;have BK311:=n2_;have HK:=n3_;have HB:=n4_;clear n0_ n1_ n2_ n3_ n4_;(try clear hb);(try clear ho0)) | ((with_reducible refine gd_ 3 ?_);refine be_ 3 #[.int .i64 0,.slice none 0 0] 24 ?_;intro gb324 hg w14 hbox hb;have n0_:=aM (Kd.R_below (z1_ HO323.out) hb);have n1_:=aM (IsS108.below (z38_ HI0.out NB0_311.out) hb);have n2_:=aM (blkB_ BK311.out hb);have n3_:=aM (KeepBut.trans (z21_ HK.out GW311.out) (KeepBut.of_below hb g none) (.inl rfl));have n4_:=aM (below_step (z31_ HB.out HI0.out GE311.out) hb);have n5_:=aM (hbox);have n6_:=aM ((z39_ HK.out GW311.out:w.heap.size≤gb324));have n7_:=aM ((Nat.le_trans HW0.out (z39_ HK.out GW311.out:w.heap.size≤gb324):w0.heap.size≤gb324));have n8_:=aM (neL_ BK311.out hg);have n9_:=aM (neG_ BK311.out hg);have n10_:=aM ((z54_ HI0.out NB0_311.out:g≠gb324));have n11_:=aM ((z55_ HI0.out NB0_311.out:gb324≠g));clear HO323;clear HI0;clear BK311;clear HK;clear HB;have HO323:=n0_;have HI0:=n1_;have BK311:=n2_;have HK:=n3_;have HB:=n4_;have BK324:=n5_;have GW324:=n6_;have GE324:=n7_;have NB311_324:=n8_;have NB324_311:=n9_;have NB0_324:=n10_;have NB324_0:=n11_;clear n0_ n1_ n2_ n3_ n4_ n5_ n6_ n7_ n8_ n9_ n10_ n11_;clear hb hbox hg;have hnb15:=NB324_311.out;have hnc15:=NB311_324.out;have hnb16:=NB324_0.out;have hnc16:=NB0_324.out;have ⟨hcz17_0,hcz17_1,hfz17_0,hfz17_1⟩:=cz2_ BK324.out;obtain ⟨Ao18,co18,eo18⟩:=Kd.R_slice HO323.out;subst eo18) | ((with_reducible refine gc_ 48 ?_);refine gl_ (some 12) Tryd.func48 #[.pointer (some ⟨g,0,none⟩),.int .i64 15] ?_;(with_reducible refine (Y49.calls g s0_0 t317 t318 t319 15 true t326 t327 t328 w0 _ ?s1 ?s2 A5.out).mono ?_);(case s1=>repeat (first | (with_reducible first | exact HI0.out | apply IsS108.alloc | apply IsS108.drewN | apply IsS108.drew | apply IsS108.set_1 | apply IsS108.set_2 | apply IsS108.set_3 | refine IsS108.far ?_ (by exact NB0_311.out) _ | refine IsS108.far ?_ (by exact NB0_324.out) _) | exact HI0.out));(case s2=>repeat (first | (with_reducible first | exact HB.out | apply below_alloc | apply pw_below_drewN | apply below_drew1 | refine below_set ?_ (IsS108.ge HI0.out) | refine below_set ?_ GE311.out | refine below_set ?_ GE324.out) | exact HB.out));rintro e w19 ⟨rfl,hi,hb,hk⟩;refine ⟨_,rfl,?_⟩;have n0_:=aM (KeepBut.blk hk (g':=gb311) (o:=.cells #[.int .i64 0,.slice none 0 0] 24 (0,0)) (z19_ NB311_324.out BK311.out) NB311_0.out (by simp));have n1_:=aM (Kd.R_mono (Kd.R_keep (IsS108.apart (show IsS108 w0 _ g s0_0 t317 t318 t319 from by repeat (first | (with_reducible first | exact HI0.out | apply IsS108.alloc | apply IsS108.drewN | apply IsS108.drew | apply IsS108.set_1 | apply IsS108.set_2 | apply IsS108.set_3 | refine IsS108.far ?_ (by exact NB0_311.out) _ | refine IsS108.far ?_ (by exact NB0_324.out) _) | exact HI0.out)) (z23_ HO323.out BK324.out) (by decide)) hk (fun _ h=>h.2)) (fun _ h=>h.1));have n2_:=aM (KeepBut.blk hk (g':=gb324) (o:=.cells #[.int .i64 t320,.slice Ao18 t321.length co18] 24 (0,0)) (z20_ BK324.out) NB324_0.out (by simp));have n3_:=aM (KeepBut.trans (z24_ HK.out GW311.out GW324.out) hk (.inl rfl));have n4_:=aM (hb);have n5_:=aM (hi);clear BK311;clear HO323;clear BK324;clear HK;clear HB;clear HI0;have BK311:=n0_;have HO323:=n1_;have BK324:=n2_;have HK:=n3_;have HB:=n4_;have HI0:=n5_;clear n0_ n1_ n2_ n3_ n4_ n5_;(try clear hb);(try clear hk);(try clear hi)) | ((with_reducible refine gc_ 50 ?_);refine gl_ (some 14) Tryd.func50 #[.pointer (some ⟨g,0,none⟩),.int .i64 2] ?_;(with_reducible refine (Y3.calls g s0_0 t326 t327 t328 2 t329 t330 t331 t332 w0 _ ?s1 ?s2 A7.out).mono ?_);(case s1=>repeat (first | (with_reducible first | exact HI0.out | apply IsS108.alloc | apply IsS108.drewN | apply IsS108.drew | apply IsS108.set_1 | apply IsS108.set_2 | apply IsS108.set_3 | refine IsS108.far ?_ (by exact NB0_311.out) _ | refine IsS108.far ?_ (by exact NB0_324.out) _) | exact HI0.out));(case s2=>repeat (first | (with_reducible first | exact HB.out | apply below_alloc | apply pw_below_drewN | apply below_drew1 | refine below_set ?_ (IsS108.ge HI0.out) | refine below_set ?_ GE311.out | refine below_set ?_ GE324.out) | exact HB.out));rintro e w20 ⟨rfl,hi,hb,hk⟩;refine ⟨_,rfl,?_⟩;have n0_:=aM (KeepBut.blk hk (g':=gb311) (o:=.cells #[.int .i64 0,.slice none 0 0] 24 (0,0)) (z3_ BK311.out) NB311_0.out (by simp));have n1_:=aM (Kd.R_mono (Kd.R_keep (IsS108.apart (show IsS108 w0 _ g s0_0 t326 t327 t328 from by repeat (first | (with_reducible first | exact HI0.out | apply IsS108.alloc | apply IsS108.drewN | apply IsS108.drew | apply IsS108.set_1 | apply IsS108.set_2 | apply IsS108.set_3 | refine IsS108.far ?_ (by exact NB0_311.out) _ | refine IsS108.far ?_ (by exact NB0_324.out) _) | exact HI0.out)) (z1_ HO323.out) (by decide)) hk (fun _ h=>h.2)) (fun _ h=>h.1));have n2_:=aM (KeepBut.blk hk (g':=gb324) (o:=.cells #[.int .i64 t320,.slice Ao18 t321.length co18] 24 (0,0)) (z3_ BK324.out) NB324_0.out (by simp));have n3_:=aM (KeepBut.trans (z24_ HK.out GW311.out GW324.out) hk (.inl rfl));have n4_:=aM (hb);have n5_:=aM (hi);clear BK311;clear HO323;clear BK324;clear HK;clear HB;clear HI0;have BK311:=n0_;have HO323:=n1_;have BK324:=n2_;have HK:=n3_;have HB:=n4_;have HI0:=n5_;clear n0_ n1_ n2_ n3_ n4_ n5_;(try clear hb);(try clear hk);(try clear hi)) | ((with_reducible refine gc_ 50 ?_);refine gl_ (some 24) Tryd.func50 #[.pointer (some ⟨g,0,none⟩),.int .i64 7] ?_;(with_reducible refine (Y3.calls g s0_0 t330 t331 t332 7 t333 t334 t335 t336 w0 _ ?s1 ?s2 A9.out).mono ?_);(case s1=>repeat (first | (with_reducible first | exact HI0.out | apply IsS108.alloc | apply IsS108.drewN | apply IsS108.drew | apply IsS108.set_1 | apply IsS108.set_2 | apply IsS108.set_3 | refine IsS108.far ?_ (by exact NB0_311.out) _ | refine IsS108.far ?_ (by exact NB0_324.out) _) | exact HI0.out));(case s2=>repeat (first | (with_reducible first | exact HB.out | apply below_alloc | apply pw_below_drewN | apply below_drew1 | refine below_set ?_ (IsS108.ge HI0.out) | refine below_set ?_ GE311.out | refine below_set ?_ GE324.out) | exact HB.out));rintro e w21 ⟨rfl,hi,hb,hk⟩;refine ⟨_,rfl,?_⟩;have n0_:=aM (KeepBut.blk hk (g':=gb311) (o:=.cells #[.int .i64 0,.slice none 0 0] 24 (0,0)) (z3_ BK311.out) NB311_0.out (by simp));have n1_:=aM (Kd.R_mono (Kd.R_keep (IsS108.apart (show IsS108 w0 _ g s0_0 t330 t331 t332 from by repeat (first | (with_reducible first | exact HI0.out | apply IsS108.alloc | apply IsS108.drewN | apply IsS108.drew | apply IsS108.set_1 | apply IsS108.set_2 | apply IsS108.set_3 | refine IsS108.far ?_ (by exact NB0_311.out) _ | refine IsS108.far ?_ (by exact NB0_324.out) _) | exact HI0.out)) (z1_ HO323.out) (by decide)) hk (fun _ h=>h.2)) (fun _ h=>h.1));have n2_:=aM (KeepBut.blk hk (g':=gb324) (o:=.cells #[.int .i64 t320,.slice Ao18 t321.length co18] 24 (0,0)) (z3_ BK324.out) NB324_0.out (by simp));have n3_:=aM (KeepBut.trans (z24_ HK.out GW311.out GW324.out) hk (.inl rfl));have n4_:=aM (hb);have n5_:=aM (hi);clear BK311;clear HO323;clear BK324;clear HK;clear HB;clear HI0;have BK311:=n0_;have HO323:=n1_;have BK324:=n2_;have HK:=n3_;have HB:=n4_;have HI0:=n5_;clear n0_ n1_ n2_ n3_ n4_ n5_;(try clear hb);(try clear hk);(try clear hi);have ⟨hcz22_0,hcz22_1,hfz22_0,hfz22_1⟩:=cz2_ BK324.out;have hnb23:=NB311_0.out;have hnc23:=NB0_311.out;have ⟨hcz24_0,hcz24_1,hfz24_0,hfz24_1⟩:=cz2_ BK311.out))
   refine bodyPost_ret (results_cell_row rfl _ _ gb311 24 #[.int .i64 t333,.slice Ao18 t321.length co18] (0,0) _ rfl (by (with_reducible repeat (first | refine blk_drewN ?_ _ | refine blk_drew ?_ | refine blk_alloc ?_ _));apply put2_;(with_reducible repeat (first | refine blk_drewN ?_ _ | refine blk_drew ?_ | refine blk_alloc ?_ _));refine blk_far ?_ NB311_324.out _;(with_reducible repeat (first | refine blk_drewN ?_ _ | refine blk_drew ?_ | refine blk_alloc ?_ _));exact BK311.out) Tryd.underlying24 rfl (by kernel_rfl)) rfl ?_
   exact ⟨_,z9_,by (with_reducible repeat (first | apply Kd.R_alloc | apply Kd.R_drewN | apply Kd.R_drew));exact Kd.R_mono (rf2_ (Kd.R_far (p:=⟨gb324,0,none⟩) (Kd.R_types (Kd.R_types HO323.out BK324.out (by decide)) BK311.out (by decide)) (fun _ hk=>hk.1.2) (.int .i64 t333)) (fun _ hk=>hk.2)) (fun _ hk=>trivial),z47_ HI0.out NB0_311.out NB0_324.out,z45_ HB.out HI0.out GE311.out GE324.out,z24_ HK.out GW311.out GW324.out⟩
  ·rw [if_neg c8] at H
   have c8b0:(t329 == 0)=false:=beq_eq_false_iff_ne.mpr c8
   have c8b1:(t329 != 0)=true:=bne_iff_ne.mpr c8
   replace H:=bS H
   obtain ⟨⟨t337,t338,t339,t340⟩,A250,H⟩:=H
   replace H:(if 0<(t321.length:Int) then (some (t320,(t321.set (0:Int).toNat (⟨(rd_T77 t321 0).f0,t337⟩:S77)),t338,t339,t340)) else (none))=some (r1,r2,r3,r4,r5):=H
   have A25:=aM A250
   clear A250
   by_cases c26:0<(t321.length:Int)
   ·rw [if_pos c26] at H
    have c26b0:decide (0<(t321.length:Int))=true:=dE c26
    have c26b1:decide (0<t321.length)=true:=dE (by omega)
    clear c26
    obtain ⟨y341,hy341⟩:∃ y_:List (S77),y_=(t321.set (0:Int).toNat (⟨(rd_T77 t321 0).f0,t337⟩:S77)):=⟨_,rfl⟩
    replace H:(some (t320,y341,t338,t339,t340))=some (r1,r2,r3,r4,r5):=by first | (rw [hy341];with_reducible exact H) | (have H2_:=(Option.bind_some _ _).symm.trans H;rw [hy341];with_reducible exact H2_) | (have H2_:=(Option.bind_some _ _).symm.trans H;with_reducible exact H2_) | with_reducible exact H | (rw [hy341];exact H) | exact H
    have Ny341:=aM hy341
    clear hy341
    simp only [Option.some.injEq,Prod.mk.injEq] at H
    obtain ⟨rfl,rfl,rfl,rfl,rfl⟩:=H
    go_enter Tryd.func46,Tryd.ntmps46
    try go_wp2_with (first | ((with_reducible refine gd_ 2 ?_);refine be_ 2 #[.int .i64 0,.slice none 0 0] 24 ?_;intro gb311 hg w28 hbox hb;have n0_:=aM (IsS108.below (z16_ HI0.out) hb);have n1_:=aM (KeepBut.trans (z12_ HK.out) (KeepBut.of_below hb g none) (.inl rfl));have n2_:=aM (below_step (z17_ HB.out HI0.out) hb);have n3_:=aM (hbox);have n4_:=aM ((z37_ HK.out:w.heap.size≤gb311));have n5_:=aM ((Nat.le_trans HW0.out (z37_ HK.out:w.heap.size≤gb311):w0.heap.size≤gb311));have n6_:=aM ((z52_ HI0.out:g≠gb311));have n7_:=aM ((z53_ HI0.out:gb311≠g));clear HI0;clear HK;clear HB;have HI0:=n0_;have HK:=n1_;have HB:=n2_;have BK311:=n3_;have GW311:=n4_;have GE311:=n5_;have NB0_311:=n6_;have NB311_0:=n7_;clear n0_ n1_ n2_ n3_ n4_ n5_ n6_ n7_;clear hb hbox hg) | ((with_reducible refine gc_ 50 ?_);refine gl_ (some 5) Tryd.func50 #[.pointer (some ⟨g,0,none⟩),.int .i64 5] ?_;(with_reducible refine (Y3.calls g s0_0 s0_1 s0_2 s0_3 5 t312 t313 t314 t315 w0 _ ?s1 ?s2 A2.out).mono ?_);(case s1=>repeat (first | (with_reducible first | exact HI0.out | apply IsS108.alloc | apply IsS108.drewN | apply IsS108.drew | apply IsS108.set_1 | apply IsS108.set_2 | apply IsS108.set_3 | refine IsS108.far ?_ (by exact NB0_311.out) _) | exact HI0.out));(case s2=>repeat (first | (with_reducible first | exact HB.out | apply below_alloc | apply pw_below_drewN | apply below_drew1 | refine below_set ?_ (IsS108.ge HI0.out) | refine below_set ?_ GE311.out) | exact HB.out));rintro e w29 ⟨rfl,hi,hb,hk⟩;refine ⟨_,rfl,?_⟩;have n0_:=aM (KeepBut.blk hk (g':=gb311) (o:=.cells #[.int .i64 0,.slice none 0 0] 24 (0,0)) (z3_ BK311.out) NB311_0.out (by simp));have n1_:=aM (KeepBut.trans (z21_ HK.out GW311.out) hk (.inl rfl));have n2_:=aM (hb);have n3_:=aM (hi);clear BK311;clear HK;clear HB;clear HI0;have BK311:=n0_;have HK:=n1_;have HB:=n2_;have HI0:=n3_;clear n0_ n1_ n2_ n3_;(try clear hb);(try clear hk);(try clear hi)) | ((with_reducible refine gc_ 50 ?_);refine gl_ (some 8) Tryd.func50 #[.pointer (some ⟨g,0,none⟩),.int .i64 4] ?_;(with_reducible refine (Y3.calls g s0_0 t313 t314 t315 4 t316 t317 t318 t319 w0 _ ?s1 ?s2 A3.out).mono ?_);(case s1=>repeat (first | (with_reducible first | exact HI0.out | apply IsS108.alloc | apply IsS108.drewN | apply IsS108.drew | apply IsS108.set_1 | apply IsS108.set_2 | apply IsS108.set_3 | refine IsS108.far ?_ (by exact NB0_311.out) _) | exact HI0.out));(case s2=>repeat (first | (with_reducible first | exact HB.out | apply below_alloc | apply pw_below_drewN | apply below_drew1 | refine below_set ?_ (IsS108.ge HI0.out) | refine below_set ?_ GE311.out) | exact HB.out));rintro e w30 ⟨rfl,hi,hb,hk⟩;refine ⟨_,rfl,?_⟩;have n0_:=aM (KeepBut.blk hk (g':=gb311) (o:=.cells #[.int .i64 0,.slice none 0 0] 24 (0,0)) (z3_ BK311.out) NB311_0.out (by simp));have n1_:=aM (KeepBut.trans (z21_ HK.out GW311.out) hk (.inl rfl));have n2_:=aM (hb);have n3_:=aM (hi);clear BK311;clear HK;clear HB;clear HI0;have BK311:=n0_;have HK:=n1_;have HB:=n2_;have HI0:=n3_;clear n0_ n1_ n2_ n3_;(try clear hb);(try clear hk);(try clear hi)) | ((with_reducible refine gc_ 40 ?_);refine gl_ (some 10) Tryd.func40 #[.int .i64 (wrap64 (1+t312)),.int .i64 (wrap64 (1+t316))] ?_;(with_reducible refine (Y18.calls k (wrap64 (1+t312)) (wrap64 (1+t316)) t320 t321 _ A4.out).mono ?_);rintro e w31 ⟨v322,rfl,ho0,hb⟩;refine ⟨_,rfl,?_⟩;have n0_:=aM (Kd.R_lower ho0 (keep_size (w:=w) (g:=g) (row:=none) (z21_ HK.out GW311.out)));have n1_:=aM (IsS108.below (z38_ HI0.out NB0_311.out) hb);have n2_:=aM (blkB_ BK311.out hb);have n3_:=aM (KeepBut.trans (z21_ HK.out GW311.out) (KeepBut.of_below hb g none) (.inl rfl));have n4_:=aM (below_step (z31_ HB.out HI0.out GE311.out) hb);clear HI0;clear BK311;clear HK;clear HB;have HO323:=n0_;have HI0:=n1_;have BK311:=n2_;have HK:=n3_;have HB:=n4_;clear n0_ n1_ n2_ n3_ n4_;(try clear hb);(try clear ho0)) | ((with_reducible refine gd_ 3 ?_);refine be_ 3 #[.int .i64 0,.slice none 0 0] 24 ?_;intro gb324 hg w32 hbox hb;have n0_:=aM (Kd.R_below (z1_ HO323.out) hb);have n1_:=aM (IsS108.below (z38_ HI0.out NB0_311.out) hb);have n2_:=aM (blkB_ BK311.out hb);have n3_:=aM (KeepBut.trans (z21_ HK.out GW311.out) (KeepBut.of_below hb g none) (.inl rfl));have n4_:=aM (below_step (z31_ HB.out HI0.out GE311.out) hb);have n5_:=aM (hbox);have n6_:=aM ((z39_ HK.out GW311.out:w.heap.size≤gb324));have n7_:=aM ((Nat.le_trans HW0.out (z39_ HK.out GW311.out:w.heap.size≤gb324):w0.heap.size≤gb324));have n8_:=aM (neL_ BK311.out hg);have n9_:=aM (neG_ BK311.out hg);have n10_:=aM ((z54_ HI0.out NB0_311.out:g≠gb324));have n11_:=aM ((z55_ HI0.out NB0_311.out:gb324≠g));clear HO323;clear HI0;clear BK311;clear HK;clear HB;have HO323:=n0_;have HI0:=n1_;have BK311:=n2_;have HK:=n3_;have HB:=n4_;have BK324:=n5_;have GW324:=n6_;have GE324:=n7_;have NB311_324:=n8_;have NB324_311:=n9_;have NB0_324:=n10_;have NB324_0:=n11_;clear n0_ n1_ n2_ n3_ n4_ n5_ n6_ n7_ n8_ n9_ n10_ n11_;clear hb hbox hg;have hnb33:=NB324_311.out;have hnc33:=NB311_324.out;have hnb34:=NB324_0.out;have hnc34:=NB0_324.out;have ⟨hcz35_0,hcz35_1,hfz35_0,hfz35_1⟩:=cz2_ BK324.out;obtain ⟨Ao36,co36,eo36⟩:=Kd.R_slice HO323.out;subst eo36) | ((with_reducible refine gc_ 48 ?_);refine gl_ (some 12) Tryd.func48 #[.pointer (some ⟨g,0,none⟩),.int .i64 15] ?_;(with_reducible refine (Y49.calls g s0_0 t317 t318 t319 15 true t326 t327 t328 w0 _ ?s1 ?s2 A5.out).mono ?_);(case s1=>repeat (first | (with_reducible first | exact HI0.out | apply IsS108.alloc | apply IsS108.drewN | apply IsS108.drew | apply IsS108.set_1 | apply IsS108.set_2 | apply IsS108.set_3 | refine IsS108.far ?_ (by exact NB0_311.out) _ | refine IsS108.far ?_ (by exact NB0_324.out) _) | exact HI0.out));(case s2=>repeat (first | (with_reducible first | exact HB.out | apply below_alloc | apply pw_below_drewN | apply below_drew1 | refine below_set ?_ (IsS108.ge HI0.out) | refine below_set ?_ GE311.out | refine below_set ?_ GE324.out) | exact HB.out));rintro e w37 ⟨rfl,hi,hb,hk⟩;refine ⟨_,rfl,?_⟩;have n0_:=aM (KeepBut.blk hk (g':=gb311) (o:=.cells #[.int .i64 0,.slice none 0 0] 24 (0,0)) (z19_ NB311_324.out BK311.out) NB311_0.out (by simp));have n1_:=aM (Kd.R_mono (Kd.R_keep (IsS108.apart (show IsS108 w0 _ g s0_0 t317 t318 t319 from by repeat (first | (with_reducible first | exact HI0.out | apply IsS108.alloc | apply IsS108.drewN | apply IsS108.drew | apply IsS108.set_1 | apply IsS108.set_2 | apply IsS108.set_3 | refine IsS108.far ?_ (by exact NB0_311.out) _ | refine IsS108.far ?_ (by exact NB0_324.out) _) | exact HI0.out)) (z23_ HO323.out BK324.out) (by decide)) hk (fun _ h=>h.2)) (fun _ h=>h.1));have n2_:=aM (KeepBut.blk hk (g':=gb324) (o:=.cells #[.int .i64 t320,.slice Ao36 t321.length co36] 24 (0,0)) (z20_ BK324.out) NB324_0.out (by simp));have n3_:=aM (KeepBut.trans (z24_ HK.out GW311.out GW324.out) hk (.inl rfl));have n4_:=aM (hb);have n5_:=aM (hi);clear BK311;clear HO323;clear BK324;clear HK;clear HB;clear HI0;have BK311:=n0_;have HO323:=n1_;have BK324:=n2_;have HK:=n3_;have HB:=n4_;have HI0:=n5_;clear n0_ n1_ n2_ n3_ n4_ n5_;(try clear hb);(try clear hk);(try clear hi)) | ((with_reducible refine gc_ 50 ?_);refine gl_ (some 14) Tryd.func50 #[.pointer (some ⟨g,0,none⟩),.int .i64 2] ?_;(with_reducible refine (Y3.calls g s0_0 t326 t327 t328 2 t329 t330 t331 t332 w0 _ ?s1 ?s2 A7.out).mono ?_);(case s1=>repeat (first | (with_reducible first | exact HI0.out | apply IsS108.alloc | apply IsS108.drewN | apply IsS108.drew | apply IsS108.set_1 | apply IsS108.set_2 | apply IsS108.set_3 | refine IsS108.far ?_ (by exact NB0_311.out) _ | refine IsS108.far ?_ (by exact NB0_324.out) _) | exact HI0.out));(case s2=>repeat (first | (with_reducible first | exact HB.out | apply below_alloc | apply pw_below_drewN | apply below_drew1 | refine below_set ?_ (IsS108.ge HI0.out) | refine below_set ?_ GE311.out | refine below_set ?_ GE324.out) | exact HB.out));rintro e w38 ⟨rfl,hi,hb,hk⟩;refine ⟨_,rfl,?_⟩;have n0_:=aM (KeepBut.blk hk (g':=gb311) (o:=.cells #[.int .i64 0,.slice none 0 0] 24 (0,0)) (z3_ BK311.out) NB311_0.out (by simp));have n1_:=aM (Kd.R_mono (Kd.R_keep (IsS108.apart (show IsS108 w0 _ g s0_0 t326 t327 t328 from by repeat (first | (with_reducible first | exact HI0.out | apply IsS108.alloc | apply IsS108.drewN | apply IsS108.drew | apply IsS108.set_1 | apply IsS108.set_2 | apply IsS108.set_3 | refine IsS108.far ?_ (by exact NB0_311.out) _ | refine IsS108.far ?_ (by exact NB0_324.out) _) | exact HI0.out)) (z1_ HO323.out) (by decide)) hk (fun _ h=>h.2)) (fun _ h=>h.1));have n2_:=aM (KeepBut.blk hk (g':=gb324) (o:=.cells #[.int .i64 t320,.slice Ao36 t321.length co36] 24 (0,0)) (z3_ BK324.out) NB324_0.out (by simp));have n3_:=aM (KeepBut.trans (z24_ HK.out GW311.out GW324.out) hk (.inl rfl));have n4_:=aM (hb);have n5_:=aM (hi);clear BK311;clear HO323;clear BK324;clear HK;clear HB;clear HI0;have BK311:=n0_;have HO323:=n1_;have BK324:=n2_;have HK:=n3_;have HB:=n4_;have HI0:=n5_;clear n0_ n1_ n2_ n3_ n4_ n5_;(try clear hb);(try clear hk);(try clear hi)))
    have n0_:=aM (Kd.R_drew HO323.out)
    have n1_:=aM (blk_drew BK311.out)
    have n2_:=aM (blk_drew BK324.out)
    have n3_:=aM (IsS108.drew HI0.out)
    have n4_:=aM (keep_drew HK.out)
    have n5_:=aM (below_drew1 HB.out)
    clear HO323
    clear BK311
    clear BK324
    clear HI0
    clear HK
    clear HB
    have HO323:=n0_
    have BK311:=n1_
    have BK324:=n2_
    have HI0:=n3_
    have HK:=n4_
    have HB:=n5_
    clear n0_ n1_ n2_ n3_ n4_ n5_
    refine start_ (n:=7) (S:=fun w'=>w'.cell? ⟨gb324,0,none⟩=some (.int .i64 t320)∧w'.cell? ⟨gb324,1,none⟩=some (.slice Ao36 t321.length co36)) (ds:=[6]) #[O,O,O,O,O,O,O] (by kernel_rfl) rfl rfl (cc2_ BK324.out) (fun hHeld=>?_)
    generalize w38.drew=w39 at HO323 BK311 BK324 HI0 HK HB hHeld ⊢
    refine pure_ (i:=0) (N:=some 15) (v:=?_) (a':=?_) #[I,O,O,O,O,O,O] rfl rfl (by kernel_rfl) (fun _ _ _ h=>h) (Or.inl ⟨by rfl,?_⟩) ?_ ?_
    rotate_left
    ·intro w'
     go_simp
     with_reducible rfl
    rotate_left
    ·simp only [Act.put,sa_,s0_,ss_,i64_w,i32_w]
     rfl
    refine pure_ (i:=2) (N:=some 17) (v:=?_) (a':=?_) #[I,O,I,O,O,O,O] rfl rfl (by kernel_rfl) (fun _ _ _ h=>h) (Or.inl ⟨by rfl,?_⟩) ?_ ?_
    rotate_left
    ·intro w'
     go_simp
     with_reducible rfl
    rotate_left
    ·simp only [Act.put,sa_,s0_,ss_,i64_w,i32_w]
     rfl
    refine take_ (i:=1) (N:=some 16) (v:=?_) (a':=?_) #[I,I,I,O,O,O,O] rfl rfl (by kernel_rfl) (fun _ _ _ h=>h) (Or.inl ⟨by rfl,?_⟩) hHeld ?_ ?_
    rotate_left
    ·rintro w' ⟨s0,s1⟩
     go_simp
     with_reducible rfl
    rotate_left
    ·simp only [Act.put,sa_,s0_,ss_,i64_w,i32_w]
     rfl
    refine one_ (i:=3) (N:=some 18) #[I,I,I,I,O,O,O] rfl rfl (by kernel_rfl) (by decide) (fun K hK=>?_)
    refine gs_ Tryd.func50 #[.pointer (some ⟨g,0,none⟩),.int .i64 6] ?_
    with_reducible refine (Y3.calls g s0_0 t330 t331 t332 6 t337 t338 t339 t340 w0 _ ?s1 ?s2 A25.out).mono ?_
    (case s1=>repeat (first | (with_reducible first | exact HI0.out | apply IsS108.alloc | apply IsS108.drewN | apply IsS108.drew | apply IsS108.set_1 | apply IsS108.set_2 | apply IsS108.set_3 | refine IsS108.far ?_ (by exact NB0_311.out) _ | refine IsS108.far ?_ (by exact NB0_324.out) _) | exact HI0.out))
    (case s2=>repeat (first | (with_reducible first | exact HB.out | apply below_alloc | apply pw_below_drewN | apply below_drew1 | refine below_set ?_ (IsS108.ge HI0.out) | refine below_set ?_ GE311.out | refine below_set ?_ GE324.out) | exact HB.out))
    rintro e w40 ⟨rfl,hi,hb,hk⟩
    refine ⟨_,rfl,?_⟩
    have n0_:=aM (KeepBut.blk hk (g':=gb311) (o:=.cells #[.int .i64 0,.slice none 0 0] 24 (0,0)) (z3_ BK311.out) NB311_0.out (by simp))
    have n1_:=aM (Kd.R_mono (Kd.R_keep (IsS108.apart (show IsS108 w0 _ g s0_0 t330 t331 t332 from by repeat (first | (with_reducible first | exact HI0.out | apply IsS108.alloc | apply IsS108.drewN | apply IsS108.drew | apply IsS108.set_1 | apply IsS108.set_2 | apply IsS108.set_3 | refine IsS108.far ?_ (by exact NB0_311.out) _ | refine IsS108.far ?_ (by exact NB0_324.out) _) | exact HI0.out)) (z1_ HO323.out) (by decide)) hk (fun _ h=>h.2)) (fun _ h=>h.1))
    have n2_:=aM (KeepBut.blk hk (g':=gb324) (o:=.cells #[.int .i64 t320,.slice Ao36 t321.length co36] 24 (0,0)) (z3_ BK324.out) NB324_0.out (by simp))
    have n3_:=aM (KeepBut.trans (z24_ HK.out GW311.out GW324.out) hk (.inl rfl))
    have n4_:=aM (hb)
    have n5_:=aM (hi)
    clear BK311
    clear HO323
    clear BK324
    clear HK
    clear HB
    clear HI0
    have BK311:=n0_
    have HO323:=n1_
    have BK324:=n2_
    have HK:=n3_
    have HB:=n4_
    have HI0:=n5_
    clear n0_ n1_ n2_ n3_ n4_ n5_
    (try clear hb)
    (try clear hk)
    (try clear hi)
    have p27:0≤(0:Int):=(by omega)
    have q27:(0:Int)<((t321.length:Int):Int):=dT (z0_)
    have qi27:(0<t321.length)=True:=eq_true (by omega)
    obtain ⟨go27,co27,eo27,gb27,gl27,cl27,HG27⟩:=Kd.R_form HO323.out (by omega)
    (first | cases eo27 | (injection eo27 with ea_ en_ ec_;(first | subst ea_ | (injection ea_ with ea_;subst ea_));subst ec_;clear en_))
    have GB27:=aM gb27
    have GG27:=aM HG27
    clear gb27 gl27 HG27
    obtain ⟨ce27,hcl27,hM27,hcc27,hfr27⟩:=Kd.R_elem HO323.out z77 (0:Int) p27 q27
    obtain rfl:=k77_openM hM27
    have hx27_0:World.cell? _ ⟨go27,(0:Int).toNat*2,none⟩=some (.int .i64 ((rd_T77 t321 0).f0)):=hcc27 0 _ rfl
    have hx27_1:World.cell? _ ⟨go27,(0:Int).toNat*2+1,none⟩=some (.int .i64 ((rd_T77 t321 0).f1)):=hcc27 1 _ rfl
    have hf27_0:World.frozen? _ ⟨go27,(0:Int).toNat*2,none⟩=false:=hfr27 0
    have hf27_1:World.frozen? _ ⟨go27,(0:Int).toNat*2+1,none⟩=false:=hfr27 1
    clear hcl27 hcc27 hfr27 hM27
    (try rw [show ((0:Int)).toNat=0 from rfl] at hx27_0)
    (try simp only [Nat.reduceMul,Nat.zero_mul,Nat.zero_add,Nat.reduceAdd] at hx27_0)
    (try rw [show ((0:Int)).toNat=0 from rfl] at hf27_0)
    (try simp only [Nat.reduceMul,Nat.zero_mul,Nat.zero_add,Nat.reduceAdd] at hf27_0)
    (try rw [show ((0:Int)).toNat=0 from rfl] at hx27_1)
    (try simp only [Nat.reduceMul,Nat.zero_mul,Nat.zero_add,Nat.reduceAdd] at hx27_1)
    (try rw [show ((0:Int)).toNat=0 from rfl] at hf27_1)
    (try simp only [Nat.reduceMul,Nat.zero_mul,Nat.zero_add,Nat.reduceAdd] at hf27_1)
    replace p27:=eq_true p27
    replace q27:=eq_true q27
    have HN0_go27:=aM (show g≠go27 from by have h_:=IsS108.own_ne HI0.out HO323.out (by decide);intro e_;exact h_ (by rw [e_];rfl))
    obtain ⟨ce41,hcl41,hM41,hcc41,hfr41⟩:=Kd.R_elem HO323.out z77 (0:Int) (by omega) (by have h_:(0:Int)<((t321.length:Int):Int):=dT (by first | (with_reducible assumption) | assumption);first | exact h_ | (have e_:=(Kd.R_reads' HO323.out).1;omega) | simpa using h_)
    obtain rfl:=k77_openM hM41
    have HP41:=(Kd.R_seg HO323.out (0:Int) (by omega) (by have h_:(0:Int)<((t321.length:Int):Int):=dT (by first | (with_reducible assumption) | assumption);first | exact h_ | (have e_:=(Kd.R_reads' HO323.out).1;omega) | simpa using h_) (seg:=[.int .i64 t337]) (j:=1) hcl41 hcc41 (show 2≤2 from by decide) (x':=(⟨(rd_T77 t321 0).f0,t337⟩:S77)) (k77_mkM _ _ _ (⟨(rd_T77 t321 0).f0,t337⟩:S77) ) (fun _ hk=>hk)).1
    rw [← Ny341.out] at HP41
    have HQ41:=aM HP41
    clear hcl41 hcc41 hfr41 hM41 HP41
    refine hK.out _ _ (cc2_ BK324.out) (fun hHeld=>?_)
    clear hK K
    refine nm_ 18 ?_
    refine pure_ (i:=4) (N:=some 19) (v:=?_) (a':=?_) #[I,I,I,I,I,O,O] rfl rfl (by kernel_rfl) (fun _ _ _ h=>h) (Or.inl ⟨by rfl,?_⟩) ?_ ?_
    rotate_left
    ·intro w'
     go_simp
     with_reducible rfl
    rotate_left
    ·simp only [Act.put,sa_,s0_,ss_,i64_w,i32_w]
     rfl
    refine pure_ (i:=5) (N:=some 20) (v:=?_) (a':=?_) #[I,I,I,I,I,I,O] rfl rfl (by kernel_rfl) (fun _ _ _ h=>h) (Or.inl ⟨by rfl,?_⟩) ?_ ?_
    rotate_left
    ·intro w'
     go_simp
     with_reducible rfl
    rotate_left
    ·simp only [Act.put,sa_,s0_,ss_,i64_w,i32_w]
     rfl
    refine last_ (i:=6) (N:=none) #[I,I,I,I,I,I,I] rfl rfl (by kernel_rfl) (by decide) (fun K hK=>?_)
    refine skip_ (w1:=?_) (by rfl) rfl ?_ ?_
    rotate_left
    ·go_simp
     rfl
    refine hK.out _ _ ?_
    clear hK K
    refine done_ (by kernel_rfl) ?_
    have n0_:Aside0 (Kd.R k77 77 (w40.setCell ⟨go27,1,none⟩ (.int .i64 t337)) w.heap.size (fun _=>True) (.slice (some ⟨go27,0,none⟩) t321.length co36) y341):=⟨z1_ HQ41.out⟩
    have n1_:Aside0 ((w40.setCell ⟨go27,1,none⟩ (.int .i64 t337)).heap[gb311]? = some (.cells #[.int .i64 0,.slice none 0 0] 24 (0,0))):=⟨by (with_reducible repeat (first | refine blk_drewN ?_ _ | refine blk_drew ?_ | refine blk_alloc ?_ _));refine blk_far ?_ (by have h_:=Kd.R_ne HO323.out BK311.out (by decide);intro e_;exact h_ (by rw [e_];rfl)) _;(with_reducible repeat (first | refine blk_drewN ?_ _ | refine blk_drew ?_ | refine blk_alloc ?_ _));exact BK311.out⟩
    have n2_:Aside0 ((w40.setCell ⟨go27,1,none⟩ (.int .i64 t337)).heap[gb324]? = some (.cells #[.int .i64 t320,.slice (some ⟨go27,0,none⟩) t321.length co36] 24 (0,0))):=⟨by (with_reducible repeat (first | refine blk_drewN ?_ _ | refine blk_drew ?_ | refine blk_alloc ?_ _));refine blk_far ?_ (by have h_:=Kd.R_ne HO323.out BK324.out (by decide);intro e_;exact h_ (by rw [e_];rfl)) _;(with_reducible repeat (first | refine blk_drewN ?_ _ | refine blk_drew ?_ | refine blk_alloc ?_ _));exact BK324.out⟩
    have n3_:Aside0 (IsS108 w0 (w40.setCell ⟨go27,1,none⟩ (.int .i64 t337)) g s0_0 t338 t339 t340):=⟨by repeat (first | (with_reducible first | exact HI0.out | apply IsS108.alloc | apply IsS108.drewN | apply IsS108.drew | apply IsS108.set_1 | apply IsS108.set_2 | apply IsS108.set_3 | refine IsS108.far ?_ (by exact HN0_go27.out) _ | refine IsS108.far ?_ (by exact NB0_311.out) _ | refine IsS108.far ?_ (by exact NB0_324.out) _) | exact HI0.out)⟩
    have n4_:Aside0 (KeepBut w (w40.setCell ⟨go27,1,none⟩ (.int .i64 t337)) g none):=⟨by repeat (first | (with_reducible first | exact HK.out | apply KeepBut.set_ | apply keep_drewN | apply keep_drew | apply keep_alloc | refine keep_far ?_ GB27.out _ | refine keep_far ?_ GW311.out _ | refine keep_far ?_ GW324.out _) | exact HK.out)⟩
    have n5_:Aside0 (Below w0.heap.size w0 (w40.setCell ⟨go27,1,none⟩ (.int .i64 t337))):=⟨by repeat (first | (with_reducible first | exact HB.out | apply below_alloc | apply pw_below_drewN | apply below_drew1 | refine below_set ?_ (Nat.le_trans HL.out GB27.out) | refine below_set ?_ (IsS108.ge HI0.out) | refine below_set ?_ GE311.out | refine below_set ?_ GE324.out) | exact HB.out)⟩
    (try clear BK324)
    (try clear HI0)
    (try clear HK)
    (try clear HB)
    generalize (w40.setCell ⟨go27,1,none⟩ (.int .i64 t337))=w42 at n0_ n1_ n2_ n3_ n4_ n5_ ⊢
    have HO323:=n0_
    have BK311:=n1_
    have BK324:=n2_
    have HI0:=n3_
    have HK:=n4_
    have HB:=n5_
    clear n0_ n1_ n2_ n3_ n4_ n5_
    have ⟨hcz43_0,hcz43_1,hfz43_0,hfz43_1⟩:=cz2_ BK324.out
    have hnb44:=NB311_0.out
    have hnc44:=NB0_311.out
    have ⟨hcz45_0,hcz45_1,hfz45_0,hfz45_1⟩:=cz2_ BK311.out
    try go_wp2
    refine bodyPost_ret (results_cell_row rfl _ _ gb311 24 #[.int .i64 t320,.slice (some ⟨go27,0,none⟩) t321.length co36] (0,0) _ rfl (z20_ BK311.out) Tryd.underlying24 rfl (by kernel_rfl)) rfl ?_
    exact ⟨_,z9_,z36_ HO323.out BK311.out,z47_ HI0.out NB0_311.out NB0_324.out,z45_ HB.out HI0.out GE311.out GE324.out,z24_ HK.out GW311.out GW324.out⟩
   ·rw [if_neg c26] at H
    exact nO H
 ·replace c6:=Bool.eq_false_iff.mpr c6
  subst c6
  have H1:(some (t320,t321,t326,t327,t328))=some (r1,r2,r3,r4,r5):=by rw [if_neg (show ¬ (false=true) by decide)] at H;exact H
  clear H
  have H:=H1
  clear H1
  simp only [Option.some.injEq,Prod.mk.injEq] at H
  obtain ⟨rfl,rfl,rfl,rfl,rfl⟩:=H
  go_enter Tryd.func46,Tryd.ntmps46
  go_wp2_with (first | ((with_reducible refine gd_ 2 ?_);refine be_ 2 #[.int .i64 0,.slice none 0 0] 24 ?_;intro gb311 hg w46 hbox hb;have n0_:=aM (IsS108.below (z16_ HI0.out) hb);have n1_:=aM (KeepBut.trans (z12_ HK.out) (KeepBut.of_below hb g none) (.inl rfl));have n2_:=aM (below_step (z17_ HB.out HI0.out) hb);have n3_:=aM (hbox);have n4_:=aM ((z37_ HK.out:w.heap.size≤gb311));have n5_:=aM ((Nat.le_trans HW0.out (z37_ HK.out:w.heap.size≤gb311):w0.heap.size≤gb311));have n6_:=aM ((z52_ HI0.out:g≠gb311));have n7_:=aM ((z53_ HI0.out:gb311≠g));clear HI0;clear HK;clear HB;have HI0:=n0_;have HK:=n1_;have HB:=n2_;have BK311:=n3_;have GW311:=n4_;have GE311:=n5_;have NB0_311:=n6_;have NB311_0:=n7_;clear n0_ n1_ n2_ n3_ n4_ n5_ n6_ n7_;clear hb hbox hg) | ((with_reducible refine gc_ 50 ?_);refine gl_ (some 5) Tryd.func50 #[.pointer (some ⟨g,0,none⟩),.int .i64 5] ?_;(with_reducible refine (Y3.calls g s0_0 s0_1 s0_2 s0_3 5 t312 t313 t314 t315 w0 _ ?s1 ?s2 A2.out).mono ?_);(case s1=>repeat (first | (with_reducible first | exact HI0.out | apply IsS108.alloc | apply IsS108.drewN | apply IsS108.drew | apply IsS108.set_1 | apply IsS108.set_2 | apply IsS108.set_3 | refine IsS108.far ?_ (by exact NB0_311.out) _) | exact HI0.out));(case s2=>repeat (first | (with_reducible first | exact HB.out | apply below_alloc | apply pw_below_drewN | apply below_drew1 | refine below_set ?_ (IsS108.ge HI0.out) | refine below_set ?_ GE311.out) | exact HB.out));rintro e w47 ⟨rfl,hi,hb,hk⟩;refine ⟨_,rfl,?_⟩;have n0_:=aM (KeepBut.blk hk (g':=gb311) (o:=.cells #[.int .i64 0,.slice none 0 0] 24 (0,0)) (z3_ BK311.out) NB311_0.out (by simp));have n1_:=aM (KeepBut.trans (z21_ HK.out GW311.out) hk (.inl rfl));have n2_:=aM (hb);have n3_:=aM (hi);clear BK311;clear HK;clear HB;clear HI0;have BK311:=n0_;have HK:=n1_;have HB:=n2_;have HI0:=n3_;clear n0_ n1_ n2_ n3_;(try clear hb);(try clear hk);(try clear hi)) | ((with_reducible refine gc_ 50 ?_);refine gl_ (some 8) Tryd.func50 #[.pointer (some ⟨g,0,none⟩),.int .i64 4] ?_;(with_reducible refine (Y3.calls g s0_0 t313 t314 t315 4 t316 t317 t318 t319 w0 _ ?s1 ?s2 A3.out).mono ?_);(case s1=>repeat (first | (with_reducible first | exact HI0.out | apply IsS108.alloc | apply IsS108.drewN | apply IsS108.drew | apply IsS108.set_1 | apply IsS108.set_2 | apply IsS108.set_3 | refine IsS108.far ?_ (by exact NB0_311.out) _) | exact HI0.out));(case s2=>repeat (first | (with_reducible first | exact HB.out | apply below_alloc | apply pw_below_drewN | apply below_drew1 | refine below_set ?_ (IsS108.ge HI0.out) | refine below_set ?_ GE311.out) | exact HB.out));rintro e w48 ⟨rfl,hi,hb,hk⟩;refine ⟨_,rfl,?_⟩;have n0_:=aM (KeepBut.blk hk (g':=gb311) (o:=.cells #[.int .i64 0,.slice none 0 0] 24 (0,0)) (z3_ BK311.out) NB311_0.out (by simp));have n1_:=aM (KeepBut.trans (z21_ HK.out GW311.out) hk (.inl rfl));have n2_:=aM (hb);have n3_:=aM (hi);clear BK311;clear HK;clear HB;clear HI0;have BK311:=n0_;have HK:=n1_;have HB:=n2_;have HI0:=n3_;clear n0_ n1_ n2_ n3_;(try clear hb);(try clear hk);(try clear hi)) | ((with_reducible refine gc_ 40 ?_);refine gl_ (some 10) Tryd.func40 #[.int .i64 (wrap64 (1+t312)),.int .i64 (wrap64 (1+t316))] ?_;(with_reducible refine (Y18.calls k (wrap64 (1+t312)) (wrap64 (1+t316)) t320 t321 _ A4.out).mono ?_);rintro e w49 ⟨v322,rfl,ho0,hb⟩;refine ⟨_,rfl,?_⟩;have n0_:=aM (Kd.R_lower ho0 (keep_size (w:=w) (g:=g) (row:=none) (z21_ HK.out GW311.out)));have n1_:=aM (IsS108.below (z38_ HI0.out NB0_311.out) hb);have n2_:=aM (blkB_ BK311.out hb);have n3_:=aM (KeepBut.trans (z21_ HK.out GW311.out) (KeepBut.of_below hb g none) (.inl rfl));have n4_:=aM (below_step (z31_ HB.out HI0.out GE311.out) hb);clear HI0;clear BK311;clear HK;clear HB;have HO323:=n0_;have HI0:=n1_;have BK311:=n2_;have HK:=n3_;have HB:=n4_;clear n0_ n1_ n2_ n3_ n4_;(try clear hb);(try clear ho0)) | ((with_reducible refine gd_ 3 ?_);refine be_ 3 #[.int .i64 0,.slice none 0 0] 24 ?_;intro gb324 hg w50 hbox hb;have n0_:=aM (Kd.R_below (z1_ HO323.out) hb);have n1_:=aM (IsS108.below (z38_ HI0.out NB0_311.out) hb);have n2_:=aM (blkB_ BK311.out hb);have n3_:=aM (KeepBut.trans (z21_ HK.out GW311.out) (KeepBut.of_below hb g none) (.inl rfl));have n4_:=aM (below_step (z31_ HB.out HI0.out GE311.out) hb);have n5_:=aM (hbox);have n6_:=aM ((z39_ HK.out GW311.out:w.heap.size≤gb324));have n7_:=aM ((Nat.le_trans HW0.out (z39_ HK.out GW311.out:w.heap.size≤gb324):w0.heap.size≤gb324));have n8_:=aM (neL_ BK311.out hg);have n9_:=aM (neG_ BK311.out hg);have n10_:=aM ((z54_ HI0.out NB0_311.out:g≠gb324));have n11_:=aM ((z55_ HI0.out NB0_311.out:gb324≠g));clear HO323;clear HI0;clear BK311;clear HK;clear HB;have HO323:=n0_;have HI0:=n1_;have BK311:=n2_;have HK:=n3_;have HB:=n4_;have BK324:=n5_;have GW324:=n6_;have GE324:=n7_;have NB311_324:=n8_;have NB324_311:=n9_;have NB0_324:=n10_;have NB324_0:=n11_;clear n0_ n1_ n2_ n3_ n4_ n5_ n6_ n7_ n8_ n9_ n10_ n11_;clear hb hbox hg;have hnb51:=NB324_311.out;have hnc51:=NB311_324.out;have hnb52:=NB324_0.out;have hnc52:=NB0_324.out;have ⟨hcz53_0,hcz53_1,hfz53_0,hfz53_1⟩:=cz2_ BK324.out;obtain ⟨Ao54,co54,eo54⟩:=Kd.R_slice HO323.out;subst eo54) | ((with_reducible refine gc_ 48 ?_);refine gl_ (some 12) Tryd.func48 #[.pointer (some ⟨g,0,none⟩),.int .i64 15] ?_;(with_reducible refine (Y49.calls g s0_0 t317 t318 t319 15 false t326 t327 t328 w0 _ ?s1 ?s2 A5.out).mono ?_);(case s1=>repeat (first | (with_reducible first | exact HI0.out | apply IsS108.alloc | apply IsS108.drewN | apply IsS108.drew | apply IsS108.set_1 | apply IsS108.set_2 | apply IsS108.set_3 | refine IsS108.far ?_ (by exact NB0_311.out) _ | refine IsS108.far ?_ (by exact NB0_324.out) _) | exact HI0.out));(case s2=>repeat (first | (with_reducible first | exact HB.out | apply below_alloc | apply pw_below_drewN | apply below_drew1 | refine below_set ?_ (IsS108.ge HI0.out) | refine below_set ?_ GE311.out | refine below_set ?_ GE324.out) | exact HB.out));rintro e w55 ⟨rfl,hi,hb,hk⟩;refine ⟨_,rfl,?_⟩;have n0_:=aM (KeepBut.blk hk (g':=gb311) (o:=.cells #[.int .i64 0,.slice none 0 0] 24 (0,0)) (z19_ NB311_324.out BK311.out) NB311_0.out (by simp));have n1_:=aM (Kd.R_mono (Kd.R_keep (IsS108.apart (show IsS108 w0 _ g s0_0 t317 t318 t319 from by repeat (first | (with_reducible first | exact HI0.out | apply IsS108.alloc | apply IsS108.drewN | apply IsS108.drew | apply IsS108.set_1 | apply IsS108.set_2 | apply IsS108.set_3 | refine IsS108.far ?_ (by exact NB0_311.out) _ | refine IsS108.far ?_ (by exact NB0_324.out) _) | exact HI0.out)) (z23_ HO323.out BK324.out) (by decide)) hk (fun _ h=>h.2)) (fun _ h=>h.1));have n2_:=aM (KeepBut.blk hk (g':=gb324) (o:=.cells #[.int .i64 t320,.slice Ao54 t321.length co54] 24 (0,0)) (z20_ BK324.out) NB324_0.out (by simp));have n3_:=aM (KeepBut.trans (z24_ HK.out GW311.out GW324.out) hk (.inl rfl));have n4_:=aM (hb);have n5_:=aM (hi);clear BK311;clear HO323;clear BK324;clear HK;clear HB;clear HI0;have BK311:=n0_;have HO323:=n1_;have BK324:=n2_;have HK:=n3_;have HB:=n4_;have HI0:=n5_;clear n0_ n1_ n2_ n3_ n4_ n5_;(try clear hb);(try clear hk);(try clear hi);have ⟨hcz56_0,hcz56_1,hfz56_0,hfz56_1⟩:=cz2_ BK324.out;have hnb57:=NB311_0.out;have hnc57:=NB0_311.out;have ⟨hcz58_0,hcz58_1,hfz58_0,hfz58_1⟩:=cz2_ BK311.out))
  refine bodyPost_ret (results_cell_row rfl _ _ gb311 24 #[.int .i64 t320,.slice Ao54 t321.length co54] (0,0) _ rfl (z20_ BK311.out) Tryd.underlying24 rfl (by kernel_rfl)) rfl ?_
  exact ⟨_,z9_,z36_ HO323.out BK311.out,z47_ HI0.out NB0_311.out NB0_324.out,z45_ HB.out HI0.out GE311.out GE324.out,z24_ HK.out GW311.out GW324.out⟩


/-! ### Y59: function 13 -/
def Y59.f (k:Nat) (l0:List Int):Option (Int × (List (S77))):=(Y22.f k l0).bind fun bt343=>((Y34.f k bt343.1 bt343.2.1 bt343.2.2.1 bt343.2.2.2).bind fun bt348=>(some (bt348.1,bt348.2.1)))
theorem Y59.mono:∀ a0 k,LeO (Y59.f k a0) (Y59.f (k+1) a0):=by
 intro a0 k
 have m0:=@Y22.mono
 have m1:=@Y34.mono
 unfold Y59.f
 exact mO
theorem Y59.calls (k:Nat) (A0:Option Addr) (c0:Nat) (l0:List Int) (r1:Int) (r2:List (S77)) (w:World) (hr0:Kd.C (Kd.int .u8) w A0 l0.length l0) (hc0:l0.length≤c0) (h:Y59.f k l0=some (r1,r2)) :
  Calls Tryd.prog 13 #[.slice A0 l0.length c0] w fun e w'=>∃ v1_:Value,e = .returned (.agg #[.int .i64 r1,v1_])∧Kd.R k77 77 w' w.heap.size (fun _=>True) v1_ r2∧Below w.heap.size w w':=by
 have hu24:=Tryd.underlying24
 have HR0:=aM hr0
 have HC0:=aM hc0
 clear hr0 hc0
 have HB:=aM (Below.refl w.heap.size w)
 have H:((Y22.f k l0).bind fun bt343=>((Y34.f k bt343.1 bt343.2.1 bt343.2.2.1 bt343.2.2.2).bind fun bt348=>(some (bt348.1,bt348.2.1))))=some (r1,r2):=h
 clear h
 replace H:=bS H
 obtain ⟨⟨t343,t344,t345,t346⟩,A20,H⟩:=H
 replace H:((Y34.f k t343 t344 t345 t346).bind fun bt348=>(some (bt348.1,bt348.2.1)))=some (r1,r2):=H
 have A2:=aM A20
 clear A20
 replace H:=bS H
 obtain ⟨⟨t348,t349,t352,t353,t354⟩,A30,H⟩:=H
 replace H:(some (t348,t349))=some (r1,r2):=H
 have A3:=aM A30
 clear A30
 simp only [Option.some.injEq,Prod.mk.injEq] at H
 obtain ⟨rfl,rfl⟩:=H
 go_enter Tryd.func13,Tryd.ntmps13
 go_wp2_with (first | ((with_reducible refine gd_ 2 ?_);refine be_ 2 #[.int .i64 0,.slice none 0 0] 24 ?_;intro gb342 hg w4 hbox hb;have n0_:=aM (below_step (z5_ HB.out) hb);have n1_:=aM (hbox);have n2_:=aM ((z8_ HB.out:w.heap.size≤gb342));have n3_:=aM ((z8_ HB.out:w.heap.size≤gb342));clear HB;have HB:=n0_;have BK342:=n1_;have GW342:=n2_;have GE342:=n3_;clear n0_ n1_ n2_ n3_;clear hb hbox hg) | ((with_reducible refine gc_ 45 ?_);refine gl_ (some 4) Tryd.func45 #[.slice A0 l0.length c0] ?_;(with_reducible refine (Y22.calls k _ _ l0 t343 t344 t345 t346 w _ ?s1 ?s2 ?s3 A2.out).mono ?_);(case s1=>repeat (first | (with_reducible first | exact HB.out | apply below_alloc | apply pw_below_drewN | apply below_drew1 | refine below_set ?_ GE342.out) | exact HB.out));(case s2=>exact HR0.out);(case s3=>exact HC0.out);rintro e w5 ⟨g347,rfl,hi,hb,hb2⟩;refine ⟨_,rfl,?_⟩;have n0_:=aM (blk_below (g:=gb342) (o:=.cells #[.int .i64 0,.slice none 0 0] 24 (0,0)) (z3_ BK342.out) hb2);have n1_:=aM (hb);have n2_:=aM (hi);have n3_:=aM (IsS108.ne_blk hi (blk_below (g:=gb342) (o:=.cells #[.int .i64 0,.slice none 0 0] 24 (0,0)) (z3_ BK342.out) hb2) (by decide));have n4_:=aM (Ne.symm (IsS108.ne_blk hi (blk_below (g:=gb342) (o:=.cells #[.int .i64 0,.slice none 0 0] 24 (0,0)) (z3_ BK342.out) hb2) (by decide)));clear BK342;clear HB;have BK342:=n0_;have HB:=n1_;have HI347:=n2_;have NB347_342:=n3_;have NB342_347:=n4_;clear n0_ n1_ n2_ n3_ n4_;(try clear hb);(try clear hb2);(try clear hi)) | ((with_reducible refine gc_ 46 ?_);refine gl_ (some 5) Tryd.func46 #[.pointer (some ⟨g347,0,none⟩)] ?_;(with_reducible refine (Y34.calls k g347 t343 t344 t345 t346 t348 t349 t352 t353 t354 w _ ?s1 ?s2 A3.out).mono ?_);(case s1=>repeat (first | (with_reducible first | exact HI347.out | apply IsS108.alloc | apply IsS108.drewN | apply IsS108.drew | apply IsS108.set_1 | apply IsS108.set_2 | apply IsS108.set_3 | refine IsS108.far ?_ (by exact NB347_342.out) _) | exact HI347.out));(case s2=>repeat (first | (with_reducible first | exact HB.out | apply below_alloc | apply pw_below_drewN | apply below_drew1 | refine below_set ?_ (IsS108.ge HI347.out) | refine below_set ?_ GE342.out) | exact HB.out));rintro e w6 ⟨v350,rfl,ho0,hi,hb,hk⟩;refine ⟨_,rfl,?_⟩;have n0_:=aM (KeepBut.blk hk (g':=gb342) (o:=.cells #[.int .i64 0,.slice none 0 0] 24 (0,0)) (z3_ BK342.out) NB342_347.out (by simp));have n1_:=aM (Kd.R_lower ho0 (below_size (z31_ HB.out HI347.out GE342.out)));have n2_:=aM (hb);have n3_:=aM (hi);clear BK342;clear HB;clear HI347;have BK342:=n0_;have HO351:=n1_;have HB:=n2_;have HI347:=n3_;clear n0_ n1_ n2_ n3_;(try clear hb);(try clear hk);(try clear hi);(try clear ho0);have hnb7:=NB342_347.out;have hnc7:=NB347_342.out;have ⟨hcz8_0,hcz8_1,hfz8_0,hfz8_1⟩:=cz2_ BK342.out;obtain ⟨Ao9,co9,eo9⟩:=Kd.R_slice HO351.out;subst eo9))
 refine bodyPost_ret (results_cell_row rfl _ _ gb342 24 #[.int .i64 t348,.slice Ao9 t349.length co9] (0,0) _ rfl (z20_ BK342.out) Tryd.underlying24 rfl (by kernel_rfl)) rfl ?_
 exact ⟨_,z9_,z36_ HO351.out BK342.out,z31_ HB.out HI347.out GE342.out⟩


/-! ### Y48: function 75 -/
def Y48.l0:Nat→ByteArray→Int→Int→Int→Option (Int)
 | 0,_,_,_,_=>none
 | k+1,x0,x3,x6,x7=>if x7<x6 then (if 0≤x7 then (if x7<(x0.size:Int) then (Y48.l0 k x0 (((Go.bits .xor .u32 x3 ((bt x0 x7) % 4294967296))*16777619) % 4294967296) x6 (wrap64 (x7+1))) else (none)) else (none)) else (some (wrap64 (x3)))
def Y48.f (k:Nat) (a0:ByteArray):Option (Int):=Y48.l0 k a0 2166136261 (a0.size:Int) 0
theorem Y48.mono_l:∀ k,(∀ y0 y1 y2 y3,LeO (Y48.l0 k y0 y1 y2 y3) (Y48.l0 (k+1) y0 y1 y2 y3))
 | 0=>by intros <;> exact LeO.none _
 | k+1=>by
  have ih0:=Y48.mono_l k
  ·intros
   unfold Y48.l0
   exact mO
theorem Y48.mono:∀ a0 k,LeO (Y48.f k a0) (Y48.f (k+1) a0):=by
 intro a0 k
 have ih0:=Y48.mono_l k
 unfold Y48.f
 exact mO
theorem Y48.calls (k:Nat) (a0:ByteArray) (r:Int) (w:World) (h:Y48.f k a0=some r) :
  Calls Tryd.prog 75 #[.string a0] w fun e w'=>e = .returned (.int .i64 r)∧Drawn0 w w':=by
 have H:(Y48.l0 k a0 2166136261 (a0.size:Int) 0)=some r:=h
 clear h
 have H':=aM H
 clear H
 go_enter Tryd.func75,Tryd.ntmps75
 go_wp2
 go_loopg [3,7] k (fun kq v3 v7 w'=>∃ (x3_1:Int) (x7_1:Int),v3 = .int .u32 x3_1∧v7 = .int .i64 x7_1∧Aside0 (Y48.l0 kq a0 x3_1 (a0.size:Int) x7_1=some r)∧Aside0 (kq≤k)∧Drawn0 w w')
 case atStart=>exact ⟨(2166136261),(0),(z2_),(z2_),H',⟨Nat.le_refl _⟩,z6_⟩
 case round =>
  clear H'
  obtain ⟨x3_1,x7_1,rfl,rfl,HA,HK1,⟨m1,rfl⟩⟩:=hrel
  cases gk with
  | zero=>exact absurd HA.out (by simp [Y48.l0])
  | succ k1 =>
   have H:=HA.out
   clear HA
   simp only [Y48.l0] at H
   by_cases c2:x7_1<(a0.size:Int)
   ·rw [if_pos c2] at H
    have c2b0:decide (x7_1<(a0.size:Int))=true:=dE c2
    clear c2
    by_cases c3:0≤x7_1
    ·rw [if_pos c3] at H
     have c3b0:decide (0≤x7_1)=true:=dE c3
     clear c3
     by_cases c4:x7_1<(a0.size:Int)
     ·rw [if_pos c4] at H
      have c4b0:decide (x7_1<(a0.size:Int))=true:=dE c4
      clear c4
      have H':=aM H
      clear H
      have p5:0≤(x7_1:Int):=dT (z0_)
      have q5:x7_1<(a0.size:Int):=dT (z0_)
      have hx5:=bt_at a0 x7_1
      replace p5:=eq_true p5
      replace q5:=eq_true q5
      go_wp2
      go_roundg k1
      case measure=>have:=HK1.out;omega
      case rel=>exact ⟨(((Go.bits .xor .u32 x3_1 ((bt a0 x7_1) % 4294967296))*16777619) % 4294967296),(wrap64 (x7_1+1)),(z2_),(z2_),H',⟨by have:=HK1.out;omega⟩,z6_⟩
     ·rw [if_neg c4] at H
      exact nO H
    ·rw [if_neg c3] at H
     exact nO H
   ·rw [if_neg c2] at H
    have c2b0:decide (x7_1<(a0.size:Int))=false:=dF c2
    clear c2
    obtain rfl:=sI H
    go_wp2
    go_ret
    exact ⟨z2_,z6_⟩


/-! ### Y85: function 134 -/
def Y85.f (a0:Int):Option (ByteArray):=if a0<10 then (if 0≤a0 then (if a0≤(wrap64 (a0+1)) then (if (wrap64 (a0+1))≤36 then (some ((⟨#[48,49,50,51,52,53,54,55,56,57,97,98,99,100,101,102,103,104,105,106,107,108,109,110,111,112,113,114,115,116,117,118,119,120,121,122]⟩:ByteArray).extract (a0:Int).toNat ((wrap64 (a0+1)):Int).toNat)) else (none)) else (none)) else (none)) else (if 0≤(wrap64 (a0*2)) then (if (wrap64 (a0*2))≤(wrap64 ((wrap64 (a0*2))+2)) then (if (wrap64 ((wrap64 (a0*2))+2))≤200 then (some ((⟨#[48,48,48,49,48,50,48,51,48,52,48,53,48,54,48,55,48,56,48,57,49,48,49,49,49,50,49,51,49,52,49,53,49,54,49,55,49,56,49,57,50,48,50,49,50,50,50,51,50,52,50,53,50,54,50,55,50,56,50,57,51,48,51,49,51,50,51,51,51,52,51,53,51,54,51,55,51,56,51,57,52,48,52,49,52,50,52,51,52,52,52,53,52,54,52,55,52,56,52,57,53,48,53,49,53,50,53,51,53,52,53,53,53,54,53,55,53,56,53,57,54,48,54,49,54,50,54,51,54,52,54,53,54,54,54,55,54,56,54,57,55,48,55,49,55,50,55,51,55,52,55,53,55,54,55,55,55,56,55,57,56,48,56,49,56,50,56,51,56,52,56,53,56,54,56,55,56,56,56,57,57,48,57,49,57,50,57,51,57,52,57,53,57,54,57,55,57,56,57,57]⟩:ByteArray).extract ((wrap64 (a0*2)):Int).toNat ((wrap64 ((wrap64 (a0*2))+2)):Int).toNat)) else (none)) else (none)) else (none))
theorem Y85.calls (a0:Int) (r:ByteArray) (w:World) (h:Y85.f a0=some r) :
  Calls Tryd.prog 134 #[.int .i64 a0] w fun e w'=>e = .returned (.string r)∧Drawn0 w w':=by
 have H:(if a0<10 then (if 0≤a0 then (if a0≤(wrap64 (a0+1)) then (if (wrap64 (a0+1))≤36 then (some ((⟨#[48,49,50,51,52,53,54,55,56,57,97,98,99,100,101,102,103,104,105,106,107,108,109,110,111,112,113,114,115,116,117,118,119,120,121,122]⟩:ByteArray).extract (a0:Int).toNat ((wrap64 (a0+1)):Int).toNat)) else (none)) else (none)) else (none)) else (if 0≤(wrap64 (a0*2)) then (if (wrap64 (a0*2))≤(wrap64 ((wrap64 (a0*2))+2)) then (if (wrap64 ((wrap64 (a0*2))+2))≤200 then (some ((⟨#[48,48,48,49,48,50,48,51,48,52,48,53,48,54,48,55,48,56,48,57,49,48,49,49,49,50,49,51,49,52,49,53,49,54,49,55,49,56,49,57,50,48,50,49,50,50,50,51,50,52,50,53,50,54,50,55,50,56,50,57,51,48,51,49,51,50,51,51,51,52,51,53,51,54,51,55,51,56,51,57,52,48,52,49,52,50,52,51,52,52,52,53,52,54,52,55,52,56,52,57,53,48,53,49,53,50,53,51,53,52,53,53,53,54,53,55,53,56,53,57,54,48,54,49,54,50,54,51,54,52,54,53,54,54,54,55,54,56,54,57,55,48,55,49,55,50,55,51,55,52,55,53,55,54,55,55,55,56,55,57,56,48,56,49,56,50,56,51,56,52,56,53,56,54,56,55,56,56,56,57,57,48,57,49,57,50,57,51,57,52,57,53,57,54,57,55,57,56,57,57]⟩:ByteArray).extract ((wrap64 (a0*2)):Int).toNat ((wrap64 ((wrap64 (a0*2))+2)):Int).toNat)) else (none)) else (none)) else (none)))=some r:=h
 clear h
 by_cases c2:a0<10
 ·rw [if_pos c2] at H
  have c2b0:decide (a0<10)=true:=dE c2
  clear c2
  by_cases c3:0≤a0
  ·rw [if_pos c3] at H
   have c3b0:=eq_true c3
   have c3b1:decide (0≤a0)=true:=dE c3
   clear c3
   by_cases c4:a0≤(wrap64 (a0+1))
   ·rw [if_pos c4] at H
    have c4b0:=eq_true c4
    have c4b1:decide (a0≤(wrap64 (a0+1)))=true:=dE c4
    by_cases c5:(wrap64 (a0+1))≤36
    ·rw [if_pos c5] at H
     have c5b0:=eq_true c5
     have c5b1:decide ((wrap64 (a0+1))≤36)=true:=dE c5
     obtain rfl:=sI H
     go_enter Tryd.func134,Tryd.ntmps134
     go_wp2
     go_ret
     exact ⟨z2_,z6_⟩
    ·rw [if_neg c5] at H
     exact nO H
   ·rw [if_neg c4] at H
    exact nO H
  ·rw [if_neg c3] at H
   exact nO H
 ·rw [if_neg c2] at H
  have c2b0:decide (a0<10)=false:=dF c2
  clear c2
  obtain ⟨ji6,hji6⟩:∃ j_:Int,(wrap64 (a0*2))=j_:=⟨_,rfl⟩
  replace H:(if 0≤(ji6) then (if (ji6)≤(wrap64 ((ji6)+2)) then (if (wrap64 ((ji6)+2))≤200 then (some ((⟨#[48,48,48,49,48,50,48,51,48,52,48,53,48,54,48,55,48,56,48,57,49,48,49,49,49,50,49,51,49,52,49,53,49,54,49,55,49,56,49,57,50,48,50,49,50,50,50,51,50,52,50,53,50,54,50,55,50,56,50,57,51,48,51,49,51,50,51,51,51,52,51,53,51,54,51,55,51,56,51,57,52,48,52,49,52,50,52,51,52,52,52,53,52,54,52,55,52,56,52,57,53,48,53,49,53,50,53,51,53,52,53,53,53,54,53,55,53,56,53,57,54,48,54,49,54,50,54,51,54,52,54,53,54,54,54,55,54,56,54,57,55,48,55,49,55,50,55,51,55,52,55,53,55,54,55,55,55,56,55,57,56,48,56,49,56,50,56,51,56,52,56,53,56,54,56,55,56,56,56,57,57,48,57,49,57,50,57,51,57,52,57,53,57,54,57,55,57,56,57,57]⟩:ByteArray).extract ((ji6):Int).toNat ((wrap64 ((ji6)+2)):Int).toNat)) else (none)) else (none)) else (none))=some r:=by first | (rw [hji6] at H;exact H) | (simp only [hji6] at H ⊢;exact H)
  have hji6w:(IntKind.i64.wrap (a0*2))=ji6:=(i64_w _).trans hji6
  by_cases c7:0≤(ji6)
  ·rw [if_pos c7] at H
   have c7b0:=eq_true c7
   have c7b1:decide (0≤(ji6))=true:=dE c7
   clear c7
   by_cases c8:(ji6)≤(wrap64 ((ji6)+2))
   ·rw [if_pos c8] at H
    have c8b0:=eq_true c8
    have c8b1:decide ((ji6)≤(wrap64 ((ji6)+2)))=true:=dE c8
    by_cases c9:(wrap64 ((ji6)+2))≤200
    ·rw [if_pos c9] at H
     have c9b0:=eq_true c9
     have c9b1:decide ((wrap64 ((ji6)+2))≤200)=true:=dE c9
     obtain rfl:=sI H
     go_enter Tryd.func134,Tryd.ntmps134
     go_wp2
     go_ret
     exact ⟨by first | rfl | (simp;done) | (simp only [← hji6] <;> (first | rfl | simp)) | (simp [*];done),z6_⟩
    ·rw [if_neg c9] at H
     exact nO H
   ·rw [if_neg c8] at H
    exact nO H
  ·rw [if_neg c7] at H
   exact nO H


/-! ### Y31: function 121 -/
def Y31.j0:Nat→Int→Bool→Option (ByteArray)
 | 0,_,_=>none
 | k+1,x0,x17=>if x17=true then ((Y85.f x0).bind fun t145=>(some t145)) else (none)
def Y31.f (k:Nat) (a0:Int) (a1:Int):Option (ByteArray):=if a1=10 then (if 0≤a0 then (Y31.j0 k a0 (decide (a0<100))) else (Y31.j0 k a0 false)) else (none)
theorem Y31.mono_l:∀ k,(∀ y0 y1,LeO (Y31.j0 k y0 y1) (Y31.j0 (k+1) y0 y1))
 | 0=>by intros <;> exact LeO.none _
 | k+1=>by
  have ih0:=Y31.mono_l k
  ·intros
   unfold Y31.j0
   exact mO
theorem Y31.mono:∀ a0 a1 k,LeO (Y31.f k a0 a1) (Y31.f (k+1) a0 a1):=by
 intro a0 a1 k
 have ih0:=Y31.mono_l k
 unfold Y31.f
 exact mO
theorem Y31.calls (k:Nat) (a0:Int) (a1:Int) (r:ByteArray) (w:World) (h:Y31.f k a0 a1=some r) :
  Calls Tryd.prog 121 #[.int .i64 a0,.int .i64 a1] w fun e w'=>e = .returned (.string r)∧Drawn0 w w':=by
 have H:(if a1=10 then (if 0≤a0 then (Y31.j0 k a0 (decide (a0<100))) else (Y31.j0 k a0 false)) else (none))=some r:=h
 clear h
 by_cases c3:a1=10
 ·rw [if_pos c3] at H
  have c3b0:(a1 == 10)=true:=beq_iff_eq.mpr c3
  have c3b1:(a1 != 10)=false:=bne_eq_false_iff_eq.mpr c3
  clear c3
  have HC4:=aM H
  clear H
  go_enter Tryd.func121,Tryd.ntmps121
  go_upto_region 2 with (fail)
  go_cut [17] (fun v17 wc=>∃ (kq:Nat) (x17_3:Bool),v17 = .bool x17_3∧Aside0 (Y31.j0 kq a0 x17_3=some r)∧Aside0 (kq≤k)∧Drawn0 w wc)
  case first =>
   have H:=HC4.out
   clear HC4
   by_cases c5:0≤a0
   ·rw [if_pos c5] at H
    have c5b0:decide (0≤a0)=true:=dE c5
    clear c5
    (first | rw [c5b0] | (simp only [i64_w,i32_w];rw [c5b0]) | skip)
    have H':=aM H
    clear H
    go_wp2
    go_meet
    case rel=>exact ⟨_,(decide (a0<100)),(z2_),H',⟨by first | omega | exact Nat.le_refl _⟩,z6_⟩
   ·rw [if_neg c5] at H
    have c5b0:decide (0≤a0)=false:=dF c5
    clear c5
    (first | rw [c5b0] | (simp only [i64_w,i32_w];rw [c5b0]) | skip)
    have H':=aM H
    clear H
    go_wp2
    go_meet
    case rel=>exact ⟨_,(false),(z2_),H',⟨by first | omega | exact Nat.le_refl _⟩,z6_⟩
  case rest =>
   clear HC4
   try clear c1
   try clear p2
   try clear c3
   try clear c3b0
   try clear c3b1
   try clear c5
   try clear c5b0
   obtain ⟨kq,x17_3,rfl,HA,HJ3,⟨mc3,rfl⟩⟩:=hcut
   cases kq with
   | zero=>exact absurd HA.out (by simp [Y31.j0])
   | succ kj3 =>
    have H:=HA.out
    clear HA
    simp only [Y31.j0] at H
    by_cases c6:x17_3=true
    ·subst c6
     have H1:((Y85.f a0).bind fun t145=>(some t145))=some r:=by rw [if_pos rfl] at H;exact H
     clear H
     have H:=H1
     clear H1
     replace H:=bS H
     obtain ⟨t145,A70,H⟩:=H
     replace H:(some t145)=some r:=H
     have A7:=aM A70
     clear A70
     obtain rfl:=sI H
     go_wp2_with (first | ((with_reducible refine gc_ 134 ?_);refine gl_ (some 19) Tryd.func134 #[.int .i64 a0] ?_;(with_reducible refine (Y85.calls a0 t145 _ A7.out).mono ?_);rintro e w' ⟨rfl,⟨nd,rfl⟩⟩;refine ⟨_,rfl,?_⟩))
     go_ret
     exact ⟨z2_,z6_⟩
    ·replace c6:=Bool.eq_false_iff.mpr c6
     subst c6
     have H1:(none)=some r:=by rw [if_neg (show ¬ (false=true) by decide)] at H;exact H
     clear H
     have H:=H1
     clear H1
     exact nO H
 ·rw [if_neg c3] at H
  exact nO H


/-! ### Y56: function 106 -/
def Y56.f (k:Nat) (a0:Int) (a1:Int):Option (ByteArray):=(Y31.f k a0 a1).bind fun t146=>(some t146)
theorem Y56.mono:∀ a0 a1 k,LeO (Y56.f k a0 a1) (Y56.f (k+1) a0 a1):=by
 intro a0 a1 k
 have m0:=@Y31.mono
 unfold Y56.f
 exact mO
theorem Y56.calls (k:Nat) (a0:Int) (a1:Int) (r:ByteArray) (w:World) (h:Y56.f k a0 a1=some r) :
  Calls Tryd.prog 106 #[.int .i64 a0,.int .i64 a1] w fun e w'=>e = .returned (.string r)∧Drawn0 w w':=by
 have H:((Y31.f k a0 a1).bind fun t146=>(some t146))=some r:=h
 clear h
 replace H:=bS H
 obtain ⟨t146,A30,H⟩:=H
 replace H:(some t146)=some r:=H
 have A3:=aM A30
 clear A30
 obtain rfl:=sI H
 go_enter Tryd.func106,Tryd.ntmps106
 go_wp2_with (first | ((with_reducible refine gc_ 121 ?_);refine gl_ (some 7) Tryd.func121 #[.int .i64 a0,.int .i64 a1] ?_;(with_reducible refine (Y31.calls k a0 a1 t146 _ A3.out).mono ?_);rintro e w' ⟨rfl,⟨nd,rfl⟩⟩;refine ⟨_,rfl,?_⟩))
 go_ret
 exact ⟨z2_,z6_⟩


/-! ### Y71: function 76 -/
def Y71.f (k:Nat) (a0:Int):Option (ByteArray):=(Y56.f k a0 10).bind fun t147=>(some t147)
theorem Y71.mono:∀ a0 k,LeO (Y71.f k a0) (Y71.f (k+1) a0):=by
 intro a0 k
 have m0:=@Y56.mono
 unfold Y71.f
 exact mO
theorem Y71.calls (k:Nat) (a0:Int) (r:ByteArray) (w:World) (h:Y71.f k a0=some r) :
  Calls Tryd.prog 76 #[.int .i64 a0] w fun e w'=>e = .returned (.string r)∧Drawn0 w w':=by
 have H:((Y56.f k a0 10).bind fun t147=>(some t147))=some r:=h
 clear h
 replace H:=bS H
 obtain ⟨t147,A20,H⟩:=H
 replace H:(some t147)=some r:=H
 have A2:=aM A20
 clear A20
 obtain rfl:=sI H
 go_enter Tryd.func76,Tryd.ntmps76
 go_wp2_with (first | ((with_reducible refine gc_ 106 ?_);refine gl_ (some 4) Tryd.func106 #[.int .i64 a0,.int .i64 10] ?_;(with_reducible refine (Y56.calls k a0 10 t147 _ A2.out).mono ?_);rintro e w' ⟨rfl,⟨nd,rfl⟩⟩;refine ⟨_,rfl,?_⟩))
 go_ret
 exact ⟨z2_,z6_⟩


/-! ### Y45: function 131 -/
mutual
def Y45.j0:Nat→Int→Int→Option (Int)
 | 0,_,_=>none
 | k+1,x0,x2=>if x0≥65536 then (Y45.j1 k (x0 / 65536) (wrap64 (x2+16))) else (Y45.j1 k x0 x2)
def Y45.j1:Nat→Int→Int→Option (Int)
 | 0,_,_=>none
 | k+1,x0,x2=>if x0≥256 then (if 0≤((x0 / 256) % 256) then (if ((x0 / 256) % 256)<256 then (some (wrap64 ((wrap64 (x2+8))+(wrap64 (bt (⟨#[0,1,2,2,3,3,3,3,4,4,4,4,4,4,4,4,5,5,5,5,5,5,5,5,5,5,5,5,5,5,5,5,6,6,6,6,6,6,6,6,6,6,6,6,6,6,6,6,6,6,6,6,6,6,6,6,6,6,6,6,6,6,6,6,7,7,7,7,7,7,7,7,7,7,7,7,7,7,7,7,7,7,7,7,7,7,7,7,7,7,7,7,7,7,7,7,7,7,7,7,7,7,7,7,7,7,7,7,7,7,7,7,7,7,7,7,7,7,7,7,7,7,7,7,7,7,7,7,8,8,8,8,8,8,8,8,8,8,8,8,8,8,8,8,8,8,8,8,8,8,8,8,8,8,8,8,8,8,8,8,8,8,8,8,8,8,8,8,8,8,8,8,8,8,8,8,8,8,8,8,8,8,8,8,8,8,8,8,8,8,8,8,8,8,8,8,8,8,8,8,8,8,8,8,8,8,8,8,8,8,8,8,8,8,8,8,8,8,8,8,8,8,8,8,8,8,8,8,8,8,8,8,8,8,8,8,8,8,8,8,8,8,8,8,8,8,8,8,8,8,8,8,8,8,8,8]⟩:ByteArray) ((x0 / 256) % 256)))))) else (none)) else (none)) else (if 0≤((x0) % 256) then (if ((x0) % 256)<256 then (some (wrap64 (x2+(wrap64 (bt (⟨#[0,1,2,2,3,3,3,3,4,4,4,4,4,4,4,4,5,5,5,5,5,5,5,5,5,5,5,5,5,5,5,5,6,6,6,6,6,6,6,6,6,6,6,6,6,6,6,6,6,6,6,6,6,6,6,6,6,6,6,6,6,6,6,6,7,7,7,7,7,7,7,7,7,7,7,7,7,7,7,7,7,7,7,7,7,7,7,7,7,7,7,7,7,7,7,7,7,7,7,7,7,7,7,7,7,7,7,7,7,7,7,7,7,7,7,7,7,7,7,7,7,7,7,7,7,7,7,7,8,8,8,8,8,8,8,8,8,8,8,8,8,8,8,8,8,8,8,8,8,8,8,8,8,8,8,8,8,8,8,8,8,8,8,8,8,8,8,8,8,8,8,8,8,8,8,8,8,8,8,8,8,8,8,8,8,8,8,8,8,8,8,8,8,8,8,8,8,8,8,8,8,8,8,8,8,8,8,8,8,8,8,8,8,8,8,8,8,8,8,8,8,8,8,8,8,8,8,8,8,8,8,8,8,8,8,8,8,8,8,8,8,8,8,8,8,8,8,8,8,8,8,8,8,8,8,8]⟩:ByteArray) ((x0) % 256)))))) else (none)) else (none))
end
def Y45.f (k:Nat) (a0:Int):Option (Int):=if a0≥4294967296 then (Y45.j0 k (a0 / 4294967296) 32) else (Y45.j0 k a0 0)
theorem Y45.mono_l:∀ k,(∀ y0 y1,LeO (Y45.j0 k y0 y1) (Y45.j0 (k+1) y0 y1))∧(∀ y0 y1,LeO (Y45.j1 k y0 y1) (Y45.j1 (k+1) y0 y1))
 | 0=>by refine ⟨?_,?_⟩ <;> intros <;> exact LeO.none _
 | k+1=>by
  obtain ⟨ih0,ih1⟩:=Y45.mono_l k
  refine ⟨?_,?_⟩
  ·intros
   unfold Y45.j0
   exact mO
  ·intros
   unfold Y45.j1
   exact mO
theorem Y45.mono:∀ a0 k,LeO (Y45.f k a0) (Y45.f (k+1) a0):=by
 intro a0 k
 obtain ⟨ih0,ih1⟩:=Y45.mono_l k
 unfold Y45.f
 exact mO
theorem Y45.calls (k:Nat) (a0:Int) (r:Int) (w:World) (h:Y45.f k a0=some r) :
  Calls Tryd.prog 131 #[.int .u64 a0] w fun e w'=>e = .returned (.int .i64 r)∧Drawn0 w w':=by
 have H:(if a0≥4294967296 then (Y45.j0 k (a0 / 4294967296) 32) else (Y45.j0 k a0 0))=some r:=h
 clear h
 have HC2:=aM H
 clear H
 go_enter Tryd.func131,Tryd.ntmps131
 go_upto_if 4 with (fail)
 go_cut [0,2] (fun v0 v2 wc=>∃ (kq:Nat) (x0_1:Int) (x2_1:Int),v0 = .int .u64 x0_1∧v2 = .int .i64 x2_1∧Aside0 (Y45.j0 kq x0_1 x2_1=some r)∧Aside0 (kq≤k)∧Drawn0 w wc)
 case first =>
  have H:=HC2.out
  clear HC2
  by_cases c3:a0≥4294967296
  ·rw [if_pos c3] at H
   have c3b0:decide (4294967296≤a0)=true:=dE c3
   clear c3
   (first | rw [c3b0] | (simp only [i64_w,i32_w];rw [c3b0]) | skip)
   have H':=aM H
   clear H
   go_wp2
   go_meet
   case rel=>exact ⟨_,(a0 / 4294967296),(32),(z2_),(z2_),H',⟨by first | omega | exact Nat.le_refl _⟩,z6_⟩
  ·rw [if_neg c3] at H
   have c3b0:decide (4294967296≤a0)=false:=dF c3
   clear c3
   (first | rw [c3b0] | (simp only [i64_w,i32_w];rw [c3b0]) | skip)
   have H':=aM H
   clear H
   go_wp2
   go_meet
   case rel=>exact ⟨_,(a0),(0),(z2_),(z2_),H',⟨by first | omega | exact Nat.le_refl _⟩,z6_⟩
 case rest =>
  clear HC2
  try clear c1
  try clear p2
  try clear c3
  try clear c3b0
  obtain ⟨kq,x0_1,x2_1,rfl,rfl,HA,HJ1,⟨mc1,rfl⟩⟩:=hcut
  cases kq with
  | zero=>exact absurd HA.out (by simp [Y45.j0])
  | succ kj1 =>
   have H:=HA.out
   clear HA
   simp only [Y45.j0] at H
   have HC4:=aM H
   clear H
   go_upto_if 8 with (fail)
   go_cut [0,2] (fun v0 v2 wc=>∃ (kq:Nat) (x0_3:Int) (x2_3:Int),v0 = .int .u64 x0_3∧v2 = .int .i64 x2_3∧Aside0 (Y45.j1 kq x0_3 x2_3=some r)∧Aside0 (kq≤kj1)∧Drawn0 w wc)
   case first =>
    have H:=HC4.out
    clear HC4
    by_cases c5:x0_1≥65536
    ·rw [if_pos c5] at H
     have c5b0:decide (65536≤x0_1)=true:=dE c5
     clear c5
     (first | rw [c5b0] | (simp only [i64_w,i32_w];rw [c5b0]) | skip)
     have H':=aM H
     clear H
     go_wp2
     go_meet
     case rel=>exact ⟨_,(x0_1 / 65536),(wrap64 (x2_1+16)),(z2_),(z2_),H',⟨z22_ HJ1.out⟩,z6_⟩
    ·rw [if_neg c5] at H
     have c5b0:decide (65536≤x0_1)=false:=dF c5
     clear c5
     (first | rw [c5b0] | (simp only [i64_w,i32_w];rw [c5b0]) | skip)
     have H':=aM H
     clear H
     go_wp2
     go_meet
     case rel=>exact ⟨_,(x0_1),(x2_1),(z2_),(z2_),H',⟨z22_ HJ1.out⟩,z6_⟩
   case rest =>
    clear HC4
    try clear c1
    try clear p2
    try clear c3
    try clear c3b0
    try clear c5
    try clear c5b0
    try clear p2
    obtain ⟨kq,x0_3,x2_3,rfl,rfl,HA,HJ3,⟨mc3,rfl⟩⟩:=hcut
    cases kq with
    | zero=>exact absurd HA.out (by simp [Y45.j1])
    | succ kj3 =>
     have H:=HA.out
     clear HA
     simp only [Y45.j1] at H
     by_cases c6:x0_3≥256
     ·rw [if_pos c6] at H
      have c6b0:decide (256≤x0_3)=true:=dE c6
      clear c6
      obtain ⟨ji7,hji7⟩:∃ j_:Int,((x0_3 / 256) % 256)=j_:=⟨_,rfl⟩
      replace H:(if 0≤(ji7) then (if (ji7)<256 then (some (wrap64 ((wrap64 (x2_3+8))+(wrap64 (bt (⟨#[0,1,2,2,3,3,3,3,4,4,4,4,4,4,4,4,5,5,5,5,5,5,5,5,5,5,5,5,5,5,5,5,6,6,6,6,6,6,6,6,6,6,6,6,6,6,6,6,6,6,6,6,6,6,6,6,6,6,6,6,6,6,6,6,7,7,7,7,7,7,7,7,7,7,7,7,7,7,7,7,7,7,7,7,7,7,7,7,7,7,7,7,7,7,7,7,7,7,7,7,7,7,7,7,7,7,7,7,7,7,7,7,7,7,7,7,7,7,7,7,7,7,7,7,7,7,7,7,8,8,8,8,8,8,8,8,8,8,8,8,8,8,8,8,8,8,8,8,8,8,8,8,8,8,8,8,8,8,8,8,8,8,8,8,8,8,8,8,8,8,8,8,8,8,8,8,8,8,8,8,8,8,8,8,8,8,8,8,8,8,8,8,8,8,8,8,8,8,8,8,8,8,8,8,8,8,8,8,8,8,8,8,8,8,8,8,8,8,8,8,8,8,8,8,8,8,8,8,8,8,8,8,8,8,8,8,8,8,8,8,8,8,8,8,8,8,8,8,8,8,8,8,8,8,8,8]⟩:ByteArray) (ji7)))))) else (none)) else (none))=some r:=by first | (rw [hji7] at H;exact H) | (simp only [hji7] at H ⊢;exact H)
      by_cases c8:0≤(ji7)
      ·rw [if_pos c8] at H
       have c8b0:decide (0≤(ji7))=true:=dE c8
       clear c8
       by_cases c9:(ji7)<256
       ·rw [if_pos c9] at H
        have c9b0:decide ((ji7)<256)=true:=dE c9
        clear c9
        obtain rfl:=sI H
        have p10:0≤((ji7):Int):=dT (z0_)
        have q10:(ji7)<(256:Int):=dT (z0_)
        have hx10:=bt_at (⟨#[0,1,2,2,3,3,3,3,4,4,4,4,4,4,4,4,5,5,5,5,5,5,5,5,5,5,5,5,5,5,5,5,6,6,6,6,6,6,6,6,6,6,6,6,6,6,6,6,6,6,6,6,6,6,6,6,6,6,6,6,6,6,6,6,7,7,7,7,7,7,7,7,7,7,7,7,7,7,7,7,7,7,7,7,7,7,7,7,7,7,7,7,7,7,7,7,7,7,7,7,7,7,7,7,7,7,7,7,7,7,7,7,7,7,7,7,7,7,7,7,7,7,7,7,7,7,7,7,8,8,8,8,8,8,8,8,8,8,8,8,8,8,8,8,8,8,8,8,8,8,8,8,8,8,8,8,8,8,8,8,8,8,8,8,8,8,8,8,8,8,8,8,8,8,8,8,8,8,8,8,8,8,8,8,8,8,8,8,8,8,8,8,8,8,8,8,8,8,8,8,8,8,8,8,8,8,8,8,8,8,8,8,8,8,8,8,8,8,8,8,8,8,8,8,8,8,8,8,8,8,8,8,8,8,8,8,8,8,8,8,8,8,8,8,8,8,8,8,8,8,8,8,8,8,8,8]⟩:ByteArray) (ji7)
        replace p10:=eq_true p10
        replace q10:=eq_true q10
        go_wp2
        go_ret
        exact ⟨by first | rfl | (simp;done) | (simp only [← hji7] <;> (first | rfl | simp)) | (simp [*];done),z6_⟩
       ·rw [if_neg c9] at H
        exact nO H
      ·rw [if_neg c8] at H
       exact nO H
     ·rw [if_neg c6] at H
      have c6b0:decide (256≤x0_3)=false:=dF c6
      clear c6
      obtain ⟨ji11,hji11⟩:∃ j_:Int,((x0_3) % 256)=j_:=⟨_,rfl⟩
      replace H:(if 0≤(ji11) then (if (ji11)<256 then (some (wrap64 (x2_3+(wrap64 (bt (⟨#[0,1,2,2,3,3,3,3,4,4,4,4,4,4,4,4,5,5,5,5,5,5,5,5,5,5,5,5,5,5,5,5,6,6,6,6,6,6,6,6,6,6,6,6,6,6,6,6,6,6,6,6,6,6,6,6,6,6,6,6,6,6,6,6,7,7,7,7,7,7,7,7,7,7,7,7,7,7,7,7,7,7,7,7,7,7,7,7,7,7,7,7,7,7,7,7,7,7,7,7,7,7,7,7,7,7,7,7,7,7,7,7,7,7,7,7,7,7,7,7,7,7,7,7,7,7,7,7,8,8,8,8,8,8,8,8,8,8,8,8,8,8,8,8,8,8,8,8,8,8,8,8,8,8,8,8,8,8,8,8,8,8,8,8,8,8,8,8,8,8,8,8,8,8,8,8,8,8,8,8,8,8,8,8,8,8,8,8,8,8,8,8,8,8,8,8,8,8,8,8,8,8,8,8,8,8,8,8,8,8,8,8,8,8,8,8,8,8,8,8,8,8,8,8,8,8,8,8,8,8,8,8,8,8,8,8,8,8,8,8,8,8,8,8,8,8,8,8,8,8,8,8,8,8,8,8]⟩:ByteArray) (ji11)))))) else (none)) else (none))=some r:=by first | (rw [hji11] at H;exact H) | (simp only [hji11] at H ⊢;exact H)
      by_cases c12:0≤(ji11)
      ·rw [if_pos c12] at H
       have c12b0:decide (0≤(ji11))=true:=dE c12
       clear c12
       by_cases c13:(ji11)<256
       ·rw [if_pos c13] at H
        have c13b0:decide ((ji11)<256)=true:=dE c13
        clear c13
        obtain rfl:=sI H
        have p14:0≤((ji11):Int):=dT (z0_)
        have q14:(ji11)<(256:Int):=dT (z0_)
        have hx14:=bt_at (⟨#[0,1,2,2,3,3,3,3,4,4,4,4,4,4,4,4,5,5,5,5,5,5,5,5,5,5,5,5,5,5,5,5,6,6,6,6,6,6,6,6,6,6,6,6,6,6,6,6,6,6,6,6,6,6,6,6,6,6,6,6,6,6,6,6,7,7,7,7,7,7,7,7,7,7,7,7,7,7,7,7,7,7,7,7,7,7,7,7,7,7,7,7,7,7,7,7,7,7,7,7,7,7,7,7,7,7,7,7,7,7,7,7,7,7,7,7,7,7,7,7,7,7,7,7,7,7,7,7,8,8,8,8,8,8,8,8,8,8,8,8,8,8,8,8,8,8,8,8,8,8,8,8,8,8,8,8,8,8,8,8,8,8,8,8,8,8,8,8,8,8,8,8,8,8,8,8,8,8,8,8,8,8,8,8,8,8,8,8,8,8,8,8,8,8,8,8,8,8,8,8,8,8,8,8,8,8,8,8,8,8,8,8,8,8,8,8,8,8,8,8,8,8,8,8,8,8,8,8,8,8,8,8,8,8,8,8,8,8,8,8,8,8,8,8,8,8,8,8,8,8,8,8,8,8,8,8]⟩:ByteArray) (ji11)
        replace p14:=eq_true p14
        replace q14:=eq_true q14
        go_wp2
        go_ret
        exact ⟨by first | rfl | (simp;done) | (simp only [← hji11] <;> (first | rfl | simp)) | (simp [*];done),z6_⟩
       ·rw [if_neg c13] at H
        exact nO H
      ·rw [if_neg c12] at H
       exact nO H


/-! ### Y82: function 108 -/
def Y82.f (k:Nat) (a0:Int):Option (Int):=(Y45.f k a0).bind fun t148=>(some t148)
theorem Y82.mono:∀ a0 k,LeO (Y82.f k a0) (Y82.f (k+1) a0):=by
 intro a0 k
 have m0:=@Y45.mono
 unfold Y82.f
 exact mO
theorem Y82.calls (k:Nat) (a0:Int) (r:Int) (w:World) (h:Y82.f k a0=some r) :
  Calls Tryd.prog 108 #[.int .u64 a0] w fun e w'=>e = .returned (.int .i64 r)∧Drawn0 w w':=by
 have H:((Y45.f k a0).bind fun t148=>(some t148))=some r:=h
 clear h
 replace H:=bS H
 obtain ⟨t148,A20,H⟩:=H
 replace H:(some t148)=some r:=H
 have A2:=aM A20
 clear A20
 obtain rfl:=sI H
 go_enter Tryd.func108,Tryd.ntmps108
 go_wp2_with (first | ((with_reducible refine gc_ 131 ?_);refine gl_ (some 7) Tryd.func131 #[.int .u64 a0] ?_;(with_reducible refine (Y45.calls k a0 t148 _ A2.out).mono ?_);rintro e w' ⟨rfl,⟨nd,rfl⟩⟩;refine ⟨_,rfl,?_⟩))
 go_ret
 exact ⟨z2_,z6_⟩


/-! ### Y51: function 79 -/
def Y51.l0:Nat→Int→List Int→Int→Int→Option (Int)
 | 0,_,_,_,_=>none
 | k+1,x3,x6,x7,x8=>if x8<x7 then (if 0≤x8 then (if x8<(x6.length:Int) then (if (rd x6 x8)=x3 then (Y51.l0 k x3 x6 x7 (wrap64 (x8+1))) else (some (rd x6 x8))) else (none)) else (none)) else (some x3)
def Y51.f (k:Nat) (l0:List Int):Option (Int):=Y51.l0 k 0 l0 (l0.length:Int) 0
theorem Y51.mono_l:∀ k,(∀ y0 y1 y2 y3,LeO (Y51.l0 k y0 y1 y2 y3) (Y51.l0 (k+1) y0 y1 y2 y3))
 | 0=>by intros <;> exact LeO.none _
 | k+1=>by
  have ih0:=Y51.mono_l k
  ·intros
   unfold Y51.l0
   exact mO
theorem Y51.mono:∀ a0 k,LeO (Y51.f k a0) (Y51.f (k+1) a0):=by
 intro a0 k
 have ih0:=Y51.mono_l k
 unfold Y51.f
 exact mO
theorem Y51.calls (k:Nat) (A0:Option Addr) (c0:Nat) (l0:List Int) (r:Int) (w:World) (hr0:Kd.C (Kd.int .i64) w A0 l0.length l0) (hc0:l0.length≤c0) (h:Y51.f k l0=some r) :
  Calls Tryd.prog 79 #[.slice A0 l0.length c0] w fun e w'=>e = .returned (.int .i64 r)∧Drawn0 w w':=by
 have HR0:=aM hr0
 have HC0:=aM hc0
 clear hr0 hc0
 have H:(Y51.l0 k 0 l0 (l0.length:Int) 0)=some r:=h
 clear h
 have H':=aM H
 clear H
 go_enter Tryd.func79,Tryd.ntmps79
 go_wp2
 go_loopg [8] k (fun kq v8 w'=>∃ (x8_1:Int),v8 = .int .i64 x8_1∧Aside0 (Y51.l0 kq 0 l0 (l0.length:Int) x8_1=some r)∧Aside0 (kq≤k)∧Drawn0 w w')
 case atStart=>exact ⟨(0),(z2_),H',⟨Nat.le_refl _⟩,z6_⟩
 case round =>
  clear H'
  obtain ⟨x8_1,rfl,HA,HK1,⟨m1,rfl⟩⟩:=hrel
  cases gk with
  | zero=>exact absurd HA.out (by simp [Y51.l0])
  | succ k1 =>
   have H:=HA.out
   clear HA
   simp only [Y51.l0] at H
   by_cases c2:x8_1<(l0.length:Int)
   ·rw [if_pos c2] at H
    have c2b0:decide (x8_1<(l0.length:Int))=true:=dE c2
    clear c2
    by_cases c3:0≤x8_1
    ·rw [if_pos c3] at H
     have c3b0:decide (0≤x8_1)=true:=dE c3
     clear c3
     by_cases c4:x8_1<(l0.length:Int)
     ·rw [if_pos c4] at H
      have c4b0:decide (x8_1<(l0.length:Int))=true:=dE c4
      clear c4
      by_cases c5:(rd l0 x8_1)=0
      ·rw [if_pos c5] at H
       have c5b0:((rd l0 x8_1) == 0)=true:=beq_iff_eq.mpr c5
       have c5b1:((rd l0 x8_1) != 0)=false:=bne_eq_false_iff_eq.mpr c5
       clear c5
       have H':=aM H
       clear H
       have p149:0≤(x8_1:Int):=dT (z0_)
       have q149:x8_1<(l0.length:Int):=dT (z0_)
       obtain ⟨ad149,e149,hx149_0⟩:=Kd.at_int HR0.out x8_1 p149 q149
       cases e149
       replace p149:=eq_true p149
       replace q149:=eq_true q149
       go_wp2
       go_roundg k1
       case measure=>have:=HK1.out;omega
       case rel=>exact ⟨(wrap64 (x8_1+1)),(z2_),H',⟨by have:=HK1.out;omega⟩,z6_⟩
      ·rw [if_neg c5] at H
       have c5b0:((rd l0 x8_1) == 0)=false:=beq_eq_false_iff_ne.mpr c5
       have c5b1:((rd l0 x8_1) != 0)=true:=bne_iff_ne.mpr c5
       obtain rfl:=sI H
       have p149:0≤(x8_1:Int):=dT (z0_)
       have q149:x8_1<(l0.length:Int):=dT (z0_)
       obtain ⟨ad149,e149,hx149_0⟩:=Kd.at_int HR0.out x8_1 p149 q149
       cases e149
       replace p149:=eq_true p149
       replace q149:=eq_true q149
       go_wp2
       go_ret
       exact ⟨z2_,z6_⟩
     ·rw [if_neg c4] at H
      exact nO H
    ·rw [if_neg c3] at H
     exact nO H
   ·rw [if_neg c2] at H
    have c2b0:decide (x8_1<(l0.length:Int))=false:=dF c2
    clear c2
    obtain rfl:=sI H
    go_wp2
    go_ret
    exact ⟨z2_,z6_⟩


/-! ### Y47: function 109 -/
def Y47.f (a0:Int):Option (Bool):=some (a0 != a0)
theorem Y47.calls (a0:Int) (r:Bool) (w:World) (h:Y47.f a0=some r) :
  Calls Tryd.prog 109 #[.int .i64 a0] w fun e w'=>e = .returned (.bool r)∧Drawn0 w w':=by
 have H:(some (a0 != a0))=some r:=h
 clear h
 obtain rfl:=sI H
 go_enter Tryd.func109,Tryd.ntmps109
 go_wp2
 go_ret
 exact ⟨z2_,z6_⟩


/-! ### Y70: function 80 -/
def Y70.f (a0:Int) (a1:Int):Option (Int):=(Y47.f a0).bind fun t150=>((Y47.f a1).bind fun t151=>(if t150=true then (if t151=true then (some 0) else (some (-1))) else (if t151=true then (some 1) else (if a0<a1 then (some (-1)) else (if a0>a1 then (some 1) else (some 0))))))
theorem Y70.calls (a0:Int) (a1:Int) (r:Int) (w:World) (h:Y70.f a0 a1=some r) :
  Calls Tryd.prog 80 #[.int .i64 a0,.int .i64 a1] w fun e w'=>e = .returned (.int .i64 r)∧Drawn0 w w':=by
 have H:((Y47.f a0).bind fun t150=>((Y47.f a1).bind fun t151=>(if t150=true then (if t151=true then (some 0) else (some (-1))) else (if t151=true then (some 1) else (if a0<a1 then (some (-1)) else (if a0>a1 then (some 1) else (some 0)))))))=some r:=h
 clear h
 replace H:=bS H
 obtain ⟨t150,A30,H⟩:=H
 replace H:((Y47.f a1).bind fun t151=>(if t150=true then (if t151=true then (some 0) else (some (-1))) else (if t151=true then (some 1) else (if a0<a1 then (some (-1)) else (if a0>a1 then (some 1) else (some 0))))))=some r:=H
 have A3:=aM A30
 clear A30
 replace H:=bS H
 obtain ⟨t151,A40,H⟩:=H
 replace H:(if t150=true then (if t151=true then (some 0) else (some (-1))) else (if t151=true then (some 1) else (if a0<a1 then (some (-1)) else (if a0>a1 then (some 1) else (some 0)))))=some r:=H
 have A4:=aM A40
 clear A40
 by_cases c5:t150=true
 ·subst c5
  have H1:(if t151=true then (some 0) else (some (-1)))=some r:=by rw [if_pos rfl] at H;exact H
  clear H
  have H:=H1
  clear H1
  by_cases c6:t151=true
  ·subst c6
   have H1:(some 0)=some r:=by rw [if_pos rfl] at H;exact H
   clear H
   have H:=H1
   clear H1
   obtain rfl:=sI H
   go_enter Tryd.func80,Tryd.ntmps80
   go_wp2_with (first | ((with_reducible refine gc_ 109 ?_);refine gl_ (some 8) Tryd.func109 #[.int .i64 a0] ?_;(with_reducible refine (Y47.calls a0 true _ A3.out).mono ?_);rintro e w' ⟨rfl,⟨nd,rfl⟩⟩;refine ⟨_,rfl,?_⟩) | ((with_reducible refine gc_ 109 ?_);refine gl_ (some 10) Tryd.func109 #[.int .i64 a1] ?_;(with_reducible refine (Y47.calls a1 true _ A4.out).mono ?_);rintro e w' ⟨rfl,⟨nd,rfl⟩⟩;refine ⟨_,rfl,?_⟩))
   go_ret
   exact ⟨z2_,z6_⟩
  ·replace c6:=Bool.eq_false_iff.mpr c6
   subst c6
   have H1:(some (-1))=some r:=by rw [if_neg (show ¬ (false=true) by decide)] at H;exact H
   clear H
   have H:=H1
   clear H1
   obtain rfl:=sI H
   go_enter Tryd.func80,Tryd.ntmps80
   go_wp2_with (first | ((with_reducible refine gc_ 109 ?_);refine gl_ (some 8) Tryd.func109 #[.int .i64 a0] ?_;(with_reducible refine (Y47.calls a0 true _ A3.out).mono ?_);rintro e w' ⟨rfl,⟨nd,rfl⟩⟩;refine ⟨_,rfl,?_⟩) | ((with_reducible refine gc_ 109 ?_);refine gl_ (some 10) Tryd.func109 #[.int .i64 a1] ?_;(with_reducible refine (Y47.calls a1 false _ A4.out).mono ?_);rintro e w' ⟨rfl,⟨nd,rfl⟩⟩;refine ⟨_,rfl,?_⟩))
   go_ret
   exact ⟨z2_,z6_⟩
 ·replace c5:=Bool.eq_false_iff.mpr c5
  subst c5
  have H1:(if t151=true then (some 1) else (if a0<a1 then (some (-1)) else (if a0>a1 then (some 1) else (some 0))))=some r:=by rw [if_neg (show ¬ (false=true) by decide)] at H;exact H
  clear H
  have H:=H1
  clear H1
  by_cases c7:t151=true
  ·subst c7
   have H1:(some 1)=some r:=by rw [if_pos rfl] at H;exact H
   clear H
   have H:=H1
   clear H1
   obtain rfl:=sI H
   go_enter Tryd.func80,Tryd.ntmps80
   go_wp2_with (first | ((with_reducible refine gc_ 109 ?_);refine gl_ (some 8) Tryd.func109 #[.int .i64 a0] ?_;(with_reducible refine (Y47.calls a0 false _ A3.out).mono ?_);rintro e w' ⟨rfl,⟨nd,rfl⟩⟩;refine ⟨_,rfl,?_⟩) | ((with_reducible refine gc_ 109 ?_);refine gl_ (some 10) Tryd.func109 #[.int .i64 a1] ?_;(with_reducible refine (Y47.calls a1 true _ A4.out).mono ?_);rintro e w' ⟨rfl,⟨nd,rfl⟩⟩;refine ⟨_,rfl,?_⟩))
   go_ret
   exact ⟨z2_,z6_⟩
  ·replace c7:=Bool.eq_false_iff.mpr c7
   subst c7
   have H1:(if a0<a1 then (some (-1)) else (if a0>a1 then (some 1) else (some 0)))=some r:=by rw [if_neg (show ¬ (false=true) by decide)] at H;exact H
   clear H
   have H:=H1
   clear H1
   by_cases c8:a0<a1
   ·rw [if_pos c8] at H
    have c8b0:decide (a0<a1)=true:=dE c8
    clear c8
    obtain rfl:=sI H
    go_enter Tryd.func80,Tryd.ntmps80
    go_wp2_with (first | ((with_reducible refine gc_ 109 ?_);refine gl_ (some 8) Tryd.func109 #[.int .i64 a0] ?_;(with_reducible refine (Y47.calls a0 false _ A3.out).mono ?_);rintro e w' ⟨rfl,⟨nd,rfl⟩⟩;refine ⟨_,rfl,?_⟩) | ((with_reducible refine gc_ 109 ?_);refine gl_ (some 10) Tryd.func109 #[.int .i64 a1] ?_;(with_reducible refine (Y47.calls a1 false _ A4.out).mono ?_);rintro e w' ⟨rfl,⟨nd,rfl⟩⟩;refine ⟨_,rfl,?_⟩))
    go_ret
    exact ⟨z2_,z6_⟩
   ·rw [if_neg c8] at H
    have c8b0:decide (a0<a1)=false:=dF c8
    clear c8
    by_cases c9:a0>a1
    ·rw [if_pos c9] at H
     have c9b0:decide (a1<a0)=true:=dE c9
     clear c9
     obtain rfl:=sI H
     go_enter Tryd.func80,Tryd.ntmps80
     go_wp2_with (first | ((with_reducible refine gc_ 109 ?_);refine gl_ (some 8) Tryd.func109 #[.int .i64 a0] ?_;(with_reducible refine (Y47.calls a0 false _ A3.out).mono ?_);rintro e w' ⟨rfl,⟨nd,rfl⟩⟩;refine ⟨_,rfl,?_⟩) | ((with_reducible refine gc_ 109 ?_);refine gl_ (some 10) Tryd.func109 #[.int .i64 a1] ?_;(with_reducible refine (Y47.calls a1 false _ A4.out).mono ?_);rintro e w' ⟨rfl,⟨nd,rfl⟩⟩;refine ⟨_,rfl,?_⟩))
     go_ret
     exact ⟨z2_,z6_⟩
    ·rw [if_neg c9] at H
     have c9b0:decide (a1<a0)=false:=dF c9
     clear c9
     obtain rfl:=sI H
     go_enter Tryd.func80,Tryd.ntmps80
     go_wp2_with (first | ((with_reducible refine gc_ 109 ?_);refine gl_ (some 8) Tryd.func109 #[.int .i64 a0] ?_;(with_reducible refine (Y47.calls a0 false _ A3.out).mono ?_);rintro e w' ⟨rfl,⟨nd,rfl⟩⟩;refine ⟨_,rfl,?_⟩) | ((with_reducible refine gc_ 109 ?_);refine gl_ (some 10) Tryd.func109 #[.int .i64 a1] ?_;(with_reducible refine (Y47.calls a1 false _ A4.out).mono ?_);rintro e w' ⟨rfl,⟨nd,rfl⟩⟩;refine ⟨_,rfl,?_⟩))
     go_ret
     exact ⟨z2_,z6_⟩


/-! ### Y30: function 78 -/
def Y30.f (k:Nat) (a0_0:Int) (a0_1:Int) (a1_0:Int) (a1_1:Int):Option (Int):=(Y70.f a0_0 a1_0).bind fun t154=>((Y70.f a0_1 a1_1).bind fun t155=>((Y51.f k (([t154,t155]:List Int))).bind fun t159=>(some t159)))
theorem Y30.mono:∀ a0 a1 a2 a3 k,LeO (Y30.f k a0 a1 a2 a3) (Y30.f (k+1) a0 a1 a2 a3):=by
 intro a0 a1 a2 a3 k
 have m0:=@Y51.mono
 unfold Y30.f
 exact mO
def Y30.T1:Bool × List (List Nat × List Nat):=(true,[([],[]),([0],[0]),([],[]),([2],[2]),([1,3],[1,3]),([],[]),([5],[5]),([],[]),([7],[7]),([6,8,4],[6,8]),([4,9],[4,9]),([10,9],[10]),([11,11,0,1,2,3,4,5,6,7,8,9,10,11],[11])])
def Y30.B1:List Nat:=[0,1,0,4,15,0,32,0,128,511,1023,2047,4095]
theorem Y30.tab1:rtab .any (opsOf Tryd.f78 1)=Y30.T1:=by kernel_rfl
theorem Y30.bits1:waitsOk Y30.T1.2 Y30.B1=true:=by kernel_rfl
theorem Y30.calls (k:Nat) (a0_0:Int) (a0_1:Int) (a1_0:Int) (a1_1:Int) (r:Int) (w:World) (h:Y30.f k a0_0 a0_1 a1_0 a1_1=some r) :
  Calls Tryd.prog 78 #[.agg #[.int .i64 a0_0,.int .i64 a0_1],.agg #[.int .i64 a1_0,.int .i64 a1_1]] w fun e w'=>e = .returned (.int .i64 r)∧Below w.heap.size w w':=by
 have hu77:=Tryd.underlying77
 have HB:=aM (Below.refl w.heap.size w)
 have H:((Y70.f a0_0 a1_0).bind fun t154=>((Y70.f a0_1 a1_1).bind fun t155=>((Y51.f k (([t154,t155]:List Int))).bind fun t159=>(some t159))))=some r:=h
 clear h
 replace H:=bS H
 obtain ⟨t154,A30,H⟩:=H
 replace H:((Y70.f a0_1 a1_1).bind fun t155=>((Y51.f k (([t154,t155]:List Int))).bind fun t159=>(some t159)))=some r:=H
 have A3:=aM A30
 clear A30
 replace H:=bS H
 obtain ⟨t155,A40,H⟩:=H
 replace H:((Y51.f k (([t154,t155]:List Int))).bind fun t159=>(some t159))=some r:=H
 have A4:=aM A40
 clear A40
 obtain ⟨y156,hy156⟩:∃ y_:List Int,y_=(([t154,t155]:List Int)):=⟨_,rfl⟩
 replace H:((Y51.f k y156).bind fun t159=>(some t159))=some r:=by first | (rw [hy156];with_reducible exact H) | (have H2_:=(Option.bind_some _ _).symm.trans H;rw [hy156];with_reducible exact H2_) | (have H2_:=(Option.bind_some _ _).symm.trans H;with_reducible exact H2_) | with_reducible exact H | (rw [hy156];exact H) | exact H
 have Ny156:=aM hy156
 clear hy156
 replace H:=bS H
 obtain ⟨t159,A50,H⟩:=H
 replace H:(some t159)=some r:=H
 have A5:=aM A50
 clear A50
 obtain rfl:=sI H
 go_enter Tryd.func78,Tryd.ntmps78
 try go_wp2_with (first | ((with_reducible refine gd_ 2 ?_);refine be_ 2 #[.int .i64 a0_0,.int .i64 a0_1] 77 ?_;intro gb152 hg w6 hbox hb;have n0_:=aM (below_step (z5_ HB.out) hb);have n1_:=aM (hbox);have n2_:=aM ((z8_ HB.out:w.heap.size≤gb152));have n3_:=aM ((z8_ HB.out:w.heap.size≤gb152));clear HB;have HB:=n0_;have BK152:=n1_;have GW152:=n2_;have GE152:=n3_;clear n0_ n1_ n2_ n3_;clear hb hbox hg) | ((with_reducible refine gd_ 3 ?_);refine be_ 3 #[.int .i64 a1_0,.int .i64 a1_1] 77 ?_;intro gb153 hg w7 hbox hb;have n0_:=aM (blkB_ BK152.out hb);have n1_:=aM (below_step (z7_ HB.out GE152.out) hb);have n2_:=aM (hbox);have n3_:=aM ((z11_ HB.out GE152.out:w.heap.size≤gb153));have n4_:=aM ((z11_ HB.out GE152.out:w.heap.size≤gb153));have n5_:=aM (neL_ BK152.out hg);have n6_:=aM (neG_ BK152.out hg);clear BK152;clear HB;have BK152:=n0_;have HB:=n1_;have BK153:=n2_;have GW153:=n3_;have GE153:=n4_;have NB152_153:=n5_;have NB153_152:=n6_;clear n0_ n1_ n2_ n3_ n4_ n5_ n6_;clear hb hbox hg))
 have n0_:=aM (blk_drew BK152.out)
 have n1_:=aM (blk_drew BK153.out)
 have n2_:=aM (below_drew1 HB.out)
 clear BK152
 clear BK153
 clear HB
 have BK152:=n0_
 have BK153:=n1_
 have HB:=n2_
 clear n0_ n1_ n2_
 refine start_ (n:=13) (S:=fun w'=>w'.cell? ⟨gb152,0,none⟩=some (.int .i64 a0_0)∧w'.cell? ⟨gb152,1,none⟩=some (.int .i64 a0_1)∧w'.cell? ⟨gb153,0,none⟩=some (.int .i64 a1_0)∧w'.cell? ⟨gb153,1,none⟩=some (.int .i64 a1_1)) (ds:=[]) #[O,O,O,O,O,O,O,O,O,O,O,O,O] (by kernel_rfl) rfl rfl (cj2_ BK152.out (cc2_ BK153.out)) (fun hHeld=>?_);refine with_tabW Y30.tab1 Y30.bits1 (fun HT_ HW_=>?_)
 generalize w7.drew=w8 at BK152 BK153 HB hHeld ⊢
 refine pu_ 0 5 #[I,O,O,O,O,O,O,O,O,O,O,O,O] HT_.out ?_
 refine pu_ 2 7 #[I,O,I,O,O,O,O,O,O,O,O,O,O] HT_.out ?_
 refine pu_ 5 10 #[I,O,I,O,O,I,O,O,O,O,O,O,O] HT_.out ?_
 refine pu_ 7 12 #[I,O,I,O,O,I,O,I,O,O,O,O,O] HT_.out ?_
 refine tk4_ 1 6 #[I,I,I,O,O,I,O,I,O,O,O,O,O] HT_.out HW_.out hHeld ?_
 refine tk4_ 3 8 #[I,I,I,I,O,I,O,I,O,O,O,O,O] HT_.out HW_.out hHeld ?_
 refine tk4_ 6 11 #[I,I,I,I,O,I,I,I,O,O,O,O,O] HT_.out HW_.out hHeld ?_
 refine tk4_ 8 13 #[I,I,I,I,O,I,I,I,I,O,O,O,O] HT_.out HW_.out hHeld ?_
 refine o1_ 4 9 #[I,I,I,I,I,I,I,I,I,O,O,O,O] HT_.out (fun K hK=>?_)
 refine gs_ Tryd.func80 #[.int .i64 a0_0,.int .i64 a1_0] ?_
 with_reducible refine (Y70.calls a0_0 a1_0 t154 _ A3.out).mono ?_
 rintro e w' ⟨rfl,⟨nd,rfl⟩⟩
 refine ⟨_,rfl,?_⟩
 refine hK.out _ _ (cj2_ BK152.out (cc2_ BK153.out)) (fun hHeld=>?_)
 clear hK K
 refine nm_ 9 ?_
 refine o1_ 9 14 #[I,I,I,I,I,I,I,I,I,I,O,O,O] HT_.out (fun K hK=>?_)
 refine gs_ Tryd.func80 #[.int .i64 a0_1,.int .i64 a1_1] ?_
 with_reducible refine (Y70.calls a0_1 a1_1 t155 _ A4.out).mono ?_
 rintro e w' ⟨rfl,⟨nd,rfl⟩⟩
 refine ⟨_,rfl,?_⟩
 refine hK.out _ _ (cj2_ BK152.out (cc2_ BK153.out)) (fun hHeld=>?_)
 clear hK K
 refine nm_ 14 ?_
 refine o1_ 10 15 #[I,I,I,I,I,I,I,I,I,I,I,O,O] HT_.out (fun K hK=>?_)
 refine Kd.R_lit_step (Kd.int .i64) _ 3 ?hg (N:=15) ?hd (xs:=([t154,t155]:List Int)) (inner:=[.int .i64 t154,.int .i64 t155]) (ok:=fun _=>True) (okp:=fun _=>True) ?hr ?hp (fun _ hk=>hk) trivial (Below.refl _ _) (Nat.le_refl _) (by simp) ?_;(case hd=>rfl);(case hg=>rfl);(case hr=>first | (go_simp;done) | (go_simp;rfl));(case hp=>exact (Reps.one (show Kd.M (Kd.int .i64) _ _ _ t154 [.int .i64 t154] from rfl) (Reps.one (show Kd.M (Kd.int .i64) _ _ _ t155 [.int .i64 t155] from rfl) (Reps.none _ _))))
 intro v157 w9 ho10 hb hg_ hnew_
 clear hg_ hnew_
 (first | rw [← Ny156.out] at ho10 | (simp only [Int.reduceToNat] at ho10;rw [← Ny156.out] at ho10))
 have n0_:=aM (Kd.R_lower ho10 (below_size (z4_ HB.out GE152.out GE153.out)))
 have n1_:=aM (blkB_ BK152.out hb)
 have n2_:=aM (blkB_ BK153.out hb)
 have n3_:=aM (below_step (z4_ HB.out GE152.out GE153.out) hb)
 clear BK152
 clear BK153
 clear HB
 have HO158:=n0_
 have BK152:=n1_
 have BK153:=n2_
 have HB:=n3_
 clear n0_ n1_ n2_ n3_
 clear hb ho10
 obtain ⟨Ao11,co11,eo11⟩:=Kd.R_slice HO158.out
 (first | subst eo11 | (injection eo11 with f1_ f2_ f3_;have f4_:=f1_.symm;have f5_:=f3_.symm;clear f1_ f2_ f3_;subst f4_;subst f5_))
 refine hK.out _ _ (cj2_ BK152.out (cc2_ BK153.out)) (fun hHeld=>?_)
 clear hK K
 refine nm_ 15 ?_
 refine o1_ 11 16 #[I,I,I,I,I,I,I,I,I,I,I,I,O] HT_.out (fun K hK=>?_)
 refine gs_ Tryd.func79 #[.slice Ao11 y156.length co11] ?_
 with_reducible refine (Y51.calls k _ _ y156 t159 _ ?s1 ?s2 A5.out).mono ?_
 (case s1=>repeat (first | exact (Kd.R_reads' HO158.out).2.2 | (with_reducible refine Kd.C_alloc ?_ _) | (with_reducible refine Kd.C_drewN ?_ _) | (with_reducible refine Kd.C_drew ?_)))
 (case s2=>exact (Kd.R_reads' HO158.out).2.1)
 rintro e w' ⟨rfl,⟨nd,rfl⟩⟩
 refine ⟨_,rfl,?_⟩
 refine hK.out _ _ (cj2_ BK152.out (cc2_ BK153.out)) (fun hHeld=>?_)
 clear hK K
 refine nm_ 16 ?_
 refine pu_ 12 4 #[I,I,I,I,I,I,I,I,I,I,I,I,I] HT_.out ?_
 refine done_ (done_of HT_.out (by kernel_rfl)) ?_
 try go_wp2
 go_ret
 exact ⟨z9_,z4_ HB.out GE152.out GE153.out⟩

end Go.Proofs.YtelecnmflodkkaaDoor.P
