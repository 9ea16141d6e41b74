/- For every act the program's ActRight and the reference's return the same answer. No condition. (Part 1 of 2: written by programs of this workplace and by hand, merged.) -/
import Derived.Test.YtmefchanjoadfaaProg
import Derived.Below
import Derived.Deep.Draws
import Derived.Deep.AppendLies
import Derived.Maps.AppendAt
import Derived.OwnWalk
import Derived.Laws.BytesArg
import Derived.Laws.MakeOwn
import Derived.Laws.OwnMore
import Derived.Deep.OwnRows
import Derived.Tactics
import Derived.Lib.ConvBytes
import Derived.Laws.Slices
import Derived.WalkKit
import Derived.KernelRfl
import Derived.RowKit3
import Derived.Deep.LoopGhost
import Derived.Deep.QuietTactic
import Derived.BigQuiet
import Derived.WideLaws
import Derived.Deep.DeepCutAuto
import Derived.Deep.CutBlock
import Derived.Deep.RegionHeld3
import Derived.Laws.Rows
import Derived.Lib.AppendStr
import Derived.ArgAppend
import Derived.Laws.IdiomCopy
import Derived.OrdersHeld
import Derived.Laws.BitsLemmas
import Derived.RowKit
import Derived.Lib.Bytealg
import Derived.Lib.Walk
import Derived.Test.YtmefchanjoadfaaMFnExactActRightWWords
import Derived.Test.YtmefchanjoadfaaMFnExactActRightWLast
import Derived.Test.YtmefchanjoadfaaMFnExactActRightWTab
import Derived.Test.YtmefchanjoadfaaMFnExactActRightWApart
import Derived.Test.YtmefchanjoadfaaMFnExactActRightWFoot
import Derived.Test.YtmefchanjoadfaaMFnExactActRightWKept
import Derived.Test.YtmefchanjoadfaaMFnExactActRightWShare
import Derived.Test.YtmefchanjoadfaaMFnExactActRightWN
import Derived.Laws.StructEq
import Derived.Test.YtmefchanjoadfaaMFnExactActRightWRepsOne
import Derived.Test.YtmefchanjoadfaaMFnExactActRightWInv
import Derived.Test.YtmefchanjoadfaaMFnExactActRightWGuard
import Derived.Test.YtmefchanjoadfaaMFnExactActRightWMore
import Derived.ChangeArms
import Derived.ChangeSlices
import Derived.WideShapes
set_option linter.unusedVariables false
set_option linter.unusedSimpArgs false
set_option maxHeartbeats 8000000
set_option maxRecDepth 100000

namespace Go.Proofs.Ytmefchanjoadfaa.P
open Go.RowKit Go.Proofs.YtmefchanjoadfaaW.PrintWords Go.Proofs.YtmefchanjoadfaaW.PrintLast Go.Proofs.YtmefchanjoadfaaW.PrintMore
attribute [local go_sem] max2_int min2_int max_two min_two max_three min_three max_four min_four   -- for this text's walks alone
set_option linter.unusedVariables false
set_option linter.unusedSimpArgs false

theorem sa_ {α:Type _} (l:List α) (i:Nat) (a:α):l.toArray.setIfInBounds i a=(l.set i a).toArray:=List.setIfInBounds_toArray ..
theorem s0_ {α:Type _} (x:α) (l:List α) (a:α):(x :: l).set 0 a=a :: l:=List.set_cons_zero ..
theorem ss_ {α:Type _} (x:α) (l:List α) (n:Nat) (a:α):(x :: l).set (n+1) a=x :: l.set n a:=List.set_cons_succ ..
section
variable {P:Program} {ops:Array Oper} {Q:Exit→Act→World→Prop}
/-- A call of a function value, as a step of a region that draws. -/
theorem goesD_ {oi:Oper} {N:Option Tmp} {a:Act} {w:World} {K:Act→World→Prop} {f:FuncId} {fn:Func} {as_:Array Operand} {ts:Array TypeId} {x:Operand} (hf:P.funcs[f]? = some fn) (hname:(fn.name == "runtime.NumGoroutine")=false) (hb:fn.body.isSome=true) (args:Array Value)
    (hw:Region.wanted oi (yielded ops a.tmps)=true) (hN:oi.dst=N) (hop:oi.op = .call { callee:=.value x,args:=as_,argTypes:=ts }) (hx:a.eval x = .func (.func f) #[] #[]) (hargs:as_.map a.eval=args)
    (h:Calls P f args w fun e w'=>∃ v,e = .returned v∧K (a.put N v) w'):if Region.wanted oi (yielded ops a.tmps)=true then Oper.wp P oi a w K Q else K (a.put N undef) w:=by
  refine call_ f args hw hN ?_ h
  have he:=enters_ hf hname hb args w
  unfold execOp
  simp [hop,resolve,Deferred.ofValue,invoke,hx,hargs,he]
/-- The same for a closure: what it captured stands behind the arguments. -/
theorem goesC_ {oi:Oper} {N:Option Tmp} {a:Act} {w:World} {K:Act→World→Prop} {f:FuncId} {fn:Func} {as_:Array Operand} {ts:Array TypeId} {x:Operand} {cs:Array Value} (hf:P.funcs[f]? = some fn) (hname:(fn.name == "runtime.NumGoroutine")=false) (hb:fn.body.isSome=true) (args:Array Value)
    (hw:Region.wanted oi (yielded ops a.tmps)=true) (hN:oi.dst=N) (hop:oi.op = .call { callee:=.value x,args:=as_,argTypes:=ts }) (hx:a.eval x = .func (.func f) #[] cs) (hargs:as_.map a.eval ++ cs=args)
    (h:Calls P f args w fun e w'=>∃ v,e = .returned v∧K (a.put N v) w'):if Region.wanted oi (yielded ops a.tmps)=true then Oper.wp P oi a w K Q else K (a.put N undef) w:=by
  refine call_ f args hw hN ?_ h
  have he:=enters_ hf hname hb args w
  unfold execOp
  simp [hop,resolve,Deferred.ofValue,invoke,hx,hargs,he]
end



def errW:Option Int→Value
  | none=>.nilIface
  | some c=>.iface 0 (.int .i64 c)
theorem errW_none:errW none = .nilIface:=rfl
theorem errW_some (c:Int):errW (some c) = .iface 0 (.int .i64 c):=rfl

-- the values' own types
/-! #### struct type 72 -/
structure S72 where
  f0:ByteArray
  f1:ByteArray
def z72:S72:=⟨(⟨#[]⟩:ByteArray),(⟨#[]⟩:ByteArray)⟩
def k72:Kd S72:=Kd.iso (Kd.pair Kd.string Kd.string) (fun x:S72=>(x.f0,x.f1))
theorem k72_open {w:World} {x:S72} {cs:List Value} (h:k72.K w x cs):cs=[.string x.f0,.string x.f1]:=by
  obtain ⟨_,_,rfl,rfl,rfl⟩:=h
  exact rfl
theorem k72_mkM (w:World) (base:Nat) (ok:Nat→Prop) (x:S72)  : k72.M w base ok x [.string x.f0,.string x.f1]:=⟨[.string x.f0],[.string x.f1],rfl,rfl,rfl⟩
def rd_T72 (xs:List S72) (i:Int):S72:=xs.getD i.toNat z72
theorem at_T72 {w:World} {A:Option Addr} {n:Nat} {xs:List S72} (h:Kd.C k72 w A n xs) (i:Int) (h0:0≤i) (h1:i<n):∃ ad , A=some ad∧w.cell? (ad.add (i.toNat*2))=some (.string (rd_T72 xs i).f0)∧w.cell? ⟨(ad.add (i.toNat*2)).block,(ad.add (i.toNat*2)).off+1,none⟩=some (.string (rd_T72 xs i).f1):=by
  obtain ⟨ad,c,e,_,hK,hc0⟩:=Kd.C_get h z72 i h0 h1
  have hc:∀ j u,c[j]? = some u→w.cell? (ad.add (i.toNat*2+j))=some u:=hc0
  obtain rfl:=k72_open hK
  exact ⟨ad,e,hc 0 _ rfl,by rw [← add_field _ _ 1 (by omega)];exact hc 1 _ rfl⟩

/-! #### struct type 23 -/
structure S23 where
  f0:Int
  f1:Int
  f2:Int
  f3:ByteArray
  f4:ByteArray
  f5:Int
def k23:Kd S23:=Kd.iso (Kd.pair (Kd.int .i64) (Kd.pair (Kd.int .i64) (Kd.pair (Kd.int .i64) (Kd.pair Kd.string (Kd.pair Kd.string (Kd.int .i64)))))) (fun x:S23=>(x.f0,x.f1,x.f2,x.f3,x.f4,x.f5))
theorem k23_open {w:World} {x:S23} {cs:List Value} (h:k23.K w x cs):cs=[.int .i64 x.f0,.int .i64 x.f1,.int .i64 x.f2,.string x.f3,.string x.f4,.int .i64 x.f5]:=by
  obtain ⟨_,_,rfl,rfl,⟨_,_,rfl,rfl,⟨_,_,rfl,rfl,⟨_,_,rfl,rfl,⟨_,_,rfl,rfl,rfl⟩⟩⟩⟩⟩:=h
  exact rfl
/-! #### struct type 49 -/
structure S49 where
  f0:Int
  f1:Int
def z49:S49:=⟨(0:Int),(0:Int)⟩
def rd_T49 (xs:List S49) (i:Int):S49:=xs.getD i.toNat z49
end Go.Proofs.Ytmefchanjoadfaa.P

namespace Go.Proofs.Ytmefchanjoadfaa.P
open Go.RowKit Go.Proofs.YtmefchanjoadfaaW.PrintWords Go.Proofs.YtmefchanjoadfaaW.PrintLast Go.Proofs.YtmefchanjoadfaaW.PrintMore
abbrev I:=true
abbrev O:=false
theorem mO {p:Prop} (h:p:=by repeat' first | (with_reducible exact LeO.refl _) | (with_reducible exact LeO.none _) | (with_reducible refine LeO.ite ?_ ?_) | (with_reducible refine LeO.bind ?_ (fun _=>?_)) | (with_reducible apply_assumption) | apply_assumption | exact LeO.none _ | refine LeO.ite ?_ ?_ | refine LeO.bind ?_ (fun _=>?_)):p:=h
theorem nO {q p:Prop} (h:q) (f:¬q:=by simp):p:=absurd h f
theorem aM {p:Prop} (h:p):Aside0 p:=⟨h⟩
theorem sI {α:Type _} {a b:α} (h:some a=some b):a=b:=Option.some.inj h
theorem bS {α β:Type _} {x:Option α} {f:α→Option β} {b:β} (h:x.bind f=some b):∃ a,x=some a∧f a=some b:=Option.bind_eq_some_iff.mp h
theorem dT {p:Prop} [Decidable p] (h:decide p=true):p:=of_decide_eq_true h
theorem dE {p:Prop} [Decidable p] (h:p):decide p=true:=decide_eq_true h
theorem dF {p:Prop} [Decidable p] (h:¬p):decide p=false:=decide_eq_false h
section
variable {P:Program} {ops:Array Oper} {Q:Exit→Act→World→Prop} {md:Region.Mode} {S:World→Prop} {ds:List Nat}
theorem pu_ {T:Bool × List (List Nat × List Nat)} (i:Nat) (N:Tmp) {oi:Oper} {v:Value} {fuel:Nat} {l:Array Bool} {a a':Act} {w:World} (l':Array Bool) (hT:rtab md ops=T) (h:wpAnyLast P md ops Q S ds fuel l' a' w) (hi:ops[i]? = some oi:=by exact rfl) (hN:oi.dst=some N:=by exact rfl) (hc:anyT T l.toList l'.toList i=true:=by kernel_rfl) (hQ:∀ c a w,Q (.panic c) (a.put oi.dst v) w→Q (.panic c) a w:=by exact fun _ _ _ h=>h) (hw:Region.wanted oi (yielded ops a.tmps)=true:=by rfl) (hy:∀ w',(execOp a.eval oi).run P w' = .ok (.value v) w':=by (intro w');go_simp;(with_reducible rfl)) (ha:a.put (some N) v=a':=by (simp only [Act.put,sa_,s0_,ss_,i64_w,i32_w]);exact rfl):wpAnyLast P md ops Q S ds (fuel+1) l a w:=pure_ l' hi hN (any_of hT hc) hQ (Or.inl ⟨hw,hy⟩) ha h
theorem pn_ {T:Bool × List (List Nat × List Nat)} (i:Nat) (N:Tmp) {oi:Oper} {v:Value} {fuel:Nat} {l:Array Bool} {a a':Act} {w:World} (l':Array Bool) (hT:rtab md ops=T) (h:wpAnyLast P md ops Q S ds fuel l' a' w) (hi:ops[i]? = some oi:=by exact rfl) (hN:oi.dst=some N:=by exact rfl) (hc:anyT T l.toList l'.toList i=true:=by kernel_rfl) (hQ:∀ c a w,Q (.panic c) (a.put oi.dst v) w→Q (.panic c) a w:=by exact fun _ _ _ h=>h) (hw:Region.wanted oi (yielded ops a.tmps)=false:=by rfl) (hy:v=undef:=by rfl) (ha:a.put (some N) v=a':=by (simp only [Act.put,sa_,s0_,ss_,i64_w,i32_w]);exact rfl):wpAnyLast P md ops Q S ds (fuel+1) l a w:=pure_ l' hi hN (any_of hT hc) hQ (Or.inr ⟨hw,hy⟩) ha h
theorem tk6_ {T:Bool × List (List Nat × List Nat)} (i:Nat) (N:Tmp) {oi:Oper} {v:Value} {fuel:Nat} {l:Array Bool} {a a':Act} {w:World} (l':Array Bool) {B:List Nat} (hT:rtab md ops=T) (hB:waitsOk T.2 B=true) (hS:S w) (h:wpAnyLast P md ops Q S ds fuel l' a' w) (hi:ops[i]? = some oi:=by exact rfl) (hN:oi.dst=some N:=by exact rfl) (hc:takeW T B ds l.toList l'.toList i=true:=by kernel_rfl) (hQ:∀ c a w,Q (.panic c) (a.put oi.dst v) w→Q (.panic c) a w:=by exact fun _ _ _ h=>h) (hw:Region.wanted oi (yielded ops a.tmps)=true:=by rfl) (hy:∀ w',S w'→(execOp a.eval oi).run P w' = .ok (.value v) w':=by (rintro w' ⟨s0,s1,s2,s3,s4,s5⟩);go_simp;(with_reducible rfl)) (ha:a.put (some N) v=a':=by (simp only [Act.put,sa_,s0_,ss_,i64_w,i32_w]);exact rfl):wpAnyLast P md ops Q S ds (fuel+1) l a w:=take_ l' hi hN (take_ofW hT hB hc) hQ (Or.inl ⟨hw,hy⟩) hS ha h
theorem o1_ {T:Bool × List (List Nat × List Nat)} (i:Nat) (N:Tmp) {oi:Oper} {fuel:Nat} {l:Array Bool} {a:Act} {w:World} (l':Array Bool) (hT:rtab md ops=T) (h:∀ K:Act→World→Prop,Shut (∀ a' w',S w'→(S w'→wpAnyLast P md ops Q S ds fuel l' a' w')→K a' w')→if Region.wanted oi (yielded ops a.tmps)=true then Oper.wp P oi a w K Q else K (a.put (some N) undef) w) (hi:ops[i]? = some oi:=by exact rfl) (hN:oi.dst=some N:=by exact rfl) (hc:(readyT T.2 l.toList == [i] && l.toList.set i true == l'.toList)=true:=by kernel_rfl) (hd:i ∉ ds:=by decide):wpAnyLast P md ops Q S ds (fuel+1) l a w:=one_ l' hi hN (one_of hT hc) hd h
theorem nm_ (N:Tmp) {fuel:Nat} {l:Array Bool} {a a':Act} {v:Value} {w:World} (h:wpAnyLast P md ops Q S ds fuel l a' w) (ha:Act.put a (some N) v=a':=by simp only [Act.put,sa_,s0_,ss_,i64_w,i32_w];rfl):wpAnyLast P md ops Q S ds fuel l (Act.put a (some N) v) w:=norm_ ha h
end
section
variable {P:Program} {ops:Array Oper} {rest:List Oper} {o:Oper} {a:Act} {Q:Exit→Act→World→Prop} {W:World}
theorem gd_ (N:Tmp) (h:wpList P ops Q (o :: rest) a W) (hN:o.dst=some N:=by with_reducible rfl):wpList P ops Q (o :: rest) a W:=h
theorem gc_ (f:FuncId) {ars:Array Operand} {ts:Array TypeId} (h:wpList P ops Q (o :: rest) a W) (ho:o.op = .call { callee:=.value (.func f),args:=ars,argTypes:=ts }:=by with_reducible rfl):wpList P ops Q (o :: rest) a W:=h
theorem be_ (N:Tmp) (cs:Array Value) (t:TypeId) (h:∀ g,g=W.heap.size→∀ w1,w1.heap[g]? = some (.cells cs t (0,0))→Below W.heap.size W w1→wpList P ops Q rest (a.put o.dst (.pointer (some ⟨g,0,none⟩))) w1) (hd:o.dst=some N:=by rfl) (hgd:o.guard=none:=by rfl) (hrun:(execOp a.eval o).run P W = .ok (.value (.pointer (some ⟨W.heap.size,0,none⟩))) (W.alloc (.cells cs t (0,0))):=by first | (go_simp;done) | (go_simp;rfl)):wpList P ops Q (o :: rest) a W:=box_event hgd hd hrun h
theorem bs_ {Kc:Act→World→Prop} (N:Tmp) (cs:Array Value) (t:TypeId) (h:∀ g,g=W.heap.size→∀ w1,w1.heap[g]? = some (.cells cs t (0,0))→Below W.heap.size W w1→Kc (a.put o.dst (.pointer (some ⟨g,0,none⟩))) w1) (hd:o.dst=some N:=by rfl) (hw:Region.wanted o (yielded ops a.tmps)=true:=by rfl) (hrun:(execOp a.eval o).run P W = .ok (.value (.pointer (some ⟨W.heap.size,0,none⟩))) (W.alloc (.cells cs t (0,0))):=by first | (go_simp;done) | (go_simp;rfl)):if Region.wanted o (yielded ops a.tmps)=true then Oper.wp P o a W Kc Q else Kc (a.put o.dst undef) W:=box_step hw hd hrun h
theorem gl_ (N:Option Tmp) {f:FuncId} {fn:Func} {ars:Array Operand} {ts:Array TypeId} (hf:P.funcs[f]? = some fn) (args:Array Value) (h:Calls P f args W fun e w'=>∃ v,e = .returned v∧wpList P ops Q rest (a.put N v) w') (hd:o.dst=N:=by exact rfl) (hg:o.guard=none:=by exact rfl) (hname:(fn.name == "runtime.NumGoroutine")=false:=by kernel_rfl) (hb:fn.body.isSome=true:=by exact rfl) (hop:o.op = .call { callee:=.value (.func f),args:=ars,argTypes:=ts }:=by exact rfl) (hargs:ars.map a.eval=args:=by (try simp only [List.map_toArray,List.map_cons,List.map_nil]);first | done | rfl | (simp only [List.length_drop,List.length_take];rfl)):wpList P ops Q (o :: rest) a W:=goesL_ N hd hg hf hname hb args hop hargs h
end
theorem cc6_ {w:World} {g:Nat} {t:TypeId} {v0 v1 v2 v3 v4 v5:Value} (h:w.heap[g]? = some (.cells #[v0,v1,v2,v3,v4,v5] t (0,0))):w.cell? ⟨g,0,none⟩=some v0∧w.cell? ⟨g,1,none⟩=some v1∧w.cell? ⟨g,2,none⟩=some v2∧w.cell? ⟨g,3,none⟩=some v3∧w.cell? ⟨g,4,none⟩=some v4∧w.cell? ⟨g,5,none⟩=some v5:=⟨blk_cell h 0,blk_cell h 1,blk_cell h 2,blk_cell h 3,blk_cell h 4,blk_cell h 5⟩
theorem blkB_ {W0 W W':World} {g:Nat} {o:Obj} (h:W0.heap[g]? = some o) (hb:Below W.heap.size W W') (f:W0.heap[g]? = some o→W.heap[g]? = some o:=by intro h_;(with_reducible repeat (first | refine blk_drewN ?_ _ | refine blk_drew ?_ | refine blk_alloc ?_ _));exact h_):W'.heap[g]? = some o:=blk_below (f h) hb
theorem neL_ {W0 W:World} {g b:Nat} {o:Obj} (h:W0.heap[b]? = some o) (hg:g=W.heap.size) (f:W0.heap[b]? = some o→W.heap[b]? = some o:=by intro h_;(with_reducible repeat (first | refine blk_drewN ?_ _ | refine blk_drew ?_ | refine blk_alloc ?_ _));exact h_):b≠g:=by rw [hg];exact Nat.ne_of_lt (blk_lt (f h))
theorem neG_ {W0 W:World} {g b:Nat} {o:Obj} (h:W0.heap[b]? = some o) (hg:g=W.heap.size) (f:W0.heap[b]? = some o→W.heap[b]? = some o:=by intro h_;(with_reducible repeat (first | refine blk_drewN ?_ _ | refine blk_drew ?_ | refine blk_alloc ?_ _));exact h_):g≠b:=by rw [hg];exact Nat.ne_of_gt (blk_lt (f h))
theorem cz1_ {w:World} {g:Nat} {t:TypeId} {v0:Value} (h:w.heap[g]? = some (.cells #[v0] t (0,0))):w.cell? ⟨g,0,none⟩=some v0∧w.frozen? ⟨g,0,none⟩=false:=⟨blk_cell h 0,blk_frozen h 0⟩
theorem cz6_ {w:World} {g:Nat} {t:TypeId} {v0 v1 v2 v3 v4 v5:Value} (h:w.heap[g]? = some (.cells #[v0,v1,v2,v3,v4,v5] t (0,0))):w.cell? ⟨g,0,none⟩=some v0∧w.cell? ⟨g,1,none⟩=some v1∧w.cell? ⟨g,2,none⟩=some v2∧w.cell? ⟨g,3,none⟩=some v3∧w.cell? ⟨g,4,none⟩=some v4∧w.cell? ⟨g,5,none⟩=some v5∧w.frozen? ⟨g,0,none⟩=false∧w.frozen? ⟨g,1,none⟩=false∧w.frozen? ⟨g,2,none⟩=false∧w.frozen? ⟨g,3,none⟩=false∧w.frozen? ⟨g,4,none⟩=false∧w.frozen? ⟨g,5,none⟩=false:=⟨blk_cell h 0,blk_cell h 1,blk_cell h 2,blk_cell h 3,blk_cell h 4,blk_cell h 5,blk_frozen h 0,blk_frozen h 1,blk_frozen h 2,blk_frozen h 3,blk_frozen h 4,blk_frozen h 5⟩
theorem put6_ {w:World} {g:Nat} {t:TypeId} {v0 v1 v2 v3 v4 v5 z0 z1 z2 z3 z4 z5:Value} (h:w.heap[g]? = some (.cells #[z0,z1,z2,z3,z4,z5] t (0,0))):((((((w.setCell ⟨g,0,none⟩ v0).setCell ⟨g,1,none⟩ v1).setCell ⟨g,2,none⟩ v2).setCell ⟨g,3,none⟩ v3).setCell ⟨g,4,none⟩ v4).setCell ⟨g,5,none⟩ v5).heap[g]? = some (.cells #[v0,v1,v2,v3,v4,v5] t (0,0)):=(blk_put (cs':=#[v0,v1,v2,v3,v4,v5]) (blk_put (cs':=#[v0,v1,v2,v3,v4,z5]) (blk_put (cs':=#[v0,v1,v2,v3,z4,z5]) (blk_put (cs':=#[v0,v1,v2,z3,z4,z5]) (blk_put (cs':=#[v0,v1,z2,z3,z4,z5]) (blk_put (cs':=#[v0,z1,z2,z3,z4,z5]) h 0 v0 rfl) 1 v1 rfl) 2 v2 rfl) 3 v3 rfl) 4 v4 rfl) 5 v5 rfl)
theorem z0_ {p:Prop} (f:p:=by first | rfl | (simp;done) | (simp [*];done) | (simp [bne];done)):p:=f
theorem z1_ {p:Prop} (f:p:=by repeat (first | exact Drawn0.refl _ | apply Drawn0.step)):p:=f
theorem z2_ {p:Prop} (f:p:=by first | (with_reducible assumption) | assumption):p:=f
theorem z3_ {a0 a1 p:Prop} (h0:a0) (h1:a1) (f:a0→a1→p:=by intro h0_ h1_;repeat (first | (with_reducible first | exact h0_ | apply below_alloc | apply pw_below_drewN | apply below_drew1 | refine below_set ?_ h1_) | exact h0_)):p:=f h0 h1
theorem z4_ {a0 a1 a2 p:Prop} (h0:a0) (h1:a1) (h2:a2) (f:a0→a1→a2→p:=by intro h0_ h1_ h2_;repeat (first | (with_reducible first | exact h0_ | apply below_alloc | apply pw_below_drewN | apply below_drew1 | refine below_set ?_ h1_ | refine below_set ?_ h2_) | exact h0_)):p:=f h0 h1 h2
theorem z5_ {a0 p:Prop} (h0:a0) (f:a0→p:=by intro h0_;(with_reducible repeat (first | refine blk_drewN ?_ _ | refine blk_drew ?_ | refine blk_alloc ?_ _));exact h0_):p:=f h0
theorem z6_ {p:Prop} (f:p:=by first | rfl | (simp [errW_none,errW_some] <;> rfl) | (simp [*,errW_none,errW_some] <;> rfl)):p:=f
theorem z7_ {a0 p:Prop} (h0:a0) (f:a0→p:=by intro h0_;repeat (first | (with_reducible first | exact h0_ | apply below_alloc | apply pw_below_drewN | apply below_drew1) | exact h0_)):p:=f h0
theorem z8_ {a0 p:Prop} (h0:a0) (f:a0→p:=by intro h0_;rw [hg];exact (below_size (by repeat (first | (with_reducible first | exact h0_ | apply below_alloc | apply pw_below_drewN | apply below_drew1) | exact h0_)))):p:=f h0
theorem z9_ {p:Prop} (f:p:=by first | rfl | (simp [errW_none,errW_some] <;> rfl) | (simp only [← hji16];first | rfl | (simp [errW_none,errW_some] <;> rfl)) | (simp [*,errW_none,errW_some] <;> rfl)):p:=f
theorem z10_ {a0 p:Prop} (h0:a0) (f:a0→p:=by intro h0_;(with_reducible repeat (first | apply Kd.R_alloc | apply Kd.R_drewN | apply Kd.R_drew));exact h0_):p:=f h0
theorem z11_ {a0 p:Prop} (h0:a0) (f:a0→p:=by intro h0_;have:=h0_;first | omega | exact Nat.le_refl _):p:=f h0
theorem z12_ {a0 a1 p:Prop} (h0:a0) (h1:a1) (f:a0→a1→p:=by intro h0_ h1_;rw [hg];exact (below_size (by repeat (first | (with_reducible first | exact h0_ | apply below_alloc | apply pw_below_drewN | apply below_drew1 | refine below_set ?_ h1_) | exact h0_)))):p:=f h0 h1
theorem z13_ {p:Prop} (f:p:=by have:(0:Int)<(a0.size:Int):=dT (by first | (with_reducible assumption) | assumption);omega):p:=f
theorem z14_ {p:Prop} (f:p:=by first | rfl | (simp only [List.map_toArray,List.map_cons,List.map_nil,List.append_toArray,List.cons_append,List.nil_append];first | done | rfl)):p:=f
theorem z15_ {p:Prop} (f:p:=by (try simp only [List.map_toArray,List.map_cons,List.map_nil]);first | done | rfl | (simp only [List.length_drop,List.length_take];rfl)):p:=f
end Go.Proofs.Ytmefchanjoadfaa.P

namespace Go.Proofs.Ytmefchanjoadfaa.Open
open Go.RowKit Go.Proofs.YtmefchanjoadfaaW.PrintWords

def Opens {α:Type} (P:Program) (t:TypeId) (d:Kd α) (wf:α→Prop):Prop :=
  ∀ {H:Type} {enc:TypeId × Value→H} {W:World} {base:Nat} {spare:Nat→Bool} {held:Bool} {fuel:Nat} {cs:List Value} {x:DataW H × List MemPlace},
    DataW.trod enc P W base spare held fuel t cs=some x→∃ a:α,d.K W a cs∧wf a
section
variable {P:Program} {t e:TypeId} {α β:Type} {d:Kd α} {d':Kd β} {wf:α→Prop} {wf':β→Prop}
theorem opens_int {k:IntKind} (ht:P.underlying t=some (.int k)):Opens P t (Kd.int k) (fun n=>(Lit.int k n).wf=true):=by
  intro H enc W base spare held fuel cs x h
  obtain ⟨n,rfl,_,hw⟩:=DataW.trod_int ht h
  exact ⟨n,rfl,hw⟩
theorem opens_string (ht:P.underlying t=some .string):Opens P t Kd.string (fun s=>s.size≤maxLen):=by
  intro H enc W base spare held fuel cs x h
  obtain ⟨n,rfl,_,hw⟩:=DataW.trod_string ht h
  exact ⟨n,rfl,hw⟩
/-- The fields from one on. -/
def OpensF {α:Type} (P:Program) (fs:List Field) (off:Nat) (d:Kd α) (wf:α→Prop):Prop :=
  ∀ {H:Type} {enc:TypeId × Value→H} {W:World} {base:Nat} {spare:Nat→Bool} {held:Bool} {n:Nat} {cs:List Value},
    (∀ (i:Nat) (f:Field),fs[i]? = some f→∃ y,DataW.trod enc P W base spare held n f.type ((cs.drop f.offset).take (P.cellsOf f.type))=some y)→cs.length=off+d.sz→∃ a:α,d.K W a (cs.drop off)∧wf a
theorem opensF_one {f:Field} {off:Nat} (ho:f.offset=off) (hs:P.cellsOf f.type=d.sz) (he:Opens P f.type d wf):OpensF P [f] off d wf:=by
  intro H enc W base spare held n cs h hl
  obtain ⟨y,hy⟩:=h 0 f rfl
  rw [ho,hs,List.take_of_length_le (by rw [List.length_drop];omega)] at hy
  exact he hy
theorem opensF_cons {f:Field} {fs:List Field} {off:Nat} (ho:f.offset=off) (hs:P.cellsOf f.type=d.sz) (he:Opens P f.type d wf) (hf:OpensF P fs (off+d.sz) d' wf') :
    OpensF P (f :: fs) off (Kd.pair d d') (fun x=>wf x.1∧wf' x.2):=by
  intro H enc W base spare held n cs h hl
  have hl':cs.length=off+(d.sz+d'.sz):=hl
  obtain ⟨y,hy⟩:=h 0 f rfl
  rw [ho,hs] at hy
  obtain ⟨a,ha,hw⟩:=he hy
  obtain ⟨b,hb,hw'⟩:=hf (cs:=cs) (fun i g hg=>h (i+1) g hg) (by omega)
  refine ⟨(a,b),⟨(cs.drop off).take d.sz,cs.drop (off+d.sz),?_,ha,hb⟩,hw,hw'⟩
  rw [← List.drop_drop,List.take_append_drop]
theorem opens_struct {fs:Array Field} (ht:P.underlying t=some (.struct fs)) (hc:P.cellsOf t=d.sz) (hf:OpensF P fs.toList 0 d wf):Opens P t d wf:=by
  intro H enc W base spare held fuel cs x h
  obtain ⟨xs,n,_,_,hl,hx,hall⟩:=DataW.trod_struct ht h
  have:=hf (H:=H) (enc:=enc) (W:=W) (base:=base) (spare:=spare) (held:=held) (n:=n) (cs:=cs) (fun i f hi=>by
    have h1:=hall i f (by simpa using hi)
    have hi2:i<xs.length:=by
      rw [hx]
      have:=(List.getElem?_eq_some_iff.1 hi).1
      simpa using this
    exact ⟨xs[i],by rw [h1];exact List.getElem?_eq_getElem hi2⟩) (by rw [hl,hc];omega)
  simpa using this
theorem opens_iso {f:β→α} {g:α→β} (hg:∀ y,f (g y)=y) (h:Opens P t d wf):Opens P t (Kd.iso d f) (fun x=>wf (f x)):=by
  intro H enc W base spare held fuel cs x hx
  obtain ⟨a,ha,hw⟩:=h hx
  exact ⟨g a,by show d.K W (f (g a)) cs;rw [hg];exact ha,by show wf (f (g a));rw [hg];exact hw⟩
end
end Go.Proofs.Ytmefchanjoadfaa.Open

namespace Go.Proofs.Ytmefchanjoadfaa.RO
open Go.RowKit Go.Proofs.Ytmefchanjoadfaa.Open Go.Proofs.Ytmefchanjoadfaa.P Go.Proofs.YtmefchanjoadfaaW.PrintWords
set_option linter.unusedVariables false

def wfT23 (x:S23):Prop:=(Lit.int .i64 x.f0).wf=true∧(Lit.int .i64 x.f1).wf=true∧(Lit.int .i64 x.f2).wf=true∧x.f3.size≤maxLen∧x.f4.size≤maxLen∧(Lit.int .i64 x.f5).wf=true
theorem op_T23:Opens Try.prog 23 k23 wfT23:=opens_iso (f:=fun x:S23=>(x.f0,x.f1,x.f2,x.f3,x.f4,x.f5)) (g:=fun p_=>(⟨p_.1,p_.2.1,p_.2.2.1,p_.2.2.2.1,p_.2.2.2.2.1,p_.2.2.2.2.2⟩:S23)) (fun _=>rfl) (opens_struct Try.underlying23 (by kernel_rfl) (opensF_cons rfl (by kernel_rfl) (opens_int Try.underlying2) (opensF_cons rfl (by kernel_rfl) (opens_int Try.underlying2) (opensF_cons rfl (by kernel_rfl) (opens_int Try.underlying2) (opensF_cons rfl (by kernel_rfl) (opens_string Try.underlying9) (opensF_cons rfl (by kernel_rfl) (opens_string Try.underlying9) (opensF_one rfl (by kernel_rfl) (opens_int Try.underlying2))))))))
end Go.Proofs.Ytmefchanjoadfaa.RO

namespace Go.Proofs.Ytmefchanjoadfaa.P
open Go.RowKit Go.Proofs.YtmefchanjoadfaaW.PrintWords Go.Proofs.YtmefchanjoadfaaW.PrintLast Go.Proofs.YtmefchanjoadfaaW.PrintMore
attribute [local go_sem] max2_int min2_int max_two min_two max_three min_three max_four min_four   -- for this text's walks alone
set_option linter.unusedVariables false
set_option linter.unusedSimpArgs false

/-! ### Y40: function 6 -/
def Y40.f (a0_0:Int) (a0_1:Int) (a0_2:Int) (a0_3:ByteArray) (a0_4:ByteArray) (a0_5:Int) (a1:Int):Option (Int):=if (wrap64 (a1-(a0_3.size:Int)))<0 then (some (-1)) else (if (wrap64 ((wrap64 (a1-(a0_3.size:Int)))-(a0_4.size:Int)))<0 then (some (-1)) else (some (wrap64 ((wrap64 (a1-(a0_3.size:Int)))-(a0_4.size:Int)))))
theorem Y40.calls (a0_0:Int) (a0_1:Int) (a0_2:Int) (a0_3:ByteArray) (a0_4:ByteArray) (a0_5:Int) (a1:Int) (r:Int) (w:World) (h:Y40.f a0_0 a0_1 a0_2 a0_3 a0_4 a0_5 a1=some r) :
  Calls Try.prog 6 #[.agg #[.int .i64 a0_0,.int .i64 a0_1,.int .i64 a0_2,.string a0_3,.string a0_4,.int .i64 a0_5],.int .i64 a1] w fun e w'=>e = .returned (.int .i64 r)∧Below w.heap.size w w':=by
 have hu23:=Try.underlying23
 have HB:=aM (Below.refl w.heap.size w)
 have H:(if (wrap64 (a1-(a0_3.size:Int)))<0 then (some (-1)) else (if (wrap64 ((wrap64 (a1-(a0_3.size:Int)))-(a0_4.size:Int)))<0 then (some (-1)) else (some (wrap64 ((wrap64 (a1-(a0_3.size:Int)))-(a0_4.size:Int))))))=some r:=h
 clear h
 by_cases c3:(wrap64 (a1-(a0_3.size:Int)))<0
 ·rw [if_pos c3] at H
  have c3b0:decide ((wrap64 (a1-(a0_3.size:Int)))<0)=true:=dE c3
  clear c3
  obtain rfl:=sI H
  go_enter Try.func6,Try.ntmps6
  go_wp2_with (first | ((with_reducible refine gd_ 2 ?_);refine be_ 2 #[.int .i64 a0_0,.int .i64 a0_1,.int .i64 a0_2,.string a0_3,.string a0_4,.int .i64 a0_5] 23 ?_;intro gb101 hg w4 hbox hb;have n0_:=aM (below_step (z7_ HB.out) hb);have n1_:=aM (hbox);have n2_:=aM ((z8_ HB.out:w.heap.size≤gb101));have n3_:=aM ((z8_ HB.out:w.heap.size≤gb101));clear HB;have HB:=n0_;have BK101:=n1_;have GW101:=n2_;have GE101:=n3_;clear n0_ n1_ n2_ n3_;clear hb hbox hg;have ⟨hcz5_0,hcz5_1,hcz5_2,hcz5_3,hcz5_4,hcz5_5,hfz5_0,hfz5_1,hfz5_2,hfz5_3,hfz5_4,hfz5_5⟩:=cz6_ BK101.out))
  go_ret
  exact ⟨z6_,z3_ HB.out GE101.out⟩
 ·rw [if_neg c3] at H
  have c3b0:decide ((wrap64 (a1-(a0_3.size:Int)))<0)=false:=dF c3
  clear c3
  by_cases c6:(wrap64 ((wrap64 (a1-(a0_3.size:Int)))-(a0_4.size:Int)))<0
  ·rw [if_pos c6] at H
   have c6b0:decide ((wrap64 ((wrap64 (a1-(a0_3.size:Int)))-(a0_4.size:Int)))<0)=true:=dE c6
   clear c6
   obtain rfl:=sI H
   go_enter Try.func6,Try.ntmps6
   go_wp2_with (first | ((with_reducible refine gd_ 2 ?_);refine be_ 2 #[.int .i64 a0_0,.int .i64 a0_1,.int .i64 a0_2,.string a0_3,.string a0_4,.int .i64 a0_5] 23 ?_;intro gb101 hg w7 hbox hb;have n0_:=aM (below_step (z7_ HB.out) hb);have n1_:=aM (hbox);have n2_:=aM ((z8_ HB.out:w.heap.size≤gb101));have n3_:=aM ((z8_ HB.out:w.heap.size≤gb101));clear HB;have HB:=n0_;have BK101:=n1_;have GW101:=n2_;have GE101:=n3_;clear n0_ n1_ n2_ n3_;clear hb hbox hg;have ⟨hcz8_0,hcz8_1,hcz8_2,hcz8_3,hcz8_4,hcz8_5,hfz8_0,hfz8_1,hfz8_2,hfz8_3,hfz8_4,hfz8_5⟩:=cz6_ BK101.out))
   go_ret
   exact ⟨z6_,z3_ HB.out GE101.out⟩
  ·rw [if_neg c6] at H
   have c6b0:decide ((wrap64 ((wrap64 (a1-(a0_3.size:Int)))-(a0_4.size:Int)))<0)=false:=dF c6
   clear c6
   obtain rfl:=sI H
   go_enter Try.func6,Try.ntmps6
   go_wp2_with (first | ((with_reducible refine gd_ 2 ?_);refine be_ 2 #[.int .i64 a0_0,.int .i64 a0_1,.int .i64 a0_2,.string a0_3,.string a0_4,.int .i64 a0_5] 23 ?_;intro gb101 hg w9 hbox hb;have n0_:=aM (below_step (z7_ HB.out) hb);have n1_:=aM (hbox);have n2_:=aM ((z8_ HB.out:w.heap.size≤gb101));have n3_:=aM ((z8_ HB.out:w.heap.size≤gb101));clear HB;have HB:=n0_;have BK101:=n1_;have GW101:=n2_;have GE101:=n3_;clear n0_ n1_ n2_ n3_;clear hb hbox hg;have ⟨hcz10_0,hcz10_1,hcz10_2,hcz10_3,hcz10_4,hcz10_5,hfz10_0,hfz10_1,hfz10_2,hfz10_3,hfz10_4,hfz10_5⟩:=cz6_ BK101.out))
   go_ret
   exact ⟨z6_,z3_ HB.out GE101.out⟩


/-! ### Y11: function 43 -/
def Y11.j0:Nat→Int→Bool→Option (Bool × Bool × Bool × Bool)
 | 0,_,_=>none
 | k+1,x6,x15=>if x15=true then (some (false,false,false,false)) else (if x6=16 then (some (false,false,true,false)) else (if x6=17 then (some (true,true,false,false)) else (some (true,false,false,false))))
def Y11.f (k:Nat) (a0:Int):Option (Bool × Bool × Bool × Bool):=if a0=1 then (some (true,false,true,true)) else (if a0=2 then (some (true,true,true,true)) else (if a0=3 then (some (true,true,true,false)) else (if a0=4 then (some (true,false,true,false)) else (if a0=8 then (Y11.j0 k a0 (a0 == 8)) else (Y11.j0 k a0 (a0 == 15))))))
theorem Y11.mono_l:∀ k,(∀ y0 y1,LeO (Y11.j0 k y0 y1) (Y11.j0 (k+1) y0 y1))
 | 0=>by intros <;> exact LeO.none _
 | k+1=>by
  have ih0:=Y11.mono_l k
  ·intros
   unfold Y11.j0
   exact mO
theorem Y11.mono:∀ a0 k,LeO (Y11.f k a0) (Y11.f (k+1) a0):=by
 intro a0 k
 have ih0:=Y11.mono_l k
 unfold Y11.f
 exact mO
theorem Y11.calls (k:Nat) (a0:Int) (r1:Bool) (r2:Bool) (r3:Bool) (r4:Bool) (w:World) (h:Y11.f k a0=some (r1,r2,r3,r4)) :
  Calls Try.prog 43 #[.int .i64 a0] w fun e w'=>e = .returned (.tuple #[.bool r1,.bool r2,.bool r3,.bool r4])∧Drawn0 w w':=by
 have H:(if a0=1 then (some (true,false,true,true)) else (if a0=2 then (some (true,true,true,true)) else (if a0=3 then (some (true,true,true,false)) else (if a0=4 then (some (true,false,true,false)) else (if a0=8 then (Y11.j0 k a0 (a0 == 8)) else (Y11.j0 k a0 (a0 == 15)))))))=some (r1,r2,r3,r4):=h
 clear h
 by_cases c2:a0=1
 ·rw [if_pos c2] at H
  have c2b0:(a0 == 1)=true:=beq_iff_eq.mpr c2
  have c2b1:(a0 != 1)=false:=bne_eq_false_iff_eq.mpr c2
  clear c2
  simp only [Option.some.injEq,Prod.mk.injEq] at H
  obtain ⟨rfl,rfl,rfl,rfl⟩:=H
  go_enter Try.func43,Try.ntmps43
  go_wp2
  refine bodyPost_ret (results_list (rs:=[.tmp 2,.tmp 3,.tmp 4,.tmp 5]) rfl (by simp) (.tmp (.tmp (.tmp (.tmp .nil))))) rfl ?_
  exact ⟨z0_,z1_⟩
 ·rw [if_neg c2] at H
  have c2b0:(a0 == 1)=false:=beq_eq_false_iff_ne.mpr c2
  have c2b1:(a0 != 1)=true:=bne_iff_ne.mpr c2
  by_cases c3:a0=2
  ·rw [if_pos c3] at H
   have c3b0:(a0 == 2)=true:=beq_iff_eq.mpr c3
   have c3b1:(a0 != 2)=false:=bne_eq_false_iff_eq.mpr c3
   clear c3
   simp only [Option.some.injEq,Prod.mk.injEq] at H
   obtain ⟨rfl,rfl,rfl,rfl⟩:=H
   go_enter Try.func43,Try.ntmps43
   go_wp2
   refine bodyPost_ret (results_list (rs:=[.tmp 2,.tmp 3,.tmp 4,.tmp 5]) rfl (by simp) (.tmp (.tmp (.tmp (.tmp .nil))))) rfl ?_
   exact ⟨z0_,z1_⟩
  ·rw [if_neg c3] at H
   have c3b0:(a0 == 2)=false:=beq_eq_false_iff_ne.mpr c3
   have c3b1:(a0 != 2)=true:=bne_iff_ne.mpr c3
   by_cases c4:a0=3
   ·rw [if_pos c4] at H
    have c4b0:(a0 == 3)=true:=beq_iff_eq.mpr c4
    have c4b1:(a0 != 3)=false:=bne_eq_false_iff_eq.mpr c4
    clear c4
    simp only [Option.some.injEq,Prod.mk.injEq] at H
    obtain ⟨rfl,rfl,rfl,rfl⟩:=H
    go_enter Try.func43,Try.ntmps43
    go_wp2
    refine bodyPost_ret (results_list (rs:=[.tmp 2,.tmp 3,.tmp 4,.tmp 5]) rfl (by simp) (.tmp (.tmp (.tmp (.tmp .nil))))) rfl ?_
    exact ⟨z0_,z1_⟩
   ·rw [if_neg c4] at H
    have c4b0:(a0 == 3)=false:=beq_eq_false_iff_ne.mpr c4
    have c4b1:(a0 != 3)=true:=bne_iff_ne.mpr c4
    by_cases c5:a0=4
    ·rw [if_pos c5] at H
     have c5b0:(a0 == 4)=true:=beq_iff_eq.mpr c5
     have c5b1:(a0 != 4)=false:=bne_eq_false_iff_eq.mpr c5
     clear c5
     simp only [Option.some.injEq,Prod.mk.injEq] at H
     obtain ⟨rfl,rfl,rfl,rfl⟩:=H
     go_enter Try.func43,Try.ntmps43
     go_wp2
     refine bodyPost_ret (results_list (rs:=[.tmp 2,.tmp 3,.tmp 4,.tmp 5]) rfl (by simp) (.tmp (.tmp (.tmp (.tmp .nil))))) rfl ?_
     exact ⟨z0_,z1_⟩
    ·rw [if_neg c5] at H
     have c5b0:(a0 == 4)=false:=beq_eq_false_iff_ne.mpr c5
     have c5b1:(a0 != 4)=true:=bne_iff_ne.mpr c5
     have HC6:=aM H
     clear H
     go_enter Try.func43,Try.ntmps43
     go_upto_if 15 with (fail)
     go_cut [15] (fun v15 wc=>∃ (kq:Nat) (x15_5:Bool),v15 = .bool x15_5∧Aside0 (Y11.j0 kq a0 x15_5=some (r1,r2,r3,r4))∧Aside0 (kq≤k)∧Drawn0 w wc)
     case first =>
      have H:=HC6.out
      clear HC6
      by_cases c7:a0=8
      ·rw [if_pos c7] at H
       have c7b0:(a0 == 8)=true:=beq_iff_eq.mpr c7
       have c7b1:(a0 != 8)=false:=bne_eq_false_iff_eq.mpr c7
       clear c7
       (first | rw [c7b0] | (simp only [i64_w,i32_w];rw [c7b0]) | skip)
       have H':=aM H
       clear H
       go_wp2
       go_meet
       case rel=>exact ⟨_,((a0 == 8)),(z0_),H',⟨by first | omega | exact Nat.le_refl _⟩,z1_⟩
      ·rw [if_neg c7] at H
       have c7b0:(a0 == 8)=false:=beq_eq_false_iff_ne.mpr c7
       have c7b1:(a0 != 8)=true:=bne_iff_ne.mpr c7
       (first | rw [c7b0] | (simp only [i64_w,i32_w];rw [c7b0]) | skip)
       have H':=aM H
       clear H
       go_wp2
       go_meet
       case rel=>exact ⟨_,((a0 == 15)),(z0_),H',⟨by first | omega | exact Nat.le_refl _⟩,z1_⟩
     case rest =>
      clear HC6
      try clear c2
      try clear c2b0
      try clear c2b1
      try clear p2
      try clear c3
      try clear c3b0
      try clear c3b1
      try clear c4
      try clear c4b0
      try clear c4b1
      try clear c5
      try clear c5b0
      try clear c5b1
      try clear c7
      try clear c7b0
      try clear c7b1
      obtain ⟨kq,x15_5,rfl,HA,HJ5,⟨mc5,rfl⟩⟩:=hcut
      cases kq with
      | zero=>exact absurd HA.out (by simp [Y11.j0])
      | succ kj5 =>
       have H:=HA.out
       clear HA
       simp only [Y11.j0] at H
       by_cases c8:x15_5=true
       ·subst c8
        have H1:(some (false,false,false,false))=some (r1,r2,r3,r4):=by rw [if_pos rfl] at H;exact H
        clear H
        have H:=H1
        clear H1
        simp only [Option.some.injEq,Prod.mk.injEq] at H
        obtain ⟨rfl,rfl,rfl,rfl⟩:=H
        go_wp2
        refine bodyPost_ret (results_list (rs:=[.tmp 2,.tmp 3,.tmp 4,.tmp 5]) rfl (by simp) (.tmp (.tmp (.tmp (.tmp .nil))))) rfl ?_
        exact ⟨z0_,z1_⟩
       ·replace c8:=Bool.eq_false_iff.mpr c8
        subst c8
        have H1:(if a0=16 then (some (false,false,true,false)) else (if a0=17 then (some (true,true,false,false)) else (some (true,false,false,false))))=some (r1,r2,r3,r4):=by rw [if_neg (show ¬ (false=true) by decide)] at H;exact H
        clear H
        have H:=H1
        clear H1
        by_cases c9:a0=16
        ·rw [if_pos c9] at H
         have c9b0:(a0 == 16)=true:=beq_iff_eq.mpr c9
         have c9b1:(a0 != 16)=false:=bne_eq_false_iff_eq.mpr c9
         clear c9
         simp only [Option.some.injEq,Prod.mk.injEq] at H
         obtain ⟨rfl,rfl,rfl,rfl⟩:=H
         go_wp2
         refine bodyPost_ret (results_list (rs:=[.tmp 2,.tmp 3,.tmp 4,.tmp 5]) rfl (by simp) (.tmp (.tmp (.tmp (.tmp .nil))))) rfl ?_
         exact ⟨z0_,z1_⟩
        ·rw [if_neg c9] at H
         have c9b0:(a0 == 16)=false:=beq_eq_false_iff_ne.mpr c9
         have c9b1:(a0 != 16)=true:=bne_iff_ne.mpr c9
         by_cases c10:a0=17
         ·rw [if_pos c10] at H
          have c10b0:(a0 == 17)=true:=beq_iff_eq.mpr c10
          have c10b1:(a0 != 17)=false:=bne_eq_false_iff_eq.mpr c10
          clear c10
          simp only [Option.some.injEq,Prod.mk.injEq] at H
          obtain ⟨rfl,rfl,rfl,rfl⟩:=H
          go_wp2
          refine bodyPost_ret (results_list (rs:=[.tmp 2,.tmp 3,.tmp 4,.tmp 5]) rfl (by simp) (.tmp (.tmp (.tmp (.tmp .nil))))) rfl ?_
          exact ⟨z0_,z1_⟩
         ·rw [if_neg c10] at H
          have c10b0:(a0 == 17)=false:=beq_eq_false_iff_ne.mpr c10
          have c10b1:(a0 != 17)=true:=bne_iff_ne.mpr c10
          simp only [Option.some.injEq,Prod.mk.injEq] at H
          obtain ⟨rfl,rfl,rfl,rfl⟩:=H
          go_wp2
          refine bodyPost_ret (results_list (rs:=[.tmp 2,.tmp 3,.tmp 4,.tmp 5]) rfl (by simp) (.tmp (.tmp (.tmp (.tmp .nil))))) rfl ?_
          exact ⟨z0_,z1_⟩


/-! ### Y9: function 44 -/
def Y9.j0:Nat→Int→List ByteArray→Bool→Option (ByteArray)
 | 0,_,_,_=>none
 | k+1,x0,x3,x12=>if x12=true then (some (⟨#[]⟩:ByteArray)) else (if 0≤x0 then (if x0<(x3.length:Int) then (some (rdOf ByteArray.empty x3 x0)) else (none)) else (none))
def Y9.f (k:Nat) (a0:Int):Option (ByteArray):=(some (([(⟨#[]⟩:ByteArray),(⟨#[112,117,116]⟩:ByteArray),(⟨#[111,118,101,114]⟩:ByteArray),(⟨#[100,101,108]⟩:ByteArray),(⟨#[103,101,116]⟩:ByteArray),(⟨#[100,101,108,105,118,101,114]⟩:ByteArray),(⟨#[108,111,115,101]⟩:ByteArray),(⟨#[116,119,105,99,101]⟩:ByteArray),(⟨#[116,105,99,107]⟩:ByteArray),(⟨#[99,114,97,115,104]⟩:ByteArray),(⟨#[115,116,97,114,116]⟩:ByteArray),(⟨#[115,117,115,112,101,99,116]⟩:ByteArray),(⟨#[116,114,117,115,116]⟩:ByteArray),(⟨#[104,97,110,100]⟩:ByteArray),(⟨#[112,97,99,107]⟩:ByteArray),(⟨#[115,101,116,116,108,101]⟩:ByteArray),(⟨#[115,112,114,101,97,100]⟩:ByteArray),(⟨#[101,120,99,104,97,110,103,101]⟩:ByteArray)]:List ByteArray):List ByteArray)).bind fun y102=>(if a0<1 then (Y9.j0 k a0 y102 true) else (Y9.j0 k a0 y102 (decide (a0≥(y102.length:Int)))))
theorem Y9.mono_l:∀ k,(∀ y0 y1 y2,LeO (Y9.j0 k y0 y1 y2) (Y9.j0 (k+1) y0 y1 y2))
 | 0=>by intros <;> exact LeO.none _
 | k+1=>by
  have ih0:=Y9.mono_l k
  ·intros
   unfold Y9.j0
   exact mO
theorem Y9.mono:∀ a0 k,LeO (Y9.f k a0) (Y9.f (k+1) a0):=by
 intro a0 k
 have ih0:=Y9.mono_l k
 unfold Y9.f
 exact mO
theorem Y9.calls (k:Nat) (a0:Int) (r:ByteArray) (w:World) (h:Y9.f k a0=some r) :
  Calls Try.prog 44 #[.int .i64 a0] w fun e w'=>e = .returned (.string r)∧Below w.heap.size w w':=by
 have HB:=aM (Below.refl w.heap.size w)
 have H:((some (([(⟨#[]⟩:ByteArray),(⟨#[112,117,116]⟩:ByteArray),(⟨#[111,118,101,114]⟩:ByteArray),(⟨#[100,101,108]⟩:ByteArray),(⟨#[103,101,116]⟩:ByteArray),(⟨#[100,101,108,105,118,101,114]⟩:ByteArray),(⟨#[108,111,115,101]⟩:ByteArray),(⟨#[116,119,105,99,101]⟩:ByteArray),(⟨#[116,105,99,107]⟩:ByteArray),(⟨#[99,114,97,115,104]⟩:ByteArray),(⟨#[115,116,97,114,116]⟩:ByteArray),(⟨#[115,117,115,112,101,99,116]⟩:ByteArray),(⟨#[116,114,117,115,116]⟩:ByteArray),(⟨#[104,97,110,100]⟩:ByteArray),(⟨#[112,97,99,107]⟩:ByteArray),(⟨#[115,101,116,116,108,101]⟩:ByteArray),(⟨#[115,112,114,101,97,100]⟩:ByteArray),(⟨#[101,120,99,104,97,110,103,101]⟩:ByteArray)]:List ByteArray):List ByteArray)).bind fun y102=>(if a0<1 then (Y9.j0 k a0 y102 true) else (Y9.j0 k a0 y102 (decide (a0≥(y102.length:Int))))))=some r:=h
 clear h
 obtain ⟨y102,hy102⟩:∃ y_:List ByteArray,y_=(([(⟨#[]⟩:ByteArray),(⟨#[112,117,116]⟩:ByteArray),(⟨#[111,118,101,114]⟩:ByteArray),(⟨#[100,101,108]⟩:ByteArray),(⟨#[103,101,116]⟩:ByteArray),(⟨#[100,101,108,105,118,101,114]⟩:ByteArray),(⟨#[108,111,115,101]⟩:ByteArray),(⟨#[116,119,105,99,101]⟩:ByteArray),(⟨#[116,105,99,107]⟩:ByteArray),(⟨#[99,114,97,115,104]⟩:ByteArray),(⟨#[115,116,97,114,116]⟩:ByteArray),(⟨#[115,117,115,112,101,99,116]⟩:ByteArray),(⟨#[116,114,117,115,116]⟩:ByteArray),(⟨#[104,97,110,100]⟩:ByteArray),(⟨#[112,97,99,107]⟩:ByteArray),(⟨#[115,101,116,116,108,101]⟩:ByteArray),(⟨#[115,112,114,101,97,100]⟩:ByteArray),(⟨#[101,120,99,104,97,110,103,101]⟩:ByteArray)]:List ByteArray)):=⟨_,rfl⟩
 replace H:(if a0<1 then (Y9.j0 k a0 y102 true) else (Y9.j0 k a0 y102 (decide (a0≥(y102.length:Int)))))=some r:=by first | (rw [hy102];with_reducible exact H) | (have H2_:=(Option.bind_some _ _).symm.trans H;rw [hy102];with_reducible exact H2_) | (have H2_:=(Option.bind_some _ _).symm.trans H;with_reducible exact H2_) | with_reducible exact H | (rw [hy102];exact H) | exact H
 have Ny102:=aM hy102
 clear hy102
 have HC2:=aM H
 clear H
 go_enter Try.func44,Try.ntmps44
 go_upto_region 2 with (first | ((with_reducible refine gd_ 4 ?_);(try (refine gate_guard (by rfl) ?_;dsimp only));refine Kd.R_lit Kd.string _ 9 ?hg (N:=4) ?hd (xs:=([(⟨#[]⟩:ByteArray),(⟨#[112,117,116]⟩:ByteArray),(⟨#[111,118,101,114]⟩:ByteArray),(⟨#[100,101,108]⟩:ByteArray),(⟨#[103,101,116]⟩:ByteArray),(⟨#[100,101,108,105,118,101,114]⟩:ByteArray),(⟨#[108,111,115,101]⟩:ByteArray),(⟨#[116,119,105,99,101]⟩:ByteArray),(⟨#[116,105,99,107]⟩:ByteArray),(⟨#[99,114,97,115,104]⟩:ByteArray),(⟨#[115,116,97,114,116]⟩:ByteArray),(⟨#[115,117,115,112,101,99,116]⟩:ByteArray),(⟨#[116,114,117,115,116]⟩:ByteArray),(⟨#[104,97,110,100]⟩:ByteArray),(⟨#[112,97,99,107]⟩:ByteArray),(⟨#[115,101,116,116,108,101]⟩:ByteArray),(⟨#[115,112,114,101,97,100]⟩:ByteArray),(⟨#[101,120,99,104,97,110,103,101]⟩:ByteArray)]:List ByteArray)) (inner:=[.string (⟨#[]⟩:ByteArray),.string (⟨#[112,117,116]⟩:ByteArray),.string (⟨#[111,118,101,114]⟩:ByteArray),.string (⟨#[100,101,108]⟩:ByteArray),.string (⟨#[103,101,116]⟩:ByteArray),.string (⟨#[100,101,108,105,118,101,114]⟩:ByteArray),.string (⟨#[108,111,115,101]⟩:ByteArray),.string (⟨#[116,119,105,99,101]⟩:ByteArray),.string (⟨#[116,105,99,107]⟩:ByteArray),.string (⟨#[99,114,97,115,104]⟩:ByteArray),.string (⟨#[115,116,97,114,116]⟩:ByteArray),.string (⟨#[115,117,115,112,101,99,116]⟩:ByteArray),.string (⟨#[116,114,117,115,116]⟩:ByteArray),.string (⟨#[104,97,110,100]⟩:ByteArray),.string (⟨#[112,97,99,107]⟩:ByteArray),.string (⟨#[115,101,116,116,108,101]⟩:ByteArray),.string (⟨#[115,112,114,101,97,100]⟩:ByteArray),.string (⟨#[101,120,99,104,97,110,103,101]⟩:ByteArray)]) (ok:=fun _=>True) (okp:=fun _=>True) ?hr ?hp (fun _ hk=>hk) trivial (Below.refl _ _) (Nat.le_refl _) (by simp) ?_;(case hd=>rfl);(case hg=>rfl);(case hr=>first | (go_simp;done) | (go_simp;rfl));(case hp=>exact (Reps.one (show Kd.M Kd.string _ _ _ (⟨#[]⟩:ByteArray) [.string (⟨#[]⟩:ByteArray)] from rfl) (Reps.one (show Kd.M Kd.string _ _ _ (⟨#[112,117,116]⟩:ByteArray) [.string (⟨#[112,117,116]⟩:ByteArray)] from rfl) (Reps.one (show Kd.M Kd.string _ _ _ (⟨#[111,118,101,114]⟩:ByteArray) [.string (⟨#[111,118,101,114]⟩:ByteArray)] from rfl) (Reps.one (show Kd.M Kd.string _ _ _ (⟨#[100,101,108]⟩:ByteArray) [.string (⟨#[100,101,108]⟩:ByteArray)] from rfl) (Reps.one (show Kd.M Kd.string _ _ _ (⟨#[103,101,116]⟩:ByteArray) [.string (⟨#[103,101,116]⟩:ByteArray)] from rfl) (Reps.one (show Kd.M Kd.string _ _ _ (⟨#[100,101,108,105,118,101,114]⟩:ByteArray) [.string (⟨#[100,101,108,105,118,101,114]⟩:ByteArray)] from rfl) (Reps.one (show Kd.M Kd.string _ _ _ (⟨#[108,111,115,101]⟩:ByteArray) [.string (⟨#[108,111,115,101]⟩:ByteArray)] from rfl) (Reps.one (show Kd.M Kd.string _ _ _ (⟨#[116,119,105,99,101]⟩:ByteArray) [.string (⟨#[116,119,105,99,101]⟩:ByteArray)] from rfl) (Reps.one (show Kd.M Kd.string _ _ _ (⟨#[116,105,99,107]⟩:ByteArray) [.string (⟨#[116,105,99,107]⟩:ByteArray)] from rfl) (Reps.one (show Kd.M Kd.string _ _ _ (⟨#[99,114,97,115,104]⟩:ByteArray) [.string (⟨#[99,114,97,115,104]⟩:ByteArray)] from rfl) (Reps.one (show Kd.M Kd.string _ _ _ (⟨#[115,116,97,114,116]⟩:ByteArray) [.string (⟨#[115,116,97,114,116]⟩:ByteArray)] from rfl) (Reps.one (show Kd.M Kd.string _ _ _ (⟨#[115,117,115,112,101,99,116]⟩:ByteArray) [.string (⟨#[115,117,115,112,101,99,116]⟩:ByteArray)] from rfl) (Reps.one (show Kd.M Kd.string _ _ _ (⟨#[116,114,117,115,116]⟩:ByteArray) [.string (⟨#[116,114,117,115,116]⟩:ByteArray)] from rfl) (Reps.one (show Kd.M Kd.string _ _ _ (⟨#[104,97,110,100]⟩:ByteArray) [.string (⟨#[104,97,110,100]⟩:ByteArray)] from rfl) (Reps.one (show Kd.M Kd.string _ _ _ (⟨#[112,97,99,107]⟩:ByteArray) [.string (⟨#[112,97,99,107]⟩:ByteArray)] from rfl) (Reps.one (show Kd.M Kd.string _ _ _ (⟨#[115,101,116,116,108,101]⟩:ByteArray) [.string (⟨#[115,101,116,116,108,101]⟩:ByteArray)] from rfl) (Reps.one (show Kd.M Kd.string _ _ _ (⟨#[115,112,114,101,97,100]⟩:ByteArray) [.string (⟨#[115,112,114,101,97,100]⟩:ByteArray)] from rfl) (Reps.one (show Kd.M Kd.string _ _ _ (⟨#[101,120,99,104,97,110,103,101]⟩:ByteArray) [.string (⟨#[101,120,99,104,97,110,103,101]⟩:ByteArray)] from rfl) (Reps.none _ _))))))))))))))))))));intro v103 w3 ho4 hb hg_ hnew_;clear hg_ hnew_;(first | rw [← Ny102.out] at ho4 | (simp only [Int.reduceToNat] at ho4;rw [← Ny102.out] at ho4));have n0_:=aM (Kd.R_lower ho4 (below_size (z7_ HB.out)));have n1_:=aM (below_step (z7_ HB.out) hb);clear HB;have HO104:=n0_;have HB:=n1_;clear n0_ n1_;clear hb ho4))
 (try simp only [Act.put,sa_,s0_,ss_])
 go_cut [12] (fun v12 wc=>∃ (kq:Nat) (x12_1:Bool),v12 = .bool x12_1∧Aside0 (Y9.j0 kq a0 y102 x12_1=some r)∧Aside0 (kq≤k)∧Aside0 (Kd.R Kd.string 9 wc w.heap.size (fun _=>True) v103 y102)∧Aside0 (Below w.heap.size w wc))
 case first =>
  have H:=HC2.out
  clear HC2
  by_cases c5:a0<1
  ·rw [if_pos c5] at H
   have c5b0:decide (a0<1)=true:=dE c5
   clear c5
   (first | rw [c5b0] | (simp only [i64_w,i32_w];rw [c5b0]) | skip)
   have H':=aM H
   clear H
   go_wp2
   go_meet
   case rel=>exact ⟨_,(true),(z0_),H',⟨by first | omega | exact Nat.le_refl _⟩,⟨z10_ HO104.out⟩,⟨z7_ HB.out⟩⟩
  ·rw [if_neg c5] at H
   have c5b0:decide (a0<1)=false:=dF c5
   clear c5
   (first | rw [c5b0] | (simp only [i64_w,i32_w];rw [c5b0]) | skip)
   have H':=aM H
   clear H
   obtain ⟨Ao6,co6,eo6⟩:=Kd.R_slice HO104.out
   subst eo6
   go_wp2
   go_meet
   case rel=>exact ⟨_,(decide (a0≥(y102.length:Int))),(z0_),H',⟨by first | omega | exact Nat.le_refl _⟩,⟨z10_ HO104.out⟩,⟨z7_ HB.out⟩⟩
 case rest =>
  clear HC2
  try clear p2
  try clear c4
  try clear c5
  try clear c5b0
  obtain ⟨kq,x12_1,rfl,HA,HJ1,HO_3,HB⟩:=hcut
  cases kq with
  | zero=>exact absurd HA.out (by simp [Y9.j0])
  | succ kj1 =>
   have H:=HA.out
   clear HA
   simp only [Y9.j0] at H
   by_cases c7:x12_1=true
   ·subst c7
    have H1:(some (⟨#[]⟩:ByteArray))=some r:=by rw [if_pos rfl] at H;exact H
    clear H
    have H:=H1
    clear H1
    obtain rfl:=sI H
    go_wp2
    go_ret
    exact ⟨z6_,z7_ HB.out⟩
   ·replace c7:=Bool.eq_false_iff.mpr c7
    subst c7
    have H1:(if 0≤a0 then (if a0<(y102.length:Int) then (some (rdOf ByteArray.empty y102 a0)) else (none)) else (none))=some r:=by rw [if_neg (show ¬ (false=true) by decide)] at H;exact H
    clear H
    have H:=H1
    clear H1
    by_cases c8:0≤a0
    ·rw [if_pos c8] at H
     have c8b0:decide (0≤a0)=true:=dE c8
     clear c8
     by_cases c9:a0<(y102.length:Int)
     ·rw [if_pos c9] at H
      have c9b0:decide (a0<(y102.length:Int))=true:=dE c9
      clear c9
      obtain rfl:=sI H
      obtain ⟨Ao10,co10,eo10⟩:=Kd.R_slice HO_3.out
      subst eo10
      have p105:0≤(a0:Int):=dT (z2_)
      have q105:a0<(y102.length:Int):=dT (z2_)
      obtain ⟨ad105,e105,hx105_0⟩:=Kd.at_string (Kd.R_reads' HO_3.out).2.2 a0 p105 q105
      cases e105
      replace p105:=eq_true p105
      replace q105:=eq_true q105
      go_wp2
      go_ret
      exact ⟨z6_,z7_ HB.out⟩
     ·rw [if_neg c9] at H
      exact nO H
    ·rw [if_neg c8] at H
     exact nO H


/-! ### Y19: function 45 -/
def Y19.f (a0:Int) (a1:Int) (a2:Int):Option (Bool):=if a0≥a1 then (some (decide (a0≤a2))) else (some false)
theorem Y19.calls (a0:Int) (a1:Int) (a2:Int) (r:Bool) (w:World) (h:Y19.f a0 a1 a2=some r) :
  Calls Try.prog 45 #[.int .i64 a0,.int .i64 a1,.int .i64 a2] w fun e w'=>e = .returned (.bool r)∧Drawn0 w w':=by
 have H:(if a0≥a1 then (some (decide (a0≤a2))) else (some false))=some r:=h
 clear h
 by_cases c4:a0≥a1
 ·rw [if_pos c4] at H
  have c4b0:decide (a1≤a0)=true:=dE c4
  clear c4
  obtain rfl:=sI H
  go_enter Try.func45,Try.ntmps45
  go_wp2
  go_ret
  exact ⟨z0_,z1_⟩
 ·rw [if_neg c4] at H
  have c4b0:decide (a1≤a0)=false:=dF c4
  clear c4
  obtain rfl:=sI H
  go_enter Try.func45,Try.ntmps45
  go_wp2
  go_ret
  exact ⟨z0_,z1_⟩


/-! ### Y4: function 46 -/
mutual
def Y4.j0:Nat→ByteArray→Bool→Option (Bool)
 | 0,_,_=>none
 | k+1,x0,x12=>if x12=true then (some false) else (Y4.l0 k x0 0)
def Y4.l0:Nat→ByteArray→Int→Option (Bool)
 | 0,_,_=>none
 | k+1,x0,x3=>if x3<(x0.size:Int) then (if 0≤x3 then (if (bt x0 x3)≥97 then (if ((bt x0 x3)≤122) then (Y4.l0 k x0 (wrap64 (x3+1))) else (if x3=0 then (some false) else (if (bt x0 x3)≥48 then (if ((bt x0 x3)≤57) then (Y4.l0 k x0 (wrap64 (x3+1))) else (if (bt x0 x3)=95 then (Y4.l0 k x0 (wrap64 (x3+1))) else (some false))) else (if (bt x0 x3)=95 then (Y4.l0 k x0 (wrap64 (x3+1))) else (some false))))) else (if x3=0 then (some false) else (if (bt x0 x3)≥48 then (if ((bt x0 x3)≤57) then (Y4.l0 k x0 (wrap64 (x3+1))) else (if (bt x0 x3)=95 then (Y4.l0 k x0 (wrap64 (x3+1))) else (some false))) else (if (bt x0 x3)=95 then (Y4.l0 k x0 (wrap64 (x3+1))) else (some false))))) else (none)) else (some true)
end
def Y4.f (k:Nat) (a0:ByteArray):Option (Bool):=if (a0.size:Int)<1 then (Y4.j0 k a0 true) else (Y4.j0 k a0 (decide ((a0.size:Int)>20)))
theorem Y4.mono_l:∀ k,(∀ y0 y1,LeO (Y4.j0 k y0 y1) (Y4.j0 (k+1) y0 y1))∧(∀ y0 y1,LeO (Y4.l0 k y0 y1) (Y4.l0 (k+1) y0 y1))
 | 0=>by refine ⟨?_,?_⟩ <;> intros <;> exact LeO.none _
 | k+1=>by
  obtain ⟨ih0,ih1⟩:=Y4.mono_l k
  refine ⟨?_,?_⟩
  ·intros
   unfold Y4.j0
   exact mO
  ·intros
   unfold Y4.l0
   exact mO
theorem Y4.mono:∀ a0 k,LeO (Y4.f k a0) (Y4.f (k+1) a0):=by
 intro a0 k
 obtain ⟨ih0,ih1⟩:=Y4.mono_l k
 unfold Y4.f
 exact mO
theorem Y4.calls (k:Nat) (a0:ByteArray) (r:Bool) (w:World) (h:Y4.f k a0=some r) :
  Calls Try.prog 46 #[.string a0] w fun e w'=>e = .returned (.bool r)∧Drawn0 w w':=by
 have H:(if (a0.size:Int)<1 then (Y4.j0 k a0 true) else (Y4.j0 k a0 (decide ((a0.size:Int)>20))))=some r:=h
 clear h
 have HC2:=aM H
 clear H
 go_enter Try.func46,Try.ntmps46
 go_upto_region 1 with (fail)
 go_cut [12] (fun v12 wc=>∃ (kq:Nat) (x12_1:Bool),v12 = .bool x12_1∧Aside0 (Y4.j0 kq a0 x12_1=some r)∧Aside0 (kq≤k)∧Drawn0 w wc)
 case first =>
  have H:=HC2.out
  clear HC2
  by_cases c3:(a0.size:Int)<1
  ·rw [if_pos c3] at H
   have c3b0:decide ((a0.size:Int)<1)=true:=dE c3
   have c3b1:decide (a0.size<1)=true:=dE (by omega)
   clear c3
   (first | rw [c3b0] | (simp only [i64_w,i32_w];rw [c3b0]) | skip)
   have H':=aM H
   clear H
   go_wp2
   go_meet
   case rel=>exact ⟨_,(true),(z0_),H',⟨by first | omega | exact Nat.le_refl _⟩,z1_⟩
  ·rw [if_neg c3] at H
   have c3b0:decide ((a0.size:Int)<1)=false:=dF c3
   have c3b1:decide (a0.size<1)=false:=dF (by omega)
   clear c3
   (first | rw [c3b0] | (simp only [i64_w,i32_w];rw [c3b0]) | skip)
   have H':=aM H
   clear H
   go_wp2
   go_meet
   case rel=>exact ⟨_,(decide ((a0.size:Int)>20)),(z0_),H',⟨by first | omega | exact Nat.le_refl _⟩,z1_⟩
 case rest =>
  clear HC2
  try clear p2
  try clear c3
  try clear c3b0
  try clear c3b1
  obtain ⟨kq,x12_1,rfl,HA,HJ1,⟨mc1,rfl⟩⟩:=hcut
  cases kq with
  | zero=>exact absurd HA.out (by simp [Y4.j0])
  | succ kj1 =>
   have H:=HA.out
   clear HA
   simp only [Y4.j0] at H
   by_cases c4:x12_1=true
   ·subst c4
    have H1:(some false)=some r:=by rw [if_pos rfl] at H;exact H
    clear H
    have H:=H1
    clear H1
    obtain rfl:=sI H
    go_wp2
    go_ret
    exact ⟨z0_,z1_⟩
   ·replace c4:=Bool.eq_false_iff.mpr c4
    subst c4
    have H1:(Y4.l0 kj1 a0 0)=some r:=by rw [if_neg (show ¬ (false=true) by decide)] at H;exact H
    clear H
    have H:=H1
    clear H1
    have H':=aM H
    clear H
    go_wp2
    go_loopg [3] kj1 (fun kq v3 w'=>∃ (x3_2:Int),v3 = .int .i64 x3_2∧Aside0 (Y4.l0 kq a0 x3_2=some r)∧Aside0 (kq≤kj1)∧Drawn0 w w')
    case atStart=>exact ⟨(0),(z0_),H',⟨Nat.le_refl _⟩,z1_⟩
    case round =>
     clear H'
     try clear c1
     try clear p2
     try clear c3
     try clear c3b0
     try clear c3b1
     try clear c4
     try clear p2
     obtain ⟨x3_2,rfl,HA,HK2,⟨m2,rfl⟩⟩:=hrel
     cases gk with
     | zero=>exact absurd HA.out (by simp [Y4.l0])
     | succ k2 =>
      have H:=HA.out
      clear HA
      simp only [Y4.l0] at H
      by_cases c5:x3_2<(a0.size:Int)
      ·rw [if_pos c5] at H
       have c5b0:decide (x3_2<(a0.size:Int))=true:=dE c5
       clear c5
       by_cases c6:0≤x3_2
       ·rw [if_pos c6] at H
        have c6b0:decide (0≤x3_2)=true:=dE c6
        clear c6
        by_cases c8:(bt a0 x3_2)≥97
        ·rw [if_pos c8] at H
         have c8b0:decide (97≤(bt a0 x3_2))=true:=dE c8
         clear c8
         by_cases c9:((bt a0 x3_2)≤122)
         ·rw [if_pos c9] at H
          have c9b0:decide ((bt a0 x3_2)≤122)=true:=dE c9
          clear c9
          have H':=aM H
          clear H
          have p7:0≤(x3_2:Int):=dT (z2_)
          have q7:x3_2<(a0.size:Int):=dT (z2_)
          have hx7:=bt_at a0 x3_2
          replace p7:=eq_true p7
          replace q7:=eq_true q7
          go_wp2
          go_roundg k2
          case measure=>have:=HJ1.out;have:=HK2.out;omega
          case rel=>exact ⟨(wrap64 (x3_2+1)),(z0_),H',⟨by have:=HJ1.out;have:=HK2.out;omega⟩,z1_⟩
         ·rw [if_neg c9] at H
          have c9b0:decide ((bt a0 x3_2)≤122)=false:=dF c9
          clear c9
          by_cases c10:x3_2=0
          ·rw [if_pos c10] at H
           have c10b0:(x3_2 == 0)=true:=beq_iff_eq.mpr c10
           have c10b1:(x3_2 != 0)=false:=bne_eq_false_iff_eq.mpr c10
           clear c10
           obtain rfl:=sI H
           have p7:0≤(x3_2:Int):=dT (z2_)
           have q7:x3_2<(a0.size:Int):=dT (z2_)
           have hx7:=bt_at a0 x3_2
           replace p7:=eq_true p7
           replace q7:=eq_true q7
           go_wp2
           go_ret
           exact ⟨z0_,z1_⟩
          ·rw [if_neg c10] at H
           have c10b0:(x3_2 == 0)=false:=beq_eq_false_iff_ne.mpr c10
           have c10b1:(x3_2 != 0)=true:=bne_iff_ne.mpr c10
           by_cases c11:(bt a0 x3_2)≥48
           ·rw [if_pos c11] at H
            have c11b0:decide (48≤(bt a0 x3_2))=true:=dE c11
            clear c11
            by_cases c12:((bt a0 x3_2)≤57)
            ·rw [if_pos c12] at H
             have c12b0:decide ((bt a0 x3_2)≤57)=true:=dE c12
             clear c12
             have H':=aM H
             clear H
             have p7:0≤(x3_2:Int):=dT (z2_)
             have q7:x3_2<(a0.size:Int):=dT (z2_)
             have hx7:=bt_at a0 x3_2
             replace p7:=eq_true p7
             replace q7:=eq_true q7
             go_wp2
             go_roundg k2
             case measure=>have:=HJ1.out;have:=HK2.out;omega
             case rel=>exact ⟨(wrap64 (x3_2+1)),(z0_),H',⟨by have:=HJ1.out;have:=HK2.out;omega⟩,z1_⟩
            ·rw [if_neg c12] at H
             have c12b0:decide ((bt a0 x3_2)≤57)=false:=dF c12
             clear c12
             by_cases c13:(bt a0 x3_2)=95
             ·rw [if_pos c13] at H
              have c13b0:((bt a0 x3_2) == 95)=true:=beq_iff_eq.mpr c13
              have c13b1:((bt a0 x3_2) != 95)=false:=bne_eq_false_iff_eq.mpr c13
              clear c13
              have H':=aM H
              clear H
              have p7:0≤(x3_2:Int):=dT (z2_)
              have q7:x3_2<(a0.size:Int):=dT (z2_)
              have hx7:=bt_at a0 x3_2
              replace p7:=eq_true p7
              replace q7:=eq_true q7
              go_wp2
              go_roundg k2
              case measure=>have:=HJ1.out;have:=HK2.out;omega
              case rel=>exact ⟨(wrap64 (x3_2+1)),(z0_),H',⟨by have:=HJ1.out;have:=HK2.out;omega⟩,z1_⟩
             ·rw [if_neg c13] at H
              have c13b0:((bt a0 x3_2) == 95)=false:=beq_eq_false_iff_ne.mpr c13
              have c13b1:((bt a0 x3_2) != 95)=true:=bne_iff_ne.mpr c13
              obtain rfl:=sI H
              have p7:0≤(x3_2:Int):=dT (z2_)
              have q7:x3_2<(a0.size:Int):=dT (z2_)
              have hx7:=bt_at a0 x3_2
              replace p7:=eq_true p7
              replace q7:=eq_true q7
              go_wp2
              go_ret
              exact ⟨z0_,z1_⟩
           ·rw [if_neg c11] at H
            have c11b0:decide (48≤(bt a0 x3_2))=false:=dF c11
            clear c11
            by_cases c14:(bt a0 x3_2)=95
            ·rw [if_pos c14] at H
             have c14b0:((bt a0 x3_2) == 95)=true:=beq_iff_eq.mpr c14
             have c14b1:((bt a0 x3_2) != 95)=false:=bne_eq_false_iff_eq.mpr c14
             clear c14
             have H':=aM H
             clear H
             have p7:0≤(x3_2:Int):=dT (z2_)
             have q7:x3_2<(a0.size:Int):=dT (z2_)
             have hx7:=bt_at a0 x3_2
             replace p7:=eq_true p7
             replace q7:=eq_true q7
             go_wp2
             go_roundg k2
             case measure=>have:=HJ1.out;have:=HK2.out;omega
             case rel=>exact ⟨(wrap64 (x3_2+1)),(z0_),H',⟨by have:=HJ1.out;have:=HK2.out;omega⟩,z1_⟩
            ·rw [if_neg c14] at H
             have c14b0:((bt a0 x3_2) == 95)=false:=beq_eq_false_iff_ne.mpr c14
             have c14b1:((bt a0 x3_2) != 95)=true:=bne_iff_ne.mpr c14
             obtain rfl:=sI H
             have p7:0≤(x3_2:Int):=dT (z2_)
             have q7:x3_2<(a0.size:Int):=dT (z2_)
             have hx7:=bt_at a0 x3_2
             replace p7:=eq_true p7
             replace q7:=eq_true q7
             go_wp2
             go_ret
             exact ⟨z0_,z1_⟩
        ·rw [if_neg c8] at H
         have c8b0:decide (97≤(bt a0 x3_2))=false:=dF c8
         clear c8
         by_cases c15:x3_2=0
         ·rw [if_pos c15] at H
          have c15b0:(x3_2 == 0)=true:=beq_iff_eq.mpr c15
          have c15b1:(x3_2 != 0)=false:=bne_eq_false_iff_eq.mpr c15
          clear c15
          obtain rfl:=sI H
          have p7:0≤(x3_2:Int):=dT (z2_)
          have q7:x3_2<(a0.size:Int):=dT (z2_)
          have hx7:=bt_at a0 x3_2
          replace p7:=eq_true p7
          replace q7:=eq_true q7
          go_wp2
          go_ret
          exact ⟨z0_,z1_⟩
         ·rw [if_neg c15] at H
          have c15b0:(x3_2 == 0)=false:=beq_eq_false_iff_ne.mpr c15
          have c15b1:(x3_2 != 0)=true:=bne_iff_ne.mpr c15
          by_cases c16:(bt a0 x3_2)≥48
          ·rw [if_pos c16] at H
           have c16b0:decide (48≤(bt a0 x3_2))=true:=dE c16
           clear c16
           by_cases c17:((bt a0 x3_2)≤57)
           ·rw [if_pos c17] at H
            have c17b0:decide ((bt a0 x3_2)≤57)=true:=dE c17
            clear c17
            have H':=aM H
            clear H
            have p7:0≤(x3_2:Int):=dT (z2_)
            have q7:x3_2<(a0.size:Int):=dT (z2_)
            have hx7:=bt_at a0 x3_2
            replace p7:=eq_true p7
            replace q7:=eq_true q7
            go_wp2
            go_roundg k2
            case measure=>have:=HJ1.out;have:=HK2.out;omega
            case rel=>exact ⟨(wrap64 (x3_2+1)),(z0_),H',⟨by have:=HJ1.out;have:=HK2.out;omega⟩,z1_⟩
           ·rw [if_neg c17] at H
            have c17b0:decide ((bt a0 x3_2)≤57)=false:=dF c17
            clear c17
            by_cases c18:(bt a0 x3_2)=95
            ·rw [if_pos c18] at H
             have c18b0:((bt a0 x3_2) == 95)=true:=beq_iff_eq.mpr c18
             have c18b1:((bt a0 x3_2) != 95)=false:=bne_eq_false_iff_eq.mpr c18
             clear c18
             have H':=aM H
             clear H
             have p7:0≤(x3_2:Int):=dT (z2_)
             have q7:x3_2<(a0.size:Int):=dT (z2_)
             have hx7:=bt_at a0 x3_2
             replace p7:=eq_true p7
             replace q7:=eq_true q7
             go_wp2
             go_roundg k2
             case measure=>have:=HJ1.out;have:=HK2.out;omega
             case rel=>exact ⟨(wrap64 (x3_2+1)),(z0_),H',⟨by have:=HJ1.out;have:=HK2.out;omega⟩,z1_⟩
            ·rw [if_neg c18] at H
             have c18b0:((bt a0 x3_2) == 95)=false:=beq_eq_false_iff_ne.mpr c18
             have c18b1:((bt a0 x3_2) != 95)=true:=bne_iff_ne.mpr c18
             obtain rfl:=sI H
             have p7:0≤(x3_2:Int):=dT (z2_)
             have q7:x3_2<(a0.size:Int):=dT (z2_)
             have hx7:=bt_at a0 x3_2
             replace p7:=eq_true p7
             replace q7:=eq_true q7
             go_wp2
             go_ret
             exact ⟨z0_,z1_⟩
          ·rw [if_neg c16] at H
           have c16b0:decide (48≤(bt a0 x3_2))=false:=dF c16
           clear c16
           by_cases c19:(bt a0 x3_2)=95
           ·rw [if_pos c19] at H
            have c19b0:((bt a0 x3_2) == 95)=true:=beq_iff_eq.mpr c19
            have c19b1:((bt a0 x3_2) != 95)=false:=bne_eq_false_iff_eq.mpr c19
            clear c19
            have H':=aM H
            clear H
            have p7:0≤(x3_2:Int):=dT (z2_)
            have q7:x3_2<(a0.size:Int):=dT (z2_)
            have hx7:=bt_at a0 x3_2
            replace p7:=eq_true p7
            replace q7:=eq_true q7
            go_wp2
            go_roundg k2
            case measure=>have:=HJ1.out;have:=HK2.out;omega
            case rel=>exact ⟨(wrap64 (x3_2+1)),(z0_),H',⟨by have:=HJ1.out;have:=HK2.out;omega⟩,z1_⟩
           ·rw [if_neg c19] at H
            have c19b0:((bt a0 x3_2) == 95)=false:=beq_eq_false_iff_ne.mpr c19
            have c19b1:((bt a0 x3_2) != 95)=true:=bne_iff_ne.mpr c19
            obtain rfl:=sI H
            have p7:0≤(x3_2:Int):=dT (z2_)
            have q7:x3_2<(a0.size:Int):=dT (z2_)
            have hx7:=bt_at a0 x3_2
            replace p7:=eq_true p7
            replace q7:=eq_true q7
            go_wp2
            go_ret
            exact ⟨z0_,z1_⟩
       ·rw [if_neg c6] at H
        exact nO H
      ·rw [if_neg c5] at H
       have c5b0:decide (x3_2<(a0.size:Int))=false:=dF c5
       clear c5
       obtain rfl:=sI H
       go_wp2
       go_ret
       exact ⟨z0_,z1_⟩


/-! ### Y32: function 47 -/
def Y32.f (a0:Int):Option (Bool):=if a0≥1 then (if a0≤3 then (some true) else (if a0=5 then (some true) else (some (a0 == 14)))) else (if a0=5 then (some true) else (some (a0 == 14)))
theorem Y32.calls (a0:Int) (r:Bool) (w:World) (h:Y32.f a0=some r) :
  Calls Try.prog 47 #[.int .i64 a0] w fun e w'=>e = .returned (.bool r)∧Drawn0 w w':=by
 have H:(if a0≥1 then (if a0≤3 then (some true) else (if a0=5 then (some true) else (some (a0 == 14)))) else (if a0=5 then (some true) else (some (a0 == 14))))=some r:=h
 clear h
 by_cases c2:a0≥1
 ·rw [if_pos c2] at H
  have c2b0:decide (1≤a0)=true:=dE c2
  clear c2
  by_cases c3:a0≤3
  ·rw [if_pos c3] at H
   have c3b0:decide (a0≤3)=true:=dE c3
   clear c3
   obtain rfl:=sI H
   go_enter Try.func47,Try.ntmps47
   go_wp2
   go_ret
   exact ⟨z0_,z1_⟩
  ·rw [if_neg c3] at H
   have c3b0:decide (a0≤3)=false:=dF c3
   clear c3
   by_cases c4:a0=5
   ·rw [if_pos c4] at H
    have c4b0:(a0 == 5)=true:=beq_iff_eq.mpr c4
    have c4b1:(a0 != 5)=false:=bne_eq_false_iff_eq.mpr c4
    clear c4
    obtain rfl:=sI H
    go_enter Try.func47,Try.ntmps47
    go_wp2
    go_ret
    exact ⟨z0_,z1_⟩
   ·rw [if_neg c4] at H
    have c4b0:(a0 == 5)=false:=beq_eq_false_iff_ne.mpr c4
    have c4b1:(a0 != 5)=true:=bne_iff_ne.mpr c4
    obtain rfl:=sI H
    go_enter Try.func47,Try.ntmps47
    go_wp2
    go_ret
    exact ⟨z0_,z1_⟩
 ·rw [if_neg c2] at H
  have c2b0:decide (1≤a0)=false:=dF c2
  clear c2
  by_cases c5:a0=5
  ·rw [if_pos c5] at H
   have c5b0:(a0 == 5)=true:=beq_iff_eq.mpr c5
   have c5b1:(a0 != 5)=false:=bne_eq_false_iff_eq.mpr c5
   clear c5
   obtain rfl:=sI H
   go_enter Try.func47,Try.ntmps47
   go_wp2
   go_ret
   exact ⟨z0_,z1_⟩
  ·rw [if_neg c5] at H
   have c5b0:(a0 == 5)=false:=beq_eq_false_iff_ne.mpr c5
   have c5b1:(a0 != 5)=true:=bne_iff_ne.mpr c5
   obtain rfl:=sI H
   go_enter Try.func47,Try.ntmps47
   go_wp2
   go_ret
   exact ⟨z0_,z1_⟩


/-! ### Y34: function 48 -/
def Y34.f (a0:Int):Option (Bool):=(Y19.f a0 (-1) 10000).bind fun t106=>(some t106)
theorem Y34.calls (a0:Int) (r:Bool) (w:World) (h:Y34.f a0=some r) :
  Calls Try.prog 48 #[.int .i64 a0] w fun e w'=>e = .returned (.bool r)∧Drawn0 w w':=by
 have H:((Y19.f a0 (-1) 10000).bind fun t106=>(some t106))=some r:=h
 clear h
 replace H:=bS H
 obtain ⟨t106,A20,H⟩:=H
 replace H:(some t106)=some r:=H
 have A2:=aM A20
 clear A20
 obtain rfl:=sI H
 go_enter Try.func48,Try.ntmps48
 go_wp2_with (first | ((with_reducible refine gc_ 45 ?_);refine gl_ (some 4) Try.func45 #[.int .i64 a0,.int .i64 (-1),.int .i64 10000] ?_;(with_reducible refine (Y19.calls a0 (-1) 10000 t106 _ A2.out).mono ?_);rintro e w' ⟨rfl,⟨nd,rfl⟩⟩;refine ⟨_,rfl,?_⟩))
 go_ret
 exact ⟨z0_,z1_⟩


/-! ### Y2: function 7 -/
mutual
def Y2.j0:Nat→Bool→Bool→Bool→Bool→Bool→Int→Int→Int→ByteArray→ByteArray→Int→Option (Bool)
 | 0,_,_,_,_,_,_,_,_,_,_,_=>none
 | k+1,x3,x4,x5,x6,x15,x108000,x108001,x108002,x108003,x108004,x108005=>if x15=true then (some false) else (if x3=true then (if x4=true then (Y2.j1 k x5 x6 false x108000 x108001 x108002 x108003 x108004 x108005) else (Y2.j1 k x5 x6 (x108002 != 0) x108000 x108001 x108002 x108003 x108004 x108005)) else (if x108001=0 then (if x4=true then (Y2.j1 k x5 x6 false x108000 x108001 x108002 x108003 x108004 x108005) else (Y2.j1 k x5 x6 (x108002 != 0) x108000 x108001 x108002 x108003 x108004 x108005)) else (Y2.j1 k x5 x6 true x108000 x108001 x108002 x108003 x108004 x108005)))
def Y2.j1:Nat→Bool→Bool→Bool→Int→Int→Int→ByteArray→ByteArray→Int→Option (Bool)
 | 0,_,_,_,_,_,_,_,_,_=>none
 | k+1,x5,x6,x32,x108000,x108001,x108002,x108003,x108004,x108005=>if x32=true then (some false) else ((Y4.f k x108003).bind fun t115=>(if (x5 != t115)=true then (Y2.j2 k x6 true x108000 x108001 x108002 x108003 x108004 x108005) else (if x5=true then (Y2.j2 k x6 false x108000 x108001 x108002 x108003 x108004 x108005) else (Y2.j2 k x6 (x108003.toList != ([]:List UInt8)) x108000 x108001 x108002 x108003 x108004 x108005))))
def Y2.j2:Nat→Bool→Bool→Int→Int→Int→ByteArray→ByteArray→Int→Option (Bool)
 | 0,_,_,_,_,_,_,_,_=>none
 | k+1,x6,x49,x108000,x108001,x108002,x108003,x108004,x108005=>if x49=true then (some false) else ((Y4.f k x108004).bind fun t116=>(if (x6 != t116)=true then (Y2.j3 k true x108000 x108001 x108002 x108003 x108004 x108005) else (if x6=true then (Y2.j3 k (decide ((x108004.size:Int)>16)) x108000 x108001 x108002 x108003 x108004 x108005) else (if x108004.toList=([]:List UInt8) then (Y2.j3 k (decide ((x108004.size:Int)>16)) x108000 x108001 x108002 x108003 x108004 x108005) else (Y2.j3 k true x108000 x108001 x108002 x108003 x108004 x108005)))))
def Y2.j3:Nat→Bool→Int→Int→Int→ByteArray→ByteArray→Int→Option (Bool)
 | 0,_,_,_,_,_,_,_=>none
 | k+1,x64,x108000,x108001,x108002,x108003,x108004,x108005=>if x64=true then (some false) else (if x108005=(-1) then (some true) else ((Y32.f x108000).bind fun t117=>(if t117=true then ((Y34.f x108005).bind fun t118=>(some t118)) else (some false))))
end
def Y2.f (k:Nat) (a0_0:Int) (a0_1:Int) (a0_2:Int) (a0_3:ByteArray) (a0_4:ByteArray) (a0_5:Int):Option (Bool):=(Y11.f k a0_0).bind fun bt108=>((Y9.f k a0_0).bind fun t112=>(if t112.toList=([]:List UInt8) then (Y2.j0 k bt108.1 bt108.2.1 bt108.2.2.1 bt108.2.2.2 true a0_0 a0_1 a0_2 a0_3 a0_4 a0_5) else ((Y19.f a0_1 0 999999).bind fun t113=>(if t113=true then ((Y19.f a0_2 0 999999).bind fun t114=>(Y2.j0 k bt108.1 bt108.2.1 bt108.2.2.1 bt108.2.2.2 (!t114) a0_0 a0_1 a0_2 a0_3 a0_4 a0_5)) else (Y2.j0 k bt108.1 bt108.2.1 bt108.2.2.1 bt108.2.2.2 true a0_0 a0_1 a0_2 a0_3 a0_4 a0_5)))))
theorem Y2.mono_l:∀ k,(∀ y0 y1 y2 y3 y4 y5 y6 y7 y8 y9 y10,LeO (Y2.j0 k y0 y1 y2 y3 y4 y5 y6 y7 y8 y9 y10) (Y2.j0 (k+1) y0 y1 y2 y3 y4 y5 y6 y7 y8 y9 y10))∧(∀ y0 y1 y2 y3 y4 y5 y6 y7 y8,LeO (Y2.j1 k y0 y1 y2 y3 y4 y5 y6 y7 y8) (Y2.j1 (k+1) y0 y1 y2 y3 y4 y5 y6 y7 y8))∧(∀ y0 y1 y2 y3 y4 y5 y6 y7,LeO (Y2.j2 k y0 y1 y2 y3 y4 y5 y6 y7) (Y2.j2 (k+1) y0 y1 y2 y3 y4 y5 y6 y7))∧(∀ y0 y1 y2 y3 y4 y5 y6,LeO (Y2.j3 k y0 y1 y2 y3 y4 y5 y6) (Y2.j3 (k+1) y0 y1 y2 y3 y4 y5 y6))
 | 0=>by refine ⟨?_,?_,?_,?_⟩ <;> intros <;> exact LeO.none _
 | k+1=>by
  obtain ⟨ih0,ih1,ih2,ih3⟩:=Y2.mono_l k
  have m0:=@Y4.mono
  have m1:=@Y11.mono
  have m2:=@Y9.mono
  refine ⟨?_,?_,?_,?_⟩
  ·intros
   unfold Y2.j0
   exact mO
  ·intros
   unfold Y2.j1
   exact mO
  ·intros
   unfold Y2.j2
   exact mO
  ·intros
   unfold Y2.j3
   exact mO
theorem Y2.mono:∀ a0 a1 a2 a3 a4 a5 k,LeO (Y2.f k a0 a1 a2 a3 a4 a5) (Y2.f (k+1) a0 a1 a2 a3 a4 a5):=by
 intro a0 a1 a2 a3 a4 a5 k
 have m0:=@Y4.mono
 have m1:=@Y11.mono
 have m2:=@Y9.mono
 obtain ⟨ih0,ih1,ih2,ih3⟩:=Y2.mono_l k
 unfold Y2.f
 exact mO
theorem Y2.calls (k:Nat) (a0_0:Int) (a0_1:Int) (a0_2:Int) (a0_3:ByteArray) (a0_4:ByteArray) (a0_5:Int) (r:Bool) (w:World) (h:Y2.f k a0_0 a0_1 a0_2 a0_3 a0_4 a0_5=some r) :
  Calls Try.prog 7 #[.agg #[.int .i64 a0_0,.int .i64 a0_1,.int .i64 a0_2,.string a0_3,.string a0_4,.int .i64 a0_5]] w fun e w'=>e = .returned (.bool r)∧Below w.heap.size w w':=by
 have hu26:=Try.underlying26
 have HB:=aM (Below.refl w.heap.size w)
 have H:((Y11.f k a0_0).bind fun bt108=>((Y9.f k a0_0).bind fun t112=>(if t112.toList=([]:List UInt8) then (Y2.j0 k bt108.1 bt108.2.1 bt108.2.2.1 bt108.2.2.2 true a0_0 a0_1 a0_2 a0_3 a0_4 a0_5) else ((Y19.f a0_1 0 999999).bind fun t113=>(if t113=true then ((Y19.f a0_2 0 999999).bind fun t114=>(Y2.j0 k bt108.1 bt108.2.1 bt108.2.2.1 bt108.2.2.2 (!t114) a0_0 a0_1 a0_2 a0_3 a0_4 a0_5)) else (Y2.j0 k bt108.1 bt108.2.1 bt108.2.2.1 bt108.2.2.2 true a0_0 a0_1 a0_2 a0_3 a0_4 a0_5))))))=some r:=h
 clear h
 replace H:=bS H
 obtain ⟨⟨t108,t109,t110,t111⟩,A20,H⟩:=H
 replace H:((Y9.f k a0_0).bind fun t112=>(if t112.toList=([]:List UInt8) then (Y2.j0 k t108 t109 t110 t111 true a0_0 a0_1 a0_2 a0_3 a0_4 a0_5) else ((Y19.f a0_1 0 999999).bind fun t113=>(if t113=true then ((Y19.f a0_2 0 999999).bind fun t114=>(Y2.j0 k t108 t109 t110 t111 (!t114) a0_0 a0_1 a0_2 a0_3 a0_4 a0_5)) else (Y2.j0 k t108 t109 t110 t111 true a0_0 a0_1 a0_2 a0_3 a0_4 a0_5)))))=some r:=H
 have A2:=aM A20
 clear A20
 have HC3:=aM H
 clear H
 go_enter Try.func7,Try.ntmps7
 go_upto_region 2 with (first | ((with_reducible refine gd_ 1 ?_);(try (refine gate_guard (by rfl) ?_;dsimp only));refine be_ 1 #[.int .i64 a0_0,.int .i64 a0_1,.int .i64 a0_2,.string a0_3,.string a0_4,.int .i64 a0_5] 26 ?_;intro gb107 hg w4 hbox hb;have n0_:=aM (below_step (z7_ HB.out) hb);have n1_:=aM (hbox);have n2_:=aM ((z8_ HB.out:w.heap.size≤gb107));have n3_:=aM ((z8_ HB.out:w.heap.size≤gb107));clear HB;have HB:=n0_;have BK107:=n1_;have GW107:=n2_;have GE107:=n3_;clear n0_ n1_ n2_ n3_;clear hb hbox hg;have ⟨hcz5_0,hcz5_1,hcz5_2,hcz5_3,hcz5_4,hcz5_5,hfz5_0,hfz5_1,hfz5_2,hfz5_3,hfz5_4,hfz5_5⟩:=cz6_ BK107.out) | ((with_reducible refine gc_ 43 ?_);refine gl_ (some 10) Try.func43 #[.int .i64 a0_0] ?_;(with_reducible refine (Y11.calls k a0_0 t108 t109 t110 t111 _ A2.out).mono ?_);rintro e w' ⟨rfl,⟨nd,rfl⟩⟩;refine ⟨_,rfl,?_⟩))
 (try simp only [Act.put,sa_,s0_,ss_])
 go_cut [15] (fun v15 wc=>∃ (kq:Nat) (x15_2:Bool),v15 = .bool x15_2∧Aside0 (Y2.j0 kq t108 t109 t110 t111 x15_2 a0_0 a0_1 a0_2 a0_3 a0_4 a0_5=some r)∧Aside0 (kq≤k)∧Aside0 (wc.heap[gb107]? = some (.cells #[.int .i64 a0_0,.int .i64 a0_1,.int .i64 a0_2,.string a0_3,.string a0_4,.int .i64 a0_5] 26 (0,0)))∧Aside0 (Below w.heap.size w wc))
 case first =>
  have H:=HC3.out
  clear HC3
  replace H:=bS H
  obtain ⟨t112,A60,H⟩:=H
  replace H:(if t112.toList=([]:List UInt8) then (Y2.j0 k t108 t109 t110 t111 true a0_0 a0_1 a0_2 a0_3 a0_4 a0_5) else ((Y19.f a0_1 0 999999).bind fun t113=>(if t113=true then ((Y19.f a0_2 0 999999).bind fun t114=>(Y2.j0 k t108 t109 t110 t111 (!t114) a0_0 a0_1 a0_2 a0_3 a0_4 a0_5)) else (Y2.j0 k t108 t109 t110 t111 true a0_0 a0_1 a0_2 a0_3 a0_4 a0_5))))=some r:=H
  have A6:=aM A60
  clear A60
  by_cases c7:t112.toList=([]:List UInt8)
  ·rw [if_pos c7] at H
   have c7b0:(t112.toList == ([]:List UInt8))=true:=beq_iff_eq.mpr c7
   have c7b1:(t112.toList != ([]:List UInt8))=false:=bne_eq_false_iff_eq.mpr c7
   clear c7
   (first | rw [c7b0] | (simp only [i64_w,i32_w];rw [c7b0]) | skip)
   have H':=aM H
   clear H
   have ⟨hcz8_0,hcz8_1,hcz8_2,hcz8_3,hcz8_4,hcz8_5,hfz8_0,hfz8_1,hfz8_2,hfz8_3,hfz8_4,hfz8_5⟩:=cz6_ BK107.out
   go_wp2_with (first | ((with_reducible refine gc_ 44 ?_);refine gl_ (some 18) Try.func44 #[.int .i64 a0_0] ?_;(with_reducible refine (Y9.calls k a0_0 t112 _ A6.out).mono ?_);rintro e w9 ⟨rfl,hb⟩;refine ⟨_,rfl,?_⟩;have n0_:=aM (blkB_ BK107.out hb);have n1_:=aM (below_step (z3_ HB.out GE107.out) hb);clear BK107;clear HB;have BK107:=n0_;have HB:=n1_;clear n0_ n1_;(try clear hb)))
   go_meet
   case rel=>exact ⟨_,(true),(z0_),H',⟨by first | omega | exact Nat.le_refl _⟩,⟨z5_ BK107.out⟩,⟨z3_ HB.out GE107.out⟩⟩
  ·rw [if_neg c7] at H
   have c7b0:(t112.toList == ([]:List UInt8))=false:=beq_eq_false_iff_ne.mpr c7
   have c7b1:(t112.toList != ([]:List UInt8))=true:=bne_iff_ne.mpr c7
   (first | rw [c7b0] | (simp only [i64_w,i32_w];rw [c7b0]) | skip)
   replace H:=bS H
   obtain ⟨t113,A100,H⟩:=H
   replace H:(if t113=true then ((Y19.f a0_2 0 999999).bind fun t114=>(Y2.j0 k t108 t109 t110 t111 (!t114) a0_0 a0_1 a0_2 a0_3 a0_4 a0_5)) else (Y2.j0 k t108 t109 t110 t111 true a0_0 a0_1 a0_2 a0_3 a0_4 a0_5))=some r:=H
   have A10:=aM A100
   clear A100
   by_cases c11:t113=true
   ·subst c11
    have H1:((Y19.f a0_2 0 999999).bind fun t114=>(Y2.j0 k t108 t109 t110 t111 (!t114) a0_0 a0_1 a0_2 a0_3 a0_4 a0_5))=some r:=by rw [if_pos rfl] at H;exact H
    clear H
    have H:=H1
    clear H1
    replace H:=bS H
    obtain ⟨t114,A120,H⟩:=H
    replace H:(Y2.j0 k t108 t109 t110 t111 (!t114) a0_0 a0_1 a0_2 a0_3 a0_4 a0_5)=some r:=H
    have A12:=aM A120
    clear A120
    have H':=aM H
    clear H
    have ⟨hcz13_0,hcz13_1,hcz13_2,hcz13_3,hcz13_4,hcz13_5,hfz13_0,hfz13_1,hfz13_2,hfz13_3,hfz13_4,hfz13_5⟩:=cz6_ BK107.out
    go_wp2_with (first | ((with_reducible refine gc_ 44 ?_);refine gl_ (some 18) Try.func44 #[.int .i64 a0_0] ?_;(with_reducible refine (Y9.calls k a0_0 t112 _ A6.out).mono ?_);rintro e w14 ⟨rfl,hb⟩;refine ⟨_,rfl,?_⟩;have n0_:=aM (blkB_ BK107.out hb);have n1_:=aM (below_step (z3_ HB.out GE107.out) hb);clear BK107;clear HB;have BK107:=n0_;have HB:=n1_;clear n0_ n1_;(try clear hb);have ⟨hcz15_0,hcz15_1,hcz15_2,hcz15_3,hcz15_4,hcz15_5,hfz15_0,hfz15_1,hfz15_2,hfz15_3,hfz15_4,hfz15_5⟩:=cz6_ BK107.out) | (go_at_call 45;(with_reducible refine (Y19.calls a0_1 0 999999 true _ A10.out).mono ?_);rintro e w' ⟨rfl,⟨nd,rfl⟩⟩) | (go_at_call 45;(with_reducible refine (Y19.calls a0_2 0 999999 t114 _ A12.out).mono ?_);rintro e w' ⟨rfl,⟨nd,rfl⟩⟩))
    go_meet
    case rel=>exact ⟨_,(!t114),(z0_),H',⟨by first | omega | exact Nat.le_refl _⟩,⟨z5_ BK107.out⟩,⟨z3_ HB.out GE107.out⟩⟩
   ·replace c11:=Bool.eq_false_iff.mpr c11
    subst c11
    have H1:(Y2.j0 k t108 t109 t110 t111 true a0_0 a0_1 a0_2 a0_3 a0_4 a0_5)=some r:=by rw [if_neg (show ¬ (false=true) by decide)] at H;exact H
    clear H
    have H:=H1
    clear H1
    have H':=aM H
    clear H
    have ⟨hcz16_0,hcz16_1,hcz16_2,hcz16_3,hcz16_4,hcz16_5,hfz16_0,hfz16_1,hfz16_2,hfz16_3,hfz16_4,hfz16_5⟩:=cz6_ BK107.out
    go_wp2_with (first | ((with_reducible refine gc_ 44 ?_);refine gl_ (some 18) Try.func44 #[.int .i64 a0_0] ?_;(with_reducible refine (Y9.calls k a0_0 t112 _ A6.out).mono ?_);rintro e w17 ⟨rfl,hb⟩;refine ⟨_,rfl,?_⟩;have n0_:=aM (blkB_ BK107.out hb);have n1_:=aM (below_step (z3_ HB.out GE107.out) hb);clear BK107;clear HB;have BK107:=n0_;have HB:=n1_;clear n0_ n1_;(try clear hb);have ⟨hcz18_0,hcz18_1,hcz18_2,hcz18_3,hcz18_4,hcz18_5,hfz18_0,hfz18_1,hfz18_2,hfz18_3,hfz18_4,hfz18_5⟩:=cz6_ BK107.out) | (go_at_call 45;(with_reducible refine (Y19.calls a0_1 0 999999 false _ A10.out).mono ?_);rintro e w' ⟨rfl,⟨nd,rfl⟩⟩))
    go_meet
    case rel=>exact ⟨_,(true),(z0_),H',⟨by first | omega | exact Nat.le_refl _⟩,⟨z5_ BK107.out⟩,⟨z3_ HB.out GE107.out⟩⟩
 case rest =>
  clear HC3
  try clear c1
  try clear p2
  try clear c4
  try clear c7
  try clear c7b0
  try clear c7b1
  try clear c11
  try clear hcz13_0
  try clear hcz13_1
  try clear hcz13_2
  try clear hcz13_3
  try clear hcz13_4
  try clear hcz13_5
  try clear hcz15_0
  try clear hcz15_1
  try clear hcz15_2
  try clear hcz15_3
  try clear hcz15_4
  try clear hcz15_5
  try clear hcz16_0
  try clear hcz16_1
  try clear hcz16_2
  try clear hcz16_3
  try clear hcz16_4
  try clear hcz16_5
  try clear hcz18_0
  try clear hcz18_1
  try clear hcz18_2
  try clear hcz18_3
  try clear hcz18_4
  try clear hcz18_5
  try clear hcz5_0
  try clear hcz5_1
  try clear hcz5_2
  try clear hcz5_3
  try clear hcz5_4
  try clear hcz5_5
  try clear hcz8_0
  try clear hcz8_1
  try clear hcz8_2
  try clear hcz8_3
  try clear hcz8_4
  try clear hcz8_5
  try clear hfz13_0
  try clear hfz13_1
  try clear hfz13_2
  try clear hfz13_3
  try clear hfz13_4
  try clear hfz13_5
  try clear hfz15_0
  try clear hfz15_1
  try clear hfz15_2
  try clear hfz15_3
  try clear hfz15_4
  try clear hfz15_5
  try clear hfz16_0
  try clear hfz16_1
  try clear hfz16_2
  try clear hfz16_3
  try clear hfz16_4
  try clear hfz16_5
  try clear hfz18_0
  try clear hfz18_1
  try clear hfz18_2
  try clear hfz18_3
  try clear hfz18_4
  try clear hfz18_5
  try clear hfz5_0
  try clear hfz5_1
  try clear hfz5_2
  try clear hfz5_3
  try clear hfz5_4
  try clear hfz5_5
  try clear hfz8_0
  try clear hfz8_1
  try clear hfz8_2
  try clear hfz8_3
  try clear hfz8_4
  try clear hfz8_5
  obtain ⟨kq,x15_2,rfl,HA,HJ2,BK107,HB⟩:=hcut
  cases kq with
  | zero=>exact absurd HA.out (by simp [Y2.j0])
  | succ kj2 =>
   have H:=HA.out
   clear HA
   simp only [Y2.j0] at H
   by_cases c19:x15_2=true
   ·subst c19
    have H1:(some false)=some r:=by rw [if_pos rfl] at H;exact H
    clear H
    have H:=H1
    clear H1
    obtain rfl:=sI H
    go_wp2
    go_ret
    exact ⟨z6_,z3_ HB.out GE107.out⟩
   ·replace c19:=Bool.eq_false_iff.mpr c19
    subst c19
    have H1:(if t108=true then (if t109=true then (Y2.j1 kj2 t110 t111 false a0_0 a0_1 a0_2 a0_3 a0_4 a0_5) else (Y2.j1 kj2 t110 t111 (a0_2 != 0) a0_0 a0_1 a0_2 a0_3 a0_4 a0_5)) else (if a0_1=0 then (if t109=true then (Y2.j1 kj2 t110 t111 false a0_0 a0_1 a0_2 a0_3 a0_4 a0_5) else (Y2.j1 kj2 t110 t111 (a0_2 != 0) a0_0 a0_1 a0_2 a0_3 a0_4 a0_5)) else (Y2.j1 kj2 t110 t111 true a0_0 a0_1 a0_2 a0_3 a0_4 a0_5)))=some r:=by rw [if_neg (show ¬ (false=true) by decide)] at H;exact H
    clear H
    have H:=H1
    clear H1
    have HC20:=aM H
    clear H
    go_upto_region 4 with (fail)
    go_cut [32] (fun v32 wc=>∃ (kq:Nat) (x32_19:Bool),v32 = .bool x32_19∧Aside0 (Y2.j1 kq t110 t111 x32_19 a0_0 a0_1 a0_2 a0_3 a0_4 a0_5=some r)∧Aside0 (kq≤kj2)∧Aside0 (wc.heap[gb107]? = some (.cells #[.int .i64 a0_0,.int .i64 a0_1,.int .i64 a0_2,.string a0_3,.string a0_4,.int .i64 a0_5] 26 (0,0)))∧Aside0 (Below w.heap.size w wc))
    case first =>
     have H:=HC20.out
     clear HC20
     by_cases c21:t108=true
     ·subst c21
      have H1:(if t109=true then (Y2.j1 kj2 t110 t111 false a0_0 a0_1 a0_2 a0_3 a0_4 a0_5) else (Y2.j1 kj2 t110 t111 (a0_2 != 0) a0_0 a0_1 a0_2 a0_3 a0_4 a0_5))=some r:=by rw [if_pos rfl] at H;exact H
      clear H
      have H:=H1
      clear H1
      by_cases c22:t109=true
      ·subst c22
       have H1:(Y2.j1 kj2 t110 t111 false a0_0 a0_1 a0_2 a0_3 a0_4 a0_5)=some r:=by rw [if_pos rfl] at H;exact H
       clear H
       have H:=H1
       clear H1
       have H':=aM H
       clear H
       go_wp2
       go_meet
       case rel=>exact ⟨_,(false),(z0_),H',⟨z11_ HJ2.out⟩,⟨z5_ BK107.out⟩,⟨z3_ HB.out GE107.out⟩⟩
      ·replace c22:=Bool.eq_false_iff.mpr c22
       subst c22
       have H1:(Y2.j1 kj2 t110 t111 (a0_2 != 0) a0_0 a0_1 a0_2 a0_3 a0_4 a0_5)=some r:=by rw [if_neg (show ¬ (false=true) by decide)] at H;exact H
       clear H
       have H:=H1
       clear H1
       have H':=aM H
       clear H
       have ⟨hcz23_0,hcz23_1,hcz23_2,hcz23_3,hcz23_4,hcz23_5,hfz23_0,hfz23_1,hfz23_2,hfz23_3,hfz23_4,hfz23_5⟩:=cz6_ BK107.out
       go_wp2
       go_meet
       case rel=>exact ⟨_,((a0_2 != 0)),(z0_),H',⟨z11_ HJ2.out⟩,⟨z5_ BK107.out⟩,⟨z3_ HB.out GE107.out⟩⟩
     ·replace c21:=Bool.eq_false_iff.mpr c21
      subst c21
      have H1:(if a0_1=0 then (if t109=true then (Y2.j1 kj2 t110 t111 false a0_0 a0_1 a0_2 a0_3 a0_4 a0_5) else (Y2.j1 kj2 t110 t111 (a0_2 != 0) a0_0 a0_1 a0_2 a0_3 a0_4 a0_5)) else (Y2.j1 kj2 t110 t111 true a0_0 a0_1 a0_2 a0_3 a0_4 a0_5))=some r:=by rw [if_neg (show ¬ (false=true) by decide)] at H;exact H
      clear H
      have H:=H1
      clear H1
      by_cases c24:a0_1=0
      ·rw [if_pos c24] at H
       have c24b0:(a0_1 == 0)=true:=beq_iff_eq.mpr c24
       have c24b1:(a0_1 != 0)=false:=bne_eq_false_iff_eq.mpr c24
       clear c24
       (first | rw [c24b0] | (simp only [i64_w,i32_w];rw [c24b0]) | skip)
       by_cases c25:t109=true
       ·subst c25
        have H1:(Y2.j1 kj2 t110 t111 false a0_0 a0_1 a0_2 a0_3 a0_4 a0_5)=some r:=by rw [if_pos rfl] at H;exact H
        clear H
        have H:=H1
        clear H1
        have H':=aM H
        clear H
        have ⟨hcz26_0,hcz26_1,hcz26_2,hcz26_3,hcz26_4,hcz26_5,hfz26_0,hfz26_1,hfz26_2,hfz26_3,hfz26_4,hfz26_5⟩:=cz6_ BK107.out
        go_wp2
        go_meet
        case rel=>exact ⟨_,(false),(z0_),H',⟨z11_ HJ2.out⟩,⟨z5_ BK107.out⟩,⟨z3_ HB.out GE107.out⟩⟩
       ·replace c25:=Bool.eq_false_iff.mpr c25
        subst c25
        have H1:(Y2.j1 kj2 t110 t111 (a0_2 != 0) a0_0 a0_1 a0_2 a0_3 a0_4 a0_5)=some r:=by rw [if_neg (show ¬ (false=true) by decide)] at H;exact H
        clear H
        have H:=H1
        clear H1
        have H':=aM H
        clear H
        have ⟨hcz27_0,hcz27_1,hcz27_2,hcz27_3,hcz27_4,hcz27_5,hfz27_0,hfz27_1,hfz27_2,hfz27_3,hfz27_4,hfz27_5⟩:=cz6_ BK107.out
        go_wp2
        go_meet
        case rel=>exact ⟨_,((a0_2 != 0)),(z0_),H',⟨z11_ HJ2.out⟩,⟨z5_ BK107.out⟩,⟨z3_ HB.out GE107.out⟩⟩
      ·rw [if_neg c24] at H
       have c24b0:(a0_1 == 0)=false:=beq_eq_false_iff_ne.mpr c24
       have c24b1:(a0_1 != 0)=true:=bne_iff_ne.mpr c24
       (first | rw [c24b0] | (simp only [i64_w,i32_w];rw [c24b0]) | skip)
       have H':=aM H
       clear H
       have ⟨hcz28_0,hcz28_1,hcz28_2,hcz28_3,hcz28_4,hcz28_5,hfz28_0,hfz28_1,hfz28_2,hfz28_3,hfz28_4,hfz28_5⟩:=cz6_ BK107.out
       go_wp2
       go_meet
       case rel=>exact ⟨_,(true),(z0_),H',⟨z11_ HJ2.out⟩,⟨z5_ BK107.out⟩,⟨z3_ HB.out GE107.out⟩⟩
    case rest =>
     clear HC20
     try clear c1
     try clear c2
     try clear p2
     try clear c4
     try clear c7
     try clear c7b0
     try clear c7b1
     try clear c11
     try clear c19
     try clear c21
     try clear c22
     try clear c24
     try clear c24b0
     try clear c24b1
     try clear c25
     try clear hcz13_0
     try clear hcz13_1
     try clear hcz13_2
     try clear hcz13_3
     try clear hcz13_4
     try clear hcz13_5
     try clear hcz15_0
     try clear hcz15_1
     try clear hcz15_2
     try clear hcz15_3
     try clear hcz15_4
     try clear hcz15_5
     try clear hcz16_0
     try clear hcz16_1
     try clear hcz16_2
     try clear hcz16_3
     try clear hcz16_4
     try clear hcz16_5
     try clear hcz18_0
     try clear hcz18_1
     try clear hcz18_2
     try clear hcz18_3
     try clear hcz18_4
     try clear hcz18_5
     try clear hcz23_0
     try clear hcz23_1
     try clear hcz23_2
     try clear hcz23_3
     try clear hcz23_4
     try clear hcz23_5
     try clear hcz26_0
     try clear hcz26_1
     try clear hcz26_2
     try clear hcz26_3
     try clear hcz26_4
     try clear hcz26_5
     try clear hcz27_0
     try clear hcz27_1
     try clear hcz27_2
     try clear hcz27_3
     try clear hcz27_4
     try clear hcz27_5
     try clear hcz28_0
     try clear hcz28_1
     try clear hcz28_2
     try clear hcz28_3
     try clear hcz28_4
     try clear hcz28_5
     try clear hcz5_0
     try clear hcz5_1
     try clear hcz5_2
     try clear hcz5_3
     try clear hcz5_4
     try clear hcz5_5
     try clear hcz8_0
     try clear hcz8_1
     try clear hcz8_2
     try clear hcz8_3
     try clear hcz8_4
     try clear hcz8_5
     try clear hfz13_0
     try clear hfz13_1
     try clear hfz13_2
     try clear hfz13_3
     try clear hfz13_4
     try clear hfz13_5
     try clear hfz15_0
     try clear hfz15_1
     try clear hfz15_2
     try clear hfz15_3
     try clear hfz15_4
     try clear hfz15_5
     try clear hfz16_0
     try clear hfz16_1
     try clear hfz16_2
     try clear hfz16_3
     try clear hfz16_4
     try clear hfz16_5
     try clear hfz18_0
     try clear hfz18_1
     try clear hfz18_2
     try clear hfz18_3
     try clear hfz18_4
     try clear hfz18_5
     try clear hfz23_0
     try clear hfz23_1
     try clear hfz23_2
     try clear hfz23_3
     try clear hfz23_4
     try clear hfz23_5
     try clear hfz26_0
     try clear hfz26_1
     try clear hfz26_2
     try clear hfz26_3
     try clear hfz26_4
     try clear hfz26_5
     try clear hfz27_0
     try clear hfz27_1
     try clear hfz27_2
     try clear hfz27_3
     try clear hfz27_4
     try clear hfz27_5
     try clear hfz28_0
     try clear hfz28_1
     try clear hfz28_2
     try clear hfz28_3
     try clear hfz28_4
     try clear hfz28_5
     try clear hfz5_0
     try clear hfz5_1
     try clear hfz5_2
     try clear hfz5_3
     try clear hfz5_4
     try clear hfz5_5
     try clear hfz8_0
     try clear hfz8_1
     try clear hfz8_2
     try clear hfz8_3
     try clear hfz8_4
     try clear hfz8_5
     try clear p2
     obtain ⟨kq,x32_19,rfl,HA,HJ19,BK107,HB⟩:=hcut
     cases kq with
     | zero=>exact absurd HA.out (by simp [Y2.j1])
     | succ kj19 =>
      have H:=HA.out
      clear HA
      simp only [Y2.j1] at H
      by_cases c29:x32_19=true
      ·subst c29
       have H1:(some false)=some r:=by rw [if_pos rfl] at H;exact H
       clear H
       have H:=H1
       clear H1
       obtain rfl:=sI H
       go_wp2
       go_ret
       exact ⟨z6_,z3_ HB.out GE107.out⟩
      ·replace c29:=Bool.eq_false_iff.mpr c29
       subst c29
       have H1:((Y4.f kj19 a0_3).bind fun t115=>(if (t110 != t115)=true then (Y2.j2 kj19 t111 true a0_0 a0_1 a0_2 a0_3 a0_4 a0_5) else (if t110=true then (Y2.j2 kj19 t111 false a0_0 a0_1 a0_2 a0_3 a0_4 a0_5) else (Y2.j2 kj19 t111 (a0_3.toList != ([]:List UInt8)) a0_0 a0_1 a0_2 a0_3 a0_4 a0_5))))=some r:=by rw [if_neg (show ¬ (false=true) by decide)] at H;exact H
       clear H
       have H:=H1
       clear H1
       have HC30:=aM H
       clear H
       go_upto_region 6 with (fail)
       go_cut [49] (fun v49 wc=>∃ (kq:Nat) (x49_29:Bool),v49 = .bool x49_29∧Aside0 (Y2.j2 kq t111 x49_29 a0_0 a0_1 a0_2 a0_3 a0_4 a0_5=some r)∧Aside0 (kq≤kj19)∧Aside0 (wc.heap[gb107]? = some (.cells #[.int .i64 a0_0,.int .i64 a0_1,.int .i64 a0_2,.string a0_3,.string a0_4,.int .i64 a0_5] 26 (0,0)))∧Aside0 (Below w.heap.size w wc))
       case first =>
        have H:=HC30.out
        clear HC30
        replace H:=bS H
        obtain ⟨t115,A310,H⟩:=H
        replace H:(if (t110 != t115)=true then (Y2.j2 kj19 t111 true a0_0 a0_1 a0_2 a0_3 a0_4 a0_5) else (if t110=true then (Y2.j2 kj19 t111 false a0_0 a0_1 a0_2 a0_3 a0_4 a0_5) else (Y2.j2 kj19 t111 (a0_3.toList != ([]:List UInt8)) a0_0 a0_1 a0_2 a0_3 a0_4 a0_5)))=some r:=H
        have A31:=aM A310
        clear A310
        by_cases c32:(t110 != t115)=true
        ·rw [if_pos c32] at H
         have c32b0:(t110 != t115)=true:=c32
         (try (have c32b1:decide (t110=t115)=false:=by simpa using c32))
         (try (have c32b2:(t110 == t115)=false:=by simpa using c32))
         (try (have c32b3:¬ (t110=t115):=by simpa using c32))
         clear c32
         (first | rw [c32b0] | (simp only [i64_w,i32_w];rw [c32b0]) | skip)
         have H':=aM H
         clear H
         have ⟨hcz33_0,hcz33_1,hcz33_2,hcz33_3,hcz33_4,hcz33_5,hfz33_0,hfz33_1,hfz33_2,hfz33_3,hfz33_4,hfz33_5⟩:=cz6_ BK107.out
         go_wp2_with (first | ((with_reducible refine gc_ 46 ?_);refine gl_ (some 53) Try.func46 #[.string a0_3] ?_;(with_reducible refine (Y4.calls kj19 a0_3 t115 _ A31.out).mono ?_);rintro e w' ⟨rfl,⟨nd,rfl⟩⟩;refine ⟨_,rfl,?_⟩))
         go_meet
         case rel=>exact ⟨_,(true),(z0_),H',⟨by have:=HJ2.out;have:=HJ19.out;first | omega | exact Nat.le_refl _⟩,⟨z5_ BK107.out⟩,⟨z3_ HB.out GE107.out⟩⟩
        ·rw [if_neg c32] at H
         have c32b0:(t110 != t115)=false:=by simpa using c32
         (try (have c32b1:decide (t110=t115)=true:=by simpa using c32))
         (try (have c32b2:(t110 == t115)=true:=by simpa using c32))
         clear c32
         (first | rw [c32b0] | (simp only [i64_w,i32_w];rw [c32b0]) | skip)
         by_cases c34:t110=true
         ·subst c34
          have H1:(Y2.j2 kj19 t111 false a0_0 a0_1 a0_2 a0_3 a0_4 a0_5)=some r:=by rw [if_pos rfl] at H;exact H
          clear H
          have H:=H1
          clear H1
          have H':=aM H
          clear H
          have ⟨hcz35_0,hcz35_1,hcz35_2,hcz35_3,hcz35_4,hcz35_5,hfz35_0,hfz35_1,hfz35_2,hfz35_3,hfz35_4,hfz35_5⟩:=cz6_ BK107.out
          go_wp2_with (first | ((with_reducible refine gc_ 46 ?_);refine gl_ (some 53) Try.func46 #[.string a0_3] ?_;(with_reducible refine (Y4.calls kj19 a0_3 t115 _ A31.out).mono ?_);rintro e w' ⟨rfl,⟨nd,rfl⟩⟩;refine ⟨_,rfl,?_⟩))
          go_meet
          case rel=>exact ⟨_,(false),(z0_),H',⟨by have:=HJ2.out;have:=HJ19.out;first | omega | exact Nat.le_refl _⟩,⟨z5_ BK107.out⟩,⟨z3_ HB.out GE107.out⟩⟩
         ·replace c34:=Bool.eq_false_iff.mpr c34
          subst c34
          have H1:(Y2.j2 kj19 t111 (a0_3.toList != ([]:List UInt8)) a0_0 a0_1 a0_2 a0_3 a0_4 a0_5)=some r:=by rw [if_neg (show ¬ (false=true) by decide)] at H;exact H
          clear H
          have H:=H1
          clear H1
          have H':=aM H
          clear H
          have ⟨hcz36_0,hcz36_1,hcz36_2,hcz36_3,hcz36_4,hcz36_5,hfz36_0,hfz36_1,hfz36_2,hfz36_3,hfz36_4,hfz36_5⟩:=cz6_ BK107.out
          go_wp2_with (first | ((with_reducible refine gc_ 46 ?_);refine gl_ (some 53) Try.func46 #[.string a0_3] ?_;(with_reducible refine (Y4.calls kj19 a0_3 t115 _ A31.out).mono ?_);rintro e w' ⟨rfl,⟨nd,rfl⟩⟩;refine ⟨_,rfl,?_⟩))
          go_meet
          case rel=>exact ⟨_,((a0_3.toList != ([]:List UInt8))),(z0_),H',⟨by have:=HJ2.out;have:=HJ19.out;first | omega | exact Nat.le_refl _⟩,⟨z5_ BK107.out⟩,⟨z3_ HB.out GE107.out⟩⟩
       case rest =>
        clear HC30
        try clear c1
        try clear c2
        try clear p2
        try clear c3
        try clear c4
        try clear c7
        try clear c7b0
        try clear c7b1
        try clear c11
        try clear c19
        try clear c21
        try clear c22
        try clear c24
        try clear c24b0
        try clear c24b1
        try clear c25
        try clear c29
        try clear c32
        try clear c32b0
        try clear c32b1
        try clear c32b2
        try clear c34
        try clear hcz13_0
        try clear hcz13_1
        try clear hcz13_2
        try clear hcz13_3
        try clear hcz13_4
        try clear hcz13_5
        try clear hcz15_0
        try clear hcz15_1
        try clear hcz15_2
        try clear hcz15_3
        try clear hcz15_4
        try clear hcz15_5
        try clear hcz16_0
        try clear hcz16_1
        try clear hcz16_2
        try clear hcz16_3
        try clear hcz16_4
        try clear hcz16_5
        try clear hcz18_0
        try clear hcz18_1
        try clear hcz18_2
        try clear hcz18_3
        try clear hcz18_4
        try clear hcz18_5
        try clear hcz23_0
        try clear hcz23_1
        try clear hcz23_2
        try clear hcz23_3
        try clear hcz23_4
        try clear hcz23_5
        try clear hcz26_0
        try clear hcz26_1
        try clear hcz26_2
        try clear hcz26_3
        try clear hcz26_4
        try clear hcz26_5
        try clear hcz27_0
        try clear hcz27_1
        try clear hcz27_2
        try clear hcz27_3
        try clear hcz27_4
        try clear hcz27_5
        try clear hcz28_0
        try clear hcz28_1
        try clear hcz28_2
        try clear hcz28_3
        try clear hcz28_4
        try clear hcz28_5
        try clear hcz33_0
        try clear hcz33_1
        try clear hcz33_2
        try clear hcz33_3
        try clear hcz33_4
        try clear hcz33_5
        try clear hcz35_0
        try clear hcz35_1
        try clear hcz35_2
        try clear hcz35_3
        try clear hcz35_4
        try clear hcz35_5
        try clear hcz36_0
        try clear hcz36_1
        try clear hcz36_2
        try clear hcz36_3
        try clear hcz36_4
        try clear hcz36_5
        try clear hcz5_0
        try clear hcz5_1
        try clear hcz5_2
        try clear hcz5_3
        try clear hcz5_4
        try clear hcz5_5
        try clear hcz8_0
        try clear hcz8_1
        try clear hcz8_2
        try clear hcz8_3
        try clear hcz8_4
        try clear hcz8_5
        try clear hfz13_0
        try clear hfz13_1
        try clear hfz13_2
        try clear hfz13_3
        try clear hfz13_4
        try clear hfz13_5
        try clear hfz15_0
        try clear hfz15_1
        try clear hfz15_2
        try clear hfz15_3
        try clear hfz15_4
        try clear hfz15_5
        try clear hfz16_0
        try clear hfz16_1
        try clear hfz16_2
        try clear hfz16_3
        try clear hfz16_4
        try clear hfz16_5
        try clear hfz18_0
        try clear hfz18_1
        try clear hfz18_2
        try clear hfz18_3
        try clear hfz18_4
        try clear hfz18_5
        try clear hfz23_0
        try clear hfz23_1
        try clear hfz23_2
        try clear hfz23_3
        try clear hfz23_4
        try clear hfz23_5
        try clear hfz26_0
        try clear hfz26_1
        try clear hfz26_2
        try clear hfz26_3
        try clear hfz26_4
        try clear hfz26_5
        try clear hfz27_0
        try clear hfz27_1
        try clear hfz27_2
        try clear hfz27_3
        try clear hfz27_4
        try clear hfz27_5
        try clear hfz28_0
        try clear hfz28_1
        try clear hfz28_2
        try clear hfz28_3
        try clear hfz28_4
        try clear hfz28_5
        try clear hfz33_0
        try clear hfz33_1
        try clear hfz33_2
        try clear hfz33_3
        try clear hfz33_4
        try clear hfz33_5
        try clear hfz35_0
        try clear hfz35_1
        try clear hfz35_2
        try clear hfz35_3
        try clear hfz35_4
        try clear hfz35_5
        try clear hfz36_0
        try clear hfz36_1
        try clear hfz36_2
        try clear hfz36_3
        try clear hfz36_4
        try clear hfz36_5
        try clear hfz5_0
        try clear hfz5_1
        try clear hfz5_2
        try clear hfz5_3
        try clear hfz5_4
        try clear hfz5_5
        try clear hfz8_0
        try clear hfz8_1
        try clear hfz8_2
        try clear hfz8_3
        try clear hfz8_4
        try clear hfz8_5
        try clear p2
        obtain ⟨kq,x49_29,rfl,HA,HJ29,BK107,HB⟩:=hcut
        cases kq with
        | zero=>exact absurd HA.out (by simp [Y2.j2])
        | succ kj29 =>
         have H:=HA.out
         clear HA
         simp only [Y2.j2] at H
         by_cases c37:x49_29=true
         ·subst c37
          have H1:(some false)=some r:=by rw [if_pos rfl] at H;exact H
          clear H
          have H:=H1
          clear H1
          obtain rfl:=sI H
          go_wp2
          go_ret
          exact ⟨z6_,z3_ HB.out GE107.out⟩
         ·replace c37:=Bool.eq_false_iff.mpr c37
          subst c37
          have H1:((Y4.f kj29 a0_4).bind fun t116=>(if (t111 != t116)=true then (Y2.j3 kj29 true a0_0 a0_1 a0_2 a0_3 a0_4 a0_5) else (if t111=true then (Y2.j3 kj29 (decide ((a0_4.size:Int)>16)) a0_0 a0_1 a0_2 a0_3 a0_4 a0_5) else (if a0_4.toList=([]:List UInt8) then (Y2.j3 kj29 (decide ((a0_4.size:Int)>16)) a0_0 a0_1 a0_2 a0_3 a0_4 a0_5) else (Y2.j3 kj29 true a0_0 a0_1 a0_2 a0_3 a0_4 a0_5)))))=some r:=by rw [if_neg (show ¬ (false=true) by decide)] at H;exact H
          clear H
          have H:=H1
          clear H1
          have HC38:=aM H
          clear H
          go_upto_region 8 with (fail)
          go_cut [64] (fun v64 wc=>∃ (kq:Nat) (x64_37:Bool),v64 = .bool x64_37∧Aside0 (Y2.j3 kq x64_37 a0_0 a0_1 a0_2 a0_3 a0_4 a0_5=some r)∧Aside0 (kq≤kj29)∧Aside0 (wc.heap[gb107]? = some (.cells #[.int .i64 a0_0,.int .i64 a0_1,.int .i64 a0_2,.string a0_3,.string a0_4,.int .i64 a0_5] 26 (0,0)))∧Aside0 (Below w.heap.size w wc))
          case first =>
           have H:=HC38.out
           clear HC38
           replace H:=bS H
           obtain ⟨t116,A390,H⟩:=H
           replace H:(if (t111 != t116)=true then (Y2.j3 kj29 true a0_0 a0_1 a0_2 a0_3 a0_4 a0_5) else (if t111=true then (Y2.j3 kj29 (decide ((a0_4.size:Int)>16)) a0_0 a0_1 a0_2 a0_3 a0_4 a0_5) else (if a0_4.toList=([]:List UInt8) then (Y2.j3 kj29 (decide ((a0_4.size:Int)>16)) a0_0 a0_1 a0_2 a0_3 a0_4 a0_5) else (Y2.j3 kj29 true a0_0 a0_1 a0_2 a0_3 a0_4 a0_5))))=some r:=H
           have A39:=aM A390
           clear A390
           by_cases c40:(t111 != t116)=true
           ·rw [if_pos c40] at H
            have c40b0:(t111 != t116)=true:=c40
            (try (have c40b1:decide (t111=t116)=false:=by simpa using c40))
            (try (have c40b2:(t111 == t116)=false:=by simpa using c40))
            (try (have c40b3:¬ (t111=t116):=by simpa using c40))
            clear c40
            (first | rw [c40b0] | (simp only [i64_w,i32_w];rw [c40b0]) | skip)
            have H':=aM H
            clear H
            have ⟨hcz41_0,hcz41_1,hcz41_2,hcz41_3,hcz41_4,hcz41_5,hfz41_0,hfz41_1,hfz41_2,hfz41_3,hfz41_4,hfz41_5⟩:=cz6_ BK107.out
            go_wp2_with (first | ((with_reducible refine gc_ 46 ?_);refine gl_ (some 68) Try.func46 #[.string a0_4] ?_;(with_reducible refine (Y4.calls kj29 a0_4 t116 _ A39.out).mono ?_);rintro e w' ⟨rfl,⟨nd,rfl⟩⟩;refine ⟨_,rfl,?_⟩))
            go_meet
            case rel=>exact ⟨_,(true),(z0_),H',⟨by have:=HJ2.out;have:=HJ19.out;have:=HJ29.out;first | omega | exact Nat.le_refl _⟩,⟨z5_ BK107.out⟩,⟨z3_ HB.out GE107.out⟩⟩
           ·rw [if_neg c40] at H
            have c40b0:(t111 != t116)=false:=by simpa using c40
            (try (have c40b1:decide (t111=t116)=true:=by simpa using c40))
            (try (have c40b2:(t111 == t116)=true:=by simpa using c40))
            clear c40
            (first | rw [c40b0] | (simp only [i64_w,i32_w];rw [c40b0]) | skip)
            by_cases c42:t111=true
            ·subst c42
             have H1:(Y2.j3 kj29 (decide ((a0_4.size:Int)>16)) a0_0 a0_1 a0_2 a0_3 a0_4 a0_5)=some r:=by rw [if_pos rfl] at H;exact H
             clear H
             have H:=H1
             clear H1
             have H':=aM H
             clear H
             have ⟨hcz43_0,hcz43_1,hcz43_2,hcz43_3,hcz43_4,hcz43_5,hfz43_0,hfz43_1,hfz43_2,hfz43_3,hfz43_4,hfz43_5⟩:=cz6_ BK107.out
             go_wp2_with (first | ((with_reducible refine gc_ 46 ?_);refine gl_ (some 68) Try.func46 #[.string a0_4] ?_;(with_reducible refine (Y4.calls kj29 a0_4 t116 _ A39.out).mono ?_);rintro e w' ⟨rfl,⟨nd,rfl⟩⟩;refine ⟨_,rfl,?_⟩))
             go_meet
             case rel=>exact ⟨_,(decide ((a0_4.size:Int)>16)),(z0_),H',⟨by have:=HJ2.out;have:=HJ19.out;have:=HJ29.out;first | omega | exact Nat.le_refl _⟩,⟨z5_ BK107.out⟩,⟨z3_ HB.out GE107.out⟩⟩
            ·replace c42:=Bool.eq_false_iff.mpr c42
             subst c42
             have H1:(if a0_4.toList=([]:List UInt8) then (Y2.j3 kj29 (decide ((a0_4.size:Int)>16)) a0_0 a0_1 a0_2 a0_3 a0_4 a0_5) else (Y2.j3 kj29 true a0_0 a0_1 a0_2 a0_3 a0_4 a0_5))=some r:=by rw [if_neg (show ¬ (false=true) by decide)] at H;exact H
             clear H
             have H:=H1
             clear H1
             by_cases c44:a0_4.toList=([]:List UInt8)
             ·rw [if_pos c44] at H
              have c44b0:(a0_4.toList == ([]:List UInt8))=true:=beq_iff_eq.mpr c44
              have c44b1:(a0_4.toList != ([]:List UInt8))=false:=bne_eq_false_iff_eq.mpr c44
              clear c44
              have H':=aM H
              clear H
              have ⟨hcz45_0,hcz45_1,hcz45_2,hcz45_3,hcz45_4,hcz45_5,hfz45_0,hfz45_1,hfz45_2,hfz45_3,hfz45_4,hfz45_5⟩:=cz6_ BK107.out
              go_wp2_with (first | ((with_reducible refine gc_ 46 ?_);refine gl_ (some 68) Try.func46 #[.string a0_4] ?_;(with_reducible refine (Y4.calls kj29 a0_4 t116 _ A39.out).mono ?_);rintro e w' ⟨rfl,⟨nd,rfl⟩⟩;refine ⟨_,rfl,?_⟩))
              go_meet
              case rel=>exact ⟨_,(decide ((a0_4.size:Int)>16)),(z0_),H',⟨by have:=HJ2.out;have:=HJ19.out;have:=HJ29.out;first | omega | exact Nat.le_refl _⟩,⟨z5_ BK107.out⟩,⟨z3_ HB.out GE107.out⟩⟩
             ·rw [if_neg c44] at H
              have c44b0:(a0_4.toList == ([]:List UInt8))=false:=beq_eq_false_iff_ne.mpr c44
              have c44b1:(a0_4.toList != ([]:List UInt8))=true:=bne_iff_ne.mpr c44
              have H':=aM H
              clear H
              have ⟨hcz46_0,hcz46_1,hcz46_2,hcz46_3,hcz46_4,hcz46_5,hfz46_0,hfz46_1,hfz46_2,hfz46_3,hfz46_4,hfz46_5⟩:=cz6_ BK107.out
              go_wp2_with (first | ((with_reducible refine gc_ 46 ?_);refine gl_ (some 68) Try.func46 #[.string a0_4] ?_;(with_reducible refine (Y4.calls kj29 a0_4 t116 _ A39.out).mono ?_);rintro e w' ⟨rfl,⟨nd,rfl⟩⟩;refine ⟨_,rfl,?_⟩))
              go_meet
              case rel=>exact ⟨_,(true),(z0_),H',⟨by have:=HJ2.out;have:=HJ19.out;have:=HJ29.out;first | omega | exact Nat.le_refl _⟩,⟨z5_ BK107.out⟩,⟨z3_ HB.out GE107.out⟩⟩
          case rest =>
           clear HC38
           try clear c1
           try clear c2
           try clear p2
           try clear c3
           try clear c4
           try clear c7
           try clear c7b0
           try clear c7b1
           try clear c11
           try clear c19
           try clear c21
           try clear c22
           try clear c24
           try clear c24b0
           try clear c24b1
           try clear c25
           try clear c29
           try clear c32
           try clear c32b0
           try clear c32b1
           try clear c32b2
           try clear c34
           try clear c37
           try clear c40
           try clear c40b0
           try clear c40b1
           try clear c40b2
           try clear c42
           try clear c44
           try clear c44b0
           try clear c44b1
           try clear c46
           try clear hcz13_0
           try clear hcz13_1
           try clear hcz13_2
           try clear hcz13_3
           try clear hcz13_4
           try clear hcz13_5
           try clear hcz15_0
           try clear hcz15_1
           try clear hcz15_2
           try clear hcz15_3
           try clear hcz15_4
           try clear hcz15_5
           try clear hcz16_0
           try clear hcz16_1
           try clear hcz16_2
           try clear hcz16_3
           try clear hcz16_4
           try clear hcz16_5
           try clear hcz18_0
           try clear hcz18_1
           try clear hcz18_2
           try clear hcz18_3
           try clear hcz18_4
           try clear hcz18_5
           try clear hcz23_0
           try clear hcz23_1
           try clear hcz23_2
           try clear hcz23_3
           try clear hcz23_4
           try clear hcz23_5
           try clear hcz26_0
           try clear hcz26_1
           try clear hcz26_2
           try clear hcz26_3
           try clear hcz26_4
           try clear hcz26_5
           try clear hcz27_0
           try clear hcz27_1
           try clear hcz27_2
           try clear hcz27_3
           try clear hcz27_4
           try clear hcz27_5
           try clear hcz28_0
           try clear hcz28_1
           try clear hcz28_2
           try clear hcz28_3
           try clear hcz28_4
           try clear hcz28_5
           try clear hcz33_0
           try clear hcz33_1
           try clear hcz33_2
           try clear hcz33_3
           try clear hcz33_4
           try clear hcz33_5
           try clear hcz35_0
           try clear hcz35_1
           try clear hcz35_2
           try clear hcz35_3
           try clear hcz35_4
           try clear hcz35_5
           try clear hcz36_0
           try clear hcz36_1
           try clear hcz36_2
           try clear hcz36_3
           try clear hcz36_4
           try clear hcz36_5
           try clear hcz41_0
           try clear hcz41_1
           try clear hcz41_2
           try clear hcz41_3
           try clear hcz41_4
           try clear hcz41_5
           try clear hcz43_0
           try clear hcz43_1
           try clear hcz43_2
           try clear hcz43_3
           try clear hcz43_4
           try clear hcz43_5
           try clear hcz45_0
           try clear hcz45_1
           try clear hcz45_2
           try clear hcz45_3
           try clear hcz45_4
           try clear hcz45_5
           try clear hcz46_0
           try clear hcz46_1
           try clear hcz46_2
           try clear hcz46_3
           try clear hcz46_4
           try clear hcz46_5
           try clear hcz5_0
           try clear hcz5_1
           try clear hcz5_2
           try clear hcz5_3
           try clear hcz5_4
           try clear hcz5_5
           try clear hcz8_0
           try clear hcz8_1
           try clear hcz8_2
           try clear hcz8_3
           try clear hcz8_4
           try clear hcz8_5
           try clear hfz13_0
           try clear hfz13_1
           try clear hfz13_2
           try clear hfz13_3
           try clear hfz13_4
           try clear hfz13_5
           try clear hfz15_0
           try clear hfz15_1
           try clear hfz15_2
           try clear hfz15_3
           try clear hfz15_4
           try clear hfz15_5
           try clear hfz16_0
           try clear hfz16_1
           try clear hfz16_2
           try clear hfz16_3
           try clear hfz16_4
           try clear hfz16_5
           try clear hfz18_0
           try clear hfz18_1
           try clear hfz18_2
           try clear hfz18_3
           try clear hfz18_4
           try clear hfz18_5
           try clear hfz23_0
           try clear hfz23_1
           try clear hfz23_2
           try clear hfz23_3
           try clear hfz23_4
           try clear hfz23_5
           try clear hfz26_0
           try clear hfz26_1
           try clear hfz26_2
           try clear hfz26_3
           try clear hfz26_4
           try clear hfz26_5
           try clear hfz27_0
           try clear hfz27_1
           try clear hfz27_2
           try clear hfz27_3
           try clear hfz27_4
           try clear hfz27_5
           try clear hfz28_0
           try clear hfz28_1
           try clear hfz28_2
           try clear hfz28_3
           try clear hfz28_4
           try clear hfz28_5
           try clear hfz33_0
           try clear hfz33_1
           try clear hfz33_2
           try clear hfz33_3
           try clear hfz33_4
           try clear hfz33_5
           try clear hfz35_0
           try clear hfz35_1
           try clear hfz35_2
           try clear hfz35_3
           try clear hfz35_4
           try clear hfz35_5
           try clear hfz36_0
           try clear hfz36_1
           try clear hfz36_2
           try clear hfz36_3
           try clear hfz36_4
           try clear hfz36_5
           try clear hfz41_0
           try clear hfz41_1
           try clear hfz41_2
           try clear hfz41_3
           try clear hfz41_4
           try clear hfz41_5
           try clear hfz43_0
           try clear hfz43_1
           try clear hfz43_2
           try clear hfz43_3
           try clear hfz43_4
           try clear hfz43_5
           try clear hfz45_0
           try clear hfz45_1
           try clear hfz45_2
           try clear hfz45_3
           try clear hfz45_4
           try clear hfz45_5
           try clear hfz46_0
           try clear hfz46_1
           try clear hfz46_2
           try clear hfz46_3
           try clear hfz46_4
           try clear hfz46_5
           try clear hfz5_0
           try clear hfz5_1
           try clear hfz5_2
           try clear hfz5_3
           try clear hfz5_4
           try clear hfz5_5
           try clear hfz8_0
           try clear hfz8_1
           try clear hfz8_2
           try clear hfz8_3
           try clear hfz8_4
           try clear hfz8_5
           try clear p2
           obtain ⟨kq,x64_37,rfl,HA,HJ37,BK107,HB⟩:=hcut
           cases kq with
           | zero=>exact absurd HA.out (by simp [Y2.j3])
           | succ kj37 =>
            have H:=HA.out
            clear HA
            simp only [Y2.j3] at H
            by_cases c47:x64_37=true
            ·subst c47
             have H1:(some false)=some r:=by rw [if_pos rfl] at H;exact H
             clear H
             have H:=H1
             clear H1
             obtain rfl:=sI H
             go_wp2
             go_ret
             exact ⟨z6_,z3_ HB.out GE107.out⟩
            ·replace c47:=Bool.eq_false_iff.mpr c47
             subst c47
             have H1:(if a0_5=(-1) then (some true) else ((Y32.f a0_0).bind fun t117=>(if t117=true then ((Y34.f a0_5).bind fun t118=>(some t118)) else (some false))))=some r:=by rw [if_neg (show ¬ (false=true) by decide)] at H;exact H
             clear H
             have H:=H1
             clear H1
             by_cases c48:a0_5=(-1)
             ·rw [if_pos c48] at H
              have c48b0:(a0_5 == (-1))=true:=beq_iff_eq.mpr c48
              have c48b1:(a0_5 != (-1))=false:=bne_eq_false_iff_eq.mpr c48
              clear c48
              obtain rfl:=sI H
              have ⟨hcz49_0,hcz49_1,hcz49_2,hcz49_3,hcz49_4,hcz49_5,hfz49_0,hfz49_1,hfz49_2,hfz49_3,hfz49_4,hfz49_5⟩:=cz6_ BK107.out
              go_wp2
              go_ret
              exact ⟨z6_,z3_ HB.out GE107.out⟩
             ·rw [if_neg c48] at H
              have c48b0:(a0_5 == (-1))=false:=beq_eq_false_iff_ne.mpr c48
              have c48b1:(a0_5 != (-1))=true:=bne_iff_ne.mpr c48
              replace H:=bS H
              obtain ⟨t117,A500,H⟩:=H
              replace H:(if t117=true then ((Y34.f a0_5).bind fun t118=>(some t118)) else (some false))=some r:=H
              have A50:=aM A500
              clear A500
              by_cases c51:t117=true
              ·subst c51
               have H1:((Y34.f a0_5).bind fun t118=>(some t118))=some r:=by rw [if_pos rfl] at H;exact H
               clear H
               have H:=H1
               clear H1
               replace H:=bS H
               obtain ⟨t118,A520,H⟩:=H
               replace H:(some t118)=some r:=H
               have A52:=aM A520
               clear A520
               obtain rfl:=sI H
               have ⟨hcz53_0,hcz53_1,hcz53_2,hcz53_3,hcz53_4,hcz53_5,hfz53_0,hfz53_1,hfz53_2,hfz53_3,hfz53_4,hfz53_5⟩:=cz6_ BK107.out
               go_wp2_with (first | (go_at_call 47;(with_reducible refine (Y32.calls a0_0 true _ A50.out).mono ?_);rintro e w' ⟨rfl,⟨nd,rfl⟩⟩) | (go_at_call 48;(with_reducible refine (Y34.calls a0_5 t118 _ A52.out).mono ?_);rintro e w' ⟨rfl,⟨nd,rfl⟩⟩))
               go_ret
               exact ⟨z6_,z3_ HB.out GE107.out⟩
              ·replace c51:=Bool.eq_false_iff.mpr c51
               subst c51
               have H1:(some false)=some r:=by rw [if_neg (show ¬ (false=true) by decide)] at H;exact H
               clear H
               have H:=H1
               clear H1
               obtain rfl:=sI H
               have ⟨hcz54_0,hcz54_1,hcz54_2,hcz54_3,hcz54_4,hcz54_5,hfz54_0,hfz54_1,hfz54_2,hfz54_3,hfz54_4,hfz54_5⟩:=cz6_ BK107.out
               go_wp2_with (first | (go_at_call 47;(with_reducible refine (Y32.calls a0_0 false _ A50.out).mono ?_);rintro e w' ⟨rfl,⟨nd,rfl⟩⟩))
               go_ret
               exact ⟨z6_,z3_ HB.out GE107.out⟩


/-! ### Y35: function 8 -/
def Y35.f (a0_0:Int) (a0_1:Int) (a0_2:Int) (a0_3:ByteArray) (a0_4:ByteArray) (a0_5:Int):Option (Int × Int × Int × ByteArray × ByteArray × Int):=some (a0_0,a0_1,a0_2,a0_3,a0_4,a0_5)
theorem Y35.calls (a0_0:Int) (a0_1:Int) (a0_2:Int) (a0_3:ByteArray) (a0_4:ByteArray) (a0_5:Int) (r1:Int) (r2:Int) (r3:Int) (r4:ByteArray) (r5:ByteArray) (r6:Int) (w:World) (h:Y35.f a0_0 a0_1 a0_2 a0_3 a0_4 a0_5=some (r1,r2,r3,r4,r5,r6)) :
  Calls Try.prog 8 #[.agg #[.int .i64 a0_0,.int .i64 a0_1,.int .i64 a0_2,.string a0_3,.string a0_4,.int .i64 a0_5]] w fun e w'=>e = .returned (.agg #[.int .i64 r1,.int .i64 r2,.int .i64 r3,.string r4,.string r5,.int .i64 r6])∧Below w.heap.size w w':=by
 have hu23:=Try.underlying23
 have hu26:=Try.underlying26
 have HB:=aM (Below.refl w.heap.size w)
 have H:(some (a0_0,a0_1,a0_2,a0_3,a0_4,a0_5))=some (r1,r2,r3,r4,r5,r6):=h
 clear h
 simp only [Option.some.injEq,Prod.mk.injEq] at H
 obtain ⟨rfl,rfl,rfl,rfl,rfl,rfl⟩:=H
 go_enter Try.func8,Try.ntmps8
 go_wp2_with (first | ((with_reducible refine gd_ 1 ?_);refine be_ 1 #[.int .i64 a0_0,.int .i64 a0_1,.int .i64 a0_2,.string a0_3,.string a0_4,.int .i64 a0_5] 23 ?_;intro gb119 hg w2 hbox hb;have n0_:=aM (below_step (z7_ HB.out) hb);have n1_:=aM (hbox);have n2_:=aM ((z8_ HB.out:w.heap.size≤gb119));have n3_:=aM ((z8_ HB.out:w.heap.size≤gb119));clear HB;have HB:=n0_;have BK119:=n1_;have GW119:=n2_;have GE119:=n3_;clear n0_ n1_ n2_ n3_;clear hb hbox hg) | ((with_reducible refine gd_ 2 ?_);refine be_ 2 #[.int .i64 0,.int .i64 0,.int .i64 0,.string (⟨#[]⟩:ByteArray),.string (⟨#[]⟩:ByteArray),.int .i64 0] 26 ?_;intro gb120 hg w3 hbox hb;have n0_:=aM (blkB_ BK119.out hb);have n1_:=aM (below_step (z3_ HB.out GE119.out) hb);have n2_:=aM (hbox);have n3_:=aM ((z12_ HB.out GE119.out:w.heap.size≤gb120));have n4_:=aM ((z12_ HB.out GE119.out:w.heap.size≤gb120));have n5_:=aM (neL_ BK119.out hg);have n6_:=aM (neG_ BK119.out hg);clear BK119;clear HB;have BK119:=n0_;have HB:=n1_;have BK120:=n2_;have GW120:=n3_;have GE120:=n4_;have NB119_120:=n5_;have NB120_119:=n6_;clear n0_ n1_ n2_ n3_ n4_ n5_ n6_;clear hb hbox hg) | ((with_reducible refine gd_ 3 ?_);refine be_ 3 #[.int .i64 0,.int .i64 0,.int .i64 0,.string (⟨#[]⟩:ByteArray),.string (⟨#[]⟩:ByteArray),.int .i64 0] 26 ?_;intro gb121 hg w4 hbox hb;have n0_:=aM (blkB_ BK119.out hb);have n1_:=aM (blkB_ BK120.out hb);have n2_:=aM (below_step (z4_ HB.out GE119.out GE120.out) hb);have n3_:=aM (hbox);have n4_:=aM ((by rw [hg];exact (below_size (by repeat (first | (with_reducible first | exact HB.out | apply below_alloc | apply pw_below_drewN | apply below_drew1 | refine below_set ?_ GE119.out | refine below_set ?_ GE120.out) | exact HB.out))):w.heap.size≤gb121));have n5_:=aM ((by rw [hg];exact (below_size (by repeat (first | (with_reducible first | exact HB.out | apply below_alloc | apply pw_below_drewN | apply below_drew1 | refine below_set ?_ GE119.out | refine below_set ?_ GE120.out) | exact HB.out))):w.heap.size≤gb121));have n6_:=aM (neL_ BK119.out hg);have n7_:=aM (neG_ BK119.out hg);have n8_:=aM (neL_ BK120.out hg);have n9_:=aM (neG_ BK120.out hg);clear BK119;clear BK120;clear HB;have BK119:=n0_;have BK120:=n1_;have HB:=n2_;have BK121:=n3_;have GW121:=n4_;have GE121:=n5_;have NB119_121:=n6_;have NB121_119:=n7_;have NB120_121:=n8_;have NB121_120:=n9_;clear n0_ n1_ n2_ n3_ n4_ n5_ n6_ n7_ n8_ n9_;clear hb hbox hg;have hnb5:=NB119_120.out;have hnc5:=NB120_119.out;have hnb6:=NB119_121.out;have hnc6:=NB121_119.out;have ⟨hcz7_0,hcz7_1,hcz7_2,hcz7_3,hcz7_4,hcz7_5,hfz7_0,hfz7_1,hfz7_2,hfz7_3,hfz7_4,hfz7_5⟩:=cz6_ BK119.out;have hnb8:=NB121_120.out;have hnc8:=NB120_121.out;have ⟨hcz9_0,hcz9_1,hcz9_2,hcz9_3,hcz9_4,hcz9_5,hfz9_0,hfz9_1,hfz9_2,hfz9_3,hfz9_4,hfz9_5⟩:=cz6_ BK121.out;have ⟨hcz10_0,hcz10_1,hcz10_2,hcz10_3,hcz10_4,hcz10_5,hfz10_0,hfz10_1,hfz10_2,hfz10_3,hfz10_4,hfz10_5⟩:=cz6_ BK120.out))
 refine bodyPost_ret (results_cell_row rfl _ _ gb120 26 #[.int .i64 a0_0,.int .i64 a0_1,.int .i64 a0_2,.string a0_3,.string a0_4,.int .i64 a0_5] (0,0) _ rfl (by (with_reducible repeat (first | refine blk_drewN ?_ _ | refine blk_drew ?_ | refine blk_alloc ?_ _));apply put6_;(with_reducible repeat (first | refine blk_drewN ?_ _ | refine blk_drew ?_ | refine blk_alloc ?_ _));refine blk_far ?_ NB120_121.out _;(with_reducible repeat (first | refine blk_drewN ?_ _ | refine blk_drew ?_ | refine blk_alloc ?_ _));refine blk_far ?_ NB120_121.out _;(with_reducible repeat (first | refine blk_drewN ?_ _ | refine blk_drew ?_ | refine blk_alloc ?_ _));refine blk_far ?_ NB120_121.out _;(with_reducible repeat (first | refine blk_drewN ?_ _ | refine blk_drew ?_ | refine blk_alloc ?_ _));refine blk_far ?_ NB120_121.out _;(with_reducible repeat (first | refine blk_drewN ?_ _ | refine blk_drew ?_ | refine blk_alloc ?_ _));refine blk_far ?_ NB120_121.out _;(with_reducible repeat (first | refine blk_drewN ?_ _ | refine blk_drew ?_ | refine blk_alloc ?_ _));refine blk_far ?_ NB120_121.out _;(with_reducible repeat (first | refine blk_drewN ?_ _ | refine blk_drew ?_ | refine blk_alloc ?_ _));exact BK120.out) Try.underlying26 rfl (by kernel_rfl)) rfl ?_
 exact ⟨z6_,by repeat (first | (with_reducible first | exact HB.out | apply below_alloc | apply pw_below_drewN | apply below_drew1 | refine below_set ?_ GE119.out | refine below_set ?_ GE120.out | refine below_set ?_ GE121.out) | exact HB.out)⟩


/-! ### Y14: function 49 -/
def Y14.f (a0:Int) (a1:Int) (a2:Int):Option (Bool):=if a1≤a0 then (some (decide (a0≤a2))) else (some false)
theorem Y14.calls (a0:Int) (a1:Int) (a2:Int) (r:Bool) (w:World) (h:Y14.f a0 a1 a2=some r) :
  Calls Try.prog 49 #[.int .i64 a0,.int .i64 a1,.int .i64 a2] w fun e w'=>e = .returned (.bool r)∧Drawn0 w w':=by
 have H:(if a1≤a0 then (some (decide (a0≤a2))) else (some false))=some r:=h
 clear h
 by_cases c4:a1≤a0
 ·rw [if_pos c4] at H
  have c4b0:decide (a1≤a0)=true:=dE c4
  clear c4
  obtain rfl:=sI H
  go_enter Try.func49,Try.ntmps49
  go_wp2
  go_ret
  exact ⟨z0_,z1_⟩
 ·rw [if_neg c4] at H
  have c4b0:decide (a1≤a0)=false:=dF c4
  clear c4
  obtain rfl:=sI H
  go_enter Try.func49,Try.ntmps49
  go_wp2
  go_ret
  exact ⟨z0_,z1_⟩


/-! ### Y8: function 50 -/
def Y8.j0:Nat→Bool→Option (Bool)
 | 0,_=>none
 | k+1,x4=>if x4=true then (some true) else (some false)
def Y8.f (k:Nat) (a0:Int):Option (Bool):=if a0=1 then (Y8.j0 k (a0 == 1)) else (if a0=2 then (Y8.j0 k (a0 == 2)) else (if a0=3 then (Y8.j0 k (a0 == 3)) else (if a0=5 then (Y8.j0 k (a0 == 5)) else (Y8.j0 k (a0 == 14)))))
theorem Y8.mono_l:∀ k,(∀ y0,LeO (Y8.j0 k y0) (Y8.j0 (k+1) y0))
 | 0=>by intros <;> exact LeO.none _
 | k+1=>by
  have ih0:=Y8.mono_l k
  ·intros
   unfold Y8.j0
   exact mO
theorem Y8.mono:∀ a0 k,LeO (Y8.f k a0) (Y8.f (k+1) a0):=by
 intro a0 k
 have ih0:=Y8.mono_l k
 unfold Y8.f
 exact mO
theorem Y8.calls (k:Nat) (a0:Int) (r:Bool) (w:World) (h:Y8.f k a0=some r) :
  Calls Try.prog 50 #[.int .i64 a0] w fun e w'=>e = .returned (.bool r)∧Drawn0 w w':=by
 have H:(if a0=1 then (Y8.j0 k (a0 == 1)) else (if a0=2 then (Y8.j0 k (a0 == 2)) else (if a0=3 then (Y8.j0 k (a0 == 3)) else (if a0=5 then (Y8.j0 k (a0 == 5)) else (Y8.j0 k (a0 == 14))))))=some r:=h
 clear h
 have HC2:=aM H
 clear H
 go_enter Try.func50,Try.ntmps50
 go_upto_if 4 with (fail)
 go_cut [4] (fun v4 wc=>∃ (kq:Nat) (x4_1:Bool),v4 = .bool x4_1∧Aside0 (Y8.j0 kq x4_1=some r)∧Aside0 (kq≤k)∧Drawn0 w wc)
 case first =>
  have H:=HC2.out
  clear HC2
  by_cases c3:a0=1
  ·rw [if_pos c3] at H
   have c3b0:(a0 == 1)=true:=beq_iff_eq.mpr c3
   have c3b1:(a0 != 1)=false:=bne_eq_false_iff_eq.mpr c3
   clear c3
   (first | rw [c3b0] | (simp only [i64_w,i32_w];rw [c3b0]) | skip)
   have H':=aM H
   clear H
   go_wp2
   go_meet
   case rel=>exact ⟨_,((a0 == 1)),(z0_),H',⟨by first | omega | exact Nat.le_refl _⟩,z1_⟩
  ·rw [if_neg c3] at H
   have c3b0:(a0 == 1)=false:=beq_eq_false_iff_ne.mpr c3
   have c3b1:(a0 != 1)=true:=bne_iff_ne.mpr c3
   (first | rw [c3b0] | (simp only [i64_w,i32_w];rw [c3b0]) | skip)
   by_cases c4:a0=2
   ·rw [if_pos c4] at H
    have c4b0:(a0 == 2)=true:=beq_iff_eq.mpr c4
    have c4b1:(a0 != 2)=false:=bne_eq_false_iff_eq.mpr c4
    clear c4
    have H':=aM H
    clear H
    go_wp2
    go_meet
    case rel=>exact ⟨_,((a0 == 2)),(z0_),H',⟨by first | omega | exact Nat.le_refl _⟩,z1_⟩
   ·rw [if_neg c4] at H
    have c4b0:(a0 == 2)=false:=beq_eq_false_iff_ne.mpr c4
    have c4b1:(a0 != 2)=true:=bne_iff_ne.mpr c4
    by_cases c5:a0=3
    ·rw [if_pos c5] at H
     have c5b0:(a0 == 3)=true:=beq_iff_eq.mpr c5
     have c5b1:(a0 != 3)=false:=bne_eq_false_iff_eq.mpr c5
     clear c5
     have H':=aM H
     clear H
     go_wp2
     go_meet
     case rel=>exact ⟨_,((a0 == 3)),(z0_),H',⟨by first | omega | exact Nat.le_refl _⟩,z1_⟩
    ·rw [if_neg c5] at H
     have c5b0:(a0 == 3)=false:=beq_eq_false_iff_ne.mpr c5
     have c5b1:(a0 != 3)=true:=bne_iff_ne.mpr c5
     by_cases c6:a0=5
     ·rw [if_pos c6] at H
      have c6b0:(a0 == 5)=true:=beq_iff_eq.mpr c6
      have c6b1:(a0 != 5)=false:=bne_eq_false_iff_eq.mpr c6
      clear c6
      have H':=aM H
      clear H
      go_wp2
      go_meet
      case rel=>exact ⟨_,((a0 == 5)),(z0_),H',⟨by first | omega | exact Nat.le_refl _⟩,z1_⟩
     ·rw [if_neg c6] at H
      have c6b0:(a0 == 5)=false:=beq_eq_false_iff_ne.mpr c6
      have c6b1:(a0 != 5)=true:=bne_iff_ne.mpr c6
      have H':=aM H
      clear H
      go_wp2
      go_meet
      case rel=>exact ⟨_,((a0 == 14)),(z0_),H',⟨by first | omega | exact Nat.le_refl _⟩,z1_⟩
 case rest =>
  clear HC2
  try clear p2
  try clear c3
  try clear c3b0
  try clear c3b1
  try clear c4
  try clear c4b0
  try clear c4b1
  try clear c5
  try clear c5b0
  try clear c5b1
  try clear c6
  try clear c6b0
  try clear c6b1
  obtain ⟨kq,x4_1,rfl,HA,HJ1,⟨mc1,rfl⟩⟩:=hcut
  cases kq with
  | zero=>exact absurd HA.out (by simp [Y8.j0])
  | succ kj1 =>
   have H:=HA.out
   clear HA
   simp only [Y8.j0] at H
   by_cases c7:x4_1=true
   ·subst c7
    have H1:(some true)=some r:=by rw [if_pos rfl] at H;exact H
    clear H
    have H:=H1
    clear H1
    obtain rfl:=sI H
    go_wp2
    go_ret
    exact ⟨z0_,z1_⟩
   ·replace c7:=Bool.eq_false_iff.mpr c7
    subst c7
    have H1:(some false)=some r:=by rw [if_neg (show ¬ (false=true) by decide)] at H;exact H
    clear H
    have H:=H1
    clear H1
    obtain rfl:=sI H
    go_wp2
    go_ret
    exact ⟨z0_,z1_⟩


/-! ### Y31: function 51 -/
def Y31.f (a0:Int):Option (Bool):=(Y14.f a0 (-1) 10000).bind fun t122=>(some t122)
theorem Y31.calls (a0:Int) (r:Bool) (w:World) (h:Y31.f a0=some r) :
  Calls Try.prog 51 #[.int .i64 a0] w fun e w'=>e = .returned (.bool r)∧Drawn0 w w':=by
 have H:((Y14.f a0 (-1) 10000).bind fun t122=>(some t122))=some r:=h
 clear h
 replace H:=bS H
 obtain ⟨t122,A20,H⟩:=H
 replace H:(some t122)=some r:=H
 have A2:=aM A20
 clear A20
 obtain rfl:=sI H
 go_enter Try.func51,Try.ntmps51
 go_wp2_with (first | ((with_reducible refine gc_ 49 ?_);refine gl_ (some 4) Try.func49 #[.int .i64 a0,.int .i64 (-1),.int .i64 10000] ?_;(with_reducible refine (Y14.calls a0 (-1) 10000 t122 _ A2.out).mono ?_);rintro e w' ⟨rfl,⟨nd,rfl⟩⟩;refine ⟨_,rfl,?_⟩))
 go_ret
 exact ⟨z0_,z1_⟩


/-! ### Y36: function 52 -/
def Y36.f  : Option ((List (S72))):=some (([(⟨(⟨#[112,117,116]⟩:ByteArray),(⟨#[65,75,68]⟩:ByteArray)⟩:S72),(⟨(⟨#[111,118,101,114]⟩:ByteArray),(⟨#[65,66,75,68]⟩:ByteArray)⟩:S72),(⟨(⟨#[100,101,108]⟩:ByteArray),(⟨#[65,66,75]⟩:ByteArray)⟩:S72),(⟨(⟨#[103,101,116]⟩:ByteArray),(⟨#[65,75]⟩:ByteArray)⟩:S72),(⟨(⟨#[100,101,108,105,118,101,114]⟩:ByteArray),(⟨#[65]⟩:ByteArray)⟩:S72),(⟨(⟨#[108,111,115,101]⟩:ByteArray),(⟨#[65]⟩:ByteArray)⟩:S72),(⟨(⟨#[116,119,105,99,101]⟩:ByteArray),(⟨#[65]⟩:ByteArray)⟩:S72),(⟨(⟨#[116,105,99,107]⟩:ByteArray),(⟨#[]⟩:ByteArray)⟩:S72),(⟨(⟨#[99,114,97,115,104]⟩:ByteArray),(⟨#[65]⟩:ByteArray)⟩:S72),(⟨(⟨#[115,116,97,114,116]⟩:ByteArray),(⟨#[65]⟩:ByteArray)⟩:S72),(⟨(⟨#[115,117,115,112,101,99,116]⟩:ByteArray),(⟨#[65]⟩:ByteArray)⟩:S72),(⟨(⟨#[116,114,117,115,116]⟩:ByteArray),(⟨#[65]⟩:ByteArray)⟩:S72),(⟨(⟨#[104,97,110,100]⟩:ByteArray),(⟨#[65]⟩:ByteArray)⟩:S72),(⟨(⟨#[112,97,99,107]⟩:ByteArray),(⟨#[65]⟩:ByteArray)⟩:S72),(⟨(⟨#[115,101,116,116,108,101]⟩:ByteArray),(⟨#[]⟩:ByteArray)⟩:S72),(⟨(⟨#[115,112,114,101,97,100]⟩:ByteArray),(⟨#[75]⟩:ByteArray)⟩:S72),(⟨(⟨#[101,120,99,104,97,110,103,101]⟩:ByteArray),(⟨#[65,66]⟩:ByteArray)⟩:S72)]:List (S72)))
theorem Y36.calls  (r:List (S72)) (w:World) (h:Y36.f  = some r) :
  Calls Try.prog 52 #[] w fun e w'=>∃ v0_:Value,e = .returned (v0_)∧Kd.R k72 72 w' w.heap.size (fun _=>True) v0_ r∧Below w.heap.size w w':=by
 have hu72:=Try.underlying72
 have HB:=aM (Below.refl w.heap.size w)
 have H:(some (([(⟨(⟨#[112,117,116]⟩:ByteArray),(⟨#[65,75,68]⟩:ByteArray)⟩:S72),(⟨(⟨#[111,118,101,114]⟩:ByteArray),(⟨#[65,66,75,68]⟩:ByteArray)⟩:S72),(⟨(⟨#[100,101,108]⟩:ByteArray),(⟨#[65,66,75]⟩:ByteArray)⟩:S72),(⟨(⟨#[103,101,116]⟩:ByteArray),(⟨#[65,75]⟩:ByteArray)⟩:S72),(⟨(⟨#[100,101,108,105,118,101,114]⟩:ByteArray),(⟨#[65]⟩:ByteArray)⟩:S72),(⟨(⟨#[108,111,115,101]⟩:ByteArray),(⟨#[65]⟩:ByteArray)⟩:S72),(⟨(⟨#[116,119,105,99,101]⟩:ByteArray),(⟨#[65]⟩:ByteArray)⟩:S72),(⟨(⟨#[116,105,99,107]⟩:ByteArray),(⟨#[]⟩:ByteArray)⟩:S72),(⟨(⟨#[99,114,97,115,104]⟩:ByteArray),(⟨#[65]⟩:ByteArray)⟩:S72),(⟨(⟨#[115,116,97,114,116]⟩:ByteArray),(⟨#[65]⟩:ByteArray)⟩:S72),(⟨(⟨#[115,117,115,112,101,99,116]⟩:ByteArray),(⟨#[65]⟩:ByteArray)⟩:S72),(⟨(⟨#[116,114,117,115,116]⟩:ByteArray),(⟨#[65]⟩:ByteArray)⟩:S72),(⟨(⟨#[104,97,110,100]⟩:ByteArray),(⟨#[65]⟩:ByteArray)⟩:S72),(⟨(⟨#[112,97,99,107]⟩:ByteArray),(⟨#[65]⟩:ByteArray)⟩:S72),(⟨(⟨#[115,101,116,116,108,101]⟩:ByteArray),(⟨#[]⟩:ByteArray)⟩:S72),(⟨(⟨#[115,112,114,101,97,100]⟩:ByteArray),(⟨#[75]⟩:ByteArray)⟩:S72),(⟨(⟨#[101,120,99,104,97,110,103,101]⟩:ByteArray),(⟨#[65,66]⟩:ByteArray)⟩:S72)]:List (S72))))=some r:=h
 clear h
 obtain ⟨y123,hy123⟩:∃ y_:List (S72),y_=(([(⟨(⟨#[112,117,116]⟩:ByteArray),(⟨#[65,75,68]⟩:ByteArray)⟩:S72),(⟨(⟨#[111,118,101,114]⟩:ByteArray),(⟨#[65,66,75,68]⟩:ByteArray)⟩:S72),(⟨(⟨#[100,101,108]⟩:ByteArray),(⟨#[65,66,75]⟩:ByteArray)⟩:S72),(⟨(⟨#[103,101,116]⟩:ByteArray),(⟨#[65,75]⟩:ByteArray)⟩:S72),(⟨(⟨#[100,101,108,105,118,101,114]⟩:ByteArray),(⟨#[65]⟩:ByteArray)⟩:S72),(⟨(⟨#[108,111,115,101]⟩:ByteArray),(⟨#[65]⟩:ByteArray)⟩:S72),(⟨(⟨#[116,119,105,99,101]⟩:ByteArray),(⟨#[65]⟩:ByteArray)⟩:S72),(⟨(⟨#[116,105,99,107]⟩:ByteArray),(⟨#[]⟩:ByteArray)⟩:S72),(⟨(⟨#[99,114,97,115,104]⟩:ByteArray),(⟨#[65]⟩:ByteArray)⟩:S72),(⟨(⟨#[115,116,97,114,116]⟩:ByteArray),(⟨#[65]⟩:ByteArray)⟩:S72),(⟨(⟨#[115,117,115,112,101,99,116]⟩:ByteArray),(⟨#[65]⟩:ByteArray)⟩:S72),(⟨(⟨#[116,114,117,115,116]⟩:ByteArray),(⟨#[65]⟩:ByteArray)⟩:S72),(⟨(⟨#[104,97,110,100]⟩:ByteArray),(⟨#[65]⟩:ByteArray)⟩:S72),(⟨(⟨#[112,97,99,107]⟩:ByteArray),(⟨#[65]⟩:ByteArray)⟩:S72),(⟨(⟨#[115,101,116,116,108,101]⟩:ByteArray),(⟨#[]⟩:ByteArray)⟩:S72),(⟨(⟨#[115,112,114,101,97,100]⟩:ByteArray),(⟨#[75]⟩:ByteArray)⟩:S72),(⟨(⟨#[101,120,99,104,97,110,103,101]⟩:ByteArray),(⟨#[65,66]⟩:ByteArray)⟩:S72)]:List (S72))):=⟨_,rfl⟩
 replace H:(some y123)=some r:=by first | (rw [hy123];with_reducible exact H) | (have H2_:=(Option.bind_some _ _).symm.trans H;rw [hy123];with_reducible exact H2_) | (have H2_:=(Option.bind_some _ _).symm.trans H;with_reducible exact H2_) | with_reducible exact H | (rw [hy123];exact H) | exact H
 have Ny123:=aM hy123
 clear hy123
 obtain rfl:=sI H
 go_enter Try.func52,Try.ntmps52
 go_wp2_with (first | ((with_reducible refine gd_ 18 ?_);refine Kd.R_lit k72 _ 72 ?hg (N:=18) ?hd (xs:=([(⟨(⟨#[112,117,116]⟩:ByteArray),(⟨#[65,75,68]⟩:ByteArray)⟩:S72),(⟨(⟨#[111,118,101,114]⟩:ByteArray),(⟨#[65,66,75,68]⟩:ByteArray)⟩:S72),(⟨(⟨#[100,101,108]⟩:ByteArray),(⟨#[65,66,75]⟩:ByteArray)⟩:S72),(⟨(⟨#[103,101,116]⟩:ByteArray),(⟨#[65,75]⟩:ByteArray)⟩:S72),(⟨(⟨#[100,101,108,105,118,101,114]⟩:ByteArray),(⟨#[65]⟩:ByteArray)⟩:S72),(⟨(⟨#[108,111,115,101]⟩:ByteArray),(⟨#[65]⟩:ByteArray)⟩:S72),(⟨(⟨#[116,119,105,99,101]⟩:ByteArray),(⟨#[65]⟩:ByteArray)⟩:S72),(⟨(⟨#[116,105,99,107]⟩:ByteArray),(⟨#[]⟩:ByteArray)⟩:S72),(⟨(⟨#[99,114,97,115,104]⟩:ByteArray),(⟨#[65]⟩:ByteArray)⟩:S72),(⟨(⟨#[115,116,97,114,116]⟩:ByteArray),(⟨#[65]⟩:ByteArray)⟩:S72),(⟨(⟨#[115,117,115,112,101,99,116]⟩:ByteArray),(⟨#[65]⟩:ByteArray)⟩:S72),(⟨(⟨#[116,114,117,115,116]⟩:ByteArray),(⟨#[65]⟩:ByteArray)⟩:S72),(⟨(⟨#[104,97,110,100]⟩:ByteArray),(⟨#[65]⟩:ByteArray)⟩:S72),(⟨(⟨#[112,97,99,107]⟩:ByteArray),(⟨#[65]⟩:ByteArray)⟩:S72),(⟨(⟨#[115,101,116,116,108,101]⟩:ByteArray),(⟨#[]⟩:ByteArray)⟩:S72),(⟨(⟨#[115,112,114,101,97,100]⟩:ByteArray),(⟨#[75]⟩:ByteArray)⟩:S72),(⟨(⟨#[101,120,99,104,97,110,103,101]⟩:ByteArray),(⟨#[65,66]⟩:ByteArray)⟩:S72)]:List (S72))) (inner:=[.string (⟨#[112,117,116]⟩:ByteArray),.string (⟨#[65,75,68]⟩:ByteArray),.string (⟨#[111,118,101,114]⟩:ByteArray),.string (⟨#[65,66,75,68]⟩:ByteArray),.string (⟨#[100,101,108]⟩:ByteArray),.string (⟨#[65,66,75]⟩:ByteArray),.string (⟨#[103,101,116]⟩:ByteArray),.string (⟨#[65,75]⟩:ByteArray),.string (⟨#[100,101,108,105,118,101,114]⟩:ByteArray),.string (⟨#[65]⟩:ByteArray),.string (⟨#[108,111,115,101]⟩:ByteArray),.string (⟨#[65]⟩:ByteArray),.string (⟨#[116,119,105,99,101]⟩:ByteArray),.string (⟨#[65]⟩:ByteArray),.string (⟨#[116,105,99,107]⟩:ByteArray),.string (⟨#[]⟩:ByteArray),.string (⟨#[99,114,97,115,104]⟩:ByteArray),.string (⟨#[65]⟩:ByteArray),.string (⟨#[115,116,97,114,116]⟩:ByteArray),.string (⟨#[65]⟩:ByteArray),.string (⟨#[115,117,115,112,101,99,116]⟩:ByteArray),.string (⟨#[65]⟩:ByteArray),.string (⟨#[116,114,117,115,116]⟩:ByteArray),.string (⟨#[65]⟩:ByteArray),.string (⟨#[104,97,110,100]⟩:ByteArray),.string (⟨#[65]⟩:ByteArray),.string (⟨#[112,97,99,107]⟩:ByteArray),.string (⟨#[65]⟩:ByteArray),.string (⟨#[115,101,116,116,108,101]⟩:ByteArray),.string (⟨#[]⟩:ByteArray),.string (⟨#[115,112,114,101,97,100]⟩:ByteArray),.string (⟨#[75]⟩:ByteArray),.string (⟨#[101,120,99,104,97,110,103,101]⟩:ByteArray),.string (⟨#[65,66]⟩:ByteArray)]) (ok:=fun _=>True) (okp:=fun _=>True) ?hr ?hp (fun _ hk=>hk) trivial (Below.refl _ _) (Nat.le_refl _) (by simp) ?_;(case hd=>rfl);(case hg=>rfl);(case hr=>first | (go_simp;done) | (go_simp;rfl));(case hp=>exact (Reps.c2 (show Kd.M k72 _ _ _ (⟨(⟨#[112,117,116]⟩:ByteArray),(⟨#[65,75,68]⟩:ByteArray)⟩:S72) [.string (⟨#[112,117,116]⟩:ByteArray),.string (⟨#[65,75,68]⟩:ByteArray)] from (k72_mkM _ _ _ (⟨(⟨#[112,117,116]⟩:ByteArray),(⟨#[65,75,68]⟩:ByteArray)⟩:S72) )) (Reps.c2 (show Kd.M k72 _ _ _ (⟨(⟨#[111,118,101,114]⟩:ByteArray),(⟨#[65,66,75,68]⟩:ByteArray)⟩:S72) [.string (⟨#[111,118,101,114]⟩:ByteArray),.string (⟨#[65,66,75,68]⟩:ByteArray)] from (k72_mkM _ _ _ (⟨(⟨#[111,118,101,114]⟩:ByteArray),(⟨#[65,66,75,68]⟩:ByteArray)⟩:S72) )) (Reps.c2 (show Kd.M k72 _ _ _ (⟨(⟨#[100,101,108]⟩:ByteArray),(⟨#[65,66,75]⟩:ByteArray)⟩:S72) [.string (⟨#[100,101,108]⟩:ByteArray),.string (⟨#[65,66,75]⟩:ByteArray)] from (k72_mkM _ _ _ (⟨(⟨#[100,101,108]⟩:ByteArray),(⟨#[65,66,75]⟩:ByteArray)⟩:S72) )) (Reps.c2 (show Kd.M k72 _ _ _ (⟨(⟨#[103,101,116]⟩:ByteArray),(⟨#[65,75]⟩:ByteArray)⟩:S72) [.string (⟨#[103,101,116]⟩:ByteArray),.string (⟨#[65,75]⟩:ByteArray)] from (k72_mkM _ _ _ (⟨(⟨#[103,101,116]⟩:ByteArray),(⟨#[65,75]⟩:ByteArray)⟩:S72) )) (Reps.c2 (show Kd.M k72 _ _ _ (⟨(⟨#[100,101,108,105,118,101,114]⟩:ByteArray),(⟨#[65]⟩:ByteArray)⟩:S72) [.string (⟨#[100,101,108,105,118,101,114]⟩:ByteArray),.string (⟨#[65]⟩:ByteArray)] from (k72_mkM _ _ _ (⟨(⟨#[100,101,108,105,118,101,114]⟩:ByteArray),(⟨#[65]⟩:ByteArray)⟩:S72) )) (Reps.c2 (show Kd.M k72 _ _ _ (⟨(⟨#[108,111,115,101]⟩:ByteArray),(⟨#[65]⟩:ByteArray)⟩:S72) [.string (⟨#[108,111,115,101]⟩:ByteArray),.string (⟨#[65]⟩:ByteArray)] from (k72_mkM _ _ _ (⟨(⟨#[108,111,115,101]⟩:ByteArray),(⟨#[65]⟩:ByteArray)⟩:S72) )) (Reps.c2 (show Kd.M k72 _ _ _ (⟨(⟨#[116,119,105,99,101]⟩:ByteArray),(⟨#[65]⟩:ByteArray)⟩:S72) [.string (⟨#[116,119,105,99,101]⟩:ByteArray),.string (⟨#[65]⟩:ByteArray)] from (k72_mkM _ _ _ (⟨(⟨#[116,119,105,99,101]⟩:ByteArray),(⟨#[65]⟩:ByteArray)⟩:S72) )) (Reps.c2 (show Kd.M k72 _ _ _ (⟨(⟨#[116,105,99,107]⟩:ByteArray),(⟨#[]⟩:ByteArray)⟩:S72) [.string (⟨#[116,105,99,107]⟩:ByteArray),.string (⟨#[]⟩:ByteArray)] from (k72_mkM _ _ _ (⟨(⟨#[116,105,99,107]⟩:ByteArray),(⟨#[]⟩:ByteArray)⟩:S72) )) (Reps.c2 (show Kd.M k72 _ _ _ (⟨(⟨#[99,114,97,115,104]⟩:ByteArray),(⟨#[65]⟩:ByteArray)⟩:S72) [.string (⟨#[99,114,97,115,104]⟩:ByteArray),.string (⟨#[65]⟩:ByteArray)] from (k72_mkM _ _ _ (⟨(⟨#[99,114,97,115,104]⟩:ByteArray),(⟨#[65]⟩:ByteArray)⟩:S72) )) (Reps.c2 (show Kd.M k72 _ _ _ (⟨(⟨#[115,116,97,114,116]⟩:ByteArray),(⟨#[65]⟩:ByteArray)⟩:S72) [.string (⟨#[115,116,97,114,116]⟩:ByteArray),.string (⟨#[65]⟩:ByteArray)] from (k72_mkM _ _ _ (⟨(⟨#[115,116,97,114,116]⟩:ByteArray),(⟨#[65]⟩:ByteArray)⟩:S72) )) (Reps.c2 (show Kd.M k72 _ _ _ (⟨(⟨#[115,117,115,112,101,99,116]⟩:ByteArray),(⟨#[65]⟩:ByteArray)⟩:S72) [.string (⟨#[115,117,115,112,101,99,116]⟩:ByteArray),.string (⟨#[65]⟩:ByteArray)] from (k72_mkM _ _ _ (⟨(⟨#[115,117,115,112,101,99,116]⟩:ByteArray),(⟨#[65]⟩:ByteArray)⟩:S72) )) (Reps.c2 (show Kd.M k72 _ _ _ (⟨(⟨#[116,114,117,115,116]⟩:ByteArray),(⟨#[65]⟩:ByteArray)⟩:S72) [.string (⟨#[116,114,117,115,116]⟩:ByteArray),.string (⟨#[65]⟩:ByteArray)] from (k72_mkM _ _ _ (⟨(⟨#[116,114,117,115,116]⟩:ByteArray),(⟨#[65]⟩:ByteArray)⟩:S72) )) (Reps.c2 (show Kd.M k72 _ _ _ (⟨(⟨#[104,97,110,100]⟩:ByteArray),(⟨#[65]⟩:ByteArray)⟩:S72) [.string (⟨#[104,97,110,100]⟩:ByteArray),.string (⟨#[65]⟩:ByteArray)] from (k72_mkM _ _ _ (⟨(⟨#[104,97,110,100]⟩:ByteArray),(⟨#[65]⟩:ByteArray)⟩:S72) )) (Reps.c2 (show Kd.M k72 _ _ _ (⟨(⟨#[112,97,99,107]⟩:ByteArray),(⟨#[65]⟩:ByteArray)⟩:S72) [.string (⟨#[112,97,99,107]⟩:ByteArray),.string (⟨#[65]⟩:ByteArray)] from (k72_mkM _ _ _ (⟨(⟨#[112,97,99,107]⟩:ByteArray),(⟨#[65]⟩:ByteArray)⟩:S72) )) (Reps.c2 (show Kd.M k72 _ _ _ (⟨(⟨#[115,101,116,116,108,101]⟩:ByteArray),(⟨#[]⟩:ByteArray)⟩:S72) [.string (⟨#[115,101,116,116,108,101]⟩:ByteArray),.string (⟨#[]⟩:ByteArray)] from (k72_mkM _ _ _ (⟨(⟨#[115,101,116,116,108,101]⟩:ByteArray),(⟨#[]⟩:ByteArray)⟩:S72) )) (Reps.c2 (show Kd.M k72 _ _ _ (⟨(⟨#[115,112,114,101,97,100]⟩:ByteArray),(⟨#[75]⟩:ByteArray)⟩:S72) [.string (⟨#[115,112,114,101,97,100]⟩:ByteArray),.string (⟨#[75]⟩:ByteArray)] from (k72_mkM _ _ _ (⟨(⟨#[115,112,114,101,97,100]⟩:ByteArray),(⟨#[75]⟩:ByteArray)⟩:S72) )) (Reps.c2 (show Kd.M k72 _ _ _ (⟨(⟨#[101,120,99,104,97,110,103,101]⟩:ByteArray),(⟨#[65,66]⟩:ByteArray)⟩:S72) [.string (⟨#[101,120,99,104,97,110,103,101]⟩:ByteArray),.string (⟨#[65,66]⟩:ByteArray)] from (k72_mkM _ _ _ (⟨(⟨#[101,120,99,104,97,110,103,101]⟩:ByteArray),(⟨#[65,66]⟩:ByteArray)⟩:S72) )) (Reps.none _ _)))))))))))))))))));intro v124 w1 ho2 hb hg_ hnew_;clear hg_ hnew_;(first | rw [← Ny123.out] at ho2 | (simp only [Int.reduceToNat] at ho2;rw [← Ny123.out] at ho2));have n0_:=aM (Kd.R_lower ho2 (below_size (z7_ HB.out)));have n1_:=aM (below_step (z7_ HB.out) hb);clear HB;have HO125:=n0_;have HB:=n1_;clear n0_ n1_;clear hb ho2))
 go_ret
 exact ⟨_,z6_,z10_ HO125.out,z7_ HB.out⟩


/-! ### Y12: function 55 -/
def Y12.f (a0:Int) (a1:Bool):Option (Bool):=if a0=0 then (some true) else (if a1=true then ((Y14.f a0 0 999999).bind fun t126=>(some t126)) else (some false))
theorem Y12.calls (a0:Int) (a1:Bool) (r:Bool) (w:World) (h:Y12.f a0 a1=some r) :
  Calls Try.prog 55 #[.int .i64 a0,.bool a1] w fun e w'=>e = .returned (.bool r)∧Drawn0 w w':=by
 have H:(if a0=0 then (some true) else (if a1=true then ((Y14.f a0 0 999999).bind fun t126=>(some t126)) else (some false)))=some r:=h
 clear h
 by_cases c3:a0=0
 ·rw [if_pos c3] at H
  have c3b0:(a0 == 0)=true:=beq_iff_eq.mpr c3
  have c3b1:(a0 != 0)=false:=bne_eq_false_iff_eq.mpr c3
  clear c3
  obtain rfl:=sI H
  go_enter Try.func55,Try.ntmps55
  go_wp2
  go_ret
  exact ⟨z0_,z1_⟩
 ·rw [if_neg c3] at H
  have c3b0:(a0 == 0)=false:=beq_eq_false_iff_ne.mpr c3
  have c3b1:(a0 != 0)=true:=bne_iff_ne.mpr c3
  by_cases c4:a1=true
  ·subst c4
   have H1:((Y14.f a0 0 999999).bind fun t126=>(some t126))=some r:=by rw [if_pos rfl] at H;exact H
   clear H
   have H:=H1
   clear H1
   replace H:=bS H
   obtain ⟨t126,A50,H⟩:=H
   replace H:(some t126)=some r:=H
   have A5:=aM A50
   clear A50
   obtain rfl:=sI H
   go_enter Try.func55,Try.ntmps55
   go_wp2_with (first | (go_at_call 49;(with_reducible refine (Y14.calls a0 0 999999 t126 _ A5.out).mono ?_);rintro e w' ⟨rfl,⟨nd,rfl⟩⟩))
   go_ret
   exact ⟨z0_,z1_⟩
  ·replace c4:=Bool.eq_false_iff.mpr c4
   subst c4
   have H1:(some false)=some r:=by rw [if_neg (show ¬ (false=true) by decide)] at H;exact H
   clear H
   have H:=H1
   clear H1
   obtain rfl:=sI H
   go_enter Try.func55,Try.ntmps55
   go_wp2
   go_ret
   exact ⟨z0_,z1_⟩


/-! ### Y37: function 89 -/
def Y37.f (a0:ByteArray):Option (Int):=some (a0.size:Int)
theorem Y37.calls (a0:ByteArray) (r:Int) (w:World) (h:Y37.f a0=some r) :
  Calls Try.prog 89 #[.string a0] w fun e w'=>e = .returned (.int .i64 r)∧Drawn0 w w':=by
 have H:(some (a0.size:Int))=some r:=h
 clear h
 obtain rfl:=sI H
 go_enter Try.func89,Try.ntmps89
 go_wp2
 go_ret
 exact ⟨z0_,z1_⟩


/-! ### Y3: function 56 -/
mutual
def Y3.j0:Nat→ByteArray→Bool→Option (Bool)
 | 0,_,_=>none
 | k+1,x0,x18=>if x18=true then (some false) else (Y3.l0 k x0 (x0.size:Int) 0)
def Y3.l0:Nat→ByteArray→Int→Int→Option (Bool)
 | 0,_,_,_=>none
 | k+1,x0,x20,x21=>if x21<x20 then (if 0≤x21 then (if x21<(x0.size:Int) then (if (bt x0 x21)≥97 then (if (bt x0 x21)≤122 then (Y3.l0 k x0 x20 (wrap64 (x21+1))) else (if (bt x0 x21)≥48 then (if (bt x0 x21)≤57 then (Y3.l0 k x0 x20 (wrap64 (x21+1))) else (if ((bt x0 x21)=95) then (Y3.l0 k x0 x20 (wrap64 (x21+1))) else (some false))) else (if ((bt x0 x21)=95) then (Y3.l0 k x0 x20 (wrap64 (x21+1))) else (some false)))) else (if (bt x0 x21)≥48 then (if (bt x0 x21)≤57 then (Y3.l0 k x0 x20 (wrap64 (x21+1))) else (if ((bt x0 x21)=95) then (Y3.l0 k x0 x20 (wrap64 (x21+1))) else (some false))) else (if ((bt x0 x21)=95) then (Y3.l0 k x0 x20 (wrap64 (x21+1))) else (some false)))) else (none)) else (none)) else (some true)
end
def Y3.f (k:Nat) (a0:ByteArray):Option (Bool):=(Y37.f a0).bind fun t127=>((Y14.f t127 1 20).bind fun t128=>(if t128=true then (if 0<(a0.size:Int) then (if (bt a0 0)<97 then (Y3.j0 k a0 true) else (Y3.j0 k a0 (decide ((bt a0 0)>122)))) else (none)) else (Y3.j0 k a0 true)))
theorem Y3.mono_l:∀ k,(∀ y0 y1,LeO (Y3.j0 k y0 y1) (Y3.j0 (k+1) y0 y1))∧(∀ y0 y1 y2,LeO (Y3.l0 k y0 y1 y2) (Y3.l0 (k+1) y0 y1 y2))
 | 0=>by refine ⟨?_,?_⟩ <;> intros <;> exact LeO.none _
 | k+1=>by
  obtain ⟨ih0,ih1⟩:=Y3.mono_l k
  refine ⟨?_,?_⟩
  ·intros
   unfold Y3.j0
   exact mO
  ·intros
   unfold Y3.l0
   exact mO
theorem Y3.mono:∀ a0 k,LeO (Y3.f k a0) (Y3.f (k+1) a0):=by
 intro a0 k
 obtain ⟨ih0,ih1⟩:=Y3.mono_l k
 unfold Y3.f
 exact mO
theorem Y3.calls (k:Nat) (a0:ByteArray) (r:Bool) (w:World) (h:Y3.f k a0=some r) :
  Calls Try.prog 56 #[.string a0] w fun e w'=>e = .returned (.bool r)∧Drawn0 w w':=by
 have H:((Y37.f a0).bind fun t127=>((Y14.f t127 1 20).bind fun t128=>(if t128=true then (if 0<(a0.size:Int) then (if (bt a0 0)<97 then (Y3.j0 k a0 true) else (Y3.j0 k a0 (decide ((bt a0 0)>122)))) else (none)) else (Y3.j0 k a0 true))))=some r:=h
 clear h
 have HC2:=aM H
 clear H
 go_enter Try.func56,Try.ntmps56
 go_upto_region 1 with (fail)
 go_cut [18] (fun v18 wc=>∃ (kq:Nat) (x18_1:Bool),v18 = .bool x18_1∧Aside0 (Y3.j0 kq a0 x18_1=some r)∧Aside0 (kq≤k)∧Drawn0 w wc)
 case first =>
  have H:=HC2.out
  clear HC2
  replace H:=bS H
  obtain ⟨t127,A30,H⟩:=H
  replace H:((Y14.f t127 1 20).bind fun t128=>(if t128=true then (if 0<(a0.size:Int) then (if (bt a0 0)<97 then (Y3.j0 k a0 true) else (Y3.j0 k a0 (decide ((bt a0 0)>122)))) else (none)) else (Y3.j0 k a0 true)))=some r:=H
  have A3:=aM A30
  clear A30
  replace H:=bS H
  obtain ⟨t128,A40,H⟩:=H
  replace H:(if t128=true then (if 0<(a0.size:Int) then (if (bt a0 0)<97 then (Y3.j0 k a0 true) else (Y3.j0 k a0 (decide ((bt a0 0)>122)))) else (none)) else (Y3.j0 k a0 true))=some r:=H
  have A4:=aM A40
  clear A40
  by_cases c5:t128=true
  ·subst c5
   have H1:(if 0<(a0.size:Int) then (if (bt a0 0)<97 then (Y3.j0 k a0 true) else (Y3.j0 k a0 (decide ((bt a0 0)>122)))) else (none))=some r:=by rw [if_pos rfl] at H;exact H
   clear H
   have H:=H1
   clear H1
   by_cases c6:0<(a0.size:Int)
   ·rw [if_pos c6] at H
    have c6b0:decide (0<(a0.size:Int))=true:=dE c6
    have c6b1:decide (0<a0.size)=true:=dE (by omega)
    clear c6
    (first | rw [c6b0] | (simp only [i64_w,i32_w];rw [c6b0]) | skip)
    by_cases c8:(bt a0 0)<97
    ·rw [if_pos c8] at H
     have c8b0:decide ((bt a0 0)<97)=true:=dE c8
     clear c8
     have H':=aM H
     clear H
     go_wp2_with (first | ((with_reducible refine gc_ 89 ?_);refine gl_ (some 6) Try.func89 #[.string a0] ?_;(with_reducible refine (Y37.calls a0 t127 _ A3.out).mono ?_);rintro e w' ⟨rfl,⟨nd,rfl⟩⟩;refine ⟨_,rfl,?_⟩) | ((with_reducible refine gc_ 49 ?_);refine gl_ (some 7) Try.func49 #[.int .i64 t127,.int .i64 1,.int .i64 20] ?_;(with_reducible refine (Y14.calls t127 1 20 true _ A4.out).mono ?_);rintro e w' ⟨rfl,⟨nd,rfl⟩⟩;refine ⟨_,rfl,?_⟩;have p7:0≤(0:Int):=(by omega);have q7:0<a0.size:=(z13_);have hx7:∀ h:0<a0.size,((a0[0]'h).toNat:Int)=bt a0 0:=bt_at a0 0;clear p7;have qi7:(0<(a0.size:Int))=True:=eq_true (dT (z2_));replace q7:=eq_true q7))
     go_meet
     case rel=>exact ⟨_,(true),(z0_),H',⟨by first | omega | exact Nat.le_refl _⟩,z1_⟩
    ·rw [if_neg c8] at H
     have c8b0:decide ((bt a0 0)<97)=false:=dF c8
     clear c8
     have H':=aM H
     clear H
     go_wp2_with (first | ((with_reducible refine gc_ 89 ?_);refine gl_ (some 6) Try.func89 #[.string a0] ?_;(with_reducible refine (Y37.calls a0 t127 _ A3.out).mono ?_);rintro e w' ⟨rfl,⟨nd,rfl⟩⟩;refine ⟨_,rfl,?_⟩) | ((with_reducible refine gc_ 49 ?_);refine gl_ (some 7) Try.func49 #[.int .i64 t127,.int .i64 1,.int .i64 20] ?_;(with_reducible refine (Y14.calls t127 1 20 true _ A4.out).mono ?_);rintro e w' ⟨rfl,⟨nd,rfl⟩⟩;refine ⟨_,rfl,?_⟩;have p7:0≤(0:Int):=(by omega);have q7:0<a0.size:=(z13_);have hx7:∀ h:0<a0.size,((a0[0]'h).toNat:Int)=bt a0 0:=bt_at a0 0;clear p7;have qi7:(0<(a0.size:Int))=True:=eq_true (dT (z2_));replace q7:=eq_true q7;have p9:0≤(0:Int):=(by omega);have q9:0<a0.size:=(z13_);have hx9:∀ h:0<a0.size,((a0[0]'h).toNat:Int)=bt a0 0:=bt_at a0 0;clear p9;have qi9:(0<(a0.size:Int))=True:=eq_true (dT (z2_));replace q9:=eq_true q9))
     go_meet
     case rel=>exact ⟨_,(decide ((bt a0 0)>122)),(z0_),H',⟨by first | omega | exact Nat.le_refl _⟩,z1_⟩
   ·rw [if_neg c6] at H
    exact nO H
  ·replace c5:=Bool.eq_false_iff.mpr c5
   subst c5
   have H1:(Y3.j0 k a0 true)=some r:=by rw [if_neg (show ¬ (false=true) by decide)] at H;exact H
   clear H
   have H:=H1
   clear H1
   have H':=aM H
   clear H
   go_wp2_with (first | ((with_reducible refine gc_ 89 ?_);refine gl_ (some 6) Try.func89 #[.string a0] ?_;(with_reducible refine (Y37.calls a0 t127 _ A3.out).mono ?_);rintro e w' ⟨rfl,⟨nd,rfl⟩⟩;refine ⟨_,rfl,?_⟩) | ((with_reducible refine gc_ 49 ?_);refine gl_ (some 7) Try.func49 #[.int .i64 t127,.int .i64 1,.int .i64 20] ?_;(with_reducible refine (Y14.calls t127 1 20 false _ A4.out).mono ?_);rintro e w' ⟨rfl,⟨nd,rfl⟩⟩;refine ⟨_,rfl,?_⟩))
   go_meet
   case rel=>exact ⟨_,(true),(z0_),H',⟨by first | omega | exact Nat.le_refl _⟩,z1_⟩
 case rest =>
  clear HC2
  try clear p2
  try clear c4
  try clear c5
  try clear c6
  try clear c6b0
  try clear c6b1
  try clear p7
  try clear q7
  try clear hx7
  try clear qi7
  try clear c8
  try clear c8b0
  try clear p9
  try clear q9
  try clear hx9
  try clear qi9
  try clear p7
  try clear p9
  try clear q7
  try clear q9
  obtain ⟨kq,x18_1,rfl,HA,HJ1,⟨mc1,rfl⟩⟩:=hcut
  cases kq with
  | zero=>exact absurd HA.out (by simp [Y3.j0])
  | succ kj1 =>
   have H:=HA.out
   clear HA
   simp only [Y3.j0] at H
   by_cases c10:x18_1=true
   ·subst c10
    have H1:(some false)=some r:=by rw [if_pos rfl] at H;exact H
    clear H
    have H:=H1
    clear H1
    obtain rfl:=sI H
    go_wp2
    go_ret
    exact ⟨z0_,z1_⟩
   ·replace c10:=Bool.eq_false_iff.mpr c10
    subst c10
    have H1:(Y3.l0 kj1 a0 (a0.size:Int) 0)=some r:=by rw [if_neg (show ¬ (false=true) by decide)] at H;exact H
    clear H
    have H:=H1
    clear H1
    have H':=aM H
    clear H
    go_wp2
    go_loopg [21] kj1 (fun kq v21 w'=>∃ (x21_2:Int),v21 = .int .i64 x21_2∧Aside0 (Y3.l0 kq a0 (a0.size:Int) x21_2=some r)∧Aside0 (kq≤kj1)∧Drawn0 w w')
    case atStart=>exact ⟨(0),(z0_),H',⟨Nat.le_refl _⟩,z1_⟩
    case round =>
     clear H'
     try clear c1
     try clear p2
     try clear c4
     try clear c5
     try clear c6
     try clear c6b0
     try clear c6b1
     try clear p7
     try clear q7
     try clear hx7
     try clear qi7
     try clear c8
     try clear c8b0
     try clear p9
     try clear q9
     try clear hx9
     try clear qi9
     try clear c10
     try clear p2
     try clear p7
     try clear p9
     try clear q7
     try clear q9
     obtain ⟨x21_2,rfl,HA,HK2,⟨m2,rfl⟩⟩:=hrel
     cases gk with
     | zero=>exact absurd HA.out (by simp [Y3.l0])
     | succ k2 =>
      have H:=HA.out
      clear HA
      simp only [Y3.l0] at H
      by_cases c11:x21_2<(a0.size:Int)
      ·rw [if_pos c11] at H
       have c11b0:decide (x21_2<(a0.size:Int))=true:=dE c11
       clear c11
       by_cases c12:0≤x21_2
       ·rw [if_pos c12] at H
        have c12b0:decide (0≤x21_2)=true:=dE c12
        clear c12
        by_cases c13:x21_2<(a0.size:Int)
        ·rw [if_pos c13] at H
         have c13b0:decide (x21_2<(a0.size:Int))=true:=dE c13
         clear c13
         by_cases c15:(bt a0 x21_2)≥97
         ·rw [if_pos c15] at H
          have c15b0:decide (97≤(bt a0 x21_2))=true:=dE c15
          clear c15
          by_cases c16:(bt a0 x21_2)≤122
          ·rw [if_pos c16] at H
           have c16b0:decide ((bt a0 x21_2)≤122)=true:=dE c16
           clear c16
           have H':=aM H
           clear H
           have p14:0≤(x21_2:Int):=dT (z2_)
           have q14:x21_2<(a0.size:Int):=dT (z2_)
           have hx14:=bt_at a0 x21_2
           replace p14:=eq_true p14
           replace q14:=eq_true q14
           go_wp2
           go_roundg k2
           case measure=>have:=HJ1.out;have:=HK2.out;omega
           case rel=>exact ⟨(wrap64 (x21_2+1)),(z0_),H',⟨by have:=HJ1.out;have:=HK2.out;omega⟩,z1_⟩
          ·rw [if_neg c16] at H
           have c16b0:decide ((bt a0 x21_2)≤122)=false:=dF c16
           clear c16
           by_cases c17:(bt a0 x21_2)≥48
           ·rw [if_pos c17] at H
            have c17b0:decide (48≤(bt a0 x21_2))=true:=dE c17
            clear c17
            by_cases c18:(bt a0 x21_2)≤57
            ·rw [if_pos c18] at H
             have c18b0:decide ((bt a0 x21_2)≤57)=true:=dE c18
             clear c18
             have H':=aM H
             clear H
             have p14:0≤(x21_2:Int):=dT (z2_)
             have q14:x21_2<(a0.size:Int):=dT (z2_)
             have hx14:=bt_at a0 x21_2
             replace p14:=eq_true p14
             replace q14:=eq_true q14
             go_wp2
             go_roundg k2
             case measure=>have:=HJ1.out;have:=HK2.out;omega
             case rel=>exact ⟨(wrap64 (x21_2+1)),(z0_),H',⟨by have:=HJ1.out;have:=HK2.out;omega⟩,z1_⟩
            ·rw [if_neg c18] at H
             have c18b0:decide ((bt a0 x21_2)≤57)=false:=dF c18
             clear c18
             by_cases c19:((bt a0 x21_2)=95)
             ·rw [if_pos c19] at H
              have c19b0:((bt a0 x21_2) == 95)=true:=beq_iff_eq.mpr c19
              have c19b1:((bt a0 x21_2) != 95)=false:=bne_eq_false_iff_eq.mpr c19
              clear c19
              have H':=aM H
              clear H
              have p14:0≤(x21_2:Int):=dT (z2_)
              have q14:x21_2<(a0.size:Int):=dT (z2_)
              have hx14:=bt_at a0 x21_2
              replace p14:=eq_true p14
              replace q14:=eq_true q14
              go_wp2
              go_roundg k2
              case measure=>have:=HJ1.out;have:=HK2.out;omega
              case rel=>exact ⟨(wrap64 (x21_2+1)),(z0_),H',⟨by have:=HJ1.out;have:=HK2.out;omega⟩,z1_⟩
             ·rw [if_neg c19] at H
              have c19b0:((bt a0 x21_2) == 95)=false:=beq_eq_false_iff_ne.mpr c19
              have c19b1:((bt a0 x21_2) != 95)=true:=bne_iff_ne.mpr c19
              obtain rfl:=sI H
              have p14:0≤(x21_2:Int):=dT (z2_)
              have q14:x21_2<(a0.size:Int):=dT (z2_)
              have hx14:=bt_at a0 x21_2
              replace p14:=eq_true p14
              replace q14:=eq_true q14
              go_wp2
              go_ret
              exact ⟨z0_,z1_⟩
           ·rw [if_neg c17] at H
            have c17b0:decide (48≤(bt a0 x21_2))=false:=dF c17
            clear c17
            by_cases c20:((bt a0 x21_2)=95)
            ·rw [if_pos c20] at H
             have c20b0:((bt a0 x21_2) == 95)=true:=beq_iff_eq.mpr c20
             have c20b1:((bt a0 x21_2) != 95)=false:=bne_eq_false_iff_eq.mpr c20
             clear c20
             have H':=aM H
             clear H
             have p14:0≤(x21_2:Int):=dT (z2_)
             have q14:x21_2<(a0.size:Int):=dT (z2_)
             have hx14:=bt_at a0 x21_2
             replace p14:=eq_true p14
             replace q14:=eq_true q14
             go_wp2
             go_roundg k2
             case measure=>have:=HJ1.out;have:=HK2.out;omega
             case rel=>exact ⟨(wrap64 (x21_2+1)),(z0_),H',⟨by have:=HJ1.out;have:=HK2.out;omega⟩,z1_⟩
            ·rw [if_neg c20] at H
             have c20b0:((bt a0 x21_2) == 95)=false:=beq_eq_false_iff_ne.mpr c20
             have c20b1:((bt a0 x21_2) != 95)=true:=bne_iff_ne.mpr c20
             obtain rfl:=sI H
             have p14:0≤(x21_2:Int):=dT (z2_)
             have q14:x21_2<(a0.size:Int):=dT (z2_)
             have hx14:=bt_at a0 x21_2
             replace p14:=eq_true p14
             replace q14:=eq_true q14
             go_wp2
             go_ret
             exact ⟨z0_,z1_⟩
         ·rw [if_neg c15] at H
          have c15b0:decide (97≤(bt a0 x21_2))=false:=dF c15
          clear c15
          by_cases c21:(bt a0 x21_2)≥48
          ·rw [if_pos c21] at H
           have c21b0:decide (48≤(bt a0 x21_2))=true:=dE c21
           clear c21
           by_cases c22:(bt a0 x21_2)≤57
           ·rw [if_pos c22] at H
            have c22b0:decide ((bt a0 x21_2)≤57)=true:=dE c22
            clear c22
            have H':=aM H
            clear H
            have p14:0≤(x21_2:Int):=dT (z2_)
            have q14:x21_2<(a0.size:Int):=dT (z2_)
            have hx14:=bt_at a0 x21_2
            replace p14:=eq_true p14
            replace q14:=eq_true q14
            go_wp2
            go_roundg k2
            case measure=>have:=HJ1.out;have:=HK2.out;omega
            case rel=>exact ⟨(wrap64 (x21_2+1)),(z0_),H',⟨by have:=HJ1.out;have:=HK2.out;omega⟩,z1_⟩
           ·rw [if_neg c22] at H
            have c22b0:decide ((bt a0 x21_2)≤57)=false:=dF c22
            clear c22
            by_cases c23:((bt a0 x21_2)=95)
            ·rw [if_pos c23] at H
             have c23b0:((bt a0 x21_2) == 95)=true:=beq_iff_eq.mpr c23
             have c23b1:((bt a0 x21_2) != 95)=false:=bne_eq_false_iff_eq.mpr c23
             clear c23
             have H':=aM H
             clear H
             have p14:0≤(x21_2:Int):=dT (z2_)
             have q14:x21_2<(a0.size:Int):=dT (z2_)
             have hx14:=bt_at a0 x21_2
             replace p14:=eq_true p14
             replace q14:=eq_true q14
             go_wp2
             go_roundg k2
             case measure=>have:=HJ1.out;have:=HK2.out;omega
             case rel=>exact ⟨(wrap64 (x21_2+1)),(z0_),H',⟨by have:=HJ1.out;have:=HK2.out;omega⟩,z1_⟩
            ·rw [if_neg c23] at H
             have c23b0:((bt a0 x21_2) == 95)=false:=beq_eq_false_iff_ne.mpr c23
             have c23b1:((bt a0 x21_2) != 95)=true:=bne_iff_ne.mpr c23
             obtain rfl:=sI H
             have p14:0≤(x21_2:Int):=dT (z2_)
             have q14:x21_2<(a0.size:Int):=dT (z2_)
             have hx14:=bt_at a0 x21_2
             replace p14:=eq_true p14
             replace q14:=eq_true q14
             go_wp2
             go_ret
             exact ⟨z0_,z1_⟩
          ·rw [if_neg c21] at H
           have c21b0:decide (48≤(bt a0 x21_2))=false:=dF c21
           clear c21
           by_cases c24:((bt a0 x21_2)=95)
           ·rw [if_pos c24] at H
            have c24b0:((bt a0 x21_2) == 95)=true:=beq_iff_eq.mpr c24
            have c24b1:((bt a0 x21_2) != 95)=false:=bne_eq_false_iff_eq.mpr c24
            clear c24
            have H':=aM H
            clear H
            have p14:0≤(x21_2:Int):=dT (z2_)
            have q14:x21_2<(a0.size:Int):=dT (z2_)
            have hx14:=bt_at a0 x21_2
            replace p14:=eq_true p14
            replace q14:=eq_true q14
            go_wp2
            go_roundg k2
            case measure=>have:=HJ1.out;have:=HK2.out;omega
            case rel=>exact ⟨(wrap64 (x21_2+1)),(z0_),H',⟨by have:=HJ1.out;have:=HK2.out;omega⟩,z1_⟩
           ·rw [if_neg c24] at H
            have c24b0:((bt a0 x21_2) == 95)=false:=beq_eq_false_iff_ne.mpr c24
            have c24b1:((bt a0 x21_2) != 95)=true:=bne_iff_ne.mpr c24
            obtain rfl:=sI H
            have p14:0≤(x21_2:Int):=dT (z2_)
            have q14:x21_2<(a0.size:Int):=dT (z2_)
            have hx14:=bt_at a0 x21_2
            replace p14:=eq_true p14
            replace q14:=eq_true q14
            go_wp2
            go_ret
            exact ⟨z0_,z1_⟩
        ·rw [if_neg c13] at H
         exact nO H
       ·rw [if_neg c12] at H
        exact nO H
      ·rw [if_neg c11] at H
       have c11b0:decide (x21_2<(a0.size:Int))=false:=dF c11
       clear c11
       obtain rfl:=sI H
       go_wp2
       go_ret
       exact ⟨z0_,z1_⟩


/-! ### Y30: function 120 -/
def Y30.f (a0:ByteArray) (a1:Int):Option (Int):=some (Lib.indexByte a0.data.toList a1.toNat.toUInt8)
set_option maxHeartbeats 1000000 in
theorem Y30.calls (a0:ByteArray) (a1:Int) (r:Int) (w:World) (h:Y30.f a0 a1=some r) :
  Calls Try.prog 120 #[.string a0,.int .u8 a1] w fun e w'=>e = .returned (.int .i64 r)∧Drawn0 w w':=by
 obtain rfl:Lib.indexByte a0.data.toList a1.toNat.toUInt8=r:=Option.some.inj h
 clear h
 go_enter Try.func120,Try.ntmps120
 go_wp2
 rw [run_callFunc_extern Try.func126 (by kernel_rfl) (by kernel_rfl) (by kernel_rfl) (e:=Extern.BytealgIndexByte.indexByte) (by kernel_rfl),Lib.run_indexByteString]
 simp only [Result.andThen]
 rw [Oper.upon_value]
 go_wp2
 go_ret
 exact ⟨rfl,Drawn0.refl _⟩


/-! ### Y7: function 109 -/
def Y7.j0:Nat→ByteArray→ByteArray→Int→Bool→Option (Int)
 | 0,_,_,_,_=>none
 | k+1,x0,x1,x5,x16=>if x16=true then (some 0) else (if x5=1 then (if 0<(x1.size:Int) then ((Y30.f x0 (bt x1 0)).bind fun t131=>(some t131)) else (none)) else (none))
def Y7.f (k:Nat) (a0:ByteArray) (a1:ByteArray):Option (Int):=if (a1.size:Int)=0 then (Y7.j0 k a0 a1 (a1.size:Int) true) else (Y7.j0 k a0 a1 (a1.size:Int) (a1.toList == a0.toList))
theorem Y7.mono_l:∀ k,(∀ y0 y1 y2 y3,LeO (Y7.j0 k y0 y1 y2 y3) (Y7.j0 (k+1) y0 y1 y2 y3))
 | 0=>by intros <;> exact LeO.none _
 | k+1=>by
  have ih0:=Y7.mono_l k
  ·intros
   unfold Y7.j0
   exact mO
theorem Y7.mono:∀ a0 a1 k,LeO (Y7.f k a0 a1) (Y7.f (k+1) a0 a1):=by
 intro a0 a1 k
 have ih0:=Y7.mono_l k
 unfold Y7.f
 exact mO
theorem Y7.calls (k:Nat) (a0:ByteArray) (a1:ByteArray) (r:Int) (w:World) (h:Y7.f k a0 a1=some r) :
  Calls Try.prog 109 #[.string a0,.string a1] w fun e w'=>e = .returned (.int .i64 r)∧Drawn0 w w':=by
 have H:(if (a1.size:Int)=0 then (Y7.j0 k a0 a1 (a1.size:Int) true) else (Y7.j0 k a0 a1 (a1.size:Int) (a1.toList == a0.toList)))=some r:=h
 clear h
 have HC3:=aM H
 clear H
 go_enter Try.func109,Try.ntmps109
 go_upto_region 2 with (fail)
 go_cut [16] (fun v16 wc=>∃ (kq:Nat) (x16_2:Bool),v16 = .bool x16_2∧Aside0 (Y7.j0 kq a0 a1 (a1.size:Int) x16_2=some r)∧Aside0 (kq≤k)∧Drawn0 w wc)
 case first =>
  have H:=HC3.out
  clear HC3
  by_cases c4:(a1.size:Int)=0
  ·rw [if_pos c4] at H
   have c4b0:((a1.size:Int) == 0)=true:=beq_iff_eq.mpr c4
   have c4b1:((a1.size:Int) != 0)=false:=bne_eq_false_iff_eq.mpr c4
   clear c4
   (first | rw [c4b0] | (simp only [i64_w,i32_w];rw [c4b0]) | skip)
   have H':=aM H
   clear H
   go_wp2
   go_meet
   case rel=>exact ⟨_,(true),(z0_),H',⟨by first | omega | exact Nat.le_refl _⟩,z1_⟩
  ·rw [if_neg c4] at H
   have c4b0:((a1.size:Int) == 0)=false:=beq_eq_false_iff_ne.mpr c4
   have c4b1:((a1.size:Int) != 0)=true:=bne_iff_ne.mpr c4
   (first | rw [c4b0] | (simp only [i64_w,i32_w];rw [c4b0]) | skip)
   have H':=aM H
   clear H
   go_wp2
   go_meet
   case rel=>exact ⟨_,((a1.toList == a0.toList)),(z0_),H',⟨by first | omega | exact Nat.le_refl _⟩,z1_⟩
 case rest =>
  clear HC3
  try clear c1
  try clear p2
  try clear c4
  try clear c4b0
  try clear c4b1
  obtain ⟨kq,x16_2,rfl,HA,HJ2,⟨mc2,rfl⟩⟩:=hcut
  cases kq with
  | zero=>exact absurd HA.out (by simp [Y7.j0])
  | succ kj2 =>
   have H:=HA.out
   clear HA
   simp only [Y7.j0] at H
   by_cases c5:x16_2=true
   ·subst c5
    have H1:(some 0)=some r:=by rw [if_pos rfl] at H;exact H
    clear H
    have H:=H1
    clear H1
    obtain rfl:=sI H
    go_wp2
    go_ret
    exact ⟨z0_,z1_⟩
   ·replace c5:=Bool.eq_false_iff.mpr c5
    subst c5
    have H1:(if (a1.size:Int)=1 then (if 0<(a1.size:Int) then ((Y30.f a0 (bt a1 0)).bind fun t131=>(some t131)) else (none)) else (none))=some r:=by rw [if_neg (show ¬ (false=true) by decide)] at H;exact H
    clear H
    have H:=H1
    clear H1
    by_cases c6:(a1.size:Int)=1
    ·rw [if_pos c6] at H
     have c6b0:((a1.size:Int) == 1)=true:=beq_iff_eq.mpr c6
     have c6b1:((a1.size:Int) != 1)=false:=bne_eq_false_iff_eq.mpr c6
     clear c6
     by_cases c7:0<(a1.size:Int)
     ·rw [if_pos c7] at H
      have c7b0:decide (0<(a1.size:Int))=true:=dE c7
      have c7b1:decide (0<a1.size)=true:=dE (by omega)
      clear c7
      replace H:=bS H
      obtain ⟨t131,A90,H⟩:=H
      replace H:(some t131)=some r:=H
      have A9:=aM A90
      clear A90
      obtain rfl:=sI H
      have p8:0≤(0:Int):=(by omega)
      have q8:0<a1.size:=(by have:(0:Int)<(a1.size:Int):=dT (by first | (with_reducible assumption) | assumption);omega)
      have hx8:∀ h:0<a1.size,((a1[0]'h).toNat:Int)=bt a1 0:=bt_at a1 0
      clear p8
      have qi8:(0<(a1.size:Int))=True:=eq_true (dT (z2_))
      replace q8:=eq_true q8
      go_wp2_with (first | ((with_reducible refine gc_ 120 ?_);refine gl_ (some 30) Try.func120 #[.string a0,.int .u8 (bt a1 0)] ?_;(with_reducible refine (Y30.calls a0 (bt a1 0) t131 _ A9.out).mono ?_);rintro e w' ⟨rfl,⟨nd,rfl⟩⟩;refine ⟨_,rfl,?_⟩))
      go_ret
      exact ⟨z0_,z1_⟩
     ·rw [if_neg c7] at H
      exact nO H
    ·rw [if_neg c6] at H
     exact nO H


/-! ### Y29: function 88 -/
def Y29.f (k:Nat) (a0:ByteArray) (a1:ByteArray):Option (Int):=(Y7.f k a0 a1).bind fun t132=>(some t132)
theorem Y29.mono:∀ a0 a1 k,LeO (Y29.f k a0 a1) (Y29.f (k+1) a0 a1):=by
 intro a0 a1 k
 have m0:=@Y7.mono
 unfold Y29.f
 exact mO
theorem Y29.calls (k:Nat) (a0:ByteArray) (a1:ByteArray) (r:Int) (w:World) (h:Y29.f k a0 a1=some r) :
  Calls Try.prog 88 #[.string a0,.string a1] w fun e w'=>e = .returned (.int .i64 r)∧Drawn0 w w':=by
 have H:((Y7.f k a0 a1).bind fun t132=>(some t132))=some r:=h
 clear h
 replace H:=bS H
 obtain ⟨t132,A30,H⟩:=H
 replace H:(some t132)=some r:=H
 have A3:=aM A30
 clear A30
 obtain rfl:=sI H
 go_enter Try.func88,Try.ntmps88
 go_wp2_with (first | ((with_reducible refine gc_ 109 ?_);refine gl_ (some 7) Try.func109 #[.string a0,.string a1] ?_;(with_reducible refine (Y7.calls k a0 a1 t132 _ A3.out).mono ?_);rintro e w' ⟨rfl,⟨nd,rfl⟩⟩;refine ⟨_,rfl,?_⟩))
 go_ret
 exact ⟨z0_,z1_⟩


/-! ### Y28: function 54 -/
def Y28.f (k:Nat) (a0:ByteArray) (a1:ByteArray):Option (Bool):=(Y29.f k a0 a1).bind fun t133=>(some (decide (t133≥0)))
theorem Y28.mono:∀ a0 a1 k,LeO (Y28.f k a0 a1) (Y28.f (k+1) a0 a1):=by
 intro a0 a1 k
 have m0:=@Y29.mono
 unfold Y28.f
 exact mO
theorem Y28.calls (k:Nat) (a0:ByteArray) (a1:ByteArray) (r:Bool) (w:World) (h:Y28.f k a0 a1=some r) :
  Calls Try.prog 54 #[.string a0,.string a1] w fun e w'=>e = .returned (.bool r)∧Drawn0 w w':=by
 have H:((Y29.f k a0 a1).bind fun t133=>(some (decide (t133≥0))))=some r:=h
 clear h
 replace H:=bS H
 obtain ⟨t133,A30,H⟩:=H
 replace H:(some (decide (t133≥0)))=some r:=H
 have A3:=aM A30
 clear A30
 obtain rfl:=sI H
 go_enter Try.func54,Try.ntmps54
 go_wp2_with (first | ((with_reducible refine gc_ 88 ?_);refine gl_ (some 7) Try.func88 #[.string a0,.string a1] ?_;(with_reducible refine (Y29.calls k a0 a1 t133 _ A3.out).mono ?_);rintro e w' ⟨rfl,⟨nd,rfl⟩⟩;refine ⟨_,rfl,?_⟩))
 go_ret
 exact ⟨z0_,z1_⟩


/-! ### Y0: function 53 -/
def Y0.f (k:Nat) (a0:ByteArray) (a1_0:ByteArray):Option (Bool):=(Y28.f k a1_0 a0).bind fun t134=>(some t134)
theorem Y0.mono:∀ a0 a1 k,LeO (Y0.f k a0 a1) (Y0.f (k+1) a0 a1):=by
 intro a0 a1 k
 have m0:=@Y28.mono
 unfold Y0.f
 exact mO
theorem Y0.calls (k:Nat) (a0:ByteArray) (gb1:Nat) (a1_0:ByteArray) (r:Bool) (w:World) (hk1:w.heap[gb1]? = some (.cells #[.string a1_0] 9 (0,0))) (h:Y0.f k a0 a1_0=some r) :
  Calls Try.prog 53 #[.string a0,.pointer (some ⟨gb1,0,none⟩)] w fun e w'=>e = .returned (.bool r)∧Below w.heap.size w w':=by
 have BK61:=aM hk1
 clear hk1
 have HB:=aM (Below.refl w.heap.size w)
 have H:((Y28.f k a1_0 a0).bind fun t134=>(some t134))=some r:=h
 clear h
 replace H:=bS H
 obtain ⟨t134,A30,H⟩:=H
 replace H:(some t134)=some r:=H
 have A3:=aM A30
 clear A30
 obtain rfl:=sI H
 have ⟨hcz4_0,hfz4_0⟩:=cz1_ BK61.out
 go_enter Try.func53,Try.ntmps53
 go_wp2_with (first | ((with_reducible refine gc_ 54 ?_);refine gl_ (some 6) Try.func54 #[.string a1_0,.string a0] ?_;(with_reducible refine (Y28.calls k a1_0 a0 t134 _ A3.out).mono ?_);rintro e w' ⟨rfl,⟨nd,rfl⟩⟩;refine ⟨_,rfl,?_⟩))
 go_ret
 exact ⟨z6_,by repeat (first | (with_reducible first | exact HB.out | apply below_alloc | apply pw_below_drewN | apply below_drew1 | refine below_set ?_ GE61.out) | exact HB.out)⟩


/-! ### Y1: function 9 -/
mutual
def Y1.j0:Nat→Bool→Int→Int→Int→ByteArray→ByteArray→Int→Option (Bool)
 | 0,_,_,_,_,_,_,_=>none
 | k+1,x26,x136000,x136001,x136002,x136003,x136004,x136005=>if x26=true then (some false) else ((Y36.f).bind fun t139=>(if 0≤(wrap64 (x136000-1)) then (if (wrap64 (x136000-1))<(t139.length:Int) then ((Y0.f k (⟨#[65]⟩:ByteArray) ((rd_T72 t139 (wrap64 (x136000-1))).f1)).bind fun t144=>((Y12.f x136001 t144).bind fun t145=>(if t145=true then ((Y0.f k (⟨#[66]⟩:ByteArray) ((rd_T72 t139 (wrap64 (x136000-1))).f1)).bind fun t146=>((Y12.f x136002 t146).bind fun t147=>(Y1.j1 k (!t147) x136000 x136001 x136002 x136003 x136004 x136005 ((rd_T72 t139 (wrap64 (x136000-1))).f1)))) else (Y1.j1 k true x136000 x136001 x136002 x136003 x136004 x136005 ((rd_T72 t139 (wrap64 (x136000-1))).f1))))) else (none)) else (none)))
def Y1.j1:Nat→Bool→Int→Int→Int→ByteArray→ByteArray→Int→ByteArray→Option (Bool)
 | 0,_,_,_,_,_,_,_,_=>none
 | k+1,x50,x136000,x136001,x136002,x136003,x136004,x136005,x144000=>if x50=true then (some false) else ((Y0.f k (⟨#[75]⟩:ByteArray) x144000).bind fun t148=>(if t148=true then ((Y3.f k x136003).bind fun t149=>(if t149=true then ((Y0.f k (⟨#[68]⟩:ByteArray) x144000).bind fun t150=>(if t150=true then ((Y3.f k x136004).bind fun t151=>(if t151=true then (if (x136004.size:Int)≤16 then (some true) else ((Y0.f k (⟨#[68]⟩:ByteArray) x144000).bind fun t152=>(if t152=true then (some false) else (some (x136004.toList == ([]:List UInt8)))))) else ((Y0.f k (⟨#[68]⟩:ByteArray) x144000).bind fun t153=>(if t153=true then (some false) else (some (x136004.toList == ([]:List UInt8))))))) else ((Y0.f k (⟨#[68]⟩:ByteArray) x144000).bind fun t154=>(if t154=true then (some false) else (some (x136004.toList == ([]:List UInt8))))))) else ((Y0.f k (⟨#[75]⟩:ByteArray) x144000).bind fun t155=>(if t155=true then (some false) else (if x136003.toList=([]:List UInt8) then ((Y0.f k (⟨#[68]⟩:ByteArray) x144000).bind fun t156=>(if t156=true then ((Y3.f k x136004).bind fun t157=>(if t157=true then (if (x136004.size:Int)≤16 then (some true) else ((Y0.f k (⟨#[68]⟩:ByteArray) x144000).bind fun t158=>(if t158=true then (some false) else (some (x136004.toList == ([]:List UInt8)))))) else ((Y0.f k (⟨#[68]⟩:ByteArray) x144000).bind fun t159=>(if t159=true then (some false) else (some (x136004.toList == ([]:List UInt8))))))) else ((Y0.f k (⟨#[68]⟩:ByteArray) x144000).bind fun t160=>(if t160=true then (some false) else (some (x136004.toList == ([]:List UInt8))))))) else (some false)))))) else ((Y0.f k (⟨#[75]⟩:ByteArray) x144000).bind fun t161=>(if t161=true then (some false) else (if x136003.toList=([]:List UInt8) then ((Y0.f k (⟨#[68]⟩:ByteArray) x144000).bind fun t162=>(if t162=true then ((Y3.f k x136004).bind fun t163=>(if t163=true then (if (x136004.size:Int)≤16 then (some true) else ((Y0.f k (⟨#[68]⟩:ByteArray) x144000).bind fun t164=>(if t164=true then (some false) else (some (x136004.toList == ([]:List UInt8)))))) else ((Y0.f k (⟨#[68]⟩:ByteArray) x144000).bind fun t165=>(if t165=true then (some false) else (some (x136004.toList == ([]:List UInt8))))))) else ((Y0.f k (⟨#[68]⟩:ByteArray) x144000).bind fun t166=>(if t166=true then (some false) else (some (x136004.toList == ([]:List UInt8))))))) else (some false))))))
end
def Y1.f (k:Nat) (a0_0:Int) (a0_1:Int) (a0_2:Int) (a0_3:ByteArray) (a0_4:ByteArray) (a0_5:Int):Option (Bool):=(Y14.f a0_0 1 17).bind fun t136=>(if t136=true then (if a0_5=(-1) then (Y1.j0 k false a0_0 a0_1 a0_2 a0_3 a0_4 a0_5) else ((Y8.f k a0_0).bind fun t137=>(if t137=true then ((Y31.f a0_5).bind fun t138=>(Y1.j0 k (!t138) a0_0 a0_1 a0_2 a0_3 a0_4 a0_5)) else (Y1.j0 k true a0_0 a0_1 a0_2 a0_3 a0_4 a0_5)))) else (Y1.j0 k true a0_0 a0_1 a0_2 a0_3 a0_4 a0_5))
theorem Y1.mono_l:∀ k,(∀ y0 y1 y2 y3 y4 y5 y6,LeO (Y1.j0 k y0 y1 y2 y3 y4 y5 y6) (Y1.j0 (k+1) y0 y1 y2 y3 y4 y5 y6))∧(∀ y0 y1 y2 y3 y4 y5 y6 y7,LeO (Y1.j1 k y0 y1 y2 y3 y4 y5 y6 y7) (Y1.j1 (k+1) y0 y1 y2 y3 y4 y5 y6 y7))
 | 0=>by refine ⟨?_,?_⟩ <;> intros <;> exact LeO.none _
 | k+1=>by
  obtain ⟨ih0,ih1⟩:=Y1.mono_l k
  have m0:=@Y0.mono
  have m1:=@Y3.mono
  have m2:=@Y8.mono
  refine ⟨?_,?_⟩
  ·intros
   unfold Y1.j0
   exact mO
  ·intros
   unfold Y1.j1
   exact mO
theorem Y1.mono:∀ a0 a1 a2 a3 a4 a5 k,LeO (Y1.f k a0 a1 a2 a3 a4 a5) (Y1.f (k+1) a0 a1 a2 a3 a4 a5):=by
 intro a0 a1 a2 a3 a4 a5 k
 have m0:=@Y0.mono
 have m1:=@Y3.mono
 have m2:=@Y8.mono
 obtain ⟨ih0,ih1⟩:=Y1.mono_l k
 unfold Y1.f
 exact mO
def Y1.T3:Bool × List (List Nat × List Nat):=(true,[([],[]),([],[]),([1],[1]),([2],[2]),([0,3],[0,3]),([4],[4]),([5],[5]),([],[]),([7,6,0,0,1,2,3,4,5,6,7],[6,7])])
def Y1.B3:List Nat:=[0,0,2,6,15,31,63,0,255]
theorem Y1.tab3:rtab .any (opsOf Try.f9 3)=Y1.T3:=by kernel_rfl
theorem Y1.bits3:waitsOk Y1.T3.2 Y1.B3=true:=by kernel_rfl
def Y1.T6:Bool × List (List Nat × List Nat):=(true,[([],[]),([],[]),([1],[1]),([],[]),([3],[3]),([0,2,4,4],[0,2,4]),([5],[5]),([6,5],[6]),([7],[7]),([7],[7]),([9,7],[7,9]),([7],[7]),([11,7,7],[7,11]),([8,10,12,12,7],[7,8,10,12]),([13,7],[7,13]),([7,14],[7,14])])
def Y1.B6:List Nat:=[0,0,2,0,8,31,63,127,255,255,767,255,2303,8191,16383,32767]
theorem Y1.tab6:rtab .any (opsOf Try.f9 6)=Y1.T6:=by kernel_rfl
theorem Y1.bits6:waitsOk Y1.T6.2 Y1.B6=true:=by kernel_rfl
abbrev Y1.q0:Array Bool:=#[O,O,O,O,O,O,O,O,O,O,O,O,O,O,O,O]
abbrev Y1.q1:Array Bool:=#[I,O,O,O,O,O,O,O,O,O,O,O,O,O,O,O]
abbrev Y1.q2:Array Bool:=#[I,I,O,O,O,O,O,O,O,O,O,O,O,O,O,O]
abbrev Y1.q3:Array Bool:=#[I,I,O,I,O,O,O,O,O,O,O,O,O,O,O,O]
abbrev Y1.q4:Array Bool:=#[I,I,I,I,O,O,O,O,O,O,O,O,O,O,O,O]
abbrev Y1.q5:Array Bool:=#[I,I,I,I,I,O,O,O,O,O,O,O,O,O,O,O]
abbrev Y1.q6:Array Bool:=#[I,I,I,I,I,I,O,O,O,O,O,O,O,O,O,O]
abbrev Y1.q7:Array Bool:=#[I,I,I,I,I,I,I,O,O,O,O,O,O,O,O,O]
abbrev Y1.q8:Array Bool:=#[I,I,I,I,I,I,I,I,O,O,O,O,O,O,O,O]
abbrev Y1.q9:Array Bool:=#[I,I,I,I,I,I,I,I,I,O,O,O,O,O,O,O]
abbrev Y1.q10:Array Bool:=#[I,I,I,I,I,I,I,I,I,I,O,O,O,O,O,O]
abbrev Y1.q11:Array Bool:=#[I,I,I,I,I,I,I,I,I,I,I,I,O,O,O,O]
abbrev Y1.q12:Array Bool:=#[I,I,I,I,I,I,I,I,I,I,I,I,I,O,O,O]
abbrev Y1.q13:Array Bool:=#[I,I,I,I,I,I,I,I,I,I,I,I,I,I,O,O]
abbrev Y1.q14:Array Bool:=#[I,I,I,I,I,I,I,I,I,I,I,I,I,I,I,O]
abbrev Y1.q15:Array Bool:=#[I,I,I,I,I,I,I,I,I,I,I,I,I,I,I,I]
theorem Y1.calls (k:Nat) (a0_0:Int) (a0_1:Int) (a0_2:Int) (a0_3:ByteArray) (a0_4:ByteArray) (a0_5:Int) (r:Bool) (w:World) (h:Y1.f k a0_0 a0_1 a0_2 a0_3 a0_4 a0_5=some r) :
  Calls Try.prog 9 #[.agg #[.int .i64 a0_0,.int .i64 a0_1,.int .i64 a0_2,.string a0_3,.string a0_4,.int .i64 a0_5]] w fun e w'=>e = .returned (.bool r)∧Below w.heap.size w w':=by
 have hu26:=Try.underlying26
 have HB:=aM (Below.refl w.heap.size w)
 have H:((Y14.f a0_0 1 17).bind fun t136=>(if t136=true then (if a0_5=(-1) then (Y1.j0 k false a0_0 a0_1 a0_2 a0_3 a0_4 a0_5) else ((Y8.f k a0_0).bind fun t137=>(if t137=true then ((Y31.f a0_5).bind fun t138=>(Y1.j0 k (!t138) a0_0 a0_1 a0_2 a0_3 a0_4 a0_5)) else (Y1.j0 k true a0_0 a0_1 a0_2 a0_3 a0_4 a0_5)))) else (Y1.j0 k true a0_0 a0_1 a0_2 a0_3 a0_4 a0_5)))=some r:=h
 clear h
 have HC2:=aM H
 clear H
 go_enter Try.func9,Try.ntmps9
 go_upto_region 1 with (first | ((with_reducible refine gd_ 1 ?_);(try (refine gate_guard (by rfl) ?_;dsimp only));refine be_ 1 #[.int .i64 a0_0,.int .i64 a0_1,.int .i64 a0_2,.string a0_3,.string a0_4,.int .i64 a0_5] 26 ?_;intro gb135 hg w3 hbox hb;have n0_:=aM (below_step (z7_ HB.out) hb);have n1_:=aM (hbox);have n2_:=aM ((z8_ HB.out:w.heap.size≤gb135));have n3_:=aM ((z8_ HB.out:w.heap.size≤gb135));clear HB;have HB:=n0_;have BK135:=n1_;have GW135:=n2_;have GE135:=n3_;clear n0_ n1_ n2_ n3_;clear hb hbox hg))
 (try simp only [Act.put,sa_,s0_,ss_])
 go_cut [26] (fun v26 wc=>∃ (kq:Nat) (x26_1:Bool),v26 = .bool x26_1∧Aside0 (Y1.j0 kq x26_1 a0_0 a0_1 a0_2 a0_3 a0_4 a0_5=some r)∧Aside0 (kq≤k)∧Aside0 (wc.heap[gb135]? = some (.cells #[.int .i64 a0_0,.int .i64 a0_1,.int .i64 a0_2,.string a0_3,.string a0_4,.int .i64 a0_5] 26 (0,0)))∧Aside0 (Below w.heap.size w wc))
 case first=>as_aux_lemma =>
  have H:=HC2.out
  clear HC2
  replace H:=bS H
  obtain ⟨t136,A40,H⟩:=H
  replace H:(if t136=true then (if a0_5=(-1) then (Y1.j0 k false a0_0 a0_1 a0_2 a0_3 a0_4 a0_5) else ((Y8.f k a0_0).bind fun t137=>(if t137=true then ((Y31.f a0_5).bind fun t138=>(Y1.j0 k (!t138) a0_0 a0_1 a0_2 a0_3 a0_4 a0_5)) else (Y1.j0 k true a0_0 a0_1 a0_2 a0_3 a0_4 a0_5)))) else (Y1.j0 k true a0_0 a0_1 a0_2 a0_3 a0_4 a0_5))=some r:=H
  have A4:=aM A40
  clear A40
  by_cases c5:t136=true
  ·subst c5
   have H1:(if a0_5=(-1) then (Y1.j0 k false a0_0 a0_1 a0_2 a0_3 a0_4 a0_5) else ((Y8.f k a0_0).bind fun t137=>(if t137=true then ((Y31.f a0_5).bind fun t138=>(Y1.j0 k (!t138) a0_0 a0_1 a0_2 a0_3 a0_4 a0_5)) else (Y1.j0 k true a0_0 a0_1 a0_2 a0_3 a0_4 a0_5))))=some r:=by rw [if_pos rfl] at H;exact H
   clear H
   have H:=H1
   clear H1
   by_cases c6:a0_5=(-1)
   ·rw [if_pos c6] at H
    have c6b0:(a0_5 == (-1))=true:=beq_iff_eq.mpr c6
    have c6b1:(a0_5 != (-1))=false:=bne_eq_false_iff_eq.mpr c6
    clear c6
    (first | rw [c6b0] | (simp only [i64_w,i32_w];rw [c6b0]) | skip)
    have H':=aM H
    clear H
    have ⟨hcz7_0,hcz7_1,hcz7_2,hcz7_3,hcz7_4,hcz7_5,hfz7_0,hfz7_1,hfz7_2,hfz7_3,hfz7_4,hfz7_5⟩:=cz6_ BK135.out
    go_wp2_with (first | ((with_reducible refine gc_ 49 ?_);refine gl_ (some 8) Try.func49 #[.int .i64 a0_0,.int .i64 1,.int .i64 17] ?_;(with_reducible refine (Y14.calls a0_0 1 17 true _ A4.out).mono ?_);rintro e w' ⟨rfl,⟨nd,rfl⟩⟩;refine ⟨_,rfl,?_⟩))
    go_meet
    case rel=>exact ⟨_,(false),(z0_),H',⟨by first | omega | exact Nat.le_refl _⟩,⟨z5_ BK135.out⟩,⟨z3_ HB.out GE135.out⟩⟩
   ·rw [if_neg c6] at H
    have c6b0:(a0_5 == (-1))=false:=beq_eq_false_iff_ne.mpr c6
    have c6b1:(a0_5 != (-1))=true:=bne_iff_ne.mpr c6
    (first | rw [c6b0] | (simp only [i64_w,i32_w];rw [c6b0]) | skip)
    replace H:=bS H
    obtain ⟨t137,A80,H⟩:=H
    replace H:(if t137=true then ((Y31.f a0_5).bind fun t138=>(Y1.j0 k (!t138) a0_0 a0_1 a0_2 a0_3 a0_4 a0_5)) else (Y1.j0 k true a0_0 a0_1 a0_2 a0_3 a0_4 a0_5))=some r:=H
    have A8:=aM A80
    clear A80
    by_cases c9:t137=true
    ·subst c9
     have H1:((Y31.f a0_5).bind fun t138=>(Y1.j0 k (!t138) a0_0 a0_1 a0_2 a0_3 a0_4 a0_5))=some r:=by rw [if_pos rfl] at H;exact H
     clear H
     have H:=H1
     clear H1
     replace H:=bS H
     obtain ⟨t138,A100,H⟩:=H
     replace H:(Y1.j0 k (!t138) a0_0 a0_1 a0_2 a0_3 a0_4 a0_5)=some r:=H
     have A10:=aM A100
     clear A100
     have H':=aM H
     clear H
     have ⟨hcz11_0,hcz11_1,hcz11_2,hcz11_3,hcz11_4,hcz11_5,hfz11_0,hfz11_1,hfz11_2,hfz11_3,hfz11_4,hfz11_5⟩:=cz6_ BK135.out
     go_wp2_with (first | ((with_reducible refine gc_ 49 ?_);refine gl_ (some 8) Try.func49 #[.int .i64 a0_0,.int .i64 1,.int .i64 17] ?_;(with_reducible refine (Y14.calls a0_0 1 17 true _ A4.out).mono ?_);rintro e w' ⟨rfl,⟨nd,rfl⟩⟩;refine ⟨_,rfl,?_⟩) | (go_at_call 50;(with_reducible refine (Y8.calls k a0_0 true _ A8.out).mono ?_);rintro e w' ⟨rfl,⟨nd,rfl⟩⟩) | (go_at_call 51;(with_reducible refine (Y31.calls a0_5 t138 _ A10.out).mono ?_);rintro e w' ⟨rfl,⟨nd,rfl⟩⟩))
     go_meet
     case rel=>exact ⟨_,(!t138),(z0_),H',⟨by first | omega | exact Nat.le_refl _⟩,⟨z5_ BK135.out⟩,⟨z3_ HB.out GE135.out⟩⟩
    ·replace c9:=Bool.eq_false_iff.mpr c9
     subst c9
     have H1:(Y1.j0 k true a0_0 a0_1 a0_2 a0_3 a0_4 a0_5)=some r:=by rw [if_neg (show ¬ (false=true) by decide)] at H;exact H
     clear H
     have H:=H1
     clear H1
     have H':=aM H
     clear H
     have ⟨hcz12_0,hcz12_1,hcz12_2,hcz12_3,hcz12_4,hcz12_5,hfz12_0,hfz12_1,hfz12_2,hfz12_3,hfz12_4,hfz12_5⟩:=cz6_ BK135.out
     go_wp2_with (first | ((with_reducible refine gc_ 49 ?_);refine gl_ (some 8) Try.func49 #[.int .i64 a0_0,.int .i64 1,.int .i64 17] ?_;(with_reducible refine (Y14.calls a0_0 1 17 true _ A4.out).mono ?_);rintro e w' ⟨rfl,⟨nd,rfl⟩⟩;refine ⟨_,rfl,?_⟩) | (go_at_call 50;(with_reducible refine (Y8.calls k a0_0 false _ A8.out).mono ?_);rintro e w' ⟨rfl,⟨nd,rfl⟩⟩))
     go_meet
     case rel=>exact ⟨_,(true),(z0_),H',⟨by first | omega | exact Nat.le_refl _⟩,⟨z5_ BK135.out⟩,⟨z3_ HB.out GE135.out⟩⟩
  ·replace c5:=Bool.eq_false_iff.mpr c5
   subst c5
   have H1:(Y1.j0 k true a0_0 a0_1 a0_2 a0_3 a0_4 a0_5)=some r:=by rw [if_neg (show ¬ (false=true) by decide)] at H;exact H
   clear H
   have H:=H1
   clear H1
   have H':=aM H
   clear H
   have ⟨hcz13_0,hcz13_1,hcz13_2,hcz13_3,hcz13_4,hcz13_5,hfz13_0,hfz13_1,hfz13_2,hfz13_3,hfz13_4,hfz13_5⟩:=cz6_ BK135.out
   go_wp2_with (first | ((with_reducible refine gc_ 49 ?_);refine gl_ (some 8) Try.func49 #[.int .i64 a0_0,.int .i64 1,.int .i64 17] ?_;(with_reducible refine (Y14.calls a0_0 1 17 false _ A4.out).mono ?_);rintro e w' ⟨rfl,⟨nd,rfl⟩⟩;refine ⟨_,rfl,?_⟩))
   go_meet
   case rel=>exact ⟨_,(true),(z0_),H',⟨by first | omega | exact Nat.le_refl _⟩,⟨z5_ BK135.out⟩,⟨z3_ HB.out GE135.out⟩⟩
 case rest=>as_aux_lemma =>
  clear HC2
  try clear p2
  try clear c4
  try clear c5
  try clear c6
  try clear c6b0
  try clear c6b1
  try clear c9
  try clear hcz11_0
  try clear hcz11_1
  try clear hcz11_2
  try clear hcz11_3
  try clear hcz11_4
  try clear hcz11_5
  try clear hcz12_0
  try clear hcz12_1
  try clear hcz12_2
  try clear hcz12_3
  try clear hcz12_4
  try clear hcz12_5
  try clear hcz13_0
  try clear hcz13_1
  try clear hcz13_2
  try clear hcz13_3
  try clear hcz13_4
  try clear hcz13_5
  try clear hcz7_0
  try clear hcz7_1
  try clear hcz7_2
  try clear hcz7_3
  try clear hcz7_4
  try clear hcz7_5
  try clear hfz11_0
  try clear hfz11_1
  try clear hfz11_2
  try clear hfz11_3
  try clear hfz11_4
  try clear hfz11_5
  try clear hfz12_0
  try clear hfz12_1
  try clear hfz12_2
  try clear hfz12_3
  try clear hfz12_4
  try clear hfz12_5
  try clear hfz13_0
  try clear hfz13_1
  try clear hfz13_2
  try clear hfz13_3
  try clear hfz13_4
  try clear hfz13_5
  try clear hfz7_0
  try clear hfz7_1
  try clear hfz7_2
  try clear hfz7_3
  try clear hfz7_4
  try clear hfz7_5
  obtain ⟨kq,x26_1,rfl,HA,HJ1,BK135,HB⟩:=hcut
  cases kq with
  | zero=>exact absurd HA.out (by simp [Y1.j0])
  | succ kj1 =>
   have H:=HA.out
   clear HA
   simp only [Y1.j0] at H
   by_cases c14:x26_1=true
   ·subst c14
    have H1:(some false)=some r:=by rw [if_pos rfl] at H;exact H
    clear H
    have H:=H1
    clear H1
    obtain rfl:=sI H
    go_wp2
    go_ret
    exact ⟨z6_,z3_ HB.out GE135.out⟩
   ·replace c14:=Bool.eq_false_iff.mpr c14
    subst c14
    have H1:((Y36.f).bind fun t139=>(if 0≤(wrap64 (a0_0-1)) then (if (wrap64 (a0_0-1))<(t139.length:Int) then ((Y0.f kj1 (⟨#[65]⟩:ByteArray) ((rd_T72 t139 (wrap64 (a0_0-1))).f1)).bind fun t144=>((Y12.f a0_1 t144).bind fun t145=>(if t145=true then ((Y0.f kj1 (⟨#[66]⟩:ByteArray) ((rd_T72 t139 (wrap64 (a0_0-1))).f1)).bind fun t146=>((Y12.f a0_2 t146).bind fun t147=>(Y1.j1 kj1 (!t147) a0_0 a0_1 a0_2 a0_3 a0_4 a0_5 ((rd_T72 t139 (wrap64 (a0_0-1))).f1)))) else (Y1.j1 kj1 true a0_0 a0_1 a0_2 a0_3 a0_4 a0_5 ((rd_T72 t139 (wrap64 (a0_0-1))).f1))))) else (none)) else (none)))=some r:=by rw [if_neg (show ¬ (false=true) by decide)] at H;exact H
    clear H
    have H:=H1
    clear H1
    replace H:=bS H
    obtain ⟨t139,A150,H⟩:=H
    replace H:(if 0≤(wrap64 (a0_0-1)) then (if (wrap64 (a0_0-1))<(t139.length:Int) then ((Y0.f kj1 (⟨#[65]⟩:ByteArray) ((rd_T72 t139 (wrap64 (a0_0-1))).f1)).bind fun t144=>((Y12.f a0_1 t144).bind fun t145=>(if t145=true then ((Y0.f kj1 (⟨#[66]⟩:ByteArray) ((rd_T72 t139 (wrap64 (a0_0-1))).f1)).bind fun t146=>((Y12.f a0_2 t146).bind fun t147=>(Y1.j1 kj1 (!t147) a0_0 a0_1 a0_2 a0_3 a0_4 a0_5 ((rd_T72 t139 (wrap64 (a0_0-1))).f1)))) else (Y1.j1 kj1 true a0_0 a0_1 a0_2 a0_3 a0_4 a0_5 ((rd_T72 t139 (wrap64 (a0_0-1))).f1))))) else (none)) else (none))=some r:=H
    have A15:=aM A150
    clear A150
    obtain ⟨ji16,hji16⟩:∃ j_:Int,(wrap64 (a0_0-1))=j_:=⟨_,rfl⟩
    replace H:(if 0≤(ji16) then (if (ji16)<(t139.length:Int) then ((Y0.f kj1 (⟨#[65]⟩:ByteArray) ((rd_T72 t139 (ji16)).f1)).bind fun t144=>((Y12.f a0_1 t144).bind fun t145=>(if t145=true then ((Y0.f kj1 (⟨#[66]⟩:ByteArray) ((rd_T72 t139 (ji16)).f1)).bind fun t146=>((Y12.f a0_2 t146).bind fun t147=>(Y1.j1 kj1 (!t147) a0_0 a0_1 a0_2 a0_3 a0_4 a0_5 ((rd_T72 t139 (ji16)).f1)))) else (Y1.j1 kj1 true a0_0 a0_1 a0_2 a0_3 a0_4 a0_5 ((rd_T72 t139 (ji16)).f1))))) else (none)) else (none))=some r:=by first | (rw [hji16] at H;exact H) | (simp only [hji16] at H ⊢;exact H)
    (try rw [hji16] at A15)
    have hji16w:(IntKind.i64.wrap (a0_0-1))=ji16:=(i64_w _).trans hji16
    by_cases c17:0≤(ji16)
    ·rw [if_pos c17] at H
     have c17b0:decide (0≤(ji16))=true:=dE c17
     clear c17
     by_cases c18:(ji16)<(t139.length:Int)
     ·rw [if_pos c18] at H
      have c18b0:decide ((ji16)<(t139.length:Int))=true:=dE c18
      clear c18
      have HC19:=aM H
      clear H
      try go_wp2
      have n0_:=aM (blk_drew BK135.out)
      have n1_:=aM (below_drew1 HB.out)
      clear BK135
      clear HB
      have BK135:=n0_
      have HB:=n1_
      clear n0_ n1_
      refine start_ (n:=9) (S:=fun w'=>True) (ds:=[]) #[O,O,O,O,O,O,O,O,O] (by kernel_rfl) rfl rfl trivial (fun hHeld=>?_);refine with_tabW Y1.tab3 Y1.bits3 (fun HT_ HW_=>?_)
      generalize wc.drew=w20 at BK135 HB hHeld ⊢
      refine pu_ 1 28 #[O,I,O,O,O,O,O,O,O] HT_.out ?_
      have pz_:(0≤((ji16):Int))=True:=eq_true (dT (z2_))
      have qz_:(((ji16):Int)<(t139.length:Int))=True:=eq_true (dT (z2_))
      refine inv_at [0,2,3,4,5,6,7,8] (fun a0_ b a w'=>∃ (v140:Value) (adz_v140:Addr) (gb143:Nat) (m7_:Value) (mz4_:Value) (mz5_:Value),a=putSel a0_ b [(0,27,v140),(2,29,.int .i64 a0_0),(3,30,.int .i64 ji16),(4,31,mz4_),(5,32,mz5_),(6,33,.string ((rd_T72 t139 (ji16)).f1)),(7,3,m7_)]∧(w'.heap[gb135]? = some (.cells #[.int .i64 a0_0,.int .i64 a0_1,.int .i64 a0_2,.string a0_3,.string a0_4,.int .i64 a0_5] 26 (0,0)))∧(Below w.heap.size w w')∧(b 0=true→Kd.R k72 72 w' w.heap.size (fun _=>True) v140 t139)∧(b 0=true→∃ c_:Nat,v140 = .slice (some adz_v140) t139.length c_)∧(b 7=true→b 8=false→w'.heap[gb143]? = some (.cells #[.string (⟨#[]⟩:ByteArray)] 9 (0,0)))∧(b 7=true→w.heap.size≤gb143)∧(b 7=true→w.heap.size≤gb143)∧(b 7=true→gb135≠gb143)∧(b 7=true→gb143≠gb135)∧(b 8=true→w'.heap[gb143]? = some (.cells #[.string ((rd_T72 t139 (ji16)).f1)] 9 (0,0)))∧(b 7=true→(m7_:Value) = .pointer (some ⟨gb143,0,none⟩))∧(b 4=true→(mz4_:Value) = .pointer (some (adz_v140.add (((ji16)).toNat*2))))∧(b 5=true→(mz5_:Value) = .pointer (some ⟨(adz_v140.add (((ji16)).toNat*2)).block,(adz_v140.add (((ji16)).toNat*2)).off+1,none⟩))) HT_.out HW_.out (by kernel_rfl) (by kernel_rfl) ?_ ?_ ?_
      ·exact ⟨.bool false,⟨0,0,none⟩,0,.bool false,.bool false,.bool false,by simp only [putSel,Bool.false_eq_true,if_false],BK135.out,HB.out,fun h_=>absurd h_ (by decide),fun h_=>absurd h_ (by decide),fun h_=>absurd h_ (by decide),fun h_=>absurd h_ (by decide),fun h_=>absurd h_ (by decide),fun h_=>absurd h_ (by decide),fun h_=>absurd h_ (by decide),fun h_=>absurd h_ (by decide),fun h_=>absurd h_ (by decide),fun h_=>absurd h_ (by decide),fun h_=>absurd h_ (by decide)⟩
      ·skip
       clear BK135 HB
       refine steps_cons ?_ ?_
       ·rintro b a w' ⟨v140,adz_v140,gb143,m7_,mz4_,mz5_,ha,Q_BK135,Q_HB,Q_HO141,Q_HA_HO141,Q_BK143,Q_GW143,Q_GE143,Q_NB135_143,Q_NB143_135,Q_BK143_e8,Q_X7_,Q_Xz4_,Q_Xz5_⟩ hb_ hon hoff
        refine ⟨_,rfl,fun K hK=>?_⟩
        replace ha:=aM ha
        have BK135:=aM Q_BK135
        have HB:=aM Q_HB
        refine goes_ Try.func52 (by kernel_rfl) rfl #[] (by rfl) rfl rfl (by first | (simp only [List.map_toArray,List.map_cons,List.map_nil,Act.eval,Array.getD_eq_getD_getElem?,Option.getD_some];done) | (simp only [List.map_toArray,List.map_cons,List.map_nil,Act.eval,Array.getD_eq_getD_getElem?,Option.getD_some];rfl)) ?_
        with_reducible refine (Y36.calls  t139 _ A15.out).mono ?_
        rintro e w21 ⟨v140,rfl,ho0,hb⟩
        refine ⟨_,rfl,?_⟩
        have n0_:=aM (Kd.R_lower ho0 (below_size (z3_ HB.out GE135.out)))
        have n1_:=aM (blkB_ BK135.out hb)
        have n2_:=aM (below_step (z3_ HB.out GE135.out) hb)
        have z_BK143:=fun (h0_:b 7=true) (h1_:b 8=false)=>(show w21.heap[gb143]? = some (.cells #[.string (⟨#[]⟩:ByteArray)] 9 (0,0)) from by first | exact (blk_below (g:=gb143) (o:=.cells #[.string (⟨#[]⟩:ByteArray)] 9 (0,0)) (by (with_reducible repeat (first | refine blk_drewN ?_ _ | refine blk_drew ?_ | refine blk_alloc ?_ _));exact (Q_BK143 h0_ h1_)) hb))
        clear BK135
        clear HB
        have HO141:=n0_
        have BK135:=n1_
        have HB:=n2_
        clear n0_ n1_ n2_
        (try clear hb)
        (try clear ho0)
        obtain ⟨A0_,c0_,e0_⟩:=Kd.R_slice HO141.out
        have hF_:=HO141.out
        rw [e0_] at hF_
        obtain ⟨adn_,en_,hxn_⟩:=at_T72 (Kd.R_reads' hF_).2.2 (ji16) (of_eq_true pz_) (of_eq_true qz_)
        cases en_
        refine hK.out _ _ ⟨v140,adn_,gb143,m7_,mz4_,mz5_,(by rw [ha.out];exact putSel_upk 0 hb_ rfl rfl rfl),(z5_ BK135.out),(z3_ HB.out GE135.out),fun _=>(z10_ HO141.out),fun _=>⟨_,e0_⟩,z_BK143,Q_GW143,Q_GE143,Q_NB135_143,Q_NB143_135,fun h0_=>absurd ((hoff 8 (by kernel_rfl)).symm.trans h0_) (by decide),Q_X7_,fun h0_=>absurd ((hoff 4 (by kernel_rfl)).symm.trans h0_) (by decide),fun h0_=>absurd ((hoff 5 (by kernel_rfl)).symm.trans h0_) (by decide)⟩
       refine steps_cons ?_ ?_
       ·rintro b a w' ⟨v140,adz_v140,gb143,m7_,mz4_,mz5_,ha,Q_BK135,Q_HB,Q_HO141,Q_HA_HO141,Q_BK143,Q_GW143,Q_GE143,Q_NB135_143,Q_NB143_135,Q_BK143_e8,Q_X7_,Q_Xz4_,Q_Xz5_⟩ hb_ hon hoff
        refine ⟨_,rfl,fun K hK=>?_⟩
        have e28:a.tmps[28]? = some (.pointer (some ⟨gb135,0,none⟩)):=by rw [ha];exact (putSel_off rfl).trans rfl
        replace ha:=aM ha
        have BK135:=aM Q_BK135
        have HB:=aM Q_HB
        have hc0_:w'.cell? ⟨gb135,0,none⟩=some (.int .i64 a0_0):=(blk_cell BK135.out 0).trans rfl
        have hc1_:w'.cell? ⟨gb135,1,none⟩=some (.int .i64 a0_1):=(blk_cell BK135.out 1).trans rfl
        have hc2_:w'.cell? ⟨gb135,2,none⟩=some (.int .i64 a0_2):=(blk_cell BK135.out 2).trans rfl
        have hc3_:w'.cell? ⟨gb135,3,none⟩=some (.string a0_3):=(blk_cell BK135.out 3).trans rfl
        have hc4_:w'.cell? ⟨gb135,4,none⟩=some (.string a0_4):=(blk_cell BK135.out 4).trans rfl
        have hc5_:w'.cell? ⟨gb135,5,none⟩=some (.int .i64 a0_5):=(blk_cell BK135.out 5).trans rfl
        refine value_ (w1:=w') (v:=.int .i64 a0_0) (by rfl) rfl ?_ ?_
        ·go_simp
         (try simp only [i64_w])
         try rfl
        refine hK.out _ _ ⟨v140,adz_v140,gb143,m7_,mz4_,mz5_,(by rw [ha.out];exact putSel_upk 1 hb_ rfl rfl rfl),Q_BK135,Q_HB,Q_HO141,Q_HA_HO141,Q_BK143,Q_GW143,Q_GE143,Q_NB135_143,Q_NB143_135,fun h0_=>absurd ((hoff 8 (by kernel_rfl)).symm.trans h0_) (by decide),Q_X7_,Q_Xz4_,Q_Xz5_⟩
       refine steps_cons ?_ ?_
       ·rintro b a w' ⟨v140,adz_v140,gb143,m7_,mz4_,mz5_,ha,Q_BK135,Q_HB,Q_HO141,Q_HA_HO141,Q_BK143,Q_GW143,Q_GE143,Q_NB135_143,Q_NB143_135,Q_BK143_e8,Q_X7_,Q_Xz4_,Q_Xz5_⟩ hb_ hon hoff
        refine ⟨_,rfl,fun K hK=>?_⟩
        have e29:a.tmps[29]? = some (.int .i64 a0_0):=by rw [ha];exact putSel_on (e:=(2,29,.int .i64 a0_0)) 1 rfl rfl (hon 2 (by kernel_rfl)) rfl
        replace ha:=aM ha
        have BK135:=aM Q_BK135
        have HB:=aM Q_HB
        refine value_ (w1:=w') (v:=.int .i64 ji16) (by rfl) rfl ?_ ?_
        ·go_simp
         (try simp only [i64_w])
         try rfl
        refine hK.out _ _ ⟨v140,adz_v140,gb143,m7_,mz4_,mz5_,(by rw [ha.out];exact putSel_upk 2 hb_ rfl rfl rfl),Q_BK135,Q_HB,Q_HO141,Q_HA_HO141,Q_BK143,Q_GW143,Q_GE143,Q_NB135_143,Q_NB143_135,fun h0_=>absurd ((hoff 8 (by kernel_rfl)).symm.trans h0_) (by decide),Q_X7_,Q_Xz4_,Q_Xz5_⟩
       refine steps_cons ?_ ?_
       ·rintro b a w' ⟨v140,adz_v140,gb143,m7_,mz4_,mz5_,ha,Q_BK135,Q_HB,Q_HO141,Q_HA_HO141,Q_BK143,Q_GW143,Q_GE143,Q_NB135_143,Q_NB143_135,Q_BK143_e8,Q_X7_,Q_Xz4_,Q_Xz5_⟩ hb_ hon hoff
        refine ⟨_,rfl,fun K hK=>?_⟩
        have e27:a.tmps[27]? = some (v140):=by rw [ha];exact putSel_on (e:=(0,27,v140)) 0 rfl rfl (hon 0 (by kernel_rfl)) rfl
        have e30:a.tmps[30]? = some (.int .i64 ji16):=by rw [ha];exact putSel_on (e:=(3,30,.int .i64 ji16)) 2 rfl rfl (hon 3 (by kernel_rfl)) rfl
        replace ha:=aM ha
        have BK135:=aM Q_BK135
        have HB:=aM Q_HB
        have HO141:=aM (Q_HO141 (hon 0 (by kernel_rfl)))
        obtain ⟨c_,hv_⟩:=Q_HA_HO141 (hon 0 (by kernel_rfl))
        rw [hv_] at e27
        refine value_ (w1:=w') (v:=.pointer (some (adz_v140.add (((ji16)).toNat*2)))) (by rfl) rfl ?_ ?_
        ·go_simp
         (try simp only [i64_w])
         try rfl
        refine hK.out _ _ ⟨v140,adz_v140,gb143,m7_,(.pointer (some (adz_v140.add (((ji16)).toNat*2)))),mz5_,(by rw [ha.out];exact putSel_upk 3 hb_ rfl rfl rfl),Q_BK135,Q_HB,Q_HO141,Q_HA_HO141,Q_BK143,Q_GW143,Q_GE143,Q_NB135_143,Q_NB143_135,fun h0_=>absurd ((hoff 8 (by kernel_rfl)).symm.trans h0_) (by decide),Q_X7_,fun _=>rfl,Q_Xz5_⟩
       refine steps_cons ?_ ?_
       ·rintro b a w' ⟨v140,adz_v140,gb143,m7_,mz4_,mz5_,ha,Q_BK135,Q_HB,Q_HO141,Q_HA_HO141,Q_BK143,Q_GW143,Q_GE143,Q_NB135_143,Q_NB143_135,Q_BK143_e8,Q_X7_,Q_Xz4_,Q_Xz5_⟩ hb_ hon hoff
        refine ⟨_,rfl,fun K hK=>?_⟩
        have e31:a.tmps[31]? = some (mz4_):=by rw [ha];exact putSel_on (e:=(4,31,mz4_)) 3 rfl rfl (hon 4 (by kernel_rfl)) rfl
        rw [Q_Xz4_ (hon 4 (by kernel_rfl))] at e31
        replace ha:=aM ha
        have BK135:=aM Q_BK135
        have HB:=aM Q_HB
        have HO141:=aM (Q_HO141 (hon 0 (by kernel_rfl)))
        refine value_ (w1:=w') (v:=.pointer (some ⟨(adz_v140.add (((ji16)).toNat*2)).block,(adz_v140.add (((ji16)).toNat*2)).off+1,none⟩)) (by rfl) rfl ?_ ?_
        ·go_simp
         (try simp only [i64_w])
         try rfl
        refine hK.out _ _ ⟨v140,adz_v140,gb143,m7_,mz4_,(.pointer (some ⟨(adz_v140.add (((ji16)).toNat*2)).block,(adz_v140.add (((ji16)).toNat*2)).off+1,none⟩)),(by rw [ha.out];exact putSel_upk 4 hb_ rfl rfl rfl),Q_BK135,Q_HB,Q_HO141,Q_HA_HO141,Q_BK143,Q_GW143,Q_GE143,Q_NB135_143,Q_NB143_135,fun h0_=>absurd ((hoff 8 (by kernel_rfl)).symm.trans h0_) (by decide),Q_X7_,Q_Xz4_,fun _=>rfl⟩
       refine steps_cons ?_ ?_
       ·rintro b a w' ⟨v140,adz_v140,gb143,m7_,mz4_,mz5_,ha,Q_BK135,Q_HB,Q_HO141,Q_HA_HO141,Q_BK143,Q_GW143,Q_GE143,Q_NB135_143,Q_NB143_135,Q_BK143_e8,Q_X7_,Q_Xz4_,Q_Xz5_⟩ hb_ hon hoff
        refine ⟨_,rfl,fun K hK=>?_⟩
        have e32:a.tmps[32]? = some (mz5_):=by rw [ha];exact putSel_on (e:=(5,32,mz5_)) 4 rfl rfl (hon 5 (by kernel_rfl)) rfl
        rw [Q_Xz5_ (hon 5 (by kernel_rfl))] at e32
        replace ha:=aM ha
        have BK135:=aM Q_BK135
        have HB:=aM Q_HB
        have HO141:=aM (Q_HO141 (hon 0 (by kernel_rfl)))
        obtain ⟨c_,hv_⟩:=Q_HA_HO141 (hon 0 (by kernel_rfl))
        have hF_:=HO141.out
        rw [hv_] at hF_
        obtain ⟨ad142_z,e142_z,hx142_0_z,hx142_1_z⟩:=at_T72 (Kd.R_reads' hF_).2.2 (ji16) (of_eq_true pz_) (of_eq_true qz_)
        cases e142_z
        have hs0_:w'.cell? (adz_v140.add (((ji16)).toNat*2))=some (.string ((rd_T72 t139 (ji16)).f0)):=(by first | exact hx142_0_z | (have h_:=hx142_0_z;(try simp only [Int.reduceToNat,Nat.zero_mul,Nat.reduceMul,Nat.reduceEqDiff,Go.Addr.add,↓reduceIte,Addr.add_zero'] at h_);exact h_))
        have hs1_:w'.cell? ⟨(adz_v140.add (((ji16)).toNat*2)).block,(adz_v140.add (((ji16)).toNat*2)).off+1,none⟩=some (.string ((rd_T72 t139 (ji16)).f1)):=(by first | exact hx142_1_z | (have h_:=hx142_1_z;(try simp only [Int.reduceToNat,Nat.zero_mul,Nat.reduceMul,Nat.reduceEqDiff,Go.Addr.add,↓reduceIte,Addr.add_zero'] at h_);exact h_))
        refine value_ (w1:=w') (v:=.string ((rd_T72 t139 (ji16)).f1)) (by rfl) rfl ?_ ?_
        ·go_simp
         (try simp only [i64_w])
         try rfl
        refine hK.out _ _ ⟨v140,adz_v140,gb143,m7_,mz4_,mz5_,(by rw [ha.out];exact putSel_upk 5 hb_ rfl rfl rfl),Q_BK135,Q_HB,Q_HO141,Q_HA_HO141,Q_BK143,Q_GW143,Q_GE143,Q_NB135_143,Q_NB143_135,fun h0_=>absurd ((hoff 8 (by kernel_rfl)).symm.trans h0_) (by decide),Q_X7_,Q_Xz4_,Q_Xz5_⟩
       refine steps_cons ?_ ?_
       ·rintro b a w' ⟨v140,adz_v140,gb143,m7_,mz4_,mz5_,ha,Q_BK135,Q_HB,Q_HO141,Q_HA_HO141,Q_BK143,Q_GW143,Q_GE143,Q_NB135_143,Q_NB143_135,Q_BK143_e8,Q_X7_,Q_Xz4_,Q_Xz5_⟩ hb_ hon hoff
        refine ⟨_,rfl,fun K hK=>?_⟩
        replace ha:=aM ha
        have BK135:=aM Q_BK135
        have HB:=aM Q_HB
        refine bs_ 3 #[.string (⟨#[]⟩:ByteArray)] 9 ?_
        intro gb143 hg w21 hbox hb
        have n0_:=aM (blkB_ BK135.out hb)
        have n1_:=aM (below_step (z3_ HB.out GE135.out) hb)
        have n2_:=aM (hbox)
        have n3_:=aM ((z12_ HB.out GE135.out:w.heap.size≤gb143))
        have n4_:=aM ((z12_ HB.out GE135.out:w.heap.size≤gb143))
        have n5_:=aM (neL_ BK135.out hg)
        have n6_:=aM (neG_ BK135.out hg)
        have z_HO141:=fun (h0_:b 0=true)=>(show Kd.R k72 72 w21 w.heap.size (fun _=>True) v140 t139 from by first | exact (Kd.R_below (by (with_reducible repeat (first | apply Kd.R_alloc | apply Kd.R_drewN | apply Kd.R_drew));exact (Q_HO141 h0_)) hb) | exact Kd.R_mono (Kd.R_below (by (with_reducible repeat (first | apply Kd.R_alloc | apply Kd.R_drewN | apply Kd.R_drew));exact (Q_HO141 h0_)) hb) (fun _ h_=>by first | trivial | exact h_ | exact h_.1))
        clear BK135
        clear HB
        have BK135:=n0_
        have HB:=n1_
        have BK143:=n2_
        have GW143:=n3_
        have GE143:=n4_
        have NB135_143:=n5_
        have NB143_135:=n6_
        clear n0_ n1_ n2_ n3_ n4_ n5_ n6_
        clear hb hbox hg
        refine hK.out _ _ ⟨v140,adz_v140,gb143,(.pointer (some ⟨gb143,0,none⟩)),mz4_,mz5_,(by rw [ha.out];exact putSel_upk 6 hb_ rfl rfl rfl),(z5_ BK135.out),(z4_ HB.out GE135.out GE143.out),z_HO141,Q_HA_HO141,fun _ _=>(z5_ BK143.out),fun _=>GW143.out,fun _=>GE143.out,fun _=>NB135_143.out,fun _=>NB143_135.out,fun h0_=>absurd ((hoff 8 (by kernel_rfl)).symm.trans h0_) (by decide),fun _=>rfl,Q_Xz4_,Q_Xz5_⟩
       refine steps_cons ?_ ?_
       ·rintro b a w' ⟨v140,adz_v140,gb143,m7_,mz4_,mz5_,ha,Q_BK135,Q_HB,Q_HO141,Q_HA_HO141,Q_BK143,Q_GW143,Q_GE143,Q_NB135_143,Q_NB143_135,Q_BK143_e8,Q_X7_,Q_Xz4_,Q_Xz5_⟩ hb_ hon hoff
        refine ⟨_,rfl,fun K hK=>?_⟩
        have e3:a.tmps[3]? = some (m7_):=by rw [ha];exact putSel_on (e:=(7,3,m7_)) 6 rfl rfl (hon 7 (by kernel_rfl)) rfl
        rw [Q_X7_ (hon 7 (by kernel_rfl))] at e3
        have e33:a.tmps[33]? = some (.string ((rd_T72 t139 (ji16)).f1)):=by rw [ha];exact putSel_on (e:=(6,33,.string ((rd_T72 t139 (ji16)).f1))) 5 rfl rfl (hon 6 (by kernel_rfl)) rfl
        replace ha:=aM ha
        have BK135:=aM Q_BK135
        have HB:=aM Q_HB
        have HO141:=aM (Q_HO141 (hon 0 (by kernel_rfl)))
        have BK143:=aM (Q_BK143 (hon 7 (by kernel_rfl)) hb_)
        have GW143:=aM (Q_GW143 (hon 7 (by kernel_rfl)))
        have GE143:=aM (Q_GE143 (hon 7 (by kernel_rfl)))
        have NB135_143:=aM (Q_NB135_143 (hon 7 (by kernel_rfl)))
        have NB143_135:=aM (Q_NB143_135 (hon 7 (by kernel_rfl)))
        have hs24:w'.cell? ⟨gb143,0,none⟩=some (.string (⟨#[]⟩:ByteArray)):=(blk_cell BK143.out 0).trans rfl
        have hfs24:=blk_frozen BK143.out 0
        have hns24_0:=NB135_143.out
        have hms24_0:=NB143_135.out
        refine skip_ (w1:=?_) (by rfl) rfl ?_ ?_
        rotate_left
        ·go_simp
         rfl
        refine hK.out _ _ ⟨v140,adz_v140,gb143,m7_,mz4_,mz5_,(by rw [ha.out];exact putSel_none (v:=undef) rfl),(by (with_reducible repeat (first | refine blk_drewN ?_ _ | refine blk_drew ?_ | refine blk_alloc ?_ _));refine blk_far ?_ NB135_143.out _;(with_reducible repeat (first | refine blk_drewN ?_ _ | refine blk_drew ?_ | refine blk_alloc ?_ _));exact BK135.out),(z4_ HB.out GE135.out GE143.out),fun _=>(by (with_reducible repeat (first | apply Kd.R_alloc | apply Kd.R_drewN | apply Kd.R_drew));exact Kd.R_mono (Kd.R_far (p:=⟨gb143,0,none⟩) (Kd.R_types HO141.out BK143.out (by decide)) (fun _ hk=>hk.2) (.string ((rd_T72 t139 (ji16)).f1))) (fun _ hk=>trivial)),Q_HA_HO141,fun _ h1_=>absurd ((up_self b 8).symm.trans h1_) (by decide),fun _=>GW143.out,fun _=>GE143.out,fun _=>NB135_143.out,fun _=>NB143_135.out,fun _=>(by (with_reducible repeat (first | refine blk_drewN ?_ _ | refine blk_drew ?_ | refine blk_alloc ?_ _));refine blk_put (cs:=#[.string (⟨#[]⟩:ByteArray)]) ?_ 0 _ rfl;(with_reducible repeat (first | refine blk_drewN ?_ _ | refine blk_drew ?_ | refine blk_alloc ?_ _));exact BK143.out),Q_X7_,Q_Xz4_,Q_Xz5_⟩
       exact steps_nil
      rintro b a w24 hall ⟨v140,adz_v140,gb143,m7_,mz4_,mz5_,ha,Q_BK135,Q_HB,Q_HO141,Q_HA_HO141,Q_BK143,Q_GW143,Q_GE143,Q_NB135_143,Q_NB143_135,Q_BK143_e8,Q_X7_,Q_Xz4_,Q_Xz5_⟩
      clear BK135 HB
      have hb0_:=hall 0 (by kernel_rfl)
      have hb2_:=hall 2 (by kernel_rfl)
      have hb3_:=hall 3 (by kernel_rfl)
      have hb4_:=hall 4 (by kernel_rfl)
      have hb5_:=hall 5 (by kernel_rfl)
      have hb6_:=hall 6 (by kernel_rfl)
      have hb7_:=hall 7 (by kernel_rfl)
      have hb8_:=hall 8 (by kernel_rfl)
      subst ha
      obtain rfl:=Q_X7_ hb7_
      obtain rfl:=Q_Xz4_ hb4_
      obtain rfl:=Q_Xz5_ hb5_
      simp only [putSel,hb0_,hb2_,hb3_,hb4_,hb5_,hb6_,hb7_,hb8_,if_true,Act.put,List.setIfInBounds_toArray,List.set_cons_zero,List.set_cons_succ]
      have BK135:=aM Q_BK135
      clear Q_BK135
      have HB:=aM Q_HB
      clear Q_HB
      have HO141:=aM (Q_HO141 hb0_)
      clear Q_HO141
      clear Q_HA_HO141
      clear Q_BK143
      have GW143:=aM (Q_GW143 hb7_)
      clear Q_GW143
      have GE143:=aM (Q_GE143 hb7_)
      clear Q_GE143
      have NB135_143:=aM (Q_NB135_143 hb7_)
      clear Q_NB135_143
      have NB143_135:=aM (Q_NB143_135 hb7_)
      clear Q_NB143_135
      have BK143:=aM (Q_BK143_e8 hb8_)
      clear Q_BK143_e8
      clear hall hb0_ hb2_ hb3_ hb4_ hb5_ hb6_ hb7_ hb8_
      obtain ⟨Ao25,co25,eo25⟩:=Kd.R_slice HO141.out
      (first | subst eo25 | (injection eo25 with f1_ f2_ f3_;have f4_:=f1_.symm;have f5_:=f3_.symm;clear f1_ f2_ f3_;subst f4_;subst f5_))
      have p142:0≤((ji16):Int):=dT (z2_)
      have q142:(ji16)<(t139.length:Int):=dT (z2_)
      obtain ⟨ad142,e142,hx142_0,hx142_1⟩:=at_T72 (Kd.R_reads' HO141.out).2.2 (ji16) p142 q142
      cases e142
      replace p142:=eq_true p142
      replace q142:=eq_true q142
      go_upto_region 6 with (fail)
      go_cut [50] (fun v50 wc=>∃ (kq:Nat) (x50_18:Bool),v50 = .bool x50_18∧Aside0 (Y1.j1 kq x50_18 a0_0 a0_1 a0_2 a0_3 a0_4 a0_5 ((rd_T72 t139 (ji16)).f1)=some r)∧Aside0 (kq≤kj1)∧Aside0 (wc.heap[gb135]? = some (.cells #[.int .i64 a0_0,.int .i64 a0_1,.int .i64 a0_2,.string a0_3,.string a0_4,.int .i64 a0_5] 26 (0,0)))∧Aside0 (wc.heap[gb143]? = some (.cells #[.string ((rd_T72 t139 (ji16)).f1)] 9 (0,0)))∧Aside0 (Below w.heap.size w wc))
      case first=>as_aux_lemma =>
       have H:=HC19.out
       clear HC19
       replace H:=bS H
       obtain ⟨t144,A260,H⟩:=H
       replace H:((Y12.f a0_1 t144).bind fun t145=>(if t145=true then ((Y0.f kj1 (⟨#[66]⟩:ByteArray) ((rd_T72 t139 (ji16)).f1)).bind fun t146=>((Y12.f a0_2 t146).bind fun t147=>(Y1.j1 kj1 (!t147) a0_0 a0_1 a0_2 a0_3 a0_4 a0_5 ((rd_T72 t139 (ji16)).f1)))) else (Y1.j1 kj1 true a0_0 a0_1 a0_2 a0_3 a0_4 a0_5 ((rd_T72 t139 (ji16)).f1))))=some r:=H
       have A26:=aM A260
       clear A260
       replace H:=bS H
       obtain ⟨t145,A270,H⟩:=H
       replace H:(if t145=true then ((Y0.f kj1 (⟨#[66]⟩:ByteArray) ((rd_T72 t139 (ji16)).f1)).bind fun t146=>((Y12.f a0_2 t146).bind fun t147=>(Y1.j1 kj1 (!t147) a0_0 a0_1 a0_2 a0_3 a0_4 a0_5 ((rd_T72 t139 (ji16)).f1)))) else (Y1.j1 kj1 true a0_0 a0_1 a0_2 a0_3 a0_4 a0_5 ((rd_T72 t139 (ji16)).f1)))=some r:=H
       have A27:=aM A270
       clear A270
       by_cases c28:t145=true
       ·subst c28
        have H1:((Y0.f kj1 (⟨#[66]⟩:ByteArray) ((rd_T72 t139 (ji16)).f1)).bind fun t146=>((Y12.f a0_2 t146).bind fun t147=>(Y1.j1 kj1 (!t147) a0_0 a0_1 a0_2 a0_3 a0_4 a0_5 ((rd_T72 t139 (ji16)).f1))))=some r:=by rw [if_pos rfl] at H;exact H
        clear H
        have H:=H1
        clear H1
        replace H:=bS H
        obtain ⟨t146,A290,H⟩:=H
        replace H:((Y12.f a0_2 t146).bind fun t147=>(Y1.j1 kj1 (!t147) a0_0 a0_1 a0_2 a0_3 a0_4 a0_5 ((rd_T72 t139 (ji16)).f1)))=some r:=H
        have A29:=aM A290
        clear A290
        replace H:=bS H
        obtain ⟨t147,A300,H⟩:=H
        replace H:(Y1.j1 kj1 (!t147) a0_0 a0_1 a0_2 a0_3 a0_4 a0_5 ((rd_T72 t139 (ji16)).f1))=some r:=H
        have A30:=aM A300
        clear A300
        have H':=aM H
        clear H
        try go_wp2
        have n0_:=aM (Kd.R_drew HO141.out)
        have n1_:=aM (blk_drew BK135.out)
        have n2_:=aM (blk_drew BK143.out)
        have n3_:=aM (below_drew1 HB.out)
        clear HO141
        clear BK135
        clear BK143
        clear HB
        have HO141:=n0_
        have BK135:=n1_
        have BK143:=n2_
        have HB:=n3_
        clear n0_ n1_ n2_ n3_
        refine start_ (n:=16) (S:=fun w'=>w'.cell? ⟨gb135,0,none⟩=some (.int .i64 a0_0)∧w'.cell? ⟨gb135,1,none⟩=some (.int .i64 a0_1)∧w'.cell? ⟨gb135,2,none⟩=some (.int .i64 a0_2)∧w'.cell? ⟨gb135,3,none⟩=some (.string a0_3)∧w'.cell? ⟨gb135,4,none⟩=some (.string a0_4)∧w'.cell? ⟨gb135,5,none⟩=some (.int .i64 a0_5)) (ds:=[]) Y1.q0 (by kernel_rfl) rfl rfl (cc6_ BK135.out) (fun hHeld=>?_);refine with_tabW Y1.tab6 Y1.bits6 (fun HT_ HW_=>?_)
        generalize w24.drew=w31 at HO141 BK135 BK143 HB hHeld ⊢
        refine pu_ 0 35 Y1.q1 HT_.out ?_
        refine pu_ 1 36 Y1.q2 HT_.out ?_
        refine pu_ 3 38 Y1.q3 HT_.out ?_
        refine tk6_ 2 37 Y1.q4 HT_.out HW_.out hHeld ?_
        refine o1_ 4 39 Y1.q5 HT_.out (fun K hK=>?_)
        refine goesC_ Try.func53 (by kernel_rfl) rfl #[.string (⟨#[65]⟩:ByteArray),.pointer (some ⟨gb143,0,none⟩)] (by rfl) rfl rfl (by rfl) (z14_) ?_
        with_reducible refine (Y0.calls kj1 (⟨#[65]⟩:ByteArray) gb143 ((rd_T72 t139 (ji16)).f1) t144 _ ?s1 A26.out).mono ?_
        (case s1=>(with_reducible repeat (first | refine blk_drewN ?_ _ | refine blk_drew ?_ | refine blk_alloc ?_ _));exact BK143.out)
        rintro e w32 ⟨rfl,hb⟩
        refine ⟨_,rfl,?_⟩
        have n0_:=aM (Kd.R_below (z10_ HO141.out) hb)
        have n1_:=aM (blkB_ BK135.out hb)
        have n2_:=aM (blkB_ BK143.out hb)
        have n3_:=aM (below_step (z4_ HB.out GE135.out GE143.out) hb)
        clear HO141
        clear BK135
        clear BK143
        clear HB
        have HO141:=n0_
        have BK135:=n1_
        have BK143:=n2_
        have HB:=n3_
        clear n0_ n1_ n2_ n3_
        (try clear hb)
        refine hK.out _ _ (cc6_ BK135.out) (fun hHeld=>?_)
        clear hK K
        refine nm_ 39 ?_
        refine o1_ 5 40 Y1.q6 HT_.out (fun K hK=>?_)
        refine goesD_ Try.func55 (by kernel_rfl) rfl #[.int .i64 a0_1,.bool t144] (by rfl) rfl rfl (by rfl) (z15_) ?_
        with_reducible refine (Y12.calls a0_1 t144 true _ A27.out).mono ?_
        rintro e w' ⟨rfl,⟨nd,rfl⟩⟩
        refine ⟨_,rfl,?_⟩
        refine hK.out _ _ (cc6_ BK135.out) (fun hHeld=>?_)
        clear hK K
        refine nm_ 40 ?_
        refine pu_ 6 41 Y1.q7 HT_.out ?_
        refine pu_ 7 42 Y1.q8 HT_.out ?_
        refine pu_ 8 43 Y1.q9 HT_.out ?_
        refine pu_ 9 44 Y1.q10 HT_.out ?_
        refine pu_ 11 46 #[I,I,I,I,I,I,I,I,I,I,O,I,O,O,O,O] HT_.out ?_
        refine tk6_ 10 45 Y1.q11 HT_.out HW_.out hHeld ?_
        refine o1_ 12 47 Y1.q12 HT_.out (fun K hK=>?_)
        refine goesC_ Try.func53 (by kernel_rfl) rfl #[.string (⟨#[66]⟩:ByteArray),.pointer (some ⟨gb143,0,none⟩)] (by rfl) rfl rfl (by rfl) (z14_) ?_
        with_reducible refine (Y0.calls kj1 (⟨#[66]⟩:ByteArray) gb143 ((rd_T72 t139 (ji16)).f1) t146 _ ?s1 A29.out).mono ?_
        (case s1=>(with_reducible repeat (first | refine blk_drewN ?_ _ | refine blk_drew ?_ | refine blk_alloc ?_ _));exact BK143.out)
        rintro e w33 ⟨rfl,hb⟩
        refine ⟨_,rfl,?_⟩
        have n0_:=aM (Kd.R_below (z10_ HO141.out) hb)
        have n1_:=aM (blkB_ BK135.out hb)
        have n2_:=aM (blkB_ BK143.out hb)
        have n3_:=aM (below_step (z4_ HB.out GE135.out GE143.out) hb)
        clear HO141
        clear BK135
        clear BK143
        clear HB
        have HO141:=n0_
        have BK135:=n1_
        have BK143:=n2_
        have HB:=n3_
        clear n0_ n1_ n2_ n3_
        (try clear hb)
        refine hK.out _ _ (cc6_ BK135.out) (fun hHeld=>?_)
        clear hK K
        refine nm_ 47 ?_
        refine o1_ 13 48 Y1.q13 HT_.out (fun K hK=>?_)
        refine goesD_ Try.func55 (by kernel_rfl) rfl #[.int .i64 a0_2,.bool t146] (by rfl) rfl rfl (by rfl) (z15_) ?_
        with_reducible refine (Y12.calls a0_2 t146 t147 _ A30.out).mono ?_
        rintro e w' ⟨rfl,⟨nd,rfl⟩⟩
        refine ⟨_,rfl,?_⟩
        refine hK.out _ _ (cc6_ BK135.out) (fun hHeld=>?_)
        clear hK K
        refine nm_ 48 ?_
        refine pu_ 14 49 Y1.q14 HT_.out ?_
        refine pu_ 15 50 Y1.q15 HT_.out ?_
        refine done_ (done_of HT_.out (by kernel_rfl)) ?_
        try go_wp2
        go_meet
        case rel=>exact ⟨_,(!t147),(z0_),H',⟨z11_ HJ1.out⟩,⟨z5_ BK135.out⟩,⟨z5_ BK143.out⟩,⟨z4_ HB.out GE135.out GE143.out⟩⟩
       ·replace c28:=Bool.eq_false_iff.mpr c28
        subst c28
        have H1:(Y1.j1 kj1 true a0_0 a0_1 a0_2 a0_3 a0_4 a0_5 ((rd_T72 t139 (ji16)).f1))=some r:=by rw [if_neg (show ¬ (false=true) by decide)] at H;exact H
        clear H
        have H:=H1
        clear H1
        have H':=aM H
        clear H
        try go_wp2
        have n0_:=aM (Kd.R_drew HO141.out)
        have n1_:=aM (blk_drew BK135.out)
        have n2_:=aM (blk_drew BK143.out)
        have n3_:=aM (below_drew1 HB.out)
        clear HO141
        clear BK135
        clear BK143
        clear HB
        have HO141:=n0_
        have BK135:=n1_
        have BK143:=n2_
        have HB:=n3_
        clear n0_ n1_ n2_ n3_
        refine start_ (n:=16) (S:=fun w'=>w'.cell? ⟨gb135,0,none⟩=some (.int .i64 a0_0)∧w'.cell? ⟨gb135,1,none⟩=some (.int .i64 a0_1)∧w'.cell? ⟨gb135,2,none⟩=some (.int .i64 a0_2)∧w'.cell? ⟨gb135,3,none⟩=some (.string a0_3)∧w'.cell? ⟨gb135,4,none⟩=some (.string a0_4)∧w'.cell? ⟨gb135,5,none⟩=some (.int .i64 a0_5)) (ds:=[]) Y1.q0 (by kernel_rfl) rfl rfl (cc6_ BK135.out) (fun hHeld=>?_);refine with_tabW Y1.tab6 Y1.bits6 (fun HT_ HW_=>?_)
        generalize w24.drew=w34 at HO141 BK135 BK143 HB hHeld ⊢
        refine pu_ 0 35 Y1.q1 HT_.out ?_
        refine pu_ 1 36 Y1.q2 HT_.out ?_
        refine pu_ 3 38 Y1.q3 HT_.out ?_
        refine tk6_ 2 37 Y1.q4 HT_.out HW_.out hHeld ?_
        refine o1_ 4 39 Y1.q5 HT_.out (fun K hK=>?_)
        refine goesC_ Try.func53 (by kernel_rfl) rfl #[.string (⟨#[65]⟩:ByteArray),.pointer (some ⟨gb143,0,none⟩)] (by rfl) rfl rfl (by rfl) (z14_) ?_
        with_reducible refine (Y0.calls kj1 (⟨#[65]⟩:ByteArray) gb143 ((rd_T72 t139 (ji16)).f1) t144 _ ?s1 A26.out).mono ?_
        (case s1=>(with_reducible repeat (first | refine blk_drewN ?_ _ | refine blk_drew ?_ | refine blk_alloc ?_ _));exact BK143.out)
        rintro e w35 ⟨rfl,hb⟩
        refine ⟨_,rfl,?_⟩
        have n0_:=aM (Kd.R_below (z10_ HO141.out) hb)
        have n1_:=aM (blkB_ BK135.out hb)
        have n2_:=aM (blkB_ BK143.out hb)
        have n3_:=aM (below_step (z4_ HB.out GE135.out GE143.out) hb)
        clear HO141
        clear BK135
        clear BK143
        clear HB
        have HO141:=n0_
        have BK135:=n1_
        have BK143:=n2_
        have HB:=n3_
        clear n0_ n1_ n2_ n3_
        (try clear hb)
        refine hK.out _ _ (cc6_ BK135.out) (fun hHeld=>?_)
        clear hK K
        refine nm_ 39 ?_
        refine o1_ 5 40 Y1.q6 HT_.out (fun K hK=>?_)
        refine goesD_ Try.func55 (by kernel_rfl) rfl #[.int .i64 a0_1,.bool t144] (by rfl) rfl rfl (by rfl) (z15_) ?_
        with_reducible refine (Y12.calls a0_1 t144 false _ A27.out).mono ?_
        rintro e w' ⟨rfl,⟨nd,rfl⟩⟩
        refine ⟨_,rfl,?_⟩
        refine hK.out _ _ (cc6_ BK135.out) (fun hHeld=>?_)
        clear hK K
        refine nm_ 40 ?_
        refine pu_ 6 41 Y1.q7 HT_.out ?_
        refine pu_ 7 42 Y1.q8 HT_.out ?_
        refine pn_ 8 43 Y1.q9 HT_.out ?_
        refine pn_ 9 44 Y1.q10 HT_.out ?_
        refine pn_ 10 45 #[I,I,I,I,I,I,I,I,I,I,I,O,O,O,O,O] HT_.out ?_
        refine pn_ 11 46 Y1.q11 HT_.out ?_
        refine pn_ 12 47 Y1.q12 HT_.out ?_
        refine pn_ 13 48 Y1.q13 HT_.out ?_
        refine pn_ 14 49 Y1.q14 HT_.out ?_
        refine pu_ 15 50 Y1.q15 HT_.out ?_
        refine done_ (done_of HT_.out (by kernel_rfl)) ?_
        try go_wp2
        go_meet
        case rel=>exact ⟨_,(true),(z0_),H',⟨z11_ HJ1.out⟩,⟨z5_ BK135.out⟩,⟨z5_ BK143.out⟩,⟨z4_ HB.out GE135.out GE143.out⟩⟩
      case rest=>as_aux_lemma =>
       clear HC19
       try clear c1
       try clear p1
       try clear q1
       try clear hx1
       try clear c2
       try clear p2
       try clear c3
       try clear c4
       try clear c5
       try clear c7
       try clear p14
       try clear q14
       try clear hx14
       try clear c28
       try clear hx142_0
       try clear hx142_1
       try clear p142
       try clear q142
       obtain ⟨kq,x50_18,rfl,HA,HJ18,BK135,BK143,HB⟩:=hcut
       cases kq with
       | zero=>exact absurd HA.out (by simp [Y1.j1])
       | succ kj18 =>
        have H:=HA.out
        clear HA
        simp only [Y1.j1] at H
        by_cases c36:x50_18=true
        ·subst c36
         have H1:(some false)=some r:=by rw [if_pos rfl] at H;exact H
         clear H
         have H:=H1
         clear H1
         obtain rfl:=sI H
         go_wp2
         go_ret
         exact ⟨z9_,z4_ HB.out GE135.out GE143.out⟩
        ·replace c36:=Bool.eq_false_iff.mpr c36
         subst c36
         have H1:((Y0.f kj18 (⟨#[75]⟩:ByteArray) ((rd_T72 t139 (ji16)).f1)).bind fun t148=>(if t148=true then ((Y3.f kj18 a0_3).bind fun t149=>(if t149=true then ((Y0.f kj18 (⟨#[68]⟩:ByteArray) ((rd_T72 t139 (ji16)).f1)).bind fun t150=>(if t150=true then ((Y3.f kj18 a0_4).bind fun t151=>(if t151=true then (if (a0_4.size:Int)≤16 then (some true) else ((Y0.f kj18 (⟨#[68]⟩:ByteArray) ((rd_T72 t139 (ji16)).f1)).bind fun t152=>(if t152=true then (some false) else (some (a0_4.toList == ([]:List UInt8)))))) else ((Y0.f kj18 (⟨#[68]⟩:ByteArray) ((rd_T72 t139 (ji16)).f1)).bind fun t153=>(if t153=true then (some false) else (some (a0_4.toList == ([]:List UInt8))))))) else ((Y0.f kj18 (⟨#[68]⟩:ByteArray) ((rd_T72 t139 (ji16)).f1)).bind fun t154=>(if t154=true then (some false) else (some (a0_4.toList == ([]:List UInt8))))))) else ((Y0.f kj18 (⟨#[75]⟩:ByteArray) ((rd_T72 t139 (ji16)).f1)).bind fun t155=>(if t155=true then (some false) else (if a0_3.toList=([]:List UInt8) then ((Y0.f kj18 (⟨#[68]⟩:ByteArray) ((rd_T72 t139 (ji16)).f1)).bind fun t156=>(if t156=true then ((Y3.f kj18 a0_4).bind fun t157=>(if t157=true then (if (a0_4.size:Int)≤16 then (some true) else ((Y0.f kj18 (⟨#[68]⟩:ByteArray) ((rd_T72 t139 (ji16)).f1)).bind fun t158=>(if t158=true then (some false) else (some (a0_4.toList == ([]:List UInt8)))))) else ((Y0.f kj18 (⟨#[68]⟩:ByteArray) ((rd_T72 t139 (ji16)).f1)).bind fun t159=>(if t159=true then (some false) else (some (a0_4.toList == ([]:List UInt8))))))) else ((Y0.f kj18 (⟨#[68]⟩:ByteArray) ((rd_T72 t139 (ji16)).f1)).bind fun t160=>(if t160=true then (some false) else (some (a0_4.toList == ([]:List UInt8))))))) else (some false)))))) else ((Y0.f kj18 (⟨#[75]⟩:ByteArray) ((rd_T72 t139 (ji16)).f1)).bind fun t161=>(if t161=true then (some false) else (if a0_3.toList=([]:List UInt8) then ((Y0.f kj18 (⟨#[68]⟩:ByteArray) ((rd_T72 t139 (ji16)).f1)).bind fun t162=>(if t162=true then ((Y3.f kj18 a0_4).bind fun t163=>(if t163=true then (if (a0_4.size:Int)≤16 then (some true) else ((Y0.f kj18 (⟨#[68]⟩:ByteArray) ((rd_T72 t139 (ji16)).f1)).bind fun t164=>(if t164=true then (some false) else (some (a0_4.toList == ([]:List UInt8)))))) else ((Y0.f kj18 (⟨#[68]⟩:ByteArray) ((rd_T72 t139 (ji16)).f1)).bind fun t165=>(if t165=true then (some false) else (some (a0_4.toList == ([]:List UInt8))))))) else ((Y0.f kj18 (⟨#[68]⟩:ByteArray) ((rd_T72 t139 (ji16)).f1)).bind fun t166=>(if t166=true then (some false) else (some (a0_4.toList == ([]:List UInt8))))))) else (some false))))))=some r:=by rw [if_neg (show ¬ (false=true) by decide)] at H;exact H
         clear H
         have H:=H1
         clear H1
         replace H:=bS H
         obtain ⟨t148,A370,H⟩:=H
         replace H:(if t148=true then ((Y3.f kj18 a0_3).bind fun t149=>(if t149=true then ((Y0.f kj18 (⟨#[68]⟩:ByteArray) ((rd_T72 t139 (ji16)).f1)).bind fun t150=>(if t150=true then ((Y3.f kj18 a0_4).bind fun t151=>(if t151=true then (if (a0_4.size:Int)≤16 then (some true) else ((Y0.f kj18 (⟨#[68]⟩:ByteArray) ((rd_T72 t139 (ji16)).f1)).bind fun t152=>(if t152=true then (some false) else (some (a0_4.toList == ([]:List UInt8)))))) else ((Y0.f kj18 (⟨#[68]⟩:ByteArray) ((rd_T72 t139 (ji16)).f1)).bind fun t153=>(if t153=true then (some false) else (some (a0_4.toList == ([]:List UInt8))))))) else ((Y0.f kj18 (⟨#[68]⟩:ByteArray) ((rd_T72 t139 (ji16)).f1)).bind fun t154=>(if t154=true then (some false) else (some (a0_4.toList == ([]:List UInt8))))))) else ((Y0.f kj18 (⟨#[75]⟩:ByteArray) ((rd_T72 t139 (ji16)).f1)).bind fun t155=>(if t155=true then (some false) else (if a0_3.toList=([]:List UInt8) then ((Y0.f kj18 (⟨#[68]⟩:ByteArray) ((rd_T72 t139 (ji16)).f1)).bind fun t156=>(if t156=true then ((Y3.f kj18 a0_4).bind fun t157=>(if t157=true then (if (a0_4.size:Int)≤16 then (some true) else ((Y0.f kj18 (⟨#[68]⟩:ByteArray) ((rd_T72 t139 (ji16)).f1)).bind fun t158=>(if t158=true then (some false) else (some (a0_4.toList == ([]:List UInt8)))))) else ((Y0.f kj18 (⟨#[68]⟩:ByteArray) ((rd_T72 t139 (ji16)).f1)).bind fun t159=>(if t159=true then (some false) else (some (a0_4.toList == ([]:List UInt8))))))) else ((Y0.f kj18 (⟨#[68]⟩:ByteArray) ((rd_T72 t139 (ji16)).f1)).bind fun t160=>(if t160=true then (some false) else (some (a0_4.toList == ([]:List UInt8))))))) else (some false)))))) else ((Y0.f kj18 (⟨#[75]⟩:ByteArray) ((rd_T72 t139 (ji16)).f1)).bind fun t161=>(if t161=true then (some false) else (if a0_3.toList=([]:List UInt8) then ((Y0.f kj18 (⟨#[68]⟩:ByteArray) ((rd_T72 t139 (ji16)).f1)).bind fun t162=>(if t162=true then ((Y3.f kj18 a0_4).bind fun t163=>(if t163=true then (if (a0_4.size:Int)≤16 then (some true) else ((Y0.f kj18 (⟨#[68]⟩:ByteArray) ((rd_T72 t139 (ji16)).f1)).bind fun t164=>(if t164=true then (some false) else (some (a0_4.toList == ([]:List UInt8)))))) else ((Y0.f kj18 (⟨#[68]⟩:ByteArray) ((rd_T72 t139 (ji16)).f1)).bind fun t165=>(if t165=true then (some false) else (some (a0_4.toList == ([]:List UInt8))))))) else ((Y0.f kj18 (⟨#[68]⟩:ByteArray) ((rd_T72 t139 (ji16)).f1)).bind fun t166=>(if t166=true then (some false) else (some (a0_4.toList == ([]:List UInt8))))))) else (some false)))))=some r:=H
         have A37:=aM A370
         clear A370
         by_cases c38:t148=true
         ·subst c38
          have H1:((Y3.f kj18 a0_3).bind fun t149=>(if t149=true then ((Y0.f kj18 (⟨#[68]⟩:ByteArray) ((rd_T72 t139 (ji16)).f1)).bind fun t150=>(if t150=true then ((Y3.f kj18 a0_4).bind fun t151=>(if t151=true then (if (a0_4.size:Int)≤16 then (some true) else ((Y0.f kj18 (⟨#[68]⟩:ByteArray) ((rd_T72 t139 (ji16)).f1)).bind fun t152=>(if t152=true then (some false) else (some (a0_4.toList == ([]:List UInt8)))))) else ((Y0.f kj18 (⟨#[68]⟩:ByteArray) ((rd_T72 t139 (ji16)).f1)).bind fun t153=>(if t153=true then (some false) else (some (a0_4.toList == ([]:List UInt8))))))) else ((Y0.f kj18 (⟨#[68]⟩:ByteArray) ((rd_T72 t139 (ji16)).f1)).bind fun t154=>(if t154=true then (some false) else (some (a0_4.toList == ([]:List UInt8))))))) else ((Y0.f kj18 (⟨#[75]⟩:ByteArray) ((rd_T72 t139 (ji16)).f1)).bind fun t155=>(if t155=true then (some false) else (if a0_3.toList=([]:List UInt8) then ((Y0.f kj18 (⟨#[68]⟩:ByteArray) ((rd_T72 t139 (ji16)).f1)).bind fun t156=>(if t156=true then ((Y3.f kj18 a0_4).bind fun t157=>(if t157=true then (if (a0_4.size:Int)≤16 then (some true) else ((Y0.f kj18 (⟨#[68]⟩:ByteArray) ((rd_T72 t139 (ji16)).f1)).bind fun t158=>(if t158=true then (some false) else (some (a0_4.toList == ([]:List UInt8)))))) else ((Y0.f kj18 (⟨#[68]⟩:ByteArray) ((rd_T72 t139 (ji16)).f1)).bind fun t159=>(if t159=true then (some false) else (some (a0_4.toList == ([]:List UInt8))))))) else ((Y0.f kj18 (⟨#[68]⟩:ByteArray) ((rd_T72 t139 (ji16)).f1)).bind fun t160=>(if t160=true then (some false) else (some (a0_4.toList == ([]:List UInt8))))))) else (some false))))))=some r:=by rw [if_pos rfl] at H;exact H
          clear H
          have H:=H1
          clear H1
          replace H:=bS H
          obtain ⟨t149,A390,H⟩:=H
          replace H:(if t149=true then ((Y0.f kj18 (⟨#[68]⟩:ByteArray) ((rd_T72 t139 (ji16)).f1)).bind fun t150=>(if t150=true then ((Y3.f kj18 a0_4).bind fun t151=>(if t151=true then (if (a0_4.size:Int)≤16 then (some true) else ((Y0.f kj18 (⟨#[68]⟩:ByteArray) ((rd_T72 t139 (ji16)).f1)).bind fun t152=>(if t152=true then (some false) else (some (a0_4.toList == ([]:List UInt8)))))) else ((Y0.f kj18 (⟨#[68]⟩:ByteArray) ((rd_T72 t139 (ji16)).f1)).bind fun t153=>(if t153=true then (some false) else (some (a0_4.toList == ([]:List UInt8))))))) else ((Y0.f kj18 (⟨#[68]⟩:ByteArray) ((rd_T72 t139 (ji16)).f1)).bind fun t154=>(if t154=true then (some false) else (some (a0_4.toList == ([]:List UInt8))))))) else ((Y0.f kj18 (⟨#[75]⟩:ByteArray) ((rd_T72 t139 (ji16)).f1)).bind fun t155=>(if t155=true then (some false) else (if a0_3.toList=([]:List UInt8) then ((Y0.f kj18 (⟨#[68]⟩:ByteArray) ((rd_T72 t139 (ji16)).f1)).bind fun t156=>(if t156=true then ((Y3.f kj18 a0_4).bind fun t157=>(if t157=true then (if (a0_4.size:Int)≤16 then (some true) else ((Y0.f kj18 (⟨#[68]⟩:ByteArray) ((rd_T72 t139 (ji16)).f1)).bind fun t158=>(if t158=true then (some false) else (some (a0_4.toList == ([]:List UInt8)))))) else ((Y0.f kj18 (⟨#[68]⟩:ByteArray) ((rd_T72 t139 (ji16)).f1)).bind fun t159=>(if t159=true then (some false) else (some (a0_4.toList == ([]:List UInt8))))))) else ((Y0.f kj18 (⟨#[68]⟩:ByteArray) ((rd_T72 t139 (ji16)).f1)).bind fun t160=>(if t160=true then (some false) else (some (a0_4.toList == ([]:List UInt8))))))) else (some false)))))=some r:=H
          have A39:=aM A390
          clear A390
          by_cases c40:t149=true
          ·subst c40
           have H1:((Y0.f kj18 (⟨#[68]⟩:ByteArray) ((rd_T72 t139 (ji16)).f1)).bind fun t150=>(if t150=true then ((Y3.f kj18 a0_4).bind fun t151=>(if t151=true then (if (a0_4.size:Int)≤16 then (some true) else ((Y0.f kj18 (⟨#[68]⟩:ByteArray) ((rd_T72 t139 (ji16)).f1)).bind fun t152=>(if t152=true then (some false) else (some (a0_4.toList == ([]:List UInt8)))))) else ((Y0.f kj18 (⟨#[68]⟩:ByteArray) ((rd_T72 t139 (ji16)).f1)).bind fun t153=>(if t153=true then (some false) else (some (a0_4.toList == ([]:List UInt8))))))) else ((Y0.f kj18 (⟨#[68]⟩:ByteArray) ((rd_T72 t139 (ji16)).f1)).bind fun t154=>(if t154=true then (some false) else (some (a0_4.toList == ([]:List UInt8)))))))=some r:=by rw [if_pos rfl] at H;exact H
           clear H
           have H:=H1
           clear H1
           replace H:=bS H
           obtain ⟨t150,A410,H⟩:=H
           replace H:(if t150=true then ((Y3.f kj18 a0_4).bind fun t151=>(if t151=true then (if (a0_4.size:Int)≤16 then (some true) else ((Y0.f kj18 (⟨#[68]⟩:ByteArray) ((rd_T72 t139 (ji16)).f1)).bind fun t152=>(if t152=true then (some false) else (some (a0_4.toList == ([]:List UInt8)))))) else ((Y0.f kj18 (⟨#[68]⟩:ByteArray) ((rd_T72 t139 (ji16)).f1)).bind fun t153=>(if t153=true then (some false) else (some (a0_4.toList == ([]:List UInt8))))))) else ((Y0.f kj18 (⟨#[68]⟩:ByteArray) ((rd_T72 t139 (ji16)).f1)).bind fun t154=>(if t154=true then (some false) else (some (a0_4.toList == ([]:List UInt8))))))=some r:=H
           have A41:=aM A410
           clear A410
           by_cases c42:t150=true
           ·subst c42
            have H1:((Y3.f kj18 a0_4).bind fun t151=>(if t151=true then (if (a0_4.size:Int)≤16 then (some true) else ((Y0.f kj18 (⟨#[68]⟩:ByteArray) ((rd_T72 t139 (ji16)).f1)).bind fun t152=>(if t152=true then (some false) else (some (a0_4.toList == ([]:List UInt8)))))) else ((Y0.f kj18 (⟨#[68]⟩:ByteArray) ((rd_T72 t139 (ji16)).f1)).bind fun t153=>(if t153=true then (some false) else (some (a0_4.toList == ([]:List UInt8)))))))=some r:=by rw [if_pos rfl] at H;exact H
            clear H
            have H:=H1
            clear H1
            replace H:=bS H
            obtain ⟨t151,A430,H⟩:=H
            replace H:(if t151=true then (if (a0_4.size:Int)≤16 then (some true) else ((Y0.f kj18 (⟨#[68]⟩:ByteArray) ((rd_T72 t139 (ji16)).f1)).bind fun t152=>(if t152=true then (some false) else (some (a0_4.toList == ([]:List UInt8)))))) else ((Y0.f kj18 (⟨#[68]⟩:ByteArray) ((rd_T72 t139 (ji16)).f1)).bind fun t153=>(if t153=true then (some false) else (some (a0_4.toList == ([]:List UInt8))))))=some r:=H
            have A43:=aM A430
            clear A430
            by_cases c44:t151=true
            ·subst c44
             have H1:(if (a0_4.size:Int)≤16 then (some true) else ((Y0.f kj18 (⟨#[68]⟩:ByteArray) ((rd_T72 t139 (ji16)).f1)).bind fun t152=>(if t152=true then (some false) else (some (a0_4.toList == ([]:List UInt8))))))=some r:=by rw [if_pos rfl] at H;exact H
             clear H
             have H:=H1
             clear H1
             by_cases c45:(a0_4.size:Int)≤16
             ·rw [if_pos c45] at H
              have c45b0:decide ((a0_4.size:Int)≤16)=true:=dE c45
              have c45b1:decide (a0_4.size≤16)=true:=dE (by omega)
              clear c45
              obtain rfl:=sI H
              go_wp2_with (first | (go_at_call 53;(with_reducible refine (Y0.calls kj18 (⟨#[75]⟩:ByteArray) gb143 ((rd_T72 t139 (ji16)).f1) true _ ?s1 A37.out).mono ?_);(case s1=>(with_reducible repeat (first | refine blk_drewN ?_ _ | refine blk_drew ?_ | refine blk_alloc ?_ _));exact BK143.out);rintro e w46 ⟨rfl,hb⟩;have n0_:=aM (blkB_ BK135.out hb);have n1_:=aM (blkB_ BK143.out hb);have n2_:=aM (below_step (z4_ HB.out GE135.out GE143.out) hb);clear BK135;clear BK143;clear HB;have BK135:=n0_;have BK143:=n1_;have HB:=n2_;clear n0_ n1_ n2_;(try clear hb);have hnb47:=NB135_143.out;have hnc47:=NB143_135.out;have ⟨hcz48_0,hcz48_1,hcz48_2,hcz48_3,hcz48_4,hcz48_5,hfz48_0,hfz48_1,hfz48_2,hfz48_3,hfz48_4,hfz48_5⟩:=cz6_ BK135.out) | (go_at_call 56;(with_reducible refine (Y3.calls kj18 a0_3 true _ A39.out).mono ?_);rintro e w' ⟨rfl,⟨nd,rfl⟩⟩) | (go_at_call 53;(with_reducible refine (Y0.calls kj18 (⟨#[68]⟩:ByteArray) gb143 ((rd_T72 t139 (ji16)).f1) true _ ?s1 A41.out).mono ?_);(case s1=>(with_reducible repeat (first | refine blk_drewN ?_ _ | refine blk_drew ?_ | refine blk_alloc ?_ _));exact BK143.out);rintro e w49 ⟨rfl,hb⟩;have n0_:=aM (blkB_ BK135.out hb);have n1_:=aM (blkB_ BK143.out hb);have n2_:=aM (below_step (z4_ HB.out GE135.out GE143.out) hb);clear BK135;clear BK143;clear HB;have BK135:=n0_;have BK143:=n1_;have HB:=n2_;clear n0_ n1_ n2_;(try clear hb);have ⟨hcz50_0,hcz50_1,hcz50_2,hcz50_3,hcz50_4,hcz50_5,hfz50_0,hfz50_1,hfz50_2,hfz50_3,hfz50_4,hfz50_5⟩:=cz6_ BK135.out) | (go_at_call 56;(with_reducible refine (Y3.calls kj18 a0_4 true _ A43.out).mono ?_);rintro e w' ⟨rfl,⟨nd,rfl⟩⟩))
              go_ret
              exact ⟨z9_,z4_ HB.out GE135.out GE143.out⟩
             ·rw [if_neg c45] at H
              have c45b0:decide ((a0_4.size:Int)≤16)=false:=dF c45
              have c45b1:decide (a0_4.size≤16)=false:=dF (by omega)
              clear c45
              replace H:=bS H
              obtain ⟨t152,A510,H⟩:=H
              replace H:(if t152=true then (some false) else (some (a0_4.toList == ([]:List UInt8))))=some r:=H
              have A51:=aM A510
              clear A510
              by_cases c52:t152=true
              ·subst c52
               have H1:(some false)=some r:=by rw [if_pos rfl] at H;exact H
               clear H
               have H:=H1
               clear H1
               obtain rfl:=sI H
               go_wp2_with (first | (go_at_call 53;(with_reducible refine (Y0.calls kj18 (⟨#[75]⟩:ByteArray) gb143 ((rd_T72 t139 (ji16)).f1) true _ ?s1 A37.out).mono ?_);(case s1=>(with_reducible repeat (first | refine blk_drewN ?_ _ | refine blk_drew ?_ | refine blk_alloc ?_ _));exact BK143.out);rintro e w53 ⟨rfl,hb⟩;have n0_:=aM (blkB_ BK135.out hb);have n1_:=aM (blkB_ BK143.out hb);have n2_:=aM (below_step (z4_ HB.out GE135.out GE143.out) hb);clear BK135;clear BK143;clear HB;have BK135:=n0_;have BK143:=n1_;have HB:=n2_;clear n0_ n1_ n2_;(try clear hb);have hnb54:=NB135_143.out;have hnc54:=NB143_135.out;have ⟨hcz55_0,hcz55_1,hcz55_2,hcz55_3,hcz55_4,hcz55_5,hfz55_0,hfz55_1,hfz55_2,hfz55_3,hfz55_4,hfz55_5⟩:=cz6_ BK135.out) | (go_at_call 56;(with_reducible refine (Y3.calls kj18 a0_3 true _ A39.out).mono ?_);rintro e w' ⟨rfl,⟨nd,rfl⟩⟩) | (go_at_call 53;(with_reducible refine (Y0.calls kj18 (⟨#[68]⟩:ByteArray) gb143 ((rd_T72 t139 (ji16)).f1) true _ ?s1 A41.out).mono ?_);(case s1=>(with_reducible repeat (first | refine blk_drewN ?_ _ | refine blk_drew ?_ | refine blk_alloc ?_ _));exact BK143.out);rintro e w56 ⟨rfl,hb⟩;have n0_:=aM (blkB_ BK135.out hb);have n1_:=aM (blkB_ BK143.out hb);have n2_:=aM (below_step (z4_ HB.out GE135.out GE143.out) hb);clear BK135;clear BK143;clear HB;have BK135:=n0_;have BK143:=n1_;have HB:=n2_;clear n0_ n1_ n2_;(try clear hb);have ⟨hcz57_0,hcz57_1,hcz57_2,hcz57_3,hcz57_4,hcz57_5,hfz57_0,hfz57_1,hfz57_2,hfz57_3,hfz57_4,hfz57_5⟩:=cz6_ BK135.out) | (go_at_call 56;(with_reducible refine (Y3.calls kj18 a0_4 true _ A43.out).mono ?_);rintro e w' ⟨rfl,⟨nd,rfl⟩⟩))
               go_ret
               exact ⟨z9_,z4_ HB.out GE135.out GE143.out⟩
              ·replace c52:=Bool.eq_false_iff.mpr c52
               subst c52
               exact absurd (Option.some.inj (A41.out.symm.trans A51.out)) (by decide)
            ·replace c44:=Bool.eq_false_iff.mpr c44
             subst c44
             have H1:((Y0.f kj18 (⟨#[68]⟩:ByteArray) ((rd_T72 t139 (ji16)).f1)).bind fun t153=>(if t153=true then (some false) else (some (a0_4.toList == ([]:List UInt8)))))=some r:=by rw [if_neg (show ¬ (false=true) by decide)] at H;exact H
             clear H
             have H:=H1
             clear H1
             replace H:=bS H
             obtain ⟨t153,A660,H⟩:=H
             replace H:(if t153=true then (some false) else (some (a0_4.toList == ([]:List UInt8))))=some r:=H
             have A66:=aM A660
             clear A660
             by_cases c67:t153=true
             ·subst c67
              have H1:(some false)=some r:=by rw [if_pos rfl] at H;exact H
              clear H
              have H:=H1
              clear H1
              obtain rfl:=sI H
              go_wp2_with (first | (go_at_call 53;(with_reducible refine (Y0.calls kj18 (⟨#[75]⟩:ByteArray) gb143 ((rd_T72 t139 (ji16)).f1) true _ ?s1 A37.out).mono ?_);(case s1=>(with_reducible repeat (first | refine blk_drewN ?_ _ | refine blk_drew ?_ | refine blk_alloc ?_ _));exact BK143.out);rintro e w68 ⟨rfl,hb⟩;have n0_:=aM (blkB_ BK135.out hb);have n1_:=aM (blkB_ BK143.out hb);have n2_:=aM (below_step (z4_ HB.out GE135.out GE143.out) hb);clear BK135;clear BK143;clear HB;have BK135:=n0_;have BK143:=n1_;have HB:=n2_;clear n0_ n1_ n2_;(try clear hb);have hnb69:=NB135_143.out;have hnc69:=NB143_135.out;have ⟨hcz70_0,hcz70_1,hcz70_2,hcz70_3,hcz70_4,hcz70_5,hfz70_0,hfz70_1,hfz70_2,hfz70_3,hfz70_4,hfz70_5⟩:=cz6_ BK135.out) | (go_at_call 56;(with_reducible refine (Y3.calls kj18 a0_3 true _ A39.out).mono ?_);rintro e w' ⟨rfl,⟨nd,rfl⟩⟩) | (go_at_call 53;(with_reducible refine (Y0.calls kj18 (⟨#[68]⟩:ByteArray) gb143 ((rd_T72 t139 (ji16)).f1) true _ ?s1 A41.out).mono ?_);(case s1=>(with_reducible repeat (first | refine blk_drewN ?_ _ | refine blk_drew ?_ | refine blk_alloc ?_ _));exact BK143.out);rintro e w71 ⟨rfl,hb⟩;have n0_:=aM (blkB_ BK135.out hb);have n1_:=aM (blkB_ BK143.out hb);have n2_:=aM (below_step (z4_ HB.out GE135.out GE143.out) hb);clear BK135;clear BK143;clear HB;have BK135:=n0_;have BK143:=n1_;have HB:=n2_;clear n0_ n1_ n2_;(try clear hb);have ⟨hcz72_0,hcz72_1,hcz72_2,hcz72_3,hcz72_4,hcz72_5,hfz72_0,hfz72_1,hfz72_2,hfz72_3,hfz72_4,hfz72_5⟩:=cz6_ BK135.out) | (go_at_call 56;(with_reducible refine (Y3.calls kj18 a0_4 false _ A43.out).mono ?_);rintro e w' ⟨rfl,⟨nd,rfl⟩⟩))
              go_ret
              exact ⟨z9_,z4_ HB.out GE135.out GE143.out⟩
             ·replace c67:=Bool.eq_false_iff.mpr c67
              subst c67
              exact absurd (Option.some.inj (A41.out.symm.trans A66.out)) (by decide)
           ·replace c42:=Bool.eq_false_iff.mpr c42
            subst c42
            have H1:((Y0.f kj18 (⟨#[68]⟩:ByteArray) ((rd_T72 t139 (ji16)).f1)).bind fun t154=>(if t154=true then (some false) else (some (a0_4.toList == ([]:List UInt8)))))=some r:=by rw [if_neg (show ¬ (false=true) by decide)] at H;exact H
            clear H
            have H:=H1
            clear H1
            replace H:=bS H
            obtain ⟨t154,A810,H⟩:=H
            replace H:(if t154=true then (some false) else (some (a0_4.toList == ([]:List UInt8))))=some r:=H
            have A81:=aM A810
            clear A810
            by_cases c82:t154=true
            ·subst c82
             exact absurd (Option.some.inj (A81.out.symm.trans A41.out)) (by decide)
            ·replace c82:=Bool.eq_false_iff.mpr c82
             subst c82
             have H1:(some (a0_4.toList == ([]:List UInt8)))=some r:=by rw [if_neg (show ¬ (false=true) by decide)] at H;exact H
             clear H
             have H:=H1
             clear H1
             obtain rfl:=sI H
             go_wp2_with (first | (go_at_call 53;(with_reducible refine (Y0.calls kj18 (⟨#[75]⟩:ByteArray) gb143 ((rd_T72 t139 (ji16)).f1) true _ ?s1 A37.out).mono ?_);(case s1=>(with_reducible repeat (first | refine blk_drewN ?_ _ | refine blk_drew ?_ | refine blk_alloc ?_ _));exact BK143.out);rintro e w88 ⟨rfl,hb⟩;have n0_:=aM (blkB_ BK135.out hb);have n1_:=aM (blkB_ BK143.out hb);have n2_:=aM (below_step (z4_ HB.out GE135.out GE143.out) hb);clear BK135;clear BK143;clear HB;have BK135:=n0_;have BK143:=n1_;have HB:=n2_;clear n0_ n1_ n2_;(try clear hb);have hnb89:=NB135_143.out;have hnc89:=NB143_135.out;have ⟨hcz90_0,hcz90_1,hcz90_2,hcz90_3,hcz90_4,hcz90_5,hfz90_0,hfz90_1,hfz90_2,hfz90_3,hfz90_4,hfz90_5⟩:=cz6_ BK135.out) | (go_at_call 56;(with_reducible refine (Y3.calls kj18 a0_3 true _ A39.out).mono ?_);rintro e w' ⟨rfl,⟨nd,rfl⟩⟩) | (go_at_call 53;(with_reducible refine (Y0.calls kj18 (⟨#[68]⟩:ByteArray) gb143 ((rd_T72 t139 (ji16)).f1) false _ ?s1 A41.out).mono ?_);(case s1=>(with_reducible repeat (first | refine blk_drewN ?_ _ | refine blk_drew ?_ | refine blk_alloc ?_ _));exact BK143.out);rintro e w91 ⟨rfl,hb⟩;have n0_:=aM (blkB_ BK135.out hb);have n1_:=aM (blkB_ BK143.out hb);have n2_:=aM (below_step (z4_ HB.out GE135.out GE143.out) hb);clear BK135;clear BK143;clear HB;have BK135:=n0_;have BK143:=n1_;have HB:=n2_;clear n0_ n1_ n2_;(try clear hb);have ⟨hcz93_0,hcz93_1,hcz93_2,hcz93_3,hcz93_4,hcz93_5,hfz93_0,hfz93_1,hfz93_2,hfz93_3,hfz93_4,hfz93_5⟩:=cz6_ BK135.out))
             go_ret
             exact ⟨z9_,z4_ HB.out GE135.out GE143.out⟩
          ·replace c40:=Bool.eq_false_iff.mpr c40
           subst c40
           have H1:((Y0.f kj18 (⟨#[75]⟩:ByteArray) ((rd_T72 t139 (ji16)).f1)).bind fun t155=>(if t155=true then (some false) else (if a0_3.toList=([]:List UInt8) then ((Y0.f kj18 (⟨#[68]⟩:ByteArray) ((rd_T72 t139 (ji16)).f1)).bind fun t156=>(if t156=true then ((Y3.f kj18 a0_4).bind fun t157=>(if t157=true then (if (a0_4.size:Int)≤16 then (some true) else ((Y0.f kj18 (⟨#[68]⟩:ByteArray) ((rd_T72 t139 (ji16)).f1)).bind fun t158=>(if t158=true then (some false) else (some (a0_4.toList == ([]:List UInt8)))))) else ((Y0.f kj18 (⟨#[68]⟩:ByteArray) ((rd_T72 t139 (ji16)).f1)).bind fun t159=>(if t159=true then (some false) else (some (a0_4.toList == ([]:List UInt8))))))) else ((Y0.f kj18 (⟨#[68]⟩:ByteArray) ((rd_T72 t139 (ji16)).f1)).bind fun t160=>(if t160=true then (some false) else (some (a0_4.toList == ([]:List UInt8))))))) else (some false))))=some r:=by rw [if_neg (show ¬ (false=true) by decide)] at H;exact H
           clear H
           have H:=H1
           clear H1
           replace H:=bS H
           obtain ⟨t155,A940,H⟩:=H
           replace H:(if t155=true then (some false) else (if a0_3.toList=([]:List UInt8) then ((Y0.f kj18 (⟨#[68]⟩:ByteArray) ((rd_T72 t139 (ji16)).f1)).bind fun t156=>(if t156=true then ((Y3.f kj18 a0_4).bind fun t157=>(if t157=true then (if (a0_4.size:Int)≤16 then (some true) else ((Y0.f kj18 (⟨#[68]⟩:ByteArray) ((rd_T72 t139 (ji16)).f1)).bind fun t158=>(if t158=true then (some false) else (some (a0_4.toList == ([]:List UInt8)))))) else ((Y0.f kj18 (⟨#[68]⟩:ByteArray) ((rd_T72 t139 (ji16)).f1)).bind fun t159=>(if t159=true then (some false) else (some (a0_4.toList == ([]:List UInt8))))))) else ((Y0.f kj18 (⟨#[68]⟩:ByteArray) ((rd_T72 t139 (ji16)).f1)).bind fun t160=>(if t160=true then (some false) else (some (a0_4.toList == ([]:List UInt8))))))) else (some false)))=some r:=H
           have A94:=aM A940
           clear A940
           by_cases c95:t155=true
           ·subst c95
            have H1:(some false)=some r:=by rw [if_pos rfl] at H;exact H
            clear H
            have H:=H1
            clear H1
            obtain rfl:=sI H
            go_wp2_with (first | (go_at_call 53;(with_reducible refine (Y0.calls kj18 (⟨#[75]⟩:ByteArray) gb143 ((rd_T72 t139 (ji16)).f1) true _ ?s1 A37.out).mono ?_);(case s1=>(with_reducible repeat (first | refine blk_drewN ?_ _ | refine blk_drew ?_ | refine blk_alloc ?_ _));exact BK143.out);rintro e w96 ⟨rfl,hb⟩;have n0_:=aM (blkB_ BK135.out hb);have n1_:=aM (blkB_ BK143.out hb);have n2_:=aM (below_step (z4_ HB.out GE135.out GE143.out) hb);clear BK135;clear BK143;clear HB;have BK135:=n0_;have BK143:=n1_;have HB:=n2_;clear n0_ n1_ n2_;(try clear hb);have hnb97:=NB135_143.out;have hnc97:=NB143_135.out;have ⟨hcz98_0,hcz98_1,hcz98_2,hcz98_3,hcz98_4,hcz98_5,hfz98_0,hfz98_1,hfz98_2,hfz98_3,hfz98_4,hfz98_5⟩:=cz6_ BK135.out) | (go_at_call 56;(with_reducible refine (Y3.calls kj18 a0_3 false _ A39.out).mono ?_);rintro e w' ⟨rfl,⟨nd,rfl⟩⟩))
            go_ret
            exact ⟨z9_,z4_ HB.out GE135.out GE143.out⟩
           ·replace c95:=Bool.eq_false_iff.mpr c95
            subst c95
            exact absurd (Option.some.inj (A37.out.symm.trans A94.out)) (by decide)
         ·replace c38:=Bool.eq_false_iff.mpr c38
          subst c38
          have H1:((Y0.f kj18 (⟨#[75]⟩:ByteArray) ((rd_T72 t139 (ji16)).f1)).bind fun t161=>(if t161=true then (some false) else (if a0_3.toList=([]:List UInt8) then ((Y0.f kj18 (⟨#[68]⟩:ByteArray) ((rd_T72 t139 (ji16)).f1)).bind fun t162=>(if t162=true then ((Y3.f kj18 a0_4).bind fun t163=>(if t163=true then (if (a0_4.size:Int)≤16 then (some true) else ((Y0.f kj18 (⟨#[68]⟩:ByteArray) ((rd_T72 t139 (ji16)).f1)).bind fun t164=>(if t164=true then (some false) else (some (a0_4.toList == ([]:List UInt8)))))) else ((Y0.f kj18 (⟨#[68]⟩:ByteArray) ((rd_T72 t139 (ji16)).f1)).bind fun t165=>(if t165=true then (some false) else (some (a0_4.toList == ([]:List UInt8))))))) else ((Y0.f kj18 (⟨#[68]⟩:ByteArray) ((rd_T72 t139 (ji16)).f1)).bind fun t166=>(if t166=true then (some false) else (some (a0_4.toList == ([]:List UInt8))))))) else (some false))))=some r:=by rw [if_neg (show ¬ (false=true) by decide)] at H;exact H
          clear H
          have H:=H1
          clear H1
          replace H:=bS H
          obtain ⟨t161,A1730,H⟩:=H
          replace H:(if t161=true then (some false) else (if a0_3.toList=([]:List UInt8) then ((Y0.f kj18 (⟨#[68]⟩:ByteArray) ((rd_T72 t139 (ji16)).f1)).bind fun t162=>(if t162=true then ((Y3.f kj18 a0_4).bind fun t163=>(if t163=true then (if (a0_4.size:Int)≤16 then (some true) else ((Y0.f kj18 (⟨#[68]⟩:ByteArray) ((rd_T72 t139 (ji16)).f1)).bind fun t164=>(if t164=true then (some false) else (some (a0_4.toList == ([]:List UInt8)))))) else ((Y0.f kj18 (⟨#[68]⟩:ByteArray) ((rd_T72 t139 (ji16)).f1)).bind fun t165=>(if t165=true then (some false) else (some (a0_4.toList == ([]:List UInt8))))))) else ((Y0.f kj18 (⟨#[68]⟩:ByteArray) ((rd_T72 t139 (ji16)).f1)).bind fun t166=>(if t166=true then (some false) else (some (a0_4.toList == ([]:List UInt8))))))) else (some false)))=some r:=H
          have A173:=aM A1730
          clear A1730
          by_cases c174:t161=true
          ·subst c174
           exact absurd (Option.some.inj (A173.out.symm.trans A37.out)) (by decide)
          ·replace c174:=Bool.eq_false_iff.mpr c174
           subst c174
           have H1:(if a0_3.toList=([]:List UInt8) then ((Y0.f kj18 (⟨#[68]⟩:ByteArray) ((rd_T72 t139 (ji16)).f1)).bind fun t162=>(if t162=true then ((Y3.f kj18 a0_4).bind fun t163=>(if t163=true then (if (a0_4.size:Int)≤16 then (some true) else ((Y0.f kj18 (⟨#[68]⟩:ByteArray) ((rd_T72 t139 (ji16)).f1)).bind fun t164=>(if t164=true then (some false) else (some (a0_4.toList == ([]:List UInt8)))))) else ((Y0.f kj18 (⟨#[68]⟩:ByteArray) ((rd_T72 t139 (ji16)).f1)).bind fun t165=>(if t165=true then (some false) else (some (a0_4.toList == ([]:List UInt8))))))) else ((Y0.f kj18 (⟨#[68]⟩:ByteArray) ((rd_T72 t139 (ji16)).f1)).bind fun t166=>(if t166=true then (some false) else (some (a0_4.toList == ([]:List UInt8))))))) else (some false))=some r:=by rw [if_neg (show ¬ (false=true) by decide)] at H;exact H
           clear H
           have H:=H1
           clear H1
           by_cases c177:a0_3.toList=([]:List UInt8)
           ·rw [if_pos c177] at H
            have c177b0:(a0_3.toList == ([]:List UInt8))=true:=beq_iff_eq.mpr c177
            have c177b1:(a0_3.toList != ([]:List UInt8))=false:=bne_eq_false_iff_eq.mpr c177
            clear c177
            replace H:=bS H
            obtain ⟨t162,A1780,H⟩:=H
            replace H:(if t162=true then ((Y3.f kj18 a0_4).bind fun t163=>(if t163=true then (if (a0_4.size:Int)≤16 then (some true) else ((Y0.f kj18 (⟨#[68]⟩:ByteArray) ((rd_T72 t139 (ji16)).f1)).bind fun t164=>(if t164=true then (some false) else (some (a0_4.toList == ([]:List UInt8)))))) else ((Y0.f kj18 (⟨#[68]⟩:ByteArray) ((rd_T72 t139 (ji16)).f1)).bind fun t165=>(if t165=true then (some false) else (some (a0_4.toList == ([]:List UInt8))))))) else ((Y0.f kj18 (⟨#[68]⟩:ByteArray) ((rd_T72 t139 (ji16)).f1)).bind fun t166=>(if t166=true then (some false) else (some (a0_4.toList == ([]:List UInt8))))))=some r:=H
            have A178:=aM A1780
            clear A1780
            by_cases c179:t162=true
            ·subst c179
             have H1:((Y3.f kj18 a0_4).bind fun t163=>(if t163=true then (if (a0_4.size:Int)≤16 then (some true) else ((Y0.f kj18 (⟨#[68]⟩:ByteArray) ((rd_T72 t139 (ji16)).f1)).bind fun t164=>(if t164=true then (some false) else (some (a0_4.toList == ([]:List UInt8)))))) else ((Y0.f kj18 (⟨#[68]⟩:ByteArray) ((rd_T72 t139 (ji16)).f1)).bind fun t165=>(if t165=true then (some false) else (some (a0_4.toList == ([]:List UInt8)))))))=some r:=by rw [if_pos rfl] at H;exact H
             clear H
             have H:=H1
             clear H1
             replace H:=bS H
             obtain ⟨t163,A1800,H⟩:=H
             replace H:(if t163=true then (if (a0_4.size:Int)≤16 then (some true) else ((Y0.f kj18 (⟨#[68]⟩:ByteArray) ((rd_T72 t139 (ji16)).f1)).bind fun t164=>(if t164=true then (some false) else (some (a0_4.toList == ([]:List UInt8)))))) else ((Y0.f kj18 (⟨#[68]⟩:ByteArray) ((rd_T72 t139 (ji16)).f1)).bind fun t165=>(if t165=true then (some false) else (some (a0_4.toList == ([]:List UInt8))))))=some r:=H
             have A180:=aM A1800
             clear A1800
             by_cases c181:t163=true
             ·subst c181
              have H1:(if (a0_4.size:Int)≤16 then (some true) else ((Y0.f kj18 (⟨#[68]⟩:ByteArray) ((rd_T72 t139 (ji16)).f1)).bind fun t164=>(if t164=true then (some false) else (some (a0_4.toList == ([]:List UInt8))))))=some r:=by rw [if_pos rfl] at H;exact H
              clear H
              have H:=H1
              clear H1
              by_cases c182:(a0_4.size:Int)≤16
              ·rw [if_pos c182] at H
               have c182b0:decide ((a0_4.size:Int)≤16)=true:=dE c182
               have c182b1:decide (a0_4.size≤16)=true:=dE (by omega)
               clear c182
               obtain rfl:=sI H
               go_wp2_with (first | (go_at_call 53;(with_reducible refine (Y0.calls kj18 (⟨#[75]⟩:ByteArray) gb143 ((rd_T72 t139 (ji16)).f1) false _ ?s1 A37.out).mono ?_);(case s1=>(with_reducible repeat (first | refine blk_drewN ?_ _ | refine blk_drew ?_ | refine blk_alloc ?_ _));exact BK143.out);rintro e w183 ⟨rfl,hb⟩;have n0_:=aM (blkB_ BK135.out hb);have n1_:=aM (blkB_ BK143.out hb);have n2_:=aM (below_step (z4_ HB.out GE135.out GE143.out) hb);clear BK135;clear BK143;clear HB;have BK135:=n0_;have BK143:=n1_;have HB:=n2_;clear n0_ n1_ n2_;(try clear hb);have hnb185:=NB135_143.out;have hnc185:=NB143_135.out;have ⟨hcz186_0,hcz186_1,hcz186_2,hcz186_3,hcz186_4,hcz186_5,hfz186_0,hfz186_1,hfz186_2,hfz186_3,hfz186_4,hfz186_5⟩:=cz6_ BK135.out) | (go_at_call 53;(with_reducible refine (Y0.calls kj18 (⟨#[68]⟩:ByteArray) gb143 ((rd_T72 t139 (ji16)).f1) true _ ?s1 A178.out).mono ?_);(case s1=>(with_reducible repeat (first | refine blk_drewN ?_ _ | refine blk_drew ?_ | refine blk_alloc ?_ _));exact BK143.out);rintro e w187 ⟨rfl,hb⟩;have n0_:=aM (blkB_ BK135.out hb);have n1_:=aM (blkB_ BK143.out hb);have n2_:=aM (below_step (z4_ HB.out GE135.out GE143.out) hb);clear BK135;clear BK143;clear HB;have BK135:=n0_;have BK143:=n1_;have HB:=n2_;clear n0_ n1_ n2_;(try clear hb);have ⟨hcz188_0,hcz188_1,hcz188_2,hcz188_3,hcz188_4,hcz188_5,hfz188_0,hfz188_1,hfz188_2,hfz188_3,hfz188_4,hfz188_5⟩:=cz6_ BK135.out) | (go_at_call 56;(with_reducible refine (Y3.calls kj18 a0_4 true _ A180.out).mono ?_);rintro e w' ⟨rfl,⟨nd,rfl⟩⟩))
               go_ret
               exact ⟨z9_,z4_ HB.out GE135.out GE143.out⟩
              ·rw [if_neg c182] at H
               have c182b0:decide ((a0_4.size:Int)≤16)=false:=dF c182
               have c182b1:decide (a0_4.size≤16)=false:=dF (by omega)
               clear c182
               replace H:=bS H
               obtain ⟨t164,A1890,H⟩:=H
               replace H:(if t164=true then (some false) else (some (a0_4.toList == ([]:List UInt8))))=some r:=H
               have A189:=aM A1890
               clear A1890
               by_cases c190:t164=true
               ·subst c190
                have H1:(some false)=some r:=by rw [if_pos rfl] at H;exact H
                clear H
                have H:=H1
                clear H1
                obtain rfl:=sI H
                go_wp2_with (first | (go_at_call 53;(with_reducible refine (Y0.calls kj18 (⟨#[75]⟩:ByteArray) gb143 ((rd_T72 t139 (ji16)).f1) false _ ?s1 A37.out).mono ?_);(case s1=>(with_reducible repeat (first | refine blk_drewN ?_ _ | refine blk_drew ?_ | refine blk_alloc ?_ _));exact BK143.out);rintro e w191 ⟨rfl,hb⟩;have n0_:=aM (blkB_ BK135.out hb);have n1_:=aM (blkB_ BK143.out hb);have n2_:=aM (below_step (z4_ HB.out GE135.out GE143.out) hb);clear BK135;clear BK143;clear HB;have BK135:=n0_;have BK143:=n1_;have HB:=n2_;clear n0_ n1_ n2_;(try clear hb);have hnb193:=NB135_143.out;have hnc193:=NB143_135.out;have ⟨hcz194_0,hcz194_1,hcz194_2,hcz194_3,hcz194_4,hcz194_5,hfz194_0,hfz194_1,hfz194_2,hfz194_3,hfz194_4,hfz194_5⟩:=cz6_ BK135.out) | (go_at_call 53;(with_reducible refine (Y0.calls kj18 (⟨#[68]⟩:ByteArray) gb143 ((rd_T72 t139 (ji16)).f1) true _ ?s1 A178.out).mono ?_);(case s1=>(with_reducible repeat (first | refine blk_drewN ?_ _ | refine blk_drew ?_ | refine blk_alloc ?_ _));exact BK143.out);rintro e w195 ⟨rfl,hb⟩;have n0_:=aM (blkB_ BK135.out hb);have n1_:=aM (blkB_ BK143.out hb);have n2_:=aM (below_step (z4_ HB.out GE135.out GE143.out) hb);clear BK135;clear BK143;clear HB;have BK135:=n0_;have BK143:=n1_;have HB:=n2_;clear n0_ n1_ n2_;(try clear hb);have ⟨hcz196_0,hcz196_1,hcz196_2,hcz196_3,hcz196_4,hcz196_5,hfz196_0,hfz196_1,hfz196_2,hfz196_3,hfz196_4,hfz196_5⟩:=cz6_ BK135.out) | (go_at_call 56;(with_reducible refine (Y3.calls kj18 a0_4 true _ A180.out).mono ?_);rintro e w' ⟨rfl,⟨nd,rfl⟩⟩))
                go_ret
                exact ⟨z9_,z4_ HB.out GE135.out GE143.out⟩
               ·replace c190:=Bool.eq_false_iff.mpr c190
                subst c190
                exact absurd (Option.some.inj (A178.out.symm.trans A189.out)) (by decide)
             ·replace c181:=Bool.eq_false_iff.mpr c181
              subst c181
              have H1:((Y0.f kj18 (⟨#[68]⟩:ByteArray) ((rd_T72 t139 (ji16)).f1)).bind fun t165=>(if t165=true then (some false) else (some (a0_4.toList == ([]:List UInt8)))))=some r:=by rw [if_neg (show ¬ (false=true) by decide)] at H;exact H
              clear H
              have H:=H1
              clear H1
              replace H:=bS H
              obtain ⟨t165,A2060,H⟩:=H
              replace H:(if t165=true then (some false) else (some (a0_4.toList == ([]:List UInt8))))=some r:=H
              have A206:=aM A2060
              clear A2060
              by_cases c207:t165=true
              ·subst c207
               have H1:(some false)=some r:=by rw [if_pos rfl] at H;exact H
               clear H
               have H:=H1
               clear H1
               obtain rfl:=sI H
               go_wp2_with (first | (go_at_call 53;(with_reducible refine (Y0.calls kj18 (⟨#[75]⟩:ByteArray) gb143 ((rd_T72 t139 (ji16)).f1) false _ ?s1 A37.out).mono ?_);(case s1=>(with_reducible repeat (first | refine blk_drewN ?_ _ | refine blk_drew ?_ | refine blk_alloc ?_ _));exact BK143.out);rintro e w208 ⟨rfl,hb⟩;have n0_:=aM (blkB_ BK135.out hb);have n1_:=aM (blkB_ BK143.out hb);have n2_:=aM (below_step (z4_ HB.out GE135.out GE143.out) hb);clear BK135;clear BK143;clear HB;have BK135:=n0_;have BK143:=n1_;have HB:=n2_;clear n0_ n1_ n2_;(try clear hb);have hnb210:=NB135_143.out;have hnc210:=NB143_135.out;have ⟨hcz211_0,hcz211_1,hcz211_2,hcz211_3,hcz211_4,hcz211_5,hfz211_0,hfz211_1,hfz211_2,hfz211_3,hfz211_4,hfz211_5⟩:=cz6_ BK135.out) | (go_at_call 53;(with_reducible refine (Y0.calls kj18 (⟨#[68]⟩:ByteArray) gb143 ((rd_T72 t139 (ji16)).f1) true _ ?s1 A178.out).mono ?_);(case s1=>(with_reducible repeat (first | refine blk_drewN ?_ _ | refine blk_drew ?_ | refine blk_alloc ?_ _));exact BK143.out);rintro e w212 ⟨rfl,hb⟩;have n0_:=aM (blkB_ BK135.out hb);have n1_:=aM (blkB_ BK143.out hb);have n2_:=aM (below_step (z4_ HB.out GE135.out GE143.out) hb);clear BK135;clear BK143;clear HB;have BK135:=n0_;have BK143:=n1_;have HB:=n2_;clear n0_ n1_ n2_;(try clear hb);have ⟨hcz213_0,hcz213_1,hcz213_2,hcz213_3,hcz213_4,hcz213_5,hfz213_0,hfz213_1,hfz213_2,hfz213_3,hfz213_4,hfz213_5⟩:=cz6_ BK135.out) | (go_at_call 56;(with_reducible refine (Y3.calls kj18 a0_4 false _ A180.out).mono ?_);rintro e w' ⟨rfl,⟨nd,rfl⟩⟩))
               go_ret
               exact ⟨z9_,z4_ HB.out GE135.out GE143.out⟩
              ·replace c207:=Bool.eq_false_iff.mpr c207
               subst c207
               exact absurd (Option.some.inj (A178.out.symm.trans A206.out)) (by decide)
            ·replace c179:=Bool.eq_false_iff.mpr c179
             subst c179
             have H1:((Y0.f kj18 (⟨#[68]⟩:ByteArray) ((rd_T72 t139 (ji16)).f1)).bind fun t166=>(if t166=true then (some false) else (some (a0_4.toList == ([]:List UInt8)))))=some r:=by rw [if_neg (show ¬ (false=true) by decide)] at H;exact H
             clear H
             have H:=H1
             clear H1
             replace H:=bS H
             obtain ⟨t166,A2230,H⟩:=H
             replace H:(if t166=true then (some false) else (some (a0_4.toList == ([]:List UInt8))))=some r:=H
             have A223:=aM A2230
             clear A2230
             by_cases c224:t166=true
             ·subst c224
              exact absurd (Option.some.inj (A223.out.symm.trans A178.out)) (by decide)
             ·replace c224:=Bool.eq_false_iff.mpr c224
              subst c224
              have H1:(some (a0_4.toList == ([]:List UInt8)))=some r:=by rw [if_neg (show ¬ (false=true) by decide)] at H;exact H
              clear H
              have H:=H1
              clear H1
              obtain rfl:=sI H
              go_wp2_with (first | (go_at_call 53;(with_reducible refine (Y0.calls kj18 (⟨#[75]⟩:ByteArray) gb143 ((rd_T72 t139 (ji16)).f1) false _ ?s1 A37.out).mono ?_);(case s1=>(with_reducible repeat (first | refine blk_drewN ?_ _ | refine blk_drew ?_ | refine blk_alloc ?_ _));exact BK143.out);rintro e w231 ⟨rfl,hb⟩;have n0_:=aM (blkB_ BK135.out hb);have n1_:=aM (blkB_ BK143.out hb);have n2_:=aM (below_step (z4_ HB.out GE135.out GE143.out) hb);clear BK135;clear BK143;clear HB;have BK135:=n0_;have BK143:=n1_;have HB:=n2_;clear n0_ n1_ n2_;(try clear hb);have hnb233:=NB135_143.out;have hnc233:=NB143_135.out;have ⟨hcz234_0,hcz234_1,hcz234_2,hcz234_3,hcz234_4,hcz234_5,hfz234_0,hfz234_1,hfz234_2,hfz234_3,hfz234_4,hfz234_5⟩:=cz6_ BK135.out) | (go_at_call 53;(with_reducible refine (Y0.calls kj18 (⟨#[68]⟩:ByteArray) gb143 ((rd_T72 t139 (ji16)).f1) false _ ?s1 A178.out).mono ?_);(case s1=>(with_reducible repeat (first | refine blk_drewN ?_ _ | refine blk_drew ?_ | refine blk_alloc ?_ _));exact BK143.out);rintro e w235 ⟨rfl,hb⟩;have n0_:=aM (blkB_ BK135.out hb);have n1_:=aM (blkB_ BK143.out hb);have n2_:=aM (below_step (z4_ HB.out GE135.out GE143.out) hb);clear BK135;clear BK143;clear HB;have BK135:=n0_;have BK143:=n1_;have HB:=n2_;clear n0_ n1_ n2_;(try clear hb);have ⟨hcz237_0,hcz237_1,hcz237_2,hcz237_3,hcz237_4,hcz237_5,hfz237_0,hfz237_1,hfz237_2,hfz237_3,hfz237_4,hfz237_5⟩:=cz6_ BK135.out))
              go_ret
              exact ⟨z9_,z4_ HB.out GE135.out GE143.out⟩
           ·rw [if_neg c177] at H
            have c177b0:(a0_3.toList == ([]:List UInt8))=false:=beq_eq_false_iff_ne.mpr c177
            have c177b1:(a0_3.toList != ([]:List UInt8))=true:=bne_iff_ne.mpr c177
            obtain rfl:=sI H
            go_wp2_with (first | (go_at_call 53;(with_reducible refine (Y0.calls kj18 (⟨#[75]⟩:ByteArray) gb143 ((rd_T72 t139 (ji16)).f1) false _ ?s1 A37.out).mono ?_);(case s1=>(with_reducible repeat (first | refine blk_drewN ?_ _ | refine blk_drew ?_ | refine blk_alloc ?_ _));exact BK143.out);rintro e w238 ⟨rfl,hb⟩;have n0_:=aM (blkB_ BK135.out hb);have n1_:=aM (blkB_ BK143.out hb);have n2_:=aM (below_step (z4_ HB.out GE135.out GE143.out) hb);clear BK135;clear BK143;clear HB;have BK135:=n0_;have BK143:=n1_;have HB:=n2_;clear n0_ n1_ n2_;(try clear hb);have hnb240:=NB135_143.out;have hnc240:=NB143_135.out;have ⟨hcz241_0,hcz241_1,hcz241_2,hcz241_3,hcz241_4,hcz241_5,hfz241_0,hfz241_1,hfz241_2,hfz241_3,hfz241_4,hfz241_5⟩:=cz6_ BK135.out))
            go_ret
            exact ⟨z9_,z4_ HB.out GE135.out GE143.out⟩
     ·rw [if_neg c18] at H
      exact nO H
    ·rw [if_neg c17] at H
     exact nO H


/-! ### Y17: function 3 -/
def Y17.f (k:Nat) (a0_0:Int) (a0_1:Int) (a0_2:Int) (a0_3:ByteArray) (a0_4:ByteArray) (a0_5:Int):Option (Bool):=(Y40.f a0_0 a0_1 a0_2 a0_3 a0_4 a0_5 1048576).bind fun t168=>(if t168<0 then (some true) else ((Y35.f a0_0 a0_1 a0_2 a0_3 a0_4 a0_5).bind fun bt169=>((Y2.f k bt169.1 bt169.2.1 bt169.2.2.1 bt169.2.2.2.1 bt169.2.2.2.2.1 bt169.2.2.2.2.2).bind fun t175=>((Y35.f a0_0 a0_1 a0_2 a0_3 a0_4 a0_5).bind fun bt176=>((Y1.f k bt176.1 bt176.2.1 bt176.2.2.1 bt176.2.2.2.1 bt176.2.2.2.2.1 bt176.2.2.2.2.2).bind fun t182=>(if (t182 != t175)=true then (none) else (some true)))))))
theorem Y17.mono:∀ a0 a1 a2 a3 a4 a5 k,LeO (Y17.f k a0 a1 a2 a3 a4 a5) (Y17.f (k+1) a0 a1 a2 a3 a4 a5):=by
 intro a0 a1 a2 a3 a4 a5 k
 have m0:=@Y1.mono
 have m1:=@Y2.mono
 unfold Y17.f
 exact mO
theorem Y17.calls (k:Nat) (a0_0:Int) (a0_1:Int) (a0_2:Int) (a0_3:ByteArray) (a0_4:ByteArray) (a0_5:Int) (r:Bool) (w:World) (h:Y17.f k a0_0 a0_1 a0_2 a0_3 a0_4 a0_5=some r) :
  Calls Try.prog 3 #[.agg #[.int .i64 a0_0,.int .i64 a0_1,.int .i64 a0_2,.string a0_3,.string a0_4,.int .i64 a0_5]] w fun e w'=>e = .returned (.bool r)∧Below w.heap.size w w':=by
 have hu23:=Try.underlying23
 have HB:=aM (Below.refl w.heap.size w)
 have H:((Y40.f a0_0 a0_1 a0_2 a0_3 a0_4 a0_5 1048576).bind fun t168=>(if t168<0 then (some true) else ((Y35.f a0_0 a0_1 a0_2 a0_3 a0_4 a0_5).bind fun bt169=>((Y2.f k bt169.1 bt169.2.1 bt169.2.2.1 bt169.2.2.2.1 bt169.2.2.2.2.1 bt169.2.2.2.2.2).bind fun t175=>((Y35.f a0_0 a0_1 a0_2 a0_3 a0_4 a0_5).bind fun bt176=>((Y1.f k bt176.1 bt176.2.1 bt176.2.2.1 bt176.2.2.2.1 bt176.2.2.2.2.1 bt176.2.2.2.2.2).bind fun t182=>(if (t182 != t175)=true then (none) else (some true))))))))=some r:=h
 clear h
 replace H:=bS H
 obtain ⟨t168,A20,H⟩:=H
 replace H:(if t168<0 then (some true) else ((Y35.f a0_0 a0_1 a0_2 a0_3 a0_4 a0_5).bind fun bt169=>((Y2.f k bt169.1 bt169.2.1 bt169.2.2.1 bt169.2.2.2.1 bt169.2.2.2.2.1 bt169.2.2.2.2.2).bind fun t175=>((Y35.f a0_0 a0_1 a0_2 a0_3 a0_4 a0_5).bind fun bt176=>((Y1.f k bt176.1 bt176.2.1 bt176.2.2.1 bt176.2.2.2.1 bt176.2.2.2.2.1 bt176.2.2.2.2.2).bind fun t182=>(if (t182 != t175)=true then (none) else (some true)))))))=some r:=H
 have A2:=aM A20
 clear A20
 by_cases c3:t168<0
 ·rw [if_pos c3] at H
  have c3b0:decide (t168<0)=true:=dE c3
  clear c3
  obtain rfl:=sI H
  go_enter Try.func3,Try.ntmps3
  go_wp2_with (first | ((with_reducible refine gd_ 1 ?_);refine be_ 1 #[.int .i64 a0_0,.int .i64 a0_1,.int .i64 a0_2,.string a0_3,.string a0_4,.int .i64 a0_5] 23 ?_;intro gb167 hg w4 hbox hb;have n0_:=aM (below_step (z7_ HB.out) hb);have n1_:=aM (hbox);have n2_:=aM ((z8_ HB.out:w.heap.size≤gb167));have n3_:=aM ((z8_ HB.out:w.heap.size≤gb167));clear HB;have HB:=n0_;have BK167:=n1_;have GW167:=n2_;have GE167:=n3_;clear n0_ n1_ n2_ n3_;clear hb hbox hg;have ⟨hcz5_0,hcz5_1,hcz5_2,hcz5_3,hcz5_4,hcz5_5,hfz5_0,hfz5_1,hfz5_2,hfz5_3,hfz5_4,hfz5_5⟩:=cz6_ BK167.out) | ((with_reducible refine gc_ 6 ?_);refine gl_ (some 8) Try.func6 #[.agg #[.int .i64 a0_0,.int .i64 a0_1,.int .i64 a0_2,.string a0_3,.string a0_4,.int .i64 a0_5],.int .i64 1048576] ?_;(with_reducible refine (Y40.calls a0_0 a0_1 a0_2 a0_3 a0_4 a0_5 1048576 t168 _ A2.out).mono ?_);rintro e w6 ⟨rfl,hb⟩;refine ⟨_,rfl,?_⟩;have n0_:=aM (blkB_ BK167.out hb);have n1_:=aM (below_step (z3_ HB.out GE167.out) hb);clear BK167;clear HB;have BK167:=n0_;have HB:=n1_;clear n0_ n1_;(try clear hb)))
  go_ret
  exact ⟨z6_,z3_ HB.out GE167.out⟩
 ·rw [if_neg c3] at H
  have c3b0:decide (t168<0)=false:=dF c3
  clear c3
  replace H:=bS H
  obtain ⟨⟨t169,t170,t171,t172,t173,t174⟩,A70,H⟩:=H
  replace H:((Y2.f k t169 t170 t171 t172 t173 t174).bind fun t175=>((Y35.f a0_0 a0_1 a0_2 a0_3 a0_4 a0_5).bind fun bt176=>((Y1.f k bt176.1 bt176.2.1 bt176.2.2.1 bt176.2.2.2.1 bt176.2.2.2.2.1 bt176.2.2.2.2.2).bind fun t182=>(if (t182 != t175)=true then (none) else (some true)))))=some r:=H
  have A7:=aM A70
  clear A70
  replace H:=bS H
  obtain ⟨t175,A80,H⟩:=H
  replace H:((Y35.f a0_0 a0_1 a0_2 a0_3 a0_4 a0_5).bind fun bt176=>((Y1.f k bt176.1 bt176.2.1 bt176.2.2.1 bt176.2.2.2.1 bt176.2.2.2.2.1 bt176.2.2.2.2.2).bind fun t182=>(if (t182 != t175)=true then (none) else (some true))))=some r:=H
  have A8:=aM A80
  clear A80
  replace H:=bS H
  obtain ⟨⟨t176,t177,t178,t179,t180,t181⟩,A90,H⟩:=H
  replace H:((Y1.f k t176 t177 t178 t179 t180 t181).bind fun t182=>(if (t182 != t175)=true then (none) else (some true)))=some r:=H
  have A9:=aM A90
  clear A90
  replace H:=bS H
  obtain ⟨t182,A100,H⟩:=H
  replace H:(if (t182 != t175)=true then (none) else (some true))=some r:=H
  have A10:=aM A100
  clear A100
  by_cases c11:(t182 != t175)=true
  ·rw [if_pos c11] at H
   exact nO H
  ·rw [if_neg c11] at H
   have c11b0:(t182 != t175)=false:=by simpa using c11
   (try (have c11b1:decide (t182=t175)=true:=by simpa using c11))
   (try (have c11b2:(t182 == t175)=true:=by simpa using c11))
   clear c11
   obtain rfl:=sI H
   go_enter Try.func3,Try.ntmps3
   go_wp2_with (first | ((with_reducible refine gd_ 1 ?_);refine be_ 1 #[.int .i64 a0_0,.int .i64 a0_1,.int .i64 a0_2,.string a0_3,.string a0_4,.int .i64 a0_5] 23 ?_;intro gb167 hg w12 hbox hb;have n0_:=aM (below_step (z7_ HB.out) hb);have n1_:=aM (hbox);have n2_:=aM ((z8_ HB.out:w.heap.size≤gb167));have n3_:=aM ((z8_ HB.out:w.heap.size≤gb167));clear HB;have HB:=n0_;have BK167:=n1_;have GW167:=n2_;have GE167:=n3_;clear n0_ n1_ n2_ n3_;clear hb hbox hg;have ⟨hcz13_0,hcz13_1,hcz13_2,hcz13_3,hcz13_4,hcz13_5,hfz13_0,hfz13_1,hfz13_2,hfz13_3,hfz13_4,hfz13_5⟩:=cz6_ BK167.out) | ((with_reducible refine gc_ 6 ?_);refine gl_ (some 8) Try.func6 #[.agg #[.int .i64 a0_0,.int .i64 a0_1,.int .i64 a0_2,.string a0_3,.string a0_4,.int .i64 a0_5],.int .i64 1048576] ?_;(with_reducible refine (Y40.calls a0_0 a0_1 a0_2 a0_3 a0_4 a0_5 1048576 t168 _ A2.out).mono ?_);rintro e w14 ⟨rfl,hb⟩;refine ⟨_,rfl,?_⟩;have n0_:=aM (blkB_ BK167.out hb);have n1_:=aM (below_step (z3_ HB.out GE167.out) hb);clear BK167;clear HB;have BK167:=n0_;have HB:=n1_;clear n0_ n1_;(try clear hb);have ⟨hcz15_0,hcz15_1,hcz15_2,hcz15_3,hcz15_4,hcz15_5,hfz15_0,hfz15_1,hfz15_2,hfz15_3,hfz15_4,hfz15_5⟩:=cz6_ BK167.out) | ((with_reducible refine gc_ 8 ?_);refine gl_ (some 12) Try.func8 #[.agg #[.int .i64 a0_0,.int .i64 a0_1,.int .i64 a0_2,.string a0_3,.string a0_4,.int .i64 a0_5]] ?_;(with_reducible refine (Y35.calls a0_0 a0_1 a0_2 a0_3 a0_4 a0_5 t169 t170 t171 t172 t173 t174 _ A7.out).mono ?_);rintro e w16 ⟨rfl,hb⟩;refine ⟨_,rfl,?_⟩;have n0_:=aM (blkB_ BK167.out hb);have n1_:=aM (below_step (z3_ HB.out GE167.out) hb);clear BK167;clear HB;have BK167:=n0_;have HB:=n1_;clear n0_ n1_;(try clear hb)) | ((with_reducible refine gc_ 7 ?_);refine gl_ (some 13) Try.func7 #[.agg #[.int .i64 t169,.int .i64 t170,.int .i64 t171,.string t172,.string t173,.int .i64 t174]] ?_;(with_reducible refine (Y2.calls k t169 t170 t171 t172 t173 t174 t175 _ A8.out).mono ?_);rintro e w17 ⟨rfl,hb⟩;refine ⟨_,rfl,?_⟩;have n0_:=aM (blkB_ BK167.out hb);have n1_:=aM (below_step (z3_ HB.out GE167.out) hb);clear BK167;clear HB;have BK167:=n0_;have HB:=n1_;clear n0_ n1_;(try clear hb);have ⟨hcz18_0,hcz18_1,hcz18_2,hcz18_3,hcz18_4,hcz18_5,hfz18_0,hfz18_1,hfz18_2,hfz18_3,hfz18_4,hfz18_5⟩:=cz6_ BK167.out) | ((with_reducible refine gc_ 8 ?_);refine gl_ (some 15) Try.func8 #[.agg #[.int .i64 a0_0,.int .i64 a0_1,.int .i64 a0_2,.string a0_3,.string a0_4,.int .i64 a0_5]] ?_;(with_reducible refine (Y35.calls a0_0 a0_1 a0_2 a0_3 a0_4 a0_5 t176 t177 t178 t179 t180 t181 _ A9.out).mono ?_);rintro e w19 ⟨rfl,hb⟩;refine ⟨_,rfl,?_⟩;have n0_:=aM (blkB_ BK167.out hb);have n1_:=aM (below_step (z3_ HB.out GE167.out) hb);clear BK167;clear HB;have BK167:=n0_;have HB:=n1_;clear n0_ n1_;(try clear hb)) | ((with_reducible refine gc_ 9 ?_);refine gl_ (some 16) Try.func9 #[.agg #[.int .i64 t176,.int .i64 t177,.int .i64 t178,.string t179,.string t180,.int .i64 t181]] ?_;(with_reducible refine (Y1.calls k t176 t177 t178 t179 t180 t181 t182 _ A10.out).mono ?_);rintro e w20 ⟨rfl,hb⟩;refine ⟨_,rfl,?_⟩;have n0_:=aM (blkB_ BK167.out hb);have n1_:=aM (below_step (z3_ HB.out GE167.out) hb);clear BK167;clear HB;have BK167:=n0_;have HB:=n1_;clear n0_ n1_;(try clear hb)))
   go_ret
   exact ⟨z6_,z3_ HB.out GE167.out⟩

end Go.Proofs.Ytmefchanjoadfaa.P

namespace Go.Proofs.Ytmefchanjoadfaa.P
open Go.RowKit Go.Proofs.Ytmefchanjoadfaa.RO
def Y17.Pure:Prop:=∀ (x0:S23),wfT23 x0→∃ k,Y17.f k x0.f0 x0.f1 x0.f2 x0.f3 x0.f4 x0.f5=some true
end Go.Proofs.Ytmefchanjoadfaa.P

namespace Go.Proofs.Ytmefchanjoadfaa.Q
open Go.RowKit Go.Proofs.YtmefchanjoadfaaW.PrintWords Go.Proofs.YtmefchanjoadfaaW.PrintMore

theorem w64 {x:Int} (h0 : -9223372036854775808≤x) (h1:x≤9223372036854775807):wrap64 x=x:=by unfold wrap64;omega
theorem evIte {α:Type} {c:Prop} [Decidable c] {f g:Nat→Option α} {r:α} (h:c→Ev f r) (h':¬ c→Ev g r):Ev (fun k=>if c then f k else g k) r:=by
  by_cases hc:c
  · simp only [if_pos hc];exact h hc
  · simp only [if_neg hc];exact h' hc
theorem evPos {α:Type} {c:Prop} [Decidable c] {f g:Nat→Option α} {r:α} (hc:c) (h:Ev f r):Ev (fun k=>if c then f k else g k) r:=by
  simp only [if_pos hc];exact h
theorem evNeg {α:Type} {c:Prop} [Decidable c] {f g:Nat→Option α} {r:α} (hc:¬ c) (h:Ev g r):Ev (fun k=>if c then f k else g k) r:=by
  simp only [if_neg hc];exact h
theorem evBind1 {α β:Type} {g:Option α} {f:Nat→α→Option β} {a:α} {r:β} (h:g=some a) (k:Ev (fun n=>f n a) r):Ev (fun n=>g.bind (f n)) r:=by
  subst h;exact k
theorem dropCons {α:Type} {l:List α} {i:Nat} {a:α} {s:List α} (h:l.drop i=a :: s) (d:α):i<l.length∧l.getD i d=a∧l.drop (i+1)=s:=by
  have hl:i<l.length:=by
    have:=congrArg List.length h
    simp at this;omega
  rw [List.drop_eq_getElem_cons hl] at h
  injection h with h1 h2
  exact ⟨hl,by rw [List.getD_eq_getElem?_getD,List.getElem?_eq_getElem hl];exact h1,h2⟩
theorem dropNil {α:Type} {l:List α} {i:Nat} (h:l.drop i=[]):l.length≤i:=by
  have:=congrArg List.length h
  simp at this;omega
end Go.Proofs.Ytmefchanjoadfaa.Q

namespace Go.Proofs.Ytmefchanjoadfaa.P
open Go.RowKit Go.Proofs.YtmefchanjoadfaaW.PrintWords Go.Proofs.YtmefchanjoadfaaW.PrintLast Go.Proofs.YtmefchanjoadfaaW.PrintMore
attribute [local go_sem] max2_int min2_int max_two min_two max_three min_three max_four min_four   -- for this text's walks alone
set_option linter.unusedVariables false
set_option linter.unusedSimpArgs false

/-! ### Y52: function 118 -/
def Y52.f (a0:Int):Option (Int):=if a0<0 then (some (IntKind.u64.wrap ((IntKind.u64.wrap (2*(IntKind.u64.wrap (wrap64 (-(wrap64 (a0+1)))))))+1))) else (some (IntKind.u64.wrap (2*(IntKind.u64.wrap (a0)))))

/-! ### Y24: function 106 -/
def Y24.l0:Nat→Int→List Int→Option (ByteArray)
 | 0,_,_=>none
 | k+1,x3,x4=>if x3≥128 then (if x4.length<140737488355328 then (Y24.l0 k (IntKind.u64.wrap (Int.tdiv x3 128)) (x4 ++ [(IntKind.u64.wrap ((Int.tmod x3 128)+128)) % 256])) else (none)) else (if x4.length<140737488355328 then (some (strOfNums (x4 ++ [(x3) % 256]))) else (none))
def Y24.f (k:Nat) (a0:Int):Option (ByteArray):=(Y52.f a0).bind fun t525=>(Y24.l0 k t525 (([]:List Int)))
theorem Y24.mono_l:∀ k,(∀ y0 y1,LeO (Y24.l0 k y0 y1) (Y24.l0 (k+1) y0 y1))
 | 0=>by intros <;> exact LeO.none _
 | k+1=>by
  have ih0:=Y24.mono_l k
  ·intros
   unfold Y24.l0
   exact mO
theorem Y24.mono:∀ a0 k,LeO (Y24.f k a0) (Y24.f (k+1) a0):=by
 intro a0 k
 have ih0:=Y24.mono_l k
 unfold Y24.f
 exact mO

/-! ### Y25: function 99 -/
def Y25.l0:Nat→Int→List Int→Option (ByteArray)
 | 0,_,_=>none
 | k+1,x3,x4=>if x3≥128 then (if x4.length<140737488355328 then (Y25.l0 k (x3 / 128) (x4 ++ [Go.bits .or .u8 ((Go.bits .and .u64 x3 127) % 256) 128])) else (none)) else (if x4.length<140737488355328 then (some (strOfNums (x4 ++ [(x3) % 256]))) else (none))
def Y25.f (k:Nat) (a0:Int):Option (ByteArray):=Y25.l0 k (Go.bits .xor .u64 (IntKind.u64.wrap ((IntKind.u64.wrap (a0))*2)) (IntKind.u64.wrap (a0 / 9223372036854775808))) ([]:List Int)
theorem Y25.mono_l:∀ k,(∀ y0 y1,LeO (Y25.l0 k y0 y1) (Y25.l0 (k+1) y0 y1))
 | 0=>by intros <;> exact LeO.none _
 | k+1=>by
  have ih0:=Y25.mono_l k
  ·intros
   unfold Y25.l0
   exact mO
theorem Y25.mono:∀ a0 k,LeO (Y25.f k a0) (Y25.f (k+1) a0):=by
 intro a0 k
 have ih0:=Y25.mono_l k
 unfold Y25.f
 exact mO

/-! ### Y51: function 93 -/
def Y51.f (a0:ByteArray):Option (Bool):=some (decide ((a0.size:Int)>8000))

/-! ### Y5: function 112 -/
def Y5.l0:Nat→List ByteArray→Int→Int→Option (Int)
 | 0,_,_,_=>none
 | k+1,x0,x7,x8=>if x8<x7 then (if 0≤x8 then (if x8<(x0.length:Int) then ((Y51.f (rdOf ByteArray.empty x0 x8)).bind fun t255=>(if t255=true then (some x8) else (Y5.l0 k x0 x7 (wrap64 (x8+1))))) else (none)) else (none)) else (some (-1))
def Y5.f (k:Nat) (l0:List ByteArray)  : Option (Int):=Y5.l0 k l0 (l0.length:Int) 0
theorem Y5.mono_l:∀ k,(∀ y0 y1 y2,LeO (Y5.l0 k y0 y1 y2) (Y5.l0 (k+1) y0 y1 y2))
 | 0=>by intros <;> exact LeO.none _
 | k+1=>by
  have ih0:=Y5.mono_l k
  ·intros
   unfold Y5.l0
   exact mO
theorem Y5.mono:∀ a0 k,LeO (Y5.f k a0) (Y5.f (k+1) a0):=by
 intro a0 k
 have ih0:=Y5.mono_l k
 unfold Y5.f
 exact mO

/-! ### Y10: function 92 -/
def Y10.f (k:Nat) (l0:List ByteArray)  : Option (Bool):=(Y5.f k l0).bind fun t256=>(some (decide (t256≥0)))
theorem Y10.mono:∀ a0 k,LeO (Y10.f k a0) (Y10.f (k+1) a0):=by
 intro a0 k
 have m0:=@Y5.mono
 unfold Y10.f
 exact mO

/-! ### Y38: function 61 -/
def Y38.f (k:Nat) (l0:List ByteArray):Option (Bool):=(Y10.f k l0).bind fun t257=>(some t257)
theorem Y38.mono:∀ a0 k,LeO (Y38.f k a0) (Y38.f (k+1) a0):=by
 intro a0 k
 have m0:=@Y10.mono
 unfold Y38.f
 exact mO

/-! ### Y53: function 105 -/
def Y53.f (a0:Int):Option (Bool):=(Y19.f a0 1 5).bind fun t189=>(some t189)

/-! ### Y49: function 83 -/
def Y49.f (a0_0:Int) (a0_1:Int):Option (Bool):=(Y53.f a0_0).bind fun t191=>(if t191=true then ((Y19.f a0_1 1 1000000).bind fun t192=>(some t192)) else (some false))

/-! ### Y54: function 98 -/
def Y54.f (a0:Int):Option (Bool):=(Y14.f a0 1 5).bind fun t258=>(some t258)

/-! ### Y50: function 73 -/
def Y50.f (a0_0:Int) (a0_1:Int):Option (Bool):=(Y54.f a0_0).bind fun t260=>(if t260=true then ((Y14.f a0_1 1 1000000).bind fun t261=>(some t261)) else (some false))
end Go.Proofs.Ytmefchanjoadfaa.P

namespace Go.Proofs.Ytmefchanjoadfaa.Q
open Go.RowKit Go.Proofs.Ytmefchanjoadfaa.P Go.Proofs.YtmefchanjoadfaaW.PrintWords Go.Proofs.YtmefchanjoadfaaW.PrintMore

def isWithin (n low high:Int):Bool:=decide (low≤n) && decide (n≤high)
theorem l02Is_is (n a b:Int):Y19.f n a b=some (isWithin n a b):=by
  unfold Y19.f isWithin
  split
  · rename_i h;simp [show a≤n from h]
  · rename_i h;simp [show ¬ a≤n from h]
theorem within_is (n a b:Int):Y14.f n a b=some (isWithin n a b):=by
  unfold Y14.f isWithin
  split
  · rename_i h;simp [show a≤n from h]
  · rename_i h;simp [show ¬ a≤n from h]
end Go.Proofs.Ytmefchanjoadfaa.Q

namespace Go.Proofs.Ytmefchanjoadfaa.Q
open Go.RowKit Go.Proofs.Ytmefchanjoadfaa.P Go.Proofs.YtmefchanjoadfaaW.PrintWords Go.Proofs.YtmefchanjoadfaaW.PrintMore

def lowCh (c:Int):Bool:=decide (97≤c) && decide (c≤122)
def nameCh (c:Int):Bool:=lowCh c || (decide (48≤c) && decide (c≤57)) || decide (c=95)
def nameList:List Int→Bool
  | []=>false
  | c :: r=>lowCh c && r.all nameCh
def nameOk (s:ByteArray):Bool:=decide (s.size≤20) && nameList (bytesOf s)
theorem bt_of {s:ByteArray} {i:Nat} {c:Int} (h:(bytesOf s).getD i 0=c):bt s (i:Int)=c:=by
  rw [← rd_bytesOf];simpa [rd] using h
theorem spec_name_round (s:ByteArray) (k i:Nat) (hi:i<s.size) (h1:1≤i) (hs:s.size≤1048576) :
    Y4.l0 (k+1) s (i:Int)=if nameCh (bt s i) then Y4.l0 k s ((i+1:Nat):Int) else some false:=by
  simp only [Y4.l0]
  rw [if_pos (by omega),if_pos (by omega),w64 (by omega) (by omega)]
  have h0:¬ ((i:Int)=0):=by omega
  simp only [if_neg h0,nameCh,lowCh]
  generalize bt s i=c
  by_cases h1:97≤c <;> by_cases h2:c≤122 <;> by_cases h3:48≤c <;> by_cases h4:c≤57 <;> by_cases h5:c=95 <;> first | (exfalso;omega) | simp [ge_iff_le,h1,h2,h3,h4,h5]
theorem spec_name_first (s:ByteArray) (k:Nat) (hi:0<s.size) (hs:s.size≤1048576) :
    Y4.l0 (k+1) s 0=if lowCh (bt s 0) then Y4.l0 k s 1 else some false:=by
  simp only [Y4.l0]
  rw [if_pos (by omega),if_pos (by omega),w64 (by omega) (by omega)]
  simp only [if_true,lowCh,Int.zero_add]
  generalize bt s 0=c
  by_cases h1:97≤c <;> by_cases h2:c≤122 <;> first | (exfalso;omega) | simp [ge_iff_le,h1,h2]
theorem spec_name_l0 (s:ByteArray) (hs:s.size≤1048576):∀ (r:List Int) (i:Nat),(bytesOf s).drop i=r→i≤s.size→1≤i→Ev (fun k=>Y4.l0 k s (i:Int)) (r.all nameCh)
  | [],i,h,hi,h1=>by
    have:=dropNil h
    rw [bytesOf_length] at this
    refine Ev.step (f:=fun _=>some true) (fun k=>?_) (Ev.now _)
    simp only [Y4.l0]
    rw [if_neg (by omega)]
  | c :: r,i,h,hi,h1=>by
    obtain ⟨g1,g2,g3⟩:=dropCons h 0
    rw [bytesOf_length] at g1
    have hb:=bt_of g2
    refine Ev.step (fun k=>spec_name_round s k i g1 h1 hs) ?_
    rw [hb]
    refine evIte (fun hc=>?_) (fun hc=>?_)
    · simp only [List.all_cons,hc,Bool.true_and];exact spec_name_l0 s hs r (i+1) g3 (by omega) (by omega)
    · simp only [List.all_cons,Bool.eq_false_iff.mpr hc,Bool.false_and];exact Ev.now _
theorem spec_NameRight_ev (s:ByteArray) (hs:s.size≤1048576):Ev (fun k=>Y4.f k s) (nameOk s):=by
  have hl:=bytesOf_length s
  unfold Y4.f nameOk
  refine evIte (fun h=>?_) (fun h=>?_)
  · refine Ev.step (f:=fun _=>some false) (fun k=>by simp only [Y4.j0];rw [if_pos trivial]) ?_
    have:bytesOf s=[]:=by rw [← List.length_eq_zero_iff,hl];omega
    simp only [this,nameList,Bool.and_false]
    exact Ev.now _
  · by_cases h20:(s.size:Int)>20
    · refine Ev.step (f:=fun _=>some false) (fun k=>by simp only [Y4.j0];rw [if_pos (by simpa using h20)]) ?_
      have:¬ s.size≤20:=by omega
      simp only [this,decide_false,Bool.false_and]
      exact Ev.now _
    · refine Ev.step (fun k=>by simp only [Y4.j0];rw [if_neg (by simpa using h20)]) ?_
      have h20':s.size≤20:=by omega
      simp only [h20',decide_true,Bool.true_and]
      cases hb:bytesOf s with
      | nil=>rw [hb] at hl;simp at hl;omega
      | cons c r =>
        have hc:bt s ((0:Nat):Int)=c:=bt_of (by rw [hb];rfl)
        refine Ev.step (fun k=>spec_name_first s k (by omega) hs) ?_
        rw [show (0:Int)=((0:Nat):Int) from rfl,hc]
        refine evIte (fun h1=>?_) (fun h1=>?_)
        · simp only [nameList,h1,Bool.true_and]
          exact spec_name_l0 s hs r 1 (by rw [hb];rfl) (by omega) (by omega)
        · simp only [nameList,Bool.eq_false_iff.mpr h1,Bool.false_and];exact Ev.now _
theorem impl_name_round (s:ByteArray) (k i:Nat) (hi:i<s.size) (hs:s.size≤140737488351232) :
    Y3.l0 (k+1) s (s.size:Int) (i:Int)=if nameCh (bt s i) then Y3.l0 k s (s.size:Int) ((i+1:Nat):Int) else some false:=by
  simp only [Y3.l0]
  rw [if_pos (by omega),if_pos (by omega),if_pos (by omega),w64 (by omega) (by omega)]
  simp only [nameCh,lowCh]
  generalize bt s i=c
  by_cases h1:97≤c <;> by_cases h2:c≤122 <;> by_cases h3:48≤c <;> by_cases h4:c≤57 <;> by_cases h5:c=95 <;> first | (exfalso;omega) | simp [ge_iff_le,h1,h2,h3,h4,h5]
theorem impl_name_l0 (s:ByteArray) (hs:s.size≤140737488351232):∀ (r:List Int) (i:Nat),(bytesOf s).drop i=r→i≤s.size→Ev (fun k=>Y3.l0 k s (s.size:Int) (i:Int)) (r.all nameCh)
  | [],i,h,hi=>by
    have:=dropNil h
    rw [bytesOf_length] at this
    refine Ev.step (f:=fun _=>some true) (fun k=>?_) (Ev.now _)
    simp only [Y3.l0]
    rw [if_neg (by omega)]
  | c :: r,i,h,hi=>by
    obtain ⟨g1,g2,g3⟩:=dropCons h 0
    rw [bytesOf_length] at g1
    have hb:=bt_of g2
    refine Ev.step (fun k=>impl_name_round s k i g1 hs) ?_
    rw [hb]
    refine evIte (fun hc=>?_) (fun hc=>?_)
    · simp only [List.all_cons,hc,Bool.true_and];exact impl_name_l0 s hs r (i+1) g3 (by omega)
    · simp only [List.all_cons,Bool.eq_false_iff.mpr hc,Bool.false_and];exact Ev.now _
theorem low_name {c:Int} (h:lowCh c=true):nameCh c=true:=by simp [nameCh,h]
theorem impl_NameRight_ev (s:ByteArray) (hs:s.size≤140737488351232):Ev (fun k=>Y3.f k s) (nameOk s):=by
  have hl:=bytesOf_length s
  unfold Y3.f nameOk Y37.f
  refine evBind1 rfl (evBind1 (within_is _ _ _) ?_)
  refine evIte (fun h=>?_) (fun h=>?_)
  · have hw:1≤(s.size:Int)∧(s.size:Int)≤20:=by simpa [isWithin] using h
    refine evPos (by omega) ?_
    have h20':s.size≤20:=by omega
    simp only [h20',decide_true,Bool.true_and]
    cases hb:bytesOf s with
    | nil=>rw [hb] at hl;simp at hl;omega
    | cons c r =>
      have hc:bt s ((0:Nat):Int)=c:=bt_of (by rw [hb];rfl)
      have hc':bt s 0=c:=hc
      rw [hc']
      refine evIte (fun h1=>?_) (fun h1=>?_)
      · refine Ev.step (f:=fun _=>some false) (fun k=>by simp only [Y3.j0];rw [if_pos trivial]) ?_
        have:lowCh c=false:=by simp [lowCh];omega
        simp only [nameList,this,Bool.false_and];exact Ev.now _
      · by_cases h2:c>122
        · refine Ev.step (f:=fun _=>some false) (fun k=>by simp only [Y3.j0];rw [if_pos (by simpa using h2)]) ?_
          have:lowCh c=false:=by simp [lowCh];omega
          simp only [nameList,this,Bool.false_and];exact Ev.now _
        · refine Ev.step (fun k=>by simp only [Y3.j0];rw [if_neg (by simpa using h2)]) ?_
          have hlow:lowCh c=true:=by simp [lowCh];omega
          simp only [nameList,hlow,Bool.true_and]
          have:=impl_name_l0 s hs (c :: r) 0 (by rw [hb];rfl) (by omega)
          simpa [low_name hlow] using this
  · refine Ev.step (f:=fun _=>some false) (fun k=>by simp only [Y3.j0];rw [if_pos trivial]) ?_
    have hw:isWithin (s.size:Int) 1 20=false:=by simpa using h
    have:(decide (s.size≤20) && nameList (bytesOf s))=false:=by
      by_cases h20:s.size≤20
      · have:bytesOf s=[]:=by
          rw [← List.length_eq_zero_iff,hl]
          simp [isWithin] at hw;omega
        simp [this,nameList]
      · simp [h20]
    rw [this]
    exact Ev.now _
end Go.Proofs.Ytmefchanjoadfaa.Q
