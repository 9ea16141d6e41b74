/- For every act the program's ActText and the reference's return the same text. No condition. (Part 1 of 2: written by programs of this workplace and by hand, merged.) -/
import Derived.Test.YtffjlmmlclpcnaaDoorProg
import Derived.Below
import Derived.Deep.Draws
import Derived.Deep.AppendLies
import Derived.Maps.AppendAt
import Derived.OwnWalk
import Derived.Laws.BytesArg
import Derived.Laws.MakeOwn
import Derived.Laws.OwnMore
import Derived.Deep.OwnRows
import Derived.Tactics
import Derived.Lib.ConvBytes
import Derived.Laws.Slices
import Derived.WalkKit
import Derived.KernelRfl
import Derived.RowKit3
import Derived.Deep.LoopGhost
import Derived.Deep.QuietTactic
import Derived.BigQuiet
import Derived.WideLaws
import Derived.Deep.DeepCutAuto
import Derived.Deep.CutBlock
import Derived.Deep.RegionHeld3
import Derived.Laws.Rows
import Derived.Lib.AppendStr
import Derived.ArgAppend
import Derived.Laws.IdiomCopy
import Derived.OrdersHeld
import Derived.Laws.BitsLemmas
import Derived.RowKit
import Derived.Lib.Bytealg
import Derived.Lib.Walk
import Derived.Test.YtffjlmmlclpcnaaDoorMFnExactActTextWWords
import Derived.Test.YtffjlmmlclpcnaaDoorMFnExactActTextWLast
import Derived.Test.YtffjlmmlclpcnaaDoorMFnExactActTextWTab
import Derived.Test.YtffjlmmlclpcnaaDoorMFnExactActTextWApart
import Derived.Test.YtffjlmmlclpcnaaDoorMFnExactActTextWFoot
import Derived.Test.YtffjlmmlclpcnaaDoorMFnExactActTextWKept
import Derived.Test.YtffjlmmlclpcnaaDoorMFnExactActTextWShare
import Derived.Test.YtffjlmmlclpcnaaDoorMFnExactActTextWN
import Derived.Laws.StructEq
import Derived.Test.YtffjlmmlclpcnaaDoorMFnExactActTextWRepsOne
import Derived.Test.YtffjlmmlclpcnaaDoorMFnExactActTextWInv
import Derived.Test.YtffjlmmlclpcnaaDoorMFnExactActTextWGuard
import Derived.Test.YtffjlmmlclpcnaaDoorMFnExactActTextWMore
import Derived.ChangeArms
import Derived.ChangeSlices
import Derived.WideShapes
set_option linter.unusedVariables false
set_option linter.unusedSimpArgs false
set_option maxHeartbeats 8000000
set_option maxRecDepth 100000

namespace Go.Proofs.YtffjlmmlclpcnaaDoor.P
open Go.RowKit Go.Proofs.YtffjlmmlclpcnaaDoorW.PrintWords Go.Proofs.YtffjlmmlclpcnaaDoorW.PrintLast Go.Proofs.YtffjlmmlclpcnaaDoorW.PrintMore
attribute [local go_sem] max2_int min2_int max_two min_two max_three min_three max_four min_four   -- for this text's walks alone
set_option linter.unusedVariables false
set_option linter.unusedSimpArgs false

theorem sa_ {α:Type _} (l:List α) (i:Nat) (a:α):l.toArray.setIfInBounds i a=(l.set i a).toArray:=List.setIfInBounds_toArray ..
theorem s0_ {α:Type _} (x:α) (l:List α) (a:α):(x :: l).set 0 a=a :: l:=List.set_cons_zero ..
theorem ss_ {α:Type _} (x:α) (l:List α) (n:Nat) (a:α):(x :: l).set (n+1) a=x :: l.set n a:=List.set_cons_succ ..
section
variable {P:Program} {ops:Array Oper} {Q:Exit→Act→World→Prop}
/-- A call of a function value, as a step of a region that draws. -/
theorem goesD_ {oi:Oper} {N:Option Tmp} {a:Act} {w:World} {K:Act→World→Prop} {f:FuncId} {fn:Func} {as_:Array Operand} {ts:Array TypeId} {x:Operand} (hf:P.funcs[f]? = some fn) (hname:(fn.name == "runtime.NumGoroutine")=false) (hb:fn.body.isSome=true) (args:Array Value)
    (hw:Region.wanted oi (yielded ops a.tmps)=true) (hN:oi.dst=N) (hop:oi.op = .call { callee:=.value x,args:=as_,argTypes:=ts }) (hx:a.eval x = .func (.func f) #[] #[]) (hargs:as_.map a.eval=args)
    (h:Calls P f args w fun e w'=>∃ v,e = .returned v∧K (a.put N v) w'):if Region.wanted oi (yielded ops a.tmps)=true then Oper.wp P oi a w K Q else K (a.put N undef) w:=by
  refine call_ f args hw hN ?_ h
  have he:=enters_ hf hname hb args w
  unfold execOp
  simp [hop,resolve,Deferred.ofValue,invoke,hx,hargs,he]
/-- The same for a closure: what it captured stands behind the arguments. -/
theorem goesC_ {oi:Oper} {N:Option Tmp} {a:Act} {w:World} {K:Act→World→Prop} {f:FuncId} {fn:Func} {as_:Array Operand} {ts:Array TypeId} {x:Operand} {cs:Array Value} (hf:P.funcs[f]? = some fn) (hname:(fn.name == "runtime.NumGoroutine")=false) (hb:fn.body.isSome=true) (args:Array Value)
    (hw:Region.wanted oi (yielded ops a.tmps)=true) (hN:oi.dst=N) (hop:oi.op = .call { callee:=.value x,args:=as_,argTypes:=ts }) (hx:a.eval x = .func (.func f) #[] cs) (hargs:as_.map a.eval ++ cs=args)
    (h:Calls P f args w fun e w'=>∃ v,e = .returned v∧K (a.put N v) w'):if Region.wanted oi (yielded ops a.tmps)=true then Oper.wp P oi a w K Q else K (a.put N undef) w:=by
  refine call_ f args hw hN ?_ h
  have he:=enters_ hf hname hb args w
  unfold execOp
  simp [hop,resolve,Deferred.ofValue,invoke,hx,hargs,he]
end



def errW:Option Int→Value
  | none=>.nilIface
  | some c=>.iface 0 (.int .i64 c)
theorem errW_none:errW none = .nilIface:=rfl
theorem errW_some (c:Int):errW (some c) = .iface 0 (.int .i64 c):=rfl

-- the values' own types
/-! #### struct type 63 -/
structure S63 where
  f0:ByteArray
  f1:ByteArray
def z63:S63:=⟨(⟨#[]⟩:ByteArray),(⟨#[]⟩:ByteArray)⟩
def k63:Kd S63:=Kd.iso (Kd.pair Kd.string Kd.string) (fun x:S63=>(x.f0,x.f1))
theorem k63_open {w:World} {x:S63} {cs:List Value} (h:k63.K w x cs):cs=[.string x.f0,.string x.f1]:=by
  obtain ⟨_,_,rfl,rfl,rfl⟩:=h
  exact rfl
theorem k63_mkM (w:World) (base:Nat) (ok:Nat→Prop) (x:S63)  : k63.M w base ok x [.string x.f0,.string x.f1]:=⟨[.string x.f0],[.string x.f1],rfl,rfl,rfl⟩
def rd_T63 (xs:List S63) (i:Int):S63:=xs.getD i.toNat z63
theorem at_T63 {w:World} {A:Option Addr} {n:Nat} {xs:List S63} (h:Kd.C k63 w A n xs) (i:Int) (h0:0≤i) (h1:i<n):∃ ad , A=some ad∧w.cell? (ad.add (i.toNat*2))=some (.string (rd_T63 xs i).f0)∧w.cell? ⟨(ad.add (i.toNat*2)).block,(ad.add (i.toNat*2)).off+1,none⟩=some (.string (rd_T63 xs i).f1):=by
  obtain ⟨ad,c,e,_,hK,hc0⟩:=Kd.C_get h z63 i h0 h1
  have hc:∀ j u,c[j]? = some u→w.cell? (ad.add (i.toNat*2+j))=some u:=hc0
  obtain rfl:=k63_open hK
  exact ⟨ad,e,hc 0 _ rfl,by rw [← add_field _ _ 1 (by omega)];exact hc 1 _ rfl⟩

/-! #### struct type 23 -/
structure S23 where
  f0:Int
  f1:Int
  f2:Int
  f3:ByteArray
  f4:ByteArray
  f5:Int
def k23:Kd S23:=Kd.iso (Kd.pair (Kd.int .i64) (Kd.pair (Kd.int .i64) (Kd.pair (Kd.int .i64) (Kd.pair Kd.string (Kd.pair Kd.string (Kd.int .i64)))))) (fun x:S23=>(x.f0,x.f1,x.f2,x.f3,x.f4,x.f5))
theorem k23_open {w:World} {x:S23} {cs:List Value} (h:k23.K w x cs):cs=[.int .i64 x.f0,.int .i64 x.f1,.int .i64 x.f2,.string x.f3,.string x.f4,.int .i64 x.f5]:=by
  obtain ⟨_,_,rfl,rfl,⟨_,_,rfl,rfl,⟨_,_,rfl,rfl,⟨_,_,rfl,rfl,⟨_,_,rfl,rfl,rfl⟩⟩⟩⟩⟩:=h
  exact rfl
end Go.Proofs.YtffjlmmlclpcnaaDoor.P

namespace Go.Proofs.YtffjlmmlclpcnaaDoor.P
open Go.RowKit Go.Proofs.YtffjlmmlclpcnaaDoorW.PrintWords Go.Proofs.YtffjlmmlclpcnaaDoorW.PrintLast Go.Proofs.YtffjlmmlclpcnaaDoorW.PrintMore
abbrev I:=true
abbrev O:=false
theorem mO {p:Prop} (h:p:=by repeat' first | (with_reducible exact LeO.refl _) | (with_reducible exact LeO.none _) | (with_reducible refine LeO.ite ?_ ?_) | (with_reducible refine LeO.bind ?_ (fun _=>?_)) | (with_reducible apply_assumption) | apply_assumption | exact LeO.none _ | refine LeO.ite ?_ ?_ | refine LeO.bind ?_ (fun _=>?_)):p:=h
theorem nO {q p:Prop} (h:q) (f:¬q:=by simp):p:=absurd h f
theorem aM {p:Prop} (h:p):Aside0 p:=⟨h⟩
theorem sI {α:Type _} {a b:α} (h:some a=some b):a=b:=Option.some.inj h
theorem bS {α β:Type _} {x:Option α} {f:α→Option β} {b:β} (h:x.bind f=some b):∃ a,x=some a∧f a=some b:=Option.bind_eq_some_iff.mp h
theorem dT {p:Prop} [Decidable p] (h:decide p=true):p:=of_decide_eq_true h
theorem dE {p:Prop} [Decidable p] (h:p):decide p=true:=decide_eq_true h
theorem dF {p:Prop} [Decidable p] (h:¬p):decide p=false:=decide_eq_false h
section
variable {P:Program} {ops:Array Oper} {Q:Exit→Act→World→Prop} {md:Region.Mode} {S:World→Prop} {ds:List Nat}
theorem pu_ {T:Bool × List (List Nat × List Nat)} (i:Nat) (N:Tmp) {oi:Oper} {v:Value} {fuel:Nat} {l:Array Bool} {a a':Act} {w:World} (l':Array Bool) (hT:rtab md ops=T) (h:wpAnyLast P md ops Q S ds fuel l' a' w) (hi:ops[i]? = some oi:=by exact rfl) (hN:oi.dst=some N:=by exact rfl) (hc:anyT T l.toList l'.toList i=true:=by kernel_rfl) (hQ:∀ c a w,Q (.panic c) (a.put oi.dst v) w→Q (.panic c) a w:=by exact fun _ _ _ h=>h) (hw:Region.wanted oi (yielded ops a.tmps)=true:=by rfl) (hy:∀ w',(execOp a.eval oi).run P w' = .ok (.value v) w':=by (intro w');go_simp;(with_reducible rfl)) (ha:a.put (some N) v=a':=by (simp only [Act.put,sa_,s0_,ss_,i64_w,i32_w]);exact rfl):wpAnyLast P md ops Q S ds (fuel+1) l a w:=pure_ l' hi hN (any_of hT hc) hQ (Or.inl ⟨hw,hy⟩) ha h
theorem pn_ {T:Bool × List (List Nat × List Nat)} (i:Nat) (N:Tmp) {oi:Oper} {v:Value} {fuel:Nat} {l:Array Bool} {a a':Act} {w:World} (l':Array Bool) (hT:rtab md ops=T) (h:wpAnyLast P md ops Q S ds fuel l' a' w) (hi:ops[i]? = some oi:=by exact rfl) (hN:oi.dst=some N:=by exact rfl) (hc:anyT T l.toList l'.toList i=true:=by kernel_rfl) (hQ:∀ c a w,Q (.panic c) (a.put oi.dst v) w→Q (.panic c) a w:=by exact fun _ _ _ h=>h) (hw:Region.wanted oi (yielded ops a.tmps)=false:=by rfl) (hy:v=undef:=by rfl) (ha:a.put (some N) v=a':=by (simp only [Act.put,sa_,s0_,ss_,i64_w,i32_w]);exact rfl):wpAnyLast P md ops Q S ds (fuel+1) l a w:=pure_ l' hi hN (any_of hT hc) hQ (Or.inr ⟨hw,hy⟩) ha h
theorem tk6_ {T:Bool × List (List Nat × List Nat)} (i:Nat) (N:Tmp) {oi:Oper} {v:Value} {fuel:Nat} {l:Array Bool} {a a':Act} {w:World} (l':Array Bool) {B:List Nat} (hT:rtab md ops=T) (hB:waitsOk T.2 B=true) (hS:S w) (h:wpAnyLast P md ops Q S ds fuel l' a' w) (hi:ops[i]? = some oi:=by exact rfl) (hN:oi.dst=some N:=by exact rfl) (hc:takeW T B ds l.toList l'.toList i=true:=by kernel_rfl) (hQ:∀ c a w,Q (.panic c) (a.put oi.dst v) w→Q (.panic c) a w:=by exact fun _ _ _ h=>h) (hw:Region.wanted oi (yielded ops a.tmps)=true:=by rfl) (hy:∀ w',S w'→(execOp a.eval oi).run P w' = .ok (.value v) w':=by (rintro w' ⟨s0,s1,s2,s3,s4,s5⟩);go_simp;(with_reducible rfl)) (ha:a.put (some N) v=a':=by (simp only [Act.put,sa_,s0_,ss_,i64_w,i32_w]);exact rfl):wpAnyLast P md ops Q S ds (fuel+1) l a w:=take_ l' hi hN (take_ofW hT hB hc) hQ (Or.inl ⟨hw,hy⟩) hS ha h
theorem o1_ {T:Bool × List (List Nat × List Nat)} (i:Nat) (N:Tmp) {oi:Oper} {fuel:Nat} {l:Array Bool} {a:Act} {w:World} (l':Array Bool) (hT:rtab md ops=T) (h:∀ K:Act→World→Prop,Shut (∀ a' w',S w'→(S w'→wpAnyLast P md ops Q S ds fuel l' a' w')→K a' w')→if Region.wanted oi (yielded ops a.tmps)=true then Oper.wp P oi a w K Q else K (a.put (some N) undef) w) (hi:ops[i]? = some oi:=by exact rfl) (hN:oi.dst=some N:=by exact rfl) (hc:(readyT T.2 l.toList == [i] && l.toList.set i true == l'.toList)=true:=by kernel_rfl) (hd:i ∉ ds:=by decide):wpAnyLast P md ops Q S ds (fuel+1) l a w:=one_ l' hi hN (one_of hT hc) hd h
theorem o2_ {T:Bool × List (List Nat × List Nat)} (i j:Nat) (Ni Nj:Tmp) {oi oj:Oper} {fuel:Nat} {l:Array Bool} {a:Act} {w:World} (li lj:Array Bool) (hT:rtab md ops=T) (h1:∀ K:Act→World→Prop,Shut (∀ a' w',S w'→(S w'→wpAnyLast P md ops Q S ds fuel li a' w')→K a' w')→if Region.wanted oi (yielded ops a.tmps)=true then Oper.wp P oi a w K Q else K (a.put (some Ni) undef) w) (h2:∀ K:Act→World→Prop,Shut (∀ a' w',S w'→(S w'→wpAnyLast P md ops Q S ds fuel lj a' w')→K a' w')→if Region.wanted oj (yielded ops a.tmps)=true then Oper.wp P oj a w K Q else K (a.put (some Nj) undef) w) (hi:ops[i]? = some oi:=by exact rfl) (hj:ops[j]? = some oj:=by exact rfl) (hNi:oi.dst=some Ni:=by exact rfl) (hNj:oj.dst=some Nj:=by exact rfl) (hc:(readyT T.2 l.toList == [i,j] && l.toList.set i true == li.toList && l.toList.set j true == lj.toList)=true:=by kernel_rfl) (hdi:i ∉ ds:=by decide) (hdj:j ∉ ds:=by decide):wpAnyLast P md ops Q S ds (fuel+1) l a w:=two_ li lj hi hj hNi hNj (two_of hT hc) hdi hdj h1 h2
theorem nm_ (N:Tmp) {fuel:Nat} {l:Array Bool} {a a':Act} {v:Value} {w:World} (h:wpAnyLast P md ops Q S ds fuel l a' w) (ha:Act.put a (some N) v=a':=by simp only [Act.put,sa_,s0_,ss_,i64_w,i32_w];rfl):wpAnyLast P md ops Q S ds fuel l (Act.put a (some N) v) w:=norm_ ha h
end
section
variable {P:Program} {ops:Array Oper} {rest:List Oper} {o:Oper} {a:Act} {Q:Exit→Act→World→Prop} {W:World}
theorem gd_ (N:Tmp) (h:wpList P ops Q (o :: rest) a W) (hN:o.dst=some N:=by with_reducible rfl):wpList P ops Q (o :: rest) a W:=h
theorem gc_ (f:FuncId) {ars:Array Operand} {ts:Array TypeId} (h:wpList P ops Q (o :: rest) a W) (ho:o.op = .call { callee:=.value (.func f),args:=ars,argTypes:=ts }:=by with_reducible rfl):wpList P ops Q (o :: rest) a W:=h
theorem be_ (N:Tmp) (cs:Array Value) (t:TypeId) (h:∀ g,g=W.heap.size→∀ w1,w1.heap[g]? = some (.cells cs t (0,0))→Below W.heap.size W w1→wpList P ops Q rest (a.put o.dst (.pointer (some ⟨g,0,none⟩))) w1) (hd:o.dst=some N:=by rfl) (hgd:o.guard=none:=by rfl) (hrun:(execOp a.eval o).run P W = .ok (.value (.pointer (some ⟨W.heap.size,0,none⟩))) (W.alloc (.cells cs t (0,0))):=by first | (go_simp;done) | (go_simp;rfl)):wpList P ops Q (o :: rest) a W:=box_event hgd hd hrun h
theorem bs_ {Kc:Act→World→Prop} (N:Tmp) (cs:Array Value) (t:TypeId) (h:∀ g,g=W.heap.size→∀ w1,w1.heap[g]? = some (.cells cs t (0,0))→Below W.heap.size W w1→Kc (a.put o.dst (.pointer (some ⟨g,0,none⟩))) w1) (hd:o.dst=some N:=by rfl) (hw:Region.wanted o (yielded ops a.tmps)=true:=by rfl) (hrun:(execOp a.eval o).run P W = .ok (.value (.pointer (some ⟨W.heap.size,0,none⟩))) (W.alloc (.cells cs t (0,0))):=by first | (go_simp;done) | (go_simp;rfl)):if Region.wanted o (yielded ops a.tmps)=true then Oper.wp P o a W Kc Q else Kc (a.put o.dst undef) W:=box_step hw hd hrun h
theorem gl_ (N:Option Tmp) {f:FuncId} {fn:Func} {ars:Array Operand} {ts:Array TypeId} (hf:P.funcs[f]? = some fn) (args:Array Value) (h:Calls P f args W fun e w'=>∃ v,e = .returned v∧wpList P ops Q rest (a.put N v) w') (hd:o.dst=N:=by exact rfl) (hg:o.guard=none:=by exact rfl) (hname:(fn.name == "runtime.NumGoroutine")=false:=by kernel_rfl) (hb:fn.body.isSome=true:=by exact rfl) (hop:o.op = .call { callee:=.value (.func f),args:=ars,argTypes:=ts }:=by exact rfl) (hargs:ars.map a.eval=args:=by (try simp only [List.map_toArray,List.map_cons,List.map_nil]);first | done | rfl | (simp only [List.length_drop,List.length_take];rfl)):wpList P ops Q (o :: rest) a W:=goesL_ N hd hg hf hname hb args hop hargs h
theorem gs_ {N:Option Tmp} {K:Act→World→Prop} {f:FuncId} {fn:Func} {ars:Array Operand} {ts:Array TypeId} (hf:P.funcs[f]? = some fn) (args:Array Value) (h:Calls P f args W fun e w'=>∃ v,e = .returned v∧K (a.put N v) w') (hname:(fn.name == "runtime.NumGoroutine")=false:=by kernel_rfl) (hb:fn.body.isSome=true:=by exact rfl) (hw:Region.wanted o (yielded ops a.tmps)=true:=by rfl) (hN:o.dst=N:=by exact rfl) (hop:o.op = .call { callee:=.value (.func f),args:=ars,argTypes:=ts }:=by exact rfl) (hargs:ars.map a.eval=args:=by (try simp only [List.map_toArray,List.map_cons,List.map_nil]);first | done | rfl | (simp only [List.length_drop,List.length_take];rfl)):if Region.wanted o (yielded ops a.tmps)=true then Oper.wp P o a W K Q else K (a.put N undef) W:=goes_ hf hname hb args hw hN hop hargs h
end
theorem cc6_ {w:World} {g:Nat} {t:TypeId} {v0 v1 v2 v3 v4 v5:Value} (h:w.heap[g]? = some (.cells #[v0,v1,v2,v3,v4,v5] t (0,0))):w.cell? ⟨g,0,none⟩=some v0∧w.cell? ⟨g,1,none⟩=some v1∧w.cell? ⟨g,2,none⟩=some v2∧w.cell? ⟨g,3,none⟩=some v3∧w.cell? ⟨g,4,none⟩=some v4∧w.cell? ⟨g,5,none⟩=some v5:=⟨blk_cell h 0,blk_cell h 1,blk_cell h 2,blk_cell h 3,blk_cell h 4,blk_cell h 5⟩
theorem blkB_ {W0 W W':World} {g:Nat} {o:Obj} (h:W0.heap[g]? = some o) (hb:Below W.heap.size W W') (f:W0.heap[g]? = some o→W.heap[g]? = some o:=by intro h_;(with_reducible repeat (first | refine blk_drewN ?_ _ | refine blk_drew ?_ | refine blk_alloc ?_ _));exact h_):W'.heap[g]? = some o:=blk_below (f h) hb
theorem neL_ {W0 W:World} {g b:Nat} {o:Obj} (h:W0.heap[b]? = some o) (hg:g=W.heap.size) (f:W0.heap[b]? = some o→W.heap[b]? = some o:=by intro h_;(with_reducible repeat (first | refine blk_drewN ?_ _ | refine blk_drew ?_ | refine blk_alloc ?_ _));exact h_):b≠g:=by rw [hg];exact Nat.ne_of_lt (blk_lt (f h))
theorem neG_ {W0 W:World} {g b:Nat} {o:Obj} (h:W0.heap[b]? = some o) (hg:g=W.heap.size) (f:W0.heap[b]? = some o→W.heap[b]? = some o:=by intro h_;(with_reducible repeat (first | refine blk_drewN ?_ _ | refine blk_drew ?_ | refine blk_alloc ?_ _));exact h_):g≠b:=by rw [hg];exact Nat.ne_of_gt (blk_lt (f h))
theorem cz1_ {w:World} {g:Nat} {t:TypeId} {v0:Value} (h:w.heap[g]? = some (.cells #[v0] t (0,0))):w.cell? ⟨g,0,none⟩=some v0∧w.frozen? ⟨g,0,none⟩=false:=⟨blk_cell h 0,blk_frozen h 0⟩
theorem cz6_ {w:World} {g:Nat} {t:TypeId} {v0 v1 v2 v3 v4 v5:Value} (h:w.heap[g]? = some (.cells #[v0,v1,v2,v3,v4,v5] t (0,0))):w.cell? ⟨g,0,none⟩=some v0∧w.cell? ⟨g,1,none⟩=some v1∧w.cell? ⟨g,2,none⟩=some v2∧w.cell? ⟨g,3,none⟩=some v3∧w.cell? ⟨g,4,none⟩=some v4∧w.cell? ⟨g,5,none⟩=some v5∧w.frozen? ⟨g,0,none⟩=false∧w.frozen? ⟨g,1,none⟩=false∧w.frozen? ⟨g,2,none⟩=false∧w.frozen? ⟨g,3,none⟩=false∧w.frozen? ⟨g,4,none⟩=false∧w.frozen? ⟨g,5,none⟩=false:=⟨blk_cell h 0,blk_cell h 1,blk_cell h 2,blk_cell h 3,blk_cell h 4,blk_cell h 5,blk_frozen h 0,blk_frozen h 1,blk_frozen h 2,blk_frozen h 3,blk_frozen h 4,blk_frozen h 5⟩
theorem put6_ {w:World} {g:Nat} {t:TypeId} {v0 v1 v2 v3 v4 v5 z0 z1 z2 z3 z4 z5:Value} (h:w.heap[g]? = some (.cells #[z0,z1,z2,z3,z4,z5] t (0,0))):((((((w.setCell ⟨g,0,none⟩ v0).setCell ⟨g,1,none⟩ v1).setCell ⟨g,2,none⟩ v2).setCell ⟨g,3,none⟩ v3).setCell ⟨g,4,none⟩ v4).setCell ⟨g,5,none⟩ v5).heap[g]? = some (.cells #[v0,v1,v2,v3,v4,v5] t (0,0)):=(blk_put (cs':=#[v0,v1,v2,v3,v4,v5]) (blk_put (cs':=#[v0,v1,v2,v3,v4,z5]) (blk_put (cs':=#[v0,v1,v2,v3,z4,z5]) (blk_put (cs':=#[v0,v1,v2,z3,z4,z5]) (blk_put (cs':=#[v0,v1,z2,z3,z4,z5]) (blk_put (cs':=#[v0,z1,z2,z3,z4,z5]) h 0 v0 rfl) 1 v1 rfl) 2 v2 rfl) 3 v3 rfl) 4 v4 rfl) 5 v5 rfl)
theorem z0_ {p:Prop} (f:p:=by first | rfl | (simp;done) | (simp [*];done) | (simp [bne];done)):p:=f
theorem z1_ {p:Prop} (f:p:=by repeat (first | exact Drawn0.refl _ | apply Drawn0.step)):p:=f
theorem z2_ {a0 a1 p:Prop} (h0:a0) (h1:a1) (f:a0→a1→p:=by intro h0_ h1_;repeat (first | (with_reducible first | exact h0_ | apply below_alloc | apply pw_below_drewN | apply below_drew1 | refine below_set ?_ h1_) | exact h0_)):p:=f h0 h1
theorem z3_ {p:Prop} (f:p:=by first | (with_reducible assumption) | assumption):p:=f
theorem z4_ {a0 a1 a2 p:Prop} (h0:a0) (h1:a1) (h2:a2) (f:a0→a1→a2→p:=by intro h0_ h1_ h2_;repeat (first | (with_reducible first | exact h0_ | apply below_alloc | apply pw_below_drewN | apply below_drew1 | refine below_set ?_ h1_ | refine below_set ?_ h2_) | exact h0_)):p:=f h0 h1 h2
theorem z5_ {a0 p:Prop} (h0:a0) (f:a0→p:=by intro h0_;(with_reducible repeat (first | refine blk_drewN ?_ _ | refine blk_drew ?_ | refine blk_alloc ?_ _));exact h0_):p:=f h0
theorem z6_ {a0 p:Prop} (h0:a0) (f:a0→p:=by intro h0_;repeat (first | (with_reducible first | exact h0_ | apply below_alloc | apply pw_below_drewN | apply below_drew1) | exact h0_)):p:=f h0
theorem z7_ {p:Prop} (f:p:=by first | rfl | (simp [errW_none,errW_some] <;> rfl) | (simp [*,errW_none,errW_some] <;> rfl)):p:=f
theorem z8_ {a0 p:Prop} (h0:a0) (f:a0→p:=by intro h0_;rw [hg];exact (below_size (by repeat (first | (with_reducible first | exact h0_ | apply below_alloc | apply pw_below_drewN | apply below_drew1) | exact h0_)))):p:=f h0
theorem z9_ {p:Prop} (f:p:=by first | rfl | (simp [errW_none,errW_some] <;> rfl) | (simp only [← hji16];first | rfl | (simp [errW_none,errW_some] <;> rfl)) | (simp [*,errW_none,errW_some] <;> rfl)):p:=f
theorem z10_ {a0 p:Prop} (h0:a0) (f:a0→p:=by intro h0_;have:=h0_;first | omega | exact Nat.le_refl _):p:=f h0
theorem z11_ {a0 p:Prop} (h0:a0) (f:a0→p:=by intro h0_;(with_reducible repeat (first | apply Kd.R_alloc | apply Kd.R_drewN | apply Kd.R_drew));exact h0_):p:=f h0
theorem z12_ {a0 a1 a2 p:Prop} (h0:a0) (h1:a1) (h2:a2) (f:a0→a1→a2→p:=by intro h0_ h1_ h2_;have:=h0_;have:=h1_;have:=h2_;first | omega | exact Nat.le_refl _):p:=f h0 h1 h2
theorem z13_ {a0 a1 p:Prop} (h0:a0) (h1:a1) (f:a0→a1→p:=by intro h0_ h1_;rw [hg];exact (below_size (by repeat (first | (with_reducible first | exact h0_ | apply below_alloc | apply pw_below_drewN | apply below_drew1 | refine below_set ?_ h1_) | exact h0_)))):p:=f h0 h1
theorem z14_ {p:Prop} (f:p:=by (try simp only [List.map_toArray,List.map_cons,List.map_nil]);first | done | rfl):p:=f
theorem z15_ {p:Prop} (f:p:=by have:(0:Int)<(a0.size:Int):=dT (by first | (with_reducible assumption) | assumption);omega):p:=f
theorem z16_ {p:Prop} (f:p:=by first | rfl | (simp only [List.map_toArray,List.map_cons,List.map_nil,List.append_toArray,List.cons_append,List.nil_append];first | done | rfl)):p:=f
theorem z17_ {p:Prop} (f:p:=by (try simp only [List.map_toArray,List.map_cons,List.map_nil]);first | done | rfl | (simp only [List.length_drop,List.length_take];rfl)):p:=f
end Go.Proofs.YtffjlmmlclpcnaaDoor.P

namespace Go.Proofs.YtffjlmmlclpcnaaDoor.Open
open Go.RowKit Go.Proofs.YtffjlmmlclpcnaaDoorW.PrintWords

def Opens {α:Type} (P:Program) (t:TypeId) (d:Kd α) (wf:α→Prop):Prop :=
  ∀ {H:Type} {enc:TypeId × Value→H} {W:World} {base:Nat} {spare:Nat→Bool} {held:Bool} {fuel:Nat} {cs:List Value} {x:DataW H × List MemPlace},
    DataW.trod enc P W base spare held fuel t cs=some x→∃ a:α,d.K W a cs∧wf a
section
variable {P:Program} {t e:TypeId} {α β:Type} {d:Kd α} {d':Kd β} {wf:α→Prop} {wf':β→Prop}
theorem opens_int {k:IntKind} (ht:P.underlying t=some (.int k)):Opens P t (Kd.int k) (fun n=>(Lit.int k n).wf=true):=by
  intro H enc W base spare held fuel cs x h
  obtain ⟨n,rfl,_,hw⟩:=DataW.trod_int ht h
  exact ⟨n,rfl,hw⟩
theorem opens_string (ht:P.underlying t=some .string):Opens P t Kd.string (fun s=>s.size≤maxLen):=by
  intro H enc W base spare held fuel cs x h
  obtain ⟨n,rfl,_,hw⟩:=DataW.trod_string ht h
  exact ⟨n,rfl,hw⟩
/-- The fields from one on. -/
def OpensF {α:Type} (P:Program) (fs:List Field) (off:Nat) (d:Kd α) (wf:α→Prop):Prop :=
  ∀ {H:Type} {enc:TypeId × Value→H} {W:World} {base:Nat} {spare:Nat→Bool} {held:Bool} {n:Nat} {cs:List Value},
    (∀ (i:Nat) (f:Field),fs[i]? = some f→∃ y,DataW.trod enc P W base spare held n f.type ((cs.drop f.offset).take (P.cellsOf f.type))=some y)→cs.length=off+d.sz→∃ a:α,d.K W a (cs.drop off)∧wf a
theorem opensF_one {f:Field} {off:Nat} (ho:f.offset=off) (hs:P.cellsOf f.type=d.sz) (he:Opens P f.type d wf):OpensF P [f] off d wf:=by
  intro H enc W base spare held n cs h hl
  obtain ⟨y,hy⟩:=h 0 f rfl
  rw [ho,hs,List.take_of_length_le (by rw [List.length_drop];omega)] at hy
  exact he hy
theorem opensF_cons {f:Field} {fs:List Field} {off:Nat} (ho:f.offset=off) (hs:P.cellsOf f.type=d.sz) (he:Opens P f.type d wf) (hf:OpensF P fs (off+d.sz) d' wf') :
    OpensF P (f :: fs) off (Kd.pair d d') (fun x=>wf x.1∧wf' x.2):=by
  intro H enc W base spare held n cs h hl
  have hl':cs.length=off+(d.sz+d'.sz):=hl
  obtain ⟨y,hy⟩:=h 0 f rfl
  rw [ho,hs] at hy
  obtain ⟨a,ha,hw⟩:=he hy
  obtain ⟨b,hb,hw'⟩:=hf (cs:=cs) (fun i g hg=>h (i+1) g hg) (by omega)
  refine ⟨(a,b),⟨(cs.drop off).take d.sz,cs.drop (off+d.sz),?_,ha,hb⟩,hw,hw'⟩
  rw [← List.drop_drop,List.take_append_drop]
theorem opens_struct {fs:Array Field} (ht:P.underlying t=some (.struct fs)) (hc:P.cellsOf t=d.sz) (hf:OpensF P fs.toList 0 d wf):Opens P t d wf:=by
  intro H enc W base spare held fuel cs x h
  obtain ⟨xs,n,_,_,hl,hx,hall⟩:=DataW.trod_struct ht h
  have:=hf (H:=H) (enc:=enc) (W:=W) (base:=base) (spare:=spare) (held:=held) (n:=n) (cs:=cs) (fun i f hi=>by
    have h1:=hall i f (by simpa using hi)
    have hi2:i<xs.length:=by
      rw [hx]
      have:=(List.getElem?_eq_some_iff.1 hi).1
      simpa using this
    exact ⟨xs[i],by rw [h1];exact List.getElem?_eq_getElem hi2⟩) (by rw [hl,hc];omega)
  simpa using this
theorem opens_iso {f:β→α} {g:α→β} (hg:∀ y,f (g y)=y) (h:Opens P t d wf):Opens P t (Kd.iso d f) (fun x=>wf (f x)):=by
  intro H enc W base spare held fuel cs x hx
  obtain ⟨a,ha,hw⟩:=h hx
  exact ⟨g a,by show d.K W (f (g a)) cs;rw [hg];exact ha,by show wf (f (g a));rw [hg];exact hw⟩
end
end Go.Proofs.YtffjlmmlclpcnaaDoor.Open

namespace Go.Proofs.YtffjlmmlclpcnaaDoor.RO
open Go.RowKit Go.Proofs.YtffjlmmlclpcnaaDoor.Open Go.Proofs.YtffjlmmlclpcnaaDoor.P Go.Proofs.YtffjlmmlclpcnaaDoorW.PrintWords
set_option linter.unusedVariables false

def wfT23 (x:S23):Prop:=(Lit.int .i64 x.f0).wf=true∧(Lit.int .i64 x.f1).wf=true∧(Lit.int .i64 x.f2).wf=true∧x.f3.size≤maxLen∧x.f4.size≤maxLen∧(Lit.int .i64 x.f5).wf=true
theorem op_T23:Opens Tryd.prog 23 k23 wfT23:=opens_iso (f:=fun x:S23=>(x.f0,x.f1,x.f2,x.f3,x.f4,x.f5)) (g:=fun p_=>(⟨p_.1,p_.2.1,p_.2.2.1,p_.2.2.2.1,p_.2.2.2.2.1,p_.2.2.2.2.2⟩:S23)) (fun _=>rfl) (opens_struct Tryd.underlying23 (by kernel_rfl) (opensF_cons rfl (by kernel_rfl) (opens_int Tryd.underlying2) (opensF_cons rfl (by kernel_rfl) (opens_int Tryd.underlying2) (opensF_cons rfl (by kernel_rfl) (opens_int Tryd.underlying2) (opensF_cons rfl (by kernel_rfl) (opens_string Tryd.underlying9) (opensF_cons rfl (by kernel_rfl) (opens_string Tryd.underlying9) (opensF_one rfl (by kernel_rfl) (opens_int Tryd.underlying2))))))))
end Go.Proofs.YtffjlmmlclpcnaaDoor.RO

namespace Go.Proofs.YtffjlmmlclpcnaaDoor.P
open Go.RowKit Go.Proofs.YtffjlmmlclpcnaaDoorW.PrintWords Go.Proofs.YtffjlmmlclpcnaaDoorW.PrintLast Go.Proofs.YtffjlmmlclpcnaaDoorW.PrintMore
attribute [local go_sem] max2_int min2_int max_two min_two max_three min_three max_four min_four   -- for this text's walks alone
set_option linter.unusedVariables false
set_option linter.unusedSimpArgs false

/-! ### Y26: function 5 -/
def Y26.f (a0_0:Int) (a0_1:Int) (a0_2:Int) (a0_3:ByteArray) (a0_4:ByteArray) (a0_5:Int) (a1:Int):Option (Int):=if (wrap64 (a1-(a0_3.size:Int)))<0 then (some (-1)) else (if (wrap64 ((wrap64 (a1-(a0_3.size:Int)))-(a0_4.size:Int)))<0 then (some (-1)) else (some (wrap64 ((wrap64 (a1-(a0_3.size:Int)))-(a0_4.size:Int)))))
theorem Y26.calls (a0_0:Int) (a0_1:Int) (a0_2:Int) (a0_3:ByteArray) (a0_4:ByteArray) (a0_5:Int) (a1:Int) (r:Int) (w:World) (h:Y26.f a0_0 a0_1 a0_2 a0_3 a0_4 a0_5 a1=some r) :
  Calls Tryd.prog 5 #[.agg #[.int .i64 a0_0,.int .i64 a0_1,.int .i64 a0_2,.string a0_3,.string a0_4,.int .i64 a0_5],.int .i64 a1] w fun e w'=>e = .returned (.int .i64 r)∧Below w.heap.size w w':=by
 have hu23:=Tryd.underlying23
 have HB:=aM (Below.refl w.heap.size w)
 have H:(if (wrap64 (a1-(a0_3.size:Int)))<0 then (some (-1)) else (if (wrap64 ((wrap64 (a1-(a0_3.size:Int)))-(a0_4.size:Int)))<0 then (some (-1)) else (some (wrap64 ((wrap64 (a1-(a0_3.size:Int)))-(a0_4.size:Int))))))=some r:=h
 clear h
 by_cases c3:(wrap64 (a1-(a0_3.size:Int)))<0
 ·rw [if_pos c3] at H
  have c3b0:decide ((wrap64 (a1-(a0_3.size:Int)))<0)=true:=dE c3
  clear c3
  obtain rfl:=sI H
  go_enter Tryd.func5,Tryd.ntmps5
  go_wp2_with (first | ((with_reducible refine gd_ 2 ?_);refine be_ 2 #[.int .i64 a0_0,.int .i64 a0_1,.int .i64 a0_2,.string a0_3,.string a0_4,.int .i64 a0_5] 23 ?_;intro gb101 hg w4 hbox hb;have n0_:=aM (below_step (z6_ HB.out) hb);have n1_:=aM (hbox);have n2_:=aM ((z8_ HB.out:w.heap.size≤gb101));have n3_:=aM ((z8_ HB.out:w.heap.size≤gb101));clear HB;have HB:=n0_;have BK101:=n1_;have GW101:=n2_;have GE101:=n3_;clear n0_ n1_ n2_ n3_;clear hb hbox hg;have ⟨hcz5_0,hcz5_1,hcz5_2,hcz5_3,hcz5_4,hcz5_5,hfz5_0,hfz5_1,hfz5_2,hfz5_3,hfz5_4,hfz5_5⟩:=cz6_ BK101.out))
  go_ret
  exact ⟨z7_,z2_ HB.out GE101.out⟩
 ·rw [if_neg c3] at H
  have c3b0:decide ((wrap64 (a1-(a0_3.size:Int)))<0)=false:=dF c3
  clear c3
  by_cases c6:(wrap64 ((wrap64 (a1-(a0_3.size:Int)))-(a0_4.size:Int)))<0
  ·rw [if_pos c6] at H
   have c6b0:decide ((wrap64 ((wrap64 (a1-(a0_3.size:Int)))-(a0_4.size:Int)))<0)=true:=dE c6
   clear c6
   obtain rfl:=sI H
   go_enter Tryd.func5,Tryd.ntmps5
   go_wp2_with (first | ((with_reducible refine gd_ 2 ?_);refine be_ 2 #[.int .i64 a0_0,.int .i64 a0_1,.int .i64 a0_2,.string a0_3,.string a0_4,.int .i64 a0_5] 23 ?_;intro gb101 hg w7 hbox hb;have n0_:=aM (below_step (z6_ HB.out) hb);have n1_:=aM (hbox);have n2_:=aM ((z8_ HB.out:w.heap.size≤gb101));have n3_:=aM ((z8_ HB.out:w.heap.size≤gb101));clear HB;have HB:=n0_;have BK101:=n1_;have GW101:=n2_;have GE101:=n3_;clear n0_ n1_ n2_ n3_;clear hb hbox hg;have ⟨hcz8_0,hcz8_1,hcz8_2,hcz8_3,hcz8_4,hcz8_5,hfz8_0,hfz8_1,hfz8_2,hfz8_3,hfz8_4,hfz8_5⟩:=cz6_ BK101.out))
   go_ret
   exact ⟨z7_,z2_ HB.out GE101.out⟩
  ·rw [if_neg c6] at H
   have c6b0:decide ((wrap64 ((wrap64 (a1-(a0_3.size:Int)))-(a0_4.size:Int)))<0)=false:=dF c6
   clear c6
   obtain rfl:=sI H
   go_enter Tryd.func5,Tryd.ntmps5
   go_wp2_with (first | ((with_reducible refine gd_ 2 ?_);refine be_ 2 #[.int .i64 a0_0,.int .i64 a0_1,.int .i64 a0_2,.string a0_3,.string a0_4,.int .i64 a0_5] 23 ?_;intro gb101 hg w9 hbox hb;have n0_:=aM (below_step (z6_ HB.out) hb);have n1_:=aM (hbox);have n2_:=aM ((z8_ HB.out:w.heap.size≤gb101));have n3_:=aM ((z8_ HB.out:w.heap.size≤gb101));clear HB;have HB:=n0_;have BK101:=n1_;have GW101:=n2_;have GE101:=n3_;clear n0_ n1_ n2_ n3_;clear hb hbox hg;have ⟨hcz10_0,hcz10_1,hcz10_2,hcz10_3,hcz10_4,hcz10_5,hfz10_0,hfz10_1,hfz10_2,hfz10_3,hfz10_4,hfz10_5⟩:=cz6_ BK101.out))
   go_ret
   exact ⟨z7_,z2_ HB.out GE101.out⟩


/-! ### Y10: function 15 -/
def Y10.j0:Nat→Int→Bool→Option (Bool × Bool × Bool × Bool)
 | 0,_,_=>none
 | k+1,x6,x15=>if x15=true then (some (false,false,false,false)) else (if x6=16 then (some (false,false,true,false)) else (if x6=17 then (some (true,true,false,false)) else (some (true,false,false,false))))
def Y10.f (k:Nat) (a0:Int):Option (Bool × Bool × Bool × Bool):=if a0=1 then (some (true,false,true,true)) else (if a0=2 then (some (true,true,true,true)) else (if a0=3 then (some (true,true,true,false)) else (if a0=4 then (some (true,false,true,false)) else (if a0=8 then (Y10.j0 k a0 (a0 == 8)) else (Y10.j0 k a0 (a0 == 15))))))
theorem Y10.mono_l:∀ k,(∀ y0 y1,LeO (Y10.j0 k y0 y1) (Y10.j0 (k+1) y0 y1))
 | 0=>by intros <;> exact LeO.none _
 | k+1=>by
  have ih0:=Y10.mono_l k
  ·intros
   unfold Y10.j0
   exact mO
theorem Y10.mono:∀ a0 k,LeO (Y10.f k a0) (Y10.f (k+1) a0):=by
 intro a0 k
 have ih0:=Y10.mono_l k
 unfold Y10.f
 exact mO
theorem Y10.calls (k:Nat) (a0:Int) (r1:Bool) (r2:Bool) (r3:Bool) (r4:Bool) (w:World) (h:Y10.f k a0=some (r1,r2,r3,r4)) :
  Calls Tryd.prog 15 #[.int .i64 a0] w fun e w'=>e = .returned (.tuple #[.bool r1,.bool r2,.bool r3,.bool r4])∧Drawn0 w w':=by
 have H:(if a0=1 then (some (true,false,true,true)) else (if a0=2 then (some (true,true,true,true)) else (if a0=3 then (some (true,true,true,false)) else (if a0=4 then (some (true,false,true,false)) else (if a0=8 then (Y10.j0 k a0 (a0 == 8)) else (Y10.j0 k a0 (a0 == 15)))))))=some (r1,r2,r3,r4):=h
 clear h
 by_cases c2:a0=1
 ·rw [if_pos c2] at H
  have c2b0:(a0 == 1)=true:=beq_iff_eq.mpr c2
  have c2b1:(a0 != 1)=false:=bne_eq_false_iff_eq.mpr c2
  clear c2
  simp only [Option.some.injEq,Prod.mk.injEq] at H
  obtain ⟨rfl,rfl,rfl,rfl⟩:=H
  go_enter Tryd.func15,Tryd.ntmps15
  go_wp2
  refine bodyPost_ret (results_list (rs:=[.tmp 2,.tmp 3,.tmp 4,.tmp 5]) rfl (by simp) (.tmp (.tmp (.tmp (.tmp .nil))))) rfl ?_
  exact ⟨z0_,z1_⟩
 ·rw [if_neg c2] at H
  have c2b0:(a0 == 1)=false:=beq_eq_false_iff_ne.mpr c2
  have c2b1:(a0 != 1)=true:=bne_iff_ne.mpr c2
  by_cases c3:a0=2
  ·rw [if_pos c3] at H
   have c3b0:(a0 == 2)=true:=beq_iff_eq.mpr c3
   have c3b1:(a0 != 2)=false:=bne_eq_false_iff_eq.mpr c3
   clear c3
   simp only [Option.some.injEq,Prod.mk.injEq] at H
   obtain ⟨rfl,rfl,rfl,rfl⟩:=H
   go_enter Tryd.func15,Tryd.ntmps15
   go_wp2
   refine bodyPost_ret (results_list (rs:=[.tmp 2,.tmp 3,.tmp 4,.tmp 5]) rfl (by simp) (.tmp (.tmp (.tmp (.tmp .nil))))) rfl ?_
   exact ⟨z0_,z1_⟩
  ·rw [if_neg c3] at H
   have c3b0:(a0 == 2)=false:=beq_eq_false_iff_ne.mpr c3
   have c3b1:(a0 != 2)=true:=bne_iff_ne.mpr c3
   by_cases c4:a0=3
   ·rw [if_pos c4] at H
    have c4b0:(a0 == 3)=true:=beq_iff_eq.mpr c4
    have c4b1:(a0 != 3)=false:=bne_eq_false_iff_eq.mpr c4
    clear c4
    simp only [Option.some.injEq,Prod.mk.injEq] at H
    obtain ⟨rfl,rfl,rfl,rfl⟩:=H
    go_enter Tryd.func15,Tryd.ntmps15
    go_wp2
    refine bodyPost_ret (results_list (rs:=[.tmp 2,.tmp 3,.tmp 4,.tmp 5]) rfl (by simp) (.tmp (.tmp (.tmp (.tmp .nil))))) rfl ?_
    exact ⟨z0_,z1_⟩
   ·rw [if_neg c4] at H
    have c4b0:(a0 == 3)=false:=beq_eq_false_iff_ne.mpr c4
    have c4b1:(a0 != 3)=true:=bne_iff_ne.mpr c4
    by_cases c5:a0=4
    ·rw [if_pos c5] at H
     have c5b0:(a0 == 4)=true:=beq_iff_eq.mpr c5
     have c5b1:(a0 != 4)=false:=bne_eq_false_iff_eq.mpr c5
     clear c5
     simp only [Option.some.injEq,Prod.mk.injEq] at H
     obtain ⟨rfl,rfl,rfl,rfl⟩:=H
     go_enter Tryd.func15,Tryd.ntmps15
     go_wp2
     refine bodyPost_ret (results_list (rs:=[.tmp 2,.tmp 3,.tmp 4,.tmp 5]) rfl (by simp) (.tmp (.tmp (.tmp (.tmp .nil))))) rfl ?_
     exact ⟨z0_,z1_⟩
    ·rw [if_neg c5] at H
     have c5b0:(a0 == 4)=false:=beq_eq_false_iff_ne.mpr c5
     have c5b1:(a0 != 4)=true:=bne_iff_ne.mpr c5
     have HC6:=aM H
     clear H
     go_enter Tryd.func15,Tryd.ntmps15
     go_upto_if 15 with (fail)
     go_cut [15] (fun v15 wc=>∃ (kq:Nat) (x15_5:Bool),v15 = .bool x15_5∧Aside0 (Y10.j0 kq a0 x15_5=some (r1,r2,r3,r4))∧Aside0 (kq≤k)∧Drawn0 w wc)
     case first =>
      have H:=HC6.out
      clear HC6
      by_cases c7:a0=8
      ·rw [if_pos c7] at H
       have c7b0:(a0 == 8)=true:=beq_iff_eq.mpr c7
       have c7b1:(a0 != 8)=false:=bne_eq_false_iff_eq.mpr c7
       clear c7
       (first | rw [c7b0] | (simp only [i64_w,i32_w];rw [c7b0]) | skip)
       have H':=aM H
       clear H
       go_wp2
       go_meet
       case rel=>exact ⟨_,((a0 == 8)),(z0_),H',⟨by first | omega | exact Nat.le_refl _⟩,z1_⟩
      ·rw [if_neg c7] at H
       have c7b0:(a0 == 8)=false:=beq_eq_false_iff_ne.mpr c7
       have c7b1:(a0 != 8)=true:=bne_iff_ne.mpr c7
       (first | rw [c7b0] | (simp only [i64_w,i32_w];rw [c7b0]) | skip)
       have H':=aM H
       clear H
       go_wp2
       go_meet
       case rel=>exact ⟨_,((a0 == 15)),(z0_),H',⟨by first | omega | exact Nat.le_refl _⟩,z1_⟩
     case rest =>
      clear HC6
      try clear c1
      try clear c2
      try clear c2b0
      try clear c2b1
      try clear p2
      try clear c3
      try clear c3b0
      try clear c3b1
      try clear c4
      try clear c4b0
      try clear c4b1
      try clear c5
      try clear c5b0
      try clear c5b1
      try clear c7
      try clear c7b0
      try clear c7b1
      obtain ⟨kq,x15_5,rfl,HA,HJ5,⟨mc5,rfl⟩⟩:=hcut
      cases kq with
      | zero=>exact absurd HA.out (by simp [Y10.j0])
      | succ kj5 =>
       have H:=HA.out
       clear HA
       simp only [Y10.j0] at H
       by_cases c8:x15_5=true
       ·subst c8
        have H1:(some (false,false,false,false))=some (r1,r2,r3,r4):=by rw [if_pos rfl] at H;exact H
        clear H
        have H:=H1
        clear H1
        simp only [Option.some.injEq,Prod.mk.injEq] at H
        obtain ⟨rfl,rfl,rfl,rfl⟩:=H
        go_wp2
        refine bodyPost_ret (results_list (rs:=[.tmp 2,.tmp 3,.tmp 4,.tmp 5]) rfl (by simp) (.tmp (.tmp (.tmp (.tmp .nil))))) rfl ?_
        exact ⟨z0_,z1_⟩
       ·replace c8:=Bool.eq_false_iff.mpr c8
        subst c8
        have H1:(if a0=16 then (some (false,false,true,false)) else (if a0=17 then (some (true,true,false,false)) else (some (true,false,false,false))))=some (r1,r2,r3,r4):=by rw [if_neg (show ¬ (false=true) by decide)] at H;exact H
        clear H
        have H:=H1
        clear H1
        by_cases c9:a0=16
        ·rw [if_pos c9] at H
         have c9b0:(a0 == 16)=true:=beq_iff_eq.mpr c9
         have c9b1:(a0 != 16)=false:=bne_eq_false_iff_eq.mpr c9
         clear c9
         simp only [Option.some.injEq,Prod.mk.injEq] at H
         obtain ⟨rfl,rfl,rfl,rfl⟩:=H
         go_wp2
         refine bodyPost_ret (results_list (rs:=[.tmp 2,.tmp 3,.tmp 4,.tmp 5]) rfl (by simp) (.tmp (.tmp (.tmp (.tmp .nil))))) rfl ?_
         exact ⟨z0_,z1_⟩
        ·rw [if_neg c9] at H
         have c9b0:(a0 == 16)=false:=beq_eq_false_iff_ne.mpr c9
         have c9b1:(a0 != 16)=true:=bne_iff_ne.mpr c9
         by_cases c10:a0=17
         ·rw [if_pos c10] at H
          have c10b0:(a0 == 17)=true:=beq_iff_eq.mpr c10
          have c10b1:(a0 != 17)=false:=bne_eq_false_iff_eq.mpr c10
          clear c10
          simp only [Option.some.injEq,Prod.mk.injEq] at H
          obtain ⟨rfl,rfl,rfl,rfl⟩:=H
          go_wp2
          refine bodyPost_ret (results_list (rs:=[.tmp 2,.tmp 3,.tmp 4,.tmp 5]) rfl (by simp) (.tmp (.tmp (.tmp (.tmp .nil))))) rfl ?_
          exact ⟨z0_,z1_⟩
         ·rw [if_neg c10] at H
          have c10b0:(a0 == 17)=false:=beq_eq_false_iff_ne.mpr c10
          have c10b1:(a0 != 17)=true:=bne_iff_ne.mpr c10
          simp only [Option.some.injEq,Prod.mk.injEq] at H
          obtain ⟨rfl,rfl,rfl,rfl⟩:=H
          go_wp2
          refine bodyPost_ret (results_list (rs:=[.tmp 2,.tmp 3,.tmp 4,.tmp 5]) rfl (by simp) (.tmp (.tmp (.tmp (.tmp .nil))))) rfl ?_
          exact ⟨z0_,z1_⟩


/-! ### Y6: function 16 -/
def Y6.j0:Nat→Int→List ByteArray→Bool→Option (ByteArray)
 | 0,_,_,_=>none
 | k+1,x0,x3,x12=>if x12=true then (some (⟨#[]⟩:ByteArray)) else (if 0≤x0 then (if x0<(x3.length:Int) then (some (rdOf ByteArray.empty x3 x0)) else (none)) else (none))
def Y6.f (k:Nat) (a0:Int):Option (ByteArray):=(some (([(⟨#[]⟩:ByteArray),(⟨#[112,117,116]⟩:ByteArray),(⟨#[111,118,101,114]⟩:ByteArray),(⟨#[100,101,108]⟩:ByteArray),(⟨#[103,101,116]⟩:ByteArray),(⟨#[100,101,108,105,118,101,114]⟩:ByteArray),(⟨#[108,111,115,101]⟩:ByteArray),(⟨#[116,119,105,99,101]⟩:ByteArray),(⟨#[116,105,99,107]⟩:ByteArray),(⟨#[99,114,97,115,104]⟩:ByteArray),(⟨#[115,116,97,114,116]⟩:ByteArray),(⟨#[115,117,115,112,101,99,116]⟩:ByteArray),(⟨#[116,114,117,115,116]⟩:ByteArray),(⟨#[104,97,110,100]⟩:ByteArray),(⟨#[112,97,99,107]⟩:ByteArray),(⟨#[115,101,116,116,108,101]⟩:ByteArray),(⟨#[115,112,114,101,97,100]⟩:ByteArray),(⟨#[101,120,99,104,97,110,103,101]⟩:ByteArray)]:List ByteArray):List ByteArray)).bind fun y102=>(if a0<1 then (Y6.j0 k a0 y102 true) else (Y6.j0 k a0 y102 (decide (a0≥(y102.length:Int)))))
theorem Y6.mono_l:∀ k,(∀ y0 y1 y2,LeO (Y6.j0 k y0 y1 y2) (Y6.j0 (k+1) y0 y1 y2))
 | 0=>by intros <;> exact LeO.none _
 | k+1=>by
  have ih0:=Y6.mono_l k
  ·intros
   unfold Y6.j0
   exact mO
theorem Y6.mono:∀ a0 k,LeO (Y6.f k a0) (Y6.f (k+1) a0):=by
 intro a0 k
 have ih0:=Y6.mono_l k
 unfold Y6.f
 exact mO
theorem Y6.calls (k:Nat) (a0:Int) (r:ByteArray) (w:World) (h:Y6.f k a0=some r) :
  Calls Tryd.prog 16 #[.int .i64 a0] w fun e w'=>e = .returned (.string r)∧Below w.heap.size w w':=by
 have HB:=aM (Below.refl w.heap.size w)
 have H:((some (([(⟨#[]⟩:ByteArray),(⟨#[112,117,116]⟩:ByteArray),(⟨#[111,118,101,114]⟩:ByteArray),(⟨#[100,101,108]⟩:ByteArray),(⟨#[103,101,116]⟩:ByteArray),(⟨#[100,101,108,105,118,101,114]⟩:ByteArray),(⟨#[108,111,115,101]⟩:ByteArray),(⟨#[116,119,105,99,101]⟩:ByteArray),(⟨#[116,105,99,107]⟩:ByteArray),(⟨#[99,114,97,115,104]⟩:ByteArray),(⟨#[115,116,97,114,116]⟩:ByteArray),(⟨#[115,117,115,112,101,99,116]⟩:ByteArray),(⟨#[116,114,117,115,116]⟩:ByteArray),(⟨#[104,97,110,100]⟩:ByteArray),(⟨#[112,97,99,107]⟩:ByteArray),(⟨#[115,101,116,116,108,101]⟩:ByteArray),(⟨#[115,112,114,101,97,100]⟩:ByteArray),(⟨#[101,120,99,104,97,110,103,101]⟩:ByteArray)]:List ByteArray):List ByteArray)).bind fun y102=>(if a0<1 then (Y6.j0 k a0 y102 true) else (Y6.j0 k a0 y102 (decide (a0≥(y102.length:Int))))))=some r:=h
 clear h
 obtain ⟨y102,hy102⟩:∃ y_:List ByteArray,y_=(([(⟨#[]⟩:ByteArray),(⟨#[112,117,116]⟩:ByteArray),(⟨#[111,118,101,114]⟩:ByteArray),(⟨#[100,101,108]⟩:ByteArray),(⟨#[103,101,116]⟩:ByteArray),(⟨#[100,101,108,105,118,101,114]⟩:ByteArray),(⟨#[108,111,115,101]⟩:ByteArray),(⟨#[116,119,105,99,101]⟩:ByteArray),(⟨#[116,105,99,107]⟩:ByteArray),(⟨#[99,114,97,115,104]⟩:ByteArray),(⟨#[115,116,97,114,116]⟩:ByteArray),(⟨#[115,117,115,112,101,99,116]⟩:ByteArray),(⟨#[116,114,117,115,116]⟩:ByteArray),(⟨#[104,97,110,100]⟩:ByteArray),(⟨#[112,97,99,107]⟩:ByteArray),(⟨#[115,101,116,116,108,101]⟩:ByteArray),(⟨#[115,112,114,101,97,100]⟩:ByteArray),(⟨#[101,120,99,104,97,110,103,101]⟩:ByteArray)]:List ByteArray)):=⟨_,rfl⟩
 replace H:(if a0<1 then (Y6.j0 k a0 y102 true) else (Y6.j0 k a0 y102 (decide (a0≥(y102.length:Int)))))=some r:=by first | (rw [hy102];with_reducible exact H) | (have H2_:=(Option.bind_some _ _).symm.trans H;rw [hy102];with_reducible exact H2_) | (have H2_:=(Option.bind_some _ _).symm.trans H;with_reducible exact H2_) | with_reducible exact H | (rw [hy102];exact H) | exact H
 have Ny102:=aM hy102
 clear hy102
 have HC2:=aM H
 clear H
 go_enter Tryd.func16,Tryd.ntmps16
 go_upto_region 2 with (first | ((with_reducible refine gd_ 4 ?_);(try (refine gate_guard (by rfl) ?_;dsimp only));refine Kd.R_lit Kd.string _ 9 ?hg (N:=4) ?hd (xs:=([(⟨#[]⟩:ByteArray),(⟨#[112,117,116]⟩:ByteArray),(⟨#[111,118,101,114]⟩:ByteArray),(⟨#[100,101,108]⟩:ByteArray),(⟨#[103,101,116]⟩:ByteArray),(⟨#[100,101,108,105,118,101,114]⟩:ByteArray),(⟨#[108,111,115,101]⟩:ByteArray),(⟨#[116,119,105,99,101]⟩:ByteArray),(⟨#[116,105,99,107]⟩:ByteArray),(⟨#[99,114,97,115,104]⟩:ByteArray),(⟨#[115,116,97,114,116]⟩:ByteArray),(⟨#[115,117,115,112,101,99,116]⟩:ByteArray),(⟨#[116,114,117,115,116]⟩:ByteArray),(⟨#[104,97,110,100]⟩:ByteArray),(⟨#[112,97,99,107]⟩:ByteArray),(⟨#[115,101,116,116,108,101]⟩:ByteArray),(⟨#[115,112,114,101,97,100]⟩:ByteArray),(⟨#[101,120,99,104,97,110,103,101]⟩:ByteArray)]:List ByteArray)) (inner:=[.string (⟨#[]⟩:ByteArray),.string (⟨#[112,117,116]⟩:ByteArray),.string (⟨#[111,118,101,114]⟩:ByteArray),.string (⟨#[100,101,108]⟩:ByteArray),.string (⟨#[103,101,116]⟩:ByteArray),.string (⟨#[100,101,108,105,118,101,114]⟩:ByteArray),.string (⟨#[108,111,115,101]⟩:ByteArray),.string (⟨#[116,119,105,99,101]⟩:ByteArray),.string (⟨#[116,105,99,107]⟩:ByteArray),.string (⟨#[99,114,97,115,104]⟩:ByteArray),.string (⟨#[115,116,97,114,116]⟩:ByteArray),.string (⟨#[115,117,115,112,101,99,116]⟩:ByteArray),.string (⟨#[116,114,117,115,116]⟩:ByteArray),.string (⟨#[104,97,110,100]⟩:ByteArray),.string (⟨#[112,97,99,107]⟩:ByteArray),.string (⟨#[115,101,116,116,108,101]⟩:ByteArray),.string (⟨#[115,112,114,101,97,100]⟩:ByteArray),.string (⟨#[101,120,99,104,97,110,103,101]⟩:ByteArray)]) (ok:=fun _=>True) (okp:=fun _=>True) ?hr ?hp (fun _ hk=>hk) trivial (Below.refl _ _) (Nat.le_refl _) (by simp) ?_;(case hd=>rfl);(case hg=>rfl);(case hr=>first | (go_simp;done) | (go_simp;rfl));(case hp=>exact (Reps.one (show Kd.M Kd.string _ _ _ (⟨#[]⟩:ByteArray) [.string (⟨#[]⟩:ByteArray)] from rfl) (Reps.one (show Kd.M Kd.string _ _ _ (⟨#[112,117,116]⟩:ByteArray) [.string (⟨#[112,117,116]⟩:ByteArray)] from rfl) (Reps.one (show Kd.M Kd.string _ _ _ (⟨#[111,118,101,114]⟩:ByteArray) [.string (⟨#[111,118,101,114]⟩:ByteArray)] from rfl) (Reps.one (show Kd.M Kd.string _ _ _ (⟨#[100,101,108]⟩:ByteArray) [.string (⟨#[100,101,108]⟩:ByteArray)] from rfl) (Reps.one (show Kd.M Kd.string _ _ _ (⟨#[103,101,116]⟩:ByteArray) [.string (⟨#[103,101,116]⟩:ByteArray)] from rfl) (Reps.one (show Kd.M Kd.string _ _ _ (⟨#[100,101,108,105,118,101,114]⟩:ByteArray) [.string (⟨#[100,101,108,105,118,101,114]⟩:ByteArray)] from rfl) (Reps.one (show Kd.M Kd.string _ _ _ (⟨#[108,111,115,101]⟩:ByteArray) [.string (⟨#[108,111,115,101]⟩:ByteArray)] from rfl) (Reps.one (show Kd.M Kd.string _ _ _ (⟨#[116,119,105,99,101]⟩:ByteArray) [.string (⟨#[116,119,105,99,101]⟩:ByteArray)] from rfl) (Reps.one (show Kd.M Kd.string _ _ _ (⟨#[116,105,99,107]⟩:ByteArray) [.string (⟨#[116,105,99,107]⟩:ByteArray)] from rfl) (Reps.one (show Kd.M Kd.string _ _ _ (⟨#[99,114,97,115,104]⟩:ByteArray) [.string (⟨#[99,114,97,115,104]⟩:ByteArray)] from rfl) (Reps.one (show Kd.M Kd.string _ _ _ (⟨#[115,116,97,114,116]⟩:ByteArray) [.string (⟨#[115,116,97,114,116]⟩:ByteArray)] from rfl) (Reps.one (show Kd.M Kd.string _ _ _ (⟨#[115,117,115,112,101,99,116]⟩:ByteArray) [.string (⟨#[115,117,115,112,101,99,116]⟩:ByteArray)] from rfl) (Reps.one (show Kd.M Kd.string _ _ _ (⟨#[116,114,117,115,116]⟩:ByteArray) [.string (⟨#[116,114,117,115,116]⟩:ByteArray)] from rfl) (Reps.one (show Kd.M Kd.string _ _ _ (⟨#[104,97,110,100]⟩:ByteArray) [.string (⟨#[104,97,110,100]⟩:ByteArray)] from rfl) (Reps.one (show Kd.M Kd.string _ _ _ (⟨#[112,97,99,107]⟩:ByteArray) [.string (⟨#[112,97,99,107]⟩:ByteArray)] from rfl) (Reps.one (show Kd.M Kd.string _ _ _ (⟨#[115,101,116,116,108,101]⟩:ByteArray) [.string (⟨#[115,101,116,116,108,101]⟩:ByteArray)] from rfl) (Reps.one (show Kd.M Kd.string _ _ _ (⟨#[115,112,114,101,97,100]⟩:ByteArray) [.string (⟨#[115,112,114,101,97,100]⟩:ByteArray)] from rfl) (Reps.one (show Kd.M Kd.string _ _ _ (⟨#[101,120,99,104,97,110,103,101]⟩:ByteArray) [.string (⟨#[101,120,99,104,97,110,103,101]⟩:ByteArray)] from rfl) (Reps.none _ _))))))))))))))))))));intro v103 w3 ho4 hb hg_ hnew_;clear hg_ hnew_;(first | rw [← Ny102.out] at ho4 | (simp only [Int.reduceToNat] at ho4;rw [← Ny102.out] at ho4));have n0_:=aM (Kd.R_lower ho4 (below_size (z6_ HB.out)));have n1_:=aM (below_step (z6_ HB.out) hb);clear HB;have HO104:=n0_;have HB:=n1_;clear n0_ n1_;clear hb ho4))
 (try simp only [Act.put,sa_,s0_,ss_])
 go_cut [12] (fun v12 wc=>∃ (kq:Nat) (x12_1:Bool),v12 = .bool x12_1∧Aside0 (Y6.j0 kq a0 y102 x12_1=some r)∧Aside0 (kq≤k)∧Aside0 (Kd.R Kd.string 9 wc w.heap.size (fun _=>True) v103 y102)∧Aside0 (Below w.heap.size w wc))
 case first =>
  have H:=HC2.out
  clear HC2
  by_cases c5:a0<1
  ·rw [if_pos c5] at H
   have c5b0:decide (a0<1)=true:=dE c5
   clear c5
   (first | rw [c5b0] | (simp only [i64_w,i32_w];rw [c5b0]) | skip)
   have H':=aM H
   clear H
   go_wp2
   go_meet
   case rel=>exact ⟨_,(true),(z0_),H',⟨by first | omega | exact Nat.le_refl _⟩,⟨z11_ HO104.out⟩,⟨z6_ HB.out⟩⟩
  ·rw [if_neg c5] at H
   have c5b0:decide (a0<1)=false:=dF c5
   clear c5
   (first | rw [c5b0] | (simp only [i64_w,i32_w];rw [c5b0]) | skip)
   have H':=aM H
   clear H
   obtain ⟨Ao6,co6,eo6⟩:=Kd.R_slice HO104.out
   subst eo6
   go_wp2
   go_meet
   case rel=>exact ⟨_,(decide (a0≥(y102.length:Int))),(z0_),H',⟨by first | omega | exact Nat.le_refl _⟩,⟨z11_ HO104.out⟩,⟨z6_ HB.out⟩⟩
 case rest =>
  clear HC2
  try clear c1
  try clear p2
  try clear c5
  try clear c5b0
  obtain ⟨kq,x12_1,rfl,HA,HJ1,HO_3,HB⟩:=hcut
  cases kq with
  | zero=>exact absurd HA.out (by simp [Y6.j0])
  | succ kj1 =>
   have H:=HA.out
   clear HA
   simp only [Y6.j0] at H
   by_cases c7:x12_1=true
   ·subst c7
    have H1:(some (⟨#[]⟩:ByteArray))=some r:=by rw [if_pos rfl] at H;exact H
    clear H
    have H:=H1
    clear H1
    obtain rfl:=sI H
    go_wp2
    go_ret
    exact ⟨z7_,z6_ HB.out⟩
   ·replace c7:=Bool.eq_false_iff.mpr c7
    subst c7
    have H1:(if 0≤a0 then (if a0<(y102.length:Int) then (some (rdOf ByteArray.empty y102 a0)) else (none)) else (none))=some r:=by rw [if_neg (show ¬ (false=true) by decide)] at H;exact H
    clear H
    have H:=H1
    clear H1
    by_cases c8:0≤a0
    ·rw [if_pos c8] at H
     have c8b0:decide (0≤a0)=true:=dE c8
     clear c8
     by_cases c9:a0<(y102.length:Int)
     ·rw [if_pos c9] at H
      have c9b0:decide (a0<(y102.length:Int))=true:=dE c9
      clear c9
      obtain rfl:=sI H
      obtain ⟨Ao10,co10,eo10⟩:=Kd.R_slice HO_3.out
      subst eo10
      have p105:0≤(a0:Int):=dT (z3_)
      have q105:a0<(y102.length:Int):=dT (z3_)
      obtain ⟨ad105,e105,hx105_0⟩:=Kd.at_string (Kd.R_reads' HO_3.out).2.2 a0 p105 q105
      cases e105
      replace p105:=eq_true p105
      replace q105:=eq_true q105
      go_wp2
      go_ret
      exact ⟨z7_,z6_ HB.out⟩
     ·rw [if_neg c9] at H
      exact nO H
    ·rw [if_neg c8] at H
     exact nO H


/-! ### Y15: function 31 -/
def Y15.f (a0:Int) (a1:Int) (a2:Int):Option (Bool):=if a0≥a1 then (some (decide (a0≤a2))) else (some false)
theorem Y15.calls (a0:Int) (a1:Int) (a2:Int) (r:Bool) (w:World) (h:Y15.f a0 a1 a2=some r) :
  Calls Tryd.prog 31 #[.int .i64 a0,.int .i64 a1,.int .i64 a2] w fun e w'=>e = .returned (.bool r)∧Drawn0 w w':=by
 have H:(if a0≥a1 then (some (decide (a0≤a2))) else (some false))=some r:=h
 clear h
 by_cases c4:a0≥a1
 ·rw [if_pos c4] at H
  have c4b0:decide (a1≤a0)=true:=dE c4
  clear c4
  obtain rfl:=sI H
  go_enter Tryd.func31,Tryd.ntmps31
  go_wp2
  go_ret
  exact ⟨z0_,z1_⟩
 ·rw [if_neg c4] at H
  have c4b0:decide (a1≤a0)=false:=dF c4
  clear c4
  obtain rfl:=sI H
  go_enter Tryd.func31,Tryd.ntmps31
  go_wp2
  go_ret
  exact ⟨z0_,z1_⟩


/-! ### Y5: function 32 -/
mutual
def Y5.j0:Nat→ByteArray→Bool→Option (Bool)
 | 0,_,_=>none
 | k+1,x0,x12=>if x12=true then (some false) else (Y5.l0 k x0 0)
def Y5.l0:Nat→ByteArray→Int→Option (Bool)
 | 0,_,_=>none
 | k+1,x0,x3=>if x3<(x0.size:Int) then (if 0≤x3 then (if (bt x0 x3)≥97 then (if ((bt x0 x3)≤122) then (Y5.l0 k x0 (wrap64 (x3+1))) else (if x3=0 then (some false) else (if (bt x0 x3)≥48 then (if ((bt x0 x3)≤57) then (Y5.l0 k x0 (wrap64 (x3+1))) else (if (bt x0 x3)=95 then (Y5.l0 k x0 (wrap64 (x3+1))) else (some false))) else (if (bt x0 x3)=95 then (Y5.l0 k x0 (wrap64 (x3+1))) else (some false))))) else (if x3=0 then (some false) else (if (bt x0 x3)≥48 then (if ((bt x0 x3)≤57) then (Y5.l0 k x0 (wrap64 (x3+1))) else (if (bt x0 x3)=95 then (Y5.l0 k x0 (wrap64 (x3+1))) else (some false))) else (if (bt x0 x3)=95 then (Y5.l0 k x0 (wrap64 (x3+1))) else (some false))))) else (none)) else (some true)
end
def Y5.f (k:Nat) (a0:ByteArray):Option (Bool):=if (a0.size:Int)<1 then (Y5.j0 k a0 true) else (Y5.j0 k a0 (decide ((a0.size:Int)>20)))
theorem Y5.mono_l:∀ k,(∀ y0 y1,LeO (Y5.j0 k y0 y1) (Y5.j0 (k+1) y0 y1))∧(∀ y0 y1,LeO (Y5.l0 k y0 y1) (Y5.l0 (k+1) y0 y1))
 | 0=>by refine ⟨?_,?_⟩ <;> intros <;> exact LeO.none _
 | k+1=>by
  obtain ⟨ih0,ih1⟩:=Y5.mono_l k
  refine ⟨?_,?_⟩
  ·intros
   unfold Y5.j0
   exact mO
  ·intros
   unfold Y5.l0
   exact mO
theorem Y5.mono:∀ a0 k,LeO (Y5.f k a0) (Y5.f (k+1) a0):=by
 intro a0 k
 obtain ⟨ih0,ih1⟩:=Y5.mono_l k
 unfold Y5.f
 exact mO
theorem Y5.calls (k:Nat) (a0:ByteArray) (r:Bool) (w:World) (h:Y5.f k a0=some r) :
  Calls Tryd.prog 32 #[.string a0] w fun e w'=>e = .returned (.bool r)∧Drawn0 w w':=by
 have H:(if (a0.size:Int)<1 then (Y5.j0 k a0 true) else (Y5.j0 k a0 (decide ((a0.size:Int)>20))))=some r:=h
 clear h
 have HC2:=aM H
 clear H
 go_enter Tryd.func32,Tryd.ntmps32
 go_upto_region 1 with (fail)
 go_cut [12] (fun v12 wc=>∃ (kq:Nat) (x12_1:Bool),v12 = .bool x12_1∧Aside0 (Y5.j0 kq a0 x12_1=some r)∧Aside0 (kq≤k)∧Drawn0 w wc)
 case first =>
  have H:=HC2.out
  clear HC2
  by_cases c3:(a0.size:Int)<1
  ·rw [if_pos c3] at H
   have c3b0:decide ((a0.size:Int)<1)=true:=dE c3
   have c3b1:decide (a0.size<1)=true:=dE (by omega)
   clear c3
   (first | rw [c3b0] | (simp only [i64_w,i32_w];rw [c3b0]) | skip)
   have H':=aM H
   clear H
   go_wp2
   go_meet
   case rel=>exact ⟨_,(true),(z0_),H',⟨by first | omega | exact Nat.le_refl _⟩,z1_⟩
  ·rw [if_neg c3] at H
   have c3b0:decide ((a0.size:Int)<1)=false:=dF c3
   have c3b1:decide (a0.size<1)=false:=dF (by omega)
   clear c3
   (first | rw [c3b0] | (simp only [i64_w,i32_w];rw [c3b0]) | skip)
   have H':=aM H
   clear H
   go_wp2
   go_meet
   case rel=>exact ⟨_,(decide ((a0.size:Int)>20)),(z0_),H',⟨by first | omega | exact Nat.le_refl _⟩,z1_⟩
 case rest =>
  clear HC2
  try clear p2
  try clear c3
  try clear c3b0
  try clear c3b1
  obtain ⟨kq,x12_1,rfl,HA,HJ1,⟨mc1,rfl⟩⟩:=hcut
  cases kq with
  | zero=>exact absurd HA.out (by simp [Y5.j0])
  | succ kj1 =>
   have H:=HA.out
   clear HA
   simp only [Y5.j0] at H
   by_cases c4:x12_1=true
   ·subst c4
    have H1:(some false)=some r:=by rw [if_pos rfl] at H;exact H
    clear H
    have H:=H1
    clear H1
    obtain rfl:=sI H
    go_wp2
    go_ret
    exact ⟨z0_,z1_⟩
   ·replace c4:=Bool.eq_false_iff.mpr c4
    subst c4
    have H1:(Y5.l0 kj1 a0 0)=some r:=by rw [if_neg (show ¬ (false=true) by decide)] at H;exact H
    clear H
    have H:=H1
    clear H1
    have H':=aM H
    clear H
    go_wp2
    go_loopg [3] kj1 (fun kq v3 w'=>∃ (x3_2:Int),v3 = .int .i64 x3_2∧Aside0 (Y5.l0 kq a0 x3_2=some r)∧Aside0 (kq≤kj1)∧Drawn0 w w')
    case atStart=>exact ⟨(0),(z0_),H',⟨Nat.le_refl _⟩,z1_⟩
    case round =>
     clear H'
     try clear c1
     try clear p2
     try clear c3
     try clear c3b0
     try clear c3b1
     try clear c4
     try clear p2
     obtain ⟨x3_2,rfl,HA,HK2,⟨m2,rfl⟩⟩:=hrel
     cases gk with
     | zero=>exact absurd HA.out (by simp [Y5.l0])
     | succ k2 =>
      have H:=HA.out
      clear HA
      simp only [Y5.l0] at H
      by_cases c5:x3_2<(a0.size:Int)
      ·rw [if_pos c5] at H
       have c5b0:decide (x3_2<(a0.size:Int))=true:=dE c5
       clear c5
       by_cases c6:0≤x3_2
       ·rw [if_pos c6] at H
        have c6b0:decide (0≤x3_2)=true:=dE c6
        clear c6
        by_cases c8:(bt a0 x3_2)≥97
        ·rw [if_pos c8] at H
         have c8b0:decide (97≤(bt a0 x3_2))=true:=dE c8
         clear c8
         by_cases c9:((bt a0 x3_2)≤122)
         ·rw [if_pos c9] at H
          have c9b0:decide ((bt a0 x3_2)≤122)=true:=dE c9
          clear c9
          have H':=aM H
          clear H
          have p7:0≤(x3_2:Int):=dT (z3_)
          have q7:x3_2<(a0.size:Int):=dT (z3_)
          have hx7:=bt_at a0 x3_2
          replace p7:=eq_true p7
          replace q7:=eq_true q7
          go_wp2
          go_roundg k2
          case measure=>have:=HJ1.out;have:=HK2.out;omega
          case rel=>exact ⟨(wrap64 (x3_2+1)),(z0_),H',⟨by have:=HJ1.out;have:=HK2.out;omega⟩,z1_⟩
         ·rw [if_neg c9] at H
          have c9b0:decide ((bt a0 x3_2)≤122)=false:=dF c9
          clear c9
          by_cases c10:x3_2=0
          ·rw [if_pos c10] at H
           have c10b0:(x3_2 == 0)=true:=beq_iff_eq.mpr c10
           have c10b1:(x3_2 != 0)=false:=bne_eq_false_iff_eq.mpr c10
           clear c10
           obtain rfl:=sI H
           have p7:0≤(x3_2:Int):=dT (z3_)
           have q7:x3_2<(a0.size:Int):=dT (z3_)
           have hx7:=bt_at a0 x3_2
           replace p7:=eq_true p7
           replace q7:=eq_true q7
           go_wp2
           go_ret
           exact ⟨z0_,z1_⟩
          ·rw [if_neg c10] at H
           have c10b0:(x3_2 == 0)=false:=beq_eq_false_iff_ne.mpr c10
           have c10b1:(x3_2 != 0)=true:=bne_iff_ne.mpr c10
           by_cases c11:(bt a0 x3_2)≥48
           ·rw [if_pos c11] at H
            have c11b0:decide (48≤(bt a0 x3_2))=true:=dE c11
            clear c11
            by_cases c12:((bt a0 x3_2)≤57)
            ·rw [if_pos c12] at H
             have c12b0:decide ((bt a0 x3_2)≤57)=true:=dE c12
             clear c12
             have H':=aM H
             clear H
             have p7:0≤(x3_2:Int):=dT (z3_)
             have q7:x3_2<(a0.size:Int):=dT (z3_)
             have hx7:=bt_at a0 x3_2
             replace p7:=eq_true p7
             replace q7:=eq_true q7
             go_wp2
             go_roundg k2
             case measure=>have:=HJ1.out;have:=HK2.out;omega
             case rel=>exact ⟨(wrap64 (x3_2+1)),(z0_),H',⟨by have:=HJ1.out;have:=HK2.out;omega⟩,z1_⟩
            ·rw [if_neg c12] at H
             have c12b0:decide ((bt a0 x3_2)≤57)=false:=dF c12
             clear c12
             by_cases c13:(bt a0 x3_2)=95
             ·rw [if_pos c13] at H
              have c13b0:((bt a0 x3_2) == 95)=true:=beq_iff_eq.mpr c13
              have c13b1:((bt a0 x3_2) != 95)=false:=bne_eq_false_iff_eq.mpr c13
              clear c13
              have H':=aM H
              clear H
              have p7:0≤(x3_2:Int):=dT (z3_)
              have q7:x3_2<(a0.size:Int):=dT (z3_)
              have hx7:=bt_at a0 x3_2
              replace p7:=eq_true p7
              replace q7:=eq_true q7
              go_wp2
              go_roundg k2
              case measure=>have:=HJ1.out;have:=HK2.out;omega
              case rel=>exact ⟨(wrap64 (x3_2+1)),(z0_),H',⟨by have:=HJ1.out;have:=HK2.out;omega⟩,z1_⟩
             ·rw [if_neg c13] at H
              have c13b0:((bt a0 x3_2) == 95)=false:=beq_eq_false_iff_ne.mpr c13
              have c13b1:((bt a0 x3_2) != 95)=true:=bne_iff_ne.mpr c13
              obtain rfl:=sI H
              have p7:0≤(x3_2:Int):=dT (z3_)
              have q7:x3_2<(a0.size:Int):=dT (z3_)
              have hx7:=bt_at a0 x3_2
              replace p7:=eq_true p7
              replace q7:=eq_true q7
              go_wp2
              go_ret
              exact ⟨z0_,z1_⟩
           ·rw [if_neg c11] at H
            have c11b0:decide (48≤(bt a0 x3_2))=false:=dF c11
            clear c11
            by_cases c14:(bt a0 x3_2)=95
            ·rw [if_pos c14] at H
             have c14b0:((bt a0 x3_2) == 95)=true:=beq_iff_eq.mpr c14
             have c14b1:((bt a0 x3_2) != 95)=false:=bne_eq_false_iff_eq.mpr c14
             clear c14
             have H':=aM H
             clear H
             have p7:0≤(x3_2:Int):=dT (z3_)
             have q7:x3_2<(a0.size:Int):=dT (z3_)
             have hx7:=bt_at a0 x3_2
             replace p7:=eq_true p7
             replace q7:=eq_true q7
             go_wp2
             go_roundg k2
             case measure=>have:=HJ1.out;have:=HK2.out;omega
             case rel=>exact ⟨(wrap64 (x3_2+1)),(z0_),H',⟨by have:=HJ1.out;have:=HK2.out;omega⟩,z1_⟩
            ·rw [if_neg c14] at H
             have c14b0:((bt a0 x3_2) == 95)=false:=beq_eq_false_iff_ne.mpr c14
             have c14b1:((bt a0 x3_2) != 95)=true:=bne_iff_ne.mpr c14
             obtain rfl:=sI H
             have p7:0≤(x3_2:Int):=dT (z3_)
             have q7:x3_2<(a0.size:Int):=dT (z3_)
             have hx7:=bt_at a0 x3_2
             replace p7:=eq_true p7
             replace q7:=eq_true q7
             go_wp2
             go_ret
             exact ⟨z0_,z1_⟩
        ·rw [if_neg c8] at H
         have c8b0:decide (97≤(bt a0 x3_2))=false:=dF c8
         clear c8
         by_cases c15:x3_2=0
         ·rw [if_pos c15] at H
          have c15b0:(x3_2 == 0)=true:=beq_iff_eq.mpr c15
          have c15b1:(x3_2 != 0)=false:=bne_eq_false_iff_eq.mpr c15
          clear c15
          obtain rfl:=sI H
          have p7:0≤(x3_2:Int):=dT (z3_)
          have q7:x3_2<(a0.size:Int):=dT (z3_)
          have hx7:=bt_at a0 x3_2
          replace p7:=eq_true p7
          replace q7:=eq_true q7
          go_wp2
          go_ret
          exact ⟨z0_,z1_⟩
         ·rw [if_neg c15] at H
          have c15b0:(x3_2 == 0)=false:=beq_eq_false_iff_ne.mpr c15
          have c15b1:(x3_2 != 0)=true:=bne_iff_ne.mpr c15
          by_cases c16:(bt a0 x3_2)≥48
          ·rw [if_pos c16] at H
           have c16b0:decide (48≤(bt a0 x3_2))=true:=dE c16
           clear c16
           by_cases c17:((bt a0 x3_2)≤57)
           ·rw [if_pos c17] at H
            have c17b0:decide ((bt a0 x3_2)≤57)=true:=dE c17
            clear c17
            have H':=aM H
            clear H
            have p7:0≤(x3_2:Int):=dT (z3_)
            have q7:x3_2<(a0.size:Int):=dT (z3_)
            have hx7:=bt_at a0 x3_2
            replace p7:=eq_true p7
            replace q7:=eq_true q7
            go_wp2
            go_roundg k2
            case measure=>have:=HJ1.out;have:=HK2.out;omega
            case rel=>exact ⟨(wrap64 (x3_2+1)),(z0_),H',⟨by have:=HJ1.out;have:=HK2.out;omega⟩,z1_⟩
           ·rw [if_neg c17] at H
            have c17b0:decide ((bt a0 x3_2)≤57)=false:=dF c17
            clear c17
            by_cases c18:(bt a0 x3_2)=95
            ·rw [if_pos c18] at H
             have c18b0:((bt a0 x3_2) == 95)=true:=beq_iff_eq.mpr c18
             have c18b1:((bt a0 x3_2) != 95)=false:=bne_eq_false_iff_eq.mpr c18
             clear c18
             have H':=aM H
             clear H
             have p7:0≤(x3_2:Int):=dT (z3_)
             have q7:x3_2<(a0.size:Int):=dT (z3_)
             have hx7:=bt_at a0 x3_2
             replace p7:=eq_true p7
             replace q7:=eq_true q7
             go_wp2
             go_roundg k2
             case measure=>have:=HJ1.out;have:=HK2.out;omega
             case rel=>exact ⟨(wrap64 (x3_2+1)),(z0_),H',⟨by have:=HJ1.out;have:=HK2.out;omega⟩,z1_⟩
            ·rw [if_neg c18] at H
             have c18b0:((bt a0 x3_2) == 95)=false:=beq_eq_false_iff_ne.mpr c18
             have c18b1:((bt a0 x3_2) != 95)=true:=bne_iff_ne.mpr c18
             obtain rfl:=sI H
             have p7:0≤(x3_2:Int):=dT (z3_)
             have q7:x3_2<(a0.size:Int):=dT (z3_)
             have hx7:=bt_at a0 x3_2
             replace p7:=eq_true p7
             replace q7:=eq_true q7
             go_wp2
             go_ret
             exact ⟨z0_,z1_⟩
          ·rw [if_neg c16] at H
           have c16b0:decide (48≤(bt a0 x3_2))=false:=dF c16
           clear c16
           by_cases c19:(bt a0 x3_2)=95
           ·rw [if_pos c19] at H
            have c19b0:((bt a0 x3_2) == 95)=true:=beq_iff_eq.mpr c19
            have c19b1:((bt a0 x3_2) != 95)=false:=bne_eq_false_iff_eq.mpr c19
            clear c19
            have H':=aM H
            clear H
            have p7:0≤(x3_2:Int):=dT (z3_)
            have q7:x3_2<(a0.size:Int):=dT (z3_)
            have hx7:=bt_at a0 x3_2
            replace p7:=eq_true p7
            replace q7:=eq_true q7
            go_wp2
            go_roundg k2
            case measure=>have:=HJ1.out;have:=HK2.out;omega
            case rel=>exact ⟨(wrap64 (x3_2+1)),(z0_),H',⟨by have:=HJ1.out;have:=HK2.out;omega⟩,z1_⟩
           ·rw [if_neg c19] at H
            have c19b0:((bt a0 x3_2) == 95)=false:=beq_eq_false_iff_ne.mpr c19
            have c19b1:((bt a0 x3_2) != 95)=true:=bne_iff_ne.mpr c19
            obtain rfl:=sI H
            have p7:0≤(x3_2:Int):=dT (z3_)
            have q7:x3_2<(a0.size:Int):=dT (z3_)
            have hx7:=bt_at a0 x3_2
            replace p7:=eq_true p7
            replace q7:=eq_true q7
            go_wp2
            go_ret
            exact ⟨z0_,z1_⟩
       ·rw [if_neg c6] at H
        exact nO H
      ·rw [if_neg c5] at H
       have c5b0:decide (x3_2<(a0.size:Int))=false:=dF c5
       clear c5
       obtain rfl:=sI H
       go_wp2
       go_ret
       exact ⟨z0_,z1_⟩


/-! ### Y23: function 33 -/
def Y23.f (a0:Int):Option (Bool):=if a0≥1 then (if a0≤3 then (some true) else (if a0=5 then (some true) else (some (a0 == 14)))) else (if a0=5 then (some true) else (some (a0 == 14)))
theorem Y23.calls (a0:Int) (r:Bool) (w:World) (h:Y23.f a0=some r) :
  Calls Tryd.prog 33 #[.int .i64 a0] w fun e w'=>e = .returned (.bool r)∧Drawn0 w w':=by
 have H:(if a0≥1 then (if a0≤3 then (some true) else (if a0=5 then (some true) else (some (a0 == 14)))) else (if a0=5 then (some true) else (some (a0 == 14))))=some r:=h
 clear h
 by_cases c2:a0≥1
 ·rw [if_pos c2] at H
  have c2b0:decide (1≤a0)=true:=dE c2
  clear c2
  by_cases c3:a0≤3
  ·rw [if_pos c3] at H
   have c3b0:decide (a0≤3)=true:=dE c3
   clear c3
   obtain rfl:=sI H
   go_enter Tryd.func33,Tryd.ntmps33
   go_wp2
   go_ret
   exact ⟨z0_,z1_⟩
  ·rw [if_neg c3] at H
   have c3b0:decide (a0≤3)=false:=dF c3
   clear c3
   by_cases c4:a0=5
   ·rw [if_pos c4] at H
    have c4b0:(a0 == 5)=true:=beq_iff_eq.mpr c4
    have c4b1:(a0 != 5)=false:=bne_eq_false_iff_eq.mpr c4
    clear c4
    obtain rfl:=sI H
    go_enter Tryd.func33,Tryd.ntmps33
    go_wp2
    go_ret
    exact ⟨z0_,z1_⟩
   ·rw [if_neg c4] at H
    have c4b0:(a0 == 5)=false:=beq_eq_false_iff_ne.mpr c4
    have c4b1:(a0 != 5)=true:=bne_iff_ne.mpr c4
    obtain rfl:=sI H
    go_enter Tryd.func33,Tryd.ntmps33
    go_wp2
    go_ret
    exact ⟨z0_,z1_⟩
 ·rw [if_neg c2] at H
  have c2b0:decide (1≤a0)=false:=dF c2
  clear c2
  by_cases c5:a0=5
  ·rw [if_pos c5] at H
   have c5b0:(a0 == 5)=true:=beq_iff_eq.mpr c5
   have c5b1:(a0 != 5)=false:=bne_eq_false_iff_eq.mpr c5
   clear c5
   obtain rfl:=sI H
   go_enter Tryd.func33,Tryd.ntmps33
   go_wp2
   go_ret
   exact ⟨z0_,z1_⟩
  ·rw [if_neg c5] at H
   have c5b0:(a0 == 5)=false:=beq_eq_false_iff_ne.mpr c5
   have c5b1:(a0 != 5)=true:=bne_iff_ne.mpr c5
   obtain rfl:=sI H
   go_enter Tryd.func33,Tryd.ntmps33
   go_wp2
   go_ret
   exact ⟨z0_,z1_⟩


/-! ### Y24: function 34 -/
def Y24.f (a0:Int):Option (Bool):=(Y15.f a0 (-1) 10000).bind fun t106=>(some t106)
theorem Y24.calls (a0:Int) (r:Bool) (w:World) (h:Y24.f a0=some r) :
  Calls Tryd.prog 34 #[.int .i64 a0] w fun e w'=>e = .returned (.bool r)∧Drawn0 w w':=by
 have H:((Y15.f a0 (-1) 10000).bind fun t106=>(some t106))=some r:=h
 clear h
 replace H:=bS H
 obtain ⟨t106,A20,H⟩:=H
 replace H:(some t106)=some r:=H
 have A2:=aM A20
 clear A20
 obtain rfl:=sI H
 go_enter Tryd.func34,Tryd.ntmps34
 go_wp2_with (first | ((with_reducible refine gc_ 31 ?_);refine gl_ (some 4) Tryd.func31 #[.int .i64 a0,.int .i64 (-1),.int .i64 10000] ?_;(with_reducible refine (Y15.calls a0 (-1) 10000 t106 _ A2.out).mono ?_);rintro e w' ⟨rfl,⟨nd,rfl⟩⟩;refine ⟨_,rfl,?_⟩))
 go_ret
 exact ⟨z0_,z1_⟩


/-! ### Y2: function 14 -/
mutual
def Y2.j0:Nat→Bool→Bool→Bool→Bool→Bool→Int→Int→Int→ByteArray→ByteArray→Int→Option (Bool)
 | 0,_,_,_,_,_,_,_,_,_,_,_=>none
 | k+1,x3,x4,x5,x6,x15,x108000,x108001,x108002,x108003,x108004,x108005=>if x15=true then (some false) else (if x3=true then (if x4=true then (Y2.j1 k x5 x6 false x108000 x108001 x108002 x108003 x108004 x108005) else (Y2.j1 k x5 x6 (x108002 != 0) x108000 x108001 x108002 x108003 x108004 x108005)) else (if x108001=0 then (if x4=true then (Y2.j1 k x5 x6 false x108000 x108001 x108002 x108003 x108004 x108005) else (Y2.j1 k x5 x6 (x108002 != 0) x108000 x108001 x108002 x108003 x108004 x108005)) else (Y2.j1 k x5 x6 true x108000 x108001 x108002 x108003 x108004 x108005)))
def Y2.j1:Nat→Bool→Bool→Bool→Int→Int→Int→ByteArray→ByteArray→Int→Option (Bool)
 | 0,_,_,_,_,_,_,_,_,_=>none
 | k+1,x5,x6,x32,x108000,x108001,x108002,x108003,x108004,x108005=>if x32=true then (some false) else ((Y5.f k x108003).bind fun t115=>(if (x5 != t115)=true then (Y2.j2 k x6 true x108000 x108001 x108002 x108003 x108004 x108005) else (if x5=true then (Y2.j2 k x6 false x108000 x108001 x108002 x108003 x108004 x108005) else (Y2.j2 k x6 (x108003.toList != ([]:List UInt8)) x108000 x108001 x108002 x108003 x108004 x108005))))
def Y2.j2:Nat→Bool→Bool→Int→Int→Int→ByteArray→ByteArray→Int→Option (Bool)
 | 0,_,_,_,_,_,_,_,_=>none
 | k+1,x6,x49,x108000,x108001,x108002,x108003,x108004,x108005=>if x49=true then (some false) else ((Y5.f k x108004).bind fun t116=>(if (x6 != t116)=true then (Y2.j3 k true x108000 x108001 x108002 x108003 x108004 x108005) else (if x6=true then (Y2.j3 k (decide ((x108004.size:Int)>16)) x108000 x108001 x108002 x108003 x108004 x108005) else (if x108004.toList=([]:List UInt8) then (Y2.j3 k (decide ((x108004.size:Int)>16)) x108000 x108001 x108002 x108003 x108004 x108005) else (Y2.j3 k true x108000 x108001 x108002 x108003 x108004 x108005)))))
def Y2.j3:Nat→Bool→Int→Int→Int→ByteArray→ByteArray→Int→Option (Bool)
 | 0,_,_,_,_,_,_,_=>none
 | k+1,x64,x108000,x108001,x108002,x108003,x108004,x108005=>if x64=true then (some false) else (if x108005=(-1) then (some true) else ((Y23.f x108000).bind fun t117=>(if t117=true then ((Y24.f x108005).bind fun t118=>(some t118)) else (some false))))
end
def Y2.f (k:Nat) (a0_0:Int) (a0_1:Int) (a0_2:Int) (a0_3:ByteArray) (a0_4:ByteArray) (a0_5:Int):Option (Bool):=(Y10.f k a0_0).bind fun bt108=>((Y6.f k a0_0).bind fun t112=>(if t112.toList=([]:List UInt8) then (Y2.j0 k bt108.1 bt108.2.1 bt108.2.2.1 bt108.2.2.2 true a0_0 a0_1 a0_2 a0_3 a0_4 a0_5) else ((Y15.f a0_1 0 999999).bind fun t113=>(if t113=true then ((Y15.f a0_2 0 999999).bind fun t114=>(Y2.j0 k bt108.1 bt108.2.1 bt108.2.2.1 bt108.2.2.2 (!t114) a0_0 a0_1 a0_2 a0_3 a0_4 a0_5)) else (Y2.j0 k bt108.1 bt108.2.1 bt108.2.2.1 bt108.2.2.2 true a0_0 a0_1 a0_2 a0_3 a0_4 a0_5)))))
theorem Y2.mono_l:∀ k,(∀ y0 y1 y2 y3 y4 y5 y6 y7 y8 y9 y10,LeO (Y2.j0 k y0 y1 y2 y3 y4 y5 y6 y7 y8 y9 y10) (Y2.j0 (k+1) y0 y1 y2 y3 y4 y5 y6 y7 y8 y9 y10))∧(∀ y0 y1 y2 y3 y4 y5 y6 y7 y8,LeO (Y2.j1 k y0 y1 y2 y3 y4 y5 y6 y7 y8) (Y2.j1 (k+1) y0 y1 y2 y3 y4 y5 y6 y7 y8))∧(∀ y0 y1 y2 y3 y4 y5 y6 y7,LeO (Y2.j2 k y0 y1 y2 y3 y4 y5 y6 y7) (Y2.j2 (k+1) y0 y1 y2 y3 y4 y5 y6 y7))∧(∀ y0 y1 y2 y3 y4 y5 y6,LeO (Y2.j3 k y0 y1 y2 y3 y4 y5 y6) (Y2.j3 (k+1) y0 y1 y2 y3 y4 y5 y6))
 | 0=>by refine ⟨?_,?_,?_,?_⟩ <;> intros <;> exact LeO.none _
 | k+1=>by
  obtain ⟨ih0,ih1,ih2,ih3⟩:=Y2.mono_l k
  have m0:=@Y5.mono
  have m1:=@Y10.mono
  have m2:=@Y6.mono
  refine ⟨?_,?_,?_,?_⟩
  ·intros
   unfold Y2.j0
   exact mO
  ·intros
   unfold Y2.j1
   exact mO
  ·intros
   unfold Y2.j2
   exact mO
  ·intros
   unfold Y2.j3
   exact mO
theorem Y2.mono:∀ a0 a1 a2 a3 a4 a5 k,LeO (Y2.f k a0 a1 a2 a3 a4 a5) (Y2.f (k+1) a0 a1 a2 a3 a4 a5):=by
 intro a0 a1 a2 a3 a4 a5 k
 have m0:=@Y5.mono
 have m1:=@Y10.mono
 have m2:=@Y6.mono
 obtain ⟨ih0,ih1,ih2,ih3⟩:=Y2.mono_l k
 unfold Y2.f
 exact mO
theorem Y2.calls (k:Nat) (a0_0:Int) (a0_1:Int) (a0_2:Int) (a0_3:ByteArray) (a0_4:ByteArray) (a0_5:Int) (r:Bool) (w:World) (h:Y2.f k a0_0 a0_1 a0_2 a0_3 a0_4 a0_5=some r) :
  Calls Tryd.prog 14 #[.agg #[.int .i64 a0_0,.int .i64 a0_1,.int .i64 a0_2,.string a0_3,.string a0_4,.int .i64 a0_5]] w fun e w'=>e = .returned (.bool r)∧Below w.heap.size w w':=by
 have hu26:=Tryd.underlying26
 have HB:=aM (Below.refl w.heap.size w)
 have H:((Y10.f k a0_0).bind fun bt108=>((Y6.f k a0_0).bind fun t112=>(if t112.toList=([]:List UInt8) then (Y2.j0 k bt108.1 bt108.2.1 bt108.2.2.1 bt108.2.2.2 true a0_0 a0_1 a0_2 a0_3 a0_4 a0_5) else ((Y15.f a0_1 0 999999).bind fun t113=>(if t113=true then ((Y15.f a0_2 0 999999).bind fun t114=>(Y2.j0 k bt108.1 bt108.2.1 bt108.2.2.1 bt108.2.2.2 (!t114) a0_0 a0_1 a0_2 a0_3 a0_4 a0_5)) else (Y2.j0 k bt108.1 bt108.2.1 bt108.2.2.1 bt108.2.2.2 true a0_0 a0_1 a0_2 a0_3 a0_4 a0_5))))))=some r:=h
 clear h
 replace H:=bS H
 obtain ⟨⟨t108,t109,t110,t111⟩,A20,H⟩:=H
 replace H:((Y6.f k a0_0).bind fun t112=>(if t112.toList=([]:List UInt8) then (Y2.j0 k t108 t109 t110 t111 true a0_0 a0_1 a0_2 a0_3 a0_4 a0_5) else ((Y15.f a0_1 0 999999).bind fun t113=>(if t113=true then ((Y15.f a0_2 0 999999).bind fun t114=>(Y2.j0 k t108 t109 t110 t111 (!t114) a0_0 a0_1 a0_2 a0_3 a0_4 a0_5)) else (Y2.j0 k t108 t109 t110 t111 true a0_0 a0_1 a0_2 a0_3 a0_4 a0_5)))))=some r:=H
 have A2:=aM A20
 clear A20
 have HC3:=aM H
 clear H
 go_enter Tryd.func14,Tryd.ntmps14
 go_upto_region 2 with (first | ((with_reducible refine gd_ 1 ?_);(try (refine gate_guard (by rfl) ?_;dsimp only));refine be_ 1 #[.int .i64 a0_0,.int .i64 a0_1,.int .i64 a0_2,.string a0_3,.string a0_4,.int .i64 a0_5] 26 ?_;intro gb107 hg w4 hbox hb;have n0_:=aM (below_step (z6_ HB.out) hb);have n1_:=aM (hbox);have n2_:=aM ((z8_ HB.out:w.heap.size≤gb107));have n3_:=aM ((z8_ HB.out:w.heap.size≤gb107));clear HB;have HB:=n0_;have BK107:=n1_;have GW107:=n2_;have GE107:=n3_;clear n0_ n1_ n2_ n3_;clear hb hbox hg;have ⟨hcz5_0,hcz5_1,hcz5_2,hcz5_3,hcz5_4,hcz5_5,hfz5_0,hfz5_1,hfz5_2,hfz5_3,hfz5_4,hfz5_5⟩:=cz6_ BK107.out) | ((with_reducible refine gc_ 15 ?_);refine gl_ (some 10) Tryd.func15 #[.int .i64 a0_0] ?_;(with_reducible refine (Y10.calls k a0_0 t108 t109 t110 t111 _ A2.out).mono ?_);rintro e w' ⟨rfl,⟨nd,rfl⟩⟩;refine ⟨_,rfl,?_⟩))
 (try simp only [Act.put,sa_,s0_,ss_])
 go_cut [15] (fun v15 wc=>∃ (kq:Nat) (x15_2:Bool),v15 = .bool x15_2∧Aside0 (Y2.j0 kq t108 t109 t110 t111 x15_2 a0_0 a0_1 a0_2 a0_3 a0_4 a0_5=some r)∧Aside0 (kq≤k)∧Aside0 (wc.heap[gb107]? = some (.cells #[.int .i64 a0_0,.int .i64 a0_1,.int .i64 a0_2,.string a0_3,.string a0_4,.int .i64 a0_5] 26 (0,0)))∧Aside0 (Below w.heap.size w wc))
 case first =>
  have H:=HC3.out
  clear HC3
  replace H:=bS H
  obtain ⟨t112,A60,H⟩:=H
  replace H:(if t112.toList=([]:List UInt8) then (Y2.j0 k t108 t109 t110 t111 true a0_0 a0_1 a0_2 a0_3 a0_4 a0_5) else ((Y15.f a0_1 0 999999).bind fun t113=>(if t113=true then ((Y15.f a0_2 0 999999).bind fun t114=>(Y2.j0 k t108 t109 t110 t111 (!t114) a0_0 a0_1 a0_2 a0_3 a0_4 a0_5)) else (Y2.j0 k t108 t109 t110 t111 true a0_0 a0_1 a0_2 a0_3 a0_4 a0_5))))=some r:=H
  have A6:=aM A60
  clear A60
  by_cases c7:t112.toList=([]:List UInt8)
  ·rw [if_pos c7] at H
   have c7b0:(t112.toList == ([]:List UInt8))=true:=beq_iff_eq.mpr c7
   have c7b1:(t112.toList != ([]:List UInt8))=false:=bne_eq_false_iff_eq.mpr c7
   clear c7
   (first | rw [c7b0] | (simp only [i64_w,i32_w];rw [c7b0]) | skip)
   have H':=aM H
   clear H
   have ⟨hcz8_0,hcz8_1,hcz8_2,hcz8_3,hcz8_4,hcz8_5,hfz8_0,hfz8_1,hfz8_2,hfz8_3,hfz8_4,hfz8_5⟩:=cz6_ BK107.out
   go_wp2_with (first | ((with_reducible refine gc_ 16 ?_);refine gl_ (some 18) Tryd.func16 #[.int .i64 a0_0] ?_;(with_reducible refine (Y6.calls k a0_0 t112 _ A6.out).mono ?_);rintro e w9 ⟨rfl,hb⟩;refine ⟨_,rfl,?_⟩;have n0_:=aM (blkB_ BK107.out hb);have n1_:=aM (below_step (z2_ HB.out GE107.out) hb);clear BK107;clear HB;have BK107:=n0_;have HB:=n1_;clear n0_ n1_;(try clear hb)))
   go_meet
   case rel=>exact ⟨_,(true),(z0_),H',⟨by first | omega | exact Nat.le_refl _⟩,⟨z5_ BK107.out⟩,⟨z2_ HB.out GE107.out⟩⟩
  ·rw [if_neg c7] at H
   have c7b0:(t112.toList == ([]:List UInt8))=false:=beq_eq_false_iff_ne.mpr c7
   have c7b1:(t112.toList != ([]:List UInt8))=true:=bne_iff_ne.mpr c7
   (first | rw [c7b0] | (simp only [i64_w,i32_w];rw [c7b0]) | skip)
   replace H:=bS H
   obtain ⟨t113,A100,H⟩:=H
   replace H:(if t113=true then ((Y15.f a0_2 0 999999).bind fun t114=>(Y2.j0 k t108 t109 t110 t111 (!t114) a0_0 a0_1 a0_2 a0_3 a0_4 a0_5)) else (Y2.j0 k t108 t109 t110 t111 true a0_0 a0_1 a0_2 a0_3 a0_4 a0_5))=some r:=H
   have A10:=aM A100
   clear A100
   by_cases c11:t113=true
   ·subst c11
    have H1:((Y15.f a0_2 0 999999).bind fun t114=>(Y2.j0 k t108 t109 t110 t111 (!t114) a0_0 a0_1 a0_2 a0_3 a0_4 a0_5))=some r:=by rw [if_pos rfl] at H;exact H
    clear H
    have H:=H1
    clear H1
    replace H:=bS H
    obtain ⟨t114,A120,H⟩:=H
    replace H:(Y2.j0 k t108 t109 t110 t111 (!t114) a0_0 a0_1 a0_2 a0_3 a0_4 a0_5)=some r:=H
    have A12:=aM A120
    clear A120
    have H':=aM H
    clear H
    have ⟨hcz13_0,hcz13_1,hcz13_2,hcz13_3,hcz13_4,hcz13_5,hfz13_0,hfz13_1,hfz13_2,hfz13_3,hfz13_4,hfz13_5⟩:=cz6_ BK107.out
    go_wp2_with (first | ((with_reducible refine gc_ 16 ?_);refine gl_ (some 18) Tryd.func16 #[.int .i64 a0_0] ?_;(with_reducible refine (Y6.calls k a0_0 t112 _ A6.out).mono ?_);rintro e w14 ⟨rfl,hb⟩;refine ⟨_,rfl,?_⟩;have n0_:=aM (blkB_ BK107.out hb);have n1_:=aM (below_step (z2_ HB.out GE107.out) hb);clear BK107;clear HB;have BK107:=n0_;have HB:=n1_;clear n0_ n1_;(try clear hb);have ⟨hcz15_0,hcz15_1,hcz15_2,hcz15_3,hcz15_4,hcz15_5,hfz15_0,hfz15_1,hfz15_2,hfz15_3,hfz15_4,hfz15_5⟩:=cz6_ BK107.out) | (go_at_call 31;(with_reducible refine (Y15.calls a0_1 0 999999 true _ A10.out).mono ?_);rintro e w' ⟨rfl,⟨nd,rfl⟩⟩) | (go_at_call 31;(with_reducible refine (Y15.calls a0_2 0 999999 t114 _ A12.out).mono ?_);rintro e w' ⟨rfl,⟨nd,rfl⟩⟩))
    go_meet
    case rel=>exact ⟨_,(!t114),(z0_),H',⟨by first | omega | exact Nat.le_refl _⟩,⟨z5_ BK107.out⟩,⟨z2_ HB.out GE107.out⟩⟩
   ·replace c11:=Bool.eq_false_iff.mpr c11
    subst c11
    have H1:(Y2.j0 k t108 t109 t110 t111 true a0_0 a0_1 a0_2 a0_3 a0_4 a0_5)=some r:=by rw [if_neg (show ¬ (false=true) by decide)] at H;exact H
    clear H
    have H:=H1
    clear H1
    have H':=aM H
    clear H
    have ⟨hcz16_0,hcz16_1,hcz16_2,hcz16_3,hcz16_4,hcz16_5,hfz16_0,hfz16_1,hfz16_2,hfz16_3,hfz16_4,hfz16_5⟩:=cz6_ BK107.out
    go_wp2_with (first | ((with_reducible refine gc_ 16 ?_);refine gl_ (some 18) Tryd.func16 #[.int .i64 a0_0] ?_;(with_reducible refine (Y6.calls k a0_0 t112 _ A6.out).mono ?_);rintro e w17 ⟨rfl,hb⟩;refine ⟨_,rfl,?_⟩;have n0_:=aM (blkB_ BK107.out hb);have n1_:=aM (below_step (z2_ HB.out GE107.out) hb);clear BK107;clear HB;have BK107:=n0_;have HB:=n1_;clear n0_ n1_;(try clear hb);have ⟨hcz18_0,hcz18_1,hcz18_2,hcz18_3,hcz18_4,hcz18_5,hfz18_0,hfz18_1,hfz18_2,hfz18_3,hfz18_4,hfz18_5⟩:=cz6_ BK107.out) | (go_at_call 31;(with_reducible refine (Y15.calls a0_1 0 999999 false _ A10.out).mono ?_);rintro e w' ⟨rfl,⟨nd,rfl⟩⟩))
    go_meet
    case rel=>exact ⟨_,(true),(z0_),H',⟨by first | omega | exact Nat.le_refl _⟩,⟨z5_ BK107.out⟩,⟨z2_ HB.out GE107.out⟩⟩
 case rest =>
  clear HC3
  try clear c1
  try clear p2
  try clear c7
  try clear c7b0
  try clear c7b1
  try clear c11
  try clear c14
  try clear c15
  try clear c16
  try clear hcz13_0
  try clear hcz13_1
  try clear hcz13_2
  try clear hcz13_3
  try clear hcz13_4
  try clear hcz13_5
  try clear hcz15_0
  try clear hcz15_1
  try clear hcz15_2
  try clear hcz15_3
  try clear hcz15_4
  try clear hcz15_5
  try clear hcz16_0
  try clear hcz16_1
  try clear hcz16_2
  try clear hcz16_3
  try clear hcz16_4
  try clear hcz16_5
  try clear hcz18_0
  try clear hcz18_1
  try clear hcz18_2
  try clear hcz18_3
  try clear hcz18_4
  try clear hcz18_5
  try clear hcz5_0
  try clear hcz5_1
  try clear hcz5_2
  try clear hcz5_3
  try clear hcz5_4
  try clear hcz5_5
  try clear hcz8_0
  try clear hcz8_1
  try clear hcz8_2
  try clear hcz8_3
  try clear hcz8_4
  try clear hcz8_5
  try clear hfz13_0
  try clear hfz13_1
  try clear hfz13_2
  try clear hfz13_3
  try clear hfz13_4
  try clear hfz13_5
  try clear hfz15_0
  try clear hfz15_1
  try clear hfz15_2
  try clear hfz15_3
  try clear hfz15_4
  try clear hfz15_5
  try clear hfz16_0
  try clear hfz16_1
  try clear hfz16_2
  try clear hfz16_3
  try clear hfz16_4
  try clear hfz16_5
  try clear hfz18_0
  try clear hfz18_1
  try clear hfz18_2
  try clear hfz18_3
  try clear hfz18_4
  try clear hfz18_5
  try clear hfz5_0
  try clear hfz5_1
  try clear hfz5_2
  try clear hfz5_3
  try clear hfz5_4
  try clear hfz5_5
  try clear hfz8_0
  try clear hfz8_1
  try clear hfz8_2
  try clear hfz8_3
  try clear hfz8_4
  try clear hfz8_5
  obtain ⟨kq,x15_2,rfl,HA,HJ2,BK107,HB⟩:=hcut
  cases kq with
  | zero=>exact absurd HA.out (by simp [Y2.j0])
  | succ kj2 =>
   have H:=HA.out
   clear HA
   simp only [Y2.j0] at H
   by_cases c19:x15_2=true
   ·subst c19
    have H1:(some false)=some r:=by rw [if_pos rfl] at H;exact H
    clear H
    have H:=H1
    clear H1
    obtain rfl:=sI H
    go_wp2
    go_ret
    exact ⟨z7_,z2_ HB.out GE107.out⟩
   ·replace c19:=Bool.eq_false_iff.mpr c19
    subst c19
    have H1:(if t108=true then (if t109=true then (Y2.j1 kj2 t110 t111 false a0_0 a0_1 a0_2 a0_3 a0_4 a0_5) else (Y2.j1 kj2 t110 t111 (a0_2 != 0) a0_0 a0_1 a0_2 a0_3 a0_4 a0_5)) else (if a0_1=0 then (if t109=true then (Y2.j1 kj2 t110 t111 false a0_0 a0_1 a0_2 a0_3 a0_4 a0_5) else (Y2.j1 kj2 t110 t111 (a0_2 != 0) a0_0 a0_1 a0_2 a0_3 a0_4 a0_5)) else (Y2.j1 kj2 t110 t111 true a0_0 a0_1 a0_2 a0_3 a0_4 a0_5)))=some r:=by rw [if_neg (show ¬ (false=true) by decide)] at H;exact H
    clear H
    have H:=H1
    clear H1
    have HC20:=aM H
    clear H
    go_upto_region 4 with (fail)
    go_cut [32] (fun v32 wc=>∃ (kq:Nat) (x32_19:Bool),v32 = .bool x32_19∧Aside0 (Y2.j1 kq t110 t111 x32_19 a0_0 a0_1 a0_2 a0_3 a0_4 a0_5=some r)∧Aside0 (kq≤kj2)∧Aside0 (wc.heap[gb107]? = some (.cells #[.int .i64 a0_0,.int .i64 a0_1,.int .i64 a0_2,.string a0_3,.string a0_4,.int .i64 a0_5] 26 (0,0)))∧Aside0 (Below w.heap.size w wc))
    case first =>
     have H:=HC20.out
     clear HC20
     by_cases c21:t108=true
     ·subst c21
      have H1:(if t109=true then (Y2.j1 kj2 t110 t111 false a0_0 a0_1 a0_2 a0_3 a0_4 a0_5) else (Y2.j1 kj2 t110 t111 (a0_2 != 0) a0_0 a0_1 a0_2 a0_3 a0_4 a0_5))=some r:=by rw [if_pos rfl] at H;exact H
      clear H
      have H:=H1
      clear H1
      by_cases c22:t109=true
      ·subst c22
       have H1:(Y2.j1 kj2 t110 t111 false a0_0 a0_1 a0_2 a0_3 a0_4 a0_5)=some r:=by rw [if_pos rfl] at H;exact H
       clear H
       have H:=H1
       clear H1
       have H':=aM H
       clear H
       go_wp2
       go_meet
       case rel=>exact ⟨_,(false),(z0_),H',⟨z10_ HJ2.out⟩,⟨z5_ BK107.out⟩,⟨z2_ HB.out GE107.out⟩⟩
      ·replace c22:=Bool.eq_false_iff.mpr c22
       subst c22
       have H1:(Y2.j1 kj2 t110 t111 (a0_2 != 0) a0_0 a0_1 a0_2 a0_3 a0_4 a0_5)=some r:=by rw [if_neg (show ¬ (false=true) by decide)] at H;exact H
       clear H
       have H:=H1
       clear H1
       have H':=aM H
       clear H
       have ⟨hcz23_0,hcz23_1,hcz23_2,hcz23_3,hcz23_4,hcz23_5,hfz23_0,hfz23_1,hfz23_2,hfz23_3,hfz23_4,hfz23_5⟩:=cz6_ BK107.out
       go_wp2
       go_meet
       case rel=>exact ⟨_,((a0_2 != 0)),(z0_),H',⟨z10_ HJ2.out⟩,⟨z5_ BK107.out⟩,⟨z2_ HB.out GE107.out⟩⟩
     ·replace c21:=Bool.eq_false_iff.mpr c21
      subst c21
      have H1:(if a0_1=0 then (if t109=true then (Y2.j1 kj2 t110 t111 false a0_0 a0_1 a0_2 a0_3 a0_4 a0_5) else (Y2.j1 kj2 t110 t111 (a0_2 != 0) a0_0 a0_1 a0_2 a0_3 a0_4 a0_5)) else (Y2.j1 kj2 t110 t111 true a0_0 a0_1 a0_2 a0_3 a0_4 a0_5))=some r:=by rw [if_neg (show ¬ (false=true) by decide)] at H;exact H
      clear H
      have H:=H1
      clear H1
      by_cases c24:a0_1=0
      ·rw [if_pos c24] at H
       have c24b0:(a0_1 == 0)=true:=beq_iff_eq.mpr c24
       have c24b1:(a0_1 != 0)=false:=bne_eq_false_iff_eq.mpr c24
       clear c24
       (first | rw [c24b0] | (simp only [i64_w,i32_w];rw [c24b0]) | skip)
       by_cases c25:t109=true
       ·subst c25
        have H1:(Y2.j1 kj2 t110 t111 false a0_0 a0_1 a0_2 a0_3 a0_4 a0_5)=some r:=by rw [if_pos rfl] at H;exact H
        clear H
        have H:=H1
        clear H1
        have H':=aM H
        clear H
        have ⟨hcz26_0,hcz26_1,hcz26_2,hcz26_3,hcz26_4,hcz26_5,hfz26_0,hfz26_1,hfz26_2,hfz26_3,hfz26_4,hfz26_5⟩:=cz6_ BK107.out
        go_wp2
        go_meet
        case rel=>exact ⟨_,(false),(z0_),H',⟨z10_ HJ2.out⟩,⟨z5_ BK107.out⟩,⟨z2_ HB.out GE107.out⟩⟩
       ·replace c25:=Bool.eq_false_iff.mpr c25
        subst c25
        have H1:(Y2.j1 kj2 t110 t111 (a0_2 != 0) a0_0 a0_1 a0_2 a0_3 a0_4 a0_5)=some r:=by rw [if_neg (show ¬ (false=true) by decide)] at H;exact H
        clear H
        have H:=H1
        clear H1
        have H':=aM H
        clear H
        have ⟨hcz27_0,hcz27_1,hcz27_2,hcz27_3,hcz27_4,hcz27_5,hfz27_0,hfz27_1,hfz27_2,hfz27_3,hfz27_4,hfz27_5⟩:=cz6_ BK107.out
        go_wp2
        go_meet
        case rel=>exact ⟨_,((a0_2 != 0)),(z0_),H',⟨z10_ HJ2.out⟩,⟨z5_ BK107.out⟩,⟨z2_ HB.out GE107.out⟩⟩
      ·rw [if_neg c24] at H
       have c24b0:(a0_1 == 0)=false:=beq_eq_false_iff_ne.mpr c24
       have c24b1:(a0_1 != 0)=true:=bne_iff_ne.mpr c24
       (first | rw [c24b0] | (simp only [i64_w,i32_w];rw [c24b0]) | skip)
       have H':=aM H
       clear H
       have ⟨hcz28_0,hcz28_1,hcz28_2,hcz28_3,hcz28_4,hcz28_5,hfz28_0,hfz28_1,hfz28_2,hfz28_3,hfz28_4,hfz28_5⟩:=cz6_ BK107.out
       go_wp2
       go_meet
       case rel=>exact ⟨_,(true),(z0_),H',⟨z10_ HJ2.out⟩,⟨z5_ BK107.out⟩,⟨z2_ HB.out GE107.out⟩⟩
    case rest =>
     clear HC20
     try clear c1
     try clear c2
     try clear p2
     try clear c7
     try clear c7b0
     try clear c7b1
     try clear c11
     try clear c14
     try clear c15
     try clear c16
     try clear c19
     try clear c21
     try clear c22
     try clear c24
     try clear c24b0
     try clear c24b1
     try clear c25
     try clear hcz13_0
     try clear hcz13_1
     try clear hcz13_2
     try clear hcz13_3
     try clear hcz13_4
     try clear hcz13_5
     try clear hcz15_0
     try clear hcz15_1
     try clear hcz15_2
     try clear hcz15_3
     try clear hcz15_4
     try clear hcz15_5
     try clear hcz16_0
     try clear hcz16_1
     try clear hcz16_2
     try clear hcz16_3
     try clear hcz16_4
     try clear hcz16_5
     try clear hcz18_0
     try clear hcz18_1
     try clear hcz18_2
     try clear hcz18_3
     try clear hcz18_4
     try clear hcz18_5
     try clear hcz23_0
     try clear hcz23_1
     try clear hcz23_2
     try clear hcz23_3
     try clear hcz23_4
     try clear hcz23_5
     try clear hcz26_0
     try clear hcz26_1
     try clear hcz26_2
     try clear hcz26_3
     try clear hcz26_4
     try clear hcz26_5
     try clear hcz27_0
     try clear hcz27_1
     try clear hcz27_2
     try clear hcz27_3
     try clear hcz27_4
     try clear hcz27_5
     try clear hcz28_0
     try clear hcz28_1
     try clear hcz28_2
     try clear hcz28_3
     try clear hcz28_4
     try clear hcz28_5
     try clear hcz5_0
     try clear hcz5_1
     try clear hcz5_2
     try clear hcz5_3
     try clear hcz5_4
     try clear hcz5_5
     try clear hcz8_0
     try clear hcz8_1
     try clear hcz8_2
     try clear hcz8_3
     try clear hcz8_4
     try clear hcz8_5
     try clear hfz13_0
     try clear hfz13_1
     try clear hfz13_2
     try clear hfz13_3
     try clear hfz13_4
     try clear hfz13_5
     try clear hfz15_0
     try clear hfz15_1
     try clear hfz15_2
     try clear hfz15_3
     try clear hfz15_4
     try clear hfz15_5
     try clear hfz16_0
     try clear hfz16_1
     try clear hfz16_2
     try clear hfz16_3
     try clear hfz16_4
     try clear hfz16_5
     try clear hfz18_0
     try clear hfz18_1
     try clear hfz18_2
     try clear hfz18_3
     try clear hfz18_4
     try clear hfz18_5
     try clear hfz23_0
     try clear hfz23_1
     try clear hfz23_2
     try clear hfz23_3
     try clear hfz23_4
     try clear hfz23_5
     try clear hfz26_0
     try clear hfz26_1
     try clear hfz26_2
     try clear hfz26_3
     try clear hfz26_4
     try clear hfz26_5
     try clear hfz27_0
     try clear hfz27_1
     try clear hfz27_2
     try clear hfz27_3
     try clear hfz27_4
     try clear hfz27_5
     try clear hfz28_0
     try clear hfz28_1
     try clear hfz28_2
     try clear hfz28_3
     try clear hfz28_4
     try clear hfz28_5
     try clear hfz5_0
     try clear hfz5_1
     try clear hfz5_2
     try clear hfz5_3
     try clear hfz5_4
     try clear hfz5_5
     try clear hfz8_0
     try clear hfz8_1
     try clear hfz8_2
     try clear hfz8_3
     try clear hfz8_4
     try clear hfz8_5
     try clear p2
     obtain ⟨kq,x32_19,rfl,HA,HJ19,BK107,HB⟩:=hcut
     cases kq with
     | zero=>exact absurd HA.out (by simp [Y2.j1])
     | succ kj19 =>
      have H:=HA.out
      clear HA
      simp only [Y2.j1] at H
      by_cases c29:x32_19=true
      ·subst c29
       have H1:(some false)=some r:=by rw [if_pos rfl] at H;exact H
       clear H
       have H:=H1
       clear H1
       obtain rfl:=sI H
       go_wp2
       go_ret
       exact ⟨z7_,z2_ HB.out GE107.out⟩
      ·replace c29:=Bool.eq_false_iff.mpr c29
       subst c29
       have H1:((Y5.f kj19 a0_3).bind fun t115=>(if (t110 != t115)=true then (Y2.j2 kj19 t111 true a0_0 a0_1 a0_2 a0_3 a0_4 a0_5) else (if t110=true then (Y2.j2 kj19 t111 false a0_0 a0_1 a0_2 a0_3 a0_4 a0_5) else (Y2.j2 kj19 t111 (a0_3.toList != ([]:List UInt8)) a0_0 a0_1 a0_2 a0_3 a0_4 a0_5))))=some r:=by rw [if_neg (show ¬ (false=true) by decide)] at H;exact H
       clear H
       have H:=H1
       clear H1
       have HC30:=aM H
       clear H
       go_upto_region 6 with (fail)
       go_cut [49] (fun v49 wc=>∃ (kq:Nat) (x49_29:Bool),v49 = .bool x49_29∧Aside0 (Y2.j2 kq t111 x49_29 a0_0 a0_1 a0_2 a0_3 a0_4 a0_5=some r)∧Aside0 (kq≤kj19)∧Aside0 (wc.heap[gb107]? = some (.cells #[.int .i64 a0_0,.int .i64 a0_1,.int .i64 a0_2,.string a0_3,.string a0_4,.int .i64 a0_5] 26 (0,0)))∧Aside0 (Below w.heap.size w wc))
       case first =>
        have H:=HC30.out
        clear HC30
        replace H:=bS H
        obtain ⟨t115,A310,H⟩:=H
        replace H:(if (t110 != t115)=true then (Y2.j2 kj19 t111 true a0_0 a0_1 a0_2 a0_3 a0_4 a0_5) else (if t110=true then (Y2.j2 kj19 t111 false a0_0 a0_1 a0_2 a0_3 a0_4 a0_5) else (Y2.j2 kj19 t111 (a0_3.toList != ([]:List UInt8)) a0_0 a0_1 a0_2 a0_3 a0_4 a0_5)))=some r:=H
        have A31:=aM A310
        clear A310
        by_cases c32:(t110 != t115)=true
        ·rw [if_pos c32] at H
         have c32b0:(t110 != t115)=true:=c32
         (try (have c32b1:decide (t110=t115)=false:=by simpa using c32))
         (try (have c32b2:(t110 == t115)=false:=by simpa using c32))
         (try (have c32b3:¬ (t110=t115):=by simpa using c32))
         clear c32
         (first | rw [c32b0] | (simp only [i64_w,i32_w];rw [c32b0]) | skip)
         have H':=aM H
         clear H
         have ⟨hcz33_0,hcz33_1,hcz33_2,hcz33_3,hcz33_4,hcz33_5,hfz33_0,hfz33_1,hfz33_2,hfz33_3,hfz33_4,hfz33_5⟩:=cz6_ BK107.out
         go_wp2_with (first | ((with_reducible refine gc_ 32 ?_);refine gl_ (some 53) Tryd.func32 #[.string a0_3] ?_;(with_reducible refine (Y5.calls kj19 a0_3 t115 _ A31.out).mono ?_);rintro e w' ⟨rfl,⟨nd,rfl⟩⟩;refine ⟨_,rfl,?_⟩))
         go_meet
         case rel=>exact ⟨_,(true),(z0_),H',⟨by have:=HJ2.out;have:=HJ19.out;first | omega | exact Nat.le_refl _⟩,⟨z5_ BK107.out⟩,⟨z2_ HB.out GE107.out⟩⟩
        ·rw [if_neg c32] at H
         have c32b0:(t110 != t115)=false:=by simpa using c32
         (try (have c32b1:decide (t110=t115)=true:=by simpa using c32))
         (try (have c32b2:(t110 == t115)=true:=by simpa using c32))
         clear c32
         (first | rw [c32b0] | (simp only [i64_w,i32_w];rw [c32b0]) | skip)
         by_cases c34:t110=true
         ·subst c34
          have H1:(Y2.j2 kj19 t111 false a0_0 a0_1 a0_2 a0_3 a0_4 a0_5)=some r:=by rw [if_pos rfl] at H;exact H
          clear H
          have H:=H1
          clear H1
          have H':=aM H
          clear H
          have ⟨hcz35_0,hcz35_1,hcz35_2,hcz35_3,hcz35_4,hcz35_5,hfz35_0,hfz35_1,hfz35_2,hfz35_3,hfz35_4,hfz35_5⟩:=cz6_ BK107.out
          go_wp2_with (first | ((with_reducible refine gc_ 32 ?_);refine gl_ (some 53) Tryd.func32 #[.string a0_3] ?_;(with_reducible refine (Y5.calls kj19 a0_3 t115 _ A31.out).mono ?_);rintro e w' ⟨rfl,⟨nd,rfl⟩⟩;refine ⟨_,rfl,?_⟩))
          go_meet
          case rel=>exact ⟨_,(false),(z0_),H',⟨by have:=HJ2.out;have:=HJ19.out;first | omega | exact Nat.le_refl _⟩,⟨z5_ BK107.out⟩,⟨z2_ HB.out GE107.out⟩⟩
         ·replace c34:=Bool.eq_false_iff.mpr c34
          subst c34
          have H1:(Y2.j2 kj19 t111 (a0_3.toList != ([]:List UInt8)) a0_0 a0_1 a0_2 a0_3 a0_4 a0_5)=some r:=by rw [if_neg (show ¬ (false=true) by decide)] at H;exact H
          clear H
          have H:=H1
          clear H1
          have H':=aM H
          clear H
          have ⟨hcz36_0,hcz36_1,hcz36_2,hcz36_3,hcz36_4,hcz36_5,hfz36_0,hfz36_1,hfz36_2,hfz36_3,hfz36_4,hfz36_5⟩:=cz6_ BK107.out
          go_wp2_with (first | ((with_reducible refine gc_ 32 ?_);refine gl_ (some 53) Tryd.func32 #[.string a0_3] ?_;(with_reducible refine (Y5.calls kj19 a0_3 t115 _ A31.out).mono ?_);rintro e w' ⟨rfl,⟨nd,rfl⟩⟩;refine ⟨_,rfl,?_⟩))
          go_meet
          case rel=>exact ⟨_,((a0_3.toList != ([]:List UInt8))),(z0_),H',⟨by have:=HJ2.out;have:=HJ19.out;first | omega | exact Nat.le_refl _⟩,⟨z5_ BK107.out⟩,⟨z2_ HB.out GE107.out⟩⟩
       case rest =>
        clear HC30
        try clear c1
        try clear c2
        try clear p2
        try clear c3
        try clear c7
        try clear c7b0
        try clear c7b1
        try clear c11
        try clear c14
        try clear c15
        try clear c16
        try clear c19
        try clear c21
        try clear c22
        try clear c24
        try clear c24b0
        try clear c24b1
        try clear c25
        try clear c29
        try clear c32
        try clear c32b0
        try clear c32b1
        try clear c32b2
        try clear c34
        try clear hcz13_0
        try clear hcz13_1
        try clear hcz13_2
        try clear hcz13_3
        try clear hcz13_4
        try clear hcz13_5
        try clear hcz15_0
        try clear hcz15_1
        try clear hcz15_2
        try clear hcz15_3
        try clear hcz15_4
        try clear hcz15_5
        try clear hcz16_0
        try clear hcz16_1
        try clear hcz16_2
        try clear hcz16_3
        try clear hcz16_4
        try clear hcz16_5
        try clear hcz18_0
        try clear hcz18_1
        try clear hcz18_2
        try clear hcz18_3
        try clear hcz18_4
        try clear hcz18_5
        try clear hcz23_0
        try clear hcz23_1
        try clear hcz23_2
        try clear hcz23_3
        try clear hcz23_4
        try clear hcz23_5
        try clear hcz26_0
        try clear hcz26_1
        try clear hcz26_2
        try clear hcz26_3
        try clear hcz26_4
        try clear hcz26_5
        try clear hcz27_0
        try clear hcz27_1
        try clear hcz27_2
        try clear hcz27_3
        try clear hcz27_4
        try clear hcz27_5
        try clear hcz28_0
        try clear hcz28_1
        try clear hcz28_2
        try clear hcz28_3
        try clear hcz28_4
        try clear hcz28_5
        try clear hcz33_0
        try clear hcz33_1
        try clear hcz33_2
        try clear hcz33_3
        try clear hcz33_4
        try clear hcz33_5
        try clear hcz35_0
        try clear hcz35_1
        try clear hcz35_2
        try clear hcz35_3
        try clear hcz35_4
        try clear hcz35_5
        try clear hcz36_0
        try clear hcz36_1
        try clear hcz36_2
        try clear hcz36_3
        try clear hcz36_4
        try clear hcz36_5
        try clear hcz5_0
        try clear hcz5_1
        try clear hcz5_2
        try clear hcz5_3
        try clear hcz5_4
        try clear hcz5_5
        try clear hcz8_0
        try clear hcz8_1
        try clear hcz8_2
        try clear hcz8_3
        try clear hcz8_4
        try clear hcz8_5
        try clear hfz13_0
        try clear hfz13_1
        try clear hfz13_2
        try clear hfz13_3
        try clear hfz13_4
        try clear hfz13_5
        try clear hfz15_0
        try clear hfz15_1
        try clear hfz15_2
        try clear hfz15_3
        try clear hfz15_4
        try clear hfz15_5
        try clear hfz16_0
        try clear hfz16_1
        try clear hfz16_2
        try clear hfz16_3
        try clear hfz16_4
        try clear hfz16_5
        try clear hfz18_0
        try clear hfz18_1
        try clear hfz18_2
        try clear hfz18_3
        try clear hfz18_4
        try clear hfz18_5
        try clear hfz23_0
        try clear hfz23_1
        try clear hfz23_2
        try clear hfz23_3
        try clear hfz23_4
        try clear hfz23_5
        try clear hfz26_0
        try clear hfz26_1
        try clear hfz26_2
        try clear hfz26_3
        try clear hfz26_4
        try clear hfz26_5
        try clear hfz27_0
        try clear hfz27_1
        try clear hfz27_2
        try clear hfz27_3
        try clear hfz27_4
        try clear hfz27_5
        try clear hfz28_0
        try clear hfz28_1
        try clear hfz28_2
        try clear hfz28_3
        try clear hfz28_4
        try clear hfz28_5
        try clear hfz33_0
        try clear hfz33_1
        try clear hfz33_2
        try clear hfz33_3
        try clear hfz33_4
        try clear hfz33_5
        try clear hfz35_0
        try clear hfz35_1
        try clear hfz35_2
        try clear hfz35_3
        try clear hfz35_4
        try clear hfz35_5
        try clear hfz36_0
        try clear hfz36_1
        try clear hfz36_2
        try clear hfz36_3
        try clear hfz36_4
        try clear hfz36_5
        try clear hfz5_0
        try clear hfz5_1
        try clear hfz5_2
        try clear hfz5_3
        try clear hfz5_4
        try clear hfz5_5
        try clear hfz8_0
        try clear hfz8_1
        try clear hfz8_2
        try clear hfz8_3
        try clear hfz8_4
        try clear hfz8_5
        try clear p2
        obtain ⟨kq,x49_29,rfl,HA,HJ29,BK107,HB⟩:=hcut
        cases kq with
        | zero=>exact absurd HA.out (by simp [Y2.j2])
        | succ kj29 =>
         have H:=HA.out
         clear HA
         simp only [Y2.j2] at H
         by_cases c37:x49_29=true
         ·subst c37
          have H1:(some false)=some r:=by rw [if_pos rfl] at H;exact H
          clear H
          have H:=H1
          clear H1
          obtain rfl:=sI H
          go_wp2
          go_ret
          exact ⟨z7_,z2_ HB.out GE107.out⟩
         ·replace c37:=Bool.eq_false_iff.mpr c37
          subst c37
          have H1:((Y5.f kj29 a0_4).bind fun t116=>(if (t111 != t116)=true then (Y2.j3 kj29 true a0_0 a0_1 a0_2 a0_3 a0_4 a0_5) else (if t111=true then (Y2.j3 kj29 (decide ((a0_4.size:Int)>16)) a0_0 a0_1 a0_2 a0_3 a0_4 a0_5) else (if a0_4.toList=([]:List UInt8) then (Y2.j3 kj29 (decide ((a0_4.size:Int)>16)) a0_0 a0_1 a0_2 a0_3 a0_4 a0_5) else (Y2.j3 kj29 true a0_0 a0_1 a0_2 a0_3 a0_4 a0_5)))))=some r:=by rw [if_neg (show ¬ (false=true) by decide)] at H;exact H
          clear H
          have H:=H1
          clear H1
          have HC38:=aM H
          clear H
          go_upto_region 8 with (fail)
          go_cut [64] (fun v64 wc=>∃ (kq:Nat) (x64_37:Bool),v64 = .bool x64_37∧Aside0 (Y2.j3 kq x64_37 a0_0 a0_1 a0_2 a0_3 a0_4 a0_5=some r)∧Aside0 (kq≤kj29)∧Aside0 (wc.heap[gb107]? = some (.cells #[.int .i64 a0_0,.int .i64 a0_1,.int .i64 a0_2,.string a0_3,.string a0_4,.int .i64 a0_5] 26 (0,0)))∧Aside0 (Below w.heap.size w wc))
          case first =>
           have H:=HC38.out
           clear HC38
           replace H:=bS H
           obtain ⟨t116,A390,H⟩:=H
           replace H:(if (t111 != t116)=true then (Y2.j3 kj29 true a0_0 a0_1 a0_2 a0_3 a0_4 a0_5) else (if t111=true then (Y2.j3 kj29 (decide ((a0_4.size:Int)>16)) a0_0 a0_1 a0_2 a0_3 a0_4 a0_5) else (if a0_4.toList=([]:List UInt8) then (Y2.j3 kj29 (decide ((a0_4.size:Int)>16)) a0_0 a0_1 a0_2 a0_3 a0_4 a0_5) else (Y2.j3 kj29 true a0_0 a0_1 a0_2 a0_3 a0_4 a0_5))))=some r:=H
           have A39:=aM A390
           clear A390
           by_cases c40:(t111 != t116)=true
           ·rw [if_pos c40] at H
            have c40b0:(t111 != t116)=true:=c40
            (try (have c40b1:decide (t111=t116)=false:=by simpa using c40))
            (try (have c40b2:(t111 == t116)=false:=by simpa using c40))
            (try (have c40b3:¬ (t111=t116):=by simpa using c40))
            clear c40
            (first | rw [c40b0] | (simp only [i64_w,i32_w];rw [c40b0]) | skip)
            have H':=aM H
            clear H
            have ⟨hcz41_0,hcz41_1,hcz41_2,hcz41_3,hcz41_4,hcz41_5,hfz41_0,hfz41_1,hfz41_2,hfz41_3,hfz41_4,hfz41_5⟩:=cz6_ BK107.out
            go_wp2_with (first | ((with_reducible refine gc_ 32 ?_);refine gl_ (some 68) Tryd.func32 #[.string a0_4] ?_;(with_reducible refine (Y5.calls kj29 a0_4 t116 _ A39.out).mono ?_);rintro e w' ⟨rfl,⟨nd,rfl⟩⟩;refine ⟨_,rfl,?_⟩))
            go_meet
            case rel=>exact ⟨_,(true),(z0_),H',⟨z12_ HJ2.out HJ19.out HJ29.out⟩,⟨z5_ BK107.out⟩,⟨z2_ HB.out GE107.out⟩⟩
           ·rw [if_neg c40] at H
            have c40b0:(t111 != t116)=false:=by simpa using c40
            (try (have c40b1:decide (t111=t116)=true:=by simpa using c40))
            (try (have c40b2:(t111 == t116)=true:=by simpa using c40))
            clear c40
            (first | rw [c40b0] | (simp only [i64_w,i32_w];rw [c40b0]) | skip)
            by_cases c42:t111=true
            ·subst c42
             have H1:(Y2.j3 kj29 (decide ((a0_4.size:Int)>16)) a0_0 a0_1 a0_2 a0_3 a0_4 a0_5)=some r:=by rw [if_pos rfl] at H;exact H
             clear H
             have H:=H1
             clear H1
             have H':=aM H
             clear H
             have ⟨hcz43_0,hcz43_1,hcz43_2,hcz43_3,hcz43_4,hcz43_5,hfz43_0,hfz43_1,hfz43_2,hfz43_3,hfz43_4,hfz43_5⟩:=cz6_ BK107.out
             go_wp2_with (first | ((with_reducible refine gc_ 32 ?_);refine gl_ (some 68) Tryd.func32 #[.string a0_4] ?_;(with_reducible refine (Y5.calls kj29 a0_4 t116 _ A39.out).mono ?_);rintro e w' ⟨rfl,⟨nd,rfl⟩⟩;refine ⟨_,rfl,?_⟩))
             go_meet
             case rel=>exact ⟨_,(decide ((a0_4.size:Int)>16)),(z0_),H',⟨z12_ HJ2.out HJ19.out HJ29.out⟩,⟨z5_ BK107.out⟩,⟨z2_ HB.out GE107.out⟩⟩
            ·replace c42:=Bool.eq_false_iff.mpr c42
             subst c42
             have H1:(if a0_4.toList=([]:List UInt8) then (Y2.j3 kj29 (decide ((a0_4.size:Int)>16)) a0_0 a0_1 a0_2 a0_3 a0_4 a0_5) else (Y2.j3 kj29 true a0_0 a0_1 a0_2 a0_3 a0_4 a0_5))=some r:=by rw [if_neg (show ¬ (false=true) by decide)] at H;exact H
             clear H
             have H:=H1
             clear H1
             by_cases c44:a0_4.toList=([]:List UInt8)
             ·rw [if_pos c44] at H
              have c44b0:(a0_4.toList == ([]:List UInt8))=true:=beq_iff_eq.mpr c44
              have c44b1:(a0_4.toList != ([]:List UInt8))=false:=bne_eq_false_iff_eq.mpr c44
              clear c44
              have H':=aM H
              clear H
              have ⟨hcz45_0,hcz45_1,hcz45_2,hcz45_3,hcz45_4,hcz45_5,hfz45_0,hfz45_1,hfz45_2,hfz45_3,hfz45_4,hfz45_5⟩:=cz6_ BK107.out
              go_wp2_with (first | ((with_reducible refine gc_ 32 ?_);refine gl_ (some 68) Tryd.func32 #[.string a0_4] ?_;(with_reducible refine (Y5.calls kj29 a0_4 t116 _ A39.out).mono ?_);rintro e w' ⟨rfl,⟨nd,rfl⟩⟩;refine ⟨_,rfl,?_⟩))
              go_meet
              case rel=>exact ⟨_,(decide ((a0_4.size:Int)>16)),(z0_),H',⟨z12_ HJ2.out HJ19.out HJ29.out⟩,⟨z5_ BK107.out⟩,⟨z2_ HB.out GE107.out⟩⟩
             ·rw [if_neg c44] at H
              have c44b0:(a0_4.toList == ([]:List UInt8))=false:=beq_eq_false_iff_ne.mpr c44
              have c44b1:(a0_4.toList != ([]:List UInt8))=true:=bne_iff_ne.mpr c44
              have H':=aM H
              clear H
              have ⟨hcz46_0,hcz46_1,hcz46_2,hcz46_3,hcz46_4,hcz46_5,hfz46_0,hfz46_1,hfz46_2,hfz46_3,hfz46_4,hfz46_5⟩:=cz6_ BK107.out
              go_wp2_with (first | ((with_reducible refine gc_ 32 ?_);refine gl_ (some 68) Tryd.func32 #[.string a0_4] ?_;(with_reducible refine (Y5.calls kj29 a0_4 t116 _ A39.out).mono ?_);rintro e w' ⟨rfl,⟨nd,rfl⟩⟩;refine ⟨_,rfl,?_⟩))
              go_meet
              case rel=>exact ⟨_,(true),(z0_),H',⟨z12_ HJ2.out HJ19.out HJ29.out⟩,⟨z5_ BK107.out⟩,⟨z2_ HB.out GE107.out⟩⟩
          case rest =>
           clear HC38
           try clear c1
           try clear c2
           try clear p2
           try clear c3
           try clear c4
           try clear c7
           try clear c7b0
           try clear c7b1
           try clear c11
           try clear c14
           try clear c15
           try clear c16
           try clear c19
           try clear c21
           try clear c22
           try clear c24
           try clear c24b0
           try clear c24b1
           try clear c25
           try clear c29
           try clear c32
           try clear c32b0
           try clear c32b1
           try clear c32b2
           try clear c34
           try clear c37
           try clear c40
           try clear c40b0
           try clear c40b1
           try clear c40b2
           try clear c42
           try clear c44
           try clear c44b0
           try clear c44b1
           try clear hcz13_0
           try clear hcz13_1
           try clear hcz13_2
           try clear hcz13_3
           try clear hcz13_4
           try clear hcz13_5
           try clear hcz15_0
           try clear hcz15_1
           try clear hcz15_2
           try clear hcz15_3
           try clear hcz15_4
           try clear hcz15_5
           try clear hcz16_0
           try clear hcz16_1
           try clear hcz16_2
           try clear hcz16_3
           try clear hcz16_4
           try clear hcz16_5
           try clear hcz18_0
           try clear hcz18_1
           try clear hcz18_2
           try clear hcz18_3
           try clear hcz18_4
           try clear hcz18_5
           try clear hcz23_0
           try clear hcz23_1
           try clear hcz23_2
           try clear hcz23_3
           try clear hcz23_4
           try clear hcz23_5
           try clear hcz26_0
           try clear hcz26_1
           try clear hcz26_2
           try clear hcz26_3
           try clear hcz26_4
           try clear hcz26_5
           try clear hcz27_0
           try clear hcz27_1
           try clear hcz27_2
           try clear hcz27_3
           try clear hcz27_4
           try clear hcz27_5
           try clear hcz28_0
           try clear hcz28_1
           try clear hcz28_2
           try clear hcz28_3
           try clear hcz28_4
           try clear hcz28_5
           try clear hcz33_0
           try clear hcz33_1
           try clear hcz33_2
           try clear hcz33_3
           try clear hcz33_4
           try clear hcz33_5
           try clear hcz35_0
           try clear hcz35_1
           try clear hcz35_2
           try clear hcz35_3
           try clear hcz35_4
           try clear hcz35_5
           try clear hcz36_0
           try clear hcz36_1
           try clear hcz36_2
           try clear hcz36_3
           try clear hcz36_4
           try clear hcz36_5
           try clear hcz41_0
           try clear hcz41_1
           try clear hcz41_2
           try clear hcz41_3
           try clear hcz41_4
           try clear hcz41_5
           try clear hcz43_0
           try clear hcz43_1
           try clear hcz43_2
           try clear hcz43_3
           try clear hcz43_4
           try clear hcz43_5
           try clear hcz45_0
           try clear hcz45_1
           try clear hcz45_2
           try clear hcz45_3
           try clear hcz45_4
           try clear hcz45_5
           try clear hcz46_0
           try clear hcz46_1
           try clear hcz46_2
           try clear hcz46_3
           try clear hcz46_4
           try clear hcz46_5
           try clear hcz5_0
           try clear hcz5_1
           try clear hcz5_2
           try clear hcz5_3
           try clear hcz5_4
           try clear hcz5_5
           try clear hcz8_0
           try clear hcz8_1
           try clear hcz8_2
           try clear hcz8_3
           try clear hcz8_4
           try clear hcz8_5
           try clear hfz13_0
           try clear hfz13_1
           try clear hfz13_2
           try clear hfz13_3
           try clear hfz13_4
           try clear hfz13_5
           try clear hfz15_0
           try clear hfz15_1
           try clear hfz15_2
           try clear hfz15_3
           try clear hfz15_4
           try clear hfz15_5
           try clear hfz16_0
           try clear hfz16_1
           try clear hfz16_2
           try clear hfz16_3
           try clear hfz16_4
           try clear hfz16_5
           try clear hfz18_0
           try clear hfz18_1
           try clear hfz18_2
           try clear hfz18_3
           try clear hfz18_4
           try clear hfz18_5
           try clear hfz23_0
           try clear hfz23_1
           try clear hfz23_2
           try clear hfz23_3
           try clear hfz23_4
           try clear hfz23_5
           try clear hfz26_0
           try clear hfz26_1
           try clear hfz26_2
           try clear hfz26_3
           try clear hfz26_4
           try clear hfz26_5
           try clear hfz27_0
           try clear hfz27_1
           try clear hfz27_2
           try clear hfz27_3
           try clear hfz27_4
           try clear hfz27_5
           try clear hfz28_0
           try clear hfz28_1
           try clear hfz28_2
           try clear hfz28_3
           try clear hfz28_4
           try clear hfz28_5
           try clear hfz33_0
           try clear hfz33_1
           try clear hfz33_2
           try clear hfz33_3
           try clear hfz33_4
           try clear hfz33_5
           try clear hfz35_0
           try clear hfz35_1
           try clear hfz35_2
           try clear hfz35_3
           try clear hfz35_4
           try clear hfz35_5
           try clear hfz36_0
           try clear hfz36_1
           try clear hfz36_2
           try clear hfz36_3
           try clear hfz36_4
           try clear hfz36_5
           try clear hfz41_0
           try clear hfz41_1
           try clear hfz41_2
           try clear hfz41_3
           try clear hfz41_4
           try clear hfz41_5
           try clear hfz43_0
           try clear hfz43_1
           try clear hfz43_2
           try clear hfz43_3
           try clear hfz43_4
           try clear hfz43_5
           try clear hfz45_0
           try clear hfz45_1
           try clear hfz45_2
           try clear hfz45_3
           try clear hfz45_4
           try clear hfz45_5
           try clear hfz46_0
           try clear hfz46_1
           try clear hfz46_2
           try clear hfz46_3
           try clear hfz46_4
           try clear hfz46_5
           try clear hfz5_0
           try clear hfz5_1
           try clear hfz5_2
           try clear hfz5_3
           try clear hfz5_4
           try clear hfz5_5
           try clear hfz8_0
           try clear hfz8_1
           try clear hfz8_2
           try clear hfz8_3
           try clear hfz8_4
           try clear hfz8_5
           try clear p2
           obtain ⟨kq,x64_37,rfl,HA,HJ37,BK107,HB⟩:=hcut
           cases kq with
           | zero=>exact absurd HA.out (by simp [Y2.j3])
           | succ kj37 =>
            have H:=HA.out
            clear HA
            simp only [Y2.j3] at H
            by_cases c47:x64_37=true
            ·subst c47
             have H1:(some false)=some r:=by rw [if_pos rfl] at H;exact H
             clear H
             have H:=H1
             clear H1
             obtain rfl:=sI H
             go_wp2
             go_ret
             exact ⟨z7_,z2_ HB.out GE107.out⟩
            ·replace c47:=Bool.eq_false_iff.mpr c47
             subst c47
             have H1:(if a0_5=(-1) then (some true) else ((Y23.f a0_0).bind fun t117=>(if t117=true then ((Y24.f a0_5).bind fun t118=>(some t118)) else (some false))))=some r:=by rw [if_neg (show ¬ (false=true) by decide)] at H;exact H
             clear H
             have H:=H1
             clear H1
             by_cases c48:a0_5=(-1)
             ·rw [if_pos c48] at H
              have c48b0:(a0_5 == (-1))=true:=beq_iff_eq.mpr c48
              have c48b1:(a0_5 != (-1))=false:=bne_eq_false_iff_eq.mpr c48
              clear c48
              obtain rfl:=sI H
              have ⟨hcz49_0,hcz49_1,hcz49_2,hcz49_3,hcz49_4,hcz49_5,hfz49_0,hfz49_1,hfz49_2,hfz49_3,hfz49_4,hfz49_5⟩:=cz6_ BK107.out
              go_wp2
              go_ret
              exact ⟨z7_,z2_ HB.out GE107.out⟩
             ·rw [if_neg c48] at H
              have c48b0:(a0_5 == (-1))=false:=beq_eq_false_iff_ne.mpr c48
              have c48b1:(a0_5 != (-1))=true:=bne_iff_ne.mpr c48
              replace H:=bS H
              obtain ⟨t117,A500,H⟩:=H
              replace H:(if t117=true then ((Y24.f a0_5).bind fun t118=>(some t118)) else (some false))=some r:=H
              have A50:=aM A500
              clear A500
              by_cases c51:t117=true
              ·subst c51
               have H1:((Y24.f a0_5).bind fun t118=>(some t118))=some r:=by rw [if_pos rfl] at H;exact H
               clear H
               have H:=H1
               clear H1
               replace H:=bS H
               obtain ⟨t118,A520,H⟩:=H
               replace H:(some t118)=some r:=H
               have A52:=aM A520
               clear A520
               obtain rfl:=sI H
               have ⟨hcz53_0,hcz53_1,hcz53_2,hcz53_3,hcz53_4,hcz53_5,hfz53_0,hfz53_1,hfz53_2,hfz53_3,hfz53_4,hfz53_5⟩:=cz6_ BK107.out
               go_wp2_with (first | (go_at_call 33;(with_reducible refine (Y23.calls a0_0 true _ A50.out).mono ?_);rintro e w' ⟨rfl,⟨nd,rfl⟩⟩) | (go_at_call 34;(with_reducible refine (Y24.calls a0_5 t118 _ A52.out).mono ?_);rintro e w' ⟨rfl,⟨nd,rfl⟩⟩))
               go_ret
               exact ⟨z7_,z2_ HB.out GE107.out⟩
              ·replace c51:=Bool.eq_false_iff.mpr c51
               subst c51
               have H1:(some false)=some r:=by rw [if_neg (show ¬ (false=true) by decide)] at H;exact H
               clear H
               have H:=H1
               clear H1
               obtain rfl:=sI H
               have ⟨hcz54_0,hcz54_1,hcz54_2,hcz54_3,hcz54_4,hcz54_5,hfz54_0,hfz54_1,hfz54_2,hfz54_3,hfz54_4,hfz54_5⟩:=cz6_ BK107.out
               go_wp2_with (first | (go_at_call 33;(with_reducible refine (Y23.calls a0_0 false _ A50.out).mono ?_);rintro e w' ⟨rfl,⟨nd,rfl⟩⟩))
               go_ret
               exact ⟨z7_,z2_ HB.out GE107.out⟩


/-! ### Y7: function 17 -/
def Y7.l0:Nat→Int→Bool→ByteArray→Option (ByteArray)
 | 0,_,_,_=>none
 | k+1,x0,x3,x4=>if x0=0 then (if x3=true then (if 1+x4.size≤9223372036854775807 then (some ((⟨#[45]⟩:ByteArray) ++ x4)) else (none)) else (some x4)) else (if (Int.tmod x0 10)<0 then ((some (([(wrap64 (48+(wrap64 (-(Int.tmod x0 10))))) % 256]:List Int):List Int)).bind fun y119=>(if (strOfNums y119).size+x4.size≤9223372036854775807 then (Y7.l0 k (wrap64 (Int.tdiv x0 10)) x3 ((strOfNums y119) ++ x4)) else (none))) else ((some (([(wrap64 (48+(Int.tmod x0 10))) % 256]:List Int):List Int)).bind fun y122=>(if (strOfNums y122).size+x4.size≤9223372036854775807 then (Y7.l0 k (wrap64 (Int.tdiv x0 10)) x3 ((strOfNums y122) ++ x4)) else (none))))
def Y7.f (k:Nat) (a0:Int):Option (ByteArray):=if a0=0 then (some (⟨#[48]⟩:ByteArray)) else (Y7.l0 k a0 (decide (a0<0)) (⟨#[]⟩:ByteArray))
theorem Y7.mono_l:∀ k,(∀ y0 y1 y2,LeO (Y7.l0 k y0 y1 y2) (Y7.l0 (k+1) y0 y1 y2))
 | 0=>by intros <;> exact LeO.none _
 | k+1=>by
  have ih0:=Y7.mono_l k
  ·intros
   unfold Y7.l0
   exact mO
theorem Y7.mono:∀ a0 k,LeO (Y7.f k a0) (Y7.f (k+1) a0):=by
 intro a0 k
 have ih0:=Y7.mono_l k
 unfold Y7.f
 exact mO
theorem Y7.calls (k:Nat) (a0:Int) (r:ByteArray) (w:World) (h:Y7.f k a0=some r) :
  Calls Tryd.prog 17 #[.int .i64 a0] w fun e w'=>e = .returned (.string r)∧Below w.heap.size w w':=by
 have HB:=aM (Below.refl w.heap.size w)
 have H:(if a0=0 then (some (⟨#[48]⟩:ByteArray)) else (Y7.l0 k a0 (decide (a0<0)) (⟨#[]⟩:ByteArray)))=some r:=h
 clear h
 by_cases c2:a0=0
 ·rw [if_pos c2] at H
  have c2b0:(a0 == 0)=true:=beq_iff_eq.mpr c2
  have c2b1:(a0 != 0)=false:=bne_eq_false_iff_eq.mpr c2
  clear c2
  obtain rfl:=sI H
  go_enter Tryd.func17,Tryd.ntmps17
  go_wp2
  go_ret
  exact ⟨z7_,z6_ HB.out⟩
 ·rw [if_neg c2] at H
  have c2b0:(a0 == 0)=false:=beq_eq_false_iff_ne.mpr c2
  have c2b1:(a0 != 0)=true:=bne_iff_ne.mpr c2
  have H':=aM H
  clear H
  go_enter Tryd.func17,Tryd.ntmps17
  go_wp2
  go_loopg [0,4] k (fun kq v0 v4 w'=>∃ (x0_1:Int) (x4_1:ByteArray),v0 = .int .i64 x0_1∧v4 = .string x4_1∧Aside0 (Y7.l0 kq x0_1 (decide (a0<0)) x4_1=some r)∧Aside0 (kq≤k)∧Aside0 (Below w.heap.size w w'))
  case atStart=>exact ⟨(a0),((⟨#[]⟩:ByteArray)),(z0_),(z0_),H',⟨Nat.le_refl _⟩,⟨z6_ HB.out⟩⟩
  case round =>
   clear H'
   try clear c1
   try clear c2
   try clear c2b0
   try clear c2b1
   try clear p2
   obtain ⟨x0_1,x4_1,rfl,rfl,HA,HK1,HB⟩:=hrel
   cases gk with
   | zero=>exact absurd HA.out (by simp [Y7.l0])
   | succ k1 =>
    have H:=HA.out
    clear HA
    simp only [Y7.l0] at H
    by_cases c3:x0_1=0
    ·rw [if_pos c3] at H
     have c3b0:(x0_1 == 0)=true:=beq_iff_eq.mpr c3
     have c3b1:(x0_1 != 0)=false:=bne_eq_false_iff_eq.mpr c3
     clear c3
     by_cases c4:(decide (a0<0))=true
     ·rw [if_pos c4] at H
      have c4b0:(decide (a0<0))=true:=c4
      have c4q0:(a0<0):=dT c4b0
      have c4q1:=eq_true c4q0
      clear c4
      by_cases c5:1+x4_1.size≤9223372036854775807
      ·rw [if_pos c5] at H
       have c5b0:=eq_true c5
       have c5b1:decide (1+x4_1.size≤9223372036854775807)=true:=dE c5
       try have c5b2:(9223372036854775807<1+x4_1.size)=False:=eq_false (Nat.not_lt.2 c5)
       obtain rfl:=sI H
       go_wp2
       go_ret
       exact ⟨z7_,z6_ HB.out⟩
      ·rw [if_neg c5] at H
       exact nO H
     ·rw [if_neg c4] at H
      have c4b0:(decide (a0<0))=false:=by simpa using c4
      have c4q0:¬ (a0<0):=of_decide_eq_false c4b0
      have c4q1:=eq_false c4q0
      clear c4
      obtain rfl:=sI H
      go_wp2
      go_ret
      exact ⟨z7_,z6_ HB.out⟩
    ·rw [if_neg c3] at H
     have c3b0:(x0_1 == 0)=false:=beq_eq_false_iff_ne.mpr c3
     have c3b1:(x0_1 != 0)=true:=bne_iff_ne.mpr c3
     by_cases c6:(Int.tmod x0_1 10)<0
     ·rw [if_pos c6] at H
      have c6b0:decide ((Int.tmod x0_1 10)<0)=true:=dE c6
      clear c6
      obtain ⟨y119,hy119⟩:∃ y_:List Int,y_=(([(wrap64 (48+(wrap64 (-(Int.tmod x0_1 10))))) % 256]:List Int)):=⟨_,rfl⟩
      replace H:(if (strOfNums y119).size+x4_1.size≤9223372036854775807 then (Y7.l0 k1 (wrap64 (Int.tdiv x0_1 10)) (decide (a0<0)) ((strOfNums y119) ++ x4_1)) else (none))=some r:=by first | (rw [hy119];with_reducible exact H) | (have H2_:=(Option.bind_some _ _).symm.trans H;rw [hy119];with_reducible exact H2_) | (have H2_:=(Option.bind_some _ _).symm.trans H;with_reducible exact H2_) | with_reducible exact H | (rw [hy119];exact H) | exact H
      have Ny119:=aM hy119
      clear hy119
      by_cases c7:(strOfNums y119).size+x4_1.size≤9223372036854775807
      ·rw [if_pos c7] at H
       have c7b0:=eq_true c7
       have c7b1:decide ((strOfNums y119).size+x4_1.size≤9223372036854775807)=true:=dE c7
       try have c7b2:(9223372036854775807<(strOfNums y119).size+x4_1.size)=False:=eq_false (Nat.not_lt.2 c7)
       have H':=aM H
       clear H
       go_wp2_with (first | ((with_reducible refine gd_ 21 ?_);refine Kd.R_lit (Kd.int .u8) _ 5 ?hg (N:=21) ?hd (xs:=([(wrap64 (48+(wrap64 (-(Int.tmod x0_1 10))))) % 256]:List Int)) (inner:=[.int .u8 ((wrap64 (48+(wrap64 (-(Int.tmod x0_1 10))))) % 256)]) (ok:=fun _=>True) (okp:=fun _=>True) ?hr ?hp (fun _ hk=>hk) trivial (Below.refl _ _) (Nat.le_refl _) (by simp) ?_;(case hd=>rfl);(case hg=>rfl);(case hr=>first | (go_simp;done) | (go_simp;rfl));(case hp=>exact (Reps.one (show Kd.M (Kd.int .u8) _ _ _ ((wrap64 (48+(wrap64 (-(Int.tmod x0_1 10))))) % 256) [.int .u8 ((wrap64 (48+(wrap64 (-(Int.tmod x0_1 10))))) % 256)] from rfl) (Reps.none _ _)));intro v120 w8 ho9 hb hg_ hnew_;clear hg_ hnew_;(first | rw [← Ny119.out] at ho9 | (simp only [Int.reduceToNat] at ho9;rw [← Ny119.out] at ho9));have n0_:=aM (Kd.R_lower ho9 (below_size (z6_ HB.out)));have n1_:=aM (below_step (z6_ HB.out) hb);clear HB;have HO121:=n0_;have HB:=n1_;clear n0_ n1_;clear hb ho9;have hcv10:=own_string (P:=Tryd.prog) Tryd.underlying51 Tryd.underlying5 Tryd.underlying9 (Kd.own_of_R HO121.out)))
       go_roundg k1
       case measure=>have:=HK1.out;omega
       case rel=>exact ⟨(wrap64 (Int.tdiv x0_1 10)),((strOfNums y119) ++ x4_1),(z0_),(z0_),H',⟨by have:=HK1.out;omega⟩,⟨z6_ HB.out⟩⟩
      ·rw [if_neg c7] at H
       exact nO H
     ·rw [if_neg c6] at H
      have c6b0:decide ((Int.tmod x0_1 10)<0)=false:=dF c6
      clear c6
      obtain ⟨y122,hy122⟩:∃ y_:List Int,y_=(([(wrap64 (48+(Int.tmod x0_1 10))) % 256]:List Int)):=⟨_,rfl⟩
      replace H:(if (strOfNums y122).size+x4_1.size≤9223372036854775807 then (Y7.l0 k1 (wrap64 (Int.tdiv x0_1 10)) (decide (a0<0)) ((strOfNums y122) ++ x4_1)) else (none))=some r:=by first | (rw [hy122];with_reducible exact H) | (have H2_:=(Option.bind_some _ _).symm.trans H;rw [hy122];with_reducible exact H2_) | (have H2_:=(Option.bind_some _ _).symm.trans H;with_reducible exact H2_) | with_reducible exact H | (rw [hy122];exact H) | exact H
      have Ny122:=aM hy122
      clear hy122
      by_cases c11:(strOfNums y122).size+x4_1.size≤9223372036854775807
      ·rw [if_pos c11] at H
       have c11b0:=eq_true c11
       have c11b1:decide ((strOfNums y122).size+x4_1.size≤9223372036854775807)=true:=dE c11
       try have c11b2:(9223372036854775807<(strOfNums y122).size+x4_1.size)=False:=eq_false (Nat.not_lt.2 c11)
       have H':=aM H
       clear H
       go_wp2_with (first | ((with_reducible refine gd_ 21 ?_);refine Kd.R_lit (Kd.int .u8) _ 5 ?hg (N:=21) ?hd (xs:=([(wrap64 (48+(Int.tmod x0_1 10))) % 256]:List Int)) (inner:=[.int .u8 ((wrap64 (48+(Int.tmod x0_1 10))) % 256)]) (ok:=fun _=>True) (okp:=fun _=>True) ?hr ?hp (fun _ hk=>hk) trivial (Below.refl _ _) (Nat.le_refl _) (by simp) ?_;(case hd=>rfl);(case hg=>rfl);(case hr=>first | (go_simp;done) | (go_simp;rfl));(case hp=>exact (Reps.one (show Kd.M (Kd.int .u8) _ _ _ ((wrap64 (48+(Int.tmod x0_1 10))) % 256) [.int .u8 ((wrap64 (48+(Int.tmod x0_1 10))) % 256)] from rfl) (Reps.none _ _)));intro v123 w12 ho13 hb hg_ hnew_;clear hg_ hnew_;(first | rw [← Ny122.out] at ho13 | (simp only [Int.reduceToNat] at ho13;rw [← Ny122.out] at ho13));have n0_:=aM (Kd.R_lower ho13 (below_size (z6_ HB.out)));have n1_:=aM (below_step (z6_ HB.out) hb);clear HB;have HO124:=n0_;have HB:=n1_;clear n0_ n1_;clear hb ho13;have hcv14:=own_string (P:=Tryd.prog) Tryd.underlying51 Tryd.underlying5 Tryd.underlying9 (Kd.own_of_R HO124.out)))
       go_roundg k1
       case measure=>have:=HK1.out;omega
       case rel=>exact ⟨(wrap64 (Int.tdiv x0_1 10)),((strOfNums y122) ++ x4_1),(z0_),(z0_),H',⟨by have:=HK1.out;omega⟩,⟨z6_ HB.out⟩⟩
      ·rw [if_neg c11] at H
       exact nO H


/-! ### Y4: function 6 -/
mutual
def Y4.j0:Nat→Bool→Bool→Bool→Bool→ByteArray→Int→Int→Int→ByteArray→ByteArray→Int→Option (ByteArray)
 | 0,_,_,_,_,_,_,_,_,_,_,_=>none
 | k+1,x3,x4,x5,x6,x7,x126000,x126001,x126002,x126003,x126004,x126005=>if x3=true then (if x7.size+1≤9223372036854775807 then ((Y7.f k x126001).bind fun t133=>(if (x7.size+1)+t133.size≤9223372036854775807 then (Y4.j1 k x4 x5 x6 ((x7 ++ (⟨#[32]⟩:ByteArray)) ++ t133) x126000 x126001 x126002 x126003 x126004 x126005) else (none))) else (none)) else (Y4.j1 k x4 x5 x6 x7 x126000 x126001 x126002 x126003 x126004 x126005)
def Y4.j1:Nat→Bool→Bool→Bool→ByteArray→Int→Int→Int→ByteArray→ByteArray→Int→Option (ByteArray)
 | 0,_,_,_,_,_,_,_,_,_,_=>none
 | k+1,x4,x5,x6,x7,x126000,x126001,x126002,x126003,x126004,x126005=>if x4=true then (if x7.size+1≤9223372036854775807 then ((Y7.f k x126002).bind fun t134=>(if (x7.size+1)+t134.size≤9223372036854775807 then (Y4.j2 k x5 x6 ((x7 ++ (⟨#[32]⟩:ByteArray)) ++ t134) x126000 x126001 x126002 x126003 x126004 x126005) else (none))) else (none)) else (Y4.j2 k x5 x6 x7 x126000 x126001 x126002 x126003 x126004 x126005)
def Y4.j2:Nat→Bool→Bool→ByteArray→Int→Int→Int→ByteArray→ByteArray→Int→Option (ByteArray)
 | 0,_,_,_,_,_,_,_,_,_=>none
 | k+1,x5,x6,x7,x126000,x126001,x126002,x126003,x126004,x126005=>if x5=true then (if x7.size+1≤9223372036854775807 then (if (x7.size+1)+x126003.size≤9223372036854775807 then (Y4.j3 k x6 ((x7 ++ (⟨#[32]⟩:ByteArray)) ++ x126003) x126000 x126001 x126002 x126003 x126004 x126005) else (none)) else (none)) else (Y4.j3 k x6 x7 x126000 x126001 x126002 x126003 x126004 x126005)
def Y4.j3:Nat→Bool→ByteArray→Int→Int→Int→ByteArray→ByteArray→Int→Option (ByteArray)
 | 0,_,_,_,_,_,_,_,_=>none
 | k+1,x6,x7,x126000,x126001,x126002,x126003,x126004,x126005=>if x6=true then (if x7.size+1≤9223372036854775807 then (if (x7.size+1)+x126004.size≤9223372036854775807 then (some ((x7 ++ (⟨#[32]⟩:ByteArray)) ++ x126004)) else (none)) else (none)) else (some x7)
end
def Y4.f (k:Nat) (a0_0:Int) (a0_1:Int) (a0_2:Int) (a0_3:ByteArray) (a0_4:ByteArray) (a0_5:Int):Option (ByteArray):=(Y2.f k a0_0 a0_1 a0_2 a0_3 a0_4 a0_5).bind fun t126=>(if t126=true then ((Y10.f k a0_0).bind fun bt127=>((Y6.f k a0_0).bind fun t131=>(if a0_5=(-1) then (Y4.j0 k bt127.1 bt127.2.1 bt127.2.2.1 bt127.2.2.2 t131 a0_0 a0_1 a0_2 a0_3 a0_4 a0_5) else ((Y7.f k a0_5).bind fun t132=>(if 1+t132.size≤9223372036854775807 then (if (1+t132.size)+1≤9223372036854775807 then (if ((1+t132.size)+1)+t131.size≤9223372036854775807 then (Y4.j0 k bt127.1 bt127.2.1 bt127.2.2.1 bt127.2.2.2 ((((⟨#[33]⟩:ByteArray) ++ t132) ++ (⟨#[32]⟩:ByteArray)) ++ t131) a0_0 a0_1 a0_2 a0_3 a0_4 a0_5) else (none)) else (none)) else (none)))))) else (some (⟨#[]⟩:ByteArray)))
theorem Y4.mono_l:∀ k,(∀ y0 y1 y2 y3 y4 y5 y6 y7 y8 y9 y10,LeO (Y4.j0 k y0 y1 y2 y3 y4 y5 y6 y7 y8 y9 y10) (Y4.j0 (k+1) y0 y1 y2 y3 y4 y5 y6 y7 y8 y9 y10))∧(∀ y0 y1 y2 y3 y4 y5 y6 y7 y8 y9,LeO (Y4.j1 k y0 y1 y2 y3 y4 y5 y6 y7 y8 y9) (Y4.j1 (k+1) y0 y1 y2 y3 y4 y5 y6 y7 y8 y9))∧(∀ y0 y1 y2 y3 y4 y5 y6 y7 y8,LeO (Y4.j2 k y0 y1 y2 y3 y4 y5 y6 y7 y8) (Y4.j2 (k+1) y0 y1 y2 y3 y4 y5 y6 y7 y8))∧(∀ y0 y1 y2 y3 y4 y5 y6 y7,LeO (Y4.j3 k y0 y1 y2 y3 y4 y5 y6 y7) (Y4.j3 (k+1) y0 y1 y2 y3 y4 y5 y6 y7))
 | 0=>by refine ⟨?_,?_,?_,?_⟩ <;> intros <;> exact LeO.none _
 | k+1=>by
  obtain ⟨ih0,ih1,ih2,ih3⟩:=Y4.mono_l k
  have m0:=@Y2.mono
  have m1:=@Y7.mono
  have m2:=@Y10.mono
  have m3:=@Y6.mono
  refine ⟨?_,?_,?_,?_⟩
  ·intros
   unfold Y4.j0
   exact mO
  ·intros
   unfold Y4.j1
   exact mO
  ·intros
   unfold Y4.j2
   exact mO
  ·intros
   unfold Y4.j3
   exact mO
theorem Y4.mono:∀ a0 a1 a2 a3 a4 a5 k,LeO (Y4.f k a0 a1 a2 a3 a4 a5) (Y4.f (k+1) a0 a1 a2 a3 a4 a5):=by
 intro a0 a1 a2 a3 a4 a5 k
 have m0:=@Y2.mono
 have m1:=@Y7.mono
 have m2:=@Y10.mono
 have m3:=@Y6.mono
 obtain ⟨ih0,ih1,ih2,ih3⟩:=Y4.mono_l k
 unfold Y4.f
 exact mO
theorem Y4.calls (k:Nat) (a0_0:Int) (a0_1:Int) (a0_2:Int) (a0_3:ByteArray) (a0_4:ByteArray) (a0_5:Int) (r:ByteArray) (w:World) (h:Y4.f k a0_0 a0_1 a0_2 a0_3 a0_4 a0_5=some r) :
  Calls Tryd.prog 6 #[.agg #[.int .i64 a0_0,.int .i64 a0_1,.int .i64 a0_2,.string a0_3,.string a0_4,.int .i64 a0_5]] w fun e w'=>e = .returned (.string r)∧Below w.heap.size w w':=by
 have hu26:=Tryd.underlying26
 have HB:=aM (Below.refl w.heap.size w)
 have H:((Y2.f k a0_0 a0_1 a0_2 a0_3 a0_4 a0_5).bind fun t126=>(if t126=true then ((Y10.f k a0_0).bind fun bt127=>((Y6.f k a0_0).bind fun t131=>(if a0_5=(-1) then (Y4.j0 k bt127.1 bt127.2.1 bt127.2.2.1 bt127.2.2.2 t131 a0_0 a0_1 a0_2 a0_3 a0_4 a0_5) else ((Y7.f k a0_5).bind fun t132=>(if 1+t132.size≤9223372036854775807 then (if (1+t132.size)+1≤9223372036854775807 then (if ((1+t132.size)+1)+t131.size≤9223372036854775807 then (Y4.j0 k bt127.1 bt127.2.1 bt127.2.2.1 bt127.2.2.2 ((((⟨#[33]⟩:ByteArray) ++ t132) ++ (⟨#[32]⟩:ByteArray)) ++ t131) a0_0 a0_1 a0_2 a0_3 a0_4 a0_5) else (none)) else (none)) else (none)))))) else (some (⟨#[]⟩:ByteArray))))=some r:=h
 clear h
 replace H:=bS H
 obtain ⟨t126,A20,H⟩:=H
 replace H:(if t126=true then ((Y10.f k a0_0).bind fun bt127=>((Y6.f k a0_0).bind fun t131=>(if a0_5=(-1) then (Y4.j0 k bt127.1 bt127.2.1 bt127.2.2.1 bt127.2.2.2 t131 a0_0 a0_1 a0_2 a0_3 a0_4 a0_5) else ((Y7.f k a0_5).bind fun t132=>(if 1+t132.size≤9223372036854775807 then (if (1+t132.size)+1≤9223372036854775807 then (if ((1+t132.size)+1)+t131.size≤9223372036854775807 then (Y4.j0 k bt127.1 bt127.2.1 bt127.2.2.1 bt127.2.2.2 ((((⟨#[33]⟩:ByteArray) ++ t132) ++ (⟨#[32]⟩:ByteArray)) ++ t131) a0_0 a0_1 a0_2 a0_3 a0_4 a0_5) else (none)) else (none)) else (none)))))) else (some (⟨#[]⟩:ByteArray)))=some r:=H
 have A2:=aM A20
 clear A20
 by_cases c3:t126=true
 ·subst c3
  have H1:((Y10.f k a0_0).bind fun bt127=>((Y6.f k a0_0).bind fun t131=>(if a0_5=(-1) then (Y4.j0 k bt127.1 bt127.2.1 bt127.2.2.1 bt127.2.2.2 t131 a0_0 a0_1 a0_2 a0_3 a0_4 a0_5) else ((Y7.f k a0_5).bind fun t132=>(if 1+t132.size≤9223372036854775807 then (if (1+t132.size)+1≤9223372036854775807 then (if ((1+t132.size)+1)+t131.size≤9223372036854775807 then (Y4.j0 k bt127.1 bt127.2.1 bt127.2.2.1 bt127.2.2.2 ((((⟨#[33]⟩:ByteArray) ++ t132) ++ (⟨#[32]⟩:ByteArray)) ++ t131) a0_0 a0_1 a0_2 a0_3 a0_4 a0_5) else (none)) else (none)) else (none))))))=some r:=by rw [if_pos rfl] at H;exact H
  clear H
  have H:=H1
  clear H1
  replace H:=bS H
  obtain ⟨⟨t127,t128,t129,t130⟩,A40,H⟩:=H
  replace H:((Y6.f k a0_0).bind fun t131=>(if a0_5=(-1) then (Y4.j0 k t127 t128 t129 t130 t131 a0_0 a0_1 a0_2 a0_3 a0_4 a0_5) else ((Y7.f k a0_5).bind fun t132=>(if 1+t132.size≤9223372036854775807 then (if (1+t132.size)+1≤9223372036854775807 then (if ((1+t132.size)+1)+t131.size≤9223372036854775807 then (Y4.j0 k t127 t128 t129 t130 ((((⟨#[33]⟩:ByteArray) ++ t132) ++ (⟨#[32]⟩:ByteArray)) ++ t131) a0_0 a0_1 a0_2 a0_3 a0_4 a0_5) else (none)) else (none)) else (none)))))=some r:=H
  have A4:=aM A40
  clear A40
  replace H:=bS H
  obtain ⟨t131,A50,H⟩:=H
  replace H:(if a0_5=(-1) then (Y4.j0 k t127 t128 t129 t130 t131 a0_0 a0_1 a0_2 a0_3 a0_4 a0_5) else ((Y7.f k a0_5).bind fun t132=>(if 1+t132.size≤9223372036854775807 then (if (1+t132.size)+1≤9223372036854775807 then (if ((1+t132.size)+1)+t131.size≤9223372036854775807 then (Y4.j0 k t127 t128 t129 t130 ((((⟨#[33]⟩:ByteArray) ++ t132) ++ (⟨#[32]⟩:ByteArray)) ++ t131) a0_0 a0_1 a0_2 a0_3 a0_4 a0_5) else (none)) else (none)) else (none))))=some r:=H
  have A5:=aM A50
  clear A50
  have HC6:=aM H
  clear H
  go_enter Tryd.func6,Tryd.ntmps6
  go_upto_if 24 with (first | ((with_reducible refine gd_ 1 ?_);refine be_ 1 #[.int .i64 a0_0,.int .i64 a0_1,.int .i64 a0_2,.string a0_3,.string a0_4,.int .i64 a0_5] 26 ?_;intro gb125 hg w7 hbox hb;have n0_:=aM (below_step (z6_ HB.out) hb);have n1_:=aM (hbox);have n2_:=aM ((z8_ HB.out:w.heap.size≤gb125));have n3_:=aM ((z8_ HB.out:w.heap.size≤gb125));clear HB;have HB:=n0_;have BK125:=n1_;have GW125:=n2_;have GE125:=n3_;clear n0_ n1_ n2_ n3_;clear hb hbox hg;have ⟨hcz8_0,hcz8_1,hcz8_2,hcz8_3,hcz8_4,hcz8_5,hfz8_0,hfz8_1,hfz8_2,hfz8_3,hfz8_4,hfz8_5⟩:=cz6_ BK125.out) | ((with_reducible refine gc_ 14 ?_);refine gl_ (some 9) Tryd.func14 #[.agg #[.int .i64 a0_0,.int .i64 a0_1,.int .i64 a0_2,.string a0_3,.string a0_4,.int .i64 a0_5]] ?_;(with_reducible refine (Y2.calls k a0_0 a0_1 a0_2 a0_3 a0_4 a0_5 true _ A2.out).mono ?_);rintro e w9 ⟨rfl,hb⟩;refine ⟨_,rfl,?_⟩;have n0_:=aM (blkB_ BK125.out hb);have n1_:=aM (below_step (z2_ HB.out GE125.out) hb);clear BK125;clear HB;have BK125:=n0_;have HB:=n1_;clear n0_ n1_;(try clear hb);have ⟨hcz10_0,hcz10_1,hcz10_2,hcz10_3,hcz10_4,hcz10_5,hfz10_0,hfz10_1,hfz10_2,hfz10_3,hfz10_4,hfz10_5⟩:=cz6_ BK125.out) | ((with_reducible refine gc_ 15 ?_);refine gl_ (some 14) Tryd.func15 #[.int .i64 a0_0] ?_;(with_reducible refine (Y10.calls k a0_0 t127 t128 t129 t130 _ A4.out).mono ?_);rintro e w' ⟨rfl,⟨nd,rfl⟩⟩;refine ⟨_,rfl,?_⟩) | ((with_reducible refine gc_ 16 ?_);refine gl_ (some 21) Tryd.func16 #[.int .i64 a0_0] ?_;(with_reducible refine (Y6.calls k a0_0 t131 _ A5.out).mono ?_);rintro e w11 ⟨rfl,hb⟩;refine ⟨_,rfl,?_⟩;have n0_:=aM (blkB_ BK125.out hb);have n1_:=aM (below_step (z2_ HB.out GE125.out) hb);clear BK125;clear HB;have BK125:=n0_;have HB:=n1_;clear n0_ n1_;(try clear hb);have ⟨hcz12_0,hcz12_1,hcz12_2,hcz12_3,hcz12_4,hcz12_5,hfz12_0,hfz12_1,hfz12_2,hfz12_3,hfz12_4,hfz12_5⟩:=cz6_ BK125.out))
  (try simp only [Act.put,sa_,s0_,ss_])
  go_cut [7] (fun v7 wc=>∃ (kq:Nat) (x7_5:ByteArray),v7 = .string x7_5∧Aside0 (Y4.j0 kq t127 t128 t129 t130 x7_5 a0_0 a0_1 a0_2 a0_3 a0_4 a0_5=some r)∧Aside0 (kq≤k)∧Aside0 (wc.heap[gb125]? = some (.cells #[.int .i64 a0_0,.int .i64 a0_1,.int .i64 a0_2,.string a0_3,.string a0_4,.int .i64 a0_5] 26 (0,0)))∧Aside0 (Below w.heap.size w wc))
  case first =>
   have H:=HC6.out
   clear HC6
   by_cases c13:a0_5=(-1)
   ·rw [if_pos c13] at H
    have c13b0:(a0_5 == (-1))=true:=beq_iff_eq.mpr c13
    have c13b1:(a0_5 != (-1))=false:=bne_eq_false_iff_eq.mpr c13
    clear c13
    (first | rw [c13b0] | (simp only [i64_w,i32_w];rw [c13b0]) | skip)
    have H':=aM H
    clear H
    go_wp2
    go_meet
    case rel=>exact ⟨_,(t131),(z0_),H',⟨by first | omega | exact Nat.le_refl _⟩,⟨z5_ BK125.out⟩,⟨z2_ HB.out GE125.out⟩⟩
   ·rw [if_neg c13] at H
    have c13b0:(a0_5 == (-1))=false:=beq_eq_false_iff_ne.mpr c13
    have c13b1:(a0_5 != (-1))=true:=bne_iff_ne.mpr c13
    (first | rw [c13b0] | (simp only [i64_w,i32_w];rw [c13b0]) | skip)
    replace H:=bS H
    obtain ⟨t132,A140,H⟩:=H
    replace H:(if 1+t132.size≤9223372036854775807 then (if (1+t132.size)+1≤9223372036854775807 then (if ((1+t132.size)+1)+t131.size≤9223372036854775807 then (Y4.j0 k t127 t128 t129 t130 ((((⟨#[33]⟩:ByteArray) ++ t132) ++ (⟨#[32]⟩:ByteArray)) ++ t131) a0_0 a0_1 a0_2 a0_3 a0_4 a0_5) else (none)) else (none)) else (none))=some r:=H
    have A14:=aM A140
    clear A140
    by_cases c15:1+t132.size≤9223372036854775807
    ·rw [if_pos c15] at H
     have c15b0:=eq_true c15
     have c15b1:decide (1+t132.size≤9223372036854775807)=true:=dE c15
     try have c15b2:(9223372036854775807<1+t132.size)=False:=eq_false (Nat.not_lt.2 c15)
     by_cases c16:(1+t132.size)+1≤9223372036854775807
     ·rw [if_pos c16] at H
      have c16b0:=eq_true c16
      have c16b1:decide ((1+t132.size)+1≤9223372036854775807)=true:=dE c16
      try have c16b2:(9223372036854775807<(1+t132.size)+1)=False:=eq_false (Nat.not_lt.2 c16)
      by_cases c17:((1+t132.size)+1)+t131.size≤9223372036854775807
      ·rw [if_pos c17] at H
       have c17b0:=eq_true c17
       have c17b1:decide (((1+t132.size)+1)+t131.size≤9223372036854775807)=true:=dE c17
       try have c17b2:(9223372036854775807<((1+t132.size)+1)+t131.size)=False:=eq_false (Nat.not_lt.2 c17)
       have H':=aM H
       clear H
       have ⟨hcz18_0,hcz18_1,hcz18_2,hcz18_3,hcz18_4,hcz18_5,hfz18_0,hfz18_1,hfz18_2,hfz18_3,hfz18_4,hfz18_5⟩:=cz6_ BK125.out
       go_wp2_with (first | ((with_reducible refine gc_ 17 ?_);refine gl_ (some 27) Tryd.func17 #[.int .i64 a0_5] ?_;(with_reducible refine (Y7.calls k a0_5 t132 _ A14.out).mono ?_);rintro e w19 ⟨rfl,hb⟩;refine ⟨_,rfl,?_⟩;have n0_:=aM (blkB_ BK125.out hb);have n1_:=aM (below_step (z2_ HB.out GE125.out) hb);clear BK125;clear HB;have BK125:=n0_;have HB:=n1_;clear n0_ n1_;(try clear hb)))
       go_meet
       case rel=>exact ⟨_,((((⟨#[33]⟩:ByteArray) ++ t132) ++ (⟨#[32]⟩:ByteArray)) ++ t131),(z0_),H',⟨by first | omega | exact Nat.le_refl _⟩,⟨z5_ BK125.out⟩,⟨z2_ HB.out GE125.out⟩⟩
      ·rw [if_neg c17] at H
       exact nO H
     ·rw [if_neg c16] at H
      exact nO H
    ·rw [if_neg c15] at H
     exact nO H
  case rest =>
   clear HC6
   try clear c1
   try clear p2
   try clear c3
   try clear c6
   try clear c13
   try clear c13b0
   try clear c13b1
   try clear c14
   try clear c15
   try clear c15b0
   try clear c15b1
   try clear c15b2
   try clear c16
   try clear c16b0
   try clear c16b1
   try clear c16b2
   try clear c17
   try clear c17b0
   try clear c17b1
   try clear c17b2
   try clear hcz10_0
   try clear hcz10_1
   try clear hcz10_2
   try clear hcz10_3
   try clear hcz10_4
   try clear hcz10_5
   try clear hcz12_0
   try clear hcz12_1
   try clear hcz12_2
   try clear hcz12_3
   try clear hcz12_4
   try clear hcz12_5
   try clear hcz18_0
   try clear hcz18_1
   try clear hcz18_2
   try clear hcz18_3
   try clear hcz18_4
   try clear hcz18_5
   try clear hcz8_0
   try clear hcz8_1
   try clear hcz8_2
   try clear hcz8_3
   try clear hcz8_4
   try clear hcz8_5
   try clear hfz10_0
   try clear hfz10_1
   try clear hfz10_2
   try clear hfz10_3
   try clear hfz10_4
   try clear hfz10_5
   try clear hfz12_0
   try clear hfz12_1
   try clear hfz12_2
   try clear hfz12_3
   try clear hfz12_4
   try clear hfz12_5
   try clear hfz18_0
   try clear hfz18_1
   try clear hfz18_2
   try clear hfz18_3
   try clear hfz18_4
   try clear hfz18_5
   try clear hfz8_0
   try clear hfz8_1
   try clear hfz8_2
   try clear hfz8_3
   try clear hfz8_4
   try clear hfz8_5
   obtain ⟨kq,x7_5,rfl,HA,HJ5,BK125,HB⟩:=hcut
   cases kq with
   | zero=>exact absurd HA.out (by simp [Y4.j0])
   | succ kj5 =>
    have H:=HA.out
    clear HA
    simp only [Y4.j0] at H
    have HC20:=aM H
    clear H
    go_upto_if 32 with (fail)
    go_cut [7] (fun v7 wc=>∃ (kq:Nat) (x7_19:ByteArray),v7 = .string x7_19∧Aside0 (Y4.j1 kq t128 t129 t130 x7_19 a0_0 a0_1 a0_2 a0_3 a0_4 a0_5=some r)∧Aside0 (kq≤kj5)∧Aside0 (wc.heap[gb125]? = some (.cells #[.int .i64 a0_0,.int .i64 a0_1,.int .i64 a0_2,.string a0_3,.string a0_4,.int .i64 a0_5] 26 (0,0)))∧Aside0 (Below w.heap.size w wc))
    case first =>
     have H:=HC20.out
     clear HC20
     by_cases c21:t127=true
     ·subst c21
      have H1:(if x7_5.size+1≤9223372036854775807 then ((Y7.f kj5 a0_1).bind fun t133=>(if (x7_5.size+1)+t133.size≤9223372036854775807 then (Y4.j1 kj5 t128 t129 t130 ((x7_5 ++ (⟨#[32]⟩:ByteArray)) ++ t133) a0_0 a0_1 a0_2 a0_3 a0_4 a0_5) else (none))) else (none))=some r:=by rw [if_pos rfl] at H;exact H
      clear H
      have H:=H1
      clear H1
      by_cases c22:x7_5.size+1≤9223372036854775807
      ·rw [if_pos c22] at H
       have c22b0:=eq_true c22
       have c22b1:decide (x7_5.size+1≤9223372036854775807)=true:=dE c22
       try have c22b2:(9223372036854775807<x7_5.size+1)=False:=eq_false (Nat.not_lt.2 c22)
       replace H:=bS H
       obtain ⟨t133,A230,H⟩:=H
       replace H:(if (x7_5.size+1)+t133.size≤9223372036854775807 then (Y4.j1 kj5 t128 t129 t130 ((x7_5 ++ (⟨#[32]⟩:ByteArray)) ++ t133) a0_0 a0_1 a0_2 a0_3 a0_4 a0_5) else (none))=some r:=H
       have A23:=aM A230
       clear A230
       by_cases c24:(x7_5.size+1)+t133.size≤9223372036854775807
       ·rw [if_pos c24] at H
        have c24b0:=eq_true c24
        have c24b1:decide ((x7_5.size+1)+t133.size≤9223372036854775807)=true:=dE c24
        try have c24b2:(9223372036854775807<(x7_5.size+1)+t133.size)=False:=eq_false (Nat.not_lt.2 c24)
        have H':=aM H
        clear H
        have ⟨hcz25_0,hcz25_1,hcz25_2,hcz25_3,hcz25_4,hcz25_5,hfz25_0,hfz25_1,hfz25_2,hfz25_3,hfz25_4,hfz25_5⟩:=cz6_ BK125.out
        go_wp2_with (first | ((with_reducible refine gc_ 17 ?_);refine gl_ (some 37) Tryd.func17 #[.int .i64 a0_1] ?_;(with_reducible refine (Y7.calls kj5 a0_1 t133 _ A23.out).mono ?_);rintro e w26 ⟨rfl,hb⟩;refine ⟨_,rfl,?_⟩;have n0_:=aM (blkB_ BK125.out hb);have n1_:=aM (below_step (z2_ HB.out GE125.out) hb);clear BK125;clear HB;have BK125:=n0_;have HB:=n1_;clear n0_ n1_;(try clear hb)))
        go_meet
        case rel=>exact ⟨_,((x7_5 ++ (⟨#[32]⟩:ByteArray)) ++ t133),(z0_),H',⟨z10_ HJ5.out⟩,⟨z5_ BK125.out⟩,⟨z2_ HB.out GE125.out⟩⟩
       ·rw [if_neg c24] at H
        exact nO H
      ·rw [if_neg c22] at H
       exact nO H
     ·replace c21:=Bool.eq_false_iff.mpr c21
      subst c21
      have H1:(Y4.j1 kj5 t128 t129 t130 x7_5 a0_0 a0_1 a0_2 a0_3 a0_4 a0_5)=some r:=by rw [if_neg (show ¬ (false=true) by decide)] at H;exact H
      clear H
      have H:=H1
      clear H1
      have H':=aM H
      clear H
      go_wp2
      go_meet
      case rel=>exact ⟨_,(x7_5),(z0_),H',⟨z10_ HJ5.out⟩,⟨z5_ BK125.out⟩,⟨z2_ HB.out GE125.out⟩⟩
    case rest =>
     clear HC20
     try clear c1
     try clear c2
     try clear p2
     try clear c3
     try clear c6
     try clear c13
     try clear c13b0
     try clear c13b1
     try clear c14
     try clear c15
     try clear c15b0
     try clear c15b1
     try clear c15b2
     try clear c16
     try clear c16b0
     try clear c16b1
     try clear c16b2
     try clear c17
     try clear c17b0
     try clear c17b1
     try clear c17b2
     try clear c21
     try clear c22
     try clear c22b0
     try clear c22b1
     try clear c22b2
     try clear c24
     try clear c24b0
     try clear c24b1
     try clear c24b2
     try clear hcz10_0
     try clear hcz10_1
     try clear hcz10_2
     try clear hcz10_3
     try clear hcz10_4
     try clear hcz10_5
     try clear hcz12_0
     try clear hcz12_1
     try clear hcz12_2
     try clear hcz12_3
     try clear hcz12_4
     try clear hcz12_5
     try clear hcz18_0
     try clear hcz18_1
     try clear hcz18_2
     try clear hcz18_3
     try clear hcz18_4
     try clear hcz18_5
     try clear hcz25_0
     try clear hcz25_1
     try clear hcz25_2
     try clear hcz25_3
     try clear hcz25_4
     try clear hcz25_5
     try clear hcz8_0
     try clear hcz8_1
     try clear hcz8_2
     try clear hcz8_3
     try clear hcz8_4
     try clear hcz8_5
     try clear hfz10_0
     try clear hfz10_1
     try clear hfz10_2
     try clear hfz10_3
     try clear hfz10_4
     try clear hfz10_5
     try clear hfz12_0
     try clear hfz12_1
     try clear hfz12_2
     try clear hfz12_3
     try clear hfz12_4
     try clear hfz12_5
     try clear hfz18_0
     try clear hfz18_1
     try clear hfz18_2
     try clear hfz18_3
     try clear hfz18_4
     try clear hfz18_5
     try clear hfz25_0
     try clear hfz25_1
     try clear hfz25_2
     try clear hfz25_3
     try clear hfz25_4
     try clear hfz25_5
     try clear hfz8_0
     try clear hfz8_1
     try clear hfz8_2
     try clear hfz8_3
     try clear hfz8_4
     try clear hfz8_5
     try clear p2
     obtain ⟨kq,x7_19,rfl,HA,HJ19,BK125,HB⟩:=hcut
     cases kq with
     | zero=>exact absurd HA.out (by simp [Y4.j1])
     | succ kj19 =>
      have H:=HA.out
      clear HA
      simp only [Y4.j1] at H
      have HC27:=aM H
      clear H
      go_upto_if 39 with (fail)
      go_cut [7] (fun v7 wc=>∃ (kq:Nat) (x7_26:ByteArray),v7 = .string x7_26∧Aside0 (Y4.j2 kq t129 t130 x7_26 a0_0 a0_1 a0_2 a0_3 a0_4 a0_5=some r)∧Aside0 (kq≤kj19)∧Aside0 (wc.heap[gb125]? = some (.cells #[.int .i64 a0_0,.int .i64 a0_1,.int .i64 a0_2,.string a0_3,.string a0_4,.int .i64 a0_5] 26 (0,0)))∧Aside0 (Below w.heap.size w wc))
      case first =>
       have H:=HC27.out
       clear HC27
       by_cases c28:t128=true
       ·subst c28
        have H1:(if x7_19.size+1≤9223372036854775807 then ((Y7.f kj19 a0_2).bind fun t134=>(if (x7_19.size+1)+t134.size≤9223372036854775807 then (Y4.j2 kj19 t129 t130 ((x7_19 ++ (⟨#[32]⟩:ByteArray)) ++ t134) a0_0 a0_1 a0_2 a0_3 a0_4 a0_5) else (none))) else (none))=some r:=by rw [if_pos rfl] at H;exact H
        clear H
        have H:=H1
        clear H1
        by_cases c29:x7_19.size+1≤9223372036854775807
        ·rw [if_pos c29] at H
         have c29b0:=eq_true c29
         have c29b1:decide (x7_19.size+1≤9223372036854775807)=true:=dE c29
         try have c29b2:(9223372036854775807<x7_19.size+1)=False:=eq_false (Nat.not_lt.2 c29)
         replace H:=bS H
         obtain ⟨t134,A300,H⟩:=H
         replace H:(if (x7_19.size+1)+t134.size≤9223372036854775807 then (Y4.j2 kj19 t129 t130 ((x7_19 ++ (⟨#[32]⟩:ByteArray)) ++ t134) a0_0 a0_1 a0_2 a0_3 a0_4 a0_5) else (none))=some r:=H
         have A30:=aM A300
         clear A300
         by_cases c31:(x7_19.size+1)+t134.size≤9223372036854775807
         ·rw [if_pos c31] at H
          have c31b0:=eq_true c31
          have c31b1:decide ((x7_19.size+1)+t134.size≤9223372036854775807)=true:=dE c31
          try have c31b2:(9223372036854775807<(x7_19.size+1)+t134.size)=False:=eq_false (Nat.not_lt.2 c31)
          have H':=aM H
          clear H
          have ⟨hcz32_0,hcz32_1,hcz32_2,hcz32_3,hcz32_4,hcz32_5,hfz32_0,hfz32_1,hfz32_2,hfz32_3,hfz32_4,hfz32_5⟩:=cz6_ BK125.out
          go_wp2_with (first | ((with_reducible refine gc_ 17 ?_);refine gl_ (some 44) Tryd.func17 #[.int .i64 a0_2] ?_;(with_reducible refine (Y7.calls kj19 a0_2 t134 _ A30.out).mono ?_);rintro e w33 ⟨rfl,hb⟩;refine ⟨_,rfl,?_⟩;have n0_:=aM (blkB_ BK125.out hb);have n1_:=aM (below_step (z2_ HB.out GE125.out) hb);clear BK125;clear HB;have BK125:=n0_;have HB:=n1_;clear n0_ n1_;(try clear hb)))
          go_meet
          case rel=>exact ⟨_,((x7_19 ++ (⟨#[32]⟩:ByteArray)) ++ t134),(z0_),H',⟨by have:=HJ5.out;have:=HJ19.out;first | omega | exact Nat.le_refl _⟩,⟨z5_ BK125.out⟩,⟨z2_ HB.out GE125.out⟩⟩
         ·rw [if_neg c31] at H
          exact nO H
        ·rw [if_neg c29] at H
         exact nO H
       ·replace c28:=Bool.eq_false_iff.mpr c28
        subst c28
        have H1:(Y4.j2 kj19 t129 t130 x7_19 a0_0 a0_1 a0_2 a0_3 a0_4 a0_5)=some r:=by rw [if_neg (show ¬ (false=true) by decide)] at H;exact H
        clear H
        have H:=H1
        clear H1
        have H':=aM H
        clear H
        go_wp2
        go_meet
        case rel=>exact ⟨_,(x7_19),(z0_),H',⟨by have:=HJ5.out;have:=HJ19.out;first | omega | exact Nat.le_refl _⟩,⟨z5_ BK125.out⟩,⟨z2_ HB.out GE125.out⟩⟩
      case rest =>
       clear HC27
       try clear c1
       try clear c2
       try clear p2
       try clear c3
       try clear c6
       try clear c13
       try clear c13b0
       try clear c13b1
       try clear c14
       try clear c15
       try clear c15b0
       try clear c15b1
       try clear c15b2
       try clear c16
       try clear c16b0
       try clear c16b1
       try clear c16b2
       try clear c17
       try clear c17b0
       try clear c17b1
       try clear c17b2
       try clear c21
       try clear c22
       try clear c22b0
       try clear c22b1
       try clear c22b2
       try clear c24
       try clear c24b0
       try clear c24b1
       try clear c24b2
       try clear c28
       try clear c29
       try clear c29b0
       try clear c29b1
       try clear c29b2
       try clear c31
       try clear c31b0
       try clear c31b1
       try clear c31b2
       try clear hcz10_0
       try clear hcz10_1
       try clear hcz10_2
       try clear hcz10_3
       try clear hcz10_4
       try clear hcz10_5
       try clear hcz12_0
       try clear hcz12_1
       try clear hcz12_2
       try clear hcz12_3
       try clear hcz12_4
       try clear hcz12_5
       try clear hcz18_0
       try clear hcz18_1
       try clear hcz18_2
       try clear hcz18_3
       try clear hcz18_4
       try clear hcz18_5
       try clear hcz25_0
       try clear hcz25_1
       try clear hcz25_2
       try clear hcz25_3
       try clear hcz25_4
       try clear hcz25_5
       try clear hcz32_0
       try clear hcz32_1
       try clear hcz32_2
       try clear hcz32_3
       try clear hcz32_4
       try clear hcz32_5
       try clear hcz8_0
       try clear hcz8_1
       try clear hcz8_2
       try clear hcz8_3
       try clear hcz8_4
       try clear hcz8_5
       try clear hfz10_0
       try clear hfz10_1
       try clear hfz10_2
       try clear hfz10_3
       try clear hfz10_4
       try clear hfz10_5
       try clear hfz12_0
       try clear hfz12_1
       try clear hfz12_2
       try clear hfz12_3
       try clear hfz12_4
       try clear hfz12_5
       try clear hfz18_0
       try clear hfz18_1
       try clear hfz18_2
       try clear hfz18_3
       try clear hfz18_4
       try clear hfz18_5
       try clear hfz25_0
       try clear hfz25_1
       try clear hfz25_2
       try clear hfz25_3
       try clear hfz25_4
       try clear hfz25_5
       try clear hfz32_0
       try clear hfz32_1
       try clear hfz32_2
       try clear hfz32_3
       try clear hfz32_4
       try clear hfz32_5
       try clear hfz8_0
       try clear hfz8_1
       try clear hfz8_2
       try clear hfz8_3
       try clear hfz8_4
       try clear hfz8_5
       try clear p2
       obtain ⟨kq,x7_26,rfl,HA,HJ26,BK125,HB⟩:=hcut
       cases kq with
       | zero=>exact absurd HA.out (by simp [Y4.j2])
       | succ kj26 =>
        have H:=HA.out
        clear HA
        simp only [Y4.j2] at H
        have HC34:=aM H
        clear H
        go_upto_if 46 with (fail)
        go_cut [7] (fun v7 wc=>∃ (kq:Nat) (x7_33:ByteArray),v7 = .string x7_33∧Aside0 (Y4.j3 kq t130 x7_33 a0_0 a0_1 a0_2 a0_3 a0_4 a0_5=some r)∧Aside0 (kq≤kj26)∧Aside0 (wc.heap[gb125]? = some (.cells #[.int .i64 a0_0,.int .i64 a0_1,.int .i64 a0_2,.string a0_3,.string a0_4,.int .i64 a0_5] 26 (0,0)))∧Aside0 (Below w.heap.size w wc))
        case first =>
         have H:=HC34.out
         clear HC34
         by_cases c35:t129=true
         ·subst c35
          have H1:(if x7_26.size+1≤9223372036854775807 then (if (x7_26.size+1)+a0_3.size≤9223372036854775807 then (Y4.j3 kj26 t130 ((x7_26 ++ (⟨#[32]⟩:ByteArray)) ++ a0_3) a0_0 a0_1 a0_2 a0_3 a0_4 a0_5) else (none)) else (none))=some r:=by rw [if_pos rfl] at H;exact H
          clear H
          have H:=H1
          clear H1
          by_cases c36:x7_26.size+1≤9223372036854775807
          ·rw [if_pos c36] at H
           have c36b0:=eq_true c36
           have c36b1:decide (x7_26.size+1≤9223372036854775807)=true:=dE c36
           try have c36b2:(9223372036854775807<x7_26.size+1)=False:=eq_false (Nat.not_lt.2 c36)
           by_cases c37:(x7_26.size+1)+a0_3.size≤9223372036854775807
           ·rw [if_pos c37] at H
            have c37b0:=eq_true c37
            have c37b1:decide ((x7_26.size+1)+a0_3.size≤9223372036854775807)=true:=dE c37
            try have c37b2:(9223372036854775807<(x7_26.size+1)+a0_3.size)=False:=eq_false (Nat.not_lt.2 c37)
            have H':=aM H
            clear H
            have ⟨hcz38_0,hcz38_1,hcz38_2,hcz38_3,hcz38_4,hcz38_5,hfz38_0,hfz38_1,hfz38_2,hfz38_3,hfz38_4,hfz38_5⟩:=cz6_ BK125.out
            go_wp2
            go_meet
            case rel=>exact ⟨_,((x7_26 ++ (⟨#[32]⟩:ByteArray)) ++ a0_3),(z0_),H',⟨z12_ HJ5.out HJ19.out HJ26.out⟩,⟨z5_ BK125.out⟩,⟨z2_ HB.out GE125.out⟩⟩
           ·rw [if_neg c37] at H
            exact nO H
          ·rw [if_neg c36] at H
           exact nO H
         ·replace c35:=Bool.eq_false_iff.mpr c35
          subst c35
          have H1:(Y4.j3 kj26 t130 x7_26 a0_0 a0_1 a0_2 a0_3 a0_4 a0_5)=some r:=by rw [if_neg (show ¬ (false=true) by decide)] at H;exact H
          clear H
          have H:=H1
          clear H1
          have H':=aM H
          clear H
          go_wp2
          go_meet
          case rel=>exact ⟨_,(x7_26),(z0_),H',⟨z12_ HJ5.out HJ19.out HJ26.out⟩,⟨z5_ BK125.out⟩,⟨z2_ HB.out GE125.out⟩⟩
        case rest =>
         clear HC34
         try clear c1
         try clear c2
         try clear p2
         try clear c3
         try clear c6
         try clear c13
         try clear c13b0
         try clear c13b1
         try clear c14
         try clear c15
         try clear c15b0
         try clear c15b1
         try clear c15b2
         try clear c16
         try clear c16b0
         try clear c16b1
         try clear c16b2
         try clear c17
         try clear c17b0
         try clear c17b1
         try clear c17b2
         try clear c21
         try clear c22
         try clear c22b0
         try clear c22b1
         try clear c22b2
         try clear c24
         try clear c24b0
         try clear c24b1
         try clear c24b2
         try clear c28
         try clear c29
         try clear c29b0
         try clear c29b1
         try clear c29b2
         try clear c31
         try clear c31b0
         try clear c31b1
         try clear c31b2
         try clear c35
         try clear c36
         try clear c36b0
         try clear c36b1
         try clear c36b2
         try clear c37
         try clear c37b0
         try clear c37b1
         try clear c37b2
         try clear hcz10_0
         try clear hcz10_1
         try clear hcz10_2
         try clear hcz10_3
         try clear hcz10_4
         try clear hcz10_5
         try clear hcz12_0
         try clear hcz12_1
         try clear hcz12_2
         try clear hcz12_3
         try clear hcz12_4
         try clear hcz12_5
         try clear hcz18_0
         try clear hcz18_1
         try clear hcz18_2
         try clear hcz18_3
         try clear hcz18_4
         try clear hcz18_5
         try clear hcz25_0
         try clear hcz25_1
         try clear hcz25_2
         try clear hcz25_3
         try clear hcz25_4
         try clear hcz25_5
         try clear hcz32_0
         try clear hcz32_1
         try clear hcz32_2
         try clear hcz32_3
         try clear hcz32_4
         try clear hcz32_5
         try clear hcz38_0
         try clear hcz38_1
         try clear hcz38_2
         try clear hcz38_3
         try clear hcz38_4
         try clear hcz38_5
         try clear hcz8_0
         try clear hcz8_1
         try clear hcz8_2
         try clear hcz8_3
         try clear hcz8_4
         try clear hcz8_5
         try clear hfz10_0
         try clear hfz10_1
         try clear hfz10_2
         try clear hfz10_3
         try clear hfz10_4
         try clear hfz10_5
         try clear hfz12_0
         try clear hfz12_1
         try clear hfz12_2
         try clear hfz12_3
         try clear hfz12_4
         try clear hfz12_5
         try clear hfz18_0
         try clear hfz18_1
         try clear hfz18_2
         try clear hfz18_3
         try clear hfz18_4
         try clear hfz18_5
         try clear hfz25_0
         try clear hfz25_1
         try clear hfz25_2
         try clear hfz25_3
         try clear hfz25_4
         try clear hfz25_5
         try clear hfz32_0
         try clear hfz32_1
         try clear hfz32_2
         try clear hfz32_3
         try clear hfz32_4
         try clear hfz32_5
         try clear hfz38_0
         try clear hfz38_1
         try clear hfz38_2
         try clear hfz38_3
         try clear hfz38_4
         try clear hfz38_5
         try clear hfz8_0
         try clear hfz8_1
         try clear hfz8_2
         try clear hfz8_3
         try clear hfz8_4
         try clear hfz8_5
         try clear p2
         obtain ⟨kq,x7_33,rfl,HA,HJ33,BK125,HB⟩:=hcut
         cases kq with
         | zero=>exact absurd HA.out (by simp [Y4.j3])
         | succ kj33 =>
          have H:=HA.out
          clear HA
          simp only [Y4.j3] at H
          by_cases c39:t130=true
          ·subst c39
           have H1:(if x7_33.size+1≤9223372036854775807 then (if (x7_33.size+1)+a0_4.size≤9223372036854775807 then (some ((x7_33 ++ (⟨#[32]⟩:ByteArray)) ++ a0_4)) else (none)) else (none))=some r:=by rw [if_pos rfl] at H;exact H
           clear H
           have H:=H1
           clear H1
           by_cases c40:x7_33.size+1≤9223372036854775807
           ·rw [if_pos c40] at H
            have c40b0:=eq_true c40
            have c40b1:decide (x7_33.size+1≤9223372036854775807)=true:=dE c40
            try have c40b2:(9223372036854775807<x7_33.size+1)=False:=eq_false (Nat.not_lt.2 c40)
            by_cases c41:(x7_33.size+1)+a0_4.size≤9223372036854775807
            ·rw [if_pos c41] at H
             have c41b0:=eq_true c41
             have c41b1:decide ((x7_33.size+1)+a0_4.size≤9223372036854775807)=true:=dE c41
             try have c41b2:(9223372036854775807<(x7_33.size+1)+a0_4.size)=False:=eq_false (Nat.not_lt.2 c41)
             obtain rfl:=sI H
             have ⟨hcz42_0,hcz42_1,hcz42_2,hcz42_3,hcz42_4,hcz42_5,hfz42_0,hfz42_1,hfz42_2,hfz42_3,hfz42_4,hfz42_5⟩:=cz6_ BK125.out
             go_wp2
             go_ret
             exact ⟨z7_,z2_ HB.out GE125.out⟩
            ·rw [if_neg c41] at H
             exact nO H
           ·rw [if_neg c40] at H
            exact nO H
          ·replace c39:=Bool.eq_false_iff.mpr c39
           subst c39
           have H1:(some x7_33)=some r:=by rw [if_neg (show ¬ (false=true) by decide)] at H;exact H
           clear H
           have H:=H1
           clear H1
           obtain rfl:=sI H
           go_wp2
           go_ret
           exact ⟨z7_,z2_ HB.out GE125.out⟩
 ·replace c3:=Bool.eq_false_iff.mpr c3
  subst c3
  have H1:(some (⟨#[]⟩:ByteArray))=some r:=by rw [if_neg (show ¬ (false=true) by decide)] at H;exact H
  clear H
  have H:=H1
  clear H1
  obtain rfl:=sI H
  go_enter Tryd.func6,Tryd.ntmps6
  go_wp2_with (first | ((with_reducible refine gd_ 1 ?_);refine be_ 1 #[.int .i64 a0_0,.int .i64 a0_1,.int .i64 a0_2,.string a0_3,.string a0_4,.int .i64 a0_5] 26 ?_;intro gb125 hg w43 hbox hb;have n0_:=aM (below_step (z6_ HB.out) hb);have n1_:=aM (hbox);have n2_:=aM ((z8_ HB.out:w.heap.size≤gb125));have n3_:=aM ((z8_ HB.out:w.heap.size≤gb125));clear HB;have HB:=n0_;have BK125:=n1_;have GW125:=n2_;have GE125:=n3_;clear n0_ n1_ n2_ n3_;clear hb hbox hg;have ⟨hcz44_0,hcz44_1,hcz44_2,hcz44_3,hcz44_4,hcz44_5,hfz44_0,hfz44_1,hfz44_2,hfz44_3,hfz44_4,hfz44_5⟩:=cz6_ BK125.out) | ((with_reducible refine gc_ 14 ?_);refine gl_ (some 9) Tryd.func14 #[.agg #[.int .i64 a0_0,.int .i64 a0_1,.int .i64 a0_2,.string a0_3,.string a0_4,.int .i64 a0_5]] ?_;(with_reducible refine (Y2.calls k a0_0 a0_1 a0_2 a0_3 a0_4 a0_5 false _ A2.out).mono ?_);rintro e w45 ⟨rfl,hb⟩;refine ⟨_,rfl,?_⟩;have n0_:=aM (blkB_ BK125.out hb);have n1_:=aM (below_step (z2_ HB.out GE125.out) hb);clear BK125;clear HB;have BK125:=n0_;have HB:=n1_;clear n0_ n1_;(try clear hb)))
  go_ret
  exact ⟨z7_,z2_ HB.out GE125.out⟩


/-! ### Y25: function 7 -/
def Y25.f (a0_0:Int) (a0_1:Int) (a0_2:Int) (a0_3:ByteArray) (a0_4:ByteArray) (a0_5:Int):Option (Int × Int × Int × ByteArray × ByteArray × Int):=some (a0_0,a0_1,a0_2,a0_3,a0_4,a0_5)
theorem Y25.calls (a0_0:Int) (a0_1:Int) (a0_2:Int) (a0_3:ByteArray) (a0_4:ByteArray) (a0_5:Int) (r1:Int) (r2:Int) (r3:Int) (r4:ByteArray) (r5:ByteArray) (r6:Int) (w:World) (h:Y25.f a0_0 a0_1 a0_2 a0_3 a0_4 a0_5=some (r1,r2,r3,r4,r5,r6)) :
  Calls Tryd.prog 7 #[.agg #[.int .i64 a0_0,.int .i64 a0_1,.int .i64 a0_2,.string a0_3,.string a0_4,.int .i64 a0_5]] w fun e w'=>e = .returned (.agg #[.int .i64 r1,.int .i64 r2,.int .i64 r3,.string r4,.string r5,.int .i64 r6])∧Below w.heap.size w w':=by
 have hu23:=Tryd.underlying23
 have hu26:=Tryd.underlying26
 have HB:=aM (Below.refl w.heap.size w)
 have H:(some (a0_0,a0_1,a0_2,a0_3,a0_4,a0_5))=some (r1,r2,r3,r4,r5,r6):=h
 clear h
 simp only [Option.some.injEq,Prod.mk.injEq] at H
 obtain ⟨rfl,rfl,rfl,rfl,rfl,rfl⟩:=H
 go_enter Tryd.func7,Tryd.ntmps7
 go_wp2_with (first | ((with_reducible refine gd_ 1 ?_);refine be_ 1 #[.int .i64 a0_0,.int .i64 a0_1,.int .i64 a0_2,.string a0_3,.string a0_4,.int .i64 a0_5] 23 ?_;intro gb135 hg w2 hbox hb;have n0_:=aM (below_step (z6_ HB.out) hb);have n1_:=aM (hbox);have n2_:=aM ((z8_ HB.out:w.heap.size≤gb135));have n3_:=aM ((z8_ HB.out:w.heap.size≤gb135));clear HB;have HB:=n0_;have BK135:=n1_;have GW135:=n2_;have GE135:=n3_;clear n0_ n1_ n2_ n3_;clear hb hbox hg) | ((with_reducible refine gd_ 2 ?_);refine be_ 2 #[.int .i64 0,.int .i64 0,.int .i64 0,.string (⟨#[]⟩:ByteArray),.string (⟨#[]⟩:ByteArray),.int .i64 0] 26 ?_;intro gb136 hg w3 hbox hb;have n0_:=aM (blkB_ BK135.out hb);have n1_:=aM (below_step (z2_ HB.out GE135.out) hb);have n2_:=aM (hbox);have n3_:=aM ((z13_ HB.out GE135.out:w.heap.size≤gb136));have n4_:=aM ((z13_ HB.out GE135.out:w.heap.size≤gb136));have n5_:=aM (neL_ BK135.out hg);have n6_:=aM (neG_ BK135.out hg);clear BK135;clear HB;have BK135:=n0_;have HB:=n1_;have BK136:=n2_;have GW136:=n3_;have GE136:=n4_;have NB135_136:=n5_;have NB136_135:=n6_;clear n0_ n1_ n2_ n3_ n4_ n5_ n6_;clear hb hbox hg) | ((with_reducible refine gd_ 3 ?_);refine be_ 3 #[.int .i64 0,.int .i64 0,.int .i64 0,.string (⟨#[]⟩:ByteArray),.string (⟨#[]⟩:ByteArray),.int .i64 0] 26 ?_;intro gb137 hg w4 hbox hb;have n0_:=aM (blkB_ BK135.out hb);have n1_:=aM (blkB_ BK136.out hb);have n2_:=aM (below_step (z4_ HB.out GE135.out GE136.out) hb);have n3_:=aM (hbox);have n4_:=aM ((by rw [hg];exact (below_size (by repeat (first | (with_reducible first | exact HB.out | apply below_alloc | apply pw_below_drewN | apply below_drew1 | refine below_set ?_ GE135.out | refine below_set ?_ GE136.out) | exact HB.out))):w.heap.size≤gb137));have n5_:=aM ((by rw [hg];exact (below_size (by repeat (first | (with_reducible first | exact HB.out | apply below_alloc | apply pw_below_drewN | apply below_drew1 | refine below_set ?_ GE135.out | refine below_set ?_ GE136.out) | exact HB.out))):w.heap.size≤gb137));have n6_:=aM (neL_ BK135.out hg);have n7_:=aM (neG_ BK135.out hg);have n8_:=aM (neL_ BK136.out hg);have n9_:=aM (neG_ BK136.out hg);clear BK135;clear BK136;clear HB;have BK135:=n0_;have BK136:=n1_;have HB:=n2_;have BK137:=n3_;have GW137:=n4_;have GE137:=n5_;have NB135_137:=n6_;have NB137_135:=n7_;have NB136_137:=n8_;have NB137_136:=n9_;clear n0_ n1_ n2_ n3_ n4_ n5_ n6_ n7_ n8_ n9_;clear hb hbox hg;have hnb5:=NB135_136.out;have hnc5:=NB136_135.out;have hnb6:=NB135_137.out;have hnc6:=NB137_135.out;have ⟨hcz7_0,hcz7_1,hcz7_2,hcz7_3,hcz7_4,hcz7_5,hfz7_0,hfz7_1,hfz7_2,hfz7_3,hfz7_4,hfz7_5⟩:=cz6_ BK135.out;have hnb8:=NB137_136.out;have hnc8:=NB136_137.out;have ⟨hcz9_0,hcz9_1,hcz9_2,hcz9_3,hcz9_4,hcz9_5,hfz9_0,hfz9_1,hfz9_2,hfz9_3,hfz9_4,hfz9_5⟩:=cz6_ BK137.out;have ⟨hcz10_0,hcz10_1,hcz10_2,hcz10_3,hcz10_4,hcz10_5,hfz10_0,hfz10_1,hfz10_2,hfz10_3,hfz10_4,hfz10_5⟩:=cz6_ BK136.out))
 refine bodyPost_ret (results_cell_row rfl _ _ gb136 26 #[.int .i64 a0_0,.int .i64 a0_1,.int .i64 a0_2,.string a0_3,.string a0_4,.int .i64 a0_5] (0,0) _ rfl (by (with_reducible repeat (first | refine blk_drewN ?_ _ | refine blk_drew ?_ | refine blk_alloc ?_ _));apply put6_;(with_reducible repeat (first | refine blk_drewN ?_ _ | refine blk_drew ?_ | refine blk_alloc ?_ _));refine blk_far ?_ NB136_137.out _;(with_reducible repeat (first | refine blk_drewN ?_ _ | refine blk_drew ?_ | refine blk_alloc ?_ _));refine blk_far ?_ NB136_137.out _;(with_reducible repeat (first | refine blk_drewN ?_ _ | refine blk_drew ?_ | refine blk_alloc ?_ _));refine blk_far ?_ NB136_137.out _;(with_reducible repeat (first | refine blk_drewN ?_ _ | refine blk_drew ?_ | refine blk_alloc ?_ _));refine blk_far ?_ NB136_137.out _;(with_reducible repeat (first | refine blk_drewN ?_ _ | refine blk_drew ?_ | refine blk_alloc ?_ _));refine blk_far ?_ NB136_137.out _;(with_reducible repeat (first | refine blk_drewN ?_ _ | refine blk_drew ?_ | refine blk_alloc ?_ _));refine blk_far ?_ NB136_137.out _;(with_reducible repeat (first | refine blk_drewN ?_ _ | refine blk_drew ?_ | refine blk_alloc ?_ _));exact BK136.out) Tryd.underlying26 rfl (by kernel_rfl)) rfl ?_
 exact ⟨z7_,by repeat (first | (with_reducible first | exact HB.out | apply below_alloc | apply pw_below_drewN | apply below_drew1 | refine below_set ?_ GE135.out | refine below_set ?_ GE136.out | refine below_set ?_ GE137.out) | exact HB.out)⟩


/-! ### Y13: function 35 -/
def Y13.f (a0:Int) (a1:Int) (a2:Int):Option (Bool):=if a1≤a0 then (some (decide (a0≤a2))) else (some false)
theorem Y13.calls (a0:Int) (a1:Int) (a2:Int) (r:Bool) (w:World) (h:Y13.f a0 a1 a2=some r) :
  Calls Tryd.prog 35 #[.int .i64 a0,.int .i64 a1,.int .i64 a2] w fun e w'=>e = .returned (.bool r)∧Drawn0 w w':=by
 have H:(if a1≤a0 then (some (decide (a0≤a2))) else (some false))=some r:=h
 clear h
 by_cases c4:a1≤a0
 ·rw [if_pos c4] at H
  have c4b0:decide (a1≤a0)=true:=dE c4
  clear c4
  obtain rfl:=sI H
  go_enter Tryd.func35,Tryd.ntmps35
  go_wp2
  go_ret
  exact ⟨z0_,z1_⟩
 ·rw [if_neg c4] at H
  have c4b0:decide (a1≤a0)=false:=dF c4
  clear c4
  obtain rfl:=sI H
  go_enter Tryd.func35,Tryd.ntmps35
  go_wp2
  go_ret
  exact ⟨z0_,z1_⟩


/-! ### Y9: function 36 -/
def Y9.j0:Nat→Bool→Option (Bool)
 | 0,_=>none
 | k+1,x4=>if x4=true then (some true) else (some false)
def Y9.f (k:Nat) (a0:Int):Option (Bool):=if a0=1 then (Y9.j0 k (a0 == 1)) else (if a0=2 then (Y9.j0 k (a0 == 2)) else (if a0=3 then (Y9.j0 k (a0 == 3)) else (if a0=5 then (Y9.j0 k (a0 == 5)) else (Y9.j0 k (a0 == 14)))))
theorem Y9.mono_l:∀ k,(∀ y0,LeO (Y9.j0 k y0) (Y9.j0 (k+1) y0))
 | 0=>by intros <;> exact LeO.none _
 | k+1=>by
  have ih0:=Y9.mono_l k
  ·intros
   unfold Y9.j0
   exact mO
theorem Y9.mono:∀ a0 k,LeO (Y9.f k a0) (Y9.f (k+1) a0):=by
 intro a0 k
 have ih0:=Y9.mono_l k
 unfold Y9.f
 exact mO
theorem Y9.calls (k:Nat) (a0:Int) (r:Bool) (w:World) (h:Y9.f k a0=some r) :
  Calls Tryd.prog 36 #[.int .i64 a0] w fun e w'=>e = .returned (.bool r)∧Drawn0 w w':=by
 have H:(if a0=1 then (Y9.j0 k (a0 == 1)) else (if a0=2 then (Y9.j0 k (a0 == 2)) else (if a0=3 then (Y9.j0 k (a0 == 3)) else (if a0=5 then (Y9.j0 k (a0 == 5)) else (Y9.j0 k (a0 == 14))))))=some r:=h
 clear h
 have HC2:=aM H
 clear H
 go_enter Tryd.func36,Tryd.ntmps36
 go_upto_if 4 with (fail)
 go_cut [4] (fun v4 wc=>∃ (kq:Nat) (x4_1:Bool),v4 = .bool x4_1∧Aside0 (Y9.j0 kq x4_1=some r)∧Aside0 (kq≤k)∧Drawn0 w wc)
 case first =>
  have H:=HC2.out
  clear HC2
  by_cases c3:a0=1
  ·rw [if_pos c3] at H
   have c3b0:(a0 == 1)=true:=beq_iff_eq.mpr c3
   have c3b1:(a0 != 1)=false:=bne_eq_false_iff_eq.mpr c3
   clear c3
   (first | rw [c3b0] | (simp only [i64_w,i32_w];rw [c3b0]) | skip)
   have H':=aM H
   clear H
   go_wp2
   go_meet
   case rel=>exact ⟨_,((a0 == 1)),(z0_),H',⟨by first | omega | exact Nat.le_refl _⟩,z1_⟩
  ·rw [if_neg c3] at H
   have c3b0:(a0 == 1)=false:=beq_eq_false_iff_ne.mpr c3
   have c3b1:(a0 != 1)=true:=bne_iff_ne.mpr c3
   (first | rw [c3b0] | (simp only [i64_w,i32_w];rw [c3b0]) | skip)
   by_cases c4:a0=2
   ·rw [if_pos c4] at H
    have c4b0:(a0 == 2)=true:=beq_iff_eq.mpr c4
    have c4b1:(a0 != 2)=false:=bne_eq_false_iff_eq.mpr c4
    clear c4
    have H':=aM H
    clear H
    go_wp2
    go_meet
    case rel=>exact ⟨_,((a0 == 2)),(z0_),H',⟨by first | omega | exact Nat.le_refl _⟩,z1_⟩
   ·rw [if_neg c4] at H
    have c4b0:(a0 == 2)=false:=beq_eq_false_iff_ne.mpr c4
    have c4b1:(a0 != 2)=true:=bne_iff_ne.mpr c4
    by_cases c5:a0=3
    ·rw [if_pos c5] at H
     have c5b0:(a0 == 3)=true:=beq_iff_eq.mpr c5
     have c5b1:(a0 != 3)=false:=bne_eq_false_iff_eq.mpr c5
     clear c5
     have H':=aM H
     clear H
     go_wp2
     go_meet
     case rel=>exact ⟨_,((a0 == 3)),(z0_),H',⟨by first | omega | exact Nat.le_refl _⟩,z1_⟩
    ·rw [if_neg c5] at H
     have c5b0:(a0 == 3)=false:=beq_eq_false_iff_ne.mpr c5
     have c5b1:(a0 != 3)=true:=bne_iff_ne.mpr c5
     by_cases c6:a0=5
     ·rw [if_pos c6] at H
      have c6b0:(a0 == 5)=true:=beq_iff_eq.mpr c6
      have c6b1:(a0 != 5)=false:=bne_eq_false_iff_eq.mpr c6
      clear c6
      have H':=aM H
      clear H
      go_wp2
      go_meet
      case rel=>exact ⟨_,((a0 == 5)),(z0_),H',⟨by first | omega | exact Nat.le_refl _⟩,z1_⟩
     ·rw [if_neg c6] at H
      have c6b0:(a0 == 5)=false:=beq_eq_false_iff_ne.mpr c6
      have c6b1:(a0 != 5)=true:=bne_iff_ne.mpr c6
      have H':=aM H
      clear H
      go_wp2
      go_meet
      case rel=>exact ⟨_,((a0 == 14)),(z0_),H',⟨by first | omega | exact Nat.le_refl _⟩,z1_⟩
 case rest =>
  clear HC2
  try clear p2
  try clear c3
  try clear c3b0
  try clear c3b1
  try clear c4
  try clear c4b0
  try clear c4b1
  try clear c5
  try clear c5b0
  try clear c5b1
  try clear c6
  try clear c6b0
  try clear c6b1
  obtain ⟨kq,x4_1,rfl,HA,HJ1,⟨mc1,rfl⟩⟩:=hcut
  cases kq with
  | zero=>exact absurd HA.out (by simp [Y9.j0])
  | succ kj1 =>
   have H:=HA.out
   clear HA
   simp only [Y9.j0] at H
   by_cases c7:x4_1=true
   ·subst c7
    have H1:(some true)=some r:=by rw [if_pos rfl] at H;exact H
    clear H
    have H:=H1
    clear H1
    obtain rfl:=sI H
    go_wp2
    go_ret
    exact ⟨z0_,z1_⟩
   ·replace c7:=Bool.eq_false_iff.mpr c7
    subst c7
    have H1:(some false)=some r:=by rw [if_neg (show ¬ (false=true) by decide)] at H;exact H
    clear H
    have H:=H1
    clear H1
    obtain rfl:=sI H
    go_wp2
    go_ret
    exact ⟨z0_,z1_⟩


/-! ### Y22: function 37 -/
def Y22.f (a0:Int):Option (Bool):=(Y13.f a0 (-1) 10000).bind fun t138=>(some t138)
theorem Y22.calls (a0:Int) (r:Bool) (w:World) (h:Y22.f a0=some r) :
  Calls Tryd.prog 37 #[.int .i64 a0] w fun e w'=>e = .returned (.bool r)∧Drawn0 w w':=by
 have H:((Y13.f a0 (-1) 10000).bind fun t138=>(some t138))=some r:=h
 clear h
 replace H:=bS H
 obtain ⟨t138,A20,H⟩:=H
 replace H:(some t138)=some r:=H
 have A2:=aM A20
 clear A20
 obtain rfl:=sI H
 go_enter Tryd.func37,Tryd.ntmps37
 go_wp2_with (first | ((with_reducible refine gc_ 35 ?_);refine gl_ (some 4) Tryd.func35 #[.int .i64 a0,.int .i64 (-1),.int .i64 10000] ?_;(with_reducible refine (Y13.calls a0 (-1) 10000 t138 _ A2.out).mono ?_);rintro e w' ⟨rfl,⟨nd,rfl⟩⟩;refine ⟨_,rfl,?_⟩))
 go_ret
 exact ⟨z0_,z1_⟩


/-! ### Y18: function 38 -/
def Y18.f  : Option ((List (S63))):=some (([(⟨(⟨#[112,117,116]⟩:ByteArray),(⟨#[65,75,68]⟩:ByteArray)⟩:S63),(⟨(⟨#[111,118,101,114]⟩:ByteArray),(⟨#[65,66,75,68]⟩:ByteArray)⟩:S63),(⟨(⟨#[100,101,108]⟩:ByteArray),(⟨#[65,66,75]⟩:ByteArray)⟩:S63),(⟨(⟨#[103,101,116]⟩:ByteArray),(⟨#[65,75]⟩:ByteArray)⟩:S63),(⟨(⟨#[100,101,108,105,118,101,114]⟩:ByteArray),(⟨#[65]⟩:ByteArray)⟩:S63),(⟨(⟨#[108,111,115,101]⟩:ByteArray),(⟨#[65]⟩:ByteArray)⟩:S63),(⟨(⟨#[116,119,105,99,101]⟩:ByteArray),(⟨#[65]⟩:ByteArray)⟩:S63),(⟨(⟨#[116,105,99,107]⟩:ByteArray),(⟨#[]⟩:ByteArray)⟩:S63),(⟨(⟨#[99,114,97,115,104]⟩:ByteArray),(⟨#[65]⟩:ByteArray)⟩:S63),(⟨(⟨#[115,116,97,114,116]⟩:ByteArray),(⟨#[65]⟩:ByteArray)⟩:S63),(⟨(⟨#[115,117,115,112,101,99,116]⟩:ByteArray),(⟨#[65]⟩:ByteArray)⟩:S63),(⟨(⟨#[116,114,117,115,116]⟩:ByteArray),(⟨#[65]⟩:ByteArray)⟩:S63),(⟨(⟨#[104,97,110,100]⟩:ByteArray),(⟨#[65]⟩:ByteArray)⟩:S63),(⟨(⟨#[112,97,99,107]⟩:ByteArray),(⟨#[65]⟩:ByteArray)⟩:S63),(⟨(⟨#[115,101,116,116,108,101]⟩:ByteArray),(⟨#[]⟩:ByteArray)⟩:S63),(⟨(⟨#[115,112,114,101,97,100]⟩:ByteArray),(⟨#[75]⟩:ByteArray)⟩:S63),(⟨(⟨#[101,120,99,104,97,110,103,101]⟩:ByteArray),(⟨#[65,66]⟩:ByteArray)⟩:S63)]:List (S63)))
theorem Y18.calls  (r:List (S63)) (w:World) (h:Y18.f  = some r) :
  Calls Tryd.prog 38 #[] w fun e w'=>∃ v0_:Value,e = .returned (v0_)∧Kd.R k63 63 w' w.heap.size (fun _=>True) v0_ r∧Below w.heap.size w w':=by
 have hu63:=Tryd.underlying63
 have HB:=aM (Below.refl w.heap.size w)
 have H:(some (([(⟨(⟨#[112,117,116]⟩:ByteArray),(⟨#[65,75,68]⟩:ByteArray)⟩:S63),(⟨(⟨#[111,118,101,114]⟩:ByteArray),(⟨#[65,66,75,68]⟩:ByteArray)⟩:S63),(⟨(⟨#[100,101,108]⟩:ByteArray),(⟨#[65,66,75]⟩:ByteArray)⟩:S63),(⟨(⟨#[103,101,116]⟩:ByteArray),(⟨#[65,75]⟩:ByteArray)⟩:S63),(⟨(⟨#[100,101,108,105,118,101,114]⟩:ByteArray),(⟨#[65]⟩:ByteArray)⟩:S63),(⟨(⟨#[108,111,115,101]⟩:ByteArray),(⟨#[65]⟩:ByteArray)⟩:S63),(⟨(⟨#[116,119,105,99,101]⟩:ByteArray),(⟨#[65]⟩:ByteArray)⟩:S63),(⟨(⟨#[116,105,99,107]⟩:ByteArray),(⟨#[]⟩:ByteArray)⟩:S63),(⟨(⟨#[99,114,97,115,104]⟩:ByteArray),(⟨#[65]⟩:ByteArray)⟩:S63),(⟨(⟨#[115,116,97,114,116]⟩:ByteArray),(⟨#[65]⟩:ByteArray)⟩:S63),(⟨(⟨#[115,117,115,112,101,99,116]⟩:ByteArray),(⟨#[65]⟩:ByteArray)⟩:S63),(⟨(⟨#[116,114,117,115,116]⟩:ByteArray),(⟨#[65]⟩:ByteArray)⟩:S63),(⟨(⟨#[104,97,110,100]⟩:ByteArray),(⟨#[65]⟩:ByteArray)⟩:S63),(⟨(⟨#[112,97,99,107]⟩:ByteArray),(⟨#[65]⟩:ByteArray)⟩:S63),(⟨(⟨#[115,101,116,116,108,101]⟩:ByteArray),(⟨#[]⟩:ByteArray)⟩:S63),(⟨(⟨#[115,112,114,101,97,100]⟩:ByteArray),(⟨#[75]⟩:ByteArray)⟩:S63),(⟨(⟨#[101,120,99,104,97,110,103,101]⟩:ByteArray),(⟨#[65,66]⟩:ByteArray)⟩:S63)]:List (S63))))=some r:=h
 clear h
 obtain ⟨y139,hy139⟩:∃ y_:List (S63),y_=(([(⟨(⟨#[112,117,116]⟩:ByteArray),(⟨#[65,75,68]⟩:ByteArray)⟩:S63),(⟨(⟨#[111,118,101,114]⟩:ByteArray),(⟨#[65,66,75,68]⟩:ByteArray)⟩:S63),(⟨(⟨#[100,101,108]⟩:ByteArray),(⟨#[65,66,75]⟩:ByteArray)⟩:S63),(⟨(⟨#[103,101,116]⟩:ByteArray),(⟨#[65,75]⟩:ByteArray)⟩:S63),(⟨(⟨#[100,101,108,105,118,101,114]⟩:ByteArray),(⟨#[65]⟩:ByteArray)⟩:S63),(⟨(⟨#[108,111,115,101]⟩:ByteArray),(⟨#[65]⟩:ByteArray)⟩:S63),(⟨(⟨#[116,119,105,99,101]⟩:ByteArray),(⟨#[65]⟩:ByteArray)⟩:S63),(⟨(⟨#[116,105,99,107]⟩:ByteArray),(⟨#[]⟩:ByteArray)⟩:S63),(⟨(⟨#[99,114,97,115,104]⟩:ByteArray),(⟨#[65]⟩:ByteArray)⟩:S63),(⟨(⟨#[115,116,97,114,116]⟩:ByteArray),(⟨#[65]⟩:ByteArray)⟩:S63),(⟨(⟨#[115,117,115,112,101,99,116]⟩:ByteArray),(⟨#[65]⟩:ByteArray)⟩:S63),(⟨(⟨#[116,114,117,115,116]⟩:ByteArray),(⟨#[65]⟩:ByteArray)⟩:S63),(⟨(⟨#[104,97,110,100]⟩:ByteArray),(⟨#[65]⟩:ByteArray)⟩:S63),(⟨(⟨#[112,97,99,107]⟩:ByteArray),(⟨#[65]⟩:ByteArray)⟩:S63),(⟨(⟨#[115,101,116,116,108,101]⟩:ByteArray),(⟨#[]⟩:ByteArray)⟩:S63),(⟨(⟨#[115,112,114,101,97,100]⟩:ByteArray),(⟨#[75]⟩:ByteArray)⟩:S63),(⟨(⟨#[101,120,99,104,97,110,103,101]⟩:ByteArray),(⟨#[65,66]⟩:ByteArray)⟩:S63)]:List (S63))):=⟨_,rfl⟩
 replace H:(some y139)=some r:=by first | (rw [hy139];with_reducible exact H) | (have H2_:=(Option.bind_some _ _).symm.trans H;rw [hy139];with_reducible exact H2_) | (have H2_:=(Option.bind_some _ _).symm.trans H;with_reducible exact H2_) | with_reducible exact H | (rw [hy139];exact H) | exact H
 have Ny139:=aM hy139
 clear hy139
 obtain rfl:=sI H
 go_enter Tryd.func38,Tryd.ntmps38
 go_wp2_with (first | ((with_reducible refine gd_ 18 ?_);refine Kd.R_lit k63 _ 63 ?hg (N:=18) ?hd (xs:=([(⟨(⟨#[112,117,116]⟩:ByteArray),(⟨#[65,75,68]⟩:ByteArray)⟩:S63),(⟨(⟨#[111,118,101,114]⟩:ByteArray),(⟨#[65,66,75,68]⟩:ByteArray)⟩:S63),(⟨(⟨#[100,101,108]⟩:ByteArray),(⟨#[65,66,75]⟩:ByteArray)⟩:S63),(⟨(⟨#[103,101,116]⟩:ByteArray),(⟨#[65,75]⟩:ByteArray)⟩:S63),(⟨(⟨#[100,101,108,105,118,101,114]⟩:ByteArray),(⟨#[65]⟩:ByteArray)⟩:S63),(⟨(⟨#[108,111,115,101]⟩:ByteArray),(⟨#[65]⟩:ByteArray)⟩:S63),(⟨(⟨#[116,119,105,99,101]⟩:ByteArray),(⟨#[65]⟩:ByteArray)⟩:S63),(⟨(⟨#[116,105,99,107]⟩:ByteArray),(⟨#[]⟩:ByteArray)⟩:S63),(⟨(⟨#[99,114,97,115,104]⟩:ByteArray),(⟨#[65]⟩:ByteArray)⟩:S63),(⟨(⟨#[115,116,97,114,116]⟩:ByteArray),(⟨#[65]⟩:ByteArray)⟩:S63),(⟨(⟨#[115,117,115,112,101,99,116]⟩:ByteArray),(⟨#[65]⟩:ByteArray)⟩:S63),(⟨(⟨#[116,114,117,115,116]⟩:ByteArray),(⟨#[65]⟩:ByteArray)⟩:S63),(⟨(⟨#[104,97,110,100]⟩:ByteArray),(⟨#[65]⟩:ByteArray)⟩:S63),(⟨(⟨#[112,97,99,107]⟩:ByteArray),(⟨#[65]⟩:ByteArray)⟩:S63),(⟨(⟨#[115,101,116,116,108,101]⟩:ByteArray),(⟨#[]⟩:ByteArray)⟩:S63),(⟨(⟨#[115,112,114,101,97,100]⟩:ByteArray),(⟨#[75]⟩:ByteArray)⟩:S63),(⟨(⟨#[101,120,99,104,97,110,103,101]⟩:ByteArray),(⟨#[65,66]⟩:ByteArray)⟩:S63)]:List (S63))) (inner:=[.string (⟨#[112,117,116]⟩:ByteArray),.string (⟨#[65,75,68]⟩:ByteArray),.string (⟨#[111,118,101,114]⟩:ByteArray),.string (⟨#[65,66,75,68]⟩:ByteArray),.string (⟨#[100,101,108]⟩:ByteArray),.string (⟨#[65,66,75]⟩:ByteArray),.string (⟨#[103,101,116]⟩:ByteArray),.string (⟨#[65,75]⟩:ByteArray),.string (⟨#[100,101,108,105,118,101,114]⟩:ByteArray),.string (⟨#[65]⟩:ByteArray),.string (⟨#[108,111,115,101]⟩:ByteArray),.string (⟨#[65]⟩:ByteArray),.string (⟨#[116,119,105,99,101]⟩:ByteArray),.string (⟨#[65]⟩:ByteArray),.string (⟨#[116,105,99,107]⟩:ByteArray),.string (⟨#[]⟩:ByteArray),.string (⟨#[99,114,97,115,104]⟩:ByteArray),.string (⟨#[65]⟩:ByteArray),.string (⟨#[115,116,97,114,116]⟩:ByteArray),.string (⟨#[65]⟩:ByteArray),.string (⟨#[115,117,115,112,101,99,116]⟩:ByteArray),.string (⟨#[65]⟩:ByteArray),.string (⟨#[116,114,117,115,116]⟩:ByteArray),.string (⟨#[65]⟩:ByteArray),.string (⟨#[104,97,110,100]⟩:ByteArray),.string (⟨#[65]⟩:ByteArray),.string (⟨#[112,97,99,107]⟩:ByteArray),.string (⟨#[65]⟩:ByteArray),.string (⟨#[115,101,116,116,108,101]⟩:ByteArray),.string (⟨#[]⟩:ByteArray),.string (⟨#[115,112,114,101,97,100]⟩:ByteArray),.string (⟨#[75]⟩:ByteArray),.string (⟨#[101,120,99,104,97,110,103,101]⟩:ByteArray),.string (⟨#[65,66]⟩:ByteArray)]) (ok:=fun _=>True) (okp:=fun _=>True) ?hr ?hp (fun _ hk=>hk) trivial (Below.refl _ _) (Nat.le_refl _) (by simp) ?_;(case hd=>rfl);(case hg=>rfl);(case hr=>first | (go_simp;done) | (go_simp;rfl));(case hp=>exact (Reps.c2 (show Kd.M k63 _ _ _ (⟨(⟨#[112,117,116]⟩:ByteArray),(⟨#[65,75,68]⟩:ByteArray)⟩:S63) [.string (⟨#[112,117,116]⟩:ByteArray),.string (⟨#[65,75,68]⟩:ByteArray)] from (k63_mkM _ _ _ (⟨(⟨#[112,117,116]⟩:ByteArray),(⟨#[65,75,68]⟩:ByteArray)⟩:S63) )) (Reps.c2 (show Kd.M k63 _ _ _ (⟨(⟨#[111,118,101,114]⟩:ByteArray),(⟨#[65,66,75,68]⟩:ByteArray)⟩:S63) [.string (⟨#[111,118,101,114]⟩:ByteArray),.string (⟨#[65,66,75,68]⟩:ByteArray)] from (k63_mkM _ _ _ (⟨(⟨#[111,118,101,114]⟩:ByteArray),(⟨#[65,66,75,68]⟩:ByteArray)⟩:S63) )) (Reps.c2 (show Kd.M k63 _ _ _ (⟨(⟨#[100,101,108]⟩:ByteArray),(⟨#[65,66,75]⟩:ByteArray)⟩:S63) [.string (⟨#[100,101,108]⟩:ByteArray),.string (⟨#[65,66,75]⟩:ByteArray)] from (k63_mkM _ _ _ (⟨(⟨#[100,101,108]⟩:ByteArray),(⟨#[65,66,75]⟩:ByteArray)⟩:S63) )) (Reps.c2 (show Kd.M k63 _ _ _ (⟨(⟨#[103,101,116]⟩:ByteArray),(⟨#[65,75]⟩:ByteArray)⟩:S63) [.string (⟨#[103,101,116]⟩:ByteArray),.string (⟨#[65,75]⟩:ByteArray)] from (k63_mkM _ _ _ (⟨(⟨#[103,101,116]⟩:ByteArray),(⟨#[65,75]⟩:ByteArray)⟩:S63) )) (Reps.c2 (show Kd.M k63 _ _ _ (⟨(⟨#[100,101,108,105,118,101,114]⟩:ByteArray),(⟨#[65]⟩:ByteArray)⟩:S63) [.string (⟨#[100,101,108,105,118,101,114]⟩:ByteArray),.string (⟨#[65]⟩:ByteArray)] from (k63_mkM _ _ _ (⟨(⟨#[100,101,108,105,118,101,114]⟩:ByteArray),(⟨#[65]⟩:ByteArray)⟩:S63) )) (Reps.c2 (show Kd.M k63 _ _ _ (⟨(⟨#[108,111,115,101]⟩:ByteArray),(⟨#[65]⟩:ByteArray)⟩:S63) [.string (⟨#[108,111,115,101]⟩:ByteArray),.string (⟨#[65]⟩:ByteArray)] from (k63_mkM _ _ _ (⟨(⟨#[108,111,115,101]⟩:ByteArray),(⟨#[65]⟩:ByteArray)⟩:S63) )) (Reps.c2 (show Kd.M k63 _ _ _ (⟨(⟨#[116,119,105,99,101]⟩:ByteArray),(⟨#[65]⟩:ByteArray)⟩:S63) [.string (⟨#[116,119,105,99,101]⟩:ByteArray),.string (⟨#[65]⟩:ByteArray)] from (k63_mkM _ _ _ (⟨(⟨#[116,119,105,99,101]⟩:ByteArray),(⟨#[65]⟩:ByteArray)⟩:S63) )) (Reps.c2 (show Kd.M k63 _ _ _ (⟨(⟨#[116,105,99,107]⟩:ByteArray),(⟨#[]⟩:ByteArray)⟩:S63) [.string (⟨#[116,105,99,107]⟩:ByteArray),.string (⟨#[]⟩:ByteArray)] from (k63_mkM _ _ _ (⟨(⟨#[116,105,99,107]⟩:ByteArray),(⟨#[]⟩:ByteArray)⟩:S63) )) (Reps.c2 (show Kd.M k63 _ _ _ (⟨(⟨#[99,114,97,115,104]⟩:ByteArray),(⟨#[65]⟩:ByteArray)⟩:S63) [.string (⟨#[99,114,97,115,104]⟩:ByteArray),.string (⟨#[65]⟩:ByteArray)] from (k63_mkM _ _ _ (⟨(⟨#[99,114,97,115,104]⟩:ByteArray),(⟨#[65]⟩:ByteArray)⟩:S63) )) (Reps.c2 (show Kd.M k63 _ _ _ (⟨(⟨#[115,116,97,114,116]⟩:ByteArray),(⟨#[65]⟩:ByteArray)⟩:S63) [.string (⟨#[115,116,97,114,116]⟩:ByteArray),.string (⟨#[65]⟩:ByteArray)] from (k63_mkM _ _ _ (⟨(⟨#[115,116,97,114,116]⟩:ByteArray),(⟨#[65]⟩:ByteArray)⟩:S63) )) (Reps.c2 (show Kd.M k63 _ _ _ (⟨(⟨#[115,117,115,112,101,99,116]⟩:ByteArray),(⟨#[65]⟩:ByteArray)⟩:S63) [.string (⟨#[115,117,115,112,101,99,116]⟩:ByteArray),.string (⟨#[65]⟩:ByteArray)] from (k63_mkM _ _ _ (⟨(⟨#[115,117,115,112,101,99,116]⟩:ByteArray),(⟨#[65]⟩:ByteArray)⟩:S63) )) (Reps.c2 (show Kd.M k63 _ _ _ (⟨(⟨#[116,114,117,115,116]⟩:ByteArray),(⟨#[65]⟩:ByteArray)⟩:S63) [.string (⟨#[116,114,117,115,116]⟩:ByteArray),.string (⟨#[65]⟩:ByteArray)] from (k63_mkM _ _ _ (⟨(⟨#[116,114,117,115,116]⟩:ByteArray),(⟨#[65]⟩:ByteArray)⟩:S63) )) (Reps.c2 (show Kd.M k63 _ _ _ (⟨(⟨#[104,97,110,100]⟩:ByteArray),(⟨#[65]⟩:ByteArray)⟩:S63) [.string (⟨#[104,97,110,100]⟩:ByteArray),.string (⟨#[65]⟩:ByteArray)] from (k63_mkM _ _ _ (⟨(⟨#[104,97,110,100]⟩:ByteArray),(⟨#[65]⟩:ByteArray)⟩:S63) )) (Reps.c2 (show Kd.M k63 _ _ _ (⟨(⟨#[112,97,99,107]⟩:ByteArray),(⟨#[65]⟩:ByteArray)⟩:S63) [.string (⟨#[112,97,99,107]⟩:ByteArray),.string (⟨#[65]⟩:ByteArray)] from (k63_mkM _ _ _ (⟨(⟨#[112,97,99,107]⟩:ByteArray),(⟨#[65]⟩:ByteArray)⟩:S63) )) (Reps.c2 (show Kd.M k63 _ _ _ (⟨(⟨#[115,101,116,116,108,101]⟩:ByteArray),(⟨#[]⟩:ByteArray)⟩:S63) [.string (⟨#[115,101,116,116,108,101]⟩:ByteArray),.string (⟨#[]⟩:ByteArray)] from (k63_mkM _ _ _ (⟨(⟨#[115,101,116,116,108,101]⟩:ByteArray),(⟨#[]⟩:ByteArray)⟩:S63) )) (Reps.c2 (show Kd.M k63 _ _ _ (⟨(⟨#[115,112,114,101,97,100]⟩:ByteArray),(⟨#[75]⟩:ByteArray)⟩:S63) [.string (⟨#[115,112,114,101,97,100]⟩:ByteArray),.string (⟨#[75]⟩:ByteArray)] from (k63_mkM _ _ _ (⟨(⟨#[115,112,114,101,97,100]⟩:ByteArray),(⟨#[75]⟩:ByteArray)⟩:S63) )) (Reps.c2 (show Kd.M k63 _ _ _ (⟨(⟨#[101,120,99,104,97,110,103,101]⟩:ByteArray),(⟨#[65,66]⟩:ByteArray)⟩:S63) [.string (⟨#[101,120,99,104,97,110,103,101]⟩:ByteArray),.string (⟨#[65,66]⟩:ByteArray)] from (k63_mkM _ _ _ (⟨(⟨#[101,120,99,104,97,110,103,101]⟩:ByteArray),(⟨#[65,66]⟩:ByteArray)⟩:S63) )) (Reps.none _ _)))))))))))))))))));intro v140 w1 ho2 hb hg_ hnew_;clear hg_ hnew_;(first | rw [← Ny139.out] at ho2 | (simp only [Int.reduceToNat] at ho2;rw [← Ny139.out] at ho2));have n0_:=aM (Kd.R_lower ho2 (below_size (z6_ HB.out)));have n1_:=aM (below_step (z6_ HB.out) hb);clear HB;have HO141:=n0_;have HB:=n1_;clear n0_ n1_;clear hb ho2))
 go_ret
 exact ⟨_,z7_,z11_ HO141.out,z6_ HB.out⟩


/-! ### Y12: function 41 -/
def Y12.f (a0:Int) (a1:Bool):Option (Bool):=if a0=0 then (some true) else (if a1=true then ((Y13.f a0 0 999999).bind fun t142=>(some t142)) else (some false))
theorem Y12.calls (a0:Int) (a1:Bool) (r:Bool) (w:World) (h:Y12.f a0 a1=some r) :
  Calls Tryd.prog 41 #[.int .i64 a0,.bool a1] w fun e w'=>e = .returned (.bool r)∧Drawn0 w w':=by
 have H:(if a0=0 then (some true) else (if a1=true then ((Y13.f a0 0 999999).bind fun t142=>(some t142)) else (some false)))=some r:=h
 clear h
 by_cases c3:a0=0
 ·rw [if_pos c3] at H
  have c3b0:(a0 == 0)=true:=beq_iff_eq.mpr c3
  have c3b1:(a0 != 0)=false:=bne_eq_false_iff_eq.mpr c3
  clear c3
  obtain rfl:=sI H
  go_enter Tryd.func41,Tryd.ntmps41
  go_wp2
  go_ret
  exact ⟨z0_,z1_⟩
 ·rw [if_neg c3] at H
  have c3b0:(a0 == 0)=false:=beq_eq_false_iff_ne.mpr c3
  have c3b1:(a0 != 0)=true:=bne_iff_ne.mpr c3
  by_cases c4:a1=true
  ·subst c4
   have H1:((Y13.f a0 0 999999).bind fun t142=>(some t142))=some r:=by rw [if_pos rfl] at H;exact H
   clear H
   have H:=H1
   clear H1
   replace H:=bS H
   obtain ⟨t142,A50,H⟩:=H
   replace H:(some t142)=some r:=H
   have A5:=aM A50
   clear A50
   obtain rfl:=sI H
   go_enter Tryd.func41,Tryd.ntmps41
   go_wp2_with (first | (go_at_call 35;(with_reducible refine (Y13.calls a0 0 999999 t142 _ A5.out).mono ?_);rintro e w' ⟨rfl,⟨nd,rfl⟩⟩))
   go_ret
   exact ⟨z0_,z1_⟩
  ·replace c4:=Bool.eq_false_iff.mpr c4
   subst c4
   have H1:(some false)=some r:=by rw [if_neg (show ¬ (false=true) by decide)] at H;exact H
   clear H
   have H:=H1
   clear H1
   obtain rfl:=sI H
   go_enter Tryd.func41,Tryd.ntmps41
   go_wp2
   go_ret
   exact ⟨z0_,z1_⟩


/-! ### Y27: function 49 -/
def Y27.f (a0:ByteArray):Option (Int):=some (a0.size:Int)
theorem Y27.calls (a0:ByteArray) (r:Int) (w:World) (h:Y27.f a0=some r) :
  Calls Tryd.prog 49 #[.string a0] w fun e w'=>e = .returned (.int .i64 r)∧Drawn0 w w':=by
 have H:(some (a0.size:Int))=some r:=h
 clear h
 obtain rfl:=sI H
 go_enter Tryd.func49,Tryd.ntmps49
 go_wp2
 go_ret
 exact ⟨z0_,z1_⟩


/-! ### Y3: function 42 -/
mutual
def Y3.j0:Nat→ByteArray→Bool→Option (Bool)
 | 0,_,_=>none
 | k+1,x0,x18=>if x18=true then (some false) else (Y3.l0 k x0 (x0.size:Int) 0)
def Y3.l0:Nat→ByteArray→Int→Int→Option (Bool)
 | 0,_,_,_=>none
 | k+1,x0,x20,x21=>if x21<x20 then (if 0≤x21 then (if x21<(x0.size:Int) then (if (bt x0 x21)≥97 then (if (bt x0 x21)≤122 then (Y3.l0 k x0 x20 (wrap64 (x21+1))) else (if (bt x0 x21)≥48 then (if (bt x0 x21)≤57 then (Y3.l0 k x0 x20 (wrap64 (x21+1))) else (if ((bt x0 x21)=95) then (Y3.l0 k x0 x20 (wrap64 (x21+1))) else (some false))) else (if ((bt x0 x21)=95) then (Y3.l0 k x0 x20 (wrap64 (x21+1))) else (some false)))) else (if (bt x0 x21)≥48 then (if (bt x0 x21)≤57 then (Y3.l0 k x0 x20 (wrap64 (x21+1))) else (if ((bt x0 x21)=95) then (Y3.l0 k x0 x20 (wrap64 (x21+1))) else (some false))) else (if ((bt x0 x21)=95) then (Y3.l0 k x0 x20 (wrap64 (x21+1))) else (some false)))) else (none)) else (none)) else (some true)
end
def Y3.f (k:Nat) (a0:ByteArray):Option (Bool):=(Y27.f a0).bind fun t143=>((Y13.f t143 1 20).bind fun t144=>(if t144=true then (if 0<(a0.size:Int) then (if (bt a0 0)<97 then (Y3.j0 k a0 true) else (Y3.j0 k a0 (decide ((bt a0 0)>122)))) else (none)) else (Y3.j0 k a0 true)))
theorem Y3.mono_l:∀ k,(∀ y0 y1,LeO (Y3.j0 k y0 y1) (Y3.j0 (k+1) y0 y1))∧(∀ y0 y1 y2,LeO (Y3.l0 k y0 y1 y2) (Y3.l0 (k+1) y0 y1 y2))
 | 0=>by refine ⟨?_,?_⟩ <;> intros <;> exact LeO.none _
 | k+1=>by
  obtain ⟨ih0,ih1⟩:=Y3.mono_l k
  refine ⟨?_,?_⟩
  ·intros
   unfold Y3.j0
   exact mO
  ·intros
   unfold Y3.l0
   exact mO
theorem Y3.mono:∀ a0 k,LeO (Y3.f k a0) (Y3.f (k+1) a0):=by
 intro a0 k
 obtain ⟨ih0,ih1⟩:=Y3.mono_l k
 unfold Y3.f
 exact mO
theorem Y3.calls (k:Nat) (a0:ByteArray) (r:Bool) (w:World) (h:Y3.f k a0=some r) :
  Calls Tryd.prog 42 #[.string a0] w fun e w'=>e = .returned (.bool r)∧Drawn0 w w':=by
 have H:((Y27.f a0).bind fun t143=>((Y13.f t143 1 20).bind fun t144=>(if t144=true then (if 0<(a0.size:Int) then (if (bt a0 0)<97 then (Y3.j0 k a0 true) else (Y3.j0 k a0 (decide ((bt a0 0)>122)))) else (none)) else (Y3.j0 k a0 true))))=some r:=h
 clear h
 have HC2:=aM H
 clear H
 go_enter Tryd.func42,Tryd.ntmps42
 go_upto_region 1 with (fail)
 go_cut [18] (fun v18 wc=>∃ (kq:Nat) (x18_1:Bool),v18 = .bool x18_1∧Aside0 (Y3.j0 kq a0 x18_1=some r)∧Aside0 (kq≤k)∧Drawn0 w wc)
 case first =>
  have H:=HC2.out
  clear HC2
  replace H:=bS H
  obtain ⟨t143,A30,H⟩:=H
  replace H:((Y13.f t143 1 20).bind fun t144=>(if t144=true then (if 0<(a0.size:Int) then (if (bt a0 0)<97 then (Y3.j0 k a0 true) else (Y3.j0 k a0 (decide ((bt a0 0)>122)))) else (none)) else (Y3.j0 k a0 true)))=some r:=H
  have A3:=aM A30
  clear A30
  replace H:=bS H
  obtain ⟨t144,A40,H⟩:=H
  replace H:(if t144=true then (if 0<(a0.size:Int) then (if (bt a0 0)<97 then (Y3.j0 k a0 true) else (Y3.j0 k a0 (decide ((bt a0 0)>122)))) else (none)) else (Y3.j0 k a0 true))=some r:=H
  have A4:=aM A40
  clear A40
  by_cases c5:t144=true
  ·subst c5
   have H1:(if 0<(a0.size:Int) then (if (bt a0 0)<97 then (Y3.j0 k a0 true) else (Y3.j0 k a0 (decide ((bt a0 0)>122)))) else (none))=some r:=by rw [if_pos rfl] at H;exact H
   clear H
   have H:=H1
   clear H1
   by_cases c6:0<(a0.size:Int)
   ·rw [if_pos c6] at H
    have c6b0:decide (0<(a0.size:Int))=true:=dE c6
    have c6b1:decide (0<a0.size)=true:=dE (by omega)
    clear c6
    (first | rw [c6b0] | (simp only [i64_w,i32_w];rw [c6b0]) | skip)
    by_cases c8:(bt a0 0)<97
    ·rw [if_pos c8] at H
     have c8b0:decide ((bt a0 0)<97)=true:=dE c8
     clear c8
     have H':=aM H
     clear H
     go_wp2_with (first | ((with_reducible refine gc_ 49 ?_);refine gl_ (some 6) Tryd.func49 #[.string a0] ?_;(with_reducible refine (Y27.calls a0 t143 _ A3.out).mono ?_);rintro e w' ⟨rfl,⟨nd,rfl⟩⟩;refine ⟨_,rfl,?_⟩) | ((with_reducible refine gc_ 35 ?_);refine gl_ (some 7) Tryd.func35 #[.int .i64 t143,.int .i64 1,.int .i64 20] ?_;(with_reducible refine (Y13.calls t143 1 20 true _ A4.out).mono ?_);rintro e w' ⟨rfl,⟨nd,rfl⟩⟩;refine ⟨_,rfl,?_⟩;have p7:0≤(0:Int):=(by omega);have q7:0<a0.size:=(z15_);have hx7:∀ h:0<a0.size,((a0[0]'h).toNat:Int)=bt a0 0:=bt_at a0 0;clear p7;have qi7:(0<(a0.size:Int))=True:=eq_true (dT (z3_));replace q7:=eq_true q7))
     go_meet
     case rel=>exact ⟨_,(true),(z0_),H',⟨by first | omega | exact Nat.le_refl _⟩,z1_⟩
    ·rw [if_neg c8] at H
     have c8b0:decide ((bt a0 0)<97)=false:=dF c8
     clear c8
     have H':=aM H
     clear H
     go_wp2_with (first | ((with_reducible refine gc_ 49 ?_);refine gl_ (some 6) Tryd.func49 #[.string a0] ?_;(with_reducible refine (Y27.calls a0 t143 _ A3.out).mono ?_);rintro e w' ⟨rfl,⟨nd,rfl⟩⟩;refine ⟨_,rfl,?_⟩) | ((with_reducible refine gc_ 35 ?_);refine gl_ (some 7) Tryd.func35 #[.int .i64 t143,.int .i64 1,.int .i64 20] ?_;(with_reducible refine (Y13.calls t143 1 20 true _ A4.out).mono ?_);rintro e w' ⟨rfl,⟨nd,rfl⟩⟩;refine ⟨_,rfl,?_⟩;have p7:0≤(0:Int):=(by omega);have q7:0<a0.size:=(z15_);have hx7:∀ h:0<a0.size,((a0[0]'h).toNat:Int)=bt a0 0:=bt_at a0 0;clear p7;have qi7:(0<(a0.size:Int))=True:=eq_true (dT (z3_));replace q7:=eq_true q7;have p9:0≤(0:Int):=(by omega);have q9:0<a0.size:=(z15_);have hx9:∀ h:0<a0.size,((a0[0]'h).toNat:Int)=bt a0 0:=bt_at a0 0;clear p9;have qi9:(0<(a0.size:Int))=True:=eq_true (dT (z3_));replace q9:=eq_true q9))
     go_meet
     case rel=>exact ⟨_,(decide ((bt a0 0)>122)),(z0_),H',⟨by first | omega | exact Nat.le_refl _⟩,z1_⟩
   ·rw [if_neg c6] at H
    exact nO H
  ·replace c5:=Bool.eq_false_iff.mpr c5
   subst c5
   have H1:(Y3.j0 k a0 true)=some r:=by rw [if_neg (show ¬ (false=true) by decide)] at H;exact H
   clear H
   have H:=H1
   clear H1
   have H':=aM H
   clear H
   go_wp2_with (first | ((with_reducible refine gc_ 49 ?_);refine gl_ (some 6) Tryd.func49 #[.string a0] ?_;(with_reducible refine (Y27.calls a0 t143 _ A3.out).mono ?_);rintro e w' ⟨rfl,⟨nd,rfl⟩⟩;refine ⟨_,rfl,?_⟩) | ((with_reducible refine gc_ 35 ?_);refine gl_ (some 7) Tryd.func35 #[.int .i64 t143,.int .i64 1,.int .i64 20] ?_;(with_reducible refine (Y13.calls t143 1 20 false _ A4.out).mono ?_);rintro e w' ⟨rfl,⟨nd,rfl⟩⟩;refine ⟨_,rfl,?_⟩))
   go_meet
   case rel=>exact ⟨_,(true),(z0_),H',⟨by first | omega | exact Nat.le_refl _⟩,z1_⟩
 case rest =>
  clear HC2
  try clear p2
  try clear c3
  try clear c4
  try clear c5
  try clear c6
  try clear c6b0
  try clear c6b1
  try clear p7
  try clear q7
  try clear hx7
  try clear qi7
  try clear c8
  try clear c8b0
  try clear p9
  try clear q9
  try clear hx9
  try clear qi9
  try clear p7
  try clear p9
  try clear q7
  try clear q9
  obtain ⟨kq,x18_1,rfl,HA,HJ1,⟨mc1,rfl⟩⟩:=hcut
  cases kq with
  | zero=>exact absurd HA.out (by simp [Y3.j0])
  | succ kj1 =>
   have H:=HA.out
   clear HA
   simp only [Y3.j0] at H
   by_cases c10:x18_1=true
   ·subst c10
    have H1:(some false)=some r:=by rw [if_pos rfl] at H;exact H
    clear H
    have H:=H1
    clear H1
    obtain rfl:=sI H
    go_wp2
    go_ret
    exact ⟨z0_,z1_⟩
   ·replace c10:=Bool.eq_false_iff.mpr c10
    subst c10
    have H1:(Y3.l0 kj1 a0 (a0.size:Int) 0)=some r:=by rw [if_neg (show ¬ (false=true) by decide)] at H;exact H
    clear H
    have H:=H1
    clear H1
    have H':=aM H
    clear H
    go_wp2
    go_loopg [21] kj1 (fun kq v21 w'=>∃ (x21_2:Int),v21 = .int .i64 x21_2∧Aside0 (Y3.l0 kq a0 (a0.size:Int) x21_2=some r)∧Aside0 (kq≤kj1)∧Drawn0 w w')
    case atStart=>exact ⟨(0),(z0_),H',⟨Nat.le_refl _⟩,z1_⟩
    case round =>
     clear H'
     try clear c1
     try clear p2
     try clear c3
     try clear c4
     try clear c5
     try clear c6
     try clear c6b0
     try clear c6b1
     try clear p7
     try clear q7
     try clear hx7
     try clear qi7
     try clear c8
     try clear c8b0
     try clear p9
     try clear q9
     try clear hx9
     try clear qi9
     try clear c10
     try clear p2
     try clear p7
     try clear p9
     try clear q7
     try clear q9
     obtain ⟨x21_2,rfl,HA,HK2,⟨m2,rfl⟩⟩:=hrel
     cases gk with
     | zero=>exact absurd HA.out (by simp [Y3.l0])
     | succ k2 =>
      have H:=HA.out
      clear HA
      simp only [Y3.l0] at H
      by_cases c11:x21_2<(a0.size:Int)
      ·rw [if_pos c11] at H
       have c11b0:decide (x21_2<(a0.size:Int))=true:=dE c11
       clear c11
       by_cases c12:0≤x21_2
       ·rw [if_pos c12] at H
        have c12b0:decide (0≤x21_2)=true:=dE c12
        clear c12
        by_cases c13:x21_2<(a0.size:Int)
        ·rw [if_pos c13] at H
         have c13b0:decide (x21_2<(a0.size:Int))=true:=dE c13
         clear c13
         by_cases c15:(bt a0 x21_2)≥97
         ·rw [if_pos c15] at H
          have c15b0:decide (97≤(bt a0 x21_2))=true:=dE c15
          clear c15
          by_cases c16:(bt a0 x21_2)≤122
          ·rw [if_pos c16] at H
           have c16b0:decide ((bt a0 x21_2)≤122)=true:=dE c16
           clear c16
           have H':=aM H
           clear H
           have p14:0≤(x21_2:Int):=dT (z3_)
           have q14:x21_2<(a0.size:Int):=dT (z3_)
           have hx14:=bt_at a0 x21_2
           replace p14:=eq_true p14
           replace q14:=eq_true q14
           go_wp2
           go_roundg k2
           case measure=>have:=HJ1.out;have:=HK2.out;omega
           case rel=>exact ⟨(wrap64 (x21_2+1)),(z0_),H',⟨by have:=HJ1.out;have:=HK2.out;omega⟩,z1_⟩
          ·rw [if_neg c16] at H
           have c16b0:decide ((bt a0 x21_2)≤122)=false:=dF c16
           clear c16
           by_cases c17:(bt a0 x21_2)≥48
           ·rw [if_pos c17] at H
            have c17b0:decide (48≤(bt a0 x21_2))=true:=dE c17
            clear c17
            by_cases c18:(bt a0 x21_2)≤57
            ·rw [if_pos c18] at H
             have c18b0:decide ((bt a0 x21_2)≤57)=true:=dE c18
             clear c18
             have H':=aM H
             clear H
             have p14:0≤(x21_2:Int):=dT (z3_)
             have q14:x21_2<(a0.size:Int):=dT (z3_)
             have hx14:=bt_at a0 x21_2
             replace p14:=eq_true p14
             replace q14:=eq_true q14
             go_wp2
             go_roundg k2
             case measure=>have:=HJ1.out;have:=HK2.out;omega
             case rel=>exact ⟨(wrap64 (x21_2+1)),(z0_),H',⟨by have:=HJ1.out;have:=HK2.out;omega⟩,z1_⟩
            ·rw [if_neg c18] at H
             have c18b0:decide ((bt a0 x21_2)≤57)=false:=dF c18
             clear c18
             by_cases c19:((bt a0 x21_2)=95)
             ·rw [if_pos c19] at H
              have c19b0:((bt a0 x21_2) == 95)=true:=beq_iff_eq.mpr c19
              have c19b1:((bt a0 x21_2) != 95)=false:=bne_eq_false_iff_eq.mpr c19
              clear c19
              have H':=aM H
              clear H
              have p14:0≤(x21_2:Int):=dT (z3_)
              have q14:x21_2<(a0.size:Int):=dT (z3_)
              have hx14:=bt_at a0 x21_2
              replace p14:=eq_true p14
              replace q14:=eq_true q14
              go_wp2
              go_roundg k2
              case measure=>have:=HJ1.out;have:=HK2.out;omega
              case rel=>exact ⟨(wrap64 (x21_2+1)),(z0_),H',⟨by have:=HJ1.out;have:=HK2.out;omega⟩,z1_⟩
             ·rw [if_neg c19] at H
              have c19b0:((bt a0 x21_2) == 95)=false:=beq_eq_false_iff_ne.mpr c19
              have c19b1:((bt a0 x21_2) != 95)=true:=bne_iff_ne.mpr c19
              obtain rfl:=sI H
              have p14:0≤(x21_2:Int):=dT (z3_)
              have q14:x21_2<(a0.size:Int):=dT (z3_)
              have hx14:=bt_at a0 x21_2
              replace p14:=eq_true p14
              replace q14:=eq_true q14
              go_wp2
              go_ret
              exact ⟨z0_,z1_⟩
           ·rw [if_neg c17] at H
            have c17b0:decide (48≤(bt a0 x21_2))=false:=dF c17
            clear c17
            by_cases c20:((bt a0 x21_2)=95)
            ·rw [if_pos c20] at H
             have c20b0:((bt a0 x21_2) == 95)=true:=beq_iff_eq.mpr c20
             have c20b1:((bt a0 x21_2) != 95)=false:=bne_eq_false_iff_eq.mpr c20
             clear c20
             have H':=aM H
             clear H
             have p14:0≤(x21_2:Int):=dT (z3_)
             have q14:x21_2<(a0.size:Int):=dT (z3_)
             have hx14:=bt_at a0 x21_2
             replace p14:=eq_true p14
             replace q14:=eq_true q14
             go_wp2
             go_roundg k2
             case measure=>have:=HJ1.out;have:=HK2.out;omega
             case rel=>exact ⟨(wrap64 (x21_2+1)),(z0_),H',⟨by have:=HJ1.out;have:=HK2.out;omega⟩,z1_⟩
            ·rw [if_neg c20] at H
             have c20b0:((bt a0 x21_2) == 95)=false:=beq_eq_false_iff_ne.mpr c20
             have c20b1:((bt a0 x21_2) != 95)=true:=bne_iff_ne.mpr c20
             obtain rfl:=sI H
             have p14:0≤(x21_2:Int):=dT (z3_)
             have q14:x21_2<(a0.size:Int):=dT (z3_)
             have hx14:=bt_at a0 x21_2
             replace p14:=eq_true p14
             replace q14:=eq_true q14
             go_wp2
             go_ret
             exact ⟨z0_,z1_⟩
         ·rw [if_neg c15] at H
          have c15b0:decide (97≤(bt a0 x21_2))=false:=dF c15
          clear c15
          by_cases c21:(bt a0 x21_2)≥48
          ·rw [if_pos c21] at H
           have c21b0:decide (48≤(bt a0 x21_2))=true:=dE c21
           clear c21
           by_cases c22:(bt a0 x21_2)≤57
           ·rw [if_pos c22] at H
            have c22b0:decide ((bt a0 x21_2)≤57)=true:=dE c22
            clear c22
            have H':=aM H
            clear H
            have p14:0≤(x21_2:Int):=dT (z3_)
            have q14:x21_2<(a0.size:Int):=dT (z3_)
            have hx14:=bt_at a0 x21_2
            replace p14:=eq_true p14
            replace q14:=eq_true q14
            go_wp2
            go_roundg k2
            case measure=>have:=HJ1.out;have:=HK2.out;omega
            case rel=>exact ⟨(wrap64 (x21_2+1)),(z0_),H',⟨by have:=HJ1.out;have:=HK2.out;omega⟩,z1_⟩
           ·rw [if_neg c22] at H
            have c22b0:decide ((bt a0 x21_2)≤57)=false:=dF c22
            clear c22
            by_cases c23:((bt a0 x21_2)=95)
            ·rw [if_pos c23] at H
             have c23b0:((bt a0 x21_2) == 95)=true:=beq_iff_eq.mpr c23
             have c23b1:((bt a0 x21_2) != 95)=false:=bne_eq_false_iff_eq.mpr c23
             clear c23
             have H':=aM H
             clear H
             have p14:0≤(x21_2:Int):=dT (z3_)
             have q14:x21_2<(a0.size:Int):=dT (z3_)
             have hx14:=bt_at a0 x21_2
             replace p14:=eq_true p14
             replace q14:=eq_true q14
             go_wp2
             go_roundg k2
             case measure=>have:=HJ1.out;have:=HK2.out;omega
             case rel=>exact ⟨(wrap64 (x21_2+1)),(z0_),H',⟨by have:=HJ1.out;have:=HK2.out;omega⟩,z1_⟩
            ·rw [if_neg c23] at H
             have c23b0:((bt a0 x21_2) == 95)=false:=beq_eq_false_iff_ne.mpr c23
             have c23b1:((bt a0 x21_2) != 95)=true:=bne_iff_ne.mpr c23
             obtain rfl:=sI H
             have p14:0≤(x21_2:Int):=dT (z3_)
             have q14:x21_2<(a0.size:Int):=dT (z3_)
             have hx14:=bt_at a0 x21_2
             replace p14:=eq_true p14
             replace q14:=eq_true q14
             go_wp2
             go_ret
             exact ⟨z0_,z1_⟩
          ·rw [if_neg c21] at H
           have c21b0:decide (48≤(bt a0 x21_2))=false:=dF c21
           clear c21
           by_cases c24:((bt a0 x21_2)=95)
           ·rw [if_pos c24] at H
            have c24b0:((bt a0 x21_2) == 95)=true:=beq_iff_eq.mpr c24
            have c24b1:((bt a0 x21_2) != 95)=false:=bne_eq_false_iff_eq.mpr c24
            clear c24
            have H':=aM H
            clear H
            have p14:0≤(x21_2:Int):=dT (z3_)
            have q14:x21_2<(a0.size:Int):=dT (z3_)
            have hx14:=bt_at a0 x21_2
            replace p14:=eq_true p14
            replace q14:=eq_true q14
            go_wp2
            go_roundg k2
            case measure=>have:=HJ1.out;have:=HK2.out;omega
            case rel=>exact ⟨(wrap64 (x21_2+1)),(z0_),H',⟨by have:=HJ1.out;have:=HK2.out;omega⟩,z1_⟩
           ·rw [if_neg c24] at H
            have c24b0:((bt a0 x21_2) == 95)=false:=beq_eq_false_iff_ne.mpr c24
            have c24b1:((bt a0 x21_2) != 95)=true:=bne_iff_ne.mpr c24
            obtain rfl:=sI H
            have p14:0≤(x21_2:Int):=dT (z3_)
            have q14:x21_2<(a0.size:Int):=dT (z3_)
            have hx14:=bt_at a0 x21_2
            replace p14:=eq_true p14
            replace q14:=eq_true q14
            go_wp2
            go_ret
            exact ⟨z0_,z1_⟩
        ·rw [if_neg c13] at H
         exact nO H
       ·rw [if_neg c12] at H
        exact nO H
      ·rw [if_neg c11] at H
       have c11b0:decide (x21_2<(a0.size:Int))=false:=dF c11
       clear c11
       obtain rfl:=sI H
       go_wp2
       go_ret
       exact ⟨z0_,z1_⟩


/-! ### Y21: function 61 -/
def Y21.f (a0:ByteArray) (a1:Int):Option (Int):=some (Lib.indexByte a0.data.toList a1.toNat.toUInt8)
set_option maxHeartbeats 1000000 in
theorem Y21.calls (a0:ByteArray) (a1:Int) (r:Int) (w:World) (h:Y21.f a0 a1=some r) :
  Calls Tryd.prog 61 #[.string a0,.int .u8 a1] w fun e w'=>e = .returned (.int .i64 r)∧Drawn0 w w':=by
 obtain rfl:Lib.indexByte a0.data.toList a1.toNat.toUInt8=r:=Option.some.inj h
 clear h
 go_enter Tryd.func61,Tryd.ntmps61
 go_wp2
 rw [run_callFunc_extern Tryd.func72 (by kernel_rfl) (by kernel_rfl) (by kernel_rfl) (e:=Extern.BytealgIndexByte.indexByte) (by kernel_rfl),Lib.run_indexByteString]
 simp only [Result.andThen]
 rw [Oper.upon_value]
 go_wp2
 go_ret
 exact ⟨rfl,Drawn0.refl _⟩


/-! ### Y8: function 54 -/
def Y8.j0:Nat→ByteArray→ByteArray→Int→Bool→Option (Int)
 | 0,_,_,_,_=>none
 | k+1,x0,x1,x5,x16=>if x16=true then (some 0) else (if x5=1 then (if 0<(x1.size:Int) then ((Y21.f x0 (bt x1 0)).bind fun t147=>(some t147)) else (none)) else (none))
def Y8.f (k:Nat) (a0:ByteArray) (a1:ByteArray):Option (Int):=if (a1.size:Int)=0 then (Y8.j0 k a0 a1 (a1.size:Int) true) else (Y8.j0 k a0 a1 (a1.size:Int) (a1.toList == a0.toList))
theorem Y8.mono_l:∀ k,(∀ y0 y1 y2 y3,LeO (Y8.j0 k y0 y1 y2 y3) (Y8.j0 (k+1) y0 y1 y2 y3))
 | 0=>by intros <;> exact LeO.none _
 | k+1=>by
  have ih0:=Y8.mono_l k
  ·intros
   unfold Y8.j0
   exact mO
theorem Y8.mono:∀ a0 a1 k,LeO (Y8.f k a0 a1) (Y8.f (k+1) a0 a1):=by
 intro a0 a1 k
 have ih0:=Y8.mono_l k
 unfold Y8.f
 exact mO
theorem Y8.calls (k:Nat) (a0:ByteArray) (a1:ByteArray) (r:Int) (w:World) (h:Y8.f k a0 a1=some r) :
  Calls Tryd.prog 54 #[.string a0,.string a1] w fun e w'=>e = .returned (.int .i64 r)∧Drawn0 w w':=by
 have H:(if (a1.size:Int)=0 then (Y8.j0 k a0 a1 (a1.size:Int) true) else (Y8.j0 k a0 a1 (a1.size:Int) (a1.toList == a0.toList)))=some r:=h
 clear h
 have HC3:=aM H
 clear H
 go_enter Tryd.func54,Tryd.ntmps54
 go_upto_region 2 with (fail)
 go_cut [16] (fun v16 wc=>∃ (kq:Nat) (x16_2:Bool),v16 = .bool x16_2∧Aside0 (Y8.j0 kq a0 a1 (a1.size:Int) x16_2=some r)∧Aside0 (kq≤k)∧Drawn0 w wc)
 case first =>
  have H:=HC3.out
  clear HC3
  by_cases c4:(a1.size:Int)=0
  ·rw [if_pos c4] at H
   have c4b0:((a1.size:Int) == 0)=true:=beq_iff_eq.mpr c4
   have c4b1:((a1.size:Int) != 0)=false:=bne_eq_false_iff_eq.mpr c4
   clear c4
   (first | rw [c4b0] | (simp only [i64_w,i32_w];rw [c4b0]) | skip)
   have H':=aM H
   clear H
   go_wp2
   go_meet
   case rel=>exact ⟨_,(true),(z0_),H',⟨by first | omega | exact Nat.le_refl _⟩,z1_⟩
  ·rw [if_neg c4] at H
   have c4b0:((a1.size:Int) == 0)=false:=beq_eq_false_iff_ne.mpr c4
   have c4b1:((a1.size:Int) != 0)=true:=bne_iff_ne.mpr c4
   (first | rw [c4b0] | (simp only [i64_w,i32_w];rw [c4b0]) | skip)
   have H':=aM H
   clear H
   go_wp2
   go_meet
   case rel=>exact ⟨_,((a1.toList == a0.toList)),(z0_),H',⟨by first | omega | exact Nat.le_refl _⟩,z1_⟩
 case rest =>
  clear HC3
  try clear p2
  try clear c4
  try clear c4b0
  try clear c4b1
  obtain ⟨kq,x16_2,rfl,HA,HJ2,⟨mc2,rfl⟩⟩:=hcut
  cases kq with
  | zero=>exact absurd HA.out (by simp [Y8.j0])
  | succ kj2 =>
   have H:=HA.out
   clear HA
   simp only [Y8.j0] at H
   by_cases c5:x16_2=true
   ·subst c5
    have H1:(some 0)=some r:=by rw [if_pos rfl] at H;exact H
    clear H
    have H:=H1
    clear H1
    obtain rfl:=sI H
    go_wp2
    go_ret
    exact ⟨z0_,z1_⟩
   ·replace c5:=Bool.eq_false_iff.mpr c5
    subst c5
    have H1:(if (a1.size:Int)=1 then (if 0<(a1.size:Int) then ((Y21.f a0 (bt a1 0)).bind fun t147=>(some t147)) else (none)) else (none))=some r:=by rw [if_neg (show ¬ (false=true) by decide)] at H;exact H
    clear H
    have H:=H1
    clear H1
    by_cases c6:(a1.size:Int)=1
    ·rw [if_pos c6] at H
     have c6b0:((a1.size:Int) == 1)=true:=beq_iff_eq.mpr c6
     have c6b1:((a1.size:Int) != 1)=false:=bne_eq_false_iff_eq.mpr c6
     clear c6
     by_cases c7:0<(a1.size:Int)
     ·rw [if_pos c7] at H
      have c7b0:decide (0<(a1.size:Int))=true:=dE c7
      have c7b1:decide (0<a1.size)=true:=dE (by omega)
      clear c7
      replace H:=bS H
      obtain ⟨t147,A90,H⟩:=H
      replace H:(some t147)=some r:=H
      have A9:=aM A90
      clear A90
      obtain rfl:=sI H
      have p8:0≤(0:Int):=(by omega)
      have q8:0<a1.size:=(by have:(0:Int)<(a1.size:Int):=dT (by first | (with_reducible assumption) | assumption);omega)
      have hx8:∀ h:0<a1.size,((a1[0]'h).toNat:Int)=bt a1 0:=bt_at a1 0
      clear p8
      have qi8:(0<(a1.size:Int))=True:=eq_true (dT (z3_))
      replace q8:=eq_true q8
      go_wp2_with (first | ((with_reducible refine gc_ 61 ?_);refine gl_ (some 30) Tryd.func61 #[.string a0,.int .u8 (bt a1 0)] ?_;(with_reducible refine (Y21.calls a0 (bt a1 0) t147 _ A9.out).mono ?_);rintro e w' ⟨rfl,⟨nd,rfl⟩⟩;refine ⟨_,rfl,?_⟩))
      go_ret
      exact ⟨z0_,z1_⟩
     ·rw [if_neg c7] at H
      exact nO H
    ·rw [if_neg c6] at H
     exact nO H


/-! ### Y20: function 48 -/
def Y20.f (k:Nat) (a0:ByteArray) (a1:ByteArray):Option (Int):=(Y8.f k a0 a1).bind fun t148=>(some t148)
theorem Y20.mono:∀ a0 a1 k,LeO (Y20.f k a0 a1) (Y20.f (k+1) a0 a1):=by
 intro a0 a1 k
 have m0:=@Y8.mono
 unfold Y20.f
 exact mO
theorem Y20.calls (k:Nat) (a0:ByteArray) (a1:ByteArray) (r:Int) (w:World) (h:Y20.f k a0 a1=some r) :
  Calls Tryd.prog 48 #[.string a0,.string a1] w fun e w'=>e = .returned (.int .i64 r)∧Drawn0 w w':=by
 have H:((Y8.f k a0 a1).bind fun t148=>(some t148))=some r:=h
 clear h
 replace H:=bS H
 obtain ⟨t148,A30,H⟩:=H
 replace H:(some t148)=some r:=H
 have A3:=aM A30
 clear A30
 obtain rfl:=sI H
 go_enter Tryd.func48,Tryd.ntmps48
 go_wp2_with (first | ((with_reducible refine gc_ 54 ?_);refine gl_ (some 7) Tryd.func54 #[.string a0,.string a1] ?_;(with_reducible refine (Y8.calls k a0 a1 t148 _ A3.out).mono ?_);rintro e w' ⟨rfl,⟨nd,rfl⟩⟩;refine ⟨_,rfl,?_⟩))
 go_ret
 exact ⟨z0_,z1_⟩


/-! ### Y17: function 40 -/
def Y17.f (k:Nat) (a0:ByteArray) (a1:ByteArray):Option (Bool):=(Y20.f k a0 a1).bind fun t149=>(some (decide (t149≥0)))
theorem Y17.mono:∀ a0 a1 k,LeO (Y17.f k a0 a1) (Y17.f (k+1) a0 a1):=by
 intro a0 a1 k
 have m0:=@Y20.mono
 unfold Y17.f
 exact mO
theorem Y17.calls (k:Nat) (a0:ByteArray) (a1:ByteArray) (r:Bool) (w:World) (h:Y17.f k a0 a1=some r) :
  Calls Tryd.prog 40 #[.string a0,.string a1] w fun e w'=>e = .returned (.bool r)∧Drawn0 w w':=by
 have H:((Y20.f k a0 a1).bind fun t149=>(some (decide (t149≥0))))=some r:=h
 clear h
 replace H:=bS H
 obtain ⟨t149,A30,H⟩:=H
 replace H:(some (decide (t149≥0)))=some r:=H
 have A3:=aM A30
 clear A30
 obtain rfl:=sI H
 go_enter Tryd.func40,Tryd.ntmps40
 go_wp2_with (first | ((with_reducible refine gc_ 48 ?_);refine gl_ (some 7) Tryd.func48 #[.string a0,.string a1] ?_;(with_reducible refine (Y20.calls k a0 a1 t149 _ A3.out).mono ?_);rintro e w' ⟨rfl,⟨nd,rfl⟩⟩;refine ⟨_,rfl,?_⟩))
 go_ret
 exact ⟨z0_,z1_⟩


/-! ### Y0: function 39 -/
def Y0.f (k:Nat) (a0:ByteArray) (a1_0:ByteArray):Option (Bool):=(Y17.f k a1_0 a0).bind fun t150=>(some t150)
theorem Y0.mono:∀ a0 a1 k,LeO (Y0.f k a0 a1) (Y0.f (k+1) a0 a1):=by
 intro a0 a1 k
 have m0:=@Y17.mono
 unfold Y0.f
 exact mO
theorem Y0.calls (k:Nat) (a0:ByteArray) (gb1:Nat) (a1_0:ByteArray) (r:Bool) (w:World) (hk1:w.heap[gb1]? = some (.cells #[.string a1_0] 9 (0,0))) (h:Y0.f k a0 a1_0=some r) :
  Calls Tryd.prog 39 #[.string a0,.pointer (some ⟨gb1,0,none⟩)] w fun e w'=>e = .returned (.bool r)∧Below w.heap.size w w':=by
 have BK61:=aM hk1
 clear hk1
 have HB:=aM (Below.refl w.heap.size w)
 have H:((Y17.f k a1_0 a0).bind fun t150=>(some t150))=some r:=h
 clear h
 replace H:=bS H
 obtain ⟨t150,A30,H⟩:=H
 replace H:(some t150)=some r:=H
 have A3:=aM A30
 clear A30
 obtain rfl:=sI H
 have ⟨hcz4_0,hfz4_0⟩:=cz1_ BK61.out
 go_enter Tryd.func39,Tryd.ntmps39
 go_wp2_with (first | ((with_reducible refine gc_ 40 ?_);refine gl_ (some 6) Tryd.func40 #[.string a1_0,.string a0] ?_;(with_reducible refine (Y17.calls k a1_0 a0 t150 _ A3.out).mono ?_);rintro e w' ⟨rfl,⟨nd,rfl⟩⟩;refine ⟨_,rfl,?_⟩))
 go_ret
 exact ⟨z7_,by repeat (first | (with_reducible first | exact HB.out | apply below_alloc | apply pw_below_drewN | apply below_drew1 | refine below_set ?_ GE61.out) | exact HB.out)⟩

end Go.Proofs.YtffjlmmlclpcnaaDoor.P
