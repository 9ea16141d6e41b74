/- For all pairs of rings, keys and numbers the program's Newcomers and the reference's return the same, of memory of its own, and the rings stay as they were. No condition. (Part 1 of 5: written by programs of this workplace and by hand, merged.) -/
import Derived.Test.YtelecnmflodkkaaDoorProg
import Derived.Below
import Derived.Deep.Draws
import Derived.Deep.AppendLies
import Derived.Maps.AppendAt
import Derived.OwnWalk
import Derived.Laws.BytesArg
import Derived.Laws.MakeOwn
import Derived.Laws.OwnMore
import Derived.Deep.OwnRows
import Derived.Tactics
import Derived.Lib.ConvBytes
import Derived.Laws.Slices
import Derived.WalkKit
import Derived.KernelRfl
import Derived.RowKit3
import Derived.Deep.LoopGhost
import Derived.Deep.QuietTactic
import Derived.BigQuiet
import Derived.WideLaws
import Derived.Deep.DeepCutAuto
import Derived.Deep.CutBlock
import Derived.Deep.RegionHeld3
import Derived.Laws.Rows
import Derived.Lib.AppendStr
import Derived.ArgAppend
import Derived.Laws.IdiomCopy
import Derived.OrdersHeld
import Derived.Laws.BitsLemmas
import Derived.RowKit
import Derived.Lib.Bytealg
import Derived.Lib.Walk
import Derived.Test.YtelecnmflodkkaaDoorMFnExactNewcomersWWords
import Derived.Test.YtelecnmflodkkaaDoorMFnExactNewcomersWLast
import Derived.Test.YtelecnmflodkkaaDoorMFnExactNewcomersWTab
import Derived.Test.YtelecnmflodkkaaDoorMFnExactNewcomersWApart
import Derived.Test.YtelecnmflodkkaaDoorMFnExactNewcomersWFoot
import Derived.Test.YtelecnmflodkkaaDoorMFnExactNewcomersWKept
import Derived.Test.YtelecnmflodkkaaDoorMFnExactNewcomersWShare
import Derived.Test.YtelecnmflodkkaaDoorMFnExactNewcomersWN
import Derived.Test.YtelecnmflodkkaaDoorMFnExactNewcomersWFootNe
import Derived.Test.YtelecnmflodkkaaDoorMFnExactNewcomersWEqStruct
import Derived.Test.YtelecnmflodkkaaDoorMFnExactNewcomersWRepsOne
import Derived.Test.YtelecnmflodkkaaDoorMFnExactNewcomersWGuard
import Derived.Test.YtelecnmflodkkaaDoorMFnExactNewcomersWMore
import Derived.ChangeArms
import Derived.ChangeSlices
import Derived.WideShapes
set_option linter.unusedVariables false
set_option linter.unusedSimpArgs false

namespace Go.Proofs.YtelecnmflodkkaaDoor.P
open Go.RowKit Go.Proofs.YtelecnmflodkkaaDoorW.PrintWords Go.Proofs.YtelecnmflodkkaaDoorW.PrintLast Go.Proofs.YtelecnmflodkkaaDoorW.PrintMore
attribute [local go_sem] max2_int min2_int max_two min_two max_three min_three max_four min_four   -- for this text's walks alone
set_option linter.unusedVariables false
set_option linter.unusedSimpArgs false

theorem sa_ {α:Type _} (l:List α) (i:Nat) (a:α):l.toArray.setIfInBounds i a=(l.set i a).toArray:=List.setIfInBounds_toArray ..
theorem s0_ {α:Type _} (x:α) (l:List α) (a:α):(x :: l).set 0 a=a :: l:=List.set_cons_zero ..
theorem ss_ {α:Type _} (x:α) (l:List α) (n:Nat) (a:α):(x :: l).set (n+1) a=x :: l.set n a:=List.set_cons_succ ..
section
variable {P:Program} {ops:Array Oper} {Q:Exit→Act→World→Prop}
/-- A call of a function value, as a step of a region that draws. -/
theorem goesD_ {oi:Oper} {N:Option Tmp} {a:Act} {w:World} {K:Act→World→Prop} {f:FuncId} {fn:Func} {as_:Array Operand} {ts:Array TypeId} {x:Operand} (hf:P.funcs[f]? = some fn) (hname:(fn.name == "runtime.NumGoroutine")=false) (hb:fn.body.isSome=true) (args:Array Value)
    (hw:Region.wanted oi (yielded ops a.tmps)=true) (hN:oi.dst=N) (hop:oi.op = .call { callee:=.value x,args:=as_,argTypes:=ts }) (hx:a.eval x = .func (.func f) #[] #[]) (hargs:as_.map a.eval=args)
    (h:Calls P f args w fun e w'=>∃ v,e = .returned v∧K (a.put N v) w'):if Region.wanted oi (yielded ops a.tmps)=true then Oper.wp P oi a w K Q else K (a.put N undef) w:=by
  refine call_ f args hw hN ?_ h
  have he:=enters_ hf hname hb args w
  unfold execOp
  simp [hop,resolve,Deferred.ofValue,invoke,hx,hargs,he]
end



def errW:Option Int→Value
  | none=>.nilIface
  | some c=>.iface 0 (.int .i64 c)
theorem errW_none:errW none = .nilIface:=rfl
theorem errW_some (c:Int):errW (some c) = .iface 0 (.int .i64 c):=rfl

theorem info2:(Tryd.prog.info? 2).map (fun i=>(i.zero,i.size,i.bytes))=some (some (.int .i64 0),1,8):=by kernel_rfl
theorem info77:(Tryd.prog.info? 77).map (fun i=>(i.zero,i.size,i.bytes))=some (some (.agg #[(.int .i64 0),(.int .i64 0)]),2,16):=by kernel_rfl
-- the values' own types
/-! #### struct type 77 -/
structure S77 where
  f0:Int
  f1:Int
def z77:S77:=⟨(0:Int),(0:Int)⟩
def k77:Kd S77:=Kd.iso (Kd.pair (Kd.int .i64) (Kd.int .i64)) (fun x:S77=>(x.f0,x.f1))
theorem k77_heap:Kd.Heap k77:=Kd.heap_iso _ (Kd.heap_pair (Kd.heap_int .i64) (Kd.heap_int .i64))
theorem k77_open {w:World} {x:S77} {cs:List Value} (h:k77.K w x cs):cs=[.int .i64 x.f0,.int .i64 x.f1]:=by
  obtain ⟨_,_,rfl,rfl,rfl⟩:=h
  exact rfl
theorem k77_openM {w:World} {base:Nat} {ok:Nat→Prop} {x:S77} {cs:List Value} (h:k77.M w base ok x cs):cs=[.int .i64 x.f0,.int .i64 x.f1]:=by
  obtain ⟨_,_,rfl,rfl,rfl⟩:=h
  exact rfl
theorem k77_mkM (w:World) (base:Nat) (ok:Nat→Prop) (x:S77)  : k77.M w base ok x [.int .i64 x.f0,.int .i64 x.f1]:=⟨[.int .i64 x.f0],[.int .i64 x.f1],rfl,rfl,rfl⟩
def rd_T77 (xs:List S77) (i:Int):S77:=xs.getD i.toNat z77
theorem at_T77 {w:World} {A:Option Addr} {n:Nat} {xs:List S77} (h:Kd.C k77 w A n xs) (i:Int) (h0:0≤i) (h1:i<n):∃ ad , A=some ad∧w.cell? (ad.add (i.toNat*2))=some (.int .i64 (rd_T77 xs i).f0)∧w.cell? ⟨(ad.add (i.toNat*2)).block,(ad.add (i.toNat*2)).off+1,none⟩=some (.int .i64 (rd_T77 xs i).f1):=by
  obtain ⟨ad,c,e,_,hK,hc0⟩:=Kd.C_get h z77 i h0 h1
  have hc:∀ j u,c[j]? = some u→w.cell? (ad.add (i.toNat*2+j))=some u:=hc0
  obtain rfl:=k77_open hK
  exact ⟨ad,e,hc 0 _ rfl,by rw [← add_field _ _ 1 (by omega)];exact hc 1 _ rfl⟩

/-! #### struct type 116 -/
structure S116 where
  f0:Int
  f1:Int
def z116:S116:=⟨(0:Int),(0:Int)⟩
def k116:Kd S116:=Kd.iso (Kd.pair (Kd.int .i64) (Kd.int .i64)) (fun x:S116=>(x.f0,x.f1))
theorem k116_open {w:World} {x:S116} {cs:List Value} (h:k116.K w x cs):cs=[.int .i64 x.f0,.int .i64 x.f1]:=by
  obtain ⟨_,_,rfl,rfl,rfl⟩:=h
  exact rfl
def rd_T116 (xs:List S116) (i:Int):S116:=xs.getD i.toNat z116
theorem at_T116 {w:World} {A:Option Addr} {n:Nat} {xs:List S116} (h:Kd.C k116 w A n xs) (i:Int) (h0:0≤i) (h1:i<n):∃ ad , A=some ad∧w.cell? (ad.add (i.toNat*2))=some (.int .i64 (rd_T116 xs i).f0)∧w.cell? ⟨(ad.add (i.toNat*2)).block,(ad.add (i.toNat*2)).off+1,none⟩=some (.int .i64 (rd_T116 xs i).f1):=by
  obtain ⟨ad,c,e,_,hK,hc0⟩:=Kd.C_get h z116 i h0 h1
  have hc:∀ j u,c[j]? = some u→w.cell? (ad.add (i.toNat*2+j))=some u:=hc0
  obtain rfl:=k116_open hK
  exact ⟨ad,e,hc 0 _ rfl,by rw [← add_field _ _ 1 (by omega)];exact hc 1 _ rfl⟩

/-! #### struct type 44 -/
structure S44 where
  f0:Int
  f1:(List S116)
def k44:Kd S44:=Kd.iso (Kd.pair (Kd.int .i64) (Kd.slice 116 k116)) (fun x:S44=>(x.f0,x.f1))
theorem k44_open {w:World} {x:S44} {cs:List Value} (h:k44.K w x cs):∃ A1 c1,cs=[.int .i64 x.f0,.slice A1 x.f1.length c1]∧x.f1.length≤c1∧k116.C w A1 x.f1.length x.f1:=by
  obtain ⟨_,_,rfl,rfl,⟨A1,c1,rfl,l1,g1⟩⟩:=h
  exact ⟨A1,c1,rfl,l1,g1⟩
end Go.Proofs.YtelecnmflodkkaaDoor.P

namespace Go.Proofs.YtelecnmflodkkaaDoor.P
open Go.RowKit Go.Proofs.YtelecnmflodkkaaDoorW.PrintWords Go.Proofs.YtelecnmflodkkaaDoorW.PrintLast Go.Proofs.YtelecnmflodkkaaDoorW.PrintMore
abbrev I:=true
abbrev O:=false
section
variable {P:Program} {ops:Array Oper} {Q:Exit→Act→World→Prop} {md:Region.Mode} {S:World→Prop} {ds:List Nat}
theorem pu_ {T:Bool × List (List Nat × List Nat)} (i:Nat) (N:Tmp) {oi:Oper} {v:Value} {fuel:Nat} {l:Array Bool} {a a':Act} {w:World} (l':Array Bool) (hT:rtab md ops=T) (h:wpAnyLast P md ops Q S ds fuel l' a' w) (hi:ops[i]? = some oi:=by exact rfl) (hN:oi.dst=some N:=by exact rfl) (hc:anyT T l.toList l'.toList i=true:=by kernel_rfl) (hQ:∀ c a w,Q (.panic c) (a.put oi.dst v) w→Q (.panic c) a w:=by exact fun _ _ _ h=>h) (hw:Region.wanted oi (yielded ops a.tmps)=true:=by rfl) (hy:∀ w',(execOp a.eval oi).run P w' = .ok (.value v) w':=by (intro w');go_simp;(with_reducible rfl)) (ha:a.put (some N) v=a':=by (simp only [Act.put,sa_,s0_,ss_,i64_w,i32_w]);exact rfl):wpAnyLast P md ops Q S ds (fuel+1) l a w:=pure_ l' hi hN (any_of hT hc) hQ (Or.inl ⟨hw,hy⟩) ha h
theorem pn_ {T:Bool × List (List Nat × List Nat)} (i:Nat) (N:Tmp) {oi:Oper} {v:Value} {fuel:Nat} {l:Array Bool} {a a':Act} {w:World} (l':Array Bool) (hT:rtab md ops=T) (h:wpAnyLast P md ops Q S ds fuel l' a' w) (hi:ops[i]? = some oi:=by exact rfl) (hN:oi.dst=some N:=by exact rfl) (hc:anyT T l.toList l'.toList i=true:=by kernel_rfl) (hQ:∀ c a w,Q (.panic c) (a.put oi.dst v) w→Q (.panic c) a w:=by exact fun _ _ _ h=>h) (hw:Region.wanted oi (yielded ops a.tmps)=false:=by rfl) (hy:v=undef:=by rfl) (ha:a.put (some N) v=a':=by (simp only [Act.put,sa_,s0_,ss_,i64_w,i32_w]);exact rfl):wpAnyLast P md ops Q S ds (fuel+1) l a w:=pure_ l' hi hN (any_of hT hc) hQ (Or.inr ⟨hw,hy⟩) ha h
theorem tk2_ {T:Bool × List (List Nat × List Nat)} (i:Nat) (N:Tmp) {oi:Oper} {v:Value} {fuel:Nat} {l:Array Bool} {a a':Act} {w:World} (l':Array Bool) {B:List Nat} (hT:rtab md ops=T) (hB:waitsOk T.2 B=true) (hS:S w) (h:wpAnyLast P md ops Q S ds fuel l' a' w) (hi:ops[i]? = some oi:=by exact rfl) (hN:oi.dst=some N:=by exact rfl) (hc:takeW T B ds l.toList l'.toList i=true:=by kernel_rfl) (hQ:∀ c a w,Q (.panic c) (a.put oi.dst v) w→Q (.panic c) a w:=by exact fun _ _ _ h=>h) (hw:Region.wanted oi (yielded ops a.tmps)=true:=by rfl) (hy:∀ w',S w'→(execOp a.eval oi).run P w' = .ok (.value v) w':=by (rintro w' ⟨s0,s1⟩);go_simp;(with_reducible rfl)) (ha:a.put (some N) v=a':=by (simp only [Act.put,sa_,s0_,ss_,i64_w,i32_w]);exact rfl):wpAnyLast P md ops Q S ds (fuel+1) l a w:=take_ l' hi hN (take_ofW hT hB hc) hQ (Or.inl ⟨hw,hy⟩) hS ha h
theorem tk4_ {T:Bool × List (List Nat × List Nat)} (i:Nat) (N:Tmp) {oi:Oper} {v:Value} {fuel:Nat} {l:Array Bool} {a a':Act} {w:World} (l':Array Bool) {B:List Nat} (hT:rtab md ops=T) (hB:waitsOk T.2 B=true) (hS:S w) (h:wpAnyLast P md ops Q S ds fuel l' a' w) (hi:ops[i]? = some oi:=by exact rfl) (hN:oi.dst=some N:=by exact rfl) (hc:takeW T B ds l.toList l'.toList i=true:=by kernel_rfl) (hQ:∀ c a w,Q (.panic c) (a.put oi.dst v) w→Q (.panic c) a w:=by exact fun _ _ _ h=>h) (hw:Region.wanted oi (yielded ops a.tmps)=true:=by rfl) (hy:∀ w',S w'→(execOp a.eval oi).run P w' = .ok (.value v) w':=by (rintro w' ⟨s0,s1,s2,s3⟩);go_simp;(with_reducible rfl)) (ha:a.put (some N) v=a':=by (simp only [Act.put,sa_,s0_,ss_,i64_w,i32_w]);exact rfl):wpAnyLast P md ops Q S ds (fuel+1) l a w:=take_ l' hi hN (take_ofW hT hB hc) hQ (Or.inl ⟨hw,hy⟩) hS ha h
theorem tk8_ {T:Bool × List (List Nat × List Nat)} (i:Nat) (N:Tmp) {oi:Oper} {v:Value} {fuel:Nat} {l:Array Bool} {a a':Act} {w:World} (l':Array Bool) {B:List Nat} (hT:rtab md ops=T) (hB:waitsOk T.2 B=true) (hS:S w) (h:wpAnyLast P md ops Q S ds fuel l' a' w) (hi:ops[i]? = some oi:=by exact rfl) (hN:oi.dst=some N:=by exact rfl) (hc:takeW T B ds l.toList l'.toList i=true:=by kernel_rfl) (hQ:∀ c a w,Q (.panic c) (a.put oi.dst v) w→Q (.panic c) a w:=by exact fun _ _ _ h=>h) (hw:Region.wanted oi (yielded ops a.tmps)=true:=by rfl) (hy:∀ w',S w'→(execOp a.eval oi).run P w' = .ok (.value v) w':=by (rintro w' ⟨s0,s1,s2,s3,s4,s5,s6,s7⟩);go_simp;(with_reducible rfl)) (ha:a.put (some N) v=a':=by (simp only [Act.put,sa_,s0_,ss_,i64_w,i32_w]);exact rfl):wpAnyLast P md ops Q S ds (fuel+1) l a w:=take_ l' hi hN (take_ofW hT hB hc) hQ (Or.inl ⟨hw,hy⟩) hS ha h
theorem o1_ {T:Bool × List (List Nat × List Nat)} (i:Nat) (N:Tmp) {oi:Oper} {fuel:Nat} {l:Array Bool} {a:Act} {w:World} (l':Array Bool) (hT:rtab md ops=T) (h:∀ K:Act→World→Prop,Shut (∀ a' w',S w'→(S w'→wpAnyLast P md ops Q S ds fuel l' a' w')→K a' w')→if Region.wanted oi (yielded ops a.tmps)=true then Oper.wp P oi a w K Q else K (a.put (some N) undef) w) (hi:ops[i]? = some oi:=by exact rfl) (hN:oi.dst=some N:=by exact rfl) (hc:(readyT T.2 l.toList == [i] && l.toList.set i true == l'.toList)=true:=by kernel_rfl) (hd:i ∉ ds:=by decide):wpAnyLast P md ops Q S ds (fuel+1) l a w:=one_ l' hi hN (one_of hT hc) hd h
theorem o2_ {T:Bool × List (List Nat × List Nat)} (i j:Nat) (Ni Nj:Tmp) {oi oj:Oper} {fuel:Nat} {l:Array Bool} {a:Act} {w:World} (li lj:Array Bool) (hT:rtab md ops=T) (h1:∀ K:Act→World→Prop,Shut (∀ a' w',S w'→(S w'→wpAnyLast P md ops Q S ds fuel li a' w')→K a' w')→if Region.wanted oi (yielded ops a.tmps)=true then Oper.wp P oi a w K Q else K (a.put (some Ni) undef) w) (h2:∀ K:Act→World→Prop,Shut (∀ a' w',S w'→(S w'→wpAnyLast P md ops Q S ds fuel lj a' w')→K a' w')→if Region.wanted oj (yielded ops a.tmps)=true then Oper.wp P oj a w K Q else K (a.put (some Nj) undef) w) (hi:ops[i]? = some oi:=by exact rfl) (hj:ops[j]? = some oj:=by exact rfl) (hNi:oi.dst=some Ni:=by exact rfl) (hNj:oj.dst=some Nj:=by exact rfl) (hc:(readyT T.2 l.toList == [i,j] && l.toList.set i true == li.toList && l.toList.set j true == lj.toList)=true:=by kernel_rfl) (hdi:i ∉ ds:=by decide) (hdj:j ∉ ds:=by decide):wpAnyLast P md ops Q S ds (fuel+1) l a w:=two_ li lj hi hj hNi hNj (two_of hT hc) hdi hdj h1 h2
theorem nm_ (N:Tmp) {fuel:Nat} {l:Array Bool} {a a':Act} {v:Value} {w:World} (h:wpAnyLast P md ops Q S ds fuel l a' w) (ha:Act.put a (some N) v=a':=by simp only [Act.put,sa_,s0_,ss_,i64_w,i32_w];rfl):wpAnyLast P md ops Q S ds fuel l (Act.put a (some N) v) w:=norm_ ha h
end
section
variable {P:Program} {ops:Array Oper} {rest:List Oper} {o:Oper} {a:Act} {Q:Exit→Act→World→Prop} {W:World}
theorem gd_ (N:Tmp) (h:wpList P ops Q (o :: rest) a W) (hN:o.dst=some N:=by with_reducible rfl):wpList P ops Q (o :: rest) a W:=h
theorem gc_ (f:FuncId) {ars:Array Operand} {ts:Array TypeId} (h:wpList P ops Q (o :: rest) a W) (ho:o.op = .call { callee:=.value (.func f),args:=ars,argTypes:=ts }:=by with_reducible rfl):wpList P ops Q (o :: rest) a W:=h
theorem be_ (N:Tmp) (cs:Array Value) (t:TypeId) (h:∀ g,g=W.heap.size→∀ w1,w1.heap[g]? = some (.cells cs t (0,0))→Below W.heap.size W w1→wpList P ops Q rest (a.put o.dst (.pointer (some ⟨g,0,none⟩))) w1) (hd:o.dst=some N:=by rfl) (hgd:o.guard=none:=by rfl) (hrun:(execOp a.eval o).run P W = .ok (.value (.pointer (some ⟨W.heap.size,0,none⟩))) (W.alloc (.cells cs t (0,0))):=by first | (go_simp;done) | (go_simp;rfl)):wpList P ops Q (o :: rest) a W:=box_event hgd hd hrun h
theorem bs_ {Kc:Act→World→Prop} (N:Tmp) (cs:Array Value) (t:TypeId) (h:∀ g,g=W.heap.size→∀ w1,w1.heap[g]? = some (.cells cs t (0,0))→Below W.heap.size W w1→Kc (a.put o.dst (.pointer (some ⟨g,0,none⟩))) w1) (hd:o.dst=some N:=by rfl) (hw:Region.wanted o (yielded ops a.tmps)=true:=by rfl) (hrun:(execOp a.eval o).run P W = .ok (.value (.pointer (some ⟨W.heap.size,0,none⟩))) (W.alloc (.cells cs t (0,0))):=by first | (go_simp;done) | (go_simp;rfl)):if Region.wanted o (yielded ops a.tmps)=true then Oper.wp P o a W Kc Q else Kc (a.put o.dst undef) W:=box_step hw hd hrun h
theorem gl_ (N:Option Tmp) {f:FuncId} {fn:Func} {ars:Array Operand} {ts:Array TypeId} (hf:P.funcs[f]? = some fn) (args:Array Value) (h:Calls P f args W fun e w'=>∃ v,e = .returned v∧wpList P ops Q rest (a.put N v) w') (hd:o.dst=N:=by exact rfl) (hg:o.guard=none:=by exact rfl) (hname:(fn.name == "runtime.NumGoroutine")=false:=by kernel_rfl) (hb:fn.body.isSome=true:=by exact rfl) (hop:o.op = .call { callee:=.value (.func f),args:=ars,argTypes:=ts }:=by exact rfl) (hargs:ars.map a.eval=args:=by (try simp only [List.map_toArray,List.map_cons,List.map_nil]);first | done | rfl | (simp only [List.length_drop,List.length_take];rfl)):wpList P ops Q (o :: rest) a W:=goesL_ N hd hg hf hname hb args hop hargs h
theorem gs_ {N:Option Tmp} {K:Act→World→Prop} {f:FuncId} {fn:Func} {ars:Array Operand} {ts:Array TypeId} (hf:P.funcs[f]? = some fn) (args:Array Value) (h:Calls P f args W fun e w'=>∃ v,e = .returned v∧K (a.put N v) w') (hname:(fn.name == "runtime.NumGoroutine")=false:=by kernel_rfl) (hb:fn.body.isSome=true:=by exact rfl) (hw:Region.wanted o (yielded ops a.tmps)=true:=by rfl) (hN:o.dst=N:=by exact rfl) (hop:o.op = .call { callee:=.value (.func f),args:=ars,argTypes:=ts }:=by exact rfl) (hargs:ars.map a.eval=args:=by (try simp only [List.map_toArray,List.map_cons,List.map_nil]);first | done | rfl | (simp only [List.length_drop,List.length_take];rfl)):if Region.wanted o (yielded ops a.tmps)=true then Oper.wp P o a W K Q else K (a.put N undef) W:=goes_ hf hname hb args hw hN hop hargs h
end
theorem cc2_ {w:World} {g:Nat} {t:TypeId} {v0 v1:Value} (h:w.heap[g]? = some (.cells #[v0,v1] t (0,0))):w.cell? ⟨g,0,none⟩=some v0∧w.cell? ⟨g,1,none⟩=some v1:=⟨blk_cell h 0,blk_cell h 1⟩
theorem cj2_ {p:Prop} {w:World} {g:Nat} {t:TypeId} {v0 v1:Value} (h:w.heap[g]? = some (.cells #[v0,v1] t (0,0))) (r:p):w.cell? ⟨g,0,none⟩=some v0∧w.cell? ⟨g,1,none⟩=some v1∧p:=⟨blk_cell h 0,blk_cell h 1,r⟩
theorem blkB_ {W0 W W':World} {g:Nat} {o:Obj} (h:W0.heap[g]? = some o) (hb:Below W.heap.size W W') (f:W0.heap[g]? = some o→W.heap[g]? = some o:=by intro h_;(with_reducible repeat (first | refine blk_drewN ?_ _ | refine blk_drew ?_ | refine blk_alloc ?_ _));exact h_):W'.heap[g]? = some o:=blk_below (f h) hb
theorem neL_ {W0 W:World} {g b:Nat} {o:Obj} (h:W0.heap[b]? = some o) (hg:g=W.heap.size) (f:W0.heap[b]? = some o→W.heap[b]? = some o:=by intro h_;(with_reducible repeat (first | refine blk_drewN ?_ _ | refine blk_drew ?_ | refine blk_alloc ?_ _));exact h_):b≠g:=by rw [hg];exact Nat.ne_of_lt (blk_lt (f h))
theorem neG_ {W0 W:World} {g b:Nat} {o:Obj} (h:W0.heap[b]? = some o) (hg:g=W.heap.size) (f:W0.heap[b]? = some o→W.heap[b]? = some o:=by intro h_;(with_reducible repeat (first | refine blk_drewN ?_ _ | refine blk_drew ?_ | refine blk_alloc ?_ _));exact h_):g≠b:=by rw [hg];exact Nat.ne_of_gt (blk_lt (f h))
theorem cz1_ {w:World} {g:Nat} {t:TypeId} {v0:Value} (h:w.heap[g]? = some (.cells #[v0] t (0,0))):w.cell? ⟨g,0,none⟩=some v0∧w.frozen? ⟨g,0,none⟩=false:=⟨blk_cell h 0,blk_frozen h 0⟩
theorem cz2_ {w:World} {g:Nat} {t:TypeId} {v0 v1:Value} (h:w.heap[g]? = some (.cells #[v0,v1] t (0,0))):w.cell? ⟨g,0,none⟩=some v0∧w.cell? ⟨g,1,none⟩=some v1∧w.frozen? ⟨g,0,none⟩=false∧w.frozen? ⟨g,1,none⟩=false:=⟨blk_cell h 0,blk_cell h 1,blk_frozen h 0,blk_frozen h 1⟩
theorem put2_ {w:World} {g:Nat} {t:TypeId} {v0 v1 z0 z1:Value} (h:w.heap[g]? = some (.cells #[z0,z1] t (0,0))):((w.setCell ⟨g,0,none⟩ v0).setCell ⟨g,1,none⟩ v1).heap[g]? = some (.cells #[v0,v1] t (0,0)):=(blk_put (cs':=#[v0,v1]) (blk_put (cs':=#[v0,z1]) h 0 v0 rfl) 1 v1 rfl)
theorem rf2_ {α:Type} {d:Kd α} {e:TypeId} {w:World} {base g:Nat} {ok:Nat→Prop} {v:Value} {xs:List α} {v0 v1:Value} (h:d.R e w base ok v xs) (f:∀ k,ok k→k≠g):d.R e ((w.setCell ⟨g,0,none⟩ v0).setCell ⟨g,1,none⟩ v1) base ok v xs:=(Kd.R_far (p:=⟨g,1,none⟩) (Kd.R_far (p:=⟨g,0,none⟩) h f v0) f v1)
theorem as2_ {p p0 p1:Prop} (hp0:p0) (hp1:p1) (h:Aside0 p0→Aside0 p1→p):p:=h ⟨hp0⟩ ⟨hp1⟩
theorem as3_ {p p0 p1 p2:Prop} (hp0:p0) (hp1:p1) (hp2:p2) (h:Aside0 p0→Aside0 p1→Aside0 p2→p):p:=h ⟨hp0⟩ ⟨hp1⟩ ⟨hp2⟩
theorem as4_ {p p0 p1 p2 p3:Prop} (hp0:p0) (hp1:p1) (hp2:p2) (hp3:p3) (h:Aside0 p0→Aside0 p1→Aside0 p2→Aside0 p3→p):p:=h ⟨hp0⟩ ⟨hp1⟩ ⟨hp2⟩ ⟨hp3⟩
theorem as5_ {p p0 p1 p2 p3 p4:Prop} (hp0:p0) (hp1:p1) (hp2:p2) (hp3:p3) (hp4:p4) (h:Aside0 p0→Aside0 p1→Aside0 p2→Aside0 p3→Aside0 p4→p):p:=h ⟨hp0⟩ ⟨hp1⟩ ⟨hp2⟩ ⟨hp3⟩ ⟨hp4⟩
theorem as6_ {p p0 p1 p2 p3 p4 p5:Prop} (hp0:p0) (hp1:p1) (hp2:p2) (hp3:p3) (hp4:p4) (hp5:p5) (h:Aside0 p0→Aside0 p1→Aside0 p2→Aside0 p3→Aside0 p4→Aside0 p5→p):p:=h ⟨hp0⟩ ⟨hp1⟩ ⟨hp2⟩ ⟨hp3⟩ ⟨hp4⟩ ⟨hp5⟩
theorem as7_ {p p0 p1 p2 p3 p4 p5 p6:Prop} (hp0:p0) (hp1:p1) (hp2:p2) (hp3:p3) (hp4:p4) (hp5:p5) (hp6:p6) (h:Aside0 p0→Aside0 p1→Aside0 p2→Aside0 p3→Aside0 p4→Aside0 p5→Aside0 p6→p):p:=h ⟨hp0⟩ ⟨hp1⟩ ⟨hp2⟩ ⟨hp3⟩ ⟨hp4⟩ ⟨hp5⟩ ⟨hp6⟩
theorem as8_ {p p0 p1 p2 p3 p4 p5 p6 p7:Prop} (hp0:p0) (hp1:p1) (hp2:p2) (hp3:p3) (hp4:p4) (hp5:p5) (hp6:p6) (hp7:p7) (h:Aside0 p0→Aside0 p1→Aside0 p2→Aside0 p3→Aside0 p4→Aside0 p5→Aside0 p6→Aside0 p7→p):p:=h ⟨hp0⟩ ⟨hp1⟩ ⟨hp2⟩ ⟨hp3⟩ ⟨hp4⟩ ⟨hp5⟩ ⟨hp6⟩ ⟨hp7⟩
theorem as9_ {p p0 p1 p2 p3 p4 p5 p6 p7 p8:Prop} (hp0:p0) (hp1:p1) (hp2:p2) (hp3:p3) (hp4:p4) (hp5:p5) (hp6:p6) (hp7:p7) (hp8:p8) (h:Aside0 p0→Aside0 p1→Aside0 p2→Aside0 p3→Aside0 p4→Aside0 p5→Aside0 p6→Aside0 p7→Aside0 p8→p):p:=h ⟨hp0⟩ ⟨hp1⟩ ⟨hp2⟩ ⟨hp3⟩ ⟨hp4⟩ ⟨hp5⟩ ⟨hp6⟩ ⟨hp7⟩ ⟨hp8⟩
theorem as10_ {p p0 p1 p2 p3 p4 p5 p6 p7 p8 p9:Prop} (hp0:p0) (hp1:p1) (hp2:p2) (hp3:p3) (hp4:p4) (hp5:p5) (hp6:p6) (hp7:p7) (hp8:p8) (hp9:p9) (h:Aside0 p0→Aside0 p1→Aside0 p2→Aside0 p3→Aside0 p4→Aside0 p5→Aside0 p6→Aside0 p7→Aside0 p8→Aside0 p9→p):p:=h ⟨hp0⟩ ⟨hp1⟩ ⟨hp2⟩ ⟨hp3⟩ ⟨hp4⟩ ⟨hp5⟩ ⟨hp6⟩ ⟨hp7⟩ ⟨hp8⟩ ⟨hp9⟩
theorem as11_ {p p0 p1 p2 p3 p4 p5 p6 p7 p8 p9 p10:Prop} (hp0:p0) (hp1:p1) (hp2:p2) (hp3:p3) (hp4:p4) (hp5:p5) (hp6:p6) (hp7:p7) (hp8:p8) (hp9:p9) (hp10:p10) (h:Aside0 p0→Aside0 p1→Aside0 p2→Aside0 p3→Aside0 p4→Aside0 p5→Aside0 p6→Aside0 p7→Aside0 p8→Aside0 p9→Aside0 p10→p):p:=h ⟨hp0⟩ ⟨hp1⟩ ⟨hp2⟩ ⟨hp3⟩ ⟨hp4⟩ ⟨hp5⟩ ⟨hp6⟩ ⟨hp7⟩ ⟨hp8⟩ ⟨hp9⟩ ⟨hp10⟩
theorem as12_ {p p0 p1 p2 p3 p4 p5 p6 p7 p8 p9 p10 p11:Prop} (hp0:p0) (hp1:p1) (hp2:p2) (hp3:p3) (hp4:p4) (hp5:p5) (hp6:p6) (hp7:p7) (hp8:p8) (hp9:p9) (hp10:p10) (hp11:p11) (h:Aside0 p0→Aside0 p1→Aside0 p2→Aside0 p3→Aside0 p4→Aside0 p5→Aside0 p6→Aside0 p7→Aside0 p8→Aside0 p9→Aside0 p10→Aside0 p11→p):p:=h ⟨hp0⟩ ⟨hp1⟩ ⟨hp2⟩ ⟨hp3⟩ ⟨hp4⟩ ⟨hp5⟩ ⟨hp6⟩ ⟨hp7⟩ ⟨hp8⟩ ⟨hp9⟩ ⟨hp10⟩ ⟨hp11⟩
theorem as13_ {p p0 p1 p2 p3 p4 p5 p6 p7 p8 p9 p10 p11 p12:Prop} (hp0:p0) (hp1:p1) (hp2:p2) (hp3:p3) (hp4:p4) (hp5:p5) (hp6:p6) (hp7:p7) (hp8:p8) (hp9:p9) (hp10:p10) (hp11:p11) (hp12:p12) (h:Aside0 p0→Aside0 p1→Aside0 p2→Aside0 p3→Aside0 p4→Aside0 p5→Aside0 p6→Aside0 p7→Aside0 p8→Aside0 p9→Aside0 p10→Aside0 p11→Aside0 p12→p):p:=h ⟨hp0⟩ ⟨hp1⟩ ⟨hp2⟩ ⟨hp3⟩ ⟨hp4⟩ ⟨hp5⟩ ⟨hp6⟩ ⟨hp7⟩ ⟨hp8⟩ ⟨hp9⟩ ⟨hp10⟩ ⟨hp11⟩ ⟨hp12⟩
theorem as14_ {p p0 p1 p2 p3 p4 p5 p6 p7 p8 p9 p10 p11 p12 p13:Prop} (hp0:p0) (hp1:p1) (hp2:p2) (hp3:p3) (hp4:p4) (hp5:p5) (hp6:p6) (hp7:p7) (hp8:p8) (hp9:p9) (hp10:p10) (hp11:p11) (hp12:p12) (hp13:p13) (h:Aside0 p0→Aside0 p1→Aside0 p2→Aside0 p3→Aside0 p4→Aside0 p5→Aside0 p6→Aside0 p7→Aside0 p8→Aside0 p9→Aside0 p10→Aside0 p11→Aside0 p12→Aside0 p13→p):p:=h ⟨hp0⟩ ⟨hp1⟩ ⟨hp2⟩ ⟨hp3⟩ ⟨hp4⟩ ⟨hp5⟩ ⟨hp6⟩ ⟨hp7⟩ ⟨hp8⟩ ⟨hp9⟩ ⟨hp10⟩ ⟨hp11⟩ ⟨hp12⟩ ⟨hp13⟩
theorem as18_ {p p0 p1 p2 p3 p4 p5 p6 p7 p8 p9 p10 p11 p12 p13 p14 p15 p16 p17:Prop} (hp0:p0) (hp1:p1) (hp2:p2) (hp3:p3) (hp4:p4) (hp5:p5) (hp6:p6) (hp7:p7) (hp8:p8) (hp9:p9) (hp10:p10) (hp11:p11) (hp12:p12) (hp13:p13) (hp14:p14) (hp15:p15) (hp16:p16) (hp17:p17) (h:Aside0 p0→Aside0 p1→Aside0 p2→Aside0 p3→Aside0 p4→Aside0 p5→Aside0 p6→Aside0 p7→Aside0 p8→Aside0 p9→Aside0 p10→Aside0 p11→Aside0 p12→Aside0 p13→Aside0 p14→Aside0 p15→Aside0 p16→Aside0 p17→p):p:=h ⟨hp0⟩ ⟨hp1⟩ ⟨hp2⟩ ⟨hp3⟩ ⟨hp4⟩ ⟨hp5⟩ ⟨hp6⟩ ⟨hp7⟩ ⟨hp8⟩ ⟨hp9⟩ ⟨hp10⟩ ⟨hp11⟩ ⟨hp12⟩ ⟨hp13⟩ ⟨hp14⟩ ⟨hp15⟩ ⟨hp16⟩ ⟨hp17⟩
theorem z0_ {p:Prop} (f:p:=by first | (with_reducible assumption) | assumption):p:=f
theorem z1_ {a0 p:Prop} (h0:a0) (f:a0→p:=by intro h0_;(with_reducible repeat (first | apply Kd.R_alloc | apply Kd.R_drewN | apply Kd.R_drew));exact h0_):p:=f h0
theorem z2_ {p:Prop} (f:p:=by first | rfl | (simp;done) | (simp [*];done) | (simp [bne];done)):p:=f
theorem z3_ {a0 p:Prop} (h0:a0) (f:a0→p:=by intro h0_;(with_reducible repeat (first | refine blk_drewN ?_ _ | refine blk_drew ?_ | refine blk_alloc ?_ _));exact h0_):p:=f h0
theorem z4_ {a0 p:Prop} (h0:a0) (f:a0→p:=by intro h0_;repeat (first | (with_reducible first | exact h0_ | apply below_alloc | apply pw_below_drewN | apply below_drew1) | exact h0_)):p:=f h0
theorem z5_ {a0 a1 a2 p:Prop} (h0:a0) (h1:a1) (h2:a2) (f:a0→a1→a2→p:=by intro h0_ h1_ h2_;repeat (first | (with_reducible first | exact h0_ | apply below_alloc | apply pw_below_drewN | apply below_drew1 | refine below_set ?_ h1_ | refine below_set ?_ h2_) | exact h0_)):p:=f h0 h1 h2
theorem z6_ {p:Prop} (f:p:=by repeat (first | exact Drawn0.refl _ | apply Drawn0.step)):p:=f
theorem z7_ {a0 a1 p:Prop} (h0:a0) (h1:a1) (f:a0→a1→p:=by intro h0_ h1_;repeat (first | (with_reducible first | exact h0_ | apply below_alloc | apply pw_below_drewN | apply below_drew1 | refine below_set ?_ h1_) | exact h0_)):p:=f h0 h1
theorem z8_ {a0 p:Prop} (h0:a0) (f:a0→p:=by intro h0_;rw [hg];exact (below_size (by repeat (first | (with_reducible first | exact h0_ | apply below_alloc | apply pw_below_drewN | apply below_drew1) | exact h0_)))):p:=f h0
theorem z9_ {a0 p:Prop} (h0:a0) (f:a0→p:=by intro h0_;repeat (first | (with_reducible first | exact h0_ | apply Kept.alloc | apply Kept.drewN | apply Kept.drew) | exact h0_)):p:=f h0
theorem z10_ {p:Prop} (f:p:=by first | rfl | (simp [errW_none,errW_some] <;> rfl) | (simp [*,errW_none,errW_some] <;> rfl)):p:=f
theorem z11_ {a0 a1 p:Prop} (h0:a0) (h1:a1) (f:a0→a1→p:=by intro h0_ h1_;rw [hg];exact (below_size (by repeat (first | (with_reducible first | exact h0_ | apply below_alloc | apply pw_below_drewN | apply below_drew1 | refine below_set ?_ h1_) | exact h0_)))):p:=f h0 h1
theorem z12_ {a0 a1 a2 a3 p:Prop} (h0:a0) (h1:a1) (h2:a2) (h3:a3) (f:a0→a1→a2→a3→p:=by intro h0_ h1_ h2_ h3_;repeat (first | (with_reducible first | exact h0_ | apply below_alloc | apply pw_below_drewN | apply below_drew1 | refine below_set ?_ h1_ | refine below_set ?_ h2_ | refine below_set ?_ h3_) | exact h0_)):p:=f h0 h1 h2 h3
theorem z13_ {a0 a1 p:Prop} (h0:a0) (h1:a1) (f:a0→a1→p:=by intro h0_ h1_;have:=h0_;have:=h1_;omega):p:=f h0 h1
theorem z14_ {a0 a1 p:Prop} (h0:a0) (h1:a1) (f:a0→a1→p:=by intro h0_ h1_;repeat (first | (with_reducible first | exact h0_ | apply below_alloc | apply pw_below_drewN | apply below_drew1 | refine below_set ?_ (IsS3.ge h1_)) | exact h0_)):p:=f h0 h1
theorem z15_ {a0 a1 a2 a3 a4 p:Prop} (h0:a0) (h1:a1) (h2:a2) (h3:a3) (h4:a4) (f:a0→a1→a2→a3→a4→p:=by intro h0_ h1_ h2_ h3_ h4_;repeat (first | (with_reducible first | exact h0_ | apply below_alloc | apply pw_below_drewN | apply below_drew1 | refine below_set ?_ h1_ | refine below_set ?_ h2_ | refine below_set ?_ h3_ | refine below_set ?_ h4_) | exact h0_)):p:=f h0 h1 h2 h3 h4
theorem z16_ {a0 a1 p:Prop} (h0:a0) (h1:a1) (f:a0→a1→p:=by intro h0_ h1_;(with_reducible repeat (first | apply Kd.R_alloc | apply Kd.R_drewN | apply Kd.R_drew));exact (Kd.R_mono (rf2_ (Kd.R_types h0_ h1_ (by decide)) (fun _ hk=>hk.2)) (fun _ h_=>h_.1))):p:=f h0 h1
theorem z17_ {a0 p:Prop} (h0:a0) (f:a0→p:=by intro h0_;repeat (first | (with_reducible first | exact h0_ | apply KeepBut.set_ | apply keep_drewN | apply keep_drew | apply keep_alloc) | exact h0_)):p:=f h0
theorem z18_ {a0 a1 a2 p:Prop} (h0:a0) (h1:a1) (h2:a2) (f:a0→a1→a2→p:=by intro h0_ h1_ h2_;rw [hg];exact (below_size (by repeat (first | (with_reducible first | exact h0_ | apply below_alloc | apply pw_below_drewN | apply below_drew1 | refine below_set ?_ h1_ | refine below_set ?_ h2_) | exact h0_)))):p:=f h0 h1 h2
theorem z19_ {a0 p:Prop} (h0:a0) (f:a0→p:=by intro h0_;(try simp only [hl0_1]);(with_reducible repeat (first | apply Kd.R_alloc | apply Kd.R_drewN | apply Kd.R_drew));exact h0_):p:=f h0
theorem z20_ {a0 a1 p:Prop} (h0:a0) (h1:a1) (f:a0→a1→p:=by intro h0_ h1_;(with_reducible repeat (first | refine blk_drewN ?_ _ | refine blk_drew ?_ | refine blk_alloc ?_ _));refine blk_far ?_ h0_ _;(with_reducible repeat (first | refine blk_drewN ?_ _ | refine blk_drew ?_ | refine blk_alloc ?_ _));refine blk_far ?_ h0_ _;(with_reducible repeat (first | refine blk_drewN ?_ _ | refine blk_drew ?_ | refine blk_alloc ?_ _));exact h1_):p:=f h0 h1
theorem z21_ {a0 p:Prop} (h0:a0) (f:a0→p:=by intro h0_;rw [← hq_];exact (by (with_reducible repeat (first | refine blk_drewN ?_ _ | refine blk_drew ?_ | refine blk_alloc ?_ _));exact h0_)):p:=f h0
theorem z22_ {a0 p:Prop} (h0:a0) (f:a0→p:=by intro h0_;rw [← hq_];exact (by (with_reducible repeat (first | apply Kd.R_alloc | apply Kd.R_drewN | apply Kd.R_drew));exact h0_)):p:=f h0
theorem z23_ {a0 p:Prop} (h0:a0) (f:a0→p:=by intro h0_;repeat (first | (with_reducible first | exact h0_ | apply IsS3.alloc | apply IsS3.drewN | apply IsS3.drew | apply IsS3.set_0) | exact h0_)):p:=f h0
theorem z24_ {a0 a1 a2 p:Prop} (h0:a0) (h1:a1) (h2:a2) (f:a0→a1→a2→p:=by intro h0_ h1_ h2_;have:=h0_;have:=h1_;have:=h2_;first | omega | exact Nat.le_refl _):p:=f h0 h1 h2
theorem z25_ {a0 p:Prop} (h0:a0) (f:a0→p:=by intro h0_;(try simp only [hl0_1]);(try simp only [hl0_5]);(with_reducible repeat (first | apply Kd.R_alloc | apply Kd.R_drewN | apply Kd.R_drew));exact h0_):p:=f h0
theorem z26_ {a0 p:Prop} (h0:a0) (f:a0→p:=by intro h0_;have:=h0_;first | omega | exact Nat.le_refl _):p:=f h0
theorem z27_ {a0 p:Prop} (h0:a0) (f:a0→p:=by intro h0_;(with_reducible repeat (first | refine blk_drewN ?_ _ | refine blk_drew ?_ | refine blk_alloc ?_ _));apply put2_;(with_reducible repeat (first | refine blk_drewN ?_ _ | refine blk_drew ?_ | refine blk_alloc ?_ _));exact h0_):p:=f h0
theorem z28_ {a0 a1 p:Prop} (h0:a0) (h1:a1) (f:a0→a1→p:=by intro h0_ h1_;(with_reducible repeat (first | refine blk_drewN ?_ _ | refine blk_drew ?_ | refine blk_alloc ?_ _));refine blk_far ?_ h0_ _;(with_reducible repeat (first | refine blk_drewN ?_ _ | refine blk_drew ?_ | refine blk_alloc ?_ _));exact h1_):p:=f h0 h1
theorem z29_ {a0 a1 p:Prop} (h0:a0) (h1:a1) (f:a0→a1→p:=by intro h0_ h1_;repeat (first | (with_reducible first | exact h0_ | apply Kept.alloc | apply Kept.drewN | apply Kept.drew | refine Kept.setCell ?_ h1_ _ | refine Kept.setCell ?_ h1_ _ | refine Kept.setCell ?_ h1_ _ | refine Kept.setCell ?_ h1_ _) | exact h0_)):p:=f h0 h1
theorem z30_ {a0 a1 p:Prop} (h0:a0) (h1:a1) (f:a0→a1→p:=by intro h0_ h1_;repeat (first | (with_reducible first | exact h0_ | apply below_alloc | apply pw_below_drewN | apply below_drew1 | refine below_set ?_ h1_ | refine below_set ?_ h1_ | refine below_set ?_ h1_ | refine below_set ?_ h1_) | exact h0_)):p:=f h0 h1
theorem z31_ {p:Prop} (f:p:=by (try simp only [List.map_toArray,List.map_cons,List.map_nil]);first | done | rfl | (simp only [List.length_drop,List.length_take];rfl)):p:=f
theorem z32_ {a0 p:Prop} (h0:a0) (f:a0→p:=by intro h0_;repeat (first | (with_reducible exact h0_) | (with_reducible refine Kd.C_alloc ?_ _) | (with_reducible refine Kd.C_drewN ?_ _) | (with_reducible refine Kd.C_drew ?_) | exact h0_)):p:=f h0
theorem z33_ {a0 p:Prop} (h0:a0) (f:a0→p:=by intro h0_;(with_reducible repeat (first | apply Kd.R_alloc | apply Kd.R_drewN | apply Kd.R_drew));exact Kd.R_mono h0_ (fun _ hk=>⟨hk.1.2,hk.2⟩)):p:=f h0
theorem z34_ {a0 p:Prop} (h0:a0) (f:a0→p:=by intro h0_;have h_:(x5_1:Int)<((x0_1.length:Int):Int):=of_decide_eq_true (by first | (with_reducible assumption) | assumption);first | exact h_ | (have e_:=(Kd.R_reads' h0_).1;omega) | simpa using h_):p:=f h0
theorem z35_ {a0 p:Prop} (h0:a0) (f:a0→p:=by intro h0_;have h_:(x13_3:Int)<((y195.length:Int):Int):=of_decide_eq_true (by first | (with_reducible assumption) | assumption);first | exact h_ | (have e_:=(Kd.R_reads' h0_).1;omega) | simpa using h_):p:=f h0
theorem z36_ {a0 p:Prop} (h0:a0) (f:a0→p:=by intro h0_;have h_:(x13_8:Int)<((x0_5.length:Int):Int):=of_decide_eq_true (by first | (with_reducible assumption) | assumption);first | exact h_ | (have e_:=(Kd.R_reads' h0_).1;omega) | simpa using h_):p:=f h0
theorem z37_ {p:Prop} (f:p:=by first | exact Kd.R_nil _ _ _ _ _ | exact Kd.N_nil _ _ _ _ _ | exact Kd.V_nil _ _ _ _ _ | exact Kd.Q_nil _ _ _ _ _ | exact Kd.S_nil _ _ _ _ _):p:=f
theorem z38_ {a0 p:Prop} (h0:a0) (f:a0→p:=by intro h0_;(with_reducible repeat (first | apply Kd.R_alloc | apply Kd.R_drewN | apply Kd.R_drew));exact Kd.R_mono h0_ (fun _ hk=>⟨hk.2,hk.1⟩)):p:=f h0
theorem z39_ {a0 p:Prop} (h0:a0) (f:a0→p:=by intro h0_;(with_reducible repeat (first | apply Kd.R_alloc | apply Kd.R_drewN | apply Kd.R_drew));exact Kd.R_mono h0_ (fun _ hk=>hk.2.2.1)):p:=f h0
theorem z40_ {a0 a1 p:Prop} (h0:a0) (h1:a1) (f:a0→a1→p:=by intro h0_ h1_;(with_reducible repeat (first | apply Kd.R_alloc | apply Kd.R_drewN | apply Kd.R_drew));exact Kd.R_mono (rf2_ (Kd.R_types h0_ h1_ (by decide)) (fun _ hk=>hk.2)) (fun _ hk=>trivial)):p:=f h0 h1
theorem z41_ {p:Prop} (f:p:=by have:(0:Int)<(a0.size:Int):=of_decide_eq_true (by first | (with_reducible assumption) | assumption);omega):p:=f
theorem z42_ {a0 p:Prop} (h0:a0) (f:a0→p:=by intro h0_;(with_reducible repeat (first | refine blk_drewN ?_ _ | refine blk_drew ?_ | refine blk_alloc ?_ _));refine blk_put (cs:=#[.int .i64 0]) ?_ 0 _ rfl;(with_reducible repeat (first | refine blk_drewN ?_ _ | refine blk_drew ?_ | refine blk_alloc ?_ _));exact h0_):p:=f h0
end Go.Proofs.YtelecnmflodkkaaDoor.P

namespace Go.Proofs.YtelecnmflodkkaaDoor.Open
open Go.RowKit Go.Proofs.YtelecnmflodkkaaDoorW.PrintWords

def Opens {α:Type} (P:Program) (t:TypeId) (d:Kd α) (wf:α→Prop):Prop :=
  ∀ {H:Type} {enc:TypeId × Value→H} {W:World} {base:Nat} {spare:Nat→Bool} {held:Bool} {fuel:Nat} {cs:List Value} {x:DataW H × List MemPlace},
    DataW.trod enc P W base spare held fuel t cs=some x→∃ a:α,d.K W a cs∧wf a
section
variable {P:Program} {t e:TypeId} {α β:Type} {d:Kd α} {d':Kd β} {wf:α→Prop} {wf':β→Prop}
theorem opens_int {k:IntKind} (ht:P.underlying t=some (.int k)):Opens P t (Kd.int k) (fun n=>(Lit.int k n).wf=true):=by
  intro H enc W base spare held fuel cs x h
  obtain ⟨n,rfl,_,hw⟩:=DataW.trod_int ht h
  exact ⟨n,rfl,hw⟩
theorem add_add_ (a:Addr) (i j:Nat):(a.add i).add j=a.add (i+j):=by
  by_cases hi:i=0 <;> by_cases hj:j=0 <;> simp [Addr.add,hi,hj,Nat.add_assoc]
theorem cells_get {W:World} {base n:Nat} {a:Addr} {c:List Value} (h:W.cells? base a n=some c):c.length=n∧∀ i u,c[i]? = some u→W.cell? (a.add i)=some u:=by
  unfold World.cells? at h
  split at h
  · have hl:c.length=n:=by simpa using mapM_some_length h
    refine ⟨hl,fun i u hu=>?_⟩
    have hi:i<n:=by rw [← hl];exact (List.getElem?_eq_some_iff.1 hu).1
    have:=mapM_some_get h i i (by simp [hi])
    rw [this,hu]
  · cases h
theorem opens_slice (ht:P.underlying t=some (.slice e)) (hs:P.cellsOf e=d.sz) (he:Opens P e d wf):Opens P t (Kd.slice e d) (fun l=>l.length≤maxLen∧∀ x ∈ l,wf x):=by
  intro H enc W base spare held fuel cs x h
  rcases DataW.trod_slice ht h with ⟨rfl,_⟩ | ⟨a,len,cap,elems,rest,n,_,rfl,rfl,hb,hl,hm,hlen,hel,_,_⟩
  · exact ⟨[],⟨none,0,rfl,Nat.le_refl _,Kd.C_nil _ _⟩,by simp [maxLen],by simp⟩
  have each:∀ i:Fin len,∃ y:α,∃ c:List Value,c.length=d.sz∧d.K W y c∧wf y∧∀ j u,c[j]? = some u→W.cell? (a.add (i.1*d.sz+j))=some u:=by
    intro i
    have h1:=hel i.1 i.2
    have h2:elems[i.1]? = some (elems[i.1]'(by rw [hlen];exact i.2)):=List.getElem?_eq_getElem _
    rw [h2,Option.bind_eq_some_iff] at h1
    obtain ⟨c,hc,hy⟩:=h1
    obtain ⟨y,hk,hw⟩:=he hy
    obtain ⟨_,hc2⟩:=cells_get hc
    refine ⟨y,c,d.K_len hk,hk,hw,fun j u hu=>?_⟩
    have:=hc2 j u hu
    rwa [add_add_,hs] at this
  have L:(List.ofFn fun i:Fin len=>(each i).choose).length=len:=List.length_ofFn
  have G:∀ j p,(List.ofFn fun i:Fin len=>(each i).choose)[j]? = some p→∃ h:j<len,p=(each ⟨j,h⟩).choose:=by
    intro j p hp
    have hj:j<len:=by rw [← L];exact (List.getElem?_eq_some_iff.1 hp).1
    refine ⟨hj,?_⟩
    rw [List.getElem?_ofFn] at hp
    simp only [hj,dite_true,Option.some.injEq] at hp
    exact hp.symm
  refine ⟨List.ofFn fun i:Fin len=>(each i).choose,⟨some a,cap,by rw [L],by rw [L];exact hl,rfl,by rw [L];exact Nat.le_trans hl hm,fun _=>⟨a,rfl,fun j p hp=>?_⟩⟩,by rw [L];exact Nat.le_trans hl hm,fun p hp=>?_⟩
  · obtain ⟨hj,rfl⟩:=G j p hp
    obtain ⟨c,h1,h2,_,h4⟩:=(each ⟨j,hj⟩).choose_spec
    exact ⟨c,h1,h2,h4⟩
  · obtain ⟨j,hj0⟩:=List.getElem?_of_mem hp
    obtain ⟨hj,rfl⟩:=G j p hj0
    exact (each ⟨j,hj⟩).choose_spec.choose_spec.2.2.1
/-- The fields from one on. -/
def OpensF {α:Type} (P:Program) (fs:List Field) (off:Nat) (d:Kd α) (wf:α→Prop):Prop :=
  ∀ {H:Type} {enc:TypeId × Value→H} {W:World} {base:Nat} {spare:Nat→Bool} {held:Bool} {n:Nat} {cs:List Value},
    (∀ (i:Nat) (f:Field),fs[i]? = some f→∃ y,DataW.trod enc P W base spare held n f.type ((cs.drop f.offset).take (P.cellsOf f.type))=some y)→cs.length=off+d.sz→∃ a:α,d.K W a (cs.drop off)∧wf a
theorem opensF_one {f:Field} {off:Nat} (ho:f.offset=off) (hs:P.cellsOf f.type=d.sz) (he:Opens P f.type d wf):OpensF P [f] off d wf:=by
  intro H enc W base spare held n cs h hl
  obtain ⟨y,hy⟩:=h 0 f rfl
  rw [ho,hs,List.take_of_length_le (by rw [List.length_drop];omega)] at hy
  exact he hy
theorem opensF_cons {f:Field} {fs:List Field} {off:Nat} (ho:f.offset=off) (hs:P.cellsOf f.type=d.sz) (he:Opens P f.type d wf) (hf:OpensF P fs (off+d.sz) d' wf') :
    OpensF P (f :: fs) off (Kd.pair d d') (fun x=>wf x.1∧wf' x.2):=by
  intro H enc W base spare held n cs h hl
  have hl':cs.length=off+(d.sz+d'.sz):=hl
  obtain ⟨y,hy⟩:=h 0 f rfl
  rw [ho,hs] at hy
  obtain ⟨a,ha,hw⟩:=he hy
  obtain ⟨b,hb,hw'⟩:=hf (cs:=cs) (fun i g hg=>h (i+1) g hg) (by omega)
  refine ⟨(a,b),⟨(cs.drop off).take d.sz,cs.drop (off+d.sz),?_,ha,hb⟩,hw,hw'⟩
  rw [← List.drop_drop,List.take_append_drop]
theorem opens_struct {fs:Array Field} (ht:P.underlying t=some (.struct fs)) (hc:P.cellsOf t=d.sz) (hf:OpensF P fs.toList 0 d wf):Opens P t d wf:=by
  intro H enc W base spare held fuel cs x h
  obtain ⟨xs,n,_,_,hl,hx,hall⟩:=DataW.trod_struct ht h
  have:=hf (H:=H) (enc:=enc) (W:=W) (base:=base) (spare:=spare) (held:=held) (n:=n) (cs:=cs) (fun i f hi=>by
    have h1:=hall i f (by simpa using hi)
    have hi2:i<xs.length:=by
      rw [hx]
      have:=(List.getElem?_eq_some_iff.1 hi).1
      simpa using this
    exact ⟨xs[i],by rw [h1];exact List.getElem?_eq_getElem hi2⟩) (by rw [hl,hc];omega)
  simpa using this
theorem opens_iso {f:β→α} {g:α→β} (hg:∀ y,f (g y)=y) (h:Opens P t d wf):Opens P t (Kd.iso d f) (fun x=>wf (f x)):=by
  intro H enc W base spare held fuel cs x hx
  obtain ⟨a,ha,hw⟩:=h hx
  exact ⟨g a,by show d.K W (f (g a)) cs;rw [hg];exact ha,by show wf (f (g a));rw [hg];exact hw⟩
end
end Go.Proofs.YtelecnmflodkkaaDoor.Open

namespace Go.Proofs.YtelecnmflodkkaaDoor.RO
open Go.RowKit Go.Proofs.YtelecnmflodkkaaDoor.Open Go.Proofs.YtelecnmflodkkaaDoor.P Go.Proofs.YtelecnmflodkkaaDoorW.PrintWords
set_option linter.unusedVariables false

def wfT116 (x:S116):Prop:=(Lit.int .i64 x.f0).wf=true∧(Lit.int .i64 x.f1).wf=true
theorem op_T116:Opens Tryd.prog 116 k116 wfT116:=opens_iso (f:=fun x:S116=>(x.f0,x.f1)) (g:=fun p_=>(⟨p_.1,p_.2⟩:S116)) (fun _=>rfl) (opens_struct Tryd.underlying116 (by kernel_rfl) (opensF_cons rfl (by kernel_rfl) (opens_int Tryd.underlying2) (opensF_one rfl (by kernel_rfl) (opens_int Tryd.underlying2))))
def wfT44 (x:S44):Prop:=(Lit.int .i64 x.f0).wf=true∧(x.f1.length≤maxLen∧∀ y_ ∈ x.f1,wfT116 y_)
theorem op_T44:Opens Tryd.prog 44 k44 wfT44:=opens_iso (f:=fun x:S44=>(x.f0,x.f1)) (g:=fun p_=>(⟨p_.1,p_.2⟩:S44)) (fun _=>rfl) (opens_struct Tryd.underlying44 (by kernel_rfl) (opensF_cons rfl (by kernel_rfl) (opens_int Tryd.underlying2) (opensF_one rfl (by kernel_rfl) (opens_slice Tryd.underlying42 (by kernel_rfl) op_T116))))
end Go.Proofs.YtelecnmflodkkaaDoor.RO

namespace Go.Proofs.YtelecnmflodkkaaDoor.P
open Go.RowKit Go.Proofs.YtelecnmflodkkaaDoorW.PrintWords Go.Proofs.YtelecnmflodkkaaDoorW.PrintLast Go.Proofs.YtelecnmflodkkaaDoorW.PrintMore
attribute [local go_sem] max2_int min2_int max_two min_two max_three min_three max_four min_four   -- for this text's walks alone
set_option linter.unusedVariables false
set_option linter.unusedSimpArgs false

/-! ### laws_eqToken: function 95 -/
def laws_eqToken.f (a0_0:Int) (a0_1:Int) (a1_0:Int) (a1_1:Int):Option (Bool):=if a0_0=a1_0 then (if a0_1=a1_1 then (some true) else (none)) else (none)
set_option maxHeartbeats 8000000 in
set_option maxRecDepth 100000 in
theorem laws_eqToken.calls (a0_0:Int) (a0_1:Int) (a1_0:Int) (a1_1:Int) (r:Bool) (w:World) (h:laws_eqToken.f a0_0 a0_1 a1_0 a1_1=some r) :
  Calls Tryd.prog 95 #[.agg #[.int .i64 a0_0,.int .i64 a0_1],.agg #[.int .i64 a1_0,.int .i64 a1_1]] w fun e w'=>e = .returned (.bool r)∧Below w.heap.size w w':=by
 have hu77:=Tryd.underlying77
 have HB:=Aside0.mk (Below.refl w.heap.size w)
 have H:(if a0_0=a1_0 then (if a0_1=a1_1 then (some true) else (none)) else (none))=some r:=h
 clear h
 by_cases c3:a0_0=a1_0
 ·rw [if_pos c3] at H
  have c3b0:(a0_0 == a1_0)=true:=beq_iff_eq.mpr c3
  have c3b1:(a0_0 != a1_0)=false:=bne_eq_false_iff_eq.mpr c3
  clear c3
  by_cases c4:a0_1=a1_1
  ·rw [if_pos c4] at H
   have c4b0:(a0_1 == a1_1)=true:=beq_iff_eq.mpr c4
   have c4b1:(a0_1 != a1_1)=false:=bne_eq_false_iff_eq.mpr c4
   clear c4
   obtain rfl:=Option.some.inj H
   go_enter Tryd.func95,Tryd.ntmps95
   go_wp2_with (first | ((with_reducible refine gd_ 2 ?_);refine be_ 2 #[.int .i64 a0_0,.int .i64 a0_1] 77 ?_;intro gb255 hg w5 hbox hb;refine as4_ (below_step (z4_ HB.out) hb) (hbox) ((z8_ HB.out:w.heap.size≤gb255)) ((z8_ HB.out:w.heap.size≤gb255)) ?_;clear HB;intro HB BK255 GW255 GE255;clear hb hbox hg) | ((with_reducible refine gd_ 3 ?_);refine be_ 3 #[.int .i64 a1_0,.int .i64 a1_1] 77 ?_;intro gb256 hg w6 hbox hb;refine as7_ (blkB_ BK255.out hb) (below_step (z7_ HB.out GE255.out) hb) (hbox) ((z11_ HB.out GE255.out:w.heap.size≤gb256)) ((z11_ HB.out GE255.out:w.heap.size≤gb256)) (neL_ BK255.out hg) (neG_ BK255.out hg) ?_;clear BK255 HB;intro BK255 HB BK256 GW256 GE256 NB255_256 NB256_255;clear hb hbox hg;have hnb7:=NB255_256.out;have hnc7:=NB256_255.out;have ⟨hcz8_0,hcz8_1,hfz8_0,hfz8_1⟩:=cz2_ BK255.out;have ⟨hcz9_0,hcz9_1,hfz9_0,hfz9_1⟩:=cz2_ BK256.out))
   go_ret
   exact ⟨z10_,z5_ HB.out GE255.out GE256.out⟩
  ·rw [if_neg c4] at H
   exact absurd H (by simp)
 ·rw [if_neg c3] at H
  exact absurd H (by simp)


/-! ### laws_eqTokenS: function 59 -/
def laws_eqTokenS.l0:Nat→List (S77)→List (S77)→Int→Option (Bool)
 | 0,_,_,_=>none
 | k+1,x0,x1,x5=>if x5<(x0.length:Int) then (if 0≤x5 then (if x5<(x1.length:Int) then ((laws_eqToken.f ((rd_T77 x0 x5).f0) ((rd_T77 x0 x5).f1) ((rd_T77 x1 x5).f0) ((rd_T77 x1 x5).f1)).bind fun t259=>(if t259=true then (laws_eqTokenS.l0 k x0 x1 (wrap64 (x5+1))) else (none))) else (none)) else (none)) else (some true)
def laws_eqTokenS.f (k:Nat) (l0:List (S77)) (l1:List (S77)):Option (Bool):=if (l0.length:Int)=(l1.length:Int) then (laws_eqTokenS.l0 k l0 l1 0) else (none)
theorem laws_eqTokenS.mono_l:∀ k,(∀ y0 y1 y2,LeO (laws_eqTokenS.l0 k y0 y1 y2) (laws_eqTokenS.l0 (k+1) y0 y1 y2))
 | 0=>fun _ _ _ r h=>by simp [laws_eqTokenS.l0] at h
 | k+1=>by
  have ih0:=laws_eqTokenS.mono_l k
  ·intro y0 y1 y2
   unfold laws_eqTokenS.l0
   repeat' first
   | (with_reducible exact ih0 _ _ _)
   | (with_reducible exact LeO.refl _)
   | (with_reducible exact LeO.none _)
   | (with_reducible refine LeO.ite ?_ ?_)
   | (with_reducible refine LeO.bind ?_ (fun _=>?_))
   | exact ih0 _ _ _
   | exact LeO.none _
   | refine LeO.ite ?_ ?_
   | refine LeO.bind ?_ (fun _=>?_)
theorem laws_eqTokenS.mono:∀ a0 a1 k,LeO (laws_eqTokenS.f k a0 a1) (laws_eqTokenS.f (k+1) a0 a1):=by
 intro a0 a1 k
 have ih0:=laws_eqTokenS.mono_l k
 unfold laws_eqTokenS.f
 repeat' first
   | (with_reducible exact ih0 _ _ _)
   | (with_reducible exact LeO.refl _)
   | (with_reducible exact LeO.none _)
   | (with_reducible refine LeO.ite ?_ ?_)
   | (with_reducible refine LeO.bind ?_ (fun _=>?_))
   | exact ih0 _ _ _
   | exact LeO.none _
   | refine LeO.ite ?_ ?_
   | refine LeO.bind ?_ (fun _=>?_)
def laws_eqTokenS.T6:Bool × List (List Nat × List Nat):=(true,[([],[]),([],[]),([0,1],[0,1]),([2],[2]),([],[]),([],[]),([4,5],[4,5]),([6],[6]),([3,7],[3,7]),([8],[8])])
def laws_eqTokenS.B6:List Nat:=[0,0,3,7,0,0,48,112,255,511]
theorem laws_eqTokenS.tab6:rtab .any (opsOf Tryd.f59 6)=laws_eqTokenS.T6:=by kernel_rfl
theorem laws_eqTokenS.bits6:waitsOk laws_eqTokenS.T6.2 laws_eqTokenS.B6=true:=by kernel_rfl
set_option maxHeartbeats 8000000 in
set_option maxRecDepth 100000 in
theorem laws_eqTokenS.calls (k:Nat) (A0:Option Addr) (c0:Nat) (l0:List (S77)) (A1:Option Addr) (c1:Nat) (l1:List (S77)) (r:Bool) (w:World) (hr0:Kd.C k77 w A0 l0.length l0) (hc0:l0.length≤c0) (hr1:Kd.C k77 w A1 l1.length l1) (hc1:l1.length≤c1) (h:laws_eqTokenS.f k l0 l1=some r) :
  Calls Tryd.prog 59 #[.slice A0 l0.length c0,.slice A1 l1.length c1] w fun e w'=>e = .returned (.bool r)∧Below w.heap.size w w':=by
 have hu77:=Tryd.underlying77
 have HR0:=Aside0.mk hr0
 have HC0:=Aside0.mk hc0
 clear hr0 hc0
 have HR1:=Aside0.mk hr1
 have HC1:=Aside0.mk hc1
 clear hr1 hc1
 have HB:=Aside0.mk (Below.refl w.heap.size w)
 have H:(if (l0.length:Int)=(l1.length:Int) then (laws_eqTokenS.l0 k l0 l1 0) else (none))=some r:=h
 clear h
 by_cases c3:(l0.length:Int)=(l1.length:Int)
 ·rw [if_pos c3] at H
  have c3b0:((l0.length:Int) == (l1.length:Int))=true:=beq_iff_eq.mpr c3
  have c3b1:((l0.length:Int) != (l1.length:Int))=false:=bne_eq_false_iff_eq.mpr c3
  have c3b2:(l0.length == l1.length)=true:=by first | simpa using c3 | (simp at c3 ⊢;omega)
  clear c3
  have H':=Aside0.mk H
  clear H
  go_enter Tryd.func59,Tryd.ntmps59
  go_wp2
  go_loopg [5] k (fun kq v5 w'=>∃ (x5_1:Int),v5 = .int .i64 x5_1∧Aside0 (laws_eqTokenS.l0 kq l0 l1 x5_1=some r)∧Aside0 (kq≤k)∧Aside0 (Below w.heap.size w w'))
  case atStart=>exact ⟨(0),(z2_),H',⟨Nat.le_refl _⟩,⟨z4_ HB.out⟩⟩
  case round =>
   clear H'
   try clear c1
   try clear p2
   try clear c3
   try clear c3b0
   try clear c3b1
   try clear c3b2
   obtain ⟨x5_1,rfl,HA,HK1,HB⟩:=hrel
   cases gk with
   | zero=>exact absurd HA.out (by simp [laws_eqTokenS.l0])
   | succ k1 =>
    have H:=HA.out
    clear HA
    simp only [laws_eqTokenS.l0] at H
    by_cases c4:x5_1<(l0.length:Int)
    ·rw [if_pos c4] at H
     have c4b0:decide (x5_1<(l0.length:Int))=true:=decide_eq_true c4
     clear c4
     by_cases c5:0≤x5_1
     ·rw [if_pos c5] at H
      have c5b0:decide (0≤x5_1)=true:=decide_eq_true c5
      clear c5
      by_cases c6:x5_1<(l1.length:Int)
      ·rw [if_pos c6] at H
       have c6b0:decide (x5_1<(l1.length:Int))=true:=decide_eq_true c6
       clear c6
       replace H:=Option.bind_eq_some_iff.mp H
       obtain ⟨t259,A70,H⟩:=H
       replace H:(if t259=true then (laws_eqTokenS.l0 k1 l0 l1 (wrap64 (x5_1+1))) else (none))=some r:=H
       have A7:=Aside0.mk A70
       clear A70
       by_cases c8:t259=true
       ·subst c8
        have H1:(laws_eqTokenS.l0 k1 l0 l1 (wrap64 (x5_1+1)))=some r:=by rw [if_pos rfl] at H;exact H
        clear H
        have H:=H1
        clear H1
        have H':=Aside0.mk H
        clear H
        try go_wp2
        have n0_:=Aside0.mk (below_drew1 HB.out)
        clear HB
        have HB:=n0_
        clear n0_
        have p257:0≤(x5_1:Int):=of_decide_eq_true (z0_)
        have q257:x5_1<(l0.length:Int):=of_decide_eq_true (z0_)
        obtain ⟨ad257,e257,hx257_0,hx257_1⟩:=at_T77 HR0.out x5_1 p257 q257
        have hw257_1:=hx257_1
        have hw257_0:=hx257_0
        cases e257
        replace hx257_0:=(HB.out.cell (World.block_lt_of_cell? w _ hx257_0)).trans hx257_0
        replace hx257_1:=(HB.out.cell (World.block_lt_of_cell? w _ hx257_1)).trans hx257_1
        replace p257:=eq_true p257
        replace q257:=eq_true q257
        have p258:0≤(x5_1:Int):=of_decide_eq_true (z0_)
        have q258:x5_1<(l1.length:Int):=of_decide_eq_true (z0_)
        obtain ⟨ad258,e258,hx258_0,hx258_1⟩:=at_T77 HR1.out x5_1 p258 q258
        have hw258_1:=hx258_1
        have hw258_0:=hx258_0
        cases e258
        replace hx258_0:=(HB.out.cell (World.block_lt_of_cell? w _ hx258_0)).trans hx258_0
        replace hx258_1:=(HB.out.cell (World.block_lt_of_cell? w _ hx258_1)).trans hx258_1
        replace p258:=eq_true p258
        replace q258:=eq_true q258
        refine start_ (n:=10) (S:=fun w'=>w'.cell? (ad257.add ((x5_1).toNat*2))=some (.int .i64 ((rd_T77 l0 x5_1).f0))∧w'.cell? ⟨(ad257.add ((x5_1).toNat*2)).block,(ad257.add ((x5_1).toNat*2)).off+1,none⟩=some (.int .i64 ((rd_T77 l0 x5_1).f1))∧w'.cell? (ad258.add ((x5_1).toNat*2))=some (.int .i64 ((rd_T77 l1 x5_1).f0))∧w'.cell? ⟨(ad258.add ((x5_1).toNat*2)).block,(ad258.add ((x5_1).toNat*2)).off+1,none⟩=some (.int .i64 ((rd_T77 l1 x5_1).f1))) (ds:=[]) #[O,O,O,O,O,O,O,O,O,O] (by kernel_rfl) rfl rfl ⟨((HB.out.cell (World.block_lt_of_cell? w _ hw257_0)).trans hw257_0),((HB.out.cell (World.block_lt_of_cell? w _ hw257_1)).trans hw257_1),((HB.out.cell (World.block_lt_of_cell? w _ hw258_0)).trans hw258_0),((HB.out.cell (World.block_lt_of_cell? w _ hw258_1)).trans hw258_1)⟩ (fun hHeld=>?_);refine with_tabW laws_eqTokenS.tab6 laws_eqTokenS.bits6 (fun HT_ HW_=>?_)
        generalize wr.drew=w9 at HB hx257_0 hx257_1 hx258_0 hx258_1 hHeld ⊢
        refine pu_ 0 17 #[I,O,O,O,O,O,O,O,O,O] HT_.out ?_
        refine pu_ 1 18 #[I,I,O,O,O,O,O,O,O,O] HT_.out ?_
        refine pu_ 2 19 #[I,I,I,O,O,O,O,O,O,O] HT_.out ?_
        refine pu_ 4 21 #[I,I,I,O,I,O,O,O,O,O] HT_.out ?_
        refine pu_ 5 22 #[I,I,I,O,I,I,O,O,O,O] HT_.out ?_
        refine pu_ 6 23 #[I,I,I,O,I,I,I,O,O,O] HT_.out ?_
        refine tk4_ 3 20 #[I,I,I,I,I,I,I,O,O,O] HT_.out HW_.out hHeld ?_
        refine tk4_ 7 24 #[I,I,I,I,I,I,I,I,O,O] HT_.out HW_.out hHeld ?_
        refine o1_ 8 25 #[I,I,I,I,I,I,I,I,I,O] HT_.out (fun K hK=>?_)
        refine gs_ Tryd.func95 #[.agg #[.int .i64 ((rd_T77 l0 x5_1).f0),.int .i64 ((rd_T77 l0 x5_1).f1)],.agg #[.int .i64 ((rd_T77 l1 x5_1).f0),.int .i64 ((rd_T77 l1 x5_1).f1)]] ?_
        with_reducible refine (laws_eqToken.calls ((rd_T77 l0 x5_1).f0) ((rd_T77 l0 x5_1).f1) ((rd_T77 l1 x5_1).f0) ((rd_T77 l1 x5_1).f1) true _ A7.out).mono ?_
        rintro e w10 ⟨rfl,hb⟩
        refine ⟨_,rfl,?_⟩
        have n0_:=Aside0.mk (below_step (z4_ HB.out) hb)
        clear HB
        have HB:=n0_
        clear n0_
        (try clear hb)
        refine hK.out _ _ ⟨((HB.out.cell (World.block_lt_of_cell? w _ hw257_0)).trans hw257_0),((HB.out.cell (World.block_lt_of_cell? w _ hw257_1)).trans hw257_1),((HB.out.cell (World.block_lt_of_cell? w _ hw258_0)).trans hw258_0),((HB.out.cell (World.block_lt_of_cell? w _ hw258_1)).trans hw258_1)⟩ (fun hHeld=>?_)
        clear hK K
        refine nm_ 25 ?_
        refine pu_ 9 26 #[I,I,I,I,I,I,I,I,I,I] HT_.out ?_
        refine done_ (done_of HT_.out (by kernel_rfl)) ?_
        try go_wp2
        go_roundg k1
        case measure=>have:=HK1.out;omega
        case rel=>exact ⟨(wrap64 (x5_1+1)),(z2_),H',⟨by have:=HK1.out;omega⟩,⟨z4_ HB.out⟩⟩
       ·replace c8:=Bool.eq_false_iff.mpr c8
        subst c8
        have H1:(none)=some r:=by rw [if_neg (show ¬ (false=true) by decide)] at H;exact H
        clear H
        have H:=H1
        clear H1
        exact absurd H (by simp)
      ·rw [if_neg c6] at H
       exact absurd H (by simp)
     ·rw [if_neg c5] at H
      exact absurd H (by simp)
    ·rw [if_neg c4] at H
     have c4b0:decide (x5_1<(l0.length:Int))=false:=decide_eq_false c4
     clear c4
     obtain rfl:=Option.some.inj H
     go_wp2
     go_ret
     exact ⟨z10_,z4_ HB.out⟩
 ·rw [if_neg c3] at H
  exact absurd H (by simp)


/-! ### laws_eqRing: function 26 -/
def laws_eqRing.f (k:Nat) (a0_0:Int) (l0_1:List (S77)) (a1_0:Int) (l1_1:List (S77)):Option (Bool):=if a0_0=a1_0 then ((laws_eqTokenS.f k l0_1 l1_1).bind fun t262=>(if t262=true then (some true) else (none))) else (none)
theorem laws_eqRing.mono:∀ a0 a1 a2 a3 k,LeO (laws_eqRing.f k a0 a1 a2 a3) (laws_eqRing.f (k+1) a0 a1 a2 a3):=by
 intro a0 a1 a2 a3 k
 unfold laws_eqRing.f
 repeat' first
   | (with_reducible exact laws_eqTokenS.mono _ _ _)
   | (with_reducible exact LeO.refl _)
   | (with_reducible exact LeO.none _)
   | (with_reducible refine LeO.ite ?_ ?_)
   | (with_reducible refine LeO.bind ?_ (fun _=>?_))
   | exact laws_eqTokenS.mono _ _ _
   | exact LeO.none _
   | refine LeO.ite ?_ ?_
   | refine LeO.bind ?_ (fun _=>?_)
set_option maxHeartbeats 8000000 in
set_option maxRecDepth 100000 in
theorem laws_eqRing.calls (k:Nat) (a0_0:Int) (A0_1:Option Addr) (c0_1:Nat) (l0_1:List (S77)) (a1_0:Int) (A1_1:Option Addr) (c1_1:Nat) (l1_1:List (S77)) (r:Bool) (w:World) (hr0_1:Kd.C k77 w A0_1 l0_1.length l0_1) (hc0_1:l0_1.length≤c0_1) (hr1_1:Kd.C k77 w A1_1 l1_1.length l1_1) (hc1_1:l1_1.length≤c1_1) (h:laws_eqRing.f k a0_0 l0_1 a1_0 l1_1=some r) :
  Calls Tryd.prog 26 #[.agg #[.int .i64 a0_0,.slice A0_1 l0_1.length c0_1],.agg #[.int .i64 a1_0,.slice A1_1 l1_1.length c1_1]] w fun e w'=>e = .returned (.bool r)∧Below w.heap.size w w':=by
 have hu24:=Tryd.underlying24
 have HR0_1:=Aside0.mk hr0_1
 have HC0_1:=Aside0.mk hc0_1
 clear hr0_1 hc0_1
 have HR1_1:=Aside0.mk hr1_1
 have HC1_1:=Aside0.mk hc1_1
 clear hr1_1 hc1_1
 have HB:=Aside0.mk (Below.refl w.heap.size w)
 have H:(if a0_0=a1_0 then ((laws_eqTokenS.f k l0_1 l1_1).bind fun t262=>(if t262=true then (some true) else (none))) else (none))=some r:=h
 clear h
 by_cases c3:a0_0=a1_0
 ·rw [if_pos c3] at H
  have c3b0:(a0_0 == a1_0)=true:=beq_iff_eq.mpr c3
  have c3b1:(a0_0 != a1_0)=false:=bne_eq_false_iff_eq.mpr c3
  clear c3
  replace H:=Option.bind_eq_some_iff.mp H
  obtain ⟨t262,A40,H⟩:=H
  replace H:(if t262=true then (some true) else (none))=some r:=H
  have A4:=Aside0.mk A40
  clear A40
  by_cases c5:t262=true
  ·subst c5
   have H1:(some true)=some r:=by rw [if_pos rfl] at H;exact H
   clear H
   have H:=H1
   clear H1
   obtain rfl:=Option.some.inj H
   go_enter Tryd.func26,Tryd.ntmps26
   go_wp2_with (first | ((with_reducible refine gd_ 2 ?_);refine be_ 2 #[.int .i64 a0_0,.slice A0_1 l0_1.length c0_1] 24 ?_;intro gb260 hg w6 hbox hb;refine as4_ (below_step (z4_ HB.out) hb) (hbox) ((z8_ HB.out:w.heap.size≤gb260)) ((z8_ HB.out:w.heap.size≤gb260)) ?_;clear HB;intro HB BK260 GW260 GE260;clear hb hbox hg) | ((with_reducible refine gd_ 3 ?_);refine be_ 3 #[.int .i64 a1_0,.slice A1_1 l1_1.length c1_1] 24 ?_;intro gb261 hg w7 hbox hb;refine as7_ (blkB_ BK260.out hb) (below_step (z7_ HB.out GE260.out) hb) (hbox) ((z11_ HB.out GE260.out:w.heap.size≤gb261)) ((z11_ HB.out GE260.out:w.heap.size≤gb261)) (neL_ BK260.out hg) (neG_ BK260.out hg) ?_;clear BK260 HB;intro BK260 HB BK261 GW261 GE261 NB260_261 NB261_260;clear hb hbox hg;have hnb8:=NB260_261.out;have hnc8:=NB261_260.out;have ⟨hcz9_0,hcz9_1,hfz9_0,hfz9_1⟩:=cz2_ BK260.out;have ⟨hcz10_0,hcz10_1,hfz10_0,hfz10_1⟩:=cz2_ BK261.out) | ((with_reducible refine gc_ 59 ?_);refine gl_ (some 14) Tryd.func59 #[.slice A0_1 l0_1.length c0_1,.slice A1_1 l1_1.length c1_1] ?_;(with_reducible refine (laws_eqTokenS.calls k _ _ l0_1 _ _ l1_1 true _ ?s1 ?s2 ?s3 ?s4 A4.out).mono ?_);(case s1=>repeat (first | exact (Kd.C_below HR0_1.out HB.out) | (with_reducible refine Kd.C_alloc ?_ _) | (with_reducible refine Kd.C_drewN ?_ _) | (with_reducible refine Kd.C_drew ?_)));(case s2=>exact HC0_1.out);(case s3=>repeat (first | exact (Kd.C_below HR1_1.out HB.out) | (with_reducible refine Kd.C_alloc ?_ _) | (with_reducible refine Kd.C_drewN ?_ _) | (with_reducible refine Kd.C_drew ?_)));(case s4=>exact HC1_1.out);rintro e w11 ⟨rfl,hb⟩;refine ⟨_,rfl,?_⟩;refine as3_ (blkB_ BK260.out hb) (blkB_ BK261.out hb) (below_step (z5_ HB.out GE260.out GE261.out) hb) ?_;clear BK260 BK261 HB;intro BK260 BK261 HB;(try clear hb)))
   go_ret
   exact ⟨z10_,z5_ HB.out GE260.out GE261.out⟩
  ·replace c5:=Bool.eq_false_iff.mpr c5
   subst c5
   have H1:(none)=some r:=by rw [if_neg (show ¬ (false=true) by decide)] at H;exact H
   clear H
   have H:=H1
   clear H1
   exact absurd H (by simp)
 ·rw [if_neg c3] at H
  exact absurd H (by simp)


/-! ### laws_markTokenS: function 60 -/
def laws_markTokenS.l0:Nat→List (S77)→Int→Int→Option (Int × (List (S77)))
 | 0,_,_,_=>none
 | k+1,x0,x1,x5=>if x5<(x0.length:Int) then (if 0≤x5 then ((some (x0.set (x5:Int).toNat (⟨x1,(rd_T77 x0 x5).f1⟩:S77):List (S77))).bind fun y266=>(laws_markTokenS.l0 k (y266.set (x5:Int).toNat (⟨(rd_T77 y266 x5).f0,wrap64 (x1+1)⟩:S77)) (wrap64 ((wrap64 (x1+1))+1)) (wrap64 (x5+1)))) else (none)) else (some (x1,x0))
def laws_markTokenS.f (k:Nat) (l0:List (S77)) (a1:Int):Option (Int × (List (S77))):=laws_markTokenS.l0 k l0 a1 0
theorem laws_markTokenS.mono_l:∀ k,(∀ y0 y1 y2,LeO (laws_markTokenS.l0 k y0 y1 y2) (laws_markTokenS.l0 (k+1) y0 y1 y2))
 | 0=>fun _ _ _ r h=>by simp [laws_markTokenS.l0] at h
 | k+1=>by
  have ih0:=laws_markTokenS.mono_l k
  ·intro y0 y1 y2
   unfold laws_markTokenS.l0
   repeat' first
   | (with_reducible exact ih0 _ _ _)
   | (with_reducible exact LeO.refl _)
   | (with_reducible exact LeO.none _)
   | (with_reducible refine LeO.ite ?_ ?_)
   | (with_reducible refine LeO.bind ?_ (fun _=>?_))
   | exact ih0 _ _ _
   | exact LeO.none _
   | refine LeO.ite ?_ ?_
   | refine LeO.bind ?_ (fun _=>?_)
theorem laws_markTokenS.mono:∀ a0 a1 k,LeO (laws_markTokenS.f k a0 a1) (laws_markTokenS.f (k+1) a0 a1):=by
 intro a0 a1 k
 have ih0:=laws_markTokenS.mono_l k
 unfold laws_markTokenS.f
 repeat' first
   | (with_reducible exact ih0 _ _ _)
   | (with_reducible exact LeO.refl _)
   | (with_reducible exact LeO.none _)
   | (with_reducible refine LeO.ite ?_ ?_)
   | (with_reducible refine LeO.bind ?_ (fun _=>?_))
   | exact ih0 _ _ _
   | exact LeO.none _
   | refine LeO.ite ?_ ?_
   | refine LeO.bind ?_ (fun _=>?_)
set_option maxHeartbeats 8000000 in
set_option maxRecDepth 100000 in
theorem laws_markTokenS.calls (k:Nat) (P0_:Nat→Prop) (u9000_:Value) (l0:List (S77)) (a1:Int) (r1:Int) (r2:List (S77)) (w0 w:World) (hB:Below w0.heap.size w0 w) (ho0:Kd.R k77 77 w w0.heap.size P0_ u9000_ l0) (h:laws_markTokenS.f k l0 a1=some (r1,r2)) :
  Calls Tryd.prog 60 #[u9000_,.int .i64 a1] w fun e w'=>e = .returned (.int .i64 r1)∧Kd.R k77 77 w' w0.heap.size (fun k_=>(P0_ k_∨w.heap.size≤k_)) u9000_ r2∧Below w0.heap.size w0 w'∧Kept w w' (fun k_=>P0_ k_):=by
 have HO0:=Aside0.mk (show Kd.R k77 77 w w0.heap.size (fun k_=>(P0_ k_∨w.heap.size≤k_)) u9000_ l0 from Kd.R_mono ho0 (fun k_ hk=>(.inl hk)))
 have HK:=Aside0.mk (Kept.refl w (fun k_=>P0_ k_))
 have HW0:=Aside0.mk hB.size
 have HB:=Aside0.mk hB
 clear hB
 have H:(laws_markTokenS.l0 k l0 a1 0)=some (r1,r2):=h
 clear h
 have H':=Aside0.mk H
 clear H
 go_enter Tryd.func60,Tryd.ntmps60
 go_wp2
 go_loopg [1,5] k (fun kq v1 v5 w'=>∃ (x0_1:List (S77)) (x1_1:Int) (x5_1:Int),v1 = .int .i64 x1_1∧v5 = .int .i64 x5_1∧Aside0 (laws_markTokenS.l0 kq x0_1 x1_1 x5_1=some (r1,r2))∧Aside0 (kq≤k)∧Aside0 (Kd.R k77 77 w' w0.heap.size (fun k_=>(P0_ k_∨w.heap.size≤k_)) u9000_ x0_1)∧Aside0 (Kept w w' (fun k_=>P0_ k_))∧Aside0 (Below w0.heap.size w0 w'))
 case atStart=>exact ⟨(l0),(a1),(0),(z2_),(z2_),H',⟨Nat.le_refl _⟩,⟨z1_ HO0.out⟩,⟨z9_ HK.out⟩,⟨z4_ HB.out⟩⟩
 case round =>
  clear H'
  try clear p2
  obtain ⟨x0_1,x1_1,x5_1,rfl,rfl,HA,HK1,HO_0,HK,HB⟩:=hrel
  cases gk with
  | zero=>exact absurd HA.out (by simp [laws_markTokenS.l0])
  | succ k1 =>
   have H:=HA.out
   clear HA
   simp only [laws_markTokenS.l0] at H
   by_cases c3:x5_1<(x0_1.length:Int)
   ·rw [if_pos c3] at H
    have c3b0:decide (x5_1<(x0_1.length:Int))=true:=decide_eq_true c3
    clear c3
    by_cases c4:0≤x5_1
    ·rw [if_pos c4] at H
     have c4b0:decide (0≤x5_1)=true:=decide_eq_true c4
     clear c4
     obtain ⟨y266,hy266⟩:∃ y_:List (S77),y_=(x0_1.set (x5_1:Int).toNat (⟨x1_1,(rd_T77 x0_1 x5_1).f1⟩:S77)):=⟨_,rfl⟩
     replace H:(laws_markTokenS.l0 k1 (y266.set (x5_1:Int).toNat (⟨(rd_T77 y266 x5_1).f0,wrap64 (x1_1+1)⟩:S77)) (wrap64 ((wrap64 (x1_1+1))+1)) (wrap64 (x5_1+1)))=some (r1,r2):=by first | (rw [hy266];with_reducible exact H) | (have H2_:=(Option.bind_some _ _).symm.trans H;rw [hy266];with_reducible exact H2_) | (have H2_:=(Option.bind_some _ _).symm.trans H;with_reducible exact H2_) | with_reducible exact H | (rw [hy266];exact H) | exact H
     have Ny266:=Aside0.mk hy266
     clear hy266
     obtain ⟨y267,hy267⟩:∃ y_:List (S77),y_=(y266.set (x5_1:Int).toNat (⟨(rd_T77 y266 x5_1).f0,wrap64 (x1_1+1)⟩:S77)):=⟨_,rfl⟩
     replace H:(laws_markTokenS.l0 k1 y267 (wrap64 ((wrap64 (x1_1+1))+1)) (wrap64 (x5_1+1)))=some (r1,r2):=by first | (rw [hy267];with_reducible exact H) | (have H2_:=(Option.bind_some _ _).symm.trans H;rw [hy267];with_reducible exact H2_) | (have H2_:=(Option.bind_some _ _).symm.trans H;with_reducible exact H2_) | with_reducible exact H | (rw [hy267];exact H) | exact H
     have Ny267:=Aside0.mk hy267
     clear hy267
     have H':=Aside0.mk H
     clear H
     obtain ⟨Ao7,co7,eo7⟩:=Kd.R_slice HO_0.out
     subst eo7
     have p5:0≤(x5_1:Int):=of_decide_eq_true (z0_)
     have q5:(x5_1:Int)<((x0_1.length:Int):Int):=of_decide_eq_true (z0_)
     obtain ⟨go5,co5,eo5,gb5,gl5,cl5,HG5⟩:=Kd.R_form HO_0.out (by omega)
     (first | cases eo5 | (injection eo5 with ea_ en_ ec_;(first | subst ea_ | (injection ea_ with ea_;subst ea_));subst ec_;clear en_))
     have GB5:=Aside0.mk gb5
     have GG5:=Aside0.mk HG5
     clear gb5 gl5 HG5
     have HMgo5:=Aside0.mk (show (P0_ go5∨w.heap.size≤go5) from (HO_0.out.1 _ rfl))
     obtain ⟨ce5,hcl5,hM5,hcc5,hfr5⟩:=Kd.R_elem HO_0.out z77 (x5_1:Int) p5 q5
     obtain rfl:=k77_openM hM5
     have hx5_0:wr.cell? ⟨go5,(x5_1:Int).toNat*2,none⟩=some (.int .i64 ((rd_T77 x0_1 x5_1).f0)):=hcc5 0 _ rfl
     have hx5_1:wr.cell? ⟨go5,(x5_1:Int).toNat*2+1,none⟩=some (.int .i64 ((rd_T77 x0_1 x5_1).f1)):=hcc5 1 _ rfl
     have hf5_0:wr.frozen? ⟨go5,(x5_1:Int).toNat*2,none⟩=false:=hfr5 0
     have hf5_1:wr.frozen? ⟨go5,(x5_1:Int).toNat*2+1,none⟩=false:=hfr5 1
     clear hcl5 hcc5 hfr5 hM5
     replace p5:=eq_true p5
     replace q5:=eq_true q5
     have HX8:=Aside0.mk (show Kd.R k77 77 wr w0.heap.size (fun k_=>(P0_ k_∨w.heap.size≤k_)) (.slice (some ⟨go5,0,none⟩) x0_1.length co7) x0_1 from (z1_ HO_0.out))
     obtain ⟨ce8,hcl8,hM8,hcc8,hfr8⟩:=Kd.R_elem HX8.out z77 (x5_1:Int) (of_decide_eq_true (z0_)) (z34_ HO_0.out)
     obtain rfl:=k77_openM hM8
     have HP8:=Kd.R_seg HX8.out (x5_1:Int) (of_decide_eq_true (z0_)) (z34_ HO_0.out) (seg:=[.int .i64 x1_1]) (j:=0) hcl8 hcc8 (show 1≤2 from by decide) (x':=(⟨x1_1,(rd_T77 x0_1 x5_1).f1⟩:S77)) (k77_mkM _ _ _ (⟨x1_1,(rd_T77 x0_1 x5_1).f1⟩:S77) ) (fun _ hk=>hk)
     have hx8_0:=hcc8 0 _ rfl
     (try simp only [show (k77).sz=2 from rfl,Nat.mul_one,Nat.add_zero] at hx8_0)
     have hf8_0:=hfr8 0
     (try simp only [show (k77).sz=2 from rfl,Nat.mul_one,Nat.add_zero] at hf8_0)
     clear hcl8 hcc8 hfr8 hM8
     go_wp2_with (first | ((with_reducible refine gate_store (t:=2) (p:=16) rfl ?_);refine store_event (t:=2) (p:=16) (v:=?vo_w9) (w1:=(wr.setCell ⟨go5,(x5_1:Int).toNat*2,none⟩ (.int .i64 x1_1))) ?hg ?ho ?hn ?hr ?_;(case ho=>rfl);(case hg=>rfl);(case hn=>rfl);(case hr=>first | (go_simp;done) | (go_simp;rfl));intro w9 hw;have hg:wr.grownBy w9 (some go5):=(by rw [hw];exact HP8.2);have hp_:Kd.R k77 77 w9 w0.heap.size (fun k_=>(P0_ k_∨w.heap.size≤k_)) (.slice (some ⟨go5,0,none⟩) x0_1.length co7) y266:=(by rw [hw,Ny266.out];exact HP8.1);clear HP8;refine as3_ (hp_) ((by rw [hw];exact below_set (HB.out) GB5.out:Below w0.heap.size w0 w9)) (Kept.of_grown (S:=(fun k_=>P0_ k_)) hg (z9_ HK.out) (fun k_ e_=>(HO_0.out.1 k_ e_))) ?_;clear HO_0 HB HK;intro HO_0 HB HK;clear hg hw hp_;have p6:0≤(x5_1:Int):=of_decide_eq_true (z0_);have q6:(x5_1:Int)<((x0_1.length:Int):Int):=of_decide_eq_true (z0_);obtain ⟨ce6,hcl6,hM6,hcc6,hfr6⟩:=Kd.R_elem HO_0.out z77 (x5_1:Int) p6 q6;obtain rfl:=k77_openM hM6;have hx6_0:w9.cell? ⟨go5,(x5_1:Int).toNat*2,none⟩=some (.int .i64 ((rd_T77 y266 x5_1).f0)):=hcc6 0 _ rfl;have hx6_1:w9.cell? ⟨go5,(x5_1:Int).toNat*2+1,none⟩=some (.int .i64 ((rd_T77 y266 x5_1).f1)):=hcc6 1 _ rfl;have hf6_0:w9.frozen? ⟨go5,(x5_1:Int).toNat*2,none⟩=false:=hfr6 0;have hf6_1:w9.frozen? ⟨go5,(x5_1:Int).toNat*2+1,none⟩=false:=hfr6 1;clear hcl6 hcc6 hfr6 hM6;replace p6:=eq_true p6;replace q6:=eq_true q6;have HX10:=Aside0.mk (show Kd.R k77 77 w9 w0.heap.size (fun k_=>(P0_ k_∨w.heap.size≤k_)) (.slice (some ⟨go5,0,none⟩) x0_1.length co7) y266 from (z1_ HO_0.out));obtain ⟨ce10,hcl10,hM10,hcc10,hfr10⟩:=Kd.R_elem HX10.out z77 (x5_1:Int) (of_decide_eq_true (z0_)) (z34_ HO_0.out);obtain rfl:=k77_openM hM10;have HP10:=Kd.R_seg HX10.out (x5_1:Int) (of_decide_eq_true (z0_)) (z34_ HO_0.out) (seg:=[.int .i64 (wrap64 (x1_1+1))]) (j:=1) hcl10 hcc10 (show 2≤2 from by decide) (x':=(⟨(rd_T77 y266 x5_1).f0,wrap64 (x1_1+1)⟩:S77)) (k77_mkM _ _ _ (⟨(rd_T77 y266 x5_1).f0,wrap64 (x1_1+1)⟩:S77) ) (fun _ hk=>hk);have hx10_1:=hcc10 1 _ rfl;(try simp only [show (k77).sz=2 from rfl,Nat.mul_one,Nat.add_zero] at hx10_1);have hf10_1:=hfr10 1;(try simp only [show (k77).sz=2 from rfl,Nat.mul_one,Nat.add_zero] at hf10_1);clear hcl10 hcc10 hfr10 hM10) | ((with_reducible refine gate_store (t:=2) (p:=23) rfl ?_);refine store_event (t:=2) (p:=23) (v:=?vo_w11) (w1:=(w9.setCell ⟨go5,(x5_1:Int).toNat*2+1,none⟩ (.int .i64 (wrap64 (x1_1+1))))) ?hg ?ho ?hn ?hr ?_;(case ho=>rfl);(case hg=>rfl);(case hn=>rfl);(case hr=>first | (go_simp;done) | (go_simp;rfl));intro w11 hw;have hg:w9.grownBy w11 (some go5):=(by rw [hw];exact HP10.2);have hp_:Kd.R k77 77 w11 w0.heap.size (fun k_=>(P0_ k_∨w.heap.size≤k_)) (.slice (some ⟨go5,0,none⟩) x0_1.length co7) y267:=(by rw [hw,Ny267.out];exact HP10.1);clear HP10;refine as3_ (hp_) ((by rw [hw];exact below_set (HB.out) GB5.out:Below w0.heap.size w0 w11)) (Kept.of_grown (S:=(fun k_=>P0_ k_)) hg (z9_ HK.out) (fun k_ e_=>(HO_0.out.1 k_ e_))) ?_;clear HO_0 HB HK;intro HO_0 HB HK;clear hg hw hp_))
     go_roundg k1
     case measure=>have:=HK1.out;omega
     case rel=>exact ⟨(y267),(wrap64 ((wrap64 (x1_1+1))+1)),(wrap64 (x5_1+1)),(z2_),(z2_),H',⟨by have:=HK1.out;omega⟩,⟨z1_ HO_0.out⟩,⟨z9_ HK.out⟩,⟨z4_ HB.out⟩⟩
    ·rw [if_neg c4] at H
     exact absurd H (by simp)
   ·rw [if_neg c3] at H
    have c3b0:decide (x5_1<(x0_1.length:Int))=false:=decide_eq_false c3
    clear c3
    simp only [Option.some.injEq,Prod.mk.injEq] at H
    obtain ⟨rfl,rfl⟩:=H
    obtain ⟨Ao12,co12,eo12⟩:=Kd.R_slice HO_0.out
    subst eo12
    go_wp2
    go_ret
    exact ⟨z10_,z1_ HO_0.out,z4_ HB.out,z9_ HK.out⟩


/-! ### laws_markRing: function 27 -/
def laws_markRing.f (k:Nat) (a0_0:Int) (l0_1:List (S77)) (a1:Int):Option (Int × (List (S77))):=(laws_markTokenS.f k l0_1 a1).bind fun bt269=>(some (bt269.1,bt269.2))
theorem laws_markRing.mono:∀ a0 a1 a2 k,LeO (laws_markRing.f k a0 a1 a2) (laws_markRing.f (k+1) a0 a1 a2):=by
 intro a0 a1 a2 k
 unfold laws_markRing.f
 repeat' first
   | (with_reducible exact laws_markTokenS.mono _ _ _)
   | (with_reducible exact LeO.refl _)
   | (with_reducible exact LeO.none _)
   | (with_reducible refine LeO.ite ?_ ?_)
   | (with_reducible refine LeO.bind ?_ (fun _=>?_))
   | exact laws_markTokenS.mono _ _ _
   | exact LeO.none _
   | refine LeO.ite ?_ ?_
   | refine LeO.bind ?_ (fun _=>?_)
set_option maxHeartbeats 8000000 in
set_option maxRecDepth 100000 in
theorem laws_markRing.calls (k:Nat) (a0_0:Int) (P0_1_:Nat→Prop) (u9000_:Value) (l0_1:List (S77)) (a1:Int) (r1:Int) (r2:List (S77)) (w0 w:World) (hB:Below w0.heap.size w0 w) (ho0_1:Kd.R k77 77 w w0.heap.size P0_1_ u9000_ l0_1) (h:laws_markRing.f k a0_0 l0_1 a1=some (r1,r2)) :
  Calls Tryd.prog 27 #[.agg #[.int .i64 a0_0,u9000_],.int .i64 a1] w fun e w'=>e = .returned (.int .i64 r1)∧Kd.R k77 77 w' w0.heap.size (fun k_=>(P0_1_ k_∨w.heap.size≤k_)) u9000_ r2∧Below w0.heap.size w0 w'∧Kept w w' (fun k_=>P0_1_ k_):=by
 have hu24:=Tryd.underlying24
 have HO0_1:=Aside0.mk (show Kd.R k77 77 w w0.heap.size (fun k_=>(P0_1_ k_∨w.heap.size≤k_)) u9000_ l0_1 from Kd.R_mono ho0_1 (fun k_ hk=>(.inl hk)))
 have HK:=Aside0.mk (Kept.refl w (fun k_=>P0_1_ k_))
 have HW0:=Aside0.mk hB.size
 have HB:=Aside0.mk hB
 clear hB
 have H:((laws_markTokenS.f k l0_1 a1).bind fun bt269=>(some (bt269.1,bt269.2)))=some (r1,r2):=h
 clear h
 replace H:=Option.bind_eq_some_iff.mp H
 obtain ⟨⟨t269,t270⟩,A30,H⟩:=H
 replace H:(some (t269,t270))=some (r1,r2):=H
 have A3:=Aside0.mk A30
 clear A30
 simp only [Option.some.injEq,Prod.mk.injEq] at H
 obtain ⟨rfl,rfl⟩:=H
 obtain ⟨Ao4,co4,eo4⟩:=Kd.R_slice HO0_1.out
 subst eo4
 go_enter Tryd.func27,Tryd.ntmps27
 go_wp2_with (first | ((with_reducible refine gd_ 2 ?_);refine be_ 2 #[.int .i64 a0_0,.slice Ao4 l0_1.length co4] 24 ?_;intro gb268 hg w5 hbox hb;refine as6_ (Kd.R_below (z1_ HO0_1.out) hb) (Kept.below (S:=(fun k_=>P0_1_ k_)) (z9_ HK.out) hb) (below_step (z4_ HB.out) hb) (hbox) ((by rw [hg];exact (by first | exact HK.out.1 | exact (show Kept w _ (fun k_=>P0_1_ k_) from by repeat (first | (with_reducible first | exact HK.out | apply Kept.alloc | apply Kept.drewN | apply Kept.drew) | exact HK.out)).1):w.heap.size≤gb268)) ((z8_ HB.out:w0.heap.size≤gb268)) ?_;clear HO0_1 HK HB;intro HO0_1 HK HB BK268 GW268 GE268;clear hb hbox hg;have ⟨hcz6_0,hcz6_1,hfz6_0,hfz6_1⟩:=cz2_ BK268.out) | ((with_reducible refine gc_ 60 ?_);refine gl_ (some 8) Tryd.func60 #[.slice Ao4 l0_1.length co4,.int .i64 a1] ?_;(with_reducible refine (laws_markTokenS.calls k (fun k_=>some k_=(.slice Ao4 l0_1.length co4:Value).ownBlock) (.slice Ao4 l0_1.length co4) l0_1 a1 t269 t270 w0 _ ?s1 ?s2 A3.out).mono ?_);(case s1=>repeat (first | (with_reducible first | exact HB.out | apply below_alloc | apply pw_below_drewN | apply below_drew1 | refine below_set ?_ GE268.out) | exact HB.out));(case s2=>exact Kd.R_tight rfl HO0_1.out);rintro e w7 ⟨rfl,hy0,hb,hkp⟩;refine ⟨_,rfl,?_⟩;refine as4_ (Kd.R_reok rfl hy0 (fun k_ e_=>HO0_1.out.1 k_ e_)) (blk_kept (z3_ BK268.out) hkp (fun hs_=>(fun e_=>(Kd.R_ne HO0_1.out BK268.out (by decide)) e_) hs_)) (Kept.then_ (S:=(fun k_=>P0_1_ k_)) (by repeat (first | (with_reducible first | exact HK.out | apply Kept.alloc | apply Kept.drewN | apply Kept.drew | refine Kept.setCell ?_ (.inr GW268.out) _) | exact HK.out)) hkp (fun k_ hs_=>(fun e_=>(HO0_1.out.1 k_ e_.symm)) hs_)) (hb) ?_;clear HO0_1 BK268 HK HB;intro HO0_1 BK268 HK HB;(try clear hb);(try clear hkp);(try clear hy0)))
 go_ret
 exact ⟨z10_,z1_ HO0_1.out,z7_ HB.out GE268.out,by repeat (first | (with_reducible first | exact HK.out | apply Kept.alloc | apply Kept.drewN | apply Kept.drew | refine Kept.setCell ?_ (.inr GW268.out) _) | exact HK.out)⟩


/-! ### impl_within: function 42 -/
def impl_within.f (a0:Int) (a1:Int) (a2:Int):Option (Bool):=if a1≤a0 then (some (decide (a0≤a2))) else (some false)
set_option maxHeartbeats 8000000 in
set_option maxRecDepth 100000 in
theorem impl_within.calls (a0:Int) (a1:Int) (a2:Int) (r:Bool) (w:World) (h:impl_within.f a0 a1 a2=some r) :
  Calls Tryd.prog 42 #[.int .i64 a0,.int .i64 a1,.int .i64 a2] w fun e w'=>e = .returned (.bool r)∧Drawn0 w w':=by
 have H:(if a1≤a0 then (some (decide (a0≤a2))) else (some false))=some r:=h
 clear h
 by_cases c4:a1≤a0
 ·rw [if_pos c4] at H
  have c4b0:decide (a1≤a0)=true:=decide_eq_true c4
  clear c4
  obtain rfl:=Option.some.inj H
  go_enter Tryd.func42,Tryd.ntmps42
  go_wp2
  go_ret
  exact ⟨z2_,z6_⟩
 ·rw [if_neg c4] at H
  have c4b0:decide (a1≤a0)=false:=decide_eq_false c4
  clear c4
  obtain rfl:=Option.some.inj H
  go_enter Tryd.func42,Tryd.ntmps42
  go_wp2
  go_ret
  exact ⟨z2_,z6_⟩


/-! ### impl_isNode: function 41 -/
def impl_isNode.f (a0:Int):Option (Bool):=(impl_within.f a0 1 5).bind fun t144=>(some t144)
set_option maxHeartbeats 8000000 in
set_option maxRecDepth 100000 in
theorem impl_isNode.calls (a0:Int) (r:Bool) (w:World) (h:impl_isNode.f a0=some r) :
  Calls Tryd.prog 41 #[.int .i64 a0] w fun e w'=>e = .returned (.bool r)∧Drawn0 w w':=by
 have H:((impl_within.f a0 1 5).bind fun t144=>(some t144))=some r:=h
 clear h
 replace H:=Option.bind_eq_some_iff.mp H
 obtain ⟨t144,A20,H⟩:=H
 replace H:(some t144)=some r:=H
 have A2:=Aside0.mk A20
 clear A20
 obtain rfl:=Option.some.inj H
 go_enter Tryd.func41,Tryd.ntmps41
 go_wp2_with (first | ((with_reducible refine gc_ 42 ?_);refine gl_ (some 4) Tryd.func42 #[.int .i64 a0,.int .i64 1,.int .i64 5] ?_;(with_reducible refine (impl_within.calls a0 1 5 t144 _ A2.out).mono ?_);rintro e w' ⟨rfl,⟨nd,rfl⟩⟩;refine ⟨_,rfl,?_⟩))
 go_ret
 exact ⟨z2_,z6_⟩


/-! ### impl_fnv: function 75 -/
def impl_fnv.l0:Nat→ByteArray→Int→Int→Int→Option (Int)
 | 0,_,_,_,_=>none
 | k+1,x0,x3,x6,x7=>if x7<x6 then (if 0≤x7 then (if x7<(x0.size:Int) then (impl_fnv.l0 k x0 (((Go.bits .xor .u32 x3 ((bt x0 x7) % 4294967296))*16777619) % 4294967296) x6 (wrap64 (x7+1))) else (none)) else (none)) else (some (wrap64 (x3)))
def impl_fnv.f (k:Nat) (a0:ByteArray):Option (Int):=impl_fnv.l0 k a0 2166136261 (a0.size:Int) 0
theorem impl_fnv.mono_l:∀ k,(∀ y0 y1 y2 y3,LeO (impl_fnv.l0 k y0 y1 y2 y3) (impl_fnv.l0 (k+1) y0 y1 y2 y3))
 | 0=>fun _ _ _ _ r h=>by simp [impl_fnv.l0] at h
 | k+1=>by
  have ih0:=impl_fnv.mono_l k
  ·intro y0 y1 y2 y3
   unfold impl_fnv.l0
   repeat' first
   | (with_reducible exact ih0 _ _ _ _)
   | (with_reducible exact LeO.refl _)
   | (with_reducible exact LeO.none _)
   | (with_reducible refine LeO.ite ?_ ?_)
   | (with_reducible refine LeO.bind ?_ (fun _=>?_))
   | exact ih0 _ _ _ _
   | exact LeO.none _
   | refine LeO.ite ?_ ?_
   | refine LeO.bind ?_ (fun _=>?_)
theorem impl_fnv.mono:∀ a0 k,LeO (impl_fnv.f k a0) (impl_fnv.f (k+1) a0):=by
 intro a0 k
 have ih0:=impl_fnv.mono_l k
 unfold impl_fnv.f
 repeat' first
   | (with_reducible exact ih0 _ _ _ _)
   | (with_reducible exact LeO.refl _)
   | (with_reducible exact LeO.none _)
   | (with_reducible refine LeO.ite ?_ ?_)
   | (with_reducible refine LeO.bind ?_ (fun _=>?_))
   | exact ih0 _ _ _ _
   | exact LeO.none _
   | refine LeO.ite ?_ ?_
   | refine LeO.bind ?_ (fun _=>?_)
set_option maxHeartbeats 8000000 in
set_option maxRecDepth 100000 in
theorem impl_fnv.calls (k:Nat) (a0:ByteArray) (r:Int) (w:World) (h:impl_fnv.f k a0=some r) :
  Calls Tryd.prog 75 #[.string a0] w fun e w'=>e = .returned (.int .i64 r)∧Drawn0 w w':=by
 have H:(impl_fnv.l0 k a0 2166136261 (a0.size:Int) 0)=some r:=h
 clear h
 have H':=Aside0.mk H
 clear H
 go_enter Tryd.func75,Tryd.ntmps75
 go_wp2
 go_loopg [3,7] k (fun kq v3 v7 w'=>∃ (x3_1:Int) (x7_1:Int),v3 = .int .u32 x3_1∧v7 = .int .i64 x7_1∧Aside0 (impl_fnv.l0 kq a0 x3_1 (a0.size:Int) x7_1=some r)∧Aside0 (kq≤k)∧Drawn0 w w')
 case atStart=>exact ⟨(2166136261),(0),(z2_),(z2_),H',⟨Nat.le_refl _⟩,z6_⟩
 case round =>
  clear H'
  obtain ⟨x3_1,x7_1,rfl,rfl,HA,HK1,⟨m1,rfl⟩⟩:=hrel
  cases gk with
  | zero=>exact absurd HA.out (by simp [impl_fnv.l0])
  | succ k1 =>
   have H:=HA.out
   clear HA
   simp only [impl_fnv.l0] at H
   by_cases c2:x7_1<(a0.size:Int)
   ·rw [if_pos c2] at H
    have c2b0:decide (x7_1<(a0.size:Int))=true:=decide_eq_true c2
    clear c2
    by_cases c3:0≤x7_1
    ·rw [if_pos c3] at H
     have c3b0:decide (0≤x7_1)=true:=decide_eq_true c3
     clear c3
     by_cases c4:x7_1<(a0.size:Int)
     ·rw [if_pos c4] at H
      have c4b0:decide (x7_1<(a0.size:Int))=true:=decide_eq_true c4
      clear c4
      have H':=Aside0.mk H
      clear H
      have p5:0≤(x7_1:Int):=of_decide_eq_true (z0_)
      have q5:x7_1<(a0.size:Int):=of_decide_eq_true (z0_)
      have hx5:=bt_at a0 x7_1
      replace p5:=eq_true p5
      replace q5:=eq_true q5
      go_wp2
      go_roundg k1
      case measure=>have:=HK1.out;omega
      case rel=>exact ⟨(((Go.bits .xor .u32 x3_1 ((bt a0 x7_1) % 4294967296))*16777619) % 4294967296),(wrap64 (x7_1+1)),(z2_),(z2_),H',⟨by have:=HK1.out;omega⟩,z6_⟩
     ·rw [if_neg c4] at H
      exact absurd H (by simp)
    ·rw [if_neg c3] at H
     exact absurd H (by simp)
   ·rw [if_neg c2] at H
    have c2b0:decide (x7_1<(a0.size:Int))=false:=decide_eq_false c2
    clear c2
    obtain rfl:=Option.some.inj H
    go_wp2
    go_ret
    exact ⟨z2_,z6_⟩


/-! ### strconv_small: function 134 -/
def strconv_small.f (a0:Int):Option (ByteArray):=if a0<10 then (if 0≤a0 then (if a0≤(wrap64 (a0+1)) then (if (wrap64 (a0+1))≤36 then (some ((⟨#[48,49,50,51,52,53,54,55,56,57,97,98,99,100,101,102,103,104,105,106,107,108,109,110,111,112,113,114,115,116,117,118,119,120,121,122]⟩:ByteArray).extract (a0:Int).toNat ((wrap64 (a0+1)):Int).toNat)) else (none)) else (none)) else (none)) else (if 0≤(wrap64 (a0*2)) then (if (wrap64 (a0*2))≤(wrap64 ((wrap64 (a0*2))+2)) then (if (wrap64 ((wrap64 (a0*2))+2))≤200 then (some ((⟨#[48,48,48,49,48,50,48,51,48,52,48,53,48,54,48,55,48,56,48,57,49,48,49,49,49,50,49,51,49,52,49,53,49,54,49,55,49,56,49,57,50,48,50,49,50,50,50,51,50,52,50,53,50,54,50,55,50,56,50,57,51,48,51,49,51,50,51,51,51,52,51,53,51,54,51,55,51,56,51,57,52,48,52,49,52,50,52,51,52,52,52,53,52,54,52,55,52,56,52,57,53,48,53,49,53,50,53,51,53,52,53,53,53,54,53,55,53,56,53,57,54,48,54,49,54,50,54,51,54,52,54,53,54,54,54,55,54,56,54,57,55,48,55,49,55,50,55,51,55,52,55,53,55,54,55,55,55,56,55,57,56,48,56,49,56,50,56,51,56,52,56,53,56,54,56,55,56,56,56,57,57,48,57,49,57,50,57,51,57,52,57,53,57,54,57,55,57,56,57,57]⟩:ByteArray).extract ((wrap64 (a0*2)):Int).toNat ((wrap64 ((wrap64 (a0*2))+2)):Int).toNat)) else (none)) else (none)) else (none))
set_option maxHeartbeats 8000000 in
set_option maxRecDepth 100000 in
theorem strconv_small.calls (a0:Int) (r:ByteArray) (w:World) (h:strconv_small.f a0=some r) :
  Calls Tryd.prog 134 #[.int .i64 a0] w fun e w'=>e = .returned (.string r)∧Drawn0 w w':=by
 have H:(if a0<10 then (if 0≤a0 then (if a0≤(wrap64 (a0+1)) then (if (wrap64 (a0+1))≤36 then (some ((⟨#[48,49,50,51,52,53,54,55,56,57,97,98,99,100,101,102,103,104,105,106,107,108,109,110,111,112,113,114,115,116,117,118,119,120,121,122]⟩:ByteArray).extract (a0:Int).toNat ((wrap64 (a0+1)):Int).toNat)) else (none)) else (none)) else (none)) else (if 0≤(wrap64 (a0*2)) then (if (wrap64 (a0*2))≤(wrap64 ((wrap64 (a0*2))+2)) then (if (wrap64 ((wrap64 (a0*2))+2))≤200 then (some ((⟨#[48,48,48,49,48,50,48,51,48,52,48,53,48,54,48,55,48,56,48,57,49,48,49,49,49,50,49,51,49,52,49,53,49,54,49,55,49,56,49,57,50,48,50,49,50,50,50,51,50,52,50,53,50,54,50,55,50,56,50,57,51,48,51,49,51,50,51,51,51,52,51,53,51,54,51,55,51,56,51,57,52,48,52,49,52,50,52,51,52,52,52,53,52,54,52,55,52,56,52,57,53,48,53,49,53,50,53,51,53,52,53,53,53,54,53,55,53,56,53,57,54,48,54,49,54,50,54,51,54,52,54,53,54,54,54,55,54,56,54,57,55,48,55,49,55,50,55,51,55,52,55,53,55,54,55,55,55,56,55,57,56,48,56,49,56,50,56,51,56,52,56,53,56,54,56,55,56,56,56,57,57,48,57,49,57,50,57,51,57,52,57,53,57,54,57,55,57,56,57,57]⟩:ByteArray).extract ((wrap64 (a0*2)):Int).toNat ((wrap64 ((wrap64 (a0*2))+2)):Int).toNat)) else (none)) else (none)) else (none)))=some r:=h
 clear h
 by_cases c2:a0<10
 ·rw [if_pos c2] at H
  have c2b0:decide (a0<10)=true:=decide_eq_true c2
  clear c2
  by_cases c3:0≤a0
  ·rw [if_pos c3] at H
   have c3b0:=eq_true c3
   have c3b1:decide (0≤a0)=true:=decide_eq_true c3
   clear c3
   by_cases c4:a0≤(wrap64 (a0+1))
   ·rw [if_pos c4] at H
    have c4b0:=eq_true c4
    have c4b1:decide (a0≤(wrap64 (a0+1)))=true:=decide_eq_true c4
    by_cases c5:(wrap64 (a0+1))≤36
    ·rw [if_pos c5] at H
     have c5b0:=eq_true c5
     have c5b1:decide ((wrap64 (a0+1))≤36)=true:=decide_eq_true c5
     obtain rfl:=Option.some.inj H
     go_enter Tryd.func134,Tryd.ntmps134
     go_wp2
     go_ret
     exact ⟨z2_,z6_⟩
    ·rw [if_neg c5] at H
     exact absurd H (by simp)
   ·rw [if_neg c4] at H
    exact absurd H (by simp)
  ·rw [if_neg c3] at H
   exact absurd H (by simp)
 ·rw [if_neg c2] at H
  have c2b0:decide (a0<10)=false:=decide_eq_false c2
  clear c2
  obtain ⟨ji6,hji6⟩:∃ j_:Int,(wrap64 (a0*2))=j_:=⟨_,rfl⟩
  replace H:(if 0≤(ji6) then (if (ji6)≤(wrap64 ((ji6)+2)) then (if (wrap64 ((ji6)+2))≤200 then (some ((⟨#[48,48,48,49,48,50,48,51,48,52,48,53,48,54,48,55,48,56,48,57,49,48,49,49,49,50,49,51,49,52,49,53,49,54,49,55,49,56,49,57,50,48,50,49,50,50,50,51,50,52,50,53,50,54,50,55,50,56,50,57,51,48,51,49,51,50,51,51,51,52,51,53,51,54,51,55,51,56,51,57,52,48,52,49,52,50,52,51,52,52,52,53,52,54,52,55,52,56,52,57,53,48,53,49,53,50,53,51,53,52,53,53,53,54,53,55,53,56,53,57,54,48,54,49,54,50,54,51,54,52,54,53,54,54,54,55,54,56,54,57,55,48,55,49,55,50,55,51,55,52,55,53,55,54,55,55,55,56,55,57,56,48,56,49,56,50,56,51,56,52,56,53,56,54,56,55,56,56,56,57,57,48,57,49,57,50,57,51,57,52,57,53,57,54,57,55,57,56,57,57]⟩:ByteArray).extract ((ji6):Int).toNat ((wrap64 ((ji6)+2)):Int).toNat)) else (none)) else (none)) else (none))=some r:=by first | (rw [hji6] at H;exact H) | (simp only [hji6] at H ⊢;exact H)
  have hji6w:(IntKind.i64.wrap (a0*2))=ji6:=(i64_w _).trans hji6
  by_cases c7:0≤(ji6)
  ·rw [if_pos c7] at H
   have c7b0:=eq_true c7
   have c7b1:decide (0≤(ji6))=true:=decide_eq_true c7
   clear c7
   by_cases c8:(ji6)≤(wrap64 ((ji6)+2))
   ·rw [if_pos c8] at H
    have c8b0:=eq_true c8
    have c8b1:decide ((ji6)≤(wrap64 ((ji6)+2)))=true:=decide_eq_true c8
    by_cases c9:(wrap64 ((ji6)+2))≤200
    ·rw [if_pos c9] at H
     have c9b0:=eq_true c9
     have c9b1:decide ((wrap64 ((ji6)+2))≤200)=true:=decide_eq_true c9
     obtain rfl:=Option.some.inj H
     go_enter Tryd.func134,Tryd.ntmps134
     go_wp2
     go_ret
     exact ⟨by first | rfl | (simp;done) | (simp only [← hji6] <;> (first | rfl | simp)) | (simp [*];done),z6_⟩
    ·rw [if_neg c9] at H
     exact absurd H (by simp)
   ·rw [if_neg c8] at H
    exact absurd H (by simp)
  ·rw [if_neg c7] at H
   exact absurd H (by simp)


/-! ### strconv_FormatInt_121: function 121 -/
def strconv_FormatInt_121.j0:Nat→Int→Bool→Option (ByteArray)
 | 0,_,_=>none
 | k+1,x0,x17=>if x17=true then ((strconv_small.f x0).bind fun t145=>(some t145)) else (none)
def strconv_FormatInt_121.f (k:Nat) (a0:Int) (a1:Int):Option (ByteArray):=if a1=10 then (if 0≤a0 then (strconv_FormatInt_121.j0 k a0 (decide (a0<100))) else (strconv_FormatInt_121.j0 k a0 false)) else (none)
theorem strconv_FormatInt_121.mono_l:∀ k,(∀ y0 y1,LeO (strconv_FormatInt_121.j0 k y0 y1) (strconv_FormatInt_121.j0 (k+1) y0 y1))
 | 0=>fun _ _ r h=>by simp [strconv_FormatInt_121.j0] at h
 | k+1=>by
  have ih0:=strconv_FormatInt_121.mono_l k
  ·intro y0 y1
   unfold strconv_FormatInt_121.j0
   repeat' first
   | (with_reducible exact ih0 _ _)
   | (with_reducible exact LeO.refl _)
   | (with_reducible exact LeO.none _)
   | (with_reducible refine LeO.ite ?_ ?_)
   | (with_reducible refine LeO.bind ?_ (fun _=>?_))
   | exact ih0 _ _
   | exact LeO.none _
   | refine LeO.ite ?_ ?_
   | refine LeO.bind ?_ (fun _=>?_)
theorem strconv_FormatInt_121.mono:∀ a0 a1 k,LeO (strconv_FormatInt_121.f k a0 a1) (strconv_FormatInt_121.f (k+1) a0 a1):=by
 intro a0 a1 k
 have ih0:=strconv_FormatInt_121.mono_l k
 unfold strconv_FormatInt_121.f
 repeat' first
   | (with_reducible exact ih0 _ _)
   | (with_reducible exact LeO.refl _)
   | (with_reducible exact LeO.none _)
   | (with_reducible refine LeO.ite ?_ ?_)
   | (with_reducible refine LeO.bind ?_ (fun _=>?_))
   | exact ih0 _ _
   | exact LeO.none _
   | refine LeO.ite ?_ ?_
   | refine LeO.bind ?_ (fun _=>?_)
set_option maxHeartbeats 8000000 in
set_option maxRecDepth 100000 in
theorem strconv_FormatInt_121.calls (k:Nat) (a0:Int) (a1:Int) (r:ByteArray) (w:World) (h:strconv_FormatInt_121.f k a0 a1=some r) :
  Calls Tryd.prog 121 #[.int .i64 a0,.int .i64 a1] w fun e w'=>e = .returned (.string r)∧Drawn0 w w':=by
 have H:(if a1=10 then (if 0≤a0 then (strconv_FormatInt_121.j0 k a0 (decide (a0<100))) else (strconv_FormatInt_121.j0 k a0 false)) else (none))=some r:=h
 clear h
 by_cases c3:a1=10
 ·rw [if_pos c3] at H
  have c3b0:(a1 == 10)=true:=beq_iff_eq.mpr c3
  have c3b1:(a1 != 10)=false:=bne_eq_false_iff_eq.mpr c3
  clear c3
  have HC4:=Aside0.mk H
  clear H
  go_enter Tryd.func121,Tryd.ntmps121
  go_upto_region 2 with (fail)
  go_cut [17] (fun v17 wc=>∃ (kq:Nat) (x17_3:Bool),v17 = .bool x17_3∧Aside0 (strconv_FormatInt_121.j0 kq a0 x17_3=some r)∧Aside0 (kq≤k)∧Drawn0 w wc)
  case first =>
   have H:=HC4.out
   clear HC4
   by_cases c5:0≤a0
   ·rw [if_pos c5] at H
    have c5b0:decide (0≤a0)=true:=decide_eq_true c5
    clear c5
    (first | rw [c5b0] | (simp only [i64_w,i32_w];rw [c5b0]) | skip)
    have H':=Aside0.mk H
    clear H
    go_wp2
    go_meet
    case rel=>exact ⟨_,(decide (a0<100)),(z2_),H',⟨by first | omega | exact Nat.le_refl _⟩,z6_⟩
   ·rw [if_neg c5] at H
    have c5b0:decide (0≤a0)=false:=decide_eq_false c5
    clear c5
    (first | rw [c5b0] | (simp only [i64_w,i32_w];rw [c5b0]) | skip)
    have H':=Aside0.mk H
    clear H
    go_wp2
    go_meet
    case rel=>exact ⟨_,(false),(z2_),H',⟨by first | omega | exact Nat.le_refl _⟩,z6_⟩
  case rest =>
   clear HC4
   try clear c1
   try clear p2
   try clear c3
   try clear c3b0
   try clear c3b1
   try clear c5
   try clear c5b0
   obtain ⟨kq,x17_3,rfl,HA,HJ3,⟨mc3,rfl⟩⟩:=hcut
   cases kq with
   | zero=>exact absurd HA.out (by simp [strconv_FormatInt_121.j0])
   | succ kj3 =>
    have H:=HA.out
    clear HA
    simp only [strconv_FormatInt_121.j0] at H
    by_cases c6:x17_3=true
    ·subst c6
     have H1:((strconv_small.f a0).bind fun t145=>(some t145))=some r:=by rw [if_pos rfl] at H;exact H
     clear H
     have H:=H1
     clear H1
     replace H:=Option.bind_eq_some_iff.mp H
     obtain ⟨t145,A70,H⟩:=H
     replace H:(some t145)=some r:=H
     have A7:=Aside0.mk A70
     clear A70
     obtain rfl:=Option.some.inj H
     go_wp2_with (first | ((with_reducible refine gc_ 134 ?_);refine gl_ (some 19) Tryd.func134 #[.int .i64 a0] ?_;(with_reducible refine (strconv_small.calls a0 t145 _ A7.out).mono ?_);rintro e w' ⟨rfl,⟨nd,rfl⟩⟩;refine ⟨_,rfl,?_⟩))
     go_ret
     exact ⟨z2_,z6_⟩
    ·replace c6:=Bool.eq_false_iff.mpr c6
     subst c6
     have H1:(none)=some r:=by rw [if_neg (show ¬ (false=true) by decide)] at H;exact H
     clear H
     have H:=H1
     clear H1
     exact absurd H (by simp)
 ·rw [if_neg c3] at H
  exact absurd H (by simp)


/-! ### strconv_FormatInt_106: function 106 -/
def strconv_FormatInt_106.f (k:Nat) (a0:Int) (a1:Int):Option (ByteArray):=(strconv_FormatInt_121.f k a0 a1).bind fun t146=>(some t146)
theorem strconv_FormatInt_106.mono:∀ a0 a1 k,LeO (strconv_FormatInt_106.f k a0 a1) (strconv_FormatInt_106.f (k+1) a0 a1):=by
 intro a0 a1 k
 unfold strconv_FormatInt_106.f
 repeat' first
   | (with_reducible exact strconv_FormatInt_121.mono _ _ _)
   | (with_reducible exact LeO.refl _)
   | (with_reducible exact LeO.none _)
   | (with_reducible refine LeO.ite ?_ ?_)
   | (with_reducible refine LeO.bind ?_ (fun _=>?_))
   | exact strconv_FormatInt_121.mono _ _ _
   | exact LeO.none _
   | refine LeO.ite ?_ ?_
   | refine LeO.bind ?_ (fun _=>?_)
set_option maxHeartbeats 8000000 in
set_option maxRecDepth 100000 in
theorem strconv_FormatInt_106.calls (k:Nat) (a0:Int) (a1:Int) (r:ByteArray) (w:World) (h:strconv_FormatInt_106.f k a0 a1=some r) :
  Calls Tryd.prog 106 #[.int .i64 a0,.int .i64 a1] w fun e w'=>e = .returned (.string r)∧Drawn0 w w':=by
 have H:((strconv_FormatInt_121.f k a0 a1).bind fun t146=>(some t146))=some r:=h
 clear h
 replace H:=Option.bind_eq_some_iff.mp H
 obtain ⟨t146,A30,H⟩:=H
 replace H:(some t146)=some r:=H
 have A3:=Aside0.mk A30
 clear A30
 obtain rfl:=Option.some.inj H
 go_enter Tryd.func106,Tryd.ntmps106
 go_wp2_with (first | ((with_reducible refine gc_ 121 ?_);refine gl_ (some 7) Tryd.func121 #[.int .i64 a0,.int .i64 a1] ?_;(with_reducible refine (strconv_FormatInt_121.calls k a0 a1 t146 _ A3.out).mono ?_);rintro e w' ⟨rfl,⟨nd,rfl⟩⟩;refine ⟨_,rfl,?_⟩))
 go_ret
 exact ⟨z2_,z6_⟩


/-! ### impl_decimal: function 76 -/
def impl_decimal.f (k:Nat) (a0:Int):Option (ByteArray):=(strconv_FormatInt_106.f k a0 10).bind fun t147=>(some t147)
theorem impl_decimal.mono:∀ a0 k,LeO (impl_decimal.f k a0) (impl_decimal.f (k+1) a0):=by
 intro a0 k
 unfold impl_decimal.f
 repeat' first
   | (with_reducible exact strconv_FormatInt_106.mono _ _ _)
   | (with_reducible exact LeO.refl _)
   | (with_reducible exact LeO.none _)
   | (with_reducible refine LeO.ite ?_ ?_)
   | (with_reducible refine LeO.bind ?_ (fun _=>?_))
   | exact strconv_FormatInt_106.mono _ _ _
   | exact LeO.none _
   | refine LeO.ite ?_ ?_
   | refine LeO.bind ?_ (fun _=>?_)
set_option maxHeartbeats 8000000 in
set_option maxRecDepth 100000 in
theorem impl_decimal.calls (k:Nat) (a0:Int) (r:ByteArray) (w:World) (h:impl_decimal.f k a0=some r) :
  Calls Tryd.prog 76 #[.int .i64 a0] w fun e w'=>e = .returned (.string r)∧Drawn0 w w':=by
 have H:((strconv_FormatInt_106.f k a0 10).bind fun t147=>(some t147))=some r:=h
 clear h
 replace H:=Option.bind_eq_some_iff.mp H
 obtain ⟨t147,A20,H⟩:=H
 replace H:(some t147)=some r:=H
 have A2:=Aside0.mk A20
 clear A20
 obtain rfl:=Option.some.inj H
 go_enter Tryd.func76,Tryd.ntmps76
 go_wp2_with (first | ((with_reducible refine gc_ 106 ?_);refine gl_ (some 4) Tryd.func106 #[.int .i64 a0,.int .i64 10] ?_;(with_reducible refine (strconv_FormatInt_106.calls k a0 10 t147 _ A2.out).mono ?_);rintro e w' ⟨rfl,⟨nd,rfl⟩⟩;refine ⟨_,rfl,?_⟩))
 go_ret
 exact ⟨z2_,z6_⟩


/-! ### bits_Len64: function 131 -/
mutual
def bits_Len64.j0:Nat→Int→Int→Option (Int)
 | 0,_,_=>none
 | k+1,x0,x2=>if x0≥65536 then (bits_Len64.j1 k (x0 / 65536) (wrap64 (x2+16))) else (bits_Len64.j1 k x0 x2)
def bits_Len64.j1:Nat→Int→Int→Option (Int)
 | 0,_,_=>none
 | k+1,x0,x2=>if x0≥256 then (if 0≤((x0 / 256) % 256) then (if ((x0 / 256) % 256)<256 then (some (wrap64 ((wrap64 (x2+8))+(wrap64 (bt (⟨#[0,1,2,2,3,3,3,3,4,4,4,4,4,4,4,4,5,5,5,5,5,5,5,5,5,5,5,5,5,5,5,5,6,6,6,6,6,6,6,6,6,6,6,6,6,6,6,6,6,6,6,6,6,6,6,6,6,6,6,6,6,6,6,6,7,7,7,7,7,7,7,7,7,7,7,7,7,7,7,7,7,7,7,7,7,7,7,7,7,7,7,7,7,7,7,7,7,7,7,7,7,7,7,7,7,7,7,7,7,7,7,7,7,7,7,7,7,7,7,7,7,7,7,7,7,7,7,7,8,8,8,8,8,8,8,8,8,8,8,8,8,8,8,8,8,8,8,8,8,8,8,8,8,8,8,8,8,8,8,8,8,8,8,8,8,8,8,8,8,8,8,8,8,8,8,8,8,8,8,8,8,8,8,8,8,8,8,8,8,8,8,8,8,8,8,8,8,8,8,8,8,8,8,8,8,8,8,8,8,8,8,8,8,8,8,8,8,8,8,8,8,8,8,8,8,8,8,8,8,8,8,8,8,8,8,8,8,8,8,8,8,8,8,8,8,8,8,8,8,8,8,8,8,8,8,8]⟩:ByteArray) ((x0 / 256) % 256)))))) else (none)) else (none)) else (if 0≤((x0) % 256) then (if ((x0) % 256)<256 then (some (wrap64 (x2+(wrap64 (bt (⟨#[0,1,2,2,3,3,3,3,4,4,4,4,4,4,4,4,5,5,5,5,5,5,5,5,5,5,5,5,5,5,5,5,6,6,6,6,6,6,6,6,6,6,6,6,6,6,6,6,6,6,6,6,6,6,6,6,6,6,6,6,6,6,6,6,7,7,7,7,7,7,7,7,7,7,7,7,7,7,7,7,7,7,7,7,7,7,7,7,7,7,7,7,7,7,7,7,7,7,7,7,7,7,7,7,7,7,7,7,7,7,7,7,7,7,7,7,7,7,7,7,7,7,7,7,7,7,7,7,8,8,8,8,8,8,8,8,8,8,8,8,8,8,8,8,8,8,8,8,8,8,8,8,8,8,8,8,8,8,8,8,8,8,8,8,8,8,8,8,8,8,8,8,8,8,8,8,8,8,8,8,8,8,8,8,8,8,8,8,8,8,8,8,8,8,8,8,8,8,8,8,8,8,8,8,8,8,8,8,8,8,8,8,8,8,8,8,8,8,8,8,8,8,8,8,8,8,8,8,8,8,8,8,8,8,8,8,8,8,8,8,8,8,8,8,8,8,8,8,8,8,8,8,8,8,8,8]⟩:ByteArray) ((x0) % 256)))))) else (none)) else (none))
end
def bits_Len64.f (k:Nat) (a0:Int):Option (Int):=if a0≥4294967296 then (bits_Len64.j0 k (a0 / 4294967296) 32) else (bits_Len64.j0 k a0 0)
theorem bits_Len64.mono_l:∀ k,(∀ y0 y1,LeO (bits_Len64.j0 k y0 y1) (bits_Len64.j0 (k+1) y0 y1))∧(∀ y0 y1,LeO (bits_Len64.j1 k y0 y1) (bits_Len64.j1 (k+1) y0 y1))
 | 0=>⟨fun _ _ r h=>by simp [bits_Len64.j0] at h,fun _ _ r h=>by simp [bits_Len64.j1] at h⟩
 | k+1=>by
  obtain ⟨ih0,ih1⟩:=bits_Len64.mono_l k
  refine ⟨?_,?_⟩
  ·intro y0 y1
   unfold bits_Len64.j0
   repeat' first
   | (with_reducible exact ih0 _ _)
   | (with_reducible exact ih1 _ _)
   | (with_reducible exact LeO.refl _)
   | (with_reducible exact LeO.none _)
   | (with_reducible refine LeO.ite ?_ ?_)
   | (with_reducible refine LeO.bind ?_ (fun _=>?_))
   | exact ih0 _ _
   | exact ih1 _ _
   | exact LeO.none _
   | refine LeO.ite ?_ ?_
   | refine LeO.bind ?_ (fun _=>?_)
  ·intro y0 y1
   unfold bits_Len64.j1
   repeat' first
   | (with_reducible exact ih0 _ _)
   | (with_reducible exact ih1 _ _)
   | (with_reducible exact LeO.refl _)
   | (with_reducible exact LeO.none _)
   | (with_reducible refine LeO.ite ?_ ?_)
   | (with_reducible refine LeO.bind ?_ (fun _=>?_))
   | exact ih0 _ _
   | exact ih1 _ _
   | exact LeO.none _
   | refine LeO.ite ?_ ?_
   | refine LeO.bind ?_ (fun _=>?_)
theorem bits_Len64.mono:∀ a0 k,LeO (bits_Len64.f k a0) (bits_Len64.f (k+1) a0):=by
 intro a0 k
 obtain ⟨ih0,ih1⟩:=bits_Len64.mono_l k
 unfold bits_Len64.f
 repeat' first
   | (with_reducible exact ih0 _ _)
   | (with_reducible exact ih1 _ _)
   | (with_reducible exact LeO.refl _)
   | (with_reducible exact LeO.none _)
   | (with_reducible refine LeO.ite ?_ ?_)
   | (with_reducible refine LeO.bind ?_ (fun _=>?_))
   | exact ih0 _ _
   | exact ih1 _ _
   | exact LeO.none _
   | refine LeO.ite ?_ ?_
   | refine LeO.bind ?_ (fun _=>?_)
set_option maxHeartbeats 8000000 in
set_option maxRecDepth 100000 in
theorem bits_Len64.calls (k:Nat) (a0:Int) (r:Int) (w:World) (h:bits_Len64.f k a0=some r) :
  Calls Tryd.prog 131 #[.int .u64 a0] w fun e w'=>e = .returned (.int .i64 r)∧Drawn0 w w':=by
 have H:(if a0≥4294967296 then (bits_Len64.j0 k (a0 / 4294967296) 32) else (bits_Len64.j0 k a0 0))=some r:=h
 clear h
 have HC2:=Aside0.mk H
 clear H
 go_enter Tryd.func131,Tryd.ntmps131
 go_upto_if 4 with (fail)
 go_cut [0,2] (fun v0 v2 wc=>∃ (kq:Nat) (x0_1:Int) (x2_1:Int),v0 = .int .u64 x0_1∧v2 = .int .i64 x2_1∧Aside0 (bits_Len64.j0 kq x0_1 x2_1=some r)∧Aside0 (kq≤k)∧Drawn0 w wc)
 case first =>
  have H:=HC2.out
  clear HC2
  by_cases c3:a0≥4294967296
  ·rw [if_pos c3] at H
   have c3b0:decide (4294967296≤a0)=true:=decide_eq_true c3
   clear c3
   (first | rw [c3b0] | (simp only [i64_w,i32_w];rw [c3b0]) | skip)
   have H':=Aside0.mk H
   clear H
   go_wp2
   go_meet
   case rel=>exact ⟨_,(a0 / 4294967296),(32),(z2_),(z2_),H',⟨by first | omega | exact Nat.le_refl _⟩,z6_⟩
  ·rw [if_neg c3] at H
   have c3b0:decide (4294967296≤a0)=false:=decide_eq_false c3
   clear c3
   (first | rw [c3b0] | (simp only [i64_w,i32_w];rw [c3b0]) | skip)
   have H':=Aside0.mk H
   clear H
   go_wp2
   go_meet
   case rel=>exact ⟨_,(a0),(0),(z2_),(z2_),H',⟨by first | omega | exact Nat.le_refl _⟩,z6_⟩
 case rest =>
  clear HC2
  try clear c1
  try clear p2
  try clear c3
  try clear c3b0
  obtain ⟨kq,x0_1,x2_1,rfl,rfl,HA,HJ1,⟨mc1,rfl⟩⟩:=hcut
  cases kq with
  | zero=>exact absurd HA.out (by simp [bits_Len64.j0])
  | succ kj1 =>
   have H:=HA.out
   clear HA
   simp only [bits_Len64.j0] at H
   have HC4:=Aside0.mk H
   clear H
   go_upto_if 8 with (fail)
   go_cut [0,2] (fun v0 v2 wc=>∃ (kq:Nat) (x0_3:Int) (x2_3:Int),v0 = .int .u64 x0_3∧v2 = .int .i64 x2_3∧Aside0 (bits_Len64.j1 kq x0_3 x2_3=some r)∧Aside0 (kq≤kj1)∧Drawn0 w wc)
   case first =>
    have H:=HC4.out
    clear HC4
    by_cases c5:x0_1≥65536
    ·rw [if_pos c5] at H
     have c5b0:decide (65536≤x0_1)=true:=decide_eq_true c5
     clear c5
     (first | rw [c5b0] | (simp only [i64_w,i32_w];rw [c5b0]) | skip)
     have H':=Aside0.mk H
     clear H
     go_wp2
     go_meet
     case rel=>exact ⟨_,(x0_1 / 65536),(wrap64 (x2_1+16)),(z2_),(z2_),H',⟨z26_ HJ1.out⟩,z6_⟩
    ·rw [if_neg c5] at H
     have c5b0:decide (65536≤x0_1)=false:=decide_eq_false c5
     clear c5
     (first | rw [c5b0] | (simp only [i64_w,i32_w];rw [c5b0]) | skip)
     have H':=Aside0.mk H
     clear H
     go_wp2
     go_meet
     case rel=>exact ⟨_,(x0_1),(x2_1),(z2_),(z2_),H',⟨z26_ HJ1.out⟩,z6_⟩
   case rest =>
    clear HC4
    try clear c1
    try clear p2
    try clear c3
    try clear c3b0
    try clear c5
    try clear c5b0
    try clear p2
    obtain ⟨kq,x0_3,x2_3,rfl,rfl,HA,HJ3,⟨mc3,rfl⟩⟩:=hcut
    cases kq with
    | zero=>exact absurd HA.out (by simp [bits_Len64.j1])
    | succ kj3 =>
     have H:=HA.out
     clear HA
     simp only [bits_Len64.j1] at H
     by_cases c6:x0_3≥256
     ·rw [if_pos c6] at H
      have c6b0:decide (256≤x0_3)=true:=decide_eq_true c6
      clear c6
      obtain ⟨ji7,hji7⟩:∃ j_:Int,((x0_3 / 256) % 256)=j_:=⟨_,rfl⟩
      replace H:(if 0≤(ji7) then (if (ji7)<256 then (some (wrap64 ((wrap64 (x2_3+8))+(wrap64 (bt (⟨#[0,1,2,2,3,3,3,3,4,4,4,4,4,4,4,4,5,5,5,5,5,5,5,5,5,5,5,5,5,5,5,5,6,6,6,6,6,6,6,6,6,6,6,6,6,6,6,6,6,6,6,6,6,6,6,6,6,6,6,6,6,6,6,6,7,7,7,7,7,7,7,7,7,7,7,7,7,7,7,7,7,7,7,7,7,7,7,7,7,7,7,7,7,7,7,7,7,7,7,7,7,7,7,7,7,7,7,7,7,7,7,7,7,7,7,7,7,7,7,7,7,7,7,7,7,7,7,7,8,8,8,8,8,8,8,8,8,8,8,8,8,8,8,8,8,8,8,8,8,8,8,8,8,8,8,8,8,8,8,8,8,8,8,8,8,8,8,8,8,8,8,8,8,8,8,8,8,8,8,8,8,8,8,8,8,8,8,8,8,8,8,8,8,8,8,8,8,8,8,8,8,8,8,8,8,8,8,8,8,8,8,8,8,8,8,8,8,8,8,8,8,8,8,8,8,8,8,8,8,8,8,8,8,8,8,8,8,8,8,8,8,8,8,8,8,8,8,8,8,8,8,8,8,8,8,8]⟩:ByteArray) (ji7)))))) else (none)) else (none))=some r:=by first | (rw [hji7] at H;exact H) | (simp only [hji7] at H ⊢;exact H)
      by_cases c8:0≤(ji7)
      ·rw [if_pos c8] at H
       have c8b0:decide (0≤(ji7))=true:=decide_eq_true c8
       clear c8
       by_cases c9:(ji7)<256
       ·rw [if_pos c9] at H
        have c9b0:decide ((ji7)<256)=true:=decide_eq_true c9
        clear c9
        obtain rfl:=Option.some.inj H
        have p10:0≤((ji7):Int):=of_decide_eq_true (z0_)
        have q10:(ji7)<(256:Int):=of_decide_eq_true (z0_)
        have hx10:=bt_at (⟨#[0,1,2,2,3,3,3,3,4,4,4,4,4,4,4,4,5,5,5,5,5,5,5,5,5,5,5,5,5,5,5,5,6,6,6,6,6,6,6,6,6,6,6,6,6,6,6,6,6,6,6,6,6,6,6,6,6,6,6,6,6,6,6,6,7,7,7,7,7,7,7,7,7,7,7,7,7,7,7,7,7,7,7,7,7,7,7,7,7,7,7,7,7,7,7,7,7,7,7,7,7,7,7,7,7,7,7,7,7,7,7,7,7,7,7,7,7,7,7,7,7,7,7,7,7,7,7,7,8,8,8,8,8,8,8,8,8,8,8,8,8,8,8,8,8,8,8,8,8,8,8,8,8,8,8,8,8,8,8,8,8,8,8,8,8,8,8,8,8,8,8,8,8,8,8,8,8,8,8,8,8,8,8,8,8,8,8,8,8,8,8,8,8,8,8,8,8,8,8,8,8,8,8,8,8,8,8,8,8,8,8,8,8,8,8,8,8,8,8,8,8,8,8,8,8,8,8,8,8,8,8,8,8,8,8,8,8,8,8,8,8,8,8,8,8,8,8,8,8,8,8,8,8,8,8,8]⟩:ByteArray) (ji7)
        replace p10:=eq_true p10
        replace q10:=eq_true q10
        go_wp2
        go_ret
        exact ⟨by first | rfl | (simp;done) | (simp only [← hji7] <;> (first | rfl | simp)) | (simp [*];done),z6_⟩
       ·rw [if_neg c9] at H
        exact absurd H (by simp)
      ·rw [if_neg c8] at H
       exact absurd H (by simp)
     ·rw [if_neg c6] at H
      have c6b0:decide (256≤x0_3)=false:=decide_eq_false c6
      clear c6
      obtain ⟨ji11,hji11⟩:∃ j_:Int,((x0_3) % 256)=j_:=⟨_,rfl⟩
      replace H:(if 0≤(ji11) then (if (ji11)<256 then (some (wrap64 (x2_3+(wrap64 (bt (⟨#[0,1,2,2,3,3,3,3,4,4,4,4,4,4,4,4,5,5,5,5,5,5,5,5,5,5,5,5,5,5,5,5,6,6,6,6,6,6,6,6,6,6,6,6,6,6,6,6,6,6,6,6,6,6,6,6,6,6,6,6,6,6,6,6,7,7,7,7,7,7,7,7,7,7,7,7,7,7,7,7,7,7,7,7,7,7,7,7,7,7,7,7,7,7,7,7,7,7,7,7,7,7,7,7,7,7,7,7,7,7,7,7,7,7,7,7,7,7,7,7,7,7,7,7,7,7,7,7,8,8,8,8,8,8,8,8,8,8,8,8,8,8,8,8,8,8,8,8,8,8,8,8,8,8,8,8,8,8,8,8,8,8,8,8,8,8,8,8,8,8,8,8,8,8,8,8,8,8,8,8,8,8,8,8,8,8,8,8,8,8,8,8,8,8,8,8,8,8,8,8,8,8,8,8,8,8,8,8,8,8,8,8,8,8,8,8,8,8,8,8,8,8,8,8,8,8,8,8,8,8,8,8,8,8,8,8,8,8,8,8,8,8,8,8,8,8,8,8,8,8,8,8,8,8,8,8]⟩:ByteArray) (ji11)))))) else (none)) else (none))=some r:=by first | (rw [hji11] at H;exact H) | (simp only [hji11] at H ⊢;exact H)
      by_cases c12:0≤(ji11)
      ·rw [if_pos c12] at H
       have c12b0:decide (0≤(ji11))=true:=decide_eq_true c12
       clear c12
       by_cases c13:(ji11)<256
       ·rw [if_pos c13] at H
        have c13b0:decide ((ji11)<256)=true:=decide_eq_true c13
        clear c13
        obtain rfl:=Option.some.inj H
        have p14:0≤((ji11):Int):=of_decide_eq_true (z0_)
        have q14:(ji11)<(256:Int):=of_decide_eq_true (z0_)
        have hx14:=bt_at (⟨#[0,1,2,2,3,3,3,3,4,4,4,4,4,4,4,4,5,5,5,5,5,5,5,5,5,5,5,5,5,5,5,5,6,6,6,6,6,6,6,6,6,6,6,6,6,6,6,6,6,6,6,6,6,6,6,6,6,6,6,6,6,6,6,6,7,7,7,7,7,7,7,7,7,7,7,7,7,7,7,7,7,7,7,7,7,7,7,7,7,7,7,7,7,7,7,7,7,7,7,7,7,7,7,7,7,7,7,7,7,7,7,7,7,7,7,7,7,7,7,7,7,7,7,7,7,7,7,7,8,8,8,8,8,8,8,8,8,8,8,8,8,8,8,8,8,8,8,8,8,8,8,8,8,8,8,8,8,8,8,8,8,8,8,8,8,8,8,8,8,8,8,8,8,8,8,8,8,8,8,8,8,8,8,8,8,8,8,8,8,8,8,8,8,8,8,8,8,8,8,8,8,8,8,8,8,8,8,8,8,8,8,8,8,8,8,8,8,8,8,8,8,8,8,8,8,8,8,8,8,8,8,8,8,8,8,8,8,8,8,8,8,8,8,8,8,8,8,8,8,8,8,8,8,8,8,8]⟩:ByteArray) (ji11)
        replace p14:=eq_true p14
        replace q14:=eq_true q14
        go_wp2
        go_ret
        exact ⟨by first | rfl | (simp;done) | (simp only [← hji11] <;> (first | rfl | simp)) | (simp [*];done),z6_⟩
       ·rw [if_neg c13] at H
        exact absurd H (by simp)
      ·rw [if_neg c12] at H
       exact absurd H (by simp)


/-! ### bits_Len: function 108 -/
def bits_Len.f (k:Nat) (a0:Int):Option (Int):=(bits_Len64.f k a0).bind fun t148=>(some t148)
theorem bits_Len.mono:∀ a0 k,LeO (bits_Len.f k a0) (bits_Len.f (k+1) a0):=by
 intro a0 k
 unfold bits_Len.f
 repeat' first
   | (with_reducible exact bits_Len64.mono _ _)
   | (with_reducible exact LeO.refl _)
   | (with_reducible exact LeO.none _)
   | (with_reducible refine LeO.ite ?_ ?_)
   | (with_reducible refine LeO.bind ?_ (fun _=>?_))
   | exact bits_Len64.mono _ _
   | exact LeO.none _
   | refine LeO.ite ?_ ?_
   | refine LeO.bind ?_ (fun _=>?_)
set_option maxHeartbeats 8000000 in
set_option maxRecDepth 100000 in
theorem bits_Len.calls (k:Nat) (a0:Int) (r:Int) (w:World) (h:bits_Len.f k a0=some r) :
  Calls Tryd.prog 108 #[.int .u64 a0] w fun e w'=>e = .returned (.int .i64 r)∧Drawn0 w w':=by
 have H:((bits_Len64.f k a0).bind fun t148=>(some t148))=some r:=h
 clear h
 replace H:=Option.bind_eq_some_iff.mp H
 obtain ⟨t148,A20,H⟩:=H
 replace H:(some t148)=some r:=H
 have A2:=Aside0.mk A20
 clear A20
 obtain rfl:=Option.some.inj H
 go_enter Tryd.func108,Tryd.ntmps108
 go_wp2_with (first | ((with_reducible refine gc_ 131 ?_);refine gl_ (some 7) Tryd.func131 #[.int .u64 a0] ?_;(with_reducible refine (bits_Len64.calls k a0 t148 _ A2.out).mono ?_);rintro e w' ⟨rfl,⟨nd,rfl⟩⟩;refine ⟨_,rfl,?_⟩))
 go_ret
 exact ⟨z2_,z6_⟩


/-! ### cmp_Or_int: function 79 -/
def cmp_Or_int.l0:Nat→Int→List Int→Int→Int→Option (Int)
 | 0,_,_,_,_=>none
 | k+1,x3,x6,x7,x8=>if x8<x7 then (if 0≤x8 then (if x8<(x6.length:Int) then (if (rd x6 x8)=x3 then (cmp_Or_int.l0 k x3 x6 x7 (wrap64 (x8+1))) else (some (rd x6 x8))) else (none)) else (none)) else (some x3)
def cmp_Or_int.f (k:Nat) (l0:List Int):Option (Int):=cmp_Or_int.l0 k 0 l0 (l0.length:Int) 0
theorem cmp_Or_int.mono_l:∀ k,(∀ y0 y1 y2 y3,LeO (cmp_Or_int.l0 k y0 y1 y2 y3) (cmp_Or_int.l0 (k+1) y0 y1 y2 y3))
 | 0=>fun _ _ _ _ r h=>by simp [cmp_Or_int.l0] at h
 | k+1=>by
  have ih0:=cmp_Or_int.mono_l k
  ·intro y0 y1 y2 y3
   unfold cmp_Or_int.l0
   repeat' first
   | (with_reducible exact ih0 _ _ _ _)
   | (with_reducible exact LeO.refl _)
   | (with_reducible exact LeO.none _)
   | (with_reducible refine LeO.ite ?_ ?_)
   | (with_reducible refine LeO.bind ?_ (fun _=>?_))
   | exact ih0 _ _ _ _
   | exact LeO.none _
   | refine LeO.ite ?_ ?_
   | refine LeO.bind ?_ (fun _=>?_)
theorem cmp_Or_int.mono:∀ a0 k,LeO (cmp_Or_int.f k a0) (cmp_Or_int.f (k+1) a0):=by
 intro a0 k
 have ih0:=cmp_Or_int.mono_l k
 unfold cmp_Or_int.f
 repeat' first
   | (with_reducible exact ih0 _ _ _ _)
   | (with_reducible exact LeO.refl _)
   | (with_reducible exact LeO.none _)
   | (with_reducible refine LeO.ite ?_ ?_)
   | (with_reducible refine LeO.bind ?_ (fun _=>?_))
   | exact ih0 _ _ _ _
   | exact LeO.none _
   | refine LeO.ite ?_ ?_
   | refine LeO.bind ?_ (fun _=>?_)
set_option maxHeartbeats 8000000 in
set_option maxRecDepth 100000 in
theorem cmp_Or_int.calls (k:Nat) (A0:Option Addr) (c0:Nat) (l0:List Int) (r:Int) (w:World) (hr0:Kd.C (Kd.int .i64) w A0 l0.length l0) (hc0:l0.length≤c0) (h:cmp_Or_int.f k l0=some r) :
  Calls Tryd.prog 79 #[.slice A0 l0.length c0] w fun e w'=>e = .returned (.int .i64 r)∧Drawn0 w w':=by
 have HR0:=Aside0.mk hr0
 have HC0:=Aside0.mk hc0
 clear hr0 hc0
 have H:(cmp_Or_int.l0 k 0 l0 (l0.length:Int) 0)=some r:=h
 clear h
 have H':=Aside0.mk H
 clear H
 go_enter Tryd.func79,Tryd.ntmps79
 go_wp2
 go_loopg [8] k (fun kq v8 w'=>∃ (x8_1:Int),v8 = .int .i64 x8_1∧Aside0 (cmp_Or_int.l0 kq 0 l0 (l0.length:Int) x8_1=some r)∧Aside0 (kq≤k)∧Drawn0 w w')
 case atStart=>exact ⟨(0),(z2_),H',⟨Nat.le_refl _⟩,z6_⟩
 case round =>
  clear H'
  obtain ⟨x8_1,rfl,HA,HK1,⟨m1,rfl⟩⟩:=hrel
  cases gk with
  | zero=>exact absurd HA.out (by simp [cmp_Or_int.l0])
  | succ k1 =>
   have H:=HA.out
   clear HA
   simp only [cmp_Or_int.l0] at H
   by_cases c2:x8_1<(l0.length:Int)
   ·rw [if_pos c2] at H
    have c2b0:decide (x8_1<(l0.length:Int))=true:=decide_eq_true c2
    clear c2
    by_cases c3:0≤x8_1
    ·rw [if_pos c3] at H
     have c3b0:decide (0≤x8_1)=true:=decide_eq_true c3
     clear c3
     by_cases c4:x8_1<(l0.length:Int)
     ·rw [if_pos c4] at H
      have c4b0:decide (x8_1<(l0.length:Int))=true:=decide_eq_true c4
      clear c4
      by_cases c5:(rd l0 x8_1)=0
      ·rw [if_pos c5] at H
       have c5b0:((rd l0 x8_1) == 0)=true:=beq_iff_eq.mpr c5
       have c5b1:((rd l0 x8_1) != 0)=false:=bne_eq_false_iff_eq.mpr c5
       clear c5
       have H':=Aside0.mk H
       clear H
       have p149:0≤(x8_1:Int):=of_decide_eq_true (z0_)
       have q149:x8_1<(l0.length:Int):=of_decide_eq_true (z0_)
       obtain ⟨ad149,e149,hx149_0⟩:=Kd.at_int HR0.out x8_1 p149 q149
       cases e149
       replace p149:=eq_true p149
       replace q149:=eq_true q149
       go_wp2
       go_roundg k1
       case measure=>have:=HK1.out;omega
       case rel=>exact ⟨(wrap64 (x8_1+1)),(z2_),H',⟨by have:=HK1.out;omega⟩,z6_⟩
      ·rw [if_neg c5] at H
       have c5b0:((rd l0 x8_1) == 0)=false:=beq_eq_false_iff_ne.mpr c5
       have c5b1:((rd l0 x8_1) != 0)=true:=bne_iff_ne.mpr c5
       obtain rfl:=Option.some.inj H
       have p149:0≤(x8_1:Int):=of_decide_eq_true (z0_)
       have q149:x8_1<(l0.length:Int):=of_decide_eq_true (z0_)
       obtain ⟨ad149,e149,hx149_0⟩:=Kd.at_int HR0.out x8_1 p149 q149
       cases e149
       replace p149:=eq_true p149
       replace q149:=eq_true q149
       go_wp2
       go_ret
       exact ⟨z2_,z6_⟩
     ·rw [if_neg c4] at H
      exact absurd H (by simp)
    ·rw [if_neg c3] at H
     exact absurd H (by simp)
   ·rw [if_neg c2] at H
    have c2b0:decide (x8_1<(l0.length:Int))=false:=decide_eq_false c2
    clear c2
    obtain rfl:=Option.some.inj H
    go_wp2
    go_ret
    exact ⟨z2_,z6_⟩


/-! ### cmp_isNaN_int64: function 109 -/
def cmp_isNaN_int64.f (a0:Int):Option (Bool):=some (a0 != a0)
set_option maxHeartbeats 8000000 in
set_option maxRecDepth 100000 in
theorem cmp_isNaN_int64.calls (a0:Int) (r:Bool) (w:World) (h:cmp_isNaN_int64.f a0=some r) :
  Calls Tryd.prog 109 #[.int .i64 a0] w fun e w'=>e = .returned (.bool r)∧Drawn0 w w':=by
 have H:(some (a0 != a0))=some r:=h
 clear h
 obtain rfl:=Option.some.inj H
 go_enter Tryd.func109,Tryd.ntmps109
 go_wp2
 go_ret
 exact ⟨z2_,z6_⟩


/-! ### cmp_Compare_int64: function 80 -/
def cmp_Compare_int64.f (a0:Int) (a1:Int):Option (Int):=(cmp_isNaN_int64.f a0).bind fun t150=>((cmp_isNaN_int64.f a1).bind fun t151=>(if t150=true then (if t151=true then (some 0) else (some (-1))) else (if t151=true then (some 1) else (if a0<a1 then (some (-1)) else (if a0>a1 then (some 1) else (some 0))))))
set_option maxHeartbeats 8000000 in
set_option maxRecDepth 100000 in
theorem cmp_Compare_int64.calls (a0:Int) (a1:Int) (r:Int) (w:World) (h:cmp_Compare_int64.f a0 a1=some r) :
  Calls Tryd.prog 80 #[.int .i64 a0,.int .i64 a1] w fun e w'=>e = .returned (.int .i64 r)∧Drawn0 w w':=by
 have H:((cmp_isNaN_int64.f a0).bind fun t150=>((cmp_isNaN_int64.f a1).bind fun t151=>(if t150=true then (if t151=true then (some 0) else (some (-1))) else (if t151=true then (some 1) else (if a0<a1 then (some (-1)) else (if a0>a1 then (some 1) else (some 0)))))))=some r:=h
 clear h
 replace H:=Option.bind_eq_some_iff.mp H
 obtain ⟨t150,A30,H⟩:=H
 replace H:((cmp_isNaN_int64.f a1).bind fun t151=>(if t150=true then (if t151=true then (some 0) else (some (-1))) else (if t151=true then (some 1) else (if a0<a1 then (some (-1)) else (if a0>a1 then (some 1) else (some 0))))))=some r:=H
 have A3:=Aside0.mk A30
 clear A30
 replace H:=Option.bind_eq_some_iff.mp H
 obtain ⟨t151,A40,H⟩:=H
 replace H:(if t150=true then (if t151=true then (some 0) else (some (-1))) else (if t151=true then (some 1) else (if a0<a1 then (some (-1)) else (if a0>a1 then (some 1) else (some 0)))))=some r:=H
 have A4:=Aside0.mk A40
 clear A40
 by_cases c5:t150=true
 ·subst c5
  have H1:(if t151=true then (some 0) else (some (-1)))=some r:=by rw [if_pos rfl] at H;exact H
  clear H
  have H:=H1
  clear H1
  by_cases c6:t151=true
  ·subst c6
   have H1:(some 0)=some r:=by rw [if_pos rfl] at H;exact H
   clear H
   have H:=H1
   clear H1
   obtain rfl:=Option.some.inj H
   go_enter Tryd.func80,Tryd.ntmps80
   go_wp2_with (first | ((with_reducible refine gc_ 109 ?_);refine gl_ (some 8) Tryd.func109 #[.int .i64 a0] ?_;(with_reducible refine (cmp_isNaN_int64.calls a0 true _ A3.out).mono ?_);rintro e w' ⟨rfl,⟨nd,rfl⟩⟩;refine ⟨_,rfl,?_⟩) | ((with_reducible refine gc_ 109 ?_);refine gl_ (some 10) Tryd.func109 #[.int .i64 a1] ?_;(with_reducible refine (cmp_isNaN_int64.calls a1 true _ A4.out).mono ?_);rintro e w' ⟨rfl,⟨nd,rfl⟩⟩;refine ⟨_,rfl,?_⟩))
   go_ret
   exact ⟨z2_,z6_⟩
  ·replace c6:=Bool.eq_false_iff.mpr c6
   subst c6
   have H1:(some (-1))=some r:=by rw [if_neg (show ¬ (false=true) by decide)] at H;exact H
   clear H
   have H:=H1
   clear H1
   obtain rfl:=Option.some.inj H
   go_enter Tryd.func80,Tryd.ntmps80
   go_wp2_with (first | ((with_reducible refine gc_ 109 ?_);refine gl_ (some 8) Tryd.func109 #[.int .i64 a0] ?_;(with_reducible refine (cmp_isNaN_int64.calls a0 true _ A3.out).mono ?_);rintro e w' ⟨rfl,⟨nd,rfl⟩⟩;refine ⟨_,rfl,?_⟩) | ((with_reducible refine gc_ 109 ?_);refine gl_ (some 10) Tryd.func109 #[.int .i64 a1] ?_;(with_reducible refine (cmp_isNaN_int64.calls a1 false _ A4.out).mono ?_);rintro e w' ⟨rfl,⟨nd,rfl⟩⟩;refine ⟨_,rfl,?_⟩))
   go_ret
   exact ⟨z2_,z6_⟩
 ·replace c5:=Bool.eq_false_iff.mpr c5
  subst c5
  have H1:(if t151=true then (some 1) else (if a0<a1 then (some (-1)) else (if a0>a1 then (some 1) else (some 0))))=some r:=by rw [if_neg (show ¬ (false=true) by decide)] at H;exact H
  clear H
  have H:=H1
  clear H1
  by_cases c7:t151=true
  ·subst c7
   have H1:(some 1)=some r:=by rw [if_pos rfl] at H;exact H
   clear H
   have H:=H1
   clear H1
   obtain rfl:=Option.some.inj H
   go_enter Tryd.func80,Tryd.ntmps80
   go_wp2_with (first | ((with_reducible refine gc_ 109 ?_);refine gl_ (some 8) Tryd.func109 #[.int .i64 a0] ?_;(with_reducible refine (cmp_isNaN_int64.calls a0 false _ A3.out).mono ?_);rintro e w' ⟨rfl,⟨nd,rfl⟩⟩;refine ⟨_,rfl,?_⟩) | ((with_reducible refine gc_ 109 ?_);refine gl_ (some 10) Tryd.func109 #[.int .i64 a1] ?_;(with_reducible refine (cmp_isNaN_int64.calls a1 true _ A4.out).mono ?_);rintro e w' ⟨rfl,⟨nd,rfl⟩⟩;refine ⟨_,rfl,?_⟩))
   go_ret
   exact ⟨z2_,z6_⟩
  ·replace c7:=Bool.eq_false_iff.mpr c7
   subst c7
   have H1:(if a0<a1 then (some (-1)) else (if a0>a1 then (some 1) else (some 0)))=some r:=by rw [if_neg (show ¬ (false=true) by decide)] at H;exact H
   clear H
   have H:=H1
   clear H1
   by_cases c8:a0<a1
   ·rw [if_pos c8] at H
    have c8b0:decide (a0<a1)=true:=decide_eq_true c8
    clear c8
    obtain rfl:=Option.some.inj H
    go_enter Tryd.func80,Tryd.ntmps80
    go_wp2_with (first | ((with_reducible refine gc_ 109 ?_);refine gl_ (some 8) Tryd.func109 #[.int .i64 a0] ?_;(with_reducible refine (cmp_isNaN_int64.calls a0 false _ A3.out).mono ?_);rintro e w' ⟨rfl,⟨nd,rfl⟩⟩;refine ⟨_,rfl,?_⟩) | ((with_reducible refine gc_ 109 ?_);refine gl_ (some 10) Tryd.func109 #[.int .i64 a1] ?_;(with_reducible refine (cmp_isNaN_int64.calls a1 false _ A4.out).mono ?_);rintro e w' ⟨rfl,⟨nd,rfl⟩⟩;refine ⟨_,rfl,?_⟩))
    go_ret
    exact ⟨z2_,z6_⟩
   ·rw [if_neg c8] at H
    have c8b0:decide (a0<a1)=false:=decide_eq_false c8
    clear c8
    by_cases c9:a0>a1
    ·rw [if_pos c9] at H
     have c9b0:decide (a1<a0)=true:=decide_eq_true c9
     clear c9
     obtain rfl:=Option.some.inj H
     go_enter Tryd.func80,Tryd.ntmps80
     go_wp2_with (first | ((with_reducible refine gc_ 109 ?_);refine gl_ (some 8) Tryd.func109 #[.int .i64 a0] ?_;(with_reducible refine (cmp_isNaN_int64.calls a0 false _ A3.out).mono ?_);rintro e w' ⟨rfl,⟨nd,rfl⟩⟩;refine ⟨_,rfl,?_⟩) | ((with_reducible refine gc_ 109 ?_);refine gl_ (some 10) Tryd.func109 #[.int .i64 a1] ?_;(with_reducible refine (cmp_isNaN_int64.calls a1 false _ A4.out).mono ?_);rintro e w' ⟨rfl,⟨nd,rfl⟩⟩;refine ⟨_,rfl,?_⟩))
     go_ret
     exact ⟨z2_,z6_⟩
    ·rw [if_neg c9] at H
     have c9b0:decide (a1<a0)=false:=decide_eq_false c9
     clear c9
     obtain rfl:=Option.some.inj H
     go_enter Tryd.func80,Tryd.ntmps80
     go_wp2_with (first | ((with_reducible refine gc_ 109 ?_);refine gl_ (some 8) Tryd.func109 #[.int .i64 a0] ?_;(with_reducible refine (cmp_isNaN_int64.calls a0 false _ A3.out).mono ?_);rintro e w' ⟨rfl,⟨nd,rfl⟩⟩;refine ⟨_,rfl,?_⟩) | ((with_reducible refine gc_ 109 ?_);refine gl_ (some 10) Tryd.func109 #[.int .i64 a1] ?_;(with_reducible refine (cmp_isNaN_int64.calls a1 false _ A4.out).mono ?_);rintro e w' ⟨rfl,⟨nd,rfl⟩⟩;refine ⟨_,rfl,?_⟩))
     go_ret
     exact ⟨z2_,z6_⟩


/-! ### impl_ringNew_1: function 78 -/
def impl_ringNew_1.f (k:Nat) (a0_0:Int) (a0_1:Int) (a1_0:Int) (a1_1:Int):Option (Int):=(cmp_Compare_int64.f a0_0 a1_0).bind fun t154=>((cmp_Compare_int64.f a0_1 a1_1).bind fun t155=>((cmp_Or_int.f k (([t154,t155]:List Int))).bind fun t159=>(some t159)))
theorem impl_ringNew_1.mono:∀ a0 a1 a2 a3 k,LeO (impl_ringNew_1.f k a0 a1 a2 a3) (impl_ringNew_1.f (k+1) a0 a1 a2 a3):=by
 intro a0 a1 a2 a3 k
 unfold impl_ringNew_1.f
 repeat' first
   | (with_reducible exact cmp_Or_int.mono _ _)
   | (with_reducible exact LeO.refl _)
   | (with_reducible exact LeO.none _)
   | (with_reducible refine LeO.ite ?_ ?_)
   | (with_reducible refine LeO.bind ?_ (fun _=>?_))
   | exact cmp_Or_int.mono _ _
   | exact LeO.none _
   | refine LeO.ite ?_ ?_
   | refine LeO.bind ?_ (fun _=>?_)
def impl_ringNew_1.T1:Bool × List (List Nat × List Nat):=(true,[([],[]),([0],[0]),([],[]),([2],[2]),([1,3],[1,3]),([],[]),([5],[5]),([],[]),([7],[7]),([6,8,4],[6,8]),([4,9],[4,9]),([10,9],[10]),([11,11,0,1,2,3,4,5,6,7,8,9,10,11],[11])])
def impl_ringNew_1.B1:List Nat:=[0,1,0,4,15,0,32,0,128,511,1023,2047,4095]
theorem impl_ringNew_1.tab1:rtab .any (opsOf Tryd.f78 1)=impl_ringNew_1.T1:=by kernel_rfl
theorem impl_ringNew_1.bits1:waitsOk impl_ringNew_1.T1.2 impl_ringNew_1.B1=true:=by kernel_rfl
set_option maxHeartbeats 8000000 in
set_option maxRecDepth 100000 in
theorem impl_ringNew_1.calls (k:Nat) (a0_0:Int) (a0_1:Int) (a1_0:Int) (a1_1:Int) (r:Int) (w:World) (h:impl_ringNew_1.f k a0_0 a0_1 a1_0 a1_1=some r) :
  Calls Tryd.prog 78 #[.agg #[.int .i64 a0_0,.int .i64 a0_1],.agg #[.int .i64 a1_0,.int .i64 a1_1]] w fun e w'=>e = .returned (.int .i64 r)∧Below w.heap.size w w':=by
 have hu77:=Tryd.underlying77
 have HB:=Aside0.mk (Below.refl w.heap.size w)
 have H:((cmp_Compare_int64.f a0_0 a1_0).bind fun t154=>((cmp_Compare_int64.f a0_1 a1_1).bind fun t155=>((cmp_Or_int.f k (([t154,t155]:List Int))).bind fun t159=>(some t159))))=some r:=h
 clear h
 replace H:=Option.bind_eq_some_iff.mp H
 obtain ⟨t154,A30,H⟩:=H
 replace H:((cmp_Compare_int64.f a0_1 a1_1).bind fun t155=>((cmp_Or_int.f k (([t154,t155]:List Int))).bind fun t159=>(some t159)))=some r:=H
 have A3:=Aside0.mk A30
 clear A30
 replace H:=Option.bind_eq_some_iff.mp H
 obtain ⟨t155,A40,H⟩:=H
 replace H:((cmp_Or_int.f k (([t154,t155]:List Int))).bind fun t159=>(some t159))=some r:=H
 have A4:=Aside0.mk A40
 clear A40
 obtain ⟨y156,hy156⟩:∃ y_:List Int,y_=(([t154,t155]:List Int)):=⟨_,rfl⟩
 replace H:((cmp_Or_int.f k y156).bind fun t159=>(some t159))=some r:=by first | (rw [hy156];with_reducible exact H) | (have H2_:=(Option.bind_some _ _).symm.trans H;rw [hy156];with_reducible exact H2_) | (have H2_:=(Option.bind_some _ _).symm.trans H;with_reducible exact H2_) | with_reducible exact H | (rw [hy156];exact H) | exact H
 have Ny156:=Aside0.mk hy156
 clear hy156
 replace H:=Option.bind_eq_some_iff.mp H
 obtain ⟨t159,A50,H⟩:=H
 replace H:(some t159)=some r:=H
 have A5:=Aside0.mk A50
 clear A50
 obtain rfl:=Option.some.inj H
 go_enter Tryd.func78,Tryd.ntmps78
 try go_wp2_with (first | ((with_reducible refine gd_ 2 ?_);refine be_ 2 #[.int .i64 a0_0,.int .i64 a0_1] 77 ?_;intro gb152 hg w6 hbox hb;refine as4_ (below_step (z4_ HB.out) hb) (hbox) ((z8_ HB.out:w.heap.size≤gb152)) ((z8_ HB.out:w.heap.size≤gb152)) ?_;clear HB;intro HB BK152 GW152 GE152;clear hb hbox hg) | ((with_reducible refine gd_ 3 ?_);refine be_ 3 #[.int .i64 a1_0,.int .i64 a1_1] 77 ?_;intro gb153 hg w7 hbox hb;refine as7_ (blkB_ BK152.out hb) (below_step (z7_ HB.out GE152.out) hb) (hbox) ((z11_ HB.out GE152.out:w.heap.size≤gb153)) ((z11_ HB.out GE152.out:w.heap.size≤gb153)) (neL_ BK152.out hg) (neG_ BK152.out hg) ?_;clear BK152 HB;intro BK152 HB BK153 GW153 GE153 NB152_153 NB153_152;clear hb hbox hg))
 refine as3_ (blk_drew BK152.out) (blk_drew BK153.out) (below_drew1 HB.out) ?_
 clear BK152 BK153 HB
 intro BK152 BK153 HB
 refine start_ (n:=13) (S:=fun w'=>w'.cell? ⟨gb152,0,none⟩=some (.int .i64 a0_0)∧w'.cell? ⟨gb152,1,none⟩=some (.int .i64 a0_1)∧w'.cell? ⟨gb153,0,none⟩=some (.int .i64 a1_0)∧w'.cell? ⟨gb153,1,none⟩=some (.int .i64 a1_1)) (ds:=[]) #[O,O,O,O,O,O,O,O,O,O,O,O,O] (by kernel_rfl) rfl rfl (cj2_ BK152.out (cc2_ BK153.out)) (fun hHeld=>?_);refine with_tabW impl_ringNew_1.tab1 impl_ringNew_1.bits1 (fun HT_ HW_=>?_)
 generalize w7.drew=w8 at BK152 BK153 HB hHeld ⊢
 refine pu_ 0 5 #[I,O,O,O,O,O,O,O,O,O,O,O,O] HT_.out ?_
 refine pu_ 2 7 #[I,O,I,O,O,O,O,O,O,O,O,O,O] HT_.out ?_
 refine pu_ 5 10 #[I,O,I,O,O,I,O,O,O,O,O,O,O] HT_.out ?_
 refine pu_ 7 12 #[I,O,I,O,O,I,O,I,O,O,O,O,O] HT_.out ?_
 refine tk4_ 1 6 #[I,I,I,O,O,I,O,I,O,O,O,O,O] HT_.out HW_.out hHeld ?_
 refine tk4_ 3 8 #[I,I,I,I,O,I,O,I,O,O,O,O,O] HT_.out HW_.out hHeld ?_
 refine tk4_ 6 11 #[I,I,I,I,O,I,I,I,O,O,O,O,O] HT_.out HW_.out hHeld ?_
 refine tk4_ 8 13 #[I,I,I,I,O,I,I,I,I,O,O,O,O] HT_.out HW_.out hHeld ?_
 refine o1_ 4 9 #[I,I,I,I,I,I,I,I,I,O,O,O,O] HT_.out (fun K hK=>?_)
 refine gs_ Tryd.func80 #[.int .i64 a0_0,.int .i64 a1_0] ?_
 with_reducible refine (cmp_Compare_int64.calls a0_0 a1_0 t154 _ A3.out).mono ?_
 rintro e w' ⟨rfl,⟨nd,rfl⟩⟩
 refine ⟨_,rfl,?_⟩
 refine hK.out _ _ (cj2_ BK152.out (cc2_ BK153.out)) (fun hHeld=>?_)
 clear hK K
 refine nm_ 9 ?_
 refine o1_ 9 14 #[I,I,I,I,I,I,I,I,I,I,O,O,O] HT_.out (fun K hK=>?_)
 refine gs_ Tryd.func80 #[.int .i64 a0_1,.int .i64 a1_1] ?_
 with_reducible refine (cmp_Compare_int64.calls a0_1 a1_1 t155 _ A4.out).mono ?_
 rintro e w' ⟨rfl,⟨nd,rfl⟩⟩
 refine ⟨_,rfl,?_⟩
 refine hK.out _ _ (cj2_ BK152.out (cc2_ BK153.out)) (fun hHeld=>?_)
 clear hK K
 refine nm_ 14 ?_
 refine o1_ 10 15 #[I,I,I,I,I,I,I,I,I,I,I,O,O] HT_.out (fun K hK=>?_)
 refine Kd.R_lit_step (Kd.int .i64) _ 3 ?hg (N:=15) ?hd (xs:=([t154,t155]:List Int)) (inner:=[.int .i64 t154,.int .i64 t155]) (ok:=fun _=>True) (okp:=fun _=>True) ?hr ?hp (fun _ hk=>hk) trivial (Below.refl _ _) (Nat.le_refl _) (by simp) ?_;(case hd=>rfl);(case hg=>rfl);(case hr=>first | (go_simp;done) | (go_simp;rfl));(case hp=>exact (Reps.one (show Kd.M (Kd.int .i64) _ _ _ t154 [.int .i64 t154] from rfl) (Reps.one (show Kd.M (Kd.int .i64) _ _ _ t155 [.int .i64 t155] from rfl) (Reps.none _ _))))
 intro v157 w9 ho10 hb hg_ hnew_
 clear hg_ hnew_
 (first | rw [← Ny156.out] at ho10 | (simp only [Int.reduceToNat] at ho10;rw [← Ny156.out] at ho10))
 refine as4_ (Kd.R_lower ho10 (below_size (z5_ HB.out GE152.out GE153.out))) (blkB_ BK152.out hb) (blkB_ BK153.out hb) (below_step (z5_ HB.out GE152.out GE153.out) hb) ?_
 clear BK152 BK153 HB
 intro HO158 BK152 BK153 HB
 clear hb ho10
 obtain ⟨Ao11,co11,eo11⟩:=Kd.R_slice HO158.out
 (first | subst eo11 | (injection eo11 with f1_ f2_ f3_;have f4_:=f1_.symm;have f5_:=f3_.symm;clear f1_ f2_ f3_;subst f4_;subst f5_))
 refine hK.out _ _ (cj2_ BK152.out (cc2_ BK153.out)) (fun hHeld=>?_)
 clear hK K
 refine nm_ 15 ?_
 refine o1_ 11 16 #[I,I,I,I,I,I,I,I,I,I,I,I,O] HT_.out (fun K hK=>?_)
 refine gs_ Tryd.func79 #[.slice Ao11 y156.length co11] ?_
 with_reducible refine (cmp_Or_int.calls k _ _ y156 t159 _ ?s1 ?s2 A5.out).mono ?_
 (case s1=>repeat (first | exact (Kd.R_reads' HO158.out).2.2 | (with_reducible refine Kd.C_alloc ?_ _) | (with_reducible refine Kd.C_drewN ?_ _) | (with_reducible refine Kd.C_drew ?_)))
 (case s2=>exact (Kd.R_reads' HO158.out).2.1)
 rintro e w' ⟨rfl,⟨nd,rfl⟩⟩
 refine ⟨_,rfl,?_⟩
 refine hK.out _ _ (cj2_ BK152.out (cc2_ BK153.out)) (fun hHeld=>?_)
 clear hK K
 refine nm_ 16 ?_
 refine pu_ 12 4 #[I,I,I,I,I,I,I,I,I,I,I,I,I] HT_.out ?_
 refine done_ (done_of HT_.out (by kernel_rfl)) ?_
 try go_wp2
 go_ret
 exact ⟨z10_,z5_ HB.out GE152.out GE153.out⟩


/-! ### slices_insertionSortCmpFunc_impl_Token_impl_ringNew_1: function 122 -/
mutual
def slices_insertionSortCmpFunc_impl_Token_impl_ringNew_1.l0:Nat→List (S77)→Int→Int→Int→Option ((List (S77)))
 | 0,_,_,_,_=>none
 | k+1,x0,x1,x2,x8=>if x8<x2 then (slices_insertionSortCmpFunc_impl_Token_impl_ringNew_1.l1 k x0 x1 x2 x8 x8) else (some x0)
def slices_insertionSortCmpFunc_impl_Token_impl_ringNew_1.l1:Nat→List (S77)→Int→Int→Int→Int→Option ((List (S77)))
 | 0,_,_,_,_,_=>none
 | k+1,x0,x1,x2,x8,x9=>if x9>x1 then (if 0≤x9 then (if x9<(x0.length:Int) then (if 0≤(wrap64 (x9-1)) then (if (wrap64 (x9-1))<(x0.length:Int) then ((impl_ringNew_1.f k ((rd_T77 x0 x9).f0) ((rd_T77 x0 x9).f1) ((rd_T77 x0 (wrap64 (x9-1))).f0) ((rd_T77 x0 (wrap64 (x9-1))).f1)).bind fun t162=>(slices_insertionSortCmpFunc_impl_Token_impl_ringNew_1.j2 k x0 x1 x2 x8 x9 (decide (t162<0)))) else (none)) else (none)) else (none)) else (none)) else (slices_insertionSortCmpFunc_impl_Token_impl_ringNew_1.j2 k x0 x1 x2 x8 x9 false)
def slices_insertionSortCmpFunc_impl_Token_impl_ringNew_1.j2:Nat→List (S77)→Int→Int→Int→Int→Bool→Option ((List (S77)))
 | 0,_,_,_,_,_,_=>none
 | k+1,x0,x1,x2,x8,x9,x34=>if x34=true then (if 0≤(wrap64 (x9-1)) then (if (wrap64 (x9-1))<(x0.length:Int) then (if 0≤x9 then (if x9<(x0.length:Int) then (slices_insertionSortCmpFunc_impl_Token_impl_ringNew_1.l1 k ((x0.set (x9:Int).toNat (⟨(rd_T77 x0 (wrap64 (x9-1))).f0,(rd_T77 x0 (wrap64 (x9-1))).f1⟩:S77)).set ((wrap64 (x9-1)):Int).toNat (⟨(rd_T77 x0 x9).f0,(rd_T77 x0 x9).f1⟩:S77)) x1 x2 x8 (wrap64 (x9-1))) else (none)) else (none)) else (none)) else (none)) else (slices_insertionSortCmpFunc_impl_Token_impl_ringNew_1.l0 k x0 x1 x2 (wrap64 (x8+1)))
end
def slices_insertionSortCmpFunc_impl_Token_impl_ringNew_1.f (k:Nat) (l0:List (S77)) (a1:Int) (a2:Int)  : Option ((List (S77))):=slices_insertionSortCmpFunc_impl_Token_impl_ringNew_1.l0 k l0 a1 a2 (wrap64 (a1+1))
theorem slices_insertionSortCmpFunc_impl_Token_impl_ringNew_1.mono_l:∀ k,(∀ y0 y1 y2 y3,LeO (slices_insertionSortCmpFunc_impl_Token_impl_ringNew_1.l0 k y0 y1 y2 y3) (slices_insertionSortCmpFunc_impl_Token_impl_ringNew_1.l0 (k+1) y0 y1 y2 y3))∧(∀ y0 y1 y2 y3 y4,LeO (slices_insertionSortCmpFunc_impl_Token_impl_ringNew_1.l1 k y0 y1 y2 y3 y4) (slices_insertionSortCmpFunc_impl_Token_impl_ringNew_1.l1 (k+1) y0 y1 y2 y3 y4))∧(∀ y0 y1 y2 y3 y4 y5,LeO (slices_insertionSortCmpFunc_impl_Token_impl_ringNew_1.j2 k y0 y1 y2 y3 y4 y5) (slices_insertionSortCmpFunc_impl_Token_impl_ringNew_1.j2 (k+1) y0 y1 y2 y3 y4 y5))
 | 0=>⟨fun _ _ _ _ r h=>by simp [slices_insertionSortCmpFunc_impl_Token_impl_ringNew_1.l0] at h,fun _ _ _ _ _ r h=>by simp [slices_insertionSortCmpFunc_impl_Token_impl_ringNew_1.l1] at h,fun _ _ _ _ _ _ r h=>by simp [slices_insertionSortCmpFunc_impl_Token_impl_ringNew_1.j2] at h⟩
 | k+1=>by
  obtain ⟨ih0,ih1,ih2⟩:=slices_insertionSortCmpFunc_impl_Token_impl_ringNew_1.mono_l k
  refine ⟨?_,?_,?_⟩
  ·intro y0 y1 y2 y3
   unfold slices_insertionSortCmpFunc_impl_Token_impl_ringNew_1.l0
   repeat' first
   | (with_reducible exact ih0 _ _ _ _)
   | (with_reducible exact ih1 _ _ _ _ _)
   | (with_reducible exact ih2 _ _ _ _ _ _)
   | (with_reducible exact impl_ringNew_1.mono _ _ _ _ _)
   | (with_reducible exact LeO.refl _)
   | (with_reducible exact LeO.none _)
   | (with_reducible refine LeO.ite ?_ ?_)
   | (with_reducible refine LeO.bind ?_ (fun _=>?_))
   | exact ih0 _ _ _ _
   | exact ih1 _ _ _ _ _
   | exact ih2 _ _ _ _ _ _
   | exact impl_ringNew_1.mono _ _ _ _ _
   | exact LeO.none _
   | refine LeO.ite ?_ ?_
   | refine LeO.bind ?_ (fun _=>?_)
  ·intro y0 y1 y2 y3 y4
   unfold slices_insertionSortCmpFunc_impl_Token_impl_ringNew_1.l1
   repeat' first
   | (with_reducible exact ih0 _ _ _ _)
   | (with_reducible exact ih1 _ _ _ _ _)
   | (with_reducible exact ih2 _ _ _ _ _ _)
   | (with_reducible exact impl_ringNew_1.mono _ _ _ _ _)
   | (with_reducible exact LeO.refl _)
   | (with_reducible exact LeO.none _)
   | (with_reducible refine LeO.ite ?_ ?_)
   | (with_reducible refine LeO.bind ?_ (fun _=>?_))
   | exact ih0 _ _ _ _
   | exact ih1 _ _ _ _ _
   | exact ih2 _ _ _ _ _ _
   | exact impl_ringNew_1.mono _ _ _ _ _
   | exact LeO.none _
   | refine LeO.ite ?_ ?_
   | refine LeO.bind ?_ (fun _=>?_)
  ·intro y0 y1 y2 y3 y4 y5
   unfold slices_insertionSortCmpFunc_impl_Token_impl_ringNew_1.j2
   repeat' first
   | (with_reducible exact ih0 _ _ _ _)
   | (with_reducible exact ih1 _ _ _ _ _)
   | (with_reducible exact ih2 _ _ _ _ _ _)
   | (with_reducible exact impl_ringNew_1.mono _ _ _ _ _)
   | (with_reducible exact LeO.refl _)
   | (with_reducible exact LeO.none _)
   | (with_reducible refine LeO.ite ?_ ?_)
   | (with_reducible refine LeO.bind ?_ (fun _=>?_))
   | exact ih0 _ _ _ _
   | exact ih1 _ _ _ _ _
   | exact ih2 _ _ _ _ _ _
   | exact impl_ringNew_1.mono _ _ _ _ _
   | exact LeO.none _
   | refine LeO.ite ?_ ?_
   | refine LeO.bind ?_ (fun _=>?_)
theorem slices_insertionSortCmpFunc_impl_Token_impl_ringNew_1.mono:∀ a0 a1 a2 k,LeO (slices_insertionSortCmpFunc_impl_Token_impl_ringNew_1.f k a0 a1 a2) (slices_insertionSortCmpFunc_impl_Token_impl_ringNew_1.f (k+1) a0 a1 a2):=by
 intro a0 a1 a2 k
 obtain ⟨ih0,ih1,ih2⟩:=slices_insertionSortCmpFunc_impl_Token_impl_ringNew_1.mono_l k
 unfold slices_insertionSortCmpFunc_impl_Token_impl_ringNew_1.f
 repeat' first
   | (with_reducible exact ih0 _ _ _ _)
   | (with_reducible exact ih1 _ _ _ _ _)
   | (with_reducible exact ih2 _ _ _ _ _ _)
   | (with_reducible exact impl_ringNew_1.mono _ _ _ _ _)
   | (with_reducible exact LeO.refl _)
   | (with_reducible exact LeO.none _)
   | (with_reducible refine LeO.ite ?_ ?_)
   | (with_reducible refine LeO.bind ?_ (fun _=>?_))
   | exact ih0 _ _ _ _
   | exact ih1 _ _ _ _ _
   | exact ih2 _ _ _ _ _ _
   | exact impl_ringNew_1.mono _ _ _ _ _
   | exact LeO.none _
   | refine LeO.ite ?_ ?_
   | refine LeO.bind ?_ (fun _=>?_)
def slices_insertionSortCmpFunc_impl_Token_impl_ringNew_1.T4:Bool × List (List Nat × List Nat):=(true,[([],[]),([],[]),([0,1],[0,1]),([2],[2]),([3],[3]),([3],[3]),([3],[3]),([5,6,3],[3,5,6]),([7,3],[3,7]),([3],[3]),([3],[3]),([10,3],[3,10]),([9,11,3],[3,9,11]),([12,3],[3,12]),([4,8,13,3,3],[3,4,8,13]),([14,3],[3,14]),([3,15],[3,15])])
def slices_insertionSortCmpFunc_impl_Token_impl_ringNew_1.B4:List Nat:=[0,0,3,7,15,15,15,111,239,15,15,1039,3599,7695,16383,32767,65535]
theorem slices_insertionSortCmpFunc_impl_Token_impl_ringNew_1.tab4:rtab .any (opsOf Tryd.f122 4)=slices_insertionSortCmpFunc_impl_Token_impl_ringNew_1.T4:=by kernel_rfl
theorem slices_insertionSortCmpFunc_impl_Token_impl_ringNew_1.bits4:waitsOk slices_insertionSortCmpFunc_impl_Token_impl_ringNew_1.T4.2 slices_insertionSortCmpFunc_impl_Token_impl_ringNew_1.B4=true:=by kernel_rfl
def slices_insertionSortCmpFunc_impl_Token_impl_ringNew_1.T6:Bool × List (List Nat × List Nat):=(true,[([],[]),([],[]),([],[]),([],[]),([3],[3]),([],[]),([],[]),([6],[6]),([5,7],[5,7]),([8],[8]),([],[]),([],[]),([10,11],[10,11]),([12],[12]),([0,1,0,1,5,6,7,8,9,13],[0,1]),([14,9,0,1,5,6,7,8,9,13],[9,14]),([2,4,0,1,2,3,4,5,6,7,8,9,10,11,12,13,14,15],[2,4]),([16,13,15,0,1,2,3,4,5,6,7,8,9,10,11,12,13,14,15],[13,16])])
def slices_insertionSortCmpFunc_impl_Token_impl_ringNew_1.B6:List Nat:=[0,0,0,0,8,0,0,64,224,480,0,0,3072,7168,16355,32739,65535,131071]
theorem slices_insertionSortCmpFunc_impl_Token_impl_ringNew_1.tab6:rtab .any (opsOf Tryd.f122 6)=slices_insertionSortCmpFunc_impl_Token_impl_ringNew_1.T6:=by kernel_rfl
theorem slices_insertionSortCmpFunc_impl_Token_impl_ringNew_1.bits6:waitsOk slices_insertionSortCmpFunc_impl_Token_impl_ringNew_1.T6.2 slices_insertionSortCmpFunc_impl_Token_impl_ringNew_1.B6=true:=by kernel_rfl
abbrev slices_insertionSortCmpFunc_impl_Token_impl_ringNew_1.q0:Array Bool:=#[O,O,O,O,O,O,O,O,O,O,O,O,O,O,O,O,O]
abbrev slices_insertionSortCmpFunc_impl_Token_impl_ringNew_1.q1:Array Bool:=#[I,O,O,O,O,O,O,O,O,O,O,O,O,O,O,O,O]
abbrev slices_insertionSortCmpFunc_impl_Token_impl_ringNew_1.q2:Array Bool:=#[I,I,O,O,O,O,O,O,O,O,O,O,O,O,O,O,O]
abbrev slices_insertionSortCmpFunc_impl_Token_impl_ringNew_1.q3:Array Bool:=#[I,I,I,O,O,O,O,O,O,O,O,O,O,O,O,O,O]
abbrev slices_insertionSortCmpFunc_impl_Token_impl_ringNew_1.q4:Array Bool:=#[I,I,I,I,O,O,O,O,O,O,O,O,O,O,O,O,O]
abbrev slices_insertionSortCmpFunc_impl_Token_impl_ringNew_1.q5:Array Bool:=#[I,I,I,I,I,O,O,O,O,O,O,O,O,O,O,O,O]
abbrev slices_insertionSortCmpFunc_impl_Token_impl_ringNew_1.q6:Array Bool:=#[I,I,I,I,I,I,O,O,O,O,O,O,O,O,O,O,O]
abbrev slices_insertionSortCmpFunc_impl_Token_impl_ringNew_1.q7:Array Bool:=#[I,I,I,I,I,I,I,O,O,O,O,O,O,O,O,O,O]
abbrev slices_insertionSortCmpFunc_impl_Token_impl_ringNew_1.q8:Array Bool:=#[I,I,I,I,I,I,I,I,O,O,O,O,O,O,O,O,O]
abbrev slices_insertionSortCmpFunc_impl_Token_impl_ringNew_1.q9:Array Bool:=#[I,I,I,I,I,I,I,I,I,I,I,I,I,O,O,O,O]
abbrev slices_insertionSortCmpFunc_impl_Token_impl_ringNew_1.q10:Array Bool:=#[I,I,I,I,I,I,I,I,I,I,I,I,I,I,O,O,O]
abbrev slices_insertionSortCmpFunc_impl_Token_impl_ringNew_1.q11:Array Bool:=#[I,I,I,I,I,I,I,I,I,I,I,I,I,I,I,O,O]
abbrev slices_insertionSortCmpFunc_impl_Token_impl_ringNew_1.q12:Array Bool:=#[I,I,I,I,I,I,I,I,I,I,I,I,I,I,I,I,O]
abbrev slices_insertionSortCmpFunc_impl_Token_impl_ringNew_1.q13:Array Bool:=#[I,I,I,I,I,I,I,I,I,I,I,I,I,I,I,I,I]
set_option maxHeartbeats 8000000 in
set_option maxRecDepth 100000 in
theorem slices_insertionSortCmpFunc_impl_Token_impl_ringNew_1.calls (k:Nat) (P0_:Nat→Prop) (u9000_:Value) (l0:List (S77)) (a1:Int) (a2:Int)  (r:List (S77)) (w0 w:World) (hB:Below w0.heap.size w0 w) (ho0:Kd.R k77 77 w w0.heap.size P0_ u9000_ l0) (h:slices_insertionSortCmpFunc_impl_Token_impl_ringNew_1.f k l0 a1 a2=some r) :
  Calls Tryd.prog 122 #[u9000_,.int .i64 a1,.int .i64 a2,.func (.func 78) #[] #[]] w fun e w'=>e = .returned (.tuple #[])∧Kd.R k77 77 w' w0.heap.size (fun k_=>(P0_ k_∨w.heap.size≤k_)) u9000_ r∧Below w0.heap.size w0 w'∧Kept w w' (fun k_=>P0_ k_):=by
 have hu77:=Tryd.underlying77
 have HO0:=Aside0.mk (show Kd.R k77 77 w w0.heap.size (fun k_=>(P0_ k_∨w.heap.size≤k_)) u9000_ l0 from Kd.R_mono ho0 (fun k_ hk=>(.inl hk)))
 have HK:=Aside0.mk (Kept.refl w (fun k_=>P0_ k_))
 have HW0:=Aside0.mk hB.size
 have HB:=Aside0.mk hB
 clear hB
 have H:(slices_insertionSortCmpFunc_impl_Token_impl_ringNew_1.l0 k l0 a1 a2 (wrap64 (a1+1)))=some r:=h
 clear h
 have H':=Aside0.mk H
 clear H
 go_enter Tryd.func122,Tryd.ntmps122
 go_wp2
 go_loopg [8] k (fun kq v8 w'=>∃ (x0_1:List (S77)) (x8_1:Int),v8 = .int .i64 x8_1∧Aside0 (slices_insertionSortCmpFunc_impl_Token_impl_ringNew_1.l0 kq x0_1 a1 a2 x8_1=some r)∧Aside0 (kq≤k)∧Aside0 (Kd.R k77 77 w' w0.heap.size (fun k_=>(P0_ k_∨w.heap.size≤k_)) u9000_ x0_1)∧Aside0 (Kept w w' (fun k_=>P0_ k_))∧Aside0 (Below w0.heap.size w0 w'))
 case atStart=>exact ⟨(l0),(wrap64 (a1+1)),(z2_),H',⟨Nat.le_refl _⟩,⟨z1_ HO0.out⟩,⟨z9_ HK.out⟩,⟨z4_ HB.out⟩⟩
 case round =>
  clear H'
  try clear p2
  obtain ⟨x0_1,x8_1,rfl,HA,HK1,HO_0,HK,HB⟩:=hrel
  cases gk with
  | zero=>exact absurd HA.out (by simp [slices_insertionSortCmpFunc_impl_Token_impl_ringNew_1.l0])
  | succ k1 =>
   have H:=HA.out
   clear HA
   simp only [slices_insertionSortCmpFunc_impl_Token_impl_ringNew_1.l0] at H
   by_cases c5:x8_1<a2
   ·rw [if_pos c5] at H
    have c5b0:decide (x8_1<a2)=true:=decide_eq_true c5
    clear c5
    have H':=Aside0.mk H
    clear H
    go_wp2
    go_loopg [9] k1 (fun kq v9 w'=>∃ (x0_2:List (S77)) (x9_2:Int),v9 = .int .i64 x9_2∧Aside0 (slices_insertionSortCmpFunc_impl_Token_impl_ringNew_1.l1 kq x0_2 a1 a2 x8_1 x9_2=some r)∧Aside0 (kq≤k1)∧Aside0 (Kd.R k77 77 w' w0.heap.size (fun k_=>(P0_ k_∨w.heap.size≤k_)) u9000_ x0_2)∧Aside0 (Kept w w' (fun k_=>P0_ k_))∧Aside0 (Below w0.heap.size w0 w'))
    case atStart=>exact ⟨(x0_1),(x8_1),(z2_),H',⟨Nat.le_refl _⟩,⟨z1_ HO_0.out⟩,⟨z9_ HK.out⟩,⟨z4_ HB.out⟩⟩
    case round =>
     clear H'
     try clear p2
     try clear c5
     try clear c5b0
     try clear p2
     obtain ⟨x0_2,x9_2,rfl,HA,HK2,HO_0,HK,HB⟩:=hrel
     cases gk with
     | zero=>exact absurd HA.out (by simp [slices_insertionSortCmpFunc_impl_Token_impl_ringNew_1.l1])
     | succ k2 =>
      have H:=HA.out
      clear HA
      simp only [slices_insertionSortCmpFunc_impl_Token_impl_ringNew_1.l1] at H
      have HC6:=Aside0.mk H
      clear H
      go_upto_region 4 with (fail)
      go_cut [34] (fun v34 wc=>∃ (kq:Nat) (x34_5:Bool),v34 = .bool x34_5∧Aside0 (slices_insertionSortCmpFunc_impl_Token_impl_ringNew_1.j2 kq x0_2 a1 a2 x8_1 x9_2 x34_5=some r)∧Aside0 (kq≤k2)∧Aside0 (Kd.R k77 77 wc w0.heap.size (fun k_=>(P0_ k_∨w.heap.size≤k_)) u9000_ x0_2)∧Aside0 (Kept w wc (fun k_=>P0_ k_))∧Aside0 (Below w0.heap.size w0 wc))
      case first =>
       have H:=HC6.out
       clear HC6
       by_cases c7:x9_2>a1
       ·rw [if_pos c7] at H
        have c7b0:decide (a1<x9_2)=true:=decide_eq_true c7
        clear c7
        (first | rw [c7b0] | (simp only [i64_w,i32_w];rw [c7b0]) | skip)
        by_cases c8:0≤x9_2
        ·rw [if_pos c8] at H
         have c8b0:decide (0≤x9_2)=true:=decide_eq_true c8
         clear c8
         by_cases c9:x9_2<(x0_2.length:Int)
         ·rw [if_pos c9] at H
          have c9b0:decide (x9_2<(x0_2.length:Int))=true:=decide_eq_true c9
          clear c9
          obtain ⟨ji10,hji10⟩:∃ j_:Int,(wrap64 (x9_2-1))=j_:=⟨_,rfl⟩
          replace H:(if 0≤(ji10) then (if (ji10)<(x0_2.length:Int) then ((impl_ringNew_1.f k2 ((rd_T77 x0_2 x9_2).f0) ((rd_T77 x0_2 x9_2).f1) ((rd_T77 x0_2 (ji10)).f0) ((rd_T77 x0_2 (ji10)).f1)).bind fun t162=>(slices_insertionSortCmpFunc_impl_Token_impl_ringNew_1.j2 k2 x0_2 a1 a2 x8_1 x9_2 (decide (t162<0)))) else (none)) else (none))=some r:=by first | (rw [hji10] at H;exact H) | (simp only [hji10] at H ⊢;exact H)
          have hji10w:(IntKind.i64.wrap (x9_2-1))=ji10:=(i64_w _).trans hji10
          by_cases c11:0≤(ji10)
          ·rw [if_pos c11] at H
           have c11b0:decide (0≤(ji10))=true:=decide_eq_true c11
           clear c11
           by_cases c12:(ji10)<(x0_2.length:Int)
           ·rw [if_pos c12] at H
            have c12b0:decide ((ji10)<(x0_2.length:Int))=true:=decide_eq_true c12
            clear c12
            replace H:=Option.bind_eq_some_iff.mp H
            obtain ⟨t162,A130,H⟩:=H
            replace H:(slices_insertionSortCmpFunc_impl_Token_impl_ringNew_1.j2 k2 x0_2 a1 a2 x8_1 x9_2 (decide (t162<0)))=some r:=H
            have A13:=Aside0.mk A130
            clear A130
            have H':=Aside0.mk H
            clear H
            try go_wp2
            refine as3_ (Kd.R_drew HO_0.out) (Kept.drew HK.out) (below_drew1 HB.out) ?_
            clear HO_0 HK HB
            intro HO_0 HK HB
            obtain ⟨Ao15,co15,eo15⟩:=Kd.R_slice HO_0.out
            (first | subst eo15 | (injection eo15 with f1_ f2_ f3_;have f4_:=f1_.symm;have f5_:=f3_.symm;clear f1_ f2_ f3_;subst f4_;subst f5_))
            have p160:0≤(x9_2:Int):=of_decide_eq_true (z0_)
            have q160:x9_2<(x0_2.length:Int):=of_decide_eq_true (z0_)
            obtain ⟨ad160,e160,hx160_0,hx160_1⟩:=at_T77 (Kd.R_reads' HO_0.out).2.2 x9_2 p160 q160
            cases e160
            replace p160:=eq_true p160
            replace q160:=eq_true q160
            have p161:0≤((ji10):Int):=of_decide_eq_true (z0_)
            have q161:(ji10)<(x0_2.length:Int):=of_decide_eq_true (z0_)
            obtain ⟨ad161,e161,hx161_0,hx161_1⟩:=at_T77 (Kd.R_reads' HO_0.out).2.2 (ji10) p161 q161
            obtain rfl:ad160=ad161:=(by injection e161)
            replace p161:=eq_true p161
            replace q161:=eq_true q161
            refine start_ (n:=17) (S:=fun w'=>w'.cell? (ad160.add ((x9_2).toNat*2))=some (.int .i64 ((rd_T77 x0_2 x9_2).f0))∧w'.cell? ⟨(ad160.add ((x9_2).toNat*2)).block,(ad160.add ((x9_2).toNat*2)).off+1,none⟩=some (.int .i64 ((rd_T77 x0_2 x9_2).f1))∧w'.cell? (ad160.add (((ji10)).toNat*2))=some (.int .i64 ((rd_T77 x0_2 (ji10)).f0))∧w'.cell? ⟨(ad160.add (((ji10)).toNat*2)).block,(ad160.add (((ji10)).toNat*2)).off+1,none⟩=some (.int .i64 ((rd_T77 x0_2 (ji10)).f1))) (ds:=[]) slices_insertionSortCmpFunc_impl_Token_impl_ringNew_1.q0 (by kernel_rfl) rfl rfl ⟨hx160_0,hx160_1,hx161_0,hx161_1⟩ (fun hHeld=>?_);refine with_tabW slices_insertionSortCmpFunc_impl_Token_impl_ringNew_1.tab4 slices_insertionSortCmpFunc_impl_Token_impl_ringNew_1.bits4 (fun HT_ HW_=>?_)
            generalize wr.drew=w14 at HO_0 HK HB hx160_0 hx160_1 hx161_0 hx161_1 hHeld ⊢
            refine pu_ 0 18 slices_insertionSortCmpFunc_impl_Token_impl_ringNew_1.q1 HT_.out ?_
            refine pu_ 1 19 slices_insertionSortCmpFunc_impl_Token_impl_ringNew_1.q2 HT_.out ?_
            refine pu_ 2 20 slices_insertionSortCmpFunc_impl_Token_impl_ringNew_1.q3 HT_.out ?_
            refine pu_ 3 21 slices_insertionSortCmpFunc_impl_Token_impl_ringNew_1.q4 HT_.out ?_
            refine pu_ 4 22 slices_insertionSortCmpFunc_impl_Token_impl_ringNew_1.q5 HT_.out ?_
            refine pu_ 5 23 slices_insertionSortCmpFunc_impl_Token_impl_ringNew_1.q6 HT_.out ?_
            refine pu_ 6 24 slices_insertionSortCmpFunc_impl_Token_impl_ringNew_1.q7 HT_.out ?_
            refine pu_ 7 25 slices_insertionSortCmpFunc_impl_Token_impl_ringNew_1.q8 HT_.out ?_
            refine pu_ 9 27 #[I,I,I,I,I,I,I,I,O,I,O,O,O,O,O,O,O] HT_.out ?_
            refine pu_ 10 28 #[I,I,I,I,I,I,I,I,O,I,I,O,O,O,O,O,O] HT_.out ?_
            refine pu_ 11 29 #[I,I,I,I,I,I,I,I,O,I,I,I,O,O,O,O,O] HT_.out ?_
            refine pu_ 12 30 #[I,I,I,I,I,I,I,I,O,I,I,I,I,O,O,O,O] HT_.out ?_
            refine tk4_ 8 26 slices_insertionSortCmpFunc_impl_Token_impl_ringNew_1.q9 HT_.out HW_.out hHeld ?_
            refine tk4_ 13 31 slices_insertionSortCmpFunc_impl_Token_impl_ringNew_1.q10 HT_.out HW_.out hHeld ?_
            refine o1_ 14 32 slices_insertionSortCmpFunc_impl_Token_impl_ringNew_1.q11 HT_.out (fun K hK=>?_)
            refine goesD_ Tryd.func78 (by kernel_rfl) rfl #[.agg #[.int .i64 ((rd_T77 x0_2 x9_2).f0),.int .i64 ((rd_T77 x0_2 x9_2).f1)],.agg #[.int .i64 ((rd_T77 x0_2 (ji10)).f0),.int .i64 ((rd_T77 x0_2 (ji10)).f1)]] (by rfl) rfl rfl (by rfl) (by (try simp only [List.map_toArray,List.map_cons,List.map_nil]);first | done | (simp only [hji10];rfl) | rfl | (simp only [List.length_drop,List.length_take];rfl)) ?_
            with_reducible refine (impl_ringNew_1.calls k2 ((rd_T77 x0_2 x9_2).f0) ((rd_T77 x0_2 x9_2).f1) ((rd_T77 x0_2 (ji10)).f0) ((rd_T77 x0_2 (ji10)).f1) t162 _ A13.out).mono ?_
            rintro e w16 ⟨rfl,hb⟩
            have HS0_:=(hb.cell (World.block_lt_of_cell? _ _ (hHeld.1))).trans (hHeld.1)
            have HS1_:=(hb.cell (World.block_lt_of_cell? _ _ (hHeld.2.1))).trans (hHeld.2.1)
            have HS2_:=(hb.cell (World.block_lt_of_cell? _ _ (hHeld.2.2.1))).trans (hHeld.2.2.1)
            have HS3_:=(hb.cell (World.block_lt_of_cell? _ _ (hHeld.2.2.2))).trans (hHeld.2.2.2)
            refine ⟨_,rfl,?_⟩
            refine as3_ (Kd.R_below (z1_ HO_0.out) hb) (Kept.below (S:=(fun k_=>P0_ k_)) (z9_ HK.out) hb) (below_step (z4_ HB.out) hb) ?_
            clear HO_0 HK HB
            intro HO_0 HK HB
            (try clear hb)
            refine hK.out _ _ ⟨HS0_,HS1_,HS2_,HS3_⟩ (fun hHeld=>?_)
            clear hK K
            refine nm_ 32 ?_
            refine pu_ 15 33 slices_insertionSortCmpFunc_impl_Token_impl_ringNew_1.q12 HT_.out ?_
            refine pu_ 16 34 slices_insertionSortCmpFunc_impl_Token_impl_ringNew_1.q13 HT_.out ?_
            refine done_ (done_of HT_.out (by kernel_rfl)) ?_
            try go_wp2
            go_meet
            case rel=>exact ⟨_,(decide (t162<0)),(z2_),H',⟨by have:=HK1.out;have:=HK2.out;first | omega | exact Nat.le_refl _⟩,⟨z1_ HO_0.out⟩,⟨z9_ HK.out⟩,⟨z4_ HB.out⟩⟩
           ·rw [if_neg c12] at H
            exact absurd H (by simp)
          ·rw [if_neg c11] at H
           exact absurd H (by simp)
         ·rw [if_neg c9] at H
          exact absurd H (by simp)
        ·rw [if_neg c8] at H
         exact absurd H (by simp)
       ·rw [if_neg c7] at H
        have c7b0:decide (a1<x9_2)=false:=decide_eq_false c7
        clear c7
        (first | rw [c7b0] | (simp only [i64_w,i32_w];rw [c7b0]) | skip)
        have H':=Aside0.mk H
        clear H
        try go_wp2
        refine as3_ (Kd.R_drew HO_0.out) (Kept.drew HK.out) (below_drew1 HB.out) ?_
        clear HO_0 HK HB
        intro HO_0 HK HB
        refine start_ (n:=17) (S:=fun w'=>True) (ds:=[]) slices_insertionSortCmpFunc_impl_Token_impl_ringNew_1.q0 (by kernel_rfl) rfl rfl trivial (fun hHeld=>?_);refine with_tabW slices_insertionSortCmpFunc_impl_Token_impl_ringNew_1.tab4 slices_insertionSortCmpFunc_impl_Token_impl_ringNew_1.bits4 (fun HT_ HW_=>?_)
        generalize wr.drew=w17 at HO_0 HK HB hHeld ⊢
        refine pu_ 0 18 slices_insertionSortCmpFunc_impl_Token_impl_ringNew_1.q1 HT_.out ?_
        refine pu_ 1 19 slices_insertionSortCmpFunc_impl_Token_impl_ringNew_1.q2 HT_.out ?_
        refine pu_ 2 20 slices_insertionSortCmpFunc_impl_Token_impl_ringNew_1.q3 HT_.out ?_
        refine pu_ 3 21 slices_insertionSortCmpFunc_impl_Token_impl_ringNew_1.q4 HT_.out ?_
        refine pn_ 4 22 slices_insertionSortCmpFunc_impl_Token_impl_ringNew_1.q5 HT_.out ?_
        refine pn_ 5 23 slices_insertionSortCmpFunc_impl_Token_impl_ringNew_1.q6 HT_.out ?_
        refine pn_ 6 24 slices_insertionSortCmpFunc_impl_Token_impl_ringNew_1.q7 HT_.out ?_
        refine pn_ 7 25 slices_insertionSortCmpFunc_impl_Token_impl_ringNew_1.q8 HT_.out ?_
        refine pn_ 8 26 #[I,I,I,I,I,I,I,I,I,O,O,O,O,O,O,O,O] HT_.out ?_
        refine pn_ 9 27 #[I,I,I,I,I,I,I,I,I,I,O,O,O,O,O,O,O] HT_.out ?_
        refine pn_ 10 28 #[I,I,I,I,I,I,I,I,I,I,I,O,O,O,O,O,O] HT_.out ?_
        refine pn_ 11 29 #[I,I,I,I,I,I,I,I,I,I,I,I,O,O,O,O,O] HT_.out ?_
        refine pn_ 12 30 slices_insertionSortCmpFunc_impl_Token_impl_ringNew_1.q9 HT_.out ?_
        refine pn_ 13 31 slices_insertionSortCmpFunc_impl_Token_impl_ringNew_1.q10 HT_.out ?_
        refine pn_ 14 32 slices_insertionSortCmpFunc_impl_Token_impl_ringNew_1.q11 HT_.out ?_
        refine pn_ 15 33 slices_insertionSortCmpFunc_impl_Token_impl_ringNew_1.q12 HT_.out ?_
        refine pu_ 16 34 slices_insertionSortCmpFunc_impl_Token_impl_ringNew_1.q13 HT_.out ?_
        refine done_ (done_of HT_.out (by kernel_rfl)) ?_
        try go_wp2
        go_meet
        case rel=>exact ⟨_,(false),(z2_),H',⟨by have:=HK1.out;have:=HK2.out;first | omega | exact Nat.le_refl _⟩,⟨z1_ HO_0.out⟩,⟨z9_ HK.out⟩,⟨z4_ HB.out⟩⟩
      case rest =>
       clear HC6
       try clear c1
       try clear p1
       try clear q1
       try clear hx1
       try clear p2
       try clear c5
       try clear c5b0
       try clear p6
       try clear c7
       try clear c7b0
       try clear c8
       try clear c8b0
       try clear c9
       try clear c9b0
       try clear c11
       try clear c11b0
       try clear c12
       try clear c12b0
       try clear p16
       try clear q16
       try clear hx16
       try clear hx160_0
       try clear hx160_1
       try clear hx161_0
       try clear hx161_1
       try clear p160
       try clear p161
       try clear p2
       try clear q160
       try clear q161
       obtain ⟨kq,x34_5,rfl,HA,HJ5,HO_0,HK,HB⟩:=hcut
       cases kq with
       | zero=>exact absurd HA.out (by simp [slices_insertionSortCmpFunc_impl_Token_impl_ringNew_1.j2])
       | succ kj5 =>
        have H:=HA.out
        clear HA
        simp only [slices_insertionSortCmpFunc_impl_Token_impl_ringNew_1.j2] at H
        by_cases c18:x34_5=true
        ·subst c18
         have H1:(if 0≤(wrap64 (x9_2-1)) then (if (wrap64 (x9_2-1))<(x0_2.length:Int) then (if 0≤x9_2 then (if x9_2<(x0_2.length:Int) then (slices_insertionSortCmpFunc_impl_Token_impl_ringNew_1.l1 kj5 ((x0_2.set (x9_2:Int).toNat (⟨(rd_T77 x0_2 (wrap64 (x9_2-1))).f0,(rd_T77 x0_2 (wrap64 (x9_2-1))).f1⟩:S77)).set ((wrap64 (x9_2-1)):Int).toNat (⟨(rd_T77 x0_2 x9_2).f0,(rd_T77 x0_2 x9_2).f1⟩:S77)) a1 a2 x8_1 (wrap64 (x9_2-1))) else (none)) else (none)) else (none)) else (none))=some r:=by rw [if_pos rfl] at H;exact H
         clear H
         have H:=H1
         clear H1
         obtain ⟨ji19,hji19⟩:∃ j_:Int,(wrap64 (x9_2-1))=j_:=⟨_,rfl⟩
         replace H:(if 0≤(ji19) then (if (ji19)<(x0_2.length:Int) then (if 0≤x9_2 then (if x9_2<(x0_2.length:Int) then (slices_insertionSortCmpFunc_impl_Token_impl_ringNew_1.l1 kj5 ((x0_2.set (x9_2:Int).toNat (⟨(rd_T77 x0_2 (ji19)).f0,(rd_T77 x0_2 (ji19)).f1⟩:S77)).set ((ji19):Int).toNat (⟨(rd_T77 x0_2 x9_2).f0,(rd_T77 x0_2 x9_2).f1⟩:S77)) a1 a2 x8_1 ji19) else (none)) else (none)) else (none)) else (none))=some r:=by first | (rw [hji19] at H;exact H) | (simp only [hji19] at H ⊢;exact H)
         have hji19w:(IntKind.i64.wrap (x9_2-1))=ji19:=(i64_w _).trans hji19
         by_cases c20:0≤(ji19)
         ·rw [if_pos c20] at H
          have c20b0:decide (0≤(ji19))=true:=decide_eq_true c20
          clear c20
          by_cases c21:(ji19)<(x0_2.length:Int)
          ·rw [if_pos c21] at H
           have c21b0:decide ((ji19)<(x0_2.length:Int))=true:=decide_eq_true c21
           clear c21
           by_cases c22:0≤x9_2
           ·rw [if_pos c22] at H
            have c22b0:decide (0≤x9_2)=true:=decide_eq_true c22
            clear c22
            by_cases c23:x9_2<(x0_2.length:Int)
            ·rw [if_pos c23] at H
             have c23b0:decide (x9_2<(x0_2.length:Int))=true:=decide_eq_true c23
             clear c23
             obtain ⟨y165,hy165⟩:∃ y_:List (S77),y_=(x0_2.set (x9_2:Int).toNat (⟨(rd_T77 x0_2 (ji19)).f0,(rd_T77 x0_2 (ji19)).f1⟩:S77)):=⟨_,rfl⟩
             replace H:(slices_insertionSortCmpFunc_impl_Token_impl_ringNew_1.l1 kj5 (y165.set ((ji19):Int).toNat (⟨(rd_T77 x0_2 x9_2).f0,(rd_T77 x0_2 x9_2).f1⟩:S77)) a1 a2 x8_1 ji19)=some r:=by first | (rw [hy165];with_reducible exact H) | (have H2_:=(Option.bind_some _ _).symm.trans H;rw [hy165];with_reducible exact H2_) | (have H2_:=(Option.bind_some _ _).symm.trans H;with_reducible exact H2_) | with_reducible exact H | (rw [hy165];exact H) | exact H
             have Ny165:=Aside0.mk hy165
             clear hy165
             obtain ⟨y166,hy166⟩:∃ y_:List (S77),y_=(y165.set ((ji19):Int).toNat (⟨(rd_T77 x0_2 x9_2).f0,(rd_T77 x0_2 x9_2).f1⟩:S77)):=⟨_,rfl⟩
             replace H:(slices_insertionSortCmpFunc_impl_Token_impl_ringNew_1.l1 kj5 y166 a1 a2 x8_1 ji19)=some r:=by first | (rw [hy166];with_reducible exact H) | (have H2_:=(Option.bind_some _ _).symm.trans H;rw [hy166];with_reducible exact H2_) | (have H2_:=(Option.bind_some _ _).symm.trans H;with_reducible exact H2_) | with_reducible exact H | (rw [hy166];exact H) | exact H
             have Ny166:=Aside0.mk hy166
             clear hy166
             have H':=Aside0.mk H
             clear H
             try go_wp2
             refine as3_ (Kd.R_drew HO_0.out) (Kept.drew HK.out) (below_drew1 HB.out) ?_
             clear HO_0 HK HB
             intro HO_0 HK HB
             obtain ⟨Ao27,co27,eo27⟩:=Kd.R_slice HO_0.out
             (first | subst eo27 | (injection eo27 with f1_ f2_ f3_;have f4_:=f1_.symm;have f5_:=f3_.symm;clear f1_ f2_ f3_;subst f4_;subst f5_))
             have p163:0≤((ji19):Int):=of_decide_eq_true (z0_)
             have q163:(ji19)<(x0_2.length:Int):=of_decide_eq_true (z0_)
             obtain ⟨ad163,e163,hx163_0,hx163_1⟩:=at_T77 (Kd.R_reads' HO_0.out).2.2 (ji19) p163 q163
             cases e163
             replace p163:=eq_true p163
             replace q163:=eq_true q163
             have p164:0≤(x9_2:Int):=of_decide_eq_true (z0_)
             have q164:x9_2<(x0_2.length:Int):=of_decide_eq_true (z0_)
             obtain ⟨ad164,e164,hx164_0,hx164_1⟩:=at_T77 (Kd.R_reads' HO_0.out).2.2 x9_2 p164 q164
             obtain rfl:ad163=ad164:=(by injection e164)
             replace p164:=eq_true p164
             replace q164:=eq_true q164
             have p24:0≤(x9_2:Int):=of_decide_eq_true (z0_)
             have q24:(x9_2:Int)<((x0_2.length:Int):Int):=of_decide_eq_true (z0_)
             obtain ⟨go24,co24,eo24,gb24,gl24,cl24,HG24⟩:=Kd.R_form HO_0.out (by omega)
             (first | cases eo24 | (injection eo24 with ea_ en_ ec_;(first | subst ea_ | (injection ea_ with ea_;subst ea_));subst ec_;clear en_))
             have GB24:=Aside0.mk gb24
             have GG24:=Aside0.mk HG24
             clear gb24 gl24 HG24
             have HMgo24:=Aside0.mk (show (P0_ go24∨w.heap.size≤go24) from (HO_0.out.1 _ rfl))
             (first | simp only [add_plain] at hx163_0 | skip)
             (first | simp only [add_plain] at hx163_1 | skip)
             (first | simp only [add_plain] at hx164_0 | skip)
             (first | simp only [add_plain] at hx164_1 | skip)
             obtain ⟨ce24,hcl24,hM24,hcc24,hfr24⟩:=Kd.R_elem HO_0.out z77 (x9_2:Int) p24 q24
             obtain rfl:=k77_openM hM24
             have hx24_0:World.cell? _ ⟨go24,(x9_2:Int).toNat*2,none⟩=some (.int .i64 ((rd_T77 x0_2 x9_2).f0)):=hcc24 0 _ rfl
             have hx24_1:World.cell? _ ⟨go24,(x9_2:Int).toNat*2+1,none⟩=some (.int .i64 ((rd_T77 x0_2 x9_2).f1)):=hcc24 1 _ rfl
             have hf24_0:World.frozen? _ ⟨go24,(x9_2:Int).toNat*2,none⟩=false:=hfr24 0
             have hf24_1:World.frozen? _ ⟨go24,(x9_2:Int).toNat*2+1,none⟩=false:=hfr24 1
             clear hcl24 hcc24 hfr24 hM24
             replace p24:=eq_true p24
             replace q24:=eq_true q24
             obtain ⟨ce28,hcl28,hM28,hcc28,hfr28⟩:=Kd.R_elem HO_0.out z77 (x9_2:Int) (of_decide_eq_true (z0_)) (by have h_:(x9_2:Int)<((x0_2.length:Int):Int):=of_decide_eq_true (by first | (with_reducible assumption) | assumption);first | exact h_ | (have e_:=(Kd.R_reads' HO_0.out).1;omega) | simpa using h_)
             obtain rfl:=k77_openM hM28
             have HP28:=(Kd.R_seg HO_0.out (x9_2:Int) (of_decide_eq_true (z0_)) (by have h_:(x9_2:Int)<((x0_2.length:Int):Int):=of_decide_eq_true (by first | (with_reducible assumption) | assumption);first | exact h_ | (have e_:=(Kd.R_reads' HO_0.out).1;omega) | simpa using h_) (seg:=[.int .i64 ((rd_T77 x0_2 (ji19)).f0),.int .i64 ((rd_T77 x0_2 (ji19)).f1)]) (j:=0) hcl28 hcc28 (show 2≤2 from by decide) (x':=(⟨(rd_T77 x0_2 (ji19)).f0,(rd_T77 x0_2 (ji19)).f1⟩:S77)) (k77_mkM _ _ _ (⟨(rd_T77 x0_2 (ji19)).f0,(rd_T77 x0_2 (ji19)).f1⟩:S77) ) (fun _ hk=>hk)).1
             rw [← Ny165.out] at HP28
             have HQ28:=Aside0.mk HP28
             clear hcl28 hcc28 hfr28 hM28 HP28
             have p25:0≤((ji19):Int):=of_decide_eq_true (z0_)
             have q25:((ji19):Int)<((x0_2.length:Int):Int):=of_decide_eq_true (z0_)
             obtain ⟨ce25,hcl25,hM25,hcc25,hfr25⟩:=Kd.R_elem HQ28.out z77 ((ji19):Int) p25 q25
             obtain rfl:=k77_openM hM25
             have hx25_0:World.cell? _ ⟨go24,((ji19):Int).toNat*2,none⟩=some (.int .i64 ((rd_T77 y165 (ji19)).f0)):=hcc25 0 _ rfl
             have hx25_1:World.cell? _ ⟨go24,((ji19):Int).toNat*2+1,none⟩=some (.int .i64 ((rd_T77 y165 (ji19)).f1)):=hcc25 1 _ rfl
             have hf25_0:World.frozen? _ ⟨go24,((ji19):Int).toNat*2,none⟩=false:=hfr25 0
             have hf25_1:World.frozen? _ ⟨go24,((ji19):Int).toNat*2+1,none⟩=false:=hfr25 1
             clear hcl25 hcc25 hfr25 hM25
             replace p25:=eq_true p25
             replace q25:=eq_true q25
             obtain ⟨ce29,hcl29,hM29,hcc29,hfr29⟩:=Kd.R_elem HQ28.out z77 ((ji19):Int) (of_decide_eq_true (z0_)) (by have h_:((ji19):Int)<((x0_2.length:Int):Int):=of_decide_eq_true (by first | (with_reducible assumption) | assumption);first | exact h_ | (have e_:=(Kd.R_reads' HO_0.out).1;omega) | simpa using h_)
             obtain rfl:=k77_openM hM29
             have HP29:=(Kd.R_seg HQ28.out ((ji19):Int) (of_decide_eq_true (z0_)) (by have h_:((ji19):Int)<((x0_2.length:Int):Int):=of_decide_eq_true (by first | (with_reducible assumption) | assumption);first | exact h_ | (have e_:=(Kd.R_reads' HO_0.out).1;omega) | simpa using h_) (seg:=[.int .i64 ((rd_T77 x0_2 x9_2).f0),.int .i64 ((rd_T77 x0_2 x9_2).f1)]) (j:=0) hcl29 hcc29 (show 2≤2 from by decide) (x':=(⟨(rd_T77 x0_2 x9_2).f0,(rd_T77 x0_2 x9_2).f1⟩:S77)) (k77_mkM _ _ _ (⟨(rd_T77 x0_2 x9_2).f0,(rd_T77 x0_2 x9_2).f1⟩:S77) ) (fun _ hk=>hk)).1
             rw [← Ny166.out] at HP29
             have HQ29:=Aside0.mk HP29
             clear hcl29 hcc29 hfr29 hM29 HP29
             refine start_ (n:=18) (S:=fun w'=>w'.cell? ⟨go24,((ji19)).toNat*2,none⟩=some (.int .i64 ((rd_T77 x0_2 (ji19)).f0))∧w'.cell? ⟨go24,((ji19)).toNat*2+1,none⟩=some (.int .i64 ((rd_T77 x0_2 (ji19)).f1))∧w'.cell? ⟨go24,((x9_2).toNat*2),none⟩=some (.int .i64 ((rd_T77 x0_2 x9_2).f0))∧w'.cell? ⟨go24,((x9_2).toNat*2)+1,none⟩=some (.int .i64 ((rd_T77 x0_2 x9_2).f1))) (ds:=[15,17]) #[O,O,O,O,O,O,O,O,O,O,O,O,O,O,O,O,O,O] (by kernel_rfl) rfl rfl ⟨hx163_0,hx163_1,hx164_0,hx164_1⟩ (fun hHeld=>?_);refine with_tabW slices_insertionSortCmpFunc_impl_Token_impl_ringNew_1.tab6 slices_insertionSortCmpFunc_impl_Token_impl_ringNew_1.bits6 (fun HT_ HW_=>?_)
             generalize wc.drew=w26 at HO_0 HK HB GG24 HQ28 HQ29 hf24_0 hf24_1 hf25_0 hf25_1 hx163_0 hx163_1 hx164_0 hx164_1 hx24_0 hx24_1 hx25_0 hx25_1 hHeld ⊢
             have hne_:ji19.toNat*2≠x9_2.toNat*2:=by have a_:=of_eq_true p163;have b_:=of_eq_true p164;unfold wrap64 at hji19;omega
             have hz25_0:∀ V,(w26.setCell ⟨go24,(x9_2:Int).toNat*2,none⟩ V).cell? ⟨go24,((ji19):Int).toNat*2,none⟩=some (.int .i64 ((rd_T77 x0_2 (ji19)).f0)):=fun V=>(World.cell?_setCell_other _ _ _ _ (by intro e_;injection e_;omega)).trans hx163_0
             have hz25_1:∀ V,(w26.setCell ⟨go24,(x9_2:Int).toNat*2+1,none⟩ V).cell? ⟨go24,((ji19):Int).toNat*2+1,none⟩=some (.int .i64 ((rd_T77 x0_2 (ji19)).f1)):=fun V=>(World.cell?_setCell_other _ _ _ _ (by intro e_;injection e_;omega)).trans hx163_1
             have hy25_0:w26.frozen? ⟨go24,((ji19):Int).toNat*2,none⟩=false:=by have h_:=hf25_0;first | exact h_ | simpa only [World.frozen?_setCell] using h_ | simpa [World.setCells] using h_
             have hy25_1:w26.frozen? ⟨go24,((ji19):Int).toNat*2+1,none⟩=false:=by have h_:=hf25_1;first | exact h_ | simpa only [World.frozen?_setCell] using h_ | simpa [World.setCells] using h_
             refine pu_ 0 37 #[I,O,O,O,O,O,O,O,O,O,O,O,O,O,O,O,O,O] HT_.out ?_
             refine pu_ 1 38 #[I,I,O,O,O,O,O,O,O,O,O,O,O,O,O,O,O,O] HT_.out ?_
             refine pu_ 2 39 #[I,I,I,O,O,O,O,O,O,O,O,O,O,O,O,O,O,O] HT_.out ?_
             refine pu_ 3 40 #[I,I,I,I,O,O,O,O,O,O,O,O,O,O,O,O,O,O] HT_.out ?_
             refine pu_ 4 41 #[I,I,I,I,I,O,O,O,O,O,O,O,O,O,O,O,O,O] HT_.out ?_
             refine pu_ 5 42 #[I,I,I,I,I,I,O,O,O,O,O,O,O,O,O,O,O,O] HT_.out ?_
             refine pu_ 6 43 #[I,I,I,I,I,I,I,O,O,O,O,O,O,O,O,O,O,O] HT_.out ?_
             refine pu_ 7 44 #[I,I,I,I,I,I,I,I,O,O,O,O,O,O,O,O,O,O] HT_.out ?_
             refine pu_ 8 45 #[I,I,I,I,I,I,I,I,I,O,O,O,O,O,O,O,O,O] HT_.out ?_
             refine pu_ 10 47 #[I,I,I,I,I,I,I,I,I,O,I,O,O,O,O,O,O,O] HT_.out ?_
             refine pu_ 11 48 #[I,I,I,I,I,I,I,I,I,O,I,I,O,O,O,O,O,O] HT_.out ?_
             refine pu_ 12 49 #[I,I,I,I,I,I,I,I,I,O,I,I,I,O,O,O,O,O] HT_.out ?_
             refine tk4_ 9 46 #[I,I,I,I,I,I,I,I,I,I,I,I,I,O,O,O,O,O] HT_.out HW_.out hHeld ?_
             refine tk4_ 13 50 #[I,I,I,I,I,I,I,I,I,I,I,I,I,I,O,O,O,O] HT_.out HW_.out hHeld ?_
             refine pu_ 14 51 #[I,I,I,I,I,I,I,I,I,I,I,I,I,I,I,O,O,O] HT_.out ?_
             refine last_ (i:=15) (N:=none) #[I,I,I,I,I,I,I,I,I,I,I,I,I,I,I,I,O,O] rfl rfl (one_of HT_.out (by kernel_rfl)) (by decide) (fun K hK=>?_)
             refine skip_ (w1:=?_) (by rfl) rfl ?_ ?_
             rotate_left
             ·go_simp
              rfl
             refine hK.out _ _ ?_
             clear hK K
             refine pu_ 16 52 #[I,I,I,I,I,I,I,I,I,I,I,I,I,I,I,I,I,O] HT_.out ?_
             refine last_ (i:=17) (N:=none) #[I,I,I,I,I,I,I,I,I,I,I,I,I,I,I,I,I,I] rfl rfl (one_of HT_.out (by kernel_rfl)) (by decide) (fun K hK=>?_)
             refine skip_ (w1:=?_) (by rfl) rfl ?_ ?_
             rotate_left
             ·go_simp
              rfl
             refine hK.out _ _ ?_
             clear hK K
             refine done_ (done_of HT_.out (by kernel_rfl)) ?_
             try go_wp2
             go_roundg kj5
             case measure=>have:=HK1.out;have:=HK2.out;have:=HJ5.out;omega
             case rel=>exact ⟨(y166),(ji19),(by first | rfl | (simp;done) | (simp only [← hji19] <;> (first | rfl | simp)) | (simp [*];done)),H',⟨by have:=HK1.out;have:=HK2.out;have:=HJ5.out;omega⟩,⟨z1_ HQ29.out⟩,⟨z29_ HK.out HMgo24.out⟩,⟨z30_ HB.out GB24.out⟩⟩
            ·rw [if_neg c23] at H
             exact absurd H (by simp)
           ·rw [if_neg c22] at H
            exact absurd H (by simp)
          ·rw [if_neg c21] at H
           exact absurd H (by simp)
         ·rw [if_neg c20] at H
          exact absurd H (by simp)
        ·replace c18:=Bool.eq_false_iff.mpr c18
         subst c18
         have H1:(slices_insertionSortCmpFunc_impl_Token_impl_ringNew_1.l0 kj5 x0_2 a1 a2 (wrap64 (x8_1+1)))=some r:=by rw [if_neg (show ¬ (false=true) by decide)] at H;exact H
         clear H
         have H:=H1
         clear H1
         have H':=Aside0.mk H
         clear H
         go_wp2
         go_roundg kj5
         case measure=>have:=HK1.out;have:=HK2.out;have:=HJ5.out;omega
         case rel=>exact ⟨(x0_2),(wrap64 (x8_1+1)),(z2_),H',⟨by have:=HK1.out;have:=HK2.out;have:=HJ5.out;omega⟩,⟨z1_ HO_0.out⟩,⟨z9_ HK.out⟩,⟨z4_ HB.out⟩⟩
   ·rw [if_neg c5] at H
    have c5b0:decide (x8_1<a2)=false:=decide_eq_false c5
    clear c5
    obtain rfl:=Option.some.inj H
    go_wp2
    first | go_end0 | ((try simp only [Exit.inBlock,Exit.then]);refine bodyPost_ret (results_none rfl _ _ _) rfl ?_)
    exact ⟨z10_,z1_ HO_0.out,z4_ HB.out,z9_ HK.out⟩


/-! ### slices_heapSortCmpFunc_impl_Token_impl_ringNew_1: function 123 -/
def slices_heapSortCmpFunc_impl_Token_impl_ringNew_1.f (l0:List (S77)) (a1:Int) (a2:Int)  : Option (Unit):=none
set_option maxHeartbeats 8000000 in
set_option maxRecDepth 100000 in
theorem slices_heapSortCmpFunc_impl_Token_impl_ringNew_1.calls (A0:Option Addr) (c0:Nat) (l0:List (S77)) (a1:Int) (a2:Int)  (w:World) (hr0:Kd.C k77 w A0 l0.length l0) (hc0:l0.length≤c0) (h:slices_heapSortCmpFunc_impl_Token_impl_ringNew_1.f l0 a1 a2=some ()) :
  Calls Tryd.prog 123 #[.slice A0 l0.length c0,.int .i64 a1,.int .i64 a2,.func (.func 78) #[] #[]] w fun e w'=>e = .returned (.tuple #[])∧Drawn0 w w':=by
 have HR0:=Aside0.mk hr0
 have HC0:=Aside0.mk hc0
 clear hr0 hc0
 have H:(none)=some ():=h
 clear h
 exact absurd H (by simp)


/-! ### slices_breakPatternsCmpFunc_impl_Token_impl_ringNew_1: function 124 -/
def slices_breakPatternsCmpFunc_impl_Token_impl_ringNew_1.f (l0:List (S77)) (a1:Int) (a2:Int)  : Option (Unit):=none
set_option maxHeartbeats 8000000 in
set_option maxRecDepth 100000 in
theorem slices_breakPatternsCmpFunc_impl_Token_impl_ringNew_1.calls (A0:Option Addr) (c0:Nat) (l0:List (S77)) (a1:Int) (a2:Int)  (w:World) (hr0:Kd.C k77 w A0 l0.length l0) (hc0:l0.length≤c0) (h:slices_breakPatternsCmpFunc_impl_Token_impl_ringNew_1.f l0 a1 a2=some ()) :
  Calls Tryd.prog 124 #[.slice A0 l0.length c0,.int .i64 a1,.int .i64 a2,.func (.func 78) #[] #[]] w fun e w'=>e = .returned (.tuple #[])∧Drawn0 w w':=by
 have HR0:=Aside0.mk hr0
 have HC0:=Aside0.mk hc0
 clear hr0 hc0
 have H:(none)=some ():=h
 clear h
 exact absurd H (by simp)


/-- A state of type 3 at block g of W; what its slices lead to came in by w0. -/
def IsS3 (w0 W:World) (g:Nat) (f0:Int):Prop:=W.heap[g]? = some (.cells #[.int .i64 f0] 3 (0,0))∧w0.heap.size≤g
theorem IsS3.grown {w0 W:World} {g:Nat} {f0:Int} {W1:World} {row:Option Nat} (h:IsS3 w0 W g f0) (hw:W.grownBy W1 row) (hne:some g≠row):IsS3 w0 W1 g f0:=by
 obtain ⟨hb,hg⟩:=h
 exact ⟨blk_grown hb hw hne,hg⟩
theorem IsS3.kept {w0 W:World} {g:Nat} {f0:Int} {W1:World} {S:Nat→Prop} (h:IsS3 w0 W g f0) (hk:Kept W W1 S) (hne:¬ S g):IsS3 w0 W1 g f0:=by
 obtain ⟨hb,hg⟩:=h
 exact ⟨blk_kept hb hk hne,hg⟩
theorem IsS3.below {w0 W:World} {g:Nat} {f0:Int} {W1:World} (h:IsS3 w0 W g f0) (hw:Below W.heap.size W W1):IsS3 w0 W1 g f0:=h.grown (grown_of_below hw none) (by simp)
theorem IsS3.alloc {w0 W:World} {g:Nat} {f0:Int} (h:IsS3 w0 W g f0) (o:Obj):IsS3 w0 (W.alloc o) g f0:=h.below (below_alloc (Below.refl _ _) o)
theorem IsS3.drewN {w0 W:World} {g:Nat} {f0:Int} (h:IsS3 w0 W g f0) (m:Nat):IsS3 w0 (W.drewN m) g f0:=h
theorem IsS3.drew {w0 W:World} {g:Nat} {f0:Int} (h:IsS3 w0 W g f0):IsS3 w0 W.drew g f0:=h
theorem IsS3.apart {w0 W:World} {g:Nat} {f0:Int} {α:Type} {d:Kd α} {e:Nat} {base:Nat} {ok:Nat→Prop} {v:Value} {xs:List α} (h:IsS3 w0 W g f0) (ho:d.R e W base ok v xs) (ht:∀ q,q ∈ e :: d.E→q≠3):d.R e W base (fun k=>ok k∧k≠g) v xs:=by
 obtain ⟨hb,hg⟩:=h
 exact Kd.R_types ho hb ht
theorem IsS3.own_ne {w0 W:World} {g:Nat} {f0:Int} {α:Type} {d:Kd α} {e:Nat} {base:Nat} {ok:Nat→Prop} {v:Value} {xs:List α} (h:IsS3 w0 W g f0) (ho:d.R e W base ok v xs) (ht:e≠3):some g≠v.ownBlock:=by
 obtain ⟨hb,hg⟩:=h
 exact Kd.R_ne ho hb ht
theorem IsS3.ge {w0 W:World} {g:Nat} {f0:Int} (h:IsS3 w0 W g f0):w0.heap.size≤g:=by
 obtain ⟨hb,hg⟩:=h
 exact hg
theorem cellS3_0 {W:World} {g:Nat} {f0:Int} (h:W.heap[g]? = some (.cells #[.int .i64 f0] 3 (0,0))):W.cell? ⟨g,0,none⟩=some (.int .i64 f0):=(blk_cell h 0).trans rfl
theorem IsS3.set_0 {w0 W:World} {g:Nat} {f0:Int} (h:IsS3 w0 W g f0) (x:Int):IsS3 w0 (W.setCell ⟨g,0,none⟩ (.int .i64 x)) g x:=by
 obtain ⟨hb,hg⟩:=h
 exact ⟨by simpa using blk_set hb 0 (.int .i64 x),hg⟩
/-! ### slices_order2CmpFunc_impl_Token_impl_ringNew_1: function 148 -/
def slices_order2CmpFunc_impl_Token_impl_ringNew_1.f (k:Nat) (l0:List (S77)) (a1:Int) (a2:Int) (s3_0:Int)  : Option (Int × Int × Int):=if 0≤a2 then (if a2<(l0.length:Int) then (if 0≤a1 then (if a1<(l0.length:Int) then ((impl_ringNew_1.f k ((rd_T77 l0 a2).f0) ((rd_T77 l0 a2).f1) ((rd_T77 l0 a1).f0) ((rd_T77 l0 a1).f1)).bind fun t169=>(if t169<0 then (some (a2,a1,wrap64 (s3_0+1))) else (some (a1,a2,s3_0)))) else (none)) else (none)) else (none)) else (none)
theorem slices_order2CmpFunc_impl_Token_impl_ringNew_1.mono:∀ a0 a1 a2 a3 k,LeO (slices_order2CmpFunc_impl_Token_impl_ringNew_1.f k a0 a1 a2 a3) (slices_order2CmpFunc_impl_Token_impl_ringNew_1.f (k+1) a0 a1 a2 a3):=by
 intro a0 a1 a2 a3 k
 unfold slices_order2CmpFunc_impl_Token_impl_ringNew_1.f
 repeat' first
   | (with_reducible exact impl_ringNew_1.mono _ _ _ _ _)
   | (with_reducible exact LeO.refl _)
   | (with_reducible exact LeO.none _)
   | (with_reducible refine LeO.ite ?_ ?_)
   | (with_reducible refine LeO.bind ?_ (fun _=>?_))
   | exact impl_ringNew_1.mono _ _ _ _ _
   | exact LeO.none _
   | refine LeO.ite ?_ ?_
   | refine LeO.bind ?_ (fun _=>?_)
def slices_order2CmpFunc_impl_Token_impl_ringNew_1.T1:Bool × List (List Nat × List Nat):=(true,[([],[]),([],[]),([],[]),([1,2],[1,2]),([3],[3]),([],[]),([],[]),([5,6],[5,6]),([7],[7]),([0,4,8],[0,4,8]),([9],[9])])
def slices_order2CmpFunc_impl_Token_impl_ringNew_1.B1:List Nat:=[0,0,0,6,14,0,0,96,224,511,1023]
theorem slices_order2CmpFunc_impl_Token_impl_ringNew_1.tab1:rtab .any (opsOf Tryd.f148 1)=slices_order2CmpFunc_impl_Token_impl_ringNew_1.T1:=by kernel_rfl
theorem slices_order2CmpFunc_impl_Token_impl_ringNew_1.bits1:waitsOk slices_order2CmpFunc_impl_Token_impl_ringNew_1.T1.2 slices_order2CmpFunc_impl_Token_impl_ringNew_1.B1=true:=by kernel_rfl
set_option maxHeartbeats 8000000 in
set_option maxRecDepth 100000 in
theorem slices_order2CmpFunc_impl_Token_impl_ringNew_1.calls (k:Nat) (A0:Option Addr) (c0:Nat) (l0:List (S77)) (a1:Int) (a2:Int) (g:Nat) (s3_0:Int)  (r1:Int) (r2:Int) (r3:Int) (w0 w:World) (hI:IsS3 w0 w g s3_0) (hB:Below w0.heap.size w0 w) (hr0:∀ W_,KeepBut w W_ g none→Kd.C k77 W_ A0 l0.length l0) (hc0:l0.length≤c0) (h:slices_order2CmpFunc_impl_Token_impl_ringNew_1.f k l0 a1 a2 s3_0=some (r1,r2,r3)) :
  Calls Tryd.prog 148 #[.slice A0 l0.length c0,.int .i64 a1,.int .i64 a2,.pointer (some ⟨g,0,none⟩),.func (.func 78) #[] #[]] w fun e w'=>e = .returned (.tuple #[.int .i64 r1,.int .i64 r2])∧IsS3 w0 w' g r3∧Below w0.heap.size w0 w'∧KeepBut w w' g none:=by
 have hu77:=Tryd.underlying77
 have HR0:=Aside0.mk hr0
 have HC0:=Aside0.mk hc0
 clear hr0 hc0
 have HI3:=Aside0.mk hI
 have HK:=Aside0.mk (KeepBut.refl w g none)
 have HL:=Aside0.mk hB.size
 clear hI
 have HW0:=Aside0.mk hB.size
 have HB:=Aside0.mk hB
 clear hB
 have H:(if 0≤a2 then (if a2<(l0.length:Int) then (if 0≤a1 then (if a1<(l0.length:Int) then ((impl_ringNew_1.f k ((rd_T77 l0 a2).f0) ((rd_T77 l0 a2).f1) ((rd_T77 l0 a1).f0) ((rd_T77 l0 a1).f1)).bind fun t169=>(if t169<0 then (some (a2,a1,wrap64 (s3_0+1))) else (some (a1,a2,s3_0)))) else (none)) else (none)) else (none)) else (none))=some (r1,r2,r3):=h
 clear h
 by_cases c6:0≤a2
 ·rw [if_pos c6] at H
  have c6b0:decide (0≤a2)=true:=decide_eq_true c6
  clear c6
  by_cases c7:a2<(l0.length:Int)
  ·rw [if_pos c7] at H
   have c7b0:decide (a2<(l0.length:Int))=true:=decide_eq_true c7
   clear c7
   by_cases c8:0≤a1
   ·rw [if_pos c8] at H
    have c8b0:decide (0≤a1)=true:=decide_eq_true c8
    clear c8
    by_cases c9:a1<(l0.length:Int)
    ·rw [if_pos c9] at H
     have c9b0:decide (a1<(l0.length:Int))=true:=decide_eq_true c9
     clear c9
     replace H:=Option.bind_eq_some_iff.mp H
     obtain ⟨t169,A100,H⟩:=H
     replace H:(if t169<0 then (some (a2,a1,wrap64 (s3_0+1))) else (some (a1,a2,s3_0)))=some (r1,r2,r3):=H
     have A10:=Aside0.mk A100
     clear A100
     by_cases c11:t169<0
     ·rw [if_pos c11] at H
      have c11b0:decide (t169<0)=true:=decide_eq_true c11
      clear c11
      simp only [Option.some.injEq,Prod.mk.injEq] at H
      obtain ⟨rfl,rfl,rfl⟩:=H
      go_enter Tryd.func148,Tryd.ntmps148
      try go_wp2
      refine as3_ (IsS3.drew HI3.out) (keep_drew HK.out) (below_drew1 HB.out) ?_
      clear HI3 HK HB
      intro HI3 HK HB
      have p167:0≤(a2:Int):=of_decide_eq_true (z0_)
      have q167:a2<(l0.length:Int):=of_decide_eq_true (z0_)
      obtain ⟨ad167,e167,hx167_0,hx167_1⟩:=at_T77 (Kd.C_foot_now HR0.out HK.out) a2 p167 q167
      have hw167_1:=hx167_1
      have hw167_0:=hx167_0
      cases e167
      have hne167_1:=(show (⟨(ad167.add ((a2).toNat*2)).block,(ad167.add ((a2).toNat*2)).off+1,none⟩:Addr).block≠g from by first | (rw [add_block];exact Kd.foot_ne HR0.out (by omega) (by decide)) | (show (Addr.add _ _).block≠_;rw [add_block];exact Kd.foot_ne HR0.out (by omega) (by decide)) | exact Kd.foot_ne HR0.out (by omega) (by decide) | (dsimp only;exact Kd.foot_ne HR0.out (by omega) (by decide)))
      have hlt167_1:=(Kd.foot_lt HR0.out (by omega) (by decide))
      have hne167_0:=(show ((ad167.add ((a2).toNat*2)):Addr).block≠g from by first | (rw [add_block];exact Kd.foot_ne HR0.out (by omega) (by decide)) | (show (Addr.add _ _).block≠_;rw [add_block];exact Kd.foot_ne HR0.out (by omega) (by decide)) | exact Kd.foot_ne HR0.out (by omega) (by decide) | (dsimp only;exact Kd.foot_ne HR0.out (by omega) (by decide)))
      have hlt167_0:=(Kd.foot_lt HR0.out (by omega) (by decide))
      replace p167:=eq_true p167
      replace q167:=eq_true q167
      have p168:0≤(a1:Int):=of_decide_eq_true (z0_)
      have q168:a1<(l0.length:Int):=of_decide_eq_true (z0_)
      obtain ⟨ad168,e168,hx168_0,hx168_1⟩:=at_T77 (Kd.C_foot_now HR0.out HK.out) a1 p168 q168
      have hw168_1:=hx168_1
      have hw168_0:=hx168_0
      obtain rfl:ad167=ad168:=(by injection e168)
      have hne168_1:=(show (⟨(ad167.add ((a1).toNat*2)).block,(ad167.add ((a1).toNat*2)).off+1,none⟩:Addr).block≠g from by first | (rw [add_block];exact Kd.foot_ne HR0.out (by omega) (by decide)) | (show (Addr.add _ _).block≠_;rw [add_block];exact Kd.foot_ne HR0.out (by omega) (by decide)) | exact Kd.foot_ne HR0.out (by omega) (by decide) | (dsimp only;exact Kd.foot_ne HR0.out (by omega) (by decide)))
      have hlt168_1:=(Kd.foot_lt HR0.out (by omega) (by decide))
      have hne168_0:=(show ((ad167.add ((a1).toNat*2)):Addr).block≠g from by first | (rw [add_block];exact Kd.foot_ne HR0.out (by omega) (by decide)) | (show (Addr.add _ _).block≠_;rw [add_block];exact Kd.foot_ne HR0.out (by omega) (by decide)) | exact Kd.foot_ne HR0.out (by omega) (by decide) | (dsimp only;exact Kd.foot_ne HR0.out (by omega) (by decide)))
      have hlt168_0:=(Kd.foot_lt HR0.out (by omega) (by decide))
      replace p168:=eq_true p168
      replace q168:=eq_true q168
      refine start_ (n:=11) (S:=fun w'=>w'.cell? (ad167.add ((a2).toNat*2))=some (.int .i64 ((rd_T77 l0 a2).f0))∧w'.cell? ⟨(ad167.add ((a2).toNat*2)).block,(ad167.add ((a2).toNat*2)).off+1,none⟩=some (.int .i64 ((rd_T77 l0 a2).f1))∧w'.cell? (ad167.add ((a1).toNat*2))=some (.int .i64 ((rd_T77 l0 a1).f0))∧w'.cell? ⟨(ad167.add ((a1).toNat*2)).block,(ad167.add ((a1).toNat*2)).off+1,none⟩=some (.int .i64 ((rd_T77 l0 a1).f1))) (ds:=[]) #[O,O,O,O,O,O,O,O,O,O,O] (by kernel_rfl) rfl rfl ⟨hx167_0,hx167_1,hx168_0,hx168_1⟩ (fun hHeld=>?_);refine with_tabW slices_order2CmpFunc_impl_Token_impl_ringNew_1.tab1 slices_order2CmpFunc_impl_Token_impl_ringNew_1.bits1 (fun HT_ HW_=>?_)
      generalize w.drew=w12 at HI3 HK HB hx167_0 hx167_1 hx168_0 hx168_1 hHeld ⊢
      refine pu_ 0 12 #[I,O,O,O,O,O,O,O,O,O,O] HT_.out ?_
      refine pu_ 1 13 #[I,I,O,O,O,O,O,O,O,O,O] HT_.out ?_
      refine pu_ 2 14 #[I,I,I,O,O,O,O,O,O,O,O] HT_.out ?_
      refine pu_ 3 15 #[I,I,I,I,O,O,O,O,O,O,O] HT_.out ?_
      refine pu_ 5 17 #[I,I,I,I,O,I,O,O,O,O,O] HT_.out ?_
      refine pu_ 6 18 #[I,I,I,I,O,I,I,O,O,O,O] HT_.out ?_
      refine pu_ 7 19 #[I,I,I,I,O,I,I,I,O,O,O] HT_.out ?_
      refine tk4_ 4 16 #[I,I,I,I,I,I,I,I,O,O,O] HT_.out HW_.out hHeld ?_
      refine tk4_ 8 20 #[I,I,I,I,I,I,I,I,I,O,O] HT_.out HW_.out hHeld ?_
      refine o1_ 9 21 #[I,I,I,I,I,I,I,I,I,I,O] HT_.out (fun K hK=>?_)
      refine goesD_ Tryd.func78 (by kernel_rfl) rfl #[.agg #[.int .i64 ((rd_T77 l0 a2).f0),.int .i64 ((rd_T77 l0 a2).f1)],.agg #[.int .i64 ((rd_T77 l0 a1).f0),.int .i64 ((rd_T77 l0 a1).f1)]] (by rfl) rfl rfl (by rfl) (z31_) ?_
      with_reducible refine (impl_ringNew_1.calls k ((rd_T77 l0 a2).f0) ((rd_T77 l0 a2).f1) ((rd_T77 l0 a1).f0) ((rd_T77 l0 a1).f1) t169 _ A10.out).mono ?_
      rintro e w13 ⟨rfl,hb⟩
      have HS0_:=(hb.cell (World.block_lt_of_cell? _ _ (hHeld.1))).trans (hHeld.1)
      have HS1_:=(hb.cell (World.block_lt_of_cell? _ _ (hHeld.2.1))).trans (hHeld.2.1)
      have HS2_:=(hb.cell (World.block_lt_of_cell? _ _ (hHeld.2.2.1))).trans (hHeld.2.2.1)
      have HS3_:=(hb.cell (World.block_lt_of_cell? _ _ (hHeld.2.2.2))).trans (hHeld.2.2.2)
      refine ⟨_,rfl,?_⟩
      refine as3_ (IsS3.below (z23_ HI3.out) hb) (KeepBut.trans (z17_ HK.out) (KeepBut.of_below hb g none) (.inl rfl)) (below_step (z14_ HB.out HI3.out) hb) ?_
      clear HI3 HK HB
      intro HI3 HK HB
      (try clear hb)
      refine hK.out _ _ ⟨HS0_,HS1_,HS2_,HS3_⟩ (fun hHeld=>?_)
      clear hK K
      refine nm_ 21 ?_
      refine pu_ 10 22 #[I,I,I,I,I,I,I,I,I,I,I] HT_.out ?_
      refine done_ (done_of HT_.out (by kernel_rfl)) ?_
      obtain ⟨HGz14,hgz14⟩:=HI3.out
      have hcz14_0:=cellS3_0 HGz14
      have hfz14_0:=blk_frozen HGz14 0
      clear HGz14 hgz14
      try go_wp2
      go_ret2
      exact ⟨z10_,z23_ HI3.out,z14_ HB.out HI3.out,z17_ HK.out⟩
     ·rw [if_neg c11] at H
      have c11b0:decide (t169<0)=false:=decide_eq_false c11
      clear c11
      simp only [Option.some.injEq,Prod.mk.injEq] at H
      obtain ⟨rfl,rfl,rfl⟩:=H
      go_enter Tryd.func148,Tryd.ntmps148
      try go_wp2
      refine as3_ (IsS3.drew HI3.out) (keep_drew HK.out) (below_drew1 HB.out) ?_
      clear HI3 HK HB
      intro HI3 HK HB
      have p167:0≤(a2:Int):=of_decide_eq_true (z0_)
      have q167:a2<(l0.length:Int):=of_decide_eq_true (z0_)
      obtain ⟨ad167,e167,hx167_0,hx167_1⟩:=at_T77 (Kd.C_foot_now HR0.out HK.out) a2 p167 q167
      have hw167_1:=hx167_1
      have hw167_0:=hx167_0
      cases e167
      have hne167_1:=(show (⟨(ad167.add ((a2).toNat*2)).block,(ad167.add ((a2).toNat*2)).off+1,none⟩:Addr).block≠g from by first | (rw [add_block];exact Kd.foot_ne HR0.out (by omega) (by decide)) | (show (Addr.add _ _).block≠_;rw [add_block];exact Kd.foot_ne HR0.out (by omega) (by decide)) | exact Kd.foot_ne HR0.out (by omega) (by decide) | (dsimp only;exact Kd.foot_ne HR0.out (by omega) (by decide)))
      have hlt167_1:=(Kd.foot_lt HR0.out (by omega) (by decide))
      have hne167_0:=(show ((ad167.add ((a2).toNat*2)):Addr).block≠g from by first | (rw [add_block];exact Kd.foot_ne HR0.out (by omega) (by decide)) | (show (Addr.add _ _).block≠_;rw [add_block];exact Kd.foot_ne HR0.out (by omega) (by decide)) | exact Kd.foot_ne HR0.out (by omega) (by decide) | (dsimp only;exact Kd.foot_ne HR0.out (by omega) (by decide)))
      have hlt167_0:=(Kd.foot_lt HR0.out (by omega) (by decide))
      replace p167:=eq_true p167
      replace q167:=eq_true q167
      have p168:0≤(a1:Int):=of_decide_eq_true (z0_)
      have q168:a1<(l0.length:Int):=of_decide_eq_true (z0_)
      obtain ⟨ad168,e168,hx168_0,hx168_1⟩:=at_T77 (Kd.C_foot_now HR0.out HK.out) a1 p168 q168
      have hw168_1:=hx168_1
      have hw168_0:=hx168_0
      obtain rfl:ad167=ad168:=(by injection e168)
      have hne168_1:=(show (⟨(ad167.add ((a1).toNat*2)).block,(ad167.add ((a1).toNat*2)).off+1,none⟩:Addr).block≠g from by first | (rw [add_block];exact Kd.foot_ne HR0.out (by omega) (by decide)) | (show (Addr.add _ _).block≠_;rw [add_block];exact Kd.foot_ne HR0.out (by omega) (by decide)) | exact Kd.foot_ne HR0.out (by omega) (by decide) | (dsimp only;exact Kd.foot_ne HR0.out (by omega) (by decide)))
      have hlt168_1:=(Kd.foot_lt HR0.out (by omega) (by decide))
      have hne168_0:=(show ((ad167.add ((a1).toNat*2)):Addr).block≠g from by first | (rw [add_block];exact Kd.foot_ne HR0.out (by omega) (by decide)) | (show (Addr.add _ _).block≠_;rw [add_block];exact Kd.foot_ne HR0.out (by omega) (by decide)) | exact Kd.foot_ne HR0.out (by omega) (by decide) | (dsimp only;exact Kd.foot_ne HR0.out (by omega) (by decide)))
      have hlt168_0:=(Kd.foot_lt HR0.out (by omega) (by decide))
      replace p168:=eq_true p168
      replace q168:=eq_true q168
      refine start_ (n:=11) (S:=fun w'=>w'.cell? (ad167.add ((a2).toNat*2))=some (.int .i64 ((rd_T77 l0 a2).f0))∧w'.cell? ⟨(ad167.add ((a2).toNat*2)).block,(ad167.add ((a2).toNat*2)).off+1,none⟩=some (.int .i64 ((rd_T77 l0 a2).f1))∧w'.cell? (ad167.add ((a1).toNat*2))=some (.int .i64 ((rd_T77 l0 a1).f0))∧w'.cell? ⟨(ad167.add ((a1).toNat*2)).block,(ad167.add ((a1).toNat*2)).off+1,none⟩=some (.int .i64 ((rd_T77 l0 a1).f1))) (ds:=[]) #[O,O,O,O,O,O,O,O,O,O,O] (by kernel_rfl) rfl rfl ⟨hx167_0,hx167_1,hx168_0,hx168_1⟩ (fun hHeld=>?_);refine with_tabW slices_order2CmpFunc_impl_Token_impl_ringNew_1.tab1 slices_order2CmpFunc_impl_Token_impl_ringNew_1.bits1 (fun HT_ HW_=>?_)
      generalize w.drew=w15 at HI3 HK HB hx167_0 hx167_1 hx168_0 hx168_1 hHeld ⊢
      refine pu_ 0 12 #[I,O,O,O,O,O,O,O,O,O,O] HT_.out ?_
      refine pu_ 1 13 #[I,I,O,O,O,O,O,O,O,O,O] HT_.out ?_
      refine pu_ 2 14 #[I,I,I,O,O,O,O,O,O,O,O] HT_.out ?_
      refine pu_ 3 15 #[I,I,I,I,O,O,O,O,O,O,O] HT_.out ?_
      refine pu_ 5 17 #[I,I,I,I,O,I,O,O,O,O,O] HT_.out ?_
      refine pu_ 6 18 #[I,I,I,I,O,I,I,O,O,O,O] HT_.out ?_
      refine pu_ 7 19 #[I,I,I,I,O,I,I,I,O,O,O] HT_.out ?_
      refine tk4_ 4 16 #[I,I,I,I,I,I,I,I,O,O,O] HT_.out HW_.out hHeld ?_
      refine tk4_ 8 20 #[I,I,I,I,I,I,I,I,I,O,O] HT_.out HW_.out hHeld ?_
      refine o1_ 9 21 #[I,I,I,I,I,I,I,I,I,I,O] HT_.out (fun K hK=>?_)
      refine goesD_ Tryd.func78 (by kernel_rfl) rfl #[.agg #[.int .i64 ((rd_T77 l0 a2).f0),.int .i64 ((rd_T77 l0 a2).f1)],.agg #[.int .i64 ((rd_T77 l0 a1).f0),.int .i64 ((rd_T77 l0 a1).f1)]] (by rfl) rfl rfl (by rfl) (z31_) ?_
      with_reducible refine (impl_ringNew_1.calls k ((rd_T77 l0 a2).f0) ((rd_T77 l0 a2).f1) ((rd_T77 l0 a1).f0) ((rd_T77 l0 a1).f1) t169 _ A10.out).mono ?_
      rintro e w16 ⟨rfl,hb⟩
      have HS0_:=(hb.cell (World.block_lt_of_cell? _ _ (hHeld.1))).trans (hHeld.1)
      have HS1_:=(hb.cell (World.block_lt_of_cell? _ _ (hHeld.2.1))).trans (hHeld.2.1)
      have HS2_:=(hb.cell (World.block_lt_of_cell? _ _ (hHeld.2.2.1))).trans (hHeld.2.2.1)
      have HS3_:=(hb.cell (World.block_lt_of_cell? _ _ (hHeld.2.2.2))).trans (hHeld.2.2.2)
      refine ⟨_,rfl,?_⟩
      refine as3_ (IsS3.below (z23_ HI3.out) hb) (KeepBut.trans (z17_ HK.out) (KeepBut.of_below hb g none) (.inl rfl)) (below_step (z14_ HB.out HI3.out) hb) ?_
      clear HI3 HK HB
      intro HI3 HK HB
      (try clear hb)
      refine hK.out _ _ ⟨HS0_,HS1_,HS2_,HS3_⟩ (fun hHeld=>?_)
      clear hK K
      refine nm_ 21 ?_
      refine pu_ 10 22 #[I,I,I,I,I,I,I,I,I,I,I] HT_.out ?_
      refine done_ (done_of HT_.out (by kernel_rfl)) ?_
      try go_wp2
      go_ret2
      exact ⟨z10_,z23_ HI3.out,z14_ HB.out HI3.out,z17_ HK.out⟩
    ·rw [if_neg c9] at H
     exact absurd H (by simp)
   ·rw [if_neg c8] at H
    exact absurd H (by simp)
  ·rw [if_neg c7] at H
   exact absurd H (by simp)
 ·rw [if_neg c6] at H
  exact absurd H (by simp)


/-! ### slices_medianCmpFunc_impl_Token_impl_ringNew_1: function 142 -/
def slices_medianCmpFunc_impl_Token_impl_ringNew_1.f (k:Nat) (l0:List (S77)) (a1:Int) (a2:Int) (a3:Int) (s4_0:Int)  : Option (Int × Int):=(slices_order2CmpFunc_impl_Token_impl_ringNew_1.f k l0 a1 a2 s4_0).bind fun bt170=>((slices_order2CmpFunc_impl_Token_impl_ringNew_1.f k l0 bt170.2.1 a3 bt170.2.2).bind fun bt173=>((slices_order2CmpFunc_impl_Token_impl_ringNew_1.f k l0 bt170.1 bt173.1 bt173.2.2).bind fun bt176=>(some (bt176.2.1,bt176.2.2))))
theorem slices_medianCmpFunc_impl_Token_impl_ringNew_1.mono:∀ a0 a1 a2 a3 a4 k,LeO (slices_medianCmpFunc_impl_Token_impl_ringNew_1.f k a0 a1 a2 a3 a4) (slices_medianCmpFunc_impl_Token_impl_ringNew_1.f (k+1) a0 a1 a2 a3 a4):=by
 intro a0 a1 a2 a3 a4 k
 unfold slices_medianCmpFunc_impl_Token_impl_ringNew_1.f
 repeat' first
   | (with_reducible exact slices_order2CmpFunc_impl_Token_impl_ringNew_1.mono _ _ _ _ _)
   | (with_reducible exact LeO.refl _)
   | (with_reducible exact LeO.none _)
   | (with_reducible refine LeO.ite ?_ ?_)
   | (with_reducible refine LeO.bind ?_ (fun _=>?_))
   | exact slices_order2CmpFunc_impl_Token_impl_ringNew_1.mono _ _ _ _ _
   | exact LeO.none _
   | refine LeO.ite ?_ ?_
   | refine LeO.bind ?_ (fun _=>?_)
set_option maxHeartbeats 8000000 in
set_option maxRecDepth 100000 in
theorem slices_medianCmpFunc_impl_Token_impl_ringNew_1.calls (k:Nat) (A0:Option Addr) (c0:Nat) (l0:List (S77)) (a1:Int) (a2:Int) (a3:Int) (g:Nat) (s4_0:Int)  (r1:Int) (r2:Int) (w0 w:World) (hI:IsS3 w0 w g s4_0) (hB:Below w0.heap.size w0 w) (hr0:∀ W_,KeepBut w W_ g none→Kd.C k77 W_ A0 l0.length l0) (hc0:l0.length≤c0) (h:slices_medianCmpFunc_impl_Token_impl_ringNew_1.f k l0 a1 a2 a3 s4_0=some (r1,r2)) :
  Calls Tryd.prog 142 #[.slice A0 l0.length c0,.int .i64 a1,.int .i64 a2,.int .i64 a3,.pointer (some ⟨g,0,none⟩),.func (.func 78) #[] #[]] w fun e w'=>e = .returned (.int .i64 r1)∧IsS3 w0 w' g r2∧Below w0.heap.size w0 w'∧KeepBut w w' g none:=by
 have HR0:=Aside0.mk hr0
 have HC0:=Aside0.mk hc0
 clear hr0 hc0
 have HI4:=Aside0.mk hI
 have HK:=Aside0.mk (KeepBut.refl w g none)
 have HL:=Aside0.mk hB.size
 clear hI
 have HW0:=Aside0.mk hB.size
 have HB:=Aside0.mk hB
 clear hB
 have H:((slices_order2CmpFunc_impl_Token_impl_ringNew_1.f k l0 a1 a2 s4_0).bind fun bt170=>((slices_order2CmpFunc_impl_Token_impl_ringNew_1.f k l0 bt170.2.1 a3 bt170.2.2).bind fun bt173=>((slices_order2CmpFunc_impl_Token_impl_ringNew_1.f k l0 bt170.1 bt173.1 bt173.2.2).bind fun bt176=>(some (bt176.2.1,bt176.2.2)))))=some (r1,r2):=h
 clear h
 replace H:=Option.bind_eq_some_iff.mp H
 obtain ⟨⟨t170,t171,t172⟩,A70,H⟩:=H
 replace H:((slices_order2CmpFunc_impl_Token_impl_ringNew_1.f k l0 t171 a3 t172).bind fun bt173=>((slices_order2CmpFunc_impl_Token_impl_ringNew_1.f k l0 t170 bt173.1 bt173.2.2).bind fun bt176=>(some (bt176.2.1,bt176.2.2))))=some (r1,r2):=H
 have A7:=Aside0.mk A70
 clear A70
 replace H:=Option.bind_eq_some_iff.mp H
 obtain ⟨⟨t173,t174,t175⟩,A80,H⟩:=H
 replace H:((slices_order2CmpFunc_impl_Token_impl_ringNew_1.f k l0 t170 t173 t175).bind fun bt176=>(some (bt176.2.1,bt176.2.2)))=some (r1,r2):=H
 have A8:=Aside0.mk A80
 clear A80
 replace H:=Option.bind_eq_some_iff.mp H
 obtain ⟨⟨t176,t177,t178⟩,A90,H⟩:=H
 replace H:(some (t177,t178))=some (r1,r2):=H
 have A9:=Aside0.mk A90
 clear A90
 simp only [Option.some.injEq,Prod.mk.injEq] at H
 obtain ⟨rfl,rfl⟩:=H
 go_enter Tryd.func142,Tryd.ntmps142
 go_wp2_with (first | ((with_reducible refine gc_ 148 ?_);refine gl_ (some 19) Tryd.func148 #[.slice A0 l0.length c0,.int .i64 a1,.int .i64 a2,.pointer (some ⟨g,0,none⟩),.func (.func 78) #[] #[]] ?_;(with_reducible refine (slices_order2CmpFunc_impl_Token_impl_ringNew_1.calls k _ _ l0 a1 a2 g s4_0  t170 t171 t172 w0 _ ?s1 ?s2 ?s3 ?s4 A7.out).mono ?_);(case s1=>repeat (first | (with_reducible first | exact HI4.out | apply IsS3.alloc | apply IsS3.drewN | apply IsS3.drew | apply IsS3.set_0) | exact HI4.out));(case s2=>repeat (first | (with_reducible first | exact HB.out | apply below_alloc | apply pw_below_drewN | apply below_drew1 | refine below_set ?_ (IsS3.ge HI4.out)) | exact HB.out));(case s3=>exact Kd.C_foot_step HR0.out (z17_ HK.out));(case s4=>exact HC0.out);rintro e w10 ⟨rfl,hi,hb,hk⟩;refine ⟨_,rfl,?_⟩;refine as3_ (KeepBut.trans (z17_ HK.out) hk (.inl rfl)) (hb) (hi) ?_;clear HK HB HI4;intro HK HB HI4;(try clear hb);(try clear hk);(try clear hi)) | ((with_reducible refine gc_ 148 ?_);refine gl_ (some 28) Tryd.func148 #[.slice A0 l0.length c0,.int .i64 t171,.int .i64 a3,.pointer (some ⟨g,0,none⟩),.func (.func 78) #[] #[]] ?_;(with_reducible refine (slices_order2CmpFunc_impl_Token_impl_ringNew_1.calls k _ _ l0 t171 a3 g t172  t173 t174 t175 w0 _ ?s1 ?s2 ?s3 ?s4 A8.out).mono ?_);(case s1=>repeat (first | (with_reducible first | exact HI4.out | apply IsS3.alloc | apply IsS3.drewN | apply IsS3.drew | apply IsS3.set_0) | exact HI4.out));(case s2=>repeat (first | (with_reducible first | exact HB.out | apply below_alloc | apply pw_below_drewN | apply below_drew1 | refine below_set ?_ (IsS3.ge HI4.out)) | exact HB.out));(case s3=>exact Kd.C_foot_step HR0.out (z17_ HK.out));(case s4=>exact HC0.out);rintro e w11 ⟨rfl,hi,hb,hk⟩;refine ⟨_,rfl,?_⟩;refine as3_ (KeepBut.trans (z17_ HK.out) hk (.inl rfl)) (hb) (hi) ?_;clear HK HB HI4;intro HK HB HI4;(try clear hb);(try clear hk);(try clear hi)) | ((with_reducible refine gc_ 148 ?_);refine gl_ (some 37) Tryd.func148 #[.slice A0 l0.length c0,.int .i64 t170,.int .i64 t173,.pointer (some ⟨g,0,none⟩),.func (.func 78) #[] #[]] ?_;(with_reducible refine (slices_order2CmpFunc_impl_Token_impl_ringNew_1.calls k _ _ l0 t170 t173 g t175  t176 t177 t178 w0 _ ?s1 ?s2 ?s3 ?s4 A9.out).mono ?_);(case s1=>repeat (first | (with_reducible first | exact HI4.out | apply IsS3.alloc | apply IsS3.drewN | apply IsS3.drew | apply IsS3.set_0) | exact HI4.out));(case s2=>repeat (first | (with_reducible first | exact HB.out | apply below_alloc | apply pw_below_drewN | apply below_drew1 | refine below_set ?_ (IsS3.ge HI4.out)) | exact HB.out));(case s3=>exact Kd.C_foot_step HR0.out (z17_ HK.out));(case s4=>exact HC0.out);rintro e w12 ⟨rfl,hi,hb,hk⟩;refine ⟨_,rfl,?_⟩;refine as3_ (KeepBut.trans (z17_ HK.out) hk (.inl rfl)) (hb) (hi) ?_;clear HK HB HI4;intro HK HB HI4;(try clear hb);(try clear hk);(try clear hi)))
 go_ret
 exact ⟨z10_,z23_ HI4.out,z14_ HB.out HI4.out,z17_ HK.out⟩


/-! ### slices_medianAdjacentCmpFunc_impl_Token_impl_ringNew_1: function 141 -/
def slices_medianAdjacentCmpFunc_impl_Token_impl_ringNew_1.f (k:Nat) (l0:List (S77)) (a1:Int) (s2_0:Int)  : Option (Int × Int):=(slices_medianCmpFunc_impl_Token_impl_ringNew_1.f k l0 (wrap64 (a1-1)) a1 (wrap64 (a1+1)) s2_0).bind fun bt179=>(some (bt179.1,bt179.2))
theorem slices_medianAdjacentCmpFunc_impl_Token_impl_ringNew_1.mono:∀ a0 a1 a2 k,LeO (slices_medianAdjacentCmpFunc_impl_Token_impl_ringNew_1.f k a0 a1 a2) (slices_medianAdjacentCmpFunc_impl_Token_impl_ringNew_1.f (k+1) a0 a1 a2):=by
 intro a0 a1 a2 k
 unfold slices_medianAdjacentCmpFunc_impl_Token_impl_ringNew_1.f
 repeat' first
   | (with_reducible exact slices_medianCmpFunc_impl_Token_impl_ringNew_1.mono _ _ _ _ _ _)
   | (with_reducible exact LeO.refl _)
   | (with_reducible exact LeO.none _)
   | (with_reducible refine LeO.ite ?_ ?_)
   | (with_reducible refine LeO.bind ?_ (fun _=>?_))
   | exact slices_medianCmpFunc_impl_Token_impl_ringNew_1.mono _ _ _ _ _ _
   | exact LeO.none _
   | refine LeO.ite ?_ ?_
   | refine LeO.bind ?_ (fun _=>?_)
set_option maxHeartbeats 8000000 in
set_option maxRecDepth 100000 in
theorem slices_medianAdjacentCmpFunc_impl_Token_impl_ringNew_1.calls (k:Nat) (A0:Option Addr) (c0:Nat) (l0:List (S77)) (a1:Int) (g:Nat) (s2_0:Int)  (r1:Int) (r2:Int) (w0 w:World) (hI:IsS3 w0 w g s2_0) (hB:Below w0.heap.size w0 w) (hr0:∀ W_,KeepBut w W_ g none→Kd.C k77 W_ A0 l0.length l0) (hc0:l0.length≤c0) (h:slices_medianAdjacentCmpFunc_impl_Token_impl_ringNew_1.f k l0 a1 s2_0=some (r1,r2)) :
  Calls Tryd.prog 141 #[.slice A0 l0.length c0,.int .i64 a1,.pointer (some ⟨g,0,none⟩),.func (.func 78) #[] #[]] w fun e w'=>e = .returned (.int .i64 r1)∧IsS3 w0 w' g r2∧Below w0.heap.size w0 w'∧KeepBut w w' g none:=by
 have HR0:=Aside0.mk hr0
 have HC0:=Aside0.mk hc0
 clear hr0 hc0
 have HI2:=Aside0.mk hI
 have HK:=Aside0.mk (KeepBut.refl w g none)
 have HL:=Aside0.mk hB.size
 clear hI
 have HW0:=Aside0.mk hB.size
 have HB:=Aside0.mk hB
 clear hB
 have H:((slices_medianCmpFunc_impl_Token_impl_ringNew_1.f k l0 (wrap64 (a1-1)) a1 (wrap64 (a1+1)) s2_0).bind fun bt179=>(some (bt179.1,bt179.2)))=some (r1,r2):=h
 clear h
 replace H:=Option.bind_eq_some_iff.mp H
 obtain ⟨⟨t179,t180⟩,A50,H⟩:=H
 replace H:(some (t179,t180))=some (r1,r2):=H
 have A5:=Aside0.mk A50
 clear A50
 simp only [Option.some.injEq,Prod.mk.injEq] at H
 obtain ⟨rfl,rfl⟩:=H
 go_enter Tryd.func141,Tryd.ntmps141
 go_wp2_with (first | ((with_reducible refine gc_ 142 ?_);refine gl_ (some 17) Tryd.func142 #[.slice A0 l0.length c0,.int .i64 (wrap64 (a1-1)),.int .i64 a1,.int .i64 (wrap64 (a1+1)),.pointer (some ⟨g,0,none⟩),.func (.func 78) #[] #[]] ?_;(with_reducible refine (slices_medianCmpFunc_impl_Token_impl_ringNew_1.calls k _ _ l0 (wrap64 (a1-1)) a1 (wrap64 (a1+1)) g s2_0  t179 t180 w0 _ ?s1 ?s2 ?s3 ?s4 A5.out).mono ?_);(case s1=>repeat (first | (with_reducible first | exact HI2.out | apply IsS3.alloc | apply IsS3.drewN | apply IsS3.drew | apply IsS3.set_0) | exact HI2.out));(case s2=>repeat (first | (with_reducible first | exact HB.out | apply below_alloc | apply pw_below_drewN | apply below_drew1 | refine below_set ?_ (IsS3.ge HI2.out)) | exact HB.out));(case s3=>exact Kd.C_foot_step HR0.out (z17_ HK.out));(case s4=>exact HC0.out);rintro e w6 ⟨rfl,hi,hb,hk⟩;refine ⟨_,rfl,?_⟩;refine as3_ (KeepBut.trans (z17_ HK.out) hk (.inl rfl)) (hb) (hi) ?_;clear HK HB HI2;intro HK HB HI2;(try clear hb);(try clear hk);(try clear hi)))
 go_ret
 exact ⟨z10_,z23_ HI2.out,z14_ HB.out HI2.out,z17_ HK.out⟩


/-! ### slices_choosePivotCmpFunc_impl_Token_impl_ringNew_1: function 125 -/
def slices_choosePivotCmpFunc_impl_Token_impl_ringNew_1.j0:Nat→Int→Int→Option (Int × Int)
 | 0,_,_=>none
 | k+1,x13,x182000=>if x182000=0 then (some (x13,1)) else (if x182000=12 then (some (x13,2)) else (some (x13,0)))
def slices_choosePivotCmpFunc_impl_Token_impl_ringNew_1.f (k:Nat) (l0:List (S77)) (a1:Int) (a2:Int)  : Option (Int × Int):=if (wrap64 (a2-a1))≥8 then (if (wrap64 (a2-a1))≥50 then ((slices_medianAdjacentCmpFunc_impl_Token_impl_ringNew_1.f k l0 (wrap64 (a1+(wrap64 ((wrap64 (Int.tdiv (wrap64 (a2-a1)) 4)))))) 0).bind fun bt182=>((slices_medianAdjacentCmpFunc_impl_Token_impl_ringNew_1.f k l0 (wrap64 (a1+(wrap64 ((wrap64 (Int.tdiv (wrap64 (a2-a1)) 4))*2)))) bt182.2).bind fun bt184=>((slices_medianAdjacentCmpFunc_impl_Token_impl_ringNew_1.f k l0 (wrap64 (a1+(wrap64 ((wrap64 (Int.tdiv (wrap64 (a2-a1)) 4))*3)))) bt184.2).bind fun bt186=>((slices_medianCmpFunc_impl_Token_impl_ringNew_1.f k l0 bt182.1 bt184.1 bt186.1 bt186.2).bind fun bt188=>(slices_choosePivotCmpFunc_impl_Token_impl_ringNew_1.j0 k bt188.1 bt188.2))))) else ((slices_medianCmpFunc_impl_Token_impl_ringNew_1.f k l0 (wrap64 (a1+(wrap64 ((wrap64 (Int.tdiv (wrap64 (a2-a1)) 4)))))) (wrap64 (a1+(wrap64 ((wrap64 (Int.tdiv (wrap64 (a2-a1)) 4))*2)))) (wrap64 (a1+(wrap64 ((wrap64 (Int.tdiv (wrap64 (a2-a1)) 4))*3)))) 0).bind fun bt190=>(slices_choosePivotCmpFunc_impl_Token_impl_ringNew_1.j0 k bt190.1 bt190.2))) else (slices_choosePivotCmpFunc_impl_Token_impl_ringNew_1.j0 k (wrap64 (a1+(wrap64 ((wrap64 (Int.tdiv (wrap64 (a2-a1)) 4))*2)))) 0)
theorem slices_choosePivotCmpFunc_impl_Token_impl_ringNew_1.mono_l:∀ k,(∀ y0 y1,LeO (slices_choosePivotCmpFunc_impl_Token_impl_ringNew_1.j0 k y0 y1) (slices_choosePivotCmpFunc_impl_Token_impl_ringNew_1.j0 (k+1) y0 y1))
 | 0=>fun _ _ r h=>by simp [slices_choosePivotCmpFunc_impl_Token_impl_ringNew_1.j0] at h
 | k+1=>by
  have ih0:=slices_choosePivotCmpFunc_impl_Token_impl_ringNew_1.mono_l k
  ·intro y0 y1
   unfold slices_choosePivotCmpFunc_impl_Token_impl_ringNew_1.j0
   repeat' first
   | (with_reducible exact ih0 _ _)
   | (with_reducible exact slices_medianAdjacentCmpFunc_impl_Token_impl_ringNew_1.mono _ _ _ _)
   | (with_reducible exact slices_medianCmpFunc_impl_Token_impl_ringNew_1.mono _ _ _ _ _ _)
   | (with_reducible exact LeO.refl _)
   | (with_reducible exact LeO.none _)
   | (with_reducible refine LeO.ite ?_ ?_)
   | (with_reducible refine LeO.bind ?_ (fun _=>?_))
   | exact ih0 _ _
   | exact slices_medianAdjacentCmpFunc_impl_Token_impl_ringNew_1.mono _ _ _ _
   | exact slices_medianCmpFunc_impl_Token_impl_ringNew_1.mono _ _ _ _ _ _
   | exact LeO.none _
   | refine LeO.ite ?_ ?_
   | refine LeO.bind ?_ (fun _=>?_)
theorem slices_choosePivotCmpFunc_impl_Token_impl_ringNew_1.mono:∀ a0 a1 a2 k,LeO (slices_choosePivotCmpFunc_impl_Token_impl_ringNew_1.f k a0 a1 a2) (slices_choosePivotCmpFunc_impl_Token_impl_ringNew_1.f (k+1) a0 a1 a2):=by
 intro a0 a1 a2 k
 have ih0:=slices_choosePivotCmpFunc_impl_Token_impl_ringNew_1.mono_l k
 unfold slices_choosePivotCmpFunc_impl_Token_impl_ringNew_1.f
 repeat' first
   | (with_reducible exact ih0 _ _)
   | (with_reducible exact slices_medianAdjacentCmpFunc_impl_Token_impl_ringNew_1.mono _ _ _ _)
   | (with_reducible exact slices_medianCmpFunc_impl_Token_impl_ringNew_1.mono _ _ _ _ _ _)
   | (with_reducible exact LeO.refl _)
   | (with_reducible exact LeO.none _)
   | (with_reducible refine LeO.ite ?_ ?_)
   | (with_reducible refine LeO.bind ?_ (fun _=>?_))
   | exact ih0 _ _
   | exact slices_medianAdjacentCmpFunc_impl_Token_impl_ringNew_1.mono _ _ _ _
   | exact slices_medianCmpFunc_impl_Token_impl_ringNew_1.mono _ _ _ _ _ _
   | exact LeO.none _
   | refine LeO.ite ?_ ?_
   | refine LeO.bind ?_ (fun _=>?_)
set_option maxHeartbeats 8000000 in
set_option maxRecDepth 100000 in
theorem slices_choosePivotCmpFunc_impl_Token_impl_ringNew_1.calls (k:Nat) (A0:Option Addr) (c0:Nat) (l0:List (S77)) (a1:Int) (a2:Int)  (r1:Int) (r2:Int) (w:World) (hr0:Kd.C k77 w A0 l0.length l0) (hc0:l0.length≤c0) (h:slices_choosePivotCmpFunc_impl_Token_impl_ringNew_1.f k l0 a1 a2=some (r1,r2)) :
  Calls Tryd.prog 125 #[.slice A0 l0.length c0,.int .i64 a1,.int .i64 a2,.func (.func 78) #[] #[]] w fun e w'=>e = .returned (.tuple #[.int .i64 r1,.int .i64 r2])∧Below w.heap.size w w':=by
 have HR0:=Aside0.mk hr0
 have HC0:=Aside0.mk hc0
 clear hr0 hc0
 have HB:=Aside0.mk (Below.refl w.heap.size w)
 have H:(if (wrap64 (a2-a1))≥8 then (if (wrap64 (a2-a1))≥50 then ((slices_medianAdjacentCmpFunc_impl_Token_impl_ringNew_1.f k l0 (wrap64 (a1+(wrap64 ((wrap64 (Int.tdiv (wrap64 (a2-a1)) 4)))))) 0).bind fun bt182=>((slices_medianAdjacentCmpFunc_impl_Token_impl_ringNew_1.f k l0 (wrap64 (a1+(wrap64 ((wrap64 (Int.tdiv (wrap64 (a2-a1)) 4))*2)))) bt182.2).bind fun bt184=>((slices_medianAdjacentCmpFunc_impl_Token_impl_ringNew_1.f k l0 (wrap64 (a1+(wrap64 ((wrap64 (Int.tdiv (wrap64 (a2-a1)) 4))*3)))) bt184.2).bind fun bt186=>((slices_medianCmpFunc_impl_Token_impl_ringNew_1.f k l0 bt182.1 bt184.1 bt186.1 bt186.2).bind fun bt188=>(slices_choosePivotCmpFunc_impl_Token_impl_ringNew_1.j0 k bt188.1 bt188.2))))) else ((slices_medianCmpFunc_impl_Token_impl_ringNew_1.f k l0 (wrap64 (a1+(wrap64 ((wrap64 (Int.tdiv (wrap64 (a2-a1)) 4)))))) (wrap64 (a1+(wrap64 ((wrap64 (Int.tdiv (wrap64 (a2-a1)) 4))*2)))) (wrap64 (a1+(wrap64 ((wrap64 (Int.tdiv (wrap64 (a2-a1)) 4))*3)))) 0).bind fun bt190=>(slices_choosePivotCmpFunc_impl_Token_impl_ringNew_1.j0 k bt190.1 bt190.2))) else (slices_choosePivotCmpFunc_impl_Token_impl_ringNew_1.j0 k (wrap64 (a1+(wrap64 ((wrap64 (Int.tdiv (wrap64 (a2-a1)) 4))*2)))) 0))=some (r1,r2):=h
 clear h
 have HC5:=Aside0.mk H
 clear H
 go_enter Tryd.func125,Tryd.ntmps125
 go_upto_if 34 with (first | ((with_reducible refine gd_ 11 ?_);refine be_ 11 #[.int .i64 0] 3 ?_;intro gb181 hg w6 hbox hb;refine as4_ (below_step (z4_ HB.out) hb) ((show IsS3 w w6 gb181 0 from ⟨hbox,(z8_ HB.out:w.heap.size≤gb181)⟩)) ((z8_ HB.out:w.heap.size≤gb181)) ((z8_ HB.out:w.heap.size≤gb181)) ?_;clear HB;intro HB HI181 GW181 GE181;clear hb hbox hg))
 (try simp only [Act.put,sa_,s0_,ss_])
 go_cut [13] (fun v13 wc=>∃ (kq:Nat) (x13_4:Int) (x182000_4:Int),v13 = .int .i64 x13_4∧Aside0 (slices_choosePivotCmpFunc_impl_Token_impl_ringNew_1.j0 kq x13_4 x182000_4=some (r1,r2))∧Aside0 (kq≤k)∧Aside0 (IsS3 w wc gb181 x182000_4)∧Aside0 (Below w.heap.size w wc))
 case first =>
  have H:=HC5.out
  clear HC5
  by_cases c7:(wrap64 (a2-a1))≥8
  ·rw [if_pos c7] at H
   have c7b0:decide (8≤(wrap64 (a2-a1)))=true:=decide_eq_true c7
   clear c7
   (first | rw [c7b0] | (simp only [i64_w,i32_w];rw [c7b0]) | skip)
   by_cases c8:(wrap64 (a2-a1))≥50
   ·rw [if_pos c8] at H
    have c8b0:decide (50≤(wrap64 (a2-a1)))=true:=decide_eq_true c8
    clear c8
    replace H:=Option.bind_eq_some_iff.mp H
    obtain ⟨⟨t182,t183⟩,A90,H⟩:=H
    replace H:((slices_medianAdjacentCmpFunc_impl_Token_impl_ringNew_1.f k l0 (wrap64 (a1+(wrap64 ((wrap64 (Int.tdiv (wrap64 (a2-a1)) 4))*2)))) t183).bind fun bt184=>((slices_medianAdjacentCmpFunc_impl_Token_impl_ringNew_1.f k l0 (wrap64 (a1+(wrap64 ((wrap64 (Int.tdiv (wrap64 (a2-a1)) 4))*3)))) bt184.2).bind fun bt186=>((slices_medianCmpFunc_impl_Token_impl_ringNew_1.f k l0 t182 bt184.1 bt186.1 bt186.2).bind fun bt188=>(slices_choosePivotCmpFunc_impl_Token_impl_ringNew_1.j0 k bt188.1 bt188.2))))=some (r1,r2):=H
    have A9:=Aside0.mk A90
    clear A90
    replace H:=Option.bind_eq_some_iff.mp H
    obtain ⟨⟨t184,t185⟩,A100,H⟩:=H
    replace H:((slices_medianAdjacentCmpFunc_impl_Token_impl_ringNew_1.f k l0 (wrap64 (a1+(wrap64 ((wrap64 (Int.tdiv (wrap64 (a2-a1)) 4))*3)))) t185).bind fun bt186=>((slices_medianCmpFunc_impl_Token_impl_ringNew_1.f k l0 t182 t184 bt186.1 bt186.2).bind fun bt188=>(slices_choosePivotCmpFunc_impl_Token_impl_ringNew_1.j0 k bt188.1 bt188.2)))=some (r1,r2):=H
    have A10:=Aside0.mk A100
    clear A100
    replace H:=Option.bind_eq_some_iff.mp H
    obtain ⟨⟨t186,t187⟩,A110,H⟩:=H
    replace H:((slices_medianCmpFunc_impl_Token_impl_ringNew_1.f k l0 t182 t184 t186 t187).bind fun bt188=>(slices_choosePivotCmpFunc_impl_Token_impl_ringNew_1.j0 k bt188.1 bt188.2))=some (r1,r2):=H
    have A11:=Aside0.mk A110
    clear A110
    replace H:=Option.bind_eq_some_iff.mp H
    obtain ⟨⟨t188,t189⟩,A120,H⟩:=H
    replace H:(slices_choosePivotCmpFunc_impl_Token_impl_ringNew_1.j0 k t188 t189)=some (r1,r2):=H
    have A12:=Aside0.mk A120
    clear A120
    have H':=Aside0.mk H
    clear H
    go_wp2_with (first | ((with_reducible refine gc_ 141 ?_);refine gl_ (some 40) Tryd.func141 #[.slice A0 l0.length c0,.int .i64 (wrap64 (a1+(wrap64 ((wrap64 (Int.tdiv (wrap64 (a2-a1)) 4)))))),.pointer (some ⟨gb181,0,none⟩),.func (.func 78) #[] #[]] ?_;(with_reducible refine (slices_medianAdjacentCmpFunc_impl_Token_impl_ringNew_1.calls k _ _ l0 (wrap64 (a1+(wrap64 ((wrap64 (Int.tdiv (wrap64 (a2-a1)) 4)))))) gb181 0  t182 t183 w _ ?s1 ?s2 ?s3 ?s4 A9.out).mono ?_);(case s1=>repeat (first | (with_reducible first | exact HI181.out | apply IsS3.alloc | apply IsS3.drewN | apply IsS3.drew | apply IsS3.set_0) | exact HI181.out));(case s2=>repeat (first | (with_reducible first | exact HB.out | apply below_alloc | apply pw_below_drewN | apply below_drew1 | refine below_set ?_ (IsS3.ge HI181.out)) | exact HB.out));(case s3=>exact Kd.C_foot_came k77_heap HR0.out (z14_ HB.out HI181.out) (IsS3.ge HI181.out));(case s4=>exact HC0.out);rintro e w13 ⟨rfl,hi,hb,hk⟩;refine ⟨_,rfl,?_⟩;refine as2_ (hb) (hi) ?_;clear HB HI181;intro HB HI181;(try clear hb);(try clear hk);(try clear hi)) | ((with_reducible refine gc_ 141 ?_);refine gl_ (some 44) Tryd.func141 #[.slice A0 l0.length c0,.int .i64 (wrap64 (a1+(wrap64 ((wrap64 (Int.tdiv (wrap64 (a2-a1)) 4))*2)))),.pointer (some ⟨gb181,0,none⟩),.func (.func 78) #[] #[]] ?_;(with_reducible refine (slices_medianAdjacentCmpFunc_impl_Token_impl_ringNew_1.calls k _ _ l0 (wrap64 (a1+(wrap64 ((wrap64 (Int.tdiv (wrap64 (a2-a1)) 4))*2)))) gb181 t183  t184 t185 w _ ?s1 ?s2 ?s3 ?s4 A10.out).mono ?_);(case s1=>repeat (first | (with_reducible first | exact HI181.out | apply IsS3.alloc | apply IsS3.drewN | apply IsS3.drew | apply IsS3.set_0) | exact HI181.out));(case s2=>repeat (first | (with_reducible first | exact HB.out | apply below_alloc | apply pw_below_drewN | apply below_drew1 | refine below_set ?_ (IsS3.ge HI181.out)) | exact HB.out));(case s3=>exact Kd.C_foot_came k77_heap HR0.out (z14_ HB.out HI181.out) (IsS3.ge HI181.out));(case s4=>exact HC0.out);rintro e w14 ⟨rfl,hi,hb,hk⟩;refine ⟨_,rfl,?_⟩;refine as2_ (hb) (hi) ?_;clear HB HI181;intro HB HI181;(try clear hb);(try clear hk);(try clear hi)) | ((with_reducible refine gc_ 141 ?_);refine gl_ (some 48) Tryd.func141 #[.slice A0 l0.length c0,.int .i64 (wrap64 (a1+(wrap64 ((wrap64 (Int.tdiv (wrap64 (a2-a1)) 4))*3)))),.pointer (some ⟨gb181,0,none⟩),.func (.func 78) #[] #[]] ?_;(with_reducible refine (slices_medianAdjacentCmpFunc_impl_Token_impl_ringNew_1.calls k _ _ l0 (wrap64 (a1+(wrap64 ((wrap64 (Int.tdiv (wrap64 (a2-a1)) 4))*3)))) gb181 t185  t186 t187 w _ ?s1 ?s2 ?s3 ?s4 A11.out).mono ?_);(case s1=>repeat (first | (with_reducible first | exact HI181.out | apply IsS3.alloc | apply IsS3.drewN | apply IsS3.drew | apply IsS3.set_0) | exact HI181.out));(case s2=>repeat (first | (with_reducible first | exact HB.out | apply below_alloc | apply pw_below_drewN | apply below_drew1 | refine below_set ?_ (IsS3.ge HI181.out)) | exact HB.out));(case s3=>exact Kd.C_foot_came k77_heap HR0.out (z14_ HB.out HI181.out) (IsS3.ge HI181.out));(case s4=>exact HC0.out);rintro e w15 ⟨rfl,hi,hb,hk⟩;refine ⟨_,rfl,?_⟩;refine as2_ (hb) (hi) ?_;clear HB HI181;intro HB HI181;(try clear hb);(try clear hk);(try clear hi)) | ((with_reducible refine gc_ 142 ?_);refine gl_ (some 54) Tryd.func142 #[.slice A0 l0.length c0,.int .i64 t182,.int .i64 t184,.int .i64 t186,.pointer (some ⟨gb181,0,none⟩),.func (.func 78) #[] #[]] ?_;(with_reducible refine (slices_medianCmpFunc_impl_Token_impl_ringNew_1.calls k _ _ l0 t182 t184 t186 gb181 t187  t188 t189 w _ ?s1 ?s2 ?s3 ?s4 A12.out).mono ?_);(case s1=>repeat (first | (with_reducible first | exact HI181.out | apply IsS3.alloc | apply IsS3.drewN | apply IsS3.drew | apply IsS3.set_0) | exact HI181.out));(case s2=>repeat (first | (with_reducible first | exact HB.out | apply below_alloc | apply pw_below_drewN | apply below_drew1 | refine below_set ?_ (IsS3.ge HI181.out)) | exact HB.out));(case s3=>exact Kd.C_foot_came k77_heap HR0.out (z14_ HB.out HI181.out) (IsS3.ge HI181.out));(case s4=>exact HC0.out);rintro e w16 ⟨rfl,hi,hb,hk⟩;refine ⟨_,rfl,?_⟩;refine as2_ (hb) (hi) ?_;clear HB HI181;intro HB HI181;(try clear hb);(try clear hk);(try clear hi)))
    go_meet
    case rel=>exact ⟨_,(t188),(t189),(z2_),H',⟨by first | omega | exact Nat.le_refl _⟩,⟨z23_ HI181.out⟩,⟨z14_ HB.out HI181.out⟩⟩
   ·rw [if_neg c8] at H
    have c8b0:decide (50≤(wrap64 (a2-a1)))=false:=decide_eq_false c8
    clear c8
    replace H:=Option.bind_eq_some_iff.mp H
    obtain ⟨⟨t190,t191⟩,A170,H⟩:=H
    replace H:(slices_choosePivotCmpFunc_impl_Token_impl_ringNew_1.j0 k t190 t191)=some (r1,r2):=H
    have A17:=Aside0.mk A170
    clear A170
    have H':=Aside0.mk H
    clear H
    go_wp2_with (first | ((with_reducible refine gc_ 142 ?_);refine gl_ (some 54) Tryd.func142 #[.slice A0 l0.length c0,.int .i64 (wrap64 (a1+(wrap64 ((wrap64 (Int.tdiv (wrap64 (a2-a1)) 4)))))),.int .i64 (wrap64 (a1+(wrap64 ((wrap64 (Int.tdiv (wrap64 (a2-a1)) 4))*2)))),.int .i64 (wrap64 (a1+(wrap64 ((wrap64 (Int.tdiv (wrap64 (a2-a1)) 4))*3)))),.pointer (some ⟨gb181,0,none⟩),.func (.func 78) #[] #[]] ?_;(with_reducible refine (slices_medianCmpFunc_impl_Token_impl_ringNew_1.calls k _ _ l0 (wrap64 (a1+(wrap64 ((wrap64 (Int.tdiv (wrap64 (a2-a1)) 4)))))) (wrap64 (a1+(wrap64 ((wrap64 (Int.tdiv (wrap64 (a2-a1)) 4))*2)))) (wrap64 (a1+(wrap64 ((wrap64 (Int.tdiv (wrap64 (a2-a1)) 4))*3)))) gb181 0  t190 t191 w _ ?s1 ?s2 ?s3 ?s4 A17.out).mono ?_);(case s1=>repeat (first | (with_reducible first | exact HI181.out | apply IsS3.alloc | apply IsS3.drewN | apply IsS3.drew | apply IsS3.set_0) | exact HI181.out));(case s2=>repeat (first | (with_reducible first | exact HB.out | apply below_alloc | apply pw_below_drewN | apply below_drew1 | refine below_set ?_ (IsS3.ge HI181.out)) | exact HB.out));(case s3=>exact Kd.C_foot_came k77_heap HR0.out (z14_ HB.out HI181.out) (IsS3.ge HI181.out));(case s4=>exact HC0.out);rintro e w18 ⟨rfl,hi,hb,hk⟩;refine ⟨_,rfl,?_⟩;refine as2_ (hb) (hi) ?_;clear HB HI181;intro HB HI181;(try clear hb);(try clear hk);(try clear hi)))
    go_meet
    case rel=>exact ⟨_,(t190),(t191),(z2_),H',⟨by first | omega | exact Nat.le_refl _⟩,⟨z23_ HI181.out⟩,⟨z14_ HB.out HI181.out⟩⟩
  ·rw [if_neg c7] at H
   have c7b0:decide (8≤(wrap64 (a2-a1)))=false:=decide_eq_false c7
   clear c7
   (first | rw [c7b0] | (simp only [i64_w,i32_w];rw [c7b0]) | skip)
   have H':=Aside0.mk H
   clear H
   go_wp2
   go_meet
   case rel=>exact ⟨_,(wrap64 (a1+(wrap64 ((wrap64 (Int.tdiv (wrap64 (a2-a1)) 4))*2)))),(0),(z2_),H',⟨by first | omega | exact Nat.le_refl _⟩,⟨z23_ HI181.out⟩,⟨z14_ HB.out HI181.out⟩⟩
 case rest =>
  clear HC5
  try clear p2
  try clear p6
  try clear c7
  try clear c7b0
  try clear c8
  try clear c8b0
  obtain ⟨kq,x13_4,x182000_4,rfl,HA,HJ4,HI181,HB⟩:=hcut
  cases kq with
  | zero=>exact absurd HA.out (by simp [slices_choosePivotCmpFunc_impl_Token_impl_ringNew_1.j0])
  | succ kj4 =>
   have H:=HA.out
   clear HA
   simp only [slices_choosePivotCmpFunc_impl_Token_impl_ringNew_1.j0] at H
   by_cases c19:x182000_4=0
   ·rw [if_pos c19] at H
    have c19b0:(x182000_4 == 0)=true:=beq_iff_eq.mpr c19
    have c19b1:(x182000_4 != 0)=false:=bne_eq_false_iff_eq.mpr c19
    clear c19
    simp only [Option.some.injEq,Prod.mk.injEq] at H
    obtain ⟨rfl,rfl⟩:=H
    obtain ⟨HGz20,hgz20⟩:=HI181.out
    have hcz20_0:=cellS3_0 HGz20
    have hfz20_0:=blk_frozen HGz20 0
    clear HGz20 hgz20
    go_wp2
    go_ret2
    exact ⟨z10_,z14_ HB.out HI181.out⟩
   ·rw [if_neg c19] at H
    have c19b0:(x182000_4 == 0)=false:=beq_eq_false_iff_ne.mpr c19
    have c19b1:(x182000_4 != 0)=true:=bne_iff_ne.mpr c19
    by_cases c21:x182000_4=12
    ·rw [if_pos c21] at H
     have c21b0:(x182000_4 == 12)=true:=beq_iff_eq.mpr c21
     have c21b1:(x182000_4 != 12)=false:=bne_eq_false_iff_eq.mpr c21
     clear c21
     simp only [Option.some.injEq,Prod.mk.injEq] at H
     obtain ⟨rfl,rfl⟩:=H
     obtain ⟨HGz22,hgz22⟩:=HI181.out
     have hcz22_0:=cellS3_0 HGz22
     have hfz22_0:=blk_frozen HGz22 0
     clear HGz22 hgz22
     go_wp2
     go_ret2
     exact ⟨z10_,z14_ HB.out HI181.out⟩
    ·rw [if_neg c21] at H
     have c21b0:(x182000_4 == 12)=false:=beq_eq_false_iff_ne.mpr c21
     have c21b1:(x182000_4 != 12)=true:=bne_iff_ne.mpr c21
     simp only [Option.some.injEq,Prod.mk.injEq] at H
     obtain ⟨rfl,rfl⟩:=H
     obtain ⟨HGz23,hgz23⟩:=HI181.out
     have hcz23_0:=cellS3_0 HGz23
     have hfz23_0:=blk_frozen HGz23 0
     clear HGz23 hgz23
     go_wp2
     go_ret2
     exact ⟨z10_,z14_ HB.out HI181.out⟩


/-! ### slices_reverseRangeCmpFunc_impl_Token_impl_ringNew_1: function 126 -/
def slices_reverseRangeCmpFunc_impl_Token_impl_ringNew_1.f (l0:List (S77)) (a1:Int) (a2:Int)  : Option (Unit):=none
set_option maxHeartbeats 8000000 in
set_option maxRecDepth 100000 in
theorem slices_reverseRangeCmpFunc_impl_Token_impl_ringNew_1.calls (A0:Option Addr) (c0:Nat) (l0:List (S77)) (a1:Int) (a2:Int)  (w:World) (hr0:Kd.C k77 w A0 l0.length l0) (hc0:l0.length≤c0) (h:slices_reverseRangeCmpFunc_impl_Token_impl_ringNew_1.f l0 a1 a2=some ()) :
  Calls Tryd.prog 126 #[.slice A0 l0.length c0,.int .i64 a1,.int .i64 a2,.func (.func 78) #[] #[]] w fun e w'=>e = .returned (.tuple #[])∧Drawn0 w w':=by
 have HR0:=Aside0.mk hr0
 have HC0:=Aside0.mk hc0
 clear hr0 hc0
 have H:(none)=some ():=h
 clear h
 exact absurd H (by simp)


/-! ### slices_partialInsertionSortCmpFunc_impl_Token_impl_ringNew_1: function 127 -/
def slices_partialInsertionSortCmpFunc_impl_Token_impl_ringNew_1.f (l0:List (S77)) (a1:Int) (a2:Int)  : Option (Bool):=none
set_option maxHeartbeats 8000000 in
set_option maxRecDepth 100000 in
theorem slices_partialInsertionSortCmpFunc_impl_Token_impl_ringNew_1.calls (A0:Option Addr) (c0:Nat) (l0:List (S77)) (a1:Int) (a2:Int)  (r:Bool) (w:World) (hr0:Kd.C k77 w A0 l0.length l0) (hc0:l0.length≤c0) (h:slices_partialInsertionSortCmpFunc_impl_Token_impl_ringNew_1.f l0 a1 a2=some r) :
  Calls Tryd.prog 127 #[.slice A0 l0.length c0,.int .i64 a1,.int .i64 a2,.func (.func 78) #[] #[]] w fun e w'=>e = .returned (.bool r)∧Drawn0 w w':=by
 have HR0:=Aside0.mk hr0
 have HC0:=Aside0.mk hc0
 clear hr0 hc0
 have H:(none)=some r:=h
 clear h
 exact absurd H (by simp)


/-! ### slices_partitionEqualCmpFunc_impl_Token_impl_ringNew_1: function 128 -/
def slices_partitionEqualCmpFunc_impl_Token_impl_ringNew_1.f (l0:List (S77)) (a1:Int) (a2:Int) (a3:Int)  : Option (Int):=none
set_option maxHeartbeats 8000000 in
set_option maxRecDepth 100000 in
theorem slices_partitionEqualCmpFunc_impl_Token_impl_ringNew_1.calls (A0:Option Addr) (c0:Nat) (l0:List (S77)) (a1:Int) (a2:Int) (a3:Int)  (r:Int) (w:World) (hr0:Kd.C k77 w A0 l0.length l0) (hc0:l0.length≤c0) (h:slices_partitionEqualCmpFunc_impl_Token_impl_ringNew_1.f l0 a1 a2 a3=some r) :
  Calls Tryd.prog 128 #[.slice A0 l0.length c0,.int .i64 a1,.int .i64 a2,.int .i64 a3,.func (.func 78) #[] #[]] w fun e w'=>e = .returned (.int .i64 r)∧Drawn0 w w':=by
 have HR0:=Aside0.mk hr0
 have HC0:=Aside0.mk hc0
 clear hr0 hc0
 have H:(none)=some r:=h
 clear h
 exact absurd H (by simp)

end Go.Proofs.YtelecnmflodkkaaDoor.P
