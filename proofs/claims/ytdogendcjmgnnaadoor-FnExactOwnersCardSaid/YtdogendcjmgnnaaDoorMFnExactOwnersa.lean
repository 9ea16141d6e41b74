/- For all rings, keys and numbers the program's Owners and the reference's return the same, of memory of its own, and the ring stays as it was. No condition. (Part 1 of 4: written by programs of this workplace and by hand, merged.) -/
import Derived.Test.YtdogendcjmgnnaaDoorProg
import Derived.Below
import Derived.Deep.Draws
import Derived.Deep.AppendLies
import Derived.Maps.AppendAt
import Derived.OwnWalk
import Derived.Laws.BytesArg
import Derived.Laws.MakeOwn
import Derived.Laws.OwnMore
import Derived.Deep.OwnRows
import Derived.Tactics
import Derived.Lib.ConvBytes
import Derived.Laws.Slices
import Derived.WalkKit
import Derived.KernelRfl
import Derived.RowKit3
import Derived.Deep.LoopGhost
import Derived.Deep.QuietTactic
import Derived.BigQuiet
import Derived.WideLaws
import Derived.Deep.DeepCutAuto
import Derived.Deep.CutBlock
import Derived.Deep.RegionHeld3
import Derived.Laws.Rows
import Derived.Lib.AppendStr
import Derived.ArgAppend
import Derived.Laws.IdiomCopy
import Derived.OrdersHeld
import Derived.Laws.BitsLemmas
import Derived.RowKit
import Derived.Lib.Bytealg
import Derived.Lib.Walk
import Derived.Test.YtdogendcjmgnnaaDoorMFnExactOwnersWWords
import Derived.Test.YtdogendcjmgnnaaDoorMFnExactOwnersWLast
import Derived.Test.YtdogendcjmgnnaaDoorMFnExactOwnersWTab
import Derived.Test.YtdogendcjmgnnaaDoorMFnExactOwnersWApart
import Derived.Test.YtdogendcjmgnnaaDoorMFnExactOwnersWFoot
import Derived.Test.YtdogendcjmgnnaaDoorMFnExactOwnersWKept
import Derived.Test.YtdogendcjmgnnaaDoorMFnExactOwnersWShare
import Derived.Test.YtdogendcjmgnnaaDoorMFnExactOwnersWN
import Derived.Test.YtdogendcjmgnnaaDoorMFnExactOwnersWFootNe
import Derived.Test.YtdogendcjmgnnaaDoorMFnExactOwnersWEqStruct
import Derived.Test.YtdogendcjmgnnaaDoorMFnExactOwnersWRepsOne
import Derived.Test.YtdogendcjmgnnaaDoorMFnExactOwnersWGuard
import Derived.Test.YtdogendcjmgnnaaDoorMFnExactOwnersWMore
import Derived.ChangeArms
import Derived.ChangeSlices
import Derived.WideShapes
set_option linter.unusedVariables false
set_option linter.unusedSimpArgs false

namespace Go.Proofs.YtdogendcjmgnnaaDoor.P
open Go.RowKit Go.Proofs.YtdogendcjmgnnaaDoorW.PrintWords Go.Proofs.YtdogendcjmgnnaaDoorW.PrintLast Go.Proofs.YtdogendcjmgnnaaDoorW.PrintMore
attribute [local go_sem] max2_int min2_int max_two min_two max_three min_three max_four min_four   -- for this text's walks alone
set_option linter.unusedVariables false
set_option linter.unusedSimpArgs false

theorem sa_ {α:Type _} (l:List α) (i:Nat) (a:α):l.toArray.setIfInBounds i a=(l.set i a).toArray:=List.setIfInBounds_toArray ..
theorem s0_ {α:Type _} (x:α) (l:List α) (a:α):(x :: l).set 0 a=a :: l:=List.set_cons_zero ..
theorem ss_ {α:Type _} (x:α) (l:List α) (n:Nat) (a:α):(x :: l).set (n+1) a=x :: l.set n a:=List.set_cons_succ ..
section
variable {P:Program} {ops:Array Oper} {Q:Exit→Act→World→Prop}
/-- A call of a function value, as a step of a region that draws. -/
theorem goesD_ {oi:Oper} {N:Option Tmp} {a:Act} {w:World} {K:Act→World→Prop} {f:FuncId} {fn:Func} {as_:Array Operand} {ts:Array TypeId} {x:Operand} (hf:P.funcs[f]? = some fn) (hname:(fn.name == "runtime.NumGoroutine")=false) (hb:fn.body.isSome=true) (args:Array Value)
    (hw:Region.wanted oi (yielded ops a.tmps)=true) (hN:oi.dst=N) (hop:oi.op = .call { callee:=.value x,args:=as_,argTypes:=ts }) (hx:a.eval x = .func (.func f) #[] #[]) (hargs:as_.map a.eval=args)
    (h:Calls P f args w fun e w'=>∃ v,e = .returned v∧K (a.put N v) w'):if Region.wanted oi (yielded ops a.tmps)=true then Oper.wp P oi a w K Q else K (a.put N undef) w:=by
  refine call_ f args hw hN ?_ h
  have he:=enters_ hf hname hb args w
  unfold execOp
  simp [hop,resolve,Deferred.ofValue,invoke,hx,hargs,he]
end



def errW:Option Int→Value
  | none=>.nilIface
  | some c=>.iface 0 (.int .i64 c)
theorem errW_none:errW none = .nilIface:=rfl
theorem errW_some (c:Int):errW (some c) = .iface 0 (.int .i64 c):=rfl

theorem info2:(Tryd.prog.info? 2).map (fun i=>(i.zero,i.size,i.bytes))=some (some (.int .i64 0),1,8):=by kernel_rfl
theorem info57:(Tryd.prog.info? 57).map (fun i=>(i.zero,i.size,i.bytes))=some (some (.agg #[(.int .i64 0),(.int .i64 0)]),2,16):=by kernel_rfl
-- the values' own types
/-! #### struct type 75 -/
structure S75 where
  f0:Int
  f1:Int
def z75:S75:=⟨(0:Int),(0:Int)⟩
def k75:Kd S75:=Kd.iso (Kd.pair (Kd.int .i64) (Kd.int .i64)) (fun x:S75=>(x.f0,x.f1))
theorem k75_open {w:World} {x:S75} {cs:List Value} (h:k75.K w x cs):cs=[.int .i64 x.f0,.int .i64 x.f1]:=by
  obtain ⟨_,_,rfl,rfl,rfl⟩:=h
  exact rfl
def rd_T75 (xs:List S75) (i:Int):S75:=xs.getD i.toNat z75
theorem at_T75 {w:World} {A:Option Addr} {n:Nat} {xs:List S75} (h:Kd.C k75 w A n xs) (i:Int) (h0:0≤i) (h1:i<n):∃ ad , A=some ad∧w.cell? (ad.add (i.toNat*2))=some (.int .i64 (rd_T75 xs i).f0)∧w.cell? ⟨(ad.add (i.toNat*2)).block,(ad.add (i.toNat*2)).off+1,none⟩=some (.int .i64 (rd_T75 xs i).f1):=by
  obtain ⟨ad,c,e,_,hK,hc0⟩:=Kd.C_get h z75 i h0 h1
  have hc:∀ j u,c[j]? = some u→w.cell? (ad.add (i.toNat*2+j))=some u:=hc0
  obtain rfl:=k75_open hK
  exact ⟨ad,e,hc 0 _ rfl,by rw [← add_field _ _ 1 (by omega)];exact hc 1 _ rfl⟩

/-! #### struct type 57 -/
structure S57 where
  f0:Int
  f1:Int
def z57:S57:=⟨(0:Int),(0:Int)⟩
def k57:Kd S57:=Kd.iso (Kd.pair (Kd.int .i64) (Kd.int .i64)) (fun x:S57=>(x.f0,x.f1))
theorem k57_heap:Kd.Heap k57:=Kd.heap_iso _ (Kd.heap_pair (Kd.heap_int .i64) (Kd.heap_int .i64))
theorem k57_open {w:World} {x:S57} {cs:List Value} (h:k57.K w x cs):cs=[.int .i64 x.f0,.int .i64 x.f1]:=by
  obtain ⟨_,_,rfl,rfl,rfl⟩:=h
  exact rfl
theorem k57_openM {w:World} {base:Nat} {ok:Nat→Prop} {x:S57} {cs:List Value} (h:k57.M w base ok x cs):cs=[.int .i64 x.f0,.int .i64 x.f1]:=by
  obtain ⟨_,_,rfl,rfl,rfl⟩:=h
  exact rfl
theorem k57_mkM (w:World) (base:Nat) (ok:Nat→Prop) (x:S57)  : k57.M w base ok x [.int .i64 x.f0,.int .i64 x.f1]:=⟨[.int .i64 x.f0],[.int .i64 x.f1],rfl,rfl,rfl⟩
def rd_T57 (xs:List S57) (i:Int):S57:=xs.getD i.toNat z57
theorem at_T57 {w:World} {A:Option Addr} {n:Nat} {xs:List S57} (h:Kd.C k57 w A n xs) (i:Int) (h0:0≤i) (h1:i<n):∃ ad , A=some ad∧w.cell? (ad.add (i.toNat*2))=some (.int .i64 (rd_T57 xs i).f0)∧w.cell? ⟨(ad.add (i.toNat*2)).block,(ad.add (i.toNat*2)).off+1,none⟩=some (.int .i64 (rd_T57 xs i).f1):=by
  obtain ⟨ad,c,e,_,hK,hc0⟩:=Kd.C_get h z57 i h0 h1
  have hc:∀ j u,c[j]? = some u→w.cell? (ad.add (i.toNat*2+j))=some u:=hc0
  obtain rfl:=k57_open hK
  exact ⟨ad,e,hc 0 _ rfl,by rw [← add_field _ _ 1 (by omega)];exact hc 1 _ rfl⟩

/-! #### struct type 24 -/
structure S24 where
  f0:Int
  f1:(List S75)
def k24:Kd S24:=Kd.iso (Kd.pair (Kd.int .i64) (Kd.slice 75 k75)) (fun x:S24=>(x.f0,x.f1))
theorem k24_open {w:World} {x:S24} {cs:List Value} (h:k24.K w x cs):∃ A1 c1,cs=[.int .i64 x.f0,.slice A1 x.f1.length c1]∧x.f1.length≤c1∧k75.C w A1 x.f1.length x.f1:=by
  obtain ⟨_,_,rfl,rfl,⟨A1,c1,rfl,l1,g1⟩⟩:=h
  exact ⟨A1,c1,rfl,l1,g1⟩
end Go.Proofs.YtdogendcjmgnnaaDoor.P

namespace Go.Proofs.YtdogendcjmgnnaaDoor.P
open Go.RowKit Go.Proofs.YtdogendcjmgnnaaDoorW.PrintWords Go.Proofs.YtdogendcjmgnnaaDoorW.PrintLast Go.Proofs.YtdogendcjmgnnaaDoorW.PrintMore
abbrev I:=true
abbrev O:=false
section
variable {P:Program} {ops:Array Oper} {Q:Exit→Act→World→Prop} {md:Region.Mode} {S:World→Prop} {ds:List Nat}
theorem pu_ {T:Bool × List (List Nat × List Nat)} (i:Nat) (N:Tmp) {oi:Oper} {v:Value} {fuel:Nat} {l:Array Bool} {a a':Act} {w:World} (l':Array Bool) (hT:rtab md ops=T) (h:wpAnyLast P md ops Q S ds fuel l' a' w) (hi:ops[i]? = some oi:=by exact rfl) (hN:oi.dst=some N:=by exact rfl) (hc:anyT T l.toList l'.toList i=true:=by kernel_rfl) (hQ:∀ c a w,Q (.panic c) (a.put oi.dst v) w→Q (.panic c) a w:=by exact fun _ _ _ h=>h) (hw:Region.wanted oi (yielded ops a.tmps)=true:=by rfl) (hy:∀ w',(execOp a.eval oi).run P w' = .ok (.value v) w':=by (intro w');go_simp;(with_reducible rfl)) (ha:a.put (some N) v=a':=by (simp only [Act.put,sa_,s0_,ss_,i64_w,i32_w]);exact rfl):wpAnyLast P md ops Q S ds (fuel+1) l a w:=pure_ l' hi hN (any_of hT hc) hQ (Or.inl ⟨hw,hy⟩) ha h
theorem pn_ {T:Bool × List (List Nat × List Nat)} (i:Nat) (N:Tmp) {oi:Oper} {v:Value} {fuel:Nat} {l:Array Bool} {a a':Act} {w:World} (l':Array Bool) (hT:rtab md ops=T) (h:wpAnyLast P md ops Q S ds fuel l' a' w) (hi:ops[i]? = some oi:=by exact rfl) (hN:oi.dst=some N:=by exact rfl) (hc:anyT T l.toList l'.toList i=true:=by kernel_rfl) (hQ:∀ c a w,Q (.panic c) (a.put oi.dst v) w→Q (.panic c) a w:=by exact fun _ _ _ h=>h) (hw:Region.wanted oi (yielded ops a.tmps)=false:=by rfl) (hy:v=undef:=by rfl) (ha:a.put (some N) v=a':=by (simp only [Act.put,sa_,s0_,ss_,i64_w,i32_w]);exact rfl):wpAnyLast P md ops Q S ds (fuel+1) l a w:=pure_ l' hi hN (any_of hT hc) hQ (Or.inr ⟨hw,hy⟩) ha h
theorem tk2_ {T:Bool × List (List Nat × List Nat)} (i:Nat) (N:Tmp) {oi:Oper} {v:Value} {fuel:Nat} {l:Array Bool} {a a':Act} {w:World} (l':Array Bool) {B:List Nat} (hT:rtab md ops=T) (hB:waitsOk T.2 B=true) (hS:S w) (h:wpAnyLast P md ops Q S ds fuel l' a' w) (hi:ops[i]? = some oi:=by exact rfl) (hN:oi.dst=some N:=by exact rfl) (hc:takeW T B ds l.toList l'.toList i=true:=by kernel_rfl) (hQ:∀ c a w,Q (.panic c) (a.put oi.dst v) w→Q (.panic c) a w:=by exact fun _ _ _ h=>h) (hw:Region.wanted oi (yielded ops a.tmps)=true:=by rfl) (hy:∀ w',S w'→(execOp a.eval oi).run P w' = .ok (.value v) w':=by (rintro w' ⟨s0,s1⟩);go_simp;(with_reducible rfl)) (ha:a.put (some N) v=a':=by (simp only [Act.put,sa_,s0_,ss_,i64_w,i32_w]);exact rfl):wpAnyLast P md ops Q S ds (fuel+1) l a w:=take_ l' hi hN (take_ofW hT hB hc) hQ (Or.inl ⟨hw,hy⟩) hS ha h
theorem tk4_ {T:Bool × List (List Nat × List Nat)} (i:Nat) (N:Tmp) {oi:Oper} {v:Value} {fuel:Nat} {l:Array Bool} {a a':Act} {w:World} (l':Array Bool) {B:List Nat} (hT:rtab md ops=T) (hB:waitsOk T.2 B=true) (hS:S w) (h:wpAnyLast P md ops Q S ds fuel l' a' w) (hi:ops[i]? = some oi:=by exact rfl) (hN:oi.dst=some N:=by exact rfl) (hc:takeW T B ds l.toList l'.toList i=true:=by kernel_rfl) (hQ:∀ c a w,Q (.panic c) (a.put oi.dst v) w→Q (.panic c) a w:=by exact fun _ _ _ h=>h) (hw:Region.wanted oi (yielded ops a.tmps)=true:=by rfl) (hy:∀ w',S w'→(execOp a.eval oi).run P w' = .ok (.value v) w':=by (rintro w' ⟨s0,s1,s2,s3⟩);go_simp;(with_reducible rfl)) (ha:a.put (some N) v=a':=by (simp only [Act.put,sa_,s0_,ss_,i64_w,i32_w]);exact rfl):wpAnyLast P md ops Q S ds (fuel+1) l a w:=take_ l' hi hN (take_ofW hT hB hc) hQ (Or.inl ⟨hw,hy⟩) hS ha h
theorem tk8_ {T:Bool × List (List Nat × List Nat)} (i:Nat) (N:Tmp) {oi:Oper} {v:Value} {fuel:Nat} {l:Array Bool} {a a':Act} {w:World} (l':Array Bool) {B:List Nat} (hT:rtab md ops=T) (hB:waitsOk T.2 B=true) (hS:S w) (h:wpAnyLast P md ops Q S ds fuel l' a' w) (hi:ops[i]? = some oi:=by exact rfl) (hN:oi.dst=some N:=by exact rfl) (hc:takeW T B ds l.toList l'.toList i=true:=by kernel_rfl) (hQ:∀ c a w,Q (.panic c) (a.put oi.dst v) w→Q (.panic c) a w:=by exact fun _ _ _ h=>h) (hw:Region.wanted oi (yielded ops a.tmps)=true:=by rfl) (hy:∀ w',S w'→(execOp a.eval oi).run P w' = .ok (.value v) w':=by (rintro w' ⟨s0,s1,s2,s3,s4,s5,s6,s7⟩);go_simp;(with_reducible rfl)) (ha:a.put (some N) v=a':=by (simp only [Act.put,sa_,s0_,ss_,i64_w,i32_w]);exact rfl):wpAnyLast P md ops Q S ds (fuel+1) l a w:=take_ l' hi hN (take_ofW hT hB hc) hQ (Or.inl ⟨hw,hy⟩) hS ha h
theorem o1_ {T:Bool × List (List Nat × List Nat)} (i:Nat) (N:Tmp) {oi:Oper} {fuel:Nat} {l:Array Bool} {a:Act} {w:World} (l':Array Bool) (hT:rtab md ops=T) (h:∀ K:Act→World→Prop,Shut (∀ a' w',S w'→(S w'→wpAnyLast P md ops Q S ds fuel l' a' w')→K a' w')→if Region.wanted oi (yielded ops a.tmps)=true then Oper.wp P oi a w K Q else K (a.put (some N) undef) w) (hi:ops[i]? = some oi:=by exact rfl) (hN:oi.dst=some N:=by exact rfl) (hc:(readyT T.2 l.toList == [i] && l.toList.set i true == l'.toList)=true:=by kernel_rfl) (hd:i ∉ ds:=by decide):wpAnyLast P md ops Q S ds (fuel+1) l a w:=one_ l' hi hN (one_of hT hc) hd h
theorem o2_ {T:Bool × List (List Nat × List Nat)} (i j:Nat) (Ni Nj:Tmp) {oi oj:Oper} {fuel:Nat} {l:Array Bool} {a:Act} {w:World} (li lj:Array Bool) (hT:rtab md ops=T) (h1:∀ K:Act→World→Prop,Shut (∀ a' w',S w'→(S w'→wpAnyLast P md ops Q S ds fuel li a' w')→K a' w')→if Region.wanted oi (yielded ops a.tmps)=true then Oper.wp P oi a w K Q else K (a.put (some Ni) undef) w) (h2:∀ K:Act→World→Prop,Shut (∀ a' w',S w'→(S w'→wpAnyLast P md ops Q S ds fuel lj a' w')→K a' w')→if Region.wanted oj (yielded ops a.tmps)=true then Oper.wp P oj a w K Q else K (a.put (some Nj) undef) w) (hi:ops[i]? = some oi:=by exact rfl) (hj:ops[j]? = some oj:=by exact rfl) (hNi:oi.dst=some Ni:=by exact rfl) (hNj:oj.dst=some Nj:=by exact rfl) (hc:(readyT T.2 l.toList == [i,j] && l.toList.set i true == li.toList && l.toList.set j true == lj.toList)=true:=by kernel_rfl) (hdi:i ∉ ds:=by decide) (hdj:j ∉ ds:=by decide):wpAnyLast P md ops Q S ds (fuel+1) l a w:=two_ li lj hi hj hNi hNj (two_of hT hc) hdi hdj h1 h2
theorem nm_ (N:Tmp) {fuel:Nat} {l:Array Bool} {a a':Act} {v:Value} {w:World} (h:wpAnyLast P md ops Q S ds fuel l a' w) (ha:Act.put a (some N) v=a':=by simp only [Act.put,sa_,s0_,ss_,i64_w,i32_w];rfl):wpAnyLast P md ops Q S ds fuel l (Act.put a (some N) v) w:=norm_ ha h
end
section
variable {P:Program} {ops:Array Oper} {rest:List Oper} {o:Oper} {a:Act} {Q:Exit→Act→World→Prop} {W:World}
theorem gd_ (N:Tmp) (h:wpList P ops Q (o :: rest) a W) (hN:o.dst=some N:=by with_reducible rfl):wpList P ops Q (o :: rest) a W:=h
theorem gc_ (f:FuncId) {ars:Array Operand} {ts:Array TypeId} (h:wpList P ops Q (o :: rest) a W) (ho:o.op = .call { callee:=.value (.func f),args:=ars,argTypes:=ts }:=by with_reducible rfl):wpList P ops Q (o :: rest) a W:=h
theorem be_ (N:Tmp) (cs:Array Value) (t:TypeId) (h:∀ g,g=W.heap.size→∀ w1,w1.heap[g]? = some (.cells cs t (0,0))→Below W.heap.size W w1→wpList P ops Q rest (a.put o.dst (.pointer (some ⟨g,0,none⟩))) w1) (hd:o.dst=some N:=by rfl) (hgd:o.guard=none:=by rfl) (hrun:(execOp a.eval o).run P W = .ok (.value (.pointer (some ⟨W.heap.size,0,none⟩))) (W.alloc (.cells cs t (0,0))):=by first | (go_simp;done) | (go_simp;rfl)):wpList P ops Q (o :: rest) a W:=box_event hgd hd hrun h
theorem bs_ {Kc:Act→World→Prop} (N:Tmp) (cs:Array Value) (t:TypeId) (h:∀ g,g=W.heap.size→∀ w1,w1.heap[g]? = some (.cells cs t (0,0))→Below W.heap.size W w1→Kc (a.put o.dst (.pointer (some ⟨g,0,none⟩))) w1) (hd:o.dst=some N:=by rfl) (hw:Region.wanted o (yielded ops a.tmps)=true:=by rfl) (hrun:(execOp a.eval o).run P W = .ok (.value (.pointer (some ⟨W.heap.size,0,none⟩))) (W.alloc (.cells cs t (0,0))):=by first | (go_simp;done) | (go_simp;rfl)):if Region.wanted o (yielded ops a.tmps)=true then Oper.wp P o a W Kc Q else Kc (a.put o.dst undef) W:=box_step hw hd hrun h
theorem gl_ (N:Option Tmp) {f:FuncId} {fn:Func} {ars:Array Operand} {ts:Array TypeId} (hf:P.funcs[f]? = some fn) (args:Array Value) (h:Calls P f args W fun e w'=>∃ v,e = .returned v∧wpList P ops Q rest (a.put N v) w') (hd:o.dst=N:=by exact rfl) (hg:o.guard=none:=by exact rfl) (hname:(fn.name == "runtime.NumGoroutine")=false:=by kernel_rfl) (hb:fn.body.isSome=true:=by exact rfl) (hop:o.op = .call { callee:=.value (.func f),args:=ars,argTypes:=ts }:=by exact rfl) (hargs:ars.map a.eval=args:=by (try simp only [List.map_toArray,List.map_cons,List.map_nil]);first | done | rfl | (simp only [List.length_drop,List.length_take];rfl)):wpList P ops Q (o :: rest) a W:=goesL_ N hd hg hf hname hb args hop hargs h
theorem gs_ {N:Option Tmp} {K:Act→World→Prop} {f:FuncId} {fn:Func} {ars:Array Operand} {ts:Array TypeId} (hf:P.funcs[f]? = some fn) (args:Array Value) (h:Calls P f args W fun e w'=>∃ v,e = .returned v∧K (a.put N v) w') (hname:(fn.name == "runtime.NumGoroutine")=false:=by kernel_rfl) (hb:fn.body.isSome=true:=by exact rfl) (hw:Region.wanted o (yielded ops a.tmps)=true:=by rfl) (hN:o.dst=N:=by exact rfl) (hop:o.op = .call { callee:=.value (.func f),args:=ars,argTypes:=ts }:=by exact rfl) (hargs:ars.map a.eval=args:=by (try simp only [List.map_toArray,List.map_cons,List.map_nil]);first | done | rfl | (simp only [List.length_drop,List.length_take];rfl)):if Region.wanted o (yielded ops a.tmps)=true then Oper.wp P o a W K Q else K (a.put N undef) W:=goes_ hf hname hb args hw hN hop hargs h
end
theorem cc2_ {w:World} {g:Nat} {t:TypeId} {v0 v1:Value} (h:w.heap[g]? = some (.cells #[v0,v1] t (0,0))):w.cell? ⟨g,0,none⟩=some v0∧w.cell? ⟨g,1,none⟩=some v1:=⟨blk_cell h 0,blk_cell h 1⟩
theorem cj2_ {p:Prop} {w:World} {g:Nat} {t:TypeId} {v0 v1:Value} (h:w.heap[g]? = some (.cells #[v0,v1] t (0,0))) (r:p):w.cell? ⟨g,0,none⟩=some v0∧w.cell? ⟨g,1,none⟩=some v1∧p:=⟨blk_cell h 0,blk_cell h 1,r⟩
theorem blkB_ {W0 W W':World} {g:Nat} {o:Obj} (h:W0.heap[g]? = some o) (hb:Below W.heap.size W W') (f:W0.heap[g]? = some o→W.heap[g]? = some o:=by intro h_;(with_reducible repeat (first | refine blk_drewN ?_ _ | refine blk_drew ?_ | refine blk_alloc ?_ _));exact h_):W'.heap[g]? = some o:=blk_below (f h) hb
theorem neL_ {W0 W:World} {g b:Nat} {o:Obj} (h:W0.heap[b]? = some o) (hg:g=W.heap.size) (f:W0.heap[b]? = some o→W.heap[b]? = some o:=by intro h_;(with_reducible repeat (first | refine blk_drewN ?_ _ | refine blk_drew ?_ | refine blk_alloc ?_ _));exact h_):b≠g:=by rw [hg];exact Nat.ne_of_lt (blk_lt (f h))
theorem neG_ {W0 W:World} {g b:Nat} {o:Obj} (h:W0.heap[b]? = some o) (hg:g=W.heap.size) (f:W0.heap[b]? = some o→W.heap[b]? = some o:=by intro h_;(with_reducible repeat (first | refine blk_drewN ?_ _ | refine blk_drew ?_ | refine blk_alloc ?_ _));exact h_):g≠b:=by rw [hg];exact Nat.ne_of_gt (blk_lt (f h))
theorem cz1_ {w:World} {g:Nat} {t:TypeId} {v0:Value} (h:w.heap[g]? = some (.cells #[v0] t (0,0))):w.cell? ⟨g,0,none⟩=some v0∧w.frozen? ⟨g,0,none⟩=false:=⟨blk_cell h 0,blk_frozen h 0⟩
theorem cz2_ {w:World} {g:Nat} {t:TypeId} {v0 v1:Value} (h:w.heap[g]? = some (.cells #[v0,v1] t (0,0))):w.cell? ⟨g,0,none⟩=some v0∧w.cell? ⟨g,1,none⟩=some v1∧w.frozen? ⟨g,0,none⟩=false∧w.frozen? ⟨g,1,none⟩=false:=⟨blk_cell h 0,blk_cell h 1,blk_frozen h 0,blk_frozen h 1⟩
theorem put2_ {w:World} {g:Nat} {t:TypeId} {v0 v1 z0 z1:Value} (h:w.heap[g]? = some (.cells #[z0,z1] t (0,0))):((w.setCell ⟨g,0,none⟩ v0).setCell ⟨g,1,none⟩ v1).heap[g]? = some (.cells #[v0,v1] t (0,0)):=(blk_put (cs':=#[v0,v1]) (blk_put (cs':=#[v0,z1]) h 0 v0 rfl) 1 v1 rfl)
theorem rf2_ {α:Type} {d:Kd α} {e:TypeId} {w:World} {base g:Nat} {ok:Nat→Prop} {v:Value} {xs:List α} {v0 v1:Value} (h:d.R e w base ok v xs) (f:∀ k,ok k→k≠g):d.R e ((w.setCell ⟨g,0,none⟩ v0).setCell ⟨g,1,none⟩ v1) base ok v xs:=(Kd.R_far (p:=⟨g,1,none⟩) (Kd.R_far (p:=⟨g,0,none⟩) h f v0) f v1)
theorem as2_ {p p0 p1:Prop} (hp0:p0) (hp1:p1) (h:Aside0 p0→Aside0 p1→p):p:=h ⟨hp0⟩ ⟨hp1⟩
theorem as3_ {p p0 p1 p2:Prop} (hp0:p0) (hp1:p1) (hp2:p2) (h:Aside0 p0→Aside0 p1→Aside0 p2→p):p:=h ⟨hp0⟩ ⟨hp1⟩ ⟨hp2⟩
theorem as4_ {p p0 p1 p2 p3:Prop} (hp0:p0) (hp1:p1) (hp2:p2) (hp3:p3) (h:Aside0 p0→Aside0 p1→Aside0 p2→Aside0 p3→p):p:=h ⟨hp0⟩ ⟨hp1⟩ ⟨hp2⟩ ⟨hp3⟩
theorem as5_ {p p0 p1 p2 p3 p4:Prop} (hp0:p0) (hp1:p1) (hp2:p2) (hp3:p3) (hp4:p4) (h:Aside0 p0→Aside0 p1→Aside0 p2→Aside0 p3→Aside0 p4→p):p:=h ⟨hp0⟩ ⟨hp1⟩ ⟨hp2⟩ ⟨hp3⟩ ⟨hp4⟩
theorem as6_ {p p0 p1 p2 p3 p4 p5:Prop} (hp0:p0) (hp1:p1) (hp2:p2) (hp3:p3) (hp4:p4) (hp5:p5) (h:Aside0 p0→Aside0 p1→Aside0 p2→Aside0 p3→Aside0 p4→Aside0 p5→p):p:=h ⟨hp0⟩ ⟨hp1⟩ ⟨hp2⟩ ⟨hp3⟩ ⟨hp4⟩ ⟨hp5⟩
theorem as7_ {p p0 p1 p2 p3 p4 p5 p6:Prop} (hp0:p0) (hp1:p1) (hp2:p2) (hp3:p3) (hp4:p4) (hp5:p5) (hp6:p6) (h:Aside0 p0→Aside0 p1→Aside0 p2→Aside0 p3→Aside0 p4→Aside0 p5→Aside0 p6→p):p:=h ⟨hp0⟩ ⟨hp1⟩ ⟨hp2⟩ ⟨hp3⟩ ⟨hp4⟩ ⟨hp5⟩ ⟨hp6⟩
theorem as8_ {p p0 p1 p2 p3 p4 p5 p6 p7:Prop} (hp0:p0) (hp1:p1) (hp2:p2) (hp3:p3) (hp4:p4) (hp5:p5) (hp6:p6) (hp7:p7) (h:Aside0 p0→Aside0 p1→Aside0 p2→Aside0 p3→Aside0 p4→Aside0 p5→Aside0 p6→Aside0 p7→p):p:=h ⟨hp0⟩ ⟨hp1⟩ ⟨hp2⟩ ⟨hp3⟩ ⟨hp4⟩ ⟨hp5⟩ ⟨hp6⟩ ⟨hp7⟩
theorem as10_ {p p0 p1 p2 p3 p4 p5 p6 p7 p8 p9:Prop} (hp0:p0) (hp1:p1) (hp2:p2) (hp3:p3) (hp4:p4) (hp5:p5) (hp6:p6) (hp7:p7) (hp8:p8) (hp9:p9) (h:Aside0 p0→Aside0 p1→Aside0 p2→Aside0 p3→Aside0 p4→Aside0 p5→Aside0 p6→Aside0 p7→Aside0 p8→Aside0 p9→p):p:=h ⟨hp0⟩ ⟨hp1⟩ ⟨hp2⟩ ⟨hp3⟩ ⟨hp4⟩ ⟨hp5⟩ ⟨hp6⟩ ⟨hp7⟩ ⟨hp8⟩ ⟨hp9⟩
theorem as11_ {p p0 p1 p2 p3 p4 p5 p6 p7 p8 p9 p10:Prop} (hp0:p0) (hp1:p1) (hp2:p2) (hp3:p3) (hp4:p4) (hp5:p5) (hp6:p6) (hp7:p7) (hp8:p8) (hp9:p9) (hp10:p10) (h:Aside0 p0→Aside0 p1→Aside0 p2→Aside0 p3→Aside0 p4→Aside0 p5→Aside0 p6→Aside0 p7→Aside0 p8→Aside0 p9→Aside0 p10→p):p:=h ⟨hp0⟩ ⟨hp1⟩ ⟨hp2⟩ ⟨hp3⟩ ⟨hp4⟩ ⟨hp5⟩ ⟨hp6⟩ ⟨hp7⟩ ⟨hp8⟩ ⟨hp9⟩ ⟨hp10⟩
theorem z0_ {p:Prop} (f:p:=by first | (with_reducible assumption) | assumption):p:=f
theorem z1_ {p:Prop} (f:p:=by first | rfl | (simp;done) | (simp [*];done) | (simp [bne];done)):p:=f
theorem z2_ {a0 p:Prop} (h0:a0) (f:a0→p:=by intro h0_;(with_reducible repeat (first | apply Kd.R_alloc | apply Kd.R_drewN | apply Kd.R_drew));exact h0_):p:=f h0
theorem z3_ {a0 p:Prop} (h0:a0) (f:a0→p:=by intro h0_;repeat (first | (with_reducible first | exact h0_ | apply below_alloc | apply pw_below_drewN | apply below_drew1) | exact h0_)):p:=f h0
theorem z4_ {a0 p:Prop} (h0:a0) (f:a0→p:=by intro h0_;(with_reducible repeat (first | refine blk_drewN ?_ _ | refine blk_drew ?_ | refine blk_alloc ?_ _));exact h0_):p:=f h0
theorem z5_ {a0 a1 p:Prop} (h0:a0) (h1:a1) (f:a0→a1→p:=by intro h0_ h1_;repeat (first | (with_reducible first | exact h0_ | apply below_alloc | apply pw_below_drewN | apply below_drew1 | refine below_set ?_ h1_) | exact h0_)):p:=f h0 h1
theorem z6_ {p:Prop} (f:p:=by repeat (first | exact Drawn0.refl _ | apply Drawn0.step)):p:=f
theorem z7_ {a0 a1 a2 p:Prop} (h0:a0) (h1:a1) (h2:a2) (f:a0→a1→a2→p:=by intro h0_ h1_ h2_;repeat (first | (with_reducible first | exact h0_ | apply below_alloc | apply pw_below_drewN | apply below_drew1 | refine below_set ?_ h1_ | refine below_set ?_ h2_) | exact h0_)):p:=f h0 h1 h2
theorem z8_ {a0 p:Prop} (h0:a0) (f:a0→p:=by intro h0_;rw [hg];exact (below_size (by repeat (first | (with_reducible first | exact h0_ | apply below_alloc | apply pw_below_drewN | apply below_drew1) | exact h0_)))):p:=f h0
theorem z9_ {a0 p:Prop} (h0:a0) (f:a0→p:=by intro h0_;repeat (first | (with_reducible first | exact h0_ | apply Kept.alloc | apply Kept.drewN | apply Kept.drew) | exact h0_)):p:=f h0
theorem z10_ {p:Prop} (f:p:=by first | rfl | (simp [errW_none,errW_some] <;> rfl) | (simp [*,errW_none,errW_some] <;> rfl)):p:=f
theorem z11_ {a0 a1 a2 a3 p:Prop} (h0:a0) (h1:a1) (h2:a2) (h3:a3) (f:a0→a1→a2→a3→p:=by intro h0_ h1_ h2_ h3_;repeat (first | (with_reducible first | exact h0_ | apply below_alloc | apply pw_below_drewN | apply below_drew1 | refine below_set ?_ h1_ | refine below_set ?_ h2_ | refine below_set ?_ h3_) | exact h0_)):p:=f h0 h1 h2 h3
theorem z12_ {a0 a1 p:Prop} (h0:a0) (h1:a1) (f:a0→a1→p:=by intro h0_ h1_;rw [hg];exact (below_size (by repeat (first | (with_reducible first | exact h0_ | apply below_alloc | apply pw_below_drewN | apply below_drew1 | refine below_set ?_ h1_) | exact h0_)))):p:=f h0 h1
theorem z13_ {a0 a1 p:Prop} (h0:a0) (h1:a1) (f:a0→a1→p:=by intro h0_ h1_;have:=h0_;have:=h1_;omega):p:=f h0 h1
theorem z14_ {a0 a1 p:Prop} (h0:a0) (h1:a1) (f:a0→a1→p:=by intro h0_ h1_;repeat (first | (with_reducible first | exact h0_ | apply below_alloc | apply pw_below_drewN | apply below_drew1 | refine below_set ?_ (IsS3.ge h1_)) | exact h0_)):p:=f h0 h1
theorem z15_ {a0 p:Prop} (h0:a0) (f:a0→p:=by intro h0_;repeat (first | (with_reducible first | exact h0_ | apply KeepBut.set_ | apply keep_drewN | apply keep_drew | apply keep_alloc) | exact h0_)):p:=f h0
theorem z16_ {a0 a1 a2 p:Prop} (h0:a0) (h1:a1) (h2:a2) (f:a0→a1→a2→p:=by intro h0_ h1_ h2_;rw [hg];exact (below_size (by repeat (first | (with_reducible first | exact h0_ | apply below_alloc | apply pw_below_drewN | apply below_drew1 | refine below_set ?_ h1_ | refine below_set ?_ h2_) | exact h0_)))):p:=f h0 h1 h2
theorem z17_ {a0 a1 a2 p:Prop} (h0:a0) (h1:a1) (h2:a2) (f:a0→a1→a2→p:=by intro h0_ h1_ h2_;have:=h0_;have:=h1_;have:=h2_;first | omega | exact Nat.le_refl _):p:=f h0 h1 h2
theorem z18_ {a0 p:Prop} (h0:a0) (f:a0→p:=by intro h0_;repeat (first | (with_reducible first | exact h0_ | apply IsS3.alloc | apply IsS3.drewN | apply IsS3.drew | apply IsS3.set_0) | exact h0_)):p:=f h0
theorem z19_ {a0 p:Prop} (h0:a0) (f:a0→p:=by intro h0_;(try simp only [hl0_1]);(try simp only [hl0_5]);(with_reducible repeat (first | apply Kd.R_alloc | apply Kd.R_drewN | apply Kd.R_drew));exact h0_):p:=f h0
theorem z20_ {a0 p:Prop} (h0:a0) (f:a0→p:=by intro h0_;have:=h0_;first | omega | exact Nat.le_refl _):p:=f h0
theorem z21_ {a0 p:Prop} (h0:a0) (f:a0→p:=by intro h0_;(try simp only [hl0_1]);(with_reducible repeat (first | apply Kd.R_alloc | apply Kd.R_drewN | apply Kd.R_drew));exact h0_):p:=f h0
theorem z22_ {a0 a1 p:Prop} (h0:a0) (h1:a1) (f:a0→a1→p:=by intro h0_ h1_;(with_reducible repeat (first | refine blk_drewN ?_ _ | refine blk_drew ?_ | refine blk_alloc ?_ _));refine blk_far ?_ h0_ _;(with_reducible repeat (first | refine blk_drewN ?_ _ | refine blk_drew ?_ | refine blk_alloc ?_ _));exact h1_):p:=f h0 h1
theorem z23_ {a0 p:Prop} (h0:a0) (f:a0→p:=by intro h0_;(with_reducible repeat (first | refine blk_drewN ?_ _ | refine blk_drew ?_ | refine blk_alloc ?_ _));apply put2_;(with_reducible repeat (first | refine blk_drewN ?_ _ | refine blk_drew ?_ | refine blk_alloc ?_ _));exact h0_):p:=f h0
theorem z24_ {a0 a1 p:Prop} (h0:a0) (h1:a1) (f:a0→a1→p:=by intro h0_ h1_;(with_reducible repeat (first | refine blk_drewN ?_ _ | refine blk_drew ?_ | refine blk_alloc ?_ _));refine blk_far ?_ h0_ _;(with_reducible repeat (first | refine blk_drewN ?_ _ | refine blk_drew ?_ | refine blk_alloc ?_ _));refine blk_far ?_ h0_ _;(with_reducible repeat (first | refine blk_drewN ?_ _ | refine blk_drew ?_ | refine blk_alloc ?_ _));exact h1_):p:=f h0 h1
theorem z25_ {a0 p:Prop} (h0:a0) (f:a0→p:=by intro h0_;repeat (first | (with_reducible exact h0_) | (with_reducible refine Kd.C_alloc ?_ _) | (with_reducible refine Kd.C_drewN ?_ _) | (with_reducible refine Kd.C_drew ?_) | exact h0_)):p:=f h0
theorem z26_ {a0 a1 p:Prop} (h0:a0) (h1:a1) (f:a0→a1→p:=by intro h0_ h1_;repeat (first | (with_reducible first | exact h0_ | apply Kept.alloc | apply Kept.drewN | apply Kept.drew | refine Kept.setCell ?_ h1_ _ | refine Kept.setCell ?_ h1_ _ | refine Kept.setCell ?_ h1_ _ | refine Kept.setCell ?_ h1_ _) | exact h0_)):p:=f h0 h1
theorem z27_ {a0 a1 p:Prop} (h0:a0) (h1:a1) (f:a0→a1→p:=by intro h0_ h1_;repeat (first | (with_reducible first | exact h0_ | apply below_alloc | apply pw_below_drewN | apply below_drew1 | refine below_set ?_ h1_ | refine below_set ?_ h1_ | refine below_set ?_ h1_ | refine below_set ?_ h1_) | exact h0_)):p:=f h0 h1
theorem z28_ {p:Prop} (f:p:=by (try simp only [List.map_toArray,List.map_cons,List.map_nil]);first | done | rfl | (simp only [List.length_drop,List.length_take];rfl)):p:=f
theorem z29_ {a0 a1 p:Prop} (h0:a0) (h1:a1) (f:a0→a1→p:=by intro h0_ h1_;(with_reducible repeat (first | apply Kd.R_alloc | apply Kd.R_drewN | apply Kd.R_drew));exact (Kd.R_mono (rf2_ (Kd.R_types h0_ h1_ (by decide)) (fun _ hk=>hk.2)) (fun _ h_=>h_.1))):p:=f h0 h1
theorem z30_ {a0 p:Prop} (h0:a0) (f:a0→p:=by intro h0_;have h_:(x5_1:Int)<((x0_1.length:Int):Int):=of_decide_eq_true (by first | (with_reducible assumption) | assumption);first | exact h_ | (have e_:=(Kd.R_reads' h0_).1;omega) | simpa using h_):p:=f h0
theorem z31_ {p:Prop} (f:p:=by first | exact Kd.R_nil _ _ _ _ _ | exact Kd.N_nil _ _ _ _ _ | exact Kd.V_nil _ _ _ _ _ | exact Kd.Q_nil _ _ _ _ _ | exact Kd.S_nil _ _ _ _ _):p:=f
theorem z32_ {a0 p:Prop} (h0:a0) (f:a0→p:=by intro h0_;(with_reducible repeat (first | apply Kd.R_alloc | apply Kd.R_drewN | apply Kd.R_drew));exact Kd.R_mono h0_ (fun _ hk=>trivial)):p:=f h0
theorem z33_ {a0 p:Prop} (h0:a0) (f:a0→p:=by intro h0_;have h_:(x13_3:Int)<((y217.length:Int):Int):=of_decide_eq_true (by first | (with_reducible assumption) | assumption);first | exact h_ | (have e_:=(Kd.R_reads' h0_).1;omega) | simpa using h_):p:=f h0
theorem z34_ {a0 p:Prop} (h0:a0) (f:a0→p:=by intro h0_;have h_:(x13_8:Int)<((x0_5.length:Int):Int):=of_decide_eq_true (by first | (with_reducible assumption) | assumption);first | exact h_ | (have e_:=(Kd.R_reads' h0_).1;omega) | simpa using h_):p:=f h0
theorem z35_ {a0 p:Prop} (h0:a0) (f:a0→p:=by intro h0_;rw [← hq_];exact (by (with_reducible repeat (first | refine blk_drewN ?_ _ | refine blk_drew ?_ | refine blk_alloc ?_ _));exact h0_)):p:=f h0
theorem z36_ {a0 p:Prop} (h0:a0) (f:a0→p:=by intro h0_;rw [← hq_];exact (by (with_reducible repeat (first | apply Kd.R_alloc | apply Kd.R_drewN | apply Kd.R_drew));exact h0_)):p:=f h0
theorem z37_ {a0 p:Prop} (h0:a0) (f:a0→p:=by intro h0_;(with_reducible repeat (first | apply Kd.R_alloc | apply Kd.R_drewN | apply Kd.R_drew));exact Kd.R_mono h0_ (fun _ hk=>⟨hk.1.2,hk.2⟩)):p:=f h0
theorem z38_ {a0 a1 p:Prop} (h0:a0) (h1:a1) (f:a0→a1→p:=by intro h0_ h1_;(with_reducible repeat (first | apply Kd.R_alloc | apply Kd.R_drewN | apply Kd.R_drew));exact Kd.R_mono (rf2_ (Kd.R_types h0_ h1_ (by decide)) (fun _ hk=>hk.2)) (fun _ hk=>trivial)):p:=f h0 h1
theorem z39_ {p:Prop} (f:p:=by have:(0:Int)<(a0.size:Int):=of_decide_eq_true (by first | (with_reducible assumption) | assumption);omega):p:=f
theorem z40_ {a0 p:Prop} (h0:a0) (f:a0→p:=by intro h0_;(with_reducible repeat (first | refine blk_drewN ?_ _ | refine blk_drew ?_ | refine blk_alloc ?_ _));refine blk_put (cs:=#[.int .i64 0]) ?_ 0 _ rfl;(with_reducible repeat (first | refine blk_drewN ?_ _ | refine blk_drew ?_ | refine blk_alloc ?_ _));exact h0_):p:=f h0
end Go.Proofs.YtdogendcjmgnnaaDoor.P

namespace Go.Proofs.YtdogendcjmgnnaaDoor.Open
open Go.RowKit Go.Proofs.YtdogendcjmgnnaaDoorW.PrintWords

def Opens {α:Type} (P:Program) (t:TypeId) (d:Kd α) (wf:α→Prop):Prop :=
  ∀ {H:Type} {enc:TypeId × Value→H} {W:World} {base:Nat} {spare:Nat→Bool} {held:Bool} {fuel:Nat} {cs:List Value} {x:DataW H × List MemPlace},
    DataW.trod enc P W base spare held fuel t cs=some x→∃ a:α,d.K W a cs∧wf a
section
variable {P:Program} {t e:TypeId} {α β:Type} {d:Kd α} {d':Kd β} {wf:α→Prop} {wf':β→Prop}
theorem opens_int {k:IntKind} (ht:P.underlying t=some (.int k)):Opens P t (Kd.int k) (fun n=>(Lit.int k n).wf=true):=by
  intro H enc W base spare held fuel cs x h
  obtain ⟨n,rfl,_,hw⟩:=DataW.trod_int ht h
  exact ⟨n,rfl,hw⟩
theorem add_add_ (a:Addr) (i j:Nat):(a.add i).add j=a.add (i+j):=by
  by_cases hi:i=0 <;> by_cases hj:j=0 <;> simp [Addr.add,hi,hj,Nat.add_assoc]
theorem cells_get {W:World} {base n:Nat} {a:Addr} {c:List Value} (h:W.cells? base a n=some c):c.length=n∧∀ i u,c[i]? = some u→W.cell? (a.add i)=some u:=by
  unfold World.cells? at h
  split at h
  · have hl:c.length=n:=by simpa using mapM_some_length h
    refine ⟨hl,fun i u hu=>?_⟩
    have hi:i<n:=by rw [← hl];exact (List.getElem?_eq_some_iff.1 hu).1
    have:=mapM_some_get h i i (by simp [hi])
    rw [this,hu]
  · cases h
theorem opens_slice (ht:P.underlying t=some (.slice e)) (hs:P.cellsOf e=d.sz) (he:Opens P e d wf):Opens P t (Kd.slice e d) (fun l=>l.length≤maxLen∧∀ x ∈ l,wf x):=by
  intro H enc W base spare held fuel cs x h
  rcases DataW.trod_slice ht h with ⟨rfl,_⟩ | ⟨a,len,cap,elems,rest,n,_,rfl,rfl,hb,hl,hm,hlen,hel,_,_⟩
  · exact ⟨[],⟨none,0,rfl,Nat.le_refl _,Kd.C_nil _ _⟩,by simp [maxLen],by simp⟩
  have each:∀ i:Fin len,∃ y:α,∃ c:List Value,c.length=d.sz∧d.K W y c∧wf y∧∀ j u,c[j]? = some u→W.cell? (a.add (i.1*d.sz+j))=some u:=by
    intro i
    have h1:=hel i.1 i.2
    have h2:elems[i.1]? = some (elems[i.1]'(by rw [hlen];exact i.2)):=List.getElem?_eq_getElem _
    rw [h2,Option.bind_eq_some_iff] at h1
    obtain ⟨c,hc,hy⟩:=h1
    obtain ⟨y,hk,hw⟩:=he hy
    obtain ⟨_,hc2⟩:=cells_get hc
    refine ⟨y,c,d.K_len hk,hk,hw,fun j u hu=>?_⟩
    have:=hc2 j u hu
    rwa [add_add_,hs] at this
  have L:(List.ofFn fun i:Fin len=>(each i).choose).length=len:=List.length_ofFn
  have G:∀ j p,(List.ofFn fun i:Fin len=>(each i).choose)[j]? = some p→∃ h:j<len,p=(each ⟨j,h⟩).choose:=by
    intro j p hp
    have hj:j<len:=by rw [← L];exact (List.getElem?_eq_some_iff.1 hp).1
    refine ⟨hj,?_⟩
    rw [List.getElem?_ofFn] at hp
    simp only [hj,dite_true,Option.some.injEq] at hp
    exact hp.symm
  refine ⟨List.ofFn fun i:Fin len=>(each i).choose,⟨some a,cap,by rw [L],by rw [L];exact hl,rfl,by rw [L];exact Nat.le_trans hl hm,fun _=>⟨a,rfl,fun j p hp=>?_⟩⟩,by rw [L];exact Nat.le_trans hl hm,fun p hp=>?_⟩
  · obtain ⟨hj,rfl⟩:=G j p hp
    obtain ⟨c,h1,h2,_,h4⟩:=(each ⟨j,hj⟩).choose_spec
    exact ⟨c,h1,h2,h4⟩
  · obtain ⟨j,hj0⟩:=List.getElem?_of_mem hp
    obtain ⟨hj,rfl⟩:=G j p hj0
    exact (each ⟨j,hj⟩).choose_spec.choose_spec.2.2.1
/-- The fields from one on. -/
def OpensF {α:Type} (P:Program) (fs:List Field) (off:Nat) (d:Kd α) (wf:α→Prop):Prop :=
  ∀ {H:Type} {enc:TypeId × Value→H} {W:World} {base:Nat} {spare:Nat→Bool} {held:Bool} {n:Nat} {cs:List Value},
    (∀ (i:Nat) (f:Field),fs[i]? = some f→∃ y,DataW.trod enc P W base spare held n f.type ((cs.drop f.offset).take (P.cellsOf f.type))=some y)→cs.length=off+d.sz→∃ a:α,d.K W a (cs.drop off)∧wf a
theorem opensF_one {f:Field} {off:Nat} (ho:f.offset=off) (hs:P.cellsOf f.type=d.sz) (he:Opens P f.type d wf):OpensF P [f] off d wf:=by
  intro H enc W base spare held n cs h hl
  obtain ⟨y,hy⟩:=h 0 f rfl
  rw [ho,hs,List.take_of_length_le (by rw [List.length_drop];omega)] at hy
  exact he hy
theorem opensF_cons {f:Field} {fs:List Field} {off:Nat} (ho:f.offset=off) (hs:P.cellsOf f.type=d.sz) (he:Opens P f.type d wf) (hf:OpensF P fs (off+d.sz) d' wf') :
    OpensF P (f :: fs) off (Kd.pair d d') (fun x=>wf x.1∧wf' x.2):=by
  intro H enc W base spare held n cs h hl
  have hl':cs.length=off+(d.sz+d'.sz):=hl
  obtain ⟨y,hy⟩:=h 0 f rfl
  rw [ho,hs] at hy
  obtain ⟨a,ha,hw⟩:=he hy
  obtain ⟨b,hb,hw'⟩:=hf (cs:=cs) (fun i g hg=>h (i+1) g hg) (by omega)
  refine ⟨(a,b),⟨(cs.drop off).take d.sz,cs.drop (off+d.sz),?_,ha,hb⟩,hw,hw'⟩
  rw [← List.drop_drop,List.take_append_drop]
theorem opens_struct {fs:Array Field} (ht:P.underlying t=some (.struct fs)) (hc:P.cellsOf t=d.sz) (hf:OpensF P fs.toList 0 d wf):Opens P t d wf:=by
  intro H enc W base spare held fuel cs x h
  obtain ⟨xs,n,_,_,hl,hx,hall⟩:=DataW.trod_struct ht h
  have:=hf (H:=H) (enc:=enc) (W:=W) (base:=base) (spare:=spare) (held:=held) (n:=n) (cs:=cs) (fun i f hi=>by
    have h1:=hall i f (by simpa using hi)
    have hi2:i<xs.length:=by
      rw [hx]
      have:=(List.getElem?_eq_some_iff.1 hi).1
      simpa using this
    exact ⟨xs[i],by rw [h1];exact List.getElem?_eq_getElem hi2⟩) (by rw [hl,hc];omega)
  simpa using this
theorem opens_iso {f:β→α} {g:α→β} (hg:∀ y,f (g y)=y) (h:Opens P t d wf):Opens P t (Kd.iso d f) (fun x=>wf (f x)):=by
  intro H enc W base spare held fuel cs x hx
  obtain ⟨a,ha,hw⟩:=h hx
  exact ⟨g a,by show d.K W (f (g a)) cs;rw [hg];exact ha,by show wf (f (g a));rw [hg];exact hw⟩
end
end Go.Proofs.YtdogendcjmgnnaaDoor.Open

namespace Go.Proofs.YtdogendcjmgnnaaDoor.RO
open Go.RowKit Go.Proofs.YtdogendcjmgnnaaDoor.Open Go.Proofs.YtdogendcjmgnnaaDoor.P Go.Proofs.YtdogendcjmgnnaaDoorW.PrintWords
set_option linter.unusedVariables false

def wfT75 (x:S75):Prop:=(Lit.int .i64 x.f0).wf=true∧(Lit.int .i64 x.f1).wf=true
theorem op_T75:Opens Tryd.prog 75 k75 wfT75:=opens_iso (f:=fun x:S75=>(x.f0,x.f1)) (g:=fun p_=>(⟨p_.1,p_.2⟩:S75)) (fun _=>rfl) (opens_struct Tryd.underlying75 (by kernel_rfl) (opensF_cons rfl (by kernel_rfl) (opens_int Tryd.underlying2) (opensF_one rfl (by kernel_rfl) (opens_int Tryd.underlying2))))
def wfT24 (x:S24):Prop:=(Lit.int .i64 x.f0).wf=true∧(x.f1.length≤maxLen∧∀ y_ ∈ x.f1,wfT75 y_)
theorem op_T24:Opens Tryd.prog 24 k24 wfT24:=opens_iso (f:=fun x:S24=>(x.f0,x.f1)) (g:=fun p_=>(⟨p_.1,p_.2⟩:S24)) (fun _=>rfl) (opens_struct Tryd.underlying24 (by kernel_rfl) (opensF_cons rfl (by kernel_rfl) (opens_int Tryd.underlying2) (opensF_one rfl (by kernel_rfl) (opens_slice Tryd.underlying22 (by kernel_rfl) op_T75))))
end Go.Proofs.YtdogendcjmgnnaaDoor.RO

namespace Go.Proofs.YtdogendcjmgnnaaDoor.P
open Go.RowKit Go.Proofs.YtdogendcjmgnnaaDoorW.PrintWords Go.Proofs.YtdogendcjmgnnaaDoorW.PrintLast Go.Proofs.YtdogendcjmgnnaaDoorW.PrintMore
attribute [local go_sem] max2_int min2_int max_two min_two max_three min_three max_four min_four   -- for this text's walks alone
set_option linter.unusedVariables false
set_option linter.unusedSimpArgs false

/-! ### laws_eqToken: function 70 -/
def laws_eqToken.f (a0_0:Int) (a0_1:Int) (a1_0:Int) (a1_1:Int):Option (Bool):=if a0_0=a1_0 then (if a0_1=a1_1 then (some true) else (none)) else (none)
set_option maxHeartbeats 8000000 in
set_option maxRecDepth 100000 in
theorem laws_eqToken.calls (a0_0:Int) (a0_1:Int) (a1_0:Int) (a1_1:Int) (r:Bool) (w:World) (h:laws_eqToken.f a0_0 a0_1 a1_0 a1_1=some r) :
  Calls Tryd.prog 70 #[.agg #[.int .i64 a0_0,.int .i64 a0_1],.agg #[.int .i64 a1_0,.int .i64 a1_1]] w fun e w'=>e = .returned (.bool r)∧Below w.heap.size w w':=by
 have hu57:=Tryd.underlying57
 have HB:=Aside0.mk (Below.refl w.heap.size w)
 have H:(if a0_0=a1_0 then (if a0_1=a1_1 then (some true) else (none)) else (none))=some r:=h
 clear h
 by_cases c3:a0_0=a1_0
 ·rw [if_pos c3] at H
  have c3b0:(a0_0 == a1_0)=true:=beq_iff_eq.mpr c3
  have c3b1:(a0_0 != a1_0)=false:=bne_eq_false_iff_eq.mpr c3
  clear c3
  by_cases c4:a0_1=a1_1
  ·rw [if_pos c4] at H
   have c4b0:(a0_1 == a1_1)=true:=beq_iff_eq.mpr c4
   have c4b1:(a0_1 != a1_1)=false:=bne_eq_false_iff_eq.mpr c4
   clear c4
   obtain rfl:=Option.some.inj H
   go_enter Tryd.func70,Tryd.ntmps70
   go_wp2_with (first | ((with_reducible refine gd_ 2 ?_);refine be_ 2 #[.int .i64 a0_0,.int .i64 a0_1] 57 ?_;intro gb278 hg w5 hbox hb;refine as4_ (below_step (z3_ HB.out) hb) (hbox) ((z8_ HB.out:w.heap.size≤gb278)) ((z8_ HB.out:w.heap.size≤gb278)) ?_;clear HB;intro HB BK278 GW278 GE278;clear hb hbox hg) | ((with_reducible refine gd_ 3 ?_);refine be_ 3 #[.int .i64 a1_0,.int .i64 a1_1] 57 ?_;intro gb279 hg w6 hbox hb;refine as7_ (blkB_ BK278.out hb) (below_step (z5_ HB.out GE278.out) hb) (hbox) ((z12_ HB.out GE278.out:w.heap.size≤gb279)) ((z12_ HB.out GE278.out:w.heap.size≤gb279)) (neL_ BK278.out hg) (neG_ BK278.out hg) ?_;clear BK278 HB;intro BK278 HB BK279 GW279 GE279 NB278_279 NB279_278;clear hb hbox hg;have hnb7:=NB278_279.out;have hnc7:=NB279_278.out;have ⟨hcz8_0,hcz8_1,hfz8_0,hfz8_1⟩:=cz2_ BK278.out;have ⟨hcz9_0,hcz9_1,hfz9_0,hfz9_1⟩:=cz2_ BK279.out))
   go_ret
   exact ⟨z10_,z7_ HB.out GE278.out GE279.out⟩
  ·rw [if_neg c4] at H
   exact absurd H (by simp)
 ·rw [if_neg c3] at H
  exact absurd H (by simp)


/-! ### laws_eqTokenS: function 43 -/
def laws_eqTokenS.l0:Nat→List (S57)→List (S57)→Int→Option (Bool)
 | 0,_,_,_=>none
 | k+1,x0,x1,x5=>if x5<(x0.length:Int) then (if 0≤x5 then (if x5<(x1.length:Int) then ((laws_eqToken.f ((rd_T57 x0 x5).f0) ((rd_T57 x0 x5).f1) ((rd_T57 x1 x5).f0) ((rd_T57 x1 x5).f1)).bind fun t282=>(if t282=true then (laws_eqTokenS.l0 k x0 x1 (wrap64 (x5+1))) else (none))) else (none)) else (none)) else (some true)
def laws_eqTokenS.f (k:Nat) (l0:List (S57)) (l1:List (S57)):Option (Bool):=if (l0.length:Int)=(l1.length:Int) then (laws_eqTokenS.l0 k l0 l1 0) else (none)
theorem laws_eqTokenS.mono_l:∀ k,(∀ y0 y1 y2,LeO (laws_eqTokenS.l0 k y0 y1 y2) (laws_eqTokenS.l0 (k+1) y0 y1 y2))
 | 0=>fun _ _ _ r h=>by simp [laws_eqTokenS.l0] at h
 | k+1=>by
  have ih0:=laws_eqTokenS.mono_l k
  ·intro y0 y1 y2
   unfold laws_eqTokenS.l0
   repeat' first
   | (with_reducible exact ih0 _ _ _)
   | (with_reducible exact LeO.refl _)
   | (with_reducible exact LeO.none _)
   | (with_reducible refine LeO.ite ?_ ?_)
   | (with_reducible refine LeO.bind ?_ (fun _=>?_))
   | exact ih0 _ _ _
   | exact LeO.none _
   | refine LeO.ite ?_ ?_
   | refine LeO.bind ?_ (fun _=>?_)
theorem laws_eqTokenS.mono:∀ a0 a1 k,LeO (laws_eqTokenS.f k a0 a1) (laws_eqTokenS.f (k+1) a0 a1):=by
 intro a0 a1 k
 have ih0:=laws_eqTokenS.mono_l k
 unfold laws_eqTokenS.f
 repeat' first
   | (with_reducible exact ih0 _ _ _)
   | (with_reducible exact LeO.refl _)
   | (with_reducible exact LeO.none _)
   | (with_reducible refine LeO.ite ?_ ?_)
   | (with_reducible refine LeO.bind ?_ (fun _=>?_))
   | exact ih0 _ _ _
   | exact LeO.none _
   | refine LeO.ite ?_ ?_
   | refine LeO.bind ?_ (fun _=>?_)
def laws_eqTokenS.T6:Bool × List (List Nat × List Nat):=(true,[([],[]),([],[]),([0,1],[0,1]),([2],[2]),([],[]),([],[]),([4,5],[4,5]),([6],[6]),([3,7],[3,7]),([8],[8])])
def laws_eqTokenS.B6:List Nat:=[0,0,3,7,0,0,48,112,255,511]
theorem laws_eqTokenS.tab6:rtab .any (opsOf Tryd.f43 6)=laws_eqTokenS.T6:=by kernel_rfl
theorem laws_eqTokenS.bits6:waitsOk laws_eqTokenS.T6.2 laws_eqTokenS.B6=true:=by kernel_rfl
set_option maxHeartbeats 8000000 in
set_option maxRecDepth 100000 in
theorem laws_eqTokenS.calls (k:Nat) (A0:Option Addr) (c0:Nat) (l0:List (S57)) (A1:Option Addr) (c1:Nat) (l1:List (S57)) (r:Bool) (w:World) (hr0:Kd.C k57 w A0 l0.length l0) (hc0:l0.length≤c0) (hr1:Kd.C k57 w A1 l1.length l1) (hc1:l1.length≤c1) (h:laws_eqTokenS.f k l0 l1=some r) :
  Calls Tryd.prog 43 #[.slice A0 l0.length c0,.slice A1 l1.length c1] w fun e w'=>e = .returned (.bool r)∧Below w.heap.size w w':=by
 have hu57:=Tryd.underlying57
 have HR0:=Aside0.mk hr0
 have HC0:=Aside0.mk hc0
 clear hr0 hc0
 have HR1:=Aside0.mk hr1
 have HC1:=Aside0.mk hc1
 clear hr1 hc1
 have HB:=Aside0.mk (Below.refl w.heap.size w)
 have H:(if (l0.length:Int)=(l1.length:Int) then (laws_eqTokenS.l0 k l0 l1 0) else (none))=some r:=h
 clear h
 by_cases c3:(l0.length:Int)=(l1.length:Int)
 ·rw [if_pos c3] at H
  have c3b0:((l0.length:Int) == (l1.length:Int))=true:=beq_iff_eq.mpr c3
  have c3b1:((l0.length:Int) != (l1.length:Int))=false:=bne_eq_false_iff_eq.mpr c3
  have c3b2:(l0.length == l1.length)=true:=by first | simpa using c3 | (simp at c3 ⊢;omega)
  clear c3
  have H':=Aside0.mk H
  clear H
  go_enter Tryd.func43,Tryd.ntmps43
  go_wp2
  go_loopg [5] k (fun kq v5 w'=>∃ (x5_1:Int),v5 = .int .i64 x5_1∧Aside0 (laws_eqTokenS.l0 kq l0 l1 x5_1=some r)∧Aside0 (kq≤k)∧Aside0 (Below w.heap.size w w'))
  case atStart=>exact ⟨(0),(z1_),H',⟨Nat.le_refl _⟩,⟨z3_ HB.out⟩⟩
  case round =>
   clear H'
   try clear c1
   try clear p2
   try clear c3
   try clear c3b0
   try clear c3b1
   try clear c3b2
   obtain ⟨x5_1,rfl,HA,HK1,HB⟩:=hrel
   cases gk with
   | zero=>exact absurd HA.out (by simp [laws_eqTokenS.l0])
   | succ k1 =>
    have H:=HA.out
    clear HA
    simp only [laws_eqTokenS.l0] at H
    by_cases c4:x5_1<(l0.length:Int)
    ·rw [if_pos c4] at H
     have c4b0:decide (x5_1<(l0.length:Int))=true:=decide_eq_true c4
     clear c4
     by_cases c5:0≤x5_1
     ·rw [if_pos c5] at H
      have c5b0:decide (0≤x5_1)=true:=decide_eq_true c5
      clear c5
      by_cases c6:x5_1<(l1.length:Int)
      ·rw [if_pos c6] at H
       have c6b0:decide (x5_1<(l1.length:Int))=true:=decide_eq_true c6
       clear c6
       replace H:=Option.bind_eq_some_iff.mp H
       obtain ⟨t282,A70,H⟩:=H
       replace H:(if t282=true then (laws_eqTokenS.l0 k1 l0 l1 (wrap64 (x5_1+1))) else (none))=some r:=H
       have A7:=Aside0.mk A70
       clear A70
       by_cases c8:t282=true
       ·subst c8
        have H1:(laws_eqTokenS.l0 k1 l0 l1 (wrap64 (x5_1+1)))=some r:=by rw [if_pos rfl] at H;exact H
        clear H
        have H:=H1
        clear H1
        have H':=Aside0.mk H
        clear H
        try go_wp2
        have n0_:=Aside0.mk (below_drew1 HB.out)
        clear HB
        have HB:=n0_
        clear n0_
        have p280:0≤(x5_1:Int):=of_decide_eq_true (z0_)
        have q280:x5_1<(l0.length:Int):=of_decide_eq_true (z0_)
        obtain ⟨ad280,e280,hx280_0,hx280_1⟩:=at_T57 HR0.out x5_1 p280 q280
        have hw280_1:=hx280_1
        have hw280_0:=hx280_0
        cases e280
        replace hx280_0:=(HB.out.cell (World.block_lt_of_cell? w _ hx280_0)).trans hx280_0
        replace hx280_1:=(HB.out.cell (World.block_lt_of_cell? w _ hx280_1)).trans hx280_1
        replace p280:=eq_true p280
        replace q280:=eq_true q280
        have p281:0≤(x5_1:Int):=of_decide_eq_true (z0_)
        have q281:x5_1<(l1.length:Int):=of_decide_eq_true (z0_)
        obtain ⟨ad281,e281,hx281_0,hx281_1⟩:=at_T57 HR1.out x5_1 p281 q281
        have hw281_1:=hx281_1
        have hw281_0:=hx281_0
        cases e281
        replace hx281_0:=(HB.out.cell (World.block_lt_of_cell? w _ hx281_0)).trans hx281_0
        replace hx281_1:=(HB.out.cell (World.block_lt_of_cell? w _ hx281_1)).trans hx281_1
        replace p281:=eq_true p281
        replace q281:=eq_true q281
        refine start_ (n:=10) (S:=fun w'=>w'.cell? (ad280.add ((x5_1).toNat*2))=some (.int .i64 ((rd_T57 l0 x5_1).f0))∧w'.cell? ⟨(ad280.add ((x5_1).toNat*2)).block,(ad280.add ((x5_1).toNat*2)).off+1,none⟩=some (.int .i64 ((rd_T57 l0 x5_1).f1))∧w'.cell? (ad281.add ((x5_1).toNat*2))=some (.int .i64 ((rd_T57 l1 x5_1).f0))∧w'.cell? ⟨(ad281.add ((x5_1).toNat*2)).block,(ad281.add ((x5_1).toNat*2)).off+1,none⟩=some (.int .i64 ((rd_T57 l1 x5_1).f1))) (ds:=[]) #[O,O,O,O,O,O,O,O,O,O] (by kernel_rfl) rfl rfl ⟨((HB.out.cell (World.block_lt_of_cell? w _ hw280_0)).trans hw280_0),((HB.out.cell (World.block_lt_of_cell? w _ hw280_1)).trans hw280_1),((HB.out.cell (World.block_lt_of_cell? w _ hw281_0)).trans hw281_0),((HB.out.cell (World.block_lt_of_cell? w _ hw281_1)).trans hw281_1)⟩ (fun hHeld=>?_);refine with_tabW laws_eqTokenS.tab6 laws_eqTokenS.bits6 (fun HT_ HW_=>?_)
        generalize wr.drew=w9 at HB hx280_0 hx280_1 hx281_0 hx281_1 hHeld ⊢
        refine pu_ 0 17 #[I,O,O,O,O,O,O,O,O,O] HT_.out ?_
        refine pu_ 1 18 #[I,I,O,O,O,O,O,O,O,O] HT_.out ?_
        refine pu_ 2 19 #[I,I,I,O,O,O,O,O,O,O] HT_.out ?_
        refine pu_ 4 21 #[I,I,I,O,I,O,O,O,O,O] HT_.out ?_
        refine pu_ 5 22 #[I,I,I,O,I,I,O,O,O,O] HT_.out ?_
        refine pu_ 6 23 #[I,I,I,O,I,I,I,O,O,O] HT_.out ?_
        refine tk4_ 3 20 #[I,I,I,I,I,I,I,O,O,O] HT_.out HW_.out hHeld ?_
        refine tk4_ 7 24 #[I,I,I,I,I,I,I,I,O,O] HT_.out HW_.out hHeld ?_
        refine o1_ 8 25 #[I,I,I,I,I,I,I,I,I,O] HT_.out (fun K hK=>?_)
        refine gs_ Tryd.func70 #[.agg #[.int .i64 ((rd_T57 l0 x5_1).f0),.int .i64 ((rd_T57 l0 x5_1).f1)],.agg #[.int .i64 ((rd_T57 l1 x5_1).f0),.int .i64 ((rd_T57 l1 x5_1).f1)]] ?_
        with_reducible refine (laws_eqToken.calls ((rd_T57 l0 x5_1).f0) ((rd_T57 l0 x5_1).f1) ((rd_T57 l1 x5_1).f0) ((rd_T57 l1 x5_1).f1) true _ A7.out).mono ?_
        rintro e w10 ⟨rfl,hb⟩
        refine ⟨_,rfl,?_⟩
        have n0_:=Aside0.mk (below_step (z3_ HB.out) hb)
        clear HB
        have HB:=n0_
        clear n0_
        (try clear hb)
        refine hK.out _ _ ⟨((HB.out.cell (World.block_lt_of_cell? w _ hw280_0)).trans hw280_0),((HB.out.cell (World.block_lt_of_cell? w _ hw280_1)).trans hw280_1),((HB.out.cell (World.block_lt_of_cell? w _ hw281_0)).trans hw281_0),((HB.out.cell (World.block_lt_of_cell? w _ hw281_1)).trans hw281_1)⟩ (fun hHeld=>?_)
        clear hK K
        refine nm_ 25 ?_
        refine pu_ 9 26 #[I,I,I,I,I,I,I,I,I,I] HT_.out ?_
        refine done_ (done_of HT_.out (by kernel_rfl)) ?_
        try go_wp2
        go_roundg k1
        case measure=>have:=HK1.out;omega
        case rel=>exact ⟨(wrap64 (x5_1+1)),(z1_),H',⟨by have:=HK1.out;omega⟩,⟨z3_ HB.out⟩⟩
       ·replace c8:=Bool.eq_false_iff.mpr c8
        subst c8
        have H1:(none)=some r:=by rw [if_neg (show ¬ (false=true) by decide)] at H;exact H
        clear H
        have H:=H1
        clear H1
        exact absurd H (by simp)
      ·rw [if_neg c6] at H
       exact absurd H (by simp)
     ·rw [if_neg c5] at H
      exact absurd H (by simp)
    ·rw [if_neg c4] at H
     have c4b0:decide (x5_1<(l0.length:Int))=false:=decide_eq_false c4
     clear c4
     obtain rfl:=Option.some.inj H
     go_wp2
     go_ret
     exact ⟨z10_,z3_ HB.out⟩
 ·rw [if_neg c3] at H
  exact absurd H (by simp)


/-! ### laws_eqRing: function 14 -/
def laws_eqRing.f (k:Nat) (a0_0:Int) (l0_1:List (S57)) (a1_0:Int) (l1_1:List (S57)):Option (Bool):=if a0_0=a1_0 then ((laws_eqTokenS.f k l0_1 l1_1).bind fun t285=>(if t285=true then (some true) else (none))) else (none)
theorem laws_eqRing.mono:∀ a0 a1 a2 a3 k,LeO (laws_eqRing.f k a0 a1 a2 a3) (laws_eqRing.f (k+1) a0 a1 a2 a3):=by
 intro a0 a1 a2 a3 k
 unfold laws_eqRing.f
 repeat' first
   | (with_reducible exact laws_eqTokenS.mono _ _ _)
   | (with_reducible exact LeO.refl _)
   | (with_reducible exact LeO.none _)
   | (with_reducible refine LeO.ite ?_ ?_)
   | (with_reducible refine LeO.bind ?_ (fun _=>?_))
   | exact laws_eqTokenS.mono _ _ _
   | exact LeO.none _
   | refine LeO.ite ?_ ?_
   | refine LeO.bind ?_ (fun _=>?_)
set_option maxHeartbeats 8000000 in
set_option maxRecDepth 100000 in
theorem laws_eqRing.calls (k:Nat) (a0_0:Int) (A0_1:Option Addr) (c0_1:Nat) (l0_1:List (S57)) (a1_0:Int) (A1_1:Option Addr) (c1_1:Nat) (l1_1:List (S57)) (r:Bool) (w:World) (hr0_1:Kd.C k57 w A0_1 l0_1.length l0_1) (hc0_1:l0_1.length≤c0_1) (hr1_1:Kd.C k57 w A1_1 l1_1.length l1_1) (hc1_1:l1_1.length≤c1_1) (h:laws_eqRing.f k a0_0 l0_1 a1_0 l1_1=some r) :
  Calls Tryd.prog 14 #[.agg #[.int .i64 a0_0,.slice A0_1 l0_1.length c0_1],.agg #[.int .i64 a1_0,.slice A1_1 l1_1.length c1_1]] w fun e w'=>e = .returned (.bool r)∧Below w.heap.size w w':=by
 have hu29:=Tryd.underlying29
 have HR0_1:=Aside0.mk hr0_1
 have HC0_1:=Aside0.mk hc0_1
 clear hr0_1 hc0_1
 have HR1_1:=Aside0.mk hr1_1
 have HC1_1:=Aside0.mk hc1_1
 clear hr1_1 hc1_1
 have HB:=Aside0.mk (Below.refl w.heap.size w)
 have H:(if a0_0=a1_0 then ((laws_eqTokenS.f k l0_1 l1_1).bind fun t285=>(if t285=true then (some true) else (none))) else (none))=some r:=h
 clear h
 by_cases c3:a0_0=a1_0
 ·rw [if_pos c3] at H
  have c3b0:(a0_0 == a1_0)=true:=beq_iff_eq.mpr c3
  have c3b1:(a0_0 != a1_0)=false:=bne_eq_false_iff_eq.mpr c3
  clear c3
  replace H:=Option.bind_eq_some_iff.mp H
  obtain ⟨t285,A40,H⟩:=H
  replace H:(if t285=true then (some true) else (none))=some r:=H
  have A4:=Aside0.mk A40
  clear A40
  by_cases c5:t285=true
  ·subst c5
   have H1:(some true)=some r:=by rw [if_pos rfl] at H;exact H
   clear H
   have H:=H1
   clear H1
   obtain rfl:=Option.some.inj H
   go_enter Tryd.func14,Tryd.ntmps14
   go_wp2_with (first | ((with_reducible refine gd_ 2 ?_);refine be_ 2 #[.int .i64 a0_0,.slice A0_1 l0_1.length c0_1] 29 ?_;intro gb283 hg w6 hbox hb;refine as4_ (below_step (z3_ HB.out) hb) (hbox) ((z8_ HB.out:w.heap.size≤gb283)) ((z8_ HB.out:w.heap.size≤gb283)) ?_;clear HB;intro HB BK283 GW283 GE283;clear hb hbox hg) | ((with_reducible refine gd_ 3 ?_);refine be_ 3 #[.int .i64 a1_0,.slice A1_1 l1_1.length c1_1] 29 ?_;intro gb284 hg w7 hbox hb;refine as7_ (blkB_ BK283.out hb) (below_step (z5_ HB.out GE283.out) hb) (hbox) ((z12_ HB.out GE283.out:w.heap.size≤gb284)) ((z12_ HB.out GE283.out:w.heap.size≤gb284)) (neL_ BK283.out hg) (neG_ BK283.out hg) ?_;clear BK283 HB;intro BK283 HB BK284 GW284 GE284 NB283_284 NB284_283;clear hb hbox hg;have hnb8:=NB283_284.out;have hnc8:=NB284_283.out;have ⟨hcz9_0,hcz9_1,hfz9_0,hfz9_1⟩:=cz2_ BK283.out;have ⟨hcz10_0,hcz10_1,hfz10_0,hfz10_1⟩:=cz2_ BK284.out) | ((with_reducible refine gc_ 43 ?_);refine gl_ (some 14) Tryd.func43 #[.slice A0_1 l0_1.length c0_1,.slice A1_1 l1_1.length c1_1] ?_;(with_reducible refine (laws_eqTokenS.calls k _ _ l0_1 _ _ l1_1 true _ ?s1 ?s2 ?s3 ?s4 A4.out).mono ?_);(case s1=>repeat (first | exact (Kd.C_below HR0_1.out HB.out) | (with_reducible refine Kd.C_alloc ?_ _) | (with_reducible refine Kd.C_drewN ?_ _) | (with_reducible refine Kd.C_drew ?_)));(case s2=>exact HC0_1.out);(case s3=>repeat (first | exact (Kd.C_below HR1_1.out HB.out) | (with_reducible refine Kd.C_alloc ?_ _) | (with_reducible refine Kd.C_drewN ?_ _) | (with_reducible refine Kd.C_drew ?_)));(case s4=>exact HC1_1.out);rintro e w11 ⟨rfl,hb⟩;refine ⟨_,rfl,?_⟩;refine as3_ (blkB_ BK283.out hb) (blkB_ BK284.out hb) (below_step (z7_ HB.out GE283.out GE284.out) hb) ?_;clear BK283 BK284 HB;intro BK283 BK284 HB;(try clear hb)))
   go_ret
   exact ⟨z10_,z7_ HB.out GE283.out GE284.out⟩
  ·replace c5:=Bool.eq_false_iff.mpr c5
   subst c5
   have H1:(none)=some r:=by rw [if_neg (show ¬ (false=true) by decide)] at H;exact H
   clear H
   have H:=H1
   clear H1
   exact absurd H (by simp)
 ·rw [if_neg c3] at H
  exact absurd H (by simp)


/-! ### laws_markTokenS: function 46 -/
def laws_markTokenS.l0:Nat→List (S57)→Int→Int→Option (Int × (List (S57)))
 | 0,_,_,_=>none
 | k+1,x0,x1,x5=>if x5<(x0.length:Int) then (if 0≤x5 then ((some (x0.set (x5:Int).toNat (⟨x1,(rd_T57 x0 x5).f1⟩:S57):List (S57))).bind fun y321=>(laws_markTokenS.l0 k (y321.set (x5:Int).toNat (⟨(rd_T57 y321 x5).f0,wrap64 (x1+1)⟩:S57)) (wrap64 ((wrap64 (x1+1))+1)) (wrap64 (x5+1)))) else (none)) else (some (x1,x0))
def laws_markTokenS.f (k:Nat) (l0:List (S57)) (a1:Int):Option (Int × (List (S57))):=laws_markTokenS.l0 k l0 a1 0
theorem laws_markTokenS.mono_l:∀ k,(∀ y0 y1 y2,LeO (laws_markTokenS.l0 k y0 y1 y2) (laws_markTokenS.l0 (k+1) y0 y1 y2))
 | 0=>fun _ _ _ r h=>by simp [laws_markTokenS.l0] at h
 | k+1=>by
  have ih0:=laws_markTokenS.mono_l k
  ·intro y0 y1 y2
   unfold laws_markTokenS.l0
   repeat' first
   | (with_reducible exact ih0 _ _ _)
   | (with_reducible exact LeO.refl _)
   | (with_reducible exact LeO.none _)
   | (with_reducible refine LeO.ite ?_ ?_)
   | (with_reducible refine LeO.bind ?_ (fun _=>?_))
   | exact ih0 _ _ _
   | exact LeO.none _
   | refine LeO.ite ?_ ?_
   | refine LeO.bind ?_ (fun _=>?_)
theorem laws_markTokenS.mono:∀ a0 a1 k,LeO (laws_markTokenS.f k a0 a1) (laws_markTokenS.f (k+1) a0 a1):=by
 intro a0 a1 k
 have ih0:=laws_markTokenS.mono_l k
 unfold laws_markTokenS.f
 repeat' first
   | (with_reducible exact ih0 _ _ _)
   | (with_reducible exact LeO.refl _)
   | (with_reducible exact LeO.none _)
   | (with_reducible refine LeO.ite ?_ ?_)
   | (with_reducible refine LeO.bind ?_ (fun _=>?_))
   | exact ih0 _ _ _
   | exact LeO.none _
   | refine LeO.ite ?_ ?_
   | refine LeO.bind ?_ (fun _=>?_)
set_option maxHeartbeats 8000000 in
set_option maxRecDepth 100000 in
theorem laws_markTokenS.calls (k:Nat) (P0_:Nat→Prop) (u9000_:Value) (l0:List (S57)) (a1:Int) (r1:Int) (r2:List (S57)) (w0 w:World) (hB:Below w0.heap.size w0 w) (ho0:Kd.R k57 57 w w0.heap.size P0_ u9000_ l0) (h:laws_markTokenS.f k l0 a1=some (r1,r2)) :
  Calls Tryd.prog 46 #[u9000_,.int .i64 a1] w fun e w'=>e = .returned (.int .i64 r1)∧Kd.R k57 57 w' w0.heap.size (fun k_=>(P0_ k_∨w.heap.size≤k_)) u9000_ r2∧Below w0.heap.size w0 w'∧Kept w w' (fun k_=>P0_ k_):=by
 have HO0:=Aside0.mk (show Kd.R k57 57 w w0.heap.size (fun k_=>(P0_ k_∨w.heap.size≤k_)) u9000_ l0 from Kd.R_mono ho0 (fun k_ hk=>(.inl hk)))
 have HK:=Aside0.mk (Kept.refl w (fun k_=>P0_ k_))
 have HW0:=Aside0.mk hB.size
 have HB:=Aside0.mk hB
 clear hB
 have H:(laws_markTokenS.l0 k l0 a1 0)=some (r1,r2):=h
 clear h
 have H':=Aside0.mk H
 clear H
 go_enter Tryd.func46,Tryd.ntmps46
 go_wp2
 go_loopg [1,5] k (fun kq v1 v5 w'=>∃ (x0_1:List (S57)) (x1_1:Int) (x5_1:Int),v1 = .int .i64 x1_1∧v5 = .int .i64 x5_1∧Aside0 (laws_markTokenS.l0 kq x0_1 x1_1 x5_1=some (r1,r2))∧Aside0 (kq≤k)∧Aside0 (Kd.R k57 57 w' w0.heap.size (fun k_=>(P0_ k_∨w.heap.size≤k_)) u9000_ x0_1)∧Aside0 (Kept w w' (fun k_=>P0_ k_))∧Aside0 (Below w0.heap.size w0 w'))
 case atStart=>exact ⟨(l0),(a1),(0),(z1_),(z1_),H',⟨Nat.le_refl _⟩,⟨z2_ HO0.out⟩,⟨z9_ HK.out⟩,⟨z3_ HB.out⟩⟩
 case round =>
  clear H'
  try clear p2
  obtain ⟨x0_1,x1_1,x5_1,rfl,rfl,HA,HK1,HO_0,HK,HB⟩:=hrel
  cases gk with
  | zero=>exact absurd HA.out (by simp [laws_markTokenS.l0])
  | succ k1 =>
   have H:=HA.out
   clear HA
   simp only [laws_markTokenS.l0] at H
   by_cases c3:x5_1<(x0_1.length:Int)
   ·rw [if_pos c3] at H
    have c3b0:decide (x5_1<(x0_1.length:Int))=true:=decide_eq_true c3
    clear c3
    by_cases c4:0≤x5_1
    ·rw [if_pos c4] at H
     have c4b0:decide (0≤x5_1)=true:=decide_eq_true c4
     clear c4
     obtain ⟨y321,hy321⟩:∃ y_:List (S57),y_=(x0_1.set (x5_1:Int).toNat (⟨x1_1,(rd_T57 x0_1 x5_1).f1⟩:S57)):=⟨_,rfl⟩
     replace H:(laws_markTokenS.l0 k1 (y321.set (x5_1:Int).toNat (⟨(rd_T57 y321 x5_1).f0,wrap64 (x1_1+1)⟩:S57)) (wrap64 ((wrap64 (x1_1+1))+1)) (wrap64 (x5_1+1)))=some (r1,r2):=by first | (rw [hy321];with_reducible exact H) | (have H2_:=(Option.bind_some _ _).symm.trans H;rw [hy321];with_reducible exact H2_) | (have H2_:=(Option.bind_some _ _).symm.trans H;with_reducible exact H2_) | with_reducible exact H | (rw [hy321];exact H) | exact H
     have Ny321:=Aside0.mk hy321
     clear hy321
     obtain ⟨y322,hy322⟩:∃ y_:List (S57),y_=(y321.set (x5_1:Int).toNat (⟨(rd_T57 y321 x5_1).f0,wrap64 (x1_1+1)⟩:S57)):=⟨_,rfl⟩
     replace H:(laws_markTokenS.l0 k1 y322 (wrap64 ((wrap64 (x1_1+1))+1)) (wrap64 (x5_1+1)))=some (r1,r2):=by first | (rw [hy322];with_reducible exact H) | (have H2_:=(Option.bind_some _ _).symm.trans H;rw [hy322];with_reducible exact H2_) | (have H2_:=(Option.bind_some _ _).symm.trans H;with_reducible exact H2_) | with_reducible exact H | (rw [hy322];exact H) | exact H
     have Ny322:=Aside0.mk hy322
     clear hy322
     have H':=Aside0.mk H
     clear H
     obtain ⟨Ao7,co7,eo7⟩:=Kd.R_slice HO_0.out
     subst eo7
     have p5:0≤(x5_1:Int):=of_decide_eq_true (z0_)
     have q5:(x5_1:Int)<((x0_1.length:Int):Int):=of_decide_eq_true (z0_)
     obtain ⟨go5,co5,eo5,gb5,gl5,cl5,HG5⟩:=Kd.R_form HO_0.out (by omega)
     (first | cases eo5 | (injection eo5 with ea_ en_ ec_;(first | subst ea_ | (injection ea_ with ea_;subst ea_));subst ec_;clear en_))
     have GB5:=Aside0.mk gb5
     have GG5:=Aside0.mk HG5
     clear gb5 gl5 HG5
     have HMgo5:=Aside0.mk (show (P0_ go5∨w.heap.size≤go5) from (HO_0.out.1 _ rfl))
     obtain ⟨ce5,hcl5,hM5,hcc5,hfr5⟩:=Kd.R_elem HO_0.out z57 (x5_1:Int) p5 q5
     obtain rfl:=k57_openM hM5
     have hx5_0:wr.cell? ⟨go5,(x5_1:Int).toNat*2,none⟩=some (.int .i64 ((rd_T57 x0_1 x5_1).f0)):=hcc5 0 _ rfl
     have hx5_1:wr.cell? ⟨go5,(x5_1:Int).toNat*2+1,none⟩=some (.int .i64 ((rd_T57 x0_1 x5_1).f1)):=hcc5 1 _ rfl
     have hf5_0:wr.frozen? ⟨go5,(x5_1:Int).toNat*2,none⟩=false:=hfr5 0
     have hf5_1:wr.frozen? ⟨go5,(x5_1:Int).toNat*2+1,none⟩=false:=hfr5 1
     clear hcl5 hcc5 hfr5 hM5
     replace p5:=eq_true p5
     replace q5:=eq_true q5
     have HX8:=Aside0.mk (show Kd.R k57 57 wr w0.heap.size (fun k_=>(P0_ k_∨w.heap.size≤k_)) (.slice (some ⟨go5,0,none⟩) x0_1.length co7) x0_1 from (z2_ HO_0.out))
     obtain ⟨ce8,hcl8,hM8,hcc8,hfr8⟩:=Kd.R_elem HX8.out z57 (x5_1:Int) (of_decide_eq_true (z0_)) (z30_ HO_0.out)
     obtain rfl:=k57_openM hM8
     have HP8:=Kd.R_seg HX8.out (x5_1:Int) (of_decide_eq_true (z0_)) (z30_ HO_0.out) (seg:=[.int .i64 x1_1]) (j:=0) hcl8 hcc8 (show 1≤2 from by decide) (x':=(⟨x1_1,(rd_T57 x0_1 x5_1).f1⟩:S57)) (k57_mkM _ _ _ (⟨x1_1,(rd_T57 x0_1 x5_1).f1⟩:S57) ) (fun _ hk=>hk)
     have hx8_0:=hcc8 0 _ rfl
     (try simp only [show (k57).sz=2 from rfl,Nat.mul_one,Nat.add_zero] at hx8_0)
     have hf8_0:=hfr8 0
     (try simp only [show (k57).sz=2 from rfl,Nat.mul_one,Nat.add_zero] at hf8_0)
     clear hcl8 hcc8 hfr8 hM8
     go_wp2_with (first | ((with_reducible refine gate_store (t:=2) (p:=16) rfl ?_);refine store_event (t:=2) (p:=16) (v:=?vo_w9) (w1:=(wr.setCell ⟨go5,(x5_1:Int).toNat*2,none⟩ (.int .i64 x1_1))) ?hg ?ho ?hn ?hr ?_;(case ho=>rfl);(case hg=>rfl);(case hn=>rfl);(case hr=>first | (go_simp;done) | (go_simp;rfl));intro w9 hw;have hg:wr.grownBy w9 (some go5):=(by rw [hw];exact HP8.2);have hp_:Kd.R k57 57 w9 w0.heap.size (fun k_=>(P0_ k_∨w.heap.size≤k_)) (.slice (some ⟨go5,0,none⟩) x0_1.length co7) y321:=(by rw [hw,Ny321.out];exact HP8.1);clear HP8;refine as3_ (hp_) ((by rw [hw];exact below_set (HB.out) GB5.out:Below w0.heap.size w0 w9)) (Kept.of_grown (S:=(fun k_=>P0_ k_)) hg (z9_ HK.out) (fun k_ e_=>(HO_0.out.1 k_ e_))) ?_;clear HO_0 HB HK;intro HO_0 HB HK;clear hg hw hp_;have p6:0≤(x5_1:Int):=of_decide_eq_true (z0_);have q6:(x5_1:Int)<((x0_1.length:Int):Int):=of_decide_eq_true (z0_);obtain ⟨ce6,hcl6,hM6,hcc6,hfr6⟩:=Kd.R_elem HO_0.out z57 (x5_1:Int) p6 q6;obtain rfl:=k57_openM hM6;have hx6_0:w9.cell? ⟨go5,(x5_1:Int).toNat*2,none⟩=some (.int .i64 ((rd_T57 y321 x5_1).f0)):=hcc6 0 _ rfl;have hx6_1:w9.cell? ⟨go5,(x5_1:Int).toNat*2+1,none⟩=some (.int .i64 ((rd_T57 y321 x5_1).f1)):=hcc6 1 _ rfl;have hf6_0:w9.frozen? ⟨go5,(x5_1:Int).toNat*2,none⟩=false:=hfr6 0;have hf6_1:w9.frozen? ⟨go5,(x5_1:Int).toNat*2+1,none⟩=false:=hfr6 1;clear hcl6 hcc6 hfr6 hM6;replace p6:=eq_true p6;replace q6:=eq_true q6;have HX10:=Aside0.mk (show Kd.R k57 57 w9 w0.heap.size (fun k_=>(P0_ k_∨w.heap.size≤k_)) (.slice (some ⟨go5,0,none⟩) x0_1.length co7) y321 from (z2_ HO_0.out));obtain ⟨ce10,hcl10,hM10,hcc10,hfr10⟩:=Kd.R_elem HX10.out z57 (x5_1:Int) (of_decide_eq_true (z0_)) (z30_ HO_0.out);obtain rfl:=k57_openM hM10;have HP10:=Kd.R_seg HX10.out (x5_1:Int) (of_decide_eq_true (z0_)) (z30_ HO_0.out) (seg:=[.int .i64 (wrap64 (x1_1+1))]) (j:=1) hcl10 hcc10 (show 2≤2 from by decide) (x':=(⟨(rd_T57 y321 x5_1).f0,wrap64 (x1_1+1)⟩:S57)) (k57_mkM _ _ _ (⟨(rd_T57 y321 x5_1).f0,wrap64 (x1_1+1)⟩:S57) ) (fun _ hk=>hk);have hx10_1:=hcc10 1 _ rfl;(try simp only [show (k57).sz=2 from rfl,Nat.mul_one,Nat.add_zero] at hx10_1);have hf10_1:=hfr10 1;(try simp only [show (k57).sz=2 from rfl,Nat.mul_one,Nat.add_zero] at hf10_1);clear hcl10 hcc10 hfr10 hM10) | ((with_reducible refine gate_store (t:=2) (p:=23) rfl ?_);refine store_event (t:=2) (p:=23) (v:=?vo_w11) (w1:=(w9.setCell ⟨go5,(x5_1:Int).toNat*2+1,none⟩ (.int .i64 (wrap64 (x1_1+1))))) ?hg ?ho ?hn ?hr ?_;(case ho=>rfl);(case hg=>rfl);(case hn=>rfl);(case hr=>first | (go_simp;done) | (go_simp;rfl));intro w11 hw;have hg:w9.grownBy w11 (some go5):=(by rw [hw];exact HP10.2);have hp_:Kd.R k57 57 w11 w0.heap.size (fun k_=>(P0_ k_∨w.heap.size≤k_)) (.slice (some ⟨go5,0,none⟩) x0_1.length co7) y322:=(by rw [hw,Ny322.out];exact HP10.1);clear HP10;refine as3_ (hp_) ((by rw [hw];exact below_set (HB.out) GB5.out:Below w0.heap.size w0 w11)) (Kept.of_grown (S:=(fun k_=>P0_ k_)) hg (z9_ HK.out) (fun k_ e_=>(HO_0.out.1 k_ e_))) ?_;clear HO_0 HB HK;intro HO_0 HB HK;clear hg hw hp_))
     go_roundg k1
     case measure=>have:=HK1.out;omega
     case rel=>exact ⟨(y322),(wrap64 ((wrap64 (x1_1+1))+1)),(wrap64 (x5_1+1)),(z1_),(z1_),H',⟨by have:=HK1.out;omega⟩,⟨z2_ HO_0.out⟩,⟨z9_ HK.out⟩,⟨z3_ HB.out⟩⟩
    ·rw [if_neg c4] at H
     exact absurd H (by simp)
   ·rw [if_neg c3] at H
    have c3b0:decide (x5_1<(x0_1.length:Int))=false:=decide_eq_false c3
    clear c3
    simp only [Option.some.injEq,Prod.mk.injEq] at H
    obtain ⟨rfl,rfl⟩:=H
    obtain ⟨Ao12,co12,eo12⟩:=Kd.R_slice HO_0.out
    subst eo12
    go_wp2
    go_ret
    exact ⟨z10_,z2_ HO_0.out,z3_ HB.out,z9_ HK.out⟩


/-! ### laws_markRing: function 22 -/
def laws_markRing.f (k:Nat) (a0_0:Int) (l0_1:List (S57)) (a1:Int):Option (Int × (List (S57))):=(laws_markTokenS.f k l0_1 a1).bind fun bt324=>(some (bt324.1,bt324.2))
theorem laws_markRing.mono:∀ a0 a1 a2 k,LeO (laws_markRing.f k a0 a1 a2) (laws_markRing.f (k+1) a0 a1 a2):=by
 intro a0 a1 a2 k
 unfold laws_markRing.f
 repeat' first
   | (with_reducible exact laws_markTokenS.mono _ _ _)
   | (with_reducible exact LeO.refl _)
   | (with_reducible exact LeO.none _)
   | (with_reducible refine LeO.ite ?_ ?_)
   | (with_reducible refine LeO.bind ?_ (fun _=>?_))
   | exact laws_markTokenS.mono _ _ _
   | exact LeO.none _
   | refine LeO.ite ?_ ?_
   | refine LeO.bind ?_ (fun _=>?_)
set_option maxHeartbeats 8000000 in
set_option maxRecDepth 100000 in
theorem laws_markRing.calls (k:Nat) (a0_0:Int) (P0_1_:Nat→Prop) (u9000_:Value) (l0_1:List (S57)) (a1:Int) (r1:Int) (r2:List (S57)) (w0 w:World) (hB:Below w0.heap.size w0 w) (ho0_1:Kd.R k57 57 w w0.heap.size P0_1_ u9000_ l0_1) (h:laws_markRing.f k a0_0 l0_1 a1=some (r1,r2)) :
  Calls Tryd.prog 22 #[.agg #[.int .i64 a0_0,u9000_],.int .i64 a1] w fun e w'=>e = .returned (.int .i64 r1)∧Kd.R k57 57 w' w0.heap.size (fun k_=>(P0_1_ k_∨w.heap.size≤k_)) u9000_ r2∧Below w0.heap.size w0 w'∧Kept w w' (fun k_=>P0_1_ k_):=by
 have hu29:=Tryd.underlying29
 have HO0_1:=Aside0.mk (show Kd.R k57 57 w w0.heap.size (fun k_=>(P0_1_ k_∨w.heap.size≤k_)) u9000_ l0_1 from Kd.R_mono ho0_1 (fun k_ hk=>(.inl hk)))
 have HK:=Aside0.mk (Kept.refl w (fun k_=>P0_1_ k_))
 have HW0:=Aside0.mk hB.size
 have HB:=Aside0.mk hB
 clear hB
 have H:((laws_markTokenS.f k l0_1 a1).bind fun bt324=>(some (bt324.1,bt324.2)))=some (r1,r2):=h
 clear h
 replace H:=Option.bind_eq_some_iff.mp H
 obtain ⟨⟨t324,t325⟩,A30,H⟩:=H
 replace H:(some (t324,t325))=some (r1,r2):=H
 have A3:=Aside0.mk A30
 clear A30
 simp only [Option.some.injEq,Prod.mk.injEq] at H
 obtain ⟨rfl,rfl⟩:=H
 obtain ⟨Ao4,co4,eo4⟩:=Kd.R_slice HO0_1.out
 subst eo4
 go_enter Tryd.func22,Tryd.ntmps22
 go_wp2_with (first | ((with_reducible refine gd_ 2 ?_);refine be_ 2 #[.int .i64 a0_0,.slice Ao4 l0_1.length co4] 29 ?_;intro gb323 hg w5 hbox hb;refine as6_ (Kd.R_below (z2_ HO0_1.out) hb) (Kept.below (S:=(fun k_=>P0_1_ k_)) (z9_ HK.out) hb) (below_step (z3_ HB.out) hb) (hbox) ((by rw [hg];exact (by first | exact HK.out.1 | exact (show Kept w _ (fun k_=>P0_1_ k_) from by repeat (first | (with_reducible first | exact HK.out | apply Kept.alloc | apply Kept.drewN | apply Kept.drew) | exact HK.out)).1):w.heap.size≤gb323)) ((z8_ HB.out:w0.heap.size≤gb323)) ?_;clear HO0_1 HK HB;intro HO0_1 HK HB BK323 GW323 GE323;clear hb hbox hg;have ⟨hcz6_0,hcz6_1,hfz6_0,hfz6_1⟩:=cz2_ BK323.out) | ((with_reducible refine gc_ 46 ?_);refine gl_ (some 8) Tryd.func46 #[.slice Ao4 l0_1.length co4,.int .i64 a1] ?_;(with_reducible refine (laws_markTokenS.calls k (fun k_=>some k_=(.slice Ao4 l0_1.length co4:Value).ownBlock) (.slice Ao4 l0_1.length co4) l0_1 a1 t324 t325 w0 _ ?s1 ?s2 A3.out).mono ?_);(case s1=>repeat (first | (with_reducible first | exact HB.out | apply below_alloc | apply pw_below_drewN | apply below_drew1 | refine below_set ?_ GE323.out) | exact HB.out));(case s2=>exact Kd.R_tight rfl HO0_1.out);rintro e w7 ⟨rfl,hy0,hb,hkp⟩;refine ⟨_,rfl,?_⟩;refine as4_ (Kd.R_reok rfl hy0 (fun k_ e_=>HO0_1.out.1 k_ e_)) (blk_kept (z4_ BK323.out) hkp (fun hs_=>(fun e_=>(Kd.R_ne HO0_1.out BK323.out (by decide)) e_) hs_)) (Kept.then_ (S:=(fun k_=>P0_1_ k_)) (by repeat (first | (with_reducible first | exact HK.out | apply Kept.alloc | apply Kept.drewN | apply Kept.drew | refine Kept.setCell ?_ (.inr GW323.out) _) | exact HK.out)) hkp (fun k_ hs_=>(fun e_=>(HO0_1.out.1 k_ e_.symm)) hs_)) (hb) ?_;clear HO0_1 BK323 HK HB;intro HO0_1 BK323 HK HB;(try clear hb);(try clear hkp);(try clear hy0)))
 go_ret
 exact ⟨z10_,z2_ HO0_1.out,z5_ HB.out GE323.out,by repeat (first | (with_reducible first | exact HK.out | apply Kept.alloc | apply Kept.drewN | apply Kept.drew | refine Kept.setCell ?_ (.inr GW323.out) _) | exact HK.out)⟩


/-! ### laws_szTokenS: function 35 -/
def laws_szTokenS.f (l0:List (S75)) (a1:Int):Option (Int):=if (wrap64 (a1-(l0.length:Int)))<0 then (some (-1)) else (some (wrap64 (a1-(l0.length:Int))))
set_option maxHeartbeats 8000000 in
set_option maxRecDepth 100000 in
theorem laws_szTokenS.calls (A0:Option Addr) (c0:Nat) (l0:List (S75)) (a1:Int) (r:Int) (w:World) (hr0:Kd.C k75 w A0 l0.length l0) (hc0:l0.length≤c0) (h:laws_szTokenS.f l0 a1=some r) :
  Calls Tryd.prog 35 #[.slice A0 l0.length c0,.int .i64 a1] w fun e w'=>e = .returned (.int .i64 r)∧Drawn0 w w':=by
 have HR0:=Aside0.mk hr0
 have HC0:=Aside0.mk hc0
 clear hr0 hc0
 have H:(if (wrap64 (a1-(l0.length:Int)))<0 then (some (-1)) else (some (wrap64 (a1-(l0.length:Int)))))=some r:=h
 clear h
 by_cases c3:(wrap64 (a1-(l0.length:Int)))<0
 ·rw [if_pos c3] at H
  have c3b0:decide ((wrap64 (a1-(l0.length:Int)))<0)=true:=decide_eq_true c3
  clear c3
  obtain rfl:=Option.some.inj H
  go_enter Tryd.func35,Tryd.ntmps35
  go_wp2
  go_ret
  exact ⟨z1_,z6_⟩
 ·rw [if_neg c3] at H
  have c3b0:decide ((wrap64 (a1-(l0.length:Int)))<0)=false:=decide_eq_false c3
  clear c3
  obtain rfl:=Option.some.inj H
  go_enter Tryd.func35,Tryd.ntmps35
  go_wp2
  go_ret
  exact ⟨z1_,z6_⟩


/-! ### laws_szRing: function 10 -/
def laws_szRing.f (a0_0:Int) (l0_1:List (S75)) (a1:Int):Option (Int):=(laws_szTokenS.f l0_1 a1).bind fun t102=>(if t102<0 then (some (-1)) else (some t102))
set_option maxHeartbeats 8000000 in
set_option maxRecDepth 100000 in
theorem laws_szRing.calls (a0_0:Int) (A0_1:Option Addr) (c0_1:Nat) (l0_1:List (S75)) (a1:Int) (r:Int) (w:World) (hr0_1:Kd.C k75 w A0_1 l0_1.length l0_1) (hc0_1:l0_1.length≤c0_1) (h:laws_szRing.f a0_0 l0_1 a1=some r) :
  Calls Tryd.prog 10 #[.agg #[.int .i64 a0_0,.slice A0_1 l0_1.length c0_1],.int .i64 a1] w fun e w'=>e = .returned (.int .i64 r)∧Below w.heap.size w w':=by
 have hu24:=Tryd.underlying24
 have HR0_1:=Aside0.mk hr0_1
 have HC0_1:=Aside0.mk hc0_1
 clear hr0_1 hc0_1
 have HB:=Aside0.mk (Below.refl w.heap.size w)
 have H:((laws_szTokenS.f l0_1 a1).bind fun t102=>(if t102<0 then (some (-1)) else (some t102)))=some r:=h
 clear h
 replace H:=Option.bind_eq_some_iff.mp H
 obtain ⟨t102,A30,H⟩:=H
 replace H:(if t102<0 then (some (-1)) else (some t102))=some r:=H
 have A3:=Aside0.mk A30
 clear A30
 by_cases c4:t102<0
 ·rw [if_pos c4] at H
  have c4b0:decide (t102<0)=true:=decide_eq_true c4
  clear c4
  obtain rfl:=Option.some.inj H
  go_enter Tryd.func10,Tryd.ntmps10
  go_wp2_with (first | ((with_reducible refine gd_ 2 ?_);refine be_ 2 #[.int .i64 a0_0,.slice A0_1 l0_1.length c0_1] 24 ?_;intro gb101 hg w5 hbox hb;refine as4_ (below_step (z3_ HB.out) hb) (hbox) ((z8_ HB.out:w.heap.size≤gb101)) ((z8_ HB.out:w.heap.size≤gb101)) ?_;clear HB;intro HB BK101 GW101 GE101;clear hb hbox hg;have ⟨hcz6_0,hcz6_1,hfz6_0,hfz6_1⟩:=cz2_ BK101.out) | ((with_reducible refine gc_ 35 ?_);refine gl_ (some 8) Tryd.func35 #[.slice A0_1 l0_1.length c0_1,.int .i64 a1] ?_;(with_reducible refine (laws_szTokenS.calls _ _ l0_1 a1 t102 _ ?s1 ?s2 A3.out).mono ?_);(case s1=>repeat (first | exact (Kd.C_below HR0_1.out HB.out) | (with_reducible refine Kd.C_alloc ?_ _) | (with_reducible refine Kd.C_drewN ?_ _) | (with_reducible refine Kd.C_drew ?_)));(case s2=>exact HC0_1.out);rintro e w' ⟨rfl,⟨nd,rfl⟩⟩;refine ⟨_,rfl,?_⟩))
  go_ret
  exact ⟨z10_,z5_ HB.out GE101.out⟩
 ·rw [if_neg c4] at H
  have c4b0:decide (t102<0)=false:=decide_eq_false c4
  clear c4
  obtain rfl:=Option.some.inj H
  go_enter Tryd.func10,Tryd.ntmps10
  go_wp2_with (first | ((with_reducible refine gd_ 2 ?_);refine be_ 2 #[.int .i64 a0_0,.slice A0_1 l0_1.length c0_1] 24 ?_;intro gb101 hg w7 hbox hb;refine as4_ (below_step (z3_ HB.out) hb) (hbox) ((z8_ HB.out:w.heap.size≤gb101)) ((z8_ HB.out:w.heap.size≤gb101)) ?_;clear HB;intro HB BK101 GW101 GE101;clear hb hbox hg;have ⟨hcz8_0,hcz8_1,hfz8_0,hfz8_1⟩:=cz2_ BK101.out) | ((with_reducible refine gc_ 35 ?_);refine gl_ (some 8) Tryd.func35 #[.slice A0_1 l0_1.length c0_1,.int .i64 a1] ?_;(with_reducible refine (laws_szTokenS.calls _ _ l0_1 a1 t102 _ ?s1 ?s2 A3.out).mono ?_);(case s1=>repeat (first | exact (Kd.C_below HR0_1.out HB.out) | (with_reducible refine Kd.C_alloc ?_ _) | (with_reducible refine Kd.C_drewN ?_ _) | (with_reducible refine Kd.C_drew ?_)));(case s2=>exact HC0_1.out);rintro e w' ⟨rfl,⟨nd,rfl⟩⟩;refine ⟨_,rfl,?_⟩))
  go_ret
  exact ⟨z10_,z5_ HB.out GE101.out⟩


/-! ### laws_toToken: function 63 -/
def laws_toToken.f (a0_0:Int) (a0_1:Int):Option (Int × Int):=some (a0_0,a0_1)
set_option maxHeartbeats 8000000 in
set_option maxRecDepth 100000 in
theorem laws_toToken.calls (a0_0:Int) (a0_1:Int) (r1:Int) (r2:Int) (w:World) (h:laws_toToken.f a0_0 a0_1=some (r1,r2)) :
  Calls Tryd.prog 63 #[.agg #[.int .i64 a0_0,.int .i64 a0_1]] w fun e w'=>e = .returned (.agg #[.int .i64 r1,.int .i64 r2])∧Below w.heap.size w w':=by
 have hu75:=Tryd.underlying75
 have hu57:=Tryd.underlying57
 have HB:=Aside0.mk (Below.refl w.heap.size w)
 have H:(some (a0_0,a0_1))=some (r1,r2):=h
 clear h
 simp only [Option.some.injEq,Prod.mk.injEq] at H
 obtain ⟨rfl,rfl⟩:=H
 go_enter Tryd.func63,Tryd.ntmps63
 go_wp2_with (first | ((with_reducible refine gd_ 1 ?_);refine be_ 1 #[.int .i64 a0_0,.int .i64 a0_1] 75 ?_;intro gb148 hg w2 hbox hb;refine as4_ (below_step (z3_ HB.out) hb) (hbox) ((z8_ HB.out:w.heap.size≤gb148)) ((z8_ HB.out:w.heap.size≤gb148)) ?_;clear HB;intro HB BK148 GW148 GE148;clear hb hbox hg) | ((with_reducible refine gd_ 2 ?_);refine be_ 2 #[.int .i64 0,.int .i64 0] 57 ?_;intro gb149 hg w3 hbox hb;refine as7_ (blkB_ BK148.out hb) (below_step (z5_ HB.out GE148.out) hb) (hbox) ((z12_ HB.out GE148.out:w.heap.size≤gb149)) ((z12_ HB.out GE148.out:w.heap.size≤gb149)) (neL_ BK148.out hg) (neG_ BK148.out hg) ?_;clear BK148 HB;intro BK148 HB BK149 GW149 GE149 NB148_149 NB149_148;clear hb hbox hg) | ((with_reducible refine gd_ 3 ?_);refine be_ 3 #[.int .i64 0,.int .i64 0] 57 ?_;intro gb150 hg w4 hbox hb;refine as10_ (blkB_ BK148.out hb) (blkB_ BK149.out hb) (below_step (z7_ HB.out GE148.out GE149.out) hb) (hbox) ((z16_ HB.out GE148.out GE149.out:w.heap.size≤gb150)) ((z16_ HB.out GE148.out GE149.out:w.heap.size≤gb150)) (neL_ BK148.out hg) (neG_ BK148.out hg) (neL_ BK149.out hg) (neG_ BK149.out hg) ?_;clear BK148 BK149 HB;intro BK148 BK149 HB BK150 GW150 GE150 NB148_150 NB150_148 NB149_150 NB150_149;clear hb hbox hg;have hnb5:=NB148_149.out;have hnc5:=NB149_148.out;have hnb6:=NB148_150.out;have hnc6:=NB150_148.out;have ⟨hcz7_0,hcz7_1,hfz7_0,hfz7_1⟩:=cz2_ BK148.out;have hnb8:=NB150_149.out;have hnc8:=NB149_150.out;have ⟨hcz9_0,hcz9_1,hfz9_0,hfz9_1⟩:=cz2_ BK150.out;have ⟨hcz10_0,hcz10_1,hfz10_0,hfz10_1⟩:=cz2_ BK149.out))
 refine bodyPost_ret (results_cell_row rfl _ _ gb149 57 #[.int .i64 a0_0,.int .i64 a0_1] (0,0) _ rfl (by (with_reducible repeat (first | refine blk_drewN ?_ _ | refine blk_drew ?_ | refine blk_alloc ?_ _));apply put2_;(with_reducible repeat (first | refine blk_drewN ?_ _ | refine blk_drew ?_ | refine blk_alloc ?_ _));refine blk_far ?_ NB149_150.out _;(with_reducible repeat (first | refine blk_drewN ?_ _ | refine blk_drew ?_ | refine blk_alloc ?_ _));refine blk_far ?_ NB149_150.out _;(with_reducible repeat (first | refine blk_drewN ?_ _ | refine blk_drew ?_ | refine blk_alloc ?_ _));exact BK149.out) Tryd.underlying57 rfl (by kernel_rfl)) rfl ?_
 exact ⟨z10_,z11_ HB.out GE148.out GE149.out GE150.out⟩


/-! ### laws_toTokenS: function 38 -/
def laws_toTokenS.l0:Nat→List (S75)→List (S57)→Int→Option ((List (S57)))
 | 0,_,_,_=>none
 | k+1,x0,x3,x4=>if x4<(x0.length:Int) then (if 0≤x4 then ((laws_toToken.f ((rd_T75 x0 x4).f0) ((rd_T75 x0 x4).f1)).bind fun bt155=>(if x4<(x3.length:Int) then (laws_toTokenS.l0 k x0 (x3.set (x4:Int).toNat (⟨bt155.1,bt155.2⟩:S57)) (wrap64 (x4+1))) else (none))) else (none)) else (some x3)
def laws_toTokenS.f (k:Nat) (l0:List (S75)):Option ((List (S57))):=if 0≤(l0.length:Int) then (if ((l0.length:Int):Int).toNat≤17592186044416 then (laws_toTokenS.l0 k l0 (List.replicate ((l0.length:Int):Int).toNat z57) 0) else (none)) else (none)
theorem laws_toTokenS.mono_l:∀ k,(∀ y0 y1 y2,LeO (laws_toTokenS.l0 k y0 y1 y2) (laws_toTokenS.l0 (k+1) y0 y1 y2))
 | 0=>fun _ _ _ r h=>by simp [laws_toTokenS.l0] at h
 | k+1=>by
  have ih0:=laws_toTokenS.mono_l k
  ·intro y0 y1 y2
   unfold laws_toTokenS.l0
   repeat' first
   | (with_reducible exact ih0 _ _ _)
   | (with_reducible exact LeO.refl _)
   | (with_reducible exact LeO.none _)
   | (with_reducible refine LeO.ite ?_ ?_)
   | (with_reducible refine LeO.bind ?_ (fun _=>?_))
   | exact ih0 _ _ _
   | exact LeO.none _
   | refine LeO.ite ?_ ?_
   | refine LeO.bind ?_ (fun _=>?_)
theorem laws_toTokenS.mono:∀ a0 k,LeO (laws_toTokenS.f k a0) (laws_toTokenS.f (k+1) a0):=by
 intro a0 k
 have ih0:=laws_toTokenS.mono_l k
 unfold laws_toTokenS.f
 repeat' first
   | (with_reducible exact ih0 _ _ _)
   | (with_reducible exact LeO.refl _)
   | (with_reducible exact LeO.none _)
   | (with_reducible refine LeO.ite ?_ ?_)
   | (with_reducible refine LeO.bind ?_ (fun _=>?_))
   | exact ih0 _ _ _
   | exact LeO.none _
   | refine LeO.ite ?_ ?_
   | refine LeO.bind ?_ (fun _=>?_)
set_option maxHeartbeats 8000000 in
set_option maxRecDepth 100000 in
theorem laws_toTokenS.calls (k:Nat) (A0:Option Addr) (c0:Nat) (l0:List (S75)) (r:List (S57)) (w:World) (hr0:Kd.C k75 w A0 l0.length l0) (hc0:l0.length≤c0) (h:laws_toTokenS.f k l0=some r) :
  Calls Tryd.prog 38 #[.slice A0 l0.length c0] w fun e w'=>∃ v0_:Value,e = .returned (v0_)∧Kd.R k57 57 w' w.heap.size (fun _=>True) v0_ r∧Below w.heap.size w w':=by
 have hu75:=Tryd.underlying75
 have hu57:=Tryd.underlying57
 have HR0:=Aside0.mk hr0
 have HC0:=Aside0.mk hc0
 clear hr0 hc0
 have HB:=Aside0.mk (Below.refl w.heap.size w)
 have H:(if 0≤(l0.length:Int) then (if ((l0.length:Int):Int).toNat≤17592186044416 then (laws_toTokenS.l0 k l0 (List.replicate ((l0.length:Int):Int).toNat z57) 0) else (none)) else (none))=some r:=h
 clear h
 by_cases c2:0≤(l0.length:Int)
 ·rw [if_pos c2] at H
  have c2b0:=eq_true c2
  have c2b1:decide (0≤(l0.length:Int))=true:=decide_eq_true c2
  clear c2
  by_cases c3:((l0.length:Int):Int).toNat≤17592186044416
  ·rw [if_pos c3] at H
   have c3b0:=eq_true c3
   have c3b1:decide (((l0.length:Int):Int).toNat≤17592186044416)=true:=decide_eq_true c3
   clear c3
   obtain ⟨y151,hy151⟩:∃ y_:List (S57),y_=(List.replicate ((l0.length:Int):Int).toNat z57):=⟨_,rfl⟩
   replace H:(laws_toTokenS.l0 k l0 y151 0)=some r:=by first | (rw [hy151];with_reducible exact H) | (have H2_:=(Option.bind_some _ _).symm.trans H;rw [hy151];with_reducible exact H2_) | (have H2_:=(Option.bind_some _ _).symm.trans H;with_reducible exact H2_) | with_reducible exact H | (rw [hy151];exact H) | exact H
   have Ny151:=Aside0.mk hy151
   clear hy151
   have H':=Aside0.mk H
   clear H
   go_enter Tryd.func38,Tryd.ntmps38
   go_wp2_with (first | ((with_reducible refine gd_ 7 ?_);refine Kd.R_make k57 _ 57 rfl (N:=7) rfl 27 _ _ rfl (l0.length:Int) rfl rfl Tryd.underlying27 (.agg #[(.int .i64 0),(.int .i64 0)]) 16 info57 rfl (by decide) (by omega) z57 (ok:=fun _=>True) (okp:=fun _=>True) (k57_mkM _ _ _ z57 ) (fun _ hk=>hk) trivial (of_decide_eq_true (z0_)) (Nat.le_trans (Nat.mul_le_mul_right _ (of_decide_eq_true (z0_):(l0.length:Int).toNat≤17592186044416)) (by omega)) (Below.refl _ _) (Nat.le_refl _) ?_;intro v152 w4 ho5 hb hg_ hnew_;clear hg_ hnew_;(first | rw [← Ny151.out] at ho5 | (simp only [Int.reduceToNat] at ho5;rw [← Ny151.out] at ho5));refine as2_ (Kd.R_lower ho5 (below_size (z3_ HB.out))) (below_step (z3_ HB.out) hb) ?_;clear HB;intro HO153 HB;clear hb ho5))
   go_loopg [4] k (fun kq v4 w'=>∃ (x3_1:List (S57)) (x4_1:Int),v4 = .int .i64 x4_1∧Aside0 (laws_toTokenS.l0 kq l0 x3_1 x4_1=some r)∧Aside0 (kq≤k)∧Aside0 (Kd.R k57 57 w' w.heap.size (fun _=>True) v152 x3_1)∧Aside0 (Below w.heap.size w w'))
   case atStart=>exact ⟨(y151),(0),(z1_),H',⟨Nat.le_refl _⟩,⟨z2_ HO153.out⟩,⟨z3_ HB.out⟩⟩
   case round =>
    clear H'
    try clear c2
    try clear c2b0
    try clear c2b1
    try clear p2
    try clear c3
    try clear c3b0
    try clear c3b1
    obtain ⟨x3_1,x4_1,rfl,HA,HK1,HO_3,HB⟩:=hrel
    cases gk with
    | zero=>exact absurd HA.out (by simp [laws_toTokenS.l0])
    | succ k1 =>
     have H:=HA.out
     clear HA
     simp only [laws_toTokenS.l0] at H
     by_cases c6:x4_1<(l0.length:Int)
     ·rw [if_pos c6] at H
      have c6b0:decide (x4_1<(l0.length:Int))=true:=decide_eq_true c6
      clear c6
      by_cases c7:0≤x4_1
      ·rw [if_pos c7] at H
       have c7b0:decide (0≤x4_1)=true:=decide_eq_true c7
       clear c7
       replace H:=Option.bind_eq_some_iff.mp H
       obtain ⟨⟨t155,t156⟩,A80,H⟩:=H
       replace H:(if x4_1<(x3_1.length:Int) then (laws_toTokenS.l0 k1 l0 (x3_1.set (x4_1:Int).toNat (⟨t155,t156⟩:S57)) (wrap64 (x4_1+1))) else (none))=some r:=H
       have A8:=Aside0.mk A80
       clear A80
       by_cases c9:x4_1<(x3_1.length:Int)
       ·rw [if_pos c9] at H
        have c9b0:decide (x4_1<(x3_1.length:Int))=true:=decide_eq_true c9
        clear c9
        obtain ⟨y157,hy157⟩:∃ y_:List (S57),y_=(x3_1.set (x4_1:Int).toNat (⟨t155,t156⟩:S57)):=⟨_,rfl⟩
        replace H:(laws_toTokenS.l0 k1 l0 y157 (wrap64 (x4_1+1)))=some r:=by first | (rw [hy157];with_reducible exact H) | (have H2_:=(Option.bind_some _ _).symm.trans H;rw [hy157];with_reducible exact H2_) | (have H2_:=(Option.bind_some _ _).symm.trans H;with_reducible exact H2_) | with_reducible exact H | (rw [hy157];exact H) | exact H
        have Ny157:=Aside0.mk hy157
        clear hy157
        have H':=Aside0.mk H
        clear H
        have p154:0≤(x4_1:Int):=of_decide_eq_true (z0_)
        have q154:x4_1<(l0.length:Int):=of_decide_eq_true (z0_)
        obtain ⟨ad154,e154,hx154_0,hx154_1⟩:=at_T75 HR0.out x4_1 p154 q154
        cases e154
        replace hx154_0:=(HB.out.cell (World.block_lt_of_cell? w _ hx154_0)).trans hx154_0
        replace hx154_1:=(HB.out.cell (World.block_lt_of_cell? w _ hx154_1)).trans hx154_1
        replace p154:=eq_true p154
        replace q154:=eq_true q154
        go_wp2_with (first | ((with_reducible refine gc_ 63 ?_);refine gl_ (some 20) Tryd.func63 #[.agg #[.int .i64 ((rd_T75 l0 x4_1).f0),.int .i64 ((rd_T75 l0 x4_1).f1)]] ?_;(with_reducible refine (laws_toToken.calls ((rd_T75 l0 x4_1).f0) ((rd_T75 l0 x4_1).f1) t155 t156 _ A8.out).mono ?_);rintro e w11 ⟨rfl,hb⟩;refine ⟨_,rfl,?_⟩;refine as2_ (Kd.R_below (z2_ HO_3.out) hb) (below_step (z3_ HB.out) hb) ?_;clear HO_3 HB;intro HO_3 HB;(try clear hb);have p10:0≤(x4_1:Int):=of_decide_eq_true (z0_);have q10:(x4_1:Int)<((x3_1.length:Int):Int):=of_decide_eq_true (z0_);obtain ⟨go10,co10,eo10,gb10,gl10,cl10,HG10⟩:=Kd.R_form HO_3.out (by omega);(first | cases eo10 | (injection eo10 with ea_ en_ ec_;(first | subst ea_ | (injection ea_ with ea_;subst ea_));subst ec_;clear en_));have GB10:=Aside0.mk gb10;have GG10:=Aside0.mk HG10;clear gb10 gl10 HG10;obtain ⟨ce10,hcl10,hM10,hcc10,hfr10⟩:=Kd.R_elem HO_3.out z57 (x4_1:Int) p10 q10;obtain rfl:=k57_openM hM10;have hx10_0:w11.cell? ⟨go10,(x4_1:Int).toNat*2,none⟩=some (.int .i64 ((rd_T57 x3_1 x4_1).f0)):=hcc10 0 _ rfl;have hx10_1:w11.cell? ⟨go10,(x4_1:Int).toNat*2+1,none⟩=some (.int .i64 ((rd_T57 x3_1 x4_1).f1)):=hcc10 1 _ rfl;have hf10_0:w11.frozen? ⟨go10,(x4_1:Int).toNat*2,none⟩=false:=hfr10 0;have hf10_1:w11.frozen? ⟨go10,(x4_1:Int).toNat*2+1,none⟩=false:=hfr10 1;clear hcl10 hcc10 hfr10 hM10;replace p10:=eq_true p10;replace q10:=eq_true q10;have HX12:=Aside0.mk (show Kd.R k57 57 w11 w.heap.size (fun _=>True) (.slice (some ⟨go10,0,none⟩) x3_1.length co10) x3_1 from (z2_ HO_3.out));obtain ⟨ce12,hcl12,hM12,hcc12,hfr12⟩:=Kd.R_elem HX12.out z57 (x4_1:Int) (of_decide_eq_true (z0_)) (by have h_:(x4_1:Int)<((x3_1.length:Int):Int):=of_decide_eq_true (by first | (with_reducible assumption) | assumption);first | exact h_ | (have e_:=(Kd.R_reads' HO_3.out).1;omega) | simpa using h_);obtain rfl:=k57_openM hM12;have HP12:=Kd.R_seg HX12.out (x4_1:Int) (of_decide_eq_true (z0_)) (by have h_:(x4_1:Int)<((x3_1.length:Int):Int):=of_decide_eq_true (by first | (with_reducible assumption) | assumption);first | exact h_ | (have e_:=(Kd.R_reads' HO_3.out).1;omega) | simpa using h_) (seg:=[.int .i64 t155,.int .i64 t156]) (j:=0) hcl12 hcc12 (show 2≤2 from by decide) (x':=(⟨t155,t156⟩:S57)) (k57_mkM _ _ _ (⟨t155,t156⟩:S57) ) (fun _ hk=>hk);have hx12_0:=hcc12 0 _ rfl;(try simp only [show (k57).sz=2 from rfl,Nat.mul_one,Nat.add_zero] at hx12_0);have hf12_0:=hfr12 0;(try simp only [show (k57).sz=2 from rfl,Nat.mul_one,Nat.add_zero] at hf12_0);have hx12_1:=hcc12 1 _ rfl;(try simp only [show (k57).sz=2 from rfl,Nat.mul_one,Nat.add_zero] at hx12_1);have hf12_1:=hfr12 1;(try simp only [show (k57).sz=2 from rfl,Nat.mul_one,Nat.add_zero] at hf12_1);clear hcl12 hcc12 hfr12 hM12) | ((with_reducible refine gate_store (t:=57) (p:=21) rfl ?_);refine store_event (t:=57) (p:=21) (v:=?vo_w13) (w1:=((w11.setCell ⟨go10,(x4_1:Int).toNat*2,none⟩ (.int .i64 t155)).setCell ⟨go10,(x4_1:Int).toNat*2+1,none⟩ (.int .i64 t156))) ?hg ?ho ?hn ?hr ?_;(case ho=>rfl);(case hg=>rfl);(case hn=>rfl);(case hr=>first | (go_simp;done) | (go_simp;rfl));intro w13 hw;have hg:w11.grownBy w13 (some go10):=(by rw [hw];exact HP12.2);have hp_:Kd.R k57 57 w13 w.heap.size (fun _=>True) (.slice (some ⟨go10,0,none⟩) x3_1.length co10) y157:=(by rw [hw,Ny157.out];exact HP12.1);clear HP12;refine as2_ (hp_) ((by rw [hw];exact below_set (below_set (HB.out) GB10.out) GB10.out:Below w.heap.size w w13)) ?_;clear HO_3 HB;intro HO_3 HB;clear hg hw hp_))
        go_roundg k1
        case measure=>have:=HK1.out;omega
        case rel=>exact ⟨(y157),(wrap64 (x4_1+1)),(z1_),H',⟨by have:=HK1.out;omega⟩,⟨z2_ HO_3.out⟩,⟨z3_ HB.out⟩⟩
       ·rw [if_neg c9] at H
        exact absurd H (by simp)
      ·rw [if_neg c7] at H
       exact absurd H (by simp)
     ·rw [if_neg c6] at H
      have c6b0:decide (x4_1<(l0.length:Int))=false:=decide_eq_false c6
      clear c6
      obtain rfl:=Option.some.inj H
      go_wp2
      go_ret
      exact ⟨_,z10_,z2_ HO_3.out,z3_ HB.out⟩
  ·rw [if_neg c3] at H
   exact absurd H (by simp)
 ·rw [if_neg c2] at H
  exact absurd H (by simp)


/-! ### laws_toRing: function 12 -/
def laws_toRing.f (k:Nat) (a0_0:Int) (l0_1:List (S75)):Option (Int × (List (S57))):=(laws_toTokenS.f k l0_1).bind fun t161=>(some (a0_0,t161))
theorem laws_toRing.mono:∀ a0 a1 k,LeO (laws_toRing.f k a0 a1) (laws_toRing.f (k+1) a0 a1):=by
 intro a0 a1 k
 unfold laws_toRing.f
 repeat' first
   | (with_reducible exact laws_toTokenS.mono _ _)
   | (with_reducible exact LeO.refl _)
   | (with_reducible exact LeO.none _)
   | (with_reducible refine LeO.ite ?_ ?_)
   | (with_reducible refine LeO.bind ?_ (fun _=>?_))
   | exact laws_toTokenS.mono _ _
   | exact LeO.none _
   | refine LeO.ite ?_ ?_
   | refine LeO.bind ?_ (fun _=>?_)
set_option maxHeartbeats 8000000 in
set_option maxRecDepth 100000 in
theorem laws_toRing.calls (k:Nat) (a0_0:Int) (A0_1:Option Addr) (c0_1:Nat) (l0_1:List (S75)) (r1:Int) (r2:List (S57)) (w:World) (hr0_1:Kd.C k75 w A0_1 l0_1.length l0_1) (hc0_1:l0_1.length≤c0_1) (h:laws_toRing.f k a0_0 l0_1=some (r1,r2)) :
  Calls Tryd.prog 12 #[.agg #[.int .i64 a0_0,.slice A0_1 l0_1.length c0_1]] w fun e w'=>∃ v1_:Value,e = .returned (.agg #[.int .i64 r1,v1_])∧Kd.R k57 57 w' w.heap.size (fun _=>True) v1_ r2∧Below w.heap.size w w':=by
 have hu24:=Tryd.underlying24
 have hu29:=Tryd.underlying29
 have HR0_1:=Aside0.mk hr0_1
 have HC0_1:=Aside0.mk hc0_1
 clear hr0_1 hc0_1
 have HB:=Aside0.mk (Below.refl w.heap.size w)
 have H:((laws_toTokenS.f k l0_1).bind fun t161=>(some (a0_0,t161)))=some (r1,r2):=h
 clear h
 replace H:=Option.bind_eq_some_iff.mp H
 obtain ⟨t161,A20,H⟩:=H
 replace H:(some (a0_0,t161))=some (r1,r2):=H
 have A2:=Aside0.mk A20
 clear A20
 simp only [Option.some.injEq,Prod.mk.injEq] at H
 obtain ⟨rfl,rfl⟩:=H
 go_enter Tryd.func12,Tryd.ntmps12
 go_wp2_with (first | ((with_reducible refine gd_ 1 ?_);refine be_ 1 #[.int .i64 a0_0,.slice A0_1 l0_1.length c0_1] 24 ?_;intro gb158 hg w3 hbox hb;refine as4_ (below_step (z3_ HB.out) hb) (hbox) ((z8_ HB.out:w.heap.size≤gb158)) ((z8_ HB.out:w.heap.size≤gb158)) ?_;clear HB;intro HB BK158 GW158 GE158;clear hb hbox hg) | ((with_reducible refine gd_ 2 ?_);refine be_ 2 #[.int .i64 0,.slice none 0 0] 29 ?_;intro gb159 hg w4 hbox hb;refine as7_ (blkB_ BK158.out hb) (below_step (z5_ HB.out GE158.out) hb) (hbox) ((z12_ HB.out GE158.out:w.heap.size≤gb159)) ((z12_ HB.out GE158.out:w.heap.size≤gb159)) (neL_ BK158.out hg) (neG_ BK158.out hg) ?_;clear BK158 HB;intro BK158 HB BK159 GW159 GE159 NB158_159 NB159_158;clear hb hbox hg) | ((with_reducible refine gd_ 3 ?_);refine be_ 3 #[.int .i64 0,.slice none 0 0] 29 ?_;intro gb160 hg w5 hbox hb;refine as10_ (blkB_ BK158.out hb) (blkB_ BK159.out hb) (below_step (z7_ HB.out GE158.out GE159.out) hb) (hbox) ((z16_ HB.out GE158.out GE159.out:w.heap.size≤gb160)) ((z16_ HB.out GE158.out GE159.out:w.heap.size≤gb160)) (neL_ BK158.out hg) (neG_ BK158.out hg) (neL_ BK159.out hg) (neG_ BK159.out hg) ?_;clear BK158 BK159 HB;intro BK158 BK159 HB BK160 GW160 GE160 NB158_160 NB160_158 NB159_160 NB160_159;clear hb hbox hg;have hnb6:=NB158_159.out;have hnc6:=NB159_158.out;have hnb7:=NB158_160.out;have hnc7:=NB160_158.out;have ⟨hcz8_0,hcz8_1,hfz8_0,hfz8_1⟩:=cz2_ BK158.out;have hnb9:=NB160_159.out;have hnc9:=NB159_160.out;have ⟨hcz10_0,hcz10_1,hfz10_0,hfz10_1⟩:=cz2_ BK160.out) | ((with_reducible refine gc_ 38 ?_);refine gl_ (some 9) Tryd.func38 #[.slice A0_1 l0_1.length c0_1] ?_;(with_reducible refine (laws_toTokenS.calls k _ _ l0_1 t161 _ ?s1 ?s2 A2.out).mono ?_);(case s1=>exact Kd.C_below HR0_1.out (z11_ HB.out GE158.out GE159.out GE160.out));(case s2=>exact HC0_1.out);rintro e w11 ⟨v162,rfl,ho0,hb⟩;refine ⟨_,rfl,?_⟩;refine as5_ (Kd.R_lower ho0 (below_size (z11_ HB.out GE158.out GE159.out GE160.out))) (blk_below (g:=gb158) (o:=.cells #[.int .i64 a0_0,.slice A0_1 l0_1.length c0_1] 24 (0,0)) (z22_ NB158_160.out BK158.out) hb) (blk_below (g:=gb159) (o:=.cells #[.int .i64 0,.slice none 0 0] 29 (0,0)) (z22_ NB159_160.out BK159.out) hb) (blk_below (g:=gb160) (o:=.cells #[.int .i64 a0_0,.slice none 0 0] 29 (0,0)) (by (with_reducible repeat (first | refine blk_drewN ?_ _ | refine blk_drew ?_ | refine blk_alloc ?_ _));refine blk_put (cs:=#[.int .i64 0,.slice none 0 0]) ?_ 0 _ rfl;(with_reducible repeat (first | refine blk_drewN ?_ _ | refine blk_drew ?_ | refine blk_alloc ?_ _));exact BK160.out) hb) (below_step (z11_ HB.out GE158.out GE159.out GE160.out) hb) ?_;clear BK158 BK159 BK160 HB;intro HO163 BK158 BK159 BK160 HB;(try clear hb);(try clear ho0);obtain ⟨Ao12,co12,eo12⟩:=Kd.R_slice HO163.out;subst eo12;have ⟨hcz13_0,hcz13_1,hfz13_0,hfz13_1⟩:=cz2_ BK160.out;have ⟨hcz14_0,hcz14_1,hfz14_0,hfz14_1⟩:=cz2_ BK159.out))
 refine bodyPost_ret (results_cell_row rfl _ _ gb159 29 #[.int .i64 a0_0,.slice Ao12 t161.length co12] (0,0) _ rfl (by (with_reducible repeat (first | refine blk_drewN ?_ _ | refine blk_drew ?_ | refine blk_alloc ?_ _));apply put2_;(with_reducible repeat (first | refine blk_drewN ?_ _ | refine blk_drew ?_ | refine blk_alloc ?_ _));refine blk_far ?_ NB159_160.out _;(with_reducible repeat (first | refine blk_drewN ?_ _ | refine blk_drew ?_ | refine blk_alloc ?_ _));exact BK159.out) Tryd.underlying29 rfl (by kernel_rfl)) rfl ?_
 exact ⟨_,z10_,by (with_reducible repeat (first | apply Kd.R_alloc | apply Kd.R_drewN | apply Kd.R_drew));exact Kd.R_mono (rf2_ (Kd.R_far (p:=⟨gb160,1,none⟩) (Kd.R_types (Kd.R_types HO163.out BK160.out (by decide)) BK159.out (by decide)) (fun _ hk=>hk.1.2) (.slice Ao12 t161.length co12)) (fun _ hk=>hk.2)) (fun _ hk=>trivial),z11_ HB.out GE158.out GE159.out GE160.out⟩


/-! ### laws_eqInt64S: function 25 -/
def laws_eqInt64S.l0:Nat→List Int→List Int→Int→Option (Bool)
 | 0,_,_,_=>none
 | k+1,x0,x1,x5=>if x5<(x0.length:Int) then (if 0≤x5 then (if x5<(x1.length:Int) then (if (rd x0 x5)=(rd x1 x5) then (laws_eqInt64S.l0 k x0 x1 (wrap64 (x5+1))) else (none)) else (none)) else (none)) else (some true)
def laws_eqInt64S.f (k:Nat) (l0:List Int) (l1:List Int):Option (Bool):=if (l0.length:Int)=(l1.length:Int) then (laws_eqInt64S.l0 k l0 l1 0) else (none)
theorem laws_eqInt64S.mono_l:∀ k,(∀ y0 y1 y2,LeO (laws_eqInt64S.l0 k y0 y1 y2) (laws_eqInt64S.l0 (k+1) y0 y1 y2))
 | 0=>fun _ _ _ r h=>by simp [laws_eqInt64S.l0] at h
 | k+1=>by
  have ih0:=laws_eqInt64S.mono_l k
  ·intro y0 y1 y2
   unfold laws_eqInt64S.l0
   repeat' first
   | (with_reducible exact ih0 _ _ _)
   | (with_reducible exact LeO.refl _)
   | (with_reducible exact LeO.none _)
   | (with_reducible refine LeO.ite ?_ ?_)
   | (with_reducible refine LeO.bind ?_ (fun _=>?_))
   | exact ih0 _ _ _
   | exact LeO.none _
   | refine LeO.ite ?_ ?_
   | refine LeO.bind ?_ (fun _=>?_)
theorem laws_eqInt64S.mono:∀ a0 a1 k,LeO (laws_eqInt64S.f k a0 a1) (laws_eqInt64S.f (k+1) a0 a1):=by
 intro a0 a1 k
 have ih0:=laws_eqInt64S.mono_l k
 unfold laws_eqInt64S.f
 repeat' first
   | (with_reducible exact ih0 _ _ _)
   | (with_reducible exact LeO.refl _)
   | (with_reducible exact LeO.none _)
   | (with_reducible refine LeO.ite ?_ ?_)
   | (with_reducible refine LeO.bind ?_ (fun _=>?_))
   | exact ih0 _ _ _
   | exact LeO.none _
   | refine LeO.ite ?_ ?_
   | refine LeO.bind ?_ (fun _=>?_)
set_option maxHeartbeats 8000000 in
set_option maxRecDepth 100000 in
theorem laws_eqInt64S.calls (k:Nat) (A0:Option Addr) (c0:Nat) (l0:List Int) (A1:Option Addr) (c1:Nat) (l1:List Int) (r:Bool) (w:World) (hr0:Kd.C (Kd.int .i64) w A0 l0.length l0) (hc0:l0.length≤c0) (hr1:Kd.C (Kd.int .i64) w A1 l1.length l1) (hc1:l1.length≤c1) (h:laws_eqInt64S.f k l0 l1=some r) :
  Calls Tryd.prog 25 #[.slice A0 l0.length c0,.slice A1 l1.length c1] w fun e w'=>e = .returned (.bool r)∧Drawn0 w w':=by
 have HR0:=Aside0.mk hr0
 have HC0:=Aside0.mk hc0
 clear hr0 hc0
 have HR1:=Aside0.mk hr1
 have HC1:=Aside0.mk hc1
 clear hr1 hc1
 have H:(if (l0.length:Int)=(l1.length:Int) then (laws_eqInt64S.l0 k l0 l1 0) else (none))=some r:=h
 clear h
 by_cases c3:(l0.length:Int)=(l1.length:Int)
 ·rw [if_pos c3] at H
  have c3b0:((l0.length:Int) == (l1.length:Int))=true:=beq_iff_eq.mpr c3
  have c3b1:((l0.length:Int) != (l1.length:Int))=false:=bne_eq_false_iff_eq.mpr c3
  have c3b2:(l0.length == l1.length)=true:=by first | simpa using c3 | (simp at c3 ⊢;omega)
  clear c3
  have H':=Aside0.mk H
  clear H
  go_enter Tryd.func25,Tryd.ntmps25
  go_wp2
  repeat (go_quiet (fail);try go_wp2)
  go_loopg [5] k (fun kq v5 w'=>∃ (x5_1:Int),v5 = .int .i64 x5_1∧Aside0 (laws_eqInt64S.l0 kq l0 l1 x5_1=some r)∧Aside0 (kq≤k)∧Drawn0 w w')
  case atStart=>exact ⟨(0),(z1_),H',⟨Nat.le_refl _⟩,z6_⟩
  case round =>
   clear H'
   try clear c1
   try clear c2
   try clear p2
   try clear c3
   try clear c3b0
   try clear c3b1
   try clear c3b2
   obtain ⟨x5_1,rfl,HA,HK1,⟨m1,rfl⟩⟩:=hrel
   cases gk with
   | zero=>exact absurd HA.out (by simp [laws_eqInt64S.l0])
   | succ k1 =>
    have H:=HA.out
    clear HA
    simp only [laws_eqInt64S.l0] at H
    by_cases c4:x5_1<(l0.length:Int)
    ·rw [if_pos c4] at H
     have c4b0:decide (x5_1<(l0.length:Int))=true:=decide_eq_true c4
     clear c4
     by_cases c5:0≤x5_1
     ·rw [if_pos c5] at H
      have c5b0:decide (0≤x5_1)=true:=decide_eq_true c5
      clear c5
      by_cases c6:x5_1<(l1.length:Int)
      ·rw [if_pos c6] at H
       have c6b0:decide (x5_1<(l1.length:Int))=true:=decide_eq_true c6
       clear c6
       by_cases c7:(rd l0 x5_1)=(rd l1 x5_1)
       ·rw [if_pos c7] at H
        have c7b0:((rd l0 x5_1) == (rd l1 x5_1))=true:=beq_iff_eq.mpr c7
        have c7b1:((rd l0 x5_1) != (rd l1 x5_1))=false:=bne_eq_false_iff_eq.mpr c7
        clear c7
        have H':=Aside0.mk H
        clear H
        have p473:0≤(x5_1:Int):=of_decide_eq_true (z0_)
        have q473:x5_1<(l0.length:Int):=of_decide_eq_true (z0_)
        obtain ⟨ad473,e473,hx473_0⟩:=Kd.at_int HR0.out x5_1 p473 q473
        cases e473
        replace p473:=eq_true p473
        replace q473:=eq_true q473
        have p474:0≤(x5_1:Int):=of_decide_eq_true (z0_)
        have q474:x5_1<(l1.length:Int):=of_decide_eq_true (z0_)
        obtain ⟨ad474,e474,hx474_0⟩:=Kd.at_int HR1.out x5_1 p474 q474
        cases e474
        replace p474:=eq_true p474
        replace q474:=eq_true q474
        go_wp2
        repeat (go_quiet (fail);try go_wp2)
        go_roundg k1
        case measure=>have:=HK1.out;omega
        case rel=>exact ⟨(wrap64 (x5_1+1)),(z1_),H',⟨by have:=HK1.out;omega⟩,z6_⟩
       ·rw [if_neg c7] at H
        exact absurd H (by simp)
      ·rw [if_neg c6] at H
       exact absurd H (by simp)
     ·rw [if_neg c5] at H
      exact absurd H (by simp)
    ·rw [if_neg c4] at H
     have c4b0:decide (x5_1<(l0.length:Int))=false:=decide_eq_false c4
     clear c4
     obtain rfl:=Option.some.inj H
     go_wp2
     repeat (go_quiet (fail);try go_wp2)
     go_ret
     exact ⟨z1_,z6_⟩
 ·rw [if_neg c3] at H
  exact absurd H (by simp)


/-! ### laws_markInt64S: function 26 -/
def laws_markInt64S.l0:Nat→List Int→Int→Int→Option (Int × List Int)
 | 0,_,_,_=>none
 | k+1,x0,x1,x5=>if x5<(x0.length:Int) then (if 0≤x5 then (laws_markInt64S.l0 k (x0.set (x5:Int).toNat x1) (wrap64 (x1+1)) (wrap64 (x5+1))) else (none)) else (some (x1,x0))
def laws_markInt64S.f (k:Nat) (l0:List Int) (a1:Int):Option (Int × List Int):=laws_markInt64S.l0 k l0 a1 0
theorem laws_markInt64S.mono_l:∀ k,(∀ y0 y1 y2,LeO (laws_markInt64S.l0 k y0 y1 y2) (laws_markInt64S.l0 (k+1) y0 y1 y2))
 | 0=>fun _ _ _ r h=>by simp [laws_markInt64S.l0] at h
 | k+1=>by
  have ih0:=laws_markInt64S.mono_l k
  ·intro y0 y1 y2
   unfold laws_markInt64S.l0
   repeat' first
   | (with_reducible exact ih0 _ _ _)
   | (with_reducible exact LeO.refl _)
   | (with_reducible exact LeO.none _)
   | (with_reducible refine LeO.ite ?_ ?_)
   | (with_reducible refine LeO.bind ?_ (fun _=>?_))
   | exact ih0 _ _ _
   | exact LeO.none _
   | refine LeO.ite ?_ ?_
   | refine LeO.bind ?_ (fun _=>?_)
theorem laws_markInt64S.mono:∀ a0 a1 k,LeO (laws_markInt64S.f k a0 a1) (laws_markInt64S.f (k+1) a0 a1):=by
 intro a0 a1 k
 have ih0:=laws_markInt64S.mono_l k
 unfold laws_markInt64S.f
 repeat' first
   | (with_reducible exact ih0 _ _ _)
   | (with_reducible exact LeO.refl _)
   | (with_reducible exact LeO.none _)
   | (with_reducible refine LeO.ite ?_ ?_)
   | (with_reducible refine LeO.bind ?_ (fun _=>?_))
   | exact ih0 _ _ _
   | exact LeO.none _
   | refine LeO.ite ?_ ?_
   | refine LeO.bind ?_ (fun _=>?_)
set_option maxHeartbeats 8000000 in
set_option maxRecDepth 100000 in
theorem laws_markInt64S.calls (k:Nat) (P0_:Nat→Prop) (u9000_:Value) (l0:List Int) (a1:Int) (r1:Int) (r2:List Int) (w0 w:World) (hB:Below w0.heap.size w0 w) (ho0:Kd.R (Kd.int .i64) 2 w w0.heap.size P0_ u9000_ l0) (h:laws_markInt64S.f k l0 a1=some (r1,r2)) :
  Calls Tryd.prog 26 #[u9000_,.int .i64 a1] w fun e w'=>e = .returned (.int .i64 r1)∧Kd.R (Kd.int .i64) 2 w' w0.heap.size (fun k_=>(P0_ k_∨w.heap.size≤k_)) u9000_ r2∧Below w0.heap.size w0 w'∧Kept w w' (fun k_=>P0_ k_):=by
 have HO0:=Aside0.mk (show Kd.R (Kd.int .i64) 2 w w0.heap.size (fun k_=>(P0_ k_∨w.heap.size≤k_)) u9000_ l0 from Kd.R_mono ho0 (fun k_ hk=>(.inl hk)))
 have HK:=Aside0.mk (Kept.refl w (fun k_=>P0_ k_))
 have HW0:=Aside0.mk hB.size
 have HB:=Aside0.mk hB
 clear hB
 have H:(laws_markInt64S.l0 k l0 a1 0)=some (r1,r2):=h
 clear h
 have H':=Aside0.mk H
 clear H
 go_enter Tryd.func26,Tryd.ntmps26
 go_wp2
 go_loopg [1,5] k (fun kq v1 v5 w'=>∃ (x0_1:List Int) (x1_1:Int) (x5_1:Int),v1 = .int .i64 x1_1∧v5 = .int .i64 x5_1∧Aside0 (laws_markInt64S.l0 kq x0_1 x1_1 x5_1=some (r1,r2))∧Aside0 (kq≤k)∧Aside0 (Kd.R (Kd.int .i64) 2 w' w0.heap.size (fun k_=>(P0_ k_∨w.heap.size≤k_)) u9000_ x0_1)∧Aside0 (Kept w w' (fun k_=>P0_ k_))∧Aside0 (Below w0.heap.size w0 w'))
 case atStart=>exact ⟨(l0),(a1),(0),(z1_),(z1_),H',⟨Nat.le_refl _⟩,⟨z2_ HO0.out⟩,⟨z9_ HK.out⟩,⟨z3_ HB.out⟩⟩
 case round =>
  clear H'
  try clear c2
  try clear p2
  obtain ⟨x0_1,x1_1,x5_1,rfl,rfl,HA,HK1,HO_0,HK,HB⟩:=hrel
  cases gk with
  | zero=>exact absurd HA.out (by simp [laws_markInt64S.l0])
  | succ k1 =>
   have H:=HA.out
   clear HA
   simp only [laws_markInt64S.l0] at H
   by_cases c3:x5_1<(x0_1.length:Int)
   ·rw [if_pos c3] at H
    have c3b0:decide (x5_1<(x0_1.length:Int))=true:=decide_eq_true c3
    clear c3
    by_cases c4:0≤x5_1
    ·rw [if_pos c4] at H
     have c4b0:decide (0≤x5_1)=true:=decide_eq_true c4
     clear c4
     obtain ⟨y475,hy475⟩:∃ y_:List Int,y_=(x0_1.set (x5_1:Int).toNat x1_1):=⟨_,rfl⟩
     replace H:(laws_markInt64S.l0 k1 y475 (wrap64 (x1_1+1)) (wrap64 (x5_1+1)))=some (r1,r2):=by first | (rw [hy475];with_reducible exact H) | (have H2_:=(Option.bind_some _ _).symm.trans H;rw [hy475];with_reducible exact H2_) | (have H2_:=(Option.bind_some _ _).symm.trans H;with_reducible exact H2_) | with_reducible exact H | (rw [hy475];exact H) | exact H
     have Ny475:=Aside0.mk hy475
     clear hy475
     have H':=Aside0.mk H
     clear H
     obtain ⟨Ao6,co6,eo6⟩:=Kd.R_slice HO_0.out
     subst eo6
     have p5:0≤(x5_1:Int):=of_decide_eq_true (z0_)
     have q5:(x5_1:Int)<((x0_1.length:Int):Int):=of_decide_eq_true (z0_)
     obtain ⟨go5,co5,eo5,gb5,gl5,cl5,HG5⟩:=Kd.R_form HO_0.out (by omega)
     (first | cases eo5 | (injection eo5 with ea_ en_ ec_;(first | subst ea_ | (injection ea_ with ea_;subst ea_));subst ec_;clear en_))
     have GB5:=Aside0.mk gb5
     have GG5:=Aside0.mk HG5
     clear gb5 gl5 HG5
     have HMgo5:=Aside0.mk (show (P0_ go5∨w.heap.size≤go5) from (HO_0.out.1 _ rfl))
     obtain ⟨hx5_0,hf5_0⟩:=Kd.R_celln 0 HO_0.out (x5_1:Int) p5 q5
     replace p5:=eq_true p5
     replace q5:=eq_true q5
     have HP7:=Kd.R_putg HO_0.out (x5_1:Int) x1_1
     go_wp2_with (first | ((with_reducible refine gate_store (t:=2) (p:=15) rfl ?_);refine store_event (t:=2) (p:=15) (v:=?vo_w8) (w1:=(wr.setCell ⟨go5,(x5_1:Int).toNat,none⟩ (.int .i64 x1_1))) ?hg ?ho ?hn ?hr ?_;(case ho=>rfl);(case hg=>rfl);(case hn=>rfl);(case hr=>first | (go_simp;done) | (go_simp;rfl));intro w8 hw;have hg:wr.grownBy w8 (some go5):=(by rw [hw];exact HP7.2);have hp_:Kd.R (Kd.int .i64) 2 w8 w0.heap.size (fun k_=>(P0_ k_∨w.heap.size≤k_)) (.slice (some ⟨go5,0,none⟩) x0_1.length co6) y475:=(by rw [hw,Ny475.out];exact HP7.1);clear HP7;refine as3_ (hp_) ((by rw [hw];exact below_set (HB.out) GB5.out:Below w0.heap.size w0 w8)) (Kept.of_grown (S:=(fun k_=>P0_ k_)) hg (z9_ HK.out) (fun k_ e_=>(HO_0.out.1 k_ e_))) ?_;clear HO_0 HB HK;intro HO_0 HB HK;clear hg hw hp_))
     go_roundg k1
     case measure=>have:=HK1.out;omega
     case rel=>exact ⟨(y475),(wrap64 (x1_1+1)),(wrap64 (x5_1+1)),(z1_),(z1_),H',⟨by have:=HK1.out;omega⟩,⟨z2_ HO_0.out⟩,⟨z9_ HK.out⟩,⟨z3_ HB.out⟩⟩
    ·rw [if_neg c4] at H
     exact absurd H (by simp)
   ·rw [if_neg c3] at H
    have c3b0:decide (x5_1<(x0_1.length:Int))=false:=decide_eq_false c3
    clear c3
    simp only [Option.some.injEq,Prod.mk.injEq] at H
    obtain ⟨rfl,rfl⟩:=H
    obtain ⟨Ao9,co9,eo9⟩:=Kd.R_slice HO_0.out
    subst eo9
    go_wp2
    go_ret
    exact ⟨z10_,z2_ HO_0.out,z3_ HB.out,z9_ HK.out⟩


/-! ### laws_heldInt64S: function 27 -/
def laws_heldInt64S.l0:Nat→List Int→Int→Int→Option (Int)
 | 0,_,_,_=>none
 | k+1,x0,x1,x5=>if x5<(x0.length:Int) then (if 0≤x5 then (if (rd x0 x5)=x1 then (laws_heldInt64S.l0 k x0 (wrap64 (x1+1)) (wrap64 (x5+1))) else (none)) else (none)) else (some x1)
def laws_heldInt64S.f (k:Nat) (l0:List Int) (a1:Int):Option (Int):=laws_heldInt64S.l0 k l0 a1 0
theorem laws_heldInt64S.mono_l:∀ k,(∀ y0 y1 y2,LeO (laws_heldInt64S.l0 k y0 y1 y2) (laws_heldInt64S.l0 (k+1) y0 y1 y2))
 | 0=>fun _ _ _ r h=>by simp [laws_heldInt64S.l0] at h
 | k+1=>by
  have ih0:=laws_heldInt64S.mono_l k
  ·intro y0 y1 y2
   unfold laws_heldInt64S.l0
   repeat' first
   | (with_reducible exact ih0 _ _ _)
   | (with_reducible exact LeO.refl _)
   | (with_reducible exact LeO.none _)
   | (with_reducible refine LeO.ite ?_ ?_)
   | (with_reducible refine LeO.bind ?_ (fun _=>?_))
   | exact ih0 _ _ _
   | exact LeO.none _
   | refine LeO.ite ?_ ?_
   | refine LeO.bind ?_ (fun _=>?_)
theorem laws_heldInt64S.mono:∀ a0 a1 k,LeO (laws_heldInt64S.f k a0 a1) (laws_heldInt64S.f (k+1) a0 a1):=by
 intro a0 a1 k
 have ih0:=laws_heldInt64S.mono_l k
 unfold laws_heldInt64S.f
 repeat' first
   | (with_reducible exact ih0 _ _ _)
   | (with_reducible exact LeO.refl _)
   | (with_reducible exact LeO.none _)
   | (with_reducible refine LeO.ite ?_ ?_)
   | (with_reducible refine LeO.bind ?_ (fun _=>?_))
   | exact ih0 _ _ _
   | exact LeO.none _
   | refine LeO.ite ?_ ?_
   | refine LeO.bind ?_ (fun _=>?_)
set_option maxHeartbeats 8000000 in
set_option maxRecDepth 100000 in
theorem laws_heldInt64S.calls (k:Nat) (A0:Option Addr) (c0:Nat) (l0:List Int) (a1:Int) (r:Int) (w:World) (hr0:Kd.C (Kd.int .i64) w A0 l0.length l0) (hc0:l0.length≤c0) (h:laws_heldInt64S.f k l0 a1=some r) :
  Calls Tryd.prog 27 #[.slice A0 l0.length c0,.int .i64 a1] w fun e w'=>e = .returned (.int .i64 r)∧Drawn0 w w':=by
 have HR0:=Aside0.mk hr0
 have HC0:=Aside0.mk hc0
 clear hr0 hc0
 have H:(laws_heldInt64S.l0 k l0 a1 0)=some r:=h
 clear h
 have H':=Aside0.mk H
 clear H
 go_enter Tryd.func27,Tryd.ntmps27
 go_wp2
 go_loopg [1,5] k (fun kq v1 v5 w'=>∃ (x1_1:Int) (x5_1:Int),v1 = .int .i64 x1_1∧v5 = .int .i64 x5_1∧Aside0 (laws_heldInt64S.l0 kq l0 x1_1 x5_1=some r)∧Aside0 (kq≤k)∧Drawn0 w w')
 case atStart=>exact ⟨(a1),(0),(z1_),(z1_),H',⟨Nat.le_refl _⟩,z6_⟩
 case round =>
  clear H'
  try clear c2
  try clear p2
  obtain ⟨x1_1,x5_1,rfl,rfl,HA,HK1,⟨m1,rfl⟩⟩:=hrel
  cases gk with
  | zero=>exact absurd HA.out (by simp [laws_heldInt64S.l0])
  | succ k1 =>
   have H:=HA.out
   clear HA
   simp only [laws_heldInt64S.l0] at H
   by_cases c3:x5_1<(l0.length:Int)
   ·rw [if_pos c3] at H
    have c3b0:decide (x5_1<(l0.length:Int))=true:=decide_eq_true c3
    clear c3
    by_cases c4:0≤x5_1
    ·rw [if_pos c4] at H
     have c4b0:decide (0≤x5_1)=true:=decide_eq_true c4
     clear c4
     by_cases c5:(rd l0 x5_1)=x1_1
     ·rw [if_pos c5] at H
      have c5b0:((rd l0 x5_1) == x1_1)=true:=beq_iff_eq.mpr c5
      have c5b1:((rd l0 x5_1) != x1_1)=false:=bne_eq_false_iff_eq.mpr c5
      clear c5
      have H':=Aside0.mk H
      clear H
      have p476:0≤(x5_1:Int):=of_decide_eq_true (z0_)
      have q476:x5_1<(l0.length:Int):=of_decide_eq_true (z0_)
      obtain ⟨ad476,e476,hx476_0⟩:=Kd.at_int HR0.out x5_1 p476 q476
      cases e476
      replace p476:=eq_true p476
      replace q476:=eq_true q476
      go_wp2
      go_roundg k1
      case measure=>have:=HK1.out;omega
      case rel=>exact ⟨(wrap64 (x1_1+1)),(wrap64 (x5_1+1)),(z1_),(z1_),H',⟨by have:=HK1.out;omega⟩,z6_⟩
     ·rw [if_neg c5] at H
      exact absurd H (by simp)
    ·rw [if_neg c4] at H
     exact absurd H (by simp)
   ·rw [if_neg c3] at H
    have c3b0:decide (x5_1<(l0.length:Int))=false:=decide_eq_false c3
    clear c3
    obtain rfl:=Option.some.inj H
    go_wp2
    go_ret
    exact ⟨z1_,z6_⟩


/-! ### spec_l02Is: function 44 -/
def spec_l02Is.f (a0:Int) (a1:Int) (a2:Int):Option (Bool):=if a0≥a1 then (some (decide (a0≤a2))) else (some false)
set_option maxHeartbeats 8000000 in
set_option maxRecDepth 100000 in
theorem spec_l02Is.calls (a0:Int) (a1:Int) (a2:Int) (r:Bool) (w:World) (h:spec_l02Is.f a0 a1 a2=some r) :
  Calls Tryd.prog 44 #[.int .i64 a0,.int .i64 a1,.int .i64 a2] w fun e w'=>e = .returned (.bool r)∧Drawn0 w w':=by
 have H:(if a0≥a1 then (some (decide (a0≤a2))) else (some false))=some r:=h
 clear h
 by_cases c4:a0≥a1
 ·rw [if_pos c4] at H
  have c4b0:decide (a1≤a0)=true:=decide_eq_true c4
  clear c4
  obtain rfl:=Option.some.inj H
  go_enter Tryd.func44,Tryd.ntmps44
  go_wp2
  go_ret
  exact ⟨z1_,z6_⟩
 ·rw [if_neg c4] at H
  have c4b0:decide (a1≤a0)=false:=decide_eq_false c4
  clear c4
  obtain rfl:=Option.some.inj H
  go_enter Tryd.func44,Tryd.ntmps44
  go_wp2
  go_ret
  exact ⟨z1_,z6_⟩


/-! ### spec_l02Node: function 36 -/
def spec_l02Node.f (a0:Int):Option (Bool):=(spec_l02Is.f a0 1 5).bind fun t103=>(some t103)
set_option maxHeartbeats 8000000 in
set_option maxRecDepth 100000 in
theorem spec_l02Node.calls (a0:Int) (r:Bool) (w:World) (h:spec_l02Node.f a0=some r) :
  Calls Tryd.prog 36 #[.int .i64 a0] w fun e w'=>e = .returned (.bool r)∧Drawn0 w w':=by
 have H:((spec_l02Is.f a0 1 5).bind fun t103=>(some t103))=some r:=h
 clear h
 replace H:=Option.bind_eq_some_iff.mp H
 obtain ⟨t103,A20,H⟩:=H
 replace H:(some t103)=some r:=H
 have A2:=Aside0.mk A20
 clear A20
 obtain rfl:=Option.some.inj H
 go_enter Tryd.func36,Tryd.ntmps36
 go_wp2_with (first | ((with_reducible refine gc_ 44 ?_);refine gl_ (some 4) Tryd.func44 #[.int .i64 a0,.int .i64 1,.int .i64 5] ?_;(with_reducible refine (spec_l02Is.calls a0 1 5 t103 _ A2.out).mono ?_);rintro e w' ⟨rfl,⟨nd,rfl⟩⟩;refine ⟨_,rfl,?_⟩))
 go_ret
 exact ⟨z1_,z6_⟩


/-! ### spec_l04Fnv: function 61 -/
def spec_l04Fnv.l0:Nat→ByteArray→Int→Int→Option (Int)
 | 0,_,_,_=>none
 | k+1,x0,x3,x4=>if x4<(x0.size:Int) then (if 0≤x4 then (spec_l04Fnv.l0 k x0 (Int.tmod (wrap64 ((Go.bits .xor .i64 x3 (wrap64 (bt x0 x4)))*16777619)) 4294967296) (wrap64 (x4+1))) else (none)) else (some x3)
def spec_l04Fnv.f (k:Nat) (a0:ByteArray):Option (Int):=spec_l04Fnv.l0 k a0 2166136261 0
theorem spec_l04Fnv.mono_l:∀ k,(∀ y0 y1 y2,LeO (spec_l04Fnv.l0 k y0 y1 y2) (spec_l04Fnv.l0 (k+1) y0 y1 y2))
 | 0=>fun _ _ _ r h=>by simp [spec_l04Fnv.l0] at h
 | k+1=>by
  have ih0:=spec_l04Fnv.mono_l k
  ·intro y0 y1 y2
   unfold spec_l04Fnv.l0
   repeat' first
   | (with_reducible exact ih0 _ _ _)
   | (with_reducible exact LeO.refl _)
   | (with_reducible exact LeO.none _)
   | (with_reducible refine LeO.ite ?_ ?_)
   | (with_reducible refine LeO.bind ?_ (fun _=>?_))
   | exact ih0 _ _ _
   | exact LeO.none _
   | refine LeO.ite ?_ ?_
   | refine LeO.bind ?_ (fun _=>?_)
theorem spec_l04Fnv.mono:∀ a0 k,LeO (spec_l04Fnv.f k a0) (spec_l04Fnv.f (k+1) a0):=by
 intro a0 k
 have ih0:=spec_l04Fnv.mono_l k
 unfold spec_l04Fnv.f
 repeat' first
   | (with_reducible exact ih0 _ _ _)
   | (with_reducible exact LeO.refl _)
   | (with_reducible exact LeO.none _)
   | (with_reducible refine LeO.ite ?_ ?_)
   | (with_reducible refine LeO.bind ?_ (fun _=>?_))
   | exact ih0 _ _ _
   | exact LeO.none _
   | refine LeO.ite ?_ ?_
   | refine LeO.bind ?_ (fun _=>?_)
set_option maxHeartbeats 8000000 in
set_option maxRecDepth 100000 in
theorem spec_l04Fnv.calls (k:Nat) (a0:ByteArray) (r:Int) (w:World) (h:spec_l04Fnv.f k a0=some r) :
  Calls Tryd.prog 61 #[.string a0] w fun e w'=>e = .returned (.int .i64 r)∧Drawn0 w w':=by
 have H:(spec_l04Fnv.l0 k a0 2166136261 0)=some r:=h
 clear h
 have H':=Aside0.mk H
 clear H
 go_enter Tryd.func61,Tryd.ntmps61
 go_wp2
 go_loopg [3,4] k (fun kq v3 v4 w'=>∃ (x3_1:Int) (x4_1:Int),v3 = .int .i64 x3_1∧v4 = .int .i64 x4_1∧Aside0 (spec_l04Fnv.l0 kq a0 x3_1 x4_1=some r)∧Aside0 (kq≤k)∧Drawn0 w w')
 case atStart=>exact ⟨(2166136261),(0),(z1_),(z1_),H',⟨Nat.le_refl _⟩,z6_⟩
 case round =>
  clear H'
  obtain ⟨x3_1,x4_1,rfl,rfl,HA,HK1,⟨m1,rfl⟩⟩:=hrel
  cases gk with
  | zero=>exact absurd HA.out (by simp [spec_l04Fnv.l0])
  | succ k1 =>
   have H:=HA.out
   clear HA
   simp only [spec_l04Fnv.l0] at H
   by_cases c2:x4_1<(a0.size:Int)
   ·rw [if_pos c2] at H
    have c2b0:decide (x4_1<(a0.size:Int))=true:=decide_eq_true c2
    clear c2
    by_cases c3:0≤x4_1
    ·rw [if_pos c3] at H
     have c3b0:decide (0≤x4_1)=true:=decide_eq_true c3
     clear c3
     have H':=Aside0.mk H
     clear H
     have p4:0≤(x4_1:Int):=of_decide_eq_true (z0_)
     have q4:x4_1<(a0.size:Int):=of_decide_eq_true (z0_)
     have hx4:=bt_at a0 x4_1
     replace p4:=eq_true p4
     replace q4:=eq_true q4
     go_wp2
     go_roundg k1
     case measure=>have:=HK1.out;omega
     case rel=>exact ⟨(Int.tmod (wrap64 ((Go.bits .xor .i64 x3_1 (wrap64 (bt a0 x4_1)))*16777619)) 4294967296),(wrap64 (x4_1+1)),(z1_),(z1_),H',⟨by have:=HK1.out;omega⟩,z6_⟩
    ·rw [if_neg c3] at H
     exact absurd H (by simp)
   ·rw [if_neg c2] at H
    have c2b0:decide (x4_1<(a0.size:Int))=false:=decide_eq_false c2
    clear c2
    obtain rfl:=Option.some.inj H
    go_wp2
    go_ret
    exact ⟨z1_,z6_⟩


/-! ### spec_l01Dec: function 62 -/
def spec_l01Dec.l0:Nat→Int→Bool→ByteArray→Option (ByteArray)
 | 0,_,_,_=>none
 | k+1,x0,x3,x4=>if x0=0 then (if x3=true then (if 1+x4.size≤9223372036854775807 then (some ((⟨#[45]⟩:ByteArray) ++ x4)) else (none)) else (some x4)) else (if (Int.tmod x0 10)<0 then ((some (([(wrap64 (48+(wrap64 (-(Int.tmod x0 10))))) % 256]:List Int):List Int)).bind fun y104=>(if (strOfNums y104).size+x4.size≤9223372036854775807 then (spec_l01Dec.l0 k (wrap64 (Int.tdiv x0 10)) x3 ((strOfNums y104) ++ x4)) else (none))) else ((some (([(wrap64 (48+(Int.tmod x0 10))) % 256]:List Int):List Int)).bind fun y107=>(if (strOfNums y107).size+x4.size≤9223372036854775807 then (spec_l01Dec.l0 k (wrap64 (Int.tdiv x0 10)) x3 ((strOfNums y107) ++ x4)) else (none))))
def spec_l01Dec.f (k:Nat) (a0:Int):Option (ByteArray):=if a0=0 then (some (⟨#[48]⟩:ByteArray)) else (spec_l01Dec.l0 k a0 (decide (a0<0)) (⟨#[]⟩:ByteArray))
theorem spec_l01Dec.mono_l:∀ k,(∀ y0 y1 y2,LeO (spec_l01Dec.l0 k y0 y1 y2) (spec_l01Dec.l0 (k+1) y0 y1 y2))
 | 0=>fun _ _ _ r h=>by simp [spec_l01Dec.l0] at h
 | k+1=>by
  have ih0:=spec_l01Dec.mono_l k
  ·intro y0 y1 y2
   unfold spec_l01Dec.l0
   repeat' first
   | (with_reducible exact ih0 _ _ _)
   | (with_reducible exact LeO.refl _)
   | (with_reducible exact LeO.none _)
   | (with_reducible refine LeO.ite ?_ ?_)
   | (with_reducible refine LeO.bind ?_ (fun _=>?_))
   | exact ih0 _ _ _
   | exact LeO.none _
   | refine LeO.ite ?_ ?_
   | refine LeO.bind ?_ (fun _=>?_)
theorem spec_l01Dec.mono:∀ a0 k,LeO (spec_l01Dec.f k a0) (spec_l01Dec.f (k+1) a0):=by
 intro a0 k
 have ih0:=spec_l01Dec.mono_l k
 unfold spec_l01Dec.f
 repeat' first
   | (with_reducible exact ih0 _ _ _)
   | (with_reducible exact LeO.refl _)
   | (with_reducible exact LeO.none _)
   | (with_reducible refine LeO.ite ?_ ?_)
   | (with_reducible refine LeO.bind ?_ (fun _=>?_))
   | exact ih0 _ _ _
   | exact LeO.none _
   | refine LeO.ite ?_ ?_
   | refine LeO.bind ?_ (fun _=>?_)
set_option maxHeartbeats 8000000 in
set_option maxRecDepth 100000 in
theorem spec_l01Dec.calls (k:Nat) (a0:Int) (r:ByteArray) (w:World) (h:spec_l01Dec.f k a0=some r) :
  Calls Tryd.prog 62 #[.int .i64 a0] w fun e w'=>e = .returned (.string r)∧Below w.heap.size w w':=by
 have HB:=Aside0.mk (Below.refl w.heap.size w)
 have H:(if a0=0 then (some (⟨#[48]⟩:ByteArray)) else (spec_l01Dec.l0 k a0 (decide (a0<0)) (⟨#[]⟩:ByteArray)))=some r:=h
 clear h
 by_cases c2:a0=0
 ·rw [if_pos c2] at H
  have c2b0:(a0 == 0)=true:=beq_iff_eq.mpr c2
  have c2b1:(a0 != 0)=false:=bne_eq_false_iff_eq.mpr c2
  clear c2
  obtain rfl:=Option.some.inj H
  go_enter Tryd.func62,Tryd.ntmps62
  go_wp2
  go_ret
  exact ⟨z10_,z3_ HB.out⟩
 ·rw [if_neg c2] at H
  have c2b0:(a0 == 0)=false:=beq_eq_false_iff_ne.mpr c2
  have c2b1:(a0 != 0)=true:=bne_iff_ne.mpr c2
  have H':=Aside0.mk H
  clear H
  go_enter Tryd.func62,Tryd.ntmps62
  go_wp2
  go_loopg [0,4] k (fun kq v0 v4 w'=>∃ (x0_1:Int) (x4_1:ByteArray),v0 = .int .i64 x0_1∧v4 = .string x4_1∧Aside0 (spec_l01Dec.l0 kq x0_1 (decide (a0<0)) x4_1=some r)∧Aside0 (kq≤k)∧Aside0 (Below w.heap.size w w'))
  case atStart=>exact ⟨(a0),((⟨#[]⟩:ByteArray)),(z1_),(z1_),H',⟨Nat.le_refl _⟩,⟨z3_ HB.out⟩⟩
  case round =>
   clear H'
   try clear c2
   try clear c2b0
   try clear c2b1
   try clear p2
   obtain ⟨x0_1,x4_1,rfl,rfl,HA,HK1,HB⟩:=hrel
   cases gk with
   | zero=>exact absurd HA.out (by simp [spec_l01Dec.l0])
   | succ k1 =>
    have H:=HA.out
    clear HA
    simp only [spec_l01Dec.l0] at H
    by_cases c3:x0_1=0
    ·rw [if_pos c3] at H
     have c3b0:(x0_1 == 0)=true:=beq_iff_eq.mpr c3
     have c3b1:(x0_1 != 0)=false:=bne_eq_false_iff_eq.mpr c3
     clear c3
     by_cases c4:(decide (a0<0))=true
     ·rw [if_pos c4] at H
      have c4b0:(decide (a0<0))=true:=c4
      have c4q0:(a0<0):=of_decide_eq_true c4b0
      have c4q1:=eq_true c4q0
      clear c4
      by_cases c5:1+x4_1.size≤9223372036854775807
      ·rw [if_pos c5] at H
       have c5b0:=eq_true c5
       have c5b1:decide (1+x4_1.size≤9223372036854775807)=true:=decide_eq_true c5
       try have c5b2:(9223372036854775807<1+x4_1.size)=False:=eq_false (Nat.not_lt.2 c5)
       obtain rfl:=Option.some.inj H
       go_wp2
       go_ret
       exact ⟨z10_,z3_ HB.out⟩
      ·rw [if_neg c5] at H
       exact absurd H (by simp)
     ·rw [if_neg c4] at H
      have c4b0:(decide (a0<0))=false:=by simpa using c4
      have c4q0:¬ (a0<0):=of_decide_eq_false c4b0
      have c4q1:=eq_false c4q0
      clear c4
      obtain rfl:=Option.some.inj H
      go_wp2
      go_ret
      exact ⟨z10_,z3_ HB.out⟩
    ·rw [if_neg c3] at H
     have c3b0:(x0_1 == 0)=false:=beq_eq_false_iff_ne.mpr c3
     have c3b1:(x0_1 != 0)=true:=bne_iff_ne.mpr c3
     by_cases c6:(Int.tmod x0_1 10)<0
     ·rw [if_pos c6] at H
      have c6b0:decide ((Int.tmod x0_1 10)<0)=true:=decide_eq_true c6
      clear c6
      obtain ⟨y104,hy104⟩:∃ y_:List Int,y_=(([(wrap64 (48+(wrap64 (-(Int.tmod x0_1 10))))) % 256]:List Int)):=⟨_,rfl⟩
      replace H:(if (strOfNums y104).size+x4_1.size≤9223372036854775807 then (spec_l01Dec.l0 k1 (wrap64 (Int.tdiv x0_1 10)) (decide (a0<0)) ((strOfNums y104) ++ x4_1)) else (none))=some r:=by first | (rw [hy104];with_reducible exact H) | (have H2_:=(Option.bind_some _ _).symm.trans H;rw [hy104];with_reducible exact H2_) | (have H2_:=(Option.bind_some _ _).symm.trans H;with_reducible exact H2_) | with_reducible exact H | (rw [hy104];exact H) | exact H
      have Ny104:=Aside0.mk hy104
      clear hy104
      by_cases c7:(strOfNums y104).size+x4_1.size≤9223372036854775807
      ·rw [if_pos c7] at H
       have c7b0:=eq_true c7
       have c7b1:decide ((strOfNums y104).size+x4_1.size≤9223372036854775807)=true:=decide_eq_true c7
       try have c7b2:(9223372036854775807<(strOfNums y104).size+x4_1.size)=False:=eq_false (Nat.not_lt.2 c7)
       have H':=Aside0.mk H
       clear H
       go_wp2_with (first | ((with_reducible refine gd_ 21 ?_);refine Kd.R_lit (Kd.int .u8) _ 5 ?hg (N:=21) ?hd (xs:=([(wrap64 (48+(wrap64 (-(Int.tmod x0_1 10))))) % 256]:List Int)) (inner:=[.int .u8 ((wrap64 (48+(wrap64 (-(Int.tmod x0_1 10))))) % 256)]) (ok:=fun _=>True) (okp:=fun _=>True) ?hr ?hp (fun _ hk=>hk) trivial (Below.refl _ _) (Nat.le_refl _) (by simp) ?_;(case hd=>rfl);(case hg=>rfl);(case hr=>first | (go_simp;done) | (go_simp;rfl));(case hp=>exact (Reps.one (show Kd.M (Kd.int .u8) _ _ _ ((wrap64 (48+(wrap64 (-(Int.tmod x0_1 10))))) % 256) [.int .u8 ((wrap64 (48+(wrap64 (-(Int.tmod x0_1 10))))) % 256)] from rfl) (Reps.none _ _)));intro v105 w8 ho9 hb hg_ hnew_;clear hg_ hnew_;(first | rw [← Ny104.out] at ho9 | (simp only [Int.reduceToNat] at ho9;rw [← Ny104.out] at ho9));refine as2_ (Kd.R_lower ho9 (below_size (z3_ HB.out))) (below_step (z3_ HB.out) hb) ?_;clear HB;intro HO106 HB;clear hb ho9;have hcv10:=own_string (P:=Tryd.prog) Tryd.underlying86 Tryd.underlying5 Tryd.underlying9 (Kd.own_of_R HO106.out)))
       go_roundg k1
       case measure=>have:=HK1.out;omega
       case rel=>exact ⟨(wrap64 (Int.tdiv x0_1 10)),((strOfNums y104) ++ x4_1),(z1_),(z1_),H',⟨by have:=HK1.out;omega⟩,⟨z3_ HB.out⟩⟩
      ·rw [if_neg c7] at H
       exact absurd H (by simp)
     ·rw [if_neg c6] at H
      have c6b0:decide ((Int.tmod x0_1 10)<0)=false:=decide_eq_false c6
      clear c6
      obtain ⟨y107,hy107⟩:∃ y_:List Int,y_=(([(wrap64 (48+(Int.tmod x0_1 10))) % 256]:List Int)):=⟨_,rfl⟩
      replace H:(if (strOfNums y107).size+x4_1.size≤9223372036854775807 then (spec_l01Dec.l0 k1 (wrap64 (Int.tdiv x0_1 10)) (decide (a0<0)) ((strOfNums y107) ++ x4_1)) else (none))=some r:=by first | (rw [hy107];with_reducible exact H) | (have H2_:=(Option.bind_some _ _).symm.trans H;rw [hy107];with_reducible exact H2_) | (have H2_:=(Option.bind_some _ _).symm.trans H;with_reducible exact H2_) | with_reducible exact H | (rw [hy107];exact H) | exact H
      have Ny107:=Aside0.mk hy107
      clear hy107
      by_cases c11:(strOfNums y107).size+x4_1.size≤9223372036854775807
      ·rw [if_pos c11] at H
       have c11b0:=eq_true c11
       have c11b1:decide ((strOfNums y107).size+x4_1.size≤9223372036854775807)=true:=decide_eq_true c11
       try have c11b2:(9223372036854775807<(strOfNums y107).size+x4_1.size)=False:=eq_false (Nat.not_lt.2 c11)
       have H':=Aside0.mk H
       clear H
       go_wp2_with (first | ((with_reducible refine gd_ 21 ?_);refine Kd.R_lit (Kd.int .u8) _ 5 ?hg (N:=21) ?hd (xs:=([(wrap64 (48+(Int.tmod x0_1 10))) % 256]:List Int)) (inner:=[.int .u8 ((wrap64 (48+(Int.tmod x0_1 10))) % 256)]) (ok:=fun _=>True) (okp:=fun _=>True) ?hr ?hp (fun _ hk=>hk) trivial (Below.refl _ _) (Nat.le_refl _) (by simp) ?_;(case hd=>rfl);(case hg=>rfl);(case hr=>first | (go_simp;done) | (go_simp;rfl));(case hp=>exact (Reps.one (show Kd.M (Kd.int .u8) _ _ _ ((wrap64 (48+(Int.tmod x0_1 10))) % 256) [.int .u8 ((wrap64 (48+(Int.tmod x0_1 10))) % 256)] from rfl) (Reps.none _ _)));intro v108 w12 ho13 hb hg_ hnew_;clear hg_ hnew_;(first | rw [← Ny107.out] at ho13 | (simp only [Int.reduceToNat] at ho13;rw [← Ny107.out] at ho13));refine as2_ (Kd.R_lower ho13 (below_size (z3_ HB.out))) (below_step (z3_ HB.out) hb) ?_;clear HB;intro HO109 HB;clear hb ho13;have hcv14:=own_string (P:=Tryd.prog) Tryd.underlying86 Tryd.underlying5 Tryd.underlying9 (Kd.own_of_R HO109.out)))
       go_roundg k1
       case measure=>have:=HK1.out;omega
       case rel=>exact ⟨(wrap64 (Int.tdiv x0_1 10)),((strOfNums y107) ++ x4_1),(z1_),(z1_),H',⟨by have:=HK1.out;omega⟩,⟨z3_ HB.out⟩⟩
      ·rw [if_neg c11] at H
       exact absurd H (by simp)


/-! ### spec_l04New: function 37 -/
mutual
def spec_l04New.l0:Nat→Int→Int→Int→Int→List (S57)→Option (Int × (List (S57)))
 | 0,_,_,_,_,_=>none
 | k+1,x0,x1,x6,x112000,x112001=>if x6≤x0 then (spec_l04New.l1 k x0 x1 x6 1 x112000 x112001) else (some (x112000,x112001))
def spec_l04New.l1:Nat→Int→Int→Int→Int→Int→List (S57)→Option (Int × (List (S57)))
 | 0,_,_,_,_,_,_=>none
 | k+1,x0,x1,x6,x7,x112000,x112001=>if x7≤x1 then ((spec_l01Dec.f k x6).bind fun t112=>(if t112.size+1≤9223372036854775807 then ((spec_l01Dec.f k x7).bind fun t113=>(if (t112.size+1)+t113.size≤9223372036854775807 then ((spec_l04Fnv.f k ((t112 ++ (⟨#[45]⟩:ByteArray)) ++ t113)).bind fun t114=>(spec_l04New.l2 k x0 x1 x6 x7 0 x112000 x112001 t114 x6)) else (none))) else (none))) else (spec_l04New.l0 k x0 x1 (wrap64 (x6+1)) x112000 x112001)
def spec_l04New.l2:Nat→Int→Int→Int→Int→Int→Int→List (S57)→Int→Int→Option (Int × (List (S57)))
 | 0,_,_,_,_,_,_,_,_,_=>none
 | k+1,x0,x1,x6,x7,x9,x112000,x112001,x116000,x116001=>if x9<(x112001.length:Int) then (if 0≤x9 then (if ((rd_T57 x112001 x9).f0)<x116000 then (spec_l04New.j3 k x0 x1 x6 x7 x9 true x112000 x112001 x116000 x116001) else (if ((rd_T57 x112001 x9).f0)=x116000 then (spec_l04New.j3 k x0 x1 x6 x7 x9 (decide (((rd_T57 x112001 x9).f1)<x116001)) x112000 x112001 x116000 x116001) else (spec_l04New.j3 k x0 x1 x6 x7 x9 false x112000 x112001 x116000 x116001))) else (none)) else (spec_l04New.j3 k x0 x1 x6 x7 x9 false x112000 x112001 x116000 x116001)
def spec_l04New.j3:Nat→Int→Int→Int→Int→Int→Bool→Int→List (S57)→Int→Int→Option (Int × (List (S57)))
 | 0,_,_,_,_,_,_,_,_,_,_=>none
 | k+1,x0,x1,x6,x7,x9,x69,x112000,x112001,x116000,x116001=>if x69=true then (spec_l04New.l2 k x0 x1 x6 x7 (wrap64 (x9+1)) x112000 x112001 x116000 x116001) else ((some (([]:List (S57)):List (S57))).bind fun y119=>(if 0≤x9 then (if x9≤(x112001.length:Int) then ((some (x112001.take (x9:Int).toNat:List (S57))).bind fun y122=>(if y119.length+y122.length<8796093022208 then ((some (y119 ++ y122:List (S57))).bind fun y126=>(if y126.length<8796093022208 then ((some (y126 ++ [(⟨x116000,x116001⟩:S57)]:List (S57))).bind fun y129=>((some (x112001.drop (x9:Int).toNat:List (S57))).bind fun y132=>(if y129.length+y132.length<8796093022208 then (spec_l04New.l1 k x0 x1 x6 (wrap64 (x7+1)) x112000 (y129 ++ y132)) else (none)))) else (none))) else (none))) else (none)) else (none)))
end
def spec_l04New.f (k:Nat) (a0:Int) (a1:Int):Option (Int × (List (S57))):=spec_l04New.l0 k a0 a1 1 a0 ([]:List (S57))
theorem spec_l04New.mono_l:∀ k,(∀ y0 y1 y2 y3 y4,LeO (spec_l04New.l0 k y0 y1 y2 y3 y4) (spec_l04New.l0 (k+1) y0 y1 y2 y3 y4))∧(∀ y0 y1 y2 y3 y4 y5,LeO (spec_l04New.l1 k y0 y1 y2 y3 y4 y5) (spec_l04New.l1 (k+1) y0 y1 y2 y3 y4 y5))∧(∀ y0 y1 y2 y3 y4 y5 y6 y7 y8,LeO (spec_l04New.l2 k y0 y1 y2 y3 y4 y5 y6 y7 y8) (spec_l04New.l2 (k+1) y0 y1 y2 y3 y4 y5 y6 y7 y8))∧(∀ y0 y1 y2 y3 y4 y5 y6 y7 y8 y9,LeO (spec_l04New.j3 k y0 y1 y2 y3 y4 y5 y6 y7 y8 y9) (spec_l04New.j3 (k+1) y0 y1 y2 y3 y4 y5 y6 y7 y8 y9))
 | 0=>⟨fun _ _ _ _ _ r h=>by simp [spec_l04New.l0] at h,fun _ _ _ _ _ _ r h=>by simp [spec_l04New.l1] at h,fun _ _ _ _ _ _ _ _ _ r h=>by simp [spec_l04New.l2] at h,fun _ _ _ _ _ _ _ _ _ _ r h=>by simp [spec_l04New.j3] at h⟩
 | k+1=>by
  obtain ⟨ih0,ih1,ih2,ih3⟩:=spec_l04New.mono_l k
  refine ⟨?_,?_,?_,?_⟩
  ·intro y0 y1 y2 y3 y4
   unfold spec_l04New.l0
   repeat' first
   | (with_reducible exact ih0 _ _ _ _ _)
   | (with_reducible exact ih1 _ _ _ _ _ _)
   | (with_reducible exact ih2 _ _ _ _ _ _ _ _ _)
   | (with_reducible exact ih3 _ _ _ _ _ _ _ _ _ _)
   | (with_reducible exact spec_l01Dec.mono _ _)
   | (with_reducible exact spec_l04Fnv.mono _ _)
   | (with_reducible exact LeO.refl _)
   | (with_reducible exact LeO.none _)
   | (with_reducible refine LeO.ite ?_ ?_)
   | (with_reducible refine LeO.bind ?_ (fun _=>?_))
   | exact ih0 _ _ _ _ _
   | exact ih1 _ _ _ _ _ _
   | exact ih2 _ _ _ _ _ _ _ _ _
   | exact ih3 _ _ _ _ _ _ _ _ _ _
   | exact spec_l01Dec.mono _ _
   | exact spec_l04Fnv.mono _ _
   | exact LeO.none _
   | refine LeO.ite ?_ ?_
   | refine LeO.bind ?_ (fun _=>?_)
  ·intro y0 y1 y2 y3 y4 y5
   unfold spec_l04New.l1
   repeat' first
   | (with_reducible exact ih0 _ _ _ _ _)
   | (with_reducible exact ih1 _ _ _ _ _ _)
   | (with_reducible exact ih2 _ _ _ _ _ _ _ _ _)
   | (with_reducible exact ih3 _ _ _ _ _ _ _ _ _ _)
   | (with_reducible exact spec_l01Dec.mono _ _)
   | (with_reducible exact spec_l04Fnv.mono _ _)
   | (with_reducible exact LeO.refl _)
   | (with_reducible exact LeO.none _)
   | (with_reducible refine LeO.ite ?_ ?_)
   | (with_reducible refine LeO.bind ?_ (fun _=>?_))
   | exact ih0 _ _ _ _ _
   | exact ih1 _ _ _ _ _ _
   | exact ih2 _ _ _ _ _ _ _ _ _
   | exact ih3 _ _ _ _ _ _ _ _ _ _
   | exact spec_l01Dec.mono _ _
   | exact spec_l04Fnv.mono _ _
   | exact LeO.none _
   | refine LeO.ite ?_ ?_
   | refine LeO.bind ?_ (fun _=>?_)
  ·intro y0 y1 y2 y3 y4 y5 y6 y7 y8
   unfold spec_l04New.l2
   repeat' first
   | (with_reducible exact ih0 _ _ _ _ _)
   | (with_reducible exact ih1 _ _ _ _ _ _)
   | (with_reducible exact ih2 _ _ _ _ _ _ _ _ _)
   | (with_reducible exact ih3 _ _ _ _ _ _ _ _ _ _)
   | (with_reducible exact spec_l01Dec.mono _ _)
   | (with_reducible exact spec_l04Fnv.mono _ _)
   | (with_reducible exact LeO.refl _)
   | (with_reducible exact LeO.none _)
   | (with_reducible refine LeO.ite ?_ ?_)
   | (with_reducible refine LeO.bind ?_ (fun _=>?_))
   | exact ih0 _ _ _ _ _
   | exact ih1 _ _ _ _ _ _
   | exact ih2 _ _ _ _ _ _ _ _ _
   | exact ih3 _ _ _ _ _ _ _ _ _ _
   | exact spec_l01Dec.mono _ _
   | exact spec_l04Fnv.mono _ _
   | exact LeO.none _
   | refine LeO.ite ?_ ?_
   | refine LeO.bind ?_ (fun _=>?_)
  ·intro y0 y1 y2 y3 y4 y5 y6 y7 y8 y9
   unfold spec_l04New.j3
   repeat' first
   | (with_reducible exact ih0 _ _ _ _ _)
   | (with_reducible exact ih1 _ _ _ _ _ _)
   | (with_reducible exact ih2 _ _ _ _ _ _ _ _ _)
   | (with_reducible exact ih3 _ _ _ _ _ _ _ _ _ _)
   | (with_reducible exact spec_l01Dec.mono _ _)
   | (with_reducible exact spec_l04Fnv.mono _ _)
   | (with_reducible exact LeO.refl _)
   | (with_reducible exact LeO.none _)
   | (with_reducible refine LeO.ite ?_ ?_)
   | (with_reducible refine LeO.bind ?_ (fun _=>?_))
   | exact ih0 _ _ _ _ _
   | exact ih1 _ _ _ _ _ _
   | exact ih2 _ _ _ _ _ _ _ _ _
   | exact ih3 _ _ _ _ _ _ _ _ _ _
   | exact spec_l01Dec.mono _ _
   | exact spec_l04Fnv.mono _ _
   | exact LeO.none _
   | refine LeO.ite ?_ ?_
   | refine LeO.bind ?_ (fun _=>?_)
theorem spec_l04New.mono:∀ a0 a1 k,LeO (spec_l04New.f k a0 a1) (spec_l04New.f (k+1) a0 a1):=by
 intro a0 a1 k
 obtain ⟨ih0,ih1,ih2,ih3⟩:=spec_l04New.mono_l k
 unfold spec_l04New.f
 repeat' first
   | (with_reducible exact ih0 _ _ _ _ _)
   | (with_reducible exact ih1 _ _ _ _ _ _)
   | (with_reducible exact ih2 _ _ _ _ _ _ _ _ _)
   | (with_reducible exact ih3 _ _ _ _ _ _ _ _ _ _)
   | (with_reducible exact spec_l01Dec.mono _ _)
   | (with_reducible exact spec_l04Fnv.mono _ _)
   | (with_reducible exact LeO.refl _)
   | (with_reducible exact LeO.none _)
   | (with_reducible refine LeO.ite ?_ ?_)
   | (with_reducible refine LeO.bind ?_ (fun _=>?_))
   | exact ih0 _ _ _ _ _
   | exact ih1 _ _ _ _ _ _
   | exact ih2 _ _ _ _ _ _ _ _ _
   | exact ih3 _ _ _ _ _ _ _ _ _ _
   | exact spec_l01Dec.mono _ _
   | exact spec_l04Fnv.mono _ _
   | exact LeO.none _
   | refine LeO.ite ?_ ?_
   | refine LeO.bind ?_ (fun _=>?_)
set_option maxHeartbeats 8000000 in
set_option maxRecDepth 100000 in
theorem spec_l04New.calls (k:Nat) (a0:Int) (a1:Int) (r1:Int) (r2:List (S57)) (w:World) (h:spec_l04New.f k a0 a1=some (r1,r2)) :
  Calls Tryd.prog 37 #[.int .i64 a0,.int .i64 a1] w fun e w'=>∃ v1_:Value,e = .returned (.agg #[.int .i64 r1,v1_])∧Kd.R k57 57 w' w.heap.size (fun _=>True) v1_ r2∧Below w.heap.size w w':=by
 have hu29:=Tryd.underlying29
 have hu57:=Tryd.underlying57
 have HB:=Aside0.mk (Below.refl w.heap.size w)
 have H:(spec_l04New.l0 k a0 a1 1 a0 ([]:List (S57)))=some (r1,r2):=h
 clear h
 have H':=Aside0.mk H
 clear H
 go_enter Tryd.func37,Tryd.ntmps37
 go_wp2_with (first | ((with_reducible refine gd_ 4 ?_);refine be_ 4 #[.int .i64 0,.slice none 0 0] 29 ?_;intro gb110 hg w3 hbox hb;refine as4_ (below_step (z3_ HB.out) hb) (hbox) ((z8_ HB.out:w.heap.size≤gb110)) ((z8_ HB.out:w.heap.size≤gb110)) ?_;clear HB;intro HB BK110 GW110 GE110;clear hb hbox hg) | ((with_reducible refine gd_ 5 ?_);refine be_ 5 #[.int .i64 0,.slice none 0 0] 29 ?_;intro gb111 hg w4 hbox hb;refine as7_ (blkB_ BK110.out hb) (below_step (z5_ HB.out GE110.out) hb) (hbox) ((z12_ HB.out GE110.out:w.heap.size≤gb111)) ((z12_ HB.out GE110.out:w.heap.size≤gb111)) (neL_ BK110.out hg) (neG_ BK110.out hg) ?_;clear BK110 HB;intro BK110 HB BK111 GW111 GE111 NB110_111 NB111_110;clear hb hbox hg;have hnb5:=NB111_110.out;have hnc5:=NB110_111.out;have ⟨hcz6_0,hcz6_1,hfz6_0,hfz6_1⟩:=cz2_ BK111.out))
 repeat (go_quiet (first | ((with_reducible refine gd_ 4 ?_);refine be_ 4 #[.int .i64 0,.slice none 0 0] 29 ?_;intro gb110 hg w3 hbox hb;refine as4_ (below_step (z3_ HB.out) hb) (hbox) ((z8_ HB.out:w.heap.size≤gb110)) ((z8_ HB.out:w.heap.size≤gb110)) ?_;clear HB;intro HB BK110 GW110 GE110;clear hb hbox hg) | ((with_reducible refine gd_ 5 ?_);refine be_ 5 #[.int .i64 0,.slice none 0 0] 29 ?_;intro gb111 hg w4 hbox hb;refine as7_ (blkB_ BK110.out hb) (below_step (z5_ HB.out GE110.out) hb) (hbox) ((z12_ HB.out GE110.out:w.heap.size≤gb111)) ((z12_ HB.out GE110.out:w.heap.size≤gb111)) (neL_ BK110.out hg) (neG_ BK110.out hg) ?_;clear BK110 HB;intro BK110 HB BK111 GW111 GE111 NB110_111 NB111_110;clear hb hbox hg;have hnb5:=NB111_110.out;have hnc5:=NB110_111.out;have ⟨hcz6_0,hcz6_1,hfz6_0,hfz6_1⟩:=cz2_ BK111.out));try go_wp2_with (first | ((with_reducible refine gd_ 4 ?_);refine be_ 4 #[.int .i64 0,.slice none 0 0] 29 ?_;intro gb110 hg w3 hbox hb;refine as4_ (below_step (z3_ HB.out) hb) (hbox) ((z8_ HB.out:w.heap.size≤gb110)) ((z8_ HB.out:w.heap.size≤gb110)) ?_;clear HB;intro HB BK110 GW110 GE110;clear hb hbox hg) | ((with_reducible refine gd_ 5 ?_);refine be_ 5 #[.int .i64 0,.slice none 0 0] 29 ?_;intro gb111 hg w4 hbox hb;refine as7_ (blkB_ BK110.out hb) (below_step (z5_ HB.out GE110.out) hb) (hbox) ((z12_ HB.out GE110.out:w.heap.size≤gb111)) ((z12_ HB.out GE110.out:w.heap.size≤gb111)) (neL_ BK110.out hg) (neG_ BK110.out hg) ?_;clear BK110 HB;intro BK110 HB BK111 GW111 GE111 NB110_111 NB111_110;clear hb hbox hg;have hnb5:=NB111_110.out;have hnc5:=NB110_111.out;have ⟨hcz6_0,hcz6_1,hfz6_0,hfz6_1⟩:=cz2_ BK111.out)))
 go_loopg [6] k (fun kq v6 w'=>∃ (x6_1:Int) (x112001_1:List (S57)) (u112001:Value),v6 = .int .i64 x6_1∧Aside0 (spec_l04New.l0 kq a0 a1 x6_1 a0 x112001_1=some (r1,r2))∧Aside0 (kq≤k)∧Aside0 (Kd.R k57 57 w' w.heap.size (fun _=>True) u112001 x112001_1)∧Aside0 (w'.heap[gb110]? = some (.cells #[.int .i64 0,(.slice none 0 0)] 29 (0,0)))∧Aside0 (w'.heap[gb111]? = some (.cells #[.int .i64 a0,u112001] 29 (0,0)))∧Aside0 (Below w.heap.size w w'))
 case atStart=>exact ⟨(1),(([]:List (S57))),(.slice none 0 0),(z1_),H',⟨Nat.le_refl _⟩,⟨z31_⟩,⟨z24_ NB110_111.out BK110.out⟩,⟨z23_ BK111.out⟩,⟨z7_ HB.out GE110.out GE111.out⟩⟩
 case round =>
  clear H'
  try clear p2
  try clear c3
  try clear c5
  try clear hcz6_0
  try clear hcz6_1
  try clear hfz6_0
  try clear hfz6_1
  obtain ⟨x6_1,x112001_1,u112001,rfl,HA,HK1,HO_112001,BK110,BK111,HB⟩:=hrel
  cases gk with
  | zero=>exact absurd HA.out (by simp [spec_l04New.l0])
  | succ k1 =>
   have H:=HA.out
   clear HA
   simp only [spec_l04New.l0] at H
   by_cases c7:x6_1≤a0
   ·rw [if_pos c7] at H
    have c7b0:decide (x6_1≤a0)=true:=decide_eq_true c7
    clear c7
    have H':=Aside0.mk H
    clear H
    go_wp2
    repeat (go_quiet (fail);try go_wp2)
    go_loopg [7] k1 (fun kq v7 w'=>∃ (x7_2:Int) (x112001_2:List (S57)) (u112001:Value),v7 = .int .i64 x7_2∧Aside0 (spec_l04New.l1 kq a0 a1 x6_1 x7_2 a0 x112001_2=some (r1,r2))∧Aside0 (kq≤k1)∧Aside0 (Kd.R k57 57 w' w.heap.size (fun _=>True) u112001 x112001_2)∧Aside0 (w'.heap[gb110]? = some (.cells #[.int .i64 0,(.slice none 0 0)] 29 (0,0)))∧Aside0 (w'.heap[gb111]? = some (.cells #[.int .i64 a0,u112001] 29 (0,0)))∧Aside0 (Below w.heap.size w w'))
    case atStart=>exact ⟨(1),(x112001_1),(u112001),(z1_),H',⟨Nat.le_refl _⟩,⟨z2_ HO_112001.out⟩,⟨z4_ BK110.out⟩,⟨z4_ BK111.out⟩,⟨z7_ HB.out GE110.out GE111.out⟩⟩
    case round =>
     clear H'
     try clear p2
     try clear c3
     try clear c5
     try clear c7
     try clear c7b0
     try clear hcz6_0
     try clear hcz6_1
     try clear hfz6_0
     try clear hfz6_1
     try clear p2
     obtain ⟨x7_2,x112001_2,u112001,rfl,HA,HK2,HO_112001,BK110,BK111,HB⟩:=hrel
     cases gk with
     | zero=>exact absurd HA.out (by simp [spec_l04New.l1])
     | succ k2 =>
      have H:=HA.out
      clear HA
      simp only [spec_l04New.l1] at H
      by_cases c8:x7_2≤a1
      ·rw [if_pos c8] at H
       have c8b0:decide (x7_2≤a1)=true:=decide_eq_true c8
       clear c8
       replace H:=Option.bind_eq_some_iff.mp H
       obtain ⟨t112,A90,H⟩:=H
       replace H:(if t112.size+1≤9223372036854775807 then ((spec_l01Dec.f k2 x7_2).bind fun t113=>(if (t112.size+1)+t113.size≤9223372036854775807 then ((spec_l04Fnv.f k2 ((t112 ++ (⟨#[45]⟩:ByteArray)) ++ t113)).bind fun t114=>(spec_l04New.l2 k2 a0 a1 x6_1 x7_2 0 a0 x112001_2 t114 x6_1)) else (none))) else (none))=some (r1,r2):=H
       have A9:=Aside0.mk A90
       clear A90
       by_cases c10:t112.size+1≤9223372036854775807
       ·rw [if_pos c10] at H
        have c10b0:=eq_true c10
        have c10b1:decide (t112.size+1≤9223372036854775807)=true:=decide_eq_true c10
        try have c10b2:(9223372036854775807<t112.size+1)=False:=eq_false (Nat.not_lt.2 c10)
        replace H:=Option.bind_eq_some_iff.mp H
        obtain ⟨t113,A110,H⟩:=H
        replace H:(if (t112.size+1)+t113.size≤9223372036854775807 then ((spec_l04Fnv.f k2 ((t112 ++ (⟨#[45]⟩:ByteArray)) ++ t113)).bind fun t114=>(spec_l04New.l2 k2 a0 a1 x6_1 x7_2 0 a0 x112001_2 t114 x6_1)) else (none))=some (r1,r2):=H
        have A11:=Aside0.mk A110
        clear A110
        by_cases c12:(t112.size+1)+t113.size≤9223372036854775807
        ·rw [if_pos c12] at H
         have c12b0:=eq_true c12
         have c12b1:decide ((t112.size+1)+t113.size≤9223372036854775807)=true:=decide_eq_true c12
         try have c12b2:(9223372036854775807<(t112.size+1)+t113.size)=False:=eq_false (Nat.not_lt.2 c12)
         replace H:=Option.bind_eq_some_iff.mp H
         obtain ⟨t114,A130,H⟩:=H
         replace H:(spec_l04New.l2 k2 a0 a1 x6_1 x7_2 0 a0 x112001_2 t114 x6_1)=some (r1,r2):=H
         have A13:=Aside0.mk A130
         clear A130
         have H':=Aside0.mk H
         clear H
         go_wp2_with (first | (go_at_call 62;(with_reducible refine (spec_l01Dec.calls k2 x6_1 t112 _ A9.out).mono ?_);rintro e w14 ⟨rfl,hb⟩;refine as4_ (Kd.R_below (z2_ HO_112001.out) hb) (blkB_ BK110.out hb) (blkB_ BK111.out hb) (below_step (z7_ HB.out GE110.out GE111.out) hb) ?_;clear HO_112001 BK110 BK111 HB;intro HO_112001 BK110 BK111 HB;(try clear hb)) | (go_at_call 62;(with_reducible refine (spec_l01Dec.calls k2 x7_2 t113 _ A11.out).mono ?_);rintro e w15 ⟨rfl,hb⟩;refine as4_ (Kd.R_below (z2_ HO_112001.out) hb) (blkB_ BK110.out hb) (blkB_ BK111.out hb) (below_step (z7_ HB.out GE110.out GE111.out) hb) ?_;clear HO_112001 BK110 BK111 HB;intro HO_112001 BK110 BK111 HB;(try clear hb)) | (go_at_call 61;(with_reducible refine (spec_l04Fnv.calls k2 ((t112 ++ (⟨#[45]⟩:ByteArray)) ++ t113) t114 _ A13.out).mono ?_);rintro e w' ⟨rfl,⟨nd,rfl⟩⟩;(try first | exact ⟨rfl,_,World.drewN_drewN _ _ _⟩ | exact ⟨rfl,_,Eq.trans (World.drewN_drewN _ _ _) (congrArg (World.drewN _) (Nat.add_assoc _ _ _))⟩)) | ((with_reducible refine gd_ 8 ?_);refine be_ 8 #[.int .i64 0,.int .i64 0] 57 ?_;intro gb115 hg w16 hbox hb;refine as11_ (Kd.R_below (Kd.R_elderB (z2_ HO_112001.out) gb115 (Nat.le_of_eq hg.symm)) hb) (blkB_ BK110.out hb) (blkB_ BK111.out hb) (below_step (z7_ HB.out GE110.out GE111.out) hb) (hbox) ((z16_ HB.out GE110.out GE111.out:w.heap.size≤gb115)) ((z16_ HB.out GE110.out GE111.out:w.heap.size≤gb115)) (neL_ BK110.out hg) (neG_ BK110.out hg) (neL_ BK111.out hg) (neG_ BK111.out hg) ?_;clear HO_112001 BK110 BK111 HB;intro HO_112001 BK110 BK111 HB BK115 GW115 GE115 NB110_115 NB115_110 NB111_115 NB115_111;clear hb hbox hg;have hnb17:=NB115_110.out;have hnc17:=NB110_115.out;have hnb18:=NB115_111.out;have hnc18:=NB111_115.out;have ⟨hcz19_0,hcz19_1,hfz19_0,hfz19_1⟩:=cz2_ BK115.out))
         repeat (go_quiet (first | (go_at_call 62;(with_reducible refine (spec_l01Dec.calls k2 x6_1 t112 _ A9.out).mono ?_);rintro e w14 ⟨rfl,hb⟩;refine as4_ (Kd.R_below (z2_ HO_112001.out) hb) (blkB_ BK110.out hb) (blkB_ BK111.out hb) (below_step (z7_ HB.out GE110.out GE111.out) hb) ?_;clear HO_112001 BK110 BK111 HB;intro HO_112001 BK110 BK111 HB;(try clear hb)) | (go_at_call 62;(with_reducible refine (spec_l01Dec.calls k2 x7_2 t113 _ A11.out).mono ?_);rintro e w15 ⟨rfl,hb⟩;refine as4_ (Kd.R_below (z2_ HO_112001.out) hb) (blkB_ BK110.out hb) (blkB_ BK111.out hb) (below_step (z7_ HB.out GE110.out GE111.out) hb) ?_;clear HO_112001 BK110 BK111 HB;intro HO_112001 BK110 BK111 HB;(try clear hb)) | (go_at_call 61;(with_reducible refine (spec_l04Fnv.calls k2 ((t112 ++ (⟨#[45]⟩:ByteArray)) ++ t113) t114 _ A13.out).mono ?_);rintro e w' ⟨rfl,⟨nd,rfl⟩⟩;(try first | exact ⟨rfl,_,World.drewN_drewN _ _ _⟩ | exact ⟨rfl,_,Eq.trans (World.drewN_drewN _ _ _) (congrArg (World.drewN _) (Nat.add_assoc _ _ _))⟩)) | ((with_reducible refine gd_ 8 ?_);refine be_ 8 #[.int .i64 0,.int .i64 0] 57 ?_;intro gb115 hg w16 hbox hb;refine as11_ (Kd.R_below (Kd.R_elderB (z2_ HO_112001.out) gb115 (Nat.le_of_eq hg.symm)) hb) (blkB_ BK110.out hb) (blkB_ BK111.out hb) (below_step (z7_ HB.out GE110.out GE111.out) hb) (hbox) ((z16_ HB.out GE110.out GE111.out:w.heap.size≤gb115)) ((z16_ HB.out GE110.out GE111.out:w.heap.size≤gb115)) (neL_ BK110.out hg) (neG_ BK110.out hg) (neL_ BK111.out hg) (neG_ BK111.out hg) ?_;clear HO_112001 BK110 BK111 HB;intro HO_112001 BK110 BK111 HB BK115 GW115 GE115 NB110_115 NB115_110 NB111_115 NB115_111;clear hb hbox hg;have hnb17:=NB115_110.out;have hnc17:=NB110_115.out;have hnb18:=NB115_111.out;have hnc18:=NB111_115.out;have ⟨hcz19_0,hcz19_1,hfz19_0,hfz19_1⟩:=cz2_ BK115.out));try go_wp2_with (first | (go_at_call 62;(with_reducible refine (spec_l01Dec.calls k2 x6_1 t112 _ A9.out).mono ?_);rintro e w14 ⟨rfl,hb⟩;refine as4_ (Kd.R_below (z2_ HO_112001.out) hb) (blkB_ BK110.out hb) (blkB_ BK111.out hb) (below_step (z7_ HB.out GE110.out GE111.out) hb) ?_;clear HO_112001 BK110 BK111 HB;intro HO_112001 BK110 BK111 HB;(try clear hb)) | (go_at_call 62;(with_reducible refine (spec_l01Dec.calls k2 x7_2 t113 _ A11.out).mono ?_);rintro e w15 ⟨rfl,hb⟩;refine as4_ (Kd.R_below (z2_ HO_112001.out) hb) (blkB_ BK110.out hb) (blkB_ BK111.out hb) (below_step (z7_ HB.out GE110.out GE111.out) hb) ?_;clear HO_112001 BK110 BK111 HB;intro HO_112001 BK110 BK111 HB;(try clear hb)) | (go_at_call 61;(with_reducible refine (spec_l04Fnv.calls k2 ((t112 ++ (⟨#[45]⟩:ByteArray)) ++ t113) t114 _ A13.out).mono ?_);rintro e w' ⟨rfl,⟨nd,rfl⟩⟩;(try first | exact ⟨rfl,_,World.drewN_drewN _ _ _⟩ | exact ⟨rfl,_,Eq.trans (World.drewN_drewN _ _ _) (congrArg (World.drewN _) (Nat.add_assoc _ _ _))⟩)) | ((with_reducible refine gd_ 8 ?_);refine be_ 8 #[.int .i64 0,.int .i64 0] 57 ?_;intro gb115 hg w16 hbox hb;refine as11_ (Kd.R_below (Kd.R_elderB (z2_ HO_112001.out) gb115 (Nat.le_of_eq hg.symm)) hb) (blkB_ BK110.out hb) (blkB_ BK111.out hb) (below_step (z7_ HB.out GE110.out GE111.out) hb) (hbox) ((z16_ HB.out GE110.out GE111.out:w.heap.size≤gb115)) ((z16_ HB.out GE110.out GE111.out:w.heap.size≤gb115)) (neL_ BK110.out hg) (neG_ BK110.out hg) (neL_ BK111.out hg) (neG_ BK111.out hg) ?_;clear HO_112001 BK110 BK111 HB;intro HO_112001 BK110 BK111 HB BK115 GW115 GE115 NB110_115 NB115_110 NB111_115 NB115_111;clear hb hbox hg;have hnb17:=NB115_110.out;have hnc17:=NB110_115.out;have hnb18:=NB115_111.out;have hnc18:=NB111_115.out;have ⟨hcz19_0,hcz19_1,hfz19_0,hfz19_1⟩:=cz2_ BK115.out)))
         go_loopg [9] k2 (fun kq v9 w'=>∃ (x9_3:Int),v9 = .int .i64 x9_3∧Aside0 (spec_l04New.l2 kq a0 a1 x6_1 x7_2 x9_3 a0 x112001_2 t114 x6_1=some (r1,r2))∧Aside0 (kq≤k2)∧Aside0 (Kd.R k57 57 w' w.heap.size (fun k_=>k_≠gb115) u112001 x112001_2)∧Aside0 (w'.heap[gb110]? = some (.cells #[.int .i64 0,(.slice none 0 0)] 29 (0,0)))∧Aside0 (w'.heap[gb111]? = some (.cells #[.int .i64 a0,u112001] 29 (0,0)))∧Aside0 (w'.heap[gb115]? = some (.cells #[.int .i64 t114,.int .i64 x6_1] 57 (0,0)))∧Aside0 (Below w.heap.size w w'))
         case atStart=>exact ⟨(0),(z1_),H',⟨Nat.le_refl _⟩,⟨by (with_reducible repeat (first | apply Kd.R_alloc | apply Kd.R_drewN | apply Kd.R_drew));exact Kd.R_mono (rf2_ (Kd.R_mono HO_112001.out (fun k_ hk=>(⟨hk,hk.2⟩:_∧k_≠gb115))) (fun _ hk=>hk.2)) (fun _ hk=>hk.1.2)⟩,⟨z24_ NB110_115.out BK110.out⟩,⟨z24_ NB111_115.out BK111.out⟩,⟨z23_ BK115.out⟩,⟨z11_ HB.out GE110.out GE111.out GE115.out⟩⟩
         case round =>
          clear H'
          try clear c1
          try clear p2
          try clear c3
          try clear c5
          try clear c7
          try clear c7b0
          try clear c8
          try clear c8b0
          try clear c10
          try clear c10b0
          try clear c10b1
          try clear c10b2
          try clear c12
          try clear c12b0
          try clear c12b1
          try clear c12b2
          try clear c17
          try clear c18
          try clear hcz19_0
          try clear hcz19_1
          try clear hcz6_0
          try clear hcz6_1
          try clear hfz19_0
          try clear hfz19_1
          try clear hfz6_0
          try clear hfz6_1
          try clear p2
          obtain ⟨x9_3,rfl,HA,HK3,HO_112001,BK110,BK111,BK115,HB⟩:=hrel
          cases gk with
          | zero=>exact absurd HA.out (by simp [spec_l04New.l2])
          | succ k3 =>
           have H:=HA.out
           clear HA
           simp only [spec_l04New.l2] at H
           have HC20:=Aside0.mk H
           clear H
           go_upto_region 10 with (fail)
           repeat (go_quiet (fail);go_upto_region 10 with (fail))
           go_cut [69] (fun v69 wc=>∃ (kq:Nat) (x69_19:Bool),v69 = .bool x69_19∧Aside0 (spec_l04New.j3 kq a0 a1 x6_1 x7_2 x9_3 x69_19 a0 x112001_2 t114 x6_1=some (r1,r2))∧Aside0 (kq≤k3)∧Aside0 (Kd.R k57 57 wc w.heap.size (fun k_=>k_≠gb115) u112001 x112001_2)∧Aside0 (wc.heap[gb110]? = some (.cells #[.int .i64 0,(.slice none 0 0)] 29 (0,0)))∧Aside0 (wc.heap[gb111]? = some (.cells #[.int .i64 a0,u112001] 29 (0,0)))∧Aside0 (wc.heap[gb115]? = some (.cells #[.int .i64 t114,.int .i64 x6_1] 57 (0,0)))∧Aside0 (Below w.heap.size w wc))
           case first =>
            have H:=HC20.out
            clear HC20
            by_cases c21:x9_3<(x112001_2.length:Int)
            ·rw [if_pos c21] at H
             have c21b0:decide (x9_3<(x112001_2.length:Int))=true:=decide_eq_true c21
             clear c21
             (first | rw [c21b0] | (simp only [i64_w,i32_w];rw [c21b0]) | skip)
             by_cases c22:0≤x9_3
             ·rw [if_pos c22] at H
              have c22b0:decide (0≤x9_3)=true:=decide_eq_true c22
              clear c22
              by_cases c23:((rd_T57 x112001_2 x9_3).f0)<t114
              ·rw [if_pos c23] at H
               have c23b0:decide (((rd_T57 x112001_2 x9_3).f0)<t114)=true:=decide_eq_true c23
               clear c23
               have H':=Aside0.mk H
               clear H
               have hnb24:=NB111_110.out
               have hnc24:=NB110_111.out
               have hnb25:=NB111_115.out
               have hnc25:=NB115_111.out
               have ⟨hcz26_0,hcz26_1,hfz26_0,hfz26_1⟩:=cz2_ BK111.out
               obtain ⟨Ao27,co27,eo27⟩:=Kd.R_slice HO_112001.out
               subst eo27
               have p116:0≤(x9_3:Int):=of_decide_eq_true (z0_)
               have q116:x9_3<(x112001_2.length:Int):=of_decide_eq_true (z0_)
               obtain ⟨ad116,e116,hx116_0,hx116_1⟩:=at_T57 (Kd.R_reads' HO_112001.out).2.2 x9_3 p116 q116
               cases e116
               replace p116:=eq_true p116
               replace q116:=eq_true q116
               have hnb28:=NB115_110.out
               have hnc28:=NB110_115.out
               have ⟨hcz29_0,hcz29_1,hfz29_0,hfz29_1⟩:=cz2_ BK115.out
               go_wp2
               repeat (go_quiet (fail);try go_wp2)
               go_meet
               case rel=>exact ⟨_,(true),(z1_),H',⟨z17_ HK1.out HK2.out HK3.out⟩,⟨z2_ HO_112001.out⟩,⟨z4_ BK110.out⟩,⟨z4_ BK111.out⟩,⟨z4_ BK115.out⟩,⟨z11_ HB.out GE110.out GE111.out GE115.out⟩⟩
              ·rw [if_neg c23] at H
               have c23b0:decide (((rd_T57 x112001_2 x9_3).f0)<t114)=false:=decide_eq_false c23
               clear c23
               by_cases c30:((rd_T57 x112001_2 x9_3).f0)=t114
               ·rw [if_pos c30] at H
                have c30b0:(((rd_T57 x112001_2 x9_3).f0) == t114)=true:=beq_iff_eq.mpr c30
                have c30b1:(((rd_T57 x112001_2 x9_3).f0) != t114)=false:=bne_eq_false_iff_eq.mpr c30
                clear c30
                have H':=Aside0.mk H
                clear H
                have hnb31:=NB111_110.out
                have hnc31:=NB110_111.out
                have hnb32:=NB111_115.out
                have hnc32:=NB115_111.out
                have ⟨hcz33_0,hcz33_1,hfz33_0,hfz33_1⟩:=cz2_ BK111.out
                obtain ⟨Ao34,co34,eo34⟩:=Kd.R_slice HO_112001.out
                subst eo34
                have p116:0≤(x9_3:Int):=of_decide_eq_true (z0_)
                have q116:x9_3<(x112001_2.length:Int):=of_decide_eq_true (z0_)
                obtain ⟨ad116,e116,hx116_0,hx116_1⟩:=at_T57 (Kd.R_reads' HO_112001.out).2.2 x9_3 p116 q116
                cases e116
                replace p116:=eq_true p116
                replace q116:=eq_true q116
                have hnb35:=NB115_110.out
                have hnc35:=NB110_115.out
                have ⟨hcz36_0,hcz36_1,hfz36_0,hfz36_1⟩:=cz2_ BK115.out
                have p117:0≤(x9_3:Int):=of_decide_eq_true (z0_)
                have q117:x9_3<(x112001_2.length:Int):=of_decide_eq_true (z0_)
                obtain ⟨ad117,e117,hx117_0,hx117_1⟩:=at_T57 (Kd.R_reads' HO_112001.out).2.2 x9_3 p117 q117
                obtain rfl:ad116=ad117:=(by injection e117)
                replace p117:=eq_true p117
                replace q117:=eq_true q117
                have p118:0≤(x9_3:Int):=of_decide_eq_true (z0_)
                have q118:x9_3<(x112001_2.length:Int):=of_decide_eq_true (z0_)
                obtain ⟨ad118,e118,hx118_0,hx118_1⟩:=at_T57 (Kd.R_reads' HO_112001.out).2.2 x9_3 p118 q118
                obtain rfl:ad116=ad118:=(by injection e118)
                replace p118:=eq_true p118
                replace q118:=eq_true q118
                go_wp2
                repeat (go_quiet (fail);try go_wp2)
                go_meet
                case rel=>exact ⟨_,(decide (((rd_T57 x112001_2 x9_3).f1)<x6_1)),(z1_),H',⟨z17_ HK1.out HK2.out HK3.out⟩,⟨z2_ HO_112001.out⟩,⟨z4_ BK110.out⟩,⟨z4_ BK111.out⟩,⟨z4_ BK115.out⟩,⟨z11_ HB.out GE110.out GE111.out GE115.out⟩⟩
               ·rw [if_neg c30] at H
                have c30b0:(((rd_T57 x112001_2 x9_3).f0) == t114)=false:=beq_eq_false_iff_ne.mpr c30
                have c30b1:(((rd_T57 x112001_2 x9_3).f0) != t114)=true:=bne_iff_ne.mpr c30
                have H':=Aside0.mk H
                clear H
                have hnb37:=NB111_110.out
                have hnc37:=NB110_111.out
                have hnb38:=NB111_115.out
                have hnc38:=NB115_111.out
                have ⟨hcz39_0,hcz39_1,hfz39_0,hfz39_1⟩:=cz2_ BK111.out
                obtain ⟨Ao40,co40,eo40⟩:=Kd.R_slice HO_112001.out
                subst eo40
                have p116:0≤(x9_3:Int):=of_decide_eq_true (z0_)
                have q116:x9_3<(x112001_2.length:Int):=of_decide_eq_true (z0_)
                obtain ⟨ad116,e116,hx116_0,hx116_1⟩:=at_T57 (Kd.R_reads' HO_112001.out).2.2 x9_3 p116 q116
                cases e116
                replace p116:=eq_true p116
                replace q116:=eq_true q116
                have hnb41:=NB115_110.out
                have hnc41:=NB110_115.out
                have ⟨hcz42_0,hcz42_1,hfz42_0,hfz42_1⟩:=cz2_ BK115.out
                have p117:0≤(x9_3:Int):=of_decide_eq_true (z0_)
                have q117:x9_3<(x112001_2.length:Int):=of_decide_eq_true (z0_)
                obtain ⟨ad117,e117,hx117_0,hx117_1⟩:=at_T57 (Kd.R_reads' HO_112001.out).2.2 x9_3 p117 q117
                obtain rfl:ad116=ad117:=(by injection e117)
                replace p117:=eq_true p117
                replace q117:=eq_true q117
                go_wp2
                repeat (go_quiet (fail);try go_wp2)
                go_meet
                case rel=>exact ⟨_,(false),(z1_),H',⟨z17_ HK1.out HK2.out HK3.out⟩,⟨z2_ HO_112001.out⟩,⟨z4_ BK110.out⟩,⟨z4_ BK111.out⟩,⟨z4_ BK115.out⟩,⟨z11_ HB.out GE110.out GE111.out GE115.out⟩⟩
             ·rw [if_neg c22] at H
              exact absurd H (by simp)
            ·rw [if_neg c21] at H
             have c21b0:decide (x9_3<(x112001_2.length:Int))=false:=decide_eq_false c21
             clear c21
             (first | rw [c21b0] | (simp only [i64_w,i32_w];rw [c21b0]) | skip)
             have H':=Aside0.mk H
             clear H
             have hnb43:=NB111_110.out
             have hnc43:=NB110_111.out
             have hnb44:=NB111_115.out
             have hnc44:=NB115_111.out
             have ⟨hcz45_0,hcz45_1,hfz45_0,hfz45_1⟩:=cz2_ BK111.out
             obtain ⟨Ao46,co46,eo46⟩:=Kd.R_slice HO_112001.out
             subst eo46
             go_wp2
             repeat (go_quiet (fail);try go_wp2)
             go_meet
             case rel=>exact ⟨_,(false),(z1_),H',⟨z17_ HK1.out HK2.out HK3.out⟩,⟨z2_ HO_112001.out⟩,⟨z4_ BK110.out⟩,⟨z4_ BK111.out⟩,⟨z4_ BK115.out⟩,⟨z11_ HB.out GE110.out GE111.out GE115.out⟩⟩
           case rest =>
            clear HC20
            try clear c1
            try clear p1
            try clear q1
            try clear hx1
            try clear c2
            try clear p2
            try clear c3
            try clear c4
            try clear c5
            try clear c7
            try clear c7b0
            try clear c8
            try clear c8b0
            try clear c10
            try clear c10b0
            try clear c10b1
            try clear c10b2
            try clear p11
            try clear q11
            try clear hx11
            try clear c12
            try clear c12b0
            try clear c12b1
            try clear c12b2
            try clear c17
            try clear c18
            try clear c21
            try clear c21b0
            try clear c22
            try clear c22b0
            try clear c23
            try clear c23b0
            try clear c24
            try clear c25
            try clear c28
            try clear c30
            try clear c30b0
            try clear c30b1
            try clear c31
            try clear c32
            try clear c35
            try clear c37
            try clear c38
            try clear c41
            try clear c43
            try clear c44
            try clear hcz19_0
            try clear hcz19_1
            try clear hcz26_0
            try clear hcz26_1
            try clear hcz29_0
            try clear hcz29_1
            try clear hcz33_0
            try clear hcz33_1
            try clear hcz36_0
            try clear hcz36_1
            try clear hcz39_0
            try clear hcz39_1
            try clear hcz42_0
            try clear hcz42_1
            try clear hcz45_0
            try clear hcz45_1
            try clear hcz6_0
            try clear hcz6_1
            try clear hfz19_0
            try clear hfz19_1
            try clear hfz26_0
            try clear hfz26_1
            try clear hfz29_0
            try clear hfz29_1
            try clear hfz33_0
            try clear hfz33_1
            try clear hfz36_0
            try clear hfz36_1
            try clear hfz39_0
            try clear hfz39_1
            try clear hfz42_0
            try clear hfz42_1
            try clear hfz45_0
            try clear hfz45_1
            try clear hfz6_0
            try clear hfz6_1
            try clear hx116_0
            try clear hx116_1
            try clear hx117_0
            try clear hx117_1
            try clear hx118_0
            try clear hx118_1
            try clear p116
            try clear p117
            try clear p118
            try clear p2
            try clear q116
            try clear q117
            try clear q118
            obtain ⟨kq,x69_19,rfl,HA,HJ19,HO_112001,BK110,BK111,BK115,HB⟩:=hcut
            cases kq with
            | zero=>exact absurd HA.out (by simp [spec_l04New.j3])
            | succ kj19 =>
             have H:=HA.out
             clear HA
             simp only [spec_l04New.j3] at H
             by_cases c47:x69_19=true
             ·subst c47
              have H1:(spec_l04New.l2 kj19 a0 a1 x6_1 x7_2 (wrap64 (x9_3+1)) a0 x112001_2 t114 x6_1)=some (r1,r2):=by rw [if_pos rfl] at H;exact H
              clear H
              have H:=H1
              clear H1
              have H':=Aside0.mk H
              clear H
              go_wp2
              repeat (go_quiet (fail);try go_wp2)
              go_roundg kj19
              case measure=>have:=HK1.out;have:=HK2.out;have:=HK3.out;have:=HJ19.out;omega
              case rel=>exact ⟨(wrap64 (x9_3+1)),(z1_),H',⟨by have:=HK1.out;have:=HK2.out;have:=HK3.out;have:=HJ19.out;omega⟩,⟨z2_ HO_112001.out⟩,⟨z4_ BK110.out⟩,⟨z4_ BK111.out⟩,⟨z4_ BK115.out⟩,⟨z11_ HB.out GE110.out GE111.out GE115.out⟩⟩
             ·replace c47:=Bool.eq_false_iff.mpr c47
              subst c47
              have H1:((some (([]:List (S57)):List (S57))).bind fun y119=>(if 0≤x9_3 then (if x9_3≤(x112001_2.length:Int) then ((some (x112001_2.take (x9_3:Int).toNat:List (S57))).bind fun y122=>(if y119.length+y122.length<8796093022208 then ((some (y119 ++ y122:List (S57))).bind fun y126=>(if y126.length<8796093022208 then ((some (y126 ++ [(⟨t114,x6_1⟩:S57)]:List (S57))).bind fun y129=>((some (x112001_2.drop (x9_3:Int).toNat:List (S57))).bind fun y132=>(if y129.length+y132.length<8796093022208 then (spec_l04New.l1 kj19 a0 a1 x6_1 (wrap64 (x7_2+1)) a0 (y129 ++ y132)) else (none)))) else (none))) else (none))) else (none)) else (none)))=some (r1,r2):=by rw [if_neg (show ¬ (false=true) by decide)] at H;exact H
              clear H
              have H:=H1
              clear H1
              obtain ⟨y119,hy119⟩:∃ y_:List (S57),y_=(([]:List (S57))):=⟨_,rfl⟩
              replace H:(if 0≤x9_3 then (if x9_3≤(x112001_2.length:Int) then ((some (x112001_2.take (x9_3:Int).toNat:List (S57))).bind fun y122=>(if y119.length+y122.length<8796093022208 then ((some (y119 ++ y122:List (S57))).bind fun y126=>(if y126.length<8796093022208 then ((some (y126 ++ [(⟨t114,x6_1⟩:S57)]:List (S57))).bind fun y129=>((some (x112001_2.drop (x9_3:Int).toNat:List (S57))).bind fun y132=>(if y129.length+y132.length<8796093022208 then (spec_l04New.l1 kj19 a0 a1 x6_1 (wrap64 (x7_2+1)) a0 (y129 ++ y132)) else (none)))) else (none))) else (none))) else (none)) else (none))=some (r1,r2):=by first | (rw [hy119];with_reducible exact H) | (have H2_:=(Option.bind_some _ _).symm.trans H;rw [hy119];with_reducible exact H2_) | (have H2_:=(Option.bind_some _ _).symm.trans H;with_reducible exact H2_) | with_reducible exact H | (rw [hy119];exact H) | exact H
              have Ny119:=Aside0.mk hy119
              clear hy119
              by_cases c48:0≤x9_3
              ·rw [if_pos c48] at H
               have c48b0:=eq_true c48
               have c48b1:decide (0≤x9_3)=true:=decide_eq_true c48
               clear c48
               by_cases c49:x9_3≤(x112001_2.length:Int)
               ·rw [if_pos c49] at H
                have c49b0:=eq_true c49
                have c49b1:decide (x9_3≤(x112001_2.length:Int))=true:=decide_eq_true c49
                clear c49
                obtain ⟨y122,hy122⟩:∃ y_:List (S57),y_=(x112001_2.take (x9_3:Int).toNat):=⟨_,rfl⟩
                replace H:(if y119.length+y122.length<8796093022208 then ((some (y119 ++ y122:List (S57))).bind fun y126=>(if y126.length<8796093022208 then ((some (y126 ++ [(⟨t114,x6_1⟩:S57)]:List (S57))).bind fun y129=>((some (x112001_2.drop (x9_3:Int).toNat:List (S57))).bind fun y132=>(if y129.length+y132.length<8796093022208 then (spec_l04New.l1 kj19 a0 a1 x6_1 (wrap64 (x7_2+1)) a0 (y129 ++ y132)) else (none)))) else (none))) else (none))=some (r1,r2):=by first | (rw [hy122];with_reducible exact H) | (have H2_:=(Option.bind_some _ _).symm.trans H;rw [hy122];with_reducible exact H2_) | (have H2_:=(Option.bind_some _ _).symm.trans H;with_reducible exact H2_) | with_reducible exact H | (rw [hy122];exact H) | exact H
                have Ny122:=Aside0.mk hy122
                clear hy122
                by_cases c50:y119.length+y122.length<8796093022208
                ·rw [if_pos c50] at H
                 have LMc50:=Aside0.mk c50
                 clear c50
                 obtain ⟨y126,hy126⟩:∃ y_:List (S57),y_=(y119 ++ y122):=⟨_,rfl⟩
                 replace H:(if y126.length<8796093022208 then ((some (y126 ++ [(⟨t114,x6_1⟩:S57)]:List (S57))).bind fun y129=>((some (x112001_2.drop (x9_3:Int).toNat:List (S57))).bind fun y132=>(if y129.length+y132.length<8796093022208 then (spec_l04New.l1 kj19 a0 a1 x6_1 (wrap64 (x7_2+1)) a0 (y129 ++ y132)) else (none)))) else (none))=some (r1,r2):=by first | (rw [hy126];with_reducible exact H) | (have H2_:=(Option.bind_some _ _).symm.trans H;rw [hy126];with_reducible exact H2_) | (have H2_:=(Option.bind_some _ _).symm.trans H;with_reducible exact H2_) | with_reducible exact H | (rw [hy126];exact H) | exact H
                 have Ny126:=Aside0.mk hy126
                 clear hy126
                 by_cases c51:y126.length<8796093022208
                 ·rw [if_pos c51] at H
                  have LMc51:=Aside0.mk c51
                  clear c51
                  obtain ⟨y129,hy129⟩:∃ y_:List (S57),y_=(y126 ++ [(⟨t114,x6_1⟩:S57)]):=⟨_,rfl⟩
                  replace H:((some (x112001_2.drop (x9_3:Int).toNat:List (S57))).bind fun y132=>(if y129.length+y132.length<8796093022208 then (spec_l04New.l1 kj19 a0 a1 x6_1 (wrap64 (x7_2+1)) a0 (y129 ++ y132)) else (none)))=some (r1,r2):=by first | (rw [hy129];with_reducible exact H) | (have H2_:=(Option.bind_some _ _).symm.trans H;rw [hy129];with_reducible exact H2_) | (have H2_:=(Option.bind_some _ _).symm.trans H;with_reducible exact H2_) | with_reducible exact H | (rw [hy129];exact H) | exact H
                  have Ny129:=Aside0.mk hy129
                  clear hy129
                  have c52b0:=eq_true (of_decide_eq_true (z0_):0≤x9_3)
                  have c53b0:=eq_true (of_decide_eq_true (z0_):x9_3≤(x112001_2.length:Int))
                  obtain ⟨y132,hy132⟩:∃ y_:List (S57),y_=(x112001_2.drop (x9_3:Int).toNat):=⟨_,rfl⟩
                  replace H:(if y129.length+y132.length<8796093022208 then (spec_l04New.l1 kj19 a0 a1 x6_1 (wrap64 (x7_2+1)) a0 (y129 ++ y132)) else (none))=some (r1,r2):=by first | (rw [hy132];with_reducible exact H) | (have H2_:=(Option.bind_some _ _).symm.trans H;rw [hy132];with_reducible exact H2_) | (have H2_:=(Option.bind_some _ _).symm.trans H;with_reducible exact H2_) | with_reducible exact H | (rw [hy132];exact H) | exact H
                  have Ny132:=Aside0.mk hy132
                  clear hy132
                  by_cases c54:y129.length+y132.length<8796093022208
                  ·rw [if_pos c54] at H
                   have LMc54:=Aside0.mk c54
                   clear c54
                   obtain ⟨y136,hy136⟩:∃ y_:List (S57),y_=(y129 ++ y132):=⟨_,rfl⟩
                   replace H:(spec_l04New.l1 kj19 a0 a1 x6_1 (wrap64 (x7_2+1)) a0 y136)=some (r1,r2):=by first | (rw [hy136];with_reducible exact H) | (have H2_:=(Option.bind_some _ _).symm.trans H;rw [hy136];with_reducible exact H2_) | (have H2_:=(Option.bind_some _ _).symm.trans H;with_reducible exact H2_) | with_reducible exact H | (rw [hy136];exact H) | exact H
                   have Ny136:=Aside0.mk hy136
                   clear hy136
                   have H':=Aside0.mk H
                   clear H
                   go_wp2_with (first | ((with_reducible refine gd_ 72 ?_);refine Kd.R_lit k57 _ 57 ?hg (N:=72) ?hd (xs:=([]:List (S57))) (inner:=[]) (ok:=fun _=>True) (okp:=fun _=>True) ?hr ?hp (fun _ hk=>hk) trivial (Below.refl _ _) (Nat.le_refl _) (by simp) ?_;(case hd=>rfl);(case hg=>rfl);(case hr=>first | (go_simp;done) | (go_simp;rfl));(case hp=>exact (Reps.none _ _));intro v120 w55 ho56 hb hg_ hnew_;clear hg_ hnew_;(first | rw [← Ny119.out] at ho56 | (simp only [Int.reduceToNat] at ho56;rw [← Ny119.out] at ho56));refine as6_ (Kd.R_elder' (z2_ HO_112001.out) (Kd.R_base ho56) hb) (Kd.R_lower (Kd.R_newB (Kd.R_new' ho56 (Kd.R_lt (z2_ HO_112001.out))) (g:=gb115) (o:=.cells #[.int .i64 t114,.int .i64 x6_1] 57 (0,0)) (z4_ BK115.out)) (below_size (z11_ HB.out GE110.out GE111.out GE115.out))) (blkB_ BK110.out hb) (blkB_ BK111.out hb) (blkB_ BK115.out hb) (below_step (z11_ HB.out GE110.out GE111.out GE115.out) hb) ?_;clear HO_112001 BK110 BK111 BK115 HB;intro HO_112001 HO121 BK110 BK111 BK115 HB;clear hb ho56;have hnb57:=NB111_110.out;have hnc57:=NB110_111.out;have hnb58:=NB111_115.out;have hnc58:=NB115_111.out;have ⟨hcz59_0,hcz59_1,hfz59_0,hfz59_1⟩:=cz2_ BK111.out;obtain ⟨Ao61,co61,eo61⟩:=Kd.R_slice HO_112001.out;subst eo61;have q60:(x9_3:Int)≤((x112001_2.length:Int):Int):=of_decide_eq_true (z0_);obtain ⟨i060,hi060,_,hsz60,_⟩:=info_parts info57;have hroom60:x112001_2.length≤co61:=(Kd.R_reads' HO_112001.out).2.1;have hC60:Kd.C k57 _ Ao61 x112001_2.length x112001_2:=(Kd.R_reads' HO_112001.out).2.2;have hcut60:=cut_to (P:=Tryd.prog) 27 57 .i64 Tryd.underlying27 hi060 Ao61 x112001_2.length co61 x9_3 (of_decide_eq_true (z0_)) q60 hroom60;have hr60:=Kd.C_take (m:=(x9_3:Int).toNat) hC60 (by omega);have hy60:y122.length=(x9_3:Int).toNat:=(by rw [Ny122.out,List.length_take];omega);rw [← Ny122.out] at hr60;rw [← hy60] at hcut60;have HR125:=Aside0.mk hr60;have HC125:=Aside0.mk (show y122.length≤co61 from by omega);clear hr60 hC60 hroom60 hi060 hsz60;have KY60:=Aside0.mk hy60;clear hy60;have KL60:=Aside0.mk (show (x9_3:Int).toNat≤x112001_2.length from by omega);replace q60:=eq_true q60) | ((with_reducible refine gate_builtin (b:=.append) (xs:=#[.tmp 72,.tmp 76]) rfl ?_);at_builtin;refine Kd.R_append_rows k57 (w0:=w) w.heap.size rfl (.tmp 72) (.tmp 76) 27 57 (.agg #[(.int .i64 0),(.int .i64 0)]) 16 rfl Tryd.underlying27 info57 rfl (by decide) (by omega) v120 y119 y122 _ _ _ (fun k_=>some k_≠(.slice Ao61 x112001_2.length co61:Value).ownBlock∧k_≠gb115) (fun _=>False) rfl rfl ?aO ?aR (fun _ _ h=>h) (fun _ h=>h.elim) ?aF ?aB ?aS ?aL ?_;(case aR=>repeat (first | exact (z25_ HR125.out) | (with_reducible refine Kd.C_alloc ?_ _) | (with_reducible refine Kd.C_drewN ?_ _) | (with_reducible refine Kd.C_drew ?_)));(case aB=>exact (z11_ HB.out GE110.out GE111.out GE115.out));(case aF=>exact (fun k_ hk=>⟨Kd.fresh' (Kd.R_lt (z2_ HO_112001.out)) k_ hk,Kd.freshB (g:=gb115) (o:=.cells #[.int .i64 t114,.int .i64 x6_1] 57 (0,0)) (z4_ BK115.out) k_ hk⟩));(case aO=>exact (z37_ HO121.out));(case aS=>exact (below_size (z11_ HB.out GE110.out GE111.out GE115.out)));(case aL=>have:=LMc50.out;omega);intro v127 w62 ho hb hg hat;rw [← Ny126.out] at ho;refine as7_ (Kd.R_after (ok:=(fun k_=>k_≠gb115)) (z2_ HO_112001.out) hg hat) (blk_grown (g:=gb110) (o:=.cells #[.int .i64 0,.slice none 0 0] 29 (0,0)) (z4_ BK110.out) hg (Kd.R_ne HO121.out BK110.out (by decide))) (blk_grown (g:=gb111) (o:=.cells #[.int .i64 a0,.slice Ao61 x112001_2.length co61] 29 (0,0)) (z4_ BK111.out) hg (Kd.R_ne HO121.out BK111.out (by decide))) (blk_grown (g:=gb115) (o:=.cells #[.int .i64 t114,.int .i64 x6_1] 57 (0,0)) (z4_ BK115.out) hg (Kd.R_away HO121.out (fun _ hk=>hk.2))) (hb) ((show Kd.C k57 w62 Ao61 y122.length y122 from by rw [Ny122.out];exact Kd.C_take (m:=(x9_3:Int).toNat) ((Kd.R_reads' (Kd.R_after (ok:=(fun k_=>k_≠gb115)) (z2_ HO_112001.out) hg hat)).2.2) KL60.out)) (ho) ?_;clear HO_112001 BK110 BK111 BK115 HB HR125 HO121;intro HO_112001 BK110 BK111 BK115 HB HR125 HO128;clear ho hb hg hat;have hnb63:=NB115_110.out;have hnc63:=NB110_115.out;have ⟨hcz64_0,hcz64_1,hfz64_0,hfz64_1⟩:=cz2_ BK115.out) | ((with_reducible refine gate_builtin (b:=.append) (xs:=#[.tmp 78,.tmp 80]) rfl ?_);at_builtin;refine Kd.R_append k57 (w0:=w) w.heap.size rfl (.tmp 78) (.tmp 80) 27 57 (.agg #[(.int .i64 0),(.int .i64 0)]) 16 rfl Tryd.underlying27 info57 rfl (by decide) (by omega) v127 y126 (⟨t114,x6_1⟩:S57) [.int .i64 t114,.int .i64 x6_1] (fun k_=>some k_≠(.slice Ao61 x112001_2.length co61:Value).ownBlock∧k_≠gb115) (fun _=>False) rfl rfl ?aP (fun _ hk=>hk.elim) ?aF ?aO ?aB ?aS ?aL ?_;(case aP=>exact k57_mkM _ _ _ (⟨t114,x6_1⟩:S57));(case aB=>exact (z11_ HB.out GE110.out GE111.out GE115.out));(case aF=>exact (fun k_ hk=>⟨Kd.fresh' (Kd.R_lt (z2_ HO_112001.out)) k_ hk,Kd.freshB (g:=gb115) (o:=.cells #[.int .i64 t114,.int .i64 x6_1] 57 (0,0)) (z4_ BK115.out) k_ hk⟩));(case aO=>exact (z2_ HO128.out));(case aS=>exact (below_size (z11_ HB.out GE110.out GE111.out GE115.out)));(case aL=>have:=LMc51.out;omega);intro v130 w65 ho hb hg hat;rw [← Ny129.out] at ho;refine as7_ (Kd.R_after (ok:=(fun k_=>k_≠gb115)) (z2_ HO_112001.out) hg hat) (blk_grown (g:=gb110) (o:=.cells #[.int .i64 0,.slice none 0 0] 29 (0,0)) (z4_ BK110.out) hg (Kd.R_ne HO128.out BK110.out (by decide))) (blk_grown (g:=gb111) (o:=.cells #[.int .i64 a0,.slice Ao61 x112001_2.length co61] 29 (0,0)) (z4_ BK111.out) hg (Kd.R_ne HO128.out BK111.out (by decide))) (blk_grown (g:=gb115) (o:=.cells #[.int .i64 t114,.int .i64 x6_1] 57 (0,0)) (z4_ BK115.out) hg (Kd.R_away HO128.out (fun _ hk=>hk.2))) (hb) ((show Kd.C k57 w65 Ao61 y122.length y122 from by rw [Ny122.out];exact Kd.C_take (m:=(x9_3:Int).toNat) ((Kd.R_reads' (Kd.R_after (ok:=(fun k_=>k_≠gb115)) (z2_ HO_112001.out) hg hat)).2.2) KL60.out)) (ho) ?_;clear HO_112001 BK110 BK111 BK115 HB HR125 HO128;intro HO_112001 BK110 BK111 BK115 HB HR125 HO131;clear ho hb hg hat;have ⟨hcz66_0,hcz66_1,hfz66_0,hfz66_1⟩:=cz2_ BK111.out;have q67:(x9_3:Int)≤((x112001_2.length:Int):Int):=of_decide_eq_true (z0_);obtain ⟨i067,hi067,_,hsz67,_⟩:=info_parts info57;have hroom67:x112001_2.length≤co61:=(Kd.R_reads' HO_112001.out).2.1;have hC67:Kd.C k57 _ Ao61 x112001_2.length x112001_2:=(Kd.R_reads' HO_112001.out).2.2;have q067:(0:Int)≤(x9_3:Int):=of_decide_eq_true (z0_);have hcut67:=cut_from (P:=Tryd.prog) 27 57 .i64 Tryd.underlying27 hi067 2 hsz67 Ao61 x112001_2.length co61 x9_3 q067 q67;have hr67:=Kd.C_drop (m:=(x9_3:Int).toNat) (c:=co61) hC67 (by omega) hroom67;obtain ⟨A67,hA67⟩:∃ A1,A1=(if co61=(x9_3:Int).toNat then Ao61 else (Ao61:Option Addr).map (·.add ((x9_3:Int).toNat*2))):=⟨_,rfl⟩;obtain ⟨c67,hc67⟩:∃ c1,c1=co61-(x9_3:Int).toNat:=⟨_,rfl⟩;have hy67:y132.length=x112001_2.length-(x9_3:Int).toNat:=(by rw [Ny132.out,List.length_drop] <;> omega);rw [show (x112001_2).drop (x9_3:Int).toNat=y132 from Ny132.out.symm] at hr67;replace hr67:Kd.C k57 _ A67 y132.length y132:=(by rw [hA67];exact hr67);rw [← hy67,← hA67,← hc67] at hcut67;have HR135:=Aside0.mk hr67;have HC135:=Aside0.mk (show y132.length≤c67 from by rw [hy67,hc67];exact Nat.sub_le_sub_right hroom67 _);clear hr67 hC67 hroom67 hi067 hsz67 hc67;have KY67:=Aside0.mk hy67;have KA67:=Aside0.mk hA67;clear hy67 hA67;have KL67:=Aside0.mk (show (x9_3:Int).toNat≤x112001_2.length from by omega);replace q67:=eq_true q67) | ((with_reducible refine gate_builtin (b:=.append) (xs:=#[.tmp 82,.tmp 86]) rfl ?_);at_builtin;refine Kd.R_append_rows k57 (w0:=w) w.heap.size rfl (.tmp 82) (.tmp 86) 27 57 (.agg #[(.int .i64 0),(.int .i64 0)]) 16 rfl Tryd.underlying27 info57 rfl (by decide) (by omega) v130 y129 y132 _ _ _ (fun k_=>some k_≠(.slice Ao61 x112001_2.length co61:Value).ownBlock∧k_≠gb115) (fun _=>False) rfl rfl ?aO ?aR (fun _ _ h=>h) (fun _ h=>h.elim) ?aF ?aB ?aS ?aL ?_;(case aR=>repeat (first | exact (z25_ HR135.out) | (with_reducible refine Kd.C_alloc ?_ _) | (with_reducible refine Kd.C_drewN ?_ _) | (with_reducible refine Kd.C_drew ?_)));(case aB=>exact (z11_ HB.out GE110.out GE111.out GE115.out));(case aF=>exact (fun k_ hk=>⟨Kd.fresh' (Kd.R_lt (z2_ HO_112001.out)) k_ hk,Kd.freshB (g:=gb115) (o:=.cells #[.int .i64 t114,.int .i64 x6_1] 57 (0,0)) (z4_ BK115.out) k_ hk⟩));(case aO=>exact (z2_ HO131.out));(case aS=>exact (below_size (z11_ HB.out GE110.out GE111.out GE115.out)));(case aL=>have:=LMc54.out;omega);intro v137 w68 ho hb hg hat;rw [← Ny136.out] at ho;refine as8_ (Kd.R_after (ok:=(fun k_=>k_≠gb115)) (z2_ HO_112001.out) hg hat) (blk_grown (g:=gb110) (o:=.cells #[.int .i64 0,.slice none 0 0] 29 (0,0)) (z4_ BK110.out) hg (Kd.R_ne HO131.out BK110.out (by decide))) (blk_grown (g:=gb111) (o:=.cells #[.int .i64 a0,.slice Ao61 x112001_2.length co61] 29 (0,0)) (z4_ BK111.out) hg (Kd.R_ne HO131.out BK111.out (by decide))) (blk_grown (g:=gb115) (o:=.cells #[.int .i64 t114,.int .i64 x6_1] 57 (0,0)) (z4_ BK115.out) hg (Kd.R_away HO131.out (fun _ hk=>hk.2))) (hb) ((show Kd.C k57 w68 Ao61 y122.length y122 from by rw [Ny122.out];exact Kd.C_take (m:=(x9_3:Int).toNat) ((Kd.R_reads' (Kd.R_after (ok:=(fun k_=>k_≠gb115)) (z2_ HO_112001.out) hg hat)).2.2) KL60.out)) ((show Kd.C k57 w68 A67 y132.length y132 from by rw [Ny132.out,KA67.out];exact Kd.C_drop (m:=(x9_3:Int).toNat) (c:=co61) ((Kd.R_reads' (Kd.R_after (ok:=(fun k_=>k_≠gb115)) (z2_ HO_112001.out) hg hat)).2.2) KL67.out ((Kd.R_reads' (Kd.R_after (ok:=(fun k_=>k_≠gb115)) (z2_ HO_112001.out) hg hat)).2.1))) (ho) ?_;clear HO_112001 BK110 BK111 BK115 HB HR125 HR135 HO131;intro HO_112001 BK110 BK111 BK115 HB HR125 HR135 HO138;clear ho hb hg hat;obtain ⟨Ao69,co69,eo69⟩:=Kd.R_slice HO138.out;subst eo69;have ⟨hcz70_0,hcz70_1,hfz70_0,hfz70_1⟩:=cz2_ BK111.out))
                   repeat (go_quiet (first | ((with_reducible refine gd_ 72 ?_);refine Kd.R_lit k57 _ 57 ?hg (N:=72) ?hd (xs:=([]:List (S57))) (inner:=[]) (ok:=fun _=>True) (okp:=fun _=>True) ?hr ?hp (fun _ hk=>hk) trivial (Below.refl _ _) (Nat.le_refl _) (by simp) ?_;(case hd=>rfl);(case hg=>rfl);(case hr=>first | (go_simp;done) | (go_simp;rfl));(case hp=>exact (Reps.none _ _));intro v120 w55 ho56 hb hg_ hnew_;clear hg_ hnew_;(first | rw [← Ny119.out] at ho56 | (simp only [Int.reduceToNat] at ho56;rw [← Ny119.out] at ho56));refine as6_ (Kd.R_elder' (z2_ HO_112001.out) (Kd.R_base ho56) hb) (Kd.R_lower (Kd.R_newB (Kd.R_new' ho56 (Kd.R_lt (z2_ HO_112001.out))) (g:=gb115) (o:=.cells #[.int .i64 t114,.int .i64 x6_1] 57 (0,0)) (z4_ BK115.out)) (below_size (z11_ HB.out GE110.out GE111.out GE115.out))) (blkB_ BK110.out hb) (blkB_ BK111.out hb) (blkB_ BK115.out hb) (below_step (z11_ HB.out GE110.out GE111.out GE115.out) hb) ?_;clear HO_112001 BK110 BK111 BK115 HB;intro HO_112001 HO121 BK110 BK111 BK115 HB;clear hb ho56;have hnb57:=NB111_110.out;have hnc57:=NB110_111.out;have hnb58:=NB111_115.out;have hnc58:=NB115_111.out;have ⟨hcz59_0,hcz59_1,hfz59_0,hfz59_1⟩:=cz2_ BK111.out;obtain ⟨Ao61,co61,eo61⟩:=Kd.R_slice HO_112001.out;subst eo61;have q60:(x9_3:Int)≤((x112001_2.length:Int):Int):=of_decide_eq_true (z0_);obtain ⟨i060,hi060,_,hsz60,_⟩:=info_parts info57;have hroom60:x112001_2.length≤co61:=(Kd.R_reads' HO_112001.out).2.1;have hC60:Kd.C k57 _ Ao61 x112001_2.length x112001_2:=(Kd.R_reads' HO_112001.out).2.2;have hcut60:=cut_to (P:=Tryd.prog) 27 57 .i64 Tryd.underlying27 hi060 Ao61 x112001_2.length co61 x9_3 (of_decide_eq_true (z0_)) q60 hroom60;have hr60:=Kd.C_take (m:=(x9_3:Int).toNat) hC60 (by omega);have hy60:y122.length=(x9_3:Int).toNat:=(by rw [Ny122.out,List.length_take];omega);rw [← Ny122.out] at hr60;rw [← hy60] at hcut60;have HR125:=Aside0.mk hr60;have HC125:=Aside0.mk (show y122.length≤co61 from by omega);clear hr60 hC60 hroom60 hi060 hsz60;have KY60:=Aside0.mk hy60;clear hy60;have KL60:=Aside0.mk (show (x9_3:Int).toNat≤x112001_2.length from by omega);replace q60:=eq_true q60) | ((with_reducible refine gate_builtin (b:=.append) (xs:=#[.tmp 72,.tmp 76]) rfl ?_);at_builtin;refine Kd.R_append_rows k57 (w0:=w) w.heap.size rfl (.tmp 72) (.tmp 76) 27 57 (.agg #[(.int .i64 0),(.int .i64 0)]) 16 rfl Tryd.underlying27 info57 rfl (by decide) (by omega) v120 y119 y122 _ _ _ (fun k_=>some k_≠(.slice Ao61 x112001_2.length co61:Value).ownBlock∧k_≠gb115) (fun _=>False) rfl rfl ?aO ?aR (fun _ _ h=>h) (fun _ h=>h.elim) ?aF ?aB ?aS ?aL ?_;(case aR=>repeat (first | exact (z25_ HR125.out) | (with_reducible refine Kd.C_alloc ?_ _) | (with_reducible refine Kd.C_drewN ?_ _) | (with_reducible refine Kd.C_drew ?_)));(case aB=>exact (z11_ HB.out GE110.out GE111.out GE115.out));(case aF=>exact (fun k_ hk=>⟨Kd.fresh' (Kd.R_lt (z2_ HO_112001.out)) k_ hk,Kd.freshB (g:=gb115) (o:=.cells #[.int .i64 t114,.int .i64 x6_1] 57 (0,0)) (z4_ BK115.out) k_ hk⟩));(case aO=>exact (z37_ HO121.out));(case aS=>exact (below_size (z11_ HB.out GE110.out GE111.out GE115.out)));(case aL=>have:=LMc50.out;omega);intro v127 w62 ho hb hg hat;rw [← Ny126.out] at ho;refine as7_ (Kd.R_after (ok:=(fun k_=>k_≠gb115)) (z2_ HO_112001.out) hg hat) (blk_grown (g:=gb110) (o:=.cells #[.int .i64 0,.slice none 0 0] 29 (0,0)) (z4_ BK110.out) hg (Kd.R_ne HO121.out BK110.out (by decide))) (blk_grown (g:=gb111) (o:=.cells #[.int .i64 a0,.slice Ao61 x112001_2.length co61] 29 (0,0)) (z4_ BK111.out) hg (Kd.R_ne HO121.out BK111.out (by decide))) (blk_grown (g:=gb115) (o:=.cells #[.int .i64 t114,.int .i64 x6_1] 57 (0,0)) (z4_ BK115.out) hg (Kd.R_away HO121.out (fun _ hk=>hk.2))) (hb) ((show Kd.C k57 w62 Ao61 y122.length y122 from by rw [Ny122.out];exact Kd.C_take (m:=(x9_3:Int).toNat) ((Kd.R_reads' (Kd.R_after (ok:=(fun k_=>k_≠gb115)) (z2_ HO_112001.out) hg hat)).2.2) KL60.out)) (ho) ?_;clear HO_112001 BK110 BK111 BK115 HB HR125 HO121;intro HO_112001 BK110 BK111 BK115 HB HR125 HO128;clear ho hb hg hat;have hnb63:=NB115_110.out;have hnc63:=NB110_115.out;have ⟨hcz64_0,hcz64_1,hfz64_0,hfz64_1⟩:=cz2_ BK115.out) | ((with_reducible refine gate_builtin (b:=.append) (xs:=#[.tmp 78,.tmp 80]) rfl ?_);at_builtin;refine Kd.R_append k57 (w0:=w) w.heap.size rfl (.tmp 78) (.tmp 80) 27 57 (.agg #[(.int .i64 0),(.int .i64 0)]) 16 rfl Tryd.underlying27 info57 rfl (by decide) (by omega) v127 y126 (⟨t114,x6_1⟩:S57) [.int .i64 t114,.int .i64 x6_1] (fun k_=>some k_≠(.slice Ao61 x112001_2.length co61:Value).ownBlock∧k_≠gb115) (fun _=>False) rfl rfl ?aP (fun _ hk=>hk.elim) ?aF ?aO ?aB ?aS ?aL ?_;(case aP=>exact k57_mkM _ _ _ (⟨t114,x6_1⟩:S57));(case aB=>exact (z11_ HB.out GE110.out GE111.out GE115.out));(case aF=>exact (fun k_ hk=>⟨Kd.fresh' (Kd.R_lt (z2_ HO_112001.out)) k_ hk,Kd.freshB (g:=gb115) (o:=.cells #[.int .i64 t114,.int .i64 x6_1] 57 (0,0)) (z4_ BK115.out) k_ hk⟩));(case aO=>exact (z2_ HO128.out));(case aS=>exact (below_size (z11_ HB.out GE110.out GE111.out GE115.out)));(case aL=>have:=LMc51.out;omega);intro v130 w65 ho hb hg hat;rw [← Ny129.out] at ho;refine as7_ (Kd.R_after (ok:=(fun k_=>k_≠gb115)) (z2_ HO_112001.out) hg hat) (blk_grown (g:=gb110) (o:=.cells #[.int .i64 0,.slice none 0 0] 29 (0,0)) (z4_ BK110.out) hg (Kd.R_ne HO128.out BK110.out (by decide))) (blk_grown (g:=gb111) (o:=.cells #[.int .i64 a0,.slice Ao61 x112001_2.length co61] 29 (0,0)) (z4_ BK111.out) hg (Kd.R_ne HO128.out BK111.out (by decide))) (blk_grown (g:=gb115) (o:=.cells #[.int .i64 t114,.int .i64 x6_1] 57 (0,0)) (z4_ BK115.out) hg (Kd.R_away HO128.out (fun _ hk=>hk.2))) (hb) ((show Kd.C k57 w65 Ao61 y122.length y122 from by rw [Ny122.out];exact Kd.C_take (m:=(x9_3:Int).toNat) ((Kd.R_reads' (Kd.R_after (ok:=(fun k_=>k_≠gb115)) (z2_ HO_112001.out) hg hat)).2.2) KL60.out)) (ho) ?_;clear HO_112001 BK110 BK111 BK115 HB HR125 HO128;intro HO_112001 BK110 BK111 BK115 HB HR125 HO131;clear ho hb hg hat;have ⟨hcz66_0,hcz66_1,hfz66_0,hfz66_1⟩:=cz2_ BK111.out;have q67:(x9_3:Int)≤((x112001_2.length:Int):Int):=of_decide_eq_true (z0_);obtain ⟨i067,hi067,_,hsz67,_⟩:=info_parts info57;have hroom67:x112001_2.length≤co61:=(Kd.R_reads' HO_112001.out).2.1;have hC67:Kd.C k57 _ Ao61 x112001_2.length x112001_2:=(Kd.R_reads' HO_112001.out).2.2;have q067:(0:Int)≤(x9_3:Int):=of_decide_eq_true (z0_);have hcut67:=cut_from (P:=Tryd.prog) 27 57 .i64 Tryd.underlying27 hi067 2 hsz67 Ao61 x112001_2.length co61 x9_3 q067 q67;have hr67:=Kd.C_drop (m:=(x9_3:Int).toNat) (c:=co61) hC67 (by omega) hroom67;obtain ⟨A67,hA67⟩:∃ A1,A1=(if co61=(x9_3:Int).toNat then Ao61 else (Ao61:Option Addr).map (·.add ((x9_3:Int).toNat*2))):=⟨_,rfl⟩;obtain ⟨c67,hc67⟩:∃ c1,c1=co61-(x9_3:Int).toNat:=⟨_,rfl⟩;have hy67:y132.length=x112001_2.length-(x9_3:Int).toNat:=(by rw [Ny132.out,List.length_drop] <;> omega);rw [show (x112001_2).drop (x9_3:Int).toNat=y132 from Ny132.out.symm] at hr67;replace hr67:Kd.C k57 _ A67 y132.length y132:=(by rw [hA67];exact hr67);rw [← hy67,← hA67,← hc67] at hcut67;have HR135:=Aside0.mk hr67;have HC135:=Aside0.mk (show y132.length≤c67 from by rw [hy67,hc67];exact Nat.sub_le_sub_right hroom67 _);clear hr67 hC67 hroom67 hi067 hsz67 hc67;have KY67:=Aside0.mk hy67;have KA67:=Aside0.mk hA67;clear hy67 hA67;have KL67:=Aside0.mk (show (x9_3:Int).toNat≤x112001_2.length from by omega);replace q67:=eq_true q67) | ((with_reducible refine gate_builtin (b:=.append) (xs:=#[.tmp 82,.tmp 86]) rfl ?_);at_builtin;refine Kd.R_append_rows k57 (w0:=w) w.heap.size rfl (.tmp 82) (.tmp 86) 27 57 (.agg #[(.int .i64 0),(.int .i64 0)]) 16 rfl Tryd.underlying27 info57 rfl (by decide) (by omega) v130 y129 y132 _ _ _ (fun k_=>some k_≠(.slice Ao61 x112001_2.length co61:Value).ownBlock∧k_≠gb115) (fun _=>False) rfl rfl ?aO ?aR (fun _ _ h=>h) (fun _ h=>h.elim) ?aF ?aB ?aS ?aL ?_;(case aR=>repeat (first | exact (z25_ HR135.out) | (with_reducible refine Kd.C_alloc ?_ _) | (with_reducible refine Kd.C_drewN ?_ _) | (with_reducible refine Kd.C_drew ?_)));(case aB=>exact (z11_ HB.out GE110.out GE111.out GE115.out));(case aF=>exact (fun k_ hk=>⟨Kd.fresh' (Kd.R_lt (z2_ HO_112001.out)) k_ hk,Kd.freshB (g:=gb115) (o:=.cells #[.int .i64 t114,.int .i64 x6_1] 57 (0,0)) (z4_ BK115.out) k_ hk⟩));(case aO=>exact (z2_ HO131.out));(case aS=>exact (below_size (z11_ HB.out GE110.out GE111.out GE115.out)));(case aL=>have:=LMc54.out;omega);intro v137 w68 ho hb hg hat;rw [← Ny136.out] at ho;refine as8_ (Kd.R_after (ok:=(fun k_=>k_≠gb115)) (z2_ HO_112001.out) hg hat) (blk_grown (g:=gb110) (o:=.cells #[.int .i64 0,.slice none 0 0] 29 (0,0)) (z4_ BK110.out) hg (Kd.R_ne HO131.out BK110.out (by decide))) (blk_grown (g:=gb111) (o:=.cells #[.int .i64 a0,.slice Ao61 x112001_2.length co61] 29 (0,0)) (z4_ BK111.out) hg (Kd.R_ne HO131.out BK111.out (by decide))) (blk_grown (g:=gb115) (o:=.cells #[.int .i64 t114,.int .i64 x6_1] 57 (0,0)) (z4_ BK115.out) hg (Kd.R_away HO131.out (fun _ hk=>hk.2))) (hb) ((show Kd.C k57 w68 Ao61 y122.length y122 from by rw [Ny122.out];exact Kd.C_take (m:=(x9_3:Int).toNat) ((Kd.R_reads' (Kd.R_after (ok:=(fun k_=>k_≠gb115)) (z2_ HO_112001.out) hg hat)).2.2) KL60.out)) ((show Kd.C k57 w68 A67 y132.length y132 from by rw [Ny132.out,KA67.out];exact Kd.C_drop (m:=(x9_3:Int).toNat) (c:=co61) ((Kd.R_reads' (Kd.R_after (ok:=(fun k_=>k_≠gb115)) (z2_ HO_112001.out) hg hat)).2.2) KL67.out ((Kd.R_reads' (Kd.R_after (ok:=(fun k_=>k_≠gb115)) (z2_ HO_112001.out) hg hat)).2.1))) (ho) ?_;clear HO_112001 BK110 BK111 BK115 HB HR125 HR135 HO131;intro HO_112001 BK110 BK111 BK115 HB HR125 HR135 HO138;clear ho hb hg hat;obtain ⟨Ao69,co69,eo69⟩:=Kd.R_slice HO138.out;subst eo69;have ⟨hcz70_0,hcz70_1,hfz70_0,hfz70_1⟩:=cz2_ BK111.out));try go_wp2_with (first | ((with_reducible refine gd_ 72 ?_);refine Kd.R_lit k57 _ 57 ?hg (N:=72) ?hd (xs:=([]:List (S57))) (inner:=[]) (ok:=fun _=>True) (okp:=fun _=>True) ?hr ?hp (fun _ hk=>hk) trivial (Below.refl _ _) (Nat.le_refl _) (by simp) ?_;(case hd=>rfl);(case hg=>rfl);(case hr=>first | (go_simp;done) | (go_simp;rfl));(case hp=>exact (Reps.none _ _));intro v120 w55 ho56 hb hg_ hnew_;clear hg_ hnew_;(first | rw [← Ny119.out] at ho56 | (simp only [Int.reduceToNat] at ho56;rw [← Ny119.out] at ho56));refine as6_ (Kd.R_elder' (z2_ HO_112001.out) (Kd.R_base ho56) hb) (Kd.R_lower (Kd.R_newB (Kd.R_new' ho56 (Kd.R_lt (z2_ HO_112001.out))) (g:=gb115) (o:=.cells #[.int .i64 t114,.int .i64 x6_1] 57 (0,0)) (z4_ BK115.out)) (below_size (z11_ HB.out GE110.out GE111.out GE115.out))) (blkB_ BK110.out hb) (blkB_ BK111.out hb) (blkB_ BK115.out hb) (below_step (z11_ HB.out GE110.out GE111.out GE115.out) hb) ?_;clear HO_112001 BK110 BK111 BK115 HB;intro HO_112001 HO121 BK110 BK111 BK115 HB;clear hb ho56;have hnb57:=NB111_110.out;have hnc57:=NB110_111.out;have hnb58:=NB111_115.out;have hnc58:=NB115_111.out;have ⟨hcz59_0,hcz59_1,hfz59_0,hfz59_1⟩:=cz2_ BK111.out;obtain ⟨Ao61,co61,eo61⟩:=Kd.R_slice HO_112001.out;subst eo61;have q60:(x9_3:Int)≤((x112001_2.length:Int):Int):=of_decide_eq_true (z0_);obtain ⟨i060,hi060,_,hsz60,_⟩:=info_parts info57;have hroom60:x112001_2.length≤co61:=(Kd.R_reads' HO_112001.out).2.1;have hC60:Kd.C k57 _ Ao61 x112001_2.length x112001_2:=(Kd.R_reads' HO_112001.out).2.2;have hcut60:=cut_to (P:=Tryd.prog) 27 57 .i64 Tryd.underlying27 hi060 Ao61 x112001_2.length co61 x9_3 (of_decide_eq_true (z0_)) q60 hroom60;have hr60:=Kd.C_take (m:=(x9_3:Int).toNat) hC60 (by omega);have hy60:y122.length=(x9_3:Int).toNat:=(by rw [Ny122.out,List.length_take];omega);rw [← Ny122.out] at hr60;rw [← hy60] at hcut60;have HR125:=Aside0.mk hr60;have HC125:=Aside0.mk (show y122.length≤co61 from by omega);clear hr60 hC60 hroom60 hi060 hsz60;have KY60:=Aside0.mk hy60;clear hy60;have KL60:=Aside0.mk (show (x9_3:Int).toNat≤x112001_2.length from by omega);replace q60:=eq_true q60) | ((with_reducible refine gate_builtin (b:=.append) (xs:=#[.tmp 72,.tmp 76]) rfl ?_);at_builtin;refine Kd.R_append_rows k57 (w0:=w) w.heap.size rfl (.tmp 72) (.tmp 76) 27 57 (.agg #[(.int .i64 0),(.int .i64 0)]) 16 rfl Tryd.underlying27 info57 rfl (by decide) (by omega) v120 y119 y122 _ _ _ (fun k_=>some k_≠(.slice Ao61 x112001_2.length co61:Value).ownBlock∧k_≠gb115) (fun _=>False) rfl rfl ?aO ?aR (fun _ _ h=>h) (fun _ h=>h.elim) ?aF ?aB ?aS ?aL ?_;(case aR=>repeat (first | exact (z25_ HR125.out) | (with_reducible refine Kd.C_alloc ?_ _) | (with_reducible refine Kd.C_drewN ?_ _) | (with_reducible refine Kd.C_drew ?_)));(case aB=>exact (z11_ HB.out GE110.out GE111.out GE115.out));(case aF=>exact (fun k_ hk=>⟨Kd.fresh' (Kd.R_lt (z2_ HO_112001.out)) k_ hk,Kd.freshB (g:=gb115) (o:=.cells #[.int .i64 t114,.int .i64 x6_1] 57 (0,0)) (z4_ BK115.out) k_ hk⟩));(case aO=>exact (z37_ HO121.out));(case aS=>exact (below_size (z11_ HB.out GE110.out GE111.out GE115.out)));(case aL=>have:=LMc50.out;omega);intro v127 w62 ho hb hg hat;rw [← Ny126.out] at ho;refine as7_ (Kd.R_after (ok:=(fun k_=>k_≠gb115)) (z2_ HO_112001.out) hg hat) (blk_grown (g:=gb110) (o:=.cells #[.int .i64 0,.slice none 0 0] 29 (0,0)) (z4_ BK110.out) hg (Kd.R_ne HO121.out BK110.out (by decide))) (blk_grown (g:=gb111) (o:=.cells #[.int .i64 a0,.slice Ao61 x112001_2.length co61] 29 (0,0)) (z4_ BK111.out) hg (Kd.R_ne HO121.out BK111.out (by decide))) (blk_grown (g:=gb115) (o:=.cells #[.int .i64 t114,.int .i64 x6_1] 57 (0,0)) (z4_ BK115.out) hg (Kd.R_away HO121.out (fun _ hk=>hk.2))) (hb) ((show Kd.C k57 w62 Ao61 y122.length y122 from by rw [Ny122.out];exact Kd.C_take (m:=(x9_3:Int).toNat) ((Kd.R_reads' (Kd.R_after (ok:=(fun k_=>k_≠gb115)) (z2_ HO_112001.out) hg hat)).2.2) KL60.out)) (ho) ?_;clear HO_112001 BK110 BK111 BK115 HB HR125 HO121;intro HO_112001 BK110 BK111 BK115 HB HR125 HO128;clear ho hb hg hat;have hnb63:=NB115_110.out;have hnc63:=NB110_115.out;have ⟨hcz64_0,hcz64_1,hfz64_0,hfz64_1⟩:=cz2_ BK115.out) | ((with_reducible refine gate_builtin (b:=.append) (xs:=#[.tmp 78,.tmp 80]) rfl ?_);at_builtin;refine Kd.R_append k57 (w0:=w) w.heap.size rfl (.tmp 78) (.tmp 80) 27 57 (.agg #[(.int .i64 0),(.int .i64 0)]) 16 rfl Tryd.underlying27 info57 rfl (by decide) (by omega) v127 y126 (⟨t114,x6_1⟩:S57) [.int .i64 t114,.int .i64 x6_1] (fun k_=>some k_≠(.slice Ao61 x112001_2.length co61:Value).ownBlock∧k_≠gb115) (fun _=>False) rfl rfl ?aP (fun _ hk=>hk.elim) ?aF ?aO ?aB ?aS ?aL ?_;(case aP=>exact k57_mkM _ _ _ (⟨t114,x6_1⟩:S57));(case aB=>exact (z11_ HB.out GE110.out GE111.out GE115.out));(case aF=>exact (fun k_ hk=>⟨Kd.fresh' (Kd.R_lt (z2_ HO_112001.out)) k_ hk,Kd.freshB (g:=gb115) (o:=.cells #[.int .i64 t114,.int .i64 x6_1] 57 (0,0)) (z4_ BK115.out) k_ hk⟩));(case aO=>exact (z2_ HO128.out));(case aS=>exact (below_size (z11_ HB.out GE110.out GE111.out GE115.out)));(case aL=>have:=LMc51.out;omega);intro v130 w65 ho hb hg hat;rw [← Ny129.out] at ho;refine as7_ (Kd.R_after (ok:=(fun k_=>k_≠gb115)) (z2_ HO_112001.out) hg hat) (blk_grown (g:=gb110) (o:=.cells #[.int .i64 0,.slice none 0 0] 29 (0,0)) (z4_ BK110.out) hg (Kd.R_ne HO128.out BK110.out (by decide))) (blk_grown (g:=gb111) (o:=.cells #[.int .i64 a0,.slice Ao61 x112001_2.length co61] 29 (0,0)) (z4_ BK111.out) hg (Kd.R_ne HO128.out BK111.out (by decide))) (blk_grown (g:=gb115) (o:=.cells #[.int .i64 t114,.int .i64 x6_1] 57 (0,0)) (z4_ BK115.out) hg (Kd.R_away HO128.out (fun _ hk=>hk.2))) (hb) ((show Kd.C k57 w65 Ao61 y122.length y122 from by rw [Ny122.out];exact Kd.C_take (m:=(x9_3:Int).toNat) ((Kd.R_reads' (Kd.R_after (ok:=(fun k_=>k_≠gb115)) (z2_ HO_112001.out) hg hat)).2.2) KL60.out)) (ho) ?_;clear HO_112001 BK110 BK111 BK115 HB HR125 HO128;intro HO_112001 BK110 BK111 BK115 HB HR125 HO131;clear ho hb hg hat;have ⟨hcz66_0,hcz66_1,hfz66_0,hfz66_1⟩:=cz2_ BK111.out;have q67:(x9_3:Int)≤((x112001_2.length:Int):Int):=of_decide_eq_true (z0_);obtain ⟨i067,hi067,_,hsz67,_⟩:=info_parts info57;have hroom67:x112001_2.length≤co61:=(Kd.R_reads' HO_112001.out).2.1;have hC67:Kd.C k57 _ Ao61 x112001_2.length x112001_2:=(Kd.R_reads' HO_112001.out).2.2;have q067:(0:Int)≤(x9_3:Int):=of_decide_eq_true (z0_);have hcut67:=cut_from (P:=Tryd.prog) 27 57 .i64 Tryd.underlying27 hi067 2 hsz67 Ao61 x112001_2.length co61 x9_3 q067 q67;have hr67:=Kd.C_drop (m:=(x9_3:Int).toNat) (c:=co61) hC67 (by omega) hroom67;obtain ⟨A67,hA67⟩:∃ A1,A1=(if co61=(x9_3:Int).toNat then Ao61 else (Ao61:Option Addr).map (·.add ((x9_3:Int).toNat*2))):=⟨_,rfl⟩;obtain ⟨c67,hc67⟩:∃ c1,c1=co61-(x9_3:Int).toNat:=⟨_,rfl⟩;have hy67:y132.length=x112001_2.length-(x9_3:Int).toNat:=(by rw [Ny132.out,List.length_drop] <;> omega);rw [show (x112001_2).drop (x9_3:Int).toNat=y132 from Ny132.out.symm] at hr67;replace hr67:Kd.C k57 _ A67 y132.length y132:=(by rw [hA67];exact hr67);rw [← hy67,← hA67,← hc67] at hcut67;have HR135:=Aside0.mk hr67;have HC135:=Aside0.mk (show y132.length≤c67 from by rw [hy67,hc67];exact Nat.sub_le_sub_right hroom67 _);clear hr67 hC67 hroom67 hi067 hsz67 hc67;have KY67:=Aside0.mk hy67;have KA67:=Aside0.mk hA67;clear hy67 hA67;have KL67:=Aside0.mk (show (x9_3:Int).toNat≤x112001_2.length from by omega);replace q67:=eq_true q67) | ((with_reducible refine gate_builtin (b:=.append) (xs:=#[.tmp 82,.tmp 86]) rfl ?_);at_builtin;refine Kd.R_append_rows k57 (w0:=w) w.heap.size rfl (.tmp 82) (.tmp 86) 27 57 (.agg #[(.int .i64 0),(.int .i64 0)]) 16 rfl Tryd.underlying27 info57 rfl (by decide) (by omega) v130 y129 y132 _ _ _ (fun k_=>some k_≠(.slice Ao61 x112001_2.length co61:Value).ownBlock∧k_≠gb115) (fun _=>False) rfl rfl ?aO ?aR (fun _ _ h=>h) (fun _ h=>h.elim) ?aF ?aB ?aS ?aL ?_;(case aR=>repeat (first | exact (z25_ HR135.out) | (with_reducible refine Kd.C_alloc ?_ _) | (with_reducible refine Kd.C_drewN ?_ _) | (with_reducible refine Kd.C_drew ?_)));(case aB=>exact (z11_ HB.out GE110.out GE111.out GE115.out));(case aF=>exact (fun k_ hk=>⟨Kd.fresh' (Kd.R_lt (z2_ HO_112001.out)) k_ hk,Kd.freshB (g:=gb115) (o:=.cells #[.int .i64 t114,.int .i64 x6_1] 57 (0,0)) (z4_ BK115.out) k_ hk⟩));(case aO=>exact (z2_ HO131.out));(case aS=>exact (below_size (z11_ HB.out GE110.out GE111.out GE115.out)));(case aL=>have:=LMc54.out;omega);intro v137 w68 ho hb hg hat;rw [← Ny136.out] at ho;refine as8_ (Kd.R_after (ok:=(fun k_=>k_≠gb115)) (z2_ HO_112001.out) hg hat) (blk_grown (g:=gb110) (o:=.cells #[.int .i64 0,.slice none 0 0] 29 (0,0)) (z4_ BK110.out) hg (Kd.R_ne HO131.out BK110.out (by decide))) (blk_grown (g:=gb111) (o:=.cells #[.int .i64 a0,.slice Ao61 x112001_2.length co61] 29 (0,0)) (z4_ BK111.out) hg (Kd.R_ne HO131.out BK111.out (by decide))) (blk_grown (g:=gb115) (o:=.cells #[.int .i64 t114,.int .i64 x6_1] 57 (0,0)) (z4_ BK115.out) hg (Kd.R_away HO131.out (fun _ hk=>hk.2))) (hb) ((show Kd.C k57 w68 Ao61 y122.length y122 from by rw [Ny122.out];exact Kd.C_take (m:=(x9_3:Int).toNat) ((Kd.R_reads' (Kd.R_after (ok:=(fun k_=>k_≠gb115)) (z2_ HO_112001.out) hg hat)).2.2) KL60.out)) ((show Kd.C k57 w68 A67 y132.length y132 from by rw [Ny132.out,KA67.out];exact Kd.C_drop (m:=(x9_3:Int).toNat) (c:=co61) ((Kd.R_reads' (Kd.R_after (ok:=(fun k_=>k_≠gb115)) (z2_ HO_112001.out) hg hat)).2.2) KL67.out ((Kd.R_reads' (Kd.R_after (ok:=(fun k_=>k_≠gb115)) (z2_ HO_112001.out) hg hat)).2.1))) (ho) ?_;clear HO_112001 BK110 BK111 BK115 HB HR125 HR135 HO131;intro HO_112001 BK110 BK111 BK115 HB HR125 HR135 HO138;clear ho hb hg hat;obtain ⟨Ao69,co69,eo69⟩:=Kd.R_slice HO138.out;subst eo69;have ⟨hcz70_0,hcz70_1,hfz70_0,hfz70_1⟩:=cz2_ BK111.out)))
                   go_roundg kj19
                   case measure=>have:=HK1.out;have:=HK2.out;have:=HK3.out;have:=HJ19.out;omega
                   case rel=>exact ⟨(wrap64 (x7_2+1)),(y136),(.slice Ao69 y136.length co69),(z1_),H',⟨by have:=HK1.out;have:=HK2.out;have:=HK3.out;have:=HJ19.out;omega⟩,⟨by (with_reducible repeat (first | apply Kd.R_alloc | apply Kd.R_drewN | apply Kd.R_drew));exact Kd.R_mono (Kd.R_far (p:=⟨gb111,1,none⟩) (Kd.R_types HO138.out BK111.out (by decide)) (fun _ hk=>hk.2) (.slice Ao69 y136.length co69)) (fun _ hk=>trivial)⟩,⟨z22_ NB110_111.out BK110.out⟩,⟨by (with_reducible repeat (first | refine blk_drewN ?_ _ | refine blk_drew ?_ | refine blk_alloc ?_ _));refine blk_put (cs:=#[.int .i64 a0,.slice Ao61 x112001_2.length co61]) ?_ 1 _ rfl;(with_reducible repeat (first | refine blk_drewN ?_ _ | refine blk_drew ?_ | refine blk_alloc ?_ _));exact BK111.out⟩,⟨z11_ HB.out GE110.out GE111.out GE115.out⟩⟩
                  ·rw [if_neg c54] at H
                   exact absurd H (by simp)
                 ·rw [if_neg c51] at H
                  exact absurd H (by simp)
                ·rw [if_neg c50] at H
                 exact absurd H (by simp)
               ·rw [if_neg c49] at H
                exact absurd H (by simp)
              ·rw [if_neg c48] at H
               exact absurd H (by simp)
        ·rw [if_neg c12] at H
         exact absurd H (by simp)
       ·rw [if_neg c10] at H
        exact absurd H (by simp)
      ·rw [if_neg c8] at H
       have c8b0:decide (x7_2≤a1)=false:=decide_eq_false c8
       clear c8
       have H':=Aside0.mk H
       clear H
       go_wp2
       repeat (go_quiet (fail);try go_wp2)
       go_roundg k2
       case measure=>have:=HK1.out;have:=HK2.out;omega
       case rel=>exact ⟨(wrap64 (x6_1+1)),(x112001_2),(u112001),(z1_),H',⟨z13_ HK1.out HK2.out⟩,⟨z2_ HO_112001.out⟩,⟨z4_ BK110.out⟩,⟨z4_ BK111.out⟩,⟨z7_ HB.out GE110.out GE111.out⟩⟩
   ·rw [if_neg c7] at H
    have c7b0:decide (x6_1≤a0)=false:=decide_eq_false c7
    clear c7
    simp only [Option.some.injEq,Prod.mk.injEq] at H
    obtain ⟨rfl,rfl⟩:=H
    have hnb71:=NB111_110.out
    have hnc71:=NB110_111.out
    have ⟨hcz72_0,hcz72_1,hfz72_0,hfz72_1⟩:=cz2_ BK111.out
    have ⟨hcz73_0,hcz73_1,hfz73_0,hfz73_1⟩:=cz2_ BK110.out
    obtain ⟨Ao74,co74,eo74⟩:=Kd.R_slice HO_112001.out
    subst eo74
    go_wp2
    repeat (go_quiet (fail);try go_wp2)
    refine bodyPost_ret (results_cell_row rfl _ _ gb110 29 #[.int .i64 a0,.slice Ao74 x112001_1.length co74] (0,0) _ rfl (z23_ BK110.out) Tryd.underlying29 rfl (by kernel_rfl)) rfl ?_
    exact ⟨_,z10_,z38_ HO_112001.out BK110.out,z7_ HB.out GE110.out GE111.out⟩


theorem eqA57 (d:Nat) (w:World) (x0 y0:Int) (x1 y1:Int) :
  (Op.equalIn (d+2) 57 (.agg #[.int .i64 x0,.int .i64 x1]) (.agg #[.int .i64 y0,.int .i64 y1])).run Tryd.prog w = .ok (x0 == y0 && (x1 == y1)) w:=by
 refine eqA_of Tryd.underlying57 (by kernel_rfl) ?_
 refine eqf_cons (by rfl) (by go_simp;rfl) (by go_simp;rfl) (by go_simp) ?_
 exact eqf_last (by rfl) (by go_simp;rfl) (by go_simp;rfl) (by go_simp)

attribute [local go_sem high] eqA57
/-! ### spec_RingRight: function 11 -/
mutual
def spec_RingRight.j0:Nat→Bool→Int→List (S57)→Option (Bool)
 | 0,_,_,_=>none
 | k+1,x32,x140000,x140001=>if x32=true then (some false) else (if x140000=0 then (none) else ((spec_l04New.f k x140000 (wrap64 ((x140001.length:Int) / x140000))).bind fun bt141=>(spec_RingRight.l0 k 0 x140000 x140001 bt141.1 bt141.2)))
def spec_RingRight.l0:Nat→Int→Int→List (S57)→Int→List (S57)→Option (Bool)
 | 0,_,_,_,_,_=>none
 | k+1,x4,x140000,x140001,x146000,x146001=>if x4<(x140001.length:Int) then (if 0≤x4 then (if x4<(x146001.length:Int) then (if (!(((rd_T57 x140001 x4).f0) == ((rd_T57 x146001 x4).f0)) || (!(((rd_T57 x140001 x4).f1) == ((rd_T57 x146001 x4).f1))))=true then (some false) else (spec_RingRight.l0 k (wrap64 (x4+1)) x140000 x140001 x146000 x146001)) else (none)) else (none)) else (some true)
end
def spec_RingRight.f (k:Nat) (a0_0:Int) (l0_1:List (S57)):Option (Bool):=(spec_l02Node.f a0_0).bind fun t140=>(if t140=true then (if (l0_1.length:Int)<1 then (spec_RingRight.j0 k true a0_0 l0_1) else (if (l0_1.length:Int)>(wrap64 (8*a0_0)) then (spec_RingRight.j0 k true a0_0 l0_1) else (if a0_0=0 then (none) else (spec_RingRight.j0 k (((l0_1.length:Int) % a0_0) != 0) a0_0 l0_1)))) else (spec_RingRight.j0 k true a0_0 l0_1))
theorem spec_RingRight.mono_l:∀ k,(∀ y0 y1 y2,LeO (spec_RingRight.j0 k y0 y1 y2) (spec_RingRight.j0 (k+1) y0 y1 y2))∧(∀ y0 y1 y2 y3 y4,LeO (spec_RingRight.l0 k y0 y1 y2 y3 y4) (spec_RingRight.l0 (k+1) y0 y1 y2 y3 y4))
 | 0=>⟨fun _ _ _ r h=>by simp [spec_RingRight.j0] at h,fun _ _ _ _ _ r h=>by simp [spec_RingRight.l0] at h⟩
 | k+1=>by
  obtain ⟨ih0,ih1⟩:=spec_RingRight.mono_l k
  refine ⟨?_,?_⟩
  ·intro y0 y1 y2
   unfold spec_RingRight.j0
   repeat' first
   | (with_reducible exact ih0 _ _ _)
   | (with_reducible exact ih1 _ _ _ _ _)
   | (with_reducible exact spec_l04New.mono _ _ _)
   | (with_reducible exact LeO.refl _)
   | (with_reducible exact LeO.none _)
   | (with_reducible refine LeO.ite ?_ ?_)
   | (with_reducible refine LeO.bind ?_ (fun _=>?_))
   | exact ih0 _ _ _
   | exact ih1 _ _ _ _ _
   | exact spec_l04New.mono _ _ _
   | exact LeO.none _
   | refine LeO.ite ?_ ?_
   | refine LeO.bind ?_ (fun _=>?_)
  ·intro y0 y1 y2 y3 y4
   unfold spec_RingRight.l0
   repeat' first
   | (with_reducible exact ih0 _ _ _)
   | (with_reducible exact ih1 _ _ _ _ _)
   | (with_reducible exact spec_l04New.mono _ _ _)
   | (with_reducible exact LeO.refl _)
   | (with_reducible exact LeO.none _)
   | (with_reducible refine LeO.ite ?_ ?_)
   | (with_reducible refine LeO.bind ?_ (fun _=>?_))
   | exact ih0 _ _ _
   | exact ih1 _ _ _ _ _
   | exact spec_l04New.mono _ _ _
   | exact LeO.none _
   | refine LeO.ite ?_ ?_
   | refine LeO.bind ?_ (fun _=>?_)
theorem spec_RingRight.mono:∀ a0 a1 k,LeO (spec_RingRight.f k a0 a1) (spec_RingRight.f (k+1) a0 a1):=by
 intro a0 a1 k
 obtain ⟨ih0,ih1⟩:=spec_RingRight.mono_l k
 unfold spec_RingRight.f
 repeat' first
   | (with_reducible exact ih0 _ _ _)
   | (with_reducible exact ih1 _ _ _ _ _)
   | (with_reducible exact spec_l04New.mono _ _ _)
   | (with_reducible exact LeO.refl _)
   | (with_reducible exact LeO.none _)
   | (with_reducible refine LeO.ite ?_ ?_)
   | (with_reducible refine LeO.bind ?_ (fun _=>?_))
   | exact ih0 _ _ _
   | exact ih1 _ _ _ _ _
   | exact spec_l04New.mono _ _ _
   | exact LeO.none _
   | refine LeO.ite ?_ ?_
   | refine LeO.bind ?_ (fun _=>?_)
def spec_RingRight.T3:Bool × List (List Nat × List Nat):=(true,[([],[]),([0],[0]),([],[]),([2],[2]),([3],[3]),([],[]),([5],[5]),([4,6],[4,6]),([1,7],[1,7]),([],[]),([9,8,8,0,1,2,3,4,5,6,7,8,9],[8,9])])
def spec_RingRight.B3:List Nat:=[0,1,0,4,12,0,32,124,255,0,1023]
theorem spec_RingRight.tab3:rtab .any (opsOf Tryd.f11 3)=spec_RingRight.T3:=by kernel_rfl
theorem spec_RingRight.bits3:waitsOk spec_RingRight.T3.2 spec_RingRight.B3=true:=by kernel_rfl
def spec_RingRight.T7:Bool × List (List Nat × List Nat):=(true,[([],[]),([0],[0]),([],[]),([1,2],[1,2]),([3],[3]),([],[]),([5],[5]),([],[]),([6,7],[6,7]),([8],[8]),([4,9],[4,9])])
def spec_RingRight.B7:List Nat:=[0,1,0,7,15,0,32,0,224,480,1023]
theorem spec_RingRight.tab7:rtab .any (opsOf Tryd.f11 7)=spec_RingRight.T7:=by kernel_rfl
theorem spec_RingRight.bits7:waitsOk spec_RingRight.T7.2 spec_RingRight.B7=true:=by kernel_rfl
set_option maxHeartbeats 8000000 in
set_option maxRecDepth 100000 in
theorem spec_RingRight.calls (k:Nat) (a0_0:Int) (A0_1:Option Addr) (c0_1:Nat) (l0_1:List (S57)) (r:Bool) (w:World) (hr0_1:Kd.C k57 w A0_1 l0_1.length l0_1) (hc0_1:l0_1.length≤c0_1) (h:spec_RingRight.f k a0_0 l0_1=some r) :
  Calls Tryd.prog 11 #[.agg #[.int .i64 a0_0,.slice A0_1 l0_1.length c0_1]] w fun e w'=>e = .returned (.bool r)∧Below w.heap.size w w':=by
 have hu29:=Tryd.underlying29
 have hu57:=Tryd.underlying57
 have HR0_1:=Aside0.mk hr0_1
 have HC0_1:=Aside0.mk hc0_1
 clear hr0_1 hc0_1
 have HB:=Aside0.mk (Below.refl w.heap.size w)
 have H:((spec_l02Node.f a0_0).bind fun t140=>(if t140=true then (if (l0_1.length:Int)<1 then (spec_RingRight.j0 k true a0_0 l0_1) else (if (l0_1.length:Int)>(wrap64 (8*a0_0)) then (spec_RingRight.j0 k true a0_0 l0_1) else (if a0_0=0 then (none) else (spec_RingRight.j0 k (((l0_1.length:Int) % a0_0) != 0) a0_0 l0_1)))) else (spec_RingRight.j0 k true a0_0 l0_1)))=some r:=h
 clear h
 have HC2:=Aside0.mk H
 clear H
 go_enter Tryd.func11,Tryd.ntmps11
 go_upto_region 1 with (first | ((with_reducible refine gd_ 1 ?_);(try (refine gate_guard (by rfl) ?_;dsimp only));refine be_ 1 #[.int .i64 a0_0,.slice A0_1 l0_1.length c0_1] 29 ?_;intro gb139 hg w3 hbox hb;refine as4_ (below_step (z3_ HB.out) hb) (hbox) ((z8_ HB.out:w.heap.size≤gb139)) ((z8_ HB.out:w.heap.size≤gb139)) ?_;clear HB;intro HB BK139 GW139 GE139;clear hb hbox hg))
 (try simp only [Act.put,sa_,s0_,ss_])
 go_cut [32] (fun v32 wc=>∃ (kq:Nat) (x32_1:Bool),v32 = .bool x32_1∧Aside0 (spec_RingRight.j0 kq x32_1 a0_0 l0_1=some r)∧Aside0 (kq≤k)∧Aside0 (wc.heap[gb139]? = some (.cells #[.int .i64 a0_0,(.slice A0_1 l0_1.length c0_1)] 29 (0,0)))∧Aside0 (Below w.heap.size w wc))
 case first =>
  have H:=HC2.out
  clear HC2
  replace H:=Option.bind_eq_some_iff.mp H
  obtain ⟨t140,A40,H⟩:=H
  replace H:(if t140=true then (if (l0_1.length:Int)<1 then (spec_RingRight.j0 k true a0_0 l0_1) else (if (l0_1.length:Int)>(wrap64 (8*a0_0)) then (spec_RingRight.j0 k true a0_0 l0_1) else (if a0_0=0 then (none) else (spec_RingRight.j0 k (((l0_1.length:Int) % a0_0) != 0) a0_0 l0_1)))) else (spec_RingRight.j0 k true a0_0 l0_1))=some r:=H
  have A4:=Aside0.mk A40
  clear A40
  by_cases c5:t140=true
  ·subst c5
   have H1:(if (l0_1.length:Int)<1 then (spec_RingRight.j0 k true a0_0 l0_1) else (if (l0_1.length:Int)>(wrap64 (8*a0_0)) then (spec_RingRight.j0 k true a0_0 l0_1) else (if a0_0=0 then (none) else (spec_RingRight.j0 k (((l0_1.length:Int) % a0_0) != 0) a0_0 l0_1))))=some r:=by rw [if_pos rfl] at H;exact H
   clear H
   have H:=H1
   clear H1
   by_cases c6:(l0_1.length:Int)<1
   ·rw [if_pos c6] at H
    have c6b0:decide ((l0_1.length:Int)<1)=true:=decide_eq_true c6
    have c6b1:decide (l0_1.length<1)=true:=decide_eq_true (by omega)
    clear c6
    (first | rw [c6b0] | (simp only [i64_w,i32_w];rw [c6b0]) | skip)
    have H':=Aside0.mk H
    clear H
    have ⟨hcz7_0,hcz7_1,hfz7_0,hfz7_1⟩:=cz2_ BK139.out
    go_wp2_with (first | ((with_reducible refine gc_ 36 ?_);refine gl_ (some 7) Tryd.func36 #[.int .i64 a0_0] ?_;(with_reducible refine (spec_l02Node.calls a0_0 true _ A4.out).mono ?_);rintro e w' ⟨rfl,⟨nd,rfl⟩⟩;refine ⟨_,rfl,?_⟩))
    go_meet
    case rel=>exact ⟨_,(true),(z1_),H',⟨by first | omega | exact Nat.le_refl _⟩,⟨z4_ BK139.out⟩,⟨z5_ HB.out GE139.out⟩⟩
   ·rw [if_neg c6] at H
    have c6b0:decide ((l0_1.length:Int)<1)=false:=decide_eq_false c6
    have c6b1:decide (l0_1.length<1)=false:=decide_eq_false (by omega)
    clear c6
    (first | rw [c6b0] | (simp only [i64_w,i32_w];rw [c6b0]) | skip)
    by_cases c8:(l0_1.length:Int)>(wrap64 (8*a0_0))
    ·rw [if_pos c8] at H
     have c8b0:decide ((wrap64 (8*a0_0))<(l0_1.length:Int))=true:=decide_eq_true c8
     clear c8
     have H':=Aside0.mk H
     clear H
     have ⟨hcz9_0,hcz9_1,hfz9_0,hfz9_1⟩:=cz2_ BK139.out
     go_wp2_with (first | ((with_reducible refine gc_ 36 ?_);refine gl_ (some 7) Tryd.func36 #[.int .i64 a0_0] ?_;(with_reducible refine (spec_l02Node.calls a0_0 true _ A4.out).mono ?_);rintro e w' ⟨rfl,⟨nd,rfl⟩⟩;refine ⟨_,rfl,?_⟩))
     go_meet
     case rel=>exact ⟨_,(true),(z1_),H',⟨by first | omega | exact Nat.le_refl _⟩,⟨z4_ BK139.out⟩,⟨z5_ HB.out GE139.out⟩⟩
    ·rw [if_neg c8] at H
     have c8b0:decide ((wrap64 (8*a0_0))<(l0_1.length:Int))=false:=decide_eq_false c8
     clear c8
     by_cases c10:a0_0=0
     ·rw [if_pos c10] at H
      exact absurd H (by simp)
     ·rw [if_neg c10] at H
      have c10b0:(a0_0 == 0)=false:=beq_eq_false_iff_ne.mpr c10
      have c10b1:(a0_0 != 0)=true:=bne_iff_ne.mpr c10
      have H':=Aside0.mk H
      clear H
      have ⟨hcz11_0,hcz11_1,hfz11_0,hfz11_1⟩:=cz2_ BK139.out
      go_wp2_with (first | ((with_reducible refine gc_ 36 ?_);refine gl_ (some 7) Tryd.func36 #[.int .i64 a0_0] ?_;(with_reducible refine (spec_l02Node.calls a0_0 true _ A4.out).mono ?_);rintro e w' ⟨rfl,⟨nd,rfl⟩⟩;refine ⟨_,rfl,?_⟩))
      go_meet
      case rel=>exact ⟨_,((((l0_1.length:Int) % a0_0) != 0)),(z1_),H',⟨by first | omega | exact Nat.le_refl _⟩,⟨z4_ BK139.out⟩,⟨z5_ HB.out GE139.out⟩⟩
  ·replace c5:=Bool.eq_false_iff.mpr c5
   subst c5
   have H1:(spec_RingRight.j0 k true a0_0 l0_1)=some r:=by rw [if_neg (show ¬ (false=true) by decide)] at H;exact H
   clear H
   have H:=H1
   clear H1
   have H':=Aside0.mk H
   clear H
   have ⟨hcz12_0,hcz12_1,hfz12_0,hfz12_1⟩:=cz2_ BK139.out
   go_wp2_with (first | ((with_reducible refine gc_ 36 ?_);refine gl_ (some 7) Tryd.func36 #[.int .i64 a0_0] ?_;(with_reducible refine (spec_l02Node.calls a0_0 false _ A4.out).mono ?_);rintro e w' ⟨rfl,⟨nd,rfl⟩⟩;refine ⟨_,rfl,?_⟩))
   go_meet
   case rel=>exact ⟨_,(true),(z1_),H',⟨by first | omega | exact Nat.le_refl _⟩,⟨z4_ BK139.out⟩,⟨z5_ HB.out GE139.out⟩⟩
 case rest =>
  clear HC2
  try clear c1
  try clear p2
  try clear c3
  try clear c5
  try clear c6
  try clear c6b0
  try clear c6b1
  try clear p6
  try clear c8
  try clear c8b0
  try clear c10
  try clear c10b0
  try clear c10b1
  try clear c11
  try clear hcz11_0
  try clear hcz11_1
  try clear hcz12_0
  try clear hcz12_1
  try clear hcz7_0
  try clear hcz7_1
  try clear hcz9_0
  try clear hcz9_1
  try clear hfz11_0
  try clear hfz11_1
  try clear hfz12_0
  try clear hfz12_1
  try clear hfz7_0
  try clear hfz7_1
  try clear hfz9_0
  try clear hfz9_1
  obtain ⟨kq,x32_1,rfl,HA,HJ1,BK139,HB⟩:=hcut
  cases kq with
  | zero=>exact absurd HA.out (by simp [spec_RingRight.j0])
  | succ kj1 =>
   have H:=HA.out
   clear HA
   simp only [spec_RingRight.j0] at H
   by_cases c13:x32_1=true
   ·subst c13
    have H1:(some false)=some r:=by rw [if_pos rfl] at H;exact H
    clear H
    have H:=H1
    clear H1
    obtain rfl:=Option.some.inj H
    go_wp2
    go_ret
    exact ⟨z10_,z5_ HB.out GE139.out⟩
   ·replace c13:=Bool.eq_false_iff.mpr c13
    subst c13
    have H1:(if a0_0=0 then (none) else ((spec_l04New.f kj1 a0_0 (wrap64 ((l0_1.length:Int) / a0_0))).bind fun bt141=>(spec_RingRight.l0 kj1 0 a0_0 l0_1 bt141.1 bt141.2)))=some r:=by rw [if_neg (show ¬ (false=true) by decide)] at H;exact H
    clear H
    have H:=H1
    clear H1
    by_cases c14:a0_0=0
    ·rw [if_pos c14] at H
     exact absurd H (by simp)
    ·rw [if_neg c14] at H
     have c14b0:(a0_0 == 0)=false:=beq_eq_false_iff_ne.mpr c14
     have c14b1:(a0_0 != 0)=true:=bne_iff_ne.mpr c14
     replace H:=Option.bind_eq_some_iff.mp H
     obtain ⟨⟨t141,t142⟩,A150,H⟩:=H
     replace H:(spec_RingRight.l0 kj1 0 a0_0 l0_1 t141 t142)=some r:=H
     have A15:=Aside0.mk A150
     clear A150
     have H':=Aside0.mk H
     clear H
     try go_wp2
     refine as2_ (blk_drew BK139.out) (below_drew1 HB.out) ?_
     clear BK139 HB
     intro BK139 HB
     refine start_ (n:=11) (S:=fun w'=>w'.cell? ⟨gb139,0,none⟩=some (.int .i64 a0_0)∧w'.cell? ⟨gb139,1,none⟩=some (.slice A0_1 l0_1.length c0_1)) (ds:=[]) #[O,O,O,O,O,O,O,O,O,O,O] (by kernel_rfl) rfl rfl (cc2_ BK139.out) (fun hHeld=>?_);refine with_tabW spec_RingRight.tab3 spec_RingRight.bits3 (fun HT_ HW_=>?_)
     generalize wc.drew=w16 at BK139 HB hHeld ⊢
     refine pu_ 0 33 #[I,O,O,O,O,O,O,O,O,O,O] HT_.out ?_
     refine pu_ 2 35 #[I,O,I,O,O,O,O,O,O,O,O] HT_.out ?_
     refine pu_ 5 38 #[I,O,I,O,O,I,O,O,O,O,O] HT_.out ?_
     refine tk2_ 1 34 #[I,I,I,O,O,I,O,O,O,O,O] HT_.out HW_.out hHeld ?_
     refine tk2_ 3 36 #[I,I,I,I,O,I,O,O,O,O,O] HT_.out HW_.out hHeld ?_
     refine pu_ 4 37 #[I,I,I,I,I,I,O,O,O,O,O] HT_.out ?_
     refine tk2_ 6 39 #[I,I,I,I,I,I,I,O,O,O,O] HT_.out HW_.out hHeld ?_
     refine pu_ 7 40 #[I,I,I,I,I,I,I,I,O,O,O] HT_.out ?_
     refine join_ (σ:=Value × Nat) 1 #[I,I,I,I,I,I,I,I,I,I,O] (fun s_=>[(41,.agg #[.int .i64 t141,s_.1]),(3,.pointer (some ⟨s_.2,0,none⟩))]) (fun s_ w'=>(w'.cell? ⟨gb139,0,none⟩=some (.int .i64 a0_0)∧w'.cell? ⟨gb139,1,none⟩=some (.slice A0_1 l0_1.length c0_1))∧(Kd.R k57 57 w' w.heap.size (fun _=>True) s_.1 t142)∧(w'.heap[gb139]? = some (.cells #[.int .i64 a0_0,.slice A0_1 l0_1.length c0_1] 29 (0,0)))∧(w'.heap[s_.2]? = some (.cells #[.int .i64 0,.slice none 0 0] 29 (0,0)))∧(w.heap.size≤s_.2)∧(w.heap.size≤s_.2)∧(gb139≠s_.2)∧(s_.2≠gb139)∧(Below w.heap.size w w')) ?_ ?_
     rotate_left
     ·intro hCont
      refine o2_ 8 9 41 3 #[I,I,I,I,I,I,I,I,I,O,O] #[I,I,I,I,I,I,I,I,O,I,O] HT_.out (fun K hK=>?_) (fun K hK=>?_)
      ·skip
       refine gs_ Tryd.func37 #[.int .i64 a0_0,.int .i64 (wrap64 ((l0_1.length:Int) / a0_0))] ?_
       with_reducible refine (spec_l04New.calls kj1 a0_0 (wrap64 ((l0_1.length:Int) / a0_0)) t141 t142 _ A15.out).mono ?_
       rintro e w17 ⟨v143,rfl,ho0,hb⟩
       refine ⟨_,rfl,?_⟩
       refine as3_ (Kd.R_lower ho0 (below_size (z5_ HB.out GE139.out))) (blkB_ BK139.out hb) (below_step (z5_ HB.out GE139.out) hb) ?_
       clear BK139 HB
       intro HO144 BK139 HB
       (try clear hb)
       (try clear ho0)
       refine hK.out _ _ (cc2_ BK139.out) (fun hHeld=>?_)
       clear hK K
       refine nm_ 41 ?_
       refine o1_ 9 3 #[I,I,I,I,I,I,I,I,I,I,O] HT_.out (fun K hK=>?_)
       refine bs_ 3 #[.int .i64 0,.slice none 0 0] 29 ?_
       intro gb145 hg w18 hbox hb
       refine as8_ (Kd.R_below (z2_ HO144.out) hb) (blkB_ BK139.out hb) (below_step (z5_ HB.out GE139.out) hb) (hbox) ((z12_ HB.out GE139.out:w.heap.size≤gb145)) ((z12_ HB.out GE139.out:w.heap.size≤gb145)) (neL_ BK139.out hg) (neG_ BK139.out hg) ?_
       clear HO144 BK139 HB
       intro HO144 BK139 HB BK145 GW145 GE145 NB139_145 NB145_139
       clear hb hbox hg
       refine hK.out _ _ (cc2_ BK139.out) (fun hHeld=>?_)
       clear hK K
       refine nm_ 3 ?_
       exact norm_ (by simp only [putAll,Act.put,List.setIfInBounds_toArray,List.set_cons_zero,List.set_cons_succ]) (hCont (v143,gb145) _ ⟨hHeld,(z2_ HO144.out),(z4_ BK139.out),(z4_ BK145.out),GW145.out,GE145.out,NB139_145.out,NB145_139.out,(z7_ HB.out GE139.out GE145.out)⟩)
      ·skip
       refine bs_ 3 #[.int .i64 0,.slice none 0 0] 29 ?_
       intro gb145 hg w17 hbox hb
       refine as7_ (blkB_ BK139.out hb) (below_step (z5_ HB.out GE139.out) hb) (hbox) ((z12_ HB.out GE139.out:w.heap.size≤gb145)) ((z12_ HB.out GE139.out:w.heap.size≤gb145)) (neL_ BK139.out hg) (neG_ BK139.out hg) ?_
       clear BK139 HB
       intro BK139 HB BK145 GW145 GE145 NB139_145 NB145_139
       clear hb hbox hg
       refine hK.out _ _ (cc2_ BK139.out) (fun hHeld=>?_)
       clear hK K
       refine nm_ 3 ?_
       refine o1_ 8 41 #[I,I,I,I,I,I,I,I,I,I,O] HT_.out (fun K hK=>?_)
       refine gs_ Tryd.func37 #[.int .i64 a0_0,.int .i64 (wrap64 ((l0_1.length:Int) / a0_0))] ?_
       with_reducible refine (spec_l04New.calls kj1 a0_0 (wrap64 ((l0_1.length:Int) / a0_0)) t141 t142 _ A15.out).mono ?_
       rintro e w18 ⟨v143,rfl,ho0,hb⟩
       refine ⟨_,rfl,?_⟩
       refine as4_ (Kd.R_lower ho0 (below_size (z7_ HB.out GE139.out GE145.out))) (blkB_ BK139.out hb) (blkB_ BK145.out hb) (below_step (z7_ HB.out GE139.out GE145.out) hb) ?_
       clear BK139 BK145 HB
       intro HO144 BK139 BK145 HB
       (try clear hb)
       (try clear ho0)
       refine hK.out _ _ (cc2_ BK139.out) (fun hHeld=>?_)
       clear hK K
       refine nm_ 41 ?_
       exact norm_ (by simp only [putAll,Act.put,List.setIfInBounds_toArray,List.set_cons_zero,List.set_cons_succ]) (hCont (v143,gb145) _ ⟨hHeld,(z2_ HO144.out),(z4_ BK139.out),(z4_ BK145.out),GW145.out,GE145.out,NB139_145.out,NB145_139.out,(z7_ HB.out GE139.out GE145.out)⟩)
     rintro ⟨v143,gb145⟩ w19 ⟨hS_,h0_,h1_,h2_,h3_,h4_,h5_,h6_,h7_⟩
     have n0_:Aside0 (Kd.R k57 57 w19 w.heap.size (fun _=>True) v143 t142):=⟨h0_⟩
     have n1_:Aside0 (w19.heap[gb139]? = some (.cells #[.int .i64 a0_0,.slice A0_1 l0_1.length c0_1] 29 (0,0))):=⟨h1_⟩
     have n2_:Aside0 (w19.heap[gb145]? = some (.cells #[.int .i64 0,.slice none 0 0] 29 (0,0))):=⟨h2_⟩
     have n3_:Aside0 (w.heap.size≤gb145):=⟨h3_⟩
     have n4_:Aside0 (w.heap.size≤gb145):=⟨h4_⟩
     have n5_:Aside0 (gb139≠gb145):=⟨h5_⟩
     have n6_:Aside0 (gb145≠gb139):=⟨h6_⟩
     have n7_:Aside0 (Below w.heap.size w w19):=⟨h7_⟩
     clear BK139
     clear HB
     clear h0_ h1_ h2_ h3_ h4_ h5_ h6_ h7_
     have HO144:=n0_
     have BK139:=n1_
     have BK145:=n2_
     have GW145:=n3_
     have GE145:=n4_
     have NB139_145:=n5_
     have NB145_139:=n6_
     have HB:=n7_
     clear n0_ n1_ n2_ n3_ n4_ n5_ n6_ n7_
     have hHeld:w19.cell? ⟨gb139,0,none⟩=some (.int .i64 a0_0)∧w19.cell? ⟨gb139,1,none⟩=some (.slice A0_1 l0_1.length c0_1):=hS_
     obtain ⟨Ao21,co21,eo21⟩:=Kd.R_slice HO144.out
     (first | subst eo21 | (injection eo21 with f1_ f2_ f3_;have f4_:=f1_.symm;have f5_:=f3_.symm;clear f1_ f2_ f3_;subst f4_;subst f5_))
     refine norm_ (a':=?_) ?_ ?_
     rotate_left
     ·simp only [putAll,Act.put,List.setIfInBounds_toArray,List.set_cons_zero,List.set_cons_succ]
      rfl
     refine one_ (i:=10) (N:=none) #[I,I,I,I,I,I,I,I,I,I,I] rfl rfl (one_of HT_.out (by kernel_rfl)) (by decide) (fun K hK=>?_)
     have hs20:w19.cell? ⟨gb145,0,none⟩=some (.int .i64 0):=(blk_cell BK145.out 0).trans rfl
     have hfs20:=blk_frozen BK145.out 0
     have hns20_0:=NB139_145.out
     have hms20_0:=NB145_139.out
     have hs22:w19.cell? ⟨gb145,1,none⟩=some (.slice none 0 0):=(blk_cell BK145.out 1).trans rfl
     have hfs22:=blk_frozen BK145.out 1
     have hns22_0:=NB139_145.out
     have hms22_0:=NB145_139.out
     refine skip_ (w1:=?_) (by rfl) rfl ?_ ?_
     rotate_left
     ·go_simp
      rfl
     refine hK.out _ _ ⟨((cell_far (p:=⟨gb145,_,none⟩) NB139_145.out _).trans (((cell_far (p:=⟨gb145,_,none⟩) NB139_145.out _).trans (hHeld.1)))),((cell_far (p:=⟨gb145,_,none⟩) NB139_145.out _).trans (((cell_far (p:=⟨gb145,_,none⟩) NB139_145.out _).trans (hHeld.2))))⟩ (fun hHeld=>?_)
     clear hK K
     refine done_ (done_of HT_.out (by kernel_rfl)) ?_
     try go_wp2
     go_loopg [4] kj1 (fun kq v4 w'=>∃ (x4_2:Int),v4 = .int .i64 x4_2∧Aside0 (spec_RingRight.l0 kq x4_2 a0_0 l0_1 t141 t142=some r)∧Aside0 (kq≤kj1)∧Aside0 (Kd.R k57 57 w' w.heap.size (fun _=>True) (.slice Ao21 t142.length co21) t142)∧Aside0 (w'.heap[gb139]? = some (.cells #[.int .i64 a0_0,(.slice A0_1 l0_1.length c0_1)] 29 (0,0)))∧Aside0 (w'.heap[gb145]? = some (.cells #[.int .i64 t141,(.slice Ao21 t142.length co21)] 29 (0,0)))∧Aside0 (Below w.heap.size w w'))
     case atStart=>exact ⟨(0),(z1_),H',⟨Nat.le_refl _⟩,⟨z38_ HO144.out BK145.out⟩,⟨z24_ NB139_145.out BK139.out⟩,⟨z23_ BK145.out⟩,⟨z7_ HB.out GE139.out GE145.out⟩⟩
     case round =>
      clear H'
      try clear c1
      try clear p2
      try clear c3
      try clear c5
      try clear c6
      try clear c6b0
      try clear c6b1
      try clear p6
      try clear c8
      try clear c8b0
      try clear c10
      try clear c10b0
      try clear c10b1
      try clear c11
      try clear c13
      try clear c14
      try clear c14b0
      try clear c14b1
      try clear hcz11_0
      try clear hcz11_1
      try clear hcz12_0
      try clear hcz12_1
      try clear hcz7_0
      try clear hcz7_1
      try clear hcz9_0
      try clear hcz9_1
      try clear hfz11_0
      try clear hfz11_1
      try clear hfz12_0
      try clear hfz12_1
      try clear hfz7_0
      try clear hfz7_1
      try clear hfz9_0
      try clear hfz9_1
      try clear p2
      try clear p6
      obtain ⟨x4_2,rfl,HA,HK2,HO_146001,BK139,BK145,HB⟩:=hrel
      cases gk with
      | zero=>exact absurd HA.out (by simp [spec_RingRight.l0])
      | succ k2 =>
       have H:=HA.out
       clear HA
       simp only [spec_RingRight.l0] at H
       by_cases c23:x4_2<(l0_1.length:Int)
       ·rw [if_pos c23] at H
        have c23b0:decide (x4_2<(l0_1.length:Int))=true:=decide_eq_true c23
        clear c23
        by_cases c24:0≤x4_2
        ·rw [if_pos c24] at H
         have c24b0:decide (0≤x4_2)=true:=decide_eq_true c24
         clear c24
         by_cases c25:x4_2<(t142.length:Int)
         ·rw [if_pos c25] at H
          have c25b0:decide (x4_2<(t142.length:Int))=true:=decide_eq_true c25
          clear c25
          by_cases c26:(!(((rd_T57 l0_1 x4_2).f0) == ((rd_T57 t142 x4_2).f0)) || (!(((rd_T57 l0_1 x4_2).f1) == ((rd_T57 t142 x4_2).f1))))=true
          ·rw [if_pos c26] at H
           have c26b0:(!(((rd_T57 l0_1 x4_2).f0) == ((rd_T57 t142 x4_2).f0)) || (!(((rd_T57 l0_1 x4_2).f1) == ((rd_T57 t142 x4_2).f1))))=true:=c26
           clear c26
           obtain rfl:=Option.some.inj H
           have hnb27:=NB139_145.out
           have hnc27:=NB145_139.out
           have ⟨hcz28_0,hcz28_1,hfz28_0,hfz28_1⟩:=cz2_ BK139.out
           try go_wp2
           refine as4_ (Kd.R_drew HO_146001.out) (blk_drew BK139.out) (blk_drew BK145.out) (below_drew1 HB.out) ?_
           clear HO_146001 BK139 BK145 HB
           intro HO_146001 BK139 BK145 HB
           have p146:0≤(x4_2:Int):=of_decide_eq_true (z0_)
           have q146:x4_2<(l0_1.length:Int):=of_decide_eq_true (z0_)
           obtain ⟨ad146,e146,hx146_0,hx146_1⟩:=at_T57 HR0_1.out x4_2 p146 q146
           have hw146_1:=hx146_1
           have hw146_0:=hx146_0
           cases e146
           replace hx146_0:=(HB.out.cell (World.block_lt_of_cell? w _ hx146_0)).trans hx146_0
           replace hx146_1:=(HB.out.cell (World.block_lt_of_cell? w _ hx146_1)).trans hx146_1
           replace p146:=eq_true p146
           replace q146:=eq_true q146
           have p147:0≤(x4_2:Int):=of_decide_eq_true (z0_)
           have q147:x4_2<(t142.length:Int):=of_decide_eq_true (z0_)
           obtain ⟨ad147,e147,hx147_0,hx147_1⟩:=at_T57 (Kd.R_reads' HO_146001.out).2.2 x4_2 p147 q147
           cases e147
           replace p147:=eq_true p147
           replace q147:=eq_true q147
           refine start_ (n:=11) (S:=fun w'=>w'.cell? ⟨gb139,0,none⟩=some (.int .i64 a0_0)∧w'.cell? ⟨gb139,1,none⟩=some (.slice (some ad146) l0_1.length c0_1)∧w'.cell? ⟨gb145,0,none⟩=some (.int .i64 t141)∧w'.cell? ⟨gb145,1,none⟩=some (.slice (some ad147) t142.length co21)∧w'.cell? (ad146.add ((x4_2).toNat*2))=some (.int .i64 ((rd_T57 l0_1 x4_2).f0))∧w'.cell? ⟨(ad146.add ((x4_2).toNat*2)).block,(ad146.add ((x4_2).toNat*2)).off+1,none⟩=some (.int .i64 ((rd_T57 l0_1 x4_2).f1))∧w'.cell? (ad147.add ((x4_2).toNat*2))=some (.int .i64 ((rd_T57 t142 x4_2).f0))∧w'.cell? ⟨(ad147.add ((x4_2).toNat*2)).block,(ad147.add ((x4_2).toNat*2)).off+1,none⟩=some (.int .i64 ((rd_T57 t142 x4_2).f1))) (ds:=[]) #[O,O,O,O,O,O,O,O,O,O,O] (by kernel_rfl) rfl rfl (cj2_ BK139.out (cj2_ BK145.out ⟨((HB.out.cell (World.block_lt_of_cell? w _ hw146_0)).trans hw146_0),⟨((HB.out.cell (World.block_lt_of_cell? w _ hw146_1)).trans hw146_1),⟨hx147_0,hx147_1⟩⟩⟩)) (fun hHeld=>?_);refine with_tabW spec_RingRight.tab7 spec_RingRight.bits7 (fun HT_ HW_=>?_)
           generalize wr.drew=w29 at HO_146001 BK139 BK145 HB hx146_0 hx146_1 hx147_0 hx147_1 hHeld ⊢
           refine pu_ 0 49 #[I,O,O,O,O,O,O,O,O,O,O] HT_.out ?_
           refine pu_ 2 51 #[I,O,I,O,O,O,O,O,O,O,O] HT_.out ?_
           refine pu_ 5 54 #[I,O,I,O,O,I,O,O,O,O,O] HT_.out ?_
           refine pu_ 7 56 #[I,O,I,O,O,I,O,I,O,O,O] HT_.out ?_
           refine tk8_ 1 50 #[I,I,I,O,O,I,O,I,O,O,O] HT_.out HW_.out hHeld ?_
           refine pu_ 3 52 #[I,I,I,I,O,I,O,I,O,O,O] HT_.out ?_
           refine tk8_ 4 53 #[I,I,I,I,I,I,O,I,O,O,O] HT_.out HW_.out hHeld ?_
           refine tk8_ 6 55 #[I,I,I,I,I,I,I,I,O,O,O] HT_.out HW_.out hHeld ?_
           refine pu_ 8 57 #[I,I,I,I,I,I,I,I,I,O,O] HT_.out ?_
           refine tk8_ 9 58 #[I,I,I,I,I,I,I,I,I,I,O] HT_.out HW_.out hHeld ?_
           refine pu_ 10 59 #[I,I,I,I,I,I,I,I,I,I,I] HT_.out ?_
           refine done_ (done_of HT_.out (by kernel_rfl)) ?_
           try go_wp2
           go_ret
           exact ⟨z10_,z7_ HB.out GE139.out GE145.out⟩
          ·rw [if_neg c26] at H
           have c26b0:(!(((rd_T57 l0_1 x4_2).f0) == ((rd_T57 t142 x4_2).f0)) || (!(((rd_T57 l0_1 x4_2).f1) == ((rd_T57 t142 x4_2).f1))))=false:=by simpa using c26
           clear c26
           have H':=Aside0.mk H
           clear H
           have hnb30:=NB139_145.out
           have hnc30:=NB145_139.out
           have ⟨hcz31_0,hcz31_1,hfz31_0,hfz31_1⟩:=cz2_ BK139.out
           try go_wp2
           refine as4_ (Kd.R_drew HO_146001.out) (blk_drew BK139.out) (blk_drew BK145.out) (below_drew1 HB.out) ?_
           clear HO_146001 BK139 BK145 HB
           intro HO_146001 BK139 BK145 HB
           have p146:0≤(x4_2:Int):=of_decide_eq_true (z0_)
           have q146:x4_2<(l0_1.length:Int):=of_decide_eq_true (z0_)
           obtain ⟨ad146,e146,hx146_0,hx146_1⟩:=at_T57 HR0_1.out x4_2 p146 q146
           have hw146_1:=hx146_1
           have hw146_0:=hx146_0
           cases e146
           replace hx146_0:=(HB.out.cell (World.block_lt_of_cell? w _ hx146_0)).trans hx146_0
           replace hx146_1:=(HB.out.cell (World.block_lt_of_cell? w _ hx146_1)).trans hx146_1
           replace p146:=eq_true p146
           replace q146:=eq_true q146
           have p147:0≤(x4_2:Int):=of_decide_eq_true (z0_)
           have q147:x4_2<(t142.length:Int):=of_decide_eq_true (z0_)
           obtain ⟨ad147,e147,hx147_0,hx147_1⟩:=at_T57 (Kd.R_reads' HO_146001.out).2.2 x4_2 p147 q147
           cases e147
           replace p147:=eq_true p147
           replace q147:=eq_true q147
           refine start_ (n:=11) (S:=fun w'=>w'.cell? ⟨gb139,0,none⟩=some (.int .i64 a0_0)∧w'.cell? ⟨gb139,1,none⟩=some (.slice (some ad146) l0_1.length c0_1)∧w'.cell? ⟨gb145,0,none⟩=some (.int .i64 t141)∧w'.cell? ⟨gb145,1,none⟩=some (.slice (some ad147) t142.length co21)∧w'.cell? (ad146.add ((x4_2).toNat*2))=some (.int .i64 ((rd_T57 l0_1 x4_2).f0))∧w'.cell? ⟨(ad146.add ((x4_2).toNat*2)).block,(ad146.add ((x4_2).toNat*2)).off+1,none⟩=some (.int .i64 ((rd_T57 l0_1 x4_2).f1))∧w'.cell? (ad147.add ((x4_2).toNat*2))=some (.int .i64 ((rd_T57 t142 x4_2).f0))∧w'.cell? ⟨(ad147.add ((x4_2).toNat*2)).block,(ad147.add ((x4_2).toNat*2)).off+1,none⟩=some (.int .i64 ((rd_T57 t142 x4_2).f1))) (ds:=[]) #[O,O,O,O,O,O,O,O,O,O,O] (by kernel_rfl) rfl rfl (cj2_ BK139.out (cj2_ BK145.out ⟨((HB.out.cell (World.block_lt_of_cell? w _ hw146_0)).trans hw146_0),⟨((HB.out.cell (World.block_lt_of_cell? w _ hw146_1)).trans hw146_1),⟨hx147_0,hx147_1⟩⟩⟩)) (fun hHeld=>?_);refine with_tabW spec_RingRight.tab7 spec_RingRight.bits7 (fun HT_ HW_=>?_)
           generalize wr.drew=w32 at HO_146001 BK139 BK145 HB hx146_0 hx146_1 hx147_0 hx147_1 hHeld ⊢
           refine pu_ 0 49 #[I,O,O,O,O,O,O,O,O,O,O] HT_.out ?_
           refine pu_ 2 51 #[I,O,I,O,O,O,O,O,O,O,O] HT_.out ?_
           refine pu_ 5 54 #[I,O,I,O,O,I,O,O,O,O,O] HT_.out ?_
           refine pu_ 7 56 #[I,O,I,O,O,I,O,I,O,O,O] HT_.out ?_
           refine tk8_ 1 50 #[I,I,I,O,O,I,O,I,O,O,O] HT_.out HW_.out hHeld ?_
           refine pu_ 3 52 #[I,I,I,I,O,I,O,I,O,O,O] HT_.out ?_
           refine tk8_ 4 53 #[I,I,I,I,I,I,O,I,O,O,O] HT_.out HW_.out hHeld ?_
           refine tk8_ 6 55 #[I,I,I,I,I,I,I,I,O,O,O] HT_.out HW_.out hHeld ?_
           refine pu_ 8 57 #[I,I,I,I,I,I,I,I,I,O,O] HT_.out ?_
           refine tk8_ 9 58 #[I,I,I,I,I,I,I,I,I,I,O] HT_.out HW_.out hHeld ?_
           refine pu_ 10 59 #[I,I,I,I,I,I,I,I,I,I,I] HT_.out ?_
           refine done_ (done_of HT_.out (by kernel_rfl)) ?_
           try go_wp2
           go_roundg k2
           case measure=>have:=HJ1.out;have:=HK2.out;omega
           case rel=>exact ⟨(wrap64 (x4_2+1)),(z1_),H',⟨z13_ HJ1.out HK2.out⟩,⟨z2_ HO_146001.out⟩,⟨z4_ BK139.out⟩,⟨z4_ BK145.out⟩,⟨z7_ HB.out GE139.out GE145.out⟩⟩
         ·rw [if_neg c25] at H
          exact absurd H (by simp)
        ·rw [if_neg c24] at H
         exact absurd H (by simp)
       ·rw [if_neg c23] at H
        have c23b0:decide (x4_2<(l0_1.length:Int))=false:=decide_eq_false c23
        clear c23
        obtain rfl:=Option.some.inj H
        have hnb33:=NB139_145.out
        have hnc33:=NB145_139.out
        have ⟨hcz34_0,hcz34_1,hfz34_0,hfz34_1⟩:=cz2_ BK139.out
        go_wp2
        go_ret
        exact ⟨z10_,z7_ HB.out GE139.out GE145.out⟩


/-! ### spec_NameRight: function 47 -/
mutual
def spec_NameRight.j0:Nat→ByteArray→Bool→Option (Bool)
 | 0,_,_=>none
 | k+1,x0,x12=>if x12=true then (some false) else (spec_NameRight.l0 k x0 0)
def spec_NameRight.l0:Nat→ByteArray→Int→Option (Bool)
 | 0,_,_=>none
 | k+1,x0,x3=>if x3<(x0.size:Int) then (if 0≤x3 then (if (bt x0 x3)≥97 then (if ((bt x0 x3)≤122) then (spec_NameRight.l0 k x0 (wrap64 (x3+1))) else (if x3=0 then (some false) else (if (bt x0 x3)≥48 then (if ((bt x0 x3)≤57) then (spec_NameRight.l0 k x0 (wrap64 (x3+1))) else (if (bt x0 x3)=95 then (spec_NameRight.l0 k x0 (wrap64 (x3+1))) else (some false))) else (if (bt x0 x3)=95 then (spec_NameRight.l0 k x0 (wrap64 (x3+1))) else (some false))))) else (if x3=0 then (some false) else (if (bt x0 x3)≥48 then (if ((bt x0 x3)≤57) then (spec_NameRight.l0 k x0 (wrap64 (x3+1))) else (if (bt x0 x3)=95 then (spec_NameRight.l0 k x0 (wrap64 (x3+1))) else (some false))) else (if (bt x0 x3)=95 then (spec_NameRight.l0 k x0 (wrap64 (x3+1))) else (some false))))) else (none)) else (some true)
end
def spec_NameRight.f (k:Nat) (a0:ByteArray):Option (Bool):=if (a0.size:Int)<1 then (spec_NameRight.j0 k a0 true) else (spec_NameRight.j0 k a0 (decide ((a0.size:Int)>20)))
theorem spec_NameRight.mono_l:∀ k,(∀ y0 y1,LeO (spec_NameRight.j0 k y0 y1) (spec_NameRight.j0 (k+1) y0 y1))∧(∀ y0 y1,LeO (spec_NameRight.l0 k y0 y1) (spec_NameRight.l0 (k+1) y0 y1))
 | 0=>⟨fun _ _ r h=>by simp [spec_NameRight.j0] at h,fun _ _ r h=>by simp [spec_NameRight.l0] at h⟩
 | k+1=>by
  obtain ⟨ih0,ih1⟩:=spec_NameRight.mono_l k
  refine ⟨?_,?_⟩
  ·intro y0 y1
   unfold spec_NameRight.j0
   repeat' first
   | (with_reducible exact ih0 _ _)
   | (with_reducible exact ih1 _ _)
   | (with_reducible exact LeO.refl _)
   | (with_reducible exact LeO.none _)
   | (with_reducible refine LeO.ite ?_ ?_)
   | (with_reducible refine LeO.bind ?_ (fun _=>?_))
   | exact ih0 _ _
   | exact ih1 _ _
   | exact LeO.none _
   | refine LeO.ite ?_ ?_
   | refine LeO.bind ?_ (fun _=>?_)
  ·intro y0 y1
   unfold spec_NameRight.l0
   repeat' first
   | (with_reducible exact ih0 _ _)
   | (with_reducible exact ih1 _ _)
   | (with_reducible exact LeO.refl _)
   | (with_reducible exact LeO.none _)
   | (with_reducible refine LeO.ite ?_ ?_)
   | (with_reducible refine LeO.bind ?_ (fun _=>?_))
   | exact ih0 _ _
   | exact ih1 _ _
   | exact LeO.none _
   | refine LeO.ite ?_ ?_
   | refine LeO.bind ?_ (fun _=>?_)
theorem spec_NameRight.mono:∀ a0 k,LeO (spec_NameRight.f k a0) (spec_NameRight.f (k+1) a0):=by
 intro a0 k
 obtain ⟨ih0,ih1⟩:=spec_NameRight.mono_l k
 unfold spec_NameRight.f
 repeat' first
   | (with_reducible exact ih0 _ _)
   | (with_reducible exact ih1 _ _)
   | (with_reducible exact LeO.refl _)
   | (with_reducible exact LeO.none _)
   | (with_reducible refine LeO.ite ?_ ?_)
   | (with_reducible refine LeO.bind ?_ (fun _=>?_))
   | exact ih0 _ _
   | exact ih1 _ _
   | exact LeO.none _
   | refine LeO.ite ?_ ?_
   | refine LeO.bind ?_ (fun _=>?_)
set_option maxHeartbeats 8000000 in
set_option maxRecDepth 100000 in
theorem spec_NameRight.calls (k:Nat) (a0:ByteArray) (r:Bool) (w:World) (h:spec_NameRight.f k a0=some r) :
  Calls Tryd.prog 47 #[.string a0] w fun e w'=>e = .returned (.bool r)∧Drawn0 w w':=by
 have H:(if (a0.size:Int)<1 then (spec_NameRight.j0 k a0 true) else (spec_NameRight.j0 k a0 (decide ((a0.size:Int)>20))))=some r:=h
 clear h
 have HC2:=Aside0.mk H
 clear H
 go_enter Tryd.func47,Tryd.ntmps47
 go_upto_region 1 with (fail)
 go_cut [12] (fun v12 wc=>∃ (kq:Nat) (x12_1:Bool),v12 = .bool x12_1∧Aside0 (spec_NameRight.j0 kq a0 x12_1=some r)∧Aside0 (kq≤k)∧Drawn0 w wc)
 case first =>
  have H:=HC2.out
  clear HC2
  by_cases c3:(a0.size:Int)<1
  ·rw [if_pos c3] at H
   have c3b0:decide ((a0.size:Int)<1)=true:=decide_eq_true c3
   have c3b1:decide (a0.size<1)=true:=decide_eq_true (by omega)
   clear c3
   (first | rw [c3b0] | (simp only [i64_w,i32_w];rw [c3b0]) | skip)
   have H':=Aside0.mk H
   clear H
   go_wp2
   go_meet
   case rel=>exact ⟨_,(true),(z1_),H',⟨by first | omega | exact Nat.le_refl _⟩,z6_⟩
  ·rw [if_neg c3] at H
   have c3b0:decide ((a0.size:Int)<1)=false:=decide_eq_false c3
   have c3b1:decide (a0.size<1)=false:=decide_eq_false (by omega)
   clear c3
   (first | rw [c3b0] | (simp only [i64_w,i32_w];rw [c3b0]) | skip)
   have H':=Aside0.mk H
   clear H
   go_wp2
   go_meet
   case rel=>exact ⟨_,(decide ((a0.size:Int)>20)),(z1_),H',⟨by first | omega | exact Nat.le_refl _⟩,z6_⟩
 case rest =>
  clear HC2
  try clear p2
  try clear c3
  try clear c3b0
  try clear c3b1
  obtain ⟨kq,x12_1,rfl,HA,HJ1,⟨mc1,rfl⟩⟩:=hcut
  cases kq with
  | zero=>exact absurd HA.out (by simp [spec_NameRight.j0])
  | succ kj1 =>
   have H:=HA.out
   clear HA
   simp only [spec_NameRight.j0] at H
   by_cases c4:x12_1=true
   ·subst c4
    have H1:(some false)=some r:=by rw [if_pos rfl] at H;exact H
    clear H
    have H:=H1
    clear H1
    obtain rfl:=Option.some.inj H
    go_wp2
    go_ret
    exact ⟨z1_,z6_⟩
   ·replace c4:=Bool.eq_false_iff.mpr c4
    subst c4
    have H1:(spec_NameRight.l0 kj1 a0 0)=some r:=by rw [if_neg (show ¬ (false=true) by decide)] at H;exact H
    clear H
    have H:=H1
    clear H1
    have H':=Aside0.mk H
    clear H
    go_wp2
    go_loopg [3] kj1 (fun kq v3 w'=>∃ (x3_2:Int),v3 = .int .i64 x3_2∧Aside0 (spec_NameRight.l0 kq a0 x3_2=some r)∧Aside0 (kq≤kj1)∧Drawn0 w w')
    case atStart=>exact ⟨(0),(z1_),H',⟨Nat.le_refl _⟩,z6_⟩
    case round =>
     clear H'
     try clear c1
     try clear p2
     try clear c3
     try clear c3b0
     try clear c3b1
     try clear c4
     try clear p2
     obtain ⟨x3_2,rfl,HA,HK2,⟨m2,rfl⟩⟩:=hrel
     cases gk with
     | zero=>exact absurd HA.out (by simp [spec_NameRight.l0])
     | succ k2 =>
      have H:=HA.out
      clear HA
      simp only [spec_NameRight.l0] at H
      by_cases c5:x3_2<(a0.size:Int)
      ·rw [if_pos c5] at H
       have c5b0:decide (x3_2<(a0.size:Int))=true:=decide_eq_true c5
       clear c5
       by_cases c6:0≤x3_2
       ·rw [if_pos c6] at H
        have c6b0:decide (0≤x3_2)=true:=decide_eq_true c6
        clear c6
        by_cases c8:(bt a0 x3_2)≥97
        ·rw [if_pos c8] at H
         have c8b0:decide (97≤(bt a0 x3_2))=true:=decide_eq_true c8
         clear c8
         by_cases c9:((bt a0 x3_2)≤122)
         ·rw [if_pos c9] at H
          have c9b0:decide ((bt a0 x3_2)≤122)=true:=decide_eq_true c9
          clear c9
          have H':=Aside0.mk H
          clear H
          have p7:0≤(x3_2:Int):=of_decide_eq_true (z0_)
          have q7:x3_2<(a0.size:Int):=of_decide_eq_true (z0_)
          have hx7:=bt_at a0 x3_2
          replace p7:=eq_true p7
          replace q7:=eq_true q7
          go_wp2
          go_roundg k2
          case measure=>have:=HJ1.out;have:=HK2.out;omega
          case rel=>exact ⟨(wrap64 (x3_2+1)),(z1_),H',⟨z13_ HJ1.out HK2.out⟩,z6_⟩
         ·rw [if_neg c9] at H
          have c9b0:decide ((bt a0 x3_2)≤122)=false:=decide_eq_false c9
          clear c9
          by_cases c10:x3_2=0
          ·rw [if_pos c10] at H
           have c10b0:(x3_2 == 0)=true:=beq_iff_eq.mpr c10
           have c10b1:(x3_2 != 0)=false:=bne_eq_false_iff_eq.mpr c10
           clear c10
           obtain rfl:=Option.some.inj H
           have p7:0≤(x3_2:Int):=of_decide_eq_true (z0_)
           have q7:x3_2<(a0.size:Int):=of_decide_eq_true (z0_)
           have hx7:=bt_at a0 x3_2
           replace p7:=eq_true p7
           replace q7:=eq_true q7
           go_wp2
           go_ret
           exact ⟨z1_,z6_⟩
          ·rw [if_neg c10] at H
           have c10b0:(x3_2 == 0)=false:=beq_eq_false_iff_ne.mpr c10
           have c10b1:(x3_2 != 0)=true:=bne_iff_ne.mpr c10
           by_cases c11:(bt a0 x3_2)≥48
           ·rw [if_pos c11] at H
            have c11b0:decide (48≤(bt a0 x3_2))=true:=decide_eq_true c11
            clear c11
            by_cases c12:((bt a0 x3_2)≤57)
            ·rw [if_pos c12] at H
             have c12b0:decide ((bt a0 x3_2)≤57)=true:=decide_eq_true c12
             clear c12
             have H':=Aside0.mk H
             clear H
             have p7:0≤(x3_2:Int):=of_decide_eq_true (z0_)
             have q7:x3_2<(a0.size:Int):=of_decide_eq_true (z0_)
             have hx7:=bt_at a0 x3_2
             replace p7:=eq_true p7
             replace q7:=eq_true q7
             go_wp2
             go_roundg k2
             case measure=>have:=HJ1.out;have:=HK2.out;omega
             case rel=>exact ⟨(wrap64 (x3_2+1)),(z1_),H',⟨z13_ HJ1.out HK2.out⟩,z6_⟩
            ·rw [if_neg c12] at H
             have c12b0:decide ((bt a0 x3_2)≤57)=false:=decide_eq_false c12
             clear c12
             by_cases c13:(bt a0 x3_2)=95
             ·rw [if_pos c13] at H
              have c13b0:((bt a0 x3_2) == 95)=true:=beq_iff_eq.mpr c13
              have c13b1:((bt a0 x3_2) != 95)=false:=bne_eq_false_iff_eq.mpr c13
              clear c13
              have H':=Aside0.mk H
              clear H
              have p7:0≤(x3_2:Int):=of_decide_eq_true (z0_)
              have q7:x3_2<(a0.size:Int):=of_decide_eq_true (z0_)
              have hx7:=bt_at a0 x3_2
              replace p7:=eq_true p7
              replace q7:=eq_true q7
              go_wp2
              go_roundg k2
              case measure=>have:=HJ1.out;have:=HK2.out;omega
              case rel=>exact ⟨(wrap64 (x3_2+1)),(z1_),H',⟨z13_ HJ1.out HK2.out⟩,z6_⟩
             ·rw [if_neg c13] at H
              have c13b0:((bt a0 x3_2) == 95)=false:=beq_eq_false_iff_ne.mpr c13
              have c13b1:((bt a0 x3_2) != 95)=true:=bne_iff_ne.mpr c13
              obtain rfl:=Option.some.inj H
              have p7:0≤(x3_2:Int):=of_decide_eq_true (z0_)
              have q7:x3_2<(a0.size:Int):=of_decide_eq_true (z0_)
              have hx7:=bt_at a0 x3_2
              replace p7:=eq_true p7
              replace q7:=eq_true q7
              go_wp2
              go_ret
              exact ⟨z1_,z6_⟩
           ·rw [if_neg c11] at H
            have c11b0:decide (48≤(bt a0 x3_2))=false:=decide_eq_false c11
            clear c11
            by_cases c14:(bt a0 x3_2)=95
            ·rw [if_pos c14] at H
             have c14b0:((bt a0 x3_2) == 95)=true:=beq_iff_eq.mpr c14
             have c14b1:((bt a0 x3_2) != 95)=false:=bne_eq_false_iff_eq.mpr c14
             clear c14
             have H':=Aside0.mk H
             clear H
             have p7:0≤(x3_2:Int):=of_decide_eq_true (z0_)
             have q7:x3_2<(a0.size:Int):=of_decide_eq_true (z0_)
             have hx7:=bt_at a0 x3_2
             replace p7:=eq_true p7
             replace q7:=eq_true q7
             go_wp2
             go_roundg k2
             case measure=>have:=HJ1.out;have:=HK2.out;omega
             case rel=>exact ⟨(wrap64 (x3_2+1)),(z1_),H',⟨z13_ HJ1.out HK2.out⟩,z6_⟩
            ·rw [if_neg c14] at H
             have c14b0:((bt a0 x3_2) == 95)=false:=beq_eq_false_iff_ne.mpr c14
             have c14b1:((bt a0 x3_2) != 95)=true:=bne_iff_ne.mpr c14
             obtain rfl:=Option.some.inj H
             have p7:0≤(x3_2:Int):=of_decide_eq_true (z0_)
             have q7:x3_2<(a0.size:Int):=of_decide_eq_true (z0_)
             have hx7:=bt_at a0 x3_2
             replace p7:=eq_true p7
             replace q7:=eq_true q7
             go_wp2
             go_ret
             exact ⟨z1_,z6_⟩
        ·rw [if_neg c8] at H
         have c8b0:decide (97≤(bt a0 x3_2))=false:=decide_eq_false c8
         clear c8
         by_cases c15:x3_2=0
         ·rw [if_pos c15] at H
          have c15b0:(x3_2 == 0)=true:=beq_iff_eq.mpr c15
          have c15b1:(x3_2 != 0)=false:=bne_eq_false_iff_eq.mpr c15
          clear c15
          obtain rfl:=Option.some.inj H
          have p7:0≤(x3_2:Int):=of_decide_eq_true (z0_)
          have q7:x3_2<(a0.size:Int):=of_decide_eq_true (z0_)
          have hx7:=bt_at a0 x3_2
          replace p7:=eq_true p7
          replace q7:=eq_true q7
          go_wp2
          go_ret
          exact ⟨z1_,z6_⟩
         ·rw [if_neg c15] at H
          have c15b0:(x3_2 == 0)=false:=beq_eq_false_iff_ne.mpr c15
          have c15b1:(x3_2 != 0)=true:=bne_iff_ne.mpr c15
          by_cases c16:(bt a0 x3_2)≥48
          ·rw [if_pos c16] at H
           have c16b0:decide (48≤(bt a0 x3_2))=true:=decide_eq_true c16
           clear c16
           by_cases c17:((bt a0 x3_2)≤57)
           ·rw [if_pos c17] at H
            have c17b0:decide ((bt a0 x3_2)≤57)=true:=decide_eq_true c17
            clear c17
            have H':=Aside0.mk H
            clear H
            have p7:0≤(x3_2:Int):=of_decide_eq_true (z0_)
            have q7:x3_2<(a0.size:Int):=of_decide_eq_true (z0_)
            have hx7:=bt_at a0 x3_2
            replace p7:=eq_true p7
            replace q7:=eq_true q7
            go_wp2
            go_roundg k2
            case measure=>have:=HJ1.out;have:=HK2.out;omega
            case rel=>exact ⟨(wrap64 (x3_2+1)),(z1_),H',⟨z13_ HJ1.out HK2.out⟩,z6_⟩
           ·rw [if_neg c17] at H
            have c17b0:decide ((bt a0 x3_2)≤57)=false:=decide_eq_false c17
            clear c17
            by_cases c18:(bt a0 x3_2)=95
            ·rw [if_pos c18] at H
             have c18b0:((bt a0 x3_2) == 95)=true:=beq_iff_eq.mpr c18
             have c18b1:((bt a0 x3_2) != 95)=false:=bne_eq_false_iff_eq.mpr c18
             clear c18
             have H':=Aside0.mk H
             clear H
             have p7:0≤(x3_2:Int):=of_decide_eq_true (z0_)
             have q7:x3_2<(a0.size:Int):=of_decide_eq_true (z0_)
             have hx7:=bt_at a0 x3_2
             replace p7:=eq_true p7
             replace q7:=eq_true q7
             go_wp2
             go_roundg k2
             case measure=>have:=HJ1.out;have:=HK2.out;omega
             case rel=>exact ⟨(wrap64 (x3_2+1)),(z1_),H',⟨z13_ HJ1.out HK2.out⟩,z6_⟩
            ·rw [if_neg c18] at H
             have c18b0:((bt a0 x3_2) == 95)=false:=beq_eq_false_iff_ne.mpr c18
             have c18b1:((bt a0 x3_2) != 95)=true:=bne_iff_ne.mpr c18
             obtain rfl:=Option.some.inj H
             have p7:0≤(x3_2:Int):=of_decide_eq_true (z0_)
             have q7:x3_2<(a0.size:Int):=of_decide_eq_true (z0_)
             have hx7:=bt_at a0 x3_2
             replace p7:=eq_true p7
             replace q7:=eq_true q7
             go_wp2
             go_ret
             exact ⟨z1_,z6_⟩
          ·rw [if_neg c16] at H
           have c16b0:decide (48≤(bt a0 x3_2))=false:=decide_eq_false c16
           clear c16
           by_cases c19:(bt a0 x3_2)=95
           ·rw [if_pos c19] at H
            have c19b0:((bt a0 x3_2) == 95)=true:=beq_iff_eq.mpr c19
            have c19b1:((bt a0 x3_2) != 95)=false:=bne_eq_false_iff_eq.mpr c19
            clear c19
            have H':=Aside0.mk H
            clear H
            have p7:0≤(x3_2:Int):=of_decide_eq_true (z0_)
            have q7:x3_2<(a0.size:Int):=of_decide_eq_true (z0_)
            have hx7:=bt_at a0 x3_2
            replace p7:=eq_true p7
            replace q7:=eq_true q7
            go_wp2
            go_roundg k2
            case measure=>have:=HJ1.out;have:=HK2.out;omega
            case rel=>exact ⟨(wrap64 (x3_2+1)),(z1_),H',⟨z13_ HJ1.out HK2.out⟩,z6_⟩
           ·rw [if_neg c19] at H
            have c19b0:((bt a0 x3_2) == 95)=false:=beq_eq_false_iff_ne.mpr c19
            have c19b1:((bt a0 x3_2) != 95)=true:=bne_iff_ne.mpr c19
            obtain rfl:=Option.some.inj H
            have p7:0≤(x3_2:Int):=of_decide_eq_true (z0_)
            have q7:x3_2<(a0.size:Int):=of_decide_eq_true (z0_)
            have hx7:=bt_at a0 x3_2
            replace p7:=eq_true p7
            replace q7:=eq_true q7
            go_wp2
            go_ret
            exact ⟨z1_,z6_⟩
       ·rw [if_neg c6] at H
        exact absurd H (by simp)
      ·rw [if_neg c5] at H
       have c5b0:decide (x3_2<(a0.size:Int))=false:=decide_eq_false c5
       clear c5
       obtain rfl:=Option.some.inj H
       go_wp2
       go_ret
       exact ⟨z1_,z6_⟩


/-! ### spec_l04Among: function 54 -/
def spec_l04Among.l0:Nat→List Int→Int→Int→Option (Bool)
 | 0,_,_,_=>none
 | k+1,x0,x1,x5=>if x5<(x0.length:Int) then (if 0≤x5 then (if (rd x0 x5)=x1 then (some true) else (spec_l04Among.l0 k x0 x1 (wrap64 (x5+1)))) else (none)) else (some false)
def spec_l04Among.f (k:Nat) (l0:List Int) (a1:Int):Option (Bool):=spec_l04Among.l0 k l0 a1 0
theorem spec_l04Among.mono_l:∀ k,(∀ y0 y1 y2,LeO (spec_l04Among.l0 k y0 y1 y2) (spec_l04Among.l0 (k+1) y0 y1 y2))
 | 0=>fun _ _ _ r h=>by simp [spec_l04Among.l0] at h
 | k+1=>by
  have ih0:=spec_l04Among.mono_l k
  ·intro y0 y1 y2
   unfold spec_l04Among.l0
   repeat' first
   | (with_reducible exact ih0 _ _ _)
   | (with_reducible exact LeO.refl _)
   | (with_reducible exact LeO.none _)
   | (with_reducible refine LeO.ite ?_ ?_)
   | (with_reducible refine LeO.bind ?_ (fun _=>?_))
   | exact ih0 _ _ _
   | exact LeO.none _
   | refine LeO.ite ?_ ?_
   | refine LeO.bind ?_ (fun _=>?_)
theorem spec_l04Among.mono:∀ a0 a1 k,LeO (spec_l04Among.f k a0 a1) (spec_l04Among.f (k+1) a0 a1):=by
 intro a0 a1 k
 have ih0:=spec_l04Among.mono_l k
 unfold spec_l04Among.f
 repeat' first
   | (with_reducible exact ih0 _ _ _)
   | (with_reducible exact LeO.refl _)
   | (with_reducible exact LeO.none _)
   | (with_reducible refine LeO.ite ?_ ?_)
   | (with_reducible refine LeO.bind ?_ (fun _=>?_))
   | exact ih0 _ _ _
   | exact LeO.none _
   | refine LeO.ite ?_ ?_
   | refine LeO.bind ?_ (fun _=>?_)
set_option maxHeartbeats 8000000 in
set_option maxRecDepth 100000 in
theorem spec_l04Among.calls (k:Nat) (A0:Option Addr) (c0:Nat) (l0:List Int) (a1:Int) (r:Bool) (w:World) (hr0:Kd.C (Kd.int .i64) w A0 l0.length l0) (hc0:l0.length≤c0) (h:spec_l04Among.f k l0 a1=some r) :
  Calls Tryd.prog 54 #[.slice A0 l0.length c0,.int .i64 a1] w fun e w'=>e = .returned (.bool r)∧Drawn0 w w':=by
 have HR0:=Aside0.mk hr0
 have HC0:=Aside0.mk hc0
 clear hr0 hc0
 have H:(spec_l04Among.l0 k l0 a1 0)=some r:=h
 clear h
 have H':=Aside0.mk H
 clear H
 go_enter Tryd.func54,Tryd.ntmps54
 go_wp2
 go_loopg [5] k (fun kq v5 w'=>∃ (x5_1:Int),v5 = .int .i64 x5_1∧Aside0 (spec_l04Among.l0 kq l0 a1 x5_1=some r)∧Aside0 (kq≤k)∧Drawn0 w w')
 case atStart=>exact ⟨(0),(z1_),H',⟨Nat.le_refl _⟩,z6_⟩
 case round =>
  clear H'
  try clear p2
  obtain ⟨x5_1,rfl,HA,HK1,⟨m1,rfl⟩⟩:=hrel
  cases gk with
  | zero=>exact absurd HA.out (by simp [spec_l04Among.l0])
  | succ k1 =>
   have H:=HA.out
   clear HA
   simp only [spec_l04Among.l0] at H
   by_cases c3:x5_1<(l0.length:Int)
   ·rw [if_pos c3] at H
    have c3b0:decide (x5_1<(l0.length:Int))=true:=decide_eq_true c3
    clear c3
    by_cases c4:0≤x5_1
    ·rw [if_pos c4] at H
     have c4b0:decide (0≤x5_1)=true:=decide_eq_true c4
     clear c4
     by_cases c5:(rd l0 x5_1)=a1
     ·rw [if_pos c5] at H
      have c5b0:((rd l0 x5_1) == a1)=true:=beq_iff_eq.mpr c5
      have c5b1:((rd l0 x5_1) != a1)=false:=bne_eq_false_iff_eq.mpr c5
      clear c5
      obtain rfl:=Option.some.inj H
      have p420:0≤(x5_1:Int):=of_decide_eq_true (z0_)
      have q420:x5_1<(l0.length:Int):=of_decide_eq_true (z0_)
      obtain ⟨ad420,e420,hx420_0⟩:=Kd.at_int HR0.out x5_1 p420 q420
      cases e420
      replace p420:=eq_true p420
      replace q420:=eq_true q420
      go_wp2
      go_ret
      exact ⟨z1_,z6_⟩
     ·rw [if_neg c5] at H
      have c5b0:((rd l0 x5_1) == a1)=false:=beq_eq_false_iff_ne.mpr c5
      have c5b1:((rd l0 x5_1) != a1)=true:=bne_iff_ne.mpr c5
      have H':=Aside0.mk H
      clear H
      have p420:0≤(x5_1:Int):=of_decide_eq_true (z0_)
      have q420:x5_1<(l0.length:Int):=of_decide_eq_true (z0_)
      obtain ⟨ad420,e420,hx420_0⟩:=Kd.at_int HR0.out x5_1 p420 q420
      cases e420
      replace p420:=eq_true p420
      replace q420:=eq_true q420
      go_wp2
      go_roundg k1
      case measure=>have:=HK1.out;omega
      case rel=>exact ⟨(wrap64 (x5_1+1)),(z1_),H',⟨by have:=HK1.out;omega⟩,z6_⟩
    ·rw [if_neg c4] at H
     exact absurd H (by simp)
   ·rw [if_neg c3] at H
    have c3b0:decide (x5_1<(l0.length:Int))=false:=decide_eq_false c3
    clear c3
    obtain rfl:=Option.some.inj H
    go_wp2
    go_ret
    exact ⟨z1_,z6_⟩


/-! ### spec_l04Order: function 48 -/
mutual
def spec_l04Order.l0:Nat→Int→Int→Int→List (S57)→Option (List Int)
 | 0,_,_,_,_=>none
 | k+1,x5,x6,x422000,x422001=>if x6<(x422001.length:Int) then (if 0≤x6 then (spec_l04Order.j1 k x5 x6 (decide (((rd_T57 x422001 x6).f0)<x5)) x422000 x422001) else (none)) else (spec_l04Order.j1 k x5 x6 false x422000 x422001)
def spec_l04Order.j1:Nat→Int→Int→Bool→Int→List (S57)→Option (List Int)
 | 0,_,_,_,_,_=>none
 | k+1,x5,x6,x26,x422000,x422001=>if x26=true then (spec_l04Order.l0 k x5 (wrap64 (x6+1)) x422000 x422001) else (spec_l04Order.l1 k x6 (([]:List Int)) 0 x422000 x422001)
def spec_l04Order.l1:Nat→Int→List Int→Int→Int→List (S57)→Option (List Int)
 | 0,_,_,_,_,_=>none
 | k+1,x6,x7,x8,x422000,x422001=>if x8<(x422001.length:Int) then (if (x422001.length:Int)=0 then (none) else (if 0≤(Int.tmod (wrap64 (x6+x8)) (x422001.length:Int)) then (if (Int.tmod (wrap64 (x6+x8)) (x422001.length:Int))<(x422001.length:Int) then ((spec_l04Among.f k x7 ((rd_T57 x422001 (Int.tmod (wrap64 (x6+x8)) (x422001.length:Int))).f1)).bind fun t428=>(if t428=true then (spec_l04Order.l1 k x6 x7 (wrap64 (x8+1)) x422000 x422001) else (if x7.length<17592186044416 then (spec_l04Order.l1 k x6 (x7 ++ [(rd_T57 x422001 (Int.tmod (wrap64 (x6+x8)) (x422001.length:Int))).f1]) (wrap64 (x8+1)) x422000 x422001) else (none)))) else (none)) else (none))) else (some x7)
end
def spec_l04Order.f (k:Nat) (a0_0:Int) (l0_1:List (S57)) (a1:ByteArray):Option (List Int):=(spec_l04Fnv.f k a1).bind fun t422=>(spec_l04Order.l0 k t422 0 a0_0 l0_1)
theorem spec_l04Order.mono_l:∀ k,(∀ y0 y1 y2 y3,LeO (spec_l04Order.l0 k y0 y1 y2 y3) (spec_l04Order.l0 (k+1) y0 y1 y2 y3))∧(∀ y0 y1 y2 y3 y4,LeO (spec_l04Order.j1 k y0 y1 y2 y3 y4) (spec_l04Order.j1 (k+1) y0 y1 y2 y3 y4))∧(∀ y0 y1 y2 y3 y4,LeO (spec_l04Order.l1 k y0 y1 y2 y3 y4) (spec_l04Order.l1 (k+1) y0 y1 y2 y3 y4))
 | 0=>⟨fun _ _ _ _ r h=>by simp [spec_l04Order.l0] at h,fun _ _ _ _ _ r h=>by simp [spec_l04Order.j1] at h,fun _ _ _ _ _ r h=>by simp [spec_l04Order.l1] at h⟩
 | k+1=>by
  obtain ⟨ih0,ih1,ih2⟩:=spec_l04Order.mono_l k
  refine ⟨?_,?_,?_⟩
  ·intro y0 y1 y2 y3
   unfold spec_l04Order.l0
   repeat' first
   | (with_reducible exact ih0 _ _ _ _)
   | (with_reducible exact ih1 _ _ _ _ _)
   | (with_reducible exact ih2 _ _ _ _ _)
   | (with_reducible exact spec_l04Among.mono _ _ _)
   | (with_reducible exact spec_l04Fnv.mono _ _)
   | (with_reducible exact LeO.refl _)
   | (with_reducible exact LeO.none _)
   | (with_reducible refine LeO.ite ?_ ?_)
   | (with_reducible refine LeO.bind ?_ (fun _=>?_))
   | exact ih0 _ _ _ _
   | exact ih1 _ _ _ _ _
   | exact ih2 _ _ _ _ _
   | exact spec_l04Among.mono _ _ _
   | exact spec_l04Fnv.mono _ _
   | exact LeO.none _
   | refine LeO.ite ?_ ?_
   | refine LeO.bind ?_ (fun _=>?_)
  ·intro y0 y1 y2 y3 y4
   unfold spec_l04Order.j1
   repeat' first
   | (with_reducible exact ih0 _ _ _ _)
   | (with_reducible exact ih1 _ _ _ _ _)
   | (with_reducible exact ih2 _ _ _ _ _)
   | (with_reducible exact spec_l04Among.mono _ _ _)
   | (with_reducible exact spec_l04Fnv.mono _ _)
   | (with_reducible exact LeO.refl _)
   | (with_reducible exact LeO.none _)
   | (with_reducible refine LeO.ite ?_ ?_)
   | (with_reducible refine LeO.bind ?_ (fun _=>?_))
   | exact ih0 _ _ _ _
   | exact ih1 _ _ _ _ _
   | exact ih2 _ _ _ _ _
   | exact spec_l04Among.mono _ _ _
   | exact spec_l04Fnv.mono _ _
   | exact LeO.none _
   | refine LeO.ite ?_ ?_
   | refine LeO.bind ?_ (fun _=>?_)
  ·intro y0 y1 y2 y3 y4
   unfold spec_l04Order.l1
   repeat' first
   | (with_reducible exact ih0 _ _ _ _)
   | (with_reducible exact ih1 _ _ _ _ _)
   | (with_reducible exact ih2 _ _ _ _ _)
   | (with_reducible exact spec_l04Among.mono _ _ _)
   | (with_reducible exact spec_l04Fnv.mono _ _)
   | (with_reducible exact LeO.refl _)
   | (with_reducible exact LeO.none _)
   | (with_reducible refine LeO.ite ?_ ?_)
   | (with_reducible refine LeO.bind ?_ (fun _=>?_))
   | exact ih0 _ _ _ _
   | exact ih1 _ _ _ _ _
   | exact ih2 _ _ _ _ _
   | exact spec_l04Among.mono _ _ _
   | exact spec_l04Fnv.mono _ _
   | exact LeO.none _
   | refine LeO.ite ?_ ?_
   | refine LeO.bind ?_ (fun _=>?_)
theorem spec_l04Order.mono:∀ a0 a1 a2 k,LeO (spec_l04Order.f k a0 a1 a2) (spec_l04Order.f (k+1) a0 a1 a2):=by
 intro a0 a1 a2 k
 obtain ⟨ih0,ih1,ih2⟩:=spec_l04Order.mono_l k
 unfold spec_l04Order.f
 repeat' first
   | (with_reducible exact ih0 _ _ _ _)
   | (with_reducible exact ih1 _ _ _ _ _)
   | (with_reducible exact ih2 _ _ _ _ _)
   | (with_reducible exact spec_l04Among.mono _ _ _)
   | (with_reducible exact spec_l04Fnv.mono _ _)
   | (with_reducible exact LeO.refl _)
   | (with_reducible exact LeO.none _)
   | (with_reducible refine LeO.ite ?_ ?_)
   | (with_reducible refine LeO.bind ?_ (fun _=>?_))
   | exact ih0 _ _ _ _
   | exact ih1 _ _ _ _ _
   | exact ih2 _ _ _ _ _
   | exact spec_l04Among.mono _ _ _
   | exact spec_l04Fnv.mono _ _
   | exact LeO.none _
   | refine LeO.ite ?_ ?_
   | refine LeO.bind ?_ (fun _=>?_)
set_option maxHeartbeats 8000000 in
set_option maxRecDepth 100000 in
theorem spec_l04Order.calls (k:Nat) (a0_0:Int) (A0_1:Option Addr) (c0_1:Nat) (l0_1:List (S57)) (a1:ByteArray) (r:List Int) (w:World) (hr0_1:Kd.C k57 w A0_1 l0_1.length l0_1) (hc0_1:l0_1.length≤c0_1) (h:spec_l04Order.f k a0_0 l0_1 a1=some r) :
  Calls Tryd.prog 48 #[.agg #[.int .i64 a0_0,.slice A0_1 l0_1.length c0_1],.string a1] w fun e w'=>∃ v0_:Value,e = .returned (v0_)∧Kd.R (Kd.int .i64) 2 w' w.heap.size (fun _=>True) v0_ r∧Below w.heap.size w w':=by
 have hu29:=Tryd.underlying29
 have HR0_1:=Aside0.mk hr0_1
 have HC0_1:=Aside0.mk hc0_1
 clear hr0_1 hc0_1
 have HB:=Aside0.mk (Below.refl w.heap.size w)
 have H:((spec_l04Fnv.f k a1).bind fun t422=>(spec_l04Order.l0 k t422 0 a0_0 l0_1))=some r:=h
 clear h
 replace H:=Option.bind_eq_some_iff.mp H
 obtain ⟨t422,A30,H⟩:=H
 replace H:(spec_l04Order.l0 k t422 0 a0_0 l0_1)=some r:=H
 have A3:=Aside0.mk A30
 clear A30
 have H':=Aside0.mk H
 clear H
 go_enter Tryd.func48,Tryd.ntmps48
 go_wp2_with (first | ((with_reducible refine gd_ 2 ?_);refine be_ 2 #[.int .i64 a0_0,.slice A0_1 l0_1.length c0_1] 29 ?_;intro gb421 hg w4 hbox hb;refine as4_ (below_step (z3_ HB.out) hb) (hbox) ((z8_ HB.out:w.heap.size≤gb421)) ((z8_ HB.out:w.heap.size≤gb421)) ?_;clear HB;intro HB BK421 GW421 GE421;clear hb hbox hg) | (go_at_call 61;(with_reducible refine (spec_l04Fnv.calls k a1 t422 _ A3.out).mono ?_);rintro e w' ⟨rfl,⟨nd,rfl⟩⟩;(try first | exact ⟨rfl,_,World.drewN_drewN _ _ _⟩ | exact ⟨rfl,_,Eq.trans (World.drewN_drewN _ _ _) (congrArg (World.drewN _) (Nat.add_assoc _ _ _))⟩)))
 repeat (go_quiet (first | ((with_reducible refine gd_ 2 ?_);refine be_ 2 #[.int .i64 a0_0,.slice A0_1 l0_1.length c0_1] 29 ?_;intro gb421 hg w4 hbox hb;refine as4_ (below_step (z3_ HB.out) hb) (hbox) ((z8_ HB.out:w.heap.size≤gb421)) ((z8_ HB.out:w.heap.size≤gb421)) ?_;clear HB;intro HB BK421 GW421 GE421;clear hb hbox hg) | (go_at_call 61;(with_reducible refine (spec_l04Fnv.calls k a1 t422 _ A3.out).mono ?_);rintro e w' ⟨rfl,⟨nd,rfl⟩⟩;(try first | exact ⟨rfl,_,World.drewN_drewN _ _ _⟩ | exact ⟨rfl,_,Eq.trans (World.drewN_drewN _ _ _) (congrArg (World.drewN _) (Nat.add_assoc _ _ _))⟩)));try go_wp2_with (first | ((with_reducible refine gd_ 2 ?_);refine be_ 2 #[.int .i64 a0_0,.slice A0_1 l0_1.length c0_1] 29 ?_;intro gb421 hg w4 hbox hb;refine as4_ (below_step (z3_ HB.out) hb) (hbox) ((z8_ HB.out:w.heap.size≤gb421)) ((z8_ HB.out:w.heap.size≤gb421)) ?_;clear HB;intro HB BK421 GW421 GE421;clear hb hbox hg) | (go_at_call 61;(with_reducible refine (spec_l04Fnv.calls k a1 t422 _ A3.out).mono ?_);rintro e w' ⟨rfl,⟨nd,rfl⟩⟩;(try first | exact ⟨rfl,_,World.drewN_drewN _ _ _⟩ | exact ⟨rfl,_,Eq.trans (World.drewN_drewN _ _ _) (congrArg (World.drewN _) (Nat.add_assoc _ _ _))⟩))))
 go_loopg [6] k (fun kq v6 w'=>∃ (x6_1:Int),v6 = .int .i64 x6_1∧Aside0 (spec_l04Order.l0 kq t422 x6_1 a0_0 l0_1=some r)∧Aside0 (kq≤k)∧Aside0 (w'.heap[gb421]? = some (.cells #[.int .i64 a0_0,(.slice A0_1 l0_1.length c0_1)] 29 (0,0)))∧Aside0 (Below w.heap.size w w'))
 case atStart=>exact ⟨(0),(z1_),H',⟨Nat.le_refl _⟩,⟨z4_ BK421.out⟩,⟨z5_ HB.out GE421.out⟩⟩
 case round =>
  clear H'
  try clear p2
  try clear c4
  obtain ⟨x6_1,rfl,HA,HK1,BK421,HB⟩:=hrel
  cases gk with
  | zero=>exact absurd HA.out (by simp [spec_l04Order.l0])
  | succ k1 =>
   have H:=HA.out
   clear HA
   simp only [spec_l04Order.l0] at H
   have HC5:=Aside0.mk H
   clear H
   go_upto_region 3 with (fail)
   repeat (go_quiet (fail);go_upto_region 3 with (fail))
   go_cut [26] (fun v26 wc=>∃ (kq:Nat) (x26_4:Bool),v26 = .bool x26_4∧Aside0 (spec_l04Order.j1 kq t422 x6_1 x26_4 a0_0 l0_1=some r)∧Aside0 (kq≤k1)∧Aside0 (wc.heap[gb421]? = some (.cells #[.int .i64 a0_0,(.slice A0_1 l0_1.length c0_1)] 29 (0,0)))∧Aside0 (Below w.heap.size w wc))
   case first =>
    have H:=HC5.out
    clear HC5
    by_cases c6:x6_1<(l0_1.length:Int)
    ·rw [if_pos c6] at H
     have c6b0:decide (x6_1<(l0_1.length:Int))=true:=decide_eq_true c6
     clear c6
     (first | rw [c6b0] | (simp only [i64_w,i32_w];rw [c6b0]) | skip)
     by_cases c7:0≤x6_1
     ·rw [if_pos c7] at H
      have c7b0:decide (0≤x6_1)=true:=decide_eq_true c7
      clear c7
      have H':=Aside0.mk H
      clear H
      have ⟨hcz8_0,hcz8_1,hfz8_0,hfz8_1⟩:=cz2_ BK421.out
      have p423:0≤(x6_1:Int):=of_decide_eq_true (z0_)
      have q423:x6_1<(l0_1.length:Int):=of_decide_eq_true (z0_)
      obtain ⟨ad423,e423,hx423_0,hx423_1⟩:=at_T57 HR0_1.out x6_1 p423 q423
      cases e423
      replace hx423_0:=(HB.out.cell (World.block_lt_of_cell? w _ hx423_0)).trans hx423_0
      replace hx423_1:=(HB.out.cell (World.block_lt_of_cell? w _ hx423_1)).trans hx423_1
      replace p423:=eq_true p423
      replace q423:=eq_true q423
      go_wp2
      repeat (go_quiet (fail);try go_wp2)
      go_meet
      case rel=>exact ⟨_,(decide (((rd_T57 l0_1 x6_1).f0)<t422)),(z1_),H',⟨z20_ HK1.out⟩,⟨z4_ BK421.out⟩,⟨z5_ HB.out GE421.out⟩⟩
     ·rw [if_neg c7] at H
      exact absurd H (by simp)
    ·rw [if_neg c6] at H
     have c6b0:decide (x6_1<(l0_1.length:Int))=false:=decide_eq_false c6
     clear c6
     (first | rw [c6b0] | (simp only [i64_w,i32_w];rw [c6b0]) | skip)
     have H':=Aside0.mk H
     clear H
     have ⟨hcz9_0,hcz9_1,hfz9_0,hfz9_1⟩:=cz2_ BK421.out
     go_wp2
     repeat (go_quiet (fail);try go_wp2)
     go_meet
     case rel=>exact ⟨_,(false),(z1_),H',⟨z20_ HK1.out⟩,⟨z4_ BK421.out⟩,⟨z5_ HB.out GE421.out⟩⟩
   case rest =>
    clear HC5
    try clear p2
    try clear c4
    try clear p4
    try clear q4
    try clear hx4
    try clear c6
    try clear c6b0
    try clear c7
    try clear c7b0
    try clear hcz8_0
    try clear hcz8_1
    try clear hcz9_0
    try clear hcz9_1
    try clear hfz8_0
    try clear hfz8_1
    try clear hfz9_0
    try clear hfz9_1
    try clear hx423_0
    try clear hx423_1
    try clear p2
    try clear p423
    try clear q423
    obtain ⟨kq,x26_4,rfl,HA,HJ4,BK421,HB⟩:=hcut
    cases kq with
    | zero=>exact absurd HA.out (by simp [spec_l04Order.j1])
    | succ kj4 =>
     have H:=HA.out
     clear HA
     simp only [spec_l04Order.j1] at H
     by_cases c10:x26_4=true
     ·subst c10
      have H1:(spec_l04Order.l0 kj4 t422 (wrap64 (x6_1+1)) a0_0 l0_1)=some r:=by rw [if_pos rfl] at H;exact H
      clear H
      have H:=H1
      clear H1
      have H':=Aside0.mk H
      clear H
      go_wp2
      repeat (go_quiet (fail);try go_wp2)
      go_roundg kj4
      case measure=>have:=HK1.out;have:=HJ4.out;omega
      case rel=>exact ⟨(wrap64 (x6_1+1)),(z1_),H',⟨z13_ HK1.out HJ4.out⟩,⟨z4_ BK421.out⟩,⟨z5_ HB.out GE421.out⟩⟩
     ·replace c10:=Bool.eq_false_iff.mpr c10
      subst c10
      have H1:(spec_l04Order.l1 kj4 x6_1 (([]:List Int)) 0 a0_0 l0_1)=some r:=by rw [if_neg (show ¬ (false=true) by decide)] at H;exact H
      clear H
      have H:=H1
      clear H1
      obtain ⟨y424,hy424⟩:∃ y_:List Int,y_=(([]:List Int)):=⟨_,rfl⟩
      replace H:(spec_l04Order.l1 kj4 x6_1 y424 0 a0_0 l0_1)=some r:=by first | (rw [hy424];with_reducible exact H) | (have H2_:=(Option.bind_some _ _).symm.trans H;rw [hy424];with_reducible exact H2_) | (have H2_:=(Option.bind_some _ _).symm.trans H;with_reducible exact H2_) | with_reducible exact H | (rw [hy424];exact H) | exact H
      have Ny424:=Aside0.mk hy424
      clear hy424
      have H':=Aside0.mk H
      clear H
      go_wp2_with (first | ((with_reducible refine gd_ 29 ?_);refine Kd.R_lit (Kd.int .i64) _ 2 ?hg (N:=29) ?hd (xs:=([]:List Int)) (inner:=[]) (ok:=fun _=>True) (okp:=fun _=>True) ?hr ?hp (fun _ hk=>hk) trivial (Below.refl _ _) (Nat.le_refl _) (by simp) ?_;(case hd=>rfl);(case hg=>rfl);(case hr=>first | (go_simp;done) | (go_simp;rfl));(case hp=>exact (Reps.none _ _));intro v425 w11 ho12 hb hg_ hnew_;clear hg_ hnew_;(first | rw [← Ny424.out] at ho12 | (simp only [Int.reduceToNat] at ho12;rw [← Ny424.out] at ho12));refine as3_ (Kd.R_lower ho12 (below_size (z5_ HB.out GE421.out))) (blkB_ BK421.out hb) (below_step (z5_ HB.out GE421.out) hb) ?_;clear BK421 HB;intro HO426 BK421 HB;clear hb ho12))
      repeat (go_quiet (first | ((with_reducible refine gd_ 29 ?_);refine Kd.R_lit (Kd.int .i64) _ 2 ?hg (N:=29) ?hd (xs:=([]:List Int)) (inner:=[]) (ok:=fun _=>True) (okp:=fun _=>True) ?hr ?hp (fun _ hk=>hk) trivial (Below.refl _ _) (Nat.le_refl _) (by simp) ?_;(case hd=>rfl);(case hg=>rfl);(case hr=>first | (go_simp;done) | (go_simp;rfl));(case hp=>exact (Reps.none _ _));intro v425 w11 ho12 hb hg_ hnew_;clear hg_ hnew_;(first | rw [← Ny424.out] at ho12 | (simp only [Int.reduceToNat] at ho12;rw [← Ny424.out] at ho12));refine as3_ (Kd.R_lower ho12 (below_size (z5_ HB.out GE421.out))) (blkB_ BK421.out hb) (below_step (z5_ HB.out GE421.out) hb) ?_;clear BK421 HB;intro HO426 BK421 HB;clear hb ho12));try go_wp2_with (first | ((with_reducible refine gd_ 29 ?_);refine Kd.R_lit (Kd.int .i64) _ 2 ?hg (N:=29) ?hd (xs:=([]:List Int)) (inner:=[]) (ok:=fun _=>True) (okp:=fun _=>True) ?hr ?hp (fun _ hk=>hk) trivial (Below.refl _ _) (Nat.le_refl _) (by simp) ?_;(case hd=>rfl);(case hg=>rfl);(case hr=>first | (go_simp;done) | (go_simp;rfl));(case hp=>exact (Reps.none _ _));intro v425 w11 ho12 hb hg_ hnew_;clear hg_ hnew_;(first | rw [← Ny424.out] at ho12 | (simp only [Int.reduceToNat] at ho12;rw [← Ny424.out] at ho12));refine as3_ (Kd.R_lower ho12 (below_size (z5_ HB.out GE421.out))) (blkB_ BK421.out hb) (below_step (z5_ HB.out GE421.out) hb) ?_;clear BK421 HB;intro HO426 BK421 HB;clear hb ho12)))
      go_loopg [7,8] kj4 (fun kq v7 v8 w'=>∃ (x7_3:List Int) (x8_3:Int),v8 = .int .i64 x8_3∧Aside0 (spec_l04Order.l1 kq x6_1 x7_3 x8_3 a0_0 l0_1=some r)∧Aside0 (kq≤kj4)∧Aside0 (Kd.R (Kd.int .i64) 2 w' w.heap.size (fun _=>True) v7 x7_3)∧Aside0 (w'.heap[gb421]? = some (.cells #[.int .i64 a0_0,(.slice A0_1 l0_1.length c0_1)] 29 (0,0)))∧Aside0 (Below w.heap.size w w'))
      case atStart=>exact ⟨(y424),(0),(z1_),H',⟨Nat.le_refl _⟩,⟨z2_ HO426.out⟩,⟨z4_ BK421.out⟩,⟨z5_ HB.out GE421.out⟩⟩
      case round =>
       clear H'
       try clear c1
       try clear p2
       try clear c4
       try clear p4
       try clear q4
       try clear hx4
       try clear c6
       try clear c6b0
       try clear p6
       try clear c7
       try clear c7b0
       try clear c10
       try clear hcz8_0
       try clear hcz8_1
       try clear hcz9_0
       try clear hcz9_1
       try clear hfz8_0
       try clear hfz8_1
       try clear hfz9_0
       try clear hfz9_1
       try clear hx423_0
       try clear hx423_1
       try clear p2
       try clear p4
       try clear p423
       try clear q4
       try clear q423
       obtain ⟨x7_3,x8_3,rfl,HA,HK3,HO_7,BK421,HB⟩:=hrel
       cases gk with
       | zero=>exact absurd HA.out (by simp [spec_l04Order.l1])
       | succ k3 =>
        have H:=HA.out
        clear HA
        simp only [spec_l04Order.l1] at H
        by_cases c13:x8_3<(l0_1.length:Int)
        ·rw [if_pos c13] at H
         have c13b0:decide (x8_3<(l0_1.length:Int))=true:=decide_eq_true c13
         clear c13
         by_cases c14:(l0_1.length:Int)=0
         ·rw [if_pos c14] at H
          exact absurd H (by simp)
         ·rw [if_neg c14] at H
          have c14b0:((l0_1.length:Int) == 0)=false:=beq_eq_false_iff_ne.mpr c14
          have c14b1:((l0_1.length:Int) != 0)=true:=bne_iff_ne.mpr c14
          have c14b2:¬ (l0_1=[]):=fun h_=>c14 (by rw [h_];rfl)
          obtain ⟨ji15,hji15⟩:∃ j_:Int,(Int.tmod (wrap64 (x6_1+x8_3)) (l0_1.length:Int))=j_:=⟨_,rfl⟩
          replace H:(if 0≤(ji15) then (if (ji15)<(l0_1.length:Int) then ((spec_l04Among.f k3 x7_3 ((rd_T57 l0_1 (ji15)).f1)).bind fun t428=>(if t428=true then (spec_l04Order.l1 k3 x6_1 x7_3 (wrap64 (x8_3+1)) a0_0 l0_1) else (if x7_3.length<17592186044416 then (spec_l04Order.l1 k3 x6_1 (x7_3 ++ [(rd_T57 l0_1 (ji15)).f1]) (wrap64 (x8_3+1)) a0_0 l0_1) else (none)))) else (none)) else (none))=some r:=by first | (rw [hji15] at H;exact H) | (simp only [hji15] at H ⊢;exact H)
          by_cases c16:0≤(ji15)
          ·rw [if_pos c16] at H
           have c16b0:decide (0≤(ji15))=true:=decide_eq_true c16
           clear c16
           by_cases c17:(ji15)<(l0_1.length:Int)
           ·rw [if_pos c17] at H
            have c17b0:decide ((ji15)<(l0_1.length:Int))=true:=decide_eq_true c17
            clear c17
            replace H:=Option.bind_eq_some_iff.mp H
            obtain ⟨t428,A180,H⟩:=H
            replace H:(if t428=true then (spec_l04Order.l1 k3 x6_1 x7_3 (wrap64 (x8_3+1)) a0_0 l0_1) else (if x7_3.length<17592186044416 then (spec_l04Order.l1 k3 x6_1 (x7_3 ++ [(rd_T57 l0_1 (ji15)).f1]) (wrap64 (x8_3+1)) a0_0 l0_1) else (none)))=some r:=H
            have A18:=Aside0.mk A180
            clear A180
            by_cases c19:t428=true
            ·subst c19
             have H1:(spec_l04Order.l1 k3 x6_1 x7_3 (wrap64 (x8_3+1)) a0_0 l0_1)=some r:=by rw [if_pos rfl] at H;exact H
             clear H
             have H:=H1
             clear H1
             have H':=Aside0.mk H
             clear H
             have ⟨hcz20_0,hcz20_1,hfz20_0,hfz20_1⟩:=cz2_ BK421.out
             have p427:0≤((ji15):Int):=of_decide_eq_true (z0_)
             have q427:(ji15)<(l0_1.length:Int):=of_decide_eq_true (z0_)
             obtain ⟨ad427,e427,hx427_0,hx427_1⟩:=at_T57 HR0_1.out (ji15) p427 q427
             cases e427
             replace hx427_0:=(HB.out.cell (World.block_lt_of_cell? w _ hx427_0)).trans hx427_0
             replace hx427_1:=(HB.out.cell (World.block_lt_of_cell? w _ hx427_1)).trans hx427_1
             replace p427:=eq_true p427
             replace q427:=eq_true q427
             obtain ⟨Ao21,co21,eo21⟩:=Kd.R_slice HO_7.out
             subst eo21
             go_wp2_with (first | (go_at_call 54;(with_reducible refine (spec_l04Among.calls k3 _ _ x7_3 ((rd_T57 l0_1 (ji15)).f1) true _ ?s1 ?s2 A18.out).mono ?_);(case s1=>repeat (first | exact (Kd.R_reads' HO_7.out).2.2 | (with_reducible refine Kd.C_alloc ?_ _) | (with_reducible refine Kd.C_drewN ?_ _) | (with_reducible refine Kd.C_drew ?_)));(case s2=>exact (Kd.R_reads' HO_7.out).2.1);rintro e w' ⟨rfl,⟨nd,rfl⟩⟩;(try first | exact ⟨rfl,_,World.drewN_drewN _ _ _⟩ | exact ⟨rfl,_,Eq.trans (World.drewN_drewN _ _ _) (congrArg (World.drewN _) (Nat.add_assoc _ _ _))⟩)))
             repeat (go_quiet (first | (go_at_call 54;(with_reducible refine (spec_l04Among.calls k3 _ _ x7_3 ((rd_T57 l0_1 (ji15)).f1) true _ ?s1 ?s2 A18.out).mono ?_);(case s1=>repeat (first | exact (Kd.R_reads' HO_7.out).2.2 | (with_reducible refine Kd.C_alloc ?_ _) | (with_reducible refine Kd.C_drewN ?_ _) | (with_reducible refine Kd.C_drew ?_)));(case s2=>exact (Kd.R_reads' HO_7.out).2.1);rintro e w' ⟨rfl,⟨nd,rfl⟩⟩;(try first | exact ⟨rfl,_,World.drewN_drewN _ _ _⟩ | exact ⟨rfl,_,Eq.trans (World.drewN_drewN _ _ _) (congrArg (World.drewN _) (Nat.add_assoc _ _ _))⟩)));try go_wp2_with (first | (go_at_call 54;(with_reducible refine (spec_l04Among.calls k3 _ _ x7_3 ((rd_T57 l0_1 (ji15)).f1) true _ ?s1 ?s2 A18.out).mono ?_);(case s1=>repeat (first | exact (Kd.R_reads' HO_7.out).2.2 | (with_reducible refine Kd.C_alloc ?_ _) | (with_reducible refine Kd.C_drewN ?_ _) | (with_reducible refine Kd.C_drew ?_)));(case s2=>exact (Kd.R_reads' HO_7.out).2.1);rintro e w' ⟨rfl,⟨nd,rfl⟩⟩;(try first | exact ⟨rfl,_,World.drewN_drewN _ _ _⟩ | exact ⟨rfl,_,Eq.trans (World.drewN_drewN _ _ _) (congrArg (World.drewN _) (Nat.add_assoc _ _ _))⟩))))
             go_roundg k3
             case measure=>have:=HK1.out;have:=HJ4.out;have:=HK3.out;omega
             case rel=>exact ⟨(x7_3),(wrap64 (x8_3+1)),(z1_),H',⟨by have:=HK1.out;have:=HJ4.out;have:=HK3.out;omega⟩,⟨z2_ HO_7.out⟩,⟨z4_ BK421.out⟩,⟨z5_ HB.out GE421.out⟩⟩
            ·replace c19:=Bool.eq_false_iff.mpr c19
             subst c19
             have H1:(if x7_3.length<17592186044416 then (spec_l04Order.l1 k3 x6_1 (x7_3 ++ [(rd_T57 l0_1 (ji15)).f1]) (wrap64 (x8_3+1)) a0_0 l0_1) else (none))=some r:=by rw [if_neg (show ¬ (false=true) by decide)] at H;exact H
             clear H
             have H:=H1
             clear H1
             by_cases c22:x7_3.length<17592186044416
             ·rw [if_pos c22] at H
              have LMc22:=Aside0.mk c22
              clear c22
              obtain ⟨y429,hy429⟩:∃ y_:List Int,y_=(x7_3 ++ [(rd_T57 l0_1 (ji15)).f1]):=⟨_,rfl⟩
              replace H:(spec_l04Order.l1 k3 x6_1 y429 (wrap64 (x8_3+1)) a0_0 l0_1)=some r:=by first | (rw [hy429];with_reducible exact H) | (have H2_:=(Option.bind_some _ _).symm.trans H;rw [hy429];with_reducible exact H2_) | (have H2_:=(Option.bind_some _ _).symm.trans H;with_reducible exact H2_) | with_reducible exact H | (rw [hy429];exact H) | exact H
              have Ny429:=Aside0.mk hy429
              clear hy429
              have H':=Aside0.mk H
              clear H
              have ⟨hcz23_0,hcz23_1,hfz23_0,hfz23_1⟩:=cz2_ BK421.out
              have p427:0≤((ji15):Int):=of_decide_eq_true (z0_)
              have q427:(ji15)<(l0_1.length:Int):=of_decide_eq_true (z0_)
              obtain ⟨ad427,e427,hx427_0,hx427_1⟩:=at_T57 HR0_1.out (ji15) p427 q427
              cases e427
              replace hx427_0:=(HB.out.cell (World.block_lt_of_cell? w _ hx427_0)).trans hx427_0
              replace hx427_1:=(HB.out.cell (World.block_lt_of_cell? w _ hx427_1)).trans hx427_1
              replace p427:=eq_true p427
              replace q427:=eq_true q427
              obtain ⟨Ao24,co24,eo24⟩:=Kd.R_slice HO_7.out
              subst eo24
              go_wp2_with (first | (go_at_call 54;(with_reducible refine (spec_l04Among.calls k3 _ _ x7_3 ((rd_T57 l0_1 (ji15)).f1) false _ ?s1 ?s2 A18.out).mono ?_);(case s1=>repeat (first | exact (Kd.R_reads' HO_7.out).2.2 | (with_reducible refine Kd.C_alloc ?_ _) | (with_reducible refine Kd.C_drewN ?_ _) | (with_reducible refine Kd.C_drew ?_)));(case s2=>exact (Kd.R_reads' HO_7.out).2.1);rintro e w' ⟨rfl,⟨nd,rfl⟩⟩;(try first | exact ⟨rfl,_,World.drewN_drewN _ _ _⟩ | exact ⟨rfl,_,Eq.trans (World.drewN_drewN _ _ _) (congrArg (World.drewN _) (Nat.add_assoc _ _ _))⟩)) | ((with_reducible refine gate_builtin (b:=.append) (xs:=#[.tmp 53,.tmp 55]) rfl ?_);at_builtin;refine Kd.R_append (Kd.int .i64) (w0:=w) w.heap.size rfl (.tmp 53) (.tmp 55) 41 2 (.int .i64 0) 8 rfl Tryd.underlying41 info2 rfl (by decide) (by omega) (.slice Ao24 x7_3.length co24) x7_3 ((rd_T57 l0_1 (ji15)).f1) [.int .i64 ((rd_T57 l0_1 (ji15)).f1)] (fun _=>True) (fun _=>False) rfl rfl ?aP (fun _ hk=>hk.elim) ?aF ?aO ?aB ?aS ?aL ?_;(case aP=>exact rfl);(case aB=>exact (z5_ HB.out GE421.out));(case aF=>exact (fun _ _=>trivial));(case aO=>exact (z2_ HO_7.out));(case aS=>exact (below_size (z5_ HB.out GE421.out)));(case aL=>have:=LMc22.out;omega);intro v430 w25 ho hb hg hat;rw [← Ny429.out] at ho;refine as3_ (blk_grown (g:=gb421) (o:=.cells #[.int .i64 a0_0,.slice (some ad427) l0_1.length c0_1] 29 (0,0)) (z4_ BK421.out) hg (Kd.R_ne HO_7.out BK421.out (by decide))) (hb) (ho) ?_;clear BK421 HB HO_7;intro BK421 HB HO431;clear ho hb hg hat))
              repeat (go_quiet (first | (go_at_call 54;(with_reducible refine (spec_l04Among.calls k3 _ _ x7_3 ((rd_T57 l0_1 (ji15)).f1) false _ ?s1 ?s2 A18.out).mono ?_);(case s1=>repeat (first | exact (Kd.R_reads' HO_7.out).2.2 | (with_reducible refine Kd.C_alloc ?_ _) | (with_reducible refine Kd.C_drewN ?_ _) | (with_reducible refine Kd.C_drew ?_)));(case s2=>exact (Kd.R_reads' HO_7.out).2.1);rintro e w' ⟨rfl,⟨nd,rfl⟩⟩;(try first | exact ⟨rfl,_,World.drewN_drewN _ _ _⟩ | exact ⟨rfl,_,Eq.trans (World.drewN_drewN _ _ _) (congrArg (World.drewN _) (Nat.add_assoc _ _ _))⟩)) | ((with_reducible refine gate_builtin (b:=.append) (xs:=#[.tmp 53,.tmp 55]) rfl ?_);at_builtin;refine Kd.R_append (Kd.int .i64) (w0:=w) w.heap.size rfl (.tmp 53) (.tmp 55) 41 2 (.int .i64 0) 8 rfl Tryd.underlying41 info2 rfl (by decide) (by omega) (.slice Ao24 x7_3.length co24) x7_3 ((rd_T57 l0_1 (ji15)).f1) [.int .i64 ((rd_T57 l0_1 (ji15)).f1)] (fun _=>True) (fun _=>False) rfl rfl ?aP (fun _ hk=>hk.elim) ?aF ?aO ?aB ?aS ?aL ?_;(case aP=>exact rfl);(case aB=>exact (z5_ HB.out GE421.out));(case aF=>exact (fun _ _=>trivial));(case aO=>exact (z2_ HO_7.out));(case aS=>exact (below_size (z5_ HB.out GE421.out)));(case aL=>have:=LMc22.out;omega);intro v430 w25 ho hb hg hat;rw [← Ny429.out] at ho;refine as3_ (blk_grown (g:=gb421) (o:=.cells #[.int .i64 a0_0,.slice (some ad427) l0_1.length c0_1] 29 (0,0)) (z4_ BK421.out) hg (Kd.R_ne HO_7.out BK421.out (by decide))) (hb) (ho) ?_;clear BK421 HB HO_7;intro BK421 HB HO431;clear ho hb hg hat));try go_wp2_with (first | (go_at_call 54;(with_reducible refine (spec_l04Among.calls k3 _ _ x7_3 ((rd_T57 l0_1 (ji15)).f1) false _ ?s1 ?s2 A18.out).mono ?_);(case s1=>repeat (first | exact (Kd.R_reads' HO_7.out).2.2 | (with_reducible refine Kd.C_alloc ?_ _) | (with_reducible refine Kd.C_drewN ?_ _) | (with_reducible refine Kd.C_drew ?_)));(case s2=>exact (Kd.R_reads' HO_7.out).2.1);rintro e w' ⟨rfl,⟨nd,rfl⟩⟩;(try first | exact ⟨rfl,_,World.drewN_drewN _ _ _⟩ | exact ⟨rfl,_,Eq.trans (World.drewN_drewN _ _ _) (congrArg (World.drewN _) (Nat.add_assoc _ _ _))⟩)) | ((with_reducible refine gate_builtin (b:=.append) (xs:=#[.tmp 53,.tmp 55]) rfl ?_);at_builtin;refine Kd.R_append (Kd.int .i64) (w0:=w) w.heap.size rfl (.tmp 53) (.tmp 55) 41 2 (.int .i64 0) 8 rfl Tryd.underlying41 info2 rfl (by decide) (by omega) (.slice Ao24 x7_3.length co24) x7_3 ((rd_T57 l0_1 (ji15)).f1) [.int .i64 ((rd_T57 l0_1 (ji15)).f1)] (fun _=>True) (fun _=>False) rfl rfl ?aP (fun _ hk=>hk.elim) ?aF ?aO ?aB ?aS ?aL ?_;(case aP=>exact rfl);(case aB=>exact (z5_ HB.out GE421.out));(case aF=>exact (fun _ _=>trivial));(case aO=>exact (z2_ HO_7.out));(case aS=>exact (below_size (z5_ HB.out GE421.out)));(case aL=>have:=LMc22.out;omega);intro v430 w25 ho hb hg hat;rw [← Ny429.out] at ho;refine as3_ (blk_grown (g:=gb421) (o:=.cells #[.int .i64 a0_0,.slice (some ad427) l0_1.length c0_1] 29 (0,0)) (z4_ BK421.out) hg (Kd.R_ne HO_7.out BK421.out (by decide))) (hb) (ho) ?_;clear BK421 HB HO_7;intro BK421 HB HO431;clear ho hb hg hat)))
              go_roundg k3
              case measure=>have:=HK1.out;have:=HJ4.out;have:=HK3.out;omega
              case rel=>exact ⟨(y429),(wrap64 (x8_3+1)),(z1_),H',⟨by have:=HK1.out;have:=HJ4.out;have:=HK3.out;omega⟩,⟨z2_ HO431.out⟩,⟨z4_ BK421.out⟩,⟨z5_ HB.out GE421.out⟩⟩
             ·rw [if_neg c22] at H
              exact absurd H (by simp)
           ·rw [if_neg c17] at H
            exact absurd H (by simp)
          ·rw [if_neg c16] at H
           exact absurd H (by simp)
        ·rw [if_neg c13] at H
         have c13b0:decide (x8_3<(l0_1.length:Int))=false:=decide_eq_false c13
         clear c13
         obtain rfl:=Option.some.inj H
         have ⟨hcz26_0,hcz26_1,hfz26_0,hfz26_1⟩:=cz2_ BK421.out
         go_wp2
         repeat (go_quiet (fail);try go_wp2)
         go_ret
         exact ⟨_,z10_,z2_ HO_7.out,z5_ HB.out GE421.out⟩


/-! ### spec_l01Min: function 77 -/
def spec_l01Min.f (a0:Int) (a1:Int):Option (Int):=if a0<a1 then (some a0) else (some a1)
set_option maxHeartbeats 8000000 in
set_option maxRecDepth 100000 in
theorem spec_l01Min.calls (a0:Int) (a1:Int) (r:Int) (w:World) (h:spec_l01Min.f a0 a1=some r) :
  Calls Tryd.prog 77 #[.int .i64 a0,.int .i64 a1] w fun e w'=>e = .returned (.int .i64 r)∧Drawn0 w w':=by
 have H:(if a0<a1 then (some a0) else (some a1))=some r:=h
 clear h
 by_cases c3:a0<a1
 ·rw [if_pos c3] at H
  have c3b0:decide (a0<a1)=true:=decide_eq_true c3
  clear c3
  obtain rfl:=Option.some.inj H
  go_enter Tryd.func77,Tryd.ntmps77
  go_wp2
  go_ret
  exact ⟨z1_,z6_⟩
 ·rw [if_neg c3] at H
  have c3b0:decide (a0<a1)=false:=decide_eq_false c3
  clear c3
  obtain rfl:=Option.some.inj H
  go_enter Tryd.func77,Tryd.ntmps77
  go_wp2
  go_ret
  exact ⟨z1_,z6_⟩

end Go.Proofs.YtdogendcjmgnnaaDoor.P
