/- For all numbers the program's ClusterNew and the reference's return the same, of memory of its own. No condition. (Part 1 of 3: written by programs of this workplace and by hand, merged.) -/
import Derived.Test.YtelecnmflodkkaaDoorProg
import Derived.Below
import Derived.Deep.Draws
import Derived.Deep.AppendLies
import Derived.Maps.AppendAt
import Derived.OwnWalk
import Derived.Laws.BytesArg
import Derived.Laws.MakeOwn
import Derived.Laws.OwnMore
import Derived.Deep.OwnRows
import Derived.Tactics
import Derived.Lib.ConvBytes
import Derived.Laws.Slices
import Derived.WalkKit
import Derived.KernelRfl
import Derived.RowKit3
import Derived.Deep.LoopGhost
import Derived.Deep.QuietTactic
import Derived.BigQuiet
import Derived.WideLaws
import Derived.Deep.DeepCutAuto
import Derived.Deep.CutBlock
import Derived.Deep.RegionHeld3
import Derived.Laws.Rows
import Derived.Lib.AppendStr
import Derived.ArgAppend
import Derived.Laws.IdiomCopy
import Derived.OrdersHeld
import Derived.Laws.BitsLemmas
import Derived.RowKit
import Derived.Lib.Bytealg
import Derived.Lib.Walk
import Derived.Test.YtelecnmflodkkaaDoorMFnExactClusterNewWWords
import Derived.Test.YtelecnmflodkkaaDoorMFnExactClusterNewWLast
import Derived.Test.YtelecnmflodkkaaDoorMFnExactClusterNewWTab
import Derived.Test.YtelecnmflodkkaaDoorMFnExactClusterNewWApart
import Derived.Test.YtelecnmflodkkaaDoorMFnExactClusterNewWFoot
import Derived.Test.YtelecnmflodkkaaDoorMFnExactClusterNewWKept
import Derived.Test.YtelecnmflodkkaaDoorMFnExactClusterNewWShare
import Derived.Test.YtelecnmflodkkaaDoorMFnExactClusterNewWN
import Derived.Test.YtelecnmflodkkaaDoorMFnExactClusterNewWFootNe
import Derived.Test.YtelecnmflodkkaaDoorMFnExactClusterNewWEqStruct
import Derived.Test.YtelecnmflodkkaaDoorMFnExactClusterNewWRepsOne
import Derived.Test.YtelecnmflodkkaaDoorMFnExactClusterNewWMore
set_option linter.unusedVariables false
set_option linter.unusedSimpArgs false
set_option maxHeartbeats 8000000
set_option maxRecDepth 100000

namespace Go.Proofs.YtelecnmflodkkaaDoor.P
open Go.RowKit Go.Proofs.YtelecnmflodkkaaDoorW.PrintWords Go.Proofs.YtelecnmflodkkaaDoorW.PrintLast Go.Proofs.YtelecnmflodkkaaDoorW.PrintMore
attribute [local go_sem] max2_int min2_int max_two min_two max_three min_three max_four min_four   -- for this text's walks alone
set_option linter.unusedVariables false
set_option linter.unusedSimpArgs false

theorem sa_ {α:Type _} (l:List α) (i:Nat) (a:α):l.toArray.setIfInBounds i a=(l.set i a).toArray:=List.setIfInBounds_toArray ..
theorem s0_ {α:Type _} (x:α) (l:List α) (a:α):(x :: l).set 0 a=a :: l:=List.set_cons_zero ..
theorem ss_ {α:Type _} (x:α) (l:List α) (n:Nat) (a:α):(x :: l).set (n+1) a=x :: l.set n a:=List.set_cons_succ ..
section
variable {P:Program} {ops:Array Oper} {Q:Exit→Act→World→Prop}
/-- A call of a function value, as a step of a region that draws. -/
theorem goesD_ {oi:Oper} {N:Option Tmp} {a:Act} {w:World} {K:Act→World→Prop} {f:FuncId} {fn:Func} {as_:Array Operand} {ts:Array TypeId} {x:Operand} (hf:P.funcs[f]? = some fn) (hname:(fn.name == "runtime.NumGoroutine")=false) (hb:fn.body.isSome=true) (args:Array Value)
    (hw:Region.wanted oi (yielded ops a.tmps)=true) (hN:oi.dst=N) (hop:oi.op = .call { callee:=.value x,args:=as_,argTypes:=ts }) (hx:a.eval x = .func (.func f) #[] #[]) (hargs:as_.map a.eval=args)
    (h:Calls P f args w fun e w'=>∃ v,e = .returned v∧K (a.put N v) w'):if Region.wanted oi (yielded ops a.tmps)=true then Oper.wp P oi a w K Q else K (a.put N undef) w:=by
  refine call_ f args hw hN ?_ h
  have he:=enters_ hf hname hb args w
  unfold execOp
  simp [hop,resolve,Deferred.ofValue,invoke,hx,hargs,he]
end



def errW:Option Int→Value
  | none=>.nilIface
  | some c=>.iface 0 (.int .i64 c)
theorem errW_none:errW none = .nilIface:=rfl
theorem errW_some (c:Int):errW (some c) = .iface 0 (.int .i64 c):=rfl

theorem info77:(Tryd.prog.info? 77).map (fun i=>(i.zero,i.size,i.bytes))=some (some (.agg #[(.int .i64 0),(.int .i64 0)]),2,16):=by kernel_rfl
theorem info95:(Tryd.prog.info? 95).map (fun i=>(i.zero,i.size,i.bytes))=some (some (.agg #[(.int .i64 0),(.slice none 0 0),(.string ⟨#[]⟩),(.int .i64 0)]),4,56):=by kernel_rfl
-- the values' own types
/-! #### struct type 77 -/
structure S77 where
  f0:Int
  f1:Int
def z77:S77:=⟨(0:Int),(0:Int)⟩
def k77:Kd S77:=Kd.iso (Kd.pair (Kd.int .i64) (Kd.int .i64)) (fun x:S77=>(x.f0,x.f1))
theorem k77_heap:Kd.Heap k77:=Kd.heap_iso _ (Kd.heap_pair (Kd.heap_int .i64) (Kd.heap_int .i64))
theorem k77_open {w:World} {x:S77} {cs:List Value} (h:k77.K w x cs):cs=[.int .i64 x.f0,.int .i64 x.f1]:=by
  obtain ⟨_,_,rfl,rfl,rfl⟩:=h
  exact rfl
theorem k77_openM {w:World} {base:Nat} {ok:Nat→Prop} {x:S77} {cs:List Value} (h:k77.M w base ok x cs):cs=[.int .i64 x.f0,.int .i64 x.f1]:=by
  obtain ⟨_,_,rfl,rfl,rfl⟩:=h
  exact rfl
theorem k77_mkM (w:World) (base:Nat) (ok:Nat→Prop) (x:S77)  : k77.M w base ok x [.int .i64 x.f0,.int .i64 x.f1]:=⟨[.int .i64 x.f0],[.int .i64 x.f1],rfl,rfl,rfl⟩
def rd_T77 (xs:List S77) (i:Int):S77:=xs.getD i.toNat z77
theorem at_T77 {w:World} {A:Option Addr} {n:Nat} {xs:List S77} (h:Kd.C k77 w A n xs) (i:Int) (h0:0≤i) (h1:i<n):∃ ad , A=some ad∧w.cell? (ad.add (i.toNat*2))=some (.int .i64 (rd_T77 xs i).f0)∧w.cell? ⟨(ad.add (i.toNat*2)).block,(ad.add (i.toNat*2)).off+1,none⟩=some (.int .i64 (rd_T77 xs i).f1):=by
  obtain ⟨ad,c,e,_,hK,hc0⟩:=Kd.C_get h z77 i h0 h1
  have hc:∀ j u,c[j]? = some u→w.cell? (ad.add (i.toNat*2+j))=some u:=hc0
  obtain rfl:=k77_open hK
  exact ⟨ad,e,hc 0 _ rfl,by rw [← add_field _ _ 1 (by omega)];exact hc 1 _ rfl⟩

/-! #### struct type 116 -/
structure S116 where
  f0:Int
  f1:Int
def z116:S116:=⟨(0:Int),(0:Int)⟩
def rd_T116 (xs:List S116) (i:Int):S116:=xs.getD i.toNat z116
/-! #### struct type 95 -/
structure S95 where
  f0:Int
  f1:Int
  f2:ByteArray
  f3:Int
def z95:S95:=⟨(0:Int),(0:Int),(⟨#[]⟩:ByteArray),(0:Int)⟩
def k95:Kd S95:=Kd.iso (Kd.pair (Kd.int .i64) (Kd.pair (Kd.scalar (fun _:Int=>Value.slice none 0 0) (fun _=>rfl)) (Kd.pair Kd.string (Kd.int .i64)))) (fun x:S95=>(x.f0,x.f1,x.f2,x.f3))
theorem k95_open {w:World} {x:S95} {cs:List Value} (h:k95.K w x cs):cs=[.int .i64 x.f0,.slice none 0 0,.string x.f2,.int .i64 x.f3]:=by
  obtain ⟨_,_,rfl,rfl,⟨_,_,rfl,rfl,⟨_,_,rfl,rfl,rfl⟩⟩⟩:=h
  exact rfl
theorem k95_openM {w:World} {base:Nat} {ok:Nat→Prop} {x:S95} {cs:List Value} (h:k95.M w base ok x cs):cs=[.int .i64 x.f0,.slice none 0 0,.string x.f2,.int .i64 x.f3]:=by
  obtain ⟨_,_,rfl,rfl,⟨_,_,rfl,rfl,⟨_,_,rfl,rfl,rfl⟩⟩⟩:=h
  exact rfl
theorem k95_mkM (w:World) (base:Nat) (ok:Nat→Prop) (x:S95)  : k95.M w base ok x [.int .i64 x.f0,.slice none 0 0,.string x.f2,.int .i64 x.f3]:=⟨[.int .i64 x.f0],[.slice none 0 0,.string x.f2,.int .i64 x.f3],rfl,rfl,⟨[.slice none 0 0],[.string x.f2,.int .i64 x.f3],rfl,rfl,⟨[.string x.f2],[.int .i64 x.f3],rfl,rfl,rfl⟩⟩⟩
def rd_T95 (xs:List S95) (i:Int):S95:=xs.getD i.toNat z95
theorem at_T95 {w:World} {A:Option Addr} {n:Nat} {xs:List S95} (h:Kd.C k95 w A n xs) (i:Int) (h0:0≤i) (h1:i<n):∃ ad , A=some ad∧w.cell? (ad.add (i.toNat*4))=some (.int .i64 (rd_T95 xs i).f0)∧w.cell? ⟨(ad.add (i.toNat*4)).block,(ad.add (i.toNat*4)).off+1,none⟩=some (.slice none 0 0)∧w.cell? ⟨(ad.add (i.toNat*4)).block,(ad.add (i.toNat*4)).off+2,none⟩=some (.string (rd_T95 xs i).f2)∧w.cell? ⟨(ad.add (i.toNat*4)).block,(ad.add (i.toNat*4)).off+3,none⟩=some (.int .i64 (rd_T95 xs i).f3):=by
  obtain ⟨ad,c,e,_,hK,hc0⟩:=Kd.C_get h z95 i h0 h1
  have hc:∀ j u,c[j]? = some u→w.cell? (ad.add (i.toNat*4+j))=some u:=hc0
  obtain rfl:=k95_open hK
  exact ⟨ad,e,hc 0 _ rfl,by rw [← add_field _ _ 1 (by omega)];exact hc 1 _ rfl,by rw [← add_field _ _ 2 (by omega)];exact hc 2 _ rfl,by rw [← add_field _ _ 3 (by omega)];exact hc 3 _ rfl⟩

end Go.Proofs.YtelecnmflodkkaaDoor.P

namespace Go.Proofs.YtelecnmflodkkaaDoor.P
open Go.RowKit Go.Proofs.YtelecnmflodkkaaDoorW.PrintWords Go.Proofs.YtelecnmflodkkaaDoorW.PrintLast Go.Proofs.YtelecnmflodkkaaDoorW.PrintMore
abbrev I:=true
abbrev O:=false
theorem mO {p:Prop} (h:p:=by repeat' first | (with_reducible exact LeO.refl _) | (with_reducible exact LeO.none _) | (with_reducible refine LeO.ite ?_ ?_) | (with_reducible refine LeO.bind ?_ (fun _=>?_)) | (with_reducible apply_assumption) | apply_assumption | exact LeO.none _ | refine LeO.ite ?_ ?_ | refine LeO.bind ?_ (fun _=>?_)):p:=h
theorem nO {q p:Prop} (h:q) (f:¬q:=by simp):p:=absurd h f
theorem aM {p:Prop} (h:p):Aside0 p:=⟨h⟩
theorem sI {α:Type _} {a b:α} (h:some a=some b):a=b:=Option.some.inj h
theorem bS {α β:Type _} {x:Option α} {f:α→Option β} {b:β} (h:x.bind f=some b):∃ a,x=some a∧f a=some b:=Option.bind_eq_some_iff.mp h
theorem dT {p:Prop} [Decidable p] (h:decide p=true):p:=of_decide_eq_true h
theorem dE {p:Prop} [Decidable p] (h:p):decide p=true:=decide_eq_true h
theorem dF {p:Prop} [Decidable p] (h:¬p):decide p=false:=decide_eq_false h
section
variable {P:Program} {ops:Array Oper} {Q:Exit→Act→World→Prop} {md:Region.Mode} {S:World→Prop} {ds:List Nat}
theorem pu_ {T:Bool × List (List Nat × List Nat)} (i:Nat) (N:Tmp) {oi:Oper} {v:Value} {fuel:Nat} {l:Array Bool} {a a':Act} {w:World} (l':Array Bool) (hT:rtab md ops=T) (h:wpAnyLast P md ops Q S ds fuel l' a' w) (hi:ops[i]? = some oi:=by exact rfl) (hN:oi.dst=some N:=by exact rfl) (hc:anyT T l.toList l'.toList i=true:=by kernel_rfl) (hQ:∀ c a w,Q (.panic c) (a.put oi.dst v) w→Q (.panic c) a w:=by exact fun _ _ _ h=>h) (hw:Region.wanted oi (yielded ops a.tmps)=true:=by rfl) (hy:∀ w',(execOp a.eval oi).run P w' = .ok (.value v) w':=by (intro w');go_simp;(with_reducible rfl)) (ha:a.put (some N) v=a':=by (simp only [Act.put,sa_,s0_,ss_,i64_w,i32_w]);exact rfl):wpAnyLast P md ops Q S ds (fuel+1) l a w:=pure_ l' hi hN (any_of hT hc) hQ (Or.inl ⟨hw,hy⟩) ha h
theorem pn_ {T:Bool × List (List Nat × List Nat)} (i:Nat) (N:Tmp) {oi:Oper} {v:Value} {fuel:Nat} {l:Array Bool} {a a':Act} {w:World} (l':Array Bool) (hT:rtab md ops=T) (h:wpAnyLast P md ops Q S ds fuel l' a' w) (hi:ops[i]? = some oi:=by exact rfl) (hN:oi.dst=some N:=by exact rfl) (hc:anyT T l.toList l'.toList i=true:=by kernel_rfl) (hQ:∀ c a w,Q (.panic c) (a.put oi.dst v) w→Q (.panic c) a w:=by exact fun _ _ _ h=>h) (hw:Region.wanted oi (yielded ops a.tmps)=false:=by rfl) (hy:v=undef:=by rfl) (ha:a.put (some N) v=a':=by (simp only [Act.put,sa_,s0_,ss_,i64_w,i32_w]);exact rfl):wpAnyLast P md ops Q S ds (fuel+1) l a w:=pure_ l' hi hN (any_of hT hc) hQ (Or.inr ⟨hw,hy⟩) ha h
theorem tk2_ {T:Bool × List (List Nat × List Nat)} (i:Nat) (N:Tmp) {oi:Oper} {v:Value} {fuel:Nat} {l:Array Bool} {a a':Act} {w:World} (l':Array Bool) {B:List Nat} (hT:rtab md ops=T) (hB:waitsOk T.2 B=true) (hS:S w) (h:wpAnyLast P md ops Q S ds fuel l' a' w) (hi:ops[i]? = some oi:=by exact rfl) (hN:oi.dst=some N:=by exact rfl) (hc:takeW T B ds l.toList l'.toList i=true:=by kernel_rfl) (hQ:∀ c a w,Q (.panic c) (a.put oi.dst v) w→Q (.panic c) a w:=by exact fun _ _ _ h=>h) (hw:Region.wanted oi (yielded ops a.tmps)=true:=by rfl) (hy:∀ w',S w'→(execOp a.eval oi).run P w' = .ok (.value v) w':=by (rintro w' ⟨s0,s1⟩);go_simp;(with_reducible rfl)) (ha:a.put (some N) v=a':=by (simp only [Act.put,sa_,s0_,ss_,i64_w,i32_w]);exact rfl):wpAnyLast P md ops Q S ds (fuel+1) l a w:=take_ l' hi hN (take_ofW hT hB hc) hQ (Or.inl ⟨hw,hy⟩) hS ha h
theorem tk4_ {T:Bool × List (List Nat × List Nat)} (i:Nat) (N:Tmp) {oi:Oper} {v:Value} {fuel:Nat} {l:Array Bool} {a a':Act} {w:World} (l':Array Bool) {B:List Nat} (hT:rtab md ops=T) (hB:waitsOk T.2 B=true) (hS:S w) (h:wpAnyLast P md ops Q S ds fuel l' a' w) (hi:ops[i]? = some oi:=by exact rfl) (hN:oi.dst=some N:=by exact rfl) (hc:takeW T B ds l.toList l'.toList i=true:=by kernel_rfl) (hQ:∀ c a w,Q (.panic c) (a.put oi.dst v) w→Q (.panic c) a w:=by exact fun _ _ _ h=>h) (hw:Region.wanted oi (yielded ops a.tmps)=true:=by rfl) (hy:∀ w',S w'→(execOp a.eval oi).run P w' = .ok (.value v) w':=by (rintro w' ⟨s0,s1,s2,s3⟩);go_simp;(with_reducible rfl)) (ha:a.put (some N) v=a':=by (simp only [Act.put,sa_,s0_,ss_,i64_w,i32_w]);exact rfl):wpAnyLast P md ops Q S ds (fuel+1) l a w:=take_ l' hi hN (take_ofW hT hB hc) hQ (Or.inl ⟨hw,hy⟩) hS ha h
theorem tk8_ {T:Bool × List (List Nat × List Nat)} (i:Nat) (N:Tmp) {oi:Oper} {v:Value} {fuel:Nat} {l:Array Bool} {a a':Act} {w:World} (l':Array Bool) {B:List Nat} (hT:rtab md ops=T) (hB:waitsOk T.2 B=true) (hS:S w) (h:wpAnyLast P md ops Q S ds fuel l' a' w) (hi:ops[i]? = some oi:=by exact rfl) (hN:oi.dst=some N:=by exact rfl) (hc:takeW T B ds l.toList l'.toList i=true:=by kernel_rfl) (hQ:∀ c a w,Q (.panic c) (a.put oi.dst v) w→Q (.panic c) a w:=by exact fun _ _ _ h=>h) (hw:Region.wanted oi (yielded ops a.tmps)=true:=by rfl) (hy:∀ w',S w'→(execOp a.eval oi).run P w' = .ok (.value v) w':=by (rintro w' ⟨s0,s1,s2,s3,s4,s5,s6,s7⟩);go_simp;(with_reducible rfl)) (ha:a.put (some N) v=a':=by (simp only [Act.put,sa_,s0_,ss_,i64_w,i32_w]);exact rfl):wpAnyLast P md ops Q S ds (fuel+1) l a w:=take_ l' hi hN (take_ofW hT hB hc) hQ (Or.inl ⟨hw,hy⟩) hS ha h
theorem o1_ {T:Bool × List (List Nat × List Nat)} (i:Nat) (N:Tmp) {oi:Oper} {fuel:Nat} {l:Array Bool} {a:Act} {w:World} (l':Array Bool) (hT:rtab md ops=T) (h:∀ K:Act→World→Prop,Shut (∀ a' w',S w'→(S w'→wpAnyLast P md ops Q S ds fuel l' a' w')→K a' w')→if Region.wanted oi (yielded ops a.tmps)=true then Oper.wp P oi a w K Q else K (a.put (some N) undef) w) (hi:ops[i]? = some oi:=by exact rfl) (hN:oi.dst=some N:=by exact rfl) (hc:(readyT T.2 l.toList == [i] && l.toList.set i true == l'.toList)=true:=by kernel_rfl) (hd:i ∉ ds:=by decide):wpAnyLast P md ops Q S ds (fuel+1) l a w:=one_ l' hi hN (one_of hT hc) hd h
theorem nm_ (N:Tmp) {fuel:Nat} {l:Array Bool} {a a':Act} {v:Value} {w:World} (h:wpAnyLast P md ops Q S ds fuel l a' w) (ha:Act.put a (some N) v=a':=by simp only [Act.put,sa_,s0_,ss_,i64_w,i32_w];rfl):wpAnyLast P md ops Q S ds fuel l (Act.put a (some N) v) w:=norm_ ha h
end
section
variable {P:Program} {ops:Array Oper} {rest:List Oper} {o:Oper} {a:Act} {Q:Exit→Act→World→Prop} {W:World}
theorem gd_ (N:Tmp) (h:wpList P ops Q (o :: rest) a W) (hN:o.dst=some N:=by with_reducible rfl):wpList P ops Q (o :: rest) a W:=h
theorem gc_ (f:FuncId) {ars:Array Operand} {ts:Array TypeId} (h:wpList P ops Q (o :: rest) a W) (ho:o.op = .call { callee:=.value (.func f),args:=ars,argTypes:=ts }:=by with_reducible rfl):wpList P ops Q (o :: rest) a W:=h
theorem be_ (N:Tmp) (cs:Array Value) (t:TypeId) (h:∀ g,g=W.heap.size→∀ w1,w1.heap[g]? = some (.cells cs t (0,0))→Below W.heap.size W w1→wpList P ops Q rest (a.put o.dst (.pointer (some ⟨g,0,none⟩))) w1) (hd:o.dst=some N:=by rfl) (hgd:o.guard=none:=by rfl) (hrun:(execOp a.eval o).run P W = .ok (.value (.pointer (some ⟨W.heap.size,0,none⟩))) (W.alloc (.cells cs t (0,0))):=by first | (go_simp;done) | (go_simp;rfl)):wpList P ops Q (o :: rest) a W:=box_event hgd hd hrun h
theorem gl_ (N:Option Tmp) {f:FuncId} {fn:Func} {ars:Array Operand} {ts:Array TypeId} (hf:P.funcs[f]? = some fn) (args:Array Value) (h:Calls P f args W fun e w'=>∃ v,e = .returned v∧wpList P ops Q rest (a.put N v) w') (hd:o.dst=N:=by exact rfl) (hg:o.guard=none:=by exact rfl) (hname:(fn.name == "runtime.NumGoroutine")=false:=by kernel_rfl) (hb:fn.body.isSome=true:=by exact rfl) (hop:o.op = .call { callee:=.value (.func f),args:=ars,argTypes:=ts }:=by exact rfl) (hargs:ars.map a.eval=args:=by (try simp only [List.map_toArray,List.map_cons,List.map_nil]);first | done | rfl | (simp only [List.length_drop,List.length_take];rfl)):wpList P ops Q (o :: rest) a W:=goesL_ N hd hg hf hname hb args hop hargs h
theorem gs_ {N:Option Tmp} {K:Act→World→Prop} {f:FuncId} {fn:Func} {ars:Array Operand} {ts:Array TypeId} (hf:P.funcs[f]? = some fn) (args:Array Value) (h:Calls P f args W fun e w'=>∃ v,e = .returned v∧K (a.put N v) w') (hname:(fn.name == "runtime.NumGoroutine")=false:=by kernel_rfl) (hb:fn.body.isSome=true:=by exact rfl) (hw:Region.wanted o (yielded ops a.tmps)=true:=by rfl) (hN:o.dst=N:=by exact rfl) (hop:o.op = .call { callee:=.value (.func f),args:=ars,argTypes:=ts }:=by exact rfl) (hargs:ars.map a.eval=args:=by (try simp only [List.map_toArray,List.map_cons,List.map_nil]);first | done | rfl | (simp only [List.length_drop,List.length_take];rfl)):if Region.wanted o (yielded ops a.tmps)=true then Oper.wp P o a W K Q else K (a.put N undef) W:=goes_ hf hname hb args hw hN hop hargs h
end
theorem cc2_ {w:World} {g:Nat} {t:TypeId} {v0 v1:Value} (h:w.heap[g]? = some (.cells #[v0,v1] t (0,0))):w.cell? ⟨g,0,none⟩=some v0∧w.cell? ⟨g,1,none⟩=some v1:=⟨blk_cell h 0,blk_cell h 1⟩
theorem cj2_ {p:Prop} {w:World} {g:Nat} {t:TypeId} {v0 v1:Value} (h:w.heap[g]? = some (.cells #[v0,v1] t (0,0))) (r:p):w.cell? ⟨g,0,none⟩=some v0∧w.cell? ⟨g,1,none⟩=some v1∧p:=⟨blk_cell h 0,blk_cell h 1,r⟩
theorem blkB_ {W0 W W':World} {g:Nat} {o:Obj} (h:W0.heap[g]? = some o) (hb:Below W.heap.size W W') (f:W0.heap[g]? = some o→W.heap[g]? = some o:=by intro h_;(with_reducible repeat (first | refine blk_drewN ?_ _ | refine blk_drew ?_ | refine blk_alloc ?_ _));exact h_):W'.heap[g]? = some o:=blk_below (f h) hb
theorem neL_ {W0 W:World} {g b:Nat} {o:Obj} (h:W0.heap[b]? = some o) (hg:g=W.heap.size) (f:W0.heap[b]? = some o→W.heap[b]? = some o:=by intro h_;(with_reducible repeat (first | refine blk_drewN ?_ _ | refine blk_drew ?_ | refine blk_alloc ?_ _));exact h_):b≠g:=by rw [hg];exact Nat.ne_of_lt (blk_lt (f h))
theorem neG_ {W0 W:World} {g b:Nat} {o:Obj} (h:W0.heap[b]? = some o) (hg:g=W.heap.size) (f:W0.heap[b]? = some o→W.heap[b]? = some o:=by intro h_;(with_reducible repeat (first | refine blk_drewN ?_ _ | refine blk_drew ?_ | refine blk_alloc ?_ _));exact h_):g≠b:=by rw [hg];exact Nat.ne_of_gt (blk_lt (f h))
theorem cz2_ {w:World} {g:Nat} {t:TypeId} {v0 v1:Value} (h:w.heap[g]? = some (.cells #[v0,v1] t (0,0))):w.cell? ⟨g,0,none⟩=some v0∧w.cell? ⟨g,1,none⟩=some v1∧w.frozen? ⟨g,0,none⟩=false∧w.frozen? ⟨g,1,none⟩=false:=⟨blk_cell h 0,blk_cell h 1,blk_frozen h 0,blk_frozen h 1⟩
theorem cz4_ {w:World} {g:Nat} {t:TypeId} {v0 v1 v2 v3:Value} (h:w.heap[g]? = some (.cells #[v0,v1,v2,v3] t (0,0))):w.cell? ⟨g,0,none⟩=some v0∧w.cell? ⟨g,1,none⟩=some v1∧w.cell? ⟨g,2,none⟩=some v2∧w.cell? ⟨g,3,none⟩=some v3∧w.frozen? ⟨g,0,none⟩=false∧w.frozen? ⟨g,1,none⟩=false∧w.frozen? ⟨g,2,none⟩=false∧w.frozen? ⟨g,3,none⟩=false:=⟨blk_cell h 0,blk_cell h 1,blk_cell h 2,blk_cell h 3,blk_frozen h 0,blk_frozen h 1,blk_frozen h 2,blk_frozen h 3⟩
theorem cz7_ {w:World} {g:Nat} {t:TypeId} {v0 v1 v2 v3 v4 v5 v6:Value} (h:w.heap[g]? = some (.cells #[v0,v1,v2,v3,v4,v5,v6] t (0,0))):w.cell? ⟨g,0,none⟩=some v0∧w.cell? ⟨g,1,none⟩=some v1∧w.cell? ⟨g,2,none⟩=some v2∧w.cell? ⟨g,3,none⟩=some v3∧w.cell? ⟨g,4,none⟩=some v4∧w.cell? ⟨g,5,none⟩=some v5∧w.cell? ⟨g,6,none⟩=some v6∧w.frozen? ⟨g,0,none⟩=false∧w.frozen? ⟨g,1,none⟩=false∧w.frozen? ⟨g,2,none⟩=false∧w.frozen? ⟨g,3,none⟩=false∧w.frozen? ⟨g,4,none⟩=false∧w.frozen? ⟨g,5,none⟩=false∧w.frozen? ⟨g,6,none⟩=false:=⟨blk_cell h 0,blk_cell h 1,blk_cell h 2,blk_cell h 3,blk_cell h 4,blk_cell h 5,blk_cell h 6,blk_frozen h 0,blk_frozen h 1,blk_frozen h 2,blk_frozen h 3,blk_frozen h 4,blk_frozen h 5,blk_frozen h 6⟩
theorem cz10_ {w:World} {g:Nat} {t:TypeId} {v0 v1 v2 v3 v4 v5 v6 v7 v8 v9:Value} (h:w.heap[g]? = some (.cells #[v0,v1,v2,v3,v4,v5,v6,v7,v8,v9] t (0,0))):w.cell? ⟨g,0,none⟩=some v0∧w.cell? ⟨g,1,none⟩=some v1∧w.cell? ⟨g,2,none⟩=some v2∧w.cell? ⟨g,3,none⟩=some v3∧w.cell? ⟨g,4,none⟩=some v4∧w.cell? ⟨g,5,none⟩=some v5∧w.cell? ⟨g,6,none⟩=some v6∧w.cell? ⟨g,7,none⟩=some v7∧w.cell? ⟨g,8,none⟩=some v8∧w.cell? ⟨g,9,none⟩=some v9∧w.frozen? ⟨g,0,none⟩=false∧w.frozen? ⟨g,1,none⟩=false∧w.frozen? ⟨g,2,none⟩=false∧w.frozen? ⟨g,3,none⟩=false∧w.frozen? ⟨g,4,none⟩=false∧w.frozen? ⟨g,5,none⟩=false∧w.frozen? ⟨g,6,none⟩=false∧w.frozen? ⟨g,7,none⟩=false∧w.frozen? ⟨g,8,none⟩=false∧w.frozen? ⟨g,9,none⟩=false:=⟨blk_cell h 0,blk_cell h 1,blk_cell h 2,blk_cell h 3,blk_cell h 4,blk_cell h 5,blk_cell h 6,blk_cell h 7,blk_cell h 8,blk_cell h 9,blk_frozen h 0,blk_frozen h 1,blk_frozen h 2,blk_frozen h 3,blk_frozen h 4,blk_frozen h 5,blk_frozen h 6,blk_frozen h 7,blk_frozen h 8,blk_frozen h 9⟩
theorem put2_ {w:World} {g:Nat} {t:TypeId} {v0 v1 z0 z1:Value} (h:w.heap[g]? = some (.cells #[z0,z1] t (0,0))):((w.setCell ⟨g,0,none⟩ v0).setCell ⟨g,1,none⟩ v1).heap[g]? = some (.cells #[v0,v1] t (0,0)):=(blk_put (cs':=#[v0,v1]) (blk_put (cs':=#[v0,z1]) h 0 v0 rfl) 1 v1 rfl)
theorem rf2_ {α:Type} {d:Kd α} {e:TypeId} {w:World} {base g:Nat} {ok:Nat→Prop} {v:Value} {xs:List α} {v0 v1:Value} (h:d.R e w base ok v xs) (f:∀ k,ok k→k≠g):d.R e ((w.setCell ⟨g,0,none⟩ v0).setCell ⟨g,1,none⟩ v1) base ok v xs:=(Kd.R_far (p:=⟨g,1,none⟩) (Kd.R_far (p:=⟨g,0,none⟩) h f v0) f v1)
theorem put7_ {w:World} {g:Nat} {t:TypeId} {v0 v1 v2 v3 v4 v5 v6 z0 z1 z2 z3 z4 z5 z6:Value} (h:w.heap[g]? = some (.cells #[z0,z1,z2,z3,z4,z5,z6] t (0,0))):(((((((w.setCell ⟨g,0,none⟩ v0).setCell ⟨g,1,none⟩ v1).setCell ⟨g,2,none⟩ v2).setCell ⟨g,3,none⟩ v3).setCell ⟨g,4,none⟩ v4).setCell ⟨g,5,none⟩ v5).setCell ⟨g,6,none⟩ v6).heap[g]? = some (.cells #[v0,v1,v2,v3,v4,v5,v6] t (0,0)):=(blk_put (cs':=#[v0,v1,v2,v3,v4,v5,v6]) (blk_put (cs':=#[v0,v1,v2,v3,v4,v5,z6]) (blk_put (cs':=#[v0,v1,v2,v3,v4,z5,z6]) (blk_put (cs':=#[v0,v1,v2,v3,z4,z5,z6]) (blk_put (cs':=#[v0,v1,v2,z3,z4,z5,z6]) (blk_put (cs':=#[v0,v1,z2,z3,z4,z5,z6]) (blk_put (cs':=#[v0,z1,z2,z3,z4,z5,z6]) h 0 v0 rfl) 1 v1 rfl) 2 v2 rfl) 3 v3 rfl) 4 v4 rfl) 5 v5 rfl) 6 v6 rfl)
theorem rf7_ {α:Type} {d:Kd α} {e:TypeId} {w:World} {base g:Nat} {ok:Nat→Prop} {v:Value} {xs:List α} {v0 v1 v2 v3 v4 v5 v6:Value} (h:d.R e w base ok v xs) (f:∀ k,ok k→k≠g):d.R e (((((((w.setCell ⟨g,0,none⟩ v0).setCell ⟨g,1,none⟩ v1).setCell ⟨g,2,none⟩ v2).setCell ⟨g,3,none⟩ v3).setCell ⟨g,4,none⟩ v4).setCell ⟨g,5,none⟩ v5).setCell ⟨g,6,none⟩ v6) base ok v xs:=(Kd.R_far (p:=⟨g,6,none⟩) (Kd.R_far (p:=⟨g,5,none⟩) (Kd.R_far (p:=⟨g,4,none⟩) (Kd.R_far (p:=⟨g,3,none⟩) (Kd.R_far (p:=⟨g,2,none⟩) (Kd.R_far (p:=⟨g,1,none⟩) (Kd.R_far (p:=⟨g,0,none⟩) h f v0) f v1) f v2) f v3) f v4) f v5) f v6)
theorem put10_ {w:World} {g:Nat} {t:TypeId} {v0 v1 v2 v3 v4 v5 v6 v7 v8 v9 z0 z1 z2 z3 z4 z5 z6 z7 z8 z9:Value} (h:w.heap[g]? = some (.cells #[z0,z1,z2,z3,z4,z5,z6,z7,z8,z9] t (0,0))):((((((((((w.setCell ⟨g,0,none⟩ v0).setCell ⟨g,1,none⟩ v1).setCell ⟨g,2,none⟩ v2).setCell ⟨g,3,none⟩ v3).setCell ⟨g,4,none⟩ v4).setCell ⟨g,5,none⟩ v5).setCell ⟨g,6,none⟩ v6).setCell ⟨g,7,none⟩ v7).setCell ⟨g,8,none⟩ v8).setCell ⟨g,9,none⟩ v9).heap[g]? = some (.cells #[v0,v1,v2,v3,v4,v5,v6,v7,v8,v9] t (0,0)):=(blk_put (cs':=#[v0,v1,v2,v3,v4,v5,v6,v7,v8,v9]) (blk_put (cs':=#[v0,v1,v2,v3,v4,v5,v6,v7,v8,z9]) (blk_put (cs':=#[v0,v1,v2,v3,v4,v5,v6,v7,z8,z9]) (blk_put (cs':=#[v0,v1,v2,v3,v4,v5,v6,z7,z8,z9]) (blk_put (cs':=#[v0,v1,v2,v3,v4,v5,z6,z7,z8,z9]) (blk_put (cs':=#[v0,v1,v2,v3,v4,z5,z6,z7,z8,z9]) (blk_put (cs':=#[v0,v1,v2,v3,z4,z5,z6,z7,z8,z9]) (blk_put (cs':=#[v0,v1,v2,z3,z4,z5,z6,z7,z8,z9]) (blk_put (cs':=#[v0,v1,z2,z3,z4,z5,z6,z7,z8,z9]) (blk_put (cs':=#[v0,z1,z2,z3,z4,z5,z6,z7,z8,z9]) h 0 v0 rfl) 1 v1 rfl) 2 v2 rfl) 3 v3 rfl) 4 v4 rfl) 5 v5 rfl) 6 v6 rfl) 7 v7 rfl) 8 v8 rfl) 9 v9 rfl)
theorem rf10_ {α:Type} {d:Kd α} {e:TypeId} {w:World} {base g:Nat} {ok:Nat→Prop} {v:Value} {xs:List α} {v0 v1 v2 v3 v4 v5 v6 v7 v8 v9:Value} (h:d.R e w base ok v xs) (f:∀ k,ok k→k≠g):d.R e ((((((((((w.setCell ⟨g,0,none⟩ v0).setCell ⟨g,1,none⟩ v1).setCell ⟨g,2,none⟩ v2).setCell ⟨g,3,none⟩ v3).setCell ⟨g,4,none⟩ v4).setCell ⟨g,5,none⟩ v5).setCell ⟨g,6,none⟩ v6).setCell ⟨g,7,none⟩ v7).setCell ⟨g,8,none⟩ v8).setCell ⟨g,9,none⟩ v9) base ok v xs:=(Kd.R_far (p:=⟨g,9,none⟩) (Kd.R_far (p:=⟨g,8,none⟩) (Kd.R_far (p:=⟨g,7,none⟩) (Kd.R_far (p:=⟨g,6,none⟩) (Kd.R_far (p:=⟨g,5,none⟩) (Kd.R_far (p:=⟨g,4,none⟩) (Kd.R_far (p:=⟨g,3,none⟩) (Kd.R_far (p:=⟨g,2,none⟩) (Kd.R_far (p:=⟨g,1,none⟩) (Kd.R_far (p:=⟨g,0,none⟩) h f v0) f v1) f v2) f v3) f v4) f v5) f v6) f v7) f v8) f v9)
theorem z0_ {p:Prop} (f:p:=by first | rfl | (simp;done) | (simp [*];done) | (simp [bne];done)):p:=f
theorem z1_ {p:Prop} (f:p:=by first | (with_reducible assumption) | assumption):p:=f
theorem z2_ {a0 p:Prop} (h0:a0) (f:a0→p:=by intro h0_;(with_reducible repeat (first | apply Kd.R_alloc | apply Kd.R_drewN | apply Kd.R_drew));exact h0_):p:=f h0
theorem z3_ {a0 p:Prop} (h0:a0) (f:a0→p:=by intro h0_;repeat (first | (with_reducible first | exact h0_ | apply below_alloc | apply pw_below_drewN | apply below_drew1) | exact h0_)):p:=f h0
theorem z4_ {a0 p:Prop} (h0:a0) (f:a0→p:=by intro h0_;(with_reducible repeat (first | refine blk_drewN ?_ _ | refine blk_drew ?_ | refine blk_alloc ?_ _));exact h0_):p:=f h0
theorem z5_ {a0 p:Prop} (h0:a0) (f:a0→p:=by intro h0_;repeat (first | (with_reducible first | exact h0_ | apply Kept.alloc | apply Kept.drewN | apply Kept.drew) | exact h0_)):p:=f h0
theorem z6_ {p:Prop} (f:p:=by repeat (first | exact Drawn0.refl _ | apply Drawn0.step)):p:=f
theorem z7_ {a0 a1 a2 p:Prop} (h0:a0) (h1:a1) (h2:a2) (f:a0→a1→a2→p:=by intro h0_ h1_ h2_;repeat (first | (with_reducible first | exact h0_ | apply below_alloc | apply pw_below_drewN | apply below_drew1 | refine below_set ?_ h1_ | refine below_set ?_ h2_) | exact h0_)):p:=f h0 h1 h2
theorem z8_ {a0 a1 p:Prop} (h0:a0) (h1:a1) (f:a0→a1→p:=by intro h0_ h1_;repeat (first | (with_reducible first | exact h0_ | apply below_alloc | apply pw_below_drewN | apply below_drew1 | refine below_set ?_ h1_) | exact h0_)):p:=f h0 h1
theorem z9_ {p:Prop} (f:p:=by first | rfl | (simp [errW_none,errW_some] <;> rfl) | (simp [*,errW_none,errW_some] <;> rfl)):p:=f
theorem z10_ {a0 p:Prop} (h0:a0) (f:a0→p:=by intro h0_;rw [hg];exact (below_size (by repeat (first | (with_reducible first | exact h0_ | apply below_alloc | apply pw_below_drewN | apply below_drew1) | exact h0_)))):p:=f h0
theorem z11_ {a0 a1 a2 a3 p:Prop} (h0:a0) (h1:a1) (h2:a2) (h3:a3) (f:a0→a1→a2→a3→p:=by intro h0_ h1_ h2_ h3_;repeat (first | (with_reducible first | exact h0_ | apply below_alloc | apply pw_below_drewN | apply below_drew1 | refine below_set ?_ h1_ | refine below_set ?_ h2_ | refine below_set ?_ h3_) | exact h0_)):p:=f h0 h1 h2 h3
theorem z12_ {a0 a1 p:Prop} (h0:a0) (h1:a1) (f:a0→a1→p:=by intro h0_ h1_;(with_reducible repeat (first | apply Kd.R_alloc | apply Kd.R_drewN | apply Kd.R_drew));exact (Kd.R_mono (rf10_ (Kd.R_types h0_ h1_ (by decide)) (fun _ hk=>hk.2)) (fun _ h_=>h_.1))):p:=f h0 h1
theorem z13_ {a0 a1 p:Prop} (h0:a0) (h1:a1) (f:a0→a1→p:=by intro h0_ h1_;rw [hg];exact (below_size (by repeat (first | (with_reducible first | exact h0_ | apply below_alloc | apply pw_below_drewN | apply below_drew1 | refine below_set ?_ h1_) | exact h0_)))):p:=f h0 h1
theorem z14_ {a0 a1 p:Prop} (h0:a0) (h1:a1) (f:a0→a1→p:=by intro h0_ h1_;repeat (first | (with_reducible first | exact h0_ | apply below_alloc | apply pw_below_drewN | apply below_drew1 | refine below_set ?_ (IsS3.ge h1_)) | exact h0_)):p:=f h0 h1
theorem z15_ {a0 p:Prop} (h0:a0) (f:a0→p:=by intro h0_;repeat (first | (with_reducible first | exact h0_ | apply KeepBut.set_ | apply keep_drewN | apply keep_drew | apply keep_alloc) | exact h0_)):p:=f h0
theorem z16_ {p:Prop} (f:p:=by first | exact Kd.R_nil _ _ _ _ _ | exact Kd.N_nil _ _ _ _ _ | exact Kd.V_nil _ _ _ _ _ | exact Kd.Q_nil _ _ _ _ _ | exact Kd.S_nil _ _ _ _ _):p:=f
theorem z17_ {a0 p:Prop} (h0:a0) (f:a0→p:=by intro h0_;have h_:(x5_1:Int)<((x0_1.length:Int):Int):=dT (by first | (with_reducible assumption) | assumption);first | exact h_ | (have e_:=(Kd.R_reads' h0_).1;omega) | simpa using h_):p:=f h0
theorem z18_ {a0 a1 a2 p:Prop} (h0:a0) (h1:a1) (h2:a2) (f:a0→a1→a2→p:=by intro h0_ h1_ h2_;have:=h0_;have:=h1_;have:=h2_;first | omega | exact Nat.le_refl _):p:=f h0 h1 h2
theorem z19_ {a0 p:Prop} (h0:a0) (f:a0→p:=by intro h0_;repeat (first | (with_reducible first | exact h0_ | apply IsS3.alloc | apply IsS3.drewN | apply IsS3.drew | apply IsS3.set_0) | exact h0_)):p:=f h0
theorem z20_ {a0 p:Prop} (h0:a0) (f:a0→p:=by intro h0_;(try simp only [hl0_1]);(try simp only [hl0_5]);(with_reducible repeat (first | apply Kd.R_alloc | apply Kd.R_drewN | apply Kd.R_drew));exact h0_):p:=f h0
theorem z21_ {a0 a1 p:Prop} (h0:a0) (h1:a1) (f:a0→a1→p:=by intro h0_ h1_;repeat (first | (with_reducible first | exact h0_ | apply Kept.alloc | apply Kept.drewN | apply Kept.drew | refine Kept.setCell ?_ (.inr h1_) _) | exact h0_)):p:=f h0 h1
theorem z22_ {a0 a1 a2 p:Prop} (h0:a0) (h1:a1) (h2:a2) (f:a0→a1→a2→p:=by intro h0_ h1_ h2_;rw [hg];exact (below_size (by repeat (first | (with_reducible first | exact h0_ | apply below_alloc | apply pw_below_drewN | apply below_drew1 | refine below_set ?_ h1_ | refine below_set ?_ h2_) | exact h0_)))):p:=f h0 h1 h2
theorem z23_ {a0 p:Prop} (h0:a0) (f:a0→p:=by intro h0_;(with_reducible repeat (first | refine blk_drewN ?_ _ | refine blk_drew ?_ | refine blk_alloc ?_ _));apply put10_;(with_reducible repeat (first | refine blk_drewN ?_ _ | refine blk_drew ?_ | refine blk_alloc ?_ _));exact h0_):p:=f h0
theorem z24_ {a0 p:Prop} (h0:a0) (f:a0→p:=by intro h0_;(try simp only [hl0_1]);(with_reducible repeat (first | apply Kd.R_alloc | apply Kd.R_drewN | apply Kd.R_drew));exact h0_):p:=f h0
theorem z25_ {a0 a1 p:Prop} (h0:a0) (h1:a1) (f:a0→a1→p:=by intro h0_ h1_;(with_reducible repeat (first | apply Kd.R_alloc | apply Kd.R_drewN | apply Kd.R_drew));exact Kd.R_mono (rf10_ (Kd.R_types h0_ h1_ (by decide)) (fun _ hk=>hk.2)) (fun _ hk=>trivial)):p:=f h0 h1
theorem z26_ {a0 p:Prop} (h0:a0) (f:a0→p:=by intro h0_;repeat (first | (with_reducible exact h0_) | (with_reducible refine Kd.C_alloc ?_ _) | (with_reducible refine Kd.C_drewN ?_ _) | (with_reducible refine Kd.C_drew ?_) | exact h0_)):p:=f h0
theorem z27_ {a0 a1 p:Prop} (h0:a0) (h1:a1) (f:a0→a1→p:=by intro h0_ h1_;repeat (first | (with_reducible first | exact h0_ | apply Kept.alloc | apply Kept.drewN | apply Kept.drew | refine Kept.setCell ?_ h1_ _ | refine Kept.setCell ?_ h1_ _ | refine Kept.setCell ?_ h1_ _ | refine Kept.setCell ?_ h1_ _) | exact h0_)):p:=f h0 h1
theorem z28_ {a0 a1 p:Prop} (h0:a0) (h1:a1) (f:a0→a1→p:=by intro h0_ h1_;repeat (first | (with_reducible first | exact h0_ | apply below_alloc | apply pw_below_drewN | apply below_drew1 | refine below_set ?_ h1_ | refine below_set ?_ h1_ | refine below_set ?_ h1_ | refine below_set ?_ h1_) | exact h0_)):p:=f h0 h1
theorem z29_ {p:Prop} (f:p:=by (try simp only [List.map_toArray,List.map_cons,List.map_nil]);first | done | rfl | (simp only [List.length_drop,List.length_take];rfl)):p:=f
theorem z30_ {a0 p:Prop} (h0:a0) (f:a0→p:=by intro h0_;(with_reducible repeat (first | refine blk_drewN ?_ _ | refine blk_drew ?_ | refine blk_alloc ?_ _));apply put2_;(with_reducible repeat (first | refine blk_drewN ?_ _ | refine blk_drew ?_ | refine blk_alloc ?_ _));exact h0_):p:=f h0
theorem z31_ {a0 a1 p:Prop} (h0:a0) (h1:a1) (f:a0→a1→p:=by intro h0_ h1_;(with_reducible repeat (first | refine blk_drewN ?_ _ | refine blk_drew ?_ | refine blk_alloc ?_ _));refine blk_far ?_ h0_ _;(with_reducible repeat (first | refine blk_drewN ?_ _ | refine blk_drew ?_ | refine blk_alloc ?_ _));refine blk_far ?_ h0_ _;(with_reducible repeat (first | refine blk_drewN ?_ _ | refine blk_drew ?_ | refine blk_alloc ?_ _));exact h1_):p:=f h0 h1
theorem z32_ {a0 a1 p:Prop} (h0:a0) (h1:a1) (f:a0→a1→p:=by intro h0_ h1_;(with_reducible repeat (first | refine blk_drewN ?_ _ | refine blk_drew ?_ | refine blk_alloc ?_ _));refine blk_far ?_ h0_ _;(with_reducible repeat (first | refine blk_drewN ?_ _ | refine blk_drew ?_ | refine blk_alloc ?_ _));exact h1_):p:=f h0 h1
theorem z33_ {a0 p:Prop} (h0:a0) (f:a0→p:=by intro h0_;have h_:(x13_3:Int)<((y195.length:Int):Int):=dT (by first | (with_reducible assumption) | assumption);first | exact h_ | (have e_:=(Kd.R_reads' h0_).1;omega) | simpa using h_):p:=f h0
theorem z34_ {a0 p:Prop} (h0:a0) (f:a0→p:=by intro h0_;have h_:(x13_8:Int)<((x0_5.length:Int):Int):=dT (by first | (with_reducible assumption) | assumption);first | exact h_ | (have e_:=(Kd.R_reads' h0_).1;omega) | simpa using h_):p:=f h0
theorem z35_ {a0 p:Prop} (h0:a0) (f:a0→p:=by intro h0_;(with_reducible repeat (first | apply Kd.R_alloc | apply Kd.R_drewN | apply Kd.R_drew));exact Kd.R_mono h0_ (fun _ hk=>⟨hk.1.2,hk.2⟩)):p:=f h0
theorem z36_ {a0 a1 p:Prop} (h0:a0) (h1:a1) (f:a0→a1→p:=by intro h0_ h1_;(with_reducible repeat (first | refine blk_drewN ?_ _ | refine blk_drew ?_ | refine blk_alloc ?_ _));refine blk_far ?_ h0_ _;(with_reducible repeat (first | refine blk_drewN ?_ _ | refine blk_drew ?_ | refine blk_alloc ?_ _));refine blk_far ?_ h0_ _;(with_reducible repeat (first | refine blk_drewN ?_ _ | refine blk_drew ?_ | refine blk_alloc ?_ _));refine blk_far ?_ h0_ _;(with_reducible repeat (first | refine blk_drewN ?_ _ | refine blk_drew ?_ | refine blk_alloc ?_ _));refine blk_far ?_ h0_ _;(with_reducible repeat (first | refine blk_drewN ?_ _ | refine blk_drew ?_ | refine blk_alloc ?_ _));refine blk_far ?_ h0_ _;(with_reducible repeat (first | refine blk_drewN ?_ _ | refine blk_drew ?_ | refine blk_alloc ?_ _));refine blk_far ?_ h0_ _;(with_reducible repeat (first | refine blk_drewN ?_ _ | refine blk_drew ?_ | refine blk_alloc ?_ _));refine blk_far ?_ h0_ _;(with_reducible repeat (first | refine blk_drewN ?_ _ | refine blk_drew ?_ | refine blk_alloc ?_ _));refine blk_far ?_ h0_ _;(with_reducible repeat (first | refine blk_drewN ?_ _ | refine blk_drew ?_ | refine blk_alloc ?_ _));refine blk_far ?_ h0_ _;(with_reducible repeat (first | refine blk_drewN ?_ _ | refine blk_drew ?_ | refine blk_alloc ?_ _));refine blk_far ?_ h0_ _;(with_reducible repeat (first | refine blk_drewN ?_ _ | refine blk_drew ?_ | refine blk_alloc ?_ _));exact h1_):p:=f h0 h1
end Go.Proofs.YtelecnmflodkkaaDoor.P

namespace Go.Proofs.YtelecnmflodkkaaDoor.P
open Go.RowKit Go.Proofs.YtelecnmflodkkaaDoorW.PrintWords Go.Proofs.YtelecnmflodkkaaDoorW.PrintLast Go.Proofs.YtelecnmflodkkaaDoorW.PrintMore
attribute [local go_sem] max2_int min2_int max_two min_two max_three min_three max_four min_four   -- for this text's walks alone
set_option linter.unusedVariables false
set_option linter.unusedSimpArgs false

/-! ### Y41: function 39 -/
def Y41.f (a0:Int) (a1:Int) (a2:Int):Option (Bool):=if a0≥a1 then (some (decide (a0≤a2))) else (some false)
theorem Y41.calls (a0:Int) (a1:Int) (a2:Int) (r:Bool) (w:World) (h:Y41.f a0 a1 a2=some r) :
  Calls Tryd.prog 39 #[.int .i64 a0,.int .i64 a1,.int .i64 a2] w fun e w'=>e = .returned (.bool r)∧Drawn0 w w':=by
 have H:(if a0≥a1 then (some (decide (a0≤a2))) else (some false))=some r:=h
 clear h
 by_cases c4:a0≥a1
 ·rw [if_pos c4] at H
  have c4b0:decide (a1≤a0)=true:=dE c4
  clear c4
  obtain rfl:=sI H
  go_enter Tryd.func39,Tryd.ntmps39
  go_wp2
  go_ret
  exact ⟨z0_,z6_⟩
 ·rw [if_neg c4] at H
  have c4b0:decide (a1≤a0)=false:=dF c4
  clear c4
  obtain rfl:=sI H
  go_enter Tryd.func39,Tryd.ntmps39
  go_wp2
  go_ret
  exact ⟨z0_,z6_⟩


/-! ### Y65: function 38 -/
def Y65.f (a0:Int):Option (Bool):=(Y41.f a0 1 5).bind fun t101=>(some t101)
theorem Y65.calls (a0:Int) (r:Bool) (w:World) (h:Y65.f a0=some r) :
  Calls Tryd.prog 38 #[.int .i64 a0] w fun e w'=>e = .returned (.bool r)∧Drawn0 w w':=by
 have H:((Y41.f a0 1 5).bind fun t101=>(some t101))=some r:=h
 clear h
 replace H:=bS H
 obtain ⟨t101,A20,H⟩:=H
 replace H:(some t101)=some r:=H
 have A2:=aM A20
 clear A20
 obtain rfl:=sI H
 go_enter Tryd.func38,Tryd.ntmps38
 go_wp2_with (first | ((with_reducible refine gc_ 39 ?_);refine gl_ (some 4) Tryd.func39 #[.int .i64 a0,.int .i64 1,.int .i64 5] ?_;(with_reducible refine (Y41.calls a0 1 5 t101 _ A2.out).mono ?_);rintro e w' ⟨rfl,⟨nd,rfl⟩⟩;refine ⟨_,rfl,?_⟩))
 go_ret
 exact ⟨z0_,z6_⟩


/-! ### Y45: function 73 -/
def Y45.l0:Nat→ByteArray→Int→Int→Option (Int)
 | 0,_,_,_=>none
 | k+1,x0,x3,x4=>if x4<(x0.size:Int) then (if 0≤x4 then (Y45.l0 k x0 (Int.tmod (wrap64 ((Go.bits .xor .i64 x3 (wrap64 (bt x0 x4)))*16777619)) 4294967296) (wrap64 (x4+1))) else (none)) else (some x3)
def Y45.f (k:Nat) (a0:ByteArray):Option (Int):=Y45.l0 k a0 2166136261 0
theorem Y45.mono_l:∀ k,(∀ y0 y1 y2,LeO (Y45.l0 k y0 y1 y2) (Y45.l0 (k+1) y0 y1 y2))
 | 0=>by intros <;> exact LeO.none _
 | k+1=>by
  have ih0:=Y45.mono_l k
  ·intros
   unfold Y45.l0
   exact mO
theorem Y45.mono:∀ a0 k,LeO (Y45.f k a0) (Y45.f (k+1) a0):=by
 intro a0 k
 have ih0:=Y45.mono_l k
 unfold Y45.f
 exact mO
theorem Y45.calls (k:Nat) (a0:ByteArray) (r:Int) (w:World) (h:Y45.f k a0=some r) :
  Calls Tryd.prog 73 #[.string a0] w fun e w'=>e = .returned (.int .i64 r)∧Drawn0 w w':=by
 have H:(Y45.l0 k a0 2166136261 0)=some r:=h
 clear h
 have H':=aM H
 clear H
 go_enter Tryd.func73,Tryd.ntmps73
 go_wp2
 go_loopg [3,4] k (fun kq v3 v4 w'=>∃ (x3_1:Int) (x4_1:Int),v3 = .int .i64 x3_1∧v4 = .int .i64 x4_1∧Aside0 (Y45.l0 kq a0 x3_1 x4_1=some r)∧Aside0 (kq≤k)∧Drawn0 w w')
 case atStart=>exact ⟨(2166136261),(0),(z0_),(z0_),H',⟨Nat.le_refl _⟩,z6_⟩
 case round =>
  clear H'
  obtain ⟨x3_1,x4_1,rfl,rfl,HA,HK1,⟨m1,rfl⟩⟩:=hrel
  cases gk with
  | zero=>exact absurd HA.out (by simp [Y45.l0])
  | succ k1 =>
   have H:=HA.out
   clear HA
   simp only [Y45.l0] at H
   by_cases c2:x4_1<(a0.size:Int)
   ·rw [if_pos c2] at H
    have c2b0:decide (x4_1<(a0.size:Int))=true:=dE c2
    clear c2
    by_cases c3:0≤x4_1
    ·rw [if_pos c3] at H
     have c3b0:decide (0≤x4_1)=true:=dE c3
     clear c3
     have H':=aM H
     clear H
     have p4:0≤(x4_1:Int):=dT (z1_)
     have q4:x4_1<(a0.size:Int):=dT (z1_)
     have hx4:=bt_at a0 x4_1
     replace p4:=eq_true p4
     replace q4:=eq_true q4
     go_wp2
     go_roundg k1
     case measure=>have:=HK1.out;omega
     case rel=>exact ⟨(Int.tmod (wrap64 ((Go.bits .xor .i64 x3_1 (wrap64 (bt a0 x4_1)))*16777619)) 4294967296),(wrap64 (x4_1+1)),(z0_),(z0_),H',⟨by have:=HK1.out;omega⟩,z6_⟩
    ·rw [if_neg c3] at H
     exact nO H
   ·rw [if_neg c2] at H
    have c2b0:decide (x4_1<(a0.size:Int))=false:=dF c2
    clear c2
    obtain rfl:=sI H
    go_wp2
    go_ret
    exact ⟨z0_,z6_⟩


/-! ### Y30: function 74 -/
def Y30.l0:Nat→Int→Bool→ByteArray→Option (ByteArray)
 | 0,_,_,_=>none
 | k+1,x0,x3,x4=>if x0=0 then (if x3=true then (if 1+x4.size≤9223372036854775807 then (some ((⟨#[45]⟩:ByteArray) ++ x4)) else (none)) else (some x4)) else (if (Int.tmod x0 10)<0 then ((some (([(wrap64 (48+(wrap64 (-(Int.tmod x0 10))))) % 256]:List Int):List Int)).bind fun y102=>(if (strOfNums y102).size+x4.size≤9223372036854775807 then (Y30.l0 k (wrap64 (Int.tdiv x0 10)) x3 ((strOfNums y102) ++ x4)) else (none))) else ((some (([(wrap64 (48+(Int.tmod x0 10))) % 256]:List Int):List Int)).bind fun y105=>(if (strOfNums y105).size+x4.size≤9223372036854775807 then (Y30.l0 k (wrap64 (Int.tdiv x0 10)) x3 ((strOfNums y105) ++ x4)) else (none))))
def Y30.f (k:Nat) (a0:Int):Option (ByteArray):=if a0=0 then (some (⟨#[48]⟩:ByteArray)) else (Y30.l0 k a0 (decide (a0<0)) (⟨#[]⟩:ByteArray))
theorem Y30.mono_l:∀ k,(∀ y0 y1 y2,LeO (Y30.l0 k y0 y1 y2) (Y30.l0 (k+1) y0 y1 y2))
 | 0=>by intros <;> exact LeO.none _
 | k+1=>by
  have ih0:=Y30.mono_l k
  ·intros
   unfold Y30.l0
   exact mO
theorem Y30.mono:∀ a0 k,LeO (Y30.f k a0) (Y30.f (k+1) a0):=by
 intro a0 k
 have ih0:=Y30.mono_l k
 unfold Y30.f
 exact mO
theorem Y30.calls (k:Nat) (a0:Int) (r:ByteArray) (w:World) (h:Y30.f k a0=some r) :
  Calls Tryd.prog 74 #[.int .i64 a0] w fun e w'=>e = .returned (.string r)∧Below w.heap.size w w':=by
 have HB:=aM (Below.refl w.heap.size w)
 have H:(if a0=0 then (some (⟨#[48]⟩:ByteArray)) else (Y30.l0 k a0 (decide (a0<0)) (⟨#[]⟩:ByteArray)))=some r:=h
 clear h
 by_cases c2:a0=0
 ·rw [if_pos c2] at H
  have c2b0:(a0 == 0)=true:=beq_iff_eq.mpr c2
  have c2b1:(a0 != 0)=false:=bne_eq_false_iff_eq.mpr c2
  clear c2
  obtain rfl:=sI H
  go_enter Tryd.func74,Tryd.ntmps74
  go_wp2
  go_ret
  exact ⟨z9_,z3_ HB.out⟩
 ·rw [if_neg c2] at H
  have c2b0:(a0 == 0)=false:=beq_eq_false_iff_ne.mpr c2
  have c2b1:(a0 != 0)=true:=bne_iff_ne.mpr c2
  have H':=aM H
  clear H
  go_enter Tryd.func74,Tryd.ntmps74
  go_wp2
  go_loopg [0,4] k (fun kq v0 v4 w'=>∃ (x0_1:Int) (x4_1:ByteArray),v0 = .int .i64 x0_1∧v4 = .string x4_1∧Aside0 (Y30.l0 kq x0_1 (decide (a0<0)) x4_1=some r)∧Aside0 (kq≤k)∧Aside0 (Below w.heap.size w w'))
  case atStart=>exact ⟨(a0),((⟨#[]⟩:ByteArray)),(z0_),(z0_),H',⟨Nat.le_refl _⟩,⟨z3_ HB.out⟩⟩
  case round =>
   clear H'
   try clear c2
   try clear c2b0
   try clear c2b1
   try clear p2
   obtain ⟨x0_1,x4_1,rfl,rfl,HA,HK1,HB⟩:=hrel
   cases gk with
   | zero=>exact absurd HA.out (by simp [Y30.l0])
   | succ k1 =>
    have H:=HA.out
    clear HA
    simp only [Y30.l0] at H
    by_cases c3:x0_1=0
    ·rw [if_pos c3] at H
     have c3b0:(x0_1 == 0)=true:=beq_iff_eq.mpr c3
     have c3b1:(x0_1 != 0)=false:=bne_eq_false_iff_eq.mpr c3
     clear c3
     by_cases c4:(decide (a0<0))=true
     ·rw [if_pos c4] at H
      have c4b0:(decide (a0<0))=true:=c4
      have c4q0:(a0<0):=dT c4b0
      have c4q1:=eq_true c4q0
      clear c4
      by_cases c5:1+x4_1.size≤9223372036854775807
      ·rw [if_pos c5] at H
       have c5b0:=eq_true c5
       have c5b1:decide (1+x4_1.size≤9223372036854775807)=true:=dE c5
       try have c5b2:(9223372036854775807<1+x4_1.size)=False:=eq_false (Nat.not_lt.2 c5)
       obtain rfl:=sI H
       go_wp2
       go_ret
       exact ⟨z9_,z3_ HB.out⟩
      ·rw [if_neg c5] at H
       exact nO H
     ·rw [if_neg c4] at H
      have c4b0:(decide (a0<0))=false:=by simpa using c4
      have c4q0:¬ (a0<0):=of_decide_eq_false c4b0
      have c4q1:=eq_false c4q0
      clear c4
      obtain rfl:=sI H
      go_wp2
      go_ret
      exact ⟨z9_,z3_ HB.out⟩
    ·rw [if_neg c3] at H
     have c3b0:(x0_1 == 0)=false:=beq_eq_false_iff_ne.mpr c3
     have c3b1:(x0_1 != 0)=true:=bne_iff_ne.mpr c3
     by_cases c6:(Int.tmod x0_1 10)<0
     ·rw [if_pos c6] at H
      have c6b0:decide ((Int.tmod x0_1 10)<0)=true:=dE c6
      clear c6
      obtain ⟨y102,hy102⟩:∃ y_:List Int,y_=(([(wrap64 (48+(wrap64 (-(Int.tmod x0_1 10))))) % 256]:List Int)):=⟨_,rfl⟩
      replace H:(if (strOfNums y102).size+x4_1.size≤9223372036854775807 then (Y30.l0 k1 (wrap64 (Int.tdiv x0_1 10)) (decide (a0<0)) ((strOfNums y102) ++ x4_1)) else (none))=some r:=by first | (rw [hy102];with_reducible exact H) | (have H2_:=(Option.bind_some _ _).symm.trans H;rw [hy102];with_reducible exact H2_) | (have H2_:=(Option.bind_some _ _).symm.trans H;with_reducible exact H2_) | with_reducible exact H | (rw [hy102];exact H) | exact H
      have Ny102:=aM hy102
      clear hy102
      by_cases c7:(strOfNums y102).size+x4_1.size≤9223372036854775807
      ·rw [if_pos c7] at H
       have c7b0:=eq_true c7
       have c7b1:decide ((strOfNums y102).size+x4_1.size≤9223372036854775807)=true:=dE c7
       try have c7b2:(9223372036854775807<(strOfNums y102).size+x4_1.size)=False:=eq_false (Nat.not_lt.2 c7)
       have H':=aM H
       clear H
       go_wp2_with (first | ((with_reducible refine gd_ 21 ?_);refine Kd.R_lit (Kd.int .u8) _ 5 ?hg (N:=21) ?hd (xs:=([(wrap64 (48+(wrap64 (-(Int.tmod x0_1 10))))) % 256]:List Int)) (inner:=[.int .u8 ((wrap64 (48+(wrap64 (-(Int.tmod x0_1 10))))) % 256)]) (ok:=fun _=>True) (okp:=fun _=>True) ?hr ?hp (fun _ hk=>hk) trivial (Below.refl _ _) (Nat.le_refl _) (by simp) ?_;(case hd=>rfl);(case hg=>rfl);(case hr=>first | (go_simp;done) | (go_simp;rfl));(case hp=>exact (Reps.one (show Kd.M (Kd.int .u8) _ _ _ ((wrap64 (48+(wrap64 (-(Int.tmod x0_1 10))))) % 256) [.int .u8 ((wrap64 (48+(wrap64 (-(Int.tmod x0_1 10))))) % 256)] from rfl) (Reps.none _ _)));intro v103 w8 ho9 hb hg_ hnew_;clear hg_ hnew_;(first | rw [← Ny102.out] at ho9 | (simp only [Int.reduceToNat] at ho9;rw [← Ny102.out] at ho9));have n0_:=aM (Kd.R_lower ho9 (below_size (z3_ HB.out)));have n1_:=aM (below_step (z3_ HB.out) hb);clear HB;have HO104:=n0_;have HB:=n1_;clear n0_ n1_;clear hb ho9;have hcv10:=own_string (P:=Tryd.prog) Tryd.underlying31 Tryd.underlying5 Tryd.underlying9 (Kd.own_of_R HO104.out)))
       go_roundg k1
       case measure=>have:=HK1.out;omega
       case rel=>exact ⟨(wrap64 (Int.tdiv x0_1 10)),((strOfNums y102) ++ x4_1),(z0_),(z0_),H',⟨by have:=HK1.out;omega⟩,⟨z3_ HB.out⟩⟩
      ·rw [if_neg c7] at H
       exact nO H
     ·rw [if_neg c6] at H
      have c6b0:decide ((Int.tmod x0_1 10)<0)=false:=dF c6
      clear c6
      obtain ⟨y105,hy105⟩:∃ y_:List Int,y_=(([(wrap64 (48+(Int.tmod x0_1 10))) % 256]:List Int)):=⟨_,rfl⟩
      replace H:(if (strOfNums y105).size+x4_1.size≤9223372036854775807 then (Y30.l0 k1 (wrap64 (Int.tdiv x0_1 10)) (decide (a0<0)) ((strOfNums y105) ++ x4_1)) else (none))=some r:=by first | (rw [hy105];with_reducible exact H) | (have H2_:=(Option.bind_some _ _).symm.trans H;rw [hy105];with_reducible exact H2_) | (have H2_:=(Option.bind_some _ _).symm.trans H;with_reducible exact H2_) | with_reducible exact H | (rw [hy105];exact H) | exact H
      have Ny105:=aM hy105
      clear hy105
      by_cases c11:(strOfNums y105).size+x4_1.size≤9223372036854775807
      ·rw [if_pos c11] at H
       have c11b0:=eq_true c11
       have c11b1:decide ((strOfNums y105).size+x4_1.size≤9223372036854775807)=true:=dE c11
       try have c11b2:(9223372036854775807<(strOfNums y105).size+x4_1.size)=False:=eq_false (Nat.not_lt.2 c11)
       have H':=aM H
       clear H
       go_wp2_with (first | ((with_reducible refine gd_ 21 ?_);refine Kd.R_lit (Kd.int .u8) _ 5 ?hg (N:=21) ?hd (xs:=([(wrap64 (48+(Int.tmod x0_1 10))) % 256]:List Int)) (inner:=[.int .u8 ((wrap64 (48+(Int.tmod x0_1 10))) % 256)]) (ok:=fun _=>True) (okp:=fun _=>True) ?hr ?hp (fun _ hk=>hk) trivial (Below.refl _ _) (Nat.le_refl _) (by simp) ?_;(case hd=>rfl);(case hg=>rfl);(case hr=>first | (go_simp;done) | (go_simp;rfl));(case hp=>exact (Reps.one (show Kd.M (Kd.int .u8) _ _ _ ((wrap64 (48+(Int.tmod x0_1 10))) % 256) [.int .u8 ((wrap64 (48+(Int.tmod x0_1 10))) % 256)] from rfl) (Reps.none _ _)));intro v106 w12 ho13 hb hg_ hnew_;clear hg_ hnew_;(first | rw [← Ny105.out] at ho13 | (simp only [Int.reduceToNat] at ho13;rw [← Ny105.out] at ho13));have n0_:=aM (Kd.R_lower ho13 (below_size (z3_ HB.out)));have n1_:=aM (below_step (z3_ HB.out) hb);clear HB;have HO107:=n0_;have HB:=n1_;clear n0_ n1_;clear hb ho13;have hcv14:=own_string (P:=Tryd.prog) Tryd.underlying31 Tryd.underlying5 Tryd.underlying9 (Kd.own_of_R HO107.out)))
       go_roundg k1
       case measure=>have:=HK1.out;omega
       case rel=>exact ⟨(wrap64 (Int.tdiv x0_1 10)),((strOfNums y105) ++ x4_1),(z0_),(z0_),H',⟨by have:=HK1.out;omega⟩,⟨z3_ HB.out⟩⟩
      ·rw [if_neg c11] at H
       exact nO H


/-! ### Y9: function 40 -/
mutual
def Y9.l0:Nat→Int→Int→Int→Int→List (S77)→Option (Int × (List (S77)))
 | 0,_,_,_,_,_=>none
 | k+1,x0,x1,x6,x110000,x110001=>if x6≤x0 then (Y9.l1 k x0 x1 x6 1 x110000 x110001) else (some (x110000,x110001))
def Y9.l1:Nat→Int→Int→Int→Int→Int→List (S77)→Option (Int × (List (S77)))
 | 0,_,_,_,_,_,_=>none
 | k+1,x0,x1,x6,x7,x110000,x110001=>if x7≤x1 then ((Y30.f k x6).bind fun t110=>(if t110.size+1≤9223372036854775807 then ((Y30.f k x7).bind fun t111=>(if (t110.size+1)+t111.size≤9223372036854775807 then ((Y45.f k ((t110 ++ (⟨#[45]⟩:ByteArray)) ++ t111)).bind fun t112=>(Y9.l2 k x0 x1 x6 x7 0 x110000 x110001 t112 x6)) else (none))) else (none))) else (Y9.l0 k x0 x1 (wrap64 (x6+1)) x110000 x110001)
def Y9.l2:Nat→Int→Int→Int→Int→Int→Int→List (S77)→Int→Int→Option (Int × (List (S77)))
 | 0,_,_,_,_,_,_,_,_,_=>none
 | k+1,x0,x1,x6,x7,x9,x110000,x110001,x114000,x114001=>if x9<(x110001.length:Int) then (if 0≤x9 then (if ((rd_T77 x110001 x9).f0)<x114000 then (Y9.j3 k x0 x1 x6 x7 x9 true x110000 x110001 x114000 x114001) else (if ((rd_T77 x110001 x9).f0)=x114000 then (Y9.j3 k x0 x1 x6 x7 x9 (decide (((rd_T77 x110001 x9).f1)<x114001)) x110000 x110001 x114000 x114001) else (Y9.j3 k x0 x1 x6 x7 x9 false x110000 x110001 x114000 x114001))) else (none)) else (Y9.j3 k x0 x1 x6 x7 x9 false x110000 x110001 x114000 x114001)
def Y9.j3:Nat→Int→Int→Int→Int→Int→Bool→Int→List (S77)→Int→Int→Option (Int × (List (S77)))
 | 0,_,_,_,_,_,_,_,_,_,_=>none
 | k+1,x0,x1,x6,x7,x9,x69,x110000,x110001,x114000,x114001=>if x69=true then (Y9.l2 k x0 x1 x6 x7 (wrap64 (x9+1)) x110000 x110001 x114000 x114001) else ((some (([]:List (S77)):List (S77))).bind fun y117=>(if 0≤x9 then (if x9≤(x110001.length:Int) then ((some (x110001.take (x9:Int).toNat:List (S77))).bind fun y120=>(if y117.length+y120.length<8796093022208 then ((some (y117 ++ y120:List (S77))).bind fun y124=>(if y124.length<8796093022208 then ((some (y124 ++ [(⟨x114000,x114001⟩:S77)]:List (S77))).bind fun y127=>((some (x110001.drop (x9:Int).toNat:List (S77))).bind fun y130=>(if y127.length+y130.length<8796093022208 then (Y9.l1 k x0 x1 x6 (wrap64 (x7+1)) x110000 (y127 ++ y130)) else (none)))) else (none))) else (none))) else (none)) else (none)))
end
def Y9.f (k:Nat) (a0:Int) (a1:Int):Option (Int × (List (S77))):=Y9.l0 k a0 a1 1 a0 ([]:List (S77))
theorem Y9.mono_l:∀ k,(∀ y0 y1 y2 y3 y4,LeO (Y9.l0 k y0 y1 y2 y3 y4) (Y9.l0 (k+1) y0 y1 y2 y3 y4))∧(∀ y0 y1 y2 y3 y4 y5,LeO (Y9.l1 k y0 y1 y2 y3 y4 y5) (Y9.l1 (k+1) y0 y1 y2 y3 y4 y5))∧(∀ y0 y1 y2 y3 y4 y5 y6 y7 y8,LeO (Y9.l2 k y0 y1 y2 y3 y4 y5 y6 y7 y8) (Y9.l2 (k+1) y0 y1 y2 y3 y4 y5 y6 y7 y8))∧(∀ y0 y1 y2 y3 y4 y5 y6 y7 y8 y9,LeO (Y9.j3 k y0 y1 y2 y3 y4 y5 y6 y7 y8 y9) (Y9.j3 (k+1) y0 y1 y2 y3 y4 y5 y6 y7 y8 y9))
 | 0=>by refine ⟨?_,?_,?_,?_⟩ <;> intros <;> exact LeO.none _
 | k+1=>by
  obtain ⟨ih0,ih1,ih2,ih3⟩:=Y9.mono_l k
  have m0:=@Y30.mono
  have m1:=@Y45.mono
  refine ⟨?_,?_,?_,?_⟩
  ·intros
   unfold Y9.l0
   exact mO
  ·intros
   unfold Y9.l1
   exact mO
  ·intros
   unfold Y9.l2
   exact mO
  ·intros
   unfold Y9.j3
   exact mO
theorem Y9.mono:∀ a0 a1 k,LeO (Y9.f k a0 a1) (Y9.f (k+1) a0 a1):=by
 intro a0 a1 k
 have m0:=@Y30.mono
 have m1:=@Y45.mono
 obtain ⟨ih0,ih1,ih2,ih3⟩:=Y9.mono_l k
 unfold Y9.f
 exact mO
theorem Y9.calls (k:Nat) (a0:Int) (a1:Int) (r1:Int) (r2:List (S77)) (w:World) (h:Y9.f k a0 a1=some (r1,r2)) :
  Calls Tryd.prog 40 #[.int .i64 a0,.int .i64 a1] w fun e w'=>∃ v1_:Value,e = .returned (.agg #[.int .i64 r1,v1_])∧Kd.R k77 77 w' w.heap.size (fun _=>True) v1_ r2∧Below w.heap.size w w':=by
 have hu24:=Tryd.underlying24
 have hu77:=Tryd.underlying77
 have HB:=aM (Below.refl w.heap.size w)
 have H:(Y9.l0 k a0 a1 1 a0 ([]:List (S77)))=some (r1,r2):=h
 clear h
 have H':=aM H
 clear H
 go_enter Tryd.func40,Tryd.ntmps40
 go_wp2_with (first | ((with_reducible refine gd_ 4 ?_);refine be_ 4 #[.int .i64 0,.slice none 0 0] 24 ?_;intro gb108 hg w3 hbox hb;have n0_:=aM (below_step (z3_ HB.out) hb);have n1_:=aM (hbox);have n2_:=aM ((z10_ HB.out:w.heap.size≤gb108));have n3_:=aM ((z10_ HB.out:w.heap.size≤gb108));clear HB;have HB:=n0_;have BK108:=n1_;have GW108:=n2_;have GE108:=n3_;clear n0_ n1_ n2_ n3_;clear hb hbox hg) | ((with_reducible refine gd_ 5 ?_);refine be_ 5 #[.int .i64 0,.slice none 0 0] 24 ?_;intro gb109 hg w4 hbox hb;have n0_:=aM (blkB_ BK108.out hb);have n1_:=aM (below_step (z8_ HB.out GE108.out) hb);have n2_:=aM (hbox);have n3_:=aM ((z13_ HB.out GE108.out:w.heap.size≤gb109));have n4_:=aM ((z13_ HB.out GE108.out:w.heap.size≤gb109));have n5_:=aM (neL_ BK108.out hg);have n6_:=aM (neG_ BK108.out hg);clear BK108;clear HB;have BK108:=n0_;have HB:=n1_;have BK109:=n2_;have GW109:=n3_;have GE109:=n4_;have NB108_109:=n5_;have NB109_108:=n6_;clear n0_ n1_ n2_ n3_ n4_ n5_ n6_;clear hb hbox hg;have hnb5:=NB109_108.out;have hnc5:=NB108_109.out;have ⟨hcz6_0,hcz6_1,hfz6_0,hfz6_1⟩:=cz2_ BK109.out))
 repeat (go_quiet (first | ((with_reducible refine gd_ 4 ?_);refine be_ 4 #[.int .i64 0,.slice none 0 0] 24 ?_;intro gb108 hg w3 hbox hb;have n0_:=aM (below_step (z3_ HB.out) hb);have n1_:=aM (hbox);have n2_:=aM ((z10_ HB.out:w.heap.size≤gb108));have n3_:=aM ((z10_ HB.out:w.heap.size≤gb108));clear HB;have HB:=n0_;have BK108:=n1_;have GW108:=n2_;have GE108:=n3_;clear n0_ n1_ n2_ n3_;clear hb hbox hg) | ((with_reducible refine gd_ 5 ?_);refine be_ 5 #[.int .i64 0,.slice none 0 0] 24 ?_;intro gb109 hg w4 hbox hb;have n0_:=aM (blkB_ BK108.out hb);have n1_:=aM (below_step (z8_ HB.out GE108.out) hb);have n2_:=aM (hbox);have n3_:=aM ((z13_ HB.out GE108.out:w.heap.size≤gb109));have n4_:=aM ((z13_ HB.out GE108.out:w.heap.size≤gb109));have n5_:=aM (neL_ BK108.out hg);have n6_:=aM (neG_ BK108.out hg);clear BK108;clear HB;have BK108:=n0_;have HB:=n1_;have BK109:=n2_;have GW109:=n3_;have GE109:=n4_;have NB108_109:=n5_;have NB109_108:=n6_;clear n0_ n1_ n2_ n3_ n4_ n5_ n6_;clear hb hbox hg;have hnb5:=NB109_108.out;have hnc5:=NB108_109.out;have ⟨hcz6_0,hcz6_1,hfz6_0,hfz6_1⟩:=cz2_ BK109.out));try go_wp2_with (first | ((with_reducible refine gd_ 4 ?_);refine be_ 4 #[.int .i64 0,.slice none 0 0] 24 ?_;intro gb108 hg w3 hbox hb;have n0_:=aM (below_step (z3_ HB.out) hb);have n1_:=aM (hbox);have n2_:=aM ((z10_ HB.out:w.heap.size≤gb108));have n3_:=aM ((z10_ HB.out:w.heap.size≤gb108));clear HB;have HB:=n0_;have BK108:=n1_;have GW108:=n2_;have GE108:=n3_;clear n0_ n1_ n2_ n3_;clear hb hbox hg) | ((with_reducible refine gd_ 5 ?_);refine be_ 5 #[.int .i64 0,.slice none 0 0] 24 ?_;intro gb109 hg w4 hbox hb;have n0_:=aM (blkB_ BK108.out hb);have n1_:=aM (below_step (z8_ HB.out GE108.out) hb);have n2_:=aM (hbox);have n3_:=aM ((z13_ HB.out GE108.out:w.heap.size≤gb109));have n4_:=aM ((z13_ HB.out GE108.out:w.heap.size≤gb109));have n5_:=aM (neL_ BK108.out hg);have n6_:=aM (neG_ BK108.out hg);clear BK108;clear HB;have BK108:=n0_;have HB:=n1_;have BK109:=n2_;have GW109:=n3_;have GE109:=n4_;have NB108_109:=n5_;have NB109_108:=n6_;clear n0_ n1_ n2_ n3_ n4_ n5_ n6_;clear hb hbox hg;have hnb5:=NB109_108.out;have hnc5:=NB108_109.out;have ⟨hcz6_0,hcz6_1,hfz6_0,hfz6_1⟩:=cz2_ BK109.out)))
 go_loopg [6] k (fun kq v6 w'=>∃ (x6_1:Int) (x110001_1:List (S77)) (u110001:Value),v6 = .int .i64 x6_1∧Aside0 (Y9.l0 kq a0 a1 x6_1 a0 x110001_1=some (r1,r2))∧Aside0 (kq≤k)∧Aside0 (Kd.R k77 77 w' w.heap.size (fun _=>True) u110001 x110001_1)∧Aside0 (w'.heap[gb108]? = some (.cells #[.int .i64 0,(.slice none 0 0)] 24 (0,0)))∧Aside0 (w'.heap[gb109]? = some (.cells #[.int .i64 a0,u110001] 24 (0,0)))∧Aside0 (Below w.heap.size w w'))
 case atStart=>exact ⟨(1),(([]:List (S77))),(.slice none 0 0),(z0_),H',⟨Nat.le_refl _⟩,⟨z16_⟩,⟨z31_ NB108_109.out BK108.out⟩,⟨z30_ BK109.out⟩,⟨z7_ HB.out GE108.out GE109.out⟩⟩
 case round =>
  clear H'
  try clear p2
  try clear c4
  try clear c5
  try clear hcz6_0
  try clear hcz6_1
  try clear hfz6_0
  try clear hfz6_1
  obtain ⟨x6_1,x110001_1,u110001,rfl,HA,HK1,HO_110001,BK108,BK109,HB⟩:=hrel
  cases gk with
  | zero=>exact absurd HA.out (by simp [Y9.l0])
  | succ k1 =>
   have H:=HA.out
   clear HA
   simp only [Y9.l0] at H
   by_cases c7:x6_1≤a0
   ·rw [if_pos c7] at H
    have c7b0:decide (x6_1≤a0)=true:=dE c7
    clear c7
    have H':=aM H
    clear H
    go_wp2
    repeat (go_quiet (fail);try go_wp2)
    go_loopg [7] k1 (fun kq v7 w'=>∃ (x7_2:Int) (x110001_2:List (S77)) (u110001:Value),v7 = .int .i64 x7_2∧Aside0 (Y9.l1 kq a0 a1 x6_1 x7_2 a0 x110001_2=some (r1,r2))∧Aside0 (kq≤k1)∧Aside0 (Kd.R k77 77 w' w.heap.size (fun _=>True) u110001 x110001_2)∧Aside0 (w'.heap[gb108]? = some (.cells #[.int .i64 0,(.slice none 0 0)] 24 (0,0)))∧Aside0 (w'.heap[gb109]? = some (.cells #[.int .i64 a0,u110001] 24 (0,0)))∧Aside0 (Below w.heap.size w w'))
    case atStart=>exact ⟨(1),(x110001_1),(u110001),(z0_),H',⟨Nat.le_refl _⟩,⟨z2_ HO_110001.out⟩,⟨z4_ BK108.out⟩,⟨z4_ BK109.out⟩,⟨z7_ HB.out GE108.out GE109.out⟩⟩
    case round =>
     clear H'
     try clear p2
     try clear c4
     try clear c5
     try clear c7
     try clear c7b0
     try clear hcz6_0
     try clear hcz6_1
     try clear hfz6_0
     try clear hfz6_1
     try clear p2
     obtain ⟨x7_2,x110001_2,u110001,rfl,HA,HK2,HO_110001,BK108,BK109,HB⟩:=hrel
     cases gk with
     | zero=>exact absurd HA.out (by simp [Y9.l1])
     | succ k2 =>
      have H:=HA.out
      clear HA
      simp only [Y9.l1] at H
      by_cases c8:x7_2≤a1
      ·rw [if_pos c8] at H
       have c8b0:decide (x7_2≤a1)=true:=dE c8
       clear c8
       replace H:=bS H
       obtain ⟨t110,A90,H⟩:=H
       replace H:(if t110.size+1≤9223372036854775807 then ((Y30.f k2 x7_2).bind fun t111=>(if (t110.size+1)+t111.size≤9223372036854775807 then ((Y45.f k2 ((t110 ++ (⟨#[45]⟩:ByteArray)) ++ t111)).bind fun t112=>(Y9.l2 k2 a0 a1 x6_1 x7_2 0 a0 x110001_2 t112 x6_1)) else (none))) else (none))=some (r1,r2):=H
       have A9:=aM A90
       clear A90
       by_cases c10:t110.size+1≤9223372036854775807
       ·rw [if_pos c10] at H
        have c10b0:=eq_true c10
        have c10b1:decide (t110.size+1≤9223372036854775807)=true:=dE c10
        try have c10b2:(9223372036854775807<t110.size+1)=False:=eq_false (Nat.not_lt.2 c10)
        replace H:=bS H
        obtain ⟨t111,A110,H⟩:=H
        replace H:(if (t110.size+1)+t111.size≤9223372036854775807 then ((Y45.f k2 ((t110 ++ (⟨#[45]⟩:ByteArray)) ++ t111)).bind fun t112=>(Y9.l2 k2 a0 a1 x6_1 x7_2 0 a0 x110001_2 t112 x6_1)) else (none))=some (r1,r2):=H
        have A11:=aM A110
        clear A110
        by_cases c12:(t110.size+1)+t111.size≤9223372036854775807
        ·rw [if_pos c12] at H
         have c12b0:=eq_true c12
         have c12b1:decide ((t110.size+1)+t111.size≤9223372036854775807)=true:=dE c12
         try have c12b2:(9223372036854775807<(t110.size+1)+t111.size)=False:=eq_false (Nat.not_lt.2 c12)
         replace H:=bS H
         obtain ⟨t112,A130,H⟩:=H
         replace H:(Y9.l2 k2 a0 a1 x6_1 x7_2 0 a0 x110001_2 t112 x6_1)=some (r1,r2):=H
         have A13:=aM A130
         clear A130
         have H':=aM H
         clear H
         go_wp2_with (first | (go_at_call 74;(with_reducible refine (Y30.calls k2 x6_1 t110 _ A9.out).mono ?_);rintro e w14 ⟨rfl,hb⟩;have n0_:=aM (Kd.R_below (z2_ HO_110001.out) hb);have n1_:=aM (blkB_ BK108.out hb);have n2_:=aM (blkB_ BK109.out hb);have n3_:=aM (below_step (z7_ HB.out GE108.out GE109.out) hb);clear HO_110001;clear BK108;clear BK109;clear HB;have HO_110001:=n0_;have BK108:=n1_;have BK109:=n2_;have HB:=n3_;clear n0_ n1_ n2_ n3_;(try clear hb)) | (go_at_call 74;(with_reducible refine (Y30.calls k2 x7_2 t111 _ A11.out).mono ?_);rintro e w15 ⟨rfl,hb⟩;have n0_:=aM (Kd.R_below (z2_ HO_110001.out) hb);have n1_:=aM (blkB_ BK108.out hb);have n2_:=aM (blkB_ BK109.out hb);have n3_:=aM (below_step (z7_ HB.out GE108.out GE109.out) hb);clear HO_110001;clear BK108;clear BK109;clear HB;have HO_110001:=n0_;have BK108:=n1_;have BK109:=n2_;have HB:=n3_;clear n0_ n1_ n2_ n3_;(try clear hb)) | (go_at_call 73;(with_reducible refine (Y45.calls k2 ((t110 ++ (⟨#[45]⟩:ByteArray)) ++ t111) t112 _ A13.out).mono ?_);rintro e w' ⟨rfl,⟨nd,rfl⟩⟩;(try first | exact ⟨rfl,_,World.drewN_drewN _ _ _⟩ | exact ⟨rfl,_,Eq.trans (World.drewN_drewN _ _ _) (congrArg (World.drewN _) (Nat.add_assoc _ _ _))⟩)) | ((with_reducible refine gd_ 8 ?_);refine be_ 8 #[.int .i64 0,.int .i64 0] 77 ?_;intro gb113 hg w16 hbox hb;have n0_:=aM (Kd.R_below (Kd.R_elderB (z2_ HO_110001.out) gb113 (Nat.le_of_eq hg.symm)) hb);have n1_:=aM (blkB_ BK108.out hb);have n2_:=aM (blkB_ BK109.out hb);have n3_:=aM (below_step (z7_ HB.out GE108.out GE109.out) hb);have n4_:=aM (hbox);have n5_:=aM ((z22_ HB.out GE108.out GE109.out:w.heap.size≤gb113));have n6_:=aM ((z22_ HB.out GE108.out GE109.out:w.heap.size≤gb113));have n7_:=aM (neL_ BK108.out hg);have n8_:=aM (neG_ BK108.out hg);have n9_:=aM (neL_ BK109.out hg);have n10_:=aM (neG_ BK109.out hg);clear HO_110001;clear BK108;clear BK109;clear HB;have HO_110001:=n0_;have BK108:=n1_;have BK109:=n2_;have HB:=n3_;have BK113:=n4_;have GW113:=n5_;have GE113:=n6_;have NB108_113:=n7_;have NB113_108:=n8_;have NB109_113:=n9_;have NB113_109:=n10_;clear n0_ n1_ n2_ n3_ n4_ n5_ n6_ n7_ n8_ n9_ n10_;clear hb hbox hg;have hnb17:=NB113_108.out;have hnc17:=NB108_113.out;have hnb18:=NB113_109.out;have hnc18:=NB109_113.out;have ⟨hcz19_0,hcz19_1,hfz19_0,hfz19_1⟩:=cz2_ BK113.out))
         repeat (go_quiet (first | (go_at_call 74;(with_reducible refine (Y30.calls k2 x6_1 t110 _ A9.out).mono ?_);rintro e w14 ⟨rfl,hb⟩;have n0_:=aM (Kd.R_below (z2_ HO_110001.out) hb);have n1_:=aM (blkB_ BK108.out hb);have n2_:=aM (blkB_ BK109.out hb);have n3_:=aM (below_step (z7_ HB.out GE108.out GE109.out) hb);clear HO_110001;clear BK108;clear BK109;clear HB;have HO_110001:=n0_;have BK108:=n1_;have BK109:=n2_;have HB:=n3_;clear n0_ n1_ n2_ n3_;(try clear hb)) | (go_at_call 74;(with_reducible refine (Y30.calls k2 x7_2 t111 _ A11.out).mono ?_);rintro e w15 ⟨rfl,hb⟩;have n0_:=aM (Kd.R_below (z2_ HO_110001.out) hb);have n1_:=aM (blkB_ BK108.out hb);have n2_:=aM (blkB_ BK109.out hb);have n3_:=aM (below_step (z7_ HB.out GE108.out GE109.out) hb);clear HO_110001;clear BK108;clear BK109;clear HB;have HO_110001:=n0_;have BK108:=n1_;have BK109:=n2_;have HB:=n3_;clear n0_ n1_ n2_ n3_;(try clear hb)) | (go_at_call 73;(with_reducible refine (Y45.calls k2 ((t110 ++ (⟨#[45]⟩:ByteArray)) ++ t111) t112 _ A13.out).mono ?_);rintro e w' ⟨rfl,⟨nd,rfl⟩⟩;(try first | exact ⟨rfl,_,World.drewN_drewN _ _ _⟩ | exact ⟨rfl,_,Eq.trans (World.drewN_drewN _ _ _) (congrArg (World.drewN _) (Nat.add_assoc _ _ _))⟩)) | ((with_reducible refine gd_ 8 ?_);refine be_ 8 #[.int .i64 0,.int .i64 0] 77 ?_;intro gb113 hg w16 hbox hb;have n0_:=aM (Kd.R_below (Kd.R_elderB (z2_ HO_110001.out) gb113 (Nat.le_of_eq hg.symm)) hb);have n1_:=aM (blkB_ BK108.out hb);have n2_:=aM (blkB_ BK109.out hb);have n3_:=aM (below_step (z7_ HB.out GE108.out GE109.out) hb);have n4_:=aM (hbox);have n5_:=aM ((z22_ HB.out GE108.out GE109.out:w.heap.size≤gb113));have n6_:=aM ((z22_ HB.out GE108.out GE109.out:w.heap.size≤gb113));have n7_:=aM (neL_ BK108.out hg);have n8_:=aM (neG_ BK108.out hg);have n9_:=aM (neL_ BK109.out hg);have n10_:=aM (neG_ BK109.out hg);clear HO_110001;clear BK108;clear BK109;clear HB;have HO_110001:=n0_;have BK108:=n1_;have BK109:=n2_;have HB:=n3_;have BK113:=n4_;have GW113:=n5_;have GE113:=n6_;have NB108_113:=n7_;have NB113_108:=n8_;have NB109_113:=n9_;have NB113_109:=n10_;clear n0_ n1_ n2_ n3_ n4_ n5_ n6_ n7_ n8_ n9_ n10_;clear hb hbox hg;have hnb17:=NB113_108.out;have hnc17:=NB108_113.out;have hnb18:=NB113_109.out;have hnc18:=NB109_113.out;have ⟨hcz19_0,hcz19_1,hfz19_0,hfz19_1⟩:=cz2_ BK113.out));try go_wp2_with (first | (go_at_call 74;(with_reducible refine (Y30.calls k2 x6_1 t110 _ A9.out).mono ?_);rintro e w14 ⟨rfl,hb⟩;have n0_:=aM (Kd.R_below (z2_ HO_110001.out) hb);have n1_:=aM (blkB_ BK108.out hb);have n2_:=aM (blkB_ BK109.out hb);have n3_:=aM (below_step (z7_ HB.out GE108.out GE109.out) hb);clear HO_110001;clear BK108;clear BK109;clear HB;have HO_110001:=n0_;have BK108:=n1_;have BK109:=n2_;have HB:=n3_;clear n0_ n1_ n2_ n3_;(try clear hb)) | (go_at_call 74;(with_reducible refine (Y30.calls k2 x7_2 t111 _ A11.out).mono ?_);rintro e w15 ⟨rfl,hb⟩;have n0_:=aM (Kd.R_below (z2_ HO_110001.out) hb);have n1_:=aM (blkB_ BK108.out hb);have n2_:=aM (blkB_ BK109.out hb);have n3_:=aM (below_step (z7_ HB.out GE108.out GE109.out) hb);clear HO_110001;clear BK108;clear BK109;clear HB;have HO_110001:=n0_;have BK108:=n1_;have BK109:=n2_;have HB:=n3_;clear n0_ n1_ n2_ n3_;(try clear hb)) | (go_at_call 73;(with_reducible refine (Y45.calls k2 ((t110 ++ (⟨#[45]⟩:ByteArray)) ++ t111) t112 _ A13.out).mono ?_);rintro e w' ⟨rfl,⟨nd,rfl⟩⟩;(try first | exact ⟨rfl,_,World.drewN_drewN _ _ _⟩ | exact ⟨rfl,_,Eq.trans (World.drewN_drewN _ _ _) (congrArg (World.drewN _) (Nat.add_assoc _ _ _))⟩)) | ((with_reducible refine gd_ 8 ?_);refine be_ 8 #[.int .i64 0,.int .i64 0] 77 ?_;intro gb113 hg w16 hbox hb;have n0_:=aM (Kd.R_below (Kd.R_elderB (z2_ HO_110001.out) gb113 (Nat.le_of_eq hg.symm)) hb);have n1_:=aM (blkB_ BK108.out hb);have n2_:=aM (blkB_ BK109.out hb);have n3_:=aM (below_step (z7_ HB.out GE108.out GE109.out) hb);have n4_:=aM (hbox);have n5_:=aM ((z22_ HB.out GE108.out GE109.out:w.heap.size≤gb113));have n6_:=aM ((z22_ HB.out GE108.out GE109.out:w.heap.size≤gb113));have n7_:=aM (neL_ BK108.out hg);have n8_:=aM (neG_ BK108.out hg);have n9_:=aM (neL_ BK109.out hg);have n10_:=aM (neG_ BK109.out hg);clear HO_110001;clear BK108;clear BK109;clear HB;have HO_110001:=n0_;have BK108:=n1_;have BK109:=n2_;have HB:=n3_;have BK113:=n4_;have GW113:=n5_;have GE113:=n6_;have NB108_113:=n7_;have NB113_108:=n8_;have NB109_113:=n9_;have NB113_109:=n10_;clear n0_ n1_ n2_ n3_ n4_ n5_ n6_ n7_ n8_ n9_ n10_;clear hb hbox hg;have hnb17:=NB113_108.out;have hnc17:=NB108_113.out;have hnb18:=NB113_109.out;have hnc18:=NB109_113.out;have ⟨hcz19_0,hcz19_1,hfz19_0,hfz19_1⟩:=cz2_ BK113.out)))
         go_loopg [9] k2 (fun kq v9 w'=>∃ (x9_3:Int),v9 = .int .i64 x9_3∧Aside0 (Y9.l2 kq a0 a1 x6_1 x7_2 x9_3 a0 x110001_2 t112 x6_1=some (r1,r2))∧Aside0 (kq≤k2)∧Aside0 (Kd.R k77 77 w' w.heap.size (fun k_=>k_≠gb113) u110001 x110001_2)∧Aside0 (w'.heap[gb108]? = some (.cells #[.int .i64 0,(.slice none 0 0)] 24 (0,0)))∧Aside0 (w'.heap[gb109]? = some (.cells #[.int .i64 a0,u110001] 24 (0,0)))∧Aside0 (w'.heap[gb113]? = some (.cells #[.int .i64 t112,.int .i64 x6_1] 77 (0,0)))∧Aside0 (Below w.heap.size w w'))
         case atStart=>exact ⟨(0),(z0_),H',⟨Nat.le_refl _⟩,⟨by (with_reducible repeat (first | apply Kd.R_alloc | apply Kd.R_drewN | apply Kd.R_drew));exact Kd.R_mono (rf2_ (Kd.R_mono HO_110001.out (fun k_ hk=>(⟨hk,hk.2⟩:_∧k_≠gb113))) (fun _ hk=>hk.2)) (fun _ hk=>hk.1.2)⟩,⟨z31_ NB108_113.out BK108.out⟩,⟨z31_ NB109_113.out BK109.out⟩,⟨z30_ BK113.out⟩,⟨z11_ HB.out GE108.out GE109.out GE113.out⟩⟩
         case round =>
          clear H'
          try clear c1
          try clear p2
          try clear c4
          try clear c5
          try clear c7
          try clear c7b0
          try clear c8
          try clear c8b0
          try clear c10
          try clear c10b0
          try clear c10b1
          try clear c10b2
          try clear c12
          try clear c12b0
          try clear c12b1
          try clear c12b2
          try clear c17
          try clear c18
          try clear hcz19_0
          try clear hcz19_1
          try clear hcz6_0
          try clear hcz6_1
          try clear hfz19_0
          try clear hfz19_1
          try clear hfz6_0
          try clear hfz6_1
          try clear p2
          obtain ⟨x9_3,rfl,HA,HK3,HO_110001,BK108,BK109,BK113,HB⟩:=hrel
          cases gk with
          | zero=>exact absurd HA.out (by simp [Y9.l2])
          | succ k3 =>
           have H:=HA.out
           clear HA
           simp only [Y9.l2] at H
           have HC20:=aM H
           clear H
           go_upto_region 10 with (fail)
           repeat (go_quiet (fail);go_upto_region 10 with (fail))
           go_cut [69] (fun v69 wc=>∃ (kq:Nat) (x69_19:Bool),v69 = .bool x69_19∧Aside0 (Y9.j3 kq a0 a1 x6_1 x7_2 x9_3 x69_19 a0 x110001_2 t112 x6_1=some (r1,r2))∧Aside0 (kq≤k3)∧Aside0 (Kd.R k77 77 wc w.heap.size (fun k_=>k_≠gb113) u110001 x110001_2)∧Aside0 (wc.heap[gb108]? = some (.cells #[.int .i64 0,(.slice none 0 0)] 24 (0,0)))∧Aside0 (wc.heap[gb109]? = some (.cells #[.int .i64 a0,u110001] 24 (0,0)))∧Aside0 (wc.heap[gb113]? = some (.cells #[.int .i64 t112,.int .i64 x6_1] 77 (0,0)))∧Aside0 (Below w.heap.size w wc))
           case first =>
            have H:=HC20.out
            clear HC20
            by_cases c21:x9_3<(x110001_2.length:Int)
            ·rw [if_pos c21] at H
             have c21b0:decide (x9_3<(x110001_2.length:Int))=true:=dE c21
             clear c21
             (first | rw [c21b0] | (simp only [i64_w,i32_w];rw [c21b0]) | skip)
             by_cases c22:0≤x9_3
             ·rw [if_pos c22] at H
              have c22b0:decide (0≤x9_3)=true:=dE c22
              clear c22
              by_cases c23:((rd_T77 x110001_2 x9_3).f0)<t112
              ·rw [if_pos c23] at H
               have c23b0:decide (((rd_T77 x110001_2 x9_3).f0)<t112)=true:=dE c23
               clear c23
               have H':=aM H
               clear H
               have hnb24:=NB109_108.out
               have hnc24:=NB108_109.out
               have hnb25:=NB109_113.out
               have hnc25:=NB113_109.out
               have ⟨hcz26_0,hcz26_1,hfz26_0,hfz26_1⟩:=cz2_ BK109.out
               obtain ⟨Ao27,co27,eo27⟩:=Kd.R_slice HO_110001.out
               subst eo27
               have p114:0≤(x9_3:Int):=dT (z1_)
               have q114:x9_3<(x110001_2.length:Int):=dT (z1_)
               obtain ⟨ad114,e114,hx114_0,hx114_1⟩:=at_T77 (Kd.R_reads' HO_110001.out).2.2 x9_3 p114 q114
               cases e114
               replace p114:=eq_true p114
               replace q114:=eq_true q114
               have hnb28:=NB113_108.out
               have hnc28:=NB108_113.out
               have ⟨hcz29_0,hcz29_1,hfz29_0,hfz29_1⟩:=cz2_ BK113.out
               go_wp2
               repeat (go_quiet (fail);try go_wp2)
               go_meet
               case rel=>exact ⟨_,(true),(z0_),H',⟨z18_ HK1.out HK2.out HK3.out⟩,⟨z2_ HO_110001.out⟩,⟨z4_ BK108.out⟩,⟨z4_ BK109.out⟩,⟨z4_ BK113.out⟩,⟨z11_ HB.out GE108.out GE109.out GE113.out⟩⟩
              ·rw [if_neg c23] at H
               have c23b0:decide (((rd_T77 x110001_2 x9_3).f0)<t112)=false:=dF c23
               clear c23
               by_cases c30:((rd_T77 x110001_2 x9_3).f0)=t112
               ·rw [if_pos c30] at H
                have c30b0:(((rd_T77 x110001_2 x9_3).f0) == t112)=true:=beq_iff_eq.mpr c30
                have c30b1:(((rd_T77 x110001_2 x9_3).f0) != t112)=false:=bne_eq_false_iff_eq.mpr c30
                clear c30
                have H':=aM H
                clear H
                have hnb31:=NB109_108.out
                have hnc31:=NB108_109.out
                have hnb32:=NB109_113.out
                have hnc32:=NB113_109.out
                have ⟨hcz33_0,hcz33_1,hfz33_0,hfz33_1⟩:=cz2_ BK109.out
                obtain ⟨Ao34,co34,eo34⟩:=Kd.R_slice HO_110001.out
                subst eo34
                have p114:0≤(x9_3:Int):=dT (z1_)
                have q114:x9_3<(x110001_2.length:Int):=dT (z1_)
                obtain ⟨ad114,e114,hx114_0,hx114_1⟩:=at_T77 (Kd.R_reads' HO_110001.out).2.2 x9_3 p114 q114
                cases e114
                replace p114:=eq_true p114
                replace q114:=eq_true q114
                have hnb35:=NB113_108.out
                have hnc35:=NB108_113.out
                have ⟨hcz36_0,hcz36_1,hfz36_0,hfz36_1⟩:=cz2_ BK113.out
                have p115:0≤(x9_3:Int):=dT (z1_)
                have q115:x9_3<(x110001_2.length:Int):=dT (z1_)
                obtain ⟨ad115,e115,hx115_0,hx115_1⟩:=at_T77 (Kd.R_reads' HO_110001.out).2.2 x9_3 p115 q115
                obtain rfl:ad114=ad115:=(by injection e115)
                replace p115:=eq_true p115
                replace q115:=eq_true q115
                have p116:0≤(x9_3:Int):=dT (z1_)
                have q116:x9_3<(x110001_2.length:Int):=dT (z1_)
                obtain ⟨ad116,e116,hx116_0,hx116_1⟩:=at_T77 (Kd.R_reads' HO_110001.out).2.2 x9_3 p116 q116
                obtain rfl:ad114=ad116:=(by injection e116)
                replace p116:=eq_true p116
                replace q116:=eq_true q116
                go_wp2
                repeat (go_quiet (fail);try go_wp2)
                go_meet
                case rel=>exact ⟨_,(decide (((rd_T77 x110001_2 x9_3).f1)<x6_1)),(z0_),H',⟨z18_ HK1.out HK2.out HK3.out⟩,⟨z2_ HO_110001.out⟩,⟨z4_ BK108.out⟩,⟨z4_ BK109.out⟩,⟨z4_ BK113.out⟩,⟨z11_ HB.out GE108.out GE109.out GE113.out⟩⟩
               ·rw [if_neg c30] at H
                have c30b0:(((rd_T77 x110001_2 x9_3).f0) == t112)=false:=beq_eq_false_iff_ne.mpr c30
                have c30b1:(((rd_T77 x110001_2 x9_3).f0) != t112)=true:=bne_iff_ne.mpr c30
                have H':=aM H
                clear H
                have hnb37:=NB109_108.out
                have hnc37:=NB108_109.out
                have hnb38:=NB109_113.out
                have hnc38:=NB113_109.out
                have ⟨hcz39_0,hcz39_1,hfz39_0,hfz39_1⟩:=cz2_ BK109.out
                obtain ⟨Ao40,co40,eo40⟩:=Kd.R_slice HO_110001.out
                subst eo40
                have p114:0≤(x9_3:Int):=dT (z1_)
                have q114:x9_3<(x110001_2.length:Int):=dT (z1_)
                obtain ⟨ad114,e114,hx114_0,hx114_1⟩:=at_T77 (Kd.R_reads' HO_110001.out).2.2 x9_3 p114 q114
                cases e114
                replace p114:=eq_true p114
                replace q114:=eq_true q114
                have hnb41:=NB113_108.out
                have hnc41:=NB108_113.out
                have ⟨hcz42_0,hcz42_1,hfz42_0,hfz42_1⟩:=cz2_ BK113.out
                have p115:0≤(x9_3:Int):=dT (z1_)
                have q115:x9_3<(x110001_2.length:Int):=dT (z1_)
                obtain ⟨ad115,e115,hx115_0,hx115_1⟩:=at_T77 (Kd.R_reads' HO_110001.out).2.2 x9_3 p115 q115
                obtain rfl:ad114=ad115:=(by injection e115)
                replace p115:=eq_true p115
                replace q115:=eq_true q115
                go_wp2
                repeat (go_quiet (fail);try go_wp2)
                go_meet
                case rel=>exact ⟨_,(false),(z0_),H',⟨z18_ HK1.out HK2.out HK3.out⟩,⟨z2_ HO_110001.out⟩,⟨z4_ BK108.out⟩,⟨z4_ BK109.out⟩,⟨z4_ BK113.out⟩,⟨z11_ HB.out GE108.out GE109.out GE113.out⟩⟩
             ·rw [if_neg c22] at H
              exact nO H
            ·rw [if_neg c21] at H
             have c21b0:decide (x9_3<(x110001_2.length:Int))=false:=dF c21
             clear c21
             (first | rw [c21b0] | (simp only [i64_w,i32_w];rw [c21b0]) | skip)
             have H':=aM H
             clear H
             have hnb43:=NB109_108.out
             have hnc43:=NB108_109.out
             have hnb44:=NB109_113.out
             have hnc44:=NB113_109.out
             have ⟨hcz45_0,hcz45_1,hfz45_0,hfz45_1⟩:=cz2_ BK109.out
             obtain ⟨Ao46,co46,eo46⟩:=Kd.R_slice HO_110001.out
             subst eo46
             go_wp2
             repeat (go_quiet (fail);try go_wp2)
             go_meet
             case rel=>exact ⟨_,(false),(z0_),H',⟨z18_ HK1.out HK2.out HK3.out⟩,⟨z2_ HO_110001.out⟩,⟨z4_ BK108.out⟩,⟨z4_ BK109.out⟩,⟨z4_ BK113.out⟩,⟨z11_ HB.out GE108.out GE109.out GE113.out⟩⟩
           case rest =>
            clear HC20
            try clear c1
            try clear p1
            try clear q1
            try clear hx1
            try clear c2
            try clear p2
            try clear c3
            try clear c4
            try clear c5
            try clear c7
            try clear c7b0
            try clear c8
            try clear c8b0
            try clear c10
            try clear c10b0
            try clear c10b1
            try clear c10b2
            try clear p11
            try clear q11
            try clear hx11
            try clear c12
            try clear c12b0
            try clear c12b1
            try clear c12b2
            try clear c17
            try clear c18
            try clear c21
            try clear c21b0
            try clear c22
            try clear c22b0
            try clear c23
            try clear c23b0
            try clear c24
            try clear c25
            try clear c28
            try clear c30
            try clear c30b0
            try clear c30b1
            try clear c31
            try clear c32
            try clear c35
            try clear c37
            try clear c38
            try clear c40
            try clear c41
            try clear c43
            try clear c44
            try clear hcz19_0
            try clear hcz19_1
            try clear hcz26_0
            try clear hcz26_1
            try clear hcz29_0
            try clear hcz29_1
            try clear hcz33_0
            try clear hcz33_1
            try clear hcz36_0
            try clear hcz36_1
            try clear hcz39_0
            try clear hcz39_1
            try clear hcz42_0
            try clear hcz42_1
            try clear hcz45_0
            try clear hcz45_1
            try clear hcz6_0
            try clear hcz6_1
            try clear hfz19_0
            try clear hfz19_1
            try clear hfz26_0
            try clear hfz26_1
            try clear hfz29_0
            try clear hfz29_1
            try clear hfz33_0
            try clear hfz33_1
            try clear hfz36_0
            try clear hfz36_1
            try clear hfz39_0
            try clear hfz39_1
            try clear hfz42_0
            try clear hfz42_1
            try clear hfz45_0
            try clear hfz45_1
            try clear hfz6_0
            try clear hfz6_1
            try clear hx114_0
            try clear hx114_1
            try clear hx115_0
            try clear hx115_1
            try clear hx116_0
            try clear hx116_1
            try clear p114
            try clear p115
            try clear p116
            try clear p2
            try clear q114
            try clear q115
            try clear q116
            obtain ⟨kq,x69_19,rfl,HA,HJ19,HO_110001,BK108,BK109,BK113,HB⟩:=hcut
            cases kq with
            | zero=>exact absurd HA.out (by simp [Y9.j3])
            | succ kj19 =>
             have H:=HA.out
             clear HA
             simp only [Y9.j3] at H
             by_cases c47:x69_19=true
             ·subst c47
              have H1:(Y9.l2 kj19 a0 a1 x6_1 x7_2 (wrap64 (x9_3+1)) a0 x110001_2 t112 x6_1)=some (r1,r2):=by rw [if_pos rfl] at H;exact H
              clear H
              have H:=H1
              clear H1
              have H':=aM H
              clear H
              go_wp2
              repeat (go_quiet (fail);try go_wp2)
              go_roundg kj19
              case measure=>have:=HK1.out;have:=HK2.out;have:=HK3.out;have:=HJ19.out;omega
              case rel=>exact ⟨(wrap64 (x9_3+1)),(z0_),H',⟨by have:=HK1.out;have:=HK2.out;have:=HK3.out;have:=HJ19.out;omega⟩,⟨z2_ HO_110001.out⟩,⟨z4_ BK108.out⟩,⟨z4_ BK109.out⟩,⟨z4_ BK113.out⟩,⟨z11_ HB.out GE108.out GE109.out GE113.out⟩⟩
             ·replace c47:=Bool.eq_false_iff.mpr c47
              subst c47
              have H1:((some (([]:List (S77)):List (S77))).bind fun y117=>(if 0≤x9_3 then (if x9_3≤(x110001_2.length:Int) then ((some (x110001_2.take (x9_3:Int).toNat:List (S77))).bind fun y120=>(if y117.length+y120.length<8796093022208 then ((some (y117 ++ y120:List (S77))).bind fun y124=>(if y124.length<8796093022208 then ((some (y124 ++ [(⟨t112,x6_1⟩:S77)]:List (S77))).bind fun y127=>((some (x110001_2.drop (x9_3:Int).toNat:List (S77))).bind fun y130=>(if y127.length+y130.length<8796093022208 then (Y9.l1 kj19 a0 a1 x6_1 (wrap64 (x7_2+1)) a0 (y127 ++ y130)) else (none)))) else (none))) else (none))) else (none)) else (none)))=some (r1,r2):=by rw [if_neg (show ¬ (false=true) by decide)] at H;exact H
              clear H
              have H:=H1
              clear H1
              obtain ⟨y117,hy117⟩:∃ y_:List (S77),y_=(([]:List (S77))):=⟨_,rfl⟩
              replace H:(if 0≤x9_3 then (if x9_3≤(x110001_2.length:Int) then ((some (x110001_2.take (x9_3:Int).toNat:List (S77))).bind fun y120=>(if y117.length+y120.length<8796093022208 then ((some (y117 ++ y120:List (S77))).bind fun y124=>(if y124.length<8796093022208 then ((some (y124 ++ [(⟨t112,x6_1⟩:S77)]:List (S77))).bind fun y127=>((some (x110001_2.drop (x9_3:Int).toNat:List (S77))).bind fun y130=>(if y127.length+y130.length<8796093022208 then (Y9.l1 kj19 a0 a1 x6_1 (wrap64 (x7_2+1)) a0 (y127 ++ y130)) else (none)))) else (none))) else (none))) else (none)) else (none))=some (r1,r2):=by first | (rw [hy117];with_reducible exact H) | (have H2_:=(Option.bind_some _ _).symm.trans H;rw [hy117];with_reducible exact H2_) | (have H2_:=(Option.bind_some _ _).symm.trans H;with_reducible exact H2_) | with_reducible exact H | (rw [hy117];exact H) | exact H
              have Ny117:=aM hy117
              clear hy117
              by_cases c48:0≤x9_3
              ·rw [if_pos c48] at H
               have c48b0:=eq_true c48
               have c48b1:decide (0≤x9_3)=true:=dE c48
               clear c48
               by_cases c49:x9_3≤(x110001_2.length:Int)
               ·rw [if_pos c49] at H
                have c49b0:=eq_true c49
                have c49b1:decide (x9_3≤(x110001_2.length:Int))=true:=dE c49
                clear c49
                obtain ⟨y120,hy120⟩:∃ y_:List (S77),y_=(x110001_2.take (x9_3:Int).toNat):=⟨_,rfl⟩
                replace H:(if y117.length+y120.length<8796093022208 then ((some (y117 ++ y120:List (S77))).bind fun y124=>(if y124.length<8796093022208 then ((some (y124 ++ [(⟨t112,x6_1⟩:S77)]:List (S77))).bind fun y127=>((some (x110001_2.drop (x9_3:Int).toNat:List (S77))).bind fun y130=>(if y127.length+y130.length<8796093022208 then (Y9.l1 kj19 a0 a1 x6_1 (wrap64 (x7_2+1)) a0 (y127 ++ y130)) else (none)))) else (none))) else (none))=some (r1,r2):=by first | (rw [hy120];with_reducible exact H) | (have H2_:=(Option.bind_some _ _).symm.trans H;rw [hy120];with_reducible exact H2_) | (have H2_:=(Option.bind_some _ _).symm.trans H;with_reducible exact H2_) | with_reducible exact H | (rw [hy120];exact H) | exact H
                have Ny120:=aM hy120
                clear hy120
                by_cases c50:y117.length+y120.length<8796093022208
                ·rw [if_pos c50] at H
                 have LMc50:=aM c50
                 clear c50
                 obtain ⟨y124,hy124⟩:∃ y_:List (S77),y_=(y117 ++ y120):=⟨_,rfl⟩
                 replace H:(if y124.length<8796093022208 then ((some (y124 ++ [(⟨t112,x6_1⟩:S77)]:List (S77))).bind fun y127=>((some (x110001_2.drop (x9_3:Int).toNat:List (S77))).bind fun y130=>(if y127.length+y130.length<8796093022208 then (Y9.l1 kj19 a0 a1 x6_1 (wrap64 (x7_2+1)) a0 (y127 ++ y130)) else (none)))) else (none))=some (r1,r2):=by first | (rw [hy124];with_reducible exact H) | (have H2_:=(Option.bind_some _ _).symm.trans H;rw [hy124];with_reducible exact H2_) | (have H2_:=(Option.bind_some _ _).symm.trans H;with_reducible exact H2_) | with_reducible exact H | (rw [hy124];exact H) | exact H
                 have Ny124:=aM hy124
                 clear hy124
                 by_cases c51:y124.length<8796093022208
                 ·rw [if_pos c51] at H
                  have LMc51:=aM c51
                  clear c51
                  obtain ⟨y127,hy127⟩:∃ y_:List (S77),y_=(y124 ++ [(⟨t112,x6_1⟩:S77)]):=⟨_,rfl⟩
                  replace H:((some (x110001_2.drop (x9_3:Int).toNat:List (S77))).bind fun y130=>(if y127.length+y130.length<8796093022208 then (Y9.l1 kj19 a0 a1 x6_1 (wrap64 (x7_2+1)) a0 (y127 ++ y130)) else (none)))=some (r1,r2):=by first | (rw [hy127];with_reducible exact H) | (have H2_:=(Option.bind_some _ _).symm.trans H;rw [hy127];with_reducible exact H2_) | (have H2_:=(Option.bind_some _ _).symm.trans H;with_reducible exact H2_) | with_reducible exact H | (rw [hy127];exact H) | exact H
                  have Ny127:=aM hy127
                  clear hy127
                  have c52b0:=eq_true (dT (z1_):0≤x9_3)
                  have c53b0:=eq_true (dT (z1_):x9_3≤(x110001_2.length:Int))
                  obtain ⟨y130,hy130⟩:∃ y_:List (S77),y_=(x110001_2.drop (x9_3:Int).toNat):=⟨_,rfl⟩
                  replace H:(if y127.length+y130.length<8796093022208 then (Y9.l1 kj19 a0 a1 x6_1 (wrap64 (x7_2+1)) a0 (y127 ++ y130)) else (none))=some (r1,r2):=by first | (rw [hy130];with_reducible exact H) | (have H2_:=(Option.bind_some _ _).symm.trans H;rw [hy130];with_reducible exact H2_) | (have H2_:=(Option.bind_some _ _).symm.trans H;with_reducible exact H2_) | with_reducible exact H | (rw [hy130];exact H) | exact H
                  have Ny130:=aM hy130
                  clear hy130
                  by_cases c54:y127.length+y130.length<8796093022208
                  ·rw [if_pos c54] at H
                   have LMc54:=aM c54
                   clear c54
                   obtain ⟨y134,hy134⟩:∃ y_:List (S77),y_=(y127 ++ y130):=⟨_,rfl⟩
                   replace H:(Y9.l1 kj19 a0 a1 x6_1 (wrap64 (x7_2+1)) a0 y134)=some (r1,r2):=by first | (rw [hy134];with_reducible exact H) | (have H2_:=(Option.bind_some _ _).symm.trans H;rw [hy134];with_reducible exact H2_) | (have H2_:=(Option.bind_some _ _).symm.trans H;with_reducible exact H2_) | with_reducible exact H | (rw [hy134];exact H) | exact H
                   have Ny134:=aM hy134
                   clear hy134
                   have H':=aM H
                   clear H
                   go_wp2_with (first | ((with_reducible refine gd_ 72 ?_);refine Kd.R_lit k77 _ 77 ?hg (N:=72) ?hd (xs:=([]:List (S77))) (inner:=[]) (ok:=fun _=>True) (okp:=fun _=>True) ?hr ?hp (fun _ hk=>hk) trivial (Below.refl _ _) (Nat.le_refl _) (by simp) ?_;(case hd=>rfl);(case hg=>rfl);(case hr=>first | (go_simp;done) | (go_simp;rfl));(case hp=>exact (Reps.none _ _));intro v118 w55 ho56 hb hg_ hnew_;clear hg_ hnew_;(first | rw [← Ny117.out] at ho56 | (simp only [Int.reduceToNat] at ho56;rw [← Ny117.out] at ho56));have n0_:=aM (Kd.R_elder' (z2_ HO_110001.out) (Kd.R_base ho56) hb);have n1_:=aM (Kd.R_lower (Kd.R_newB (Kd.R_new' ho56 (Kd.R_lt (z2_ HO_110001.out))) (g:=gb113) (o:=.cells #[.int .i64 t112,.int .i64 x6_1] 77 (0,0)) (z4_ BK113.out)) (below_size (z11_ HB.out GE108.out GE109.out GE113.out)));have n2_:=aM (blkB_ BK108.out hb);have n3_:=aM (blkB_ BK109.out hb);have n4_:=aM (blkB_ BK113.out hb);have n5_:=aM (below_step (z11_ HB.out GE108.out GE109.out GE113.out) hb);clear HO_110001;clear BK108;clear BK109;clear BK113;clear HB;have HO_110001:=n0_;have HO119:=n1_;have BK108:=n2_;have BK109:=n3_;have BK113:=n4_;have HB:=n5_;clear n0_ n1_ n2_ n3_ n4_ n5_;clear hb ho56;have hnb57:=NB109_108.out;have hnc57:=NB108_109.out;have hnb58:=NB109_113.out;have hnc58:=NB113_109.out;have ⟨hcz59_0,hcz59_1,hfz59_0,hfz59_1⟩:=cz2_ BK109.out;obtain ⟨Ao61,co61,eo61⟩:=Kd.R_slice HO_110001.out;subst eo61;have q60:(x9_3:Int)≤((x110001_2.length:Int):Int):=dT (z1_);obtain ⟨i060,hi060,_,hsz60,_⟩:=info_parts info77;have hroom60:x110001_2.length≤co61:=(Kd.R_reads' HO_110001.out).2.1;have hC60:Kd.C k77 _ Ao61 x110001_2.length x110001_2:=(Kd.R_reads' HO_110001.out).2.2;have hcut60:=cut_to (P:=Tryd.prog) 22 77 .i64 Tryd.underlying22 hi060 Ao61 x110001_2.length co61 x9_3 (dT (z1_)) q60 hroom60;have hr60:=Kd.C_take (m:=(x9_3:Int).toNat) hC60 (by omega);have hy60:y120.length=(x9_3:Int).toNat:=(by rw [Ny120.out,List.length_take];omega);rw [← Ny120.out] at hr60;rw [← hy60] at hcut60;have HR123:=aM hr60;have HC123:=aM (show y120.length≤co61 from by omega);clear hr60 hC60 hroom60 hi060 hsz60;have KY60:=aM hy60;clear hy60;have KL60:=aM (show (x9_3:Int).toNat≤x110001_2.length from by omega);replace q60:=eq_true q60) | ((with_reducible refine gate_builtin (b:=.append) (xs:=#[.tmp 72,.tmp 76]) rfl ?_);at_builtin;refine Kd.R_append_rows k77 (w0:=w) w.heap.size rfl (.tmp 72) (.tmp 76) 22 77 (.agg #[(.int .i64 0),(.int .i64 0)]) 16 rfl Tryd.underlying22 info77 rfl (by decide) (by omega) v118 y117 y120 _ _ _ (fun k_=>some k_≠(.slice Ao61 x110001_2.length co61:Value).ownBlock∧k_≠gb113) (fun _=>False) rfl rfl ?aO ?aR (fun _ _ h=>h) (fun _ h=>h.elim) ?aF ?aB ?aS ?aL ?_;(case aR=>repeat (first | exact (z26_ HR123.out) | (with_reducible refine Kd.C_alloc ?_ _) | (with_reducible refine Kd.C_drewN ?_ _) | (with_reducible refine Kd.C_drew ?_)));(case aB=>exact (z11_ HB.out GE108.out GE109.out GE113.out));(case aF=>exact (fun k_ hk=>⟨Kd.fresh' (Kd.R_lt (z2_ HO_110001.out)) k_ hk,Kd.freshB (g:=gb113) (o:=.cells #[.int .i64 t112,.int .i64 x6_1] 77 (0,0)) (z4_ BK113.out) k_ hk⟩));(case aO=>exact (z35_ HO119.out));(case aS=>exact (below_size (z11_ HB.out GE108.out GE109.out GE113.out)));(case aL=>have:=LMc50.out;omega);intro v125 w62 ho hb hg hat;rw [← Ny124.out] at ho;have n0_:=aM (Kd.R_after (ok:=(fun k_=>k_≠gb113)) (z2_ HO_110001.out) hg hat);have n1_:=aM (blk_grown (g:=gb108) (o:=.cells #[.int .i64 0,.slice none 0 0] 24 (0,0)) (z4_ BK108.out) hg (Kd.R_ne HO119.out BK108.out (by decide)));have n2_:=aM (blk_grown (g:=gb109) (o:=.cells #[.int .i64 a0,.slice Ao61 x110001_2.length co61] 24 (0,0)) (z4_ BK109.out) hg (Kd.R_ne HO119.out BK109.out (by decide)));have n3_:=aM (blk_grown (g:=gb113) (o:=.cells #[.int .i64 t112,.int .i64 x6_1] 77 (0,0)) (z4_ BK113.out) hg (Kd.R_away HO119.out (fun _ hk=>hk.2)));have n4_:=aM (hb);have n5_:=aM ((show Kd.C k77 w62 Ao61 y120.length y120 from by rw [Ny120.out];exact Kd.C_take (m:=(x9_3:Int).toNat) ((Kd.R_reads' (Kd.R_after (ok:=(fun k_=>k_≠gb113)) (z2_ HO_110001.out) hg hat)).2.2) KL60.out));have n6_:=aM (ho);clear HO_110001;clear BK108;clear BK109;clear BK113;clear HB;clear HR123;clear HO119;have HO_110001:=n0_;have BK108:=n1_;have BK109:=n2_;have BK113:=n3_;have HB:=n4_;have HR123:=n5_;have HO126:=n6_;clear n0_ n1_ n2_ n3_ n4_ n5_ n6_;clear ho hb hg hat;have hnb63:=NB113_108.out;have hnc63:=NB108_113.out;have ⟨hcz64_0,hcz64_1,hfz64_0,hfz64_1⟩:=cz2_ BK113.out) | ((with_reducible refine gate_builtin (b:=.append) (xs:=#[.tmp 78,.tmp 80]) rfl ?_);at_builtin;refine Kd.R_append k77 (w0:=w) w.heap.size rfl (.tmp 78) (.tmp 80) 22 77 (.agg #[(.int .i64 0),(.int .i64 0)]) 16 rfl Tryd.underlying22 info77 rfl (by decide) (by omega) v125 y124 (⟨t112,x6_1⟩:S77) [.int .i64 t112,.int .i64 x6_1] (fun k_=>some k_≠(.slice Ao61 x110001_2.length co61:Value).ownBlock∧k_≠gb113) (fun _=>False) rfl rfl ?aP (fun _ hk=>hk.elim) ?aF ?aO ?aB ?aS ?aL ?_;(case aP=>exact k77_mkM _ _ _ (⟨t112,x6_1⟩:S77));(case aB=>exact (z11_ HB.out GE108.out GE109.out GE113.out));(case aF=>exact (fun k_ hk=>⟨Kd.fresh' (Kd.R_lt (z2_ HO_110001.out)) k_ hk,Kd.freshB (g:=gb113) (o:=.cells #[.int .i64 t112,.int .i64 x6_1] 77 (0,0)) (z4_ BK113.out) k_ hk⟩));(case aO=>exact (z2_ HO126.out));(case aS=>exact (below_size (z11_ HB.out GE108.out GE109.out GE113.out)));(case aL=>have:=LMc51.out;omega);intro v128 w65 ho hb hg hat;rw [← Ny127.out] at ho;have n0_:=aM (Kd.R_after (ok:=(fun k_=>k_≠gb113)) (z2_ HO_110001.out) hg hat);have n1_:=aM (blk_grown (g:=gb108) (o:=.cells #[.int .i64 0,.slice none 0 0] 24 (0,0)) (z4_ BK108.out) hg (Kd.R_ne HO126.out BK108.out (by decide)));have n2_:=aM (blk_grown (g:=gb109) (o:=.cells #[.int .i64 a0,.slice Ao61 x110001_2.length co61] 24 (0,0)) (z4_ BK109.out) hg (Kd.R_ne HO126.out BK109.out (by decide)));have n3_:=aM (blk_grown (g:=gb113) (o:=.cells #[.int .i64 t112,.int .i64 x6_1] 77 (0,0)) (z4_ BK113.out) hg (Kd.R_away HO126.out (fun _ hk=>hk.2)));have n4_:=aM (hb);have n5_:=aM ((show Kd.C k77 w65 Ao61 y120.length y120 from by rw [Ny120.out];exact Kd.C_take (m:=(x9_3:Int).toNat) ((Kd.R_reads' (Kd.R_after (ok:=(fun k_=>k_≠gb113)) (z2_ HO_110001.out) hg hat)).2.2) KL60.out));have n6_:=aM (ho);clear HO_110001;clear BK108;clear BK109;clear BK113;clear HB;clear HR123;clear HO126;have HO_110001:=n0_;have BK108:=n1_;have BK109:=n2_;have BK113:=n3_;have HB:=n4_;have HR123:=n5_;have HO129:=n6_;clear n0_ n1_ n2_ n3_ n4_ n5_ n6_;clear ho hb hg hat;have ⟨hcz66_0,hcz66_1,hfz66_0,hfz66_1⟩:=cz2_ BK109.out;have q67:(x9_3:Int)≤((x110001_2.length:Int):Int):=dT (z1_);obtain ⟨i067,hi067,_,hsz67,_⟩:=info_parts info77;have hroom67:x110001_2.length≤co61:=(Kd.R_reads' HO_110001.out).2.1;have hC67:Kd.C k77 _ Ao61 x110001_2.length x110001_2:=(Kd.R_reads' HO_110001.out).2.2;have q067:(0:Int)≤(x9_3:Int):=dT (z1_);have hcut67:=cut_from (P:=Tryd.prog) 22 77 .i64 Tryd.underlying22 hi067 2 hsz67 Ao61 x110001_2.length co61 x9_3 q067 q67;have hr67:=Kd.C_drop (m:=(x9_3:Int).toNat) (c:=co61) hC67 (by omega) hroom67;obtain ⟨A67,hA67⟩:∃ A1,A1=(if co61=(x9_3:Int).toNat then Ao61 else (Ao61:Option Addr).map (·.add ((x9_3:Int).toNat*2))):=⟨_,rfl⟩;obtain ⟨c67,hc67⟩:∃ c1,c1=co61-(x9_3:Int).toNat:=⟨_,rfl⟩;have hy67:y130.length=x110001_2.length-(x9_3:Int).toNat:=(by rw [Ny130.out,List.length_drop] <;> omega);rw [show (x110001_2).drop (x9_3:Int).toNat=y130 from Ny130.out.symm] at hr67;replace hr67:Kd.C k77 _ A67 y130.length y130:=(by rw [hA67];exact hr67);rw [← hy67,← hA67,← hc67] at hcut67;have HR133:=aM hr67;have HC133:=aM (show y130.length≤c67 from by rw [hy67,hc67];exact Nat.sub_le_sub_right hroom67 _);clear hr67 hC67 hroom67 hi067 hsz67 hc67;have KY67:=aM hy67;have KA67:=aM hA67;clear hy67 hA67;have KL67:=aM (show (x9_3:Int).toNat≤x110001_2.length from by omega);replace q67:=eq_true q67) | ((with_reducible refine gate_builtin (b:=.append) (xs:=#[.tmp 82,.tmp 86]) rfl ?_);at_builtin;refine Kd.R_append_rows k77 (w0:=w) w.heap.size rfl (.tmp 82) (.tmp 86) 22 77 (.agg #[(.int .i64 0),(.int .i64 0)]) 16 rfl Tryd.underlying22 info77 rfl (by decide) (by omega) v128 y127 y130 _ _ _ (fun k_=>some k_≠(.slice Ao61 x110001_2.length co61:Value).ownBlock∧k_≠gb113) (fun _=>False) rfl rfl ?aO ?aR (fun _ _ h=>h) (fun _ h=>h.elim) ?aF ?aB ?aS ?aL ?_;(case aR=>repeat (first | exact (z26_ HR133.out) | (with_reducible refine Kd.C_alloc ?_ _) | (with_reducible refine Kd.C_drewN ?_ _) | (with_reducible refine Kd.C_drew ?_)));(case aB=>exact (z11_ HB.out GE108.out GE109.out GE113.out));(case aF=>exact (fun k_ hk=>⟨Kd.fresh' (Kd.R_lt (z2_ HO_110001.out)) k_ hk,Kd.freshB (g:=gb113) (o:=.cells #[.int .i64 t112,.int .i64 x6_1] 77 (0,0)) (z4_ BK113.out) k_ hk⟩));(case aO=>exact (z2_ HO129.out));(case aS=>exact (below_size (z11_ HB.out GE108.out GE109.out GE113.out)));(case aL=>have:=LMc54.out;omega);intro v135 w68 ho hb hg hat;rw [← Ny134.out] at ho;have n0_:=aM (Kd.R_after (ok:=(fun k_=>k_≠gb113)) (z2_ HO_110001.out) hg hat);have n1_:=aM (blk_grown (g:=gb108) (o:=.cells #[.int .i64 0,.slice none 0 0] 24 (0,0)) (z4_ BK108.out) hg (Kd.R_ne HO129.out BK108.out (by decide)));have n2_:=aM (blk_grown (g:=gb109) (o:=.cells #[.int .i64 a0,.slice Ao61 x110001_2.length co61] 24 (0,0)) (z4_ BK109.out) hg (Kd.R_ne HO129.out BK109.out (by decide)));have n3_:=aM (blk_grown (g:=gb113) (o:=.cells #[.int .i64 t112,.int .i64 x6_1] 77 (0,0)) (z4_ BK113.out) hg (Kd.R_away HO129.out (fun _ hk=>hk.2)));have n4_:=aM (hb);have n5_:=aM ((show Kd.C k77 w68 Ao61 y120.length y120 from by rw [Ny120.out];exact Kd.C_take (m:=(x9_3:Int).toNat) ((Kd.R_reads' (Kd.R_after (ok:=(fun k_=>k_≠gb113)) (z2_ HO_110001.out) hg hat)).2.2) KL60.out));have n6_:=aM ((show Kd.C k77 w68 A67 y130.length y130 from by rw [Ny130.out,KA67.out];exact Kd.C_drop (m:=(x9_3:Int).toNat) (c:=co61) ((Kd.R_reads' (Kd.R_after (ok:=(fun k_=>k_≠gb113)) (z2_ HO_110001.out) hg hat)).2.2) KL67.out ((Kd.R_reads' (Kd.R_after (ok:=(fun k_=>k_≠gb113)) (z2_ HO_110001.out) hg hat)).2.1)));have n7_:=aM (ho);clear HO_110001;clear BK108;clear BK109;clear BK113;clear HB;clear HR123;clear HR133;clear HO129;have HO_110001:=n0_;have BK108:=n1_;have BK109:=n2_;have BK113:=n3_;have HB:=n4_;have HR123:=n5_;have HR133:=n6_;have HO136:=n7_;clear n0_ n1_ n2_ n3_ n4_ n5_ n6_ n7_;clear ho hb hg hat;obtain ⟨Ao69,co69,eo69⟩:=Kd.R_slice HO136.out;subst eo69;have ⟨hcz70_0,hcz70_1,hfz70_0,hfz70_1⟩:=cz2_ BK109.out))
                   repeat (go_quiet (first | ((with_reducible refine gd_ 72 ?_);refine Kd.R_lit k77 _ 77 ?hg (N:=72) ?hd (xs:=([]:List (S77))) (inner:=[]) (ok:=fun _=>True) (okp:=fun _=>True) ?hr ?hp (fun _ hk=>hk) trivial (Below.refl _ _) (Nat.le_refl _) (by simp) ?_;(case hd=>rfl);(case hg=>rfl);(case hr=>first | (go_simp;done) | (go_simp;rfl));(case hp=>exact (Reps.none _ _));intro v118 w55 ho56 hb hg_ hnew_;clear hg_ hnew_;(first | rw [← Ny117.out] at ho56 | (simp only [Int.reduceToNat] at ho56;rw [← Ny117.out] at ho56));have n0_:=aM (Kd.R_elder' (z2_ HO_110001.out) (Kd.R_base ho56) hb);have n1_:=aM (Kd.R_lower (Kd.R_newB (Kd.R_new' ho56 (Kd.R_lt (z2_ HO_110001.out))) (g:=gb113) (o:=.cells #[.int .i64 t112,.int .i64 x6_1] 77 (0,0)) (z4_ BK113.out)) (below_size (z11_ HB.out GE108.out GE109.out GE113.out)));have n2_:=aM (blkB_ BK108.out hb);have n3_:=aM (blkB_ BK109.out hb);have n4_:=aM (blkB_ BK113.out hb);have n5_:=aM (below_step (z11_ HB.out GE108.out GE109.out GE113.out) hb);clear HO_110001;clear BK108;clear BK109;clear BK113;clear HB;have HO_110001:=n0_;have HO119:=n1_;have BK108:=n2_;have BK109:=n3_;have BK113:=n4_;have HB:=n5_;clear n0_ n1_ n2_ n3_ n4_ n5_;clear hb ho56;have hnb57:=NB109_108.out;have hnc57:=NB108_109.out;have hnb58:=NB109_113.out;have hnc58:=NB113_109.out;have ⟨hcz59_0,hcz59_1,hfz59_0,hfz59_1⟩:=cz2_ BK109.out;obtain ⟨Ao61,co61,eo61⟩:=Kd.R_slice HO_110001.out;subst eo61;have q60:(x9_3:Int)≤((x110001_2.length:Int):Int):=dT (z1_);obtain ⟨i060,hi060,_,hsz60,_⟩:=info_parts info77;have hroom60:x110001_2.length≤co61:=(Kd.R_reads' HO_110001.out).2.1;have hC60:Kd.C k77 _ Ao61 x110001_2.length x110001_2:=(Kd.R_reads' HO_110001.out).2.2;have hcut60:=cut_to (P:=Tryd.prog) 22 77 .i64 Tryd.underlying22 hi060 Ao61 x110001_2.length co61 x9_3 (dT (z1_)) q60 hroom60;have hr60:=Kd.C_take (m:=(x9_3:Int).toNat) hC60 (by omega);have hy60:y120.length=(x9_3:Int).toNat:=(by rw [Ny120.out,List.length_take];omega);rw [← Ny120.out] at hr60;rw [← hy60] at hcut60;have HR123:=aM hr60;have HC123:=aM (show y120.length≤co61 from by omega);clear hr60 hC60 hroom60 hi060 hsz60;have KY60:=aM hy60;clear hy60;have KL60:=aM (show (x9_3:Int).toNat≤x110001_2.length from by omega);replace q60:=eq_true q60) | ((with_reducible refine gate_builtin (b:=.append) (xs:=#[.tmp 72,.tmp 76]) rfl ?_);at_builtin;refine Kd.R_append_rows k77 (w0:=w) w.heap.size rfl (.tmp 72) (.tmp 76) 22 77 (.agg #[(.int .i64 0),(.int .i64 0)]) 16 rfl Tryd.underlying22 info77 rfl (by decide) (by omega) v118 y117 y120 _ _ _ (fun k_=>some k_≠(.slice Ao61 x110001_2.length co61:Value).ownBlock∧k_≠gb113) (fun _=>False) rfl rfl ?aO ?aR (fun _ _ h=>h) (fun _ h=>h.elim) ?aF ?aB ?aS ?aL ?_;(case aR=>repeat (first | exact (z26_ HR123.out) | (with_reducible refine Kd.C_alloc ?_ _) | (with_reducible refine Kd.C_drewN ?_ _) | (with_reducible refine Kd.C_drew ?_)));(case aB=>exact (z11_ HB.out GE108.out GE109.out GE113.out));(case aF=>exact (fun k_ hk=>⟨Kd.fresh' (Kd.R_lt (z2_ HO_110001.out)) k_ hk,Kd.freshB (g:=gb113) (o:=.cells #[.int .i64 t112,.int .i64 x6_1] 77 (0,0)) (z4_ BK113.out) k_ hk⟩));(case aO=>exact (z35_ HO119.out));(case aS=>exact (below_size (z11_ HB.out GE108.out GE109.out GE113.out)));(case aL=>have:=LMc50.out;omega);intro v125 w62 ho hb hg hat;rw [← Ny124.out] at ho;have n0_:=aM (Kd.R_after (ok:=(fun k_=>k_≠gb113)) (z2_ HO_110001.out) hg hat);have n1_:=aM (blk_grown (g:=gb108) (o:=.cells #[.int .i64 0,.slice none 0 0] 24 (0,0)) (z4_ BK108.out) hg (Kd.R_ne HO119.out BK108.out (by decide)));have n2_:=aM (blk_grown (g:=gb109) (o:=.cells #[.int .i64 a0,.slice Ao61 x110001_2.length co61] 24 (0,0)) (z4_ BK109.out) hg (Kd.R_ne HO119.out BK109.out (by decide)));have n3_:=aM (blk_grown (g:=gb113) (o:=.cells #[.int .i64 t112,.int .i64 x6_1] 77 (0,0)) (z4_ BK113.out) hg (Kd.R_away HO119.out (fun _ hk=>hk.2)));have n4_:=aM (hb);have n5_:=aM ((show Kd.C k77 w62 Ao61 y120.length y120 from by rw [Ny120.out];exact Kd.C_take (m:=(x9_3:Int).toNat) ((Kd.R_reads' (Kd.R_after (ok:=(fun k_=>k_≠gb113)) (z2_ HO_110001.out) hg hat)).2.2) KL60.out));have n6_:=aM (ho);clear HO_110001;clear BK108;clear BK109;clear BK113;clear HB;clear HR123;clear HO119;have HO_110001:=n0_;have BK108:=n1_;have BK109:=n2_;have BK113:=n3_;have HB:=n4_;have HR123:=n5_;have HO126:=n6_;clear n0_ n1_ n2_ n3_ n4_ n5_ n6_;clear ho hb hg hat;have hnb63:=NB113_108.out;have hnc63:=NB108_113.out;have ⟨hcz64_0,hcz64_1,hfz64_0,hfz64_1⟩:=cz2_ BK113.out) | ((with_reducible refine gate_builtin (b:=.append) (xs:=#[.tmp 78,.tmp 80]) rfl ?_);at_builtin;refine Kd.R_append k77 (w0:=w) w.heap.size rfl (.tmp 78) (.tmp 80) 22 77 (.agg #[(.int .i64 0),(.int .i64 0)]) 16 rfl Tryd.underlying22 info77 rfl (by decide) (by omega) v125 y124 (⟨t112,x6_1⟩:S77) [.int .i64 t112,.int .i64 x6_1] (fun k_=>some k_≠(.slice Ao61 x110001_2.length co61:Value).ownBlock∧k_≠gb113) (fun _=>False) rfl rfl ?aP (fun _ hk=>hk.elim) ?aF ?aO ?aB ?aS ?aL ?_;(case aP=>exact k77_mkM _ _ _ (⟨t112,x6_1⟩:S77));(case aB=>exact (z11_ HB.out GE108.out GE109.out GE113.out));(case aF=>exact (fun k_ hk=>⟨Kd.fresh' (Kd.R_lt (z2_ HO_110001.out)) k_ hk,Kd.freshB (g:=gb113) (o:=.cells #[.int .i64 t112,.int .i64 x6_1] 77 (0,0)) (z4_ BK113.out) k_ hk⟩));(case aO=>exact (z2_ HO126.out));(case aS=>exact (below_size (z11_ HB.out GE108.out GE109.out GE113.out)));(case aL=>have:=LMc51.out;omega);intro v128 w65 ho hb hg hat;rw [← Ny127.out] at ho;have n0_:=aM (Kd.R_after (ok:=(fun k_=>k_≠gb113)) (z2_ HO_110001.out) hg hat);have n1_:=aM (blk_grown (g:=gb108) (o:=.cells #[.int .i64 0,.slice none 0 0] 24 (0,0)) (z4_ BK108.out) hg (Kd.R_ne HO126.out BK108.out (by decide)));have n2_:=aM (blk_grown (g:=gb109) (o:=.cells #[.int .i64 a0,.slice Ao61 x110001_2.length co61] 24 (0,0)) (z4_ BK109.out) hg (Kd.R_ne HO126.out BK109.out (by decide)));have n3_:=aM (blk_grown (g:=gb113) (o:=.cells #[.int .i64 t112,.int .i64 x6_1] 77 (0,0)) (z4_ BK113.out) hg (Kd.R_away HO126.out (fun _ hk=>hk.2)));have n4_:=aM (hb);have n5_:=aM ((show Kd.C k77 w65 Ao61 y120.length y120 from by rw [Ny120.out];exact Kd.C_take (m:=(x9_3:Int).toNat) ((Kd.R_reads' (Kd.R_after (ok:=(fun k_=>k_≠gb113)) (z2_ HO_110001.out) hg hat)).2.2) KL60.out));have n6_:=aM (ho);clear HO_110001;clear BK108;clear BK109;clear BK113;clear HB;clear HR123;clear HO126;have HO_110001:=n0_;have BK108:=n1_;have BK109:=n2_;have BK113:=n3_;have HB:=n4_;have HR123:=n5_;have HO129:=n6_;clear n0_ n1_ n2_ n3_ n4_ n5_ n6_;clear ho hb hg hat;have ⟨hcz66_0,hcz66_1,hfz66_0,hfz66_1⟩:=cz2_ BK109.out;have q67:(x9_3:Int)≤((x110001_2.length:Int):Int):=dT (z1_);obtain ⟨i067,hi067,_,hsz67,_⟩:=info_parts info77;have hroom67:x110001_2.length≤co61:=(Kd.R_reads' HO_110001.out).2.1;have hC67:Kd.C k77 _ Ao61 x110001_2.length x110001_2:=(Kd.R_reads' HO_110001.out).2.2;have q067:(0:Int)≤(x9_3:Int):=dT (z1_);have hcut67:=cut_from (P:=Tryd.prog) 22 77 .i64 Tryd.underlying22 hi067 2 hsz67 Ao61 x110001_2.length co61 x9_3 q067 q67;have hr67:=Kd.C_drop (m:=(x9_3:Int).toNat) (c:=co61) hC67 (by omega) hroom67;obtain ⟨A67,hA67⟩:∃ A1,A1=(if co61=(x9_3:Int).toNat then Ao61 else (Ao61:Option Addr).map (·.add ((x9_3:Int).toNat*2))):=⟨_,rfl⟩;obtain ⟨c67,hc67⟩:∃ c1,c1=co61-(x9_3:Int).toNat:=⟨_,rfl⟩;have hy67:y130.length=x110001_2.length-(x9_3:Int).toNat:=(by rw [Ny130.out,List.length_drop] <;> omega);rw [show (x110001_2).drop (x9_3:Int).toNat=y130 from Ny130.out.symm] at hr67;replace hr67:Kd.C k77 _ A67 y130.length y130:=(by rw [hA67];exact hr67);rw [← hy67,← hA67,← hc67] at hcut67;have HR133:=aM hr67;have HC133:=aM (show y130.length≤c67 from by rw [hy67,hc67];exact Nat.sub_le_sub_right hroom67 _);clear hr67 hC67 hroom67 hi067 hsz67 hc67;have KY67:=aM hy67;have KA67:=aM hA67;clear hy67 hA67;have KL67:=aM (show (x9_3:Int).toNat≤x110001_2.length from by omega);replace q67:=eq_true q67) | ((with_reducible refine gate_builtin (b:=.append) (xs:=#[.tmp 82,.tmp 86]) rfl ?_);at_builtin;refine Kd.R_append_rows k77 (w0:=w) w.heap.size rfl (.tmp 82) (.tmp 86) 22 77 (.agg #[(.int .i64 0),(.int .i64 0)]) 16 rfl Tryd.underlying22 info77 rfl (by decide) (by omega) v128 y127 y130 _ _ _ (fun k_=>some k_≠(.slice Ao61 x110001_2.length co61:Value).ownBlock∧k_≠gb113) (fun _=>False) rfl rfl ?aO ?aR (fun _ _ h=>h) (fun _ h=>h.elim) ?aF ?aB ?aS ?aL ?_;(case aR=>repeat (first | exact (z26_ HR133.out) | (with_reducible refine Kd.C_alloc ?_ _) | (with_reducible refine Kd.C_drewN ?_ _) | (with_reducible refine Kd.C_drew ?_)));(case aB=>exact (z11_ HB.out GE108.out GE109.out GE113.out));(case aF=>exact (fun k_ hk=>⟨Kd.fresh' (Kd.R_lt (z2_ HO_110001.out)) k_ hk,Kd.freshB (g:=gb113) (o:=.cells #[.int .i64 t112,.int .i64 x6_1] 77 (0,0)) (z4_ BK113.out) k_ hk⟩));(case aO=>exact (z2_ HO129.out));(case aS=>exact (below_size (z11_ HB.out GE108.out GE109.out GE113.out)));(case aL=>have:=LMc54.out;omega);intro v135 w68 ho hb hg hat;rw [← Ny134.out] at ho;have n0_:=aM (Kd.R_after (ok:=(fun k_=>k_≠gb113)) (z2_ HO_110001.out) hg hat);have n1_:=aM (blk_grown (g:=gb108) (o:=.cells #[.int .i64 0,.slice none 0 0] 24 (0,0)) (z4_ BK108.out) hg (Kd.R_ne HO129.out BK108.out (by decide)));have n2_:=aM (blk_grown (g:=gb109) (o:=.cells #[.int .i64 a0,.slice Ao61 x110001_2.length co61] 24 (0,0)) (z4_ BK109.out) hg (Kd.R_ne HO129.out BK109.out (by decide)));have n3_:=aM (blk_grown (g:=gb113) (o:=.cells #[.int .i64 t112,.int .i64 x6_1] 77 (0,0)) (z4_ BK113.out) hg (Kd.R_away HO129.out (fun _ hk=>hk.2)));have n4_:=aM (hb);have n5_:=aM ((show Kd.C k77 w68 Ao61 y120.length y120 from by rw [Ny120.out];exact Kd.C_take (m:=(x9_3:Int).toNat) ((Kd.R_reads' (Kd.R_after (ok:=(fun k_=>k_≠gb113)) (z2_ HO_110001.out) hg hat)).2.2) KL60.out));have n6_:=aM ((show Kd.C k77 w68 A67 y130.length y130 from by rw [Ny130.out,KA67.out];exact Kd.C_drop (m:=(x9_3:Int).toNat) (c:=co61) ((Kd.R_reads' (Kd.R_after (ok:=(fun k_=>k_≠gb113)) (z2_ HO_110001.out) hg hat)).2.2) KL67.out ((Kd.R_reads' (Kd.R_after (ok:=(fun k_=>k_≠gb113)) (z2_ HO_110001.out) hg hat)).2.1)));have n7_:=aM (ho);clear HO_110001;clear BK108;clear BK109;clear BK113;clear HB;clear HR123;clear HR133;clear HO129;have HO_110001:=n0_;have BK108:=n1_;have BK109:=n2_;have BK113:=n3_;have HB:=n4_;have HR123:=n5_;have HR133:=n6_;have HO136:=n7_;clear n0_ n1_ n2_ n3_ n4_ n5_ n6_ n7_;clear ho hb hg hat;obtain ⟨Ao69,co69,eo69⟩:=Kd.R_slice HO136.out;subst eo69;have ⟨hcz70_0,hcz70_1,hfz70_0,hfz70_1⟩:=cz2_ BK109.out));try go_wp2_with (first | ((with_reducible refine gd_ 72 ?_);refine Kd.R_lit k77 _ 77 ?hg (N:=72) ?hd (xs:=([]:List (S77))) (inner:=[]) (ok:=fun _=>True) (okp:=fun _=>True) ?hr ?hp (fun _ hk=>hk) trivial (Below.refl _ _) (Nat.le_refl _) (by simp) ?_;(case hd=>rfl);(case hg=>rfl);(case hr=>first | (go_simp;done) | (go_simp;rfl));(case hp=>exact (Reps.none _ _));intro v118 w55 ho56 hb hg_ hnew_;clear hg_ hnew_;(first | rw [← Ny117.out] at ho56 | (simp only [Int.reduceToNat] at ho56;rw [← Ny117.out] at ho56));have n0_:=aM (Kd.R_elder' (z2_ HO_110001.out) (Kd.R_base ho56) hb);have n1_:=aM (Kd.R_lower (Kd.R_newB (Kd.R_new' ho56 (Kd.R_lt (z2_ HO_110001.out))) (g:=gb113) (o:=.cells #[.int .i64 t112,.int .i64 x6_1] 77 (0,0)) (z4_ BK113.out)) (below_size (z11_ HB.out GE108.out GE109.out GE113.out)));have n2_:=aM (blkB_ BK108.out hb);have n3_:=aM (blkB_ BK109.out hb);have n4_:=aM (blkB_ BK113.out hb);have n5_:=aM (below_step (z11_ HB.out GE108.out GE109.out GE113.out) hb);clear HO_110001;clear BK108;clear BK109;clear BK113;clear HB;have HO_110001:=n0_;have HO119:=n1_;have BK108:=n2_;have BK109:=n3_;have BK113:=n4_;have HB:=n5_;clear n0_ n1_ n2_ n3_ n4_ n5_;clear hb ho56;have hnb57:=NB109_108.out;have hnc57:=NB108_109.out;have hnb58:=NB109_113.out;have hnc58:=NB113_109.out;have ⟨hcz59_0,hcz59_1,hfz59_0,hfz59_1⟩:=cz2_ BK109.out;obtain ⟨Ao61,co61,eo61⟩:=Kd.R_slice HO_110001.out;subst eo61;have q60:(x9_3:Int)≤((x110001_2.length:Int):Int):=dT (z1_);obtain ⟨i060,hi060,_,hsz60,_⟩:=info_parts info77;have hroom60:x110001_2.length≤co61:=(Kd.R_reads' HO_110001.out).2.1;have hC60:Kd.C k77 _ Ao61 x110001_2.length x110001_2:=(Kd.R_reads' HO_110001.out).2.2;have hcut60:=cut_to (P:=Tryd.prog) 22 77 .i64 Tryd.underlying22 hi060 Ao61 x110001_2.length co61 x9_3 (dT (z1_)) q60 hroom60;have hr60:=Kd.C_take (m:=(x9_3:Int).toNat) hC60 (by omega);have hy60:y120.length=(x9_3:Int).toNat:=(by rw [Ny120.out,List.length_take];omega);rw [← Ny120.out] at hr60;rw [← hy60] at hcut60;have HR123:=aM hr60;have HC123:=aM (show y120.length≤co61 from by omega);clear hr60 hC60 hroom60 hi060 hsz60;have KY60:=aM hy60;clear hy60;have KL60:=aM (show (x9_3:Int).toNat≤x110001_2.length from by omega);replace q60:=eq_true q60) | ((with_reducible refine gate_builtin (b:=.append) (xs:=#[.tmp 72,.tmp 76]) rfl ?_);at_builtin;refine Kd.R_append_rows k77 (w0:=w) w.heap.size rfl (.tmp 72) (.tmp 76) 22 77 (.agg #[(.int .i64 0),(.int .i64 0)]) 16 rfl Tryd.underlying22 info77 rfl (by decide) (by omega) v118 y117 y120 _ _ _ (fun k_=>some k_≠(.slice Ao61 x110001_2.length co61:Value).ownBlock∧k_≠gb113) (fun _=>False) rfl rfl ?aO ?aR (fun _ _ h=>h) (fun _ h=>h.elim) ?aF ?aB ?aS ?aL ?_;(case aR=>repeat (first | exact (z26_ HR123.out) | (with_reducible refine Kd.C_alloc ?_ _) | (with_reducible refine Kd.C_drewN ?_ _) | (with_reducible refine Kd.C_drew ?_)));(case aB=>exact (z11_ HB.out GE108.out GE109.out GE113.out));(case aF=>exact (fun k_ hk=>⟨Kd.fresh' (Kd.R_lt (z2_ HO_110001.out)) k_ hk,Kd.freshB (g:=gb113) (o:=.cells #[.int .i64 t112,.int .i64 x6_1] 77 (0,0)) (z4_ BK113.out) k_ hk⟩));(case aO=>exact (z35_ HO119.out));(case aS=>exact (below_size (z11_ HB.out GE108.out GE109.out GE113.out)));(case aL=>have:=LMc50.out;omega);intro v125 w62 ho hb hg hat;rw [← Ny124.out] at ho;have n0_:=aM (Kd.R_after (ok:=(fun k_=>k_≠gb113)) (z2_ HO_110001.out) hg hat);have n1_:=aM (blk_grown (g:=gb108) (o:=.cells #[.int .i64 0,.slice none 0 0] 24 (0,0)) (z4_ BK108.out) hg (Kd.R_ne HO119.out BK108.out (by decide)));have n2_:=aM (blk_grown (g:=gb109) (o:=.cells #[.int .i64 a0,.slice Ao61 x110001_2.length co61] 24 (0,0)) (z4_ BK109.out) hg (Kd.R_ne HO119.out BK109.out (by decide)));have n3_:=aM (blk_grown (g:=gb113) (o:=.cells #[.int .i64 t112,.int .i64 x6_1] 77 (0,0)) (z4_ BK113.out) hg (Kd.R_away HO119.out (fun _ hk=>hk.2)));have n4_:=aM (hb);have n5_:=aM ((show Kd.C k77 w62 Ao61 y120.length y120 from by rw [Ny120.out];exact Kd.C_take (m:=(x9_3:Int).toNat) ((Kd.R_reads' (Kd.R_after (ok:=(fun k_=>k_≠gb113)) (z2_ HO_110001.out) hg hat)).2.2) KL60.out));have n6_:=aM (ho);clear HO_110001;clear BK108;clear BK109;clear BK113;clear HB;clear HR123;clear HO119;have HO_110001:=n0_;have BK108:=n1_;have BK109:=n2_;have BK113:=n3_;have HB:=n4_;have HR123:=n5_;have HO126:=n6_;clear n0_ n1_ n2_ n3_ n4_ n5_ n6_;clear ho hb hg hat;have hnb63:=NB113_108.out;have hnc63:=NB108_113.out;have ⟨hcz64_0,hcz64_1,hfz64_0,hfz64_1⟩:=cz2_ BK113.out) | ((with_reducible refine gate_builtin (b:=.append) (xs:=#[.tmp 78,.tmp 80]) rfl ?_);at_builtin;refine Kd.R_append k77 (w0:=w) w.heap.size rfl (.tmp 78) (.tmp 80) 22 77 (.agg #[(.int .i64 0),(.int .i64 0)]) 16 rfl Tryd.underlying22 info77 rfl (by decide) (by omega) v125 y124 (⟨t112,x6_1⟩:S77) [.int .i64 t112,.int .i64 x6_1] (fun k_=>some k_≠(.slice Ao61 x110001_2.length co61:Value).ownBlock∧k_≠gb113) (fun _=>False) rfl rfl ?aP (fun _ hk=>hk.elim) ?aF ?aO ?aB ?aS ?aL ?_;(case aP=>exact k77_mkM _ _ _ (⟨t112,x6_1⟩:S77));(case aB=>exact (z11_ HB.out GE108.out GE109.out GE113.out));(case aF=>exact (fun k_ hk=>⟨Kd.fresh' (Kd.R_lt (z2_ HO_110001.out)) k_ hk,Kd.freshB (g:=gb113) (o:=.cells #[.int .i64 t112,.int .i64 x6_1] 77 (0,0)) (z4_ BK113.out) k_ hk⟩));(case aO=>exact (z2_ HO126.out));(case aS=>exact (below_size (z11_ HB.out GE108.out GE109.out GE113.out)));(case aL=>have:=LMc51.out;omega);intro v128 w65 ho hb hg hat;rw [← Ny127.out] at ho;have n0_:=aM (Kd.R_after (ok:=(fun k_=>k_≠gb113)) (z2_ HO_110001.out) hg hat);have n1_:=aM (blk_grown (g:=gb108) (o:=.cells #[.int .i64 0,.slice none 0 0] 24 (0,0)) (z4_ BK108.out) hg (Kd.R_ne HO126.out BK108.out (by decide)));have n2_:=aM (blk_grown (g:=gb109) (o:=.cells #[.int .i64 a0,.slice Ao61 x110001_2.length co61] 24 (0,0)) (z4_ BK109.out) hg (Kd.R_ne HO126.out BK109.out (by decide)));have n3_:=aM (blk_grown (g:=gb113) (o:=.cells #[.int .i64 t112,.int .i64 x6_1] 77 (0,0)) (z4_ BK113.out) hg (Kd.R_away HO126.out (fun _ hk=>hk.2)));have n4_:=aM (hb);have n5_:=aM ((show Kd.C k77 w65 Ao61 y120.length y120 from by rw [Ny120.out];exact Kd.C_take (m:=(x9_3:Int).toNat) ((Kd.R_reads' (Kd.R_after (ok:=(fun k_=>k_≠gb113)) (z2_ HO_110001.out) hg hat)).2.2) KL60.out));have n6_:=aM (ho);clear HO_110001;clear BK108;clear BK109;clear BK113;clear HB;clear HR123;clear HO126;have HO_110001:=n0_;have BK108:=n1_;have BK109:=n2_;have BK113:=n3_;have HB:=n4_;have HR123:=n5_;have HO129:=n6_;clear n0_ n1_ n2_ n3_ n4_ n5_ n6_;clear ho hb hg hat;have ⟨hcz66_0,hcz66_1,hfz66_0,hfz66_1⟩:=cz2_ BK109.out;have q67:(x9_3:Int)≤((x110001_2.length:Int):Int):=dT (z1_);obtain ⟨i067,hi067,_,hsz67,_⟩:=info_parts info77;have hroom67:x110001_2.length≤co61:=(Kd.R_reads' HO_110001.out).2.1;have hC67:Kd.C k77 _ Ao61 x110001_2.length x110001_2:=(Kd.R_reads' HO_110001.out).2.2;have q067:(0:Int)≤(x9_3:Int):=dT (z1_);have hcut67:=cut_from (P:=Tryd.prog) 22 77 .i64 Tryd.underlying22 hi067 2 hsz67 Ao61 x110001_2.length co61 x9_3 q067 q67;have hr67:=Kd.C_drop (m:=(x9_3:Int).toNat) (c:=co61) hC67 (by omega) hroom67;obtain ⟨A67,hA67⟩:∃ A1,A1=(if co61=(x9_3:Int).toNat then Ao61 else (Ao61:Option Addr).map (·.add ((x9_3:Int).toNat*2))):=⟨_,rfl⟩;obtain ⟨c67,hc67⟩:∃ c1,c1=co61-(x9_3:Int).toNat:=⟨_,rfl⟩;have hy67:y130.length=x110001_2.length-(x9_3:Int).toNat:=(by rw [Ny130.out,List.length_drop] <;> omega);rw [show (x110001_2).drop (x9_3:Int).toNat=y130 from Ny130.out.symm] at hr67;replace hr67:Kd.C k77 _ A67 y130.length y130:=(by rw [hA67];exact hr67);rw [← hy67,← hA67,← hc67] at hcut67;have HR133:=aM hr67;have HC133:=aM (show y130.length≤c67 from by rw [hy67,hc67];exact Nat.sub_le_sub_right hroom67 _);clear hr67 hC67 hroom67 hi067 hsz67 hc67;have KY67:=aM hy67;have KA67:=aM hA67;clear hy67 hA67;have KL67:=aM (show (x9_3:Int).toNat≤x110001_2.length from by omega);replace q67:=eq_true q67) | ((with_reducible refine gate_builtin (b:=.append) (xs:=#[.tmp 82,.tmp 86]) rfl ?_);at_builtin;refine Kd.R_append_rows k77 (w0:=w) w.heap.size rfl (.tmp 82) (.tmp 86) 22 77 (.agg #[(.int .i64 0),(.int .i64 0)]) 16 rfl Tryd.underlying22 info77 rfl (by decide) (by omega) v128 y127 y130 _ _ _ (fun k_=>some k_≠(.slice Ao61 x110001_2.length co61:Value).ownBlock∧k_≠gb113) (fun _=>False) rfl rfl ?aO ?aR (fun _ _ h=>h) (fun _ h=>h.elim) ?aF ?aB ?aS ?aL ?_;(case aR=>repeat (first | exact (z26_ HR133.out) | (with_reducible refine Kd.C_alloc ?_ _) | (with_reducible refine Kd.C_drewN ?_ _) | (with_reducible refine Kd.C_drew ?_)));(case aB=>exact (z11_ HB.out GE108.out GE109.out GE113.out));(case aF=>exact (fun k_ hk=>⟨Kd.fresh' (Kd.R_lt (z2_ HO_110001.out)) k_ hk,Kd.freshB (g:=gb113) (o:=.cells #[.int .i64 t112,.int .i64 x6_1] 77 (0,0)) (z4_ BK113.out) k_ hk⟩));(case aO=>exact (z2_ HO129.out));(case aS=>exact (below_size (z11_ HB.out GE108.out GE109.out GE113.out)));(case aL=>have:=LMc54.out;omega);intro v135 w68 ho hb hg hat;rw [← Ny134.out] at ho;have n0_:=aM (Kd.R_after (ok:=(fun k_=>k_≠gb113)) (z2_ HO_110001.out) hg hat);have n1_:=aM (blk_grown (g:=gb108) (o:=.cells #[.int .i64 0,.slice none 0 0] 24 (0,0)) (z4_ BK108.out) hg (Kd.R_ne HO129.out BK108.out (by decide)));have n2_:=aM (blk_grown (g:=gb109) (o:=.cells #[.int .i64 a0,.slice Ao61 x110001_2.length co61] 24 (0,0)) (z4_ BK109.out) hg (Kd.R_ne HO129.out BK109.out (by decide)));have n3_:=aM (blk_grown (g:=gb113) (o:=.cells #[.int .i64 t112,.int .i64 x6_1] 77 (0,0)) (z4_ BK113.out) hg (Kd.R_away HO129.out (fun _ hk=>hk.2)));have n4_:=aM (hb);have n5_:=aM ((show Kd.C k77 w68 Ao61 y120.length y120 from by rw [Ny120.out];exact Kd.C_take (m:=(x9_3:Int).toNat) ((Kd.R_reads' (Kd.R_after (ok:=(fun k_=>k_≠gb113)) (z2_ HO_110001.out) hg hat)).2.2) KL60.out));have n6_:=aM ((show Kd.C k77 w68 A67 y130.length y130 from by rw [Ny130.out,KA67.out];exact Kd.C_drop (m:=(x9_3:Int).toNat) (c:=co61) ((Kd.R_reads' (Kd.R_after (ok:=(fun k_=>k_≠gb113)) (z2_ HO_110001.out) hg hat)).2.2) KL67.out ((Kd.R_reads' (Kd.R_after (ok:=(fun k_=>k_≠gb113)) (z2_ HO_110001.out) hg hat)).2.1)));have n7_:=aM (ho);clear HO_110001;clear BK108;clear BK109;clear BK113;clear HB;clear HR123;clear HR133;clear HO129;have HO_110001:=n0_;have BK108:=n1_;have BK109:=n2_;have BK113:=n3_;have HB:=n4_;have HR123:=n5_;have HR133:=n6_;have HO136:=n7_;clear n0_ n1_ n2_ n3_ n4_ n5_ n6_ n7_;clear ho hb hg hat;obtain ⟨Ao69,co69,eo69⟩:=Kd.R_slice HO136.out;subst eo69;have ⟨hcz70_0,hcz70_1,hfz70_0,hfz70_1⟩:=cz2_ BK109.out)))
                   go_roundg kj19
                   case measure=>have:=HK1.out;have:=HK2.out;have:=HK3.out;have:=HJ19.out;omega
                   case rel=>exact ⟨(wrap64 (x7_2+1)),(y134),(.slice Ao69 y134.length co69),(z0_),H',⟨by have:=HK1.out;have:=HK2.out;have:=HK3.out;have:=HJ19.out;omega⟩,⟨by (with_reducible repeat (first | apply Kd.R_alloc | apply Kd.R_drewN | apply Kd.R_drew));exact Kd.R_mono (Kd.R_far (p:=⟨gb109,1,none⟩) (Kd.R_types HO136.out BK109.out (by decide)) (fun _ hk=>hk.2) (.slice Ao69 y134.length co69)) (fun _ hk=>trivial)⟩,⟨z32_ NB108_109.out BK108.out⟩,⟨by (with_reducible repeat (first | refine blk_drewN ?_ _ | refine blk_drew ?_ | refine blk_alloc ?_ _));refine blk_put (cs:=#[.int .i64 a0,.slice Ao61 x110001_2.length co61]) ?_ 1 _ rfl;(with_reducible repeat (first | refine blk_drewN ?_ _ | refine blk_drew ?_ | refine blk_alloc ?_ _));exact BK109.out⟩,⟨z11_ HB.out GE108.out GE109.out GE113.out⟩⟩
                  ·rw [if_neg c54] at H
                   exact nO H
                 ·rw [if_neg c51] at H
                  exact nO H
                ·rw [if_neg c50] at H
                 exact nO H
               ·rw [if_neg c49] at H
                exact nO H
              ·rw [if_neg c48] at H
               exact nO H
        ·rw [if_neg c12] at H
         exact nO H
       ·rw [if_neg c10] at H
        exact nO H
      ·rw [if_neg c8] at H
       have c8b0:decide (x7_2≤a1)=false:=dF c8
       clear c8
       have H':=aM H
       clear H
       go_wp2
       repeat (go_quiet (fail);try go_wp2)
       go_roundg k2
       case measure=>have:=HK1.out;have:=HK2.out;omega
       case rel=>exact ⟨(wrap64 (x6_1+1)),(x110001_2),(u110001),(z0_),H',⟨by have:=HK1.out;have:=HK2.out;omega⟩,⟨z2_ HO_110001.out⟩,⟨z4_ BK108.out⟩,⟨z4_ BK109.out⟩,⟨z7_ HB.out GE108.out GE109.out⟩⟩
   ·rw [if_neg c7] at H
    have c7b0:decide (x6_1≤a0)=false:=dF c7
    clear c7
    simp only [Option.some.injEq,Prod.mk.injEq] at H
    obtain ⟨rfl,rfl⟩:=H
    have hnb71:=NB109_108.out
    have hnc71:=NB108_109.out
    have ⟨hcz72_0,hcz72_1,hfz72_0,hfz72_1⟩:=cz2_ BK109.out
    have ⟨hcz73_0,hcz73_1,hfz73_0,hfz73_1⟩:=cz2_ BK108.out
    obtain ⟨Ao74,co74,eo74⟩:=Kd.R_slice HO_110001.out
    subst eo74
    go_wp2
    repeat (go_quiet (fail);try go_wp2)
    refine bodyPost_ret (results_cell_row rfl _ _ gb108 24 #[.int .i64 a0,.slice Ao74 x110001_1.length co74] (0,0) _ rfl (z30_ BK108.out) Tryd.underlying24 rfl (by kernel_rfl)) rfl ?_
    exact ⟨_,z9_,by (with_reducible repeat (first | apply Kd.R_alloc | apply Kd.R_drewN | apply Kd.R_drew));exact Kd.R_mono (rf2_ (Kd.R_types HO_110001.out BK108.out (by decide)) (fun _ hk=>hk.2)) (fun _ hk=>trivial),z7_ HB.out GE108.out GE109.out⟩


/-! ### Y77: function 66 -/
def Y77.f (a0:Int):Option (Int × (List (S77)) × (List (S95)) × List Int × Int × Int × Int × Int × Int × Int):=some (0,([]:List (S77)),([]:List (S95)),([]:List Int),0,0,0,0,0,a0)
theorem Y77.calls (a0:Int) (r1:Int) (r2:List (S77)) (r3:List (S95)) (r4:List Int) (r5:Int) (r6:Int) (r7:Int) (r8:Int) (r9:Int) (r10:Int) (w:World) (h:Y77.f a0=some (r1,r2,r3,r4,r5,r6,r7,r8,r9,r10)) :
  Calls Tryd.prog 66 #[.int .i64 a0] w fun e w'=>∃ v1_ v2_ v3_:Value,e = .returned (.agg #[.int .i64 r1,v1_,v2_,v3_,.int .i64 r5,.int .i64 r6,.int .i64 r7,.slice none 0 0,.slice none 0 0,.int .i64 r10])∧Kd.R k77 77 w' w.heap.size (fun _=>True) v1_ r2∧Kd.R k95 95 w' w.heap.size (fun _=>True) v2_ r3∧Kd.R (Kd.int .i64) 2 w' w.heap.size (fun _=>True) v3_ r4∧Below w.heap.size w w':=by
 have hu62:=Tryd.underlying62
 have HB:=aM (Below.refl w.heap.size w)
 have H:(some (0,([]:List (S77)),([]:List (S95)),([]:List Int),0,0,0,0,0,a0))=some (r1,r2,r3,r4,r5,r6,r7,r8,r9,r10):=h
 clear h
 simp only [Option.some.injEq,Prod.mk.injEq] at H
 obtain ⟨rfl,rfl,rfl,rfl,rfl,rfl,rfl,rfl,rfl,rfl⟩:=H
 go_enter Tryd.func66,Tryd.ntmps66
 go_wp2_with (first | ((with_reducible refine gd_ 2 ?_);refine be_ 2 #[.int .i64 0,.slice none 0 0,.slice none 0 0,.slice none 0 0,.int .i64 0,.int .i64 0,.int .i64 0,.slice none 0 0,.slice none 0 0,.int .i64 0] 62 ?_;intro gb854 hg w2 hbox hb;have n0_:=aM (below_step (z3_ HB.out) hb);have n1_:=aM (hbox);have n2_:=aM ((z10_ HB.out:w.heap.size≤gb854));have n3_:=aM ((z10_ HB.out:w.heap.size≤gb854));clear HB;have HB:=n0_;have BK854:=n1_;have GW854:=n2_;have GE854:=n3_;clear n0_ n1_ n2_ n3_;clear hb hbox hg;have ⟨hcz3_0,hcz3_1,hcz3_2,hcz3_3,hcz3_4,hcz3_5,hcz3_6,hcz3_7,hcz3_8,hcz3_9,hfz3_0,hfz3_1,hfz3_2,hfz3_3,hfz3_4,hfz3_5,hfz3_6,hfz3_7,hfz3_8,hfz3_9⟩:=cz10_ BK854.out))
 refine bodyPost_ret (results_cell_row rfl _ _ gb854 62 #[.int .i64 0,.slice none 0 0,.slice none 0 0,.slice none 0 0,.int .i64 0,.int .i64 0,.int .i64 0,.slice none 0 0,.slice none 0 0,.int .i64 a0] (0,0) _ rfl (z23_ BK854.out) Tryd.underlying62 rfl (by kernel_rfl)) rfl ?_
 exact ⟨_,_,_,z9_,z16_,z16_,z16_,z8_ HB.out GE854.out⟩


/-! ### Y8: function 33 -/
mutual
def Y8.j0:Nat→Int→Int→Int→Int→Bool→Option (Int × (List (S77)) × (List (S95)) × List Int × Int × Int × Int × Int × Int × Int)
 | 0,_,_,_,_,_=>none
 | k+1,x0,x1,x2,x3,x31=>if x31=true then ((Y77.f 1).bind fun bt860=>(some (bt860.1,bt860.2.1,bt860.2.2.1,bt860.2.2.2.1,bt860.2.2.2.2.1,bt860.2.2.2.2.2.1,bt860.2.2.2.2.2.2.1,bt860.2.2.2.2.2.2.2.1,bt860.2.2.2.2.2.2.2.2.1,bt860.2.2.2.2.2.2.2.2.2))) else ((Y9.f k x0 4).bind fun bt876=>(Y8.l0 k x0 1 bt876.1 bt876.2 ([]:List (S95)) x1 x2 x3))
def Y8.l0:Nat→Int→Int→Int→List (S77)→List (S95)→Int→Int→Int→Option (Int × (List (S77)) × (List (S95)) × List Int × Int × Int × Int × Int × Int × Int)
 | 0,_,_,_,_,_,_,_,_=>none
 | k+1,x0,x10,x881000,x881001,x881002,x881004,x881005,x881006=>if x10≤x0 then (if x881002.length<2513169434916 then (Y8.l0 k x0 (wrap64 (x10+1)) x881000 x881001 (x881002 ++ [(⟨x10,0,(⟨#[]⟩:ByteArray),0⟩:S95)]) x881004 x881005 x881006) else (none)) else (some (x881000,x881001,x881002,([]:List Int),x881004,x881005,x881006,0,0,0))
end
def Y8.f (k:Nat) (a0:Int) (a1:Int) (a2:Int) (a3:Int):Option (Int × (List (S77)) × (List (S95)) × List Int × Int × Int × Int × Int × Int × Int):=(Y65.f a0).bind fun t856=>(if t856=true then ((Y41.f a1 1 a0).bind fun t857=>(if t857=true then ((Y41.f a2 1 a1).bind fun t858=>(if t858=true then ((Y41.f a3 1 a1).bind fun t859=>(Y8.j0 k a0 a1 a2 a3 (!t859))) else (Y8.j0 k a0 a1 a2 a3 true))) else (Y8.j0 k a0 a1 a2 a3 true))) else (Y8.j0 k a0 a1 a2 a3 true))
theorem Y8.mono_l:∀ k,(∀ y0 y1 y2 y3 y4,LeO (Y8.j0 k y0 y1 y2 y3 y4) (Y8.j0 (k+1) y0 y1 y2 y3 y4))∧(∀ y0 y1 y2 y3 y4 y5 y6 y7,LeO (Y8.l0 k y0 y1 y2 y3 y4 y5 y6 y7) (Y8.l0 (k+1) y0 y1 y2 y3 y4 y5 y6 y7))
 | 0=>by refine ⟨?_,?_⟩ <;> intros <;> exact LeO.none _
 | k+1=>by
  obtain ⟨ih0,ih1⟩:=Y8.mono_l k
  have m0:=@Y9.mono
  refine ⟨?_,?_⟩
  ·intros
   unfold Y8.j0
   exact mO
  ·intros
   unfold Y8.l0
   exact mO
theorem Y8.mono:∀ a0 a1 a2 a3 k,LeO (Y8.f k a0 a1 a2 a3) (Y8.f (k+1) a0 a1 a2 a3):=by
 intro a0 a1 a2 a3 k
 have m0:=@Y9.mono
 obtain ⟨ih0,ih1⟩:=Y8.mono_l k
 unfold Y8.f
 exact mO
theorem Y8.calls (k:Nat) (a0:Int) (a1:Int) (a2:Int) (a3:Int) (r1:Int) (r2:List (S77)) (r3:List (S95)) (r4:List Int) (r5:Int) (r6:Int) (r7:Int) (r8:Int) (r9:Int) (r10:Int) (w:World) (h:Y8.f k a0 a1 a2 a3=some (r1,r2,r3,r4,r5,r6,r7,r8,r9,r10)) :
  Calls Tryd.prog 33 #[.int .i64 a0,.int .i64 a1,.int .i64 a2,.int .i64 a3] w fun e w'=>∃ v1_ v2_ v3_:Value,e = .returned (.agg #[.int .i64 r1,v1_,v2_,v3_,.int .i64 r5,.int .i64 r6,.int .i64 r7,.slice none 0 0,.slice none 0 0,.int .i64 r10])∧Kd.R k77 77 w' w.heap.size (fun _=>True) v1_ r2∧Kd.R k95 95 w' w.heap.size (fun _=>True) v2_ r3∧Kd.R (Kd.int .i64) 2 w' w.heap.size (fun _=>True) v3_ r4∧Below w.heap.size w w':=by
 have hu62:=Tryd.underlying62
 have hu56:=Tryd.underlying56
 have hu95:=Tryd.underlying95
 have HB:=aM (Below.refl w.heap.size w)
 have H:((Y65.f a0).bind fun t856=>(if t856=true then ((Y41.f a1 1 a0).bind fun t857=>(if t857=true then ((Y41.f a2 1 a1).bind fun t858=>(if t858=true then ((Y41.f a3 1 a1).bind fun t859=>(Y8.j0 k a0 a1 a2 a3 (!t859))) else (Y8.j0 k a0 a1 a2 a3 true))) else (Y8.j0 k a0 a1 a2 a3 true))) else (Y8.j0 k a0 a1 a2 a3 true)))=some (r1,r2,r3,r4,r5,r6,r7,r8,r9,r10):=h
 clear h
 have HC5:=aM H
 clear H
 go_enter Tryd.func33,Tryd.ntmps33
 go_upto_region 1 with (first | ((with_reducible refine gd_ 8 ?_);refine be_ 8 #[.int .i64 0,.slice none 0 0,.slice none 0 0,.slice none 0 0,.int .i64 0,.int .i64 0,.int .i64 0,.slice none 0 0,.slice none 0 0,.int .i64 0] 62 ?_;intro gb855 hg w6 hbox hb;have n0_:=aM (below_step (z3_ HB.out) hb);have n1_:=aM (hbox);have n2_:=aM ((z10_ HB.out:w.heap.size≤gb855));have n3_:=aM ((z10_ HB.out:w.heap.size≤gb855));clear HB;have HB:=n0_;have BK855:=n1_;have GW855:=n2_;have GE855:=n3_;clear n0_ n1_ n2_ n3_;clear hb hbox hg))
 (try simp only [Act.put,sa_,s0_,ss_])
 go_cut [31] (fun v31 wc=>∃ (kq:Nat) (x31_4:Bool),v31 = .bool x31_4∧Aside0 (Y8.j0 kq a0 a1 a2 a3 x31_4=some (r1,r2,r3,r4,r5,r6,r7,r8,r9,r10))∧Aside0 (kq≤k)∧Aside0 (wc.heap[gb855]? = some (.cells #[.int .i64 0,(.slice none 0 0),(.slice none 0 0),(.slice none 0 0),.int .i64 0,.int .i64 0,.int .i64 0,.slice none 0 0,.slice none 0 0,.int .i64 0] 62 (0,0)))∧Aside0 (Below w.heap.size w wc))
 case first =>
  have H:=HC5.out
  clear HC5
  replace H:=bS H
  obtain ⟨t856,A70,H⟩:=H
  replace H:(if t856=true then ((Y41.f a1 1 a0).bind fun t857=>(if t857=true then ((Y41.f a2 1 a1).bind fun t858=>(if t858=true then ((Y41.f a3 1 a1).bind fun t859=>(Y8.j0 k a0 a1 a2 a3 (!t859))) else (Y8.j0 k a0 a1 a2 a3 true))) else (Y8.j0 k a0 a1 a2 a3 true))) else (Y8.j0 k a0 a1 a2 a3 true))=some (r1,r2,r3,r4,r5,r6,r7,r8,r9,r10):=H
  have A7:=aM A70
  clear A70
  by_cases c8:t856=true
  ·subst c8
   have H1:((Y41.f a1 1 a0).bind fun t857=>(if t857=true then ((Y41.f a2 1 a1).bind fun t858=>(if t858=true then ((Y41.f a3 1 a1).bind fun t859=>(Y8.j0 k a0 a1 a2 a3 (!t859))) else (Y8.j0 k a0 a1 a2 a3 true))) else (Y8.j0 k a0 a1 a2 a3 true)))=some (r1,r2,r3,r4,r5,r6,r7,r8,r9,r10):=by rw [if_pos rfl] at H;exact H
   clear H
   have H:=H1
   clear H1
   replace H:=bS H
   obtain ⟨t857,A90,H⟩:=H
   replace H:(if t857=true then ((Y41.f a2 1 a1).bind fun t858=>(if t858=true then ((Y41.f a3 1 a1).bind fun t859=>(Y8.j0 k a0 a1 a2 a3 (!t859))) else (Y8.j0 k a0 a1 a2 a3 true))) else (Y8.j0 k a0 a1 a2 a3 true))=some (r1,r2,r3,r4,r5,r6,r7,r8,r9,r10):=H
   have A9:=aM A90
   clear A90
   by_cases c10:t857=true
   ·subst c10
    have H1:((Y41.f a2 1 a1).bind fun t858=>(if t858=true then ((Y41.f a3 1 a1).bind fun t859=>(Y8.j0 k a0 a1 a2 a3 (!t859))) else (Y8.j0 k a0 a1 a2 a3 true)))=some (r1,r2,r3,r4,r5,r6,r7,r8,r9,r10):=by rw [if_pos rfl] at H;exact H
    clear H
    have H:=H1
    clear H1
    replace H:=bS H
    obtain ⟨t858,A110,H⟩:=H
    replace H:(if t858=true then ((Y41.f a3 1 a1).bind fun t859=>(Y8.j0 k a0 a1 a2 a3 (!t859))) else (Y8.j0 k a0 a1 a2 a3 true))=some (r1,r2,r3,r4,r5,r6,r7,r8,r9,r10):=H
    have A11:=aM A110
    clear A110
    by_cases c12:t858=true
    ·subst c12
     have H1:((Y41.f a3 1 a1).bind fun t859=>(Y8.j0 k a0 a1 a2 a3 (!t859)))=some (r1,r2,r3,r4,r5,r6,r7,r8,r9,r10):=by rw [if_pos rfl] at H;exact H
     clear H
     have H:=H1
     clear H1
     replace H:=bS H
     obtain ⟨t859,A130,H⟩:=H
     replace H:(Y8.j0 k a0 a1 a2 a3 (!t859))=some (r1,r2,r3,r4,r5,r6,r7,r8,r9,r10):=H
     have A13:=aM A130
     clear A130
     have H':=aM H
     clear H
     go_wp2_with (first | ((with_reducible refine gc_ 38 ?_);refine gl_ (some 12) Tryd.func38 #[.int .i64 a0] ?_;(with_reducible refine (Y65.calls a0 true _ A7.out).mono ?_);rintro e w' ⟨rfl,⟨nd,rfl⟩⟩;refine ⟨_,rfl,?_⟩) | (go_at_call 39;(with_reducible refine (Y41.calls a1 1 a0 true _ A9.out).mono ?_);rintro e w' ⟨rfl,⟨nd,rfl⟩⟩) | (go_at_call 39;(with_reducible refine (Y41.calls a2 1 a1 true _ A11.out).mono ?_);rintro e w' ⟨rfl,⟨nd,rfl⟩⟩) | (go_at_call 39;(with_reducible refine (Y41.calls a3 1 a1 t859 _ A13.out).mono ?_);rintro e w' ⟨rfl,⟨nd,rfl⟩⟩))
     go_meet
     case rel=>exact ⟨_,(!t859),(z0_),H',⟨by first | omega | exact Nat.le_refl _⟩,⟨z4_ BK855.out⟩,⟨z8_ HB.out GE855.out⟩⟩
    ·replace c12:=Bool.eq_false_iff.mpr c12
     subst c12
     have H1:(Y8.j0 k a0 a1 a2 a3 true)=some (r1,r2,r3,r4,r5,r6,r7,r8,r9,r10):=by rw [if_neg (show ¬ (false=true) by decide)] at H;exact H
     clear H
     have H:=H1
     clear H1
     have H':=aM H
     clear H
     go_wp2_with (first | ((with_reducible refine gc_ 38 ?_);refine gl_ (some 12) Tryd.func38 #[.int .i64 a0] ?_;(with_reducible refine (Y65.calls a0 true _ A7.out).mono ?_);rintro e w' ⟨rfl,⟨nd,rfl⟩⟩;refine ⟨_,rfl,?_⟩) | (go_at_call 39;(with_reducible refine (Y41.calls a1 1 a0 true _ A9.out).mono ?_);rintro e w' ⟨rfl,⟨nd,rfl⟩⟩) | (go_at_call 39;(with_reducible refine (Y41.calls a2 1 a1 false _ A11.out).mono ?_);rintro e w' ⟨rfl,⟨nd,rfl⟩⟩))
     go_meet
     case rel=>exact ⟨_,(true),(z0_),H',⟨by first | omega | exact Nat.le_refl _⟩,⟨z4_ BK855.out⟩,⟨z8_ HB.out GE855.out⟩⟩
   ·replace c10:=Bool.eq_false_iff.mpr c10
    subst c10
    have H1:(Y8.j0 k a0 a1 a2 a3 true)=some (r1,r2,r3,r4,r5,r6,r7,r8,r9,r10):=by rw [if_neg (show ¬ (false=true) by decide)] at H;exact H
    clear H
    have H:=H1
    clear H1
    have H':=aM H
    clear H
    go_wp2_with (first | ((with_reducible refine gc_ 38 ?_);refine gl_ (some 12) Tryd.func38 #[.int .i64 a0] ?_;(with_reducible refine (Y65.calls a0 true _ A7.out).mono ?_);rintro e w' ⟨rfl,⟨nd,rfl⟩⟩;refine ⟨_,rfl,?_⟩) | (go_at_call 39;(with_reducible refine (Y41.calls a1 1 a0 false _ A9.out).mono ?_);rintro e w' ⟨rfl,⟨nd,rfl⟩⟩))
    go_meet
    case rel=>exact ⟨_,(true),(z0_),H',⟨by first | omega | exact Nat.le_refl _⟩,⟨z4_ BK855.out⟩,⟨z8_ HB.out GE855.out⟩⟩
  ·replace c8:=Bool.eq_false_iff.mpr c8
   subst c8
   have H1:(Y8.j0 k a0 a1 a2 a3 true)=some (r1,r2,r3,r4,r5,r6,r7,r8,r9,r10):=by rw [if_neg (show ¬ (false=true) by decide)] at H;exact H
   clear H
   have H:=H1
   clear H1
   have H':=aM H
   clear H
   go_wp2_with (first | ((with_reducible refine gc_ 38 ?_);refine gl_ (some 12) Tryd.func38 #[.int .i64 a0] ?_;(with_reducible refine (Y65.calls a0 false _ A7.out).mono ?_);rintro e w' ⟨rfl,⟨nd,rfl⟩⟩;refine ⟨_,rfl,?_⟩))
   go_meet
   case rel=>exact ⟨_,(true),(z0_),H',⟨by first | omega | exact Nat.le_refl _⟩,⟨z4_ BK855.out⟩,⟨z8_ HB.out GE855.out⟩⟩
 case rest =>
  clear HC5
  try clear c1
  try clear p2
  try clear c3
  try clear c8
  try clear c10
  try clear c12
  obtain ⟨kq,x31_4,rfl,HA,HJ4,BK855,HB⟩:=hcut
  cases kq with
  | zero=>exact absurd HA.out (by simp [Y8.j0])
  | succ kj4 =>
   have H:=HA.out
   clear HA
   simp only [Y8.j0] at H
   by_cases c14:x31_4=true
   ·subst c14
    have H1:((Y77.f 1).bind fun bt860=>(some (bt860.1,bt860.2.1,bt860.2.2.1,bt860.2.2.2.1,bt860.2.2.2.2.1,bt860.2.2.2.2.2.1,bt860.2.2.2.2.2.2.1,bt860.2.2.2.2.2.2.2.1,bt860.2.2.2.2.2.2.2.2.1,bt860.2.2.2.2.2.2.2.2.2)))=some (r1,r2,r3,r4,r5,r6,r7,r8,r9,r10):=by rw [if_pos rfl] at H;exact H
    clear H
    have H:=H1
    clear H1
    replace H:=bS H
    obtain ⟨⟨t860,t861,t864,t867,t870,t871,t872,t873,t874,t875⟩,A150,H⟩:=H
    replace H:(some (t860,t861,t864,t867,t870,t871,t872,t873,t874,t875))=some (r1,r2,r3,r4,r5,r6,r7,r8,r9,r10):=H
    have A15:=aM A150
    clear A150
    simp only [Option.some.injEq,Prod.mk.injEq] at H
    obtain ⟨rfl,rfl,rfl,rfl,rfl,rfl,rfl,rfl,rfl,rfl⟩:=H
    go_wp2_with (first | ((with_reducible refine gc_ 66 ?_);refine gl_ (some 32) Tryd.func66 #[.int .i64 1] ?_;(with_reducible refine (Y77.calls 1 t860 t861 t864 t867 t870 t871 t872 t873 t874 t875 _ A15.out).mono ?_);rintro e w16 ⟨v862,v865,v868,rfl,ho0,ho1,ho2,hb⟩;refine ⟨_,rfl,?_⟩;have n0_:=aM (Kd.R_lower ho0 (below_size (z8_ HB.out GE855.out)));have n1_:=aM (Kd.R_lower ho1 (below_size (z8_ HB.out GE855.out)));have n2_:=aM (Kd.R_lower ho2 (below_size (z8_ HB.out GE855.out)));have n3_:=aM (blkB_ BK855.out hb);have n4_:=aM (below_step (z8_ HB.out GE855.out) hb);clear BK855;clear HB;have HO863:=n0_;have HO866:=n1_;have HO869:=n2_;have BK855:=n3_;have HB:=n4_;clear n0_ n1_ n2_ n3_ n4_;(try clear hb);(try clear ho0);(try clear ho1);(try clear ho2);have ⟨hcz17_0,hcz17_1,hcz17_2,hcz17_3,hcz17_4,hcz17_5,hcz17_6,hcz17_7,hcz17_8,hcz17_9,hfz17_0,hfz17_1,hfz17_2,hfz17_3,hfz17_4,hfz17_5,hfz17_6,hfz17_7,hfz17_8,hfz17_9⟩:=cz10_ BK855.out;obtain ⟨Ao18,co18,eo18⟩:=Kd.R_slice HO863.out;subst eo18;obtain ⟨Ao19,co19,eo19⟩:=Kd.R_slice HO866.out;subst eo19;obtain ⟨Ao20,co20,eo20⟩:=Kd.R_slice HO869.out;subst eo20))
    refine bodyPost_ret (results_cell_row rfl _ _ gb855 62 #[.int .i64 t860,.slice Ao18 t861.length co18,.slice Ao19 t864.length co19,.slice Ao20 t867.length co20,.int .i64 t870,.int .i64 t871,.int .i64 t872,.slice none 0 0,.slice none 0 0,.int .i64 t875] (0,0) _ rfl (z23_ BK855.out) Tryd.underlying62 rfl (by kernel_rfl)) rfl ?_
    exact ⟨_,_,_,z9_,z25_ HO863.out BK855.out,z25_ HO866.out BK855.out,z25_ HO869.out BK855.out,z8_ HB.out GE855.out⟩
   ·replace c14:=Bool.eq_false_iff.mpr c14
    subst c14
    have H1:((Y9.f kj4 a0 4).bind fun bt876=>(Y8.l0 kj4 a0 1 bt876.1 bt876.2 ([]:List (S95)) a1 a2 a3))=some (r1,r2,r3,r4,r5,r6,r7,r8,r9,r10):=by rw [if_neg (show ¬ (false=true) by decide)] at H;exact H
    clear H
    have H:=H1
    clear H1
    replace H:=bS H
    obtain ⟨⟨t876,t877⟩,A210,H⟩:=H
    replace H:(Y8.l0 kj4 a0 1 t876 t877 ([]:List (S95)) a1 a2 a3)=some (r1,r2,r3,r4,r5,r6,r7,r8,r9,r10):=H
    have A21:=aM A210
    clear A210
    have H':=aM H
    clear H
    go_wp2_with (first | ((with_reducible refine gc_ 40 ?_);refine gl_ (some 34) Tryd.func40 #[.int .i64 a0,.int .i64 4] ?_;(with_reducible refine (Y9.calls kj4 a0 4 t876 t877 _ A21.out).mono ?_);rintro e w22 ⟨v878,rfl,ho0,hb⟩;refine ⟨_,rfl,?_⟩;have n0_:=aM (Kd.R_lower ho0 (below_size (z8_ HB.out GE855.out)));have n1_:=aM (blkB_ BK855.out hb);have n2_:=aM (below_step (z8_ HB.out GE855.out) hb);clear BK855;clear HB;have HO879:=n0_;have BK855:=n1_;have HB:=n2_;clear n0_ n1_ n2_;(try clear hb);(try clear ho0);obtain ⟨Ao23,co23,eo23⟩:=Kd.R_slice HO879.out;subst eo23) | ((with_reducible refine gd_ 9 ?_);refine be_ 9 #[.int .i64 0,.slice none 0 0,.slice none 0 0,.slice none 0 0,.int .i64 0,.int .i64 0,.int .i64 0] 56 ?_;intro gb880 hg w24 hbox hb;have n0_:=aM (Kd.R_below (z2_ HO879.out) hb);have n1_:=aM (blkB_ BK855.out hb);have n2_:=aM (below_step (z8_ HB.out GE855.out) hb);have n3_:=aM (hbox);have n4_:=aM ((z13_ HB.out GE855.out:w.heap.size≤gb880));have n5_:=aM ((z13_ HB.out GE855.out:w.heap.size≤gb880));have n6_:=aM (neL_ BK855.out hg);have n7_:=aM (neG_ BK855.out hg);clear HO879;clear BK855;clear HB;have HO879:=n0_;have BK855:=n1_;have HB:=n2_;have BK880:=n3_;have GW880:=n4_;have GE880:=n5_;have NB855_880:=n6_;have NB880_855:=n7_;clear n0_ n1_ n2_ n3_ n4_ n5_ n6_ n7_;clear hb hbox hg;have hnb25:=NB880_855.out;have hnc25:=NB855_880.out;have ⟨hcz26_0,hcz26_1,hcz26_2,hcz26_3,hcz26_4,hcz26_5,hcz26_6,hfz26_0,hfz26_1,hfz26_2,hfz26_3,hfz26_4,hfz26_5,hfz26_6⟩:=cz7_ BK880.out))
    go_loopg [10] kj4 (fun kq v10 w'=>∃ (x10_2:Int) (x881002_2:List (S95)) (u881002:Value),v10 = .int .i64 x10_2∧Aside0 (Y8.l0 kq a0 x10_2 t876 t877 x881002_2 a1 a2 a3=some (r1,r2,r3,r4,r5,r6,r7,r8,r9,r10))∧Aside0 (kq≤kj4)∧Aside0 (Kd.R k77 77 w' w.heap.size (fun _=>True) (.slice Ao23 t877.length co23) t877)∧Aside0 (Kd.R k95 95 w' w.heap.size (fun _=>True) u881002 x881002_2)∧Aside0 (w'.heap[gb855]? = some (.cells #[.int .i64 0,(.slice none 0 0),(.slice none 0 0),(.slice none 0 0),.int .i64 0,.int .i64 0,.int .i64 0,.slice none 0 0,.slice none 0 0,.int .i64 0] 62 (0,0)))∧Aside0 (w'.heap[gb880]? = some (.cells #[.int .i64 t876,(.slice Ao23 t877.length co23),u881002,(.slice none 0 0),.int .i64 a1,.int .i64 a2,.int .i64 a3] 56 (0,0)))∧Aside0 (Below w.heap.size w w'))
    case atStart=>exact ⟨(1),(([]:List (S95))),(.slice none 0 0),(z0_),H',⟨Nat.le_refl _⟩,⟨by (with_reducible repeat (first | apply Kd.R_alloc | apply Kd.R_drewN | apply Kd.R_drew));exact Kd.R_mono (rf7_ (Kd.R_types HO879.out BK880.out (by decide)) (fun _ hk=>hk.2)) (fun _ hk=>trivial)⟩,⟨z16_⟩,⟨by (with_reducible repeat (first | refine blk_drewN ?_ _ | refine blk_drew ?_ | refine blk_alloc ?_ _));refine blk_far ?_ NB855_880.out _;(with_reducible repeat (first | refine blk_drewN ?_ _ | refine blk_drew ?_ | refine blk_alloc ?_ _));refine blk_far ?_ NB855_880.out _;(with_reducible repeat (first | refine blk_drewN ?_ _ | refine blk_drew ?_ | refine blk_alloc ?_ _));refine blk_far ?_ NB855_880.out _;(with_reducible repeat (first | refine blk_drewN ?_ _ | refine blk_drew ?_ | refine blk_alloc ?_ _));refine blk_far ?_ NB855_880.out _;(with_reducible repeat (first | refine blk_drewN ?_ _ | refine blk_drew ?_ | refine blk_alloc ?_ _));refine blk_far ?_ NB855_880.out _;(with_reducible repeat (first | refine blk_drewN ?_ _ | refine blk_drew ?_ | refine blk_alloc ?_ _));refine blk_far ?_ NB855_880.out _;(with_reducible repeat (first | refine blk_drewN ?_ _ | refine blk_drew ?_ | refine blk_alloc ?_ _));refine blk_far ?_ NB855_880.out _;(with_reducible repeat (first | refine blk_drewN ?_ _ | refine blk_drew ?_ | refine blk_alloc ?_ _));exact BK855.out⟩,⟨by (with_reducible repeat (first | refine blk_drewN ?_ _ | refine blk_drew ?_ | refine blk_alloc ?_ _));apply put7_;(with_reducible repeat (first | refine blk_drewN ?_ _ | refine blk_drew ?_ | refine blk_alloc ?_ _));exact BK880.out⟩,⟨z7_ HB.out GE855.out GE880.out⟩⟩
    case round =>
     clear H'
     try clear c1
     try clear c2
     try clear p2
     try clear c3
     try clear c4
     try clear c6
     try clear c8
     try clear c10
     try clear c12
     try clear c14
     try clear c25
     try clear hcz17_0
     try clear hcz17_1
     try clear hcz17_2
     try clear hcz17_3
     try clear hcz17_4
     try clear hcz17_5
     try clear hcz17_6
     try clear hcz17_7
     try clear hcz17_8
     try clear hcz17_9
     try clear hcz26_0
     try clear hcz26_1
     try clear hcz26_2
     try clear hcz26_3
     try clear hcz26_4
     try clear hcz26_5
     try clear hcz26_6
     try clear hfz17_0
     try clear hfz17_1
     try clear hfz17_2
     try clear hfz17_3
     try clear hfz17_4
     try clear hfz17_5
     try clear hfz17_6
     try clear hfz17_7
     try clear hfz17_8
     try clear hfz17_9
     try clear hfz26_0
     try clear hfz26_1
     try clear hfz26_2
     try clear hfz26_3
     try clear hfz26_4
     try clear hfz26_5
     try clear hfz26_6
     try clear p2
     obtain ⟨x10_2,x881002_2,u881002,rfl,HA,HK2,HO_881001,HO_881002,BK855,BK880,HB⟩:=hrel
     cases gk with
     | zero=>exact absurd HA.out (by simp [Y8.l0])
     | succ k2 =>
      have H:=HA.out
      clear HA
      simp only [Y8.l0] at H
      by_cases c27:x10_2≤a0
      ·rw [if_pos c27] at H
       have c27b0:decide (x10_2≤a0)=true:=dE c27
       clear c27
       by_cases c28:x881002_2.length<2513169434916
       ·rw [if_pos c28] at H
        have LMc28:=aM c28
        clear c28
        obtain ⟨y881,hy881⟩:∃ y_:List (S95),y_=(x881002_2 ++ [(⟨x10_2,0,(⟨#[]⟩:ByteArray),0⟩:S95)]):=⟨_,rfl⟩
        replace H:(Y8.l0 k2 a0 (wrap64 (x10_2+1)) t876 t877 y881 a1 a2 a3)=some (r1,r2,r3,r4,r5,r6,r7,r8,r9,r10):=by first | (rw [hy881];with_reducible exact H) | (have H2_:=(Option.bind_some _ _).symm.trans H;rw [hy881];with_reducible exact H2_) | (have H2_:=(Option.bind_some _ _).symm.trans H;with_reducible exact H2_) | with_reducible exact H | (rw [hy881];exact H) | exact H
        have Ny881:=aM hy881
        clear hy881
        have H':=aM H
        clear H
        have hnb29:=NB880_855.out
        have hnc29:=NB855_880.out
        have ⟨hcz30_0,hcz30_1,hcz30_2,hcz30_3,hcz30_4,hcz30_5,hcz30_6,hfz30_0,hfz30_1,hfz30_2,hfz30_3,hfz30_4,hfz30_5,hfz30_6⟩:=cz7_ BK880.out
        go_wp2_with (first | ((with_reducible refine gate_builtin (b:=.append) (xs:=#[.tmp 45,.tmp 48]) rfl ?_);at_builtin;refine Kd.R_append k95 (w0:=w) w.heap.size rfl (.tmp 45) (.tmp 48) 54 95 (.agg #[(.int .i64 0),(.slice none 0 0),(.string ⟨#[]⟩),(.int .i64 0)]) 56 rfl Tryd.underlying54 info95 rfl (by decide) (by omega) u881002 x881002_2 (⟨x10_2,0,(⟨#[]⟩:ByteArray),0⟩:S95) [.int .i64 x10_2,.slice none 0 0,.string (⟨#[]⟩:ByteArray),.int .i64 0] (fun _=>True) (fun _=>False) rfl rfl ?aP (fun _ hk=>hk.elim) ?aF ?aO ?aB ?aS ?aL ?_;(case aP=>exact k95_mkM _ _ _ (⟨x10_2,0,(⟨#[]⟩:ByteArray),0⟩:S95));(case aB=>exact (z7_ HB.out GE855.out GE880.out));(case aF=>exact (fun _ _=>trivial));(case aO=>exact (z2_ HO_881002.out));(case aS=>exact (below_size (z7_ HB.out GE855.out GE880.out)));(case aL=>have:=LMc28.out;omega);intro v882 w31 ho hb hg hat;rw [← Ny881.out] at ho;have n0_:=aM (Kd.R_over' (z2_ HO_881001.out) (Kd.R_typed (z2_ HO_881002.out)) (by decide) hg);have n1_:=aM (blk_grown (g:=gb855) (o:=.cells #[.int .i64 0,.slice none 0 0,.slice none 0 0,.slice none 0 0,.int .i64 0,.int .i64 0,.int .i64 0,.slice none 0 0,.slice none 0 0,.int .i64 0] 62 (0,0)) (z4_ BK855.out) hg (Kd.R_ne HO_881002.out BK855.out (by decide)));have n2_:=aM (blk_grown (g:=gb880) (o:=.cells #[.int .i64 t876,.slice Ao23 t877.length co23,u881002,.slice none 0 0,.int .i64 a1,.int .i64 a2,.int .i64 a3] 56 (0,0)) (z4_ BK880.out) hg (Kd.R_ne HO_881002.out BK880.out (by decide)));have n3_:=aM (hb);have n4_:=aM (ho);clear HO_881001;clear BK855;clear BK880;clear HB;clear HO_881002;have HO_881001:=n0_;have BK855:=n1_;have BK880:=n2_;have HB:=n3_;have HO883:=n4_;clear n0_ n1_ n2_ n3_ n4_;clear ho hb hg hat;obtain ⟨Ao32,co32,eo32⟩:=Kd.R_slice HO883.out;subst eo32;have ⟨hcz33_0,hcz33_1,hcz33_2,hcz33_3,hcz33_4,hcz33_5,hcz33_6,hfz33_0,hfz33_1,hfz33_2,hfz33_3,hfz33_4,hfz33_5,hfz33_6⟩:=cz7_ BK880.out))
        go_roundg k2
        case measure=>have:=HJ4.out;have:=HK2.out;omega
        case rel=>exact ⟨(wrap64 (x10_2+1)),(y881),(.slice Ao32 y881.length co32),(z0_),H',⟨by have:=HJ4.out;have:=HK2.out;omega⟩,⟨by (with_reducible repeat (first | apply Kd.R_alloc | apply Kd.R_drewN | apply Kd.R_drew));exact Kd.R_mono (Kd.R_far (p:=⟨gb880,2,none⟩) (Kd.R_types HO_881001.out BK880.out (by decide)) (fun _ hk=>hk.2) (.slice Ao32 y881.length co32)) (fun _ hk=>trivial)⟩,⟨by (with_reducible repeat (first | apply Kd.R_alloc | apply Kd.R_drewN | apply Kd.R_drew));exact Kd.R_mono (Kd.R_far (p:=⟨gb880,2,none⟩) (Kd.R_types HO883.out BK880.out (by decide)) (fun _ hk=>hk.2) (.slice Ao32 y881.length co32)) (fun _ hk=>trivial)⟩,⟨z32_ NB855_880.out BK855.out⟩,⟨by (with_reducible repeat (first | refine blk_drewN ?_ _ | refine blk_drew ?_ | refine blk_alloc ?_ _));refine blk_put (cs:=#[.int .i64 t876,.slice Ao23 t877.length co23,u881002,.slice none 0 0,.int .i64 a1,.int .i64 a2,.int .i64 a3]) ?_ 2 _ rfl;(with_reducible repeat (first | refine blk_drewN ?_ _ | refine blk_drew ?_ | refine blk_alloc ?_ _));exact BK880.out⟩,⟨z7_ HB.out GE855.out GE880.out⟩⟩
       ·rw [if_neg c28] at H
        exact nO H
      ·rw [if_neg c27] at H
       have c27b0:decide (x10_2≤a0)=false:=dF c27
       clear c27
       simp only [Option.some.injEq,Prod.mk.injEq] at H
       obtain ⟨rfl,rfl,rfl,rfl,rfl,rfl,rfl,rfl,rfl,rfl⟩:=H
       have hnb34:=NB880_855.out
       have hnc34:=NB855_880.out
       have ⟨hcz35_0,hcz35_1,hcz35_2,hcz35_3,hcz35_4,hcz35_5,hcz35_6,hfz35_0,hfz35_1,hfz35_2,hfz35_3,hfz35_4,hfz35_5,hfz35_6⟩:=cz7_ BK880.out
       obtain ⟨Ao36,co36,eo36⟩:=Kd.R_slice HO_881002.out
       subst eo36
       have ⟨hcz37_0,hcz37_1,hcz37_2,hcz37_3,hcz37_4,hcz37_5,hcz37_6,hcz37_7,hcz37_8,hcz37_9,hfz37_0,hfz37_1,hfz37_2,hfz37_3,hfz37_4,hfz37_5,hfz37_6,hfz37_7,hfz37_8,hfz37_9⟩:=cz10_ BK855.out
       go_wp2
       refine bodyPost_ret (results_cell_row rfl _ _ gb855 62 #[.int .i64 t876,.slice Ao23 t877.length co23,.slice Ao36 x881002_2.length co36,.slice none 0 0,.int .i64 a1,.int .i64 a2,.int .i64 a3,.slice none 0 0,.slice none 0 0,.int .i64 0] (0,0) _ rfl (z23_ BK855.out) Tryd.underlying62 rfl (by kernel_rfl)) rfl ?_
       exact ⟨_,_,_,z9_,z25_ HO_881001.out BK855.out,z25_ HO_881002.out BK855.out,z16_,z7_ HB.out GE855.out GE880.out⟩


/-! ### Y31: function 42 -/
def Y31.f (a0:Int) (a1:Int) (a2:Int):Option (Bool):=if a1≤a0 then (some (decide (a0≤a2))) else (some false)
theorem Y31.calls (a0:Int) (a1:Int) (a2:Int) (r:Bool) (w:World) (h:Y31.f a0 a1 a2=some r) :
  Calls Tryd.prog 42 #[.int .i64 a0,.int .i64 a1,.int .i64 a2] w fun e w'=>e = .returned (.bool r)∧Drawn0 w w':=by
 have H:(if a1≤a0 then (some (decide (a0≤a2))) else (some false))=some r:=h
 clear h
 by_cases c4:a1≤a0
 ·rw [if_pos c4] at H
  have c4b0:decide (a1≤a0)=true:=dE c4
  clear c4
  obtain rfl:=sI H
  go_enter Tryd.func42,Tryd.ntmps42
  go_wp2
  go_ret
  exact ⟨z0_,z6_⟩
 ·rw [if_neg c4] at H
  have c4b0:decide (a1≤a0)=false:=dF c4
  clear c4
  obtain rfl:=sI H
  go_enter Tryd.func42,Tryd.ntmps42
  go_wp2
  go_ret
  exact ⟨z0_,z6_⟩


/-! ### Y70: function 41 -/
def Y70.f (a0:Int):Option (Bool):=(Y31.f a0 1 5).bind fun t144=>(some t144)
theorem Y70.calls (a0:Int) (r:Bool) (w:World) (h:Y70.f a0=some r) :
  Calls Tryd.prog 41 #[.int .i64 a0] w fun e w'=>e = .returned (.bool r)∧Drawn0 w w':=by
 have H:((Y31.f a0 1 5).bind fun t144=>(some t144))=some r:=h
 clear h
 replace H:=bS H
 obtain ⟨t144,A20,H⟩:=H
 replace H:(some t144)=some r:=H
 have A2:=aM A20
 clear A20
 obtain rfl:=sI H
 go_enter Tryd.func41,Tryd.ntmps41
 go_wp2_with (first | ((with_reducible refine gc_ 42 ?_);refine gl_ (some 4) Tryd.func42 #[.int .i64 a0,.int .i64 1,.int .i64 5] ?_;(with_reducible refine (Y31.calls a0 1 5 t144 _ A2.out).mono ?_);rintro e w' ⟨rfl,⟨nd,rfl⟩⟩;refine ⟨_,rfl,?_⟩))
 go_ret
 exact ⟨z0_,z6_⟩


/-! ### Y54: function 75 -/
def Y54.l0:Nat→ByteArray→Int→Int→Int→Option (Int)
 | 0,_,_,_,_=>none
 | k+1,x0,x3,x6,x7=>if x7<x6 then (if 0≤x7 then (if x7<(x0.size:Int) then (Y54.l0 k x0 (((Go.bits .xor .u32 x3 ((bt x0 x7) % 4294967296))*16777619) % 4294967296) x6 (wrap64 (x7+1))) else (none)) else (none)) else (some (wrap64 (x3)))
def Y54.f (k:Nat) (a0:ByteArray):Option (Int):=Y54.l0 k a0 2166136261 (a0.size:Int) 0
theorem Y54.mono_l:∀ k,(∀ y0 y1 y2 y3,LeO (Y54.l0 k y0 y1 y2 y3) (Y54.l0 (k+1) y0 y1 y2 y3))
 | 0=>by intros <;> exact LeO.none _
 | k+1=>by
  have ih0:=Y54.mono_l k
  ·intros
   unfold Y54.l0
   exact mO
theorem Y54.mono:∀ a0 k,LeO (Y54.f k a0) (Y54.f (k+1) a0):=by
 intro a0 k
 have ih0:=Y54.mono_l k
 unfold Y54.f
 exact mO
theorem Y54.calls (k:Nat) (a0:ByteArray) (r:Int) (w:World) (h:Y54.f k a0=some r) :
  Calls Tryd.prog 75 #[.string a0] w fun e w'=>e = .returned (.int .i64 r)∧Drawn0 w w':=by
 have H:(Y54.l0 k a0 2166136261 (a0.size:Int) 0)=some r:=h
 clear h
 have H':=aM H
 clear H
 go_enter Tryd.func75,Tryd.ntmps75
 go_wp2
 go_loopg [3,7] k (fun kq v3 v7 w'=>∃ (x3_1:Int) (x7_1:Int),v3 = .int .u32 x3_1∧v7 = .int .i64 x7_1∧Aside0 (Y54.l0 kq a0 x3_1 (a0.size:Int) x7_1=some r)∧Aside0 (kq≤k)∧Drawn0 w w')
 case atStart=>exact ⟨(2166136261),(0),(z0_),(z0_),H',⟨Nat.le_refl _⟩,z6_⟩
 case round =>
  clear H'
  obtain ⟨x3_1,x7_1,rfl,rfl,HA,HK1,⟨m1,rfl⟩⟩:=hrel
  cases gk with
  | zero=>exact absurd HA.out (by simp [Y54.l0])
  | succ k1 =>
   have H:=HA.out
   clear HA
   simp only [Y54.l0] at H
   by_cases c2:x7_1<(a0.size:Int)
   ·rw [if_pos c2] at H
    have c2b0:decide (x7_1<(a0.size:Int))=true:=dE c2
    clear c2
    by_cases c3:0≤x7_1
    ·rw [if_pos c3] at H
     have c3b0:decide (0≤x7_1)=true:=dE c3
     clear c3
     by_cases c4:x7_1<(a0.size:Int)
     ·rw [if_pos c4] at H
      have c4b0:decide (x7_1<(a0.size:Int))=true:=dE c4
      clear c4
      have H':=aM H
      clear H
      have p5:0≤(x7_1:Int):=dT (z1_)
      have q5:x7_1<(a0.size:Int):=dT (z1_)
      have hx5:=bt_at a0 x7_1
      replace p5:=eq_true p5
      replace q5:=eq_true q5
      go_wp2
      go_roundg k1
      case measure=>have:=HK1.out;omega
      case rel=>exact ⟨(((Go.bits .xor .u32 x3_1 ((bt a0 x7_1) % 4294967296))*16777619) % 4294967296),(wrap64 (x7_1+1)),(z0_),(z0_),H',⟨by have:=HK1.out;omega⟩,z6_⟩
     ·rw [if_neg c4] at H
      exact nO H
    ·rw [if_neg c3] at H
     exact nO H
   ·rw [if_neg c2] at H
    have c2b0:decide (x7_1<(a0.size:Int))=false:=dF c2
    clear c2
    obtain rfl:=sI H
    go_wp2
    go_ret
    exact ⟨z0_,z6_⟩


/-! ### Y76: function 134 -/
def Y76.f (a0:Int):Option (ByteArray):=if a0<10 then (if 0≤a0 then (if a0≤(wrap64 (a0+1)) then (if (wrap64 (a0+1))≤36 then (some ((⟨#[48,49,50,51,52,53,54,55,56,57,97,98,99,100,101,102,103,104,105,106,107,108,109,110,111,112,113,114,115,116,117,118,119,120,121,122]⟩:ByteArray).extract (a0:Int).toNat ((wrap64 (a0+1)):Int).toNat)) else (none)) else (none)) else (none)) else (if 0≤(wrap64 (a0*2)) then (if (wrap64 (a0*2))≤(wrap64 ((wrap64 (a0*2))+2)) then (if (wrap64 ((wrap64 (a0*2))+2))≤200 then (some ((⟨#[48,48,48,49,48,50,48,51,48,52,48,53,48,54,48,55,48,56,48,57,49,48,49,49,49,50,49,51,49,52,49,53,49,54,49,55,49,56,49,57,50,48,50,49,50,50,50,51,50,52,50,53,50,54,50,55,50,56,50,57,51,48,51,49,51,50,51,51,51,52,51,53,51,54,51,55,51,56,51,57,52,48,52,49,52,50,52,51,52,52,52,53,52,54,52,55,52,56,52,57,53,48,53,49,53,50,53,51,53,52,53,53,53,54,53,55,53,56,53,57,54,48,54,49,54,50,54,51,54,52,54,53,54,54,54,55,54,56,54,57,55,48,55,49,55,50,55,51,55,52,55,53,55,54,55,55,55,56,55,57,56,48,56,49,56,50,56,51,56,52,56,53,56,54,56,55,56,56,56,57,57,48,57,49,57,50,57,51,57,52,57,53,57,54,57,55,57,56,57,57]⟩:ByteArray).extract ((wrap64 (a0*2)):Int).toNat ((wrap64 ((wrap64 (a0*2))+2)):Int).toNat)) else (none)) else (none)) else (none))
theorem Y76.calls (a0:Int) (r:ByteArray) (w:World) (h:Y76.f a0=some r) :
  Calls Tryd.prog 134 #[.int .i64 a0] w fun e w'=>e = .returned (.string r)∧Drawn0 w w':=by
 have H:(if a0<10 then (if 0≤a0 then (if a0≤(wrap64 (a0+1)) then (if (wrap64 (a0+1))≤36 then (some ((⟨#[48,49,50,51,52,53,54,55,56,57,97,98,99,100,101,102,103,104,105,106,107,108,109,110,111,112,113,114,115,116,117,118,119,120,121,122]⟩:ByteArray).extract (a0:Int).toNat ((wrap64 (a0+1)):Int).toNat)) else (none)) else (none)) else (none)) else (if 0≤(wrap64 (a0*2)) then (if (wrap64 (a0*2))≤(wrap64 ((wrap64 (a0*2))+2)) then (if (wrap64 ((wrap64 (a0*2))+2))≤200 then (some ((⟨#[48,48,48,49,48,50,48,51,48,52,48,53,48,54,48,55,48,56,48,57,49,48,49,49,49,50,49,51,49,52,49,53,49,54,49,55,49,56,49,57,50,48,50,49,50,50,50,51,50,52,50,53,50,54,50,55,50,56,50,57,51,48,51,49,51,50,51,51,51,52,51,53,51,54,51,55,51,56,51,57,52,48,52,49,52,50,52,51,52,52,52,53,52,54,52,55,52,56,52,57,53,48,53,49,53,50,53,51,53,52,53,53,53,54,53,55,53,56,53,57,54,48,54,49,54,50,54,51,54,52,54,53,54,54,54,55,54,56,54,57,55,48,55,49,55,50,55,51,55,52,55,53,55,54,55,55,55,56,55,57,56,48,56,49,56,50,56,51,56,52,56,53,56,54,56,55,56,56,56,57,57,48,57,49,57,50,57,51,57,52,57,53,57,54,57,55,57,56,57,57]⟩:ByteArray).extract ((wrap64 (a0*2)):Int).toNat ((wrap64 ((wrap64 (a0*2))+2)):Int).toNat)) else (none)) else (none)) else (none)))=some r:=h
 clear h
 by_cases c2:a0<10
 ·rw [if_pos c2] at H
  have c2b0:decide (a0<10)=true:=dE c2
  clear c2
  by_cases c3:0≤a0
  ·rw [if_pos c3] at H
   have c3b0:=eq_true c3
   have c3b1:decide (0≤a0)=true:=dE c3
   clear c3
   by_cases c4:a0≤(wrap64 (a0+1))
   ·rw [if_pos c4] at H
    have c4b0:=eq_true c4
    have c4b1:decide (a0≤(wrap64 (a0+1)))=true:=dE c4
    by_cases c5:(wrap64 (a0+1))≤36
    ·rw [if_pos c5] at H
     have c5b0:=eq_true c5
     have c5b1:decide ((wrap64 (a0+1))≤36)=true:=dE c5
     obtain rfl:=sI H
     go_enter Tryd.func134,Tryd.ntmps134
     go_wp2
     go_ret
     exact ⟨z0_,z6_⟩
    ·rw [if_neg c5] at H
     exact nO H
   ·rw [if_neg c4] at H
    exact nO H
  ·rw [if_neg c3] at H
   exact nO H
 ·rw [if_neg c2] at H
  have c2b0:decide (a0<10)=false:=dF c2
  clear c2
  obtain ⟨ji6,hji6⟩:∃ j_:Int,(wrap64 (a0*2))=j_:=⟨_,rfl⟩
  replace H:(if 0≤(ji6) then (if (ji6)≤(wrap64 ((ji6)+2)) then (if (wrap64 ((ji6)+2))≤200 then (some ((⟨#[48,48,48,49,48,50,48,51,48,52,48,53,48,54,48,55,48,56,48,57,49,48,49,49,49,50,49,51,49,52,49,53,49,54,49,55,49,56,49,57,50,48,50,49,50,50,50,51,50,52,50,53,50,54,50,55,50,56,50,57,51,48,51,49,51,50,51,51,51,52,51,53,51,54,51,55,51,56,51,57,52,48,52,49,52,50,52,51,52,52,52,53,52,54,52,55,52,56,52,57,53,48,53,49,53,50,53,51,53,52,53,53,53,54,53,55,53,56,53,57,54,48,54,49,54,50,54,51,54,52,54,53,54,54,54,55,54,56,54,57,55,48,55,49,55,50,55,51,55,52,55,53,55,54,55,55,55,56,55,57,56,48,56,49,56,50,56,51,56,52,56,53,56,54,56,55,56,56,56,57,57,48,57,49,57,50,57,51,57,52,57,53,57,54,57,55,57,56,57,57]⟩:ByteArray).extract ((ji6):Int).toNat ((wrap64 ((ji6)+2)):Int).toNat)) else (none)) else (none)) else (none))=some r:=by first | (rw [hji6] at H;exact H) | (simp only [hji6] at H ⊢;exact H)
  have hji6w:(IntKind.i64.wrap (a0*2))=ji6:=(i64_w _).trans hji6
  by_cases c7:0≤(ji6)
  ·rw [if_pos c7] at H
   have c7b0:=eq_true c7
   have c7b1:decide (0≤(ji6))=true:=dE c7
   clear c7
   by_cases c8:(ji6)≤(wrap64 ((ji6)+2))
   ·rw [if_pos c8] at H
    have c8b0:=eq_true c8
    have c8b1:decide ((ji6)≤(wrap64 ((ji6)+2)))=true:=dE c8
    by_cases c9:(wrap64 ((ji6)+2))≤200
    ·rw [if_pos c9] at H
     have c9b0:=eq_true c9
     have c9b1:decide ((wrap64 ((ji6)+2))≤200)=true:=dE c9
     obtain rfl:=sI H
     go_enter Tryd.func134,Tryd.ntmps134
     go_wp2
     go_ret
     exact ⟨by first | rfl | (simp;done) | (simp only [← hji6] <;> (first | rfl | simp)) | (simp [*];done),z6_⟩
    ·rw [if_neg c9] at H
     exact nO H
   ·rw [if_neg c8] at H
    exact nO H
  ·rw [if_neg c7] at H
   exact nO H


/-! ### Y18: function 121 -/
def Y18.j0:Nat→Int→Bool→Option (ByteArray)
 | 0,_,_=>none
 | k+1,x0,x17=>if x17=true then ((Y76.f x0).bind fun t145=>(some t145)) else (none)
def Y18.f (k:Nat) (a0:Int) (a1:Int):Option (ByteArray):=if a1=10 then (if 0≤a0 then (Y18.j0 k a0 (decide (a0<100))) else (Y18.j0 k a0 false)) else (none)
theorem Y18.mono_l:∀ k,(∀ y0 y1,LeO (Y18.j0 k y0 y1) (Y18.j0 (k+1) y0 y1))
 | 0=>by intros <;> exact LeO.none _
 | k+1=>by
  have ih0:=Y18.mono_l k
  ·intros
   unfold Y18.j0
   exact mO
theorem Y18.mono:∀ a0 a1 k,LeO (Y18.f k a0 a1) (Y18.f (k+1) a0 a1):=by
 intro a0 a1 k
 have ih0:=Y18.mono_l k
 unfold Y18.f
 exact mO
theorem Y18.calls (k:Nat) (a0:Int) (a1:Int) (r:ByteArray) (w:World) (h:Y18.f k a0 a1=some r) :
  Calls Tryd.prog 121 #[.int .i64 a0,.int .i64 a1] w fun e w'=>e = .returned (.string r)∧Drawn0 w w':=by
 have H:(if a1=10 then (if 0≤a0 then (Y18.j0 k a0 (decide (a0<100))) else (Y18.j0 k a0 false)) else (none))=some r:=h
 clear h
 by_cases c3:a1=10
 ·rw [if_pos c3] at H
  have c3b0:(a1 == 10)=true:=beq_iff_eq.mpr c3
  have c3b1:(a1 != 10)=false:=bne_eq_false_iff_eq.mpr c3
  clear c3
  have HC4:=aM H
  clear H
  go_enter Tryd.func121,Tryd.ntmps121
  go_upto_region 2 with (fail)
  go_cut [17] (fun v17 wc=>∃ (kq:Nat) (x17_3:Bool),v17 = .bool x17_3∧Aside0 (Y18.j0 kq a0 x17_3=some r)∧Aside0 (kq≤k)∧Drawn0 w wc)
  case first =>
   have H:=HC4.out
   clear HC4
   by_cases c5:0≤a0
   ·rw [if_pos c5] at H
    have c5b0:decide (0≤a0)=true:=dE c5
    clear c5
    (first | rw [c5b0] | (simp only [i64_w,i32_w];rw [c5b0]) | skip)
    have H':=aM H
    clear H
    go_wp2
    go_meet
    case rel=>exact ⟨_,(decide (a0<100)),(z0_),H',⟨by first | omega | exact Nat.le_refl _⟩,z6_⟩
   ·rw [if_neg c5] at H
    have c5b0:decide (0≤a0)=false:=dF c5
    clear c5
    (first | rw [c5b0] | (simp only [i64_w,i32_w];rw [c5b0]) | skip)
    have H':=aM H
    clear H
    go_wp2
    go_meet
    case rel=>exact ⟨_,(false),(z0_),H',⟨by first | omega | exact Nat.le_refl _⟩,z6_⟩
  case rest =>
   clear HC4
   try clear c1
   try clear p2
   try clear c3
   try clear c3b0
   try clear c3b1
   try clear c5
   try clear c5b0
   obtain ⟨kq,x17_3,rfl,HA,HJ3,⟨mc3,rfl⟩⟩:=hcut
   cases kq with
   | zero=>exact absurd HA.out (by simp [Y18.j0])
   | succ kj3 =>
    have H:=HA.out
    clear HA
    simp only [Y18.j0] at H
    by_cases c6:x17_3=true
    ·subst c6
     have H1:((Y76.f a0).bind fun t145=>(some t145))=some r:=by rw [if_pos rfl] at H;exact H
     clear H
     have H:=H1
     clear H1
     replace H:=bS H
     obtain ⟨t145,A70,H⟩:=H
     replace H:(some t145)=some r:=H
     have A7:=aM A70
     clear A70
     obtain rfl:=sI H
     go_wp2_with (first | ((with_reducible refine gc_ 134 ?_);refine gl_ (some 19) Tryd.func134 #[.int .i64 a0] ?_;(with_reducible refine (Y76.calls a0 t145 _ A7.out).mono ?_);rintro e w' ⟨rfl,⟨nd,rfl⟩⟩;refine ⟨_,rfl,?_⟩))
     go_ret
     exact ⟨z0_,z6_⟩
    ·replace c6:=Bool.eq_false_iff.mpr c6
     subst c6
     have H1:(none)=some r:=by rw [if_neg (show ¬ (false=true) by decide)] at H;exact H
     clear H
     have H:=H1
     clear H1
     exact nO H
 ·rw [if_neg c3] at H
  exact nO H


/-! ### Y51: function 106 -/
def Y51.f (k:Nat) (a0:Int) (a1:Int):Option (ByteArray):=(Y18.f k a0 a1).bind fun t146=>(some t146)
theorem Y51.mono:∀ a0 a1 k,LeO (Y51.f k a0 a1) (Y51.f (k+1) a0 a1):=by
 intro a0 a1 k
 have m0:=@Y18.mono
 unfold Y51.f
 exact mO
theorem Y51.calls (k:Nat) (a0:Int) (a1:Int) (r:ByteArray) (w:World) (h:Y51.f k a0 a1=some r) :
  Calls Tryd.prog 106 #[.int .i64 a0,.int .i64 a1] w fun e w'=>e = .returned (.string r)∧Drawn0 w w':=by
 have H:((Y18.f k a0 a1).bind fun t146=>(some t146))=some r:=h
 clear h
 replace H:=bS H
 obtain ⟨t146,A30,H⟩:=H
 replace H:(some t146)=some r:=H
 have A3:=aM A30
 clear A30
 obtain rfl:=sI H
 go_enter Tryd.func106,Tryd.ntmps106
 go_wp2_with (first | ((with_reducible refine gc_ 121 ?_);refine gl_ (some 7) Tryd.func121 #[.int .i64 a0,.int .i64 a1] ?_;(with_reducible refine (Y18.calls k a0 a1 t146 _ A3.out).mono ?_);rintro e w' ⟨rfl,⟨nd,rfl⟩⟩;refine ⟨_,rfl,?_⟩))
 go_ret
 exact ⟨z0_,z6_⟩


/-! ### Y62: function 76 -/
def Y62.f (k:Nat) (a0:Int):Option (ByteArray):=(Y51.f k a0 10).bind fun t147=>(some t147)
theorem Y62.mono:∀ a0 k,LeO (Y62.f k a0) (Y62.f (k+1) a0):=by
 intro a0 k
 have m0:=@Y51.mono
 unfold Y62.f
 exact mO
theorem Y62.calls (k:Nat) (a0:Int) (r:ByteArray) (w:World) (h:Y62.f k a0=some r) :
  Calls Tryd.prog 76 #[.int .i64 a0] w fun e w'=>e = .returned (.string r)∧Drawn0 w w':=by
 have H:((Y51.f k a0 10).bind fun t147=>(some t147))=some r:=h
 clear h
 replace H:=bS H
 obtain ⟨t147,A20,H⟩:=H
 replace H:(some t147)=some r:=H
 have A2:=aM A20
 clear A20
 obtain rfl:=sI H
 go_enter Tryd.func76,Tryd.ntmps76
 go_wp2_with (first | ((with_reducible refine gc_ 106 ?_);refine gl_ (some 4) Tryd.func106 #[.int .i64 a0,.int .i64 10] ?_;(with_reducible refine (Y51.calls k a0 10 t147 _ A2.out).mono ?_);rintro e w' ⟨rfl,⟨nd,rfl⟩⟩;refine ⟨_,rfl,?_⟩))
 go_ret
 exact ⟨z0_,z6_⟩


/-! ### Y39: function 131 -/
mutual
def Y39.j0:Nat→Int→Int→Option (Int)
 | 0,_,_=>none
 | k+1,x0,x2=>if x0≥65536 then (Y39.j1 k (x0 / 65536) (wrap64 (x2+16))) else (Y39.j1 k x0 x2)
def Y39.j1:Nat→Int→Int→Option (Int)
 | 0,_,_=>none
 | k+1,x0,x2=>if x0≥256 then (if 0≤((x0 / 256) % 256) then (if ((x0 / 256) % 256)<256 then (some (wrap64 ((wrap64 (x2+8))+(wrap64 (bt (⟨#[0,1,2,2,3,3,3,3,4,4,4,4,4,4,4,4,5,5,5,5,5,5,5,5,5,5,5,5,5,5,5,5,6,6,6,6,6,6,6,6,6,6,6,6,6,6,6,6,6,6,6,6,6,6,6,6,6,6,6,6,6,6,6,6,7,7,7,7,7,7,7,7,7,7,7,7,7,7,7,7,7,7,7,7,7,7,7,7,7,7,7,7,7,7,7,7,7,7,7,7,7,7,7,7,7,7,7,7,7,7,7,7,7,7,7,7,7,7,7,7,7,7,7,7,7,7,7,7,8,8,8,8,8,8,8,8,8,8,8,8,8,8,8,8,8,8,8,8,8,8,8,8,8,8,8,8,8,8,8,8,8,8,8,8,8,8,8,8,8,8,8,8,8,8,8,8,8,8,8,8,8,8,8,8,8,8,8,8,8,8,8,8,8,8,8,8,8,8,8,8,8,8,8,8,8,8,8,8,8,8,8,8,8,8,8,8,8,8,8,8,8,8,8,8,8,8,8,8,8,8,8,8,8,8,8,8,8,8,8,8,8,8,8,8,8,8,8,8,8,8,8,8,8,8,8,8]⟩:ByteArray) ((x0 / 256) % 256)))))) else (none)) else (none)) else (if 0≤((x0) % 256) then (if ((x0) % 256)<256 then (some (wrap64 (x2+(wrap64 (bt (⟨#[0,1,2,2,3,3,3,3,4,4,4,4,4,4,4,4,5,5,5,5,5,5,5,5,5,5,5,5,5,5,5,5,6,6,6,6,6,6,6,6,6,6,6,6,6,6,6,6,6,6,6,6,6,6,6,6,6,6,6,6,6,6,6,6,7,7,7,7,7,7,7,7,7,7,7,7,7,7,7,7,7,7,7,7,7,7,7,7,7,7,7,7,7,7,7,7,7,7,7,7,7,7,7,7,7,7,7,7,7,7,7,7,7,7,7,7,7,7,7,7,7,7,7,7,7,7,7,7,8,8,8,8,8,8,8,8,8,8,8,8,8,8,8,8,8,8,8,8,8,8,8,8,8,8,8,8,8,8,8,8,8,8,8,8,8,8,8,8,8,8,8,8,8,8,8,8,8,8,8,8,8,8,8,8,8,8,8,8,8,8,8,8,8,8,8,8,8,8,8,8,8,8,8,8,8,8,8,8,8,8,8,8,8,8,8,8,8,8,8,8,8,8,8,8,8,8,8,8,8,8,8,8,8,8,8,8,8,8,8,8,8,8,8,8,8,8,8,8,8,8,8,8,8,8,8,8]⟩:ByteArray) ((x0) % 256)))))) else (none)) else (none))
end
def Y39.f (k:Nat) (a0:Int):Option (Int):=if a0≥4294967296 then (Y39.j0 k (a0 / 4294967296) 32) else (Y39.j0 k a0 0)
theorem Y39.mono_l:∀ k,(∀ y0 y1,LeO (Y39.j0 k y0 y1) (Y39.j0 (k+1) y0 y1))∧(∀ y0 y1,LeO (Y39.j1 k y0 y1) (Y39.j1 (k+1) y0 y1))
 | 0=>by refine ⟨?_,?_⟩ <;> intros <;> exact LeO.none _
 | k+1=>by
  obtain ⟨ih0,ih1⟩:=Y39.mono_l k
  refine ⟨?_,?_⟩
  ·intros
   unfold Y39.j0
   exact mO
  ·intros
   unfold Y39.j1
   exact mO
theorem Y39.mono:∀ a0 k,LeO (Y39.f k a0) (Y39.f (k+1) a0):=by
 intro a0 k
 obtain ⟨ih0,ih1⟩:=Y39.mono_l k
 unfold Y39.f
 exact mO
theorem Y39.calls (k:Nat) (a0:Int) (r:Int) (w:World) (h:Y39.f k a0=some r) :
  Calls Tryd.prog 131 #[.int .u64 a0] w fun e w'=>e = .returned (.int .i64 r)∧Drawn0 w w':=by
 have H:(if a0≥4294967296 then (Y39.j0 k (a0 / 4294967296) 32) else (Y39.j0 k a0 0))=some r:=h
 clear h
 have HC2:=aM H
 clear H
 go_enter Tryd.func131,Tryd.ntmps131
 go_upto_if 4 with (fail)
 go_cut [0,2] (fun v0 v2 wc=>∃ (kq:Nat) (x0_1:Int) (x2_1:Int),v0 = .int .u64 x0_1∧v2 = .int .i64 x2_1∧Aside0 (Y39.j0 kq x0_1 x2_1=some r)∧Aside0 (kq≤k)∧Drawn0 w wc)
 case first =>
  have H:=HC2.out
  clear HC2
  by_cases c3:a0≥4294967296
  ·rw [if_pos c3] at H
   have c3b0:decide (4294967296≤a0)=true:=dE c3
   clear c3
   (first | rw [c3b0] | (simp only [i64_w,i32_w];rw [c3b0]) | skip)
   have H':=aM H
   clear H
   go_wp2
   go_meet
   case rel=>exact ⟨_,(a0 / 4294967296),(32),(z0_),(z0_),H',⟨by first | omega | exact Nat.le_refl _⟩,z6_⟩
  ·rw [if_neg c3] at H
   have c3b0:decide (4294967296≤a0)=false:=dF c3
   clear c3
   (first | rw [c3b0] | (simp only [i64_w,i32_w];rw [c3b0]) | skip)
   have H':=aM H
   clear H
   go_wp2
   go_meet
   case rel=>exact ⟨_,(a0),(0),(z0_),(z0_),H',⟨by first | omega | exact Nat.le_refl _⟩,z6_⟩
 case rest =>
  clear HC2
  try clear c1
  try clear p2
  try clear c3
  try clear c3b0
  obtain ⟨kq,x0_1,x2_1,rfl,rfl,HA,HJ1,⟨mc1,rfl⟩⟩:=hcut
  cases kq with
  | zero=>exact absurd HA.out (by simp [Y39.j0])
  | succ kj1 =>
   have H:=HA.out
   clear HA
   simp only [Y39.j0] at H
   have HC4:=aM H
   clear H
   go_upto_if 8 with (fail)
   go_cut [0,2] (fun v0 v2 wc=>∃ (kq:Nat) (x0_3:Int) (x2_3:Int),v0 = .int .u64 x0_3∧v2 = .int .i64 x2_3∧Aside0 (Y39.j1 kq x0_3 x2_3=some r)∧Aside0 (kq≤kj1)∧Drawn0 w wc)
   case first =>
    have H:=HC4.out
    clear HC4
    by_cases c5:x0_1≥65536
    ·rw [if_pos c5] at H
     have c5b0:decide (65536≤x0_1)=true:=dE c5
     clear c5
     (first | rw [c5b0] | (simp only [i64_w,i32_w];rw [c5b0]) | skip)
     have H':=aM H
     clear H
     go_wp2
     go_meet
     case rel=>exact ⟨_,(x0_1 / 65536),(wrap64 (x2_1+16)),(z0_),(z0_),H',⟨by have:=HJ1.out;first | omega | exact Nat.le_refl _⟩,z6_⟩
    ·rw [if_neg c5] at H
     have c5b0:decide (65536≤x0_1)=false:=dF c5
     clear c5
     (first | rw [c5b0] | (simp only [i64_w,i32_w];rw [c5b0]) | skip)
     have H':=aM H
     clear H
     go_wp2
     go_meet
     case rel=>exact ⟨_,(x0_1),(x2_1),(z0_),(z0_),H',⟨by have:=HJ1.out;first | omega | exact Nat.le_refl _⟩,z6_⟩
   case rest =>
    clear HC4
    try clear c1
    try clear p2
    try clear c3
    try clear c3b0
    try clear c5
    try clear c5b0
    try clear p2
    obtain ⟨kq,x0_3,x2_3,rfl,rfl,HA,HJ3,⟨mc3,rfl⟩⟩:=hcut
    cases kq with
    | zero=>exact absurd HA.out (by simp [Y39.j1])
    | succ kj3 =>
     have H:=HA.out
     clear HA
     simp only [Y39.j1] at H
     by_cases c6:x0_3≥256
     ·rw [if_pos c6] at H
      have c6b0:decide (256≤x0_3)=true:=dE c6
      clear c6
      obtain ⟨ji7,hji7⟩:∃ j_:Int,((x0_3 / 256) % 256)=j_:=⟨_,rfl⟩
      replace H:(if 0≤(ji7) then (if (ji7)<256 then (some (wrap64 ((wrap64 (x2_3+8))+(wrap64 (bt (⟨#[0,1,2,2,3,3,3,3,4,4,4,4,4,4,4,4,5,5,5,5,5,5,5,5,5,5,5,5,5,5,5,5,6,6,6,6,6,6,6,6,6,6,6,6,6,6,6,6,6,6,6,6,6,6,6,6,6,6,6,6,6,6,6,6,7,7,7,7,7,7,7,7,7,7,7,7,7,7,7,7,7,7,7,7,7,7,7,7,7,7,7,7,7,7,7,7,7,7,7,7,7,7,7,7,7,7,7,7,7,7,7,7,7,7,7,7,7,7,7,7,7,7,7,7,7,7,7,7,8,8,8,8,8,8,8,8,8,8,8,8,8,8,8,8,8,8,8,8,8,8,8,8,8,8,8,8,8,8,8,8,8,8,8,8,8,8,8,8,8,8,8,8,8,8,8,8,8,8,8,8,8,8,8,8,8,8,8,8,8,8,8,8,8,8,8,8,8,8,8,8,8,8,8,8,8,8,8,8,8,8,8,8,8,8,8,8,8,8,8,8,8,8,8,8,8,8,8,8,8,8,8,8,8,8,8,8,8,8,8,8,8,8,8,8,8,8,8,8,8,8,8,8,8,8,8,8]⟩:ByteArray) (ji7)))))) else (none)) else (none))=some r:=by first | (rw [hji7] at H;exact H) | (simp only [hji7] at H ⊢;exact H)
      by_cases c8:0≤(ji7)
      ·rw [if_pos c8] at H
       have c8b0:decide (0≤(ji7))=true:=dE c8
       clear c8
       by_cases c9:(ji7)<256
       ·rw [if_pos c9] at H
        have c9b0:decide ((ji7)<256)=true:=dE c9
        clear c9
        obtain rfl:=sI H
        have p10:0≤((ji7):Int):=dT (z1_)
        have q10:(ji7)<(256:Int):=dT (z1_)
        have hx10:=bt_at (⟨#[0,1,2,2,3,3,3,3,4,4,4,4,4,4,4,4,5,5,5,5,5,5,5,5,5,5,5,5,5,5,5,5,6,6,6,6,6,6,6,6,6,6,6,6,6,6,6,6,6,6,6,6,6,6,6,6,6,6,6,6,6,6,6,6,7,7,7,7,7,7,7,7,7,7,7,7,7,7,7,7,7,7,7,7,7,7,7,7,7,7,7,7,7,7,7,7,7,7,7,7,7,7,7,7,7,7,7,7,7,7,7,7,7,7,7,7,7,7,7,7,7,7,7,7,7,7,7,7,8,8,8,8,8,8,8,8,8,8,8,8,8,8,8,8,8,8,8,8,8,8,8,8,8,8,8,8,8,8,8,8,8,8,8,8,8,8,8,8,8,8,8,8,8,8,8,8,8,8,8,8,8,8,8,8,8,8,8,8,8,8,8,8,8,8,8,8,8,8,8,8,8,8,8,8,8,8,8,8,8,8,8,8,8,8,8,8,8,8,8,8,8,8,8,8,8,8,8,8,8,8,8,8,8,8,8,8,8,8,8,8,8,8,8,8,8,8,8,8,8,8,8,8,8,8,8,8]⟩:ByteArray) (ji7)
        replace p10:=eq_true p10
        replace q10:=eq_true q10
        go_wp2
        go_ret
        exact ⟨by first | rfl | (simp;done) | (simp only [← hji7] <;> (first | rfl | simp)) | (simp [*];done),z6_⟩
       ·rw [if_neg c9] at H
        exact nO H
      ·rw [if_neg c8] at H
       exact nO H
     ·rw [if_neg c6] at H
      have c6b0:decide (256≤x0_3)=false:=dF c6
      clear c6
      obtain ⟨ji11,hji11⟩:∃ j_:Int,((x0_3) % 256)=j_:=⟨_,rfl⟩
      replace H:(if 0≤(ji11) then (if (ji11)<256 then (some (wrap64 (x2_3+(wrap64 (bt (⟨#[0,1,2,2,3,3,3,3,4,4,4,4,4,4,4,4,5,5,5,5,5,5,5,5,5,5,5,5,5,5,5,5,6,6,6,6,6,6,6,6,6,6,6,6,6,6,6,6,6,6,6,6,6,6,6,6,6,6,6,6,6,6,6,6,7,7,7,7,7,7,7,7,7,7,7,7,7,7,7,7,7,7,7,7,7,7,7,7,7,7,7,7,7,7,7,7,7,7,7,7,7,7,7,7,7,7,7,7,7,7,7,7,7,7,7,7,7,7,7,7,7,7,7,7,7,7,7,7,8,8,8,8,8,8,8,8,8,8,8,8,8,8,8,8,8,8,8,8,8,8,8,8,8,8,8,8,8,8,8,8,8,8,8,8,8,8,8,8,8,8,8,8,8,8,8,8,8,8,8,8,8,8,8,8,8,8,8,8,8,8,8,8,8,8,8,8,8,8,8,8,8,8,8,8,8,8,8,8,8,8,8,8,8,8,8,8,8,8,8,8,8,8,8,8,8,8,8,8,8,8,8,8,8,8,8,8,8,8,8,8,8,8,8,8,8,8,8,8,8,8,8,8,8,8,8,8]⟩:ByteArray) (ji11)))))) else (none)) else (none))=some r:=by first | (rw [hji11] at H;exact H) | (simp only [hji11] at H ⊢;exact H)
      by_cases c12:0≤(ji11)
      ·rw [if_pos c12] at H
       have c12b0:decide (0≤(ji11))=true:=dE c12
       clear c12
       by_cases c13:(ji11)<256
       ·rw [if_pos c13] at H
        have c13b0:decide ((ji11)<256)=true:=dE c13
        clear c13
        obtain rfl:=sI H
        have p14:0≤((ji11):Int):=dT (z1_)
        have q14:(ji11)<(256:Int):=dT (z1_)
        have hx14:=bt_at (⟨#[0,1,2,2,3,3,3,3,4,4,4,4,4,4,4,4,5,5,5,5,5,5,5,5,5,5,5,5,5,5,5,5,6,6,6,6,6,6,6,6,6,6,6,6,6,6,6,6,6,6,6,6,6,6,6,6,6,6,6,6,6,6,6,6,7,7,7,7,7,7,7,7,7,7,7,7,7,7,7,7,7,7,7,7,7,7,7,7,7,7,7,7,7,7,7,7,7,7,7,7,7,7,7,7,7,7,7,7,7,7,7,7,7,7,7,7,7,7,7,7,7,7,7,7,7,7,7,7,8,8,8,8,8,8,8,8,8,8,8,8,8,8,8,8,8,8,8,8,8,8,8,8,8,8,8,8,8,8,8,8,8,8,8,8,8,8,8,8,8,8,8,8,8,8,8,8,8,8,8,8,8,8,8,8,8,8,8,8,8,8,8,8,8,8,8,8,8,8,8,8,8,8,8,8,8,8,8,8,8,8,8,8,8,8,8,8,8,8,8,8,8,8,8,8,8,8,8,8,8,8,8,8,8,8,8,8,8,8,8,8,8,8,8,8,8,8,8,8,8,8,8,8,8,8,8,8]⟩:ByteArray) (ji11)
        replace p14:=eq_true p14
        replace q14:=eq_true q14
        go_wp2
        go_ret
        exact ⟨by first | rfl | (simp;done) | (simp only [← hji11] <;> (first | rfl | simp)) | (simp [*];done),z6_⟩
       ·rw [if_neg c13] at H
        exact nO H
      ·rw [if_neg c12] at H
       exact nO H


/-! ### Y72: function 108 -/
def Y72.f (k:Nat) (a0:Int):Option (Int):=(Y39.f k a0).bind fun t148=>(some t148)
theorem Y72.mono:∀ a0 k,LeO (Y72.f k a0) (Y72.f (k+1) a0):=by
 intro a0 k
 have m0:=@Y39.mono
 unfold Y72.f
 exact mO
theorem Y72.calls (k:Nat) (a0:Int) (r:Int) (w:World) (h:Y72.f k a0=some r) :
  Calls Tryd.prog 108 #[.int .u64 a0] w fun e w'=>e = .returned (.int .i64 r)∧Drawn0 w w':=by
 have H:((Y39.f k a0).bind fun t148=>(some t148))=some r:=h
 clear h
 replace H:=bS H
 obtain ⟨t148,A20,H⟩:=H
 replace H:(some t148)=some r:=H
 have A2:=aM A20
 clear A20
 obtain rfl:=sI H
 go_enter Tryd.func108,Tryd.ntmps108
 go_wp2_with (first | ((with_reducible refine gc_ 131 ?_);refine gl_ (some 7) Tryd.func131 #[.int .u64 a0] ?_;(with_reducible refine (Y39.calls k a0 t148 _ A2.out).mono ?_);rintro e w' ⟨rfl,⟨nd,rfl⟩⟩;refine ⟨_,rfl,?_⟩))
 go_ret
 exact ⟨z0_,z6_⟩


/-! ### Y49: function 79 -/
def Y49.l0:Nat→Int→List Int→Int→Int→Option (Int)
 | 0,_,_,_,_=>none
 | k+1,x3,x6,x7,x8=>if x8<x7 then (if 0≤x8 then (if x8<(x6.length:Int) then (if (rd x6 x8)=x3 then (Y49.l0 k x3 x6 x7 (wrap64 (x8+1))) else (some (rd x6 x8))) else (none)) else (none)) else (some x3)
def Y49.f (k:Nat) (l0:List Int):Option (Int):=Y49.l0 k 0 l0 (l0.length:Int) 0
theorem Y49.mono_l:∀ k,(∀ y0 y1 y2 y3,LeO (Y49.l0 k y0 y1 y2 y3) (Y49.l0 (k+1) y0 y1 y2 y3))
 | 0=>by intros <;> exact LeO.none _
 | k+1=>by
  have ih0:=Y49.mono_l k
  ·intros
   unfold Y49.l0
   exact mO
theorem Y49.mono:∀ a0 k,LeO (Y49.f k a0) (Y49.f (k+1) a0):=by
 intro a0 k
 have ih0:=Y49.mono_l k
 unfold Y49.f
 exact mO
theorem Y49.calls (k:Nat) (A0:Option Addr) (c0:Nat) (l0:List Int) (r:Int) (w:World) (hr0:Kd.C (Kd.int .i64) w A0 l0.length l0) (hc0:l0.length≤c0) (h:Y49.f k l0=some r) :
  Calls Tryd.prog 79 #[.slice A0 l0.length c0] w fun e w'=>e = .returned (.int .i64 r)∧Drawn0 w w':=by
 have HR0:=aM hr0
 have HC0:=aM hc0
 clear hr0 hc0
 have H:(Y49.l0 k 0 l0 (l0.length:Int) 0)=some r:=h
 clear h
 have H':=aM H
 clear H
 go_enter Tryd.func79,Tryd.ntmps79
 go_wp2
 go_loopg [8] k (fun kq v8 w'=>∃ (x8_1:Int),v8 = .int .i64 x8_1∧Aside0 (Y49.l0 kq 0 l0 (l0.length:Int) x8_1=some r)∧Aside0 (kq≤k)∧Drawn0 w w')
 case atStart=>exact ⟨(0),(z0_),H',⟨Nat.le_refl _⟩,z6_⟩
 case round =>
  clear H'
  obtain ⟨x8_1,rfl,HA,HK1,⟨m1,rfl⟩⟩:=hrel
  cases gk with
  | zero=>exact absurd HA.out (by simp [Y49.l0])
  | succ k1 =>
   have H:=HA.out
   clear HA
   simp only [Y49.l0] at H
   by_cases c2:x8_1<(l0.length:Int)
   ·rw [if_pos c2] at H
    have c2b0:decide (x8_1<(l0.length:Int))=true:=dE c2
    clear c2
    by_cases c3:0≤x8_1
    ·rw [if_pos c3] at H
     have c3b0:decide (0≤x8_1)=true:=dE c3
     clear c3
     by_cases c4:x8_1<(l0.length:Int)
     ·rw [if_pos c4] at H
      have c4b0:decide (x8_1<(l0.length:Int))=true:=dE c4
      clear c4
      by_cases c5:(rd l0 x8_1)=0
      ·rw [if_pos c5] at H
       have c5b0:((rd l0 x8_1) == 0)=true:=beq_iff_eq.mpr c5
       have c5b1:((rd l0 x8_1) != 0)=false:=bne_eq_false_iff_eq.mpr c5
       clear c5
       have H':=aM H
       clear H
       have p149:0≤(x8_1:Int):=dT (z1_)
       have q149:x8_1<(l0.length:Int):=dT (z1_)
       obtain ⟨ad149,e149,hx149_0⟩:=Kd.at_int HR0.out x8_1 p149 q149
       cases e149
       replace p149:=eq_true p149
       replace q149:=eq_true q149
       go_wp2
       go_roundg k1
       case measure=>have:=HK1.out;omega
       case rel=>exact ⟨(wrap64 (x8_1+1)),(z0_),H',⟨by have:=HK1.out;omega⟩,z6_⟩
      ·rw [if_neg c5] at H
       have c5b0:((rd l0 x8_1) == 0)=false:=beq_eq_false_iff_ne.mpr c5
       have c5b1:((rd l0 x8_1) != 0)=true:=bne_iff_ne.mpr c5
       obtain rfl:=sI H
       have p149:0≤(x8_1:Int):=dT (z1_)
       have q149:x8_1<(l0.length:Int):=dT (z1_)
       obtain ⟨ad149,e149,hx149_0⟩:=Kd.at_int HR0.out x8_1 p149 q149
       cases e149
       replace p149:=eq_true p149
       replace q149:=eq_true q149
       go_wp2
       go_ret
       exact ⟨z0_,z6_⟩
     ·rw [if_neg c4] at H
      exact nO H
    ·rw [if_neg c3] at H
     exact nO H
   ·rw [if_neg c2] at H
    have c2b0:decide (x8_1<(l0.length:Int))=false:=dF c2
    clear c2
    obtain rfl:=sI H
    go_wp2
    go_ret
    exact ⟨z0_,z6_⟩


/-! ### Y47: function 109 -/
def Y47.f (a0:Int):Option (Bool):=some (a0 != a0)
theorem Y47.calls (a0:Int) (r:Bool) (w:World) (h:Y47.f a0=some r) :
  Calls Tryd.prog 109 #[.int .i64 a0] w fun e w'=>e = .returned (.bool r)∧Drawn0 w w':=by
 have H:(some (a0 != a0))=some r:=h
 clear h
 obtain rfl:=sI H
 go_enter Tryd.func109,Tryd.ntmps109
 go_wp2
 go_ret
 exact ⟨z0_,z6_⟩


/-! ### Y60: function 80 -/
def Y60.f (a0:Int) (a1:Int):Option (Int):=(Y47.f a0).bind fun t150=>((Y47.f a1).bind fun t151=>(if t150=true then (if t151=true then (some 0) else (some (-1))) else (if t151=true then (some 1) else (if a0<a1 then (some (-1)) else (if a0>a1 then (some 1) else (some 0))))))
theorem Y60.calls (a0:Int) (a1:Int) (r:Int) (w:World) (h:Y60.f a0 a1=some r) :
  Calls Tryd.prog 80 #[.int .i64 a0,.int .i64 a1] w fun e w'=>e = .returned (.int .i64 r)∧Drawn0 w w':=by
 have H:((Y47.f a0).bind fun t150=>((Y47.f a1).bind fun t151=>(if t150=true then (if t151=true then (some 0) else (some (-1))) else (if t151=true then (some 1) else (if a0<a1 then (some (-1)) else (if a0>a1 then (some 1) else (some 0)))))))=some r:=h
 clear h
 replace H:=bS H
 obtain ⟨t150,A30,H⟩:=H
 replace H:((Y47.f a1).bind fun t151=>(if t150=true then (if t151=true then (some 0) else (some (-1))) else (if t151=true then (some 1) else (if a0<a1 then (some (-1)) else (if a0>a1 then (some 1) else (some 0))))))=some r:=H
 have A3:=aM A30
 clear A30
 replace H:=bS H
 obtain ⟨t151,A40,H⟩:=H
 replace H:(if t150=true then (if t151=true then (some 0) else (some (-1))) else (if t151=true then (some 1) else (if a0<a1 then (some (-1)) else (if a0>a1 then (some 1) else (some 0)))))=some r:=H
 have A4:=aM A40
 clear A40
 by_cases c5:t150=true
 ·subst c5
  have H1:(if t151=true then (some 0) else (some (-1)))=some r:=by rw [if_pos rfl] at H;exact H
  clear H
  have H:=H1
  clear H1
  by_cases c6:t151=true
  ·subst c6
   have H1:(some 0)=some r:=by rw [if_pos rfl] at H;exact H
   clear H
   have H:=H1
   clear H1
   obtain rfl:=sI H
   go_enter Tryd.func80,Tryd.ntmps80
   go_wp2_with (first | ((with_reducible refine gc_ 109 ?_);refine gl_ (some 8) Tryd.func109 #[.int .i64 a0] ?_;(with_reducible refine (Y47.calls a0 true _ A3.out).mono ?_);rintro e w' ⟨rfl,⟨nd,rfl⟩⟩;refine ⟨_,rfl,?_⟩) | ((with_reducible refine gc_ 109 ?_);refine gl_ (some 10) Tryd.func109 #[.int .i64 a1] ?_;(with_reducible refine (Y47.calls a1 true _ A4.out).mono ?_);rintro e w' ⟨rfl,⟨nd,rfl⟩⟩;refine ⟨_,rfl,?_⟩))
   go_ret
   exact ⟨z0_,z6_⟩
  ·replace c6:=Bool.eq_false_iff.mpr c6
   subst c6
   have H1:(some (-1))=some r:=by rw [if_neg (show ¬ (false=true) by decide)] at H;exact H
   clear H
   have H:=H1
   clear H1
   obtain rfl:=sI H
   go_enter Tryd.func80,Tryd.ntmps80
   go_wp2_with (first | ((with_reducible refine gc_ 109 ?_);refine gl_ (some 8) Tryd.func109 #[.int .i64 a0] ?_;(with_reducible refine (Y47.calls a0 true _ A3.out).mono ?_);rintro e w' ⟨rfl,⟨nd,rfl⟩⟩;refine ⟨_,rfl,?_⟩) | ((with_reducible refine gc_ 109 ?_);refine gl_ (some 10) Tryd.func109 #[.int .i64 a1] ?_;(with_reducible refine (Y47.calls a1 false _ A4.out).mono ?_);rintro e w' ⟨rfl,⟨nd,rfl⟩⟩;refine ⟨_,rfl,?_⟩))
   go_ret
   exact ⟨z0_,z6_⟩
 ·replace c5:=Bool.eq_false_iff.mpr c5
  subst c5
  have H1:(if t151=true then (some 1) else (if a0<a1 then (some (-1)) else (if a0>a1 then (some 1) else (some 0))))=some r:=by rw [if_neg (show ¬ (false=true) by decide)] at H;exact H
  clear H
  have H:=H1
  clear H1
  by_cases c7:t151=true
  ·subst c7
   have H1:(some 1)=some r:=by rw [if_pos rfl] at H;exact H
   clear H
   have H:=H1
   clear H1
   obtain rfl:=sI H
   go_enter Tryd.func80,Tryd.ntmps80
   go_wp2_with (first | ((with_reducible refine gc_ 109 ?_);refine gl_ (some 8) Tryd.func109 #[.int .i64 a0] ?_;(with_reducible refine (Y47.calls a0 false _ A3.out).mono ?_);rintro e w' ⟨rfl,⟨nd,rfl⟩⟩;refine ⟨_,rfl,?_⟩) | ((with_reducible refine gc_ 109 ?_);refine gl_ (some 10) Tryd.func109 #[.int .i64 a1] ?_;(with_reducible refine (Y47.calls a1 true _ A4.out).mono ?_);rintro e w' ⟨rfl,⟨nd,rfl⟩⟩;refine ⟨_,rfl,?_⟩))
   go_ret
   exact ⟨z0_,z6_⟩
  ·replace c7:=Bool.eq_false_iff.mpr c7
   subst c7
   have H1:(if a0<a1 then (some (-1)) else (if a0>a1 then (some 1) else (some 0)))=some r:=by rw [if_neg (show ¬ (false=true) by decide)] at H;exact H
   clear H
   have H:=H1
   clear H1
   by_cases c8:a0<a1
   ·rw [if_pos c8] at H
    have c8b0:decide (a0<a1)=true:=dE c8
    clear c8
    obtain rfl:=sI H
    go_enter Tryd.func80,Tryd.ntmps80
    go_wp2_with (first | ((with_reducible refine gc_ 109 ?_);refine gl_ (some 8) Tryd.func109 #[.int .i64 a0] ?_;(with_reducible refine (Y47.calls a0 false _ A3.out).mono ?_);rintro e w' ⟨rfl,⟨nd,rfl⟩⟩;refine ⟨_,rfl,?_⟩) | ((with_reducible refine gc_ 109 ?_);refine gl_ (some 10) Tryd.func109 #[.int .i64 a1] ?_;(with_reducible refine (Y47.calls a1 false _ A4.out).mono ?_);rintro e w' ⟨rfl,⟨nd,rfl⟩⟩;refine ⟨_,rfl,?_⟩))
    go_ret
    exact ⟨z0_,z6_⟩
   ·rw [if_neg c8] at H
    have c8b0:decide (a0<a1)=false:=dF c8
    clear c8
    by_cases c9:a0>a1
    ·rw [if_pos c9] at H
     have c9b0:decide (a1<a0)=true:=dE c9
     clear c9
     obtain rfl:=sI H
     go_enter Tryd.func80,Tryd.ntmps80
     go_wp2_with (first | ((with_reducible refine gc_ 109 ?_);refine gl_ (some 8) Tryd.func109 #[.int .i64 a0] ?_;(with_reducible refine (Y47.calls a0 false _ A3.out).mono ?_);rintro e w' ⟨rfl,⟨nd,rfl⟩⟩;refine ⟨_,rfl,?_⟩) | ((with_reducible refine gc_ 109 ?_);refine gl_ (some 10) Tryd.func109 #[.int .i64 a1] ?_;(with_reducible refine (Y47.calls a1 false _ A4.out).mono ?_);rintro e w' ⟨rfl,⟨nd,rfl⟩⟩;refine ⟨_,rfl,?_⟩))
     go_ret
     exact ⟨z0_,z6_⟩
    ·rw [if_neg c9] at H
     have c9b0:decide (a1<a0)=false:=dF c9
     clear c9
     obtain rfl:=sI H
     go_enter Tryd.func80,Tryd.ntmps80
     go_wp2_with (first | ((with_reducible refine gc_ 109 ?_);refine gl_ (some 8) Tryd.func109 #[.int .i64 a0] ?_;(with_reducible refine (Y47.calls a0 false _ A3.out).mono ?_);rintro e w' ⟨rfl,⟨nd,rfl⟩⟩;refine ⟨_,rfl,?_⟩) | ((with_reducible refine gc_ 109 ?_);refine gl_ (some 10) Tryd.func109 #[.int .i64 a1] ?_;(with_reducible refine (Y47.calls a1 false _ A4.out).mono ?_);rintro e w' ⟨rfl,⟨nd,rfl⟩⟩;refine ⟨_,rfl,?_⟩))
     go_ret
     exact ⟨z0_,z6_⟩


/-! ### Y14: function 78 -/
def Y14.f (k:Nat) (a0_0:Int) (a0_1:Int) (a1_0:Int) (a1_1:Int):Option (Int):=(Y60.f a0_0 a1_0).bind fun t154=>((Y60.f a0_1 a1_1).bind fun t155=>((Y49.f k (([t154,t155]:List Int))).bind fun t159=>(some t159)))
theorem Y14.mono:∀ a0 a1 a2 a3 k,LeO (Y14.f k a0 a1 a2 a3) (Y14.f (k+1) a0 a1 a2 a3):=by
 intro a0 a1 a2 a3 k
 have m0:=@Y49.mono
 unfold Y14.f
 exact mO
def Y14.T1:Bool × List (List Nat × List Nat):=(true,[([],[]),([0],[0]),([],[]),([2],[2]),([1,3],[1,3]),([],[]),([5],[5]),([],[]),([7],[7]),([6,8,4],[6,8]),([4,9],[4,9]),([10,9],[10]),([11,11,0,1,2,3,4,5,6,7,8,9,10,11],[11])])
def Y14.B1:List Nat:=[0,1,0,4,15,0,32,0,128,511,1023,2047,4095]
theorem Y14.tab1:rtab .any (opsOf Tryd.f78 1)=Y14.T1:=by kernel_rfl
theorem Y14.bits1:waitsOk Y14.T1.2 Y14.B1=true:=by kernel_rfl
theorem Y14.calls (k:Nat) (a0_0:Int) (a0_1:Int) (a1_0:Int) (a1_1:Int) (r:Int) (w:World) (h:Y14.f k a0_0 a0_1 a1_0 a1_1=some r) :
  Calls Tryd.prog 78 #[.agg #[.int .i64 a0_0,.int .i64 a0_1],.agg #[.int .i64 a1_0,.int .i64 a1_1]] w fun e w'=>e = .returned (.int .i64 r)∧Below w.heap.size w w':=by
 have hu77:=Tryd.underlying77
 have HB:=aM (Below.refl w.heap.size w)
 have H:((Y60.f a0_0 a1_0).bind fun t154=>((Y60.f a0_1 a1_1).bind fun t155=>((Y49.f k (([t154,t155]:List Int))).bind fun t159=>(some t159))))=some r:=h
 clear h
 replace H:=bS H
 obtain ⟨t154,A30,H⟩:=H
 replace H:((Y60.f a0_1 a1_1).bind fun t155=>((Y49.f k (([t154,t155]:List Int))).bind fun t159=>(some t159)))=some r:=H
 have A3:=aM A30
 clear A30
 replace H:=bS H
 obtain ⟨t155,A40,H⟩:=H
 replace H:((Y49.f k (([t154,t155]:List Int))).bind fun t159=>(some t159))=some r:=H
 have A4:=aM A40
 clear A40
 obtain ⟨y156,hy156⟩:∃ y_:List Int,y_=(([t154,t155]:List Int)):=⟨_,rfl⟩
 replace H:((Y49.f k y156).bind fun t159=>(some t159))=some r:=by first | (rw [hy156];with_reducible exact H) | (have H2_:=(Option.bind_some _ _).symm.trans H;rw [hy156];with_reducible exact H2_) | (have H2_:=(Option.bind_some _ _).symm.trans H;with_reducible exact H2_) | with_reducible exact H | (rw [hy156];exact H) | exact H
 have Ny156:=aM hy156
 clear hy156
 replace H:=bS H
 obtain ⟨t159,A50,H⟩:=H
 replace H:(some t159)=some r:=H
 have A5:=aM A50
 clear A50
 obtain rfl:=sI H
 go_enter Tryd.func78,Tryd.ntmps78
 try go_wp2_with (first | ((with_reducible refine gd_ 2 ?_);refine be_ 2 #[.int .i64 a0_0,.int .i64 a0_1] 77 ?_;intro gb152 hg w6 hbox hb;have n0_:=aM (below_step (z3_ HB.out) hb);have n1_:=aM (hbox);have n2_:=aM ((z10_ HB.out:w.heap.size≤gb152));have n3_:=aM ((z10_ HB.out:w.heap.size≤gb152));clear HB;have HB:=n0_;have BK152:=n1_;have GW152:=n2_;have GE152:=n3_;clear n0_ n1_ n2_ n3_;clear hb hbox hg) | ((with_reducible refine gd_ 3 ?_);refine be_ 3 #[.int .i64 a1_0,.int .i64 a1_1] 77 ?_;intro gb153 hg w7 hbox hb;have n0_:=aM (blkB_ BK152.out hb);have n1_:=aM (below_step (z8_ HB.out GE152.out) hb);have n2_:=aM (hbox);have n3_:=aM ((z13_ HB.out GE152.out:w.heap.size≤gb153));have n4_:=aM ((z13_ HB.out GE152.out:w.heap.size≤gb153));have n5_:=aM (neL_ BK152.out hg);have n6_:=aM (neG_ BK152.out hg);clear BK152;clear HB;have BK152:=n0_;have HB:=n1_;have BK153:=n2_;have GW153:=n3_;have GE153:=n4_;have NB152_153:=n5_;have NB153_152:=n6_;clear n0_ n1_ n2_ n3_ n4_ n5_ n6_;clear hb hbox hg))
 have n0_:=aM (blk_drew BK152.out)
 have n1_:=aM (blk_drew BK153.out)
 have n2_:=aM (below_drew1 HB.out)
 clear BK152
 clear BK153
 clear HB
 have BK152:=n0_
 have BK153:=n1_
 have HB:=n2_
 clear n0_ n1_ n2_
 refine start_ (n:=13) (S:=fun w'=>w'.cell? ⟨gb152,0,none⟩=some (.int .i64 a0_0)∧w'.cell? ⟨gb152,1,none⟩=some (.int .i64 a0_1)∧w'.cell? ⟨gb153,0,none⟩=some (.int .i64 a1_0)∧w'.cell? ⟨gb153,1,none⟩=some (.int .i64 a1_1)) (ds:=[]) #[O,O,O,O,O,O,O,O,O,O,O,O,O] (by kernel_rfl) rfl rfl (cj2_ BK152.out (cc2_ BK153.out)) (fun hHeld=>?_);refine with_tabW Y14.tab1 Y14.bits1 (fun HT_ HW_=>?_)
 generalize w7.drew=w8 at BK152 BK153 HB hHeld ⊢
 refine pu_ 0 5 #[I,O,O,O,O,O,O,O,O,O,O,O,O] HT_.out ?_
 refine pu_ 2 7 #[I,O,I,O,O,O,O,O,O,O,O,O,O] HT_.out ?_
 refine pu_ 5 10 #[I,O,I,O,O,I,O,O,O,O,O,O,O] HT_.out ?_
 refine pu_ 7 12 #[I,O,I,O,O,I,O,I,O,O,O,O,O] HT_.out ?_
 refine tk4_ 1 6 #[I,I,I,O,O,I,O,I,O,O,O,O,O] HT_.out HW_.out hHeld ?_
 refine tk4_ 3 8 #[I,I,I,I,O,I,O,I,O,O,O,O,O] HT_.out HW_.out hHeld ?_
 refine tk4_ 6 11 #[I,I,I,I,O,I,I,I,O,O,O,O,O] HT_.out HW_.out hHeld ?_
 refine tk4_ 8 13 #[I,I,I,I,O,I,I,I,I,O,O,O,O] HT_.out HW_.out hHeld ?_
 refine o1_ 4 9 #[I,I,I,I,I,I,I,I,I,O,O,O,O] HT_.out (fun K hK=>?_)
 refine gs_ Tryd.func80 #[.int .i64 a0_0,.int .i64 a1_0] ?_
 with_reducible refine (Y60.calls a0_0 a1_0 t154 _ A3.out).mono ?_
 rintro e w' ⟨rfl,⟨nd,rfl⟩⟩
 refine ⟨_,rfl,?_⟩
 refine hK.out _ _ (cj2_ BK152.out (cc2_ BK153.out)) (fun hHeld=>?_)
 clear hK K
 refine nm_ 9 ?_
 refine o1_ 9 14 #[I,I,I,I,I,I,I,I,I,I,O,O,O] HT_.out (fun K hK=>?_)
 refine gs_ Tryd.func80 #[.int .i64 a0_1,.int .i64 a1_1] ?_
 with_reducible refine (Y60.calls a0_1 a1_1 t155 _ A4.out).mono ?_
 rintro e w' ⟨rfl,⟨nd,rfl⟩⟩
 refine ⟨_,rfl,?_⟩
 refine hK.out _ _ (cj2_ BK152.out (cc2_ BK153.out)) (fun hHeld=>?_)
 clear hK K
 refine nm_ 14 ?_
 refine o1_ 10 15 #[I,I,I,I,I,I,I,I,I,I,I,O,O] HT_.out (fun K hK=>?_)
 refine Kd.R_lit_step (Kd.int .i64) _ 3 ?hg (N:=15) ?hd (xs:=([t154,t155]:List Int)) (inner:=[.int .i64 t154,.int .i64 t155]) (ok:=fun _=>True) (okp:=fun _=>True) ?hr ?hp (fun _ hk=>hk) trivial (Below.refl _ _) (Nat.le_refl _) (by simp) ?_;(case hd=>rfl);(case hg=>rfl);(case hr=>first | (go_simp;done) | (go_simp;rfl));(case hp=>exact (Reps.one (show Kd.M (Kd.int .i64) _ _ _ t154 [.int .i64 t154] from rfl) (Reps.one (show Kd.M (Kd.int .i64) _ _ _ t155 [.int .i64 t155] from rfl) (Reps.none _ _))))
 intro v157 w9 ho10 hb hg_ hnew_
 clear hg_ hnew_
 (first | rw [← Ny156.out] at ho10 | (simp only [Int.reduceToNat] at ho10;rw [← Ny156.out] at ho10))
 have n0_:=aM (Kd.R_lower ho10 (below_size (z7_ HB.out GE152.out GE153.out)))
 have n1_:=aM (blkB_ BK152.out hb)
 have n2_:=aM (blkB_ BK153.out hb)
 have n3_:=aM (below_step (z7_ HB.out GE152.out GE153.out) hb)
 clear BK152
 clear BK153
 clear HB
 have HO158:=n0_
 have BK152:=n1_
 have BK153:=n2_
 have HB:=n3_
 clear n0_ n1_ n2_ n3_
 clear hb ho10
 obtain ⟨Ao11,co11,eo11⟩:=Kd.R_slice HO158.out
 (first | subst eo11 | (injection eo11 with f1_ f2_ f3_;have f4_:=f1_.symm;have f5_:=f3_.symm;clear f1_ f2_ f3_;subst f4_;subst f5_))
 refine hK.out _ _ (cj2_ BK152.out (cc2_ BK153.out)) (fun hHeld=>?_)
 clear hK K
 refine nm_ 15 ?_
 refine o1_ 11 16 #[I,I,I,I,I,I,I,I,I,I,I,I,O] HT_.out (fun K hK=>?_)
 refine gs_ Tryd.func79 #[.slice Ao11 y156.length co11] ?_
 with_reducible refine (Y49.calls k _ _ y156 t159 _ ?s1 ?s2 A5.out).mono ?_
 (case s1=>repeat (first | exact (Kd.R_reads' HO158.out).2.2 | (with_reducible refine Kd.C_alloc ?_ _) | (with_reducible refine Kd.C_drewN ?_ _) | (with_reducible refine Kd.C_drew ?_)))
 (case s2=>exact (Kd.R_reads' HO158.out).2.1)
 rintro e w' ⟨rfl,⟨nd,rfl⟩⟩
 refine ⟨_,rfl,?_⟩
 refine hK.out _ _ (cj2_ BK152.out (cc2_ BK153.out)) (fun hHeld=>?_)
 clear hK K
 refine nm_ 16 ?_
 refine pu_ 12 4 #[I,I,I,I,I,I,I,I,I,I,I,I,I] HT_.out ?_
 refine done_ (done_of HT_.out (by kernel_rfl)) ?_
 try go_wp2
 go_ret
 exact ⟨z9_,z7_ HB.out GE152.out GE153.out⟩


/-! ### Y2: function 122 -/
mutual
def Y2.l0:Nat→List (S77)→Int→Int→Int→Option ((List (S77)))
 | 0,_,_,_,_=>none
 | k+1,x0,x1,x2,x8=>if x8<x2 then (Y2.l1 k x0 x1 x2 x8 x8) else (some x0)
def Y2.l1:Nat→List (S77)→Int→Int→Int→Int→Option ((List (S77)))
 | 0,_,_,_,_,_=>none
 | k+1,x0,x1,x2,x8,x9=>if x9>x1 then (if 0≤x9 then (if x9<(x0.length:Int) then (if 0≤(wrap64 (x9-1)) then (if (wrap64 (x9-1))<(x0.length:Int) then ((Y14.f k ((rd_T77 x0 x9).f0) ((rd_T77 x0 x9).f1) ((rd_T77 x0 (wrap64 (x9-1))).f0) ((rd_T77 x0 (wrap64 (x9-1))).f1)).bind fun t162=>(Y2.j2 k x0 x1 x2 x8 x9 (decide (t162<0)))) else (none)) else (none)) else (none)) else (none)) else (Y2.j2 k x0 x1 x2 x8 x9 false)
def Y2.j2:Nat→List (S77)→Int→Int→Int→Int→Bool→Option ((List (S77)))
 | 0,_,_,_,_,_,_=>none
 | k+1,x0,x1,x2,x8,x9,x34=>if x34=true then (if 0≤(wrap64 (x9-1)) then (if (wrap64 (x9-1))<(x0.length:Int) then (if 0≤x9 then (if x9<(x0.length:Int) then (Y2.l1 k ((x0.set (x9:Int).toNat (⟨(rd_T77 x0 (wrap64 (x9-1))).f0,(rd_T77 x0 (wrap64 (x9-1))).f1⟩:S77)).set ((wrap64 (x9-1)):Int).toNat (⟨(rd_T77 x0 x9).f0,(rd_T77 x0 x9).f1⟩:S77)) x1 x2 x8 (wrap64 (x9-1))) else (none)) else (none)) else (none)) else (none)) else (Y2.l0 k x0 x1 x2 (wrap64 (x8+1)))
end
def Y2.f (k:Nat) (l0:List (S77)) (a1:Int) (a2:Int)  : Option ((List (S77))):=Y2.l0 k l0 a1 a2 (wrap64 (a1+1))
theorem Y2.mono_l:∀ k,(∀ y0 y1 y2 y3,LeO (Y2.l0 k y0 y1 y2 y3) (Y2.l0 (k+1) y0 y1 y2 y3))∧(∀ y0 y1 y2 y3 y4,LeO (Y2.l1 k y0 y1 y2 y3 y4) (Y2.l1 (k+1) y0 y1 y2 y3 y4))∧(∀ y0 y1 y2 y3 y4 y5,LeO (Y2.j2 k y0 y1 y2 y3 y4 y5) (Y2.j2 (k+1) y0 y1 y2 y3 y4 y5))
 | 0=>by refine ⟨?_,?_,?_⟩ <;> intros <;> exact LeO.none _
 | k+1=>by
  obtain ⟨ih0,ih1,ih2⟩:=Y2.mono_l k
  have m0:=@Y14.mono
  refine ⟨?_,?_,?_⟩
  ·intros
   unfold Y2.l0
   exact mO
  ·intros
   unfold Y2.l1
   exact mO
  ·intros
   unfold Y2.j2
   exact mO
theorem Y2.mono:∀ a0 a1 a2 k,LeO (Y2.f k a0 a1 a2) (Y2.f (k+1) a0 a1 a2):=by
 intro a0 a1 a2 k
 have m0:=@Y14.mono
 obtain ⟨ih0,ih1,ih2⟩:=Y2.mono_l k
 unfold Y2.f
 exact mO
def Y2.T4:Bool × List (List Nat × List Nat):=(true,[([],[]),([],[]),([0,1],[0,1]),([2],[2]),([3],[3]),([3],[3]),([3],[3]),([5,6,3],[3,5,6]),([7,3],[3,7]),([3],[3]),([3],[3]),([10,3],[3,10]),([9,11,3],[3,9,11]),([12,3],[3,12]),([4,8,13,3,3],[3,4,8,13]),([14,3],[3,14]),([3,15],[3,15])])
def Y2.B4:List Nat:=[0,0,3,7,15,15,15,111,239,15,15,1039,3599,7695,16383,32767,65535]
theorem Y2.tab4:rtab .any (opsOf Tryd.f122 4)=Y2.T4:=by kernel_rfl
theorem Y2.bits4:waitsOk Y2.T4.2 Y2.B4=true:=by kernel_rfl
def Y2.T6:Bool × List (List Nat × List Nat):=(true,[([],[]),([],[]),([],[]),([],[]),([3],[3]),([],[]),([],[]),([6],[6]),([5,7],[5,7]),([8],[8]),([],[]),([],[]),([10,11],[10,11]),([12],[12]),([0,1,0,1,5,6,7,8,9,13],[0,1]),([14,9,0,1,5,6,7,8,9,13],[9,14]),([2,4,0,1,2,3,4,5,6,7,8,9,10,11,12,13,14,15],[2,4]),([16,13,15,0,1,2,3,4,5,6,7,8,9,10,11,12,13,14,15],[13,16])])
def Y2.B6:List Nat:=[0,0,0,0,8,0,0,64,224,480,0,0,3072,7168,16355,32739,65535,131071]
theorem Y2.tab6:rtab .any (opsOf Tryd.f122 6)=Y2.T6:=by kernel_rfl
theorem Y2.bits6:waitsOk Y2.T6.2 Y2.B6=true:=by kernel_rfl
abbrev Y2.q0:Array Bool:=#[O,O,O,O,O,O,O,O,O,O,O,O,O,O,O,O,O]
abbrev Y2.q1:Array Bool:=#[I,O,O,O,O,O,O,O,O,O,O,O,O,O,O,O,O]
abbrev Y2.q2:Array Bool:=#[I,I,O,O,O,O,O,O,O,O,O,O,O,O,O,O,O]
abbrev Y2.q3:Array Bool:=#[I,I,I,O,O,O,O,O,O,O,O,O,O,O,O,O,O]
abbrev Y2.q4:Array Bool:=#[I,I,I,I,O,O,O,O,O,O,O,O,O,O,O,O,O]
abbrev Y2.q5:Array Bool:=#[I,I,I,I,I,O,O,O,O,O,O,O,O,O,O,O,O]
abbrev Y2.q6:Array Bool:=#[I,I,I,I,I,I,O,O,O,O,O,O,O,O,O,O,O]
abbrev Y2.q7:Array Bool:=#[I,I,I,I,I,I,I,O,O,O,O,O,O,O,O,O,O]
abbrev Y2.q8:Array Bool:=#[I,I,I,I,I,I,I,I,O,O,O,O,O,O,O,O,O]
abbrev Y2.q9:Array Bool:=#[I,I,I,I,I,I,I,I,I,I,I,I,I,O,O,O,O]
abbrev Y2.q10:Array Bool:=#[I,I,I,I,I,I,I,I,I,I,I,I,I,I,O,O,O]
abbrev Y2.q11:Array Bool:=#[I,I,I,I,I,I,I,I,I,I,I,I,I,I,I,O,O]
abbrev Y2.q12:Array Bool:=#[I,I,I,I,I,I,I,I,I,I,I,I,I,I,I,I,O]
abbrev Y2.q13:Array Bool:=#[I,I,I,I,I,I,I,I,I,I,I,I,I,I,I,I,I]
theorem Y2.calls (k:Nat) (P0_:Nat→Prop) (u9000_:Value) (l0:List (S77)) (a1:Int) (a2:Int)  (r:List (S77)) (w0 w:World) (hB:Below w0.heap.size w0 w) (ho0:Kd.R k77 77 w w0.heap.size P0_ u9000_ l0) (h:Y2.f k l0 a1 a2=some r) :
  Calls Tryd.prog 122 #[u9000_,.int .i64 a1,.int .i64 a2,.func (.func 78) #[] #[]] w fun e w'=>e = .returned (.tuple #[])∧Kd.R k77 77 w' w0.heap.size (fun k_=>(P0_ k_∨w.heap.size≤k_)) u9000_ r∧Below w0.heap.size w0 w'∧Kept w w' (fun k_=>P0_ k_):=by
 have hu77:=Tryd.underlying77
 have HO0:=aM (show Kd.R k77 77 w w0.heap.size (fun k_=>(P0_ k_∨w.heap.size≤k_)) u9000_ l0 from Kd.R_mono ho0 (fun k_ hk=>(.inl hk)))
 have HK:=aM (Kept.refl w (fun k_=>P0_ k_))
 have HW0:=aM hB.size
 have HB:=aM hB
 clear hB
 have H:(Y2.l0 k l0 a1 a2 (wrap64 (a1+1)))=some r:=h
 clear h
 have H':=aM H
 clear H
 go_enter Tryd.func122,Tryd.ntmps122
 go_wp2
 go_loopg [8] k (fun kq v8 w'=>∃ (x0_1:List (S77)) (x8_1:Int),v8 = .int .i64 x8_1∧Aside0 (Y2.l0 kq x0_1 a1 a2 x8_1=some r)∧Aside0 (kq≤k)∧Aside0 (Kd.R k77 77 w' w0.heap.size (fun k_=>(P0_ k_∨w.heap.size≤k_)) u9000_ x0_1)∧Aside0 (Kept w w' (fun k_=>P0_ k_))∧Aside0 (Below w0.heap.size w0 w'))
 case atStart=>exact ⟨(l0),(wrap64 (a1+1)),(z0_),H',⟨Nat.le_refl _⟩,⟨z2_ HO0.out⟩,⟨z5_ HK.out⟩,⟨z3_ HB.out⟩⟩
 case round =>
  clear H'
  try clear p2
  obtain ⟨x0_1,x8_1,rfl,HA,HK1,HO_0,HK,HB⟩:=hrel
  cases gk with
  | zero=>exact absurd HA.out (by simp [Y2.l0])
  | succ k1 =>
   have H:=HA.out
   clear HA
   simp only [Y2.l0] at H
   by_cases c5:x8_1<a2
   ·rw [if_pos c5] at H
    have c5b0:decide (x8_1<a2)=true:=dE c5
    clear c5
    have H':=aM H
    clear H
    go_wp2
    go_loopg [9] k1 (fun kq v9 w'=>∃ (x0_2:List (S77)) (x9_2:Int),v9 = .int .i64 x9_2∧Aside0 (Y2.l1 kq x0_2 a1 a2 x8_1 x9_2=some r)∧Aside0 (kq≤k1)∧Aside0 (Kd.R k77 77 w' w0.heap.size (fun k_=>(P0_ k_∨w.heap.size≤k_)) u9000_ x0_2)∧Aside0 (Kept w w' (fun k_=>P0_ k_))∧Aside0 (Below w0.heap.size w0 w'))
    case atStart=>exact ⟨(x0_1),(x8_1),(z0_),H',⟨Nat.le_refl _⟩,⟨z2_ HO_0.out⟩,⟨z5_ HK.out⟩,⟨z3_ HB.out⟩⟩
    case round =>
     clear H'
     try clear p2
     try clear c5
     try clear c5b0
     try clear p2
     obtain ⟨x0_2,x9_2,rfl,HA,HK2,HO_0,HK,HB⟩:=hrel
     cases gk with
     | zero=>exact absurd HA.out (by simp [Y2.l1])
     | succ k2 =>
      have H:=HA.out
      clear HA
      simp only [Y2.l1] at H
      have HC6:=aM H
      clear H
      go_upto_region 4 with (fail)
      go_cut [34] (fun v34 wc=>∃ (kq:Nat) (x34_5:Bool),v34 = .bool x34_5∧Aside0 (Y2.j2 kq x0_2 a1 a2 x8_1 x9_2 x34_5=some r)∧Aside0 (kq≤k2)∧Aside0 (Kd.R k77 77 wc w0.heap.size (fun k_=>(P0_ k_∨w.heap.size≤k_)) u9000_ x0_2)∧Aside0 (Kept w wc (fun k_=>P0_ k_))∧Aside0 (Below w0.heap.size w0 wc))
      case first =>
       have H:=HC6.out
       clear HC6
       by_cases c7:x9_2>a1
       ·rw [if_pos c7] at H
        have c7b0:decide (a1<x9_2)=true:=dE c7
        clear c7
        (first | rw [c7b0] | (simp only [i64_w,i32_w];rw [c7b0]) | skip)
        by_cases c8:0≤x9_2
        ·rw [if_pos c8] at H
         have c8b0:decide (0≤x9_2)=true:=dE c8
         clear c8
         by_cases c9:x9_2<(x0_2.length:Int)
         ·rw [if_pos c9] at H
          have c9b0:decide (x9_2<(x0_2.length:Int))=true:=dE c9
          clear c9
          obtain ⟨ji10,hji10⟩:∃ j_:Int,(wrap64 (x9_2-1))=j_:=⟨_,rfl⟩
          replace H:(if 0≤(ji10) then (if (ji10)<(x0_2.length:Int) then ((Y14.f k2 ((rd_T77 x0_2 x9_2).f0) ((rd_T77 x0_2 x9_2).f1) ((rd_T77 x0_2 (ji10)).f0) ((rd_T77 x0_2 (ji10)).f1)).bind fun t162=>(Y2.j2 k2 x0_2 a1 a2 x8_1 x9_2 (decide (t162<0)))) else (none)) else (none))=some r:=by first | (rw [hji10] at H;exact H) | (simp only [hji10] at H ⊢;exact H)
          have hji10w:(IntKind.i64.wrap (x9_2-1))=ji10:=(i64_w _).trans hji10
          by_cases c11:0≤(ji10)
          ·rw [if_pos c11] at H
           have c11b0:decide (0≤(ji10))=true:=dE c11
           clear c11
           by_cases c12:(ji10)<(x0_2.length:Int)
           ·rw [if_pos c12] at H
            have c12b0:decide ((ji10)<(x0_2.length:Int))=true:=dE c12
            clear c12
            replace H:=bS H
            obtain ⟨t162,A130,H⟩:=H
            replace H:(Y2.j2 k2 x0_2 a1 a2 x8_1 x9_2 (decide (t162<0)))=some r:=H
            have A13:=aM A130
            clear A130
            have H':=aM H
            clear H
            try go_wp2
            have n0_:=aM (Kd.R_drew HO_0.out)
            have n1_:=aM (Kept.drew HK.out)
            have n2_:=aM (below_drew1 HB.out)
            clear HO_0
            clear HK
            clear HB
            have HO_0:=n0_
            have HK:=n1_
            have HB:=n2_
            clear n0_ n1_ n2_
            obtain ⟨Ao15,co15,eo15⟩:=Kd.R_slice HO_0.out
            (first | subst eo15 | (injection eo15 with f1_ f2_ f3_;have f4_:=f1_.symm;have f5_:=f3_.symm;clear f1_ f2_ f3_;subst f4_;subst f5_))
            have p160:0≤(x9_2:Int):=dT (z1_)
            have q160:x9_2<(x0_2.length:Int):=dT (z1_)
            obtain ⟨ad160,e160,hx160_0,hx160_1⟩:=at_T77 (Kd.R_reads' HO_0.out).2.2 x9_2 p160 q160
            cases e160
            replace p160:=eq_true p160
            replace q160:=eq_true q160
            have p161:0≤((ji10):Int):=dT (z1_)
            have q161:(ji10)<(x0_2.length:Int):=dT (z1_)
            obtain ⟨ad161,e161,hx161_0,hx161_1⟩:=at_T77 (Kd.R_reads' HO_0.out).2.2 (ji10) p161 q161
            obtain rfl:ad160=ad161:=(by injection e161)
            replace p161:=eq_true p161
            replace q161:=eq_true q161
            refine start_ (n:=17) (S:=fun w'=>w'.cell? (ad160.add ((x9_2).toNat*2))=some (.int .i64 ((rd_T77 x0_2 x9_2).f0))∧w'.cell? ⟨(ad160.add ((x9_2).toNat*2)).block,(ad160.add ((x9_2).toNat*2)).off+1,none⟩=some (.int .i64 ((rd_T77 x0_2 x9_2).f1))∧w'.cell? (ad160.add (((ji10)).toNat*2))=some (.int .i64 ((rd_T77 x0_2 (ji10)).f0))∧w'.cell? ⟨(ad160.add (((ji10)).toNat*2)).block,(ad160.add (((ji10)).toNat*2)).off+1,none⟩=some (.int .i64 ((rd_T77 x0_2 (ji10)).f1))) (ds:=[]) Y2.q0 (by kernel_rfl) rfl rfl ⟨hx160_0,hx160_1,hx161_0,hx161_1⟩ (fun hHeld=>?_);refine with_tabW Y2.tab4 Y2.bits4 (fun HT_ HW_=>?_)
            generalize wr.drew=w14 at HO_0 HK HB hx160_0 hx160_1 hx161_0 hx161_1 hHeld ⊢
            refine pu_ 0 18 Y2.q1 HT_.out ?_
            refine pu_ 1 19 Y2.q2 HT_.out ?_
            refine pu_ 2 20 Y2.q3 HT_.out ?_
            refine pu_ 3 21 Y2.q4 HT_.out ?_
            refine pu_ 4 22 Y2.q5 HT_.out ?_
            refine pu_ 5 23 Y2.q6 HT_.out ?_
            refine pu_ 6 24 Y2.q7 HT_.out ?_
            refine pu_ 7 25 Y2.q8 HT_.out ?_
            refine pu_ 9 27 #[I,I,I,I,I,I,I,I,O,I,O,O,O,O,O,O,O] HT_.out ?_
            refine pu_ 10 28 #[I,I,I,I,I,I,I,I,O,I,I,O,O,O,O,O,O] HT_.out ?_
            refine pu_ 11 29 #[I,I,I,I,I,I,I,I,O,I,I,I,O,O,O,O,O] HT_.out ?_
            refine pu_ 12 30 #[I,I,I,I,I,I,I,I,O,I,I,I,I,O,O,O,O] HT_.out ?_
            refine tk4_ 8 26 Y2.q9 HT_.out HW_.out hHeld ?_
            refine tk4_ 13 31 Y2.q10 HT_.out HW_.out hHeld ?_
            refine o1_ 14 32 Y2.q11 HT_.out (fun K hK=>?_)
            refine goesD_ Tryd.func78 (by kernel_rfl) rfl #[.agg #[.int .i64 ((rd_T77 x0_2 x9_2).f0),.int .i64 ((rd_T77 x0_2 x9_2).f1)],.agg #[.int .i64 ((rd_T77 x0_2 (ji10)).f0),.int .i64 ((rd_T77 x0_2 (ji10)).f1)]] (by rfl) rfl rfl (by rfl) (by (try simp only [List.map_toArray,List.map_cons,List.map_nil]);first | done | (simp only [hji10];rfl) | rfl | (simp only [List.length_drop,List.length_take];rfl)) ?_
            with_reducible refine (Y14.calls k2 ((rd_T77 x0_2 x9_2).f0) ((rd_T77 x0_2 x9_2).f1) ((rd_T77 x0_2 (ji10)).f0) ((rd_T77 x0_2 (ji10)).f1) t162 _ A13.out).mono ?_
            rintro e w16 ⟨rfl,hb⟩
            have HS0_:=(hb.cell (World.block_lt_of_cell? _ _ (hHeld.1))).trans (hHeld.1)
            have HS1_:=(hb.cell (World.block_lt_of_cell? _ _ (hHeld.2.1))).trans (hHeld.2.1)
            have HS2_:=(hb.cell (World.block_lt_of_cell? _ _ (hHeld.2.2.1))).trans (hHeld.2.2.1)
            have HS3_:=(hb.cell (World.block_lt_of_cell? _ _ (hHeld.2.2.2))).trans (hHeld.2.2.2)
            refine ⟨_,rfl,?_⟩
            have n0_:=aM (Kd.R_below (z2_ HO_0.out) hb)
            have n1_:=aM (Kept.below (S:=(fun k_=>P0_ k_)) (z5_ HK.out) hb)
            have n2_:=aM (below_step (z3_ HB.out) hb)
            clear HO_0
            clear HK
            clear HB
            have HO_0:=n0_
            have HK:=n1_
            have HB:=n2_
            clear n0_ n1_ n2_
            (try clear hb)
            refine hK.out _ _ ⟨HS0_,HS1_,HS2_,HS3_⟩ (fun hHeld=>?_)
            clear hK K
            refine nm_ 32 ?_
            refine pu_ 15 33 Y2.q12 HT_.out ?_
            refine pu_ 16 34 Y2.q13 HT_.out ?_
            refine done_ (done_of HT_.out (by kernel_rfl)) ?_
            try go_wp2
            go_meet
            case rel=>exact ⟨_,(decide (t162<0)),(z0_),H',⟨by have:=HK1.out;have:=HK2.out;first | omega | exact Nat.le_refl _⟩,⟨z2_ HO_0.out⟩,⟨z5_ HK.out⟩,⟨z3_ HB.out⟩⟩
           ·rw [if_neg c12] at H
            exact nO H
          ·rw [if_neg c11] at H
           exact nO H
         ·rw [if_neg c9] at H
          exact nO H
        ·rw [if_neg c8] at H
         exact nO H
       ·rw [if_neg c7] at H
        have c7b0:decide (a1<x9_2)=false:=dF c7
        clear c7
        (first | rw [c7b0] | (simp only [i64_w,i32_w];rw [c7b0]) | skip)
        have H':=aM H
        clear H
        try go_wp2
        have n0_:=aM (Kd.R_drew HO_0.out)
        have n1_:=aM (Kept.drew HK.out)
        have n2_:=aM (below_drew1 HB.out)
        clear HO_0
        clear HK
        clear HB
        have HO_0:=n0_
        have HK:=n1_
        have HB:=n2_
        clear n0_ n1_ n2_
        refine start_ (n:=17) (S:=fun w'=>True) (ds:=[]) Y2.q0 (by kernel_rfl) rfl rfl trivial (fun hHeld=>?_);refine with_tabW Y2.tab4 Y2.bits4 (fun HT_ HW_=>?_)
        generalize wr.drew=w17 at HO_0 HK HB hHeld ⊢
        refine pu_ 0 18 Y2.q1 HT_.out ?_
        refine pu_ 1 19 Y2.q2 HT_.out ?_
        refine pu_ 2 20 Y2.q3 HT_.out ?_
        refine pu_ 3 21 Y2.q4 HT_.out ?_
        refine pn_ 4 22 Y2.q5 HT_.out ?_
        refine pn_ 5 23 Y2.q6 HT_.out ?_
        refine pn_ 6 24 Y2.q7 HT_.out ?_
        refine pn_ 7 25 Y2.q8 HT_.out ?_
        refine pn_ 8 26 #[I,I,I,I,I,I,I,I,I,O,O,O,O,O,O,O,O] HT_.out ?_
        refine pn_ 9 27 #[I,I,I,I,I,I,I,I,I,I,O,O,O,O,O,O,O] HT_.out ?_
        refine pn_ 10 28 #[I,I,I,I,I,I,I,I,I,I,I,O,O,O,O,O,O] HT_.out ?_
        refine pn_ 11 29 #[I,I,I,I,I,I,I,I,I,I,I,I,O,O,O,O,O] HT_.out ?_
        refine pn_ 12 30 Y2.q9 HT_.out ?_
        refine pn_ 13 31 Y2.q10 HT_.out ?_
        refine pn_ 14 32 Y2.q11 HT_.out ?_
        refine pn_ 15 33 Y2.q12 HT_.out ?_
        refine pu_ 16 34 Y2.q13 HT_.out ?_
        refine done_ (done_of HT_.out (by kernel_rfl)) ?_
        try go_wp2
        go_meet
        case rel=>exact ⟨_,(false),(z0_),H',⟨by have:=HK1.out;have:=HK2.out;first | omega | exact Nat.le_refl _⟩,⟨z2_ HO_0.out⟩,⟨z5_ HK.out⟩,⟨z3_ HB.out⟩⟩
      case rest =>
       clear HC6
       try clear c1
       try clear p1
       try clear q1
       try clear hx1
       try clear p2
       try clear c5
       try clear c5b0
       try clear p6
       try clear c7
       try clear c7b0
       try clear c8
       try clear c8b0
       try clear c9
       try clear c9b0
       try clear c11
       try clear c11b0
       try clear c12
       try clear c12b0
       try clear p16
       try clear q16
       try clear hx16
       try clear hx160_0
       try clear hx160_1
       try clear hx161_0
       try clear hx161_1
       try clear p160
       try clear p161
       try clear p2
       try clear q160
       try clear q161
       obtain ⟨kq,x34_5,rfl,HA,HJ5,HO_0,HK,HB⟩:=hcut
       cases kq with
       | zero=>exact absurd HA.out (by simp [Y2.j2])
       | succ kj5 =>
        have H:=HA.out
        clear HA
        simp only [Y2.j2] at H
        by_cases c18:x34_5=true
        ·subst c18
         have H1:(if 0≤(wrap64 (x9_2-1)) then (if (wrap64 (x9_2-1))<(x0_2.length:Int) then (if 0≤x9_2 then (if x9_2<(x0_2.length:Int) then (Y2.l1 kj5 ((x0_2.set (x9_2:Int).toNat (⟨(rd_T77 x0_2 (wrap64 (x9_2-1))).f0,(rd_T77 x0_2 (wrap64 (x9_2-1))).f1⟩:S77)).set ((wrap64 (x9_2-1)):Int).toNat (⟨(rd_T77 x0_2 x9_2).f0,(rd_T77 x0_2 x9_2).f1⟩:S77)) a1 a2 x8_1 (wrap64 (x9_2-1))) else (none)) else (none)) else (none)) else (none))=some r:=by rw [if_pos rfl] at H;exact H
         clear H
         have H:=H1
         clear H1
         obtain ⟨ji19,hji19⟩:∃ j_:Int,(wrap64 (x9_2-1))=j_:=⟨_,rfl⟩
         replace H:(if 0≤(ji19) then (if (ji19)<(x0_2.length:Int) then (if 0≤x9_2 then (if x9_2<(x0_2.length:Int) then (Y2.l1 kj5 ((x0_2.set (x9_2:Int).toNat (⟨(rd_T77 x0_2 (ji19)).f0,(rd_T77 x0_2 (ji19)).f1⟩:S77)).set ((ji19):Int).toNat (⟨(rd_T77 x0_2 x9_2).f0,(rd_T77 x0_2 x9_2).f1⟩:S77)) a1 a2 x8_1 ji19) else (none)) else (none)) else (none)) else (none))=some r:=by first | (rw [hji19] at H;exact H) | (simp only [hji19] at H ⊢;exact H)
         have hji19w:(IntKind.i64.wrap (x9_2-1))=ji19:=(i64_w _).trans hji19
         by_cases c20:0≤(ji19)
         ·rw [if_pos c20] at H
          have c20b0:decide (0≤(ji19))=true:=dE c20
          clear c20
          by_cases c21:(ji19)<(x0_2.length:Int)
          ·rw [if_pos c21] at H
           have c21b0:decide ((ji19)<(x0_2.length:Int))=true:=dE c21
           clear c21
           by_cases c22:0≤x9_2
           ·rw [if_pos c22] at H
            have c22b0:decide (0≤x9_2)=true:=dE c22
            clear c22
            by_cases c23:x9_2<(x0_2.length:Int)
            ·rw [if_pos c23] at H
             have c23b0:decide (x9_2<(x0_2.length:Int))=true:=dE c23
             clear c23
             obtain ⟨y165,hy165⟩:∃ y_:List (S77),y_=(x0_2.set (x9_2:Int).toNat (⟨(rd_T77 x0_2 (ji19)).f0,(rd_T77 x0_2 (ji19)).f1⟩:S77)):=⟨_,rfl⟩
             replace H:(Y2.l1 kj5 (y165.set ((ji19):Int).toNat (⟨(rd_T77 x0_2 x9_2).f0,(rd_T77 x0_2 x9_2).f1⟩:S77)) a1 a2 x8_1 ji19)=some r:=by first | (rw [hy165];with_reducible exact H) | (have H2_:=(Option.bind_some _ _).symm.trans H;rw [hy165];with_reducible exact H2_) | (have H2_:=(Option.bind_some _ _).symm.trans H;with_reducible exact H2_) | with_reducible exact H | (rw [hy165];exact H) | exact H
             have Ny165:=aM hy165
             clear hy165
             obtain ⟨y166,hy166⟩:∃ y_:List (S77),y_=(y165.set ((ji19):Int).toNat (⟨(rd_T77 x0_2 x9_2).f0,(rd_T77 x0_2 x9_2).f1⟩:S77)):=⟨_,rfl⟩
             replace H:(Y2.l1 kj5 y166 a1 a2 x8_1 ji19)=some r:=by first | (rw [hy166];with_reducible exact H) | (have H2_:=(Option.bind_some _ _).symm.trans H;rw [hy166];with_reducible exact H2_) | (have H2_:=(Option.bind_some _ _).symm.trans H;with_reducible exact H2_) | with_reducible exact H | (rw [hy166];exact H) | exact H
             have Ny166:=aM hy166
             clear hy166
             have H':=aM H
             clear H
             try go_wp2
             have n0_:=aM (Kd.R_drew HO_0.out)
             have n1_:=aM (Kept.drew HK.out)
             have n2_:=aM (below_drew1 HB.out)
             clear HO_0
             clear HK
             clear HB
             have HO_0:=n0_
             have HK:=n1_
             have HB:=n2_
             clear n0_ n1_ n2_
             obtain ⟨Ao27,co27,eo27⟩:=Kd.R_slice HO_0.out
             (first | subst eo27 | (injection eo27 with f1_ f2_ f3_;have f4_:=f1_.symm;have f5_:=f3_.symm;clear f1_ f2_ f3_;subst f4_;subst f5_))
             have p163:0≤((ji19):Int):=dT (z1_)
             have q163:(ji19)<(x0_2.length:Int):=dT (z1_)
             obtain ⟨ad163,e163,hx163_0,hx163_1⟩:=at_T77 (Kd.R_reads' HO_0.out).2.2 (ji19) p163 q163
             cases e163
             replace p163:=eq_true p163
             replace q163:=eq_true q163
             have p164:0≤(x9_2:Int):=dT (z1_)
             have q164:x9_2<(x0_2.length:Int):=dT (z1_)
             obtain ⟨ad164,e164,hx164_0,hx164_1⟩:=at_T77 (Kd.R_reads' HO_0.out).2.2 x9_2 p164 q164
             obtain rfl:ad163=ad164:=(by injection e164)
             replace p164:=eq_true p164
             replace q164:=eq_true q164
             have p24:0≤(x9_2:Int):=dT (z1_)
             have q24:(x9_2:Int)<((x0_2.length:Int):Int):=dT (z1_)
             obtain ⟨go24,co24,eo24,gb24,gl24,cl24,HG24⟩:=Kd.R_form HO_0.out (by omega)
             (first | cases eo24 | (injection eo24 with ea_ en_ ec_;(first | subst ea_ | (injection ea_ with ea_;subst ea_));subst ec_;clear en_))
             have GB24:=aM gb24
             have GG24:=aM HG24
             clear gb24 gl24 HG24
             have HMgo24:=aM (show (P0_ go24∨w.heap.size≤go24) from (HO_0.out.1 _ rfl))
             (first | simp only [add_plain] at hx163_0 | skip)
             (first | simp only [add_plain] at hx163_1 | skip)
             (first | simp only [add_plain] at hx164_0 | skip)
             (first | simp only [add_plain] at hx164_1 | skip)
             obtain ⟨ce24,hcl24,hM24,hcc24,hfr24⟩:=Kd.R_elem HO_0.out z77 (x9_2:Int) p24 q24
             obtain rfl:=k77_openM hM24
             have hx24_0:World.cell? _ ⟨go24,(x9_2:Int).toNat*2,none⟩=some (.int .i64 ((rd_T77 x0_2 x9_2).f0)):=hcc24 0 _ rfl
             have hx24_1:World.cell? _ ⟨go24,(x9_2:Int).toNat*2+1,none⟩=some (.int .i64 ((rd_T77 x0_2 x9_2).f1)):=hcc24 1 _ rfl
             have hf24_0:World.frozen? _ ⟨go24,(x9_2:Int).toNat*2,none⟩=false:=hfr24 0
             have hf24_1:World.frozen? _ ⟨go24,(x9_2:Int).toNat*2+1,none⟩=false:=hfr24 1
             clear hcl24 hcc24 hfr24 hM24
             replace p24:=eq_true p24
             replace q24:=eq_true q24
             obtain ⟨ce28,hcl28,hM28,hcc28,hfr28⟩:=Kd.R_elem HO_0.out z77 (x9_2:Int) (dT (z1_)) (by have h_:(x9_2:Int)<((x0_2.length:Int):Int):=dT (by first | (with_reducible assumption) | assumption);first | exact h_ | (have e_:=(Kd.R_reads' HO_0.out).1;omega) | simpa using h_)
             obtain rfl:=k77_openM hM28
             have HP28:=(Kd.R_seg HO_0.out (x9_2:Int) (dT (z1_)) (by have h_:(x9_2:Int)<((x0_2.length:Int):Int):=dT (by first | (with_reducible assumption) | assumption);first | exact h_ | (have e_:=(Kd.R_reads' HO_0.out).1;omega) | simpa using h_) (seg:=[.int .i64 ((rd_T77 x0_2 (ji19)).f0),.int .i64 ((rd_T77 x0_2 (ji19)).f1)]) (j:=0) hcl28 hcc28 (show 2≤2 from by decide) (x':=(⟨(rd_T77 x0_2 (ji19)).f0,(rd_T77 x0_2 (ji19)).f1⟩:S77)) (k77_mkM _ _ _ (⟨(rd_T77 x0_2 (ji19)).f0,(rd_T77 x0_2 (ji19)).f1⟩:S77) ) (fun _ hk=>hk)).1
             rw [← Ny165.out] at HP28
             have HQ28:=aM HP28
             clear hcl28 hcc28 hfr28 hM28 HP28
             have p25:0≤((ji19):Int):=dT (z1_)
             have q25:((ji19):Int)<((x0_2.length:Int):Int):=dT (z1_)
             obtain ⟨ce25,hcl25,hM25,hcc25,hfr25⟩:=Kd.R_elem HQ28.out z77 ((ji19):Int) p25 q25
             obtain rfl:=k77_openM hM25
             have hx25_0:World.cell? _ ⟨go24,((ji19):Int).toNat*2,none⟩=some (.int .i64 ((rd_T77 y165 (ji19)).f0)):=hcc25 0 _ rfl
             have hx25_1:World.cell? _ ⟨go24,((ji19):Int).toNat*2+1,none⟩=some (.int .i64 ((rd_T77 y165 (ji19)).f1)):=hcc25 1 _ rfl
             have hf25_0:World.frozen? _ ⟨go24,((ji19):Int).toNat*2,none⟩=false:=hfr25 0
             have hf25_1:World.frozen? _ ⟨go24,((ji19):Int).toNat*2+1,none⟩=false:=hfr25 1
             clear hcl25 hcc25 hfr25 hM25
             replace p25:=eq_true p25
             replace q25:=eq_true q25
             obtain ⟨ce29,hcl29,hM29,hcc29,hfr29⟩:=Kd.R_elem HQ28.out z77 ((ji19):Int) (dT (z1_)) (by have h_:((ji19):Int)<((x0_2.length:Int):Int):=dT (by first | (with_reducible assumption) | assumption);first | exact h_ | (have e_:=(Kd.R_reads' HO_0.out).1;omega) | simpa using h_)
             obtain rfl:=k77_openM hM29
             have HP29:=(Kd.R_seg HQ28.out ((ji19):Int) (dT (z1_)) (by have h_:((ji19):Int)<((x0_2.length:Int):Int):=dT (by first | (with_reducible assumption) | assumption);first | exact h_ | (have e_:=(Kd.R_reads' HO_0.out).1;omega) | simpa using h_) (seg:=[.int .i64 ((rd_T77 x0_2 x9_2).f0),.int .i64 ((rd_T77 x0_2 x9_2).f1)]) (j:=0) hcl29 hcc29 (show 2≤2 from by decide) (x':=(⟨(rd_T77 x0_2 x9_2).f0,(rd_T77 x0_2 x9_2).f1⟩:S77)) (k77_mkM _ _ _ (⟨(rd_T77 x0_2 x9_2).f0,(rd_T77 x0_2 x9_2).f1⟩:S77) ) (fun _ hk=>hk)).1
             rw [← Ny166.out] at HP29
             have HQ29:=aM HP29
             clear hcl29 hcc29 hfr29 hM29 HP29
             refine start_ (n:=18) (S:=fun w'=>w'.cell? ⟨go24,((ji19)).toNat*2,none⟩=some (.int .i64 ((rd_T77 x0_2 (ji19)).f0))∧w'.cell? ⟨go24,((ji19)).toNat*2+1,none⟩=some (.int .i64 ((rd_T77 x0_2 (ji19)).f1))∧w'.cell? ⟨go24,((x9_2).toNat*2),none⟩=some (.int .i64 ((rd_T77 x0_2 x9_2).f0))∧w'.cell? ⟨go24,((x9_2).toNat*2)+1,none⟩=some (.int .i64 ((rd_T77 x0_2 x9_2).f1))) (ds:=[15,17]) #[O,O,O,O,O,O,O,O,O,O,O,O,O,O,O,O,O,O] (by kernel_rfl) rfl rfl ⟨hx163_0,hx163_1,hx164_0,hx164_1⟩ (fun hHeld=>?_);refine with_tabW Y2.tab6 Y2.bits6 (fun HT_ HW_=>?_)
             generalize wc.drew=w26 at HO_0 HK HB GG24 HQ28 HQ29 hf24_0 hf24_1 hf25_0 hf25_1 hx163_0 hx163_1 hx164_0 hx164_1 hx24_0 hx24_1 hx25_0 hx25_1 hHeld ⊢
             have hne_:ji19.toNat*2≠x9_2.toNat*2:=by have a_:=of_eq_true p163;have b_:=of_eq_true p164;unfold wrap64 at hji19;omega
             have hz25_0:∀ V,(w26.setCell ⟨go24,(x9_2:Int).toNat*2,none⟩ V).cell? ⟨go24,((ji19):Int).toNat*2,none⟩=some (.int .i64 ((rd_T77 x0_2 (ji19)).f0)):=fun V=>(World.cell?_setCell_other _ _ _ _ (by intro e_;injection e_;omega)).trans hx163_0
             have hz25_1:∀ V,(w26.setCell ⟨go24,(x9_2:Int).toNat*2+1,none⟩ V).cell? ⟨go24,((ji19):Int).toNat*2+1,none⟩=some (.int .i64 ((rd_T77 x0_2 (ji19)).f1)):=fun V=>(World.cell?_setCell_other _ _ _ _ (by intro e_;injection e_;omega)).trans hx163_1
             have hy25_0:w26.frozen? ⟨go24,((ji19):Int).toNat*2,none⟩=false:=by have h_:=hf25_0;first | exact h_ | simpa only [World.frozen?_setCell] using h_ | simpa [World.setCells] using h_
             have hy25_1:w26.frozen? ⟨go24,((ji19):Int).toNat*2+1,none⟩=false:=by have h_:=hf25_1;first | exact h_ | simpa only [World.frozen?_setCell] using h_ | simpa [World.setCells] using h_
             refine pu_ 0 37 #[I,O,O,O,O,O,O,O,O,O,O,O,O,O,O,O,O,O] HT_.out ?_
             refine pu_ 1 38 #[I,I,O,O,O,O,O,O,O,O,O,O,O,O,O,O,O,O] HT_.out ?_
             refine pu_ 2 39 #[I,I,I,O,O,O,O,O,O,O,O,O,O,O,O,O,O,O] HT_.out ?_
             refine pu_ 3 40 #[I,I,I,I,O,O,O,O,O,O,O,O,O,O,O,O,O,O] HT_.out ?_
             refine pu_ 4 41 #[I,I,I,I,I,O,O,O,O,O,O,O,O,O,O,O,O,O] HT_.out ?_
             refine pu_ 5 42 #[I,I,I,I,I,I,O,O,O,O,O,O,O,O,O,O,O,O] HT_.out ?_
             refine pu_ 6 43 #[I,I,I,I,I,I,I,O,O,O,O,O,O,O,O,O,O,O] HT_.out ?_
             refine pu_ 7 44 #[I,I,I,I,I,I,I,I,O,O,O,O,O,O,O,O,O,O] HT_.out ?_
             refine pu_ 8 45 #[I,I,I,I,I,I,I,I,I,O,O,O,O,O,O,O,O,O] HT_.out ?_
             refine pu_ 10 47 #[I,I,I,I,I,I,I,I,I,O,I,O,O,O,O,O,O,O] HT_.out ?_
             refine pu_ 11 48 #[I,I,I,I,I,I,I,I,I,O,I,I,O,O,O,O,O,O] HT_.out ?_
             refine pu_ 12 49 #[I,I,I,I,I,I,I,I,I,O,I,I,I,O,O,O,O,O] HT_.out ?_
             refine tk4_ 9 46 #[I,I,I,I,I,I,I,I,I,I,I,I,I,O,O,O,O,O] HT_.out HW_.out hHeld ?_
             refine tk4_ 13 50 #[I,I,I,I,I,I,I,I,I,I,I,I,I,I,O,O,O,O] HT_.out HW_.out hHeld ?_
             refine pu_ 14 51 #[I,I,I,I,I,I,I,I,I,I,I,I,I,I,I,O,O,O] HT_.out ?_
             refine last_ (i:=15) (N:=none) #[I,I,I,I,I,I,I,I,I,I,I,I,I,I,I,I,O,O] rfl rfl (one_of HT_.out (by kernel_rfl)) (by decide) (fun K hK=>?_)
             refine skip_ (w1:=?_) (by rfl) rfl ?_ ?_
             rotate_left
             ·go_simp
              rfl
             refine hK.out _ _ ?_
             clear hK K
             refine pu_ 16 52 #[I,I,I,I,I,I,I,I,I,I,I,I,I,I,I,I,I,O] HT_.out ?_
             refine last_ (i:=17) (N:=none) #[I,I,I,I,I,I,I,I,I,I,I,I,I,I,I,I,I,I] rfl rfl (one_of HT_.out (by kernel_rfl)) (by decide) (fun K hK=>?_)
             refine skip_ (w1:=?_) (by rfl) rfl ?_ ?_
             rotate_left
             ·go_simp
              rfl
             refine hK.out _ _ ?_
             clear hK K
             refine done_ (done_of HT_.out (by kernel_rfl)) ?_
             try go_wp2
             go_roundg kj5
             case measure=>have:=HK1.out;have:=HK2.out;have:=HJ5.out;omega
             case rel=>exact ⟨(y166),(ji19),(by first | rfl | (simp;done) | (simp only [← hji19] <;> (first | rfl | simp)) | (simp [*];done)),H',⟨by have:=HK1.out;have:=HK2.out;have:=HJ5.out;omega⟩,⟨z2_ HQ29.out⟩,⟨z27_ HK.out HMgo24.out⟩,⟨z28_ HB.out GB24.out⟩⟩
            ·rw [if_neg c23] at H
             exact nO H
           ·rw [if_neg c22] at H
            exact nO H
          ·rw [if_neg c21] at H
           exact nO H
         ·rw [if_neg c20] at H
          exact nO H
        ·replace c18:=Bool.eq_false_iff.mpr c18
         subst c18
         have H1:(Y2.l0 kj5 x0_2 a1 a2 (wrap64 (x8_1+1)))=some r:=by rw [if_neg (show ¬ (false=true) by decide)] at H;exact H
         clear H
         have H:=H1
         clear H1
         have H':=aM H
         clear H
         go_wp2
         go_roundg kj5
         case measure=>have:=HK1.out;have:=HK2.out;have:=HJ5.out;omega
         case rel=>exact ⟨(x0_2),(wrap64 (x8_1+1)),(z0_),H',⟨by have:=HK1.out;have:=HK2.out;have:=HJ5.out;omega⟩,⟨z2_ HO_0.out⟩,⟨z5_ HK.out⟩,⟨z3_ HB.out⟩⟩
   ·rw [if_neg c5] at H
    have c5b0:decide (x8_1<a2)=false:=dF c5
    clear c5
    obtain rfl:=sI H
    go_wp2
    first | go_end0 | ((try simp only [Exit.inBlock,Exit.then]);refine bodyPost_ret (results_none rfl _ _ _) rfl ?_)
    exact ⟨z9_,z2_ HO_0.out,z3_ HB.out,z5_ HK.out⟩


/-! ### Y48: function 123 -/
def Y48.f (l0:List (S77)) (a1:Int) (a2:Int)  : Option (Unit):=none
theorem Y48.calls (A0:Option Addr) (c0:Nat) (l0:List (S77)) (a1:Int) (a2:Int)  (w:World) (hr0:Kd.C k77 w A0 l0.length l0) (hc0:l0.length≤c0) (h:Y48.f l0 a1 a2=some ()) :
  Calls Tryd.prog 123 #[.slice A0 l0.length c0,.int .i64 a1,.int .i64 a2,.func (.func 78) #[] #[]] w fun e w'=>e = .returned (.tuple #[])∧Drawn0 w w':=by
 have HR0:=aM hr0
 have HC0:=aM hc0
 clear hr0 hc0
 have H:(none)=some ():=h
 clear h
 exact nO H


/-! ### Y35: function 124 -/
def Y35.f (l0:List (S77)) (a1:Int) (a2:Int)  : Option (Unit):=none
theorem Y35.calls (A0:Option Addr) (c0:Nat) (l0:List (S77)) (a1:Int) (a2:Int)  (w:World) (hr0:Kd.C k77 w A0 l0.length l0) (hc0:l0.length≤c0) (h:Y35.f l0 a1 a2=some ()) :
  Calls Tryd.prog 124 #[.slice A0 l0.length c0,.int .i64 a1,.int .i64 a2,.func (.func 78) #[] #[]] w fun e w'=>e = .returned (.tuple #[])∧Drawn0 w w':=by
 have HR0:=aM hr0
 have HC0:=aM hc0
 clear hr0 hc0
 have H:(none)=some ():=h
 clear h
 exact nO H


/-- A state of type 3 at block g of W; what its slices lead to came in by w0. -/
def IsS3 (w0 W:World) (g:Nat) (f0:Int):Prop:=W.heap[g]? = some (.cells #[.int .i64 f0] 3 (0,0))∧w0.heap.size≤g
theorem IsS3.grown {w0 W:World} {g:Nat} {f0:Int} {W1:World} {row:Option Nat} (h:IsS3 w0 W g f0) (hw:W.grownBy W1 row) (hne:some g≠row):IsS3 w0 W1 g f0:=by
 obtain ⟨hb,hg⟩:=h
 exact ⟨blk_grown hb hw hne,hg⟩
theorem IsS3.kept {w0 W:World} {g:Nat} {f0:Int} {W1:World} {S:Nat→Prop} (h:IsS3 w0 W g f0) (hk:Kept W W1 S) (hne:¬ S g):IsS3 w0 W1 g f0:=by
 obtain ⟨hb,hg⟩:=h
 exact ⟨blk_kept hb hk hne,hg⟩
theorem IsS3.below {w0 W:World} {g:Nat} {f0:Int} {W1:World} (h:IsS3 w0 W g f0) (hw:Below W.heap.size W W1):IsS3 w0 W1 g f0:=h.grown (grown_of_below hw none) (by simp)
theorem IsS3.alloc {w0 W:World} {g:Nat} {f0:Int} (h:IsS3 w0 W g f0) (o:Obj):IsS3 w0 (W.alloc o) g f0:=h.below (below_alloc (Below.refl _ _) o)
theorem IsS3.drewN {w0 W:World} {g:Nat} {f0:Int} (h:IsS3 w0 W g f0) (m:Nat):IsS3 w0 (W.drewN m) g f0:=h
theorem IsS3.drew {w0 W:World} {g:Nat} {f0:Int} (h:IsS3 w0 W g f0):IsS3 w0 W.drew g f0:=h
theorem IsS3.apart {w0 W:World} {g:Nat} {f0:Int} {α:Type} {d:Kd α} {e:Nat} {base:Nat} {ok:Nat→Prop} {v:Value} {xs:List α} (h:IsS3 w0 W g f0) (ho:d.R e W base ok v xs) (ht:∀ q,q ∈ e :: d.E→q≠3):d.R e W base (fun k=>ok k∧k≠g) v xs:=by
 obtain ⟨hb,hg⟩:=h
 exact Kd.R_types ho hb ht
theorem IsS3.own_ne {w0 W:World} {g:Nat} {f0:Int} {α:Type} {d:Kd α} {e:Nat} {base:Nat} {ok:Nat→Prop} {v:Value} {xs:List α} (h:IsS3 w0 W g f0) (ho:d.R e W base ok v xs) (ht:e≠3):some g≠v.ownBlock:=by
 obtain ⟨hb,hg⟩:=h
 exact Kd.R_ne ho hb ht
theorem IsS3.ge {w0 W:World} {g:Nat} {f0:Int} (h:IsS3 w0 W g f0):w0.heap.size≤g:=by
 obtain ⟨hb,hg⟩:=h
 exact hg
theorem cellS3_0 {W:World} {g:Nat} {f0:Int} (h:W.heap[g]? = some (.cells #[.int .i64 f0] 3 (0,0))):W.cell? ⟨g,0,none⟩=some (.int .i64 f0):=(blk_cell h 0).trans rfl
theorem IsS3.set_0 {w0 W:World} {g:Nat} {f0:Int} (h:IsS3 w0 W g f0) (x:Int):IsS3 w0 (W.setCell ⟨g,0,none⟩ (.int .i64 x)) g x:=by
 obtain ⟨hb,hg⟩:=h
 exact ⟨by simpa using blk_set hb 0 (.int .i64 x),hg⟩
/-! ### Y4: function 148 -/
def Y4.f (k:Nat) (l0:List (S77)) (a1:Int) (a2:Int) (s3_0:Int)  : Option (Int × Int × Int):=if 0≤a2 then (if a2<(l0.length:Int) then (if 0≤a1 then (if a1<(l0.length:Int) then ((Y14.f k ((rd_T77 l0 a2).f0) ((rd_T77 l0 a2).f1) ((rd_T77 l0 a1).f0) ((rd_T77 l0 a1).f1)).bind fun t169=>(if t169<0 then (some (a2,a1,wrap64 (s3_0+1))) else (some (a1,a2,s3_0)))) else (none)) else (none)) else (none)) else (none)
theorem Y4.mono:∀ a0 a1 a2 a3 k,LeO (Y4.f k a0 a1 a2 a3) (Y4.f (k+1) a0 a1 a2 a3):=by
 intro a0 a1 a2 a3 k
 have m0:=@Y14.mono
 unfold Y4.f
 exact mO
def Y4.T1:Bool × List (List Nat × List Nat):=(true,[([],[]),([],[]),([],[]),([1,2],[1,2]),([3],[3]),([],[]),([],[]),([5,6],[5,6]),([7],[7]),([0,4,8],[0,4,8]),([9],[9])])
def Y4.B1:List Nat:=[0,0,0,6,14,0,0,96,224,511,1023]
theorem Y4.tab1:rtab .any (opsOf Tryd.f148 1)=Y4.T1:=by kernel_rfl
theorem Y4.bits1:waitsOk Y4.T1.2 Y4.B1=true:=by kernel_rfl
theorem Y4.calls (k:Nat) (A0:Option Addr) (c0:Nat) (l0:List (S77)) (a1:Int) (a2:Int) (g:Nat) (s3_0:Int)  (r1:Int) (r2:Int) (r3:Int) (w0 w:World) (hI:IsS3 w0 w g s3_0) (hB:Below w0.heap.size w0 w) (hr0:∀ W_,KeepBut w W_ g none→Kd.C k77 W_ A0 l0.length l0) (hc0:l0.length≤c0) (h:Y4.f k l0 a1 a2 s3_0=some (r1,r2,r3)) :
  Calls Tryd.prog 148 #[.slice A0 l0.length c0,.int .i64 a1,.int .i64 a2,.pointer (some ⟨g,0,none⟩),.func (.func 78) #[] #[]] w fun e w'=>e = .returned (.tuple #[.int .i64 r1,.int .i64 r2])∧IsS3 w0 w' g r3∧Below w0.heap.size w0 w'∧KeepBut w w' g none:=by
 have hu77:=Tryd.underlying77
 have HR0:=aM hr0
 have HC0:=aM hc0
 clear hr0 hc0
 have HI3:=aM hI
 have HK:=aM (KeepBut.refl w g none)
 have HL:=aM hB.size
 clear hI
 have HW0:=aM hB.size
 have HB:=aM hB
 clear hB
 have H:(if 0≤a2 then (if a2<(l0.length:Int) then (if 0≤a1 then (if a1<(l0.length:Int) then ((Y14.f k ((rd_T77 l0 a2).f0) ((rd_T77 l0 a2).f1) ((rd_T77 l0 a1).f0) ((rd_T77 l0 a1).f1)).bind fun t169=>(if t169<0 then (some (a2,a1,wrap64 (s3_0+1))) else (some (a1,a2,s3_0)))) else (none)) else (none)) else (none)) else (none))=some (r1,r2,r3):=h
 clear h
 by_cases c6:0≤a2
 ·rw [if_pos c6] at H
  have c6b0:decide (0≤a2)=true:=dE c6
  clear c6
  by_cases c7:a2<(l0.length:Int)
  ·rw [if_pos c7] at H
   have c7b0:decide (a2<(l0.length:Int))=true:=dE c7
   clear c7
   by_cases c8:0≤a1
   ·rw [if_pos c8] at H
    have c8b0:decide (0≤a1)=true:=dE c8
    clear c8
    by_cases c9:a1<(l0.length:Int)
    ·rw [if_pos c9] at H
     have c9b0:decide (a1<(l0.length:Int))=true:=dE c9
     clear c9
     replace H:=bS H
     obtain ⟨t169,A100,H⟩:=H
     replace H:(if t169<0 then (some (a2,a1,wrap64 (s3_0+1))) else (some (a1,a2,s3_0)))=some (r1,r2,r3):=H
     have A10:=aM A100
     clear A100
     by_cases c11:t169<0
     ·rw [if_pos c11] at H
      have c11b0:decide (t169<0)=true:=dE c11
      clear c11
      simp only [Option.some.injEq,Prod.mk.injEq] at H
      obtain ⟨rfl,rfl,rfl⟩:=H
      go_enter Tryd.func148,Tryd.ntmps148
      try go_wp2
      have n0_:=aM (IsS3.drew HI3.out)
      have n1_:=aM (keep_drew HK.out)
      have n2_:=aM (below_drew1 HB.out)
      clear HI3
      clear HK
      clear HB
      have HI3:=n0_
      have HK:=n1_
      have HB:=n2_
      clear n0_ n1_ n2_
      have p167:0≤(a2:Int):=dT (z1_)
      have q167:a2<(l0.length:Int):=dT (z1_)
      obtain ⟨ad167,e167,hx167_0,hx167_1⟩:=at_T77 (Kd.C_foot_now HR0.out HK.out) a2 p167 q167
      have hw167_1:=hx167_1
      have hw167_0:=hx167_0
      cases e167
      have hne167_1:=(show (⟨(ad167.add ((a2).toNat*2)).block,(ad167.add ((a2).toNat*2)).off+1,none⟩:Addr).block≠g from by first | (rw [add_block];exact Kd.foot_ne HR0.out (by omega) (by decide)) | (show (Addr.add _ _).block≠_;rw [add_block];exact Kd.foot_ne HR0.out (by omega) (by decide)) | exact Kd.foot_ne HR0.out (by omega) (by decide) | (dsimp only;exact Kd.foot_ne HR0.out (by omega) (by decide)))
      have hlt167_1:=(Kd.foot_lt HR0.out (by omega) (by decide))
      have hne167_0:=(show ((ad167.add ((a2).toNat*2)):Addr).block≠g from by first | (rw [add_block];exact Kd.foot_ne HR0.out (by omega) (by decide)) | (show (Addr.add _ _).block≠_;rw [add_block];exact Kd.foot_ne HR0.out (by omega) (by decide)) | exact Kd.foot_ne HR0.out (by omega) (by decide) | (dsimp only;exact Kd.foot_ne HR0.out (by omega) (by decide)))
      have hlt167_0:=(Kd.foot_lt HR0.out (by omega) (by decide))
      replace p167:=eq_true p167
      replace q167:=eq_true q167
      have p168:0≤(a1:Int):=dT (z1_)
      have q168:a1<(l0.length:Int):=dT (z1_)
      obtain ⟨ad168,e168,hx168_0,hx168_1⟩:=at_T77 (Kd.C_foot_now HR0.out HK.out) a1 p168 q168
      have hw168_1:=hx168_1
      have hw168_0:=hx168_0
      obtain rfl:ad167=ad168:=(by injection e168)
      have hne168_1:=(show (⟨(ad167.add ((a1).toNat*2)).block,(ad167.add ((a1).toNat*2)).off+1,none⟩:Addr).block≠g from by first | (rw [add_block];exact Kd.foot_ne HR0.out (by omega) (by decide)) | (show (Addr.add _ _).block≠_;rw [add_block];exact Kd.foot_ne HR0.out (by omega) (by decide)) | exact Kd.foot_ne HR0.out (by omega) (by decide) | (dsimp only;exact Kd.foot_ne HR0.out (by omega) (by decide)))
      have hlt168_1:=(Kd.foot_lt HR0.out (by omega) (by decide))
      have hne168_0:=(show ((ad167.add ((a1).toNat*2)):Addr).block≠g from by first | (rw [add_block];exact Kd.foot_ne HR0.out (by omega) (by decide)) | (show (Addr.add _ _).block≠_;rw [add_block];exact Kd.foot_ne HR0.out (by omega) (by decide)) | exact Kd.foot_ne HR0.out (by omega) (by decide) | (dsimp only;exact Kd.foot_ne HR0.out (by omega) (by decide)))
      have hlt168_0:=(Kd.foot_lt HR0.out (by omega) (by decide))
      replace p168:=eq_true p168
      replace q168:=eq_true q168
      refine start_ (n:=11) (S:=fun w'=>w'.cell? (ad167.add ((a2).toNat*2))=some (.int .i64 ((rd_T77 l0 a2).f0))∧w'.cell? ⟨(ad167.add ((a2).toNat*2)).block,(ad167.add ((a2).toNat*2)).off+1,none⟩=some (.int .i64 ((rd_T77 l0 a2).f1))∧w'.cell? (ad167.add ((a1).toNat*2))=some (.int .i64 ((rd_T77 l0 a1).f0))∧w'.cell? ⟨(ad167.add ((a1).toNat*2)).block,(ad167.add ((a1).toNat*2)).off+1,none⟩=some (.int .i64 ((rd_T77 l0 a1).f1))) (ds:=[]) #[O,O,O,O,O,O,O,O,O,O,O] (by kernel_rfl) rfl rfl ⟨hx167_0,hx167_1,hx168_0,hx168_1⟩ (fun hHeld=>?_);refine with_tabW Y4.tab1 Y4.bits1 (fun HT_ HW_=>?_)
      generalize w.drew=w12 at HI3 HK HB hx167_0 hx167_1 hx168_0 hx168_1 hHeld ⊢
      refine pu_ 0 12 #[I,O,O,O,O,O,O,O,O,O,O] HT_.out ?_
      refine pu_ 1 13 #[I,I,O,O,O,O,O,O,O,O,O] HT_.out ?_
      refine pu_ 2 14 #[I,I,I,O,O,O,O,O,O,O,O] HT_.out ?_
      refine pu_ 3 15 #[I,I,I,I,O,O,O,O,O,O,O] HT_.out ?_
      refine pu_ 5 17 #[I,I,I,I,O,I,O,O,O,O,O] HT_.out ?_
      refine pu_ 6 18 #[I,I,I,I,O,I,I,O,O,O,O] HT_.out ?_
      refine pu_ 7 19 #[I,I,I,I,O,I,I,I,O,O,O] HT_.out ?_
      refine tk4_ 4 16 #[I,I,I,I,I,I,I,I,O,O,O] HT_.out HW_.out hHeld ?_
      refine tk4_ 8 20 #[I,I,I,I,I,I,I,I,I,O,O] HT_.out HW_.out hHeld ?_
      refine o1_ 9 21 #[I,I,I,I,I,I,I,I,I,I,O] HT_.out (fun K hK=>?_)
      refine goesD_ Tryd.func78 (by kernel_rfl) rfl #[.agg #[.int .i64 ((rd_T77 l0 a2).f0),.int .i64 ((rd_T77 l0 a2).f1)],.agg #[.int .i64 ((rd_T77 l0 a1).f0),.int .i64 ((rd_T77 l0 a1).f1)]] (by rfl) rfl rfl (by rfl) (z29_) ?_
      with_reducible refine (Y14.calls k ((rd_T77 l0 a2).f0) ((rd_T77 l0 a2).f1) ((rd_T77 l0 a1).f0) ((rd_T77 l0 a1).f1) t169 _ A10.out).mono ?_
      rintro e w13 ⟨rfl,hb⟩
      have HS0_:=(hb.cell (World.block_lt_of_cell? _ _ (hHeld.1))).trans (hHeld.1)
      have HS1_:=(hb.cell (World.block_lt_of_cell? _ _ (hHeld.2.1))).trans (hHeld.2.1)
      have HS2_:=(hb.cell (World.block_lt_of_cell? _ _ (hHeld.2.2.1))).trans (hHeld.2.2.1)
      have HS3_:=(hb.cell (World.block_lt_of_cell? _ _ (hHeld.2.2.2))).trans (hHeld.2.2.2)
      refine ⟨_,rfl,?_⟩
      have n0_:=aM (IsS3.below (z19_ HI3.out) hb)
      have n1_:=aM (KeepBut.trans (z15_ HK.out) (KeepBut.of_below hb g none) (.inl rfl))
      have n2_:=aM (below_step (z14_ HB.out HI3.out) hb)
      clear HI3
      clear HK
      clear HB
      have HI3:=n0_
      have HK:=n1_
      have HB:=n2_
      clear n0_ n1_ n2_
      (try clear hb)
      refine hK.out _ _ ⟨HS0_,HS1_,HS2_,HS3_⟩ (fun hHeld=>?_)
      clear hK K
      refine nm_ 21 ?_
      refine pu_ 10 22 #[I,I,I,I,I,I,I,I,I,I,I] HT_.out ?_
      refine done_ (done_of HT_.out (by kernel_rfl)) ?_
      obtain ⟨HGz14,hgz14⟩:=HI3.out
      have hcz14_0:=cellS3_0 HGz14
      have hfz14_0:=blk_frozen HGz14 0
      clear HGz14 hgz14
      try go_wp2
      go_ret2
      exact ⟨z9_,z19_ HI3.out,z14_ HB.out HI3.out,z15_ HK.out⟩
     ·rw [if_neg c11] at H
      have c11b0:decide (t169<0)=false:=dF c11
      clear c11
      simp only [Option.some.injEq,Prod.mk.injEq] at H
      obtain ⟨rfl,rfl,rfl⟩:=H
      go_enter Tryd.func148,Tryd.ntmps148
      try go_wp2
      have n0_:=aM (IsS3.drew HI3.out)
      have n1_:=aM (keep_drew HK.out)
      have n2_:=aM (below_drew1 HB.out)
      clear HI3
      clear HK
      clear HB
      have HI3:=n0_
      have HK:=n1_
      have HB:=n2_
      clear n0_ n1_ n2_
      have p167:0≤(a2:Int):=dT (z1_)
      have q167:a2<(l0.length:Int):=dT (z1_)
      obtain ⟨ad167,e167,hx167_0,hx167_1⟩:=at_T77 (Kd.C_foot_now HR0.out HK.out) a2 p167 q167
      have hw167_1:=hx167_1
      have hw167_0:=hx167_0
      cases e167
      have hne167_1:=(show (⟨(ad167.add ((a2).toNat*2)).block,(ad167.add ((a2).toNat*2)).off+1,none⟩:Addr).block≠g from by first | (rw [add_block];exact Kd.foot_ne HR0.out (by omega) (by decide)) | (show (Addr.add _ _).block≠_;rw [add_block];exact Kd.foot_ne HR0.out (by omega) (by decide)) | exact Kd.foot_ne HR0.out (by omega) (by decide) | (dsimp only;exact Kd.foot_ne HR0.out (by omega) (by decide)))
      have hlt167_1:=(Kd.foot_lt HR0.out (by omega) (by decide))
      have hne167_0:=(show ((ad167.add ((a2).toNat*2)):Addr).block≠g from by first | (rw [add_block];exact Kd.foot_ne HR0.out (by omega) (by decide)) | (show (Addr.add _ _).block≠_;rw [add_block];exact Kd.foot_ne HR0.out (by omega) (by decide)) | exact Kd.foot_ne HR0.out (by omega) (by decide) | (dsimp only;exact Kd.foot_ne HR0.out (by omega) (by decide)))
      have hlt167_0:=(Kd.foot_lt HR0.out (by omega) (by decide))
      replace p167:=eq_true p167
      replace q167:=eq_true q167
      have p168:0≤(a1:Int):=dT (z1_)
      have q168:a1<(l0.length:Int):=dT (z1_)
      obtain ⟨ad168,e168,hx168_0,hx168_1⟩:=at_T77 (Kd.C_foot_now HR0.out HK.out) a1 p168 q168
      have hw168_1:=hx168_1
      have hw168_0:=hx168_0
      obtain rfl:ad167=ad168:=(by injection e168)
      have hne168_1:=(show (⟨(ad167.add ((a1).toNat*2)).block,(ad167.add ((a1).toNat*2)).off+1,none⟩:Addr).block≠g from by first | (rw [add_block];exact Kd.foot_ne HR0.out (by omega) (by decide)) | (show (Addr.add _ _).block≠_;rw [add_block];exact Kd.foot_ne HR0.out (by omega) (by decide)) | exact Kd.foot_ne HR0.out (by omega) (by decide) | (dsimp only;exact Kd.foot_ne HR0.out (by omega) (by decide)))
      have hlt168_1:=(Kd.foot_lt HR0.out (by omega) (by decide))
      have hne168_0:=(show ((ad167.add ((a1).toNat*2)):Addr).block≠g from by first | (rw [add_block];exact Kd.foot_ne HR0.out (by omega) (by decide)) | (show (Addr.add _ _).block≠_;rw [add_block];exact Kd.foot_ne HR0.out (by omega) (by decide)) | exact Kd.foot_ne HR0.out (by omega) (by decide) | (dsimp only;exact Kd.foot_ne HR0.out (by omega) (by decide)))
      have hlt168_0:=(Kd.foot_lt HR0.out (by omega) (by decide))
      replace p168:=eq_true p168
      replace q168:=eq_true q168
      refine start_ (n:=11) (S:=fun w'=>w'.cell? (ad167.add ((a2).toNat*2))=some (.int .i64 ((rd_T77 l0 a2).f0))∧w'.cell? ⟨(ad167.add ((a2).toNat*2)).block,(ad167.add ((a2).toNat*2)).off+1,none⟩=some (.int .i64 ((rd_T77 l0 a2).f1))∧w'.cell? (ad167.add ((a1).toNat*2))=some (.int .i64 ((rd_T77 l0 a1).f0))∧w'.cell? ⟨(ad167.add ((a1).toNat*2)).block,(ad167.add ((a1).toNat*2)).off+1,none⟩=some (.int .i64 ((rd_T77 l0 a1).f1))) (ds:=[]) #[O,O,O,O,O,O,O,O,O,O,O] (by kernel_rfl) rfl rfl ⟨hx167_0,hx167_1,hx168_0,hx168_1⟩ (fun hHeld=>?_);refine with_tabW Y4.tab1 Y4.bits1 (fun HT_ HW_=>?_)
      generalize w.drew=w15 at HI3 HK HB hx167_0 hx167_1 hx168_0 hx168_1 hHeld ⊢
      refine pu_ 0 12 #[I,O,O,O,O,O,O,O,O,O,O] HT_.out ?_
      refine pu_ 1 13 #[I,I,O,O,O,O,O,O,O,O,O] HT_.out ?_
      refine pu_ 2 14 #[I,I,I,O,O,O,O,O,O,O,O] HT_.out ?_
      refine pu_ 3 15 #[I,I,I,I,O,O,O,O,O,O,O] HT_.out ?_
      refine pu_ 5 17 #[I,I,I,I,O,I,O,O,O,O,O] HT_.out ?_
      refine pu_ 6 18 #[I,I,I,I,O,I,I,O,O,O,O] HT_.out ?_
      refine pu_ 7 19 #[I,I,I,I,O,I,I,I,O,O,O] HT_.out ?_
      refine tk4_ 4 16 #[I,I,I,I,I,I,I,I,O,O,O] HT_.out HW_.out hHeld ?_
      refine tk4_ 8 20 #[I,I,I,I,I,I,I,I,I,O,O] HT_.out HW_.out hHeld ?_
      refine o1_ 9 21 #[I,I,I,I,I,I,I,I,I,I,O] HT_.out (fun K hK=>?_)
      refine goesD_ Tryd.func78 (by kernel_rfl) rfl #[.agg #[.int .i64 ((rd_T77 l0 a2).f0),.int .i64 ((rd_T77 l0 a2).f1)],.agg #[.int .i64 ((rd_T77 l0 a1).f0),.int .i64 ((rd_T77 l0 a1).f1)]] (by rfl) rfl rfl (by rfl) (z29_) ?_
      with_reducible refine (Y14.calls k ((rd_T77 l0 a2).f0) ((rd_T77 l0 a2).f1) ((rd_T77 l0 a1).f0) ((rd_T77 l0 a1).f1) t169 _ A10.out).mono ?_
      rintro e w16 ⟨rfl,hb⟩
      have HS0_:=(hb.cell (World.block_lt_of_cell? _ _ (hHeld.1))).trans (hHeld.1)
      have HS1_:=(hb.cell (World.block_lt_of_cell? _ _ (hHeld.2.1))).trans (hHeld.2.1)
      have HS2_:=(hb.cell (World.block_lt_of_cell? _ _ (hHeld.2.2.1))).trans (hHeld.2.2.1)
      have HS3_:=(hb.cell (World.block_lt_of_cell? _ _ (hHeld.2.2.2))).trans (hHeld.2.2.2)
      refine ⟨_,rfl,?_⟩
      have n0_:=aM (IsS3.below (z19_ HI3.out) hb)
      have n1_:=aM (KeepBut.trans (z15_ HK.out) (KeepBut.of_below hb g none) (.inl rfl))
      have n2_:=aM (below_step (z14_ HB.out HI3.out) hb)
      clear HI3
      clear HK
      clear HB
      have HI3:=n0_
      have HK:=n1_
      have HB:=n2_
      clear n0_ n1_ n2_
      (try clear hb)
      refine hK.out _ _ ⟨HS0_,HS1_,HS2_,HS3_⟩ (fun hHeld=>?_)
      clear hK K
      refine nm_ 21 ?_
      refine pu_ 10 22 #[I,I,I,I,I,I,I,I,I,I,I] HT_.out ?_
      refine done_ (done_of HT_.out (by kernel_rfl)) ?_
      try go_wp2
      go_ret2
      exact ⟨z9_,z19_ HI3.out,z14_ HB.out HI3.out,z15_ HK.out⟩
    ·rw [if_neg c9] at H
     exact nO H
   ·rw [if_neg c8] at H
    exact nO H
  ·rw [if_neg c7] at H
   exact nO H
 ·rw [if_neg c6] at H
  exact nO H


/-! ### Y7: function 142 -/
def Y7.f (k:Nat) (l0:List (S77)) (a1:Int) (a2:Int) (a3:Int) (s4_0:Int)  : Option (Int × Int):=(Y4.f k l0 a1 a2 s4_0).bind fun bt170=>((Y4.f k l0 bt170.2.1 a3 bt170.2.2).bind fun bt173=>((Y4.f k l0 bt170.1 bt173.1 bt173.2.2).bind fun bt176=>(some (bt176.2.1,bt176.2.2))))
theorem Y7.mono:∀ a0 a1 a2 a3 a4 k,LeO (Y7.f k a0 a1 a2 a3 a4) (Y7.f (k+1) a0 a1 a2 a3 a4):=by
 intro a0 a1 a2 a3 a4 k
 have m0:=@Y4.mono
 unfold Y7.f
 exact mO
theorem Y7.calls (k:Nat) (A0:Option Addr) (c0:Nat) (l0:List (S77)) (a1:Int) (a2:Int) (a3:Int) (g:Nat) (s4_0:Int)  (r1:Int) (r2:Int) (w0 w:World) (hI:IsS3 w0 w g s4_0) (hB:Below w0.heap.size w0 w) (hr0:∀ W_,KeepBut w W_ g none→Kd.C k77 W_ A0 l0.length l0) (hc0:l0.length≤c0) (h:Y7.f k l0 a1 a2 a3 s4_0=some (r1,r2)) :
  Calls Tryd.prog 142 #[.slice A0 l0.length c0,.int .i64 a1,.int .i64 a2,.int .i64 a3,.pointer (some ⟨g,0,none⟩),.func (.func 78) #[] #[]] w fun e w'=>e = .returned (.int .i64 r1)∧IsS3 w0 w' g r2∧Below w0.heap.size w0 w'∧KeepBut w w' g none:=by
 have HR0:=aM hr0
 have HC0:=aM hc0
 clear hr0 hc0
 have HI4:=aM hI
 have HK:=aM (KeepBut.refl w g none)
 have HL:=aM hB.size
 clear hI
 have HW0:=aM hB.size
 have HB:=aM hB
 clear hB
 have H:((Y4.f k l0 a1 a2 s4_0).bind fun bt170=>((Y4.f k l0 bt170.2.1 a3 bt170.2.2).bind fun bt173=>((Y4.f k l0 bt170.1 bt173.1 bt173.2.2).bind fun bt176=>(some (bt176.2.1,bt176.2.2)))))=some (r1,r2):=h
 clear h
 replace H:=bS H
 obtain ⟨⟨t170,t171,t172⟩,A70,H⟩:=H
 replace H:((Y4.f k l0 t171 a3 t172).bind fun bt173=>((Y4.f k l0 t170 bt173.1 bt173.2.2).bind fun bt176=>(some (bt176.2.1,bt176.2.2))))=some (r1,r2):=H
 have A7:=aM A70
 clear A70
 replace H:=bS H
 obtain ⟨⟨t173,t174,t175⟩,A80,H⟩:=H
 replace H:((Y4.f k l0 t170 t173 t175).bind fun bt176=>(some (bt176.2.1,bt176.2.2)))=some (r1,r2):=H
 have A8:=aM A80
 clear A80
 replace H:=bS H
 obtain ⟨⟨t176,t177,t178⟩,A90,H⟩:=H
 replace H:(some (t177,t178))=some (r1,r2):=H
 have A9:=aM A90
 clear A90
 simp only [Option.some.injEq,Prod.mk.injEq] at H
 obtain ⟨rfl,rfl⟩:=H
 go_enter Tryd.func142,Tryd.ntmps142
 go_wp2_with (first | ((with_reducible refine gc_ 148 ?_);refine gl_ (some 19) Tryd.func148 #[.slice A0 l0.length c0,.int .i64 a1,.int .i64 a2,.pointer (some ⟨g,0,none⟩),.func (.func 78) #[] #[]] ?_;(with_reducible refine (Y4.calls k _ _ l0 a1 a2 g s4_0  t170 t171 t172 w0 _ ?s1 ?s2 ?s3 ?s4 A7.out).mono ?_);(case s1=>repeat (first | (with_reducible first | exact HI4.out | apply IsS3.alloc | apply IsS3.drewN | apply IsS3.drew | apply IsS3.set_0) | exact HI4.out));(case s2=>repeat (first | (with_reducible first | exact HB.out | apply below_alloc | apply pw_below_drewN | apply below_drew1 | refine below_set ?_ (IsS3.ge HI4.out)) | exact HB.out));(case s3=>exact Kd.C_foot_step HR0.out (z15_ HK.out));(case s4=>exact HC0.out);rintro e w10 ⟨rfl,hi,hb,hk⟩;refine ⟨_,rfl,?_⟩;have n0_:=aM (KeepBut.trans (z15_ HK.out) hk (.inl rfl));have n1_:=aM (hb);have n2_:=aM (hi);clear HK;clear HB;clear HI4;have HK:=n0_;have HB:=n1_;have HI4:=n2_;clear n0_ n1_ n2_;(try clear hb);(try clear hk);(try clear hi)) | ((with_reducible refine gc_ 148 ?_);refine gl_ (some 28) Tryd.func148 #[.slice A0 l0.length c0,.int .i64 t171,.int .i64 a3,.pointer (some ⟨g,0,none⟩),.func (.func 78) #[] #[]] ?_;(with_reducible refine (Y4.calls k _ _ l0 t171 a3 g t172  t173 t174 t175 w0 _ ?s1 ?s2 ?s3 ?s4 A8.out).mono ?_);(case s1=>repeat (first | (with_reducible first | exact HI4.out | apply IsS3.alloc | apply IsS3.drewN | apply IsS3.drew | apply IsS3.set_0) | exact HI4.out));(case s2=>repeat (first | (with_reducible first | exact HB.out | apply below_alloc | apply pw_below_drewN | apply below_drew1 | refine below_set ?_ (IsS3.ge HI4.out)) | exact HB.out));(case s3=>exact Kd.C_foot_step HR0.out (z15_ HK.out));(case s4=>exact HC0.out);rintro e w11 ⟨rfl,hi,hb,hk⟩;refine ⟨_,rfl,?_⟩;have n0_:=aM (KeepBut.trans (z15_ HK.out) hk (.inl rfl));have n1_:=aM (hb);have n2_:=aM (hi);clear HK;clear HB;clear HI4;have HK:=n0_;have HB:=n1_;have HI4:=n2_;clear n0_ n1_ n2_;(try clear hb);(try clear hk);(try clear hi)) | ((with_reducible refine gc_ 148 ?_);refine gl_ (some 37) Tryd.func148 #[.slice A0 l0.length c0,.int .i64 t170,.int .i64 t173,.pointer (some ⟨g,0,none⟩),.func (.func 78) #[] #[]] ?_;(with_reducible refine (Y4.calls k _ _ l0 t170 t173 g t175  t176 t177 t178 w0 _ ?s1 ?s2 ?s3 ?s4 A9.out).mono ?_);(case s1=>repeat (first | (with_reducible first | exact HI4.out | apply IsS3.alloc | apply IsS3.drewN | apply IsS3.drew | apply IsS3.set_0) | exact HI4.out));(case s2=>repeat (first | (with_reducible first | exact HB.out | apply below_alloc | apply pw_below_drewN | apply below_drew1 | refine below_set ?_ (IsS3.ge HI4.out)) | exact HB.out));(case s3=>exact Kd.C_foot_step HR0.out (z15_ HK.out));(case s4=>exact HC0.out);rintro e w12 ⟨rfl,hi,hb,hk⟩;refine ⟨_,rfl,?_⟩;have n0_:=aM (KeepBut.trans (z15_ HK.out) hk (.inl rfl));have n1_:=aM (hb);have n2_:=aM (hi);clear HK;clear HB;clear HI4;have HK:=n0_;have HB:=n1_;have HI4:=n2_;clear n0_ n1_ n2_;(try clear hb);(try clear hk);(try clear hi)))
 go_ret
 exact ⟨z9_,z19_ HI4.out,z14_ HB.out HI4.out,z15_ HK.out⟩


/-! ### Y5: function 141 -/
def Y5.f (k:Nat) (l0:List (S77)) (a1:Int) (s2_0:Int)  : Option (Int × Int):=(Y7.f k l0 (wrap64 (a1-1)) a1 (wrap64 (a1+1)) s2_0).bind fun bt179=>(some (bt179.1,bt179.2))
theorem Y5.mono:∀ a0 a1 a2 k,LeO (Y5.f k a0 a1 a2) (Y5.f (k+1) a0 a1 a2):=by
 intro a0 a1 a2 k
 have m0:=@Y7.mono
 unfold Y5.f
 exact mO
theorem Y5.calls (k:Nat) (A0:Option Addr) (c0:Nat) (l0:List (S77)) (a1:Int) (g:Nat) (s2_0:Int)  (r1:Int) (r2:Int) (w0 w:World) (hI:IsS3 w0 w g s2_0) (hB:Below w0.heap.size w0 w) (hr0:∀ W_,KeepBut w W_ g none→Kd.C k77 W_ A0 l0.length l0) (hc0:l0.length≤c0) (h:Y5.f k l0 a1 s2_0=some (r1,r2)) :
  Calls Tryd.prog 141 #[.slice A0 l0.length c0,.int .i64 a1,.pointer (some ⟨g,0,none⟩),.func (.func 78) #[] #[]] w fun e w'=>e = .returned (.int .i64 r1)∧IsS3 w0 w' g r2∧Below w0.heap.size w0 w'∧KeepBut w w' g none:=by
 have HR0:=aM hr0
 have HC0:=aM hc0
 clear hr0 hc0
 have HI2:=aM hI
 have HK:=aM (KeepBut.refl w g none)
 have HL:=aM hB.size
 clear hI
 have HW0:=aM hB.size
 have HB:=aM hB
 clear hB
 have H:((Y7.f k l0 (wrap64 (a1-1)) a1 (wrap64 (a1+1)) s2_0).bind fun bt179=>(some (bt179.1,bt179.2)))=some (r1,r2):=h
 clear h
 replace H:=bS H
 obtain ⟨⟨t179,t180⟩,A50,H⟩:=H
 replace H:(some (t179,t180))=some (r1,r2):=H
 have A5:=aM A50
 clear A50
 simp only [Option.some.injEq,Prod.mk.injEq] at H
 obtain ⟨rfl,rfl⟩:=H
 go_enter Tryd.func141,Tryd.ntmps141
 go_wp2_with (first | ((with_reducible refine gc_ 142 ?_);refine gl_ (some 17) Tryd.func142 #[.slice A0 l0.length c0,.int .i64 (wrap64 (a1-1)),.int .i64 a1,.int .i64 (wrap64 (a1+1)),.pointer (some ⟨g,0,none⟩),.func (.func 78) #[] #[]] ?_;(with_reducible refine (Y7.calls k _ _ l0 (wrap64 (a1-1)) a1 (wrap64 (a1+1)) g s2_0  t179 t180 w0 _ ?s1 ?s2 ?s3 ?s4 A5.out).mono ?_);(case s1=>repeat (first | (with_reducible first | exact HI2.out | apply IsS3.alloc | apply IsS3.drewN | apply IsS3.drew | apply IsS3.set_0) | exact HI2.out));(case s2=>repeat (first | (with_reducible first | exact HB.out | apply below_alloc | apply pw_below_drewN | apply below_drew1 | refine below_set ?_ (IsS3.ge HI2.out)) | exact HB.out));(case s3=>exact Kd.C_foot_step HR0.out (z15_ HK.out));(case s4=>exact HC0.out);rintro e w6 ⟨rfl,hi,hb,hk⟩;refine ⟨_,rfl,?_⟩;have n0_:=aM (KeepBut.trans (z15_ HK.out) hk (.inl rfl));have n1_:=aM (hb);have n2_:=aM (hi);clear HK;clear HB;clear HI2;have HK:=n0_;have HB:=n1_;have HI2:=n2_;clear n0_ n1_ n2_;(try clear hb);(try clear hk);(try clear hi)))
 go_ret
 exact ⟨z9_,z19_ HI2.out,z14_ HB.out HI2.out,z15_ HK.out⟩


/-! ### Y3: function 125 -/
def Y3.j0:Nat→Int→Int→Option (Int × Int)
 | 0,_,_=>none
 | k+1,x13,x182000=>if x182000=0 then (some (x13,1)) else (if x182000=12 then (some (x13,2)) else (some (x13,0)))
def Y3.f (k:Nat) (l0:List (S77)) (a1:Int) (a2:Int)  : Option (Int × Int):=if (wrap64 (a2-a1))≥8 then (if (wrap64 (a2-a1))≥50 then ((Y5.f k l0 (wrap64 (a1+(wrap64 ((wrap64 (Int.tdiv (wrap64 (a2-a1)) 4)))))) 0).bind fun bt182=>((Y5.f k l0 (wrap64 (a1+(wrap64 ((wrap64 (Int.tdiv (wrap64 (a2-a1)) 4))*2)))) bt182.2).bind fun bt184=>((Y5.f k l0 (wrap64 (a1+(wrap64 ((wrap64 (Int.tdiv (wrap64 (a2-a1)) 4))*3)))) bt184.2).bind fun bt186=>((Y7.f k l0 bt182.1 bt184.1 bt186.1 bt186.2).bind fun bt188=>(Y3.j0 k bt188.1 bt188.2))))) else ((Y7.f k l0 (wrap64 (a1+(wrap64 ((wrap64 (Int.tdiv (wrap64 (a2-a1)) 4)))))) (wrap64 (a1+(wrap64 ((wrap64 (Int.tdiv (wrap64 (a2-a1)) 4))*2)))) (wrap64 (a1+(wrap64 ((wrap64 (Int.tdiv (wrap64 (a2-a1)) 4))*3)))) 0).bind fun bt190=>(Y3.j0 k bt190.1 bt190.2))) else (Y3.j0 k (wrap64 (a1+(wrap64 ((wrap64 (Int.tdiv (wrap64 (a2-a1)) 4))*2)))) 0)
theorem Y3.mono_l:∀ k,(∀ y0 y1,LeO (Y3.j0 k y0 y1) (Y3.j0 (k+1) y0 y1))
 | 0=>by intros <;> exact LeO.none _
 | k+1=>by
  have ih0:=Y3.mono_l k
  have m0:=@Y5.mono
  have m1:=@Y7.mono
  ·intros
   unfold Y3.j0
   exact mO
theorem Y3.mono:∀ a0 a1 a2 k,LeO (Y3.f k a0 a1 a2) (Y3.f (k+1) a0 a1 a2):=by
 intro a0 a1 a2 k
 have m0:=@Y5.mono
 have m1:=@Y7.mono
 have ih0:=Y3.mono_l k
 unfold Y3.f
 exact mO
theorem Y3.calls (k:Nat) (A0:Option Addr) (c0:Nat) (l0:List (S77)) (a1:Int) (a2:Int)  (r1:Int) (r2:Int) (w:World) (hr0:Kd.C k77 w A0 l0.length l0) (hc0:l0.length≤c0) (h:Y3.f k l0 a1 a2=some (r1,r2)) :
  Calls Tryd.prog 125 #[.slice A0 l0.length c0,.int .i64 a1,.int .i64 a2,.func (.func 78) #[] #[]] w fun e w'=>e = .returned (.tuple #[.int .i64 r1,.int .i64 r2])∧Below w.heap.size w w':=by
 have HR0:=aM hr0
 have HC0:=aM hc0
 clear hr0 hc0
 have HB:=aM (Below.refl w.heap.size w)
 have H:(if (wrap64 (a2-a1))≥8 then (if (wrap64 (a2-a1))≥50 then ((Y5.f k l0 (wrap64 (a1+(wrap64 ((wrap64 (Int.tdiv (wrap64 (a2-a1)) 4)))))) 0).bind fun bt182=>((Y5.f k l0 (wrap64 (a1+(wrap64 ((wrap64 (Int.tdiv (wrap64 (a2-a1)) 4))*2)))) bt182.2).bind fun bt184=>((Y5.f k l0 (wrap64 (a1+(wrap64 ((wrap64 (Int.tdiv (wrap64 (a2-a1)) 4))*3)))) bt184.2).bind fun bt186=>((Y7.f k l0 bt182.1 bt184.1 bt186.1 bt186.2).bind fun bt188=>(Y3.j0 k bt188.1 bt188.2))))) else ((Y7.f k l0 (wrap64 (a1+(wrap64 ((wrap64 (Int.tdiv (wrap64 (a2-a1)) 4)))))) (wrap64 (a1+(wrap64 ((wrap64 (Int.tdiv (wrap64 (a2-a1)) 4))*2)))) (wrap64 (a1+(wrap64 ((wrap64 (Int.tdiv (wrap64 (a2-a1)) 4))*3)))) 0).bind fun bt190=>(Y3.j0 k bt190.1 bt190.2))) else (Y3.j0 k (wrap64 (a1+(wrap64 ((wrap64 (Int.tdiv (wrap64 (a2-a1)) 4))*2)))) 0))=some (r1,r2):=h
 clear h
 have HC5:=aM H
 clear H
 go_enter Tryd.func125,Tryd.ntmps125
 go_upto_if 34 with (first | ((with_reducible refine gd_ 11 ?_);refine be_ 11 #[.int .i64 0] 3 ?_;intro gb181 hg w6 hbox hb;have n0_:=aM (below_step (z3_ HB.out) hb);have n1_:=aM ((show IsS3 w w6 gb181 0 from ⟨hbox,(z10_ HB.out:w.heap.size≤gb181)⟩));have n2_:=aM ((z10_ HB.out:w.heap.size≤gb181));have n3_:=aM ((z10_ HB.out:w.heap.size≤gb181));clear HB;have HB:=n0_;have HI181:=n1_;have GW181:=n2_;have GE181:=n3_;clear n0_ n1_ n2_ n3_;clear hb hbox hg))
 (try simp only [Act.put,sa_,s0_,ss_])
 go_cut [13] (fun v13 wc=>∃ (kq:Nat) (x13_4:Int) (x182000_4:Int),v13 = .int .i64 x13_4∧Aside0 (Y3.j0 kq x13_4 x182000_4=some (r1,r2))∧Aside0 (kq≤k)∧Aside0 (IsS3 w wc gb181 x182000_4)∧Aside0 (Below w.heap.size w wc))
 case first =>
  have H:=HC5.out
  clear HC5
  by_cases c7:(wrap64 (a2-a1))≥8
  ·rw [if_pos c7] at H
   have c7b0:decide (8≤(wrap64 (a2-a1)))=true:=dE c7
   clear c7
   (first | rw [c7b0] | (simp only [i64_w,i32_w];rw [c7b0]) | skip)
   by_cases c8:(wrap64 (a2-a1))≥50
   ·rw [if_pos c8] at H
    have c8b0:decide (50≤(wrap64 (a2-a1)))=true:=dE c8
    clear c8
    replace H:=bS H
    obtain ⟨⟨t182,t183⟩,A90,H⟩:=H
    replace H:((Y5.f k l0 (wrap64 (a1+(wrap64 ((wrap64 (Int.tdiv (wrap64 (a2-a1)) 4))*2)))) t183).bind fun bt184=>((Y5.f k l0 (wrap64 (a1+(wrap64 ((wrap64 (Int.tdiv (wrap64 (a2-a1)) 4))*3)))) bt184.2).bind fun bt186=>((Y7.f k l0 t182 bt184.1 bt186.1 bt186.2).bind fun bt188=>(Y3.j0 k bt188.1 bt188.2))))=some (r1,r2):=H
    have A9:=aM A90
    clear A90
    replace H:=bS H
    obtain ⟨⟨t184,t185⟩,A100,H⟩:=H
    replace H:((Y5.f k l0 (wrap64 (a1+(wrap64 ((wrap64 (Int.tdiv (wrap64 (a2-a1)) 4))*3)))) t185).bind fun bt186=>((Y7.f k l0 t182 t184 bt186.1 bt186.2).bind fun bt188=>(Y3.j0 k bt188.1 bt188.2)))=some (r1,r2):=H
    have A10:=aM A100
    clear A100
    replace H:=bS H
    obtain ⟨⟨t186,t187⟩,A110,H⟩:=H
    replace H:((Y7.f k l0 t182 t184 t186 t187).bind fun bt188=>(Y3.j0 k bt188.1 bt188.2))=some (r1,r2):=H
    have A11:=aM A110
    clear A110
    replace H:=bS H
    obtain ⟨⟨t188,t189⟩,A120,H⟩:=H
    replace H:(Y3.j0 k t188 t189)=some (r1,r2):=H
    have A12:=aM A120
    clear A120
    have H':=aM H
    clear H
    go_wp2_with (first | ((with_reducible refine gc_ 141 ?_);refine gl_ (some 40) Tryd.func141 #[.slice A0 l0.length c0,.int .i64 (wrap64 (a1+(wrap64 ((wrap64 (Int.tdiv (wrap64 (a2-a1)) 4)))))),.pointer (some ⟨gb181,0,none⟩),.func (.func 78) #[] #[]] ?_;(with_reducible refine (Y5.calls k _ _ l0 (wrap64 (a1+(wrap64 ((wrap64 (Int.tdiv (wrap64 (a2-a1)) 4)))))) gb181 0  t182 t183 w _ ?s1 ?s2 ?s3 ?s4 A9.out).mono ?_);(case s1=>repeat (first | (with_reducible first | exact HI181.out | apply IsS3.alloc | apply IsS3.drewN | apply IsS3.drew | apply IsS3.set_0) | exact HI181.out));(case s2=>repeat (first | (with_reducible first | exact HB.out | apply below_alloc | apply pw_below_drewN | apply below_drew1 | refine below_set ?_ (IsS3.ge HI181.out)) | exact HB.out));(case s3=>exact Kd.C_foot_came k77_heap HR0.out (z14_ HB.out HI181.out) (IsS3.ge HI181.out));(case s4=>exact HC0.out);rintro e w13 ⟨rfl,hi,hb,hk⟩;refine ⟨_,rfl,?_⟩;have n0_:=aM (hb);have n1_:=aM (hi);clear HB;clear HI181;have HB:=n0_;have HI181:=n1_;clear n0_ n1_;(try clear hb);(try clear hk);(try clear hi)) | ((with_reducible refine gc_ 141 ?_);refine gl_ (some 44) Tryd.func141 #[.slice A0 l0.length c0,.int .i64 (wrap64 (a1+(wrap64 ((wrap64 (Int.tdiv (wrap64 (a2-a1)) 4))*2)))),.pointer (some ⟨gb181,0,none⟩),.func (.func 78) #[] #[]] ?_;(with_reducible refine (Y5.calls k _ _ l0 (wrap64 (a1+(wrap64 ((wrap64 (Int.tdiv (wrap64 (a2-a1)) 4))*2)))) gb181 t183  t184 t185 w _ ?s1 ?s2 ?s3 ?s4 A10.out).mono ?_);(case s1=>repeat (first | (with_reducible first | exact HI181.out | apply IsS3.alloc | apply IsS3.drewN | apply IsS3.drew | apply IsS3.set_0) | exact HI181.out));(case s2=>repeat (first | (with_reducible first | exact HB.out | apply below_alloc | apply pw_below_drewN | apply below_drew1 | refine below_set ?_ (IsS3.ge HI181.out)) | exact HB.out));(case s3=>exact Kd.C_foot_came k77_heap HR0.out (z14_ HB.out HI181.out) (IsS3.ge HI181.out));(case s4=>exact HC0.out);rintro e w14 ⟨rfl,hi,hb,hk⟩;refine ⟨_,rfl,?_⟩;have n0_:=aM (hb);have n1_:=aM (hi);clear HB;clear HI181;have HB:=n0_;have HI181:=n1_;clear n0_ n1_;(try clear hb);(try clear hk);(try clear hi)) | ((with_reducible refine gc_ 141 ?_);refine gl_ (some 48) Tryd.func141 #[.slice A0 l0.length c0,.int .i64 (wrap64 (a1+(wrap64 ((wrap64 (Int.tdiv (wrap64 (a2-a1)) 4))*3)))),.pointer (some ⟨gb181,0,none⟩),.func (.func 78) #[] #[]] ?_;(with_reducible refine (Y5.calls k _ _ l0 (wrap64 (a1+(wrap64 ((wrap64 (Int.tdiv (wrap64 (a2-a1)) 4))*3)))) gb181 t185  t186 t187 w _ ?s1 ?s2 ?s3 ?s4 A11.out).mono ?_);(case s1=>repeat (first | (with_reducible first | exact HI181.out | apply IsS3.alloc | apply IsS3.drewN | apply IsS3.drew | apply IsS3.set_0) | exact HI181.out));(case s2=>repeat (first | (with_reducible first | exact HB.out | apply below_alloc | apply pw_below_drewN | apply below_drew1 | refine below_set ?_ (IsS3.ge HI181.out)) | exact HB.out));(case s3=>exact Kd.C_foot_came k77_heap HR0.out (z14_ HB.out HI181.out) (IsS3.ge HI181.out));(case s4=>exact HC0.out);rintro e w15 ⟨rfl,hi,hb,hk⟩;refine ⟨_,rfl,?_⟩;have n0_:=aM (hb);have n1_:=aM (hi);clear HB;clear HI181;have HB:=n0_;have HI181:=n1_;clear n0_ n1_;(try clear hb);(try clear hk);(try clear hi)) | ((with_reducible refine gc_ 142 ?_);refine gl_ (some 54) Tryd.func142 #[.slice A0 l0.length c0,.int .i64 t182,.int .i64 t184,.int .i64 t186,.pointer (some ⟨gb181,0,none⟩),.func (.func 78) #[] #[]] ?_;(with_reducible refine (Y7.calls k _ _ l0 t182 t184 t186 gb181 t187  t188 t189 w _ ?s1 ?s2 ?s3 ?s4 A12.out).mono ?_);(case s1=>repeat (first | (with_reducible first | exact HI181.out | apply IsS3.alloc | apply IsS3.drewN | apply IsS3.drew | apply IsS3.set_0) | exact HI181.out));(case s2=>repeat (first | (with_reducible first | exact HB.out | apply below_alloc | apply pw_below_drewN | apply below_drew1 | refine below_set ?_ (IsS3.ge HI181.out)) | exact HB.out));(case s3=>exact Kd.C_foot_came k77_heap HR0.out (z14_ HB.out HI181.out) (IsS3.ge HI181.out));(case s4=>exact HC0.out);rintro e w16 ⟨rfl,hi,hb,hk⟩;refine ⟨_,rfl,?_⟩;have n0_:=aM (hb);have n1_:=aM (hi);clear HB;clear HI181;have HB:=n0_;have HI181:=n1_;clear n0_ n1_;(try clear hb);(try clear hk);(try clear hi)))
    go_meet
    case rel=>exact ⟨_,(t188),(t189),(z0_),H',⟨by first | omega | exact Nat.le_refl _⟩,⟨z19_ HI181.out⟩,⟨z14_ HB.out HI181.out⟩⟩
   ·rw [if_neg c8] at H
    have c8b0:decide (50≤(wrap64 (a2-a1)))=false:=dF c8
    clear c8
    replace H:=bS H
    obtain ⟨⟨t190,t191⟩,A170,H⟩:=H
    replace H:(Y3.j0 k t190 t191)=some (r1,r2):=H
    have A17:=aM A170
    clear A170
    have H':=aM H
    clear H
    go_wp2_with (first | ((with_reducible refine gc_ 142 ?_);refine gl_ (some 54) Tryd.func142 #[.slice A0 l0.length c0,.int .i64 (wrap64 (a1+(wrap64 ((wrap64 (Int.tdiv (wrap64 (a2-a1)) 4)))))),.int .i64 (wrap64 (a1+(wrap64 ((wrap64 (Int.tdiv (wrap64 (a2-a1)) 4))*2)))),.int .i64 (wrap64 (a1+(wrap64 ((wrap64 (Int.tdiv (wrap64 (a2-a1)) 4))*3)))),.pointer (some ⟨gb181,0,none⟩),.func (.func 78) #[] #[]] ?_;(with_reducible refine (Y7.calls k _ _ l0 (wrap64 (a1+(wrap64 ((wrap64 (Int.tdiv (wrap64 (a2-a1)) 4)))))) (wrap64 (a1+(wrap64 ((wrap64 (Int.tdiv (wrap64 (a2-a1)) 4))*2)))) (wrap64 (a1+(wrap64 ((wrap64 (Int.tdiv (wrap64 (a2-a1)) 4))*3)))) gb181 0  t190 t191 w _ ?s1 ?s2 ?s3 ?s4 A17.out).mono ?_);(case s1=>repeat (first | (with_reducible first | exact HI181.out | apply IsS3.alloc | apply IsS3.drewN | apply IsS3.drew | apply IsS3.set_0) | exact HI181.out));(case s2=>repeat (first | (with_reducible first | exact HB.out | apply below_alloc | apply pw_below_drewN | apply below_drew1 | refine below_set ?_ (IsS3.ge HI181.out)) | exact HB.out));(case s3=>exact Kd.C_foot_came k77_heap HR0.out (z14_ HB.out HI181.out) (IsS3.ge HI181.out));(case s4=>exact HC0.out);rintro e w18 ⟨rfl,hi,hb,hk⟩;refine ⟨_,rfl,?_⟩;have n0_:=aM (hb);have n1_:=aM (hi);clear HB;clear HI181;have HB:=n0_;have HI181:=n1_;clear n0_ n1_;(try clear hb);(try clear hk);(try clear hi)))
    go_meet
    case rel=>exact ⟨_,(t190),(t191),(z0_),H',⟨by first | omega | exact Nat.le_refl _⟩,⟨z19_ HI181.out⟩,⟨z14_ HB.out HI181.out⟩⟩
  ·rw [if_neg c7] at H
   have c7b0:decide (8≤(wrap64 (a2-a1)))=false:=dF c7
   clear c7
   (first | rw [c7b0] | (simp only [i64_w,i32_w];rw [c7b0]) | skip)
   have H':=aM H
   clear H
   go_wp2
   go_meet
   case rel=>exact ⟨_,(wrap64 (a1+(wrap64 ((wrap64 (Int.tdiv (wrap64 (a2-a1)) 4))*2)))),(0),(z0_),H',⟨by first | omega | exact Nat.le_refl _⟩,⟨z19_ HI181.out⟩,⟨z14_ HB.out HI181.out⟩⟩
 case rest =>
  clear HC5
  try clear p2
  try clear p6
  try clear c7
  try clear c7b0
  try clear c8
  try clear c8b0
  obtain ⟨kq,x13_4,x182000_4,rfl,HA,HJ4,HI181,HB⟩:=hcut
  cases kq with
  | zero=>exact absurd HA.out (by simp [Y3.j0])
  | succ kj4 =>
   have H:=HA.out
   clear HA
   simp only [Y3.j0] at H
   by_cases c19:x182000_4=0
   ·rw [if_pos c19] at H
    have c19b0:(x182000_4 == 0)=true:=beq_iff_eq.mpr c19
    have c19b1:(x182000_4 != 0)=false:=bne_eq_false_iff_eq.mpr c19
    clear c19
    simp only [Option.some.injEq,Prod.mk.injEq] at H
    obtain ⟨rfl,rfl⟩:=H
    obtain ⟨HGz20,hgz20⟩:=HI181.out
    have hcz20_0:=cellS3_0 HGz20
    have hfz20_0:=blk_frozen HGz20 0
    clear HGz20 hgz20
    go_wp2
    go_ret2
    exact ⟨z9_,z14_ HB.out HI181.out⟩
   ·rw [if_neg c19] at H
    have c19b0:(x182000_4 == 0)=false:=beq_eq_false_iff_ne.mpr c19
    have c19b1:(x182000_4 != 0)=true:=bne_iff_ne.mpr c19
    by_cases c21:x182000_4=12
    ·rw [if_pos c21] at H
     have c21b0:(x182000_4 == 12)=true:=beq_iff_eq.mpr c21
     have c21b1:(x182000_4 != 12)=false:=bne_eq_false_iff_eq.mpr c21
     clear c21
     simp only [Option.some.injEq,Prod.mk.injEq] at H
     obtain ⟨rfl,rfl⟩:=H
     obtain ⟨HGz22,hgz22⟩:=HI181.out
     have hcz22_0:=cellS3_0 HGz22
     have hfz22_0:=blk_frozen HGz22 0
     clear HGz22 hgz22
     go_wp2
     go_ret2
     exact ⟨z9_,z14_ HB.out HI181.out⟩
    ·rw [if_neg c21] at H
     have c21b0:(x182000_4 == 12)=false:=beq_eq_false_iff_ne.mpr c21
     have c21b1:(x182000_4 != 12)=true:=bne_iff_ne.mpr c21
     simp only [Option.some.injEq,Prod.mk.injEq] at H
     obtain ⟨rfl,rfl⟩:=H
     obtain ⟨HGz23,hgz23⟩:=HI181.out
     have hcz23_0:=cellS3_0 HGz23
     have hfz23_0:=blk_frozen HGz23 0
     clear HGz23 hgz23
     go_wp2
     go_ret2
     exact ⟨z9_,z14_ HB.out HI181.out⟩


/-! ### Y36: function 126 -/
def Y36.f (l0:List (S77)) (a1:Int) (a2:Int)  : Option (Unit):=none
theorem Y36.calls (A0:Option Addr) (c0:Nat) (l0:List (S77)) (a1:Int) (a2:Int)  (w:World) (hr0:Kd.C k77 w A0 l0.length l0) (hc0:l0.length≤c0) (h:Y36.f l0 a1 a2=some ()) :
  Calls Tryd.prog 126 #[.slice A0 l0.length c0,.int .i64 a1,.int .i64 a2,.func (.func 78) #[] #[]] w fun e w'=>e = .returned (.tuple #[])∧Drawn0 w w':=by
 have HR0:=aM hr0
 have HC0:=aM hc0
 clear hr0 hc0
 have H:(none)=some ():=h
 clear h
 exact nO H


/-! ### Y21: function 127 -/
def Y21.f (l0:List (S77)) (a1:Int) (a2:Int)  : Option (Bool):=none
theorem Y21.calls (A0:Option Addr) (c0:Nat) (l0:List (S77)) (a1:Int) (a2:Int)  (r:Bool) (w:World) (hr0:Kd.C k77 w A0 l0.length l0) (hc0:l0.length≤c0) (h:Y21.f l0 a1 a2=some r) :
  Calls Tryd.prog 127 #[.slice A0 l0.length c0,.int .i64 a1,.int .i64 a2,.func (.func 78) #[] #[]] w fun e w'=>e = .returned (.bool r)∧Drawn0 w w':=by
 have HR0:=aM hr0
 have HC0:=aM hc0
 clear hr0 hc0
 have H:(none)=some r:=h
 clear h
 exact nO H


/-! ### Y32: function 128 -/
def Y32.f (l0:List (S77)) (a1:Int) (a2:Int) (a3:Int)  : Option (Int):=none
theorem Y32.calls (A0:Option Addr) (c0:Nat) (l0:List (S77)) (a1:Int) (a2:Int) (a3:Int)  (r:Int) (w:World) (hr0:Kd.C k77 w A0 l0.length l0) (hc0:l0.length≤c0) (h:Y32.f l0 a1 a2 a3=some r) :
  Calls Tryd.prog 128 #[.slice A0 l0.length c0,.int .i64 a1,.int .i64 a2,.int .i64 a3,.func (.func 78) #[] #[]] w fun e w'=>e = .returned (.int .i64 r)∧Drawn0 w w':=by
 have HR0:=aM hr0
 have HC0:=aM hc0
 clear hr0 hc0
 have H:(none)=some r:=h
 clear h
 exact nO H

end Go.Proofs.YtelecnmflodkkaaDoor.P
