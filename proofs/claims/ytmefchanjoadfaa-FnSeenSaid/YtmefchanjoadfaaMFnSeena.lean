/- Of drawn version vectors: a join contains what either contains and nothing else, an added dot is contained, what is encoded is read back; and all the program's functions of version vectors are the reference's. No condition. (Part 1 of 5: written by programs of this workplace and by hand, merged.) -/
import Derived.Test.YtmefchanjoadfaaProg
import Derived.Below
import Derived.Deep.Draws
import Derived.Deep.AppendLies
import Derived.Maps.AppendAt
import Derived.OwnWalk
import Derived.Laws.BytesArg
import Derived.Laws.MakeOwn
import Derived.Laws.OwnMore
import Derived.Deep.OwnRows
import Derived.Tactics
import Derived.Lib.ConvBytes
import Derived.Laws.Slices
import Derived.WalkKit
import Derived.KernelRfl
import Derived.RowKit3
import Derived.Deep.LoopGhost
import Derived.Deep.QuietTactic
import Derived.BigQuiet
import Derived.WideLaws
import Derived.Deep.DeepCutAuto
import Derived.Deep.CutBlock
import Derived.Deep.RegionHeld3
import Derived.Laws.Rows
import Derived.Lib.AppendStr
import Derived.ArgAppend
import Derived.Laws.IdiomCopy
import Derived.OrdersHeld
import Derived.Laws.BitsLemmas
import Derived.RowKit
import Derived.Lib.Bytealg
import Derived.Lib.Walk
import Derived.Test.YtmefchanjoadfaaMFnSeenWWords
import Derived.Test.YtmefchanjoadfaaMFnSeenWLast
import Derived.Test.YtmefchanjoadfaaMFnSeenWTab
import Derived.Test.YtmefchanjoadfaaMFnSeenWApart
import Derived.Test.YtmefchanjoadfaaMFnSeenWFoot
import Derived.Test.YtmefchanjoadfaaMFnSeenWKept
import Derived.Test.YtmefchanjoadfaaMFnSeenWShare
import Derived.Test.YtmefchanjoadfaaMFnSeenWN
import Derived.Test.YtmefchanjoadfaaMFnSeenWEqStruct
import Derived.Test.YtmefchanjoadfaaMFnSeenWRepsOne
import Derived.Test.YtmefchanjoadfaaMFnSeenWInv
import Derived.Test.YtmefchanjoadfaaMFnSeenWGuard
import Derived.Test.YtmefchanjoadfaaMFnSeenWMore
set_option linter.unusedVariables false
set_option linter.unusedSimpArgs false
set_option maxHeartbeats 8000000
set_option maxRecDepth 100000

namespace Go.Proofs.Ytmefchanjoadfaa.P
open Go.RowKit Go.Proofs.YtmefchanjoadfaaW.PrintWords Go.Proofs.YtmefchanjoadfaaW.PrintLast Go.Proofs.YtmefchanjoadfaaW.PrintMore
attribute [local go_sem] max2_int min2_int max_two min_two max_three min_three max_four min_four   -- for this text's walks alone
set_option linter.unusedVariables false
set_option linter.unusedSimpArgs false

theorem sa_ {α:Type _} (l:List α) (i:Nat) (a:α):l.toArray.setIfInBounds i a=(l.set i a).toArray:=List.setIfInBounds_toArray ..
theorem s0_ {α:Type _} (x:α) (l:List α) (a:α):(x :: l).set 0 a=a :: l:=List.set_cons_zero ..
theorem ss_ {α:Type _} (x:α) (l:List α) (n:Nat) (a:α):(x :: l).set (n+1) a=x :: l.set n a:=List.set_cons_succ ..
section
variable {P:Program} {ops:Array Oper} {Q:Exit→Act→World→Prop}
end



def errW:Option Int→Value
  | none=>.nilIface
  | some c=>.iface 0 (.int .i64 c)
theorem errW_none:errW none = .nilIface:=rfl
theorem errW_some (c:Int):errW (some c) = .iface 0 (.int .i64 c):=rfl

theorem info5:(Try.prog.info? 5).map (fun i=>(i.zero,i.size,i.bytes))=some (some (.int .u8 0),1,1):=by kernel_rfl
theorem info49:(Try.prog.info? 49).map (fun i=>(i.zero,i.size,i.bytes))=some (some (.agg #[(.int .i64 0),(.int .i64 0)]),2,16):=by kernel_rfl
-- the values' own types
/-! #### struct type 137 -/
structure S137 where
  f0:Int
  f1:Int
def z137:S137:=⟨(0:Int),(0:Int)⟩
def rd_T137 (xs:List S137) (i:Int):S137:=xs.getD i.toNat z137
/-! #### struct type 49 -/
structure S49 where
  f0:Int
  f1:Int
def z49:S49:=⟨(0:Int),(0:Int)⟩
def k49:Kd S49:=Kd.iso (Kd.pair (Kd.int .i64) (Kd.int .i64)) (fun x:S49=>(x.f0,x.f1))
theorem k49_open {w:World} {x:S49} {cs:List Value} (h:k49.K w x cs):cs=[.int .i64 x.f0,.int .i64 x.f1]:=by
  obtain ⟨_,_,rfl,rfl,rfl⟩:=h
  exact rfl
theorem k49_mkM (w:World) (base:Nat) (ok:Nat→Prop) (x:S49)  : k49.M w base ok x [.int .i64 x.f0,.int .i64 x.f1]:=⟨[.int .i64 x.f0],[.int .i64 x.f1],rfl,rfl,rfl⟩
def rd_T49 (xs:List S49) (i:Int):S49:=xs.getD i.toNat z49
theorem at_T49 {w:World} {A:Option Addr} {n:Nat} {xs:List S49} (h:Kd.C k49 w A n xs) (i:Int) (h0:0≤i) (h1:i<n):∃ ad , A=some ad∧w.cell? (ad.add (i.toNat*2))=some (.int .i64 (rd_T49 xs i).f0)∧w.cell? ⟨(ad.add (i.toNat*2)).block,(ad.add (i.toNat*2)).off+1,none⟩=some (.int .i64 (rd_T49 xs i).f1):=by
  obtain ⟨ad,c,e,_,hK,hc0⟩:=Kd.C_get h z49 i h0 h1
  have hc:∀ j u,c[j]? = some u→w.cell? (ad.add (i.toNat*2+j))=some u:=hc0
  obtain rfl:=k49_open hK
  exact ⟨ad,e,hc 0 _ rfl,by rw [← add_field _ _ 1 (by omega)];exact hc 1 _ rfl⟩

end Go.Proofs.Ytmefchanjoadfaa.P

namespace Go.Proofs.Ytmefchanjoadfaa.P
open Go.RowKit Go.Proofs.YtmefchanjoadfaaW.PrintWords Go.Proofs.YtmefchanjoadfaaW.PrintLast Go.Proofs.YtmefchanjoadfaaW.PrintMore
abbrev I:=true
abbrev O:=false
theorem mO {p:Prop} (h:p:=by repeat' first | (with_reducible exact LeO.refl _) | (with_reducible exact LeO.none _) | (with_reducible refine LeO.ite ?_ ?_) | (with_reducible refine LeO.bind ?_ (fun _=>?_)) | (with_reducible apply_assumption) | apply_assumption | exact LeO.none _ | refine LeO.ite ?_ ?_ | refine LeO.bind ?_ (fun _=>?_)):p:=h
theorem nO {q p:Prop} (h:q) (f:¬q:=by simp):p:=absurd h f
theorem aM {p:Prop} (h:p):Aside0 p:=⟨h⟩
theorem sI {α:Type _} {a b:α} (h:some a=some b):a=b:=Option.some.inj h
theorem bS {α β:Type _} {x:Option α} {f:α→Option β} {b:β} (h:x.bind f=some b):∃ a,x=some a∧f a=some b:=Option.bind_eq_some_iff.mp h
theorem dT {p:Prop} [Decidable p] (h:decide p=true):p:=of_decide_eq_true h
theorem dE {p:Prop} [Decidable p] (h:p):decide p=true:=decide_eq_true h
theorem dF {p:Prop} [Decidable p] (h:¬p):decide p=false:=decide_eq_false h
section
variable {P:Program} {ops:Array Oper} {Q:Exit→Act→World→Prop} {md:Region.Mode} {S:World→Prop} {ds:List Nat}
theorem pu_ {T:Bool × List (List Nat × List Nat)} (i:Nat) (N:Tmp) {oi:Oper} {v:Value} {fuel:Nat} {l:Array Bool} {a a':Act} {w:World} (l':Array Bool) (hT:rtab md ops=T) (h:wpAnyLast P md ops Q S ds fuel l' a' w) (hi:ops[i]? = some oi:=by exact rfl) (hN:oi.dst=some N:=by exact rfl) (hc:anyT T l.toList l'.toList i=true:=by kernel_rfl) (hQ:∀ c a w,Q (.panic c) (a.put oi.dst v) w→Q (.panic c) a w:=by exact fun _ _ _ h=>h) (hw:Region.wanted oi (yielded ops a.tmps)=true:=by rfl) (hy:∀ w',(execOp a.eval oi).run P w' = .ok (.value v) w':=by (intro w');go_simp;(with_reducible rfl)) (ha:a.put (some N) v=a':=by (simp only [Act.put,sa_,s0_,ss_,i64_w,i32_w]);exact rfl):wpAnyLast P md ops Q S ds (fuel+1) l a w:=pure_ l' hi hN (any_of hT hc) hQ (Or.inl ⟨hw,hy⟩) ha h
theorem pn_ {T:Bool × List (List Nat × List Nat)} (i:Nat) (N:Tmp) {oi:Oper} {v:Value} {fuel:Nat} {l:Array Bool} {a a':Act} {w:World} (l':Array Bool) (hT:rtab md ops=T) (h:wpAnyLast P md ops Q S ds fuel l' a' w) (hi:ops[i]? = some oi:=by exact rfl) (hN:oi.dst=some N:=by exact rfl) (hc:anyT T l.toList l'.toList i=true:=by kernel_rfl) (hQ:∀ c a w,Q (.panic c) (a.put oi.dst v) w→Q (.panic c) a w:=by exact fun _ _ _ h=>h) (hw:Region.wanted oi (yielded ops a.tmps)=false:=by rfl) (hy:v=undef:=by rfl) (ha:a.put (some N) v=a':=by (simp only [Act.put,sa_,s0_,ss_,i64_w,i32_w]);exact rfl):wpAnyLast P md ops Q S ds (fuel+1) l a w:=pure_ l' hi hN (any_of hT hc) hQ (Or.inr ⟨hw,hy⟩) ha h
theorem tk2_ {T:Bool × List (List Nat × List Nat)} (i:Nat) (N:Tmp) {oi:Oper} {v:Value} {fuel:Nat} {l:Array Bool} {a a':Act} {w:World} (l':Array Bool) {B:List Nat} (hT:rtab md ops=T) (hB:waitsOk T.2 B=true) (hS:S w) (h:wpAnyLast P md ops Q S ds fuel l' a' w) (hi:ops[i]? = some oi:=by exact rfl) (hN:oi.dst=some N:=by exact rfl) (hc:takeW T B ds l.toList l'.toList i=true:=by kernel_rfl) (hQ:∀ c a w,Q (.panic c) (a.put oi.dst v) w→Q (.panic c) a w:=by exact fun _ _ _ h=>h) (hw:Region.wanted oi (yielded ops a.tmps)=true:=by rfl) (hy:∀ w',S w'→(execOp a.eval oi).run P w' = .ok (.value v) w':=by (rintro w' ⟨s0,s1⟩);go_simp;(with_reducible rfl)) (ha:a.put (some N) v=a':=by (simp only [Act.put,sa_,s0_,ss_,i64_w,i32_w]);exact rfl):wpAnyLast P md ops Q S ds (fuel+1) l a w:=take_ l' hi hN (take_ofW hT hB hc) hQ (Or.inl ⟨hw,hy⟩) hS ha h
theorem tk3_ {T:Bool × List (List Nat × List Nat)} (i:Nat) (N:Tmp) {oi:Oper} {v:Value} {fuel:Nat} {l:Array Bool} {a a':Act} {w:World} (l':Array Bool) {B:List Nat} (hT:rtab md ops=T) (hB:waitsOk T.2 B=true) (hS:S w) (h:wpAnyLast P md ops Q S ds fuel l' a' w) (hi:ops[i]? = some oi:=by exact rfl) (hN:oi.dst=some N:=by exact rfl) (hc:takeW T B ds l.toList l'.toList i=true:=by kernel_rfl) (hQ:∀ c a w,Q (.panic c) (a.put oi.dst v) w→Q (.panic c) a w:=by exact fun _ _ _ h=>h) (hw:Region.wanted oi (yielded ops a.tmps)=true:=by rfl) (hy:∀ w',S w'→(execOp a.eval oi).run P w' = .ok (.value v) w':=by (rintro w' ⟨s0,s1,s2⟩);go_simp;(with_reducible rfl)) (ha:a.put (some N) v=a':=by (simp only [Act.put,sa_,s0_,ss_,i64_w,i32_w]);exact rfl):wpAnyLast P md ops Q S ds (fuel+1) l a w:=take_ l' hi hN (take_ofW hT hB hc) hQ (Or.inl ⟨hw,hy⟩) hS ha h
theorem tk4_ {T:Bool × List (List Nat × List Nat)} (i:Nat) (N:Tmp) {oi:Oper} {v:Value} {fuel:Nat} {l:Array Bool} {a a':Act} {w:World} (l':Array Bool) {B:List Nat} (hT:rtab md ops=T) (hB:waitsOk T.2 B=true) (hS:S w) (h:wpAnyLast P md ops Q S ds fuel l' a' w) (hi:ops[i]? = some oi:=by exact rfl) (hN:oi.dst=some N:=by exact rfl) (hc:takeW T B ds l.toList l'.toList i=true:=by kernel_rfl) (hQ:∀ c a w,Q (.panic c) (a.put oi.dst v) w→Q (.panic c) a w:=by exact fun _ _ _ h=>h) (hw:Region.wanted oi (yielded ops a.tmps)=true:=by rfl) (hy:∀ w',S w'→(execOp a.eval oi).run P w' = .ok (.value v) w':=by (rintro w' ⟨s0,s1,s2,s3⟩);go_simp;(with_reducible rfl)) (ha:a.put (some N) v=a':=by (simp only [Act.put,sa_,s0_,ss_,i64_w,i32_w]);exact rfl):wpAnyLast P md ops Q S ds (fuel+1) l a w:=take_ l' hi hN (take_ofW hT hB hc) hQ (Or.inl ⟨hw,hy⟩) hS ha h
theorem tk5_ {T:Bool × List (List Nat × List Nat)} (i:Nat) (N:Tmp) {oi:Oper} {v:Value} {fuel:Nat} {l:Array Bool} {a a':Act} {w:World} (l':Array Bool) {B:List Nat} (hT:rtab md ops=T) (hB:waitsOk T.2 B=true) (hS:S w) (h:wpAnyLast P md ops Q S ds fuel l' a' w) (hi:ops[i]? = some oi:=by exact rfl) (hN:oi.dst=some N:=by exact rfl) (hc:takeW T B ds l.toList l'.toList i=true:=by kernel_rfl) (hQ:∀ c a w,Q (.panic c) (a.put oi.dst v) w→Q (.panic c) a w:=by exact fun _ _ _ h=>h) (hw:Region.wanted oi (yielded ops a.tmps)=true:=by rfl) (hy:∀ w',S w'→(execOp a.eval oi).run P w' = .ok (.value v) w':=by (rintro w' ⟨s0,s1,s2,s3,s4⟩);go_simp;(with_reducible rfl)) (ha:a.put (some N) v=a':=by (simp only [Act.put,sa_,s0_,ss_,i64_w,i32_w]);exact rfl):wpAnyLast P md ops Q S ds (fuel+1) l a w:=take_ l' hi hN (take_ofW hT hB hc) hQ (Or.inl ⟨hw,hy⟩) hS ha h
theorem tk6_ {T:Bool × List (List Nat × List Nat)} (i:Nat) (N:Tmp) {oi:Oper} {v:Value} {fuel:Nat} {l:Array Bool} {a a':Act} {w:World} (l':Array Bool) {B:List Nat} (hT:rtab md ops=T) (hB:waitsOk T.2 B=true) (hS:S w) (h:wpAnyLast P md ops Q S ds fuel l' a' w) (hi:ops[i]? = some oi:=by exact rfl) (hN:oi.dst=some N:=by exact rfl) (hc:takeW T B ds l.toList l'.toList i=true:=by kernel_rfl) (hQ:∀ c a w,Q (.panic c) (a.put oi.dst v) w→Q (.panic c) a w:=by exact fun _ _ _ h=>h) (hw:Region.wanted oi (yielded ops a.tmps)=true:=by rfl) (hy:∀ w',S w'→(execOp a.eval oi).run P w' = .ok (.value v) w':=by (rintro w' ⟨s0,s1,s2,s3,s4,s5⟩);go_simp;(with_reducible rfl)) (ha:a.put (some N) v=a':=by (simp only [Act.put,sa_,s0_,ss_,i64_w,i32_w]);exact rfl):wpAnyLast P md ops Q S ds (fuel+1) l a w:=take_ l' hi hN (take_ofW hT hB hc) hQ (Or.inl ⟨hw,hy⟩) hS ha h
theorem tk8_ {T:Bool × List (List Nat × List Nat)} (i:Nat) (N:Tmp) {oi:Oper} {v:Value} {fuel:Nat} {l:Array Bool} {a a':Act} {w:World} (l':Array Bool) {B:List Nat} (hT:rtab md ops=T) (hB:waitsOk T.2 B=true) (hS:S w) (h:wpAnyLast P md ops Q S ds fuel l' a' w) (hi:ops[i]? = some oi:=by exact rfl) (hN:oi.dst=some N:=by exact rfl) (hc:takeW T B ds l.toList l'.toList i=true:=by kernel_rfl) (hQ:∀ c a w,Q (.panic c) (a.put oi.dst v) w→Q (.panic c) a w:=by exact fun _ _ _ h=>h) (hw:Region.wanted oi (yielded ops a.tmps)=true:=by rfl) (hy:∀ w',S w'→(execOp a.eval oi).run P w' = .ok (.value v) w':=by (rintro w' ⟨s0,s1,s2,s3,s4,s5,s6,s7⟩);go_simp;(with_reducible rfl)) (ha:a.put (some N) v=a':=by (simp only [Act.put,sa_,s0_,ss_,i64_w,i32_w]);exact rfl):wpAnyLast P md ops Q S ds (fuel+1) l a w:=take_ l' hi hN (take_ofW hT hB hc) hQ (Or.inl ⟨hw,hy⟩) hS ha h
theorem o1_ {T:Bool × List (List Nat × List Nat)} (i:Nat) (N:Tmp) {oi:Oper} {fuel:Nat} {l:Array Bool} {a:Act} {w:World} (l':Array Bool) (hT:rtab md ops=T) (h:∀ K:Act→World→Prop,Shut (∀ a' w',S w'→(S w'→wpAnyLast P md ops Q S ds fuel l' a' w')→K a' w')→if Region.wanted oi (yielded ops a.tmps)=true then Oper.wp P oi a w K Q else K (a.put (some N) undef) w) (hi:ops[i]? = some oi:=by exact rfl) (hN:oi.dst=some N:=by exact rfl) (hc:(readyT T.2 l.toList == [i] && l.toList.set i true == l'.toList)=true:=by kernel_rfl) (hd:i ∉ ds:=by decide):wpAnyLast P md ops Q S ds (fuel+1) l a w:=one_ l' hi hN (one_of hT hc) hd h
theorem o2_ {T:Bool × List (List Nat × List Nat)} (i j:Nat) (Ni Nj:Tmp) {oi oj:Oper} {fuel:Nat} {l:Array Bool} {a:Act} {w:World} (li lj:Array Bool) (hT:rtab md ops=T) (h1:∀ K:Act→World→Prop,Shut (∀ a' w',S w'→(S w'→wpAnyLast P md ops Q S ds fuel li a' w')→K a' w')→if Region.wanted oi (yielded ops a.tmps)=true then Oper.wp P oi a w K Q else K (a.put (some Ni) undef) w) (h2:∀ K:Act→World→Prop,Shut (∀ a' w',S w'→(S w'→wpAnyLast P md ops Q S ds fuel lj a' w')→K a' w')→if Region.wanted oj (yielded ops a.tmps)=true then Oper.wp P oj a w K Q else K (a.put (some Nj) undef) w) (hi:ops[i]? = some oi:=by exact rfl) (hj:ops[j]? = some oj:=by exact rfl) (hNi:oi.dst=some Ni:=by exact rfl) (hNj:oj.dst=some Nj:=by exact rfl) (hc:(readyT T.2 l.toList == [i,j] && l.toList.set i true == li.toList && l.toList.set j true == lj.toList)=true:=by kernel_rfl) (hdi:i ∉ ds:=by decide) (hdj:j ∉ ds:=by decide):wpAnyLast P md ops Q S ds (fuel+1) l a w:=two_ li lj hi hj hNi hNj (two_of hT hc) hdi hdj h1 h2
theorem nm_ (N:Tmp) {fuel:Nat} {l:Array Bool} {a a':Act} {v:Value} {w:World} (h:wpAnyLast P md ops Q S ds fuel l a' w) (ha:Act.put a (some N) v=a':=by simp only [Act.put,sa_,s0_,ss_,i64_w,i32_w];rfl):wpAnyLast P md ops Q S ds fuel l (Act.put a (some N) v) w:=norm_ ha h
end
section
variable {P:Program} {ops:Array Oper} {rest:List Oper} {o:Oper} {a:Act} {Q:Exit→Act→World→Prop} {W:World}
theorem gd_ (N:Tmp) (h:wpList P ops Q (o :: rest) a W) (hN:o.dst=some N:=by with_reducible rfl):wpList P ops Q (o :: rest) a W:=h
theorem gc_ (f:FuncId) {ars:Array Operand} {ts:Array TypeId} (h:wpList P ops Q (o :: rest) a W) (ho:o.op = .call { callee:=.value (.func f),args:=ars,argTypes:=ts }:=by with_reducible rfl):wpList P ops Q (o :: rest) a W:=h
theorem be_ (N:Tmp) (cs:Array Value) (t:TypeId) (h:∀ g,g=W.heap.size→∀ w1,w1.heap[g]? = some (.cells cs t (0,0))→Below W.heap.size W w1→wpList P ops Q rest (a.put o.dst (.pointer (some ⟨g,0,none⟩))) w1) (hd:o.dst=some N:=by rfl) (hgd:o.guard=none:=by rfl) (hrun:(execOp a.eval o).run P W = .ok (.value (.pointer (some ⟨W.heap.size,0,none⟩))) (W.alloc (.cells cs t (0,0))):=by first | (go_simp;done) | (go_simp;rfl)):wpList P ops Q (o :: rest) a W:=box_event hgd hd hrun h
theorem bs_ {Kc:Act→World→Prop} (N:Tmp) (cs:Array Value) (t:TypeId) (h:∀ g,g=W.heap.size→∀ w1,w1.heap[g]? = some (.cells cs t (0,0))→Below W.heap.size W w1→Kc (a.put o.dst (.pointer (some ⟨g,0,none⟩))) w1) (hd:o.dst=some N:=by rfl) (hw:Region.wanted o (yielded ops a.tmps)=true:=by rfl) (hrun:(execOp a.eval o).run P W = .ok (.value (.pointer (some ⟨W.heap.size,0,none⟩))) (W.alloc (.cells cs t (0,0))):=by first | (go_simp;done) | (go_simp;rfl)):if Region.wanted o (yielded ops a.tmps)=true then Oper.wp P o a W Kc Q else Kc (a.put o.dst undef) W:=box_step hw hd hrun h
theorem gl_ (N:Option Tmp) {f:FuncId} {fn:Func} {ars:Array Operand} {ts:Array TypeId} (hf:P.funcs[f]? = some fn) (args:Array Value) (h:Calls P f args W fun e w'=>∃ v,e = .returned v∧wpList P ops Q rest (a.put N v) w') (hd:o.dst=N:=by exact rfl) (hg:o.guard=none:=by exact rfl) (hname:(fn.name == "runtime.NumGoroutine")=false:=by kernel_rfl) (hb:fn.body.isSome=true:=by exact rfl) (hop:o.op = .call { callee:=.value (.func f),args:=ars,argTypes:=ts }:=by exact rfl) (hargs:ars.map a.eval=args:=by (try simp only [List.map_toArray,List.map_cons,List.map_nil]);first | done | rfl | (simp only [List.length_drop,List.length_take];rfl)):wpList P ops Q (o :: rest) a W:=goesL_ N hd hg hf hname hb args hop hargs h
theorem gs_ {N:Option Tmp} {K:Act→World→Prop} {f:FuncId} {fn:Func} {ars:Array Operand} {ts:Array TypeId} (hf:P.funcs[f]? = some fn) (args:Array Value) (h:Calls P f args W fun e w'=>∃ v,e = .returned v∧K (a.put N v) w') (hname:(fn.name == "runtime.NumGoroutine")=false:=by kernel_rfl) (hb:fn.body.isSome=true:=by exact rfl) (hw:Region.wanted o (yielded ops a.tmps)=true:=by rfl) (hN:o.dst=N:=by exact rfl) (hop:o.op = .call { callee:=.value (.func f),args:=ars,argTypes:=ts }:=by exact rfl) (hargs:ars.map a.eval=args:=by (try simp only [List.map_toArray,List.map_cons,List.map_nil]);first | done | rfl | (simp only [List.length_drop,List.length_take];rfl)):if Region.wanted o (yielded ops a.tmps)=true then Oper.wp P o a W K Q else K (a.put N undef) W:=goes_ hf hname hb args hw hN hop hargs h
end
theorem cc2_ {w:World} {g:Nat} {t:TypeId} {v0 v1:Value} (h:w.heap[g]? = some (.cells #[v0,v1] t (0,0))):w.cell? ⟨g,0,none⟩=some v0∧w.cell? ⟨g,1,none⟩=some v1:=⟨blk_cell h 0,blk_cell h 1⟩
theorem cj2_ {p:Prop} {w:World} {g:Nat} {t:TypeId} {v0 v1:Value} (h:w.heap[g]? = some (.cells #[v0,v1] t (0,0))) (r:p):w.cell? ⟨g,0,none⟩=some v0∧w.cell? ⟨g,1,none⟩=some v1∧p:=⟨blk_cell h 0,blk_cell h 1,r⟩
theorem cc3_ {w:World} {g:Nat} {t:TypeId} {v0 v1 v2:Value} (h:w.heap[g]? = some (.cells #[v0,v1,v2] t (0,0))):w.cell? ⟨g,0,none⟩=some v0∧w.cell? ⟨g,1,none⟩=some v1∧w.cell? ⟨g,2,none⟩=some v2:=⟨blk_cell h 0,blk_cell h 1,blk_cell h 2⟩
theorem cc4_ {w:World} {g:Nat} {t:TypeId} {v0 v1 v2 v3:Value} (h:w.heap[g]? = some (.cells #[v0,v1,v2,v3] t (0,0))):w.cell? ⟨g,0,none⟩=some v0∧w.cell? ⟨g,1,none⟩=some v1∧w.cell? ⟨g,2,none⟩=some v2∧w.cell? ⟨g,3,none⟩=some v3:=⟨blk_cell h 0,blk_cell h 1,blk_cell h 2,blk_cell h 3⟩
theorem cj4_ {p:Prop} {w:World} {g:Nat} {t:TypeId} {v0 v1 v2 v3:Value} (h:w.heap[g]? = some (.cells #[v0,v1,v2,v3] t (0,0))) (r:p):w.cell? ⟨g,0,none⟩=some v0∧w.cell? ⟨g,1,none⟩=some v1∧w.cell? ⟨g,2,none⟩=some v2∧w.cell? ⟨g,3,none⟩=some v3∧p:=⟨blk_cell h 0,blk_cell h 1,blk_cell h 2,blk_cell h 3,r⟩
theorem blkB_ {W0 W W':World} {g:Nat} {o:Obj} (h:W0.heap[g]? = some o) (hb:Below W.heap.size W W') (f:W0.heap[g]? = some o→W.heap[g]? = some o:=by intro h_;(with_reducible repeat (first | refine blk_drewN ?_ _ | refine blk_drew ?_ | refine blk_alloc ?_ _));exact h_):W'.heap[g]? = some o:=blk_below (f h) hb
theorem neL_ {W0 W:World} {g b:Nat} {o:Obj} (h:W0.heap[b]? = some o) (hg:g=W.heap.size) (f:W0.heap[b]? = some o→W.heap[b]? = some o:=by intro h_;(with_reducible repeat (first | refine blk_drewN ?_ _ | refine blk_drew ?_ | refine blk_alloc ?_ _));exact h_):b≠g:=by rw [hg];exact Nat.ne_of_lt (blk_lt (f h))
theorem neG_ {W0 W:World} {g b:Nat} {o:Obj} (h:W0.heap[b]? = some o) (hg:g=W.heap.size) (f:W0.heap[b]? = some o→W.heap[b]? = some o:=by intro h_;(with_reducible repeat (first | refine blk_drewN ?_ _ | refine blk_drew ?_ | refine blk_alloc ?_ _));exact h_):g≠b:=by rw [hg];exact Nat.ne_of_gt (blk_lt (f h))
theorem cz1_ {w:World} {g:Nat} {t:TypeId} {v0:Value} (h:w.heap[g]? = some (.cells #[v0] t (0,0))):w.cell? ⟨g,0,none⟩=some v0∧w.frozen? ⟨g,0,none⟩=false:=⟨blk_cell h 0,blk_frozen h 0⟩
theorem cz2_ {w:World} {g:Nat} {t:TypeId} {v0 v1:Value} (h:w.heap[g]? = some (.cells #[v0,v1] t (0,0))):w.cell? ⟨g,0,none⟩=some v0∧w.cell? ⟨g,1,none⟩=some v1∧w.frozen? ⟨g,0,none⟩=false∧w.frozen? ⟨g,1,none⟩=false:=⟨blk_cell h 0,blk_cell h 1,blk_frozen h 0,blk_frozen h 1⟩
theorem cz3_ {w:World} {g:Nat} {t:TypeId} {v0 v1 v2:Value} (h:w.heap[g]? = some (.cells #[v0,v1,v2] t (0,0))):w.cell? ⟨g,0,none⟩=some v0∧w.cell? ⟨g,1,none⟩=some v1∧w.cell? ⟨g,2,none⟩=some v2∧w.frozen? ⟨g,0,none⟩=false∧w.frozen? ⟨g,1,none⟩=false∧w.frozen? ⟨g,2,none⟩=false:=⟨blk_cell h 0,blk_cell h 1,blk_cell h 2,blk_frozen h 0,blk_frozen h 1,blk_frozen h 2⟩
theorem cz4_ {w:World} {g:Nat} {t:TypeId} {v0 v1 v2 v3:Value} (h:w.heap[g]? = some (.cells #[v0,v1,v2,v3] t (0,0))):w.cell? ⟨g,0,none⟩=some v0∧w.cell? ⟨g,1,none⟩=some v1∧w.cell? ⟨g,2,none⟩=some v2∧w.cell? ⟨g,3,none⟩=some v3∧w.frozen? ⟨g,0,none⟩=false∧w.frozen? ⟨g,1,none⟩=false∧w.frozen? ⟨g,2,none⟩=false∧w.frozen? ⟨g,3,none⟩=false:=⟨blk_cell h 0,blk_cell h 1,blk_cell h 2,blk_cell h 3,blk_frozen h 0,blk_frozen h 1,blk_frozen h 2,blk_frozen h 3⟩
theorem put2_ {w:World} {g:Nat} {t:TypeId} {v0 v1 z0 z1:Value} (h:w.heap[g]? = some (.cells #[z0,z1] t (0,0))):((w.setCell ⟨g,0,none⟩ v0).setCell ⟨g,1,none⟩ v1).heap[g]? = some (.cells #[v0,v1] t (0,0)):=(blk_put (cs':=#[v0,v1]) (blk_put (cs':=#[v0,z1]) h 0 v0 rfl) 1 v1 rfl)
theorem rf2_ {α:Type} {d:Kd α} {e:TypeId} {w:World} {base g:Nat} {ok:Nat→Prop} {v:Value} {xs:List α} {v0 v1:Value} (h:d.R e w base ok v xs) (f:∀ k,ok k→k≠g):d.R e ((w.setCell ⟨g,0,none⟩ v0).setCell ⟨g,1,none⟩ v1) base ok v xs:=(Kd.R_far (p:=⟨g,1,none⟩) (Kd.R_far (p:=⟨g,0,none⟩) h f v0) f v1)
theorem put3_ {w:World} {g:Nat} {t:TypeId} {v0 v1 v2 z0 z1 z2:Value} (h:w.heap[g]? = some (.cells #[z0,z1,z2] t (0,0))):(((w.setCell ⟨g,0,none⟩ v0).setCell ⟨g,1,none⟩ v1).setCell ⟨g,2,none⟩ v2).heap[g]? = some (.cells #[v0,v1,v2] t (0,0)):=(blk_put (cs':=#[v0,v1,v2]) (blk_put (cs':=#[v0,v1,z2]) (blk_put (cs':=#[v0,z1,z2]) h 0 v0 rfl) 1 v1 rfl) 2 v2 rfl)
theorem z0_ {a0 p:Prop} (h0:a0) (f:a0→p:=by intro h0_;(with_reducible repeat (first | apply Kd.R_alloc | apply Kd.R_drewN | apply Kd.R_drew));exact h0_):p:=f h0
theorem z1_ {a0 p:Prop} (h0:a0) (f:a0→p:=by intro h0_;repeat (first | (with_reducible first | exact h0_ | apply below_alloc | apply pw_below_drewN | apply below_drew1) | exact h0_)):p:=f h0
theorem z2_ {a0 p:Prop} (h0:a0) (f:a0→p:=by intro h0_;(with_reducible repeat (first | refine blk_drewN ?_ _ | refine blk_drew ?_ | refine blk_alloc ?_ _));exact h0_):p:=f h0
theorem z3_ {p:Prop} (f:p:=by first | rfl | (simp;done) | (simp [*];done) | (simp [bne];done)):p:=f
theorem z4_ {a0 a1 p:Prop} (h0:a0) (h1:a1) (f:a0→a1→p:=by intro h0_ h1_;repeat (first | (with_reducible first | exact h0_ | apply below_alloc | apply pw_below_drewN | apply below_drew1 | refine below_set ?_ h1_) | exact h0_)):p:=f h0 h1
theorem z5_ {p:Prop} (f:p:=by first | rfl | (simp [errW_none,errW_some] <;> rfl) | (simp [*,errW_none,errW_some] <;> rfl)):p:=f
theorem z6_ {a0 p:Prop} (h0:a0) (f:a0→p:=by intro h0_;repeat (first | (with_reducible first | exact h0_ | apply KeepBut.set_ | apply keep_drewN | apply keep_drew | apply keep_alloc) | exact h0_)):p:=f h0
theorem z7_ {p:Prop} (f:p:=by first | (with_reducible assumption) | assumption):p:=f
theorem z8_ {a0 p:Prop} (h0:a0) (f:a0→p:=by intro h0_;rw [hg];exact (below_size (by repeat (first | (with_reducible first | exact h0_ | apply below_alloc | apply pw_below_drewN | apply below_drew1) | exact h0_)))):p:=f h0
theorem z9_ {a0 a1 a2 a3 a4 p:Prop} (h0:a0) (h1:a1) (h2:a2) (h3:a3) (h4:a4) (f:a0→a1→a2→a3→a4→p:=by intro h0_ h1_ h2_ h3_ h4_;repeat (first | (with_reducible first | exact h0_ | apply below_alloc | apply pw_below_drewN | apply below_drew1 | refine below_set ?_ h1_ | refine below_set ?_ h2_ | refine below_set ?_ h3_ | refine below_set ?_ h4_) | exact h0_)):p:=f h0 h1 h2 h3 h4
theorem z10_ {a0 a1 p:Prop} (h0:a0) (h1:a1) (f:a0→a1→p:=by intro h0_ h1_;repeat (first | (with_reducible first | exact h0_ | apply below_alloc | apply pw_below_drewN | apply below_drew1 | refine below_set ?_ (IsS118.ge h1_)) | exact h0_)):p:=f h0 h1
theorem z11_ {a0 a1 p:Prop} (h0:a0) (h1:a1) (f:a0→a1→p:=by intro h0_ h1_;repeat (first | (with_reducible first | exact h0_ | apply KeepBut.set_ | apply keep_drewN | apply keep_drew | apply keep_alloc | refine keep_far ?_ h1_ _) | exact h0_)):p:=f h0 h1
theorem z12_ {a0 p:Prop} (h0:a0) (f:a0→p:=by intro h0_;repeat (first | (with_reducible first | exact h0_ | apply IsS118.alloc | apply IsS118.drewN | apply IsS118.drew | apply IsS118.set_1 | apply IsS118.set_2 | apply IsS118.set_3) | exact h0_)):p:=f h0
theorem z13_ {a0 a1 a2 p:Prop} (h0:a0) (h1:a1) (h2:a2) (f:a0→a1→a2→p:=by intro h0_ h1_ h2_;repeat (first | (with_reducible first | exact h0_ | apply below_alloc | apply pw_below_drewN | apply below_drew1 | refine below_set ?_ h1_ | refine below_set ?_ h2_) | exact h0_)):p:=f h0 h1 h2
theorem z14_ {p:Prop} (f:p:=by repeat (first | exact Drawn0.refl _ | apply Drawn0.step)):p:=f
theorem z15_ {a0 p:Prop} (h0:a0) (f:a0→p:=by intro h0_;(with_reducible repeat (first | refine blk_drewN ?_ _ | refine blk_drew ?_ | refine blk_alloc ?_ _));apply put2_;(with_reducible repeat (first | refine blk_drewN ?_ _ | refine blk_drew ?_ | refine blk_alloc ?_ _));exact h0_):p:=f h0
theorem z16_ {a0 p:Prop} (h0:a0) (f:a0→p:=by intro h0_;have:=h0_;first | omega | exact Nat.le_refl _):p:=f h0
theorem z17_ {a0 a1 p:Prop} (h0:a0) (h1:a1) (f:a0→a1→p:=by intro h0_ h1_;rw [hg];exact (below_size (by repeat (first | (with_reducible first | exact h0_ | apply below_alloc | apply pw_below_drewN | apply below_drew1 | refine below_set ?_ h1_) | exact h0_)))):p:=f h0 h1
theorem z18_ {a0 p:Prop} (h0:a0) (f:a0→p:=by intro h0_;(with_reducible repeat (first | refine blk_drewN ?_ _ | refine blk_drew ?_ | refine blk_alloc ?_ _));apply put3_;(with_reducible repeat (first | refine blk_drewN ?_ _ | refine blk_drew ?_ | refine blk_alloc ?_ _));exact h0_):p:=f h0
theorem z19_ {a0 p:Prop} (h0:a0) (f:a0→p:=by intro h0_;rw [hg];exact (keep_size (w:=w) (g:=g) (row:=none) (by repeat (first | (with_reducible first | exact h0_ | apply KeepBut.set_ | apply keep_drewN | apply keep_drew | apply keep_alloc) | exact h0_)))):p:=f h0
theorem z20_ {a0 p:Prop} (h0:a0) (f:a0→p:=by intro h0_;(with_reducible repeat (first | apply Kd.R_alloc | apply Kd.R_drewN | apply Kd.R_drew));exact (Kd.R_mono (rf2_ (Kd.R_mono h0_ (fun k_ hk=>(⟨hk,hk.2⟩:_∧k_≠gb749))) (fun _ hk=>hk.2)) (fun _ h_=>h_.1))):p:=f h0
theorem z21_ {a0 p:Prop} (h0:a0) (f:a0→p:=by intro h0_;repeat (first | (with_reducible first | exact h0_ | apply IsS95.alloc | apply IsS95.drewN | apply IsS95.drew | apply IsS95.set_0 | apply IsS95.set_1 | apply IsS95.set_2) | exact h0_)):p:=f h0
theorem z22_ {a0 a1 p:Prop} (h0:a0) (h1:a1) (f:a0→a1→p:=by intro h0_ h1_;repeat (first | (with_reducible first | exact h0_ | apply below_alloc | apply pw_below_drewN | apply below_drew1 | refine below_set ?_ (IsS95.ge h1_)) | exact h0_)):p:=f h0 h1
theorem z23_ {a0 a1 a2 p:Prop} (h0:a0) (h1:a1) (h2:a2) (f:a0→a1→a2→p:=by intro h0_ h1_ h2_;repeat (first | (with_reducible first | exact h0_ | apply below_alloc | apply pw_below_drewN | apply below_drew1 | refine below_set ?_ (IsS99.ge h1_) | refine below_set ?_ h2_) | exact h0_)):p:=f h0 h1 h2
theorem z24_ {a0 a1 p:Prop} (h0:a0) (h1:a1) (f:a0→a1→p:=by intro h0_ h1_;(with_reducible repeat (first | apply Kd.R_alloc | apply Kd.R_drewN | apply Kd.R_drew));exact (Kd.R_mono (rf2_ (Kd.R_types h0_ h1_ (by decide)) (fun _ hk=>hk.2)) (fun _ h_=>h_.1))):p:=f h0 h1
theorem z25_ {p:Prop} (f:p:=by first | exact Kd.R_nil _ _ _ _ _ | exact Kd.N_nil _ _ _ _ _ | exact Kd.V_nil _ _ _ _ _ | exact Kd.Q_nil _ _ _ _ _ | exact Kd.S_nil _ _ _ _ _):p:=f
theorem z26_ {a0 p:Prop} (h0:a0) (f:a0→p:=by intro h0_;(with_reducible repeat (first | apply Kd.R_alloc | apply Kd.R_drewN | apply Kd.R_drew));exact (Kd.R_mono (rf2_ (Kd.R_mono h0_ (fun k_ hk=>(⟨hk,hk.2⟩:_∧k_≠gb734))) (fun _ hk=>hk.2)) (fun _ h_=>h_.1))):p:=f h0
theorem z27_ {a0 p:Prop} (h0:a0) (f:a0→p:=by intro h0_;(with_reducible repeat (first | apply Kd.R_alloc | apply Kd.R_drewN | apply Kd.R_drew));exact Kd.R_mono h0_ (fun _ hk=>⟨hk.1.1.1.1.1.1,⟨hk.1.1.1.1.1.2.1,⟨hk.1.1.1.1.1.2.2.2.2.2.1,⟨hk.1.1.1.1.1.2.2.2.2.2.2.2.2.2.1,⟨hk.1.1.1.1.1.2.2.2.2.2.2.2.2.2.2.1,hk.1.1.1.1.1.2.2.2.2.2.2.2.2.2.2.2⟩⟩⟩⟩⟩)):p:=f h0
theorem z28_ {a0 p:Prop} (h0:a0) (f:a0→p:=by intro h0_;(with_reducible repeat (first | apply Kd.R_alloc | apply Kd.R_drewN | apply Kd.R_drew));exact Kd.R_mono h0_ (fun _ hk=>⟨hk.1.1.1.1.1.1.1,⟨hk.1.1.1.1.1.1.2.1,⟨hk.1.1.1.1.1.1.2.2.2.2.2.1,⟨hk.1.1.1.1.1.1.2.2.2.2.2.2.2.2.2.1,⟨hk.1.1.1.1.1.1.2.2.2.2.2.2.2.2.2.2.1,hk.1.1.1.1.1.1.2.2.2.2.2.2.2.2.2.2.2⟩⟩⟩⟩⟩)):p:=f h0
theorem z29_ {a0 p:Prop} (h0:a0) (f:a0→p:=by intro h0_;repeat (first | (with_reducible first | exact h0_ | apply IsS99.alloc | apply IsS99.drewN | apply IsS99.drew | apply IsS99.set_0 | apply IsS99.set_1 | apply IsS99.set_2) | exact h0_)):p:=f h0
theorem z30_ {a0 a1 p:Prop} (h0:a0) (h1:a1) (f:a0→a1→p:=by intro h0_ h1_;repeat (first | (with_reducible first | exact h0_ | apply below_alloc | apply pw_below_drewN | apply below_drew1 | refine below_set ?_ (IsS99.ge h1_)) | exact h0_)):p:=f h0 h1
theorem z31_ {a0 a1 a2 p:Prop} (h0:a0) (h1:a1) (h2:a2) (f:a0→a1→a2→p:=by intro h0_ h1_ h2_;repeat (first | (with_reducible first | exact h0_ | apply below_alloc | apply pw_below_drewN | apply below_drew1 | refine below_set ?_ (IsS118.ge h1_) | refine below_set ?_ h2_) | exact h0_)):p:=f h0 h1 h2
theorem z32_ {a0 a1 a2 p:Prop} (h0:a0) (h1:a1) (h2:a2) (f:a0→a1→a2→p:=by intro h0_ h1_ h2_;repeat (first | (with_reducible first | exact h0_ | apply below_alloc | apply pw_below_drewN | apply below_drew1 | refine below_set ?_ (IsS95.ge h1_) | refine below_set ?_ h2_) | exact h0_)):p:=f h0 h1 h2
theorem z33_ {a0 a1 p:Prop} (h0:a0) (h1:a1) (f:a0→a1→p:=by intro h0_ h1_;repeat (first | (with_reducible first | exact h0_ | apply IsS99.alloc | apply IsS99.drewN | apply IsS99.drew | apply IsS99.set_0 | apply IsS99.set_1 | apply IsS99.set_2 | refine IsS99.far ?_ (by exact h1_) _) | exact h0_)):p:=f h0 h1
theorem z34_ {a0 a1 p:Prop} (h0:a0) (h1:a1) (f:a0→a1→p:=by intro h0_ h1_;(with_reducible repeat (first | refine blk_drewN ?_ _ | refine blk_drew ?_ | refine blk_alloc ?_ _));refine blk_far ?_ h0_ _;(with_reducible repeat (first | refine blk_drewN ?_ _ | refine blk_drew ?_ | refine blk_alloc ?_ _));refine blk_far ?_ h0_ _;(with_reducible repeat (first | refine blk_drewN ?_ _ | refine blk_drew ?_ | refine blk_alloc ?_ _));exact h1_):p:=f h0 h1
theorem z35_ {a0 a1 a2 a3 p:Prop} (h0:a0) (h1:a1) (h2:a2) (h3:a3) (f:a0→a1→a2→a3→p:=by intro h0_ h1_ h2_ h3_;repeat (first | (with_reducible first | exact h0_ | apply below_alloc | apply pw_below_drewN | apply below_drew1 | refine below_set ?_ h1_ | refine below_set ?_ h2_ | refine below_set ?_ h3_) | exact h0_)):p:=f h0 h1 h2 h3
theorem z36_ {a0 a1 p:Prop} (h0:a0) (h1:a1) (f:a0→a1→p:=by intro h0_ h1_;repeat (first | (with_reducible first | exact h0_ | apply IsS118.alloc | apply IsS118.drewN | apply IsS118.drew | apply IsS118.set_1 | apply IsS118.set_2 | apply IsS118.set_3 | refine IsS118.far ?_ (by exact h1_) _) | exact h0_)):p:=f h0 h1
theorem z37_ {a0 p:Prop} (h0:a0) (f:a0→p:=by intro h0_;rw [← hq_];exact (by (with_reducible repeat (first | refine blk_drewN ?_ _ | refine blk_drew ?_ | refine blk_alloc ?_ _));exact h0_)):p:=f h0
theorem z38_ {a0 a1 p:Prop} (h0:a0) (h1:a1) (f:a0→a1→p:=by intro h0_ h1_;(with_reducible repeat (first | apply Kd.R_alloc | apply Kd.R_drewN | apply Kd.R_drew));exact Kd.R_mono (rf2_ (Kd.R_types h0_ h1_ (by decide)) (fun _ hk=>hk.2)) (fun _ hk=>trivial)):p:=f h0 h1
theorem z39_ {p:Prop} (f:p:=by (with_reducible repeat (first | apply Kd.R_alloc | apply Kd.R_drewN | apply Kd.R_drew));exact (Q_HO372 h0_)):p:=f
theorem z40_ {p:Prop} (f:p:=by (with_reducible repeat (first | apply Kd.R_alloc | apply Kd.R_drewN | apply Kd.R_drew));exact (Q_HO364 h0_)):p:=f
theorem z41_ {a0 a1 p:Prop} (h0:a0) (h1:a1) (f:a0→a1→p:=by intro h0_ h1_;have:=h0_;have:=h1_;first | omega | exact Nat.le_refl _):p:=f h0 h1
theorem z42_ {a0 p:Prop} (h0:a0) (f:a0→p:=by intro h0_;rw [← hq_];exact (by (with_reducible repeat (first | apply Kd.R_alloc | apply Kd.R_drewN | apply Kd.R_drew));exact h0_)):p:=f h0
theorem z43_ {a0 a1 p:Prop} (h0:a0) (h1:a1) (f:a0→a1→p:=by intro h0_ h1_;rw [← hq_];exact (by repeat (first | (with_reducible first | exact h0_ | apply below_alloc | apply pw_below_drewN | apply below_drew1 | refine below_set ?_ h1_) | exact h0_))):p:=f h0 h1
theorem z44_ {a0 a1 p:Prop} (h0:a0) (h1:a1) (f:a0→a1→p:=by intro h0_ h1_;repeat (first | (with_reducible first | exact h0_ | apply IsS95.alloc | apply IsS95.drewN | apply IsS95.drew | apply IsS95.set_0 | apply IsS95.set_1 | apply IsS95.set_2 | refine IsS95.far ?_ (by exact h1_) _) | exact h0_)):p:=f h0 h1
theorem z45_ {p:Prop} (f:p:=by simp only [putAll,Act.put,List.setIfInBounds_toArray,List.set_cons_zero,List.set_cons_succ]):p:=f
theorem z46_ {a0 p:Prop} (h0:a0) (f:a0→p:=by intro h0_;(with_reducible repeat (first | apply Kd.R_alloc | apply Kd.R_drewN | apply Kd.R_drew));exact Kd.R_mono h0_ (fun _ hk=>⟨hk.1.1.1.1.1.1,⟨hk.1.1.1.1.1.2.1,⟨hk.1.1.1.1.1.2.2.1,⟨hk.1.1.1.1.1.2.2.2.2.2.2.2.2.2.1,⟨hk.1.1.1.1.1.2.2.2.2.2.2.2.2.2.2.1,hk.1.1.1.1.1.2.2.2.2.2.2.2.2.2.2.2⟩⟩⟩⟩⟩)):p:=f h0
theorem z47_ {a0 p:Prop} (h0:a0) (f:a0→p:=by intro h0_;(with_reducible repeat (first | apply Kd.R_alloc | apply Kd.R_drewN | apply Kd.R_drew));exact Kd.R_mono h0_ (fun _ hk=>⟨hk.1.1.1.1.1.1,⟨hk.1.1.1.1.1.2.1,⟨hk.1.1.1.1.1.2.2.1,⟨hk.1.1.1.1.1.2.2.2.2.2.2.1,⟨hk.1.1.1.1.1.2.2.2.2.2.2.2.2.2.2.1,hk.1.1.1.1.1.2.2.2.2.2.2.2.2.2.2.2⟩⟩⟩⟩⟩)):p:=f h0
theorem z48_ {a0 p:Prop} (h0:a0) (f:a0→p:=by intro h0_;(with_reducible repeat (first | apply Kd.R_alloc | apply Kd.R_drewN | apply Kd.R_drew));exact Kd.R_mono h0_ (fun _ hk=>⟨hk.1.1.1.1.1.1.1,⟨hk.1.1.1.1.1.1.2.1,⟨hk.1.1.1.1.1.1.2.2.1,⟨hk.1.1.1.1.1.1.2.2.2.2.2.2.2.2.2.1,⟨hk.1.1.1.1.1.1.2.2.2.2.2.2.2.2.2.2.1,hk.1.1.1.1.1.1.2.2.2.2.2.2.2.2.2.2.2⟩⟩⟩⟩⟩)):p:=f h0
theorem z49_ {a0 p:Prop} (h0:a0) (f:a0→p:=by intro h0_;(with_reducible repeat (first | apply Kd.R_alloc | apply Kd.R_drewN | apply Kd.R_drew));exact Kd.R_mono h0_ (fun _ hk=>⟨hk.1.1.1.1.1.1.1,⟨hk.1.1.1.1.1.1.2.1,⟨hk.1.1.1.1.1.1.2.2.1,⟨hk.1.1.1.1.1.1.2.2.2.2.2.2.1,⟨hk.1.1.1.1.1.1.2.2.2.2.2.2.2.2.2.2.1,hk.1.1.1.1.1.1.2.2.2.2.2.2.2.2.2.2.2⟩⟩⟩⟩⟩)):p:=f h0
theorem z50_ {p:Prop} (f:p:=by first | rfl | (simp [errW_none,errW_some] <;> rfl) | (simp only [← hji27,← hji35,← hji37];first | rfl | (simp [errW_none,errW_some] <;> rfl)) | (simp [*,errW_none,errW_some] <;> rfl)):p:=f
theorem z51_ {p:Prop} (f:p:=by first | rfl | (simp [errW_none,errW_some] <;> rfl) | (simp only [← hji13,← hji21,← hji23];first | rfl | (simp [errW_none,errW_some] <;> rfl)) | (simp [*,errW_none,errW_some] <;> rfl)):p:=f
end Go.Proofs.Ytmefchanjoadfaa.P

namespace Go.Proofs.Ytmefchanjoadfaa.P
open Go.RowKit Go.Proofs.YtmefchanjoadfaaW.PrintWords Go.Proofs.YtmefchanjoadfaaW.PrintLast Go.Proofs.YtmefchanjoadfaaW.PrintMore
attribute [local go_sem] max2_int min2_int max_two min_two max_three min_three max_four min_four   -- for this text's walks alone
set_option linter.unusedVariables false
set_option linter.unusedSimpArgs false

/-! ### Y65: function 45 -/
def Y65.f (a0:Int) (a1:Int) (a2:Int):Option (Bool):=if a0≥a1 then (some (decide (a0≤a2))) else (some false)
theorem Y65.calls (a0:Int) (a1:Int) (a2:Int) (r:Bool) (w:World) (h:Y65.f a0 a1 a2=some r) :
  Calls Try.prog 45 #[.int .i64 a0,.int .i64 a1,.int .i64 a2] w fun e w'=>e = .returned (.bool r)∧Drawn0 w w':=by
 have H:(if a0≥a1 then (some (decide (a0≤a2))) else (some false))=some r:=h
 clear h
 by_cases c4:a0≥a1
 ·rw [if_pos c4] at H
  have c4b0:decide (a1≤a0)=true:=dE c4
  clear c4
  obtain rfl:=sI H
  go_enter Try.func45,Try.ntmps45
  go_wp2
  go_ret
  exact ⟨z3_,z14_⟩
 ·rw [if_neg c4] at H
  have c4b0:decide (a1≤a0)=false:=dF c4
  clear c4
  obtain rfl:=sI H
  go_enter Try.func45,Try.ntmps45
  go_wp2
  go_ret
  exact ⟨z3_,z14_⟩


/-! ### Y70: function 105 -/
def Y70.f (a0:Int):Option (Bool):=(Y65.f a0 1 5).bind fun t189=>(some t189)
theorem Y70.calls (a0:Int) (r:Bool) (w:World) (h:Y70.f a0=some r) :
  Calls Try.prog 105 #[.int .i64 a0] w fun e w'=>e = .returned (.bool r)∧Drawn0 w w':=by
 have H:((Y65.f a0 1 5).bind fun t189=>(some t189))=some r:=h
 clear h
 replace H:=bS H
 obtain ⟨t189,A20,H⟩:=H
 replace H:(some t189)=some r:=H
 have A2:=aM A20
 clear A20
 obtain rfl:=sI H
 go_enter Try.func105,Try.ntmps105
 go_wp2_with (first | ((with_reducible refine gc_ 45 ?_);refine gl_ (some 4) Try.func45 #[.int .i64 a0,.int .i64 1,.int .i64 5] ?_;(with_reducible refine (Y65.calls a0 1 5 t189 _ A2.out).mono ?_);rintro e w' ⟨rfl,⟨nd,rfl⟩⟩;refine ⟨_,rfl,?_⟩))
 go_ret
 exact ⟨z3_,z14_⟩


/-! ### Y57: function 83 -/
def Y57.f (a0_0:Int) (a0_1:Int):Option (Bool):=(Y70.f a0_0).bind fun t191=>(if t191=true then ((Y65.f a0_1 1 1000000).bind fun t192=>(some t192)) else (some false))
theorem Y57.calls (a0_0:Int) (a0_1:Int) (r:Bool) (w:World) (h:Y57.f a0_0 a0_1=some r) :
  Calls Try.prog 83 #[.agg #[.int .i64 a0_0,.int .i64 a0_1]] w fun e w'=>e = .returned (.bool r)∧Below w.heap.size w w':=by
 have hu49:=Try.underlying49
 have HB:=aM (Below.refl w.heap.size w)
 have H:((Y70.f a0_0).bind fun t191=>(if t191=true then ((Y65.f a0_1 1 1000000).bind fun t192=>(some t192)) else (some false)))=some r:=h
 clear h
 replace H:=bS H
 obtain ⟨t191,A20,H⟩:=H
 replace H:(if t191=true then ((Y65.f a0_1 1 1000000).bind fun t192=>(some t192)) else (some false))=some r:=H
 have A2:=aM A20
 clear A20
 by_cases c3:t191=true
 ·subst c3
  have H1:((Y65.f a0_1 1 1000000).bind fun t192=>(some t192))=some r:=by rw [if_pos rfl] at H;exact H
  clear H
  have H:=H1
  clear H1
  replace H:=bS H
  obtain ⟨t192,A40,H⟩:=H
  replace H:(some t192)=some r:=H
  have A4:=aM A40
  clear A40
  obtain rfl:=sI H
  go_enter Try.func83,Try.ntmps83
  go_wp2_with (first | ((with_reducible refine gd_ 1 ?_);refine be_ 1 #[.int .i64 a0_0,.int .i64 a0_1] 49 ?_;intro gb190 hg w5 hbox hb;have n0_:=aM (below_step (z1_ HB.out) hb);have n1_:=aM (hbox);have n2_:=aM ((z8_ HB.out:w.heap.size≤gb190));have n3_:=aM ((z8_ HB.out:w.heap.size≤gb190));clear HB;have HB:=n0_;have BK190:=n1_;have GW190:=n2_;have GE190:=n3_;clear n0_ n1_ n2_ n3_;clear hb hbox hg;have ⟨hcz6_0,hcz6_1,hfz6_0,hfz6_1⟩:=cz2_ BK190.out) | ((with_reducible refine gc_ 105 ?_);refine gl_ (some 5) Try.func105 #[.int .i64 a0_0] ?_;(with_reducible refine (Y70.calls a0_0 true _ A2.out).mono ?_);rintro e w' ⟨rfl,⟨nd,rfl⟩⟩;refine ⟨_,rfl,?_⟩) | (go_at_call 45;(with_reducible refine (Y65.calls a0_1 1 1000000 t192 _ A4.out).mono ?_);rintro e w' ⟨rfl,⟨nd,rfl⟩⟩))
  go_ret
  exact ⟨z5_,z4_ HB.out GE190.out⟩
 ·replace c3:=Bool.eq_false_iff.mpr c3
  subst c3
  have H1:(some false)=some r:=by rw [if_neg (show ¬ (false=true) by decide)] at H;exact H
  clear H
  have H:=H1
  clear H1
  obtain rfl:=sI H
  go_enter Try.func83,Try.ntmps83
  go_wp2_with (first | ((with_reducible refine gd_ 1 ?_);refine be_ 1 #[.int .i64 a0_0,.int .i64 a0_1] 49 ?_;intro gb190 hg w7 hbox hb;have n0_:=aM (below_step (z1_ HB.out) hb);have n1_:=aM (hbox);have n2_:=aM ((z8_ HB.out:w.heap.size≤gb190));have n3_:=aM ((z8_ HB.out:w.heap.size≤gb190));clear HB;have HB:=n0_;have BK190:=n1_;have GW190:=n2_;have GE190:=n3_;clear n0_ n1_ n2_ n3_;clear hb hbox hg;have ⟨hcz8_0,hcz8_1,hfz8_0,hfz8_1⟩:=cz2_ BK190.out) | ((with_reducible refine gc_ 105 ?_);refine gl_ (some 5) Try.func105 #[.int .i64 a0_0] ?_;(with_reducible refine (Y70.calls a0_0 false _ A2.out).mono ?_);rintro e w' ⟨rfl,⟨nd,rfl⟩⟩;refine ⟨_,rfl,?_⟩))
  go_ret
  exact ⟨z5_,z4_ HB.out GE190.out⟩


/-! ### Y1: function 42 -/
mutual
def Y1.l0:Nat→List (S49)→Int→Option (Bool)
 | 0,_,_=>none
 | k+1,x0,x3=>if x3<(x0.length:Int) then (Y1.j1 k x0 x3 (decide (x3≤5))) else (Y1.j1 k x0 x3 false)
def Y1.j1:Nat→List (S49)→Int→Bool→Option (Bool)
 | 0,_,_,_=>none
 | k+1,x0,x3,x11=>if x11=true then (if 0≤x3 then (if x3<(x0.length:Int) then ((Y57.f ((rd_T49 x0 x3).f0) ((rd_T49 x0 x3).f1)).bind fun t194=>(if t194=true then (if x3>0 then (if 0≤(wrap64 (x3-1)) then (if (wrap64 (x3-1))<(x0.length:Int) then (if ((rd_T49 x0 (wrap64 (x3-1))).f0)≥((rd_T49 x0 x3).f0) then (some false) else (Y1.l0 k x0 (wrap64 (x3+1)))) else (none)) else (none)) else (Y1.l0 k x0 (wrap64 (x3+1)))) else (some false))) else (none)) else (none)) else (some (decide ((x0.length:Int)≤5)))
end
def Y1.f (k:Nat) (l0:List (S49)):Option (Bool):=Y1.l0 k l0 0
theorem Y1.mono_l:∀ k,(∀ y0 y1,LeO (Y1.l0 k y0 y1) (Y1.l0 (k+1) y0 y1))∧(∀ y0 y1 y2,LeO (Y1.j1 k y0 y1 y2) (Y1.j1 (k+1) y0 y1 y2))
 | 0=>by refine ⟨?_,?_⟩ <;> intros <;> exact LeO.none _
 | k+1=>by
  obtain ⟨ih0,ih1⟩:=Y1.mono_l k
  refine ⟨?_,?_⟩
  ·intros
   unfold Y1.l0
   exact mO
  ·intros
   unfold Y1.j1
   exact mO
theorem Y1.mono:∀ a0 k,LeO (Y1.f k a0) (Y1.f (k+1) a0):=by
 intro a0 k
 obtain ⟨ih0,ih1⟩:=Y1.mono_l k
 unfold Y1.f
 exact mO
def Y1.T4:Bool × List (List Nat × List Nat):=(true,[([],[]),([],[]),([0,1],[0,1]),([2],[2]),([3],[3]),([4],[4]),([5,4],[5]),([6],[6]),([7,6],[6,7]),([8,6,6],[6,8]),([9],[9]),([9],[9]),([11,9],[9,11]),([10,12,9],[9,10,12]),([13,9],[9,13]),([14,9],[9,14]),([9],[9]),([9],[9]),([16,17,9],[9,16,17]),([18,9],[9,18]),([19,9],[9,19]),([15,20,9],[9,15,20]),([9,21,6],[6,9,21]),([6,22],[6,22])])
def Y1.B4:List Nat:=[0,0,3,7,15,31,63,127,255,511,1023,1023,3071,8191,16383,32767,1023,1023,197631,459775,984063,2097151,4194303,8388607]
theorem Y1.tab4:rtab .any (opsOf Try.f42 4)=Y1.T4:=by kernel_rfl
theorem Y1.bits4:waitsOk Y1.T4.2 Y1.B4=true:=by kernel_rfl
abbrev Y1.q0:Array Bool:=#[O,O,O,O,O,O,O,O,O,O,O,O,O,O,O,O,O,O,O,O,O,O,O,O]
abbrev Y1.q1:Array Bool:=#[I,O,O,O,O,O,O,O,O,O,O,O,O,O,O,O,O,O,O,O,O,O,O,O]
abbrev Y1.q2:Array Bool:=#[I,I,O,O,O,O,O,O,O,O,O,O,O,O,O,O,O,O,O,O,O,O,O,O]
abbrev Y1.q3:Array Bool:=#[I,I,I,O,O,O,O,O,O,O,O,O,O,O,O,O,O,O,O,O,O,O,O,O]
abbrev Y1.q4:Array Bool:=#[I,I,I,I,O,O,O,O,O,O,O,O,O,O,O,O,O,O,O,O,O,O,O,O]
abbrev Y1.q5:Array Bool:=#[I,I,I,I,I,O,O,O,O,O,O,O,O,O,O,O,O,O,O,O,O,O,O,O]
abbrev Y1.q6:Array Bool:=#[I,I,I,I,I,I,O,O,O,O,O,O,O,O,O,O,O,O,O,O,O,O,O,O]
abbrev Y1.q7:Array Bool:=#[I,I,I,I,I,I,I,O,O,O,O,O,O,O,O,O,O,O,O,O,O,O,O,O]
abbrev Y1.q8:Array Bool:=#[I,I,I,I,I,I,I,I,O,O,O,O,O,O,O,O,O,O,O,O,O,O,O,O]
abbrev Y1.q9:Array Bool:=#[I,I,I,I,I,I,I,I,I,O,O,O,O,O,O,O,O,O,O,O,O,O,O,O]
abbrev Y1.q10:Array Bool:=#[I,I,I,I,I,I,I,I,I,I,O,O,O,O,O,O,O,O,O,O,O,O,O,O]
abbrev Y1.q11:Array Bool:=#[I,I,I,I,I,I,I,I,I,I,I,O,O,O,O,O,O,O,O,O,O,O,O,O]
abbrev Y1.q12:Array Bool:=#[I,I,I,I,I,I,I,I,I,I,I,I,O,O,O,O,O,O,O,O,O,O,O,O]
abbrev Y1.q13:Array Bool:=#[I,I,I,I,I,I,I,I,I,I,I,I,I,O,O,O,O,O,O,O,O,O,O,O]
abbrev Y1.q14:Array Bool:=#[I,I,I,I,I,I,I,I,I,I,I,I,I,I,O,O,O,O,O,O,O,O,O,O]
abbrev Y1.q15:Array Bool:=#[I,I,I,I,I,I,I,I,I,I,I,I,I,I,I,O,O,O,O,O,O,O,O,O]
abbrev Y1.q16:Array Bool:=#[I,I,I,I,I,I,I,I,I,I,I,I,I,I,I,O,I,O,O,O,O,O,O,O]
abbrev Y1.q17:Array Bool:=#[I,I,I,I,I,I,I,I,I,I,I,I,I,I,I,O,I,I,O,O,O,O,O,O]
abbrev Y1.q18:Array Bool:=#[I,I,I,I,I,I,I,I,I,I,I,I,I,I,I,O,I,I,I,O,O,O,O,O]
abbrev Y1.q19:Array Bool:=#[I,I,I,I,I,I,I,I,I,I,I,I,I,I,I,O,I,I,I,I,O,O,O,O]
abbrev Y1.q20:Array Bool:=#[I,I,I,I,I,I,I,I,I,I,I,I,I,I,I,I,I,I,I,I,O,O,O,O]
abbrev Y1.q21:Array Bool:=#[I,I,I,I,I,I,I,I,I,I,I,I,I,I,I,I,I,I,I,I,I,O,O,O]
abbrev Y1.q22:Array Bool:=#[I,I,I,I,I,I,I,I,I,I,I,I,I,I,I,I,I,I,I,I,I,I,O,O]
abbrev Y1.q23:Array Bool:=#[I,I,I,I,I,I,I,I,I,I,I,I,I,I,I,I,I,I,I,I,I,I,I,O]
abbrev Y1.q24:Array Bool:=#[I,I,I,I,I,I,I,I,I,I,I,I,I,I,I,I,I,I,I,I,I,I,I,I]
abbrev Y1.q25:Array Bool:=#[I,I,I,I,I,I,I,I,I,I,I,I,I,I,I,I,O,O,O,O,O,O,O,O]
abbrev Y1.q26:Array Bool:=#[I,I,I,I,I,I,I,I,I,I,I,I,I,I,I,I,I,O,O,O,O,O,O,O]
abbrev Y1.q27:Array Bool:=#[I,I,I,I,I,I,I,I,I,I,I,I,I,I,I,I,I,I,O,O,O,O,O,O]
abbrev Y1.q28:Array Bool:=#[I,I,I,I,I,I,I,I,I,I,I,I,I,I,I,I,I,I,I,O,O,O,O,O]
theorem Y1.calls (k:Nat) (A0:Option Addr) (c0:Nat) (l0:List (S49)) (r:Bool) (w:World) (hr0:Kd.C k49 w A0 l0.length l0) (hc0:l0.length≤c0) (h:Y1.f k l0=some r) :
  Calls Try.prog 42 #[.slice A0 l0.length c0] w fun e w'=>e = .returned (.bool r)∧Below w.heap.size w w':=by
 have hu49:=Try.underlying49
 have HR0:=aM hr0
 have HC0:=aM hc0
 clear hr0 hc0
 have HB:=aM (Below.refl w.heap.size w)
 have H:(Y1.l0 k l0 0)=some r:=h
 clear h
 have H':=aM H
 clear H
 go_enter Try.func42,Try.ntmps42
 go_wp2
 go_loopg [3] k (fun kq v3 w'=>∃ (x3_1:Int),v3 = .int .i64 x3_1∧Aside0 (Y1.l0 kq l0 x3_1=some r)∧Aside0 (kq≤k)∧Aside0 (Below w.heap.size w w'))
 case atStart=>exact ⟨(0),(z3_),H',⟨Nat.le_refl _⟩,⟨z1_ HB.out⟩⟩
 case round =>
  clear H'
  obtain ⟨x3_1,rfl,HA,HK1,HB⟩:=hrel
  cases gk with
  | zero=>exact absurd HA.out (by simp [Y1.l0])
  | succ k1 =>
   have H:=HA.out
   clear HA
   simp only [Y1.l0] at H
   have HC2:=aM H
   clear H
   go_upto_region 2 with (fail)
   go_cut [11] (fun v11 wc=>∃ (kq:Nat) (x11_1:Bool),v11 = .bool x11_1∧Aside0 (Y1.j1 kq l0 x3_1 x11_1=some r)∧Aside0 (kq≤k1)∧Aside0 (Below w.heap.size w wc))
   case first =>
    have H:=HC2.out
    clear HC2
    by_cases c3:x3_1<(l0.length:Int)
    ·rw [if_pos c3] at H
     have c3b0:decide (x3_1<(l0.length:Int))=true:=dE c3
     clear c3
     (first | rw [c3b0] | (simp only [i64_w,i32_w];rw [c3b0]) | skip)
     have H':=aM H
     clear H
     go_wp2
     go_meet
     case rel=>exact ⟨_,(decide (x3_1≤5)),(z3_),H',⟨z16_ HK1.out⟩,⟨z1_ HB.out⟩⟩
    ·rw [if_neg c3] at H
     have c3b0:decide (x3_1<(l0.length:Int))=false:=dF c3
     clear c3
     (first | rw [c3b0] | (simp only [i64_w,i32_w];rw [c3b0]) | skip)
     have H':=aM H
     clear H
     go_wp2
     go_meet
     case rel=>exact ⟨_,(false),(z3_),H',⟨z16_ HK1.out⟩,⟨z1_ HB.out⟩⟩
   case rest =>
    clear HC2
    try clear p2
    try clear c3
    try clear c3b0
    obtain ⟨kq,x11_1,rfl,HA,HJ1,HB⟩:=hcut
    cases kq with
    | zero=>exact absurd HA.out (by simp [Y1.j1])
    | succ kj1 =>
     have H:=HA.out
     clear HA
     simp only [Y1.j1] at H
     by_cases c4:x11_1=true
     ·subst c4
      have H1:(if 0≤x3_1 then (if x3_1<(l0.length:Int) then ((Y57.f ((rd_T49 l0 x3_1).f0) ((rd_T49 l0 x3_1).f1)).bind fun t194=>(if t194=true then (if x3_1>0 then (if 0≤(wrap64 (x3_1-1)) then (if (wrap64 (x3_1-1))<(l0.length:Int) then (if ((rd_T49 l0 (wrap64 (x3_1-1))).f0)≥((rd_T49 l0 x3_1).f0) then (some false) else (Y1.l0 kj1 l0 (wrap64 (x3_1+1)))) else (none)) else (none)) else (Y1.l0 kj1 l0 (wrap64 (x3_1+1)))) else (some false))) else (none)) else (none))=some r:=by rw [if_pos rfl] at H;exact H
      clear H
      have H:=H1
      clear H1
      by_cases c5:0≤x3_1
      ·rw [if_pos c5] at H
       have c5b0:decide (0≤x3_1)=true:=dE c5
       clear c5
       by_cases c6:x3_1<(l0.length:Int)
       ·rw [if_pos c6] at H
        have c6b0:decide (x3_1<(l0.length:Int))=true:=dE c6
        clear c6
        replace H:=bS H
        obtain ⟨t194,A70,H⟩:=H
        replace H:(if t194=true then (if x3_1>0 then (if 0≤(wrap64 (x3_1-1)) then (if (wrap64 (x3_1-1))<(l0.length:Int) then (if ((rd_T49 l0 (wrap64 (x3_1-1))).f0)≥((rd_T49 l0 x3_1).f0) then (some false) else (Y1.l0 kj1 l0 (wrap64 (x3_1+1)))) else (none)) else (none)) else (Y1.l0 kj1 l0 (wrap64 (x3_1+1)))) else (some false))=some r:=H
        have A7:=aM A70
        clear A70
        by_cases c8:t194=true
        ·subst c8
         have H1:(if x3_1>0 then (if 0≤(wrap64 (x3_1-1)) then (if (wrap64 (x3_1-1))<(l0.length:Int) then (if ((rd_T49 l0 (wrap64 (x3_1-1))).f0)≥((rd_T49 l0 x3_1).f0) then (some false) else (Y1.l0 kj1 l0 (wrap64 (x3_1+1)))) else (none)) else (none)) else (Y1.l0 kj1 l0 (wrap64 (x3_1+1))))=some r:=by rw [if_pos rfl] at H;exact H
         clear H
         have H:=H1
         clear H1
         by_cases c9:x3_1>0
         ·rw [if_pos c9] at H
          have c9b0:decide (0<x3_1)=true:=dE c9
          clear c9
          obtain ⟨ji10,hji10⟩:∃ j_:Int,(wrap64 (x3_1-1))=j_:=⟨_,rfl⟩
          replace H:(if 0≤(ji10) then (if (ji10)<(l0.length:Int) then (if ((rd_T49 l0 (ji10)).f0)≥((rd_T49 l0 x3_1).f0) then (some false) else (Y1.l0 kj1 l0 (wrap64 (x3_1+1)))) else (none)) else (none))=some r:=by first | (rw [hji10] at H;exact H) | (simp only [hji10] at H ⊢;exact H)
          (try rw [hji10] at A7)
          have hji10w:(IntKind.i64.wrap (x3_1-1))=ji10:=(i64_w _).trans hji10
          by_cases c11:0≤(ji10)
          ·rw [if_pos c11] at H
           have c11b0:decide (0≤(ji10))=true:=dE c11
           clear c11
           by_cases c12:(ji10)<(l0.length:Int)
           ·rw [if_pos c12] at H
            have c12b0:decide ((ji10)<(l0.length:Int))=true:=dE c12
            clear c12
            by_cases c13:((rd_T49 l0 (ji10)).f0)≥((rd_T49 l0 x3_1).f0)
            ·rw [if_pos c13] at H
             have c13b0:decide (((rd_T49 l0 x3_1).f0)≤((rd_T49 l0 (ji10)).f0))=true:=dE c13
             clear c13
             obtain rfl:=sI H
             try go_wp2
             have n0_:=aM (below_drew1 HB.out)
             clear HB
             have HB:=n0_
             clear n0_
             have p193:0≤(x3_1:Int):=dT (z7_)
             have q193:x3_1<(l0.length:Int):=dT (z7_)
             obtain ⟨ad193,e193,hx193_0,hx193_1⟩:=at_T49 HR0.out x3_1 p193 q193
             have hw193_1:=hx193_1
             have hw193_0:=hx193_0
             cases e193
             replace hx193_0:=(HB.out.cell (World.block_lt_of_cell? w _ hx193_0)).trans hx193_0
             replace hx193_1:=(HB.out.cell (World.block_lt_of_cell? w _ hx193_1)).trans hx193_1
             replace p193:=eq_true p193
             replace q193:=eq_true q193
             have p195:0≤((ji10):Int):=dT (z7_)
             have q195:(ji10)<(l0.length:Int):=dT (z7_)
             obtain ⟨ad195,e195,hx195_0,hx195_1⟩:=at_T49 HR0.out (ji10) p195 q195
             have hw195_1:=hx195_1
             have hw195_0:=hx195_0
             obtain rfl:ad193=ad195:=(by injection e195)
             replace hx195_0:=(HB.out.cell (World.block_lt_of_cell? w _ hx195_0)).trans hx195_0
             replace hx195_1:=(HB.out.cell (World.block_lt_of_cell? w _ hx195_1)).trans hx195_1
             replace p195:=eq_true p195
             replace q195:=eq_true q195
             have p196:0≤(x3_1:Int):=dT (z7_)
             have q196:x3_1<(l0.length:Int):=dT (z7_)
             obtain ⟨ad196,e196,hx196_0,hx196_1⟩:=at_T49 HR0.out x3_1 p196 q196
             have hw196_1:=hx196_1
             have hw196_0:=hx196_0
             obtain rfl:ad193=ad196:=(by injection e196)
             replace hx196_0:=(HB.out.cell (World.block_lt_of_cell? w _ hx196_0)).trans hx196_0
             replace hx196_1:=(HB.out.cell (World.block_lt_of_cell? w _ hx196_1)).trans hx196_1
             replace p196:=eq_true p196
             replace q196:=eq_true q196
             refine start_ (n:=24) (S:=fun w'=>w'.cell? (ad193.add ((x3_1).toNat*2))=some (.int .i64 ((rd_T49 l0 x3_1).f0))∧w'.cell? ⟨(ad193.add ((x3_1).toNat*2)).block,(ad193.add ((x3_1).toNat*2)).off+1,none⟩=some (.int .i64 ((rd_T49 l0 x3_1).f1))∧w'.cell? (ad193.add (((ji10)).toNat*2))=some (.int .i64 ((rd_T49 l0 (ji10)).f0))∧w'.cell? ⟨(ad193.add (((ji10)).toNat*2)).block,(ad193.add (((ji10)).toNat*2)).off+1,none⟩=some (.int .i64 ((rd_T49 l0 (ji10)).f1))∧w'.cell? (ad193.add ((x3_1).toNat*2))=some (.int .i64 ((rd_T49 l0 x3_1).f0))∧w'.cell? ⟨(ad193.add ((x3_1).toNat*2)).block,(ad193.add ((x3_1).toNat*2)).off+1,none⟩=some (.int .i64 ((rd_T49 l0 x3_1).f1))) (ds:=[]) Y1.q0 (by kernel_rfl) rfl rfl ⟨((HB.out.cell (World.block_lt_of_cell? w _ hw193_0)).trans hw193_0),((HB.out.cell (World.block_lt_of_cell? w _ hw193_1)).trans hw193_1),((HB.out.cell (World.block_lt_of_cell? w _ hw195_0)).trans hw195_0),((HB.out.cell (World.block_lt_of_cell? w _ hw195_1)).trans hw195_1),((HB.out.cell (World.block_lt_of_cell? w _ hw196_0)).trans hw196_0),((HB.out.cell (World.block_lt_of_cell? w _ hw196_1)).trans hw196_1)⟩ (fun hHeld=>?_);refine with_tabW Y1.tab4 Y1.bits4 (fun HT_ HW_=>?_)
             generalize wc.drew=w14 at HB hx193_0 hx193_1 hx195_0 hx195_1 hx196_0 hx196_1 hHeld ⊢
             refine pu_ 0 14 Y1.q1 HT_.out ?_
             refine pu_ 1 15 Y1.q2 HT_.out ?_
             refine pu_ 2 16 Y1.q3 HT_.out ?_
             refine tk6_ 3 17 Y1.q4 HT_.out HW_.out hHeld ?_
             refine o1_ 4 18 Y1.q5 HT_.out (fun K hK=>?_)
             refine gs_ Try.func83 #[.agg #[.int .i64 ((rd_T49 l0 x3_1).f0),.int .i64 ((rd_T49 l0 x3_1).f1)]] ?_
             with_reducible refine (Y57.calls ((rd_T49 l0 x3_1).f0) ((rd_T49 l0 x3_1).f1) true _ A7.out).mono ?_
             rintro e w15 ⟨rfl,hb⟩
             refine ⟨_,rfl,?_⟩
             have n0_:=aM (below_step (z1_ HB.out) hb)
             clear HB
             have HB:=n0_
             clear n0_
             (try clear hb)
             refine hK.out _ _ ⟨((HB.out.cell (World.block_lt_of_cell? w _ hw193_0)).trans hw193_0),((HB.out.cell (World.block_lt_of_cell? w _ hw193_1)).trans hw193_1),((HB.out.cell (World.block_lt_of_cell? w _ hw195_0)).trans hw195_0),((HB.out.cell (World.block_lt_of_cell? w _ hw195_1)).trans hw195_1),((HB.out.cell (World.block_lt_of_cell? w _ hw196_0)).trans hw196_0),((HB.out.cell (World.block_lt_of_cell? w _ hw196_1)).trans hw196_1)⟩ (fun hHeld=>?_)
             clear hK K
             refine nm_ 18 ?_
             refine pu_ 5 19 Y1.q6 HT_.out ?_
             refine pu_ 6 20 Y1.q7 HT_.out ?_
             refine pu_ 7 21 Y1.q8 HT_.out ?_
             refine pu_ 8 22 Y1.q9 HT_.out ?_
             refine pu_ 9 23 Y1.q10 HT_.out ?_
             refine pu_ 10 24 Y1.q11 HT_.out ?_
             refine pu_ 11 25 Y1.q12 HT_.out ?_
             refine pu_ 12 26 Y1.q13 HT_.out ?_
             refine pu_ 13 27 Y1.q14 HT_.out ?_
             refine pu_ 14 28 Y1.q15 HT_.out ?_
             refine pu_ 16 30 Y1.q16 HT_.out ?_
             refine pu_ 17 31 Y1.q17 HT_.out ?_
             refine pu_ 18 32 Y1.q18 HT_.out ?_
             refine pu_ 19 33 Y1.q19 HT_.out ?_
             refine tk6_ 15 29 Y1.q20 HT_.out HW_.out hHeld ?_
             refine tk6_ 20 34 Y1.q21 HT_.out HW_.out hHeld ?_
             refine pu_ 21 35 Y1.q22 HT_.out ?_
             refine pu_ 22 36 Y1.q23 HT_.out ?_
             refine pu_ 23 37 Y1.q24 HT_.out ?_
             refine done_ (done_of HT_.out (by kernel_rfl)) ?_
             try go_wp2
             go_ret
             exact ⟨by first | rfl | (simp [errW_none,errW_some] <;> rfl) | (simp only [← hji10];first | rfl | (simp [errW_none,errW_some] <;> rfl)) | (simp [*,errW_none,errW_some] <;> rfl),z1_ HB.out⟩
            ·rw [if_neg c13] at H
             have c13b0:decide (((rd_T49 l0 x3_1).f0)≤((rd_T49 l0 (ji10)).f0))=false:=dF c13
             clear c13
             have H':=aM H
             clear H
             try go_wp2
             have n0_:=aM (below_drew1 HB.out)
             clear HB
             have HB:=n0_
             clear n0_
             have p193:0≤(x3_1:Int):=dT (z7_)
             have q193:x3_1<(l0.length:Int):=dT (z7_)
             obtain ⟨ad193,e193,hx193_0,hx193_1⟩:=at_T49 HR0.out x3_1 p193 q193
             have hw193_1:=hx193_1
             have hw193_0:=hx193_0
             cases e193
             replace hx193_0:=(HB.out.cell (World.block_lt_of_cell? w _ hx193_0)).trans hx193_0
             replace hx193_1:=(HB.out.cell (World.block_lt_of_cell? w _ hx193_1)).trans hx193_1
             replace p193:=eq_true p193
             replace q193:=eq_true q193
             have p195:0≤((ji10):Int):=dT (z7_)
             have q195:(ji10)<(l0.length:Int):=dT (z7_)
             obtain ⟨ad195,e195,hx195_0,hx195_1⟩:=at_T49 HR0.out (ji10) p195 q195
             have hw195_1:=hx195_1
             have hw195_0:=hx195_0
             obtain rfl:ad193=ad195:=(by injection e195)
             replace hx195_0:=(HB.out.cell (World.block_lt_of_cell? w _ hx195_0)).trans hx195_0
             replace hx195_1:=(HB.out.cell (World.block_lt_of_cell? w _ hx195_1)).trans hx195_1
             replace p195:=eq_true p195
             replace q195:=eq_true q195
             have p196:0≤(x3_1:Int):=dT (z7_)
             have q196:x3_1<(l0.length:Int):=dT (z7_)
             obtain ⟨ad196,e196,hx196_0,hx196_1⟩:=at_T49 HR0.out x3_1 p196 q196
             have hw196_1:=hx196_1
             have hw196_0:=hx196_0
             obtain rfl:ad193=ad196:=(by injection e196)
             replace hx196_0:=(HB.out.cell (World.block_lt_of_cell? w _ hx196_0)).trans hx196_0
             replace hx196_1:=(HB.out.cell (World.block_lt_of_cell? w _ hx196_1)).trans hx196_1
             replace p196:=eq_true p196
             replace q196:=eq_true q196
             refine start_ (n:=24) (S:=fun w'=>w'.cell? (ad193.add ((x3_1).toNat*2))=some (.int .i64 ((rd_T49 l0 x3_1).f0))∧w'.cell? ⟨(ad193.add ((x3_1).toNat*2)).block,(ad193.add ((x3_1).toNat*2)).off+1,none⟩=some (.int .i64 ((rd_T49 l0 x3_1).f1))∧w'.cell? (ad193.add (((ji10)).toNat*2))=some (.int .i64 ((rd_T49 l0 (ji10)).f0))∧w'.cell? ⟨(ad193.add (((ji10)).toNat*2)).block,(ad193.add (((ji10)).toNat*2)).off+1,none⟩=some (.int .i64 ((rd_T49 l0 (ji10)).f1))∧w'.cell? (ad193.add ((x3_1).toNat*2))=some (.int .i64 ((rd_T49 l0 x3_1).f0))∧w'.cell? ⟨(ad193.add ((x3_1).toNat*2)).block,(ad193.add ((x3_1).toNat*2)).off+1,none⟩=some (.int .i64 ((rd_T49 l0 x3_1).f1))) (ds:=[]) Y1.q0 (by kernel_rfl) rfl rfl ⟨((HB.out.cell (World.block_lt_of_cell? w _ hw193_0)).trans hw193_0),((HB.out.cell (World.block_lt_of_cell? w _ hw193_1)).trans hw193_1),((HB.out.cell (World.block_lt_of_cell? w _ hw195_0)).trans hw195_0),((HB.out.cell (World.block_lt_of_cell? w _ hw195_1)).trans hw195_1),((HB.out.cell (World.block_lt_of_cell? w _ hw196_0)).trans hw196_0),((HB.out.cell (World.block_lt_of_cell? w _ hw196_1)).trans hw196_1)⟩ (fun hHeld=>?_);refine with_tabW Y1.tab4 Y1.bits4 (fun HT_ HW_=>?_)
             generalize wc.drew=w16 at HB hx193_0 hx193_1 hx195_0 hx195_1 hx196_0 hx196_1 hHeld ⊢
             refine pu_ 0 14 Y1.q1 HT_.out ?_
             refine pu_ 1 15 Y1.q2 HT_.out ?_
             refine pu_ 2 16 Y1.q3 HT_.out ?_
             refine tk6_ 3 17 Y1.q4 HT_.out HW_.out hHeld ?_
             refine o1_ 4 18 Y1.q5 HT_.out (fun K hK=>?_)
             refine gs_ Try.func83 #[.agg #[.int .i64 ((rd_T49 l0 x3_1).f0),.int .i64 ((rd_T49 l0 x3_1).f1)]] ?_
             with_reducible refine (Y57.calls ((rd_T49 l0 x3_1).f0) ((rd_T49 l0 x3_1).f1) true _ A7.out).mono ?_
             rintro e w17 ⟨rfl,hb⟩
             refine ⟨_,rfl,?_⟩
             have n0_:=aM (below_step (z1_ HB.out) hb)
             clear HB
             have HB:=n0_
             clear n0_
             (try clear hb)
             refine hK.out _ _ ⟨((HB.out.cell (World.block_lt_of_cell? w _ hw193_0)).trans hw193_0),((HB.out.cell (World.block_lt_of_cell? w _ hw193_1)).trans hw193_1),((HB.out.cell (World.block_lt_of_cell? w _ hw195_0)).trans hw195_0),((HB.out.cell (World.block_lt_of_cell? w _ hw195_1)).trans hw195_1),((HB.out.cell (World.block_lt_of_cell? w _ hw196_0)).trans hw196_0),((HB.out.cell (World.block_lt_of_cell? w _ hw196_1)).trans hw196_1)⟩ (fun hHeld=>?_)
             clear hK K
             refine nm_ 18 ?_
             refine pu_ 5 19 Y1.q6 HT_.out ?_
             refine pu_ 6 20 Y1.q7 HT_.out ?_
             refine pu_ 7 21 Y1.q8 HT_.out ?_
             refine pu_ 8 22 Y1.q9 HT_.out ?_
             refine pu_ 9 23 Y1.q10 HT_.out ?_
             refine pu_ 10 24 Y1.q11 HT_.out ?_
             refine pu_ 11 25 Y1.q12 HT_.out ?_
             refine pu_ 12 26 Y1.q13 HT_.out ?_
             refine pu_ 13 27 Y1.q14 HT_.out ?_
             refine pu_ 14 28 Y1.q15 HT_.out ?_
             refine pu_ 16 30 Y1.q16 HT_.out ?_
             refine pu_ 17 31 Y1.q17 HT_.out ?_
             refine pu_ 18 32 Y1.q18 HT_.out ?_
             refine pu_ 19 33 Y1.q19 HT_.out ?_
             refine tk6_ 15 29 Y1.q20 HT_.out HW_.out hHeld ?_
             refine tk6_ 20 34 Y1.q21 HT_.out HW_.out hHeld ?_
             refine pu_ 21 35 Y1.q22 HT_.out ?_
             refine pu_ 22 36 Y1.q23 HT_.out ?_
             refine pu_ 23 37 Y1.q24 HT_.out ?_
             refine done_ (done_of HT_.out (by kernel_rfl)) ?_
             try go_wp2
             go_roundg kj1
             case measure=>have:=HK1.out;have:=HJ1.out;omega
             case rel=>exact ⟨(wrap64 (x3_1+1)),(z3_),H',⟨by have:=HK1.out;have:=HJ1.out;omega⟩,⟨z1_ HB.out⟩⟩
           ·rw [if_neg c12] at H
            exact nO H
          ·rw [if_neg c11] at H
           exact nO H
         ·rw [if_neg c9] at H
          have c9b0:decide (0<x3_1)=false:=dF c9
          clear c9
          have H':=aM H
          clear H
          try go_wp2
          have n0_:=aM (below_drew1 HB.out)
          clear HB
          have HB:=n0_
          clear n0_
          have p193:0≤(x3_1:Int):=dT (z7_)
          have q193:x3_1<(l0.length:Int):=dT (z7_)
          obtain ⟨ad193,e193,hx193_0,hx193_1⟩:=at_T49 HR0.out x3_1 p193 q193
          have hw193_1:=hx193_1
          have hw193_0:=hx193_0
          cases e193
          replace hx193_0:=(HB.out.cell (World.block_lt_of_cell? w _ hx193_0)).trans hx193_0
          replace hx193_1:=(HB.out.cell (World.block_lt_of_cell? w _ hx193_1)).trans hx193_1
          replace p193:=eq_true p193
          replace q193:=eq_true q193
          refine start_ (n:=24) (S:=fun w'=>w'.cell? (ad193.add ((x3_1).toNat*2))=some (.int .i64 ((rd_T49 l0 x3_1).f0))∧w'.cell? ⟨(ad193.add ((x3_1).toNat*2)).block,(ad193.add ((x3_1).toNat*2)).off+1,none⟩=some (.int .i64 ((rd_T49 l0 x3_1).f1))) (ds:=[]) Y1.q0 (by kernel_rfl) rfl rfl ⟨((HB.out.cell (World.block_lt_of_cell? w _ hw193_0)).trans hw193_0),((HB.out.cell (World.block_lt_of_cell? w _ hw193_1)).trans hw193_1)⟩ (fun hHeld=>?_);refine with_tabW Y1.tab4 Y1.bits4 (fun HT_ HW_=>?_)
          generalize wc.drew=w18 at HB hx193_0 hx193_1 hHeld ⊢
          refine pu_ 0 14 Y1.q1 HT_.out ?_
          refine pu_ 1 15 Y1.q2 HT_.out ?_
          refine pu_ 2 16 Y1.q3 HT_.out ?_
          refine tk2_ 3 17 Y1.q4 HT_.out HW_.out hHeld ?_
          refine o1_ 4 18 Y1.q5 HT_.out (fun K hK=>?_)
          refine gs_ Try.func83 #[.agg #[.int .i64 ((rd_T49 l0 x3_1).f0),.int .i64 ((rd_T49 l0 x3_1).f1)]] ?_
          with_reducible refine (Y57.calls ((rd_T49 l0 x3_1).f0) ((rd_T49 l0 x3_1).f1) true _ A7.out).mono ?_
          rintro e w19 ⟨rfl,hb⟩
          refine ⟨_,rfl,?_⟩
          have n0_:=aM (below_step (z1_ HB.out) hb)
          clear HB
          have HB:=n0_
          clear n0_
          (try clear hb)
          refine hK.out _ _ ⟨((HB.out.cell (World.block_lt_of_cell? w _ hw193_0)).trans hw193_0),((HB.out.cell (World.block_lt_of_cell? w _ hw193_1)).trans hw193_1)⟩ (fun hHeld=>?_)
          clear hK K
          refine nm_ 18 ?_
          refine pu_ 5 19 Y1.q6 HT_.out ?_
          refine pu_ 6 20 Y1.q7 HT_.out ?_
          refine pu_ 7 21 Y1.q8 HT_.out ?_
          refine pu_ 8 22 Y1.q9 HT_.out ?_
          refine pu_ 9 23 Y1.q10 HT_.out ?_
          refine pn_ 10 24 Y1.q11 HT_.out ?_
          refine pn_ 11 25 Y1.q12 HT_.out ?_
          refine pn_ 12 26 Y1.q13 HT_.out ?_
          refine pn_ 13 27 Y1.q14 HT_.out ?_
          refine pn_ 14 28 Y1.q15 HT_.out ?_
          refine pn_ 15 29 Y1.q25 HT_.out ?_
          refine pn_ 16 30 Y1.q26 HT_.out ?_
          refine pn_ 17 31 Y1.q27 HT_.out ?_
          refine pn_ 18 32 Y1.q28 HT_.out ?_
          refine pn_ 19 33 Y1.q20 HT_.out ?_
          refine pn_ 20 34 Y1.q21 HT_.out ?_
          refine pn_ 21 35 Y1.q22 HT_.out ?_
          refine pu_ 22 36 Y1.q23 HT_.out ?_
          refine pu_ 23 37 Y1.q24 HT_.out ?_
          refine done_ (done_of HT_.out (by kernel_rfl)) ?_
          try go_wp2
          go_roundg kj1
          case measure=>have:=HK1.out;have:=HJ1.out;omega
          case rel=>exact ⟨(wrap64 (x3_1+1)),(z3_),H',⟨by have:=HK1.out;have:=HJ1.out;omega⟩,⟨z1_ HB.out⟩⟩
        ·replace c8:=Bool.eq_false_iff.mpr c8
         subst c8
         have H1:(some false)=some r:=by rw [if_neg (show ¬ (false=true) by decide)] at H;exact H
         clear H
         have H:=H1
         clear H1
         obtain rfl:=sI H
         try go_wp2
         have n0_:=aM (below_drew1 HB.out)
         clear HB
         have HB:=n0_
         clear n0_
         have p193:0≤(x3_1:Int):=dT (z7_)
         have q193:x3_1<(l0.length:Int):=dT (z7_)
         obtain ⟨ad193,e193,hx193_0,hx193_1⟩:=at_T49 HR0.out x3_1 p193 q193
         have hw193_1:=hx193_1
         have hw193_0:=hx193_0
         cases e193
         replace hx193_0:=(HB.out.cell (World.block_lt_of_cell? w _ hx193_0)).trans hx193_0
         replace hx193_1:=(HB.out.cell (World.block_lt_of_cell? w _ hx193_1)).trans hx193_1
         replace p193:=eq_true p193
         replace q193:=eq_true q193
         refine start_ (n:=24) (S:=fun w'=>w'.cell? (ad193.add ((x3_1).toNat*2))=some (.int .i64 ((rd_T49 l0 x3_1).f0))∧w'.cell? ⟨(ad193.add ((x3_1).toNat*2)).block,(ad193.add ((x3_1).toNat*2)).off+1,none⟩=some (.int .i64 ((rd_T49 l0 x3_1).f1))) (ds:=[]) Y1.q0 (by kernel_rfl) rfl rfl ⟨((HB.out.cell (World.block_lt_of_cell? w _ hw193_0)).trans hw193_0),((HB.out.cell (World.block_lt_of_cell? w _ hw193_1)).trans hw193_1)⟩ (fun hHeld=>?_);refine with_tabW Y1.tab4 Y1.bits4 (fun HT_ HW_=>?_)
         generalize wc.drew=w20 at HB hx193_0 hx193_1 hHeld ⊢
         refine pu_ 0 14 Y1.q1 HT_.out ?_
         refine pu_ 1 15 Y1.q2 HT_.out ?_
         refine pu_ 2 16 Y1.q3 HT_.out ?_
         refine tk2_ 3 17 Y1.q4 HT_.out HW_.out hHeld ?_
         refine o1_ 4 18 Y1.q5 HT_.out (fun K hK=>?_)
         refine gs_ Try.func83 #[.agg #[.int .i64 ((rd_T49 l0 x3_1).f0),.int .i64 ((rd_T49 l0 x3_1).f1)]] ?_
         with_reducible refine (Y57.calls ((rd_T49 l0 x3_1).f0) ((rd_T49 l0 x3_1).f1) false _ A7.out).mono ?_
         rintro e w21 ⟨rfl,hb⟩
         refine ⟨_,rfl,?_⟩
         have n0_:=aM (below_step (z1_ HB.out) hb)
         clear HB
         have HB:=n0_
         clear n0_
         (try clear hb)
         refine hK.out _ _ ⟨((HB.out.cell (World.block_lt_of_cell? w _ hw193_0)).trans hw193_0),((HB.out.cell (World.block_lt_of_cell? w _ hw193_1)).trans hw193_1)⟩ (fun hHeld=>?_)
         clear hK K
         refine nm_ 18 ?_
         refine pu_ 5 19 Y1.q6 HT_.out ?_
         refine pu_ 6 20 Y1.q7 HT_.out ?_
         refine pn_ 7 21 Y1.q8 HT_.out ?_
         refine pn_ 8 22 Y1.q9 HT_.out ?_
         refine pn_ 9 23 Y1.q10 HT_.out ?_
         refine pn_ 10 24 Y1.q11 HT_.out ?_
         refine pn_ 11 25 Y1.q12 HT_.out ?_
         refine pn_ 12 26 Y1.q13 HT_.out ?_
         refine pn_ 13 27 Y1.q14 HT_.out ?_
         refine pn_ 14 28 Y1.q15 HT_.out ?_
         refine pn_ 15 29 Y1.q25 HT_.out ?_
         refine pn_ 16 30 Y1.q26 HT_.out ?_
         refine pn_ 17 31 Y1.q27 HT_.out ?_
         refine pn_ 18 32 Y1.q28 HT_.out ?_
         refine pn_ 19 33 Y1.q20 HT_.out ?_
         refine pn_ 20 34 Y1.q21 HT_.out ?_
         refine pn_ 21 35 Y1.q22 HT_.out ?_
         refine pn_ 22 36 Y1.q23 HT_.out ?_
         refine pu_ 23 37 Y1.q24 HT_.out ?_
         refine done_ (done_of HT_.out (by kernel_rfl)) ?_
         try go_wp2
         go_ret
         exact ⟨z5_,z1_ HB.out⟩
       ·rw [if_neg c6] at H
        exact nO H
      ·rw [if_neg c5] at H
       exact nO H
     ·replace c4:=Bool.eq_false_iff.mpr c4
      subst c4
      have H1:(some (decide ((l0.length:Int)≤5)))=some r:=by rw [if_neg (show ¬ (false=true) by decide)] at H;exact H
      clear H
      have H:=H1
      clear H1
      obtain rfl:=sI H
      go_wp2
      go_ret
      exact ⟨z5_,z1_ HB.out⟩


/-! ### Y30: function 82 -/
def Y30.l0:Nat→List (S49)→Int→Int→Option (Int)
 | 0,_,_,_=>none
 | k+1,x0,x1,x5=>if x5<(x0.length:Int) then (if 0≤x5 then (if ((rd_T49 x0 x5).f0)=x1 then (some ((rd_T49 x0 x5).f1)) else (Y30.l0 k x0 x1 (wrap64 (x5+1)))) else (none)) else (some 0)
def Y30.f (k:Nat) (l0:List (S49)) (a1:Int):Option (Int):=Y30.l0 k l0 a1 0
theorem Y30.mono_l:∀ k,(∀ y0 y1 y2,LeO (Y30.l0 k y0 y1 y2) (Y30.l0 (k+1) y0 y1 y2))
 | 0=>by intros <;> exact LeO.none _
 | k+1=>by
  have ih0:=Y30.mono_l k
  ·intros
   unfold Y30.l0
   exact mO
theorem Y30.mono:∀ a0 a1 k,LeO (Y30.f k a0 a1) (Y30.f (k+1) a0 a1):=by
 intro a0 a1 k
 have ih0:=Y30.mono_l k
 unfold Y30.f
 exact mO
theorem Y30.calls (k:Nat) (A0:Option Addr) (c0:Nat) (l0:List (S49)) (a1:Int) (r:Int) (w:World) (hr0:Kd.C k49 w A0 l0.length l0) (hc0:l0.length≤c0) (h:Y30.f k l0 a1=some r) :
  Calls Try.prog 82 #[.slice A0 l0.length c0,.int .i64 a1] w fun e w'=>e = .returned (.int .i64 r)∧Drawn0 w w':=by
 have HR0:=aM hr0
 have HC0:=aM hc0
 clear hr0 hc0
 have H:(Y30.l0 k l0 a1 0)=some r:=h
 clear h
 have H':=aM H
 clear H
 go_enter Try.func82,Try.ntmps82
 go_wp2
 go_loopg [5] k (fun kq v5 w'=>∃ (x5_1:Int),v5 = .int .i64 x5_1∧Aside0 (Y30.l0 kq l0 a1 x5_1=some r)∧Aside0 (kq≤k)∧Drawn0 w w')
 case atStart=>exact ⟨(0),(z3_),H',⟨Nat.le_refl _⟩,z14_⟩
 case round =>
  clear H'
  try clear p2
  obtain ⟨x5_1,rfl,HA,HK1,⟨m1,rfl⟩⟩:=hrel
  cases gk with
  | zero=>exact absurd HA.out (by simp [Y30.l0])
  | succ k1 =>
   have H:=HA.out
   clear HA
   simp only [Y30.l0] at H
   by_cases c3:x5_1<(l0.length:Int)
   ·rw [if_pos c3] at H
    have c3b0:decide (x5_1<(l0.length:Int))=true:=dE c3
    clear c3
    by_cases c4:0≤x5_1
    ·rw [if_pos c4] at H
     have c4b0:decide (0≤x5_1)=true:=dE c4
     clear c4
     by_cases c5:((rd_T49 l0 x5_1).f0)=a1
     ·rw [if_pos c5] at H
      have c5b0:(((rd_T49 l0 x5_1).f0) == a1)=true:=beq_iff_eq.mpr c5
      have c5b1:(((rd_T49 l0 x5_1).f0) != a1)=false:=bne_eq_false_iff_eq.mpr c5
      clear c5
      obtain rfl:=sI H
      have p331:0≤(x5_1:Int):=dT (z7_)
      have q331:x5_1<(l0.length:Int):=dT (z7_)
      obtain ⟨ad331,e331,hx331_0,hx331_1⟩:=at_T49 HR0.out x5_1 p331 q331
      cases e331
      replace p331:=eq_true p331
      replace q331:=eq_true q331
      have p332:0≤(x5_1:Int):=dT (z7_)
      have q332:x5_1<(l0.length:Int):=dT (z7_)
      obtain ⟨ad332,e332,hx332_0,hx332_1⟩:=at_T49 HR0.out x5_1 p332 q332
      obtain rfl:ad331=ad332:=(by injection e332)
      replace p332:=eq_true p332
      replace q332:=eq_true q332
      go_wp2
      go_ret
      exact ⟨z3_,z14_⟩
     ·rw [if_neg c5] at H
      have c5b0:(((rd_T49 l0 x5_1).f0) == a1)=false:=beq_eq_false_iff_ne.mpr c5
      have c5b1:(((rd_T49 l0 x5_1).f0) != a1)=true:=bne_iff_ne.mpr c5
      have H':=aM H
      clear H
      have p331:0≤(x5_1:Int):=dT (z7_)
      have q331:x5_1<(l0.length:Int):=dT (z7_)
      obtain ⟨ad331,e331,hx331_0,hx331_1⟩:=at_T49 HR0.out x5_1 p331 q331
      cases e331
      replace p331:=eq_true p331
      replace q331:=eq_true q331
      go_wp2
      go_roundg k1
      case measure=>have:=HK1.out;omega
      case rel=>exact ⟨(wrap64 (x5_1+1)),(z3_),H',⟨by have:=HK1.out;omega⟩,z14_⟩
    ·rw [if_neg c4] at H
     exact nO H
   ·rw [if_neg c3] at H
    have c3b0:decide (x5_1<(l0.length:Int))=false:=dF c3
    clear c3
    obtain rfl:=sI H
    go_wp2
    go_ret
    exact ⟨z3_,z14_⟩


/-! ### Y69: function 102 -/
def Y69.f (a0:Int) (a1:Int):Option (Int):=if a0>a1 then (some a0) else (some a1)
theorem Y69.calls (a0:Int) (a1:Int) (r:Int) (w:World) (h:Y69.f a0 a1=some r) :
  Calls Try.prog 102 #[.int .i64 a0,.int .i64 a1] w fun e w'=>e = .returned (.int .i64 r)∧Drawn0 w w':=by
 have H:(if a0>a1 then (some a0) else (some a1))=some r:=h
 clear h
 by_cases c3:a0>a1
 ·rw [if_pos c3] at H
  have c3b0:decide (a1<a0)=true:=dE c3
  clear c3
  obtain rfl:=sI H
  go_enter Try.func102,Try.ntmps102
  go_wp2
  go_ret
  exact ⟨z3_,z14_⟩
 ·rw [if_neg c3] at H
  have c3b0:decide (a1<a0)=false:=dF c3
  clear c3
  obtain rfl:=sI H
  go_enter Try.func102,Try.ntmps102
  go_wp2
  go_ret
  exact ⟨z3_,z14_⟩


/-! ### Y29: function 80 -/
def Y29.l0:Nat→List (S49)→List (S49)→List (S49)→Int→Option ((List (S49)))
 | 0,_,_,_,_=>none
 | k+1,x0,x1,x5,x6=>if x6≤5 then ((Y30.f k x0 x6).bind fun t336=>((Y30.f k x1 x6).bind fun t337=>((Y69.f t336 t337).bind fun t338=>(if t338>0 then (if x5.length<8796093022208 then (Y29.l0 k x0 x1 (x5 ++ [(⟨x6,t338⟩:S49)]) (wrap64 (x6+1))) else (none)) else (Y29.l0 k x0 x1 x5 (wrap64 (x6+1))))))) else (some x5)
def Y29.f (k:Nat) (l0:List (S49)) (l1:List (S49)):Option ((List (S49))):=Y29.l0 k l0 l1 (([]:List (S49))) 1
theorem Y29.mono_l:∀ k,(∀ y0 y1 y2 y3,LeO (Y29.l0 k y0 y1 y2 y3) (Y29.l0 (k+1) y0 y1 y2 y3))
 | 0=>by intros <;> exact LeO.none _
 | k+1=>by
  have ih0:=Y29.mono_l k
  have m0:=@Y30.mono
  ·intros
   unfold Y29.l0
   exact mO
theorem Y29.mono:∀ a0 a1 k,LeO (Y29.f k a0 a1) (Y29.f (k+1) a0 a1):=by
 intro a0 a1 k
 have m0:=@Y30.mono
 have ih0:=Y29.mono_l k
 unfold Y29.f
 exact mO
theorem Y29.calls (k:Nat) (A0:Option Addr) (c0:Nat) (l0:List (S49)) (A1:Option Addr) (c1:Nat) (l1:List (S49)) (r:List (S49)) (w:World) (hr0:Kd.C k49 w A0 l0.length l0) (hc0:l0.length≤c0) (hr1:Kd.C k49 w A1 l1.length l1) (hc1:l1.length≤c1) (h:Y29.f k l0 l1=some r) :
  Calls Try.prog 80 #[.slice A0 l0.length c0,.slice A1 l1.length c1] w fun e w'=>∃ v0_:Value,e = .returned (v0_)∧Kd.R k49 49 w' w.heap.size (fun _=>True) v0_ r∧Below w.heap.size w w':=by
 have hu49:=Try.underlying49
 have HR0:=aM hr0
 have HC0:=aM hc0
 clear hr0 hc0
 have HR1:=aM hr1
 have HC1:=aM hc1
 clear hr1 hc1
 have HB:=aM (Below.refl w.heap.size w)
 have H:(Y29.l0 k l0 l1 (([]:List (S49))) 1)=some r:=h
 clear h
 obtain ⟨y333,hy333⟩:∃ y_:List (S49),y_=(([]:List (S49))):=⟨_,rfl⟩
 replace H:(Y29.l0 k l0 l1 y333 1)=some r:=by first | (rw [hy333];with_reducible exact H) | (have H2_:=(Option.bind_some _ _).symm.trans H;rw [hy333];with_reducible exact H2_) | (have H2_:=(Option.bind_some _ _).symm.trans H;with_reducible exact H2_) | with_reducible exact H | (rw [hy333];exact H) | exact H
 have Ny333:=aM hy333
 clear hy333
 have H':=aM H
 clear H
 go_enter Try.func80,Try.ntmps80
 go_wp2_with (first | ((with_reducible refine gd_ 8 ?_);refine Kd.R_lit k49 _ 49 ?hg (N:=8) ?hd (xs:=([]:List (S49))) (inner:=[]) (ok:=fun _=>True) (okp:=fun _=>True) ?hr ?hp (fun _ hk=>hk) trivial (Below.refl _ _) (Nat.le_refl _) (by simp) ?_;(case hd=>rfl);(case hg=>rfl);(case hr=>first | (go_simp;done) | (go_simp;rfl));(case hp=>exact (Reps.none _ _));intro v334 w3 ho4 hb hg_ hnew_;clear hg_ hnew_;(first | rw [← Ny333.out] at ho4 | (simp only [Int.reduceToNat] at ho4;rw [← Ny333.out] at ho4));have n0_:=aM (Kd.R_lower ho4 (below_size (z1_ HB.out)));have n1_:=aM (below_step (z1_ HB.out) hb);clear HB;have HO335:=n0_;have HB:=n1_;clear n0_ n1_;clear hb ho4))
 go_loopg [5,6] k (fun kq v5 v6 w'=>∃ (x5_1:List (S49)) (x6_1:Int),v6 = .int .i64 x6_1∧Aside0 (Y29.l0 kq l0 l1 x5_1 x6_1=some r)∧Aside0 (kq≤k)∧Aside0 (Kd.R k49 49 w' w.heap.size (fun _=>True) v5 x5_1)∧Aside0 (Below w.heap.size w w'))
 case atStart=>exact ⟨(y333),(1),(z3_),H',⟨Nat.le_refl _⟩,⟨z0_ HO335.out⟩,⟨z1_ HB.out⟩⟩
 case round =>
  clear H'
  try clear c1
  try clear p2
  obtain ⟨x5_1,x6_1,rfl,HA,HK1,HO_5,HB⟩:=hrel
  cases gk with
  | zero=>exact absurd HA.out (by simp [Y29.l0])
  | succ k1 =>
   have H:=HA.out
   clear HA
   simp only [Y29.l0] at H
   by_cases c5:x6_1≤5
   ·rw [if_pos c5] at H
    have c5b0:decide (x6_1≤5)=true:=dE c5
    clear c5
    replace H:=bS H
    obtain ⟨t336,A60,H⟩:=H
    replace H:((Y30.f k1 l1 x6_1).bind fun t337=>((Y69.f t336 t337).bind fun t338=>(if t338>0 then (if x5_1.length<8796093022208 then (Y29.l0 k1 l0 l1 (x5_1 ++ [(⟨x6_1,t338⟩:S49)]) (wrap64 (x6_1+1))) else (none)) else (Y29.l0 k1 l0 l1 x5_1 (wrap64 (x6_1+1))))))=some r:=H
    have A6:=aM A60
    clear A60
    replace H:=bS H
    obtain ⟨t337,A70,H⟩:=H
    replace H:((Y69.f t336 t337).bind fun t338=>(if t338>0 then (if x5_1.length<8796093022208 then (Y29.l0 k1 l0 l1 (x5_1 ++ [(⟨x6_1,t338⟩:S49)]) (wrap64 (x6_1+1))) else (none)) else (Y29.l0 k1 l0 l1 x5_1 (wrap64 (x6_1+1)))))=some r:=H
    have A7:=aM A70
    clear A70
    replace H:=bS H
    obtain ⟨t338,A80,H⟩:=H
    replace H:(if t338>0 then (if x5_1.length<8796093022208 then (Y29.l0 k1 l0 l1 (x5_1 ++ [(⟨x6_1,t338⟩:S49)]) (wrap64 (x6_1+1))) else (none)) else (Y29.l0 k1 l0 l1 x5_1 (wrap64 (x6_1+1))))=some r:=H
    have A8:=aM A80
    clear A80
    by_cases c9:t338>0
    ·rw [if_pos c9] at H
     have c9b0:decide (0<t338)=true:=dE c9
     clear c9
     by_cases c10:x5_1.length<8796093022208
     ·rw [if_pos c10] at H
      have LMc10:=aM c10
      clear c10
      obtain ⟨y339,hy339⟩:∃ y_:List (S49),y_=(x5_1 ++ [(⟨x6_1,t338⟩:S49)]):=⟨_,rfl⟩
      replace H:(Y29.l0 k1 l0 l1 y339 (wrap64 (x6_1+1)))=some r:=by first | (rw [hy339];with_reducible exact H) | (have H2_:=(Option.bind_some _ _).symm.trans H;rw [hy339];with_reducible exact H2_) | (have H2_:=(Option.bind_some _ _).symm.trans H;with_reducible exact H2_) | with_reducible exact H | (rw [hy339];exact H) | exact H
      have Ny339:=aM hy339
      clear hy339
      have H':=aM H
      clear H
      go_wp2_with (first | ((with_reducible refine gc_ 82 ?_);refine gl_ (some 15) Try.func82 #[.slice A0 l0.length c0,.int .i64 x6_1] ?_;(with_reducible refine (Y30.calls k1 _ _ l0 x6_1 t336 _ ?s1 ?s2 A6.out).mono ?_);(case s1=>repeat (first | exact (Kd.C_below HR0.out HB.out) | (with_reducible refine Kd.C_alloc ?_ _) | (with_reducible refine Kd.C_drewN ?_ _) | (with_reducible refine Kd.C_drew ?_)));(case s2=>exact HC0.out);rintro e w' ⟨rfl,⟨nd,rfl⟩⟩;refine ⟨_,rfl,?_⟩) | ((with_reducible refine gc_ 82 ?_);refine gl_ (some 18) Try.func82 #[.slice A1 l1.length c1,.int .i64 x6_1] ?_;(with_reducible refine (Y30.calls k1 _ _ l1 x6_1 t337 _ ?s1 ?s2 A7.out).mono ?_);(case s1=>repeat (first | exact (Kd.C_below HR1.out (z1_ HB.out)) | (with_reducible refine Kd.C_alloc ?_ _) | (with_reducible refine Kd.C_drewN ?_ _) | (with_reducible refine Kd.C_drew ?_)));(case s2=>exact HC1.out);rintro e w' ⟨rfl,⟨nd,rfl⟩⟩;refine ⟨_,rfl,?_⟩) | ((with_reducible refine gc_ 102 ?_);refine gl_ (some 19) Try.func102 #[.int .i64 t336,.int .i64 t337] ?_;(with_reducible refine (Y69.calls t336 t337 t338 _ A8.out).mono ?_);rintro e w' ⟨rfl,⟨nd,rfl⟩⟩;refine ⟨_,rfl,?_⟩) | ((with_reducible refine gate_builtin (b:=.append) (xs:=#[.tmp 22,.tmp 26]) rfl ?_);at_builtin;refine Kd.R_append k49 (w0:=w) w.heap.size rfl (.tmp 22) (.tmp 26) 33 49 (.agg #[(.int .i64 0),(.int .i64 0)]) 16 rfl Try.underlying33 info49 rfl (by decide) (by omega) u5 x5_1 (⟨x6_1,t338⟩:S49) [.int .i64 x6_1,.int .i64 t338] (fun _=>True) (fun _=>False) rfl rfl ?aP (fun _ hk=>hk.elim) ?aF ?aO ?aB ?aS ?aL ?_;(case aP=>exact k49_mkM _ _ _ (⟨x6_1,t338⟩:S49));(case aB=>exact (z1_ HB.out));(case aF=>exact (fun _ _=>trivial));(case aO=>exact (z0_ HO_5.out));(case aS=>exact (below_size (z1_ HB.out)));(case aL=>have:=LMc10.out;omega);intro v340 w11 ho hb hg hat;rw [← Ny339.out] at ho;have n0_:=aM (hb);have n1_:=aM (ho);clear HB;clear HO_5;have HB:=n0_;have HO341:=n1_;clear n0_ n1_;clear ho hb hg hat))
      go_roundg k1
      case measure=>have:=HK1.out;omega
      case rel=>exact ⟨(y339),(wrap64 (x6_1+1)),(z3_),H',⟨by have:=HK1.out;omega⟩,⟨z0_ HO341.out⟩,⟨z1_ HB.out⟩⟩
     ·rw [if_neg c10] at H
      exact nO H
    ·rw [if_neg c9] at H
     have c9b0:decide (0<t338)=false:=dF c9
     clear c9
     have H':=aM H
     clear H
     go_wp2_with (first | ((with_reducible refine gc_ 82 ?_);refine gl_ (some 15) Try.func82 #[.slice A0 l0.length c0,.int .i64 x6_1] ?_;(with_reducible refine (Y30.calls k1 _ _ l0 x6_1 t336 _ ?s1 ?s2 A6.out).mono ?_);(case s1=>repeat (first | exact (Kd.C_below HR0.out HB.out) | (with_reducible refine Kd.C_alloc ?_ _) | (with_reducible refine Kd.C_drewN ?_ _) | (with_reducible refine Kd.C_drew ?_)));(case s2=>exact HC0.out);rintro e w' ⟨rfl,⟨nd,rfl⟩⟩;refine ⟨_,rfl,?_⟩) | ((with_reducible refine gc_ 82 ?_);refine gl_ (some 18) Try.func82 #[.slice A1 l1.length c1,.int .i64 x6_1] ?_;(with_reducible refine (Y30.calls k1 _ _ l1 x6_1 t337 _ ?s1 ?s2 A7.out).mono ?_);(case s1=>repeat (first | exact (Kd.C_below HR1.out (z1_ HB.out)) | (with_reducible refine Kd.C_alloc ?_ _) | (with_reducible refine Kd.C_drewN ?_ _) | (with_reducible refine Kd.C_drew ?_)));(case s2=>exact HC1.out);rintro e w' ⟨rfl,⟨nd,rfl⟩⟩;refine ⟨_,rfl,?_⟩) | ((with_reducible refine gc_ 102 ?_);refine gl_ (some 19) Try.func102 #[.int .i64 t336,.int .i64 t337] ?_;(with_reducible refine (Y69.calls t336 t337 t338 _ A8.out).mono ?_);rintro e w' ⟨rfl,⟨nd,rfl⟩⟩;refine ⟨_,rfl,?_⟩))
     go_roundg k1
     case measure=>have:=HK1.out;omega
     case rel=>exact ⟨(x5_1),(wrap64 (x6_1+1)),(z3_),H',⟨by have:=HK1.out;omega⟩,⟨z0_ HO_5.out⟩,⟨z1_ HB.out⟩⟩
   ·rw [if_neg c5] at H
    have c5b0:decide (x6_1≤5)=false:=dF c5
    clear c5
    obtain rfl:=sI H
    go_wp2
    go_ret
    exact ⟨_,z5_,z0_ HO_5.out,z1_ HB.out⟩


/-! ### Y16: function 34 -/
def Y16.j0:Nat→List (S49)→Bool→Int→Int→Option ((List (S49)) × Int)
 | 0,_,_,_,_=>none
 | k+1,x0,x16,x343000,x343001=>if x16=true then (some (([]:List (S49)),1)) else ((Y29.f k x0 (([(⟨x343000,x343001⟩:S49)]:List (S49)))).bind fun t349=>(some (t349,0)))
def Y16.f (k:Nat) (l0:List (S49)) (a1_0:Int) (a1_1:Int):Option ((List (S49)) × Int):=if (l0.length:Int)>400 then (some (([]:List (S49)),2)) else ((Y1.f k l0).bind fun t344=>(if t344=true then ((Y57.f a1_0 a1_1).bind fun t345=>(Y16.j0 k l0 (!t345) a1_0 a1_1)) else (Y16.j0 k l0 true a1_0 a1_1)))
theorem Y16.mono_l:∀ k,(∀ y0 y1 y2 y3,LeO (Y16.j0 k y0 y1 y2 y3) (Y16.j0 (k+1) y0 y1 y2 y3))
 | 0=>by intros <;> exact LeO.none _
 | k+1=>by
  have ih0:=Y16.mono_l k
  have m0:=@Y1.mono
  have m1:=@Y29.mono
  ·intros
   unfold Y16.j0
   exact mO
theorem Y16.mono:∀ a0 a1 a2 k,LeO (Y16.f k a0 a1 a2) (Y16.f (k+1) a0 a1 a2):=by
 intro a0 a1 a2 k
 have m0:=@Y1.mono
 have m1:=@Y29.mono
 have ih0:=Y16.mono_l k
 unfold Y16.f
 exact mO
theorem Y16.calls (k:Nat) (A0:Option Addr) (c0:Nat) (l0:List (S49)) (a1_0:Int) (a1_1:Int) (r1:List (S49)) (r2:Int) (w:World) (hr0:Kd.C k49 w A0 l0.length l0) (hc0:l0.length≤c0) (h:Y16.f k l0 a1_0 a1_1=some (r1,r2)) :
  Calls Try.prog 34 #[.slice A0 l0.length c0,.agg #[.int .i64 a1_0,.int .i64 a1_1]] w fun e w'=>∃ v0_:Value,e = .returned (.agg #[v0_,.int .i64 r2])∧Kd.R k49 49 w' w.heap.size (fun _=>True) v0_ r1∧Below w.heap.size w w':=by
 have hu49:=Try.underlying49
 have hu53:=Try.underlying53
 have HR0:=aM hr0
 have HC0:=aM hc0
 clear hr0 hc0
 have HB:=aM (Below.refl w.heap.size w)
 have H:(if (l0.length:Int)>400 then (some (([]:List (S49)),2)) else ((Y1.f k l0).bind fun t344=>(if t344=true then ((Y57.f a1_0 a1_1).bind fun t345=>(Y16.j0 k l0 (!t345) a1_0 a1_1)) else (Y16.j0 k l0 true a1_0 a1_1))))=some (r1,r2):=h
 clear h
 by_cases c3:(l0.length:Int)>400
 ·rw [if_pos c3] at H
  have c3b0:decide (400<(l0.length:Int))=true:=dE c3
  have c3b1:decide (400<l0.length)=true:=dE (by omega)
  clear c3
  simp only [Option.some.injEq,Prod.mk.injEq] at H
  obtain ⟨rfl,rfl⟩:=H
  go_enter Try.func34,Try.ntmps34
  go_wp2_with (first | ((with_reducible refine gd_ 3 ?_);refine be_ 3 #[.int .i64 a1_0,.int .i64 a1_1] 49 ?_;intro gb342 hg w4 hbox hb;have n0_:=aM (below_step (z1_ HB.out) hb);have n1_:=aM (hbox);have n2_:=aM ((z8_ HB.out:w.heap.size≤gb342));have n3_:=aM ((z8_ HB.out:w.heap.size≤gb342));clear HB;have HB:=n0_;have BK342:=n1_;have GW342:=n2_;have GE342:=n3_;clear n0_ n1_ n2_ n3_;clear hb hbox hg) | ((with_reducible refine gd_ 4 ?_);refine be_ 4 #[.slice none 0 0,.int .i64 0] 53 ?_;intro gb343 hg w5 hbox hb;have n0_:=aM (blkB_ BK342.out hb);have n1_:=aM (below_step (z4_ HB.out GE342.out) hb);have n2_:=aM (hbox);have n3_:=aM ((z17_ HB.out GE342.out:w.heap.size≤gb343));have n4_:=aM ((z17_ HB.out GE342.out:w.heap.size≤gb343));have n5_:=aM (neL_ BK342.out hg);have n6_:=aM (neG_ BK342.out hg);clear BK342;clear HB;have BK342:=n0_;have HB:=n1_;have BK343:=n2_;have GW343:=n3_;have GE343:=n4_;have NB342_343:=n5_;have NB343_342:=n6_;clear n0_ n1_ n2_ n3_ n4_ n5_ n6_;clear hb hbox hg;have hnb6:=NB343_342.out;have hnc6:=NB342_343.out;have ⟨hcz7_0,hcz7_1,hfz7_0,hfz7_1⟩:=cz2_ BK343.out))
  refine bodyPost_ret (results_cell_row rfl _ _ gb343 53 #[.slice none 0 0,.int .i64 2] (0,0) _ rfl (z15_ BK343.out) Try.underlying53 rfl (by kernel_rfl)) rfl ?_
  exact ⟨_,z5_,z25_,z13_ HB.out GE342.out GE343.out⟩
 ·rw [if_neg c3] at H
  have c3b0:decide (400<(l0.length:Int))=false:=dF c3
  have c3b1:decide (400<l0.length)=false:=dF (by omega)
  clear c3
  have HC8:=aM H
  clear H
  go_enter Try.func34,Try.ntmps34
  go_upto_region 3 with (first | ((with_reducible refine gd_ 3 ?_);refine be_ 3 #[.int .i64 a1_0,.int .i64 a1_1] 49 ?_;intro gb342 hg w9 hbox hb;have n0_:=aM (below_step (z1_ HB.out) hb);have n1_:=aM (hbox);have n2_:=aM ((z8_ HB.out:w.heap.size≤gb342));have n3_:=aM ((z8_ HB.out:w.heap.size≤gb342));clear HB;have HB:=n0_;have BK342:=n1_;have GW342:=n2_;have GE342:=n3_;clear n0_ n1_ n2_ n3_;clear hb hbox hg) | ((with_reducible refine gd_ 4 ?_);refine be_ 4 #[.slice none 0 0,.int .i64 0] 53 ?_;intro gb343 hg w10 hbox hb;have n0_:=aM (blkB_ BK342.out hb);have n1_:=aM (below_step (z4_ HB.out GE342.out) hb);have n2_:=aM (hbox);have n3_:=aM ((z17_ HB.out GE342.out:w.heap.size≤gb343));have n4_:=aM ((z17_ HB.out GE342.out:w.heap.size≤gb343));have n5_:=aM (neL_ BK342.out hg);have n6_:=aM (neG_ BK342.out hg);clear BK342;clear HB;have BK342:=n0_;have HB:=n1_;have BK343:=n2_;have GW343:=n3_;have GE343:=n4_;have NB342_343:=n5_;have NB343_342:=n6_;clear n0_ n1_ n2_ n3_ n4_ n5_ n6_;clear hb hbox hg))
  (try simp only [Act.put,sa_,s0_,ss_])
  go_cut [16] (fun v16 wc=>∃ (kq:Nat) (x16_7:Bool),v16 = .bool x16_7∧Aside0 (Y16.j0 kq l0 x16_7 a1_0 a1_1=some (r1,r2))∧Aside0 (kq≤k)∧Aside0 (wc.heap[gb342]? = some (.cells #[.int .i64 a1_0,.int .i64 a1_1] 49 (0,0)))∧Aside0 (wc.heap[gb343]? = some (.cells #[(.slice none 0 0),.int .i64 0] 53 (0,0)))∧Aside0 (Below w.heap.size w wc))
  case first =>
   have H:=HC8.out
   clear HC8
   replace H:=bS H
   obtain ⟨t344,A110,H⟩:=H
   replace H:(if t344=true then ((Y57.f a1_0 a1_1).bind fun t345=>(Y16.j0 k l0 (!t345) a1_0 a1_1)) else (Y16.j0 k l0 true a1_0 a1_1))=some (r1,r2):=H
   have A11:=aM A110
   clear A110
   by_cases c12:t344=true
   ·subst c12
    have H1:((Y57.f a1_0 a1_1).bind fun t345=>(Y16.j0 k l0 (!t345) a1_0 a1_1))=some (r1,r2):=by rw [if_pos rfl] at H;exact H
    clear H
    have H:=H1
    clear H1
    replace H:=bS H
    obtain ⟨t345,A130,H⟩:=H
    replace H:(Y16.j0 k l0 (!t345) a1_0 a1_1)=some (r1,r2):=H
    have A13:=aM A130
    clear A130
    have H':=aM H
    clear H
    go_wp2_with (first | ((with_reducible refine gc_ 42 ?_);refine gl_ (some 10) Try.func42 #[.slice A0 l0.length c0] ?_;(with_reducible refine (Y1.calls k _ _ l0 true _ ?s1 ?s2 A11.out).mono ?_);(case s1=>repeat (first | exact (Kd.C_below HR0.out HB.out) | (with_reducible refine Kd.C_alloc ?_ _) | (with_reducible refine Kd.C_drewN ?_ _) | (with_reducible refine Kd.C_drew ?_)));(case s2=>exact HC0.out);rintro e w14 ⟨rfl,hb⟩;refine ⟨_,rfl,?_⟩;have n0_:=aM (blkB_ BK342.out hb);have n1_:=aM (blkB_ BK343.out hb);have n2_:=aM (below_step (z13_ HB.out GE342.out GE343.out) hb);clear BK342;clear BK343;clear HB;have BK342:=n0_;have BK343:=n1_;have HB:=n2_;clear n0_ n1_ n2_;(try clear hb);have hnb15:=NB342_343.out;have hnc15:=NB343_342.out;have ⟨hcz16_0,hcz16_1,hfz16_0,hfz16_1⟩:=cz2_ BK342.out) | (go_at_call 83;(with_reducible refine (Y57.calls a1_0 a1_1 t345 _ A13.out).mono ?_);rintro e w17 ⟨rfl,hb⟩;have n0_:=aM (blkB_ BK342.out hb);have n1_:=aM (blkB_ BK343.out hb);have n2_:=aM (below_step (z13_ HB.out GE342.out GE343.out) hb);clear BK342;clear BK343;clear HB;have BK342:=n0_;have BK343:=n1_;have HB:=n2_;clear n0_ n1_ n2_;(try clear hb)))
    go_meet
    case rel=>exact ⟨_,(!t345),(z3_),H',⟨by first | omega | exact Nat.le_refl _⟩,⟨z2_ BK342.out⟩,⟨z2_ BK343.out⟩,⟨z13_ HB.out GE342.out GE343.out⟩⟩
   ·replace c12:=Bool.eq_false_iff.mpr c12
    subst c12
    have H1:(Y16.j0 k l0 true a1_0 a1_1)=some (r1,r2):=by rw [if_neg (show ¬ (false=true) by decide)] at H;exact H
    clear H
    have H:=H1
    clear H1
    have H':=aM H
    clear H
    go_wp2_with (first | ((with_reducible refine gc_ 42 ?_);refine gl_ (some 10) Try.func42 #[.slice A0 l0.length c0] ?_;(with_reducible refine (Y1.calls k _ _ l0 false _ ?s1 ?s2 A11.out).mono ?_);(case s1=>repeat (first | exact (Kd.C_below HR0.out HB.out) | (with_reducible refine Kd.C_alloc ?_ _) | (with_reducible refine Kd.C_drewN ?_ _) | (with_reducible refine Kd.C_drew ?_)));(case s2=>exact HC0.out);rintro e w18 ⟨rfl,hb⟩;refine ⟨_,rfl,?_⟩;have n0_:=aM (blkB_ BK342.out hb);have n1_:=aM (blkB_ BK343.out hb);have n2_:=aM (below_step (z13_ HB.out GE342.out GE343.out) hb);clear BK342;clear BK343;clear HB;have BK342:=n0_;have BK343:=n1_;have HB:=n2_;clear n0_ n1_ n2_;(try clear hb)))
    go_meet
    case rel=>exact ⟨_,(true),(z3_),H',⟨by first | omega | exact Nat.le_refl _⟩,⟨z2_ BK342.out⟩,⟨z2_ BK343.out⟩,⟨z13_ HB.out GE342.out GE343.out⟩⟩
  case rest =>
   clear HC8
   try clear c1
   try clear p2
   try clear c3
   try clear c3b0
   try clear c3b1
   try clear c4
   try clear c6
   try clear c12
   try clear c15
   try clear hcz16_0
   try clear hcz16_1
   try clear hcz7_0
   try clear hcz7_1
   try clear hfz16_0
   try clear hfz16_1
   try clear hfz7_0
   try clear hfz7_1
   obtain ⟨kq,x16_7,rfl,HA,HJ7,BK342,BK343,HB⟩:=hcut
   cases kq with
   | zero=>exact absurd HA.out (by simp [Y16.j0])
   | succ kj7 =>
    have H:=HA.out
    clear HA
    simp only [Y16.j0] at H
    by_cases c19:x16_7=true
    ·subst c19
     have H1:(some (([]:List (S49)),1))=some (r1,r2):=by rw [if_pos rfl] at H;exact H
     clear H
     have H:=H1
     clear H1
     simp only [Option.some.injEq,Prod.mk.injEq] at H
     obtain ⟨rfl,rfl⟩:=H
     have hnb20:=NB343_342.out
     have hnc20:=NB342_343.out
     have ⟨hcz21_0,hcz21_1,hfz21_0,hfz21_1⟩:=cz2_ BK343.out
     go_wp2
     refine bodyPost_ret (results_cell_row rfl _ _ gb343 53 #[.slice none 0 0,.int .i64 1] (0,0) _ rfl (z15_ BK343.out) Try.underlying53 rfl (by kernel_rfl)) rfl ?_
     exact ⟨_,z5_,z25_,z13_ HB.out GE342.out GE343.out⟩
    ·replace c19:=Bool.eq_false_iff.mpr c19
     subst c19
     have H1:((Y29.f kj7 l0 (([(⟨a1_0,a1_1⟩:S49)]:List (S49)))).bind fun t349=>(some (t349,0)))=some (r1,r2):=by rw [if_neg (show ¬ (false=true) by decide)] at H;exact H
     clear H
     have H:=H1
     clear H1
     obtain ⟨y346,hy346⟩:∃ y_:List (S49),y_=(([(⟨a1_0,a1_1⟩:S49)]:List (S49))):=⟨_,rfl⟩
     replace H:((Y29.f kj7 l0 y346).bind fun t349=>(some (t349,0)))=some (r1,r2):=by first | (rw [hy346];with_reducible exact H) | (have H2_:=(Option.bind_some _ _).symm.trans H;rw [hy346];with_reducible exact H2_) | (have H2_:=(Option.bind_some _ _).symm.trans H;with_reducible exact H2_) | with_reducible exact H | (rw [hy346];exact H) | exact H
     have Ny346:=aM hy346
     clear hy346
     replace H:=bS H
     obtain ⟨t349,A220,H⟩:=H
     replace H:(some (t349,0))=some (r1,r2):=H
     have A22:=aM A220
     clear A220
     simp only [Option.some.injEq,Prod.mk.injEq] at H
     obtain ⟨rfl,rfl⟩:=H
     have hnb23:=NB342_343.out
     have hnc23:=NB343_342.out
     have ⟨hcz24_0,hcz24_1,hfz24_0,hfz24_1⟩:=cz2_ BK342.out
     go_wp2_with (first | ((with_reducible refine gd_ 20 ?_);refine Kd.R_lit k49 _ 49 ?hg (N:=20) ?hd (xs:=([(⟨a1_0,a1_1⟩:S49)]:List (S49))) (inner:=[.int .i64 a1_0,.int .i64 a1_1]) (ok:=fun _=>True) (okp:=fun _=>True) ?hr ?hp (fun _ hk=>hk) trivial (Below.refl _ _) (Nat.le_refl _) (by simp) ?_;(case hd=>rfl);(case hg=>rfl);(case hr=>first | (go_simp;done) | (go_simp;rfl));(case hp=>exact (Reps.c2 (show Kd.M k49 _ _ _ (⟨a1_0,a1_1⟩:S49) [.int .i64 a1_0,.int .i64 a1_1] from (k49_mkM _ _ _ (⟨a1_0,a1_1⟩:S49) )) (Reps.none _ _)));intro v347 w25 ho26 hb hg_ hnew_;clear hg_ hnew_;(first | rw [← Ny346.out] at ho26 | (simp only [Int.reduceToNat] at ho26;rw [← Ny346.out] at ho26));have n0_:=aM (Kd.R_lower (Kd.R_newB ho26 (g:=gb342) (o:=.cells #[.int .i64 a1_0,.int .i64 a1_1] 49 (0,0)) (z2_ BK342.out)) (below_size (z13_ HB.out GE342.out GE343.out)));have n1_:=aM (blkB_ BK342.out hb);have n2_:=aM (blkB_ BK343.out hb);have n3_:=aM (below_step (z13_ HB.out GE342.out GE343.out) hb);clear BK342;clear BK343;clear HB;have HO348:=n0_;have BK342:=n1_;have BK343:=n2_;have HB:=n3_;clear n0_ n1_ n2_ n3_;clear hb ho26;obtain ⟨Ao27,co27,eo27⟩:=Kd.R_slice HO348.out;subst eo27) | ((with_reducible refine gc_ 80 ?_);refine gl_ (some 21) Try.func80 #[.slice A0 l0.length c0,.slice Ao27 y346.length co27] ?_;(with_reducible refine (Y29.calls kj7 _ _ l0 _ _ y346 t349 _ ?s1 ?s2 ?s3 ?s4 A22.out).mono ?_);(case s1=>repeat (first | exact (Kd.C_below HR0.out HB.out) | (with_reducible refine Kd.C_alloc ?_ _) | (with_reducible refine Kd.C_drewN ?_ _) | (with_reducible refine Kd.C_drew ?_)));(case s2=>exact HC0.out);(case s3=>repeat (first | exact (Kd.R_reads' HO348.out).2.2 | (with_reducible refine Kd.C_alloc ?_ _) | (with_reducible refine Kd.C_drewN ?_ _) | (with_reducible refine Kd.C_drew ?_)));(case s4=>exact (Kd.R_reads' HO348.out).2.1);rintro e w28 ⟨v350,rfl,ho0,hb⟩;refine ⟨_,rfl,?_⟩;have n0_:=aM (Kd.R_elder' (z0_ HO348.out) (Kd.R_base ho0) hb);have n1_:=aM (Kd.R_lower (Kd.R_newB (Kd.R_new' ho0 (Kd.R_lt (z0_ HO348.out))) (g:=gb342) (o:=.cells #[.int .i64 a1_0,.int .i64 a1_1] 49 (0,0)) (z2_ BK342.out)) (below_size (z13_ HB.out GE342.out GE343.out)));have n2_:=aM (blkB_ BK342.out hb);have n3_:=aM (blkB_ BK343.out hb);have n4_:=aM (below_step (z13_ HB.out GE342.out GE343.out) hb);clear HO348;clear BK342;clear BK343;clear HB;have HO348:=n0_;have HO351:=n1_;have BK342:=n2_;have BK343:=n3_;have HB:=n4_;clear n0_ n1_ n2_ n3_ n4_;(try clear hb);(try clear ho0);obtain ⟨Ao29,co29,eo29⟩:=Kd.R_slice HO351.out;subst eo29;have ⟨hcz30_0,hcz30_1,hfz30_0,hfz30_1⟩:=cz2_ BK343.out))
     refine bodyPost_ret (results_cell_row rfl _ _ gb343 53 #[.slice Ao29 t349.length co29,.int .i64 0] (0,0) _ rfl (z15_ BK343.out) Try.underlying53 rfl (by kernel_rfl)) rfl ?_
     exact ⟨_,z5_,z38_ HO351.out BK343.out,z13_ HB.out GE342.out GE343.out⟩


/-- A state of type 118 at block g of W; what its slices lead to came in by w0. -/
def IsS118 (w0 W:World) (g:Nat) (f0:List Int) (f1:Int) (f2:Int) (f3:Int):Prop:=∃ A0 c0,W.heap[g]? = some (.cells #[.slice A0 f0.length c0,.int .i64 f1,.int .u64 f2,.int .i64 f3] 118 (0,0))∧w0.heap.size≤g∧Kd.C (Kd.int .u8) w0 A0 f0.length f0
theorem IsS118.grown {w0 W:World} {g:Nat} {f0:List Int} {f1:Int} {f2:Int} {f3:Int} {W1:World} {row:Option Nat} (h:IsS118 w0 W g f0 f1 f2 f3) (hw:W.grownBy W1 row) (hne:some g≠row):IsS118 w0 W1 g f0 f1 f2 f3:=by
 obtain ⟨A0,c0,hb,hg,hr0⟩:=h
 exact ⟨A0,c0,blk_grown hb hw hne,hg,hr0⟩
theorem IsS118.kept {w0 W:World} {g:Nat} {f0:List Int} {f1:Int} {f2:Int} {f3:Int} {W1:World} {S:Nat→Prop} (h:IsS118 w0 W g f0 f1 f2 f3) (hk:Kept W W1 S) (hne:¬ S g):IsS118 w0 W1 g f0 f1 f2 f3:=by
 obtain ⟨A0,c0,hb,hg,hr0⟩:=h
 exact ⟨A0,c0,blk_kept hb hk hne,hg,hr0⟩
theorem IsS118.below {w0 W:World} {g:Nat} {f0:List Int} {f1:Int} {f2:Int} {f3:Int} {W1:World} (h:IsS118 w0 W g f0 f1 f2 f3) (hw:Below W.heap.size W W1):IsS118 w0 W1 g f0 f1 f2 f3:=h.grown (grown_of_below hw none) (by simp)
theorem IsS118.alloc {w0 W:World} {g:Nat} {f0:List Int} {f1:Int} {f2:Int} {f3:Int} (h:IsS118 w0 W g f0 f1 f2 f3) (o:Obj):IsS118 w0 (W.alloc o) g f0 f1 f2 f3:=h.below (below_alloc (Below.refl _ _) o)
theorem IsS118.drewN {w0 W:World} {g:Nat} {f0:List Int} {f1:Int} {f2:Int} {f3:Int} (h:IsS118 w0 W g f0 f1 f2 f3) (m:Nat):IsS118 w0 (W.drewN m) g f0 f1 f2 f3:=h
theorem IsS118.drew {w0 W:World} {g:Nat} {f0:List Int} {f1:Int} {f2:Int} {f3:Int} (h:IsS118 w0 W g f0 f1 f2 f3):IsS118 w0 W.drew g f0 f1 f2 f3:=h
theorem IsS118.at_ {w0 W:World} {g:Nat} {f0:List Int} {f1:Int} {f2:Int} {f3:Int} {w':World} {m:Nat} (hq:W.drewN m=w') (h:IsS118 w0 W g f0 f1 f2 f3):IsS118 w0 w' g f0 f1 f2 f3:=by subst hq;exact IsS118.drewN h m
theorem IsS118.apart {w0 W:World} {g:Nat} {f0:List Int} {f1:Int} {f2:Int} {f3:Int} {α:Type} {d:Kd α} {e:Nat} {base:Nat} {ok:Nat→Prop} {v:Value} {xs:List α} (h:IsS118 w0 W g f0 f1 f2 f3) (ho:d.R e W base ok v xs) (ht:∀ q,q ∈ e :: d.E→q≠118):d.R e W base (fun k=>ok k∧k≠g) v xs:=by
 obtain ⟨A0,c0,hb,hg,hr0⟩:=h
 exact Kd.R_types ho hb ht
theorem IsS118.own_ne {w0 W:World} {g:Nat} {f0:List Int} {f1:Int} {f2:Int} {f3:Int} {α:Type} {d:Kd α} {e:Nat} {base:Nat} {ok:Nat→Prop} {v:Value} {xs:List α} (h:IsS118 w0 W g f0 f1 f2 f3) (ho:d.R e W base ok v xs) (ht:e≠118):some g≠v.ownBlock:=by
 obtain ⟨A0,c0,hb,hg,hr0⟩:=h
 exact Kd.R_ne ho hb ht
theorem IsS118.lt {w0 W:World} {g:Nat} {f0:List Int} {f1:Int} {f2:Int} {f3:Int} (h:IsS118 w0 W g f0 f1 f2 f3):g<W.heap.size:=by
 obtain ⟨A0,c0,hb,hg,hr0⟩:=h
 exact blk_lt hb
theorem IsS118.ge {w0 W:World} {g:Nat} {f0:List Int} {f1:Int} {f2:Int} {f3:Int} (h:IsS118 w0 W g f0 f1 f2 f3):w0.heap.size≤g:=by
 obtain ⟨A0,c0,hb,hg,hr0⟩:=h
 exact hg
theorem IsS118.ne_blk {w0 W:World} {g:Nat} {f0:List Int} {f1:Int} {f2:Int} {f3:Int} {a:Nat} {cs:Array Value} {t:TypeId} {fr:Nat × Nat} (h:IsS118 w0 W g f0 f1 f2 f3) (hb2:W.heap[a]? = some (.cells cs t fr)) (ht:t≠118):g≠a:=by
 obtain ⟨A0,c0,hb,hg,hr0⟩:=h
 rintro rfl
 rw [hb] at hb2
 injection hb2 with hb2
 injection hb2 with _ ht2
 exact ht ht2.symm
theorem IsS118.far {w0 W:World} {g:Nat} {f0:List Int} {f1:Int} {f2:Int} {f3:Int} {p:Addr} (h:IsS118 w0 W g f0 f1 f2 f3) (hne:g≠p.block) (u:Value):IsS118 w0 (W.setCell p u) g f0 f1 f2 f3:=by
 obtain ⟨A0,c0,hb,hg,hr0⟩:=h
 exact ⟨A0,c0,blk_far hb hne u,hg,hr0⟩
theorem cellS118_0 {W:World} {g:Nat} {A0:Option Addr} {c0:Nat} {f0:List Int} {f1:Int} {f2:Int} {f3:Int} (h:W.heap[g]? = some (.cells #[.slice A0 f0.length c0,.int .i64 f1,.int .u64 f2,.int .i64 f3] 118 (0,0))):W.cell? ⟨g,0,none⟩=some (.slice A0 f0.length c0):=(blk_cell h 0).trans rfl
theorem cellS118_1 {W:World} {g:Nat} {A0:Option Addr} {c0:Nat} {f0:List Int} {f1:Int} {f2:Int} {f3:Int} (h:W.heap[g]? = some (.cells #[.slice A0 f0.length c0,.int .i64 f1,.int .u64 f2,.int .i64 f3] 118 (0,0))):W.cell? ⟨g,1,none⟩=some (.int .i64 f1):=(blk_cell h 1).trans rfl
theorem IsS118.set_1 {w0 W:World} {g:Nat} {f0:List Int} {f1:Int} {f2:Int} {f3:Int} (h:IsS118 w0 W g f0 f1 f2 f3) (x:Int):IsS118 w0 (W.setCell ⟨g,1,none⟩ (.int .i64 x)) g f0 x f2 f3:=by
 obtain ⟨A0,c0,hb,hg,hr0⟩:=h
 exact ⟨A0,c0,by simpa using blk_set hb 1 (.int .i64 x),hg,hr0⟩
theorem cellS118_2 {W:World} {g:Nat} {A0:Option Addr} {c0:Nat} {f0:List Int} {f1:Int} {f2:Int} {f3:Int} (h:W.heap[g]? = some (.cells #[.slice A0 f0.length c0,.int .i64 f1,.int .u64 f2,.int .i64 f3] 118 (0,0))):W.cell? ⟨g,2,none⟩=some (.int .u64 f2):=(blk_cell h 2).trans rfl
theorem IsS118.set_2 {w0 W:World} {g:Nat} {f0:List Int} {f1:Int} {f2:Int} {f3:Int} (h:IsS118 w0 W g f0 f1 f2 f3) (x:Int):IsS118 w0 (W.setCell ⟨g,2,none⟩ (.int .u64 x)) g f0 f1 x f3:=by
 obtain ⟨A0,c0,hb,hg,hr0⟩:=h
 exact ⟨A0,c0,by simpa using blk_set hb 2 (.int .u64 x),hg,hr0⟩
theorem cellS118_3 {W:World} {g:Nat} {A0:Option Addr} {c0:Nat} {f0:List Int} {f1:Int} {f2:Int} {f3:Int} (h:W.heap[g]? = some (.cells #[.slice A0 f0.length c0,.int .i64 f1,.int .u64 f2,.int .i64 f3] 118 (0,0))):W.cell? ⟨g,3,none⟩=some (.int .i64 f3):=(blk_cell h 3).trans rfl
theorem IsS118.set_3 {w0 W:World} {g:Nat} {f0:List Int} {f1:Int} {f2:Int} {f3:Int} (h:IsS118 w0 W g f0 f1 f2 f3) (x:Int):IsS118 w0 (W.setCell ⟨g,3,none⟩ (.int .i64 x)) g f0 f1 f2 x:=by
 obtain ⟨A0,c0,hb,hg,hr0⟩:=h
 exact ⟨A0,c0,by simpa using blk_set hb 3 (.int .i64 x),hg,hr0⟩
/-! ### Y14: function 68 -/
mutual
def Y14.l0:Nat→List Int→Int→List Int→Int→Int→Int→Option (List Int × Int × Int × Int)
 | 0,_,_,_,_,_,_=>none
 | k+1,x0,x4,x330000,x330001,x330002,x330003=>if x4<(x0.length:Int) then (Y14.j1 k x0 x4 (decide (x4<64)) x330000 x330001 x330002 x330003) else (Y14.j1 k x0 x4 false x330000 x330001 x330002 x330003)
def Y14.j1:Nat→List Int→Int→Bool→List Int→Int→Int→Int→Option (List Int × Int × Int × Int)
 | 0,_,_,_,_,_,_,_=>none
 | k+1,x0,x4,x15,x330000,x330001,x330002,x330003=>if x15=true then (if 0≤x4 then (if x4<(x0.length:Int) then (Y14.l0 k x0 (wrap64 (x4+1)) x330000 x330001 (IntKind.u64.wrap ((Go.bits .xor .u64 x330002 (IntKind.u64.wrap (rd x0 x4)))*1099511628211)) x330003) else (none)) else (none)) else (if (wrap64 ((x0.length:Int) / 20))>12 then (some (x330000,x330001,x330002,12)) else (some (x330000,x330001,x330002,wrap64 ((x0.length:Int) / 20))))
end
def Y14.f (k:Nat) (l0:List Int):Option (List Int × Int × Int × Int):=Y14.l0 k l0 0 l0 0 88172645463325252 0
theorem Y14.mono_l:∀ k,(∀ y0 y1 y2 y3 y4 y5,LeO (Y14.l0 k y0 y1 y2 y3 y4 y5) (Y14.l0 (k+1) y0 y1 y2 y3 y4 y5))∧(∀ y0 y1 y2 y3 y4 y5 y6,LeO (Y14.j1 k y0 y1 y2 y3 y4 y5 y6) (Y14.j1 (k+1) y0 y1 y2 y3 y4 y5 y6))
 | 0=>by refine ⟨?_,?_⟩ <;> intros <;> exact LeO.none _
 | k+1=>by
  obtain ⟨ih0,ih1⟩:=Y14.mono_l k
  refine ⟨?_,?_⟩
  ·intros
   unfold Y14.l0
   exact mO
  ·intros
   unfold Y14.j1
   exact mO
theorem Y14.mono:∀ a0 k,LeO (Y14.f k a0) (Y14.f (k+1) a0):=by
 intro a0 k
 obtain ⟨ih0,ih1⟩:=Y14.mono_l k
 unfold Y14.f
 exact mO
def Y14.T5:Bool × List (List Nat × List Nat):=(true,[([],[]),([],[]),([1],[1]),([2],[2]),([3],[3]),([],[]),([],[]),([5,6],[5,6]),([7],[7]),([8],[8]),([4,9],[4,9]),([10],[10]),([0,0,1,2,3,4,5,6,7,8,9,10,11],[0]),([12,0,1,2,3,4,5,6,7,8,9,10,11],[12]),([13,11,0,1,2,3,4,5,6,7,8,9,10,11],[11,13])])
def Y14.B5:List Nat:=[0,0,2,6,14,0,0,96,224,480,1022,2046,4095,8191,16383]
theorem Y14.tab5:rtab .any (opsOf Try.f68 5)=Y14.T5:=by kernel_rfl
theorem Y14.bits5:waitsOk Y14.T5.2 Y14.B5=true:=by kernel_rfl
theorem Y14.calls (k:Nat) (A0:Option Addr) (c0:Nat) (l0:List Int) (r1:List Int) (r2:Int) (r3:Int) (r4:Int) (w0 w:World) (hB:Below w0.heap.size w0 w) (hr0:Kd.C (Kd.int .u8) w0 A0 l0.length l0) (hc0:l0.length≤c0) (h:Y14.f k l0=some (r1,r2,r3,r4)) :
  Calls Try.prog 68 #[.slice A0 l0.length c0] w fun e w'=>∃ g_:Nat,e = .returned (.pointer (some ⟨g_,0,none⟩))∧IsS118 w0 w' g_ r1 r2 r3 r4∧Below w0.heap.size w0 w'∧Below w.heap.size w w':=by
 have hu118:=Try.underlying118
 have HRZ0:=aM hr0;have HR0:=aM (Kd.C_below hr0 hB)
 have HC0:=aM hc0
 clear hr0 hc0
 have HW0:=aM hB.size
 have HBZ:=aM hB
 clear hB
 have HB:=aM (Below.refl w.heap.size w)
 have H:(Y14.l0 k l0 0 l0 0 88172645463325252 0)=some (r1,r2,r3,r4):=h
 clear h
 have H':=aM H
 clear H
 go_enter Try.func68,Try.ntmps68
 go_wp2_with (first | ((with_reducible refine gd_ 7 ?_);refine be_ 7 #[.slice A0 l0.length c0,.int .i64 0,.int .u64 88172645463325252,.int .i64 0] 118 ?_;intro gb329 hg w2 hbox hb;have n0_:=aM (below_step (z1_ HB.out) hb);have n1_:=aM (hbox);have n2_:=aM ((z8_ HB.out:w.heap.size≤gb329));have n3_:=aM ((z8_ HB.out:w.heap.size≤gb329));clear HB;have HB:=n0_;have BK329:=n1_;have GW329:=n2_;have GE329:=n3_;clear n0_ n1_ n2_ n3_;clear hb hbox hg))
 go_loopg [4] k (fun kq v4 w'=>∃ (x4_1:Int) (x330002_1:Int),v4 = .int .i64 x4_1∧Aside0 (Y14.l0 kq l0 x4_1 l0 0 x330002_1 0=some (r1,r2,r3,r4))∧Aside0 (kq≤k)∧Aside0 (w'.heap[gb329]? = some (.cells #[(.slice A0 l0.length c0),.int .i64 0,.int .u64 x330002_1,.int .i64 0] 118 (0,0)))∧Aside0 (Below w.heap.size w w'))
 case atStart=>exact ⟨(0),(88172645463325252),(z3_),H',⟨Nat.le_refl _⟩,⟨z2_ BK329.out⟩,⟨z4_ HB.out GE329.out⟩⟩
 case round =>
  clear H'
  try clear p2
  obtain ⟨x4_1,x330002_1,rfl,HA,HK1,BK329,HB⟩:=hrel
  cases gk with
  | zero=>exact absurd HA.out (by simp [Y14.l0])
  | succ k1 =>
   have H:=HA.out
   clear HA
   simp only [Y14.l0] at H
   have HC3:=aM H
   clear H
   go_upto_region 3 with (fail)
   go_cut [15] (fun v15 wc=>∃ (kq:Nat) (x15_2:Bool),v15 = .bool x15_2∧Aside0 (Y14.j1 kq l0 x4_1 x15_2 l0 0 x330002_1 0=some (r1,r2,r3,r4))∧Aside0 (kq≤k1)∧Aside0 (wc.heap[gb329]? = some (.cells #[(.slice A0 l0.length c0),.int .i64 0,.int .u64 x330002_1,.int .i64 0] 118 (0,0)))∧Aside0 (Below w.heap.size w wc))
   case first =>
    have H:=HC3.out
    clear HC3
    by_cases c4:x4_1<(l0.length:Int)
    ·rw [if_pos c4] at H
     have c4b0:decide (x4_1<(l0.length:Int))=true:=dE c4
     clear c4
     (first | rw [c4b0] | (simp only [i64_w,i32_w];rw [c4b0]) | skip)
     have H':=aM H
     clear H
     go_wp2
     go_meet
     case rel=>exact ⟨_,(decide (x4_1<64)),(z3_),H',⟨z16_ HK1.out⟩,⟨z2_ BK329.out⟩,⟨z4_ HB.out GE329.out⟩⟩
    ·rw [if_neg c4] at H
     have c4b0:decide (x4_1<(l0.length:Int))=false:=dF c4
     clear c4
     (first | rw [c4b0] | (simp only [i64_w,i32_w];rw [c4b0]) | skip)
     have H':=aM H
     clear H
     go_wp2
     go_meet
     case rel=>exact ⟨_,(false),(z3_),H',⟨z16_ HK1.out⟩,⟨z2_ BK329.out⟩,⟨z4_ HB.out GE329.out⟩⟩
   case rest =>
    clear HC3
    try clear p2
    try clear c4
    try clear c4b0
    try clear p2
    obtain ⟨kq,x15_2,rfl,HA,HJ2,BK329,HB⟩:=hcut
    cases kq with
    | zero=>exact absurd HA.out (by simp [Y14.j1])
    | succ kj2 =>
     have H:=HA.out
     clear HA
     simp only [Y14.j1] at H
     by_cases c5:x15_2=true
     ·subst c5
      have H1:(if 0≤x4_1 then (if x4_1<(l0.length:Int) then (Y14.l0 kj2 l0 (wrap64 (x4_1+1)) l0 0 (IntKind.u64.wrap ((Go.bits .xor .u64 x330002_1 (IntKind.u64.wrap (rd l0 x4_1)))*1099511628211)) 0) else (none)) else (none))=some (r1,r2,r3,r4):=by rw [if_pos rfl] at H;exact H
      clear H
      have H:=H1
      clear H1
      by_cases c6:0≤x4_1
      ·rw [if_pos c6] at H
       have c6b0:decide (0≤x4_1)=true:=dE c6
       clear c6
       by_cases c7:x4_1<(l0.length:Int)
       ·rw [if_pos c7] at H
        have c7b0:decide (x4_1<(l0.length:Int))=true:=dE c7
        clear c7
        have H':=aM H
        clear H
        try go_wp2
        have n0_:=aM (blk_drew BK329.out)
        have n1_:=aM (below_drew1 HB.out)
        clear BK329
        clear HB
        have BK329:=n0_
        have HB:=n1_
        clear n0_ n1_
        have p330:0≤(x4_1:Int):=dT (z7_)
        have q330:x4_1<(l0.length:Int):=dT (z7_)
        obtain ⟨ad330,e330,hx330_0⟩:=Kd.at_int HR0.out x4_1 p330 q330
        have hw330_0:=hx330_0
        cases e330
        replace hx330_0:=pw_cell_below HB.out hx330_0
        replace p330:=eq_true p330
        replace q330:=eq_true q330
        refine start_ (n:=15) (S:=fun w'=>w'.cell? ⟨gb329,0,none⟩=some (.slice (some ad330) l0.length c0)∧w'.cell? ⟨gb329,1,none⟩=some (.int .i64 0)∧w'.cell? ⟨gb329,2,none⟩=some (.int .u64 x330002_1)∧w'.cell? ⟨gb329,3,none⟩=some (.int .i64 0)∧w'.cell? (ad330.add (x4_1).toNat)=some (.int .u8 (rd l0 x4_1))) (ds:=[14]) #[O,O,O,O,O,O,O,O,O,O,O,O,O,O,O] (by kernel_rfl) rfl rfl (cj4_ BK329.out ((HB.out.cell (World.block_lt_of_cell? w _ hw330_0)).trans hw330_0)) (fun hHeld=>?_);refine with_tabW Y14.tab5 Y14.bits5 (fun HT_ HW_=>?_)
        generalize wc.drew=w8 at BK329 HB hx330_0 hHeld ⊢
        refine pu_ 0 18 #[I,O,O,O,O,O,O,O,O,O,O,O,O,O,O] HT_.out ?_
        refine pu_ 1 19 #[I,I,O,O,O,O,O,O,O,O,O,O,O,O,O] HT_.out ?_
        refine pu_ 2 20 #[I,I,I,O,O,O,O,O,O,O,O,O,O,O,O] HT_.out ?_
        refine pu_ 3 21 #[I,I,I,I,O,O,O,O,O,O,O,O,O,O,O] HT_.out ?_
        refine pu_ 5 23 #[I,I,I,I,O,I,O,O,O,O,O,O,O,O,O] HT_.out ?_
        refine pu_ 6 24 #[I,I,I,I,O,I,I,O,O,O,O,O,O,O,O] HT_.out ?_
        refine pu_ 7 25 #[I,I,I,I,O,I,I,I,O,O,O,O,O,O,O] HT_.out ?_
        refine tk5_ 4 22 #[I,I,I,I,I,I,I,I,O,O,O,O,O,O,O] HT_.out HW_.out hHeld ?_
        refine tk5_ 8 26 #[I,I,I,I,I,I,I,I,I,O,O,O,O,O,O] HT_.out HW_.out hHeld ?_
        refine pu_ 9 27 #[I,I,I,I,I,I,I,I,I,I,O,O,O,O,O] HT_.out ?_
        refine pu_ 10 28 #[I,I,I,I,I,I,I,I,I,I,I,O,O,O,O] HT_.out ?_
        refine pu_ 11 29 #[I,I,I,I,I,I,I,I,I,I,I,I,O,O,O] HT_.out ?_
        refine pu_ 12 30 #[I,I,I,I,I,I,I,I,I,I,I,I,I,O,O] HT_.out ?_
        refine pu_ 13 31 #[I,I,I,I,I,I,I,I,I,I,I,I,I,I,O] HT_.out ?_
        refine last_ (i:=14) (N:=none) #[I,I,I,I,I,I,I,I,I,I,I,I,I,I,I] rfl rfl (one_of HT_.out (by kernel_rfl)) (by decide) (fun K hK=>?_)
        have hs9:w8.cell? ⟨gb329,2,none⟩=some (.int .u64 x330002_1):=(blk_cell BK329.out 2).trans rfl
        have hfs9:=blk_frozen BK329.out 2
        refine skip_ (w1:=?_) (by rfl) rfl ?_ ?_
        rotate_left
        ·go_simp
         rfl
        refine hK.out _ _ ?_
        clear hK K
        refine done_ (done_of HT_.out (by kernel_rfl)) ?_
        try go_wp2
        go_roundg kj2
        case measure=>have:=HK1.out;have:=HJ2.out;omega
        case rel=>exact ⟨(wrap64 (x4_1+1)),(IntKind.u64.wrap ((Go.bits .xor .u64 x330002_1 (IntKind.u64.wrap (rd l0 x4_1)))*1099511628211)),(z3_),H',⟨by have:=HK1.out;have:=HJ2.out;omega⟩,⟨by (with_reducible repeat (first | refine blk_drewN ?_ _ | refine blk_drew ?_ | refine blk_alloc ?_ _));refine blk_put (cs:=#[.slice (some ad330) l0.length c0,.int .i64 0,.int .u64 x330002_1,.int .i64 0]) ?_ 2 _ rfl;(with_reducible repeat (first | refine blk_drewN ?_ _ | refine blk_drew ?_ | refine blk_alloc ?_ _));exact BK329.out⟩,⟨z4_ HB.out GE329.out⟩⟩
       ·rw [if_neg c7] at H
        exact nO H
      ·rw [if_neg c6] at H
       exact nO H
     ·replace c5:=Bool.eq_false_iff.mpr c5
      subst c5
      have H1:(if (wrap64 ((l0.length:Int) / 20))>12 then (some (l0,0,x330002_1,12)) else (some (l0,0,x330002_1,wrap64 ((l0.length:Int) / 20))))=some (r1,r2,r3,r4):=by rw [if_neg (show ¬ (false=true) by decide)] at H;exact H
      clear H
      have H:=H1
      clear H1
      by_cases c10:(wrap64 ((l0.length:Int) / 20))>12
      ·rw [if_pos c10] at H
       have c10b0:decide (12<(wrap64 ((l0.length:Int) / 20)))=true:=dE c10
       clear c10
       simp only [Option.some.injEq,Prod.mk.injEq] at H
       obtain ⟨rfl,rfl,rfl,rfl⟩:=H
       have ⟨hcz11_0,hcz11_1,hcz11_2,hcz11_3,hfz11_0,hfz11_1,hfz11_2,hfz11_3⟩:=cz4_ BK329.out
       go_wp2
       go_ret
       exact ⟨_,rfl,(show IsS118 w0 _ gb329 l0 0 x330002_1 12 from ⟨_,_,by (with_reducible repeat (first | refine blk_drewN ?_ _ | refine blk_drew ?_ | refine blk_alloc ?_ _));refine blk_put (cs:=#[.slice A0 l0.length c0,.int .i64 0,.int .u64 x330002_1,.int .i64 (wrap64 ((l0.length:Int) / 20))]) ?_ 3 _ rfl;(with_reducible repeat (first | refine blk_drewN ?_ _ | refine blk_drew ?_ | refine blk_alloc ?_ _));refine blk_put (cs:=#[.slice A0 l0.length c0,.int .i64 0,.int .u64 x330002_1,.int .i64 0]) ?_ 3 _ rfl;(with_reducible repeat (first | refine blk_drewN ?_ _ | refine blk_drew ?_ | refine blk_alloc ?_ _));exact BK329.out,Nat.le_trans HW0.out GE329.out,HRZ0.out⟩),below_step HBZ.out (z4_ HB.out GE329.out),z4_ HB.out GE329.out⟩
      ·rw [if_neg c10] at H
       have c10b0:decide (12<(wrap64 ((l0.length:Int) / 20)))=false:=dF c10
       clear c10
       simp only [Option.some.injEq,Prod.mk.injEq] at H
       obtain ⟨rfl,rfl,rfl,rfl⟩:=H
       have ⟨hcz12_0,hcz12_1,hcz12_2,hcz12_3,hfz12_0,hfz12_1,hfz12_2,hfz12_3⟩:=cz4_ BK329.out
       go_wp2
       go_ret
       exact ⟨_,rfl,(show IsS118 w0 _ gb329 l0 0 x330002_1 (wrap64 ((l0.length:Int) / 20)) from ⟨_,_,by (with_reducible repeat (first | refine blk_drewN ?_ _ | refine blk_drew ?_ | refine blk_alloc ?_ _));refine blk_put (cs:=#[.slice A0 l0.length c0,.int .i64 0,.int .u64 x330002_1,.int .i64 0]) ?_ 3 _ rfl;(with_reducible repeat (first | refine blk_drewN ?_ _ | refine blk_drew ?_ | refine blk_alloc ?_ _));exact BK329.out,Nat.le_trans HW0.out GE329.out,HRZ0.out⟩),below_step HBZ.out (z4_ HB.out GE329.out),z4_ HB.out GE329.out⟩


/-! ### Y2: function 74 -/
def Y2.f (s0_0:List Int) (s0_1:Int) (s0_2:Int) (s0_3:Int) (a1:Int):Option (Int × Int × Int × Int):=if a1≤1 then (some (0,s0_1,s0_2,s0_3)) else (if s0_1<(s0_0.length:Int) then (if 0≤s0_1 then (if (IntKind.u64.wrap (a1))=0 then (none) else (some (wrap64 (Int.tmod (IntKind.u64.wrap ((IntKind.u64.wrap (rd s0_0 s0_1))+((Go.bits .xor .u64 (Go.bits .xor .u64 (Go.bits .xor .u64 s0_2 (IntKind.u64.wrap (s0_2*8192))) ((Go.bits .xor .u64 s0_2 (IntKind.u64.wrap (s0_2*8192))) / 128)) (IntKind.u64.wrap ((Go.bits .xor .u64 (Go.bits .xor .u64 s0_2 (IntKind.u64.wrap (s0_2*8192))) ((Go.bits .xor .u64 s0_2 (IntKind.u64.wrap (s0_2*8192))) / 128))*131072))) / 1048576))) (IntKind.u64.wrap (a1))),wrap64 (s0_1+1),Go.bits .xor .u64 (Go.bits .xor .u64 (Go.bits .xor .u64 s0_2 (IntKind.u64.wrap (s0_2*8192))) ((Go.bits .xor .u64 s0_2 (IntKind.u64.wrap (s0_2*8192))) / 128)) (IntKind.u64.wrap ((Go.bits .xor .u64 (Go.bits .xor .u64 s0_2 (IntKind.u64.wrap (s0_2*8192))) ((Go.bits .xor .u64 s0_2 (IntKind.u64.wrap (s0_2*8192))) / 128))*131072)),s0_3))) else (none)) else (if (IntKind.u64.wrap (a1))=0 then (none) else (some (wrap64 (Int.tmod (IntKind.u64.wrap (0+((Go.bits .xor .u64 (Go.bits .xor .u64 (Go.bits .xor .u64 s0_2 (IntKind.u64.wrap (s0_2*8192))) ((Go.bits .xor .u64 s0_2 (IntKind.u64.wrap (s0_2*8192))) / 128)) (IntKind.u64.wrap ((Go.bits .xor .u64 (Go.bits .xor .u64 s0_2 (IntKind.u64.wrap (s0_2*8192))) ((Go.bits .xor .u64 s0_2 (IntKind.u64.wrap (s0_2*8192))) / 128))*131072))) / 1048576))) (IntKind.u64.wrap (a1))),s0_1,Go.bits .xor .u64 (Go.bits .xor .u64 (Go.bits .xor .u64 s0_2 (IntKind.u64.wrap (s0_2*8192))) ((Go.bits .xor .u64 s0_2 (IntKind.u64.wrap (s0_2*8192))) / 128)) (IntKind.u64.wrap ((Go.bits .xor .u64 (Go.bits .xor .u64 s0_2 (IntKind.u64.wrap (s0_2*8192))) ((Go.bits .xor .u64 s0_2 (IntKind.u64.wrap (s0_2*8192))) / 128))*131072)),s0_3))))
def Y2.T4:Bool × List (List Nat × List Nat):=(true,[([],[]),([0],[0]),([1],[1]),([2],[2]),([],[]),([4],[4]),([5],[5]),([6],[6]),([7],[7]),([3,8],[3,8])])
def Y2.B4:List Nat:=[0,1,3,7,0,16,48,112,240,511]
theorem Y2.tab4:rtab .any (opsOf Try.f74 4)=Y2.T4:=by kernel_rfl
theorem Y2.bits4:waitsOk Y2.T4.2 Y2.B4=true:=by kernel_rfl
def Y2.T5:Bool × List (List Nat × List Nat):=(true,[([],[]),([0],[0]),([1],[1]),([2],[2]),([],[]),([4],[4]),([5],[5]),([6],[6]),([3,7],[3,7]),([8],[8]),([9],[9]),([10,0,1,2,3,4,5,6,7,8,9,10],[10])])
def Y2.B5:List Nat:=[0,1,3,7,0,16,48,112,255,511,1023,2047]
theorem Y2.tab5:rtab .any (opsOf Try.f74 5)=Y2.T5:=by kernel_rfl
theorem Y2.bits5:waitsOk Y2.T5.2 Y2.B5=true:=by kernel_rfl
def Y2.T7:Bool × List (List Nat × List Nat):=(true,[([],[]),([],[]),([1],[1]),([2],[2]),([3],[3]),([],[]),([5],[5]),([6],[6]),([7],[7]),([8],[8]),([4,9],[4,9]),([0,0,1,2,3,4,5,6,7,8,9,10],[0]),([11,0,1,2,3,4,5,6,7,8,9,10],[11]),([12,10,0,1,2,3,4,5,6,7,8,9,10],[10,12])])
def Y2.B7:List Nat:=[0,0,2,6,14,0,32,96,224,480,1022,2047,4095,8191]
theorem Y2.tab7:rtab .any (opsOf Try.f74 7)=Y2.T7:=by kernel_rfl
theorem Y2.bits7:waitsOk Y2.T7.2 Y2.B7=true:=by kernel_rfl
def Y2.T8:Bool × List (List Nat × List Nat):=(true,[([],[]),([],[]),([1],[1]),([2],[2]),([3],[3]),([],[]),([5],[5]),([6],[6]),([7],[7]),([8],[8]),([4,9],[4,9]),([0,0,1,2,3,4,5,6,7,8,9,10],[0]),([11,0,1,2,3,4,5,6,7,8,9,10],[11]),([12,10,0,1,2,3,4,5,6,7,8,9,10],[10,12])])
def Y2.B8:List Nat:=[0,0,2,6,14,0,32,96,224,480,1022,2047,4095,8191]
theorem Y2.tab8:rtab .any (opsOf Try.f74 8)=Y2.T8:=by kernel_rfl
theorem Y2.bits8:waitsOk Y2.T8.2 Y2.B8=true:=by kernel_rfl
def Y2.T9:Bool × List (List Nat × List Nat):=(true,[([],[]),([],[]),([1],[1]),([2],[2]),([3],[3]),([],[]),([5],[5]),([6],[6]),([7],[7]),([8],[8]),([4,9],[4,9]),([0,0,1,2,3,4,5,6,7,8,9,10],[0]),([11,0,1,2,3,4,5,6,7,8,9,10],[11]),([12,10,0,1,2,3,4,5,6,7,8,9,10],[10,12])])
def Y2.B9:List Nat:=[0,0,2,6,14,0,32,96,224,480,1022,2047,4095,8191]
theorem Y2.tab9:rtab .any (opsOf Try.f74 9)=Y2.T9:=by kernel_rfl
theorem Y2.bits9:waitsOk Y2.T9.2 Y2.B9=true:=by kernel_rfl
abbrev Y2.q0:Array Bool:=#[O,O,O,O,O,O,O,O,O,O,O,O,O,O]
abbrev Y2.q1:Array Bool:=#[I,O,O,O,O,O,O,O,O,O,O,O,O,O]
abbrev Y2.q2:Array Bool:=#[I,I,O,O,O,O,O,O,O,O,O,O,O,O]
abbrev Y2.q3:Array Bool:=#[I,I,I,O,O,O,O,O,O,O,O,O,O,O]
abbrev Y2.q4:Array Bool:=#[I,I,I,I,O,O,O,O,O,O,O,O,O,O]
abbrev Y2.q5:Array Bool:=#[I,I,I,I,O,I,O,O,O,O,O,O,O,O]
abbrev Y2.q6:Array Bool:=#[I,I,I,I,O,I,I,O,O,O,O,O,O,O]
abbrev Y2.q7:Array Bool:=#[I,I,I,I,O,I,I,I,O,O,O,O,O,O]
abbrev Y2.q8:Array Bool:=#[I,I,I,I,I,I,I,I,O,O,O,O,O,O]
abbrev Y2.q9:Array Bool:=#[I,I,I,I,I,I,I,I,I,O,O,O,O,O]
abbrev Y2.q10:Array Bool:=#[I,I,I,I,I,I,I,I,I,I,O,O,O,O]
abbrev Y2.q11:Array Bool:=#[I,I,I,I,I,I,I,I,I,I,I,O,O,O]
abbrev Y2.q12:Array Bool:=#[I,I,I,I,I,I,I,I,I,I,I,I,O,O]
abbrev Y2.q13:Array Bool:=#[I,I,I,I,I,I,I,I,I,I,I,I,I,O]
abbrev Y2.q14:Array Bool:=#[I,I,I,I,I,I,I,I,I,I,I,I,I,I]
theorem Y2.calls (g:Nat) (s0_0:List Int) (s0_1:Int) (s0_2:Int) (s0_3:Int) (a1:Int) (r1:Int) (r2:Int) (r3:Int) (r4:Int) (w0 w:World) (hI:IsS118 w0 w g s0_0 s0_1 s0_2 s0_3) (hB:Below w0.heap.size w0 w) (h:Y2.f s0_0 s0_1 s0_2 s0_3 a1=some (r1,r2,r3,r4)) :
  Calls Try.prog 74 #[.pointer (some ⟨g,0,none⟩),.int .i64 a1] w fun e w'=>e = .returned (.int .i64 r1)∧IsS118 w0 w' g s0_0 r2 r3 r4∧Below w0.heap.size w0 w'∧KeepBut w w' g none:=by
 have HI0:=aM hI
 have HK:=aM (KeepBut.refl w g none)
 have HL:=aM hB.size
 clear hI
 have HW0:=aM hB.size
 have HB:=aM hB
 clear hB
 have H:(if a1≤1 then (some (0,s0_1,s0_2,s0_3)) else (if s0_1<(s0_0.length:Int) then (if 0≤s0_1 then (if (IntKind.u64.wrap (a1))=0 then (none) else (some (wrap64 (Int.tmod (IntKind.u64.wrap ((IntKind.u64.wrap (rd s0_0 s0_1))+((Go.bits .xor .u64 (Go.bits .xor .u64 (Go.bits .xor .u64 s0_2 (IntKind.u64.wrap (s0_2*8192))) ((Go.bits .xor .u64 s0_2 (IntKind.u64.wrap (s0_2*8192))) / 128)) (IntKind.u64.wrap ((Go.bits .xor .u64 (Go.bits .xor .u64 s0_2 (IntKind.u64.wrap (s0_2*8192))) ((Go.bits .xor .u64 s0_2 (IntKind.u64.wrap (s0_2*8192))) / 128))*131072))) / 1048576))) (IntKind.u64.wrap (a1))),wrap64 (s0_1+1),Go.bits .xor .u64 (Go.bits .xor .u64 (Go.bits .xor .u64 s0_2 (IntKind.u64.wrap (s0_2*8192))) ((Go.bits .xor .u64 s0_2 (IntKind.u64.wrap (s0_2*8192))) / 128)) (IntKind.u64.wrap ((Go.bits .xor .u64 (Go.bits .xor .u64 s0_2 (IntKind.u64.wrap (s0_2*8192))) ((Go.bits .xor .u64 s0_2 (IntKind.u64.wrap (s0_2*8192))) / 128))*131072)),s0_3))) else (none)) else (if (IntKind.u64.wrap (a1))=0 then (none) else (some (wrap64 (Int.tmod (IntKind.u64.wrap (0+((Go.bits .xor .u64 (Go.bits .xor .u64 (Go.bits .xor .u64 s0_2 (IntKind.u64.wrap (s0_2*8192))) ((Go.bits .xor .u64 s0_2 (IntKind.u64.wrap (s0_2*8192))) / 128)) (IntKind.u64.wrap ((Go.bits .xor .u64 (Go.bits .xor .u64 s0_2 (IntKind.u64.wrap (s0_2*8192))) ((Go.bits .xor .u64 s0_2 (IntKind.u64.wrap (s0_2*8192))) / 128))*131072))) / 1048576))) (IntKind.u64.wrap (a1))),s0_1,Go.bits .xor .u64 (Go.bits .xor .u64 (Go.bits .xor .u64 s0_2 (IntKind.u64.wrap (s0_2*8192))) ((Go.bits .xor .u64 s0_2 (IntKind.u64.wrap (s0_2*8192))) / 128)) (IntKind.u64.wrap ((Go.bits .xor .u64 (Go.bits .xor .u64 s0_2 (IntKind.u64.wrap (s0_2*8192))) ((Go.bits .xor .u64 s0_2 (IntKind.u64.wrap (s0_2*8192))) / 128))*131072)),s0_3)))))=some (r1,r2,r3,r4):=h
 clear h
 by_cases c3:a1≤1
 ·rw [if_pos c3] at H
  have c3b0:decide (a1≤1)=true:=dE c3
  clear c3
  simp only [Option.some.injEq,Prod.mk.injEq] at H
  obtain ⟨rfl,rfl,rfl,rfl⟩:=H
  go_enter Try.func74,Try.ntmps74
  go_wp2
  go_ret
  exact ⟨z5_,z12_ HI0.out,z10_ HB.out HI0.out,z6_ HK.out⟩
 ·rw [if_neg c3] at H
  have c3b0:decide (a1≤1)=false:=dF c3
  clear c3
  by_cases c4:s0_1<(s0_0.length:Int)
  ·rw [if_pos c4] at H
   have c4b0:decide (s0_1<(s0_0.length:Int))=true:=dE c4
   clear c4
   by_cases c5:0≤s0_1
   ·rw [if_pos c5] at H
    have c5b0:decide (0≤s0_1)=true:=dE c5
    clear c5
    by_cases c6:(IntKind.u64.wrap (a1))=0
    ·rw [if_pos c6] at H
     exact nO H
    ·rw [if_neg c6] at H
     have c6b0:((IntKind.u64.wrap (a1)) == 0)=false:=beq_eq_false_iff_ne.mpr c6
     have c6b1:((IntKind.u64.wrap (a1)) != 0)=true:=bne_iff_ne.mpr c6
     simp only [Option.some.injEq,Prod.mk.injEq] at H
     obtain ⟨rfl,rfl,rfl,rfl⟩:=H
     go_enter Try.func74,Try.ntmps74
     try go_wp2
     have n0_:=aM (IsS118.drew HI0.out)
     have n1_:=aM (keep_drew HK.out)
     have n2_:=aM (below_drew1 HB.out)
     clear HI0
     clear HK
     clear HB
     have HI0:=n0_
     have HK:=n1_
     have HB:=n2_
     clear n0_ n1_ n2_
     obtain ⟨ASz8_0,cSz8_0,HGz8,hgz8,HSz8_0⟩:=HI0.out
     have HH9:=aM HGz8
     clear HGz8 hgz8
     refine start_ (n:=10) (S:=fun w'=>w'.cell? ⟨g,0,none⟩=some (.slice ASz8_0 s0_0.length cSz8_0)∧w'.cell? ⟨g,1,none⟩=some (.int .i64 s0_1)∧w'.cell? ⟨g,2,none⟩=some (.int .u64 s0_2)∧w'.cell? ⟨g,3,none⟩=some (.int .i64 s0_3)) (ds:=[]) #[O,O,O,O,O,O,O,O,O,O] (by kernel_rfl) rfl rfl (cc4_ HH9.out) (fun hHeld=>?_);refine with_tabW Y2.tab4 Y2.bits4 (fun HT_ HW_=>?_)
     generalize w.drew=w7 at HI0 HK HB HH9 hHeld ⊢
     refine pu_ 0 8 #[I,O,O,O,O,O,O,O,O,O] HT_.out ?_
     refine pu_ 1 9 #[I,I,O,O,O,O,O,O,O,O] HT_.out ?_
     refine pu_ 2 10 #[I,I,I,O,O,O,O,O,O,O] HT_.out ?_
     refine pu_ 4 12 #[I,I,I,O,I,O,O,O,O,O] HT_.out ?_
     refine pu_ 5 13 #[I,I,I,O,I,I,O,O,O,O] HT_.out ?_
     refine pu_ 6 14 #[I,I,I,O,I,I,I,O,O,O] HT_.out ?_
     refine tk4_ 3 11 #[I,I,I,I,I,I,I,O,O,O] HT_.out HW_.out hHeld ?_
     refine tk4_ 7 15 #[I,I,I,I,I,I,I,I,O,O] HT_.out HW_.out hHeld ?_
     refine pu_ 8 16 #[I,I,I,I,I,I,I,I,I,O] HT_.out ?_
     refine pu_ 9 17 #[I,I,I,I,I,I,I,I,I,I] HT_.out ?_
     refine done_ (done_of HT_.out (by kernel_rfl)) ?_
     try go_wp2
     have n0_:=aM (IsS118.drew HI0.out)
     have n1_:=aM (keep_drew HK.out)
     have n2_:=aM (below_drew1 HB.out)
     clear HI0
     clear HK
     clear HB
     have HI0:=n0_
     have HK:=n1_
     have HB:=n2_
     clear n0_ n1_ n2_
     obtain ⟨ASz11_0,cSz11_0,HGz11,hgz11,HSz11_0⟩:=HI0.out
     have HH12:=aM HGz11
     clear HGz11 hgz11
     have p352:0≤(s0_1:Int):=dT (z7_)
     have q352:s0_1<(s0_0.length:Int):=dT (z7_)
     obtain ⟨ad352,e352,hx352_0⟩:=Kd.at_int HSz11_0 s0_1 p352 q352
     have hw352_0:=hx352_0
     cases e352
     replace hx352_0:=pw_cell_below HB.out hx352_0
     replace p352:=eq_true p352
     replace q352:=eq_true q352
     refine start_ (n:=12) (S:=fun w'=>w'.cell? ⟨g,0,none⟩=some (.slice (some ad352) s0_0.length cSz11_0)∧w'.cell? ⟨g,1,none⟩=some (.int .i64 s0_1)∧w'.cell? ⟨g,2,none⟩=some (.int .u64 s0_2)∧w'.cell? ⟨g,3,none⟩=some (.int .i64 s0_3)∧w'.cell? (ad352.add (s0_1).toNat)=some (.int .u8 (rd s0_0 s0_1))) (ds:=[]) #[O,O,O,O,O,O,O,O,O,O,O,O] (by kernel_rfl) rfl rfl (cj4_ HH12.out ((HB.out.cell (World.block_lt_of_cell? w0 _ hw352_0)).trans hw352_0)) (fun hHeld=>?_);refine with_tabW Y2.tab5 Y2.bits5 (fun HT_ HW_=>?_)
     generalize w7.drew=w10 at HI0 HK HB HH12 hx352_0 hHeld ⊢
     refine pu_ 0 18 #[I,O,O,O,O,O,O,O,O,O,O,O] HT_.out ?_
     refine pu_ 1 19 #[I,I,O,O,O,O,O,O,O,O,O,O] HT_.out ?_
     refine pu_ 2 20 #[I,I,I,O,O,O,O,O,O,O,O,O] HT_.out ?_
     refine pu_ 4 22 #[I,I,I,O,I,O,O,O,O,O,O,O] HT_.out ?_
     refine pu_ 5 23 #[I,I,I,O,I,I,O,O,O,O,O,O] HT_.out ?_
     refine pu_ 6 24 #[I,I,I,O,I,I,I,O,O,O,O,O] HT_.out ?_
     refine tk5_ 3 21 #[I,I,I,I,I,I,I,O,O,O,O,O] HT_.out HW_.out hHeld ?_
     refine tk5_ 7 25 #[I,I,I,I,I,I,I,I,O,O,O,O] HT_.out HW_.out hHeld ?_
     refine pu_ 8 26 #[I,I,I,I,I,I,I,I,I,O,O,O] HT_.out ?_
     refine tk5_ 9 27 #[I,I,I,I,I,I,I,I,I,I,O,O] HT_.out HW_.out hHeld ?_
     refine pu_ 10 28 #[I,I,I,I,I,I,I,I,I,I,I,O] HT_.out ?_
     refine pu_ 11 5 #[I,I,I,I,I,I,I,I,I,I,I,I] HT_.out ?_
     refine done_ (done_of HT_.out (by kernel_rfl)) ?_
     obtain ⟨ASz13_0,cSz13_0,HGz13,hgz13,HSz13_0⟩:=HI0.out
     have hcz13_0:=cellS118_0 HGz13
     have hcz13_1:=cellS118_1 HGz13
     have hcz13_2:=cellS118_2 HGz13
     have hcz13_3:=cellS118_3 HGz13
     have hfz13_1:=blk_frozen HGz13 1
     have hfz13_2:=blk_frozen HGz13 2
     have hfz13_3:=blk_frozen HGz13 3
     clear HGz13 hgz13
     try go_wp2
     have n0_:Aside0 (IsS118 w0 (w10.setCell ⟨g,1,none⟩ (.int .i64 (wrap64 (s0_1+1)))) g s0_0 (wrap64 (s0_1+1)) s0_2 s0_3):=⟨z12_ HI0.out⟩
     have n1_:Aside0 (KeepBut w (w10.setCell ⟨g,1,none⟩ (.int .i64 (wrap64 (s0_1+1)))) g none):=⟨z6_ HK.out⟩
     have n2_:Aside0 (Below w0.heap.size w0 (w10.setCell ⟨g,1,none⟩ (.int .i64 (wrap64 (s0_1+1))))):=⟨z10_ HB.out HI0.out⟩
     (try clear HI0)
     (try clear HK)
     (try clear HB)
     generalize (w10.setCell ⟨g,1,none⟩ (.int .i64 (wrap64 (s0_1+1))))=w14 at n0_ n1_ n2_ ⊢
     have HI0:=n0_
     have HK:=n1_
     have HB:=n2_
     clear n0_ n1_ n2_
     have n0_:=aM (IsS118.drew HI0.out)
     have n1_:=aM (keep_drew HK.out)
     have n2_:=aM (below_drew1 HB.out)
     clear HI0
     clear HK
     clear HB
     have HI0:=n0_
     have HK:=n1_
     have HB:=n2_
     clear n0_ n1_ n2_
     obtain ⟨ASz16_0,cSz16_0,HGz16,hgz16,HSz16_0⟩:=HI0.out
     have HH17:=aM HGz16
     clear HGz16 hgz16
     refine start_ (n:=14) (S:=fun w'=>w'.cell? ⟨g,0,none⟩=some (.slice ASz16_0 s0_0.length cSz16_0)∧w'.cell? ⟨g,1,none⟩=some (.int .i64 (wrap64 (s0_1+1)))∧w'.cell? ⟨g,2,none⟩=some (.int .u64 s0_2)∧w'.cell? ⟨g,3,none⟩=some (.int .i64 s0_3)) (ds:=[13]) Y2.q0 (by kernel_rfl) rfl rfl (cc4_ HH17.out) (fun hHeld=>?_);refine with_tabW Y2.tab7 Y2.bits7 (fun HT_ HW_=>?_)
     generalize w14.drew=w15 at HI0 HK HB HH17 hHeld ⊢
     refine pu_ 0 37 Y2.q1 HT_.out ?_
     refine pu_ 1 38 Y2.q2 HT_.out ?_
     refine pu_ 2 39 Y2.q3 HT_.out ?_
     refine pu_ 3 40 Y2.q4 HT_.out ?_
     refine pu_ 5 42 Y2.q5 HT_.out ?_
     refine pu_ 6 43 Y2.q6 HT_.out ?_
     refine pu_ 7 44 Y2.q7 HT_.out ?_
     refine tk4_ 4 41 Y2.q8 HT_.out HW_.out hHeld ?_
     refine tk4_ 8 45 Y2.q9 HT_.out HW_.out hHeld ?_
     refine pu_ 9 46 Y2.q10 HT_.out ?_
     refine pu_ 10 47 Y2.q11 HT_.out ?_
     refine pu_ 11 48 Y2.q12 HT_.out ?_
     refine pu_ 12 49 Y2.q13 HT_.out ?_
     refine last_ (i:=13) (N:=none) Y2.q14 rfl rfl (one_of HT_.out (by kernel_rfl)) (by decide) (fun K hK=>?_)
     have hcQ13_0:=(blk_cell HH17.out 0).trans (show _=some (.slice ASz16_0 s0_0.length cSz16_0:Value) by rfl)
     have hfQ13_0:=blk_frozen HH17.out 0
     have hcQ13_1:=(blk_cell HH17.out 1).trans (show _=some (.int .i64 (wrap64 (s0_1+1)):Value) by rfl)
     have hfQ13_1:=blk_frozen HH17.out 1
     have hcQ13_2:=(blk_cell HH17.out 2).trans (show _=some (.int .u64 s0_2:Value) by rfl)
     have hfQ13_2:=blk_frozen HH17.out 2
     have hcQ13_3:=(blk_cell HH17.out 3).trans (show _=some (.int .i64 s0_3:Value) by rfl)
     have hfQ13_3:=blk_frozen HH17.out 3
     refine skip_ (w1:=?_) (by rfl) rfl ?_ ?_
     rotate_left
     ·go_simp
      rfl
     refine hK.out _ _ ?_
     clear hK K
     refine done_ (done_of HT_.out (by kernel_rfl)) ?_
     try go_wp2
     have n0_:Aside0 (IsS118 w0 (w15.setCell ⟨g,2,none⟩ (.int .u64 (Go.bits .xor .u64 s0_2 (IntKind.u64.wrap (s0_2*8192))))) g s0_0 (wrap64 (s0_1+1)) (Go.bits .xor .u64 s0_2 (IntKind.u64.wrap (s0_2*8192))) s0_3):=⟨z12_ HI0.out⟩
     have n1_:Aside0 (KeepBut w (w15.setCell ⟨g,2,none⟩ (.int .u64 (Go.bits .xor .u64 s0_2 (IntKind.u64.wrap (s0_2*8192))))) g none):=⟨z6_ HK.out⟩
     have n2_:Aside0 (Below w0.heap.size w0 (w15.setCell ⟨g,2,none⟩ (.int .u64 (Go.bits .xor .u64 s0_2 (IntKind.u64.wrap (s0_2*8192)))))):=⟨z10_ HB.out HI0.out⟩
     (try clear HI0)
     (try clear HK)
     (try clear HB)
     generalize (w15.setCell ⟨g,2,none⟩ (.int .u64 (Go.bits .xor .u64 s0_2 (IntKind.u64.wrap (s0_2*8192)))))=w18 at n0_ n1_ n2_ ⊢
     have HI0:=n0_
     have HK:=n1_
     have HB:=n2_
     clear n0_ n1_ n2_
     have n0_:=aM (IsS118.drew HI0.out)
     have n1_:=aM (keep_drew HK.out)
     have n2_:=aM (below_drew1 HB.out)
     clear HI0
     clear HK
     clear HB
     have HI0:=n0_
     have HK:=n1_
     have HB:=n2_
     clear n0_ n1_ n2_
     obtain ⟨ASz20_0,cSz20_0,HGz20,hgz20,HSz20_0⟩:=HI0.out
     have HH21:=aM HGz20
     clear HGz20 hgz20
     refine start_ (n:=14) (S:=fun w'=>w'.cell? ⟨g,0,none⟩=some (.slice ASz20_0 s0_0.length cSz20_0)∧w'.cell? ⟨g,1,none⟩=some (.int .i64 (wrap64 (s0_1+1)))∧w'.cell? ⟨g,2,none⟩=some (.int .u64 (Go.bits .xor .u64 s0_2 (IntKind.u64.wrap (s0_2*8192))))∧w'.cell? ⟨g,3,none⟩=some (.int .i64 s0_3)) (ds:=[13]) Y2.q0 (by kernel_rfl) rfl rfl (cc4_ HH21.out) (fun hHeld=>?_);refine with_tabW Y2.tab8 Y2.bits8 (fun HT_ HW_=>?_)
     generalize w18.drew=w19 at HI0 HK HB HH21 hHeld ⊢
     refine pu_ 0 50 Y2.q1 HT_.out ?_
     refine pu_ 1 51 Y2.q2 HT_.out ?_
     refine pu_ 2 52 Y2.q3 HT_.out ?_
     refine pu_ 3 53 Y2.q4 HT_.out ?_
     refine pu_ 5 55 Y2.q5 HT_.out ?_
     refine pu_ 6 56 Y2.q6 HT_.out ?_
     refine pu_ 7 57 Y2.q7 HT_.out ?_
     refine tk4_ 4 54 Y2.q8 HT_.out HW_.out hHeld ?_
     refine tk4_ 8 58 Y2.q9 HT_.out HW_.out hHeld ?_
     refine pu_ 9 59 Y2.q10 HT_.out ?_
     refine pu_ 10 60 Y2.q11 HT_.out ?_
     refine pu_ 11 61 Y2.q12 HT_.out ?_
     refine pu_ 12 62 Y2.q13 HT_.out ?_
     refine last_ (i:=13) (N:=none) Y2.q14 rfl rfl (one_of HT_.out (by kernel_rfl)) (by decide) (fun K hK=>?_)
     have hcQ13_0:=(blk_cell HH21.out 0).trans (show _=some (.slice ASz20_0 s0_0.length cSz20_0:Value) by rfl)
     have hfQ13_0:=blk_frozen HH21.out 0
     have hcQ13_1:=(blk_cell HH21.out 1).trans (show _=some (.int .i64 (wrap64 (s0_1+1)):Value) by rfl)
     have hfQ13_1:=blk_frozen HH21.out 1
     have hcQ13_2:=(blk_cell HH21.out 2).trans (show _=some (.int .u64 (Go.bits .xor .u64 s0_2 (IntKind.u64.wrap (s0_2*8192))):Value) by rfl)
     have hfQ13_2:=blk_frozen HH21.out 2
     have hcQ13_3:=(blk_cell HH21.out 3).trans (show _=some (.int .i64 s0_3:Value) by rfl)
     have hfQ13_3:=blk_frozen HH21.out 3
     refine skip_ (w1:=?_) (by rfl) rfl ?_ ?_
     rotate_left
     ·go_simp
      rfl
     refine hK.out _ _ ?_
     clear hK K
     refine done_ (done_of HT_.out (by kernel_rfl)) ?_
     try go_wp2
     have n0_:Aside0 (IsS118 w0 (w19.setCell ⟨g,2,none⟩ (.int .u64 (Go.bits .xor .u64 (Go.bits .xor .u64 s0_2 (IntKind.u64.wrap (s0_2*8192))) ((Go.bits .xor .u64 s0_2 (IntKind.u64.wrap (s0_2*8192))) / 128)))) g s0_0 (wrap64 (s0_1+1)) (Go.bits .xor .u64 (Go.bits .xor .u64 s0_2 (IntKind.u64.wrap (s0_2*8192))) ((Go.bits .xor .u64 s0_2 (IntKind.u64.wrap (s0_2*8192))) / 128)) s0_3):=⟨z12_ HI0.out⟩
     have n1_:Aside0 (KeepBut w (w19.setCell ⟨g,2,none⟩ (.int .u64 (Go.bits .xor .u64 (Go.bits .xor .u64 s0_2 (IntKind.u64.wrap (s0_2*8192))) ((Go.bits .xor .u64 s0_2 (IntKind.u64.wrap (s0_2*8192))) / 128)))) g none):=⟨z6_ HK.out⟩
     have n2_:Aside0 (Below w0.heap.size w0 (w19.setCell ⟨g,2,none⟩ (.int .u64 (Go.bits .xor .u64 (Go.bits .xor .u64 s0_2 (IntKind.u64.wrap (s0_2*8192))) ((Go.bits .xor .u64 s0_2 (IntKind.u64.wrap (s0_2*8192))) / 128))))):=⟨z10_ HB.out HI0.out⟩
     (try clear HI0)
     (try clear HK)
     (try clear HB)
     generalize (w19.setCell ⟨g,2,none⟩ (.int .u64 (Go.bits .xor .u64 (Go.bits .xor .u64 s0_2 (IntKind.u64.wrap (s0_2*8192))) ((Go.bits .xor .u64 s0_2 (IntKind.u64.wrap (s0_2*8192))) / 128))))=w22 at n0_ n1_ n2_ ⊢
     have HI0:=n0_
     have HK:=n1_
     have HB:=n2_
     clear n0_ n1_ n2_
     have n0_:=aM (IsS118.drew HI0.out)
     have n1_:=aM (keep_drew HK.out)
     have n2_:=aM (below_drew1 HB.out)
     clear HI0
     clear HK
     clear HB
     have HI0:=n0_
     have HK:=n1_
     have HB:=n2_
     clear n0_ n1_ n2_
     obtain ⟨ASz24_0,cSz24_0,HGz24,hgz24,HSz24_0⟩:=HI0.out
     have HH25:=aM HGz24
     clear HGz24 hgz24
     refine start_ (n:=14) (S:=fun w'=>w'.cell? ⟨g,0,none⟩=some (.slice ASz24_0 s0_0.length cSz24_0)∧w'.cell? ⟨g,1,none⟩=some (.int .i64 (wrap64 (s0_1+1)))∧w'.cell? ⟨g,2,none⟩=some (.int .u64 (Go.bits .xor .u64 (Go.bits .xor .u64 s0_2 (IntKind.u64.wrap (s0_2*8192))) ((Go.bits .xor .u64 s0_2 (IntKind.u64.wrap (s0_2*8192))) / 128)))∧w'.cell? ⟨g,3,none⟩=some (.int .i64 s0_3)) (ds:=[13]) Y2.q0 (by kernel_rfl) rfl rfl (cc4_ HH25.out) (fun hHeld=>?_);refine with_tabW Y2.tab9 Y2.bits9 (fun HT_ HW_=>?_)
     generalize w22.drew=w23 at HI0 HK HB HH25 hHeld ⊢
     refine pu_ 0 63 Y2.q1 HT_.out ?_
     refine pu_ 1 64 Y2.q2 HT_.out ?_
     refine pu_ 2 65 Y2.q3 HT_.out ?_
     refine pu_ 3 66 Y2.q4 HT_.out ?_
     refine pu_ 5 68 Y2.q5 HT_.out ?_
     refine pu_ 6 69 Y2.q6 HT_.out ?_
     refine pu_ 7 70 Y2.q7 HT_.out ?_
     refine tk4_ 4 67 Y2.q8 HT_.out HW_.out hHeld ?_
     refine tk4_ 8 71 Y2.q9 HT_.out HW_.out hHeld ?_
     refine pu_ 9 72 Y2.q10 HT_.out ?_
     refine pu_ 10 73 Y2.q11 HT_.out ?_
     refine pu_ 11 74 Y2.q12 HT_.out ?_
     refine pu_ 12 75 Y2.q13 HT_.out ?_
     refine last_ (i:=13) (N:=none) Y2.q14 rfl rfl (one_of HT_.out (by kernel_rfl)) (by decide) (fun K hK=>?_)
     have hcQ13_0:=(blk_cell HH25.out 0).trans (show _=some (.slice ASz24_0 s0_0.length cSz24_0:Value) by rfl)
     have hfQ13_0:=blk_frozen HH25.out 0
     have hcQ13_1:=(blk_cell HH25.out 1).trans (show _=some (.int .i64 (wrap64 (s0_1+1)):Value) by rfl)
     have hfQ13_1:=blk_frozen HH25.out 1
     have hcQ13_2:=(blk_cell HH25.out 2).trans (show _=some (.int .u64 (Go.bits .xor .u64 (Go.bits .xor .u64 s0_2 (IntKind.u64.wrap (s0_2*8192))) ((Go.bits .xor .u64 s0_2 (IntKind.u64.wrap (s0_2*8192))) / 128)):Value) by rfl)
     have hfQ13_2:=blk_frozen HH25.out 2
     have hcQ13_3:=(blk_cell HH25.out 3).trans (show _=some (.int .i64 s0_3:Value) by rfl)
     have hfQ13_3:=blk_frozen HH25.out 3
     refine skip_ (w1:=?_) (by rfl) rfl ?_ ?_
     rotate_left
     ·go_simp
      rfl
     refine hK.out _ _ ?_
     clear hK K
     refine done_ (done_of HT_.out (by kernel_rfl)) ?_
     obtain ⟨ASz26_0,cSz26_0,HGz26,hgz26,HSz26_0⟩:=HI0.out
     have hcz26_0:=cellS118_0 HGz26
     have hcz26_1:=cellS118_1 HGz26
     have hcz26_2:=cellS118_2 HGz26
     have hcz26_3:=cellS118_3 HGz26
     have hfz26_1:=blk_frozen HGz26 1
     have hfz26_2:=blk_frozen HGz26 2
     have hfz26_3:=blk_frozen HGz26 3
     clear HGz26 hgz26
     try go_wp2
     go_ret
     exact ⟨z5_,z12_ HI0.out,z10_ HB.out HI0.out,z6_ HK.out⟩
   ·rw [if_neg c5] at H
    exact nO H
  ·rw [if_neg c4] at H
   have c4b0:decide (s0_1<(s0_0.length:Int))=false:=dF c4
   clear c4
   by_cases c27:(IntKind.u64.wrap (a1))=0
   ·rw [if_pos c27] at H
    exact nO H
   ·rw [if_neg c27] at H
    have c27b0:((IntKind.u64.wrap (a1)) == 0)=false:=beq_eq_false_iff_ne.mpr c27
    have c27b1:((IntKind.u64.wrap (a1)) != 0)=true:=bne_iff_ne.mpr c27
    simp only [Option.some.injEq,Prod.mk.injEq] at H
    obtain ⟨rfl,rfl,rfl,rfl⟩:=H
    go_enter Try.func74,Try.ntmps74
    try go_wp2
    have n0_:=aM (IsS118.drew HI0.out)
    have n1_:=aM (keep_drew HK.out)
    have n2_:=aM (below_drew1 HB.out)
    clear HI0
    clear HK
    clear HB
    have HI0:=n0_
    have HK:=n1_
    have HB:=n2_
    clear n0_ n1_ n2_
    obtain ⟨ASz29_0,cSz29_0,HGz29,hgz29,HSz29_0⟩:=HI0.out
    have HH30:=aM HGz29
    clear HGz29 hgz29
    refine start_ (n:=10) (S:=fun w'=>w'.cell? ⟨g,0,none⟩=some (.slice ASz29_0 s0_0.length cSz29_0)∧w'.cell? ⟨g,1,none⟩=some (.int .i64 s0_1)∧w'.cell? ⟨g,2,none⟩=some (.int .u64 s0_2)∧w'.cell? ⟨g,3,none⟩=some (.int .i64 s0_3)) (ds:=[]) #[O,O,O,O,O,O,O,O,O,O] (by kernel_rfl) rfl rfl (cc4_ HH30.out) (fun hHeld=>?_);refine with_tabW Y2.tab4 Y2.bits4 (fun HT_ HW_=>?_)
    generalize w.drew=w28 at HI0 HK HB HH30 hHeld ⊢
    refine pu_ 0 8 #[I,O,O,O,O,O,O,O,O,O] HT_.out ?_
    refine pu_ 1 9 #[I,I,O,O,O,O,O,O,O,O] HT_.out ?_
    refine pu_ 2 10 #[I,I,I,O,O,O,O,O,O,O] HT_.out ?_
    refine pu_ 4 12 #[I,I,I,O,I,O,O,O,O,O] HT_.out ?_
    refine pu_ 5 13 #[I,I,I,O,I,I,O,O,O,O] HT_.out ?_
    refine pu_ 6 14 #[I,I,I,O,I,I,I,O,O,O] HT_.out ?_
    refine tk4_ 3 11 #[I,I,I,I,I,I,I,O,O,O] HT_.out HW_.out hHeld ?_
    refine tk4_ 7 15 #[I,I,I,I,I,I,I,I,O,O] HT_.out HW_.out hHeld ?_
    refine pu_ 8 16 #[I,I,I,I,I,I,I,I,I,O] HT_.out ?_
    refine pu_ 9 17 #[I,I,I,I,I,I,I,I,I,I] HT_.out ?_
    refine done_ (done_of HT_.out (by kernel_rfl)) ?_
    try go_wp2
    have n0_:=aM (IsS118.drew HI0.out)
    have n1_:=aM (keep_drew HK.out)
    have n2_:=aM (below_drew1 HB.out)
    clear HI0
    clear HK
    clear HB
    have HI0:=n0_
    have HK:=n1_
    have HB:=n2_
    clear n0_ n1_ n2_
    obtain ⟨ASz32_0,cSz32_0,HGz32,hgz32,HSz32_0⟩:=HI0.out
    have HH33:=aM HGz32
    clear HGz32 hgz32
    refine start_ (n:=14) (S:=fun w'=>w'.cell? ⟨g,0,none⟩=some (.slice ASz32_0 s0_0.length cSz32_0)∧w'.cell? ⟨g,1,none⟩=some (.int .i64 s0_1)∧w'.cell? ⟨g,2,none⟩=some (.int .u64 s0_2)∧w'.cell? ⟨g,3,none⟩=some (.int .i64 s0_3)) (ds:=[13]) Y2.q0 (by kernel_rfl) rfl rfl (cc4_ HH33.out) (fun hHeld=>?_);refine with_tabW Y2.tab7 Y2.bits7 (fun HT_ HW_=>?_)
    generalize w28.drew=w31 at HI0 HK HB HH33 hHeld ⊢
    refine pu_ 0 37 Y2.q1 HT_.out ?_
    refine pu_ 1 38 Y2.q2 HT_.out ?_
    refine pu_ 2 39 Y2.q3 HT_.out ?_
    refine pu_ 3 40 Y2.q4 HT_.out ?_
    refine pu_ 5 42 Y2.q5 HT_.out ?_
    refine pu_ 6 43 Y2.q6 HT_.out ?_
    refine pu_ 7 44 Y2.q7 HT_.out ?_
    refine tk4_ 4 41 Y2.q8 HT_.out HW_.out hHeld ?_
    refine tk4_ 8 45 Y2.q9 HT_.out HW_.out hHeld ?_
    refine pu_ 9 46 Y2.q10 HT_.out ?_
    refine pu_ 10 47 Y2.q11 HT_.out ?_
    refine pu_ 11 48 Y2.q12 HT_.out ?_
    refine pu_ 12 49 Y2.q13 HT_.out ?_
    refine last_ (i:=13) (N:=none) Y2.q14 rfl rfl (one_of HT_.out (by kernel_rfl)) (by decide) (fun K hK=>?_)
    have hcQ13_0:=(blk_cell HH33.out 0).trans (show _=some (.slice ASz32_0 s0_0.length cSz32_0:Value) by rfl)
    have hfQ13_0:=blk_frozen HH33.out 0
    have hcQ13_1:=(blk_cell HH33.out 1).trans (show _=some (.int .i64 s0_1:Value) by rfl)
    have hfQ13_1:=blk_frozen HH33.out 1
    have hcQ13_2:=(blk_cell HH33.out 2).trans (show _=some (.int .u64 s0_2:Value) by rfl)
    have hfQ13_2:=blk_frozen HH33.out 2
    have hcQ13_3:=(blk_cell HH33.out 3).trans (show _=some (.int .i64 s0_3:Value) by rfl)
    have hfQ13_3:=blk_frozen HH33.out 3
    refine skip_ (w1:=?_) (by rfl) rfl ?_ ?_
    rotate_left
    ·go_simp
     rfl
    refine hK.out _ _ ?_
    clear hK K
    refine done_ (done_of HT_.out (by kernel_rfl)) ?_
    try go_wp2
    have n0_:Aside0 (IsS118 w0 (w31.setCell ⟨g,2,none⟩ (.int .u64 (Go.bits .xor .u64 s0_2 (IntKind.u64.wrap (s0_2*8192))))) g s0_0 s0_1 (Go.bits .xor .u64 s0_2 (IntKind.u64.wrap (s0_2*8192))) s0_3):=⟨z12_ HI0.out⟩
    have n1_:Aside0 (KeepBut w (w31.setCell ⟨g,2,none⟩ (.int .u64 (Go.bits .xor .u64 s0_2 (IntKind.u64.wrap (s0_2*8192))))) g none):=⟨z6_ HK.out⟩
    have n2_:Aside0 (Below w0.heap.size w0 (w31.setCell ⟨g,2,none⟩ (.int .u64 (Go.bits .xor .u64 s0_2 (IntKind.u64.wrap (s0_2*8192)))))):=⟨z10_ HB.out HI0.out⟩
    (try clear HI0)
    (try clear HK)
    (try clear HB)
    generalize (w31.setCell ⟨g,2,none⟩ (.int .u64 (Go.bits .xor .u64 s0_2 (IntKind.u64.wrap (s0_2*8192)))))=w34 at n0_ n1_ n2_ ⊢
    have HI0:=n0_
    have HK:=n1_
    have HB:=n2_
    clear n0_ n1_ n2_
    have n0_:=aM (IsS118.drew HI0.out)
    have n1_:=aM (keep_drew HK.out)
    have n2_:=aM (below_drew1 HB.out)
    clear HI0
    clear HK
    clear HB
    have HI0:=n0_
    have HK:=n1_
    have HB:=n2_
    clear n0_ n1_ n2_
    obtain ⟨ASz36_0,cSz36_0,HGz36,hgz36,HSz36_0⟩:=HI0.out
    have HH37:=aM HGz36
    clear HGz36 hgz36
    refine start_ (n:=14) (S:=fun w'=>w'.cell? ⟨g,0,none⟩=some (.slice ASz36_0 s0_0.length cSz36_0)∧w'.cell? ⟨g,1,none⟩=some (.int .i64 s0_1)∧w'.cell? ⟨g,2,none⟩=some (.int .u64 (Go.bits .xor .u64 s0_2 (IntKind.u64.wrap (s0_2*8192))))∧w'.cell? ⟨g,3,none⟩=some (.int .i64 s0_3)) (ds:=[13]) Y2.q0 (by kernel_rfl) rfl rfl (cc4_ HH37.out) (fun hHeld=>?_);refine with_tabW Y2.tab8 Y2.bits8 (fun HT_ HW_=>?_)
    generalize w34.drew=w35 at HI0 HK HB HH37 hHeld ⊢
    refine pu_ 0 50 Y2.q1 HT_.out ?_
    refine pu_ 1 51 Y2.q2 HT_.out ?_
    refine pu_ 2 52 Y2.q3 HT_.out ?_
    refine pu_ 3 53 Y2.q4 HT_.out ?_
    refine pu_ 5 55 Y2.q5 HT_.out ?_
    refine pu_ 6 56 Y2.q6 HT_.out ?_
    refine pu_ 7 57 Y2.q7 HT_.out ?_
    refine tk4_ 4 54 Y2.q8 HT_.out HW_.out hHeld ?_
    refine tk4_ 8 58 Y2.q9 HT_.out HW_.out hHeld ?_
    refine pu_ 9 59 Y2.q10 HT_.out ?_
    refine pu_ 10 60 Y2.q11 HT_.out ?_
    refine pu_ 11 61 Y2.q12 HT_.out ?_
    refine pu_ 12 62 Y2.q13 HT_.out ?_
    refine last_ (i:=13) (N:=none) Y2.q14 rfl rfl (one_of HT_.out (by kernel_rfl)) (by decide) (fun K hK=>?_)
    have hcQ13_0:=(blk_cell HH37.out 0).trans (show _=some (.slice ASz36_0 s0_0.length cSz36_0:Value) by rfl)
    have hfQ13_0:=blk_frozen HH37.out 0
    have hcQ13_1:=(blk_cell HH37.out 1).trans (show _=some (.int .i64 s0_1:Value) by rfl)
    have hfQ13_1:=blk_frozen HH37.out 1
    have hcQ13_2:=(blk_cell HH37.out 2).trans (show _=some (.int .u64 (Go.bits .xor .u64 s0_2 (IntKind.u64.wrap (s0_2*8192))):Value) by rfl)
    have hfQ13_2:=blk_frozen HH37.out 2
    have hcQ13_3:=(blk_cell HH37.out 3).trans (show _=some (.int .i64 s0_3:Value) by rfl)
    have hfQ13_3:=blk_frozen HH37.out 3
    refine skip_ (w1:=?_) (by rfl) rfl ?_ ?_
    rotate_left
    ·go_simp
     rfl
    refine hK.out _ _ ?_
    clear hK K
    refine done_ (done_of HT_.out (by kernel_rfl)) ?_
    try go_wp2
    have n0_:Aside0 (IsS118 w0 (w35.setCell ⟨g,2,none⟩ (.int .u64 (Go.bits .xor .u64 (Go.bits .xor .u64 s0_2 (IntKind.u64.wrap (s0_2*8192))) ((Go.bits .xor .u64 s0_2 (IntKind.u64.wrap (s0_2*8192))) / 128)))) g s0_0 s0_1 (Go.bits .xor .u64 (Go.bits .xor .u64 s0_2 (IntKind.u64.wrap (s0_2*8192))) ((Go.bits .xor .u64 s0_2 (IntKind.u64.wrap (s0_2*8192))) / 128)) s0_3):=⟨z12_ HI0.out⟩
    have n1_:Aside0 (KeepBut w (w35.setCell ⟨g,2,none⟩ (.int .u64 (Go.bits .xor .u64 (Go.bits .xor .u64 s0_2 (IntKind.u64.wrap (s0_2*8192))) ((Go.bits .xor .u64 s0_2 (IntKind.u64.wrap (s0_2*8192))) / 128)))) g none):=⟨z6_ HK.out⟩
    have n2_:Aside0 (Below w0.heap.size w0 (w35.setCell ⟨g,2,none⟩ (.int .u64 (Go.bits .xor .u64 (Go.bits .xor .u64 s0_2 (IntKind.u64.wrap (s0_2*8192))) ((Go.bits .xor .u64 s0_2 (IntKind.u64.wrap (s0_2*8192))) / 128))))):=⟨z10_ HB.out HI0.out⟩
    (try clear HI0)
    (try clear HK)
    (try clear HB)
    generalize (w35.setCell ⟨g,2,none⟩ (.int .u64 (Go.bits .xor .u64 (Go.bits .xor .u64 s0_2 (IntKind.u64.wrap (s0_2*8192))) ((Go.bits .xor .u64 s0_2 (IntKind.u64.wrap (s0_2*8192))) / 128))))=w38 at n0_ n1_ n2_ ⊢
    have HI0:=n0_
    have HK:=n1_
    have HB:=n2_
    clear n0_ n1_ n2_
    have n0_:=aM (IsS118.drew HI0.out)
    have n1_:=aM (keep_drew HK.out)
    have n2_:=aM (below_drew1 HB.out)
    clear HI0
    clear HK
    clear HB
    have HI0:=n0_
    have HK:=n1_
    have HB:=n2_
    clear n0_ n1_ n2_
    obtain ⟨ASz40_0,cSz40_0,HGz40,hgz40,HSz40_0⟩:=HI0.out
    have HH41:=aM HGz40
    clear HGz40 hgz40
    refine start_ (n:=14) (S:=fun w'=>w'.cell? ⟨g,0,none⟩=some (.slice ASz40_0 s0_0.length cSz40_0)∧w'.cell? ⟨g,1,none⟩=some (.int .i64 s0_1)∧w'.cell? ⟨g,2,none⟩=some (.int .u64 (Go.bits .xor .u64 (Go.bits .xor .u64 s0_2 (IntKind.u64.wrap (s0_2*8192))) ((Go.bits .xor .u64 s0_2 (IntKind.u64.wrap (s0_2*8192))) / 128)))∧w'.cell? ⟨g,3,none⟩=some (.int .i64 s0_3)) (ds:=[13]) Y2.q0 (by kernel_rfl) rfl rfl (cc4_ HH41.out) (fun hHeld=>?_);refine with_tabW Y2.tab9 Y2.bits9 (fun HT_ HW_=>?_)
    generalize w38.drew=w39 at HI0 HK HB HH41 hHeld ⊢
    refine pu_ 0 63 Y2.q1 HT_.out ?_
    refine pu_ 1 64 Y2.q2 HT_.out ?_
    refine pu_ 2 65 Y2.q3 HT_.out ?_
    refine pu_ 3 66 Y2.q4 HT_.out ?_
    refine pu_ 5 68 Y2.q5 HT_.out ?_
    refine pu_ 6 69 Y2.q6 HT_.out ?_
    refine pu_ 7 70 Y2.q7 HT_.out ?_
    refine tk4_ 4 67 Y2.q8 HT_.out HW_.out hHeld ?_
    refine tk4_ 8 71 Y2.q9 HT_.out HW_.out hHeld ?_
    refine pu_ 9 72 Y2.q10 HT_.out ?_
    refine pu_ 10 73 Y2.q11 HT_.out ?_
    refine pu_ 11 74 Y2.q12 HT_.out ?_
    refine pu_ 12 75 Y2.q13 HT_.out ?_
    refine last_ (i:=13) (N:=none) Y2.q14 rfl rfl (one_of HT_.out (by kernel_rfl)) (by decide) (fun K hK=>?_)
    have hcQ13_0:=(blk_cell HH41.out 0).trans (show _=some (.slice ASz40_0 s0_0.length cSz40_0:Value) by rfl)
    have hfQ13_0:=blk_frozen HH41.out 0
    have hcQ13_1:=(blk_cell HH41.out 1).trans (show _=some (.int .i64 s0_1:Value) by rfl)
    have hfQ13_1:=blk_frozen HH41.out 1
    have hcQ13_2:=(blk_cell HH41.out 2).trans (show _=some (.int .u64 (Go.bits .xor .u64 (Go.bits .xor .u64 s0_2 (IntKind.u64.wrap (s0_2*8192))) ((Go.bits .xor .u64 s0_2 (IntKind.u64.wrap (s0_2*8192))) / 128)):Value) by rfl)
    have hfQ13_2:=blk_frozen HH41.out 2
    have hcQ13_3:=(blk_cell HH41.out 3).trans (show _=some (.int .i64 s0_3:Value) by rfl)
    have hfQ13_3:=blk_frozen HH41.out 3
    refine skip_ (w1:=?_) (by rfl) rfl ?_ ?_
    rotate_left
    ·go_simp
     rfl
    refine hK.out _ _ ?_
    clear hK K
    refine done_ (done_of HT_.out (by kernel_rfl)) ?_
    obtain ⟨ASz42_0,cSz42_0,HGz42,hgz42,HSz42_0⟩:=HI0.out
    have hcz42_0:=cellS118_0 HGz42
    have hcz42_1:=cellS118_1 HGz42
    have hcz42_2:=cellS118_2 HGz42
    have hcz42_3:=cellS118_3 HGz42
    have hfz42_1:=blk_frozen HGz42 1
    have hfz42_2:=blk_frozen HGz42 2
    have hfz42_3:=blk_frozen HGz42 3
    clear HGz42 hgz42
    try go_wp2
    go_ret
    exact ⟨z5_,z12_ HI0.out,z10_ HB.out HI0.out,z6_ HK.out⟩


/-! ### Y38: function 97 -/
def Y38.f (s0_0:List Int) (s0_1:Int) (s0_2:Int) (s0_3:Int) (a1:Int):Option (Bool × Int × Int × Int):=(Y2.f s0_0 s0_1 s0_2 s0_3 a1).bind fun bt353=>(some ((bt353.1 == 0),bt353.2.1,bt353.2.2.1,bt353.2.2.2))
theorem Y38.calls (g:Nat) (s0_0:List Int) (s0_1:Int) (s0_2:Int) (s0_3:Int) (a1:Int) (r1:Bool) (r2:Int) (r3:Int) (r4:Int) (w0 w:World) (hI:IsS118 w0 w g s0_0 s0_1 s0_2 s0_3) (hB:Below w0.heap.size w0 w) (h:Y38.f s0_0 s0_1 s0_2 s0_3 a1=some (r1,r2,r3,r4)) :
  Calls Try.prog 97 #[.pointer (some ⟨g,0,none⟩),.int .i64 a1] w fun e w'=>e = .returned (.bool r1)∧IsS118 w0 w' g s0_0 r2 r3 r4∧Below w0.heap.size w0 w'∧KeepBut w w' g none:=by
 have HI0:=aM hI
 have HK:=aM (KeepBut.refl w g none)
 have HL:=aM hB.size
 clear hI
 have HW0:=aM hB.size
 have HB:=aM hB
 clear hB
 have H:((Y2.f s0_0 s0_1 s0_2 s0_3 a1).bind fun bt353=>(some ((bt353.1 == 0),bt353.2.1,bt353.2.2.1,bt353.2.2.2)))=some (r1,r2,r3,r4):=h
 clear h
 replace H:=bS H
 obtain ⟨⟨t353,t354,t355,t356⟩,A30,H⟩:=H
 replace H:(some ((t353 == 0),t354,t355,t356))=some (r1,r2,r3,r4):=H
 have A3:=aM A30
 clear A30
 simp only [Option.some.injEq,Prod.mk.injEq] at H
 obtain ⟨rfl,rfl,rfl,rfl⟩:=H
 go_enter Try.func97,Try.ntmps97
 go_wp2_with (first | ((with_reducible refine gc_ 74 ?_);refine gl_ (some 7) Try.func74 #[.pointer (some ⟨g,0,none⟩),.int .i64 a1] ?_;(with_reducible refine (Y2.calls g s0_0 s0_1 s0_2 s0_3 a1 t353 t354 t355 t356 w0 _ ?s1 ?s2 A3.out).mono ?_);(case s1=>repeat (first | (with_reducible first | exact HI0.out | apply IsS118.alloc | apply IsS118.drewN | apply IsS118.drew | apply IsS118.set_1 | apply IsS118.set_2 | apply IsS118.set_3) | exact HI0.out));(case s2=>repeat (first | (with_reducible first | exact HB.out | apply below_alloc | apply pw_below_drewN | apply below_drew1 | refine below_set ?_ (IsS118.ge HI0.out)) | exact HB.out));rintro e w4 ⟨rfl,hi,hb,hk⟩;refine ⟨_,rfl,?_⟩;have n0_:=aM (KeepBut.trans (z6_ HK.out) hk (.inl rfl));have n1_:=aM (hb);have n2_:=aM (hi);clear HK;clear HB;clear HI0;have HK:=n0_;have HB:=n1_;have HI0:=n2_;clear n0_ n1_ n2_;(try clear hb);(try clear hk);(try clear hi)))
 go_ret
 exact ⟨z5_,z12_ HI0.out,z10_ HB.out HI0.out,z6_ HK.out⟩


/-! ### Y36: function 75 -/
def Y36.f (s0_0:List Int) (s0_1:Int) (s0_2:Int) (s0_3:Int):Option (Int × Int × Int × Int × Int):=(Y38.f s0_0 s0_1 s0_2 s0_3 15).bind fun bt358=>(if bt358.1=true then ((some (([0,5,6]:List Int):List Int)).bind fun y362=>((Y2.f s0_0 bt358.2.1 bt358.2.2.1 bt358.2.2.2 3).bind fun bt365=>(if 0≤bt365.1 then (if bt365.1<(y362.length:Int) then ((some (([0,1,1000000,1000001]:List Int):List Int)).bind fun y370=>((Y2.f s0_0 bt365.2.1 bt365.2.2.1 bt365.2.2.2 4).bind fun bt373=>(if 0≤bt373.1 then (if bt373.1<(y370.length:Int) then (some (rd y362 bt365.1,rd y370 bt373.1,bt373.2.1,bt373.2.2.1,bt373.2.2.2)) else (none)) else (none)))) else (none)) else (none)))) else ((Y2.f s0_0 bt358.2.1 bt358.2.2.1 bt358.2.2.2 3).bind fun bt378=>((Y2.f s0_0 bt378.2.1 bt378.2.2.1 bt378.2.2.2 4).bind fun bt382=>(some (wrap64 (1+bt378.1),wrap64 (1+bt382.1),bt382.2.1,bt382.2.2.1,bt382.2.2.2)))))
def Y36.T2:Bool × List (List Nat × List Nat):=(true,[([],[]),([],[]),([1],[1]),([0,2],[0,2]),([3],[3]),([],[]),([],[]),([6,2],[6]),([5,7],[5,7]),([8],[8]),([4,9],[4,9]),([10,7,0,1,2,3,4,5,6,7,8,9,10],[10])])
def Y36.B2:List Nat:=[0,0,2,7,15,0,0,70,230,486,1023,2047]
theorem Y36.tab2:rtab .any (opsOf Try.f75 2)=Y36.T2:=by kernel_rfl
theorem Y36.bits2:waitsOk Y36.T2.2 Y36.B2=true:=by kernel_rfl
theorem Y36.calls (g:Nat) (s0_0:List Int) (s0_1:Int) (s0_2:Int) (s0_3:Int) (r1:Int) (r2:Int) (r3:Int) (r4:Int) (r5:Int) (w0 w:World) (hI:IsS118 w0 w g s0_0 s0_1 s0_2 s0_3) (hB:Below w0.heap.size w0 w) (h:Y36.f s0_0 s0_1 s0_2 s0_3=some (r1,r2,r3,r4,r5)) :
  Calls Try.prog 75 #[.pointer (some ⟨g,0,none⟩)] w fun e w'=>e = .returned (.agg #[.int .i64 r1,.int .i64 r2])∧IsS118 w0 w' g s0_0 r3 r4 r5∧Below w0.heap.size w0 w'∧KeepBut w w' g none:=by
 have hu49:=Try.underlying49
 have HI0:=aM hI
 have HK:=aM (KeepBut.refl w g none)
 have HL:=aM hB.size
 clear hI
 have HW0:=aM hB.size
 have HB:=aM hB
 clear hB
 have H:((Y38.f s0_0 s0_1 s0_2 s0_3 15).bind fun bt358=>(if bt358.1=true then ((some (([0,5,6]:List Int):List Int)).bind fun y362=>((Y2.f s0_0 bt358.2.1 bt358.2.2.1 bt358.2.2.2 3).bind fun bt365=>(if 0≤bt365.1 then (if bt365.1<(y362.length:Int) then ((some (([0,1,1000000,1000001]:List Int):List Int)).bind fun y370=>((Y2.f s0_0 bt365.2.1 bt365.2.2.1 bt365.2.2.2 4).bind fun bt373=>(if 0≤bt373.1 then (if bt373.1<(y370.length:Int) then (some (rd y362 bt365.1,rd y370 bt373.1,bt373.2.1,bt373.2.2.1,bt373.2.2.2)) else (none)) else (none)))) else (none)) else (none)))) else ((Y2.f s0_0 bt358.2.1 bt358.2.2.1 bt358.2.2.2 3).bind fun bt378=>((Y2.f s0_0 bt378.2.1 bt378.2.2.1 bt378.2.2.2 4).bind fun bt382=>(some (wrap64 (1+bt378.1),wrap64 (1+bt382.1),bt382.2.1,bt382.2.2.1,bt382.2.2.2))))))=some (r1,r2,r3,r4,r5):=h
 clear h
 replace H:=bS H
 obtain ⟨⟨t358,t359,t360,t361⟩,A20,H⟩:=H
 replace H:(if t358=true then ((some (([0,5,6]:List Int):List Int)).bind fun y362=>((Y2.f s0_0 t359 t360 t361 3).bind fun bt365=>(if 0≤bt365.1 then (if bt365.1<(y362.length:Int) then ((some (([0,1,1000000,1000001]:List Int):List Int)).bind fun y370=>((Y2.f s0_0 bt365.2.1 bt365.2.2.1 bt365.2.2.2 4).bind fun bt373=>(if 0≤bt373.1 then (if bt373.1<(y370.length:Int) then (some (rd y362 bt365.1,rd y370 bt373.1,bt373.2.1,bt373.2.2.1,bt373.2.2.2)) else (none)) else (none)))) else (none)) else (none)))) else ((Y2.f s0_0 t359 t360 t361 3).bind fun bt378=>((Y2.f s0_0 bt378.2.1 bt378.2.2.1 bt378.2.2.2 4).bind fun bt382=>(some (wrap64 (1+bt378.1),wrap64 (1+bt382.1),bt382.2.1,bt382.2.2.1,bt382.2.2.2)))))=some (r1,r2,r3,r4,r5):=H
 have A2:=aM A20
 clear A20
 by_cases c3:t358=true
 ·subst c3
  have H1:((some (([0,5,6]:List Int):List Int)).bind fun y362=>((Y2.f s0_0 t359 t360 t361 3).bind fun bt365=>(if 0≤bt365.1 then (if bt365.1<(y362.length:Int) then ((some (([0,1,1000000,1000001]:List Int):List Int)).bind fun y370=>((Y2.f s0_0 bt365.2.1 bt365.2.2.1 bt365.2.2.2 4).bind fun bt373=>(if 0≤bt373.1 then (if bt373.1<(y370.length:Int) then (some (rd y362 bt365.1,rd y370 bt373.1,bt373.2.1,bt373.2.2.1,bt373.2.2.2)) else (none)) else (none)))) else (none)) else (none))))=some (r1,r2,r3,r4,r5):=by rw [if_pos rfl] at H;exact H
  clear H
  have H:=H1
  clear H1
  obtain ⟨y362,hy362⟩:∃ y_:List Int,y_=(([0,5,6]:List Int)):=⟨_,rfl⟩
  replace H:((Y2.f s0_0 t359 t360 t361 3).bind fun bt365=>(if 0≤bt365.1 then (if bt365.1<(y362.length:Int) then ((some (([0,1,1000000,1000001]:List Int):List Int)).bind fun y370=>((Y2.f s0_0 bt365.2.1 bt365.2.2.1 bt365.2.2.2 4).bind fun bt373=>(if 0≤bt373.1 then (if bt373.1<(y370.length:Int) then (some (rd y362 bt365.1,rd y370 bt373.1,bt373.2.1,bt373.2.2.1,bt373.2.2.2)) else (none)) else (none)))) else (none)) else (none)))=some (r1,r2,r3,r4,r5):=by first | (rw [hy362];with_reducible exact H) | (have H2_:=(Option.bind_some _ _).symm.trans H;rw [hy362];with_reducible exact H2_) | (have H2_:=(Option.bind_some _ _).symm.trans H;with_reducible exact H2_) | with_reducible exact H | (rw [hy362];exact H) | exact H
  have Ny362:=aM hy362
  clear hy362
  replace H:=bS H
  obtain ⟨⟨t365,t366,t367,t368⟩,A40,H⟩:=H
  replace H:(if 0≤t365 then (if t365<(y362.length:Int) then ((some (([0,1,1000000,1000001]:List Int):List Int)).bind fun y370=>((Y2.f s0_0 t366 t367 t368 4).bind fun bt373=>(if 0≤bt373.1 then (if bt373.1<(y370.length:Int) then (some (rd y362 t365,rd y370 bt373.1,bt373.2.1,bt373.2.2.1,bt373.2.2.2)) else (none)) else (none)))) else (none)) else (none))=some (r1,r2,r3,r4,r5):=H
  have A4:=aM A40
  clear A40
  by_cases c5:0≤t365
  ·rw [if_pos c5] at H
   have c5b0:decide (0≤t365)=true:=dE c5
   clear c5
   by_cases c6:t365<(y362.length:Int)
   ·rw [if_pos c6] at H
    have c6b0:decide (t365<(y362.length:Int))=true:=dE c6
    clear c6
    obtain ⟨y370,hy370⟩:∃ y_:List Int,y_=(([0,1,1000000,1000001]:List Int)):=⟨_,rfl⟩
    replace H:((Y2.f s0_0 t366 t367 t368 4).bind fun bt373=>(if 0≤bt373.1 then (if bt373.1<(y370.length:Int) then (some (rd y362 t365,rd y370 bt373.1,bt373.2.1,bt373.2.2.1,bt373.2.2.2)) else (none)) else (none)))=some (r1,r2,r3,r4,r5):=by first | (rw [hy370];with_reducible exact H) | (have H2_:=(Option.bind_some _ _).symm.trans H;rw [hy370];with_reducible exact H2_) | (have H2_:=(Option.bind_some _ _).symm.trans H;with_reducible exact H2_) | with_reducible exact H | (rw [hy370];exact H) | exact H
    have Ny370:=aM hy370
    clear hy370
    replace H:=bS H
    obtain ⟨⟨t373,t374,t375,t376⟩,A70,H⟩:=H
    replace H:(if 0≤t373 then (if t373<(y370.length:Int) then (some (rd y362 t365,rd y370 t373,t374,t375,t376)) else (none)) else (none))=some (r1,r2,r3,r4,r5):=H
    have A7:=aM A70
    clear A70
    by_cases c8:0≤t373
    ·rw [if_pos c8] at H
     have c8b0:decide (0≤t373)=true:=dE c8
     clear c8
     by_cases c9:t373<(y370.length:Int)
     ·rw [if_pos c9] at H
      have c9b0:decide (t373<(y370.length:Int))=true:=dE c9
      clear c9
      simp only [Option.some.injEq,Prod.mk.injEq] at H
      obtain ⟨rfl,rfl,rfl,rfl,rfl⟩:=H
      go_enter Try.func75,Try.ntmps75
      try go_wp2_with (first | ((with_reducible refine gd_ 2 ?_);refine be_ 2 #[.int .i64 0,.int .i64 0] 49 ?_;intro gb357 hg w10 hbox hb;have n0_:=aM (IsS118.below (z12_ HI0.out) hb);have n1_:=aM (KeepBut.trans (z6_ HK.out) (KeepBut.of_below hb g none) (.inl rfl));have n2_:=aM (below_step (z10_ HB.out HI0.out) hb);have n3_:=aM (hbox);have n4_:=aM ((z19_ HK.out:w.heap.size≤gb357));have n5_:=aM ((Nat.le_trans HW0.out (z19_ HK.out:w.heap.size≤gb357):w0.heap.size≤gb357));have n6_:=aM ((by rw [hg];exact Nat.ne_of_lt (IsS118.lt (show IsS118 w0 _ g s0_0 s0_1 s0_2 s0_3 from by repeat (first | (with_reducible first | exact HI0.out | apply IsS118.alloc | apply IsS118.drewN | apply IsS118.drew | apply IsS118.set_1 | apply IsS118.set_2 | apply IsS118.set_3) | exact HI0.out))):g≠gb357));have n7_:=aM ((by rw [hg];exact Nat.ne_of_gt (IsS118.lt (show IsS118 w0 _ g s0_0 s0_1 s0_2 s0_3 from by repeat (first | (with_reducible first | exact HI0.out | apply IsS118.alloc | apply IsS118.drewN | apply IsS118.drew | apply IsS118.set_1 | apply IsS118.set_2 | apply IsS118.set_3) | exact HI0.out))):gb357≠g));clear HI0;clear HK;clear HB;have HI0:=n0_;have HK:=n1_;have HB:=n2_;have BK357:=n3_;have GW357:=n4_;have GE357:=n5_;have NB0_357:=n6_;have NB357_0:=n7_;clear n0_ n1_ n2_ n3_ n4_ n5_ n6_ n7_;clear hb hbox hg) | ((with_reducible refine gc_ 97 ?_);refine gl_ (some 4) Try.func97 #[.pointer (some ⟨g,0,none⟩),.int .i64 15] ?_;(with_reducible refine (Y38.calls g s0_0 s0_1 s0_2 s0_3 15 true t359 t360 t361 w0 _ ?s1 ?s2 A2.out).mono ?_);(case s1=>repeat (first | (with_reducible first | exact HI0.out | apply IsS118.alloc | apply IsS118.drewN | apply IsS118.drew | apply IsS118.set_1 | apply IsS118.set_2 | apply IsS118.set_3 | refine IsS118.far ?_ (by exact NB0_357.out) _) | exact HI0.out));(case s2=>repeat (first | (with_reducible first | exact HB.out | apply below_alloc | apply pw_below_drewN | apply below_drew1 | refine below_set ?_ (IsS118.ge HI0.out) | refine below_set ?_ GE357.out) | exact HB.out));rintro e w11 ⟨rfl,hi,hb,hk⟩;refine ⟨_,rfl,?_⟩;have n0_:=aM (KeepBut.blk hk (g':=gb357) (o:=.cells #[.int .i64 0,.int .i64 0] 49 (0,0)) (z2_ BK357.out) NB357_0.out (by simp));have n1_:=aM (KeepBut.trans (z11_ HK.out GW357.out) hk (.inl rfl));have n2_:=aM (hb);have n3_:=aM (hi);clear BK357;clear HK;clear HB;clear HI0;have BK357:=n0_;have HK:=n1_;have HB:=n2_;have HI0:=n3_;clear n0_ n1_ n2_ n3_;(try clear hb);(try clear hk);(try clear hi)))
      have pi369:(0≤(t365:Int))=True:=eq_true (dT (z7_))
      have qi369:(t365<(y362.length:Int))=True:=eq_true (dT (z7_))
      have pi377:(0≤(t373:Int))=True:=eq_true (dT (z7_))
      have qi377:(t373<(y370.length:Int))=True:=eq_true (dT (z7_))
      have n0_:=aM (blk_drew BK357.out)
      have n1_:=aM (IsS118.drew HI0.out)
      have n2_:=aM (keep_drew HK.out)
      have n3_:=aM (below_drew1 HB.out)
      clear BK357
      clear HI0
      clear HK
      clear HB
      have BK357:=n0_
      have HI0:=n1_
      have HK:=n2_
      have HB:=n3_
      clear n0_ n1_ n2_ n3_
      refine start_ (n:=12) (S:=fun w'=>True) (ds:=[]) #[O,O,O,O,O,O,O,O,O,O,O,O] (by kernel_rfl) rfl rfl trivial (fun hHeld=>?_);refine with_tabW Y36.tab2 Y36.bits2 (fun HT_ HW_=>?_)
      generalize w11.drew=w12 at BK357 HI0 HK HB hHeld ⊢
      refine pu_ 1 6 #[O,I,O,O,O,O,O,O,O,O,O,O] HT_.out ?_
      refine pu_ 6 11 #[O,I,O,O,O,O,I,O,O,O,O,O] HT_.out ?_
      refine inv_at [0,2,3,4,5,7,8,9,10,11] (fun a0_ b a w'=>∃ (v363:Value) (adz_v363:Addr) (v371:Value) (adz_v371:Addr) (m3_:Value) (m8_:Value),a=putSel a0_ b [(0,5,v363),(2,7,.int .i64 t365),(3,8,m3_),(4,9,.int .i64 (rd y362 t365)),(5,10,v371),(7,12,.int .i64 t373),(8,13,m8_),(9,14,.int .i64 (rd y370 t373)),(10,15,.agg #[.int .i64 (rd y362 t365),.int .i64 (rd y370 t373)])]∧(b 11=false→w'.heap[gb357]? = some (.cells #[.int .i64 0,.int .i64 0] 49 (0,0)))∧(b 2=false→IsS118 w0 w' g s0_0 t359 t360 t361)∧(KeepBut w w' g none)∧(Below w0.heap.size w0 w')∧(b 0=true→Kd.R (Kd.int .i64) 2 w' w.heap.size (fun _=>True) v363 y362)∧(b 0=true→∃ c_,(v363:Value) = .slice (some adz_v363) y362.length c_)∧(b 2=true→b 7=false→IsS118 w0 w' g s0_0 t366 t367 t368)∧(b 5=true→Kd.R (Kd.int .i64) 2 w' w.heap.size (fun _=>True) v371 y370)∧(b 5=true→∃ c_,(v371:Value) = .slice (some adz_v371) y370.length c_)∧(b 7=true→IsS118 w0 w' g s0_0 t374 t375 t376)∧(b 11=true→w'.heap[gb357]? = some (.cells #[.int .i64 (rd y362 t365),.int .i64 (rd y370 t373)] 49 (0,0)))∧(b 3=true→(m3_:Value) = .pointer (some (adz_v363.add (t365).toNat)))∧(b 8=true→(m8_:Value) = .pointer (some (adz_v371.add (t373).toNat)))) HT_.out HW_.out (by kernel_rfl) (by kernel_rfl) ?_ ?_ ?_
      ·exact ⟨.bool false,⟨0,0,none⟩,.bool false,⟨0,0,none⟩,.bool false,.bool false,by simp only [putSel,Bool.false_eq_true,if_false],fun _=>BK357.out,fun _=>HI0.out,HK.out,HB.out,fun h_=>absurd h_ (by decide),fun h_=>absurd h_ (by decide),fun h_=>absurd h_ (by decide),fun h_=>absurd h_ (by decide),fun h_=>absurd h_ (by decide),fun h_=>absurd h_ (by decide),fun h_=>absurd h_ (by decide),fun h_=>absurd h_ (by decide),fun h_=>absurd h_ (by decide)⟩
      ·skip
       clear BK357 HB HI0 HK
       refine steps_cons ?_ ?_
       ·rintro b a w' ⟨v363,adz_v363,v371,adz_v371,m3_,m8_,ha,Q_BK357,Q_HI0,Q_HK,Q_HB,Q_HO364,Q_HA_HO364,Q_HI0_e2,Q_HO372,Q_HA_HO372,Q_HI0_e7,Q_BK357_e11,Q_X3_,Q_X8_⟩ hb_ hon hoff
        refine ⟨_,rfl,fun K hK=>?_⟩
        replace ha:=aM ha
        have BK357:=aM (Q_BK357 (hoff 11 (by kernel_rfl)))
        have HK:=aM Q_HK
        have HB:=aM Q_HB
        refine Kd.R_lit_step (Kd.int .i64) _ 2 ?hg (N:=5) ?hd (xs:=([0,5,6]:List Int)) (inner:=[.int .i64 0,.int .i64 5,.int .i64 6]) (ok:=fun _=>True) (okp:=fun _=>True) ?hr ?hp (fun _ hk=>hk) trivial (Below.refl _ _) (Nat.le_refl _) (by simp) ?_;(case hd=>rfl);(case hg=>rfl);(case hr=>first | (go_simp;done) | (go_simp;rfl));(case hp=>exact (Reps.one (show Kd.M (Kd.int .i64) _ _ _ 0 [.int .i64 0] from rfl) (Reps.one (show Kd.M (Kd.int .i64) _ _ _ 5 [.int .i64 5] from rfl) (Reps.one (show Kd.M (Kd.int .i64) _ _ _ 6 [.int .i64 6] from rfl) (Reps.none _ _)))))
        intro v363 w13 ho14 hb hg_ hnew_
        clear hg_ hnew_
        (first | rw [← Ny362.out] at ho14 | (simp only [Int.reduceToNat] at ho14;rw [← Ny362.out] at ho14))
        have n0_:=aM (Kd.R_lower ho14 (keep_size (w:=w) (g:=g) (row:=none) (z11_ HK.out GW357.out)))
        have n2_:=aM (blkB_ BK357.out hb)
        have n3_:=aM (KeepBut.trans (z11_ HK.out GW357.out) (KeepBut.of_below hb g none) (.inl rfl))
        have n4_:=aM (below_step (z4_ HB.out GE357.out) hb)
        have z_HI0:=fun (h0_:b 2=false)=>(show IsS118 w0 w13 g s0_0 t359 t360 t361 from by first | exact (IsS118.below (by repeat (first | (with_reducible first | exact (Q_HI0 h0_) | apply IsS118.alloc | apply IsS118.drewN | apply IsS118.drew | apply IsS118.set_1 | apply IsS118.set_2 | apply IsS118.set_3 | refine IsS118.far ?_ (by exact NB0_357.out) _) | exact (Q_HI0 h0_))) hb))
        have z_HI0_e2:=fun (h0_:b 2=true) (h1_:b 7=false)=>(show IsS118 w0 w13 g s0_0 t366 t367 t368 from by first | exact (IsS118.below (by repeat (first | (with_reducible first | exact (Q_HI0_e2 h0_ h1_) | apply IsS118.alloc | apply IsS118.drewN | apply IsS118.drew | apply IsS118.set_1 | apply IsS118.set_2 | apply IsS118.set_3 | refine IsS118.far ?_ (by exact NB0_357.out) _) | exact (Q_HI0_e2 h0_ h1_))) hb))
        have z_HO372:=fun (h0_:b 5=true)=>(show Kd.R (Kd.int .i64) 2 w13 w.heap.size (fun _=>True) v371 y370 from by first | exact (Kd.R_elder' (z39_) (Kd.R_base ho14) hb) | exact Kd.R_mono (Kd.R_elder' (z39_) (Kd.R_base ho14) hb) (fun _ h_=>by first | trivial | exact h_ | exact h_.1))
        have z_HI0_e7:=fun (h0_:b 7=true)=>(show IsS118 w0 w13 g s0_0 t374 t375 t376 from by first | exact (IsS118.below (by repeat (first | (with_reducible first | exact (Q_HI0_e7 h0_) | apply IsS118.alloc | apply IsS118.drewN | apply IsS118.drew | apply IsS118.set_1 | apply IsS118.set_2 | apply IsS118.set_3 | refine IsS118.far ?_ (by exact NB0_357.out) _) | exact (Q_HI0_e7 h0_))) hb))
        clear BK357
        clear HK
        clear HB
        have HO364:=n0_
        have BK357:=n2_
        have HK:=n3_
        have HB:=n4_
        clear n0_ n2_ n3_ n4_
        clear hb ho14
        obtain ⟨Ao15,co15,eo15⟩:=Kd.R_slice HO364.out
        subst eo15
        obtain ⟨ado15,fo15,_⟩:=Kd.at_int (Kd.R_reads' HO364.out).2.2 0 (by decide) (by rw [Ny362.out];simp)
        cases fo15
        refine hK.out _ _ ⟨.slice (some ado15) y362.length co15,ado15,v371,adz_v371,m3_,m8_,(by rw [ha.out];exact putSel_upk 0 hb_ rfl rfl rfl),fun _=>(z2_ BK357.out),z_HI0,(z11_ HK.out GW357.out),(z4_ HB.out GE357.out),fun _=>(z0_ HO364.out),fun _=>⟨_,rfl⟩,z_HI0_e2,z_HO372,Q_HA_HO372,z_HI0_e7,fun h0_=>absurd ((hoff 11 (by kernel_rfl)).symm.trans h0_) (by decide),fun h0_=>absurd ((hoff 3 (by kernel_rfl)).symm.trans h0_) (by decide),Q_X8_⟩
       refine steps_cons ?_ ?_
       ·rintro b a w' ⟨v363,adz_v363,v371,adz_v371,m3_,m8_,ha,Q_BK357,Q_HI0,Q_HK,Q_HB,Q_HO364,Q_HA_HO364,Q_HI0_e2,Q_HO372,Q_HA_HO372,Q_HI0_e7,Q_BK357_e11,Q_X3_,Q_X8_⟩ hb_ hon hoff
        refine ⟨_,rfl,fun K hK=>?_⟩
        have e6:a.tmps[6]? = some (.pointer (some ⟨g,0,none⟩)):=by rw [ha];exact (putSel_off rfl).trans rfl
        replace ha:=aM ha
        have BK357:=aM (Q_BK357 (hoff 11 (by kernel_rfl)))
        have HI0:=aM (Q_HI0 hb_)
        have HK:=aM Q_HK
        have HB:=aM Q_HB
        refine goes_ Try.func74 (by kernel_rfl) rfl #[.pointer (some ⟨g,0,none⟩),.int .i64 3] (by rfl) rfl rfl (by first | (simp only [List.map_toArray,List.map_cons,List.map_nil,Act.eval,Array.getD_eq_getD_getElem?,Option.getD_some,e6];done) | (simp only [List.map_toArray,List.map_cons,List.map_nil,Act.eval,Array.getD_eq_getD_getElem?,Option.getD_some,e6];rfl)) ?_
        with_reducible refine (Y2.calls g s0_0 t359 t360 t361 3 t365 t366 t367 t368 w0 _ ?s1 ?s2 A4.out).mono ?_
        (case s1=>repeat (first | (with_reducible first | exact HI0.out | apply IsS118.alloc | apply IsS118.drewN | apply IsS118.drew | apply IsS118.set_1 | apply IsS118.set_2 | apply IsS118.set_3 | refine IsS118.far ?_ (by exact NB0_357.out) _) | exact HI0.out))
        (case s2=>repeat (first | (with_reducible first | exact HB.out | apply below_alloc | apply pw_below_drewN | apply below_drew1 | refine below_set ?_ (IsS118.ge HI0.out) | refine below_set ?_ GE357.out) | exact HB.out))
        rintro e w13 ⟨rfl,hi,hb,hk⟩
        refine ⟨_,rfl,?_⟩
        have n0_:=aM (KeepBut.blk hk (g':=gb357) (o:=.cells #[.int .i64 0,.int .i64 0] 49 (0,0)) (z2_ BK357.out) NB357_0.out (by simp))
        have n1_:=aM (KeepBut.trans (z11_ HK.out GW357.out) hk (.inl rfl))
        have n2_:=aM (hb)
        have n3_:=aM (hi)
        have z_HO364:=fun (h0_:b 0=true)=>(show Kd.R (Kd.int .i64) 2 w13 w.heap.size (fun _=>True) v363 y362 from by first | exact (Kd.R_mono (Kd.R_keep (IsS118.apart (show IsS118 w0 _ g s0_0 t359 t360 t361 from by repeat (first | (with_reducible first | exact HI0.out | apply IsS118.alloc | apply IsS118.drewN | apply IsS118.drew | apply IsS118.set_1 | apply IsS118.set_2 | apply IsS118.set_3 | refine IsS118.far ?_ (by exact NB0_357.out) _) | exact HI0.out)) (z40_) (by decide)) hk (fun _ h=>h.2)) (fun _ h=>h.1)) | exact Kd.R_mono (Kd.R_mono (Kd.R_keep (IsS118.apart (show IsS118 w0 _ g s0_0 t359 t360 t361 from by repeat (first | (with_reducible first | exact HI0.out | apply IsS118.alloc | apply IsS118.drewN | apply IsS118.drew | apply IsS118.set_1 | apply IsS118.set_2 | apply IsS118.set_3 | refine IsS118.far ?_ (by exact NB0_357.out) _) | exact HI0.out)) (z40_) (by decide)) hk (fun _ h=>h.2)) (fun _ h=>h.1)) (fun _ h_=>by first | trivial | exact h_ | exact h_.1))
        have z_HO372:=fun (h0_:b 5=true)=>(show Kd.R (Kd.int .i64) 2 w13 w.heap.size (fun _=>True) v371 y370 from by first | exact (Kd.R_mono (Kd.R_keep (IsS118.apart (show IsS118 w0 _ g s0_0 t359 t360 t361 from by repeat (first | (with_reducible first | exact HI0.out | apply IsS118.alloc | apply IsS118.drewN | apply IsS118.drew | apply IsS118.set_1 | apply IsS118.set_2 | apply IsS118.set_3 | refine IsS118.far ?_ (by exact NB0_357.out) _) | exact HI0.out)) (z39_) (by decide)) hk (fun _ h=>h.2)) (fun _ h=>h.1)) | exact Kd.R_mono (Kd.R_mono (Kd.R_keep (IsS118.apart (show IsS118 w0 _ g s0_0 t359 t360 t361 from by repeat (first | (with_reducible first | exact HI0.out | apply IsS118.alloc | apply IsS118.drewN | apply IsS118.drew | apply IsS118.set_1 | apply IsS118.set_2 | apply IsS118.set_3 | refine IsS118.far ?_ (by exact NB0_357.out) _) | exact HI0.out)) (z39_) (by decide)) hk (fun _ h=>h.2)) (fun _ h=>h.1)) (fun _ h_=>by first | trivial | exact h_ | exact h_.1))
        clear BK357
        clear HK
        clear HB
        clear HI0
        have BK357:=n0_
        have HK:=n1_
        have HB:=n2_
        have HI0:=n3_
        clear n0_ n1_ n2_ n3_
        (try clear hb)
        (try clear hk)
        (try clear hi)
        refine hK.out _ _ ⟨v363,adz_v363,v371,adz_v371,m3_,m8_,(by rw [ha.out];exact putSel_upk 1 hb_ rfl rfl rfl),fun _=>(z2_ BK357.out),fun h0_=>absurd ((up_self b 2).symm.trans h0_) (by decide),(z11_ HK.out GW357.out),(z31_ HB.out HI0.out GE357.out),z_HO364,Q_HA_HO364,fun _ _=>(z36_ HI0.out NB0_357.out),z_HO372,Q_HA_HO372,fun h0_=>absurd ((hoff 7 (by kernel_rfl)).symm.trans h0_) (by decide),fun h0_=>absurd ((hoff 11 (by kernel_rfl)).symm.trans h0_) (by decide),fun h0_=>absurd ((hoff 3 (by kernel_rfl)).symm.trans h0_) (by decide),fun h0_=>absurd ((hoff 8 (by kernel_rfl)).symm.trans h0_) (by decide)⟩
       refine steps_cons ?_ ?_
       ·rintro b a w' ⟨v363,adz_v363,v371,adz_v371,m3_,m8_,ha,Q_BK357,Q_HI0,Q_HK,Q_HB,Q_HO364,Q_HA_HO364,Q_HI0_e2,Q_HO372,Q_HA_HO372,Q_HI0_e7,Q_BK357_e11,Q_X3_,Q_X8_⟩ hb_ hon hoff
        refine ⟨_,rfl,fun K hK=>?_⟩
        have e5:a.tmps[5]? = some (v363):=by rw [ha];exact putSel_on (e:=(0,5,v363)) 0 rfl rfl (hon 0 (by kernel_rfl)) rfl
        have e7:a.tmps[7]? = some (.int .i64 t365):=by rw [ha];exact putSel_on (e:=(2,7,.int .i64 t365)) 1 rfl rfl (hon 2 (by kernel_rfl)) rfl
        replace ha:=aM ha
        have BK357:=aM (Q_BK357 (hoff 11 (by kernel_rfl)))
        have HK:=aM Q_HK
        have HB:=aM Q_HB
        have HO364:=aM (Q_HO364 (hon 0 (by kernel_rfl)))
        have HA_HO364:=aM (Q_HA_HO364 (hon 0 (by kernel_rfl)))
        obtain ⟨c_,hv_⟩:=HA_HO364.out
        rw [hv_] at e5
        refine value_ (w1:=w') (v:=.pointer (some (adz_v363.add (t365).toNat))) (by rfl) rfl ?_ ?_
        ·go_simp
         (try simp only [i64_w])
         try rfl
        refine hK.out _ _ ⟨v363,adz_v363,v371,adz_v371,(.pointer (some (adz_v363.add (t365).toNat))),m8_,(by rw [ha.out];exact putSel_upk 2 hb_ rfl rfl rfl),Q_BK357,fun h0_=>absurd ((hon 2 (by kernel_rfl)).symm.trans h0_) (by decide),Q_HK,Q_HB,Q_HO364,Q_HA_HO364,Q_HI0_e2,Q_HO372,Q_HA_HO372,Q_HI0_e7,fun h0_=>absurd ((hoff 11 (by kernel_rfl)).symm.trans h0_) (by decide),fun _=>rfl,Q_X8_⟩
       refine steps_cons ?_ ?_
       ·rintro b a w' ⟨v363,adz_v363,v371,adz_v371,m3_,m8_,ha,Q_BK357,Q_HI0,Q_HK,Q_HB,Q_HO364,Q_HA_HO364,Q_HI0_e2,Q_HO372,Q_HA_HO372,Q_HI0_e7,Q_BK357_e11,Q_X3_,Q_X8_⟩ hb_ hon hoff
        refine ⟨_,rfl,fun K hK=>?_⟩
        have e8:a.tmps[8]? = some (m3_):=by rw [ha];exact putSel_on (e:=(3,8,m3_)) 2 rfl rfl (hon 3 (by kernel_rfl)) rfl
        rw [Q_X3_ (hon 3 (by kernel_rfl))] at e8
        replace ha:=aM ha
        have BK357:=aM (Q_BK357 (hoff 11 (by kernel_rfl)))
        have HK:=aM Q_HK
        have HB:=aM Q_HB
        have HO364:=aM (Q_HO364 (hon 0 (by kernel_rfl)))
        have HA_HO364:=aM (Q_HA_HO364 (hon 0 (by kernel_rfl)))
        obtain ⟨c_,hv_⟩:=HA_HO364.out
        have hF_:=HO364.out
        rw [hv_] at hF_
        obtain ⟨ad_,ea_,hx_⟩:=Kd.at_int (Kd.R_reads' hF_).2.2 t365 (of_eq_true pi369) (of_eq_true qi369)
        cases ea_
        refine value_ (w1:=w') (v:=.int .i64 (rd y362 t365)) (by rfl) rfl ?_ ?_
        ·go_simp
         (try simp only [i64_w])
         try rfl
        refine hK.out _ _ ⟨v363,adz_v363,v371,adz_v371,m3_,m8_,(by rw [ha.out];exact putSel_upk 3 hb_ rfl rfl rfl),Q_BK357,fun h0_=>absurd ((hon 2 (by kernel_rfl)).symm.trans h0_) (by decide),Q_HK,Q_HB,Q_HO364,Q_HA_HO364,Q_HI0_e2,Q_HO372,Q_HA_HO372,Q_HI0_e7,fun h0_=>absurd ((hoff 11 (by kernel_rfl)).symm.trans h0_) (by decide),Q_X3_,Q_X8_⟩
       refine steps_cons ?_ ?_
       ·rintro b a w' ⟨v363,adz_v363,v371,adz_v371,m3_,m8_,ha,Q_BK357,Q_HI0,Q_HK,Q_HB,Q_HO364,Q_HA_HO364,Q_HI0_e2,Q_HO372,Q_HA_HO372,Q_HI0_e7,Q_BK357_e11,Q_X3_,Q_X8_⟩ hb_ hon hoff
        refine ⟨_,rfl,fun K hK=>?_⟩
        replace ha:=aM ha
        have BK357:=aM (Q_BK357 (hoff 11 (by kernel_rfl)))
        have HK:=aM Q_HK
        have HB:=aM Q_HB
        refine Kd.R_lit_step (Kd.int .i64) _ 2 ?hg (N:=10) ?hd (xs:=([0,1,1000000,1000001]:List Int)) (inner:=[.int .i64 0,.int .i64 1,.int .i64 1000000,.int .i64 1000001]) (ok:=fun _=>True) (okp:=fun _=>True) ?hr ?hp (fun _ hk=>hk) trivial (Below.refl _ _) (Nat.le_refl _) (by simp) ?_;(case hd=>rfl);(case hg=>rfl);(case hr=>first | (go_simp;done) | (go_simp;rfl));(case hp=>exact (Reps.one (show Kd.M (Kd.int .i64) _ _ _ 0 [.int .i64 0] from rfl) (Reps.one (show Kd.M (Kd.int .i64) _ _ _ 1 [.int .i64 1] from rfl) (Reps.one (show Kd.M (Kd.int .i64) _ _ _ 1000000 [.int .i64 1000000] from rfl) (Reps.one (show Kd.M (Kd.int .i64) _ _ _ 1000001 [.int .i64 1000001] from rfl) (Reps.none _ _))))))
        intro v371 w13 ho14 hb hg_ hnew_
        clear hg_ hnew_
        (first | rw [← Ny370.out] at ho14 | (simp only [Int.reduceToNat] at ho14;rw [← Ny370.out] at ho14))
        have n0_:=aM (Kd.R_lower ho14 (keep_size (w:=w) (g:=g) (row:=none) (z11_ HK.out GW357.out)))
        have n2_:=aM (blkB_ BK357.out hb)
        have n3_:=aM (KeepBut.trans (z11_ HK.out GW357.out) (KeepBut.of_below hb g none) (.inl rfl))
        have n4_:=aM (below_step (z4_ HB.out GE357.out) hb)
        have z_HI0:=fun (h0_:b 2=false)=>(show IsS118 w0 w13 g s0_0 t359 t360 t361 from by first | exact (IsS118.below (by repeat (first | (with_reducible first | exact (Q_HI0 h0_) | apply IsS118.alloc | apply IsS118.drewN | apply IsS118.drew | apply IsS118.set_1 | apply IsS118.set_2 | apply IsS118.set_3 | refine IsS118.far ?_ (by exact NB0_357.out) _) | exact (Q_HI0 h0_))) hb))
        have z_HO364:=fun (h0_:b 0=true)=>(show Kd.R (Kd.int .i64) 2 w13 w.heap.size (fun _=>True) v363 y362 from by first | exact (Kd.R_elder' (z40_) (Kd.R_base ho14) hb) | exact Kd.R_mono (Kd.R_elder' (z40_) (Kd.R_base ho14) hb) (fun _ h_=>by first | trivial | exact h_ | exact h_.1))
        have z_HI0_e2:=fun (h0_:b 2=true) (h1_:b 7=false)=>(show IsS118 w0 w13 g s0_0 t366 t367 t368 from by first | exact (IsS118.below (by repeat (first | (with_reducible first | exact (Q_HI0_e2 h0_ h1_) | apply IsS118.alloc | apply IsS118.drewN | apply IsS118.drew | apply IsS118.set_1 | apply IsS118.set_2 | apply IsS118.set_3 | refine IsS118.far ?_ (by exact NB0_357.out) _) | exact (Q_HI0_e2 h0_ h1_))) hb))
        have z_HI0_e7:=fun (h0_:b 7=true)=>(show IsS118 w0 w13 g s0_0 t374 t375 t376 from by first | exact (IsS118.below (by repeat (first | (with_reducible first | exact (Q_HI0_e7 h0_) | apply IsS118.alloc | apply IsS118.drewN | apply IsS118.drew | apply IsS118.set_1 | apply IsS118.set_2 | apply IsS118.set_3 | refine IsS118.far ?_ (by exact NB0_357.out) _) | exact (Q_HI0_e7 h0_))) hb))
        clear BK357
        clear HK
        clear HB
        have HO372:=n0_
        have BK357:=n2_
        have HK:=n3_
        have HB:=n4_
        clear n0_ n2_ n3_ n4_
        clear hb ho14
        obtain ⟨Ao15,co15,eo15⟩:=Kd.R_slice HO372.out
        subst eo15
        obtain ⟨ado15,fo15,_⟩:=Kd.at_int (Kd.R_reads' HO372.out).2.2 0 (by decide) (by rw [Ny370.out];simp)
        cases fo15
        refine hK.out _ _ ⟨v363,adz_v363,.slice (some ado15) y370.length co15,ado15,m3_,m8_,(by rw [ha.out];exact putSel_upk 4 hb_ rfl rfl rfl),fun _=>(z2_ BK357.out),z_HI0,(z11_ HK.out GW357.out),(z4_ HB.out GE357.out),z_HO364,Q_HA_HO364,z_HI0_e2,fun _=>(z0_ HO372.out),fun _=>⟨_,rfl⟩,z_HI0_e7,fun h0_=>absurd ((hoff 11 (by kernel_rfl)).symm.trans h0_) (by decide),Q_X3_,fun h0_=>absurd ((hoff 8 (by kernel_rfl)).symm.trans h0_) (by decide)⟩
       refine steps_cons ?_ ?_
       ·rintro b a w' ⟨v363,adz_v363,v371,adz_v371,m3_,m8_,ha,Q_BK357,Q_HI0,Q_HK,Q_HB,Q_HO364,Q_HA_HO364,Q_HI0_e2,Q_HO372,Q_HA_HO372,Q_HI0_e7,Q_BK357_e11,Q_X3_,Q_X8_⟩ hb_ hon hoff
        refine ⟨_,rfl,fun K hK=>?_⟩
        have e11:a.tmps[11]? = some (.pointer (some ⟨g,0,none⟩)):=by rw [ha];exact (putSel_off rfl).trans rfl
        replace ha:=aM ha
        have BK357:=aM (Q_BK357 (hoff 11 (by kernel_rfl)))
        have HK:=aM Q_HK
        have HB:=aM Q_HB
        have HI0:=aM (Q_HI0_e2 (hon 2 (by kernel_rfl)) hb_)
        refine goes_ Try.func74 (by kernel_rfl) rfl #[.pointer (some ⟨g,0,none⟩),.int .i64 4] (by rfl) rfl rfl (by first | (simp only [List.map_toArray,List.map_cons,List.map_nil,Act.eval,Array.getD_eq_getD_getElem?,Option.getD_some,e11];done) | (simp only [List.map_toArray,List.map_cons,List.map_nil,Act.eval,Array.getD_eq_getD_getElem?,Option.getD_some,e11];rfl)) ?_
        with_reducible refine (Y2.calls g s0_0 t366 t367 t368 4 t373 t374 t375 t376 w0 _ ?s1 ?s2 A7.out).mono ?_
        (case s1=>repeat (first | (with_reducible first | exact HI0.out | apply IsS118.alloc | apply IsS118.drewN | apply IsS118.drew | apply IsS118.set_1 | apply IsS118.set_2 | apply IsS118.set_3 | refine IsS118.far ?_ (by exact NB0_357.out) _) | exact HI0.out))
        (case s2=>repeat (first | (with_reducible first | exact HB.out | apply below_alloc | apply pw_below_drewN | apply below_drew1 | refine below_set ?_ (IsS118.ge HI0.out) | refine below_set ?_ GE357.out) | exact HB.out))
        rintro e w15 ⟨rfl,hi,hb,hk⟩
        refine ⟨_,rfl,?_⟩
        have n0_:=aM (KeepBut.blk hk (g':=gb357) (o:=.cells #[.int .i64 0,.int .i64 0] 49 (0,0)) (z2_ BK357.out) NB357_0.out (by simp))
        have n1_:=aM (KeepBut.trans (z11_ HK.out GW357.out) hk (.inl rfl))
        have n2_:=aM (hb)
        have n3_:=aM (hi)
        have z_HO364:=fun (h0_:b 0=true)=>(show Kd.R (Kd.int .i64) 2 w15 w.heap.size (fun _=>True) v363 y362 from by first | exact (Kd.R_mono (Kd.R_keep (IsS118.apart (show IsS118 w0 _ g s0_0 t366 t367 t368 from by repeat (first | (with_reducible first | exact HI0.out | apply IsS118.alloc | apply IsS118.drewN | apply IsS118.drew | apply IsS118.set_1 | apply IsS118.set_2 | apply IsS118.set_3 | refine IsS118.far ?_ (by exact NB0_357.out) _) | exact HI0.out)) (z40_) (by decide)) hk (fun _ h=>h.2)) (fun _ h=>h.1)) | exact Kd.R_mono (Kd.R_mono (Kd.R_keep (IsS118.apart (show IsS118 w0 _ g s0_0 t366 t367 t368 from by repeat (first | (with_reducible first | exact HI0.out | apply IsS118.alloc | apply IsS118.drewN | apply IsS118.drew | apply IsS118.set_1 | apply IsS118.set_2 | apply IsS118.set_3 | refine IsS118.far ?_ (by exact NB0_357.out) _) | exact HI0.out)) (z40_) (by decide)) hk (fun _ h=>h.2)) (fun _ h=>h.1)) (fun _ h_=>by first | trivial | exact h_ | exact h_.1))
        have z_HO372:=fun (h0_:b 5=true)=>(show Kd.R (Kd.int .i64) 2 w15 w.heap.size (fun _=>True) v371 y370 from by first | exact (Kd.R_mono (Kd.R_keep (IsS118.apart (show IsS118 w0 _ g s0_0 t366 t367 t368 from by repeat (first | (with_reducible first | exact HI0.out | apply IsS118.alloc | apply IsS118.drewN | apply IsS118.drew | apply IsS118.set_1 | apply IsS118.set_2 | apply IsS118.set_3 | refine IsS118.far ?_ (by exact NB0_357.out) _) | exact HI0.out)) (z39_) (by decide)) hk (fun _ h=>h.2)) (fun _ h=>h.1)) | exact Kd.R_mono (Kd.R_mono (Kd.R_keep (IsS118.apart (show IsS118 w0 _ g s0_0 t366 t367 t368 from by repeat (first | (with_reducible first | exact HI0.out | apply IsS118.alloc | apply IsS118.drewN | apply IsS118.drew | apply IsS118.set_1 | apply IsS118.set_2 | apply IsS118.set_3 | refine IsS118.far ?_ (by exact NB0_357.out) _) | exact HI0.out)) (z39_) (by decide)) hk (fun _ h=>h.2)) (fun _ h=>h.1)) (fun _ h_=>by first | trivial | exact h_ | exact h_.1))
        clear BK357
        clear HK
        clear HB
        clear HI0
        have BK357:=n0_
        have HK:=n1_
        have HB:=n2_
        have HI0:=n3_
        clear n0_ n1_ n2_ n3_
        (try clear hb)
        (try clear hk)
        (try clear hi)
        refine hK.out _ _ ⟨v363,adz_v363,v371,adz_v371,m3_,m8_,(by rw [ha.out];exact putSel_upk 5 hb_ rfl rfl rfl),fun _=>(z2_ BK357.out),fun h0_=>absurd ((hon 2 (by kernel_rfl)).symm.trans h0_) (by decide),(z11_ HK.out GW357.out),(z31_ HB.out HI0.out GE357.out),z_HO364,Q_HA_HO364,fun _ h1_=>absurd ((up_self b 7).symm.trans h1_) (by decide),z_HO372,Q_HA_HO372,fun _=>(z36_ HI0.out NB0_357.out),fun h0_=>absurd ((hoff 11 (by kernel_rfl)).symm.trans h0_) (by decide),Q_X3_,fun h0_=>absurd ((hoff 8 (by kernel_rfl)).symm.trans h0_) (by decide)⟩
       refine steps_cons ?_ ?_
       ·rintro b a w' ⟨v363,adz_v363,v371,adz_v371,m3_,m8_,ha,Q_BK357,Q_HI0,Q_HK,Q_HB,Q_HO364,Q_HA_HO364,Q_HI0_e2,Q_HO372,Q_HA_HO372,Q_HI0_e7,Q_BK357_e11,Q_X3_,Q_X8_⟩ hb_ hon hoff
        refine ⟨_,rfl,fun K hK=>?_⟩
        have e10:a.tmps[10]? = some (v371):=by rw [ha];exact putSel_on (e:=(5,10,v371)) 4 rfl rfl (hon 5 (by kernel_rfl)) rfl
        have e12:a.tmps[12]? = some (.int .i64 t373):=by rw [ha];exact putSel_on (e:=(7,12,.int .i64 t373)) 5 rfl rfl (hon 7 (by kernel_rfl)) rfl
        replace ha:=aM ha
        have BK357:=aM (Q_BK357 (hoff 11 (by kernel_rfl)))
        have HK:=aM Q_HK
        have HB:=aM Q_HB
        have HO372:=aM (Q_HO372 (hon 5 (by kernel_rfl)))
        have HA_HO372:=aM (Q_HA_HO372 (hon 5 (by kernel_rfl)))
        have HI0:=aM (Q_HI0_e7 (hon 7 (by kernel_rfl)))
        obtain ⟨c_,hv_⟩:=HA_HO372.out
        rw [hv_] at e10
        refine value_ (w1:=w') (v:=.pointer (some (adz_v371.add (t373).toNat))) (by rfl) rfl ?_ ?_
        ·go_simp
         (try simp only [i64_w])
         try rfl
        refine hK.out _ _ ⟨v363,adz_v363,v371,adz_v371,m3_,(.pointer (some (adz_v371.add (t373).toNat))),(by rw [ha.out];exact putSel_upk 6 hb_ rfl rfl rfl),Q_BK357,fun h0_=>absurd ((hon 2 (by kernel_rfl)).symm.trans h0_) (by decide),Q_HK,Q_HB,Q_HO364,Q_HA_HO364,fun _ h1_=>absurd ((hon 7 (by kernel_rfl)).symm.trans h1_) (by decide),Q_HO372,Q_HA_HO372,Q_HI0_e7,fun h0_=>absurd ((hoff 11 (by kernel_rfl)).symm.trans h0_) (by decide),Q_X3_,fun _=>rfl⟩
       refine steps_cons ?_ ?_
       ·rintro b a w' ⟨v363,adz_v363,v371,adz_v371,m3_,m8_,ha,Q_BK357,Q_HI0,Q_HK,Q_HB,Q_HO364,Q_HA_HO364,Q_HI0_e2,Q_HO372,Q_HA_HO372,Q_HI0_e7,Q_BK357_e11,Q_X3_,Q_X8_⟩ hb_ hon hoff
        refine ⟨_,rfl,fun K hK=>?_⟩
        have e13:a.tmps[13]? = some (m8_):=by rw [ha];exact putSel_on (e:=(8,13,m8_)) 6 rfl rfl (hon 8 (by kernel_rfl)) rfl
        rw [Q_X8_ (hon 8 (by kernel_rfl))] at e13
        replace ha:=aM ha
        have BK357:=aM (Q_BK357 (hoff 11 (by kernel_rfl)))
        have HK:=aM Q_HK
        have HB:=aM Q_HB
        have HO372:=aM (Q_HO372 (hon 5 (by kernel_rfl)))
        have HA_HO372:=aM (Q_HA_HO372 (hon 5 (by kernel_rfl)))
        have HI0:=aM (Q_HI0_e7 (hon 7 (by kernel_rfl)))
        obtain ⟨c_,hv_⟩:=HA_HO372.out
        have hF_:=HO372.out
        rw [hv_] at hF_
        obtain ⟨ad_,ea_,hx_⟩:=Kd.at_int (Kd.R_reads' hF_).2.2 t373 (of_eq_true pi377) (of_eq_true qi377)
        cases ea_
        refine value_ (w1:=w') (v:=.int .i64 (rd y370 t373)) (by rfl) rfl ?_ ?_
        ·go_simp
         (try simp only [i64_w])
         try rfl
        refine hK.out _ _ ⟨v363,adz_v363,v371,adz_v371,m3_,m8_,(by rw [ha.out];exact putSel_upk 7 hb_ rfl rfl rfl),Q_BK357,fun h0_=>absurd ((hon 2 (by kernel_rfl)).symm.trans h0_) (by decide),Q_HK,Q_HB,Q_HO364,Q_HA_HO364,fun _ h1_=>absurd ((hon 7 (by kernel_rfl)).symm.trans h1_) (by decide),Q_HO372,Q_HA_HO372,Q_HI0_e7,fun h0_=>absurd ((hoff 11 (by kernel_rfl)).symm.trans h0_) (by decide),Q_X3_,Q_X8_⟩
       refine steps_cons ?_ ?_
       ·rintro b a w' ⟨v363,adz_v363,v371,adz_v371,m3_,m8_,ha,Q_BK357,Q_HI0,Q_HK,Q_HB,Q_HO364,Q_HA_HO364,Q_HI0_e2,Q_HO372,Q_HA_HO372,Q_HI0_e7,Q_BK357_e11,Q_X3_,Q_X8_⟩ hb_ hon hoff
        refine ⟨_,rfl,fun K hK=>?_⟩
        have e9:a.tmps[9]? = some (.int .i64 (rd y362 t365)):=by rw [ha];exact putSel_on (e:=(4,9,.int .i64 (rd y362 t365))) 3 rfl rfl (hon 4 (by kernel_rfl)) rfl
        have e14:a.tmps[14]? = some (.int .i64 (rd y370 t373)):=by rw [ha];exact putSel_on (e:=(9,14,.int .i64 (rd y370 t373))) 7 rfl rfl (hon 9 (by kernel_rfl)) rfl
        replace ha:=aM ha
        have BK357:=aM (Q_BK357 (hoff 11 (by kernel_rfl)))
        have HK:=aM Q_HK
        have HB:=aM Q_HB
        have HO364:=aM (Q_HO364 (hon 0 (by kernel_rfl)))
        have HA_HO364:=aM (Q_HA_HO364 (hon 0 (by kernel_rfl)))
        have HO372:=aM (Q_HO372 (hon 5 (by kernel_rfl)))
        have HA_HO372:=aM (Q_HA_HO372 (hon 5 (by kernel_rfl)))
        have HI0:=aM (Q_HI0_e7 (hon 7 (by kernel_rfl)))
        refine value_ (w1:=w') (v:=.agg #[.int .i64 (rd y362 t365),.int .i64 (rd y370 t373)]) (by rfl) rfl ?_ ?_
        ·go_simp
         (try simp only [i64_w])
         try rfl
        refine hK.out _ _ ⟨v363,adz_v363,v371,adz_v371,m3_,m8_,(by rw [ha.out];exact putSel_upk 8 hb_ rfl rfl rfl),Q_BK357,fun h0_=>absurd ((hon 2 (by kernel_rfl)).symm.trans h0_) (by decide),Q_HK,Q_HB,Q_HO364,Q_HA_HO364,fun _ h1_=>absurd ((hon 7 (by kernel_rfl)).symm.trans h1_) (by decide),Q_HO372,Q_HA_HO372,Q_HI0_e7,fun h0_=>absurd ((hoff 11 (by kernel_rfl)).symm.trans h0_) (by decide),Q_X3_,Q_X8_⟩
       refine steps_cons ?_ ?_
       ·rintro b a w' ⟨v363,adz_v363,v371,adz_v371,m3_,m8_,ha,Q_BK357,Q_HI0,Q_HK,Q_HB,Q_HO364,Q_HA_HO364,Q_HI0_e2,Q_HO372,Q_HA_HO372,Q_HI0_e7,Q_BK357_e11,Q_X3_,Q_X8_⟩ hb_ hon hoff
        refine ⟨_,rfl,fun K hK=>?_⟩
        have e2:a.tmps[2]? = some (.pointer (some ⟨gb357,0,none⟩)):=by rw [ha];exact (putSel_off rfl).trans rfl
        have e15:a.tmps[15]? = some (.agg #[.int .i64 (rd y362 t365),.int .i64 (rd y370 t373)]):=by rw [ha];exact putSel_on (e:=(10,15,.agg #[.int .i64 (rd y362 t365),.int .i64 (rd y370 t373)])) 8 rfl rfl (hon 10 (by kernel_rfl)) rfl
        replace ha:=aM ha
        have BK357:=aM (Q_BK357 hb_)
        have HK:=aM Q_HK
        have HB:=aM Q_HB
        have HO364:=aM (Q_HO364 (hon 0 (by kernel_rfl)))
        have HA_HO364:=aM (Q_HA_HO364 (hon 0 (by kernel_rfl)))
        have HO372:=aM (Q_HO372 (hon 5 (by kernel_rfl)))
        have HA_HO372:=aM (Q_HA_HO372 (hon 5 (by kernel_rfl)))
        have HI0:=aM (Q_HI0_e7 (hon 7 (by kernel_rfl)))
        obtain ⟨co22,eo22⟩:=HA_HO364.out
        clear HA_HO364
        subst eo22
        obtain ⟨co23,eo23⟩:=HA_HO372.out
        clear HA_HO372
        subst eo23
        have hs24:w'.cell? ⟨gb357,0,none⟩=some (.int .i64 0):=(blk_cell BK357.out 0).trans rfl
        have hfs24:=blk_frozen BK357.out 0
        have hs25:w'.cell? ⟨gb357,1,none⟩=some (.int .i64 0):=(blk_cell BK357.out 1).trans rfl
        have hfs25:=blk_frozen BK357.out 1
        refine skip_ (w1:=?_) (by rfl) rfl ?_ ?_
        rotate_left
        ·go_simp
         rfl
        refine hK.out _ _ ⟨.slice (some adz_v363) y362.length co22,adz_v363,.slice (some adz_v371) y370.length co23,adz_v371,m3_,m8_,(by rw [ha.out];exact putSel_none (v:=undef) rfl),fun h0_=>absurd ((up_self b 11).symm.trans h0_) (by decide),fun h0_=>absurd ((hon 2 (by kernel_rfl)).symm.trans h0_) (by decide),(z11_ HK.out GW357.out),(z31_ HB.out HI0.out GE357.out),fun _=>(by (with_reducible repeat (first | apply Kd.R_alloc | apply Kd.R_drewN | apply Kd.R_drew));exact Kd.R_mono (rf2_ (Kd.R_types HO364.out BK357.out (by decide)) (fun _ hk=>hk.2)) (fun _ hk=>hk.1)),fun _=>⟨_,rfl⟩,fun _ h1_=>absurd ((hon 7 (by kernel_rfl)).symm.trans h1_) (by decide),fun _=>(by (with_reducible repeat (first | apply Kd.R_alloc | apply Kd.R_drewN | apply Kd.R_drew));exact Kd.R_mono (rf2_ (Kd.R_types HO372.out BK357.out (by decide)) (fun _ hk=>hk.2)) (fun _ hk=>hk.1)),fun _=>⟨_,rfl⟩,fun _=>(z36_ HI0.out NB0_357.out),fun _=>(z15_ BK357.out),Q_X3_,Q_X8_⟩
       exact steps_nil
      rintro b a w23 hall ⟨v363,adz_v363,v371,adz_v371,m3_,m8_,ha,Q_BK357,Q_HI0,Q_HK,Q_HB,Q_HO364,Q_HA_HO364,Q_HI0_e2,Q_HO372,Q_HA_HO372,Q_HI0_e7,Q_BK357_e11,Q_X3_,Q_X8_⟩
      clear BK357 HB HI0 HK
      have hb0_:=hall 0 (by kernel_rfl)
      have hb2_:=hall 2 (by kernel_rfl)
      have hb3_:=hall 3 (by kernel_rfl)
      have hb4_:=hall 4 (by kernel_rfl)
      have hb5_:=hall 5 (by kernel_rfl)
      have hb7_:=hall 7 (by kernel_rfl)
      have hb8_:=hall 8 (by kernel_rfl)
      have hb9_:=hall 9 (by kernel_rfl)
      have hb10_:=hall 10 (by kernel_rfl)
      have hb11_:=hall 11 (by kernel_rfl)
      subst ha
      obtain rfl:=Q_X3_ hb3_
      obtain rfl:=Q_X8_ hb8_
      simp only [putSel,hb0_,hb2_,hb3_,hb4_,hb5_,hb7_,hb8_,hb9_,hb10_,hb11_,if_true,Act.put,List.setIfInBounds_toArray,List.set_cons_zero,List.set_cons_succ]
      clear Q_BK357
      clear Q_HI0
      have HK:=aM Q_HK
      clear Q_HK
      have HB:=aM Q_HB
      clear Q_HB
      have HO364:=aM (Q_HO364 hb0_)
      clear Q_HO364
      have HA_HO364:=aM (Q_HA_HO364 hb0_)
      clear Q_HA_HO364
      clear Q_HI0_e2
      have HO372:=aM (Q_HO372 hb5_)
      clear Q_HO372
      have HA_HO372:=aM (Q_HA_HO372 hb5_)
      clear Q_HA_HO372
      have HI0:=aM (Q_HI0_e7 hb7_)
      clear Q_HI0_e7
      have BK357:=aM (Q_BK357_e11 hb11_)
      clear Q_BK357_e11
      clear hall hb0_ hb2_ hb3_ hb4_ hb5_ hb7_ hb8_ hb9_ hb10_ hb11_
      obtain ⟨co24,eo24⟩:=HA_HO364.out
      clear HA_HO364
      subst eo24
      obtain ⟨co25,eo25⟩:=HA_HO372.out
      clear HA_HO372
      subst eo25
      try go_wp2
      refine bodyPost_ret (results_cell_row rfl _ _ gb357 49 #[.int .i64 (rd y362 t365),.int .i64 (rd y370 t373)] (0,0) _ rfl (z2_ BK357.out) Try.underlying49 rfl (by kernel_rfl)) rfl ?_
      exact ⟨z5_,z36_ HI0.out NB0_357.out,z31_ HB.out HI0.out GE357.out,z11_ HK.out GW357.out⟩
     ·rw [if_neg c9] at H
      exact nO H
    ·rw [if_neg c8] at H
     exact nO H
   ·rw [if_neg c6] at H
    exact nO H
  ·rw [if_neg c5] at H
   exact nO H
 ·replace c3:=Bool.eq_false_iff.mpr c3
  subst c3
  have H1:((Y2.f s0_0 t359 t360 t361 3).bind fun bt378=>((Y2.f s0_0 bt378.2.1 bt378.2.2.1 bt378.2.2.2 4).bind fun bt382=>(some (wrap64 (1+bt378.1),wrap64 (1+bt382.1),bt382.2.1,bt382.2.2.1,bt382.2.2.2))))=some (r1,r2,r3,r4,r5):=by rw [if_neg (show ¬ (false=true) by decide)] at H;exact H
  clear H
  have H:=H1
  clear H1
  replace H:=bS H
  obtain ⟨⟨t378,t379,t380,t381⟩,A260,H⟩:=H
  replace H:((Y2.f s0_0 t379 t380 t381 4).bind fun bt382=>(some (wrap64 (1+t378),wrap64 (1+bt382.1),bt382.2.1,bt382.2.2.1,bt382.2.2.2)))=some (r1,r2,r3,r4,r5):=H
  have A26:=aM A260
  clear A260
  replace H:=bS H
  obtain ⟨⟨t382,t383,t384,t385⟩,A270,H⟩:=H
  replace H:(some (wrap64 (1+t378),wrap64 (1+t382),t383,t384,t385))=some (r1,r2,r3,r4,r5):=H
  have A27:=aM A270
  clear A270
  simp only [Option.some.injEq,Prod.mk.injEq] at H
  obtain ⟨rfl,rfl,rfl,rfl,rfl⟩:=H
  go_enter Try.func75,Try.ntmps75
  go_wp2_with (first | ((with_reducible refine gd_ 2 ?_);refine be_ 2 #[.int .i64 0,.int .i64 0] 49 ?_;intro gb357 hg w28 hbox hb;have n0_:=aM (IsS118.below (z12_ HI0.out) hb);have n1_:=aM (KeepBut.trans (z6_ HK.out) (KeepBut.of_below hb g none) (.inl rfl));have n2_:=aM (below_step (z10_ HB.out HI0.out) hb);have n3_:=aM (hbox);have n4_:=aM ((z19_ HK.out:w.heap.size≤gb357));have n5_:=aM ((Nat.le_trans HW0.out (z19_ HK.out:w.heap.size≤gb357):w0.heap.size≤gb357));have n6_:=aM ((by rw [hg];exact Nat.ne_of_lt (IsS118.lt (show IsS118 w0 _ g s0_0 s0_1 s0_2 s0_3 from by repeat (first | (with_reducible first | exact HI0.out | apply IsS118.alloc | apply IsS118.drewN | apply IsS118.drew | apply IsS118.set_1 | apply IsS118.set_2 | apply IsS118.set_3) | exact HI0.out))):g≠gb357));have n7_:=aM ((by rw [hg];exact Nat.ne_of_gt (IsS118.lt (show IsS118 w0 _ g s0_0 s0_1 s0_2 s0_3 from by repeat (first | (with_reducible first | exact HI0.out | apply IsS118.alloc | apply IsS118.drewN | apply IsS118.drew | apply IsS118.set_1 | apply IsS118.set_2 | apply IsS118.set_3) | exact HI0.out))):gb357≠g));clear HI0;clear HK;clear HB;have HI0:=n0_;have HK:=n1_;have HB:=n2_;have BK357:=n3_;have GW357:=n4_;have GE357:=n5_;have NB0_357:=n6_;have NB357_0:=n7_;clear n0_ n1_ n2_ n3_ n4_ n5_ n6_ n7_;clear hb hbox hg) | ((with_reducible refine gc_ 97 ?_);refine gl_ (some 4) Try.func97 #[.pointer (some ⟨g,0,none⟩),.int .i64 15] ?_;(with_reducible refine (Y38.calls g s0_0 s0_1 s0_2 s0_3 15 false t359 t360 t361 w0 _ ?s1 ?s2 A2.out).mono ?_);(case s1=>repeat (first | (with_reducible first | exact HI0.out | apply IsS118.alloc | apply IsS118.drewN | apply IsS118.drew | apply IsS118.set_1 | apply IsS118.set_2 | apply IsS118.set_3 | refine IsS118.far ?_ (by exact NB0_357.out) _) | exact HI0.out));(case s2=>repeat (first | (with_reducible first | exact HB.out | apply below_alloc | apply pw_below_drewN | apply below_drew1 | refine below_set ?_ (IsS118.ge HI0.out) | refine below_set ?_ GE357.out) | exact HB.out));rintro e w29 ⟨rfl,hi,hb,hk⟩;refine ⟨_,rfl,?_⟩;have n0_:=aM (KeepBut.blk hk (g':=gb357) (o:=.cells #[.int .i64 0,.int .i64 0] 49 (0,0)) (z2_ BK357.out) NB357_0.out (by simp));have n1_:=aM (KeepBut.trans (z11_ HK.out GW357.out) hk (.inl rfl));have n2_:=aM (hb);have n3_:=aM (hi);clear BK357;clear HK;clear HB;clear HI0;have BK357:=n0_;have HK:=n1_;have HB:=n2_;have HI0:=n3_;clear n0_ n1_ n2_ n3_;(try clear hb);(try clear hk);(try clear hi)) | ((with_reducible refine gc_ 74 ?_);refine gl_ (some 17) Try.func74 #[.pointer (some ⟨g,0,none⟩),.int .i64 3] ?_;(with_reducible refine (Y2.calls g s0_0 t359 t360 t361 3 t378 t379 t380 t381 w0 _ ?s1 ?s2 A26.out).mono ?_);(case s1=>repeat (first | (with_reducible first | exact HI0.out | apply IsS118.alloc | apply IsS118.drewN | apply IsS118.drew | apply IsS118.set_1 | apply IsS118.set_2 | apply IsS118.set_3 | refine IsS118.far ?_ (by exact NB0_357.out) _) | exact HI0.out));(case s2=>repeat (first | (with_reducible first | exact HB.out | apply below_alloc | apply pw_below_drewN | apply below_drew1 | refine below_set ?_ (IsS118.ge HI0.out) | refine below_set ?_ GE357.out) | exact HB.out));rintro e w30 ⟨rfl,hi,hb,hk⟩;refine ⟨_,rfl,?_⟩;have n0_:=aM (KeepBut.blk hk (g':=gb357) (o:=.cells #[.int .i64 0,.int .i64 0] 49 (0,0)) (z2_ BK357.out) NB357_0.out (by simp));have n1_:=aM (KeepBut.trans (z11_ HK.out GW357.out) hk (.inl rfl));have n2_:=aM (hb);have n3_:=aM (hi);clear BK357;clear HK;clear HB;clear HI0;have BK357:=n0_;have HK:=n1_;have HB:=n2_;have HI0:=n3_;clear n0_ n1_ n2_ n3_;(try clear hb);(try clear hk);(try clear hi)) | ((with_reducible refine gc_ 74 ?_);refine gl_ (some 20) Try.func74 #[.pointer (some ⟨g,0,none⟩),.int .i64 4] ?_;(with_reducible refine (Y2.calls g s0_0 t379 t380 t381 4 t382 t383 t384 t385 w0 _ ?s1 ?s2 A27.out).mono ?_);(case s1=>repeat (first | (with_reducible first | exact HI0.out | apply IsS118.alloc | apply IsS118.drewN | apply IsS118.drew | apply IsS118.set_1 | apply IsS118.set_2 | apply IsS118.set_3 | refine IsS118.far ?_ (by exact NB0_357.out) _) | exact HI0.out));(case s2=>repeat (first | (with_reducible first | exact HB.out | apply below_alloc | apply pw_below_drewN | apply below_drew1 | refine below_set ?_ (IsS118.ge HI0.out) | refine below_set ?_ GE357.out) | exact HB.out));rintro e w31 ⟨rfl,hi,hb,hk⟩;refine ⟨_,rfl,?_⟩;have n0_:=aM (KeepBut.blk hk (g':=gb357) (o:=.cells #[.int .i64 0,.int .i64 0] 49 (0,0)) (z2_ BK357.out) NB357_0.out (by simp));have n1_:=aM (KeepBut.trans (z11_ HK.out GW357.out) hk (.inl rfl));have n2_:=aM (hb);have n3_:=aM (hi);clear BK357;clear HK;clear HB;clear HI0;have BK357:=n0_;have HK:=n1_;have HB:=n2_;have HI0:=n3_;clear n0_ n1_ n2_ n3_;(try clear hb);(try clear hk);(try clear hi);have hnb32:=NB357_0.out;have hnc32:=NB0_357.out;have ⟨hcz33_0,hcz33_1,hfz33_0,hfz33_1⟩:=cz2_ BK357.out))
  refine bodyPost_ret (results_cell_row rfl _ _ gb357 49 #[.int .i64 (wrap64 (1+t378)),.int .i64 (wrap64 (1+t382))] (0,0) _ rfl (z15_ BK357.out) Try.underlying49 rfl (by kernel_rfl)) rfl ?_
  exact ⟨z5_,z36_ HI0.out NB0_357.out,z31_ HB.out HI0.out GE357.out,z11_ HK.out GW357.out⟩


/-! ### Y10: function 69 -/
def Y10.l0:Nat→List (S49)→Int→List Int→Int→Int→Int→Option ((List (S49)) × Int × Int × Int)
 | 0,_,_,_,_,_,_=>none
 | k+1,x3,x4,x1000,x1001,x1002,x1003=>if x4>0 then ((Y36.f x1000 x1001 x1002 x1003).bind fun bt393=>((Y16.f k x3 bt393.1 bt393.2.1).bind fun bt398=>(if bt398.2=0 then (Y10.l0 k bt398.1 (wrap64 (x4-1)) x1000 bt393.2.2.1 bt393.2.2.2.1 bt393.2.2.2.2) else (Y10.l0 k x3 (wrap64 (x4-1)) x1000 bt393.2.2.1 bt393.2.2.2.1 bt393.2.2.2.2)))) else ((Y38.f x1000 x1001 x1002 x1003 15).bind fun bt403=>(if bt403.1=true then ((Y36.f x1000 bt403.2.1 bt403.2.2.1 bt403.2.2.2).bind fun bt407=>(if x3.length<8796093022208 then (some ((x3 ++ [(⟨bt407.1,bt407.2.1⟩:S49)]),bt407.2.2.1,bt407.2.2.2.1,bt407.2.2.2.2)) else (none))) else (some (x3,bt403.2.1,bt403.2.2.1,bt403.2.2.2))))
def Y10.f (k:Nat) (s0_0:List Int) (s0_1:Int) (s0_2:Int) (s0_3:Int):Option ((List (S49)) × Int × Int × Int):=(Y2.f s0_0 s0_1 s0_2 s0_3 5).bind fun bt389=>(Y10.l0 k (([]:List (S49))) bt389.1 s0_0 bt389.2.1 bt389.2.2.1 bt389.2.2.2)
theorem Y10.mono_l:∀ k,(∀ y0 y1 y2 y3 y4 y5,LeO (Y10.l0 k y0 y1 y2 y3 y4 y5) (Y10.l0 (k+1) y0 y1 y2 y3 y4 y5))
 | 0=>by intros <;> exact LeO.none _
 | k+1=>by
  have ih0:=Y10.mono_l k
  have m0:=@Y16.mono
  ·intros
   unfold Y10.l0
   exact mO
theorem Y10.mono:∀ a0 a1 a2 a3 k,LeO (Y10.f k a0 a1 a2 a3) (Y10.f (k+1) a0 a1 a2 a3):=by
 intro a0 a1 a2 a3 k
 have m0:=@Y16.mono
 have ih0:=Y10.mono_l k
 unfold Y10.f
 exact mO
theorem Y10.calls (k:Nat) (g:Nat) (s0_0:List Int) (s0_1:Int) (s0_2:Int) (s0_3:Int) (r1:List (S49)) (r2:Int) (r3:Int) (r4:Int) (w0 w:World) (hI:IsS118 w0 w g s0_0 s0_1 s0_2 s0_3) (hB:Below w0.heap.size w0 w) (h:Y10.f k s0_0 s0_1 s0_2 s0_3=some (r1,r2,r3,r4)) :
  Calls Try.prog 69 #[.pointer (some ⟨g,0,none⟩)] w fun e w'=>∃ v0_:Value,e = .returned (v0_)∧Kd.R k49 49 w' w.heap.size (fun _=>True) v0_ r1∧IsS118 w0 w' g s0_0 r2 r3 r4∧Below w0.heap.size w0 w'∧KeepBut w w' g none:=by
 have hu53:=Try.underlying53
 have HI0:=aM hI
 have HK:=aM (KeepBut.refl w g none)
 have HL:=aM hB.size
 clear hI
 have HW0:=aM hB.size
 have HB:=aM hB
 clear hB
 have H:((Y2.f s0_0 s0_1 s0_2 s0_3 5).bind fun bt389=>(Y10.l0 k (([]:List (S49))) bt389.1 s0_0 bt389.2.1 bt389.2.2.1 bt389.2.2.2))=some (r1,r2,r3,r4):=h
 clear h
 obtain ⟨y386,hy386⟩:∃ y_:List (S49),y_=(([]:List (S49))):=⟨_,rfl⟩
 replace H:((Y2.f s0_0 s0_1 s0_2 s0_3 5).bind fun bt389=>(Y10.l0 k y386 bt389.1 s0_0 bt389.2.1 bt389.2.2.1 bt389.2.2.2))=some (r1,r2,r3,r4):=by first | (rw [hy386];with_reducible exact H) | (have H2_:=(Option.bind_some _ _).symm.trans H;rw [hy386];with_reducible exact H2_) | (have H2_:=(Option.bind_some _ _).symm.trans H;with_reducible exact H2_) | with_reducible exact H | (rw [hy386];exact H) | exact H
 have Ny386:=aM hy386
 clear hy386
 replace H:=bS H
 obtain ⟨⟨t389,t390,t391,t392⟩,A20,H⟩:=H
 replace H:(Y10.l0 k y386 t389 s0_0 t390 t391 t392)=some (r1,r2,r3,r4):=H
 have A2:=aM A20
 clear A20
 have H':=aM H
 clear H
 go_enter Try.func69,Try.ntmps69
 go_wp2_with (first | ((with_reducible refine gd_ 6 ?_);refine Kd.R_lit k49 _ 49 ?hg (N:=6) ?hd (xs:=([]:List (S49))) (inner:=[]) (ok:=fun _=>True) (okp:=fun _=>True) ?hr ?hp (fun _ hk=>hk) trivial (Below.refl _ _) (Nat.le_refl _) (by simp) ?_;(case hd=>rfl);(case hg=>rfl);(case hr=>first | (go_simp;done) | (go_simp;rfl));(case hp=>exact (Reps.none _ _));intro v387 w3 ho4 hb hg_ hnew_;clear hg_ hnew_;(first | rw [← Ny386.out] at ho4 | (simp only [Int.reduceToNat] at ho4;rw [← Ny386.out] at ho4));have n0_:=aM (Kd.R_lower ho4 (keep_size (w:=w) (g:=g) (row:=none) (z6_ HK.out)));have n1_:=aM (IsS118.below (z12_ HI0.out) hb);have n2_:=aM (KeepBut.trans (z6_ HK.out) (KeepBut.of_below hb g none) (.inl rfl));have n3_:=aM (below_step (z10_ HB.out HI0.out) hb);clear HI0;clear HK;clear HB;have HO388:=n0_;have HI0:=n1_;have HK:=n2_;have HB:=n3_;clear n0_ n1_ n2_ n3_;clear hb ho4) | ((with_reducible refine gc_ 74 ?_);refine gl_ (some 8) Try.func74 #[.pointer (some ⟨g,0,none⟩),.int .i64 5] ?_;(with_reducible refine (Y2.calls g s0_0 s0_1 s0_2 s0_3 5 t389 t390 t391 t392 w0 _ ?s1 ?s2 A2.out).mono ?_);(case s1=>repeat (first | (with_reducible first | exact HI0.out | apply IsS118.alloc | apply IsS118.drewN | apply IsS118.drew | apply IsS118.set_1 | apply IsS118.set_2 | apply IsS118.set_3) | exact HI0.out));(case s2=>repeat (first | (with_reducible first | exact HB.out | apply below_alloc | apply pw_below_drewN | apply below_drew1 | refine below_set ?_ (IsS118.ge HI0.out)) | exact HB.out));rintro e w5 ⟨rfl,hi,hb,hk⟩;refine ⟨_,rfl,?_⟩;have n0_:=aM (Kd.R_mono (Kd.R_keep (IsS118.apart (show IsS118 w0 _ g s0_0 s0_1 s0_2 s0_3 from by repeat (first | (with_reducible first | exact HI0.out | apply IsS118.alloc | apply IsS118.drewN | apply IsS118.drew | apply IsS118.set_1 | apply IsS118.set_2 | apply IsS118.set_3) | exact HI0.out)) (z0_ HO388.out) (by decide)) hk (fun _ h=>h.2)) (fun _ h=>h.1));have n1_:=aM (KeepBut.trans (z6_ HK.out) hk (.inl rfl));have n2_:=aM (hb);have n3_:=aM (hi);clear HO388;clear HK;clear HB;clear HI0;have HO388:=n0_;have HK:=n1_;have HB:=n2_;have HI0:=n3_;clear n0_ n1_ n2_ n3_;(try clear hb);(try clear hk);(try clear hi)))
 go_loopg [3,4] k (fun kq v3 v4 w'=>∃ (x3_1:List (S49)) (x4_1:Int) (x1001_1:Int) (x1002_1:Int) (x1003_1:Int),v4 = .int .i64 x4_1∧Aside0 (Y10.l0 kq x3_1 x4_1 s0_0 x1001_1 x1002_1 x1003_1=some (r1,r2,r3,r4))∧Aside0 (kq≤k)∧Aside0 (Kd.R k49 49 w' w.heap.size (fun _=>True) v3 x3_1)∧Aside0 (IsS118 w0 w' g s0_0 x1001_1 x1002_1 x1003_1)∧Aside0 (KeepBut w w' g none)∧Aside0 (Below w0.heap.size w0 w'))
 case atStart=>exact ⟨(y386),(t389),(t390),(t391),(t392),(z3_),H',⟨Nat.le_refl _⟩,⟨z0_ HO388.out⟩,⟨z12_ HI0.out⟩,⟨z6_ HK.out⟩,⟨z10_ HB.out HI0.out⟩⟩
 case round =>
  clear H'
  try clear p2
  obtain ⟨x3_1,x4_1,x1001_1,x1002_1,x1003_1,rfl,HA,HK1,HO_3,HI0,HK,HB⟩:=hrel
  cases gk with
  | zero=>exact absurd HA.out (by simp [Y10.l0])
  | succ k1 =>
   have H:=HA.out
   clear HA
   simp only [Y10.l0] at H
   by_cases c6:x4_1>0
   ·rw [if_pos c6] at H
    have c6b0:decide (0<x4_1)=true:=dE c6
    clear c6
    replace H:=bS H
    obtain ⟨⟨t393,t394,t395,t396,t397⟩,A70,H⟩:=H
    replace H:((Y16.f k1 x3_1 t393 t394).bind fun bt398=>(if bt398.2=0 then (Y10.l0 k1 bt398.1 (wrap64 (x4_1-1)) s0_0 t395 t396 t397) else (Y10.l0 k1 x3_1 (wrap64 (x4_1-1)) s0_0 t395 t396 t397)))=some (r1,r2,r3,r4):=H
    have A7:=aM A70
    clear A70
    replace H:=bS H
    obtain ⟨⟨t398,t401⟩,A80,H⟩:=H
    replace H:(if t401=0 then (Y10.l0 k1 t398 (wrap64 (x4_1-1)) s0_0 t395 t396 t397) else (Y10.l0 k1 x3_1 (wrap64 (x4_1-1)) s0_0 t395 t396 t397))=some (r1,r2,r3,r4):=H
    have A8:=aM A80
    clear A80
    by_cases c9:t401=0
    ·rw [if_pos c9] at H
     have c9b0:(t401 == 0)=true:=beq_iff_eq.mpr c9
     have c9b1:(t401 != 0)=false:=bne_eq_false_iff_eq.mpr c9
     clear c9
     have H':=aM H
     clear H
     go_wp2_with (first | ((with_reducible refine gc_ 75 ?_);refine gl_ (some 15) Try.func75 #[.pointer (some ⟨g,0,none⟩)] ?_;(with_reducible refine (Y36.calls g s0_0 x1001_1 x1002_1 x1003_1 t393 t394 t395 t396 t397 w0 _ ?s1 ?s2 A7.out).mono ?_);(case s1=>repeat (first | (with_reducible first | exact HI0.out | apply IsS118.alloc | apply IsS118.drewN | apply IsS118.drew | apply IsS118.set_1 | apply IsS118.set_2 | apply IsS118.set_3) | exact HI0.out));(case s2=>repeat (first | (with_reducible first | exact HB.out | apply below_alloc | apply pw_below_drewN | apply below_drew1 | refine below_set ?_ (IsS118.ge HI0.out)) | exact HB.out));rintro e w10 ⟨rfl,hi,hb,hk⟩;refine ⟨_,rfl,?_⟩;have n0_:=aM (Kd.R_mono (Kd.R_keep (IsS118.apart (show IsS118 w0 _ g s0_0 x1001_1 x1002_1 x1003_1 from by repeat (first | (with_reducible first | exact HI0.out | apply IsS118.alloc | apply IsS118.drewN | apply IsS118.drew | apply IsS118.set_1 | apply IsS118.set_2 | apply IsS118.set_3) | exact HI0.out)) (z0_ HO_3.out) (by decide)) hk (fun _ h=>h.2)) (fun _ h=>h.1));have n1_:=aM (KeepBut.trans (z6_ HK.out) hk (.inl rfl));have n2_:=aM (hb);have n3_:=aM (hi);clear HO_3;clear HK;clear HB;clear HI0;have HO_3:=n0_;have HK:=n1_;have HB:=n2_;have HI0:=n3_;clear n0_ n1_ n2_ n3_;(try clear hb);(try clear hk);(try clear hi);obtain ⟨Ao11,co11,eo11⟩:=Kd.R_slice HO_3.out;subst eo11) | ((with_reducible refine gc_ 34 ?_);refine gl_ (some 16) Try.func34 #[.slice Ao11 x3_1.length co11,.agg #[.int .i64 t393,.int .i64 t394]] ?_;(with_reducible refine (Y16.calls k1 _ _ x3_1 t393 t394 t398 t401 _ ?s1 ?s2 A8.out).mono ?_);(case s1=>repeat (first | exact (Kd.R_reads' HO_3.out).2.2 | (with_reducible refine Kd.C_alloc ?_ _) | (with_reducible refine Kd.C_drewN ?_ _) | (with_reducible refine Kd.C_drew ?_)));(case s2=>exact (Kd.R_reads' HO_3.out).2.1);rintro e w12 ⟨v399,rfl,ho0,hb⟩;refine ⟨_,rfl,?_⟩;have n0_:=aM (Kd.R_elder' (z0_ HO_3.out) (Kd.R_base ho0) hb);have n1_:=aM (Kd.R_lower (Kd.R_new' ho0 (Kd.R_lt (z0_ HO_3.out))) (keep_size (w:=w) (g:=g) (row:=none) (z6_ HK.out)));have n2_:=aM (IsS118.below (z12_ HI0.out) hb);have n3_:=aM (KeepBut.trans (z6_ HK.out) (KeepBut.of_below hb g none) (.inl rfl));have n4_:=aM (below_step (z10_ HB.out HI0.out) hb);clear HO_3;clear HI0;clear HK;clear HB;have HO_3:=n0_;have HO400:=n1_;have HI0:=n2_;have HK:=n3_;have HB:=n4_;clear n0_ n1_ n2_ n3_ n4_;(try clear hb);(try clear ho0)) | ((with_reducible refine gd_ 5 ?_);refine be_ 5 #[.slice none 0 0,.int .i64 0] 53 ?_;intro gb402 hg w13 hbox hb;have n0_:=aM (Kd.R_below (z0_ HO_3.out) hb);have n1_:=aM (Kd.R_below (z0_ HO400.out) hb);have n2_:=aM (IsS118.below (z12_ HI0.out) hb);have n3_:=aM (KeepBut.trans (z6_ HK.out) (KeepBut.of_below hb g none) (.inl rfl));have n4_:=aM (below_step (z10_ HB.out HI0.out) hb);have n5_:=aM (hbox);have n6_:=aM ((z19_ HK.out:w.heap.size≤gb402));have n7_:=aM ((Nat.le_trans HW0.out (z19_ HK.out:w.heap.size≤gb402):w0.heap.size≤gb402));have n8_:=aM ((by rw [hg];exact Nat.ne_of_lt (IsS118.lt (show IsS118 w0 _ g s0_0 t395 t396 t397 from by repeat (first | (with_reducible first | exact HI0.out | apply IsS118.alloc | apply IsS118.drewN | apply IsS118.drew | apply IsS118.set_1 | apply IsS118.set_2 | apply IsS118.set_3) | exact HI0.out))):g≠gb402));have n9_:=aM ((by rw [hg];exact Nat.ne_of_gt (IsS118.lt (show IsS118 w0 _ g s0_0 t395 t396 t397 from by repeat (first | (with_reducible first | exact HI0.out | apply IsS118.alloc | apply IsS118.drewN | apply IsS118.drew | apply IsS118.set_1 | apply IsS118.set_2 | apply IsS118.set_3) | exact HI0.out))):gb402≠g));clear HO_3;clear HO400;clear HI0;clear HK;clear HB;have HO_3:=n0_;have HO400:=n1_;have HI0:=n2_;have HK:=n3_;have HB:=n4_;have BK402:=n5_;have GW402:=n6_;have GE402:=n7_;have NB0_402:=n8_;have NB402_0:=n9_;clear n0_ n1_ n2_ n3_ n4_ n5_ n6_ n7_ n8_ n9_;clear hb hbox hg;obtain ⟨Ao14,co14,eo14⟩:=Kd.R_slice HO400.out;subst eo14;have hnb15:=NB402_0.out;have hnc15:=NB0_402.out;have ⟨hcz16_0,hcz16_1,hfz16_0,hfz16_1⟩:=cz2_ BK402.out))
     go_roundg k1
     case measure=>have:=HK1.out;omega
     case rel=>exact ⟨(t398),(wrap64 (x4_1-1)),(t395),(t396),(t397),(z3_),H',⟨by have:=HK1.out;omega⟩,⟨z38_ HO400.out BK402.out⟩,⟨z36_ HI0.out NB0_402.out⟩,⟨z11_ HK.out GW402.out⟩,⟨z31_ HB.out HI0.out GE402.out⟩⟩
    ·rw [if_neg c9] at H
     have c9b0:(t401 == 0)=false:=beq_eq_false_iff_ne.mpr c9
     have c9b1:(t401 != 0)=true:=bne_iff_ne.mpr c9
     have H':=aM H
     clear H
     go_wp2_with (first | ((with_reducible refine gc_ 75 ?_);refine gl_ (some 15) Try.func75 #[.pointer (some ⟨g,0,none⟩)] ?_;(with_reducible refine (Y36.calls g s0_0 x1001_1 x1002_1 x1003_1 t393 t394 t395 t396 t397 w0 _ ?s1 ?s2 A7.out).mono ?_);(case s1=>repeat (first | (with_reducible first | exact HI0.out | apply IsS118.alloc | apply IsS118.drewN | apply IsS118.drew | apply IsS118.set_1 | apply IsS118.set_2 | apply IsS118.set_3) | exact HI0.out));(case s2=>repeat (first | (with_reducible first | exact HB.out | apply below_alloc | apply pw_below_drewN | apply below_drew1 | refine below_set ?_ (IsS118.ge HI0.out)) | exact HB.out));rintro e w17 ⟨rfl,hi,hb,hk⟩;refine ⟨_,rfl,?_⟩;have n0_:=aM (Kd.R_mono (Kd.R_keep (IsS118.apart (show IsS118 w0 _ g s0_0 x1001_1 x1002_1 x1003_1 from by repeat (first | (with_reducible first | exact HI0.out | apply IsS118.alloc | apply IsS118.drewN | apply IsS118.drew | apply IsS118.set_1 | apply IsS118.set_2 | apply IsS118.set_3) | exact HI0.out)) (z0_ HO_3.out) (by decide)) hk (fun _ h=>h.2)) (fun _ h=>h.1));have n1_:=aM (KeepBut.trans (z6_ HK.out) hk (.inl rfl));have n2_:=aM (hb);have n3_:=aM (hi);clear HO_3;clear HK;clear HB;clear HI0;have HO_3:=n0_;have HK:=n1_;have HB:=n2_;have HI0:=n3_;clear n0_ n1_ n2_ n3_;(try clear hb);(try clear hk);(try clear hi);obtain ⟨Ao18,co18,eo18⟩:=Kd.R_slice HO_3.out;subst eo18) | ((with_reducible refine gc_ 34 ?_);refine gl_ (some 16) Try.func34 #[.slice Ao18 x3_1.length co18,.agg #[.int .i64 t393,.int .i64 t394]] ?_;(with_reducible refine (Y16.calls k1 _ _ x3_1 t393 t394 t398 t401 _ ?s1 ?s2 A8.out).mono ?_);(case s1=>repeat (first | exact (Kd.R_reads' HO_3.out).2.2 | (with_reducible refine Kd.C_alloc ?_ _) | (with_reducible refine Kd.C_drewN ?_ _) | (with_reducible refine Kd.C_drew ?_)));(case s2=>exact (Kd.R_reads' HO_3.out).2.1);rintro e w19 ⟨v399,rfl,ho0,hb⟩;refine ⟨_,rfl,?_⟩;have n0_:=aM (Kd.R_elder' (z0_ HO_3.out) (Kd.R_base ho0) hb);have n1_:=aM (Kd.R_lower (Kd.R_new' ho0 (Kd.R_lt (z0_ HO_3.out))) (keep_size (w:=w) (g:=g) (row:=none) (z6_ HK.out)));have n2_:=aM (IsS118.below (z12_ HI0.out) hb);have n3_:=aM (KeepBut.trans (z6_ HK.out) (KeepBut.of_below hb g none) (.inl rfl));have n4_:=aM (below_step (z10_ HB.out HI0.out) hb);clear HO_3;clear HI0;clear HK;clear HB;have HO_3:=n0_;have HO400:=n1_;have HI0:=n2_;have HK:=n3_;have HB:=n4_;clear n0_ n1_ n2_ n3_ n4_;(try clear hb);(try clear ho0)) | ((with_reducible refine gd_ 5 ?_);refine be_ 5 #[.slice none 0 0,.int .i64 0] 53 ?_;intro gb402 hg w20 hbox hb;have n0_:=aM (Kd.R_below (z0_ HO_3.out) hb);have n1_:=aM (Kd.R_below (z0_ HO400.out) hb);have n2_:=aM (IsS118.below (z12_ HI0.out) hb);have n3_:=aM (KeepBut.trans (z6_ HK.out) (KeepBut.of_below hb g none) (.inl rfl));have n4_:=aM (below_step (z10_ HB.out HI0.out) hb);have n5_:=aM (hbox);have n6_:=aM ((z19_ HK.out:w.heap.size≤gb402));have n7_:=aM ((Nat.le_trans HW0.out (z19_ HK.out:w.heap.size≤gb402):w0.heap.size≤gb402));have n8_:=aM ((by rw [hg];exact Nat.ne_of_lt (IsS118.lt (show IsS118 w0 _ g s0_0 t395 t396 t397 from by repeat (first | (with_reducible first | exact HI0.out | apply IsS118.alloc | apply IsS118.drewN | apply IsS118.drew | apply IsS118.set_1 | apply IsS118.set_2 | apply IsS118.set_3) | exact HI0.out))):g≠gb402));have n9_:=aM ((by rw [hg];exact Nat.ne_of_gt (IsS118.lt (show IsS118 w0 _ g s0_0 t395 t396 t397 from by repeat (first | (with_reducible first | exact HI0.out | apply IsS118.alloc | apply IsS118.drewN | apply IsS118.drew | apply IsS118.set_1 | apply IsS118.set_2 | apply IsS118.set_3) | exact HI0.out))):gb402≠g));clear HO_3;clear HO400;clear HI0;clear HK;clear HB;have HO_3:=n0_;have HO400:=n1_;have HI0:=n2_;have HK:=n3_;have HB:=n4_;have BK402:=n5_;have GW402:=n6_;have GE402:=n7_;have NB0_402:=n8_;have NB402_0:=n9_;clear n0_ n1_ n2_ n3_ n4_ n5_ n6_ n7_ n8_ n9_;clear hb hbox hg;obtain ⟨Ao21,co21,eo21⟩:=Kd.R_slice HO400.out;subst eo21;have hnb22:=NB402_0.out;have hnc22:=NB0_402.out;have ⟨hcz23_0,hcz23_1,hfz23_0,hfz23_1⟩:=cz2_ BK402.out))
     go_roundg k1
     case measure=>have:=HK1.out;omega
     case rel=>exact ⟨(x3_1),(wrap64 (x4_1-1)),(t395),(t396),(t397),(z3_),H',⟨by have:=HK1.out;omega⟩,⟨z38_ HO_3.out BK402.out⟩,⟨z36_ HI0.out NB0_402.out⟩,⟨z11_ HK.out GW402.out⟩,⟨z31_ HB.out HI0.out GE402.out⟩⟩
   ·rw [if_neg c6] at H
    have c6b0:decide (0<x4_1)=false:=dF c6
    clear c6
    replace H:=bS H
    obtain ⟨⟨t403,t404,t405,t406⟩,A240,H⟩:=H
    replace H:(if t403=true then ((Y36.f s0_0 t404 t405 t406).bind fun bt407=>(if x3_1.length<8796093022208 then (some ((x3_1 ++ [(⟨bt407.1,bt407.2.1⟩:S49)]),bt407.2.2.1,bt407.2.2.2.1,bt407.2.2.2.2)) else (none))) else (some (x3_1,t404,t405,t406)))=some (r1,r2,r3,r4):=H
    have A24:=aM A240
    clear A240
    by_cases c25:t403=true
    ·subst c25
     have H1:((Y36.f s0_0 t404 t405 t406).bind fun bt407=>(if x3_1.length<8796093022208 then (some ((x3_1 ++ [(⟨bt407.1,bt407.2.1⟩:S49)]),bt407.2.2.1,bt407.2.2.2.1,bt407.2.2.2.2)) else (none)))=some (r1,r2,r3,r4):=by rw [if_pos rfl] at H;exact H
     clear H
     have H:=H1
     clear H1
     replace H:=bS H
     obtain ⟨⟨t407,t408,t409,t410,t411⟩,A260,H⟩:=H
     replace H:(if x3_1.length<8796093022208 then (some ((x3_1 ++ [(⟨t407,t408⟩:S49)]),t409,t410,t411)) else (none))=some (r1,r2,r3,r4):=H
     have A26:=aM A260
     clear A260
     by_cases c27:x3_1.length<8796093022208
     ·rw [if_pos c27] at H
      have LMc27:=aM c27
      clear c27
      obtain ⟨y412,hy412⟩:∃ y_:List (S49),y_=(x3_1 ++ [(⟨t407,t408⟩:S49)]):=⟨_,rfl⟩
      replace H:(some (y412,t409,t410,t411))=some (r1,r2,r3,r4):=by first | (rw [hy412];with_reducible exact H) | (have H2_:=(Option.bind_some _ _).symm.trans H;rw [hy412];with_reducible exact H2_) | (have H2_:=(Option.bind_some _ _).symm.trans H;with_reducible exact H2_) | with_reducible exact H | (rw [hy412];exact H) | exact H
      have Ny412:=aM hy412
      clear hy412
      simp only [Option.some.injEq,Prod.mk.injEq] at H
      obtain ⟨rfl,rfl,rfl,rfl⟩:=H
      go_wp2_with (first | ((with_reducible refine gc_ 97 ?_);refine gl_ (some 23) Try.func97 #[.pointer (some ⟨g,0,none⟩),.int .i64 15] ?_;(with_reducible refine (Y38.calls g s0_0 x1001_1 x1002_1 x1003_1 15 true t404 t405 t406 w0 _ ?s1 ?s2 A24.out).mono ?_);(case s1=>repeat (first | (with_reducible first | exact HI0.out | apply IsS118.alloc | apply IsS118.drewN | apply IsS118.drew | apply IsS118.set_1 | apply IsS118.set_2 | apply IsS118.set_3) | exact HI0.out));(case s2=>repeat (first | (with_reducible first | exact HB.out | apply below_alloc | apply pw_below_drewN | apply below_drew1 | refine below_set ?_ (IsS118.ge HI0.out)) | exact HB.out));rintro e w28 ⟨rfl,hi,hb,hk⟩;refine ⟨_,rfl,?_⟩;have n0_:=aM (Kd.R_mono (Kd.R_keep (IsS118.apart (show IsS118 w0 _ g s0_0 x1001_1 x1002_1 x1003_1 from by repeat (first | (with_reducible first | exact HI0.out | apply IsS118.alloc | apply IsS118.drewN | apply IsS118.drew | apply IsS118.set_1 | apply IsS118.set_2 | apply IsS118.set_3) | exact HI0.out)) (z0_ HO_3.out) (by decide)) hk (fun _ h=>h.2)) (fun _ h=>h.1));have n1_:=aM (KeepBut.trans (z6_ HK.out) hk (.inl rfl));have n2_:=aM (hb);have n3_:=aM (hi);clear HO_3;clear HK;clear HB;clear HI0;have HO_3:=n0_;have HK:=n1_;have HB:=n2_;have HI0:=n3_;clear n0_ n1_ n2_ n3_;(try clear hb);(try clear hk);(try clear hi)) | ((with_reducible refine gc_ 75 ?_);refine gl_ (some 26) Try.func75 #[.pointer (some ⟨g,0,none⟩)] ?_;(with_reducible refine (Y36.calls g s0_0 t404 t405 t406 t407 t408 t409 t410 t411 w0 _ ?s1 ?s2 A26.out).mono ?_);(case s1=>repeat (first | (with_reducible first | exact HI0.out | apply IsS118.alloc | apply IsS118.drewN | apply IsS118.drew | apply IsS118.set_1 | apply IsS118.set_2 | apply IsS118.set_3) | exact HI0.out));(case s2=>repeat (first | (with_reducible first | exact HB.out | apply below_alloc | apply pw_below_drewN | apply below_drew1 | refine below_set ?_ (IsS118.ge HI0.out)) | exact HB.out));rintro e w29 ⟨rfl,hi,hb,hk⟩;refine ⟨_,rfl,?_⟩;have n0_:=aM (Kd.R_mono (Kd.R_keep (IsS118.apart (show IsS118 w0 _ g s0_0 t404 t405 t406 from by repeat (first | (with_reducible first | exact HI0.out | apply IsS118.alloc | apply IsS118.drewN | apply IsS118.drew | apply IsS118.set_1 | apply IsS118.set_2 | apply IsS118.set_3) | exact HI0.out)) (z0_ HO_3.out) (by decide)) hk (fun _ h=>h.2)) (fun _ h=>h.1));have n1_:=aM (KeepBut.trans (z6_ HK.out) hk (.inl rfl));have n2_:=aM (hb);have n3_:=aM (hi);clear HO_3;clear HK;clear HB;clear HI0;have HO_3:=n0_;have HK:=n1_;have HB:=n2_;have HI0:=n3_;clear n0_ n1_ n2_ n3_;(try clear hb);(try clear hk);(try clear hi)) | ((with_reducible refine gate_builtin (b:=.append) (xs:=#[.tmp 24,.tmp 27]) rfl ?_);at_builtin;refine Kd.R_append k49 w.heap.size rfl (.tmp 24) (.tmp 27) 33 49 (.agg #[(.int .i64 0),(.int .i64 0)]) 16 rfl Try.underlying33 info49 rfl (by decide) (by omega) u3 x3_1 (⟨t407,t408⟩:S49) [.int .i64 t407,.int .i64 t408] (fun _=>True) (fun _=>False) rfl rfl ?aP (fun _ hk=>hk.elim) ?aF ?aO (Below.refl _ _) ?aS ?aL ?_;(case aP=>exact k49_mkM _ _ _ (⟨t407,t408⟩:S49));(case aF=>exact (fun _ _=>trivial));(case aO=>exact (z0_ HO_3.out));(case aS=>exact (keep_size (w:=w) (g:=g) (row:=none) (z6_ HK.out)));(case aL=>have:=LMc27.out;omega);intro v413 w30 ho hb hg hat;rw [← Ny412.out] at ho;have n0_:=aM (IsS118.grown (z12_ HI0.out) hg (IsS118.own_ne HI0.out HO_3.out (by decide)));have n1_:=aM (below_weaken (z10_ HB.out HI0.out) HL.out hb);have n2_:=aM (KeepBut.trans (z6_ HK.out) (KeepBut.of_grown hg g) (Kd.R_base2 HO_3.out));have n3_:=aM (ho);clear HI0;clear HB;clear HK;clear HO_3;have HI0:=n0_;have HB:=n1_;have HK:=n2_;have HO414:=n3_;clear n0_ n1_ n2_ n3_;clear ho hb hg hat))
      go_ret
      exact ⟨_,z5_,z0_ HO414.out,z12_ HI0.out,z10_ HB.out HI0.out,z6_ HK.out⟩
     ·rw [if_neg c27] at H
      exact nO H
    ·replace c25:=Bool.eq_false_iff.mpr c25
     subst c25
     have H1:(some (x3_1,t404,t405,t406))=some (r1,r2,r3,r4):=by rw [if_neg (show ¬ (false=true) by decide)] at H;exact H
     clear H
     have H:=H1
     clear H1
     simp only [Option.some.injEq,Prod.mk.injEq] at H
     obtain ⟨rfl,rfl,rfl,rfl⟩:=H
     go_wp2_with (first | ((with_reducible refine gc_ 97 ?_);refine gl_ (some 23) Try.func97 #[.pointer (some ⟨g,0,none⟩),.int .i64 15] ?_;(with_reducible refine (Y38.calls g s0_0 x1001_1 x1002_1 x1003_1 15 false t404 t405 t406 w0 _ ?s1 ?s2 A24.out).mono ?_);(case s1=>repeat (first | (with_reducible first | exact HI0.out | apply IsS118.alloc | apply IsS118.drewN | apply IsS118.drew | apply IsS118.set_1 | apply IsS118.set_2 | apply IsS118.set_3) | exact HI0.out));(case s2=>repeat (first | (with_reducible first | exact HB.out | apply below_alloc | apply pw_below_drewN | apply below_drew1 | refine below_set ?_ (IsS118.ge HI0.out)) | exact HB.out));rintro e w31 ⟨rfl,hi,hb,hk⟩;refine ⟨_,rfl,?_⟩;have n0_:=aM (Kd.R_mono (Kd.R_keep (IsS118.apart (show IsS118 w0 _ g s0_0 x1001_1 x1002_1 x1003_1 from by repeat (first | (with_reducible first | exact HI0.out | apply IsS118.alloc | apply IsS118.drewN | apply IsS118.drew | apply IsS118.set_1 | apply IsS118.set_2 | apply IsS118.set_3) | exact HI0.out)) (z0_ HO_3.out) (by decide)) hk (fun _ h=>h.2)) (fun _ h=>h.1));have n1_:=aM (KeepBut.trans (z6_ HK.out) hk (.inl rfl));have n2_:=aM (hb);have n3_:=aM (hi);clear HO_3;clear HK;clear HB;clear HI0;have HO_3:=n0_;have HK:=n1_;have HB:=n2_;have HI0:=n3_;clear n0_ n1_ n2_ n3_;(try clear hb);(try clear hk);(try clear hi)))
     go_ret
     exact ⟨_,z5_,z0_ HO_3.out,z12_ HI0.out,z10_ HB.out HI0.out,z6_ HK.out⟩


/-! ### Y48: function 19 -/
def Y48.f (k:Nat) (l0:List Int):Option ((List (S49)) × (List (S49))):=(Y14.f k l0).bind fun bt415=>((Y10.f k bt415.1 bt415.2.1 bt415.2.2.1 bt415.2.2.2).bind fun bt420=>((Y10.f k bt415.1 bt420.2.1 bt420.2.2.1 bt420.2.2.2).bind fun bt426=>(some (bt420.1,bt426.1))))
theorem Y48.mono:∀ a0 k,LeO (Y48.f k a0) (Y48.f (k+1) a0):=by
 intro a0 k
 have m0:=@Y14.mono
 have m1:=@Y10.mono
 unfold Y48.f
 exact mO
theorem Y48.calls (k:Nat) (A0:Option Addr) (c0:Nat) (l0:List Int) (r1:List (S49)) (r2:List (S49)) (w:World) (hr0:Kd.C (Kd.int .u8) w A0 l0.length l0) (hc0:l0.length≤c0) (h:Y48.f k l0=some (r1,r2)) :
  Calls Try.prog 19 #[.slice A0 l0.length c0] w fun e w'=>∃ v0_ v1_:Value,e = .returned (.tuple #[v0_,v1_])∧Kd.R k49 49 w' w.heap.size (fun k_=>some k_≠(v1_:Value).ownBlock) v0_ r1∧Kd.R k49 49 w' w.heap.size (fun k_=>some k_≠(v0_:Value).ownBlock) v1_ r2∧Below w.heap.size w w':=by
 have HR0:=aM hr0
 have HC0:=aM hc0
 clear hr0 hc0
 have HB:=aM (Below.refl w.heap.size w)
 have H:((Y14.f k l0).bind fun bt415=>((Y10.f k bt415.1 bt415.2.1 bt415.2.2.1 bt415.2.2.2).bind fun bt420=>((Y10.f k bt415.1 bt420.2.1 bt420.2.2.1 bt420.2.2.2).bind fun bt426=>(some (bt420.1,bt426.1)))))=some (r1,r2):=h
 clear h
 replace H:=bS H
 obtain ⟨⟨t415,t416,t417,t418⟩,A20,H⟩:=H
 replace H:((Y10.f k t415 t416 t417 t418).bind fun bt420=>((Y10.f k t415 bt420.2.1 bt420.2.2.1 bt420.2.2.2).bind fun bt426=>(some (bt420.1,bt426.1))))=some (r1,r2):=H
 have A2:=aM A20
 clear A20
 replace H:=bS H
 obtain ⟨⟨t420,t423,t424,t425⟩,A30,H⟩:=H
 replace H:((Y10.f k t415 t423 t424 t425).bind fun bt426=>(some (t420,bt426.1)))=some (r1,r2):=H
 have A3:=aM A30
 clear A30
 replace H:=bS H
 obtain ⟨⟨t426,t429,t430,t431⟩,A40,H⟩:=H
 replace H:(some (t420,t426))=some (r1,r2):=H
 have A4:=aM A40
 clear A40
 simp only [Option.some.injEq,Prod.mk.injEq] at H
 obtain ⟨rfl,rfl⟩:=H
 go_enter Try.func19,Try.ntmps19
 go_wp2_with (first | ((with_reducible refine gc_ 68 ?_);refine gl_ (some 7) Try.func68 #[.slice A0 l0.length c0] ?_;(with_reducible refine (Y14.calls k _ _ l0 t415 t416 t417 t418 w _ ?s1 ?s2 ?s3 A2.out).mono ?_);(case s1=>repeat (first | (with_reducible first | exact HB.out | apply below_alloc | apply pw_below_drewN | apply below_drew1) | exact HB.out));(case s2=>exact HR0.out);(case s3=>exact HC0.out);rintro e w5 ⟨g419,rfl,hi,hb,hb2⟩;refine ⟨_,rfl,?_⟩;have n0_:=aM (hb);have n1_:=aM (hi);clear HB;have HB:=n0_;have HI419:=n1_;clear n0_ n1_;(try clear hb);(try clear hb2);(try clear hi)) | ((with_reducible refine gc_ 69 ?_);refine gl_ (some 9) Try.func69 #[.pointer (some ⟨g419,0,none⟩)] ?_;(with_reducible refine (Y10.calls k g419 t415 t416 t417 t418 t420 t423 t424 t425 w _ ?s1 ?s2 A3.out).mono ?_);(case s1=>repeat (first | (with_reducible first | exact HI419.out | apply IsS118.alloc | apply IsS118.drewN | apply IsS118.drew | apply IsS118.set_1 | apply IsS118.set_2 | apply IsS118.set_3) | exact HI419.out));(case s2=>repeat (first | (with_reducible first | exact HB.out | apply below_alloc | apply pw_below_drewN | apply below_drew1 | refine below_set ?_ (IsS118.ge HI419.out)) | exact HB.out));rintro e w6 ⟨v421,rfl,ho0,hi,hb,hk⟩;refine ⟨_,rfl,?_⟩;have n0_:=aM (Kd.R_lower ho0 (below_size (z10_ HB.out HI419.out)));have n1_:=aM (hb);have n2_:=aM (hi);clear HB;clear HI419;have HO422:=n0_;have HB:=n1_;have HI419:=n2_;clear n0_ n1_ n2_;(try clear hb);(try clear hk);(try clear hi);(try clear ho0)) | ((with_reducible refine gc_ 69 ?_);refine gl_ (some 12) Try.func69 #[.pointer (some ⟨g419,0,none⟩)] ?_;(with_reducible refine (Y10.calls k g419 t415 t423 t424 t425 t426 t429 t430 t431 w _ ?s1 ?s2 A4.out).mono ?_);(case s1=>repeat (first | (with_reducible first | exact HI419.out | apply IsS118.alloc | apply IsS118.drewN | apply IsS118.drew | apply IsS118.set_1 | apply IsS118.set_2 | apply IsS118.set_3) | exact HI419.out));(case s2=>repeat (first | (with_reducible first | exact HB.out | apply below_alloc | apply pw_below_drewN | apply below_drew1 | refine below_set ?_ (IsS118.ge HI419.out)) | exact HB.out));rintro e w7 ⟨v427,rfl,ho0,hi,hb,hk⟩;refine ⟨_,rfl,?_⟩;have n0_:=aM (Kd.R_mono (Kd.R_told (Kd.R_oldK (IsS118.apart (show IsS118 w _ g419 t415 t423 t424 t425 from by repeat (first | (with_reducible first | exact HI419.out | apply IsS118.alloc | apply IsS118.drewN | apply IsS118.drew | apply IsS118.set_1 | apply IsS118.set_2 | apply IsS118.set_3) | exact HI419.out)) (z0_ HO422.out) (by decide)) hk) (Kd.R_base ho0)) (fun _ h_=>h_.1));have n1_:=aM (Kd.R_lower (Kd.R_new' ho0 (Kd.R_lt (z0_ HO422.out))) (below_size (z10_ HB.out HI419.out)));have n2_:=aM (hb);have n3_:=aM (hi);clear HO422;clear HB;clear HI419;have HO422:=n0_;have HO428:=n1_;have HB:=n2_;have HI419:=n3_;clear n0_ n1_ n2_ n3_;(try clear hb);(try clear hk);(try clear hi);(try clear ho0)))
 go_ret2
 exact ⟨_,_,z5_,by (with_reducible repeat (first | apply Kd.R_alloc | apply Kd.R_drewN | apply Kd.R_drew));exact Kd.R_mono HO422.out (fun _ hk=>hk.2),by (with_reducible repeat (first | apply Kd.R_alloc | apply Kd.R_drewN | apply Kd.R_drew));exact Kd.R_mono HO428.out (fun _ hk=>hk.2),z10_ HB.out HI419.out⟩


/-! ### Y61: function 49 -/
def Y61.f (a0:Int) (a1:Int) (a2:Int):Option (Bool):=if a1≤a0 then (some (decide (a0≤a2))) else (some false)
theorem Y61.calls (a0:Int) (a1:Int) (a2:Int) (r:Bool) (w:World) (h:Y61.f a0 a1 a2=some r) :
  Calls Try.prog 49 #[.int .i64 a0,.int .i64 a1,.int .i64 a2] w fun e w'=>e = .returned (.bool r)∧Drawn0 w w':=by
 have H:(if a1≤a0 then (some (decide (a0≤a2))) else (some false))=some r:=h
 clear h
 by_cases c4:a1≤a0
 ·rw [if_pos c4] at H
  have c4b0:decide (a1≤a0)=true:=dE c4
  clear c4
  obtain rfl:=sI H
  go_enter Try.func49,Try.ntmps49
  go_wp2
  go_ret
  exact ⟨z3_,z14_⟩
 ·rw [if_neg c4] at H
  have c4b0:decide (a1≤a0)=false:=dF c4
  clear c4
  obtain rfl:=sI H
  go_enter Try.func49,Try.ntmps49
  go_wp2
  go_ret
  exact ⟨z3_,z14_⟩


/-! ### Y72: function 98 -/
def Y72.f (a0:Int):Option (Bool):=(Y61.f a0 1 5).bind fun t258=>(some t258)
theorem Y72.calls (a0:Int) (r:Bool) (w:World) (h:Y72.f a0=some r) :
  Calls Try.prog 98 #[.int .i64 a0] w fun e w'=>e = .returned (.bool r)∧Drawn0 w w':=by
 have H:((Y61.f a0 1 5).bind fun t258=>(some t258))=some r:=h
 clear h
 replace H:=bS H
 obtain ⟨t258,A20,H⟩:=H
 replace H:(some t258)=some r:=H
 have A2:=aM A20
 clear A20
 obtain rfl:=sI H
 go_enter Try.func98,Try.ntmps98
 go_wp2_with (first | ((with_reducible refine gc_ 49 ?_);refine gl_ (some 4) Try.func49 #[.int .i64 a0,.int .i64 1,.int .i64 5] ?_;(with_reducible refine (Y61.calls a0 1 5 t258 _ A2.out).mono ?_);rintro e w' ⟨rfl,⟨nd,rfl⟩⟩;refine ⟨_,rfl,?_⟩))
 go_ret
 exact ⟨z3_,z14_⟩


/-! ### Y58: function 73 -/
def Y58.f (a0_0:Int) (a0_1:Int):Option (Bool):=(Y72.f a0_0).bind fun t260=>(if t260=true then ((Y61.f a0_1 1 1000000).bind fun t261=>(some t261)) else (some false))
theorem Y58.calls (a0_0:Int) (a0_1:Int) (r:Bool) (w:World) (h:Y58.f a0_0 a0_1=some r) :
  Calls Try.prog 73 #[.agg #[.int .i64 a0_0,.int .i64 a0_1]] w fun e w'=>e = .returned (.bool r)∧Below w.heap.size w w':=by
 have hu49:=Try.underlying49
 have HB:=aM (Below.refl w.heap.size w)
 have H:((Y72.f a0_0).bind fun t260=>(if t260=true then ((Y61.f a0_1 1 1000000).bind fun t261=>(some t261)) else (some false)))=some r:=h
 clear h
 replace H:=bS H
 obtain ⟨t260,A20,H⟩:=H
 replace H:(if t260=true then ((Y61.f a0_1 1 1000000).bind fun t261=>(some t261)) else (some false))=some r:=H
 have A2:=aM A20
 clear A20
 by_cases c3:t260=true
 ·subst c3
  have H1:((Y61.f a0_1 1 1000000).bind fun t261=>(some t261))=some r:=by rw [if_pos rfl] at H;exact H
  clear H
  have H:=H1
  clear H1
  replace H:=bS H
  obtain ⟨t261,A40,H⟩:=H
  replace H:(some t261)=some r:=H
  have A4:=aM A40
  clear A40
  obtain rfl:=sI H
  go_enter Try.func73,Try.ntmps73
  go_wp2_with (first | ((with_reducible refine gd_ 1 ?_);refine be_ 1 #[.int .i64 a0_0,.int .i64 a0_1] 49 ?_;intro gb259 hg w5 hbox hb;have n0_:=aM (below_step (z1_ HB.out) hb);have n1_:=aM (hbox);have n2_:=aM ((z8_ HB.out:w.heap.size≤gb259));have n3_:=aM ((z8_ HB.out:w.heap.size≤gb259));clear HB;have HB:=n0_;have BK259:=n1_;have GW259:=n2_;have GE259:=n3_;clear n0_ n1_ n2_ n3_;clear hb hbox hg;have ⟨hcz6_0,hcz6_1,hfz6_0,hfz6_1⟩:=cz2_ BK259.out) | ((with_reducible refine gc_ 98 ?_);refine gl_ (some 5) Try.func98 #[.int .i64 a0_0] ?_;(with_reducible refine (Y72.calls a0_0 true _ A2.out).mono ?_);rintro e w' ⟨rfl,⟨nd,rfl⟩⟩;refine ⟨_,rfl,?_⟩) | (go_at_call 49;(with_reducible refine (Y61.calls a0_1 1 1000000 t261 _ A4.out).mono ?_);rintro e w' ⟨rfl,⟨nd,rfl⟩⟩))
  go_ret
  exact ⟨z5_,z4_ HB.out GE259.out⟩
 ·replace c3:=Bool.eq_false_iff.mpr c3
  subst c3
  have H1:(some false)=some r:=by rw [if_neg (show ¬ (false=true) by decide)] at H;exact H
  clear H
  have H:=H1
  clear H1
  obtain rfl:=sI H
  go_enter Try.func73,Try.ntmps73
  go_wp2_with (first | ((with_reducible refine gd_ 1 ?_);refine be_ 1 #[.int .i64 a0_0,.int .i64 a0_1] 49 ?_;intro gb259 hg w7 hbox hb;have n0_:=aM (below_step (z1_ HB.out) hb);have n1_:=aM (hbox);have n2_:=aM ((z8_ HB.out:w.heap.size≤gb259));have n3_:=aM ((z8_ HB.out:w.heap.size≤gb259));clear HB;have HB:=n0_;have BK259:=n1_;have GW259:=n2_;have GE259:=n3_;clear n0_ n1_ n2_ n3_;clear hb hbox hg;have ⟨hcz8_0,hcz8_1,hfz8_0,hfz8_1⟩:=cz2_ BK259.out) | ((with_reducible refine gc_ 98 ?_);refine gl_ (some 5) Try.func98 #[.int .i64 a0_0] ?_;(with_reducible refine (Y72.calls a0_0 false _ A2.out).mono ?_);rintro e w' ⟨rfl,⟨nd,rfl⟩⟩;refine ⟨_,rfl,?_⟩))
  go_ret
  exact ⟨z5_,z4_ HB.out GE259.out⟩


/-! ### Y3: function 72 -/
def Y3.l0:Nat→List (S49)→List (S49)→Int→Int→Option (Bool)
 | 0,_,_,_,_=>none
 | k+1,x0,x5,x6,x7=>if x7<x6 then (if 0≤x7 then (if x7<(x5.length:Int) then ((Y58.f ((rd_T49 x5 x7).f0) ((rd_T49 x5 x7).f1)).bind fun t264=>(if t264=true then (if x7>0 then (if 0≤(wrap64 (x7-1)) then (if (wrap64 (x7-1))<(x0.length:Int) then (if ((rd_T49 x0 (wrap64 (x7-1))).f0)≥((rd_T49 x5 x7).f0) then (some false) else (Y3.l0 k x0 x5 x6 (wrap64 (x7+1)))) else (none)) else (none)) else (Y3.l0 k x0 x5 x6 (wrap64 (x7+1)))) else (some false))) else (none)) else (none)) else (some true)
def Y3.f (k:Nat) (l0:List (S49)):Option (Bool):=Y3.l0 k l0 l0 (l0.length:Int) 0
theorem Y3.mono_l:∀ k,(∀ y0 y1 y2 y3,LeO (Y3.l0 k y0 y1 y2 y3) (Y3.l0 (k+1) y0 y1 y2 y3))
 | 0=>by intros <;> exact LeO.none _
 | k+1=>by
  have ih0:=Y3.mono_l k
  ·intros
   unfold Y3.l0
   exact mO
theorem Y3.mono:∀ a0 k,LeO (Y3.f k a0) (Y3.f (k+1) a0):=by
 intro a0 k
 have ih0:=Y3.mono_l k
 unfold Y3.f
 exact mO
def Y3.T4:Bool × List (List Nat × List Nat):=(true,[([],[]),([0],[0]),([1],[1]),([2,1],[2]),([3],[3]),([4,3],[3,4]),([5,3,3],[3,5]),([6],[6]),([6],[6]),([8,6],[6,8]),([7,9,6],[6,7,9]),([10,6],[6,10]),([11,6],[6,11]),([6],[6]),([13,6],[6,13]),([12,14,6],[6,12,14]),([6,15,3],[3,6,15]),([3,16],[3,16])])
def Y3.B4:List Nat:=[0,1,3,7,15,31,63,127,127,383,1023,2047,4095,127,8319,32767,65535,131071]
theorem Y3.tab4:rtab .any (opsOf Try.f72 4)=Y3.T4:=by kernel_rfl
theorem Y3.bits4:waitsOk Y3.T4.2 Y3.B4=true:=by kernel_rfl
abbrev Y3.q0:Array Bool:=#[O,O,O,O,O,O,O,O,O,O,O,O,O,O,O,O,O,O]
abbrev Y3.q1:Array Bool:=#[I,O,O,O,O,O,O,O,O,O,O,O,O,O,O,O,O,O]
abbrev Y3.q2:Array Bool:=#[I,I,O,O,O,O,O,O,O,O,O,O,O,O,O,O,O,O]
abbrev Y3.q3:Array Bool:=#[I,I,I,O,O,O,O,O,O,O,O,O,O,O,O,O,O,O]
abbrev Y3.q4:Array Bool:=#[I,I,I,I,O,O,O,O,O,O,O,O,O,O,O,O,O,O]
abbrev Y3.q5:Array Bool:=#[I,I,I,I,I,O,O,O,O,O,O,O,O,O,O,O,O,O]
abbrev Y3.q6:Array Bool:=#[I,I,I,I,I,I,O,O,O,O,O,O,O,O,O,O,O,O]
abbrev Y3.q7:Array Bool:=#[I,I,I,I,I,I,I,O,O,O,O,O,O,O,O,O,O,O]
abbrev Y3.q8:Array Bool:=#[I,I,I,I,I,I,I,I,O,O,O,O,O,O,O,O,O,O]
abbrev Y3.q9:Array Bool:=#[I,I,I,I,I,I,I,I,I,O,O,O,O,O,O,O,O,O]
abbrev Y3.q10:Array Bool:=#[I,I,I,I,I,I,I,I,I,I,O,O,O,O,O,O,O,O]
abbrev Y3.q11:Array Bool:=#[I,I,I,I,I,I,I,I,I,I,I,O,O,O,O,O,O,O]
abbrev Y3.q12:Array Bool:=#[I,I,I,I,I,I,I,I,I,I,I,I,O,O,O,O,O,O]
abbrev Y3.q13:Array Bool:=#[I,I,I,I,I,I,I,I,I,I,I,I,O,I,O,O,O,O]
abbrev Y3.q14:Array Bool:=#[I,I,I,I,I,I,I,I,I,I,I,I,I,I,O,O,O,O]
abbrev Y3.q15:Array Bool:=#[I,I,I,I,I,I,I,I,I,I,I,I,I,I,I,O,O,O]
abbrev Y3.q16:Array Bool:=#[I,I,I,I,I,I,I,I,I,I,I,I,I,I,I,I,O,O]
abbrev Y3.q17:Array Bool:=#[I,I,I,I,I,I,I,I,I,I,I,I,I,I,I,I,I,O]
abbrev Y3.q18:Array Bool:=#[I,I,I,I,I,I,I,I,I,I,I,I,I,I,I,I,I,I]
abbrev Y3.q19:Array Bool:=#[I,I,I,I,I,I,I,I,I,I,I,I,I,O,O,O,O,O]
theorem Y3.calls (k:Nat) (A0:Option Addr) (c0:Nat) (l0:List (S49)) (r:Bool) (w:World) (hr0:Kd.C k49 w A0 l0.length l0) (hc0:l0.length≤c0) (h:Y3.f k l0=some r) :
  Calls Try.prog 72 #[.slice A0 l0.length c0] w fun e w'=>e = .returned (.bool r)∧Below w.heap.size w w':=by
 have hu49:=Try.underlying49
 have HR0:=aM hr0
 have HC0:=aM hc0
 clear hr0 hc0
 have HB:=aM (Below.refl w.heap.size w)
 have H:(Y3.l0 k l0 l0 (l0.length:Int) 0)=some r:=h
 clear h
 have H':=aM H
 clear H
 go_enter Try.func72,Try.ntmps72
 go_wp2
 go_loopg [7] k (fun kq v7 w'=>∃ (x7_1:Int),v7 = .int .i64 x7_1∧Aside0 (Y3.l0 kq l0 l0 (l0.length:Int) x7_1=some r)∧Aside0 (kq≤k)∧Aside0 (Below w.heap.size w w'))
 case atStart=>exact ⟨(0),(z3_),H',⟨Nat.le_refl _⟩,⟨z1_ HB.out⟩⟩
 case round =>
  clear H'
  obtain ⟨x7_1,rfl,HA,HK1,HB⟩:=hrel
  cases gk with
  | zero=>exact absurd HA.out (by simp [Y3.l0])
  | succ k1 =>
   have H:=HA.out
   clear HA
   simp only [Y3.l0] at H
   by_cases c2:x7_1<(l0.length:Int)
   ·rw [if_pos c2] at H
    have c2b0:decide (x7_1<(l0.length:Int))=true:=dE c2
    clear c2
    by_cases c3:0≤x7_1
    ·rw [if_pos c3] at H
     have c3b0:decide (0≤x7_1)=true:=dE c3
     clear c3
     by_cases c4:x7_1<(l0.length:Int)
     ·rw [if_pos c4] at H
      have c4b0:decide (x7_1<(l0.length:Int))=true:=dE c4
      clear c4
      replace H:=bS H
      obtain ⟨t264,A50,H⟩:=H
      replace H:(if t264=true then (if x7_1>0 then (if 0≤(wrap64 (x7_1-1)) then (if (wrap64 (x7_1-1))<(l0.length:Int) then (if ((rd_T49 l0 (wrap64 (x7_1-1))).f0)≥((rd_T49 l0 x7_1).f0) then (some false) else (Y3.l0 k1 l0 l0 (l0.length:Int) (wrap64 (x7_1+1)))) else (none)) else (none)) else (Y3.l0 k1 l0 l0 (l0.length:Int) (wrap64 (x7_1+1)))) else (some false))=some r:=H
      have A5:=aM A50
      clear A50
      by_cases c6:t264=true
      ·subst c6
       have H1:(if x7_1>0 then (if 0≤(wrap64 (x7_1-1)) then (if (wrap64 (x7_1-1))<(l0.length:Int) then (if ((rd_T49 l0 (wrap64 (x7_1-1))).f0)≥((rd_T49 l0 x7_1).f0) then (some false) else (Y3.l0 k1 l0 l0 (l0.length:Int) (wrap64 (x7_1+1)))) else (none)) else (none)) else (Y3.l0 k1 l0 l0 (l0.length:Int) (wrap64 (x7_1+1))))=some r:=by rw [if_pos rfl] at H;exact H
       clear H
       have H:=H1
       clear H1
       by_cases c7:x7_1>0
       ·rw [if_pos c7] at H
        have c7b0:decide (0<x7_1)=true:=dE c7
        clear c7
        obtain ⟨ji8,hji8⟩:∃ j_:Int,(wrap64 (x7_1-1))=j_:=⟨_,rfl⟩
        replace H:(if 0≤(ji8) then (if (ji8)<(l0.length:Int) then (if ((rd_T49 l0 (ji8)).f0)≥((rd_T49 l0 x7_1).f0) then (some false) else (Y3.l0 k1 l0 l0 (l0.length:Int) (wrap64 (x7_1+1)))) else (none)) else (none))=some r:=by first | (rw [hji8] at H;exact H) | (simp only [hji8] at H ⊢;exact H)
        (try rw [hji8] at A5)
        have hji8w:(IntKind.i64.wrap (x7_1-1))=ji8:=(i64_w _).trans hji8
        by_cases c9:0≤(ji8)
        ·rw [if_pos c9] at H
         have c9b0:decide (0≤(ji8))=true:=dE c9
         clear c9
         by_cases c10:(ji8)<(l0.length:Int)
         ·rw [if_pos c10] at H
          have c10b0:decide ((ji8)<(l0.length:Int))=true:=dE c10
          clear c10
          by_cases c11:((rd_T49 l0 (ji8)).f0)≥((rd_T49 l0 x7_1).f0)
          ·rw [if_pos c11] at H
           have c11b0:decide (((rd_T49 l0 x7_1).f0)≤((rd_T49 l0 (ji8)).f0))=true:=dE c11
           clear c11
           obtain rfl:=sI H
           have p262:0≤(x7_1:Int):=dT (z7_)
           have q262:x7_1<(l0.length:Int):=dT (z7_)
           obtain ⟨ad262,e262,hx262_0,hx262_1⟩:=at_T49 HR0.out x7_1 p262 q262
           cases e262
           replace hx262_0:=(HB.out.cell (World.block_lt_of_cell? w _ hx262_0)).trans hx262_0
           replace hx262_1:=(HB.out.cell (World.block_lt_of_cell? w _ hx262_1)).trans hx262_1
           replace p262:=eq_true p262
           replace q262:=eq_true q262
           try go_wp2_with (first | ((with_reducible refine gd_ 4 ?_);refine be_ 4 #[.int .i64 0,.int .i64 0] 49 ?_;intro gb263 hg w12 hbox hb;have n0_:=aM (below_step (z1_ HB.out) hb);have n1_:=aM (hbox);have n2_:=aM ((z8_ HB.out:w.heap.size≤gb263));have n3_:=aM ((z8_ HB.out:w.heap.size≤gb263));clear HB;have HB:=n0_;have BK263:=n1_;have GW263:=n2_;have GE263:=n3_;clear n0_ n1_ n2_ n3_;clear hb hbox hg;have ⟨hcz13_0,hcz13_1,hfz13_0,hfz13_1⟩:=cz2_ BK263.out))
           have n0_:Aside0 (((w12.setCell ⟨gb263,0,none⟩ (.int .i64 ((rd_T49 l0 x7_1).f0))).setCell ⟨gb263,1,none⟩ (.int .i64 ((rd_T49 l0 x7_1).f1))).heap[gb263]? = some (.cells #[.int .i64 ((rd_T49 l0 x7_1).f0),.int .i64 ((rd_T49 l0 x7_1).f1)] 49 (0,0))):=⟨z15_ BK263.out⟩
           have n1_:Aside0 (Below w.heap.size w ((w12.setCell ⟨gb263,0,none⟩ (.int .i64 ((rd_T49 l0 x7_1).f0))).setCell ⟨gb263,1,none⟩ (.int .i64 ((rd_T49 l0 x7_1).f1)))):=⟨z4_ HB.out GE263.out⟩
           (try clear BK263)
           (try clear HB)
           generalize ((w12.setCell ⟨gb263,0,none⟩ (.int .i64 ((rd_T49 l0 x7_1).f0))).setCell ⟨gb263,1,none⟩ (.int .i64 ((rd_T49 l0 x7_1).f1)))=w14 at n0_ n1_ ⊢
           have BK263:=n0_
           have HB:=n1_
           clear n0_ n1_
           have n0_:=aM (blk_drew BK263.out)
           have n1_:=aM (below_drew1 HB.out)
           clear BK263
           clear HB
           have BK263:=n0_
           have HB:=n1_
           clear n0_ n1_
           have p265:0≤((ji8):Int):=dT (z7_)
           have q265:(ji8)<(l0.length:Int):=dT (z7_)
           obtain ⟨ad265,e265,hx265_0,hx265_1⟩:=at_T49 HR0.out (ji8) p265 q265
           have hw265_1:=hx265_1
           have hw265_0:=hx265_0
           obtain rfl:ad262=ad265:=(by injection e265)
           replace hx265_0:=(HB.out.cell (World.block_lt_of_cell? w _ hx265_0)).trans hx265_0
           replace hx265_1:=(HB.out.cell (World.block_lt_of_cell? w _ hx265_1)).trans hx265_1
           replace p265:=eq_true p265
           replace q265:=eq_true q265
           refine start_ (n:=18) (S:=fun w'=>w'.cell? ⟨gb263,0,none⟩=some (.int .i64 ((rd_T49 l0 x7_1).f0))∧w'.cell? ⟨gb263,1,none⟩=some (.int .i64 ((rd_T49 l0 x7_1).f1))∧w'.cell? (ad262.add (((ji8)).toNat*2))=some (.int .i64 ((rd_T49 l0 (ji8)).f0))∧w'.cell? ⟨(ad262.add (((ji8)).toNat*2)).block,(ad262.add (((ji8)).toNat*2)).off+1,none⟩=some (.int .i64 ((rd_T49 l0 (ji8)).f1))) (ds:=[]) Y3.q0 (by kernel_rfl) rfl rfl (cj2_ BK263.out ⟨((HB.out.cell (World.block_lt_of_cell? w _ hw265_0)).trans hw265_0),((HB.out.cell (World.block_lt_of_cell? w _ hw265_1)).trans hw265_1)⟩) (fun hHeld=>?_);refine with_tabW Y3.tab4 Y3.bits4 (fun HT_ HW_=>?_)
           generalize w14.drew=w15 at BK263 HB hx265_0 hx265_1 hHeld ⊢
           refine tk4_ 0 12 Y3.q1 HT_.out HW_.out hHeld ?_
           refine o1_ 1 13 Y3.q2 HT_.out (fun K hK=>?_)
           refine gs_ Try.func73 #[.agg #[.int .i64 ((rd_T49 l0 x7_1).f0),.int .i64 ((rd_T49 l0 x7_1).f1)]] ?_
           with_reducible refine (Y58.calls ((rd_T49 l0 x7_1).f0) ((rd_T49 l0 x7_1).f1) true _ A5.out).mono ?_
           rintro e w16 ⟨rfl,hb⟩
           refine ⟨_,rfl,?_⟩
           have n0_:=aM (blkB_ BK263.out hb)
           have n1_:=aM (below_step (z4_ HB.out GE263.out) hb)
           clear BK263
           clear HB
           have BK263:=n0_
           have HB:=n1_
           clear n0_ n1_
           (try clear hb)
           refine hK.out _ _ (cj2_ BK263.out ⟨((HB.out.cell (World.block_lt_of_cell? w _ hw265_0)).trans hw265_0),((HB.out.cell (World.block_lt_of_cell? w _ hw265_1)).trans hw265_1)⟩) (fun hHeld=>?_)
           clear hK K
           refine nm_ 13 ?_
           refine pu_ 2 14 Y3.q3 HT_.out ?_
           refine pu_ 3 15 Y3.q4 HT_.out ?_
           refine pu_ 4 16 Y3.q5 HT_.out ?_
           refine pu_ 5 17 Y3.q6 HT_.out ?_
           refine pu_ 6 18 Y3.q7 HT_.out ?_
           refine pu_ 7 19 Y3.q8 HT_.out ?_
           refine pu_ 8 20 Y3.q9 HT_.out ?_
           refine pu_ 9 21 Y3.q10 HT_.out ?_
           refine pu_ 10 22 Y3.q11 HT_.out ?_
           refine pu_ 11 23 Y3.q12 HT_.out ?_
           refine pu_ 13 25 Y3.q13 HT_.out ?_
           refine tk4_ 12 24 Y3.q14 HT_.out HW_.out hHeld ?_
           refine tk4_ 14 26 Y3.q15 HT_.out HW_.out hHeld ?_
           refine pu_ 15 27 Y3.q16 HT_.out ?_
           refine pu_ 16 28 Y3.q17 HT_.out ?_
           refine pu_ 17 29 Y3.q18 HT_.out ?_
           refine done_ (done_of HT_.out (by kernel_rfl)) ?_
           try go_wp2
           go_ret
           exact ⟨by first | rfl | (simp [errW_none,errW_some] <;> rfl) | (simp only [← hji8];first | rfl | (simp [errW_none,errW_some] <;> rfl)) | (simp [*,errW_none,errW_some] <;> rfl),z4_ HB.out GE263.out⟩
          ·rw [if_neg c11] at H
           have c11b0:decide (((rd_T49 l0 x7_1).f0)≤((rd_T49 l0 (ji8)).f0))=false:=dF c11
           clear c11
           have H':=aM H
           clear H
           have p262:0≤(x7_1:Int):=dT (z7_)
           have q262:x7_1<(l0.length:Int):=dT (z7_)
           obtain ⟨ad262,e262,hx262_0,hx262_1⟩:=at_T49 HR0.out x7_1 p262 q262
           cases e262
           replace hx262_0:=(HB.out.cell (World.block_lt_of_cell? w _ hx262_0)).trans hx262_0
           replace hx262_1:=(HB.out.cell (World.block_lt_of_cell? w _ hx262_1)).trans hx262_1
           replace p262:=eq_true p262
           replace q262:=eq_true q262
           try go_wp2_with (first | ((with_reducible refine gd_ 4 ?_);refine be_ 4 #[.int .i64 0,.int .i64 0] 49 ?_;intro gb263 hg w17 hbox hb;have n0_:=aM (below_step (z1_ HB.out) hb);have n1_:=aM (hbox);have n2_:=aM ((z8_ HB.out:w.heap.size≤gb263));have n3_:=aM ((z8_ HB.out:w.heap.size≤gb263));clear HB;have HB:=n0_;have BK263:=n1_;have GW263:=n2_;have GE263:=n3_;clear n0_ n1_ n2_ n3_;clear hb hbox hg;have ⟨hcz18_0,hcz18_1,hfz18_0,hfz18_1⟩:=cz2_ BK263.out))
           have n0_:Aside0 (((w17.setCell ⟨gb263,0,none⟩ (.int .i64 ((rd_T49 l0 x7_1).f0))).setCell ⟨gb263,1,none⟩ (.int .i64 ((rd_T49 l0 x7_1).f1))).heap[gb263]? = some (.cells #[.int .i64 ((rd_T49 l0 x7_1).f0),.int .i64 ((rd_T49 l0 x7_1).f1)] 49 (0,0))):=⟨z15_ BK263.out⟩
           have n1_:Aside0 (Below w.heap.size w ((w17.setCell ⟨gb263,0,none⟩ (.int .i64 ((rd_T49 l0 x7_1).f0))).setCell ⟨gb263,1,none⟩ (.int .i64 ((rd_T49 l0 x7_1).f1)))):=⟨z4_ HB.out GE263.out⟩
           (try clear BK263)
           (try clear HB)
           generalize ((w17.setCell ⟨gb263,0,none⟩ (.int .i64 ((rd_T49 l0 x7_1).f0))).setCell ⟨gb263,1,none⟩ (.int .i64 ((rd_T49 l0 x7_1).f1)))=w19 at n0_ n1_ ⊢
           have BK263:=n0_
           have HB:=n1_
           clear n0_ n1_
           have n0_:=aM (blk_drew BK263.out)
           have n1_:=aM (below_drew1 HB.out)
           clear BK263
           clear HB
           have BK263:=n0_
           have HB:=n1_
           clear n0_ n1_
           have p265:0≤((ji8):Int):=dT (z7_)
           have q265:(ji8)<(l0.length:Int):=dT (z7_)
           obtain ⟨ad265,e265,hx265_0,hx265_1⟩:=at_T49 HR0.out (ji8) p265 q265
           have hw265_1:=hx265_1
           have hw265_0:=hx265_0
           obtain rfl:ad262=ad265:=(by injection e265)
           replace hx265_0:=(HB.out.cell (World.block_lt_of_cell? w _ hx265_0)).trans hx265_0
           replace hx265_1:=(HB.out.cell (World.block_lt_of_cell? w _ hx265_1)).trans hx265_1
           replace p265:=eq_true p265
           replace q265:=eq_true q265
           refine start_ (n:=18) (S:=fun w'=>w'.cell? ⟨gb263,0,none⟩=some (.int .i64 ((rd_T49 l0 x7_1).f0))∧w'.cell? ⟨gb263,1,none⟩=some (.int .i64 ((rd_T49 l0 x7_1).f1))∧w'.cell? (ad262.add (((ji8)).toNat*2))=some (.int .i64 ((rd_T49 l0 (ji8)).f0))∧w'.cell? ⟨(ad262.add (((ji8)).toNat*2)).block,(ad262.add (((ji8)).toNat*2)).off+1,none⟩=some (.int .i64 ((rd_T49 l0 (ji8)).f1))) (ds:=[]) Y3.q0 (by kernel_rfl) rfl rfl (cj2_ BK263.out ⟨((HB.out.cell (World.block_lt_of_cell? w _ hw265_0)).trans hw265_0),((HB.out.cell (World.block_lt_of_cell? w _ hw265_1)).trans hw265_1)⟩) (fun hHeld=>?_);refine with_tabW Y3.tab4 Y3.bits4 (fun HT_ HW_=>?_)
           generalize w19.drew=w20 at BK263 HB hx265_0 hx265_1 hHeld ⊢
           refine tk4_ 0 12 Y3.q1 HT_.out HW_.out hHeld ?_
           refine o1_ 1 13 Y3.q2 HT_.out (fun K hK=>?_)
           refine gs_ Try.func73 #[.agg #[.int .i64 ((rd_T49 l0 x7_1).f0),.int .i64 ((rd_T49 l0 x7_1).f1)]] ?_
           with_reducible refine (Y58.calls ((rd_T49 l0 x7_1).f0) ((rd_T49 l0 x7_1).f1) true _ A5.out).mono ?_
           rintro e w21 ⟨rfl,hb⟩
           refine ⟨_,rfl,?_⟩
           have n0_:=aM (blkB_ BK263.out hb)
           have n1_:=aM (below_step (z4_ HB.out GE263.out) hb)
           clear BK263
           clear HB
           have BK263:=n0_
           have HB:=n1_
           clear n0_ n1_
           (try clear hb)
           refine hK.out _ _ (cj2_ BK263.out ⟨((HB.out.cell (World.block_lt_of_cell? w _ hw265_0)).trans hw265_0),((HB.out.cell (World.block_lt_of_cell? w _ hw265_1)).trans hw265_1)⟩) (fun hHeld=>?_)
           clear hK K
           refine nm_ 13 ?_
           refine pu_ 2 14 Y3.q3 HT_.out ?_
           refine pu_ 3 15 Y3.q4 HT_.out ?_
           refine pu_ 4 16 Y3.q5 HT_.out ?_
           refine pu_ 5 17 Y3.q6 HT_.out ?_
           refine pu_ 6 18 Y3.q7 HT_.out ?_
           refine pu_ 7 19 Y3.q8 HT_.out ?_
           refine pu_ 8 20 Y3.q9 HT_.out ?_
           refine pu_ 9 21 Y3.q10 HT_.out ?_
           refine pu_ 10 22 Y3.q11 HT_.out ?_
           refine pu_ 11 23 Y3.q12 HT_.out ?_
           refine pu_ 13 25 Y3.q13 HT_.out ?_
           refine tk4_ 12 24 Y3.q14 HT_.out HW_.out hHeld ?_
           refine tk4_ 14 26 Y3.q15 HT_.out HW_.out hHeld ?_
           refine pu_ 15 27 Y3.q16 HT_.out ?_
           refine pu_ 16 28 Y3.q17 HT_.out ?_
           refine pu_ 17 29 Y3.q18 HT_.out ?_
           refine done_ (done_of HT_.out (by kernel_rfl)) ?_
           try go_wp2
           go_roundg k1
           case measure=>have:=HK1.out;omega
           case rel=>exact ⟨(wrap64 (x7_1+1)),(z3_),H',⟨by have:=HK1.out;omega⟩,⟨z4_ HB.out GE263.out⟩⟩
         ·rw [if_neg c10] at H
          exact nO H
        ·rw [if_neg c9] at H
         exact nO H
       ·rw [if_neg c7] at H
        have c7b0:decide (0<x7_1)=false:=dF c7
        clear c7
        have H':=aM H
        clear H
        have p262:0≤(x7_1:Int):=dT (z7_)
        have q262:x7_1<(l0.length:Int):=dT (z7_)
        obtain ⟨ad262,e262,hx262_0,hx262_1⟩:=at_T49 HR0.out x7_1 p262 q262
        cases e262
        replace hx262_0:=(HB.out.cell (World.block_lt_of_cell? w _ hx262_0)).trans hx262_0
        replace hx262_1:=(HB.out.cell (World.block_lt_of_cell? w _ hx262_1)).trans hx262_1
        replace p262:=eq_true p262
        replace q262:=eq_true q262
        try go_wp2_with (first | ((with_reducible refine gd_ 4 ?_);refine be_ 4 #[.int .i64 0,.int .i64 0] 49 ?_;intro gb263 hg w22 hbox hb;have n0_:=aM (below_step (z1_ HB.out) hb);have n1_:=aM (hbox);have n2_:=aM ((z8_ HB.out:w.heap.size≤gb263));have n3_:=aM ((z8_ HB.out:w.heap.size≤gb263));clear HB;have HB:=n0_;have BK263:=n1_;have GW263:=n2_;have GE263:=n3_;clear n0_ n1_ n2_ n3_;clear hb hbox hg;have ⟨hcz23_0,hcz23_1,hfz23_0,hfz23_1⟩:=cz2_ BK263.out))
        have n0_:Aside0 (((w22.setCell ⟨gb263,0,none⟩ (.int .i64 ((rd_T49 l0 x7_1).f0))).setCell ⟨gb263,1,none⟩ (.int .i64 ((rd_T49 l0 x7_1).f1))).heap[gb263]? = some (.cells #[.int .i64 ((rd_T49 l0 x7_1).f0),.int .i64 ((rd_T49 l0 x7_1).f1)] 49 (0,0))):=⟨z15_ BK263.out⟩
        have n1_:Aside0 (Below w.heap.size w ((w22.setCell ⟨gb263,0,none⟩ (.int .i64 ((rd_T49 l0 x7_1).f0))).setCell ⟨gb263,1,none⟩ (.int .i64 ((rd_T49 l0 x7_1).f1)))):=⟨z4_ HB.out GE263.out⟩
        (try clear BK263)
        (try clear HB)
        generalize ((w22.setCell ⟨gb263,0,none⟩ (.int .i64 ((rd_T49 l0 x7_1).f0))).setCell ⟨gb263,1,none⟩ (.int .i64 ((rd_T49 l0 x7_1).f1)))=w24 at n0_ n1_ ⊢
        have BK263:=n0_
        have HB:=n1_
        clear n0_ n1_
        have n0_:=aM (blk_drew BK263.out)
        have n1_:=aM (below_drew1 HB.out)
        clear BK263
        clear HB
        have BK263:=n0_
        have HB:=n1_
        clear n0_ n1_
        refine start_ (n:=18) (S:=fun w'=>w'.cell? ⟨gb263,0,none⟩=some (.int .i64 ((rd_T49 l0 x7_1).f0))∧w'.cell? ⟨gb263,1,none⟩=some (.int .i64 ((rd_T49 l0 x7_1).f1))) (ds:=[]) Y3.q0 (by kernel_rfl) rfl rfl (cc2_ BK263.out) (fun hHeld=>?_);refine with_tabW Y3.tab4 Y3.bits4 (fun HT_ HW_=>?_)
        generalize w24.drew=w25 at BK263 HB hHeld ⊢
        refine tk2_ 0 12 Y3.q1 HT_.out HW_.out hHeld ?_
        refine o1_ 1 13 Y3.q2 HT_.out (fun K hK=>?_)
        refine gs_ Try.func73 #[.agg #[.int .i64 ((rd_T49 l0 x7_1).f0),.int .i64 ((rd_T49 l0 x7_1).f1)]] ?_
        with_reducible refine (Y58.calls ((rd_T49 l0 x7_1).f0) ((rd_T49 l0 x7_1).f1) true _ A5.out).mono ?_
        rintro e w26 ⟨rfl,hb⟩
        refine ⟨_,rfl,?_⟩
        have n0_:=aM (blkB_ BK263.out hb)
        have n1_:=aM (below_step (z4_ HB.out GE263.out) hb)
        clear BK263
        clear HB
        have BK263:=n0_
        have HB:=n1_
        clear n0_ n1_
        (try clear hb)
        refine hK.out _ _ (cc2_ BK263.out) (fun hHeld=>?_)
        clear hK K
        refine nm_ 13 ?_
        refine pu_ 2 14 Y3.q3 HT_.out ?_
        refine pu_ 3 15 Y3.q4 HT_.out ?_
        refine pu_ 4 16 Y3.q5 HT_.out ?_
        refine pu_ 5 17 Y3.q6 HT_.out ?_
        refine pu_ 6 18 Y3.q7 HT_.out ?_
        refine pn_ 7 19 Y3.q8 HT_.out ?_
        refine pn_ 8 20 Y3.q9 HT_.out ?_
        refine pn_ 9 21 Y3.q10 HT_.out ?_
        refine pn_ 10 22 Y3.q11 HT_.out ?_
        refine pn_ 11 23 Y3.q12 HT_.out ?_
        refine pn_ 12 24 Y3.q19 HT_.out ?_
        refine pn_ 13 25 Y3.q14 HT_.out ?_
        refine pn_ 14 26 Y3.q15 HT_.out ?_
        refine pn_ 15 27 Y3.q16 HT_.out ?_
        refine pu_ 16 28 Y3.q17 HT_.out ?_
        refine pu_ 17 29 Y3.q18 HT_.out ?_
        refine done_ (done_of HT_.out (by kernel_rfl)) ?_
        try go_wp2
        go_roundg k1
        case measure=>have:=HK1.out;omega
        case rel=>exact ⟨(wrap64 (x7_1+1)),(z3_),H',⟨by have:=HK1.out;omega⟩,⟨z4_ HB.out GE263.out⟩⟩
      ·replace c6:=Bool.eq_false_iff.mpr c6
       subst c6
       have H1:(some false)=some r:=by rw [if_neg (show ¬ (false=true) by decide)] at H;exact H
       clear H
       have H:=H1
       clear H1
       obtain rfl:=sI H
       have p262:0≤(x7_1:Int):=dT (z7_)
       have q262:x7_1<(l0.length:Int):=dT (z7_)
       obtain ⟨ad262,e262,hx262_0,hx262_1⟩:=at_T49 HR0.out x7_1 p262 q262
       cases e262
       replace hx262_0:=(HB.out.cell (World.block_lt_of_cell? w _ hx262_0)).trans hx262_0
       replace hx262_1:=(HB.out.cell (World.block_lt_of_cell? w _ hx262_1)).trans hx262_1
       replace p262:=eq_true p262
       replace q262:=eq_true q262
       try go_wp2_with (first | ((with_reducible refine gd_ 4 ?_);refine be_ 4 #[.int .i64 0,.int .i64 0] 49 ?_;intro gb263 hg w27 hbox hb;have n0_:=aM (below_step (z1_ HB.out) hb);have n1_:=aM (hbox);have n2_:=aM ((z8_ HB.out:w.heap.size≤gb263));have n3_:=aM ((z8_ HB.out:w.heap.size≤gb263));clear HB;have HB:=n0_;have BK263:=n1_;have GW263:=n2_;have GE263:=n3_;clear n0_ n1_ n2_ n3_;clear hb hbox hg;have ⟨hcz28_0,hcz28_1,hfz28_0,hfz28_1⟩:=cz2_ BK263.out))
       have n0_:Aside0 (((w27.setCell ⟨gb263,0,none⟩ (.int .i64 ((rd_T49 l0 x7_1).f0))).setCell ⟨gb263,1,none⟩ (.int .i64 ((rd_T49 l0 x7_1).f1))).heap[gb263]? = some (.cells #[.int .i64 ((rd_T49 l0 x7_1).f0),.int .i64 ((rd_T49 l0 x7_1).f1)] 49 (0,0))):=⟨z15_ BK263.out⟩
       have n1_:Aside0 (Below w.heap.size w ((w27.setCell ⟨gb263,0,none⟩ (.int .i64 ((rd_T49 l0 x7_1).f0))).setCell ⟨gb263,1,none⟩ (.int .i64 ((rd_T49 l0 x7_1).f1)))):=⟨z4_ HB.out GE263.out⟩
       (try clear BK263)
       (try clear HB)
       generalize ((w27.setCell ⟨gb263,0,none⟩ (.int .i64 ((rd_T49 l0 x7_1).f0))).setCell ⟨gb263,1,none⟩ (.int .i64 ((rd_T49 l0 x7_1).f1)))=w29 at n0_ n1_ ⊢
       have BK263:=n0_
       have HB:=n1_
       clear n0_ n1_
       have n0_:=aM (blk_drew BK263.out)
       have n1_:=aM (below_drew1 HB.out)
       clear BK263
       clear HB
       have BK263:=n0_
       have HB:=n1_
       clear n0_ n1_
       refine start_ (n:=18) (S:=fun w'=>w'.cell? ⟨gb263,0,none⟩=some (.int .i64 ((rd_T49 l0 x7_1).f0))∧w'.cell? ⟨gb263,1,none⟩=some (.int .i64 ((rd_T49 l0 x7_1).f1))) (ds:=[]) Y3.q0 (by kernel_rfl) rfl rfl (cc2_ BK263.out) (fun hHeld=>?_);refine with_tabW Y3.tab4 Y3.bits4 (fun HT_ HW_=>?_)
       generalize w29.drew=w30 at BK263 HB hHeld ⊢
       refine tk2_ 0 12 Y3.q1 HT_.out HW_.out hHeld ?_
       refine o1_ 1 13 Y3.q2 HT_.out (fun K hK=>?_)
       refine gs_ Try.func73 #[.agg #[.int .i64 ((rd_T49 l0 x7_1).f0),.int .i64 ((rd_T49 l0 x7_1).f1)]] ?_
       with_reducible refine (Y58.calls ((rd_T49 l0 x7_1).f0) ((rd_T49 l0 x7_1).f1) false _ A5.out).mono ?_
       rintro e w31 ⟨rfl,hb⟩
       refine ⟨_,rfl,?_⟩
       have n0_:=aM (blkB_ BK263.out hb)
       have n1_:=aM (below_step (z4_ HB.out GE263.out) hb)
       clear BK263
       clear HB
       have BK263:=n0_
       have HB:=n1_
       clear n0_ n1_
       (try clear hb)
       refine hK.out _ _ (cc2_ BK263.out) (fun hHeld=>?_)
       clear hK K
       refine nm_ 13 ?_
       refine pu_ 2 14 Y3.q3 HT_.out ?_
       refine pu_ 3 15 Y3.q4 HT_.out ?_
       refine pn_ 4 16 Y3.q5 HT_.out ?_
       refine pn_ 5 17 Y3.q6 HT_.out ?_
       refine pn_ 6 18 Y3.q7 HT_.out ?_
       refine pn_ 7 19 Y3.q8 HT_.out ?_
       refine pn_ 8 20 Y3.q9 HT_.out ?_
       refine pn_ 9 21 Y3.q10 HT_.out ?_
       refine pn_ 10 22 Y3.q11 HT_.out ?_
       refine pn_ 11 23 Y3.q12 HT_.out ?_
       refine pn_ 12 24 Y3.q19 HT_.out ?_
       refine pn_ 13 25 Y3.q14 HT_.out ?_
       refine pn_ 14 26 Y3.q15 HT_.out ?_
       refine pn_ 15 27 Y3.q16 HT_.out ?_
       refine pn_ 16 28 Y3.q17 HT_.out ?_
       refine pu_ 17 29 Y3.q18 HT_.out ?_
       refine done_ (done_of HT_.out (by kernel_rfl)) ?_
       try go_wp2
       go_ret
       exact ⟨z5_,z4_ HB.out GE263.out⟩
     ·rw [if_neg c4] at H
      exact nO H
    ·rw [if_neg c3] at H
     exact nO H
   ·rw [if_neg c2] at H
    have c2b0:decide (x7_1<(l0.length:Int))=false:=dF c2
    clear c2
    obtain rfl:=sI H
    go_wp2
    go_ret
    exact ⟨z5_,z1_ HB.out⟩


/-! ### Y50: function 71 -/
def Y50.f (l0:List (S49)):Option (Bool):=some (decide ((l0.length:Int)>400))
theorem Y50.calls (A0:Option Addr) (c0:Nat) (l0:List (S49)) (r:Bool) (w:World) (hr0:Kd.C k49 w A0 l0.length l0) (hc0:l0.length≤c0) (h:Y50.f l0=some r) :
  Calls Try.prog 71 #[.slice A0 l0.length c0] w fun e w'=>e = .returned (.bool r)∧Drawn0 w w':=by
 have HR0:=aM hr0
 have HC0:=aM hc0
 clear hr0 hc0
 have H:(some (decide ((l0.length:Int)>400)))=some r:=h
 clear h
 obtain rfl:=sI H
 go_enter Try.func71,Try.ntmps71
 go_wp2
 go_ret
 exact ⟨z3_,z14_⟩


/-! ### Y12: function 41 -/
def Y12.f (k:Nat) (l0:List (S49)):Option (Bool):=(Y50.f l0).bind fun t432=>(if t432=true then (some false) else ((Y3.f k l0).bind fun t433=>(some t433)))
theorem Y12.mono:∀ a0 k,LeO (Y12.f k a0) (Y12.f (k+1) a0):=by
 intro a0 k
 have m0:=@Y3.mono
 unfold Y12.f
 exact mO
theorem Y12.calls (k:Nat) (A0:Option Addr) (c0:Nat) (l0:List (S49)) (r:Bool) (w:World) (hr0:Kd.C k49 w A0 l0.length l0) (hc0:l0.length≤c0) (h:Y12.f k l0=some r) :
  Calls Try.prog 41 #[.slice A0 l0.length c0] w fun e w'=>e = .returned (.bool r)∧Below w.heap.size w w':=by
 have HR0:=aM hr0
 have HC0:=aM hc0
 clear hr0 hc0
 have HB:=aM (Below.refl w.heap.size w)
 have H:((Y50.f l0).bind fun t432=>(if t432=true then (some false) else ((Y3.f k l0).bind fun t433=>(some t433))))=some r:=h
 clear h
 replace H:=bS H
 obtain ⟨t432,A20,H⟩:=H
 replace H:(if t432=true then (some false) else ((Y3.f k l0).bind fun t433=>(some t433)))=some r:=H
 have A2:=aM A20
 clear A20
 by_cases c3:t432=true
 ·subst c3
  have H1:(some false)=some r:=by rw [if_pos rfl] at H;exact H
  clear H
  have H:=H1
  clear H1
  obtain rfl:=sI H
  go_enter Try.func41,Try.ntmps41
  go_wp2_with (first | ((with_reducible refine gc_ 71 ?_);refine gl_ (some 4) Try.func71 #[.slice A0 l0.length c0] ?_;(with_reducible refine (Y50.calls _ _ l0 true _ ?s1 ?s2 A2.out).mono ?_);(case s1=>repeat (first | exact HR0.out | (with_reducible refine Kd.C_alloc ?_ _) | (with_reducible refine Kd.C_drewN ?_ _) | (with_reducible refine Kd.C_drew ?_)));(case s2=>exact HC0.out);rintro e w' ⟨rfl,⟨nd,rfl⟩⟩;refine ⟨_,rfl,?_⟩))
  go_ret
  exact ⟨z5_,z1_ HB.out⟩
 ·replace c3:=Bool.eq_false_iff.mpr c3
  subst c3
  have H1:((Y3.f k l0).bind fun t433=>(some t433))=some r:=by rw [if_neg (show ¬ (false=true) by decide)] at H;exact H
  clear H
  have H:=H1
  clear H1
  replace H:=bS H
  obtain ⟨t433,A40,H⟩:=H
  replace H:(some t433)=some r:=H
  have A4:=aM A40
  clear A40
  obtain rfl:=sI H
  go_enter Try.func41,Try.ntmps41
  go_wp2_with (first | ((with_reducible refine gc_ 71 ?_);refine gl_ (some 4) Try.func71 #[.slice A0 l0.length c0] ?_;(with_reducible refine (Y50.calls _ _ l0 false _ ?s1 ?s2 A2.out).mono ?_);(case s1=>repeat (first | exact HR0.out | (with_reducible refine Kd.C_alloc ?_ _) | (with_reducible refine Kd.C_drewN ?_ _) | (with_reducible refine Kd.C_drew ?_)));(case s2=>exact HC0.out);rintro e w' ⟨rfl,⟨nd,rfl⟩⟩;refine ⟨_,rfl,?_⟩) | (go_at_call 72;(with_reducible refine (Y3.calls k _ _ l0 t433 _ ?s1 ?s2 A4.out).mono ?_);(case s1=>repeat (first | exact HR0.out | (with_reducible refine Kd.C_alloc ?_ _) | (with_reducible refine Kd.C_drewN ?_ _) | (with_reducible refine Kd.C_drew ?_)));(case s2=>exact HC0.out);rintro e w5 ⟨rfl,hb⟩;have n0_:=aM (below_step (z1_ HB.out) hb);clear HB;have HB:=n0_;clear n0_;(try clear hb)))
  go_ret
  exact ⟨z5_,z1_ HB.out⟩


/-! ### Y35: function 84 -/
def Y35.l0:Nat→Int→List (S49)→Int→Int→Option (Int)
 | 0,_,_,_,_=>none
 | k+1,x1,x7,x8,x9=>if x9<x8 then (if 0≤x9 then (if x9<(x7.length:Int) then (if ((rd_T49 x7 x9).f0)=x1 then (some ((rd_T49 x7 x9).f1)) else (Y35.l0 k x1 x7 x8 (wrap64 (x9+1)))) else (none)) else (none)) else (some 0)
def Y35.f (k:Nat) (l0:List (S49)) (a1:Int):Option (Int):=Y35.l0 k a1 l0 (l0.length:Int) 0
theorem Y35.mono_l:∀ k,(∀ y0 y1 y2 y3,LeO (Y35.l0 k y0 y1 y2 y3) (Y35.l0 (k+1) y0 y1 y2 y3))
 | 0=>by intros <;> exact LeO.none _
 | k+1=>by
  have ih0:=Y35.mono_l k
  ·intros
   unfold Y35.l0
   exact mO
theorem Y35.mono:∀ a0 a1 k,LeO (Y35.f k a0 a1) (Y35.f (k+1) a0 a1):=by
 intro a0 a1 k
 have ih0:=Y35.mono_l k
 unfold Y35.f
 exact mO
theorem Y35.calls (k:Nat) (A0:Option Addr) (c0:Nat) (l0:List (S49)) (a1:Int) (r:Int) (w:World) (hr0:Kd.C k49 w A0 l0.length l0) (hc0:l0.length≤c0) (h:Y35.f k l0 a1=some r) :
  Calls Try.prog 84 #[.slice A0 l0.length c0,.int .i64 a1] w fun e w'=>e = .returned (.int .i64 r)∧Below w.heap.size w w':=by
 have hu49:=Try.underlying49
 have HR0:=aM hr0
 have HC0:=aM hc0
 clear hr0 hc0
 have HB:=aM (Below.refl w.heap.size w)
 have H:(Y35.l0 k a1 l0 (l0.length:Int) 0)=some r:=h
 clear h
 have H':=aM H
 clear H
 go_enter Try.func84,Try.ntmps84
 go_wp2
 go_loopg [9] k (fun kq v9 w'=>∃ (x9_1:Int),v9 = .int .i64 x9_1∧Aside0 (Y35.l0 kq a1 l0 (l0.length:Int) x9_1=some r)∧Aside0 (kq≤k)∧Aside0 (Below w.heap.size w w'))
 case atStart=>exact ⟨(0),(z3_),H',⟨Nat.le_refl _⟩,⟨z1_ HB.out⟩⟩
 case round =>
  clear H'
  try clear p2
  obtain ⟨x9_1,rfl,HA,HK1,HB⟩:=hrel
  cases gk with
  | zero=>exact absurd HA.out (by simp [Y35.l0])
  | succ k1 =>
   have H:=HA.out
   clear HA
   simp only [Y35.l0] at H
   by_cases c3:x9_1<(l0.length:Int)
   ·rw [if_pos c3] at H
    have c3b0:decide (x9_1<(l0.length:Int))=true:=dE c3
    clear c3
    by_cases c4:0≤x9_1
    ·rw [if_pos c4] at H
     have c4b0:decide (0≤x9_1)=true:=dE c4
     clear c4
     by_cases c5:x9_1<(l0.length:Int)
     ·rw [if_pos c5] at H
      have c5b0:decide (x9_1<(l0.length:Int))=true:=dE c5
      clear c5
      by_cases c6:((rd_T49 l0 x9_1).f0)=a1
      ·rw [if_pos c6] at H
       have c6b0:(((rd_T49 l0 x9_1).f0) == a1)=true:=beq_iff_eq.mpr c6
       have c6b1:(((rd_T49 l0 x9_1).f0) != a1)=false:=bne_eq_false_iff_eq.mpr c6
       clear c6
       obtain rfl:=sI H
       have p434:0≤(x9_1:Int):=dT (z7_)
       have q434:x9_1<(l0.length:Int):=dT (z7_)
       obtain ⟨ad434,e434,hx434_0,hx434_1⟩:=at_T49 HR0.out x9_1 p434 q434
       cases e434
       replace hx434_0:=(HB.out.cell (World.block_lt_of_cell? w _ hx434_0)).trans hx434_0
       replace hx434_1:=(HB.out.cell (World.block_lt_of_cell? w _ hx434_1)).trans hx434_1
       replace p434:=eq_true p434
       replace q434:=eq_true q434
       go_wp2_with (first | ((with_reducible refine gd_ 6 ?_);refine be_ 6 #[.int .i64 0,.int .i64 0] 49 ?_;intro gb435 hg w7 hbox hb;have n0_:=aM (below_step (z1_ HB.out) hb);have n1_:=aM (hbox);have n2_:=aM ((z8_ HB.out:w.heap.size≤gb435));have n3_:=aM ((z8_ HB.out:w.heap.size≤gb435));clear HB;have HB:=n0_;have BK435:=n1_;have GW435:=n2_;have GE435:=n3_;clear n0_ n1_ n2_ n3_;clear hb hbox hg;have ⟨hcz8_0,hcz8_1,hfz8_0,hfz8_1⟩:=cz2_ BK435.out))
       go_ret
       exact ⟨z5_,z4_ HB.out GE435.out⟩
      ·rw [if_neg c6] at H
       have c6b0:(((rd_T49 l0 x9_1).f0) == a1)=false:=beq_eq_false_iff_ne.mpr c6
       have c6b1:(((rd_T49 l0 x9_1).f0) != a1)=true:=bne_iff_ne.mpr c6
       have H':=aM H
       clear H
       have p434:0≤(x9_1:Int):=dT (z7_)
       have q434:x9_1<(l0.length:Int):=dT (z7_)
       obtain ⟨ad434,e434,hx434_0,hx434_1⟩:=at_T49 HR0.out x9_1 p434 q434
       cases e434
       replace hx434_0:=(HB.out.cell (World.block_lt_of_cell? w _ hx434_0)).trans hx434_0
       replace hx434_1:=(HB.out.cell (World.block_lt_of_cell? w _ hx434_1)).trans hx434_1
       replace p434:=eq_true p434
       replace q434:=eq_true q434
       go_wp2_with (first | ((with_reducible refine gd_ 6 ?_);refine be_ 6 #[.int .i64 0,.int .i64 0] 49 ?_;intro gb435 hg w9 hbox hb;have n0_:=aM (below_step (z1_ HB.out) hb);have n1_:=aM (hbox);have n2_:=aM ((z8_ HB.out:w.heap.size≤gb435));have n3_:=aM ((z8_ HB.out:w.heap.size≤gb435));clear HB;have HB:=n0_;have BK435:=n1_;have GW435:=n2_;have GE435:=n3_;clear n0_ n1_ n2_ n3_;clear hb hbox hg;have ⟨hcz10_0,hcz10_1,hfz10_0,hfz10_1⟩:=cz2_ BK435.out))
       go_roundg k1
       case measure=>have:=HK1.out;omega
       case rel=>exact ⟨(wrap64 (x9_1+1)),(z3_),H',⟨by have:=HK1.out;omega⟩,⟨z4_ HB.out GE435.out⟩⟩
     ·rw [if_neg c5] at H
      exact nO H
    ·rw [if_neg c4] at H
     exact nO H
   ·rw [if_neg c3] at H
    have c3b0:decide (x9_1<(l0.length:Int))=false:=dF c3
    clear c3
    obtain rfl:=sI H
    go_wp2
    go_ret
    exact ⟨z5_,z1_ HB.out⟩


/-! ### Y25: function 70 -/
def Y25.l0:Nat→List (S49)→List (S49)→List (S49)→Int→Option ((List (S49)))
 | 0,_,_,_,_=>none
 | k+1,x0,x1,x5,x6=>if x6≤5 then ((Y35.f k x0 x6).bind fun t436=>((Y35.f k x1 x6).bind fun t437=>(if (mx t436 t437)>0 then (if x5.length<8796093022208 then (Y25.l0 k x0 x1 (x5 ++ [(⟨x6,mx t436 t437⟩:S49)]) (wrap64 (x6+1))) else (none)) else (Y25.l0 k x0 x1 x5 (wrap64 (x6+1)))))) else (some x5)
def Y25.f (k:Nat) (l0:List (S49)) (l1:List (S49)):Option ((List (S49))):=Y25.l0 k l0 l1 ([]:List (S49)) 1
theorem Y25.mono_l:∀ k,(∀ y0 y1 y2 y3,LeO (Y25.l0 k y0 y1 y2 y3) (Y25.l0 (k+1) y0 y1 y2 y3))
 | 0=>by intros <;> exact LeO.none _
 | k+1=>by
  have ih0:=Y25.mono_l k
  have m0:=@Y35.mono
  ·intros
   unfold Y25.l0
   exact mO
theorem Y25.mono:∀ a0 a1 k,LeO (Y25.f k a0 a1) (Y25.f (k+1) a0 a1):=by
 intro a0 a1 k
 have m0:=@Y35.mono
 have ih0:=Y25.mono_l k
 unfold Y25.f
 exact mO
theorem Y25.calls (k:Nat) (A0:Option Addr) (c0:Nat) (l0:List (S49)) (A1:Option Addr) (c1:Nat) (l1:List (S49)) (r:List (S49)) (w:World) (hr0:Kd.C k49 w A0 l0.length l0) (hc0:l0.length≤c0) (hr1:Kd.C k49 w A1 l1.length l1) (hc1:l1.length≤c1) (h:Y25.f k l0 l1=some r) :
  Calls Try.prog 70 #[.slice A0 l0.length c0,.slice A1 l1.length c1] w fun e w'=>∃ v0_:Value,e = .returned (v0_)∧Kd.R k49 49 w' w.heap.size (fun _=>True) v0_ r∧Below w.heap.size w w':=by
 have hu49:=Try.underlying49
 have HR0:=aM hr0
 have HC0:=aM hc0
 clear hr0 hc0
 have HR1:=aM hr1
 have HC1:=aM hc1
 clear hr1 hc1
 have HB:=aM (Below.refl w.heap.size w)
 have H:(Y25.l0 k l0 l1 ([]:List (S49)) 1)=some r:=h
 clear h
 have H':=aM H
 clear H
 go_enter Try.func70,Try.ntmps70
 go_wp2
 go_loopg [5,6] k (fun kq v5 v6 w'=>∃ (x5_1:List (S49)) (x6_1:Int),v6 = .int .i64 x6_1∧Aside0 (Y25.l0 kq l0 l1 x5_1 x6_1=some r)∧Aside0 (kq≤k)∧Aside0 (Kd.R k49 49 w' w.heap.size (fun _=>True) v5 x5_1)∧Aside0 (Below w.heap.size w w'))
 case atStart=>exact ⟨(([]:List (S49))),(1),(z3_),H',⟨Nat.le_refl _⟩,⟨z25_⟩,⟨z1_ HB.out⟩⟩
 case round =>
  clear H'
  try clear c1
  try clear p2
  obtain ⟨x5_1,x6_1,rfl,HA,HK1,HO_5,HB⟩:=hrel
  cases gk with
  | zero=>exact absurd HA.out (by simp [Y25.l0])
  | succ k1 =>
   have H:=HA.out
   clear HA
   simp only [Y25.l0] at H
   by_cases c3:x6_1≤5
   ·rw [if_pos c3] at H
    have c3b0:decide (x6_1≤5)=true:=dE c3
    clear c3
    replace H:=bS H
    obtain ⟨t436,A40,H⟩:=H
    replace H:((Y35.f k1 l1 x6_1).bind fun t437=>(if (mx t436 t437)>0 then (if x5_1.length<8796093022208 then (Y25.l0 k1 l0 l1 (x5_1 ++ [(⟨x6_1,mx t436 t437⟩:S49)]) (wrap64 (x6_1+1))) else (none)) else (Y25.l0 k1 l0 l1 x5_1 (wrap64 (x6_1+1)))))=some r:=H
    have A4:=aM A40
    clear A40
    replace H:=bS H
    obtain ⟨t437,A50,H⟩:=H
    replace H:(if (mx t436 t437)>0 then (if x5_1.length<8796093022208 then (Y25.l0 k1 l0 l1 (x5_1 ++ [(⟨x6_1,mx t436 t437⟩:S49)]) (wrap64 (x6_1+1))) else (none)) else (Y25.l0 k1 l0 l1 x5_1 (wrap64 (x6_1+1))))=some r:=H
    have A5:=aM A50
    clear A50
    obtain ⟨ji6,hji6⟩:∃ j_:Int,(mx t436 t437)=j_:=⟨_,rfl⟩
    replace H:(if (ji6)>0 then (if x5_1.length<8796093022208 then (Y25.l0 k1 l0 l1 (x5_1 ++ [(⟨x6_1,ji6⟩:S49)]) (wrap64 (x6_1+1))) else (none)) else (Y25.l0 k1 l0 l1 x5_1 (wrap64 (x6_1+1))))=some r:=by first | (rw [hji6] at H;exact H) | (simp only [hji6] at H ⊢;exact H)
    (try rw [hji6] at A4)
    (try rw [hji6] at A5)
    have hji6_:(if t436<t437 then t437 else t436)=ji6:=hji6
    by_cases c7:(ji6)>0
    ·rw [if_pos c7] at H
     have c7b0:decide (0<(ji6))=true:=dE c7
     clear c7
     by_cases c8:x5_1.length<8796093022208
     ·rw [if_pos c8] at H
      have LMc8:=aM c8
      clear c8
      obtain ⟨y438,hy438⟩:∃ y_:List (S49),y_=(x5_1 ++ [(⟨x6_1,ji6⟩:S49)]):=⟨_,rfl⟩
      replace H:(Y25.l0 k1 l0 l1 y438 (wrap64 (x6_1+1)))=some r:=by first | (rw [hy438];with_reducible exact H) | (have H2_:=(Option.bind_some _ _).symm.trans H;rw [hy438];with_reducible exact H2_) | (have H2_:=(Option.bind_some _ _).symm.trans H;with_reducible exact H2_) | with_reducible exact H | (rw [hy438];exact H) | exact H
      have Ny438:=aM hy438
      clear hy438
      have H':=aM H
      clear H
      go_wp2_with (first | ((with_reducible refine gc_ 84 ?_);refine gl_ (some 14) Try.func84 #[.slice A0 l0.length c0,.int .i64 x6_1] ?_;(with_reducible refine (Y35.calls k1 _ _ l0 x6_1 t436 _ ?s1 ?s2 A4.out).mono ?_);(case s1=>repeat (first | exact (Kd.C_below HR0.out HB.out) | (with_reducible refine Kd.C_alloc ?_ _) | (with_reducible refine Kd.C_drewN ?_ _) | (with_reducible refine Kd.C_drew ?_)));(case s2=>exact HC0.out);rintro e w9 ⟨rfl,hb⟩;refine ⟨_,rfl,?_⟩;have n0_:=aM (Kd.R_below (z0_ HO_5.out) hb);have n1_:=aM (below_step (z1_ HB.out) hb);clear HO_5;clear HB;have HO_5:=n0_;have HB:=n1_;clear n0_ n1_;(try clear hb)) | ((with_reducible refine gc_ 84 ?_);refine gl_ (some 17) Try.func84 #[.slice A1 l1.length c1,.int .i64 x6_1] ?_;(with_reducible refine (Y35.calls k1 _ _ l1 x6_1 t437 _ ?s1 ?s2 A5.out).mono ?_);(case s1=>repeat (first | exact (Kd.C_below HR1.out HB.out) | (with_reducible refine Kd.C_alloc ?_ _) | (with_reducible refine Kd.C_drewN ?_ _) | (with_reducible refine Kd.C_drew ?_)));(case s2=>exact HC1.out);rintro e w10 ⟨rfl,hb⟩;refine ⟨_,rfl,?_⟩;have n0_:=aM (Kd.R_below (z0_ HO_5.out) hb);have n1_:=aM (below_step (z1_ HB.out) hb);clear HO_5;clear HB;have HO_5:=n0_;have HB:=n1_;clear n0_ n1_;(try clear hb)) | ((with_reducible refine gate_builtin (b:=.append) (xs:=#[.tmp 21,.tmp 25]) rfl ?_);at_builtin;refine Kd.R_append k49 (w0:=w) w.heap.size rfl (.tmp 21) (.tmp 25) 33 49 (.agg #[(.int .i64 0),(.int .i64 0)]) 16 rfl Try.underlying33 info49 rfl (by decide) (by omega) u5 x5_1 (⟨x6_1,ji6⟩:S49) [.int .i64 x6_1,.int .i64 ji6] (fun _=>True) (fun _=>False) rfl rfl ?aP (fun _ hk=>hk.elim) ?aF ?aO ?aB ?aS ?aL ?_;(case aP=>exact k49_mkM _ _ _ (⟨x6_1,ji6⟩:S49));(case aB=>exact (z1_ HB.out));(case aF=>exact (fun _ _=>trivial));(case aO=>exact (z0_ HO_5.out));(case aS=>exact (below_size (z1_ HB.out)));(case aL=>have:=LMc8.out;omega);intro v439 w11 ho hb hg hat;rw [← Ny438.out] at ho;have n0_:=aM (hb);have n1_:=aM (ho);clear HB;clear HO_5;have HB:=n0_;have HO440:=n1_;clear n0_ n1_;clear ho hb hg hat))
      go_roundg k1
      case measure=>have:=HK1.out;omega
      case rel=>exact ⟨(y438),(wrap64 (x6_1+1)),(z3_),H',⟨by have:=HK1.out;omega⟩,⟨z0_ HO440.out⟩,⟨z1_ HB.out⟩⟩
     ·rw [if_neg c8] at H
      exact nO H
    ·rw [if_neg c7] at H
     have c7b0:decide (0<(ji6))=false:=dF c7
     clear c7
     have H':=aM H
     clear H
     go_wp2_with (first | ((with_reducible refine gc_ 84 ?_);refine gl_ (some 14) Try.func84 #[.slice A0 l0.length c0,.int .i64 x6_1] ?_;(with_reducible refine (Y35.calls k1 _ _ l0 x6_1 t436 _ ?s1 ?s2 A4.out).mono ?_);(case s1=>repeat (first | exact (Kd.C_below HR0.out HB.out) | (with_reducible refine Kd.C_alloc ?_ _) | (with_reducible refine Kd.C_drewN ?_ _) | (with_reducible refine Kd.C_drew ?_)));(case s2=>exact HC0.out);rintro e w12 ⟨rfl,hb⟩;refine ⟨_,rfl,?_⟩;have n0_:=aM (Kd.R_below (z0_ HO_5.out) hb);have n1_:=aM (below_step (z1_ HB.out) hb);clear HO_5;clear HB;have HO_5:=n0_;have HB:=n1_;clear n0_ n1_;(try clear hb)) | ((with_reducible refine gc_ 84 ?_);refine gl_ (some 17) Try.func84 #[.slice A1 l1.length c1,.int .i64 x6_1] ?_;(with_reducible refine (Y35.calls k1 _ _ l1 x6_1 t437 _ ?s1 ?s2 A5.out).mono ?_);(case s1=>repeat (first | exact (Kd.C_below HR1.out HB.out) | (with_reducible refine Kd.C_alloc ?_ _) | (with_reducible refine Kd.C_drewN ?_ _) | (with_reducible refine Kd.C_drew ?_)));(case s2=>exact HC1.out);rintro e w13 ⟨rfl,hb⟩;refine ⟨_,rfl,?_⟩;have n0_:=aM (Kd.R_below (z0_ HO_5.out) hb);have n1_:=aM (below_step (z1_ HB.out) hb);clear HO_5;clear HB;have HO_5:=n0_;have HB:=n1_;clear n0_ n1_;(try clear hb)))
     go_roundg k1
     case measure=>have:=HK1.out;omega
     case rel=>exact ⟨(x5_1),(wrap64 (x6_1+1)),(z3_),H',⟨by have:=HK1.out;omega⟩,⟨z0_ HO_5.out⟩,⟨z1_ HB.out⟩⟩
   ·rw [if_neg c3] at H
    have c3b0:decide (x6_1≤5)=false:=dF c3
    clear c3
    obtain rfl:=sI H
    go_wp2
    go_ret
    exact ⟨_,z5_,z0_ HO_5.out,z1_ HB.out⟩


/-! ### Y51: function 20 -/
def Y51.f (k:Nat) (l0:List (S49)) (l1:List (S49)):Option ((List (S49))):=(Y12.f k l0).bind fun t441=>(if t441=true then ((Y12.f k l1).bind fun t442=>(if t442=true then ((Y25.f k l0 l1).bind fun t443=>(some t443)) else (some ([]:List (S49))))) else (some ([]:List (S49))))
theorem Y51.mono:∀ a0 a1 k,LeO (Y51.f k a0 a1) (Y51.f (k+1) a0 a1):=by
 intro a0 a1 k
 have m0:=@Y12.mono
 have m1:=@Y25.mono
 unfold Y51.f
 exact mO
theorem Y51.calls (k:Nat) (A0:Option Addr) (c0:Nat) (l0:List (S49)) (A1:Option Addr) (c1:Nat) (l1:List (S49)) (r:List (S49)) (w:World) (hr0:Kd.C k49 w A0 l0.length l0) (hc0:l0.length≤c0) (hr1:Kd.C k49 w A1 l1.length l1) (hc1:l1.length≤c1) (h:Y51.f k l0 l1=some r) :
  Calls Try.prog 20 #[.slice A0 l0.length c0,.slice A1 l1.length c1] w fun e w'=>∃ v0_:Value,e = .returned (v0_)∧Kd.R k49 49 w' w.heap.size (fun _=>True) v0_ r∧Below w.heap.size w w':=by
 have HR0:=aM hr0
 have HC0:=aM hc0
 clear hr0 hc0
 have HR1:=aM hr1
 have HC1:=aM hc1
 clear hr1 hc1
 have HB:=aM (Below.refl w.heap.size w)
 have H:((Y12.f k l0).bind fun t441=>(if t441=true then ((Y12.f k l1).bind fun t442=>(if t442=true then ((Y25.f k l0 l1).bind fun t443=>(some t443)) else (some ([]:List (S49))))) else (some ([]:List (S49)))))=some r:=h
 clear h
 replace H:=bS H
 obtain ⟨t441,A30,H⟩:=H
 replace H:(if t441=true then ((Y12.f k l1).bind fun t442=>(if t442=true then ((Y25.f k l0 l1).bind fun t443=>(some t443)) else (some ([]:List (S49))))) else (some ([]:List (S49))))=some r:=H
 have A3:=aM A30
 clear A30
 by_cases c4:t441=true
 ·subst c4
  have H1:((Y12.f k l1).bind fun t442=>(if t442=true then ((Y25.f k l0 l1).bind fun t443=>(some t443)) else (some ([]:List (S49)))))=some r:=by rw [if_pos rfl] at H;exact H
  clear H
  have H:=H1
  clear H1
  replace H:=bS H
  obtain ⟨t442,A50,H⟩:=H
  replace H:(if t442=true then ((Y25.f k l0 l1).bind fun t443=>(some t443)) else (some ([]:List (S49))))=some r:=H
  have A5:=aM A50
  clear A50
  by_cases c6:t442=true
  ·subst c6
   have H1:((Y25.f k l0 l1).bind fun t443=>(some t443))=some r:=by rw [if_pos rfl] at H;exact H
   clear H
   have H:=H1
   clear H1
   replace H:=bS H
   obtain ⟨t443,A70,H⟩:=H
   replace H:(some t443)=some r:=H
   have A7:=aM A70
   clear A70
   obtain rfl:=sI H
   go_enter Try.func20,Try.ntmps20
   go_wp2_with (first | ((with_reducible refine gc_ 41 ?_);refine gl_ (some 6) Try.func41 #[.slice A0 l0.length c0] ?_;(with_reducible refine (Y12.calls k _ _ l0 true _ ?s1 ?s2 A3.out).mono ?_);(case s1=>repeat (first | exact HR0.out | (with_reducible refine Kd.C_alloc ?_ _) | (with_reducible refine Kd.C_drewN ?_ _) | (with_reducible refine Kd.C_drew ?_)));(case s2=>exact HC0.out);rintro e w8 ⟨rfl,hb⟩;refine ⟨_,rfl,?_⟩;have n0_:=aM (below_step (z1_ HB.out) hb);clear HB;have HB:=n0_;clear n0_;(try clear hb)) | (go_at_call 41;(with_reducible refine (Y12.calls k _ _ l1 true _ ?s1 ?s2 A5.out).mono ?_);(case s1=>repeat (first | exact (Kd.C_below HR1.out HB.out) | (with_reducible refine Kd.C_alloc ?_ _) | (with_reducible refine Kd.C_drewN ?_ _) | (with_reducible refine Kd.C_drew ?_)));(case s2=>exact HC1.out);rintro e w9 ⟨rfl,hb⟩;have n0_:=aM (below_step (z1_ HB.out) hb);clear HB;have HB:=n0_;clear n0_;(try clear hb)) | ((with_reducible refine gc_ 70 ?_);refine gl_ (some 15) Try.func70 #[.slice A0 l0.length c0,.slice A1 l1.length c1] ?_;(with_reducible refine (Y25.calls k _ _ l0 _ _ l1 t443 _ ?s1 ?s2 ?s3 ?s4 A7.out).mono ?_);(case s1=>repeat (first | exact (Kd.C_below HR0.out HB.out) | (with_reducible refine Kd.C_alloc ?_ _) | (with_reducible refine Kd.C_drewN ?_ _) | (with_reducible refine Kd.C_drew ?_)));(case s2=>exact HC0.out);(case s3=>repeat (first | exact (Kd.C_below HR1.out HB.out) | (with_reducible refine Kd.C_alloc ?_ _) | (with_reducible refine Kd.C_drewN ?_ _) | (with_reducible refine Kd.C_drew ?_)));(case s4=>exact HC1.out);rintro e w10 ⟨v444,rfl,ho0,hb⟩;refine ⟨_,rfl,?_⟩;have n0_:=aM (Kd.R_lower ho0 (below_size (z1_ HB.out)));have n1_:=aM (below_step (z1_ HB.out) hb);clear HB;have HO445:=n0_;have HB:=n1_;clear n0_ n1_;(try clear hb);(try clear ho0)))
   go_ret
   exact ⟨_,z5_,z0_ HO445.out,z1_ HB.out⟩
  ·replace c6:=Bool.eq_false_iff.mpr c6
   subst c6
   have H1:(some ([]:List (S49)))=some r:=by rw [if_neg (show ¬ (false=true) by decide)] at H;exact H
   clear H
   have H:=H1
   clear H1
   obtain rfl:=sI H
   go_enter Try.func20,Try.ntmps20
   go_wp2_with (first | ((with_reducible refine gc_ 41 ?_);refine gl_ (some 6) Try.func41 #[.slice A0 l0.length c0] ?_;(with_reducible refine (Y12.calls k _ _ l0 true _ ?s1 ?s2 A3.out).mono ?_);(case s1=>repeat (first | exact HR0.out | (with_reducible refine Kd.C_alloc ?_ _) | (with_reducible refine Kd.C_drewN ?_ _) | (with_reducible refine Kd.C_drew ?_)));(case s2=>exact HC0.out);rintro e w11 ⟨rfl,hb⟩;refine ⟨_,rfl,?_⟩;have n0_:=aM (below_step (z1_ HB.out) hb);clear HB;have HB:=n0_;clear n0_;(try clear hb)) | (go_at_call 41;(with_reducible refine (Y12.calls k _ _ l1 false _ ?s1 ?s2 A5.out).mono ?_);(case s1=>repeat (first | exact (Kd.C_below HR1.out HB.out) | (with_reducible refine Kd.C_alloc ?_ _) | (with_reducible refine Kd.C_drewN ?_ _) | (with_reducible refine Kd.C_drew ?_)));(case s2=>exact HC1.out);rintro e w12 ⟨rfl,hb⟩;have n0_:=aM (below_step (z1_ HB.out) hb);clear HB;have HB:=n0_;clear n0_;(try clear hb)))
   go_ret
   exact ⟨_,z5_,z25_,z1_ HB.out⟩
 ·replace c4:=Bool.eq_false_iff.mpr c4
  subst c4
  have H1:(some ([]:List (S49)))=some r:=by rw [if_neg (show ¬ (false=true) by decide)] at H;exact H
  clear H
  have H:=H1
  clear H1
  obtain rfl:=sI H
  go_enter Try.func20,Try.ntmps20
  go_wp2_with (first | ((with_reducible refine gc_ 41 ?_);refine gl_ (some 6) Try.func41 #[.slice A0 l0.length c0] ?_;(with_reducible refine (Y12.calls k _ _ l0 false _ ?s1 ?s2 A3.out).mono ?_);(case s1=>repeat (first | exact HR0.out | (with_reducible refine Kd.C_alloc ?_ _) | (with_reducible refine Kd.C_drewN ?_ _) | (with_reducible refine Kd.C_drew ?_)));(case s2=>exact HC0.out);rintro e w13 ⟨rfl,hb⟩;refine ⟨_,rfl,?_⟩;have n0_:=aM (below_step (z1_ HB.out) hb);clear HB;have HB:=n0_;clear n0_;(try clear hb)))
  go_ret
  exact ⟨_,z5_,z25_,z1_ HB.out⟩

end Go.Proofs.Ytmefchanjoadfaa.P
