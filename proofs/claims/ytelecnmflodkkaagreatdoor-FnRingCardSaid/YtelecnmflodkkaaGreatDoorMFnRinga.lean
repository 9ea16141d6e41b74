/- A drawn key's order holds each node once; its first owner is the first of these; drawn stand-ins are not down and all different; and the program's rings, orders, owners, stand-ins and hashes are the reference's. No condition. (Part 1 of 5: written by programs of this workplace and by hand, merged.) -/
import Derived.Test.YtelecnmflodkkaaGreatDoorProg
import Derived.Below
import Derived.Deep.Draws
import Derived.Deep.AppendLies
import Derived.Maps.AppendAt
import Derived.OwnWalk
import Derived.Laws.BytesArg
import Derived.Laws.MakeOwn
import Derived.Laws.OwnMore
import Derived.Deep.OwnRows
import Derived.Tactics
import Derived.Lib.ConvBytes
import Derived.Laws.Slices
import Derived.WalkKit
import Derived.KernelRfl
import Derived.RowKit3
import Derived.Deep.LoopGhost
import Derived.Deep.QuietTactic
import Derived.BigQuiet
import Derived.WideLaws
import Derived.Deep.DeepCutAuto
import Derived.Deep.CutBlock
import Derived.Deep.RegionHeld3
import Derived.Laws.Rows
import Derived.Lib.AppendStr
import Derived.ArgAppend
import Derived.Laws.IdiomCopy
import Derived.OrdersHeld
import Derived.Laws.BitsLemmas
import Derived.RowKit
import Derived.Lib.Bytealg
import Derived.Lib.Walk
import Derived.Test.YtelecnmflodkkaaGreatDoorMFnRingWWords
import Derived.Test.YtelecnmflodkkaaGreatDoorMFnRingWLast
import Derived.Test.YtelecnmflodkkaaGreatDoorMFnRingWTab
import Derived.Test.YtelecnmflodkkaaGreatDoorMFnRingWApart
import Derived.Test.YtelecnmflodkkaaGreatDoorMFnRingWFoot
import Derived.Test.YtelecnmflodkkaaGreatDoorMFnRingWKept
import Derived.Test.YtelecnmflodkkaaGreatDoorMFnRingWShare
import Derived.Test.YtelecnmflodkkaaGreatDoorMFnRingWN
import Derived.Test.YtelecnmflodkkaaGreatDoorMFnRingWFootNe
import Derived.Test.YtelecnmflodkkaaGreatDoorMFnRingWEqStruct
import Derived.Test.YtelecnmflodkkaaGreatDoorMFnRingWRepsOne
import Derived.Test.YtelecnmflodkkaaGreatDoorMFnRingWGuard
import Derived.Test.YtelecnmflodkkaaGreatDoorMFnRingWMore
import Derived.ChangeArms
import Derived.ChangeSlices
import Derived.WideShapes
set_option linter.unusedVariables false
set_option linter.unusedSimpArgs false
set_option maxHeartbeats 8000000
set_option maxRecDepth 100000

namespace Go.Proofs.YtelecnmflodkkaaGreatDoor.P
open Go.RowKit Go.Proofs.YtelecnmflodkkaaGreatDoorW.PrintWords Go.Proofs.YtelecnmflodkkaaGreatDoorW.PrintLast Go.Proofs.YtelecnmflodkkaaGreatDoorW.PrintMore
attribute [local go_sem] max2_int min2_int max_two min_two max_three min_three max_four min_four   -- for this text's walks alone
set_option linter.unusedVariables false
set_option linter.unusedSimpArgs false

theorem sa_ {α:Type _} (l:List α) (i:Nat) (a:α):l.toArray.setIfInBounds i a=(l.set i a).toArray:=List.setIfInBounds_toArray ..
theorem s0_ {α:Type _} (x:α) (l:List α) (a:α):(x :: l).set 0 a=a :: l:=List.set_cons_zero ..
theorem ss_ {α:Type _} (x:α) (l:List α) (n:Nat) (a:α):(x :: l).set (n+1) a=x :: l.set n a:=List.set_cons_succ ..
section
variable {P:Program} {ops:Array Oper} {Q:Exit→Act→World→Prop}
/-- A call of a function value, as a step of a region that draws. -/
theorem goesD_ {oi:Oper} {N:Option Tmp} {a:Act} {w:World} {K:Act→World→Prop} {f:FuncId} {fn:Func} {as_:Array Operand} {ts:Array TypeId} {x:Operand} (hf:P.funcs[f]? = some fn) (hname:(fn.name == "runtime.NumGoroutine")=false) (hb:fn.body.isSome=true) (args:Array Value)
    (hw:Region.wanted oi (yielded ops a.tmps)=true) (hN:oi.dst=N) (hop:oi.op = .call { callee:=.value x,args:=as_,argTypes:=ts }) (hx:a.eval x = .func (.func f) #[] #[]) (hargs:as_.map a.eval=args)
    (h:Calls P f args w fun e w'=>∃ v,e = .returned v∧K (a.put N v) w'):if Region.wanted oi (yielded ops a.tmps)=true then Oper.wp P oi a w K Q else K (a.put N undef) w:=by
  refine call_ f args hw hN ?_ h
  have he:=enters_ hf hname hb args w
  unfold execOp
  simp [hop,resolve,Deferred.ofValue,invoke,hx,hargs,he]
end



def errW:Option Int→Value
  | none=>.nilIface
  | some c=>.iface 0 (.int .i64 c)
theorem errW_none:errW none = .nilIface:=rfl
theorem errW_some (c:Int):errW (some c) = .iface 0 (.int .i64 c):=rfl

theorem info2:(Tryz.prog.info? 2).map (fun i=>(i.zero,i.size,i.bytes))=some (some (.int .i64 0),1,8):=by kernel_rfl
theorem info5:(Tryz.prog.info? 5).map (fun i=>(i.zero,i.size,i.bytes))=some (some (.int .u8 0),1,1):=by kernel_rfl
theorem info75:(Tryz.prog.info? 75).map (fun i=>(i.zero,i.size,i.bytes))=some (some (.agg #[(.int .i64 0),(.int .i64 0)]),2,16):=by kernel_rfl
theorem info78:(Tryz.prog.info? 78).map (fun i=>(i.zero,i.size,i.bytes))=some (some (.agg #[(.int .i64 0),(.int .i64 0)]),2,16):=by kernel_rfl
-- the values' own types
/-! #### struct type 78 -/
structure S78 where
  f0:Int
  f1:Int
def z78:S78:=⟨(0:Int),(0:Int)⟩
def k78:Kd S78:=Kd.iso (Kd.pair (Kd.int .i64) (Kd.int .i64)) (fun x:S78=>(x.f0,x.f1))
theorem k78_heap:Kd.Heap k78:=Kd.heap_iso _ (Kd.heap_pair (Kd.heap_int .i64) (Kd.heap_int .i64))
theorem k78_open {w:World} {x:S78} {cs:List Value} (h:k78.K w x cs):cs=[.int .i64 x.f0,.int .i64 x.f1]:=by
  obtain ⟨_,_,rfl,rfl,rfl⟩:=h
  exact rfl
theorem k78_openM {w:World} {base:Nat} {ok:Nat→Prop} {x:S78} {cs:List Value} (h:k78.M w base ok x cs):cs=[.int .i64 x.f0,.int .i64 x.f1]:=by
  obtain ⟨_,_,rfl,rfl,rfl⟩:=h
  exact rfl
theorem k78_mkM (w:World) (base:Nat) (ok:Nat→Prop) (x:S78)  : k78.M w base ok x [.int .i64 x.f0,.int .i64 x.f1]:=⟨[.int .i64 x.f0],[.int .i64 x.f1],rfl,rfl,rfl⟩
def rd_T78 (xs:List S78) (i:Int):S78:=xs.getD i.toNat z78
theorem at_T78 {w:World} {A:Option Addr} {n:Nat} {xs:List S78} (h:Kd.C k78 w A n xs) (i:Int) (h0:0≤i) (h1:i<n):∃ ad , A=some ad∧w.cell? (ad.add (i.toNat*2))=some (.int .i64 (rd_T78 xs i).f0)∧w.cell? ⟨(ad.add (i.toNat*2)).block,(ad.add (i.toNat*2)).off+1,none⟩=some (.int .i64 (rd_T78 xs i).f1):=by
  obtain ⟨ad,c,e,_,hK,hc0⟩:=Kd.C_get h z78 i h0 h1
  have hc:∀ j u,c[j]? = some u→w.cell? (ad.add (i.toNat*2+j))=some u:=hc0
  obtain rfl:=k78_open hK
  exact ⟨ad,e,hc 0 _ rfl,by rw [← add_field _ _ 1 (by omega)];exact hc 1 _ rfl⟩

/-! #### struct type 75 -/
structure S75 where
  f0:Int
  f1:Int
def z75:S75:=⟨(0:Int),(0:Int)⟩
def k75:Kd S75:=Kd.iso (Kd.pair (Kd.int .i64) (Kd.int .i64)) (fun x:S75=>(x.f0,x.f1))
theorem k75_open {w:World} {x:S75} {cs:List Value} (h:k75.K w x cs):cs=[.int .i64 x.f0,.int .i64 x.f1]:=by
  obtain ⟨_,_,rfl,rfl,rfl⟩:=h
  exact rfl
theorem k75_mkM (w:World) (base:Nat) (ok:Nat→Prop) (x:S75)  : k75.M w base ok x [.int .i64 x.f0,.int .i64 x.f1]:=⟨[.int .i64 x.f0],[.int .i64 x.f1],rfl,rfl,rfl⟩
def rd_T75 (xs:List S75) (i:Int):S75:=xs.getD i.toNat z75
theorem at_T75 {w:World} {A:Option Addr} {n:Nat} {xs:List S75} (h:Kd.C k75 w A n xs) (i:Int) (h0:0≤i) (h1:i<n):∃ ad , A=some ad∧w.cell? (ad.add (i.toNat*2))=some (.int .i64 (rd_T75 xs i).f0)∧w.cell? ⟨(ad.add (i.toNat*2)).block,(ad.add (i.toNat*2)).off+1,none⟩=some (.int .i64 (rd_T75 xs i).f1):=by
  obtain ⟨ad,c,e,_,hK,hc0⟩:=Kd.C_get h z75 i h0 h1
  have hc:∀ j u,c[j]? = some u→w.cell? (ad.add (i.toNat*2+j))=some u:=hc0
  obtain rfl:=k75_open hK
  exact ⟨ad,e,hc 0 _ rfl,by rw [← add_field _ _ 1 (by omega)];exact hc 1 _ rfl⟩

end Go.Proofs.YtelecnmflodkkaaGreatDoor.P

namespace Go.Proofs.YtelecnmflodkkaaGreatDoor.P
open Go.RowKit Go.Proofs.YtelecnmflodkkaaGreatDoorW.PrintWords Go.Proofs.YtelecnmflodkkaaGreatDoorW.PrintLast Go.Proofs.YtelecnmflodkkaaGreatDoorW.PrintMore
abbrev I:=true
abbrev O:=false
theorem mO {p:Prop} (h:p:=by repeat' first | (with_reducible exact LeO.refl _) | (with_reducible exact LeO.none _) | (with_reducible refine LeO.ite ?_ ?_) | (with_reducible refine LeO.bind ?_ (fun _=>?_)) | (with_reducible apply_assumption) | apply_assumption | exact LeO.none _ | refine LeO.ite ?_ ?_ | refine LeO.bind ?_ (fun _=>?_)):p:=h
theorem nO {q p:Prop} (h:q) (f:¬q:=by simp):p:=absurd h f
theorem aM {p:Prop} (h:p):Aside0 p:=⟨h⟩
theorem sI {α:Type _} {a b:α} (h:some a=some b):a=b:=Option.some.inj h
theorem bS {α β:Type _} {x:Option α} {f:α→Option β} {b:β} (h:x.bind f=some b):∃ a,x=some a∧f a=some b:=Option.bind_eq_some_iff.mp h
theorem dT {p:Prop} [Decidable p] (h:decide p=true):p:=of_decide_eq_true h
theorem dE {p:Prop} [Decidable p] (h:p):decide p=true:=decide_eq_true h
theorem dF {p:Prop} [Decidable p] (h:¬p):decide p=false:=decide_eq_false h
section
variable {P:Program} {ops:Array Oper} {Q:Exit→Act→World→Prop} {md:Region.Mode} {S:World→Prop} {ds:List Nat}
theorem pu_ {T:Bool × List (List Nat × List Nat)} (i:Nat) (N:Tmp) {oi:Oper} {v:Value} {fuel:Nat} {l:Array Bool} {a a':Act} {w:World} (l':Array Bool) (hT:rtab md ops=T) (h:wpAnyLast P md ops Q S ds fuel l' a' w) (hi:ops[i]? = some oi:=by exact rfl) (hN:oi.dst=some N:=by exact rfl) (hc:anyT T l.toList l'.toList i=true:=by kernel_rfl) (hQ:∀ c a w,Q (.panic c) (a.put oi.dst v) w→Q (.panic c) a w:=by exact fun _ _ _ h=>h) (hw:Region.wanted oi (yielded ops a.tmps)=true:=by rfl) (hy:∀ w',(execOp a.eval oi).run P w' = .ok (.value v) w':=by (intro w');go_simp;(with_reducible rfl)) (ha:a.put (some N) v=a':=by (simp only [Act.put,sa_,s0_,ss_,i64_w,i32_w]);exact rfl):wpAnyLast P md ops Q S ds (fuel+1) l a w:=pure_ l' hi hN (any_of hT hc) hQ (Or.inl ⟨hw,hy⟩) ha h
theorem pn_ {T:Bool × List (List Nat × List Nat)} (i:Nat) (N:Tmp) {oi:Oper} {v:Value} {fuel:Nat} {l:Array Bool} {a a':Act} {w:World} (l':Array Bool) (hT:rtab md ops=T) (h:wpAnyLast P md ops Q S ds fuel l' a' w) (hi:ops[i]? = some oi:=by exact rfl) (hN:oi.dst=some N:=by exact rfl) (hc:anyT T l.toList l'.toList i=true:=by kernel_rfl) (hQ:∀ c a w,Q (.panic c) (a.put oi.dst v) w→Q (.panic c) a w:=by exact fun _ _ _ h=>h) (hw:Region.wanted oi (yielded ops a.tmps)=false:=by rfl) (hy:v=undef:=by rfl) (ha:a.put (some N) v=a':=by (simp only [Act.put,sa_,s0_,ss_,i64_w,i32_w]);exact rfl):wpAnyLast P md ops Q S ds (fuel+1) l a w:=pure_ l' hi hN (any_of hT hc) hQ (Or.inr ⟨hw,hy⟩) ha h
theorem tk2_ {T:Bool × List (List Nat × List Nat)} (i:Nat) (N:Tmp) {oi:Oper} {v:Value} {fuel:Nat} {l:Array Bool} {a a':Act} {w:World} (l':Array Bool) {B:List Nat} (hT:rtab md ops=T) (hB:waitsOk T.2 B=true) (hS:S w) (h:wpAnyLast P md ops Q S ds fuel l' a' w) (hi:ops[i]? = some oi:=by exact rfl) (hN:oi.dst=some N:=by exact rfl) (hc:takeW T B ds l.toList l'.toList i=true:=by kernel_rfl) (hQ:∀ c a w,Q (.panic c) (a.put oi.dst v) w→Q (.panic c) a w:=by exact fun _ _ _ h=>h) (hw:Region.wanted oi (yielded ops a.tmps)=true:=by rfl) (hy:∀ w',S w'→(execOp a.eval oi).run P w' = .ok (.value v) w':=by (rintro w' ⟨s0,s1⟩);go_simp;(with_reducible rfl)) (ha:a.put (some N) v=a':=by (simp only [Act.put,sa_,s0_,ss_,i64_w,i32_w]);exact rfl):wpAnyLast P md ops Q S ds (fuel+1) l a w:=take_ l' hi hN (take_ofW hT hB hc) hQ (Or.inl ⟨hw,hy⟩) hS ha h
theorem tk4_ {T:Bool × List (List Nat × List Nat)} (i:Nat) (N:Tmp) {oi:Oper} {v:Value} {fuel:Nat} {l:Array Bool} {a a':Act} {w:World} (l':Array Bool) {B:List Nat} (hT:rtab md ops=T) (hB:waitsOk T.2 B=true) (hS:S w) (h:wpAnyLast P md ops Q S ds fuel l' a' w) (hi:ops[i]? = some oi:=by exact rfl) (hN:oi.dst=some N:=by exact rfl) (hc:takeW T B ds l.toList l'.toList i=true:=by kernel_rfl) (hQ:∀ c a w,Q (.panic c) (a.put oi.dst v) w→Q (.panic c) a w:=by exact fun _ _ _ h=>h) (hw:Region.wanted oi (yielded ops a.tmps)=true:=by rfl) (hy:∀ w',S w'→(execOp a.eval oi).run P w' = .ok (.value v) w':=by (rintro w' ⟨s0,s1,s2,s3⟩);go_simp;(with_reducible rfl)) (ha:a.put (some N) v=a':=by (simp only [Act.put,sa_,s0_,ss_,i64_w,i32_w]);exact rfl):wpAnyLast P md ops Q S ds (fuel+1) l a w:=take_ l' hi hN (take_ofW hT hB hc) hQ (Or.inl ⟨hw,hy⟩) hS ha h
theorem tk5_ {T:Bool × List (List Nat × List Nat)} (i:Nat) (N:Tmp) {oi:Oper} {v:Value} {fuel:Nat} {l:Array Bool} {a a':Act} {w:World} (l':Array Bool) {B:List Nat} (hT:rtab md ops=T) (hB:waitsOk T.2 B=true) (hS:S w) (h:wpAnyLast P md ops Q S ds fuel l' a' w) (hi:ops[i]? = some oi:=by exact rfl) (hN:oi.dst=some N:=by exact rfl) (hc:takeW T B ds l.toList l'.toList i=true:=by kernel_rfl) (hQ:∀ c a w,Q (.panic c) (a.put oi.dst v) w→Q (.panic c) a w:=by exact fun _ _ _ h=>h) (hw:Region.wanted oi (yielded ops a.tmps)=true:=by rfl) (hy:∀ w',S w'→(execOp a.eval oi).run P w' = .ok (.value v) w':=by (rintro w' ⟨s0,s1,s2,s3,s4⟩);go_simp;(with_reducible rfl)) (ha:a.put (some N) v=a':=by (simp only [Act.put,sa_,s0_,ss_,i64_w,i32_w]);exact rfl):wpAnyLast P md ops Q S ds (fuel+1) l a w:=take_ l' hi hN (take_ofW hT hB hc) hQ (Or.inl ⟨hw,hy⟩) hS ha h
theorem tk6_ {T:Bool × List (List Nat × List Nat)} (i:Nat) (N:Tmp) {oi:Oper} {v:Value} {fuel:Nat} {l:Array Bool} {a a':Act} {w:World} (l':Array Bool) {B:List Nat} (hT:rtab md ops=T) (hB:waitsOk T.2 B=true) (hS:S w) (h:wpAnyLast P md ops Q S ds fuel l' a' w) (hi:ops[i]? = some oi:=by exact rfl) (hN:oi.dst=some N:=by exact rfl) (hc:takeW T B ds l.toList l'.toList i=true:=by kernel_rfl) (hQ:∀ c a w,Q (.panic c) (a.put oi.dst v) w→Q (.panic c) a w:=by exact fun _ _ _ h=>h) (hw:Region.wanted oi (yielded ops a.tmps)=true:=by rfl) (hy:∀ w',S w'→(execOp a.eval oi).run P w' = .ok (.value v) w':=by (rintro w' ⟨s0,s1,s2,s3,s4,s5⟩);go_simp;(with_reducible rfl)) (ha:a.put (some N) v=a':=by (simp only [Act.put,sa_,s0_,ss_,i64_w,i32_w]);exact rfl):wpAnyLast P md ops Q S ds (fuel+1) l a w:=take_ l' hi hN (take_ofW hT hB hc) hQ (Or.inl ⟨hw,hy⟩) hS ha h
theorem tk8_ {T:Bool × List (List Nat × List Nat)} (i:Nat) (N:Tmp) {oi:Oper} {v:Value} {fuel:Nat} {l:Array Bool} {a a':Act} {w:World} (l':Array Bool) {B:List Nat} (hT:rtab md ops=T) (hB:waitsOk T.2 B=true) (hS:S w) (h:wpAnyLast P md ops Q S ds fuel l' a' w) (hi:ops[i]? = some oi:=by exact rfl) (hN:oi.dst=some N:=by exact rfl) (hc:takeW T B ds l.toList l'.toList i=true:=by kernel_rfl) (hQ:∀ c a w,Q (.panic c) (a.put oi.dst v) w→Q (.panic c) a w:=by exact fun _ _ _ h=>h) (hw:Region.wanted oi (yielded ops a.tmps)=true:=by rfl) (hy:∀ w',S w'→(execOp a.eval oi).run P w' = .ok (.value v) w':=by (rintro w' ⟨s0,s1,s2,s3,s4,s5,s6,s7⟩);go_simp;(with_reducible rfl)) (ha:a.put (some N) v=a':=by (simp only [Act.put,sa_,s0_,ss_,i64_w,i32_w]);exact rfl):wpAnyLast P md ops Q S ds (fuel+1) l a w:=take_ l' hi hN (take_ofW hT hB hc) hQ (Or.inl ⟨hw,hy⟩) hS ha h
theorem o1_ {T:Bool × List (List Nat × List Nat)} (i:Nat) (N:Tmp) {oi:Oper} {fuel:Nat} {l:Array Bool} {a:Act} {w:World} (l':Array Bool) (hT:rtab md ops=T) (h:∀ K:Act→World→Prop,Shut (∀ a' w',S w'→(S w'→wpAnyLast P md ops Q S ds fuel l' a' w')→K a' w')→if Region.wanted oi (yielded ops a.tmps)=true then Oper.wp P oi a w K Q else K (a.put (some N) undef) w) (hi:ops[i]? = some oi:=by exact rfl) (hN:oi.dst=some N:=by exact rfl) (hc:(readyT T.2 l.toList == [i] && l.toList.set i true == l'.toList)=true:=by kernel_rfl) (hd:i ∉ ds:=by decide):wpAnyLast P md ops Q S ds (fuel+1) l a w:=one_ l' hi hN (one_of hT hc) hd h
theorem o2_ {T:Bool × List (List Nat × List Nat)} (i j:Nat) (Ni Nj:Tmp) {oi oj:Oper} {fuel:Nat} {l:Array Bool} {a:Act} {w:World} (li lj:Array Bool) (hT:rtab md ops=T) (h1:∀ K:Act→World→Prop,Shut (∀ a' w',S w'→(S w'→wpAnyLast P md ops Q S ds fuel li a' w')→K a' w')→if Region.wanted oi (yielded ops a.tmps)=true then Oper.wp P oi a w K Q else K (a.put (some Ni) undef) w) (h2:∀ K:Act→World→Prop,Shut (∀ a' w',S w'→(S w'→wpAnyLast P md ops Q S ds fuel lj a' w')→K a' w')→if Region.wanted oj (yielded ops a.tmps)=true then Oper.wp P oj a w K Q else K (a.put (some Nj) undef) w) (hi:ops[i]? = some oi:=by exact rfl) (hj:ops[j]? = some oj:=by exact rfl) (hNi:oi.dst=some Ni:=by exact rfl) (hNj:oj.dst=some Nj:=by exact rfl) (hc:(readyT T.2 l.toList == [i,j] && l.toList.set i true == li.toList && l.toList.set j true == lj.toList)=true:=by kernel_rfl) (hdi:i ∉ ds:=by decide) (hdj:j ∉ ds:=by decide):wpAnyLast P md ops Q S ds (fuel+1) l a w:=two_ li lj hi hj hNi hNj (two_of hT hc) hdi hdj h1 h2
theorem nm_ (N:Tmp) {fuel:Nat} {l:Array Bool} {a a':Act} {v:Value} {w:World} (h:wpAnyLast P md ops Q S ds fuel l a' w) (ha:Act.put a (some N) v=a':=by simp only [Act.put,sa_,s0_,ss_,i64_w,i32_w];rfl):wpAnyLast P md ops Q S ds fuel l (Act.put a (some N) v) w:=norm_ ha h
end
section
variable {P:Program} {ops:Array Oper} {rest:List Oper} {o:Oper} {a:Act} {Q:Exit→Act→World→Prop} {W:World}
theorem gd_ (N:Tmp) (h:wpList P ops Q (o :: rest) a W) (hN:o.dst=some N:=by with_reducible rfl):wpList P ops Q (o :: rest) a W:=h
theorem gc_ (f:FuncId) {ars:Array Operand} {ts:Array TypeId} (h:wpList P ops Q (o :: rest) a W) (ho:o.op = .call { callee:=.value (.func f),args:=ars,argTypes:=ts }:=by with_reducible rfl):wpList P ops Q (o :: rest) a W:=h
theorem be_ (N:Tmp) (cs:Array Value) (t:TypeId) (h:∀ g,g=W.heap.size→∀ w1,w1.heap[g]? = some (.cells cs t (0,0))→Below W.heap.size W w1→wpList P ops Q rest (a.put o.dst (.pointer (some ⟨g,0,none⟩))) w1) (hd:o.dst=some N:=by rfl) (hgd:o.guard=none:=by rfl) (hrun:(execOp a.eval o).run P W = .ok (.value (.pointer (some ⟨W.heap.size,0,none⟩))) (W.alloc (.cells cs t (0,0))):=by first | (go_simp;done) | (go_simp;rfl)):wpList P ops Q (o :: rest) a W:=box_event hgd hd hrun h
theorem bs_ {Kc:Act→World→Prop} (N:Tmp) (cs:Array Value) (t:TypeId) (h:∀ g,g=W.heap.size→∀ w1,w1.heap[g]? = some (.cells cs t (0,0))→Below W.heap.size W w1→Kc (a.put o.dst (.pointer (some ⟨g,0,none⟩))) w1) (hd:o.dst=some N:=by rfl) (hw:Region.wanted o (yielded ops a.tmps)=true:=by rfl) (hrun:(execOp a.eval o).run P W = .ok (.value (.pointer (some ⟨W.heap.size,0,none⟩))) (W.alloc (.cells cs t (0,0))):=by first | (go_simp;done) | (go_simp;rfl)):if Region.wanted o (yielded ops a.tmps)=true then Oper.wp P o a W Kc Q else Kc (a.put o.dst undef) W:=box_step hw hd hrun h
theorem gl_ (N:Option Tmp) {f:FuncId} {fn:Func} {ars:Array Operand} {ts:Array TypeId} (hf:P.funcs[f]? = some fn) (args:Array Value) (h:Calls P f args W fun e w'=>∃ v,e = .returned v∧wpList P ops Q rest (a.put N v) w') (hd:o.dst=N:=by exact rfl) (hg:o.guard=none:=by exact rfl) (hname:(fn.name == "runtime.NumGoroutine")=false:=by kernel_rfl) (hb:fn.body.isSome=true:=by exact rfl) (hop:o.op = .call { callee:=.value (.func f),args:=ars,argTypes:=ts }:=by exact rfl) (hargs:ars.map a.eval=args:=by (try simp only [List.map_toArray,List.map_cons,List.map_nil]);first | done | rfl | (simp only [List.length_drop,List.length_take];rfl)):wpList P ops Q (o :: rest) a W:=goesL_ N hd hg hf hname hb args hop hargs h
theorem gs_ {N:Option Tmp} {K:Act→World→Prop} {f:FuncId} {fn:Func} {ars:Array Operand} {ts:Array TypeId} (hf:P.funcs[f]? = some fn) (args:Array Value) (h:Calls P f args W fun e w'=>∃ v,e = .returned v∧K (a.put N v) w') (hname:(fn.name == "runtime.NumGoroutine")=false:=by kernel_rfl) (hb:fn.body.isSome=true:=by exact rfl) (hw:Region.wanted o (yielded ops a.tmps)=true:=by rfl) (hN:o.dst=N:=by exact rfl) (hop:o.op = .call { callee:=.value (.func f),args:=ars,argTypes:=ts }:=by exact rfl) (hargs:ars.map a.eval=args:=by (try simp only [List.map_toArray,List.map_cons,List.map_nil]);first | done | rfl | (simp only [List.length_drop,List.length_take];rfl)):if Region.wanted o (yielded ops a.tmps)=true then Oper.wp P o a W K Q else K (a.put N undef) W:=goes_ hf hname hb args hw hN hop hargs h
end
theorem cc2_ {w:World} {g:Nat} {t:TypeId} {v0 v1:Value} (h:w.heap[g]? = some (.cells #[v0,v1] t (0,0))):w.cell? ⟨g,0,none⟩=some v0∧w.cell? ⟨g,1,none⟩=some v1:=⟨blk_cell h 0,blk_cell h 1⟩
theorem cj2_ {p:Prop} {w:World} {g:Nat} {t:TypeId} {v0 v1:Value} (h:w.heap[g]? = some (.cells #[v0,v1] t (0,0))) (r:p):w.cell? ⟨g,0,none⟩=some v0∧w.cell? ⟨g,1,none⟩=some v1∧p:=⟨blk_cell h 0,blk_cell h 1,r⟩
theorem cc4_ {w:World} {g:Nat} {t:TypeId} {v0 v1 v2 v3:Value} (h:w.heap[g]? = some (.cells #[v0,v1,v2,v3] t (0,0))):w.cell? ⟨g,0,none⟩=some v0∧w.cell? ⟨g,1,none⟩=some v1∧w.cell? ⟨g,2,none⟩=some v2∧w.cell? ⟨g,3,none⟩=some v3:=⟨blk_cell h 0,blk_cell h 1,blk_cell h 2,blk_cell h 3⟩
theorem cj4_ {p:Prop} {w:World} {g:Nat} {t:TypeId} {v0 v1 v2 v3:Value} (h:w.heap[g]? = some (.cells #[v0,v1,v2,v3] t (0,0))) (r:p):w.cell? ⟨g,0,none⟩=some v0∧w.cell? ⟨g,1,none⟩=some v1∧w.cell? ⟨g,2,none⟩=some v2∧w.cell? ⟨g,3,none⟩=some v3∧p:=⟨blk_cell h 0,blk_cell h 1,blk_cell h 2,blk_cell h 3,r⟩
theorem blkB_ {W0 W W':World} {g:Nat} {o:Obj} (h:W0.heap[g]? = some o) (hb:Below W.heap.size W W') (f:W0.heap[g]? = some o→W.heap[g]? = some o:=by intro h_;(with_reducible repeat (first | refine blk_drewN ?_ _ | refine blk_drew ?_ | refine blk_alloc ?_ _));exact h_):W'.heap[g]? = some o:=blk_below (f h) hb
theorem neL_ {W0 W:World} {g b:Nat} {o:Obj} (h:W0.heap[b]? = some o) (hg:g=W.heap.size) (f:W0.heap[b]? = some o→W.heap[b]? = some o:=by intro h_;(with_reducible repeat (first | refine blk_drewN ?_ _ | refine blk_drew ?_ | refine blk_alloc ?_ _));exact h_):b≠g:=by rw [hg];exact Nat.ne_of_lt (blk_lt (f h))
theorem neG_ {W0 W:World} {g b:Nat} {o:Obj} (h:W0.heap[b]? = some o) (hg:g=W.heap.size) (f:W0.heap[b]? = some o→W.heap[b]? = some o:=by intro h_;(with_reducible repeat (first | refine blk_drewN ?_ _ | refine blk_drew ?_ | refine blk_alloc ?_ _));exact h_):g≠b:=by rw [hg];exact Nat.ne_of_gt (blk_lt (f h))
theorem cz1_ {w:World} {g:Nat} {t:TypeId} {v0:Value} (h:w.heap[g]? = some (.cells #[v0] t (0,0))):w.cell? ⟨g,0,none⟩=some v0∧w.frozen? ⟨g,0,none⟩=false:=⟨blk_cell h 0,blk_frozen h 0⟩
theorem cz2_ {w:World} {g:Nat} {t:TypeId} {v0 v1:Value} (h:w.heap[g]? = some (.cells #[v0,v1] t (0,0))):w.cell? ⟨g,0,none⟩=some v0∧w.cell? ⟨g,1,none⟩=some v1∧w.frozen? ⟨g,0,none⟩=false∧w.frozen? ⟨g,1,none⟩=false:=⟨blk_cell h 0,blk_cell h 1,blk_frozen h 0,blk_frozen h 1⟩
theorem cz3_ {w:World} {g:Nat} {t:TypeId} {v0 v1 v2:Value} (h:w.heap[g]? = some (.cells #[v0,v1,v2] t (0,0))):w.cell? ⟨g,0,none⟩=some v0∧w.cell? ⟨g,1,none⟩=some v1∧w.cell? ⟨g,2,none⟩=some v2∧w.frozen? ⟨g,0,none⟩=false∧w.frozen? ⟨g,1,none⟩=false∧w.frozen? ⟨g,2,none⟩=false:=⟨blk_cell h 0,blk_cell h 1,blk_cell h 2,blk_frozen h 0,blk_frozen h 1,blk_frozen h 2⟩
theorem cz4_ {w:World} {g:Nat} {t:TypeId} {v0 v1 v2 v3:Value} (h:w.heap[g]? = some (.cells #[v0,v1,v2,v3] t (0,0))):w.cell? ⟨g,0,none⟩=some v0∧w.cell? ⟨g,1,none⟩=some v1∧w.cell? ⟨g,2,none⟩=some v2∧w.cell? ⟨g,3,none⟩=some v3∧w.frozen? ⟨g,0,none⟩=false∧w.frozen? ⟨g,1,none⟩=false∧w.frozen? ⟨g,2,none⟩=false∧w.frozen? ⟨g,3,none⟩=false:=⟨blk_cell h 0,blk_cell h 1,blk_cell h 2,blk_cell h 3,blk_frozen h 0,blk_frozen h 1,blk_frozen h 2,blk_frozen h 3⟩
theorem put2_ {w:World} {g:Nat} {t:TypeId} {v0 v1 z0 z1:Value} (h:w.heap[g]? = some (.cells #[z0,z1] t (0,0))):((w.setCell ⟨g,0,none⟩ v0).setCell ⟨g,1,none⟩ v1).heap[g]? = some (.cells #[v0,v1] t (0,0)):=(blk_put (cs':=#[v0,v1]) (blk_put (cs':=#[v0,z1]) h 0 v0 rfl) 1 v1 rfl)
theorem rf2_ {α:Type} {d:Kd α} {e:TypeId} {w:World} {base g:Nat} {ok:Nat→Prop} {v:Value} {xs:List α} {v0 v1:Value} (h:d.R e w base ok v xs) (f:∀ k,ok k→k≠g):d.R e ((w.setCell ⟨g,0,none⟩ v0).setCell ⟨g,1,none⟩ v1) base ok v xs:=(Kd.R_far (p:=⟨g,1,none⟩) (Kd.R_far (p:=⟨g,0,none⟩) h f v0) f v1)
theorem put3_ {w:World} {g:Nat} {t:TypeId} {v0 v1 v2 z0 z1 z2:Value} (h:w.heap[g]? = some (.cells #[z0,z1,z2] t (0,0))):(((w.setCell ⟨g,0,none⟩ v0).setCell ⟨g,1,none⟩ v1).setCell ⟨g,2,none⟩ v2).heap[g]? = some (.cells #[v0,v1,v2] t (0,0)):=(blk_put (cs':=#[v0,v1,v2]) (blk_put (cs':=#[v0,v1,z2]) (blk_put (cs':=#[v0,z1,z2]) h 0 v0 rfl) 1 v1 rfl) 2 v2 rfl)
theorem rf3_ {α:Type} {d:Kd α} {e:TypeId} {w:World} {base g:Nat} {ok:Nat→Prop} {v:Value} {xs:List α} {v0 v1 v2:Value} (h:d.R e w base ok v xs) (f:∀ k,ok k→k≠g):d.R e (((w.setCell ⟨g,0,none⟩ v0).setCell ⟨g,1,none⟩ v1).setCell ⟨g,2,none⟩ v2) base ok v xs:=(Kd.R_far (p:=⟨g,2,none⟩) (Kd.R_far (p:=⟨g,1,none⟩) (Kd.R_far (p:=⟨g,0,none⟩) h f v0) f v1) f v2)
theorem z0_ {a0 p:Prop} (h0:a0) (f:a0→p:=by intro h0_;(with_reducible repeat (first | apply Kd.R_alloc | apply Kd.R_drewN | apply Kd.R_drew));exact h0_):p:=f h0
theorem z1_ {p:Prop} (f:p:=by first | (with_reducible assumption) | assumption):p:=f
theorem z2_ {p:Prop} (f:p:=by first | rfl | (simp;done) | (simp [*];done) | (simp [bne];done)):p:=f
theorem z3_ {a0 p:Prop} (h0:a0) (f:a0→p:=by intro h0_;(with_reducible repeat (first | refine blk_drewN ?_ _ | refine blk_drew ?_ | refine blk_alloc ?_ _));exact h0_):p:=f h0
theorem z4_ {a0 a1 p:Prop} (h0:a0) (h1:a1) (f:a0→a1→p:=by intro h0_ h1_;repeat (first | (with_reducible first | exact h0_ | apply below_alloc | apply pw_below_drewN | apply below_drew1 | refine below_set ?_ h1_) | exact h0_)):p:=f h0 h1
theorem z5_ {p:Prop} (f:p:=by repeat (first | exact Drawn0.refl _ | apply Drawn0.step)):p:=f
theorem z6_ {a0 p:Prop} (h0:a0) (f:a0→p:=by intro h0_;repeat (first | (with_reducible first | exact h0_ | apply below_alloc | apply pw_below_drewN | apply below_drew1) | exact h0_)):p:=f h0
theorem z7_ {a0 p:Prop} (h0:a0) (f:a0→p:=by intro h0_;rw [hg];exact (below_size (by repeat (first | (with_reducible first | exact h0_ | apply below_alloc | apply pw_below_drewN | apply below_drew1) | exact h0_)))):p:=f h0
theorem z8_ {p:Prop} (f:p:=by first | rfl | (simp [errW_none,errW_some] <;> rfl) | (simp [*,errW_none,errW_some] <;> rfl)):p:=f
theorem z9_ {a0 a1 a2 p:Prop} (h0:a0) (h1:a1) (h2:a2) (f:a0→a1→a2→p:=by intro h0_ h1_ h2_;repeat (first | (with_reducible first | exact h0_ | apply below_alloc | apply pw_below_drewN | apply below_drew1 | refine below_set ?_ h1_ | refine below_set ?_ h2_) | exact h0_)):p:=f h0 h1 h2
theorem z10_ {a0 a1 a2 a3 p:Prop} (h0:a0) (h1:a1) (h2:a2) (h3:a3) (f:a0→a1→a2→a3→p:=by intro h0_ h1_ h2_ h3_;repeat (first | (with_reducible first | exact h0_ | apply below_alloc | apply pw_below_drewN | apply below_drew1 | refine below_set ?_ h1_ | refine below_set ?_ h2_ | refine below_set ?_ h3_) | exact h0_)):p:=f h0 h1 h2 h3
theorem z11_ {a0 p:Prop} (h0:a0) (f:a0→p:=by intro h0_;repeat (first | (with_reducible first | exact h0_ | apply Kept.alloc | apply Kept.drewN | apply Kept.drew) | exact h0_)):p:=f h0
theorem z12_ {a0 p:Prop} (h0:a0) (f:a0→p:=by intro h0_;repeat (first | (with_reducible first | exact h0_ | apply KeepBut.set_ | apply keep_drewN | apply keep_drew | apply keep_alloc) | exact h0_)):p:=f h0
theorem z13_ {a0 a1 p:Prop} (h0:a0) (h1:a1) (f:a0→a1→p:=by intro h0_ h1_;rw [hg];exact (below_size (by repeat (first | (with_reducible first | exact h0_ | apply below_alloc | apply pw_below_drewN | apply below_drew1 | refine below_set ?_ h1_) | exact h0_)))):p:=f h0 h1
theorem z14_ {a0 a1 p:Prop} (h0:a0) (h1:a1) (f:a0→a1→p:=by intro h0_ h1_;have:=h0_;have:=h1_;omega):p:=f h0 h1
theorem z15_ {a0 a1 p:Prop} (h0:a0) (h1:a1) (f:a0→a1→p:=by intro h0_ h1_;repeat (first | (with_reducible first | exact h0_ | apply below_alloc | apply pw_below_drewN | apply below_drew1 | refine below_set ?_ (IsS98.ge h1_)) | exact h0_)):p:=f h0 h1
theorem z16_ {a0 a1 p:Prop} (h0:a0) (h1:a1) (f:a0→a1→p:=by intro h0_ h1_;(with_reducible repeat (first | apply Kd.R_alloc | apply Kd.R_drewN | apply Kd.R_drew));exact (Kd.R_mono (rf2_ (Kd.R_types h0_ h1_ (by decide)) (fun _ hk=>hk.2)) (fun _ h_=>h_.1))):p:=f h0 h1
theorem z17_ {a0 p:Prop} (h0:a0) (f:a0→p:=by intro h0_;repeat (first | (with_reducible first | exact h0_ | apply IsS98.alloc | apply IsS98.drewN | apply IsS98.drew | apply IsS98.set_1 | apply IsS98.set_2 | apply IsS98.set_3) | exact h0_)):p:=f h0
theorem z18_ {a0 p:Prop} (h0:a0) (f:a0→p:=by intro h0_;(with_reducible repeat (first | refine blk_drewN ?_ _ | refine blk_drew ?_ | refine blk_alloc ?_ _));apply put2_;(with_reducible repeat (first | refine blk_drewN ?_ _ | refine blk_drew ?_ | refine blk_alloc ?_ _));exact h0_):p:=f h0
theorem z19_ {a0 a1 a2 a3 p:Prop} (h0:a0) (h1:a1) (h2:a2) (h3:a3) (f:a0→a1→a2→a3→p:=by intro h0_ h1_ h2_ h3_;repeat (first | (with_reducible first | exact h0_ | apply below_alloc | apply pw_below_drewN | apply below_drew1 | refine below_set ?_ (IsS98.ge h1_) | refine below_set ?_ h2_ | refine below_set ?_ h3_) | exact h0_)):p:=f h0 h1 h2 h3
theorem z20_ {a0 a1 p:Prop} (h0:a0) (h1:a1) (f:a0→a1→p:=by intro h0_ h1_;repeat (first | (with_reducible first | exact h0_ | apply below_alloc | apply pw_below_drewN | apply below_drew1 | refine below_set ?_ (IsS3.ge h1_)) | exact h0_)):p:=f h0 h1
theorem z21_ {a0 p:Prop} (h0:a0) (f:a0→p:=by intro h0_;have:=h0_;first | omega | exact Nat.le_refl _):p:=f h0
theorem z22_ {a0 a1 p:Prop} (h0:a0) (h1:a1) (f:a0→a1→p:=by intro h0_ h1_;(with_reducible repeat (first | refine blk_drewN ?_ _ | refine blk_drew ?_ | refine blk_alloc ?_ _));refine blk_far ?_ h0_ _;(with_reducible repeat (first | refine blk_drewN ?_ _ | refine blk_drew ?_ | refine blk_alloc ?_ _));refine blk_far ?_ h0_ _;(with_reducible repeat (first | refine blk_drewN ?_ _ | refine blk_drew ?_ | refine blk_alloc ?_ _));exact h1_):p:=f h0 h1
theorem z23_ {a0 a1 p:Prop} (h0:a0) (h1:a1) (f:a0→a1→p:=by intro h0_ h1_;repeat (first | (with_reducible first | exact h0_ | apply KeepBut.set_ | apply keep_drewN | apply keep_drew | apply keep_alloc | refine keep_far ?_ h1_ _) | exact h0_)):p:=f h0 h1
theorem z24_ {a0 a1 p:Prop} (h0:a0) (h1:a1) (f:a0→a1→p:=by intro h0_ h1_;(with_reducible repeat (first | apply Kd.R_alloc | apply Kd.R_drewN | apply Kd.R_drew));exact Kd.R_mono (rf2_ (Kd.R_types h0_ h1_ (by decide)) (fun _ hk=>hk.2)) (fun _ hk=>trivial)):p:=f h0 h1
theorem z25_ {a0 a1 a2 p:Prop} (h0:a0) (h1:a1) (h2:a2) (f:a0→a1→a2→p:=by intro h0_ h1_ h2_;repeat (first | (with_reducible first | exact h0_ | apply below_alloc | apply pw_below_drewN | apply below_drew1 | refine below_set ?_ (IsS98.ge h1_) | refine below_set ?_ h2_) | exact h0_)):p:=f h0 h1 h2
theorem z26_ {a0 p:Prop} (h0:a0) (f:a0→p:=by intro h0_;(with_reducible repeat (first | apply Kd.Q_alloc | apply Kd.Q_drewN | apply Kd.Q_drew));exact h0_):p:=f h0
theorem z27_ {p:Prop} (f:p:=by first | exact Kd.R_nil _ _ _ _ _ | exact Kd.N_nil _ _ _ _ _ | exact Kd.V_nil _ _ _ _ _ | exact Kd.Q_nil _ _ _ _ _ | exact Kd.S_nil _ _ _ _ _):p:=f
theorem z28_ {a0 p:Prop} (h0:a0) (f:a0→p:=by intro h0_;repeat (first | (with_reducible exact h0_) | (with_reducible refine Kd.C_alloc ?_ _) | (with_reducible refine Kd.C_drewN ?_ _) | (with_reducible refine Kd.C_drew ?_) | exact h0_)):p:=f h0
theorem z29_ {a0 a1 a2 p:Prop} (h0:a0) (h1:a1) (h2:a2) (f:a0→a1→a2→p:=by intro h0_ h1_ h2_;repeat (first | (with_reducible first | exact h0_ | apply KeepBut.set_ | apply keep_drewN | apply keep_drew | apply keep_alloc | refine keep_far ?_ h1_ _ | refine keep_far ?_ h2_ _) | exact h0_)):p:=f h0 h1 h2
theorem z30_ {a0 a1 a2 p:Prop} (h0:a0) (h1:a1) (h2:a2) (f:a0→a1→a2→p:=by intro h0_ h1_ h2_;repeat (first | (with_reducible first | exact h0_ | apply IsS98.alloc | apply IsS98.drewN | apply IsS98.drew | apply IsS98.set_1 | apply IsS98.set_2 | apply IsS98.set_3 | refine IsS98.far ?_ (by exact h1_) _ | refine IsS98.far ?_ (by exact h2_) _) | exact h0_)):p:=f h0 h1 h2
theorem z31_ {a0 a1 p:Prop} (h0:a0) (h1:a1) (f:a0→a1→p:=by intro h0_ h1_;have:=h0_;have:=h1_;first | omega | exact Nat.le_refl _):p:=f h0 h1
theorem z32_ {a0 p:Prop} (h0:a0) (f:a0→p:=by intro h0_;(try simp only [AA2]);(with_reducible repeat (first | apply Kd.R_alloc | apply Kd.R_drewN | apply Kd.R_drew));exact h0_):p:=f h0
theorem z33_ {a0 a1 a2 p:Prop} (h0:a0) (h1:a1) (h2:a2) (f:a0→a1→a2→p:=by intro h0_ h1_ h2_;have:=h0_;have:=h1_;have:=h2_;first | omega | exact Nat.le_refl _):p:=f h0 h1 h2
theorem z34_ {a0 p:Prop} (h0:a0) (f:a0→p:=by intro h0_;rw [h0_,List.length_take];omega):p:=f h0
theorem z35_ {a0 a1 p:Prop} (h0:a0) (h1:a1) (f:a0→a1→p:=by intro h0_ h1_;repeat (first | (with_reducible first | exact h0_ | apply IsS98.alloc | apply IsS98.drewN | apply IsS98.drew | apply IsS98.set_1 | apply IsS98.set_2 | apply IsS98.set_3 | refine IsS98.far ?_ (by exact h1_) _) | exact h0_)):p:=f h0 h1
theorem z36_ {a0 p:Prop} (h0:a0) (f:a0→p:=by intro h0_;repeat (first | (with_reducible first | exact h0_ | apply IsS3.alloc | apply IsS3.drewN | apply IsS3.drew | apply IsS3.set_0) | exact h0_)):p:=f h0
theorem z37_ {a0 p:Prop} (h0:a0) (f:a0→p:=by intro h0_;(try simp only [AA2]);(try simp only [Av5]);(with_reducible repeat (first | apply Kd.R_alloc | apply Kd.R_drewN | apply Kd.R_drew));exact h0_):p:=f h0
theorem z38_ {a0 a1 a2 p:Prop} (h0:a0) (h1:a1) (h2:a2) (f:a0→a1→a2→p:=by intro h0_ h1_ h2_;rw [hg];exact (below_size (by repeat (first | (with_reducible first | exact h0_ | apply below_alloc | apply pw_below_drewN | apply below_drew1 | refine below_set ?_ h1_ | refine below_set ?_ h2_) | exact h0_)))):p:=f h0 h1 h2
theorem z39_ {a0 p:Prop} (h0:a0) (f:a0→p:=by intro h0_;(with_reducible repeat (first | apply Kd.R_alloc | apply Kd.R_drewN | apply Kd.R_drew));exact Kd.R_mono h0_ (fun _ hk=>hk.2)):p:=f h0
theorem z40_ {a0 p:Prop} (h0:a0) (f:a0→p:=by intro h0_;rw [hg];exact (keep_size (w:=w) (g:=g) (row:=none) (by repeat (first | (with_reducible first | exact h0_ | apply KeepBut.set_ | apply keep_drewN | apply keep_drew | apply keep_alloc) | exact h0_)))):p:=f h0
theorem z41_ {a0 a1 p:Prop} (h0:a0) (h1:a1) (f:a0→a1→p:=by intro h0_ h1_;rw [hg];exact (keep_size (w:=w) (g:=g) (row:=none) (by repeat (first | (with_reducible first | exact h0_ | apply KeepBut.set_ | apply keep_drewN | apply keep_drew | apply keep_alloc | refine keep_far ?_ h1_ _) | exact h0_)))):p:=f h0 h1
theorem z42_ {a0 a1 a2 p:Prop} (h0:a0) (h1:a1) (h2:a2) (f:a0→a1→a2→p:=by intro h0_ h1_ h2_;rw [hg];exact (below_size (by repeat (first | (with_reducible first | exact h0_ | apply below_alloc | apply pw_below_drewN | apply below_drew1 | refine below_set ?_ (IsS98.ge h1_) | refine below_set ?_ h2_) | exact h0_)))):p:=f h0 h1 h2
theorem z43_ {a0 a1 p:Prop} (h0:a0) (h1:a1) (f:a0→a1→p:=by intro h0_ h1_;repeat (first | (with_reducible first | exact h0_ | apply Kept.alloc | apply Kept.drewN | apply Kept.drew | refine Kept.setCell ?_ h1_ _ | refine Kept.setCell ?_ h1_ _ | refine Kept.setCell ?_ h1_ _ | refine Kept.setCell ?_ h1_ _) | exact h0_)):p:=f h0 h1
theorem z44_ {a0 a1 p:Prop} (h0:a0) (h1:a1) (f:a0→a1→p:=by intro h0_ h1_;repeat (first | (with_reducible first | exact h0_ | apply below_alloc | apply pw_below_drewN | apply below_drew1 | refine below_set ?_ h1_ | refine below_set ?_ h1_ | refine below_set ?_ h1_ | refine below_set ?_ h1_) | exact h0_)):p:=f h0 h1
theorem z45_ {p:Prop} (f:p:=by (try simp only [List.map_toArray,List.map_cons,List.map_nil]);first | done | rfl | (simp only [List.length_drop,List.length_take];rfl)):p:=f
theorem z46_ {a0 a1 p:Prop} (h0:a0) (h1:a1) (f:a0→a1→p:=by intro h0_ h1_;(with_reducible repeat (first | refine blk_drewN ?_ _ | refine blk_drew ?_ | refine blk_alloc ?_ _));refine blk_far ?_ h0_ _;(with_reducible repeat (first | refine blk_drewN ?_ _ | refine blk_drew ?_ | refine blk_alloc ?_ _));exact h1_):p:=f h0 h1
theorem z47_ {a0 p:Prop} (h0:a0) (f:a0→p:=by intro h0_;(with_reducible repeat (first | apply Kd.R_alloc | apply Kd.R_drewN | apply Kd.R_drew));exact Kd.R_mono h0_ (fun _ hk=>trivial)):p:=f h0
theorem z48_ {a0 p:Prop} (h0:a0) (f:a0→p:=by intro h0_;have h_:(C9:Int)<((E1.length:Int):Int):=dT (by first | (with_reducible assumption) | assumption);first | exact h_ | (have e_:=(Kd.R_reads' h0_).1;omega) | simpa using h_):p:=f h0
theorem z49_ {a0 p:Prop} (h0:a0) (f:a0→p:=by intro h0_;have h_:(D0:Int)<((E0.length:Int):Int):=dT (by first | (with_reducible assumption) | assumption);first | exact h_ | (have e_:=(Kd.R_reads' h0_).1;omega) | simpa using h_):p:=f h0
theorem z50_ {a0 p:Prop} (h0:a0) (f:a0→p:=by intro h0_;(with_reducible repeat (first | refine blk_drewN ?_ _ | refine blk_drew ?_ | refine blk_alloc ?_ _));apply put3_;(with_reducible repeat (first | refine blk_drewN ?_ _ | refine blk_drew ?_ | refine blk_alloc ?_ _));exact h0_):p:=f h0
theorem z51_ {a0 p:Prop} (h0:a0) (f:a0→p:=by intro h0_;(with_reducible repeat (first | apply Kd.R_alloc | apply Kd.R_drewN | apply Kd.R_drew));exact Kd.R_mono h0_ (fun _ hk=>⟨hk.1.1.2,⟨hk.1.2,hk.2⟩⟩)):p:=f h0
theorem z52_ {a0 p:Prop} (h0:a0) (f:a0→p:=by intro h0_;(with_reducible repeat (first | apply Kd.R_alloc | apply Kd.R_drewN | apply Kd.R_drew));exact Kd.R_mono h0_ (fun _ hk=>⟨hk.1.1,⟨hk.1.2,hk.2⟩⟩)):p:=f h0
theorem z53_ {a0 p:Prop} (h0:a0) (f:a0→p:=by intro h0_;(with_reducible repeat (first | apply Kd.R_alloc | apply Kd.R_drewN | apply Kd.R_drew));exact Kd.R_mono h0_ (fun _ hk=>⟨hk.1.2,hk.2⟩)):p:=f h0
theorem z54_ {a0 p:Prop} (h0:a0) (f:a0→p:=by intro h0_;rw [hg];exact Nat.ne_of_lt (IsS98.lt (show IsS98 w0 _ g E2 H8 C7 K2 from by repeat (first | (with_reducible first | exact h0_ | apply IsS98.alloc | apply IsS98.drewN | apply IsS98.drew | apply IsS98.set_1 | apply IsS98.set_2 | apply IsS98.set_3) | exact h0_)))):p:=f h0
theorem z55_ {a0 p:Prop} (h0:a0) (f:a0→p:=by intro h0_;rw [hg];exact Nat.ne_of_gt (IsS98.lt (show IsS98 w0 _ g E2 H8 C7 K2 from by repeat (first | (with_reducible first | exact h0_ | apply IsS98.alloc | apply IsS98.drewN | apply IsS98.drew | apply IsS98.set_1 | apply IsS98.set_2 | apply IsS98.set_3) | exact h0_)))):p:=f h0
theorem z56_ {a0 a1 p:Prop} (h0:a0) (h1:a1) (f:a0→a1→p:=by intro h0_ h1_;rw [hg];exact Nat.ne_of_lt (IsS98.lt (show IsS98 w0 _ g E2 t162 AZ0 t164 from by repeat (first | (with_reducible first | exact h0_ | apply IsS98.alloc | apply IsS98.drewN | apply IsS98.drew | apply IsS98.set_1 | apply IsS98.set_2 | apply IsS98.set_3 | refine IsS98.far ?_ (by exact h1_) _) | exact h0_)))):p:=f h0 h1
theorem z57_ {a0 a1 p:Prop} (h0:a0) (h1:a1) (f:a0→a1→p:=by intro h0_ h1_;rw [hg];exact Nat.ne_of_gt (IsS98.lt (show IsS98 w0 _ g E2 t162 AZ0 t164 from by repeat (first | (with_reducible first | exact h0_ | apply IsS98.alloc | apply IsS98.drewN | apply IsS98.drew | apply IsS98.set_1 | apply IsS98.set_2 | apply IsS98.set_3 | refine IsS98.far ?_ (by exact h1_) _) | exact h0_)))):p:=f h0 h1
theorem z58_ {p:Prop} (f:p:=by have:(0:Int)<(a0.size:Int):=dT (by first | (with_reducible assumption) | assumption);omega):p:=f
theorem z59_ {a0 p:Prop} (h0:a0) (f:a0→p:=by intro h0_;(with_reducible repeat (first | refine blk_drewN ?_ _ | refine blk_drew ?_ | refine blk_alloc ?_ _));refine blk_put (cs:=#[.int .i64 0]) ?_ 0 _ rfl;(with_reducible repeat (first | refine blk_drewN ?_ _ | refine blk_drew ?_ | refine blk_alloc ?_ _));exact h0_):p:=f h0
theorem z60_ {a0 p:Prop} (h0:a0) (f:a0→p:=by intro h0_;(with_reducible repeat (first | apply Kd.R_alloc | apply Kd.R_drewN | apply Kd.R_drew));exact Kd.R_mono h0_ (fun _ hk=>⟨hk.1.1.1.1.1.2,hk.1.1.1.1.2⟩)):p:=f h0
theorem z61_ {a0 p:Prop} (h0:a0) (f:a0→p:=by intro h0_;(with_reducible repeat (first | apply Kd.R_alloc | apply Kd.R_drewN | apply Kd.R_drew));exact Kd.R_mono h0_ (fun _ hk=>⟨hk.1.1.1.2,hk.1.1.2⟩)):p:=f h0
end Go.Proofs.YtelecnmflodkkaaGreatDoor.P

namespace Go.Proofs.YtelecnmflodkkaaGreatDoor.Open
open Go.RowKit Go.Proofs.YtelecnmflodkkaaGreatDoorW.PrintWords

def Opens {α:Type} (P:Program) (t:TypeId) (d:Kd α) (wf:α→Prop):Prop :=
  ∀ {H:Type} {enc:TypeId × Value→H} {W:World} {base:Nat} {spare:Nat→Bool} {held:Bool} {fuel:Nat} {cs:List Value} {x:DataW H × List MemPlace},
    DataW.trod enc P W base spare held fuel t cs=some x→∃ a:α,d.K W a cs∧wf a
section
variable {P:Program} {t e:TypeId} {α β:Type} {d:Kd α} {d':Kd β} {wf:α→Prop} {wf':β→Prop}
theorem opens_int {k:IntKind} (ht:P.underlying t=some (.int k)):Opens P t (Kd.int k) (fun n=>(Lit.int k n).wf=true):=by
  intro H enc W base spare held fuel cs x h
  obtain ⟨n,rfl,_,hw⟩:=DataW.trod_int ht h
  exact ⟨n,rfl,hw⟩
theorem add_add_ (a:Addr) (i j:Nat):(a.add i).add j=a.add (i+j):=by
  by_cases hi:i=0 <;> by_cases hj:j=0 <;> simp [Addr.add,hi,hj,Nat.add_assoc]
theorem cells_get {W:World} {base n:Nat} {a:Addr} {c:List Value} (h:W.cells? base a n=some c):c.length=n∧∀ i u,c[i]? = some u→W.cell? (a.add i)=some u:=by
  unfold World.cells? at h
  split at h
  · have hl:c.length=n:=by simpa using mapM_some_length h
    refine ⟨hl,fun i u hu=>?_⟩
    have hi:i<n:=by rw [← hl];exact (List.getElem?_eq_some_iff.1 hu).1
    have:=mapM_some_get h i i (by simp [hi])
    rw [this,hu]
  · cases h
theorem opens_slice (ht:P.underlying t=some (.slice e)) (hs:P.cellsOf e=d.sz) (he:Opens P e d wf):Opens P t (Kd.slice e d) (fun l=>l.length≤maxLen∧∀ x ∈ l,wf x):=by
  intro H enc W base spare held fuel cs x h
  rcases DataW.trod_slice ht h with ⟨rfl,_⟩ | ⟨a,len,cap,elems,rest,n,_,rfl,rfl,hb,hl,hm,hlen,hel,_,_⟩
  · exact ⟨[],⟨none,0,rfl,Nat.le_refl _,Kd.C_nil _ _⟩,by simp [maxLen],by simp⟩
  have each:∀ i:Fin len,∃ y:α,∃ c:List Value,c.length=d.sz∧d.K W y c∧wf y∧∀ j u,c[j]? = some u→W.cell? (a.add (i.1*d.sz+j))=some u:=by
    intro i
    have h1:=hel i.1 i.2
    have h2:elems[i.1]? = some (elems[i.1]'(by rw [hlen];exact i.2)):=List.getElem?_eq_getElem _
    rw [h2,Option.bind_eq_some_iff] at h1
    obtain ⟨c,hc,hy⟩:=h1
    obtain ⟨y,hk,hw⟩:=he hy
    obtain ⟨_,hc2⟩:=cells_get hc
    refine ⟨y,c,d.K_len hk,hk,hw,fun j u hu=>?_⟩
    have:=hc2 j u hu
    rwa [add_add_,hs] at this
  have L:(List.ofFn fun i:Fin len=>(each i).choose).length=len:=List.length_ofFn
  have G:∀ j p,(List.ofFn fun i:Fin len=>(each i).choose)[j]? = some p→∃ h:j<len,p=(each ⟨j,h⟩).choose:=by
    intro j p hp
    have hj:j<len:=by rw [← L];exact (List.getElem?_eq_some_iff.1 hp).1
    refine ⟨hj,?_⟩
    rw [List.getElem?_ofFn] at hp
    simp only [hj,dite_true,Option.some.injEq] at hp
    exact hp.symm
  refine ⟨List.ofFn fun i:Fin len=>(each i).choose,⟨some a,cap,by rw [L],by rw [L];exact hl,rfl,by rw [L];exact Nat.le_trans hl hm,fun _=>⟨a,rfl,fun j p hp=>?_⟩⟩,by rw [L];exact Nat.le_trans hl hm,fun p hp=>?_⟩
  · obtain ⟨hj,rfl⟩:=G j p hp
    obtain ⟨c,h1,h2,_,h4⟩:=(each ⟨j,hj⟩).choose_spec
    exact ⟨c,h1,h2,h4⟩
  · obtain ⟨j,hj0⟩:=List.getElem?_of_mem hp
    obtain ⟨hj,rfl⟩:=G j p hj0
    exact (each ⟨j,hj⟩).choose_spec.choose_spec.2.2.1
end
end Go.Proofs.YtelecnmflodkkaaGreatDoor.Open

namespace Go.Proofs.YtelecnmflodkkaaGreatDoor.P
open Go.RowKit Go.Proofs.YtelecnmflodkkaaGreatDoorW.PrintWords Go.Proofs.YtelecnmflodkkaaGreatDoorW.PrintLast Go.Proofs.YtelecnmflodkkaaGreatDoorW.PrintMore
attribute [local go_sem] max2_int min2_int max_two min_two max_three min_three max_four min_four   -- for this text's walks alone
set_option linter.unusedVariables false
set_option linter.unusedSimpArgs false

/-- A state of type 98 at block g of W; what its slices lead to came in by w0. -/
def IsS98 (w0 W:World) (g:Nat) (f0:List Int) (f1:Int) (f2:Int) (f3:Int):Prop:=∃ A0 c0,W.heap[g]? = some (.cells #[.slice A0 f0.length c0,.int .i64 f1,.int .u64 f2,.int .i64 f3] 98 (0,0))∧w0.heap.size≤g∧Kd.C (Kd.int .u8) w0 A0 f0.length f0
theorem IsS98.grown {w0 W:World} {g:Nat} {f0:List Int} {f1:Int} {f2:Int} {f3:Int} {W1:World} {row:Option Nat} (h:IsS98 w0 W g f0 f1 f2 f3) (hw:W.grownBy W1 row) (hne:some g≠row):IsS98 w0 W1 g f0 f1 f2 f3:=by
 obtain ⟨A0,c0,hb,hg,hr0⟩:=h
 exact ⟨A0,c0,blk_grown hb hw hne,hg,hr0⟩
theorem IsS98.kept {w0 W:World} {g:Nat} {f0:List Int} {f1:Int} {f2:Int} {f3:Int} {W1:World} {S:Nat→Prop} (h:IsS98 w0 W g f0 f1 f2 f3) (hk:Kept W W1 S) (hne:¬ S g):IsS98 w0 W1 g f0 f1 f2 f3:=by
 obtain ⟨A0,c0,hb,hg,hr0⟩:=h
 exact ⟨A0,c0,blk_kept hb hk hne,hg,hr0⟩
theorem IsS98.below {w0 W:World} {g:Nat} {f0:List Int} {f1:Int} {f2:Int} {f3:Int} {W1:World} (h:IsS98 w0 W g f0 f1 f2 f3) (hw:Below W.heap.size W W1):IsS98 w0 W1 g f0 f1 f2 f3:=h.grown (grown_of_below hw none) (by simp)
theorem IsS98.alloc {w0 W:World} {g:Nat} {f0:List Int} {f1:Int} {f2:Int} {f3:Int} (h:IsS98 w0 W g f0 f1 f2 f3) (o:Obj):IsS98 w0 (W.alloc o) g f0 f1 f2 f3:=h.below (below_alloc (Below.refl _ _) o)
theorem IsS98.drewN {w0 W:World} {g:Nat} {f0:List Int} {f1:Int} {f2:Int} {f3:Int} (h:IsS98 w0 W g f0 f1 f2 f3) (m:Nat):IsS98 w0 (W.drewN m) g f0 f1 f2 f3:=h
theorem IsS98.drew {w0 W:World} {g:Nat} {f0:List Int} {f1:Int} {f2:Int} {f3:Int} (h:IsS98 w0 W g f0 f1 f2 f3):IsS98 w0 W.drew g f0 f1 f2 f3:=h
theorem IsS98.apart {w0 W:World} {g:Nat} {f0:List Int} {f1:Int} {f2:Int} {f3:Int} {α:Type} {d:Kd α} {e:Nat} {base:Nat} {ok:Nat→Prop} {v:Value} {xs:List α} (h:IsS98 w0 W g f0 f1 f2 f3) (ho:d.R e W base ok v xs) (ht:∀ q,q ∈ e :: d.E→q≠98):d.R e W base (fun k=>ok k∧k≠g) v xs:=by
 obtain ⟨A0,c0,hb,hg,hr0⟩:=h
 exact Kd.R_types ho hb ht
theorem IsS98.own_ne {w0 W:World} {g:Nat} {f0:List Int} {f1:Int} {f2:Int} {f3:Int} {α:Type} {d:Kd α} {e:Nat} {base:Nat} {ok:Nat→Prop} {v:Value} {xs:List α} (h:IsS98 w0 W g f0 f1 f2 f3) (ho:d.R e W base ok v xs) (ht:e≠98):some g≠v.ownBlock:=by
 obtain ⟨A0,c0,hb,hg,hr0⟩:=h
 exact Kd.R_ne ho hb ht
theorem IsS98.lt {w0 W:World} {g:Nat} {f0:List Int} {f1:Int} {f2:Int} {f3:Int} (h:IsS98 w0 W g f0 f1 f2 f3):g<W.heap.size:=by
 obtain ⟨A0,c0,hb,hg,hr0⟩:=h
 exact blk_lt hb
theorem IsS98.ge {w0 W:World} {g:Nat} {f0:List Int} {f1:Int} {f2:Int} {f3:Int} (h:IsS98 w0 W g f0 f1 f2 f3):w0.heap.size≤g:=by
 obtain ⟨A0,c0,hb,hg,hr0⟩:=h
 exact hg
theorem IsS98.ne_blk {w0 W:World} {g:Nat} {f0:List Int} {f1:Int} {f2:Int} {f3:Int} {a:Nat} {cs:Array Value} {t:TypeId} {fr:Nat × Nat} (h:IsS98 w0 W g f0 f1 f2 f3) (hb2:W.heap[a]? = some (.cells cs t fr)) (ht:t≠98):g≠a:=by
 obtain ⟨A0,c0,hb,hg,hr0⟩:=h
 rintro rfl
 rw [hb] at hb2
 injection hb2 with hb2
 injection hb2 with _ ht2
 exact ht ht2.symm
theorem IsS98.far {w0 W:World} {g:Nat} {f0:List Int} {f1:Int} {f2:Int} {f3:Int} {p:Addr} (h:IsS98 w0 W g f0 f1 f2 f3) (hne:g≠p.block) (u:Value):IsS98 w0 (W.setCell p u) g f0 f1 f2 f3:=by
 obtain ⟨A0,c0,hb,hg,hr0⟩:=h
 exact ⟨A0,c0,blk_far hb hne u,hg,hr0⟩
theorem cellS98_0 {W:World} {g:Nat} {A0:Option Addr} {c0:Nat} {f0:List Int} {f1:Int} {f2:Int} {f3:Int} (h:W.heap[g]? = some (.cells #[.slice A0 f0.length c0,.int .i64 f1,.int .u64 f2,.int .i64 f3] 98 (0,0))):W.cell? ⟨g,0,none⟩=some (.slice A0 f0.length c0):=(blk_cell h 0).trans rfl
theorem cellS98_1 {W:World} {g:Nat} {A0:Option Addr} {c0:Nat} {f0:List Int} {f1:Int} {f2:Int} {f3:Int} (h:W.heap[g]? = some (.cells #[.slice A0 f0.length c0,.int .i64 f1,.int .u64 f2,.int .i64 f3] 98 (0,0))):W.cell? ⟨g,1,none⟩=some (.int .i64 f1):=(blk_cell h 1).trans rfl
theorem IsS98.set_1 {w0 W:World} {g:Nat} {f0:List Int} {f1:Int} {f2:Int} {f3:Int} (h:IsS98 w0 W g f0 f1 f2 f3) (x:Int):IsS98 w0 (W.setCell ⟨g,1,none⟩ (.int .i64 x)) g f0 x f2 f3:=by
 obtain ⟨A0,c0,hb,hg,hr0⟩:=h
 exact ⟨A0,c0,by simpa using blk_set hb 1 (.int .i64 x),hg,hr0⟩
theorem cellS98_2 {W:World} {g:Nat} {A0:Option Addr} {c0:Nat} {f0:List Int} {f1:Int} {f2:Int} {f3:Int} (h:W.heap[g]? = some (.cells #[.slice A0 f0.length c0,.int .i64 f1,.int .u64 f2,.int .i64 f3] 98 (0,0))):W.cell? ⟨g,2,none⟩=some (.int .u64 f2):=(blk_cell h 2).trans rfl
theorem IsS98.set_2 {w0 W:World} {g:Nat} {f0:List Int} {f1:Int} {f2:Int} {f3:Int} (h:IsS98 w0 W g f0 f1 f2 f3) (x:Int):IsS98 w0 (W.setCell ⟨g,2,none⟩ (.int .u64 x)) g f0 f1 x f3:=by
 obtain ⟨A0,c0,hb,hg,hr0⟩:=h
 exact ⟨A0,c0,by simpa using blk_set hb 2 (.int .u64 x),hg,hr0⟩
theorem cellS98_3 {W:World} {g:Nat} {A0:Option Addr} {c0:Nat} {f0:List Int} {f1:Int} {f2:Int} {f3:Int} (h:W.heap[g]? = some (.cells #[.slice A0 f0.length c0,.int .i64 f1,.int .u64 f2,.int .i64 f3] 98 (0,0))):W.cell? ⟨g,3,none⟩=some (.int .i64 f3):=(blk_cell h 3).trans rfl
theorem IsS98.set_3 {w0 W:World} {g:Nat} {f0:List Int} {f1:Int} {f2:Int} {f3:Int} (h:IsS98 w0 W g f0 f1 f2 f3) (x:Int):IsS98 w0 (W.setCell ⟨g,3,none⟩ (.int .i64 x)) g f0 f1 f2 x:=by
 obtain ⟨A0,c0,hb,hg,hr0⟩:=h
 exact ⟨A0,c0,by simpa using blk_set hb 3 (.int .i64 x),hg,hr0⟩
/-! ### Y20: function 30 -/
mutual
def Y20.l0:Nat→List Int→Int→List Int→Int→Int→Int→Option (List Int × Int × Int × Int)
 | 0,_,_,_,_,_,_=>none
 | k+1,x0,x4,AN4,AN5,AN6,Ae6=>if x4<(x0.length:Int) then (Y20.j1 k x0 x4 (decide (x4<64)) AN4 AN5 AN6 Ae6) else (Y20.j1 k x0 x4 false AN4 AN5 AN6 Ae6)
def Y20.j1:Nat→List Int→Int→Bool→List Int→Int→Int→Int→Option (List Int × Int × Int × Int)
 | 0,_,_,_,_,_,_,_=>none
 | k+1,x0,x4,x15,AN4,AN5,AN6,Ae6=>if x15=true then (if 0≤x4 then (if x4<(x0.length:Int) then (Y20.l0 k x0 (wrap64 (x4+1)) AN4 AN5 (IntKind.u64.wrap ((Go.bits .xor .u64 AN6 (IntKind.u64.wrap (rd x0 x4)))*1099511628211)) Ae6) else (none)) else (none)) else (if (wrap64 ((x0.length:Int) / 20))>12 then (some (AN4,AN5,AN6,12)) else (some (AN4,AN5,AN6,wrap64 ((x0.length:Int) / 20))))
end
def Y20.f (k:Nat) (l0:List Int):Option (List Int × Int × Int × Int):=Y20.l0 k l0 0 l0 0 88172645463325252 0
theorem Y20.mono_l:∀ k,(∀ y0 y1 y2 y3 y4 y5,LeO (Y20.l0 k y0 y1 y2 y3 y4 y5) (Y20.l0 (k+1) y0 y1 y2 y3 y4 y5))∧(∀ y0 y1 y2 y3 y4 y5 y6,LeO (Y20.j1 k y0 y1 y2 y3 y4 y5 y6) (Y20.j1 (k+1) y0 y1 y2 y3 y4 y5 y6))
 | 0=>by refine ⟨?_,?_⟩ <;> intros <;> exact LeO.none _
 | k+1=>by
  obtain ⟨ih0,ih1⟩:=Y20.mono_l k
  refine ⟨?_,?_⟩
  ·intros
   unfold Y20.l0
   exact mO
  ·intros
   unfold Y20.j1
   exact mO
theorem Y20.mono:∀ a0 k,LeO (Y20.f k a0) (Y20.f (k+1) a0):=by
 intro a0 k
 obtain ⟨ih0,ih1⟩:=Y20.mono_l k
 unfold Y20.f
 exact mO
def Y20.T5:Bool × List (List Nat × List Nat):=(true,[([],[]),([],[]),([1],[1]),([2],[2]),([3],[3]),([],[]),([],[]),([5,6],[5,6]),([7],[7]),([8],[8]),([4,9],[4,9]),([10],[10]),([0,0,1,2,3,4,5,6,7,8,9,10,11],[0]),([12,0,1,2,3,4,5,6,7,8,9,10,11],[12]),([13,11,0,1,2,3,4,5,6,7,8,9,10,11],[11,13])])
def Y20.B5:List Nat:=[0,0,2,6,14,0,0,96,224,480,1022,2046,4095,8191,16383]
theorem Y20.tab5:rtab .any (opsOf Tryz.f30 5)=Y20.T5:=by kernel_rfl
theorem Y20.bits5:waitsOk Y20.T5.2 Y20.B5=true:=by kernel_rfl
theorem Y20.calls (k:Nat) (A0:Option Addr) (c0:Nat) (l0:List Int) (r1:List Int) (r2:Int) (r3:Int) (r4:Int) (w0 w:World) (hB:Below w0.heap.size w0 w) (hr0:Kd.C (Kd.int .u8) w0 A0 l0.length l0) (hc0:l0.length≤c0) (h:Y20.f k l0=some (r1,r2,r3,r4)) :
  Calls Tryz.prog 30 #[.slice A0 l0.length c0] w fun e w'=>∃ g_:Nat,e = .returned (.pointer (some ⟨g_,0,none⟩))∧IsS98 w0 w' g_ r1 r2 r3 r4∧Below w0.heap.size w0 w'∧Below w.heap.size w w':=by
 have hu98:=Tryz.underlying98
 have CU4:=aM hr0;have HR0:=aM (Kd.C_below hr0 hB)
 have HC0:=aM hc0
 clear hr0 hc0
 have HW0:=aM hB.size
 have HBZ:=aM hB
 clear hB
 have HB:=aM (Below.refl w.heap.size w)
 have H:(Y20.l0 k l0 0 l0 0 88172645463325252 0)=some (r1,r2,r3,r4):=h
 clear h
 have H':=aM H
 clear H
 go_enter Tryz.func30,Tryz.ntmps30
 go_wp2_with (first | ((with_reducible refine gd_ 7 ?_);refine be_ 7 #[.slice A0 l0.length c0,.int .i64 0,.int .u64 88172645463325252,.int .i64 0] 98 ?_;intro AK4 hg w2 hbox hb;have n0_:=aM (below_step (z6_ HB.out) hb);have n1_:=aM (hbox);have n2_:=aM ((z7_ HB.out:w.heap.size≤AK4));have n3_:=aM ((z7_ HB.out:w.heap.size≤AK4));clear HB;have HB:=n0_;have t3:=n1_;have GW101:=n2_;have AP9:=n3_;clear n0_ n1_ n2_ n3_;clear hb hbox hg))
 go_loopg [4] k (fun kq v4 w'=>∃ (M6:Int) (K8:Int),v4 = .int .i64 M6∧Aside0 (Y20.l0 kq l0 M6 l0 0 K8 0=some (r1,r2,r3,r4))∧Aside0 (kq≤k)∧Aside0 (w'.heap[AK4]? = some (.cells #[(.slice A0 l0.length c0),.int .i64 0,.int .u64 K8,.int .i64 0] 98 (0,0)))∧Aside0 (Below w.heap.size w w'))
 case atStart=>exact ⟨(0),(88172645463325252),(z2_),H',⟨Nat.le_refl _⟩,⟨z3_ t3.out⟩,⟨z4_ HB.out AP9.out⟩⟩
 case round =>
  clear H'
  try clear p2
  obtain ⟨M6,K8,rfl,HA,HK1,t3,HB⟩:=hrel
  cases gk with
  | zero=>exact absurd HA.out (by simp [Y20.l0])
  | succ k1 =>
   have H:=HA.out
   clear HA
   simp only [Y20.l0] at H
   have HC3:=aM H
   clear H
   go_upto_region 3 with (fail)
   go_cut [15] (fun v15 wc=>∃ (kq:Nat) (BG9:Bool),v15 = .bool BG9∧Aside0 (Y20.j1 kq l0 M6 BG9 l0 0 K8 0=some (r1,r2,r3,r4))∧Aside0 (kq≤k1)∧Aside0 (wc.heap[AK4]? = some (.cells #[(.slice A0 l0.length c0),.int .i64 0,.int .u64 K8,.int .i64 0] 98 (0,0)))∧Aside0 (Below w.heap.size w wc))
   case first =>
    have H:=HC3.out
    clear HC3
    by_cases c4:M6<(l0.length:Int)
    ·rw [if_pos c4] at H
     have c4b0:decide (M6<(l0.length:Int))=true:=dE c4
     clear c4
     (first | rw [c4b0] | (simp only [i64_w,i32_w];rw [c4b0]) | skip)
     have H':=aM H
     clear H
     go_wp2
     go_meet
     case rel=>exact ⟨_,(decide (M6<64)),(z2_),H',⟨z21_ HK1.out⟩,⟨z3_ t3.out⟩,⟨z4_ HB.out AP9.out⟩⟩
    ·rw [if_neg c4] at H
     have c4b0:decide (M6<(l0.length:Int))=false:=dF c4
     clear c4
     (first | rw [c4b0] | (simp only [i64_w,i32_w];rw [c4b0]) | skip)
     have H':=aM H
     clear H
     go_wp2
     go_meet
     case rel=>exact ⟨_,(false),(z2_),H',⟨z21_ HK1.out⟩,⟨z3_ t3.out⟩,⟨z4_ HB.out AP9.out⟩⟩
   case rest =>
    clear HC3
    try clear p2
    try clear c3
    try clear c4
    try clear c4b0
    try clear p2
    obtain ⟨kq,BG9,rfl,HA,HJ2,t3,HB⟩:=hcut
    cases kq with
    | zero=>exact absurd HA.out (by simp [Y20.j1])
    | succ kj2 =>
     have H:=HA.out
     clear HA
     simp only [Y20.j1] at H
     by_cases c5:BG9=true
     ·subst c5
      have H1:(if 0≤M6 then (if M6<(l0.length:Int) then (Y20.l0 kj2 l0 (wrap64 (M6+1)) l0 0 (IntKind.u64.wrap ((Go.bits .xor .u64 K8 (IntKind.u64.wrap (rd l0 M6)))*1099511628211)) 0) else (none)) else (none))=some (r1,r2,r3,r4):=by rw [if_pos rfl] at H;exact H
      clear H
      have H:=H1
      clear H1
      by_cases c6:0≤M6
      ·rw [if_pos c6] at H
       have c6b0:decide (0≤M6)=true:=dE c6
       clear c6
       by_cases c7:M6<(l0.length:Int)
       ·rw [if_pos c7] at H
        have c7b0:decide (M6<(l0.length:Int))=true:=dE c7
        clear c7
        have H':=aM H
        clear H
        try go_wp2
        have n0_:=aM (blk_drew t3.out)
        have n1_:=aM (below_drew1 HB.out)
        clear t3
        clear HB
        have t3:=n0_
        have HB:=n1_
        clear n0_ n1_
        have CE3:0≤(M6:Int):=dT (z1_)
        have CE4:M6<(l0.length:Int):=dT (z1_)
        obtain ⟨BX2,Cy7,Ae7⟩:=Kd.at_int HR0.out M6 CE3 CE4
        have BH0:=Ae7
        cases Cy7
        replace Ae7:=pw_cell_below HB.out Ae7
        replace CE3:=eq_true CE3
        replace CE4:=eq_true CE4
        refine start_ (n:=15) (S:=fun w'=>w'.cell? ⟨AK4,0,none⟩=some (.slice (some BX2) l0.length c0)∧w'.cell? ⟨AK4,1,none⟩=some (.int .i64 0)∧w'.cell? ⟨AK4,2,none⟩=some (.int .u64 K8)∧w'.cell? ⟨AK4,3,none⟩=some (.int .i64 0)∧w'.cell? (BX2.add (M6).toNat)=some (.int .u8 (rd l0 M6))) (ds:=[14]) #[O,O,O,O,O,O,O,O,O,O,O,O,O,O,O] (by kernel_rfl) rfl rfl (cj4_ t3.out ((HB.out.cell (World.block_lt_of_cell? w _ BH0)).trans BH0)) (fun hHeld=>?_);refine with_tabW Y20.tab5 Y20.bits5 (fun HT_ HW_=>?_)
        generalize wc.drew=w8 at t3 HB Ae7 hHeld ⊢
        refine pu_ 0 18 #[I,O,O,O,O,O,O,O,O,O,O,O,O,O,O] HT_.out ?_
        refine pu_ 1 19 #[I,I,O,O,O,O,O,O,O,O,O,O,O,O,O] HT_.out ?_
        refine pu_ 2 20 #[I,I,I,O,O,O,O,O,O,O,O,O,O,O,O] HT_.out ?_
        refine pu_ 3 21 #[I,I,I,I,O,O,O,O,O,O,O,O,O,O,O] HT_.out ?_
        refine pu_ 5 23 #[I,I,I,I,O,I,O,O,O,O,O,O,O,O,O] HT_.out ?_
        refine pu_ 6 24 #[I,I,I,I,O,I,I,O,O,O,O,O,O,O,O] HT_.out ?_
        refine pu_ 7 25 #[I,I,I,I,O,I,I,I,O,O,O,O,O,O,O] HT_.out ?_
        refine tk5_ 4 22 #[I,I,I,I,I,I,I,I,O,O,O,O,O,O,O] HT_.out HW_.out hHeld ?_
        refine tk5_ 8 26 #[I,I,I,I,I,I,I,I,I,O,O,O,O,O,O] HT_.out HW_.out hHeld ?_
        refine pu_ 9 27 #[I,I,I,I,I,I,I,I,I,I,O,O,O,O,O] HT_.out ?_
        refine pu_ 10 28 #[I,I,I,I,I,I,I,I,I,I,I,O,O,O,O] HT_.out ?_
        refine pu_ 11 29 #[I,I,I,I,I,I,I,I,I,I,I,I,O,O,O] HT_.out ?_
        refine pu_ 12 30 #[I,I,I,I,I,I,I,I,I,I,I,I,I,O,O] HT_.out ?_
        refine pu_ 13 31 #[I,I,I,I,I,I,I,I,I,I,I,I,I,I,O] HT_.out ?_
        refine last_ (i:=14) (N:=none) #[I,I,I,I,I,I,I,I,I,I,I,I,I,I,I] rfl rfl (one_of HT_.out (by kernel_rfl)) (by decide) (fun K hK=>?_)
        have hs9:w8.cell? ⟨AK4,2,none⟩=some (.int .u64 K8):=(blk_cell t3.out 2).trans rfl
        have hfs9:=blk_frozen t3.out 2
        refine skip_ (w1:=?_) (by rfl) rfl ?_ ?_
        rotate_left
        ·go_simp
         rfl
        refine hK.out _ _ ?_
        clear hK K
        refine done_ (done_of HT_.out (by kernel_rfl)) ?_
        try go_wp2
        go_roundg kj2
        case measure=>have:=HK1.out;have:=HJ2.out;omega
        case rel=>exact ⟨(wrap64 (M6+1)),(IntKind.u64.wrap ((Go.bits .xor .u64 K8 (IntKind.u64.wrap (rd l0 M6)))*1099511628211)),(z2_),H',⟨z14_ HK1.out HJ2.out⟩,⟨by (with_reducible repeat (first | refine blk_drewN ?_ _ | refine blk_drew ?_ | refine blk_alloc ?_ _));refine blk_put (cs:=#[.slice (some BX2) l0.length c0,.int .i64 0,.int .u64 K8,.int .i64 0]) ?_ 2 _ rfl;(with_reducible repeat (first | refine blk_drewN ?_ _ | refine blk_drew ?_ | refine blk_alloc ?_ _));exact t3.out⟩,⟨z4_ HB.out AP9.out⟩⟩
       ·rw [if_neg c7] at H
        exact nO H
      ·rw [if_neg c6] at H
       exact nO H
     ·replace c5:=Bool.eq_false_iff.mpr c5
      subst c5
      have H1:(if (wrap64 ((l0.length:Int) / 20))>12 then (some (l0,0,K8,12)) else (some (l0,0,K8,wrap64 ((l0.length:Int) / 20))))=some (r1,r2,r3,r4):=by rw [if_neg (show ¬ (false=true) by decide)] at H;exact H
      clear H
      have H:=H1
      clear H1
      by_cases c10:(wrap64 ((l0.length:Int) / 20))>12
      ·rw [if_pos c10] at H
       have c10b0:decide (12<(wrap64 ((l0.length:Int) / 20)))=true:=dE c10
       clear c10
       simp only [Option.some.injEq,Prod.mk.injEq] at H
       obtain ⟨rfl,rfl,rfl,rfl⟩:=H
       have ⟨o0,o1,hcz11_2,hcz11_3,o3,o4,hfz11_2,hfz11_3⟩:=cz4_ t3.out
       go_wp2
       go_ret
       exact ⟨_,rfl,(show IsS98 w0 _ AK4 l0 0 K8 12 from ⟨_,_,by (with_reducible repeat (first | refine blk_drewN ?_ _ | refine blk_drew ?_ | refine blk_alloc ?_ _));refine blk_put (cs:=#[.slice A0 l0.length c0,.int .i64 0,.int .u64 K8,.int .i64 (wrap64 ((l0.length:Int) / 20))]) ?_ 3 _ rfl;(with_reducible repeat (first | refine blk_drewN ?_ _ | refine blk_drew ?_ | refine blk_alloc ?_ _));refine blk_put (cs:=#[.slice A0 l0.length c0,.int .i64 0,.int .u64 K8,.int .i64 0]) ?_ 3 _ rfl;(with_reducible repeat (first | refine blk_drewN ?_ _ | refine blk_drew ?_ | refine blk_alloc ?_ _));exact t3.out,Nat.le_trans HW0.out AP9.out,CU4.out⟩),below_step HBZ.out (z4_ HB.out AP9.out),z4_ HB.out AP9.out⟩
      ·rw [if_neg c10] at H
       have c10b0:decide (12<(wrap64 ((l0.length:Int) / 20)))=false:=dF c10
       clear c10
       simp only [Option.some.injEq,Prod.mk.injEq] at H
       obtain ⟨rfl,rfl,rfl,rfl⟩:=H
       have ⟨AS4,AS5,hcz12_2,hcz12_3,AS6,AS7,hfz12_2,hfz12_3⟩:=cz4_ t3.out
       go_wp2
       go_ret
       exact ⟨_,rfl,(show IsS98 w0 _ AK4 l0 0 K8 (wrap64 ((l0.length:Int) / 20)) from ⟨_,_,by (with_reducible repeat (first | refine blk_drewN ?_ _ | refine blk_drew ?_ | refine blk_alloc ?_ _));refine blk_put (cs:=#[.slice A0 l0.length c0,.int .i64 0,.int .u64 K8,.int .i64 0]) ?_ 3 _ rfl;(with_reducible repeat (first | refine blk_drewN ?_ _ | refine blk_drew ?_ | refine blk_alloc ?_ _));exact t3.out,Nat.le_trans HW0.out AP9.out,CU4.out⟩),below_step HBZ.out (z4_ HB.out AP9.out),z4_ HB.out AP9.out⟩


/-! ### Y4: function 31 -/
def Y4.f (E2:List Int) (H8:Int) (C7:Int) (K2:Int) (a1:Int):Option (Int × Int × Int × Int):=if a1≤1 then (some (0,H8,C7,K2)) else (if H8<(E2.length:Int) then (if 0≤H8 then (if (IntKind.u64.wrap (a1))=0 then (none) else (some (wrap64 (Int.tmod (IntKind.u64.wrap ((IntKind.u64.wrap (rd E2 H8))+((Go.bits .xor .u64 (Go.bits .xor .u64 (Go.bits .xor .u64 C7 (IntKind.u64.wrap (C7*8192))) ((Go.bits .xor .u64 C7 (IntKind.u64.wrap (C7*8192))) / 128)) (IntKind.u64.wrap ((Go.bits .xor .u64 (Go.bits .xor .u64 C7 (IntKind.u64.wrap (C7*8192))) ((Go.bits .xor .u64 C7 (IntKind.u64.wrap (C7*8192))) / 128))*131072))) / 1048576))) (IntKind.u64.wrap (a1))),wrap64 (H8+1),Go.bits .xor .u64 (Go.bits .xor .u64 (Go.bits .xor .u64 C7 (IntKind.u64.wrap (C7*8192))) ((Go.bits .xor .u64 C7 (IntKind.u64.wrap (C7*8192))) / 128)) (IntKind.u64.wrap ((Go.bits .xor .u64 (Go.bits .xor .u64 C7 (IntKind.u64.wrap (C7*8192))) ((Go.bits .xor .u64 C7 (IntKind.u64.wrap (C7*8192))) / 128))*131072)),K2))) else (none)) else (if (IntKind.u64.wrap (a1))=0 then (none) else (some (wrap64 (Int.tmod (IntKind.u64.wrap (0+((Go.bits .xor .u64 (Go.bits .xor .u64 (Go.bits .xor .u64 C7 (IntKind.u64.wrap (C7*8192))) ((Go.bits .xor .u64 C7 (IntKind.u64.wrap (C7*8192))) / 128)) (IntKind.u64.wrap ((Go.bits .xor .u64 (Go.bits .xor .u64 C7 (IntKind.u64.wrap (C7*8192))) ((Go.bits .xor .u64 C7 (IntKind.u64.wrap (C7*8192))) / 128))*131072))) / 1048576))) (IntKind.u64.wrap (a1))),H8,Go.bits .xor .u64 (Go.bits .xor .u64 (Go.bits .xor .u64 C7 (IntKind.u64.wrap (C7*8192))) ((Go.bits .xor .u64 C7 (IntKind.u64.wrap (C7*8192))) / 128)) (IntKind.u64.wrap ((Go.bits .xor .u64 (Go.bits .xor .u64 C7 (IntKind.u64.wrap (C7*8192))) ((Go.bits .xor .u64 C7 (IntKind.u64.wrap (C7*8192))) / 128))*131072)),K2))))
def Y4.T4:Bool × List (List Nat × List Nat):=(true,[([],[]),([0],[0]),([1],[1]),([2],[2]),([],[]),([4],[4]),([5],[5]),([6],[6]),([7],[7]),([3,8],[3,8])])
def Y4.B4:List Nat:=[0,1,3,7,0,16,48,112,240,511]
theorem Y4.tab4:rtab .any (opsOf Tryz.f31 4)=Y4.T4:=by kernel_rfl
theorem Y4.bits4:waitsOk Y4.T4.2 Y4.B4=true:=by kernel_rfl
def Y4.T5:Bool × List (List Nat × List Nat):=(true,[([],[]),([0],[0]),([1],[1]),([2],[2]),([],[]),([4],[4]),([5],[5]),([6],[6]),([3,7],[3,7]),([8],[8]),([9],[9]),([10,0,1,2,3,4,5,6,7,8,9,10],[10])])
def Y4.B5:List Nat:=[0,1,3,7,0,16,48,112,255,511,1023,2047]
theorem Y4.tab5:rtab .any (opsOf Tryz.f31 5)=Y4.T5:=by kernel_rfl
theorem Y4.bits5:waitsOk Y4.T5.2 Y4.B5=true:=by kernel_rfl
def Y4.T7:Bool × List (List Nat × List Nat):=(true,[([],[]),([],[]),([1],[1]),([2],[2]),([3],[3]),([],[]),([5],[5]),([6],[6]),([7],[7]),([8],[8]),([4,9],[4,9]),([0,0,1,2,3,4,5,6,7,8,9,10],[0]),([11,0,1,2,3,4,5,6,7,8,9,10],[11]),([12,10,0,1,2,3,4,5,6,7,8,9,10],[10,12])])
def Y4.B7:List Nat:=[0,0,2,6,14,0,32,96,224,480,1022,2047,4095,8191]
theorem Y4.tab7:rtab .any (opsOf Tryz.f31 7)=Y4.T7:=by kernel_rfl
theorem Y4.bits7:waitsOk Y4.T7.2 Y4.B7=true:=by kernel_rfl
def Y4.T8:Bool × List (List Nat × List Nat):=(true,[([],[]),([],[]),([1],[1]),([2],[2]),([3],[3]),([],[]),([5],[5]),([6],[6]),([7],[7]),([8],[8]),([4,9],[4,9]),([0,0,1,2,3,4,5,6,7,8,9,10],[0]),([11,0,1,2,3,4,5,6,7,8,9,10],[11]),([12,10,0,1,2,3,4,5,6,7,8,9,10],[10,12])])
def Y4.B8:List Nat:=[0,0,2,6,14,0,32,96,224,480,1022,2047,4095,8191]
theorem Y4.tab8:rtab .any (opsOf Tryz.f31 8)=Y4.T8:=by kernel_rfl
theorem Y4.bits8:waitsOk Y4.T8.2 Y4.B8=true:=by kernel_rfl
def Y4.T9:Bool × List (List Nat × List Nat):=(true,[([],[]),([],[]),([1],[1]),([2],[2]),([3],[3]),([],[]),([5],[5]),([6],[6]),([7],[7]),([8],[8]),([4,9],[4,9]),([0,0,1,2,3,4,5,6,7,8,9,10],[0]),([11,0,1,2,3,4,5,6,7,8,9,10],[11]),([12,10,0,1,2,3,4,5,6,7,8,9,10],[10,12])])
def Y4.B9:List Nat:=[0,0,2,6,14,0,32,96,224,480,1022,2047,4095,8191]
theorem Y4.tab9:rtab .any (opsOf Tryz.f31 9)=Y4.T9:=by kernel_rfl
theorem Y4.bits9:waitsOk Y4.T9.2 Y4.B9=true:=by kernel_rfl
abbrev Y4.q0:Array Bool:=#[O,O,O,O,O,O,O,O,O,O,O,O,O,O]
abbrev Y4.q1:Array Bool:=#[I,O,O,O,O,O,O,O,O,O,O,O,O,O]
abbrev Y4.q2:Array Bool:=#[I,I,O,O,O,O,O,O,O,O,O,O,O,O]
abbrev Y4.q3:Array Bool:=#[I,I,I,O,O,O,O,O,O,O,O,O,O,O]
abbrev Y4.q4:Array Bool:=#[I,I,I,I,O,O,O,O,O,O,O,O,O,O]
abbrev Y4.q5:Array Bool:=#[I,I,I,I,O,I,O,O,O,O,O,O,O,O]
abbrev Y4.q6:Array Bool:=#[I,I,I,I,O,I,I,O,O,O,O,O,O,O]
abbrev Y4.q7:Array Bool:=#[I,I,I,I,O,I,I,I,O,O,O,O,O,O]
abbrev Y4.q8:Array Bool:=#[I,I,I,I,I,I,I,I,O,O,O,O,O,O]
abbrev Y4.q9:Array Bool:=#[I,I,I,I,I,I,I,I,I,O,O,O,O,O]
abbrev Y4.q10:Array Bool:=#[I,I,I,I,I,I,I,I,I,I,O,O,O,O]
abbrev Y4.q11:Array Bool:=#[I,I,I,I,I,I,I,I,I,I,I,O,O,O]
abbrev Y4.q12:Array Bool:=#[I,I,I,I,I,I,I,I,I,I,I,I,O,O]
abbrev Y4.q13:Array Bool:=#[I,I,I,I,I,I,I,I,I,I,I,I,I,O]
abbrev Y4.q14:Array Bool:=#[I,I,I,I,I,I,I,I,I,I,I,I,I,I]
theorem Y4.calls (g:Nat) (E2:List Int) (H8:Int) (C7:Int) (K2:Int) (a1:Int) (r1:Int) (r2:Int) (r3:Int) (r4:Int) (w0 w:World) (hI:IsS98 w0 w g E2 H8 C7 K2) (hB:Below w0.heap.size w0 w) (h:Y4.f E2 H8 C7 K2 a1=some (r1,r2,r3,r4)) :
  Calls Tryz.prog 31 #[.pointer (some ⟨g,0,none⟩),.int .i64 a1] w fun e w'=>e = .returned (.int .i64 r1)∧IsS98 w0 w' g E2 r2 r3 r4∧Below w0.heap.size w0 w'∧KeepBut w w' g none:=by
 have HI0:=aM hI
 have HK:=aM (KeepBut.refl w g none)
 have HL:=aM hB.size
 clear hI
 have HW0:=aM hB.size
 have HB:=aM hB
 clear hB
 have H:(if a1≤1 then (some (0,H8,C7,K2)) else (if H8<(E2.length:Int) then (if 0≤H8 then (if (IntKind.u64.wrap (a1))=0 then (none) else (some (wrap64 (Int.tmod (IntKind.u64.wrap ((IntKind.u64.wrap (rd E2 H8))+((Go.bits .xor .u64 (Go.bits .xor .u64 (Go.bits .xor .u64 C7 (IntKind.u64.wrap (C7*8192))) ((Go.bits .xor .u64 C7 (IntKind.u64.wrap (C7*8192))) / 128)) (IntKind.u64.wrap ((Go.bits .xor .u64 (Go.bits .xor .u64 C7 (IntKind.u64.wrap (C7*8192))) ((Go.bits .xor .u64 C7 (IntKind.u64.wrap (C7*8192))) / 128))*131072))) / 1048576))) (IntKind.u64.wrap (a1))),wrap64 (H8+1),Go.bits .xor .u64 (Go.bits .xor .u64 (Go.bits .xor .u64 C7 (IntKind.u64.wrap (C7*8192))) ((Go.bits .xor .u64 C7 (IntKind.u64.wrap (C7*8192))) / 128)) (IntKind.u64.wrap ((Go.bits .xor .u64 (Go.bits .xor .u64 C7 (IntKind.u64.wrap (C7*8192))) ((Go.bits .xor .u64 C7 (IntKind.u64.wrap (C7*8192))) / 128))*131072)),K2))) else (none)) else (if (IntKind.u64.wrap (a1))=0 then (none) else (some (wrap64 (Int.tmod (IntKind.u64.wrap (0+((Go.bits .xor .u64 (Go.bits .xor .u64 (Go.bits .xor .u64 C7 (IntKind.u64.wrap (C7*8192))) ((Go.bits .xor .u64 C7 (IntKind.u64.wrap (C7*8192))) / 128)) (IntKind.u64.wrap ((Go.bits .xor .u64 (Go.bits .xor .u64 C7 (IntKind.u64.wrap (C7*8192))) ((Go.bits .xor .u64 C7 (IntKind.u64.wrap (C7*8192))) / 128))*131072))) / 1048576))) (IntKind.u64.wrap (a1))),H8,Go.bits .xor .u64 (Go.bits .xor .u64 (Go.bits .xor .u64 C7 (IntKind.u64.wrap (C7*8192))) ((Go.bits .xor .u64 C7 (IntKind.u64.wrap (C7*8192))) / 128)) (IntKind.u64.wrap ((Go.bits .xor .u64 (Go.bits .xor .u64 C7 (IntKind.u64.wrap (C7*8192))) ((Go.bits .xor .u64 C7 (IntKind.u64.wrap (C7*8192))) / 128))*131072)),K2)))))=some (r1,r2,r3,r4):=h
 clear h
 by_cases c3:a1≤1
 ·rw [if_pos c3] at H
  have c3b0:decide (a1≤1)=true:=dE c3
  clear c3
  simp only [Option.some.injEq,Prod.mk.injEq] at H
  obtain ⟨rfl,rfl,rfl,rfl⟩:=H
  go_enter Tryz.func31,Tryz.ntmps31
  go_wp2
  go_ret
  exact ⟨z8_,z17_ HI0.out,z15_ HB.out HI0.out,z12_ HK.out⟩
 ·rw [if_neg c3] at H
  have c3b0:decide (a1≤1)=false:=dF c3
  clear c3
  by_cases c4:H8<(E2.length:Int)
  ·rw [if_pos c4] at H
   have c4b0:decide (H8<(E2.length:Int))=true:=dE c4
   clear c4
   by_cases c5:0≤H8
   ·rw [if_pos c5] at H
    have c5b0:decide (0≤H8)=true:=dE c5
    clear c5
    by_cases c6:(IntKind.u64.wrap (a1))=0
    ·rw [if_pos c6] at H
     exact nO H
    ·rw [if_neg c6] at H
     have c6b0:((IntKind.u64.wrap (a1)) == 0)=false:=beq_eq_false_iff_ne.mpr c6
     have c6b1:((IntKind.u64.wrap (a1)) != 0)=true:=bne_iff_ne.mpr c6
     simp only [Option.some.injEq,Prod.mk.injEq] at H
     obtain ⟨rfl,rfl,rfl,rfl⟩:=H
     go_enter Tryz.func31,Tryz.ntmps31
     try go_wp2
     have n0_:=aM (IsS98.drew HI0.out)
     have n1_:=aM (keep_drew HK.out)
     have n2_:=aM (below_drew1 HB.out)
     clear HI0
     clear HK
     clear HB
     have HI0:=n0_
     have HK:=n1_
     have HB:=n2_
     clear n0_ n1_ n2_
     obtain ⟨CE5,CE6,CU5,Cy8,HSz8_0⟩:=HI0.out
     have HH9:=aM CU5
     clear CU5 Cy8
     refine start_ (n:=10) (S:=fun w'=>w'.cell? ⟨g,0,none⟩=some (.slice CE5 E2.length CE6)∧w'.cell? ⟨g,1,none⟩=some (.int .i64 H8)∧w'.cell? ⟨g,2,none⟩=some (.int .u64 C7)∧w'.cell? ⟨g,3,none⟩=some (.int .i64 K2)) (ds:=[]) #[O,O,O,O,O,O,O,O,O,O] (by kernel_rfl) rfl rfl (cc4_ HH9.out) (fun hHeld=>?_);refine with_tabW Y4.tab4 Y4.bits4 (fun HT_ HW_=>?_)
     generalize w.drew=w7 at HI0 HK HB HH9 hHeld ⊢
     refine pu_ 0 8 #[I,O,O,O,O,O,O,O,O,O] HT_.out ?_
     refine pu_ 1 9 #[I,I,O,O,O,O,O,O,O,O] HT_.out ?_
     refine pu_ 2 10 #[I,I,I,O,O,O,O,O,O,O] HT_.out ?_
     refine pu_ 4 12 #[I,I,I,O,I,O,O,O,O,O] HT_.out ?_
     refine pu_ 5 13 #[I,I,I,O,I,I,O,O,O,O] HT_.out ?_
     refine pu_ 6 14 #[I,I,I,O,I,I,I,O,O,O] HT_.out ?_
     refine tk4_ 3 11 #[I,I,I,I,I,I,I,O,O,O] HT_.out HW_.out hHeld ?_
     refine tk4_ 7 15 #[I,I,I,I,I,I,I,I,O,O] HT_.out HW_.out hHeld ?_
     refine pu_ 8 16 #[I,I,I,I,I,I,I,I,I,O] HT_.out ?_
     refine pu_ 9 17 #[I,I,I,I,I,I,I,I,I,I] HT_.out ?_
     refine done_ (done_of HT_.out (by kernel_rfl)) ?_
     try go_wp2
     have n0_:=aM (IsS98.drew HI0.out)
     have n1_:=aM (keep_drew HK.out)
     have n2_:=aM (below_drew1 HB.out)
     clear HI0
     clear HK
     clear HB
     have HI0:=n0_
     have HK:=n1_
     have HB:=n2_
     clear n0_ n1_ n2_
     obtain ⟨ASz11_0,Bn8,B41,CU6,Bn9⟩:=HI0.out
     have CU7:=aM B41
     clear B41 CU6
     have CE7:0≤(H8:Int):=dT (z1_)
     have CE8:H8<(E2.length:Int):=dT (z1_)
     obtain ⟨B42,Cy9,Ae8⟩:=Kd.at_int Bn9 H8 CE7 CE8
     have BH1:=Ae8
     cases Cy9
     replace Ae8:=pw_cell_below HB.out Ae8
     replace CE7:=eq_true CE7
     replace CE8:=eq_true CE8
     refine start_ (n:=12) (S:=fun w'=>w'.cell? ⟨g,0,none⟩=some (.slice (some B42) E2.length Bn8)∧w'.cell? ⟨g,1,none⟩=some (.int .i64 H8)∧w'.cell? ⟨g,2,none⟩=some (.int .u64 C7)∧w'.cell? ⟨g,3,none⟩=some (.int .i64 K2)∧w'.cell? (B42.add (H8).toNat)=some (.int .u8 (rd E2 H8))) (ds:=[]) #[O,O,O,O,O,O,O,O,O,O,O,O] (by kernel_rfl) rfl rfl (cj4_ CU7.out ((HB.out.cell (World.block_lt_of_cell? w0 _ BH1)).trans BH1)) (fun hHeld=>?_);refine with_tabW Y4.tab5 Y4.bits5 (fun HT_ HW_=>?_)
     generalize w7.drew=w10 at HI0 HK HB CU7 Ae8 hHeld ⊢
     refine pu_ 0 18 #[I,O,O,O,O,O,O,O,O,O,O,O] HT_.out ?_
     refine pu_ 1 19 #[I,I,O,O,O,O,O,O,O,O,O,O] HT_.out ?_
     refine pu_ 2 20 #[I,I,I,O,O,O,O,O,O,O,O,O] HT_.out ?_
     refine pu_ 4 22 #[I,I,I,O,I,O,O,O,O,O,O,O] HT_.out ?_
     refine pu_ 5 23 #[I,I,I,O,I,I,O,O,O,O,O,O] HT_.out ?_
     refine pu_ 6 24 #[I,I,I,O,I,I,I,O,O,O,O,O] HT_.out ?_
     refine tk5_ 3 21 #[I,I,I,I,I,I,I,O,O,O,O,O] HT_.out HW_.out hHeld ?_
     refine tk5_ 7 25 #[I,I,I,I,I,I,I,I,O,O,O,O] HT_.out HW_.out hHeld ?_
     refine pu_ 8 26 #[I,I,I,I,I,I,I,I,I,O,O,O] HT_.out ?_
     refine tk5_ 9 27 #[I,I,I,I,I,I,I,I,I,I,O,O] HT_.out HW_.out hHeld ?_
     refine pu_ 10 28 #[I,I,I,I,I,I,I,I,I,I,I,O] HT_.out ?_
     refine pu_ 11 5 #[I,I,I,I,I,I,I,I,I,I,I,I] HT_.out ?_
     refine done_ (done_of HT_.out (by kernel_rfl)) ?_
     obtain ⟨ASz13_0,cSz13_0,Aa3,CU8,HSz13_0⟩:=HI0.out
     have Ae9:=cellS98_0 Aa3
     have Af0:=cellS98_1 Aa3
     have BH2:=cellS98_2 Aa3
     have hcz13_3:=cellS98_3 Aa3
     have Af1:=blk_frozen Aa3 1
     have BH3:=blk_frozen Aa3 2
     have hfz13_3:=blk_frozen Aa3 3
     clear Aa3 CU8
     try go_wp2
     have n0_:Aside0 (IsS98 w0 (w10.setCell ⟨g,1,none⟩ (.int .i64 (wrap64 (H8+1)))) g E2 (wrap64 (H8+1)) C7 K2):=⟨z17_ HI0.out⟩
     have n1_:Aside0 (KeepBut w (w10.setCell ⟨g,1,none⟩ (.int .i64 (wrap64 (H8+1)))) g none):=⟨z12_ HK.out⟩
     have n2_:Aside0 (Below w0.heap.size w0 (w10.setCell ⟨g,1,none⟩ (.int .i64 (wrap64 (H8+1))))):=⟨z15_ HB.out HI0.out⟩
     (try clear HI0)
     (try clear HK)
     (try clear HB)
     generalize (w10.setCell ⟨g,1,none⟩ (.int .i64 (wrap64 (H8+1))))=w14 at n0_ n1_ n2_ ⊢
     have HI0:=n0_
     have HK:=n1_
     have HB:=n2_
     clear n0_ n1_ n2_
     have n0_:=aM (IsS98.drew HI0.out)
     have n1_:=aM (keep_drew HK.out)
     have n2_:=aM (below_drew1 HB.out)
     clear HI0
     clear HK
     clear HB
     have HI0:=n0_
     have HK:=n1_
     have HB:=n2_
     clear n0_ n1_ n2_
     obtain ⟨BH4,BH5,B43,CU9,HSz16_0⟩:=HI0.out
     have Al8:=aM B43
     clear B43 CU9
     refine start_ (n:=14) (S:=fun w'=>w'.cell? ⟨g,0,none⟩=some (.slice BH4 E2.length BH5)∧w'.cell? ⟨g,1,none⟩=some (.int .i64 (wrap64 (H8+1)))∧w'.cell? ⟨g,2,none⟩=some (.int .u64 C7)∧w'.cell? ⟨g,3,none⟩=some (.int .i64 K2)) (ds:=[13]) Y4.q0 (by kernel_rfl) rfl rfl (cc4_ Al8.out) (fun hHeld=>?_);refine with_tabW Y4.tab7 Y4.bits7 (fun HT_ HW_=>?_)
     generalize w14.drew=w15 at HI0 HK HB Al8 hHeld ⊢
     refine pu_ 0 37 Y4.q1 HT_.out ?_
     refine pu_ 1 38 Y4.q2 HT_.out ?_
     refine pu_ 2 39 Y4.q3 HT_.out ?_
     refine pu_ 3 40 Y4.q4 HT_.out ?_
     refine pu_ 5 42 Y4.q5 HT_.out ?_
     refine pu_ 6 43 Y4.q6 HT_.out ?_
     refine pu_ 7 44 Y4.q7 HT_.out ?_
     refine tk4_ 4 41 Y4.q8 HT_.out HW_.out hHeld ?_
     refine tk4_ 8 45 Y4.q9 HT_.out HW_.out hHeld ?_
     refine pu_ 9 46 Y4.q10 HT_.out ?_
     refine pu_ 10 47 Y4.q11 HT_.out ?_
     refine pu_ 11 48 Y4.q12 HT_.out ?_
     refine pu_ 12 49 Y4.q13 HT_.out ?_
     refine last_ (i:=13) (N:=none) Y4.q14 rfl rfl (one_of HT_.out (by kernel_rfl)) (by decide) (fun K hK=>?_)
     have AS8:=(blk_cell Al8.out 0).trans (show _=some (.slice BH4 E2.length BH5:Value) by rfl)
     have AS9:=blk_frozen Al8.out 0
     have AT0:=(blk_cell Al8.out 1).trans (show _=some (.int .i64 (wrap64 (H8+1)):Value) by rfl)
     have AT1:=blk_frozen Al8.out 1
     have AT2:=(blk_cell Al8.out 2).trans (show _=some (.int .u64 C7:Value) by rfl)
     have AT3:=blk_frozen Al8.out 2
     have AT4:=(blk_cell Al8.out 3).trans (show _=some (.int .i64 K2:Value) by rfl)
     have AT5:=blk_frozen Al8.out 3
     refine skip_ (w1:=?_) (by rfl) rfl ?_ ?_
     rotate_left
     ·go_simp
      rfl
     refine hK.out _ _ ?_
     clear hK K
     refine done_ (done_of HT_.out (by kernel_rfl)) ?_
     try go_wp2
     have n0_:Aside0 (IsS98 w0 (w15.setCell ⟨g,2,none⟩ (.int .u64 (Go.bits .xor .u64 C7 (IntKind.u64.wrap (C7*8192))))) g E2 (wrap64 (H8+1)) (Go.bits .xor .u64 C7 (IntKind.u64.wrap (C7*8192))) K2):=⟨z17_ HI0.out⟩
     have n1_:Aside0 (KeepBut w (w15.setCell ⟨g,2,none⟩ (.int .u64 (Go.bits .xor .u64 C7 (IntKind.u64.wrap (C7*8192))))) g none):=⟨z12_ HK.out⟩
     have n2_:Aside0 (Below w0.heap.size w0 (w15.setCell ⟨g,2,none⟩ (.int .u64 (Go.bits .xor .u64 C7 (IntKind.u64.wrap (C7*8192)))))):=⟨z15_ HB.out HI0.out⟩
     (try clear HI0)
     (try clear HK)
     (try clear HB)
     generalize (w15.setCell ⟨g,2,none⟩ (.int .u64 (Go.bits .xor .u64 C7 (IntKind.u64.wrap (C7*8192)))))=w18 at n0_ n1_ n2_ ⊢
     have HI0:=n0_
     have HK:=n1_
     have HB:=n2_
     clear n0_ n1_ n2_
     have n0_:=aM (IsS98.drew HI0.out)
     have n1_:=aM (keep_drew HK.out)
     have n2_:=aM (below_drew1 HB.out)
     clear HI0
     clear HK
     clear HB
     have HI0:=n0_
     have HK:=n1_
     have HB:=n2_
     clear n0_ n1_ n2_
     obtain ⟨BH6,BH7,An7,BX3,HSz20_0⟩:=HI0.out
     have Al9:=aM An7
     clear An7 BX3
     refine start_ (n:=14) (S:=fun w'=>w'.cell? ⟨g,0,none⟩=some (.slice BH6 E2.length BH7)∧w'.cell? ⟨g,1,none⟩=some (.int .i64 (wrap64 (H8+1)))∧w'.cell? ⟨g,2,none⟩=some (.int .u64 (Go.bits .xor .u64 C7 (IntKind.u64.wrap (C7*8192))))∧w'.cell? ⟨g,3,none⟩=some (.int .i64 K2)) (ds:=[13]) Y4.q0 (by kernel_rfl) rfl rfl (cc4_ Al9.out) (fun hHeld=>?_);refine with_tabW Y4.tab8 Y4.bits8 (fun HT_ HW_=>?_)
     generalize w18.drew=w19 at HI0 HK HB Al9 hHeld ⊢
     refine pu_ 0 50 Y4.q1 HT_.out ?_
     refine pu_ 1 51 Y4.q2 HT_.out ?_
     refine pu_ 2 52 Y4.q3 HT_.out ?_
     refine pu_ 3 53 Y4.q4 HT_.out ?_
     refine pu_ 5 55 Y4.q5 HT_.out ?_
     refine pu_ 6 56 Y4.q6 HT_.out ?_
     refine pu_ 7 57 Y4.q7 HT_.out ?_
     refine tk4_ 4 54 Y4.q8 HT_.out HW_.out hHeld ?_
     refine tk4_ 8 58 Y4.q9 HT_.out HW_.out hHeld ?_
     refine pu_ 9 59 Y4.q10 HT_.out ?_
     refine pu_ 10 60 Y4.q11 HT_.out ?_
     refine pu_ 11 61 Y4.q12 HT_.out ?_
     refine pu_ 12 62 Y4.q13 HT_.out ?_
     refine last_ (i:=13) (N:=none) Y4.q14 rfl rfl (one_of HT_.out (by kernel_rfl)) (by decide) (fun K hK=>?_)
     have AS8:=(blk_cell Al9.out 0).trans (show _=some (.slice BH6 E2.length BH7:Value) by rfl)
     have AS9:=blk_frozen Al9.out 0
     have AT0:=(blk_cell Al9.out 1).trans (show _=some (.int .i64 (wrap64 (H8+1)):Value) by rfl)
     have AT1:=blk_frozen Al9.out 1
     have AT2:=(blk_cell Al9.out 2).trans (show _=some (.int .u64 (Go.bits .xor .u64 C7 (IntKind.u64.wrap (C7*8192))):Value) by rfl)
     have AT3:=blk_frozen Al9.out 2
     have AT4:=(blk_cell Al9.out 3).trans (show _=some (.int .i64 K2:Value) by rfl)
     have AT5:=blk_frozen Al9.out 3
     refine skip_ (w1:=?_) (by rfl) rfl ?_ ?_
     rotate_left
     ·go_simp
      rfl
     refine hK.out _ _ ?_
     clear hK K
     refine done_ (done_of HT_.out (by kernel_rfl)) ?_
     try go_wp2
     have n0_:Aside0 (IsS98 w0 (w19.setCell ⟨g,2,none⟩ (.int .u64 (Go.bits .xor .u64 (Go.bits .xor .u64 C7 (IntKind.u64.wrap (C7*8192))) ((Go.bits .xor .u64 C7 (IntKind.u64.wrap (C7*8192))) / 128)))) g E2 (wrap64 (H8+1)) (Go.bits .xor .u64 (Go.bits .xor .u64 C7 (IntKind.u64.wrap (C7*8192))) ((Go.bits .xor .u64 C7 (IntKind.u64.wrap (C7*8192))) / 128)) K2):=⟨z17_ HI0.out⟩
     have n1_:Aside0 (KeepBut w (w19.setCell ⟨g,2,none⟩ (.int .u64 (Go.bits .xor .u64 (Go.bits .xor .u64 C7 (IntKind.u64.wrap (C7*8192))) ((Go.bits .xor .u64 C7 (IntKind.u64.wrap (C7*8192))) / 128)))) g none):=⟨z12_ HK.out⟩
     have n2_:Aside0 (Below w0.heap.size w0 (w19.setCell ⟨g,2,none⟩ (.int .u64 (Go.bits .xor .u64 (Go.bits .xor .u64 C7 (IntKind.u64.wrap (C7*8192))) ((Go.bits .xor .u64 C7 (IntKind.u64.wrap (C7*8192))) / 128))))):=⟨z15_ HB.out HI0.out⟩
     (try clear HI0)
     (try clear HK)
     (try clear HB)
     generalize (w19.setCell ⟨g,2,none⟩ (.int .u64 (Go.bits .xor .u64 (Go.bits .xor .u64 C7 (IntKind.u64.wrap (C7*8192))) ((Go.bits .xor .u64 C7 (IntKind.u64.wrap (C7*8192))) / 128))))=w22 at n0_ n1_ n2_ ⊢
     have HI0:=n0_
     have HK:=n1_
     have HB:=n2_
     clear n0_ n1_ n2_
     have n0_:=aM (IsS98.drew HI0.out)
     have n1_:=aM (keep_drew HK.out)
     have n2_:=aM (below_drew1 HB.out)
     clear HI0
     clear HK
     clear HB
     have HI0:=n0_
     have HK:=n1_
     have HB:=n2_
     clear n0_ n1_ n2_
     obtain ⟨BH8,BH9,B44,CV0,HSz24_0⟩:=HI0.out
     have Am0:=aM B44
     clear B44 CV0
     refine start_ (n:=14) (S:=fun w'=>w'.cell? ⟨g,0,none⟩=some (.slice BH8 E2.length BH9)∧w'.cell? ⟨g,1,none⟩=some (.int .i64 (wrap64 (H8+1)))∧w'.cell? ⟨g,2,none⟩=some (.int .u64 (Go.bits .xor .u64 (Go.bits .xor .u64 C7 (IntKind.u64.wrap (C7*8192))) ((Go.bits .xor .u64 C7 (IntKind.u64.wrap (C7*8192))) / 128)))∧w'.cell? ⟨g,3,none⟩=some (.int .i64 K2)) (ds:=[13]) Y4.q0 (by kernel_rfl) rfl rfl (cc4_ Am0.out) (fun hHeld=>?_);refine with_tabW Y4.tab9 Y4.bits9 (fun HT_ HW_=>?_)
     generalize w22.drew=w23 at HI0 HK HB Am0 hHeld ⊢
     refine pu_ 0 63 Y4.q1 HT_.out ?_
     refine pu_ 1 64 Y4.q2 HT_.out ?_
     refine pu_ 2 65 Y4.q3 HT_.out ?_
     refine pu_ 3 66 Y4.q4 HT_.out ?_
     refine pu_ 5 68 Y4.q5 HT_.out ?_
     refine pu_ 6 69 Y4.q6 HT_.out ?_
     refine pu_ 7 70 Y4.q7 HT_.out ?_
     refine tk4_ 4 67 Y4.q8 HT_.out HW_.out hHeld ?_
     refine tk4_ 8 71 Y4.q9 HT_.out HW_.out hHeld ?_
     refine pu_ 9 72 Y4.q10 HT_.out ?_
     refine pu_ 10 73 Y4.q11 HT_.out ?_
     refine pu_ 11 74 Y4.q12 HT_.out ?_
     refine pu_ 12 75 Y4.q13 HT_.out ?_
     refine last_ (i:=13) (N:=none) Y4.q14 rfl rfl (one_of HT_.out (by kernel_rfl)) (by decide) (fun K hK=>?_)
     have AS8:=(blk_cell Am0.out 0).trans (show _=some (.slice BH8 E2.length BH9:Value) by rfl)
     have AS9:=blk_frozen Am0.out 0
     have AT0:=(blk_cell Am0.out 1).trans (show _=some (.int .i64 (wrap64 (H8+1)):Value) by rfl)
     have AT1:=blk_frozen Am0.out 1
     have AT2:=(blk_cell Am0.out 2).trans (show _=some (.int .u64 (Go.bits .xor .u64 (Go.bits .xor .u64 C7 (IntKind.u64.wrap (C7*8192))) ((Go.bits .xor .u64 C7 (IntKind.u64.wrap (C7*8192))) / 128)):Value) by rfl)
     have AT3:=blk_frozen Am0.out 2
     have AT4:=(blk_cell Am0.out 3).trans (show _=some (.int .i64 K2:Value) by rfl)
     have AT5:=blk_frozen Am0.out 3
     refine skip_ (w1:=?_) (by rfl) rfl ?_ ?_
     rotate_left
     ·go_simp
      rfl
     refine hK.out _ _ ?_
     clear hK K
     refine done_ (done_of HT_.out (by kernel_rfl)) ?_
     obtain ⟨ASz26_0,cSz26_0,Aa4,CV1,HSz26_0⟩:=HI0.out
     have Af2:=cellS98_0 Aa4
     have Af3:=cellS98_1 Aa4
     have hcz26_2:=cellS98_2 Aa4
     have hcz26_3:=cellS98_3 Aa4
     have Af4:=blk_frozen Aa4 1
     have hfz26_2:=blk_frozen Aa4 2
     have hfz26_3:=blk_frozen Aa4 3
     clear Aa4 CV1
     try go_wp2
     go_ret
     exact ⟨z8_,z17_ HI0.out,z15_ HB.out HI0.out,z12_ HK.out⟩
   ·rw [if_neg c5] at H
    exact nO H
  ·rw [if_neg c4] at H
   have c4b0:decide (H8<(E2.length:Int))=false:=dF c4
   clear c4
   by_cases c27:(IntKind.u64.wrap (a1))=0
   ·rw [if_pos c27] at H
    exact nO H
   ·rw [if_neg c27] at H
    have c27b0:((IntKind.u64.wrap (a1)) == 0)=false:=beq_eq_false_iff_ne.mpr c27
    have c27b1:((IntKind.u64.wrap (a1)) != 0)=true:=bne_iff_ne.mpr c27
    simp only [Option.some.injEq,Prod.mk.injEq] at H
    obtain ⟨rfl,rfl,rfl,rfl⟩:=H
    go_enter Tryz.func31,Tryz.ntmps31
    try go_wp2
    have n0_:=aM (IsS98.drew HI0.out)
    have n1_:=aM (keep_drew HK.out)
    have n2_:=aM (below_drew1 HB.out)
    clear HI0
    clear HK
    clear HB
    have HI0:=n0_
    have HK:=n1_
    have HB:=n2_
    clear n0_ n1_ n2_
    obtain ⟨Bo0,Bo1,B45,CV2,HSz29_0⟩:=HI0.out
    have CV3:=aM B45
    clear B45 CV2
    refine start_ (n:=10) (S:=fun w'=>w'.cell? ⟨g,0,none⟩=some (.slice Bo0 E2.length Bo1)∧w'.cell? ⟨g,1,none⟩=some (.int .i64 H8)∧w'.cell? ⟨g,2,none⟩=some (.int .u64 C7)∧w'.cell? ⟨g,3,none⟩=some (.int .i64 K2)) (ds:=[]) #[O,O,O,O,O,O,O,O,O,O] (by kernel_rfl) rfl rfl (cc4_ CV3.out) (fun hHeld=>?_);refine with_tabW Y4.tab4 Y4.bits4 (fun HT_ HW_=>?_)
    generalize w.drew=w28 at HI0 HK HB CV3 hHeld ⊢
    refine pu_ 0 8 #[I,O,O,O,O,O,O,O,O,O] HT_.out ?_
    refine pu_ 1 9 #[I,I,O,O,O,O,O,O,O,O] HT_.out ?_
    refine pu_ 2 10 #[I,I,I,O,O,O,O,O,O,O] HT_.out ?_
    refine pu_ 4 12 #[I,I,I,O,I,O,O,O,O,O] HT_.out ?_
    refine pu_ 5 13 #[I,I,I,O,I,I,O,O,O,O] HT_.out ?_
    refine pu_ 6 14 #[I,I,I,O,I,I,I,O,O,O] HT_.out ?_
    refine tk4_ 3 11 #[I,I,I,I,I,I,I,O,O,O] HT_.out HW_.out hHeld ?_
    refine tk4_ 7 15 #[I,I,I,I,I,I,I,I,O,O] HT_.out HW_.out hHeld ?_
    refine pu_ 8 16 #[I,I,I,I,I,I,I,I,I,O] HT_.out ?_
    refine pu_ 9 17 #[I,I,I,I,I,I,I,I,I,I] HT_.out ?_
    refine done_ (done_of HT_.out (by kernel_rfl)) ?_
    try go_wp2
    have n0_:=aM (IsS98.drew HI0.out)
    have n1_:=aM (keep_drew HK.out)
    have n2_:=aM (below_drew1 HB.out)
    clear HI0
    clear HK
    clear HB
    have HI0:=n0_
    have HK:=n1_
    have HB:=n2_
    clear n0_ n1_ n2_
    obtain ⟨BI0,BI1,B46,CV4,HSz32_0⟩:=HI0.out
    have Am1:=aM B46
    clear B46 CV4
    refine start_ (n:=14) (S:=fun w'=>w'.cell? ⟨g,0,none⟩=some (.slice BI0 E2.length BI1)∧w'.cell? ⟨g,1,none⟩=some (.int .i64 H8)∧w'.cell? ⟨g,2,none⟩=some (.int .u64 C7)∧w'.cell? ⟨g,3,none⟩=some (.int .i64 K2)) (ds:=[13]) Y4.q0 (by kernel_rfl) rfl rfl (cc4_ Am1.out) (fun hHeld=>?_);refine with_tabW Y4.tab7 Y4.bits7 (fun HT_ HW_=>?_)
    generalize w28.drew=w31 at HI0 HK HB Am1 hHeld ⊢
    refine pu_ 0 37 Y4.q1 HT_.out ?_
    refine pu_ 1 38 Y4.q2 HT_.out ?_
    refine pu_ 2 39 Y4.q3 HT_.out ?_
    refine pu_ 3 40 Y4.q4 HT_.out ?_
    refine pu_ 5 42 Y4.q5 HT_.out ?_
    refine pu_ 6 43 Y4.q6 HT_.out ?_
    refine pu_ 7 44 Y4.q7 HT_.out ?_
    refine tk4_ 4 41 Y4.q8 HT_.out HW_.out hHeld ?_
    refine tk4_ 8 45 Y4.q9 HT_.out HW_.out hHeld ?_
    refine pu_ 9 46 Y4.q10 HT_.out ?_
    refine pu_ 10 47 Y4.q11 HT_.out ?_
    refine pu_ 11 48 Y4.q12 HT_.out ?_
    refine pu_ 12 49 Y4.q13 HT_.out ?_
    refine last_ (i:=13) (N:=none) Y4.q14 rfl rfl (one_of HT_.out (by kernel_rfl)) (by decide) (fun K hK=>?_)
    have AS8:=(blk_cell Am1.out 0).trans (show _=some (.slice BI0 E2.length BI1:Value) by rfl)
    have AS9:=blk_frozen Am1.out 0
    have AT0:=(blk_cell Am1.out 1).trans (show _=some (.int .i64 H8:Value) by rfl)
    have AT1:=blk_frozen Am1.out 1
    have AT2:=(blk_cell Am1.out 2).trans (show _=some (.int .u64 C7:Value) by rfl)
    have AT3:=blk_frozen Am1.out 2
    have AT4:=(blk_cell Am1.out 3).trans (show _=some (.int .i64 K2:Value) by rfl)
    have AT5:=blk_frozen Am1.out 3
    refine skip_ (w1:=?_) (by rfl) rfl ?_ ?_
    rotate_left
    ·go_simp
     rfl
    refine hK.out _ _ ?_
    clear hK K
    refine done_ (done_of HT_.out (by kernel_rfl)) ?_
    try go_wp2
    have n0_:Aside0 (IsS98 w0 (w31.setCell ⟨g,2,none⟩ (.int .u64 (Go.bits .xor .u64 C7 (IntKind.u64.wrap (C7*8192))))) g E2 H8 (Go.bits .xor .u64 C7 (IntKind.u64.wrap (C7*8192))) K2):=⟨z17_ HI0.out⟩
    have n1_:Aside0 (KeepBut w (w31.setCell ⟨g,2,none⟩ (.int .u64 (Go.bits .xor .u64 C7 (IntKind.u64.wrap (C7*8192))))) g none):=⟨z12_ HK.out⟩
    have n2_:Aside0 (Below w0.heap.size w0 (w31.setCell ⟨g,2,none⟩ (.int .u64 (Go.bits .xor .u64 C7 (IntKind.u64.wrap (C7*8192)))))):=⟨z15_ HB.out HI0.out⟩
    (try clear HI0)
    (try clear HK)
    (try clear HB)
    generalize (w31.setCell ⟨g,2,none⟩ (.int .u64 (Go.bits .xor .u64 C7 (IntKind.u64.wrap (C7*8192)))))=w34 at n0_ n1_ n2_ ⊢
    have HI0:=n0_
    have HK:=n1_
    have HB:=n2_
    clear n0_ n1_ n2_
    have n0_:=aM (IsS98.drew HI0.out)
    have n1_:=aM (keep_drew HK.out)
    have n2_:=aM (below_drew1 HB.out)
    clear HI0
    clear HK
    clear HB
    have HI0:=n0_
    have HK:=n1_
    have HB:=n2_
    clear n0_ n1_ n2_
    obtain ⟨BI2,BI3,B47,CV5,HSz36_0⟩:=HI0.out
    have Am2:=aM B47
    clear B47 CV5
    refine start_ (n:=14) (S:=fun w'=>w'.cell? ⟨g,0,none⟩=some (.slice BI2 E2.length BI3)∧w'.cell? ⟨g,1,none⟩=some (.int .i64 H8)∧w'.cell? ⟨g,2,none⟩=some (.int .u64 (Go.bits .xor .u64 C7 (IntKind.u64.wrap (C7*8192))))∧w'.cell? ⟨g,3,none⟩=some (.int .i64 K2)) (ds:=[13]) Y4.q0 (by kernel_rfl) rfl rfl (cc4_ Am2.out) (fun hHeld=>?_);refine with_tabW Y4.tab8 Y4.bits8 (fun HT_ HW_=>?_)
    generalize w34.drew=w35 at HI0 HK HB Am2 hHeld ⊢
    refine pu_ 0 50 Y4.q1 HT_.out ?_
    refine pu_ 1 51 Y4.q2 HT_.out ?_
    refine pu_ 2 52 Y4.q3 HT_.out ?_
    refine pu_ 3 53 Y4.q4 HT_.out ?_
    refine pu_ 5 55 Y4.q5 HT_.out ?_
    refine pu_ 6 56 Y4.q6 HT_.out ?_
    refine pu_ 7 57 Y4.q7 HT_.out ?_
    refine tk4_ 4 54 Y4.q8 HT_.out HW_.out hHeld ?_
    refine tk4_ 8 58 Y4.q9 HT_.out HW_.out hHeld ?_
    refine pu_ 9 59 Y4.q10 HT_.out ?_
    refine pu_ 10 60 Y4.q11 HT_.out ?_
    refine pu_ 11 61 Y4.q12 HT_.out ?_
    refine pu_ 12 62 Y4.q13 HT_.out ?_
    refine last_ (i:=13) (N:=none) Y4.q14 rfl rfl (one_of HT_.out (by kernel_rfl)) (by decide) (fun K hK=>?_)
    have AS8:=(blk_cell Am2.out 0).trans (show _=some (.slice BI2 E2.length BI3:Value) by rfl)
    have AS9:=blk_frozen Am2.out 0
    have AT0:=(blk_cell Am2.out 1).trans (show _=some (.int .i64 H8:Value) by rfl)
    have AT1:=blk_frozen Am2.out 1
    have AT2:=(blk_cell Am2.out 2).trans (show _=some (.int .u64 (Go.bits .xor .u64 C7 (IntKind.u64.wrap (C7*8192))):Value) by rfl)
    have AT3:=blk_frozen Am2.out 2
    have AT4:=(blk_cell Am2.out 3).trans (show _=some (.int .i64 K2:Value) by rfl)
    have AT5:=blk_frozen Am2.out 3
    refine skip_ (w1:=?_) (by rfl) rfl ?_ ?_
    rotate_left
    ·go_simp
     rfl
    refine hK.out _ _ ?_
    clear hK K
    refine done_ (done_of HT_.out (by kernel_rfl)) ?_
    try go_wp2
    have n0_:Aside0 (IsS98 w0 (w35.setCell ⟨g,2,none⟩ (.int .u64 (Go.bits .xor .u64 (Go.bits .xor .u64 C7 (IntKind.u64.wrap (C7*8192))) ((Go.bits .xor .u64 C7 (IntKind.u64.wrap (C7*8192))) / 128)))) g E2 H8 (Go.bits .xor .u64 (Go.bits .xor .u64 C7 (IntKind.u64.wrap (C7*8192))) ((Go.bits .xor .u64 C7 (IntKind.u64.wrap (C7*8192))) / 128)) K2):=⟨z17_ HI0.out⟩
    have n1_:Aside0 (KeepBut w (w35.setCell ⟨g,2,none⟩ (.int .u64 (Go.bits .xor .u64 (Go.bits .xor .u64 C7 (IntKind.u64.wrap (C7*8192))) ((Go.bits .xor .u64 C7 (IntKind.u64.wrap (C7*8192))) / 128)))) g none):=⟨z12_ HK.out⟩
    have n2_:Aside0 (Below w0.heap.size w0 (w35.setCell ⟨g,2,none⟩ (.int .u64 (Go.bits .xor .u64 (Go.bits .xor .u64 C7 (IntKind.u64.wrap (C7*8192))) ((Go.bits .xor .u64 C7 (IntKind.u64.wrap (C7*8192))) / 128))))):=⟨z15_ HB.out HI0.out⟩
    (try clear HI0)
    (try clear HK)
    (try clear HB)
    generalize (w35.setCell ⟨g,2,none⟩ (.int .u64 (Go.bits .xor .u64 (Go.bits .xor .u64 C7 (IntKind.u64.wrap (C7*8192))) ((Go.bits .xor .u64 C7 (IntKind.u64.wrap (C7*8192))) / 128))))=w38 at n0_ n1_ n2_ ⊢
    have HI0:=n0_
    have HK:=n1_
    have HB:=n2_
    clear n0_ n1_ n2_
    have n0_:=aM (IsS98.drew HI0.out)
    have n1_:=aM (keep_drew HK.out)
    have n2_:=aM (below_drew1 HB.out)
    clear HI0
    clear HK
    clear HB
    have HI0:=n0_
    have HK:=n1_
    have HB:=n2_
    clear n0_ n1_ n2_
    obtain ⟨BI4,BI5,B48,CV6,HSz40_0⟩:=HI0.out
    have Am3:=aM B48
    clear B48 CV6
    refine start_ (n:=14) (S:=fun w'=>w'.cell? ⟨g,0,none⟩=some (.slice BI4 E2.length BI5)∧w'.cell? ⟨g,1,none⟩=some (.int .i64 H8)∧w'.cell? ⟨g,2,none⟩=some (.int .u64 (Go.bits .xor .u64 (Go.bits .xor .u64 C7 (IntKind.u64.wrap (C7*8192))) ((Go.bits .xor .u64 C7 (IntKind.u64.wrap (C7*8192))) / 128)))∧w'.cell? ⟨g,3,none⟩=some (.int .i64 K2)) (ds:=[13]) Y4.q0 (by kernel_rfl) rfl rfl (cc4_ Am3.out) (fun hHeld=>?_);refine with_tabW Y4.tab9 Y4.bits9 (fun HT_ HW_=>?_)
    generalize w38.drew=w39 at HI0 HK HB Am3 hHeld ⊢
    refine pu_ 0 63 Y4.q1 HT_.out ?_
    refine pu_ 1 64 Y4.q2 HT_.out ?_
    refine pu_ 2 65 Y4.q3 HT_.out ?_
    refine pu_ 3 66 Y4.q4 HT_.out ?_
    refine pu_ 5 68 Y4.q5 HT_.out ?_
    refine pu_ 6 69 Y4.q6 HT_.out ?_
    refine pu_ 7 70 Y4.q7 HT_.out ?_
    refine tk4_ 4 67 Y4.q8 HT_.out HW_.out hHeld ?_
    refine tk4_ 8 71 Y4.q9 HT_.out HW_.out hHeld ?_
    refine pu_ 9 72 Y4.q10 HT_.out ?_
    refine pu_ 10 73 Y4.q11 HT_.out ?_
    refine pu_ 11 74 Y4.q12 HT_.out ?_
    refine pu_ 12 75 Y4.q13 HT_.out ?_
    refine last_ (i:=13) (N:=none) Y4.q14 rfl rfl (one_of HT_.out (by kernel_rfl)) (by decide) (fun K hK=>?_)
    have AS8:=(blk_cell Am3.out 0).trans (show _=some (.slice BI4 E2.length BI5:Value) by rfl)
    have AS9:=blk_frozen Am3.out 0
    have AT0:=(blk_cell Am3.out 1).trans (show _=some (.int .i64 H8:Value) by rfl)
    have AT1:=blk_frozen Am3.out 1
    have AT2:=(blk_cell Am3.out 2).trans (show _=some (.int .u64 (Go.bits .xor .u64 (Go.bits .xor .u64 C7 (IntKind.u64.wrap (C7*8192))) ((Go.bits .xor .u64 C7 (IntKind.u64.wrap (C7*8192))) / 128)):Value) by rfl)
    have AT3:=blk_frozen Am3.out 2
    have AT4:=(blk_cell Am3.out 3).trans (show _=some (.int .i64 K2:Value) by rfl)
    have AT5:=blk_frozen Am3.out 3
    refine skip_ (w1:=?_) (by rfl) rfl ?_ ?_
    rotate_left
    ·go_simp
     rfl
    refine hK.out _ _ ?_
    clear hK K
    refine done_ (done_of HT_.out (by kernel_rfl)) ?_
    obtain ⟨ASz42_0,cSz42_0,Aa5,CV7,HSz42_0⟩:=HI0.out
    have Ap8:=cellS98_0 Aa5
    have Ap9:=cellS98_1 Aa5
    have hcz42_2:=cellS98_2 Aa5
    have hcz42_3:=cellS98_3 Aa5
    have Aq0:=blk_frozen Aa5 1
    have hfz42_2:=blk_frozen Aa5 2
    have hfz42_3:=blk_frozen Aa5 3
    clear Aa5 CV7
    try go_wp2
    go_ret
    exact ⟨z8_,z17_ HI0.out,z15_ HB.out HI0.out,z12_ HK.out⟩


/-! ### Y77: function 5 -/
def Y77.f (k:Nat) (l0:List Int):Option (Int × Int):=(Y20.f k l0).bind fun AK5=>((Y4.f AK5.1 AK5.2.1 AK5.2.2.1 AK5.2.2.2 7).bind fun AB8=>((Y4.f AK5.1 AB8.2.1 AB8.2.2.1 AB8.2.2.2 10).bind fun Ag9=>(some (AB8.1,Ag9.1))))
theorem Y77.mono:∀ a0 k,LeO (Y77.f k a0) (Y77.f (k+1) a0):=by
 intro a0 k
 have m0:=@Y20.mono
 unfold Y77.f
 exact mO
theorem Y77.calls (k:Nat) (A0:Option Addr) (c0:Nat) (l0:List Int) (r1:Int) (r2:Int) (w:World) (hr0:Kd.C (Kd.int .u8) w A0 l0.length l0) (hc0:l0.length≤c0) (h:Y77.f k l0=some (r1,r2)) :
  Calls Tryz.prog 5 #[.slice A0 l0.length c0] w fun e w'=>e = .returned (.tuple #[.int .i64 r1,.int .i64 r2])∧Below w.heap.size w w':=by
 have HR0:=aM hr0
 have HC0:=aM hc0
 clear hr0 hc0
 have HB:=aM (Below.refl w.heap.size w)
 have H:((Y20.f k l0).bind fun AK5=>((Y4.f AK5.1 AK5.2.1 AK5.2.2.1 AK5.2.2.2 7).bind fun AB8=>((Y4.f AK5.1 AB8.2.1 AB8.2.2.1 AB8.2.2.2 10).bind fun Ag9=>(some (AB8.1,Ag9.1)))))=some (r1,r2):=h
 clear h
 replace H:=bS H
 obtain ⟨⟨BQ8,t105,CE9,t107⟩,A20,H⟩:=H
 replace H:((Y4.f BQ8 t105 CE9 t107 7).bind fun AB8=>((Y4.f BQ8 AB8.2.1 AB8.2.2.1 AB8.2.2.2 10).bind fun Ag9=>(some (AB8.1,Ag9.1))))=some (r1,r2):=H
 have A2:=aM A20
 clear A20
 replace H:=bS H
 obtain ⟨⟨t109,CF0,CF1,CF2⟩,A30,H⟩:=H
 replace H:((Y4.f BQ8 CF0 CF1 CF2 10).bind fun Ag9=>(some (t109,Ag9.1)))=some (r1,r2):=H
 have A3:=aM A30
 clear A30
 replace H:=bS H
 obtain ⟨⟨CV8,Cz0,Cz1,t116⟩,A40,H⟩:=H
 replace H:(some (t109,CV8))=some (r1,r2):=H
 have A4:=aM A40
 clear A40
 simp only [Option.some.injEq,Prod.mk.injEq] at H
 obtain ⟨rfl,rfl⟩:=H
 go_enter Tryz.func5,Tryz.ntmps5
 go_wp2_with (first | ((with_reducible refine gc_ 30 ?_);refine gl_ (some 7) Tryz.func30 #[.slice A0 l0.length c0] ?_;(with_reducible refine (Y20.calls k _ _ l0 BQ8 t105 CE9 t107 w _ ?s1 ?s2 ?s3 A2.out).mono ?_);(case s1=>repeat (first | (with_reducible first | exact HB.out | apply below_alloc | apply pw_below_drewN | apply below_drew1) | exact HB.out));(case s2=>exact HR0.out);(case s3=>exact HC0.out);rintro e w5 ⟨Bo2,rfl,hi,hb,hb2⟩;refine ⟨_,rfl,?_⟩;have n0_:=aM (hb);have n1_:=aM (hi);clear HB;have HB:=n0_;have AK6:=n1_;clear n0_ n1_;(try clear hb);(try clear hb2);(try clear hi)) | ((with_reducible refine gc_ 31 ?_);refine gl_ (some 9) Tryz.func31 #[.pointer (some ⟨Bo2,0,none⟩),.int .i64 7] ?_;(with_reducible refine (Y4.calls Bo2 BQ8 t105 CE9 t107 7 t109 CF0 CF1 CF2 w _ ?s1 ?s2 A3.out).mono ?_);(case s1=>repeat (first | (with_reducible first | exact AK6.out | apply IsS98.alloc | apply IsS98.drewN | apply IsS98.drew | apply IsS98.set_1 | apply IsS98.set_2 | apply IsS98.set_3) | exact AK6.out));(case s2=>repeat (first | (with_reducible first | exact HB.out | apply below_alloc | apply pw_below_drewN | apply below_drew1 | refine below_set ?_ (IsS98.ge AK6.out)) | exact HB.out));rintro e w6 ⟨rfl,hi,hb,hk⟩;refine ⟨_,rfl,?_⟩;have n0_:=aM (hb);have n1_:=aM (hi);clear HB;clear AK6;have HB:=n0_;have AK6:=n1_;clear n0_ n1_;(try clear hb);(try clear hk);(try clear hi)) | ((with_reducible refine gc_ 31 ?_);refine gl_ (some 12) Tryz.func31 #[.pointer (some ⟨Bo2,0,none⟩),.int .i64 10] ?_;(with_reducible refine (Y4.calls Bo2 BQ8 CF0 CF1 CF2 10 CV8 Cz0 Cz1 t116 w _ ?s1 ?s2 A4.out).mono ?_);(case s1=>repeat (first | (with_reducible first | exact AK6.out | apply IsS98.alloc | apply IsS98.drewN | apply IsS98.drew | apply IsS98.set_1 | apply IsS98.set_2 | apply IsS98.set_3) | exact AK6.out));(case s2=>repeat (first | (with_reducible first | exact HB.out | apply below_alloc | apply pw_below_drewN | apply below_drew1 | refine below_set ?_ (IsS98.ge AK6.out)) | exact HB.out));rintro e w7 ⟨rfl,hi,hb,hk⟩;refine ⟨_,rfl,?_⟩;have n0_:=aM (hb);have n1_:=aM (hi);clear HB;clear AK6;have HB:=n0_;have AK6:=n1_;clear n0_ n1_;(try clear hb);(try clear hk);(try clear hi)))
 go_ret2
 exact ⟨z8_,z15_ HB.out AK6.out⟩


/-! ### Y55: function 36 -/
def Y55.f (E2:List Int) (H8:Int) (C7:Int) (K2:Int) (a1:Int):Option (Bool × Int × Int × Int):=(Y4.f E2 H8 C7 K2 a1).bind fun AT6=>(some ((AT6.1 == 0),AT6.2.1,AT6.2.2.1,AT6.2.2.2))
theorem Y55.calls (g:Nat) (E2:List Int) (H8:Int) (C7:Int) (K2:Int) (a1:Int) (r1:Bool) (r2:Int) (r3:Int) (r4:Int) (w0 w:World) (hI:IsS98 w0 w g E2 H8 C7 K2) (hB:Below w0.heap.size w0 w) (h:Y55.f E2 H8 C7 K2 a1=some (r1,r2,r3,r4)) :
  Calls Tryz.prog 36 #[.pointer (some ⟨g,0,none⟩),.int .i64 a1] w fun e w'=>e = .returned (.bool r1)∧IsS98 w0 w' g E2 r2 r3 r4∧Below w0.heap.size w0 w'∧KeepBut w w' g none:=by
 have HI0:=aM hI
 have HK:=aM (KeepBut.refl w g none)
 have HL:=aM hB.size
 clear hI
 have HW0:=aM hB.size
 have HB:=aM hB
 clear hB
 have H:((Y4.f E2 H8 C7 K2 a1).bind fun AT6=>(some ((AT6.1 == 0),AT6.2.1,AT6.2.2.1,AT6.2.2.2)))=some (r1,r2,r3,r4):=h
 clear h
 replace H:=bS H
 obtain ⟨⟨t117,CV9,t119,CW0⟩,A30,H⟩:=H
 replace H:(some ((t117 == 0),CV9,t119,CW0))=some (r1,r2,r3,r4):=H
 have A3:=aM A30
 clear A30
 simp only [Option.some.injEq,Prod.mk.injEq] at H
 obtain ⟨rfl,rfl,rfl,rfl⟩:=H
 go_enter Tryz.func36,Tryz.ntmps36
 go_wp2_with (first | ((with_reducible refine gc_ 31 ?_);refine gl_ (some 7) Tryz.func31 #[.pointer (some ⟨g,0,none⟩),.int .i64 a1] ?_;(with_reducible refine (Y4.calls g E2 H8 C7 K2 a1 t117 CV9 t119 CW0 w0 _ ?s1 ?s2 A3.out).mono ?_);(case s1=>repeat (first | (with_reducible first | exact HI0.out | apply IsS98.alloc | apply IsS98.drewN | apply IsS98.drew | apply IsS98.set_1 | apply IsS98.set_2 | apply IsS98.set_3) | exact HI0.out));(case s2=>repeat (first | (with_reducible first | exact HB.out | apply below_alloc | apply pw_below_drewN | apply below_drew1 | refine below_set ?_ (IsS98.ge HI0.out)) | exact HB.out));rintro e w4 ⟨rfl,hi,hb,hk⟩;refine ⟨_,rfl,?_⟩;have n0_:=aM (KeepBut.trans (z12_ HK.out) hk (.inl rfl));have n1_:=aM (hb);have n2_:=aM (hi);clear HK;clear HB;clear HI0;have HK:=n0_;have HB:=n1_;have HI0:=n2_;clear n0_ n1_ n2_;(try clear hb);(try clear hk);(try clear hi)))
 go_ret
 exact ⟨z8_,z17_ HI0.out,z15_ HB.out HI0.out,z12_ HK.out⟩


/-! ### Y44: function 55 -/
def Y44.l0:Nat→ByteArray→Int→Int→Option (Int)
 | 0,_,_,_=>none
 | k+1,x0,x3,x4=>if x4<(x0.size:Int) then (if 0≤x4 then (Y44.l0 k x0 (Int.tmod (wrap64 ((Go.bits .xor .i64 x3 (wrap64 (bt x0 x4)))*16777619)) 4294967296) (wrap64 (x4+1))) else (none)) else (some x3)
def Y44.f (k:Nat) (a0:ByteArray):Option (Int):=Y44.l0 k a0 2166136261 0
theorem Y44.mono_l:∀ k,(∀ y0 y1 y2,LeO (Y44.l0 k y0 y1 y2) (Y44.l0 (k+1) y0 y1 y2))
 | 0=>by intros <;> exact LeO.none _
 | k+1=>by
  have ih0:=Y44.mono_l k
  ·intros
   unfold Y44.l0
   exact mO
theorem Y44.mono:∀ a0 k,LeO (Y44.f k a0) (Y44.f (k+1) a0):=by
 intro a0 k
 have ih0:=Y44.mono_l k
 unfold Y44.f
 exact mO
theorem Y44.calls (k:Nat) (a0:ByteArray) (r:Int) (w:World) (h:Y44.f k a0=some r) :
  Calls Tryz.prog 55 #[.string a0] w fun e w'=>e = .returned (.int .i64 r)∧Drawn0 w w':=by
 have H:(Y44.l0 k a0 2166136261 0)=some r:=h
 clear h
 have H':=aM H
 clear H
 go_enter Tryz.func55,Tryz.ntmps55
 go_wp2
 go_loopg [3,4] k (fun kq v3 v4 w'=>∃ (I0:Int) (M6:Int),v3 = .int .i64 I0∧v4 = .int .i64 M6∧Aside0 (Y44.l0 kq a0 I0 M6=some r)∧Aside0 (kq≤k)∧Drawn0 w w')
 case atStart=>exact ⟨(2166136261),(0),(z2_),(z2_),H',⟨Nat.le_refl _⟩,z5_⟩
 case round =>
  clear H'
  obtain ⟨I0,M6,rfl,rfl,HA,HK1,⟨m1,rfl⟩⟩:=hrel
  cases gk with
  | zero=>exact absurd HA.out (by simp [Y44.l0])
  | succ k1 =>
   have H:=HA.out
   clear HA
   simp only [Y44.l0] at H
   by_cases c2:M6<(a0.size:Int)
   ·rw [if_pos c2] at H
    have c2b0:decide (M6<(a0.size:Int))=true:=dE c2
    clear c2
    by_cases c3:0≤M6
    ·rw [if_pos c3] at H
     have c3b0:decide (0≤M6)=true:=dE c3
     clear c3
     have H':=aM H
     clear H
     have p4:0≤(M6:Int):=dT (z1_)
     have q4:M6<(a0.size:Int):=dT (z1_)
     have hx4:=bt_at a0 M6
     replace p4:=eq_true p4
     replace q4:=eq_true q4
     go_wp2
     go_roundg k1
     case measure=>have:=HK1.out;omega
     case rel=>exact ⟨(Int.tmod (wrap64 ((Go.bits .xor .i64 I0 (wrap64 (bt a0 M6)))*16777619)) 4294967296),(wrap64 (M6+1)),(z2_),(z2_),H',⟨by have:=HK1.out;omega⟩,z5_⟩
    ·rw [if_neg c3] at H
     exact nO H
   ·rw [if_neg c2] at H
    have c2b0:decide (M6<(a0.size:Int))=false:=dF c2
    clear c2
    obtain rfl:=sI H
    go_wp2
    go_ret
    exact ⟨z2_,z5_⟩


/-! ### Y50: function 75 -/
def Y50.l0:Nat→Int→Bool→ByteArray→Option (ByteArray)
 | 0,_,_,_=>none
 | k+1,x0,x3,x4=>if x0=0 then (if x3=true then (if 1+x4.size≤9223372036854775807 then (some ((⟨#[45]⟩:ByteArray) ++ x4)) else (none)) else (some x4)) else (if (Int.tmod x0 10)<0 then ((some (([(wrap64 (48+(wrap64 (-(Int.tmod x0 10))))) % 256]:List Int):List Int)).bind fun Aq1=>(if (strOfNums Aq1).size+x4.size≤9223372036854775807 then (Y50.l0 k (wrap64 (Int.tdiv x0 10)) x3 ((strOfNums Aq1) ++ x4)) else (none))) else ((some (([(wrap64 (48+(Int.tmod x0 10))) % 256]:List Int):List Int)).bind fun Aq2=>(if (strOfNums Aq2).size+x4.size≤9223372036854775807 then (Y50.l0 k (wrap64 (Int.tdiv x0 10)) x3 ((strOfNums Aq2) ++ x4)) else (none))))
def Y50.f (k:Nat) (a0:Int):Option (ByteArray):=if a0=0 then (some (⟨#[48]⟩:ByteArray)) else (Y50.l0 k a0 (decide (a0<0)) (⟨#[]⟩:ByteArray))
theorem Y50.mono_l:∀ k,(∀ y0 y1 y2,LeO (Y50.l0 k y0 y1 y2) (Y50.l0 (k+1) y0 y1 y2))
 | 0=>by intros <;> exact LeO.none _
 | k+1=>by
  have ih0:=Y50.mono_l k
  ·intros
   unfold Y50.l0
   exact mO
theorem Y50.mono:∀ a0 k,LeO (Y50.f k a0) (Y50.f (k+1) a0):=by
 intro a0 k
 have ih0:=Y50.mono_l k
 unfold Y50.f
 exact mO
theorem Y50.calls (k:Nat) (a0:Int) (r:ByteArray) (w:World) (h:Y50.f k a0=some r) :
  Calls Tryz.prog 75 #[.int .i64 a0] w fun e w'=>e = .returned (.string r)∧Below w.heap.size w w':=by
 have HB:=aM (Below.refl w.heap.size w)
 have H:(if a0=0 then (some (⟨#[48]⟩:ByteArray)) else (Y50.l0 k a0 (decide (a0<0)) (⟨#[]⟩:ByteArray)))=some r:=h
 clear h
 by_cases c2:a0=0
 ·rw [if_pos c2] at H
  have c2b0:(a0 == 0)=true:=beq_iff_eq.mpr c2
  have c2b1:(a0 != 0)=false:=bne_eq_false_iff_eq.mpr c2
  clear c2
  obtain rfl:=sI H
  go_enter Tryz.func75,Tryz.ntmps75
  go_wp2
  go_ret
  exact ⟨z8_,z6_ HB.out⟩
 ·rw [if_neg c2] at H
  have c2b0:(a0 == 0)=false:=beq_eq_false_iff_ne.mpr c2
  have c2b1:(a0 != 0)=true:=bne_iff_ne.mpr c2
  have H':=aM H
  clear H
  go_enter Tryz.func75,Tryz.ntmps75
  go_wp2
  go_loopg [0,4] k (fun kq v0 v4 w'=>∃ (D4:Int) (M6:ByteArray),v0 = .int .i64 D4∧v4 = .string M6∧Aside0 (Y50.l0 kq D4 (decide (a0<0)) M6=some r)∧Aside0 (kq≤k)∧Aside0 (Below w.heap.size w w'))
  case atStart=>exact ⟨(a0),((⟨#[]⟩:ByteArray)),(z2_),(z2_),H',⟨Nat.le_refl _⟩,⟨z6_ HB.out⟩⟩
  case round =>
   clear H'
   try clear c2
   try clear c2b0
   try clear c2b1
   try clear p2
   obtain ⟨D4,M6,rfl,rfl,HA,HK1,HB⟩:=hrel
   cases gk with
   | zero=>exact absurd HA.out (by simp [Y50.l0])
   | succ k1 =>
    have H:=HA.out
    clear HA
    simp only [Y50.l0] at H
    by_cases c3:D4=0
    ·rw [if_pos c3] at H
     have c3b0:(D4 == 0)=true:=beq_iff_eq.mpr c3
     have c3b1:(D4 != 0)=false:=bne_eq_false_iff_eq.mpr c3
     clear c3
     by_cases c4:(decide (a0<0))=true
     ·rw [if_pos c4] at H
      have c4b0:(decide (a0<0))=true:=c4
      have c4q0:(a0<0):=dT c4b0
      have c4q1:=eq_true c4q0
      clear c4
      by_cases c5:1+M6.size≤9223372036854775807
      ·rw [if_pos c5] at H
       have c5b0:=eq_true c5
       have c5b1:decide (1+M6.size≤9223372036854775807)=true:=dE c5
       try have c5b2:(9223372036854775807<1+M6.size)=False:=eq_false (Nat.not_lt.2 c5)
       obtain rfl:=sI H
       go_wp2
       go_ret
       exact ⟨z8_,z6_ HB.out⟩
      ·rw [if_neg c5] at H
       exact nO H
     ·rw [if_neg c4] at H
      have c4b0:(decide (a0<0))=false:=by simpa using c4
      have c4q0:¬ (a0<0):=of_decide_eq_false c4b0
      have c4q1:=eq_false c4q0
      clear c4
      obtain rfl:=sI H
      go_wp2
      go_ret
      exact ⟨z8_,z6_ HB.out⟩
    ·rw [if_neg c3] at H
     have c3b0:(D4 == 0)=false:=beq_eq_false_iff_ne.mpr c3
     have c3b1:(D4 != 0)=true:=bne_iff_ne.mpr c3
     by_cases c6:(Int.tmod D4 10)<0
     ·rw [if_pos c6] at H
      have c6b0:decide ((Int.tmod D4 10)<0)=true:=dE c6
      clear c6
      obtain ⟨Aq1,Av6⟩:∃ y_:List Int,y_=(([(wrap64 (48+(wrap64 (-(Int.tmod D4 10))))) % 256]:List Int)):=⟨_,rfl⟩
      replace H:(if (strOfNums Aq1).size+M6.size≤9223372036854775807 then (Y50.l0 k1 (wrap64 (Int.tdiv D4 10)) (decide (a0<0)) ((strOfNums Aq1) ++ M6)) else (none))=some r:=by first | (rw [Av6];with_reducible exact H) | (have H2_:=(Option.bind_some _ _).symm.trans H;rw [Av6];with_reducible exact H2_) | (have H2_:=(Option.bind_some _ _).symm.trans H;with_reducible exact H2_) | with_reducible exact H | (rw [Av6];exact H) | exact H
      have B49:=aM Av6
      clear Av6
      by_cases c7:(strOfNums Aq1).size+M6.size≤9223372036854775807
      ·rw [if_pos c7] at H
       have c7b0:=eq_true c7
       have c7b1:decide ((strOfNums Aq1).size+M6.size≤9223372036854775807)=true:=dE c7
       try have c7b2:(9223372036854775807<(strOfNums Aq1).size+M6.size)=False:=eq_false (Nat.not_lt.2 c7)
       have H':=aM H
       clear H
       go_wp2_with (first | ((with_reducible refine gd_ 21 ?_);refine Kd.R_lit (Kd.int .u8) _ 5 ?hg (N:=21) ?hd (xs:=([(wrap64 (48+(wrap64 (-(Int.tmod D4 10))))) % 256]:List Int)) (inner:=[.int .u8 ((wrap64 (48+(wrap64 (-(Int.tmod D4 10))))) % 256)]) (ok:=fun _=>True) (okp:=fun _=>True) ?hr ?hp (fun _ hk=>hk) trivial (Below.refl _ _) (Nat.le_refl _) (by simp) ?_;(case hd=>rfl);(case hg=>rfl);(case hr=>first | (go_simp;done) | (go_simp;rfl));(case hp=>exact (Reps.one (show Kd.M (Kd.int .u8) _ _ _ ((wrap64 (48+(wrap64 (-(Int.tmod D4 10))))) % 256) [.int .u8 ((wrap64 (48+(wrap64 (-(Int.tmod D4 10))))) % 256)] from rfl) (Reps.none _ _)));intro v122 w8 ho9 hb hg_ hnew_;clear hg_ hnew_;(first | rw [← B49.out] at ho9 | (simp only [Int.reduceToNat] at ho9;rw [← B49.out] at ho9));have n0_:=aM (Kd.R_lower ho9 (below_size (z6_ HB.out)));have n1_:=aM (below_step (z6_ HB.out) hb);clear HB;have CW1:=n0_;have HB:=n1_;clear n0_ n1_;clear hb ho9;have CW2:=own_string (P:=Tryz.prog) Tryz.underlying22 Tryz.underlying5 Tryz.underlying9 (Kd.own_of_R CW1.out)))
       go_roundg k1
       case measure=>have:=HK1.out;omega
       case rel=>exact ⟨(wrap64 (Int.tdiv D4 10)),((strOfNums Aq1) ++ M6),(z2_),(z2_),H',⟨by have:=HK1.out;omega⟩,⟨z6_ HB.out⟩⟩
      ·rw [if_neg c7] at H
       exact nO H
     ·rw [if_neg c6] at H
      have c6b0:decide ((Int.tmod D4 10)<0)=false:=dF c6
      clear c6
      obtain ⟨Aq2,Av7⟩:∃ y_:List Int,y_=(([(wrap64 (48+(Int.tmod D4 10))) % 256]:List Int)):=⟨_,rfl⟩
      replace H:(if (strOfNums Aq2).size+M6.size≤9223372036854775807 then (Y50.l0 k1 (wrap64 (Int.tdiv D4 10)) (decide (a0<0)) ((strOfNums Aq2) ++ M6)) else (none))=some r:=by first | (rw [Av7];with_reducible exact H) | (have H2_:=(Option.bind_some _ _).symm.trans H;rw [Av7];with_reducible exact H2_) | (have H2_:=(Option.bind_some _ _).symm.trans H;with_reducible exact H2_) | with_reducible exact H | (rw [Av7];exact H) | exact H
      have B50:=aM Av7
      clear Av7
      by_cases c11:(strOfNums Aq2).size+M6.size≤9223372036854775807
      ·rw [if_pos c11] at H
       have c11b0:=eq_true c11
       have c11b1:decide ((strOfNums Aq2).size+M6.size≤9223372036854775807)=true:=dE c11
       try have c11b2:(9223372036854775807<(strOfNums Aq2).size+M6.size)=False:=eq_false (Nat.not_lt.2 c11)
       have H':=aM H
       clear H
       go_wp2_with (first | ((with_reducible refine gd_ 21 ?_);refine Kd.R_lit (Kd.int .u8) _ 5 ?hg (N:=21) ?hd (xs:=([(wrap64 (48+(Int.tmod D4 10))) % 256]:List Int)) (inner:=[.int .u8 ((wrap64 (48+(Int.tmod D4 10))) % 256)]) (ok:=fun _=>True) (okp:=fun _=>True) ?hr ?hp (fun _ hk=>hk) trivial (Below.refl _ _) (Nat.le_refl _) (by simp) ?_;(case hd=>rfl);(case hg=>rfl);(case hr=>first | (go_simp;done) | (go_simp;rfl));(case hp=>exact (Reps.one (show Kd.M (Kd.int .u8) _ _ _ ((wrap64 (48+(Int.tmod D4 10))) % 256) [.int .u8 ((wrap64 (48+(Int.tmod D4 10))) % 256)] from rfl) (Reps.none _ _)));intro v125 w12 Ah0 hb hg_ hnew_;clear hg_ hnew_;(first | rw [← B50.out] at Ah0 | (simp only [Int.reduceToNat] at Ah0;rw [← B50.out] at Ah0));have n0_:=aM (Kd.R_lower Ah0 (below_size (z6_ HB.out)));have n1_:=aM (below_step (z6_ HB.out) hb);clear HB;have CW3:=n0_;have HB:=n1_;clear n0_ n1_;clear hb Ah0;have hcv14:=own_string (P:=Tryz.prog) Tryz.underlying22 Tryz.underlying5 Tryz.underlying9 (Kd.own_of_R CW3.out)))
       go_roundg k1
       case measure=>have:=HK1.out;omega
       case rel=>exact ⟨(wrap64 (Int.tdiv D4 10)),((strOfNums Aq2) ++ M6),(z2_),(z2_),H',⟨by have:=HK1.out;omega⟩,⟨z6_ HB.out⟩⟩
      ·rw [if_neg c11] at H
       exact nO H


/-! ### Y25: function 46 -/
mutual
def Y25.l0:Nat→Int→Int→Int→Int→List (S78)→Option (Int × (List (S78)))
 | 0,_,_,_,_,_=>none
 | k+1,x0,x1,x6,X4,P3=>if x6≤x0 then (Y25.l1 k x0 x1 x6 1 X4 P3) else (some (X4,P3))
def Y25.l1:Nat→Int→Int→Int→Int→Int→List (S78)→Option (Int × (List (S78)))
 | 0,_,_,_,_,_,_=>none
 | k+1,x0,x1,x6,x7,X4,P3=>if x7≤x1 then ((Y50.f k x6).bind fun AD6=>(if AD6.size+1≤9223372036854775807 then ((Y50.f k x7).bind fun t130=>(if (AD6.size+1)+t130.size≤9223372036854775807 then ((Y44.f k ((AD6 ++ (⟨#[45]⟩:ByteArray)) ++ t130)).bind fun t131=>(Y25.l2 k x0 x1 x6 x7 0 X4 P3 t131 x6)) else (none))) else (none))) else (Y25.l0 k x0 x1 (wrap64 (x6+1)) X4 P3)
def Y25.l2:Nat→Int→Int→Int→Int→Int→Int→List (S78)→Int→Int→Option (Int × (List (S78)))
 | 0,_,_,_,_,_,_,_,_,_=>none
 | k+1,x0,x1,x6,x7,x9,X4,P3,z8,AB9=>if x9<(P3.length:Int) then (if 0≤x9 then (if ((rd_T78 P3 x9).f0)<z8 then (Y25.j3 k x0 x1 x6 x7 x9 true X4 P3 z8 AB9) else (if ((rd_T78 P3 x9).f0)=z8 then (Y25.j3 k x0 x1 x6 x7 x9 (decide (((rd_T78 P3 x9).f1)<AB9)) X4 P3 z8 AB9) else (Y25.j3 k x0 x1 x6 x7 x9 false X4 P3 z8 AB9))) else (none)) else (Y25.j3 k x0 x1 x6 x7 x9 false X4 P3 z8 AB9)
def Y25.j3:Nat→Int→Int→Int→Int→Int→Bool→Int→List (S78)→Int→Int→Option (Int × (List (S78)))
 | 0,_,_,_,_,_,_,_,_,_,_=>none
 | k+1,x0,x1,x6,x7,x9,x69,X4,P3,z8,AB9=>if x69=true then (Y25.l2 k x0 x1 x6 x7 (wrap64 (x9+1)) X4 P3 z8 AB9) else ((some (([]:List (S78)):List (S78))).bind fun AQ4=>(if 0≤x9 then (if x9≤(P3.length:Int) then ((some (P3.take (x9:Int).toNat:List (S78))).bind fun U1=>(if AQ4.length+U1.length<8796093022208 then ((some (AQ4 ++ U1:List (S78))).bind fun AG7=>(if AG7.length<8796093022208 then ((some (AG7 ++ [(⟨z8,AB9⟩:S78)]:List (S78))).bind fun z9=>((some (P3.drop (x9:Int).toNat:List (S78))).bind fun Q8=>(if z9.length+Q8.length<8796093022208 then (Y25.l1 k x0 x1 x6 (wrap64 (x7+1)) X4 (z9 ++ Q8)) else (none)))) else (none))) else (none))) else (none)) else (none)))
end
def Y25.f (k:Nat) (a0:Int) (a1:Int):Option (Int × (List (S78))):=Y25.l0 k a0 a1 1 a0 ([]:List (S78))
theorem Y25.mono_l:∀ k,(∀ y0 y1 y2 y3 y4,LeO (Y25.l0 k y0 y1 y2 y3 y4) (Y25.l0 (k+1) y0 y1 y2 y3 y4))∧(∀ y0 y1 y2 y3 y4 y5,LeO (Y25.l1 k y0 y1 y2 y3 y4 y5) (Y25.l1 (k+1) y0 y1 y2 y3 y4 y5))∧(∀ y0 y1 y2 y3 y4 y5 y6 y7 y8,LeO (Y25.l2 k y0 y1 y2 y3 y4 y5 y6 y7 y8) (Y25.l2 (k+1) y0 y1 y2 y3 y4 y5 y6 y7 y8))∧(∀ y0 y1 y2 y3 y4 y5 y6 y7 y8 y9,LeO (Y25.j3 k y0 y1 y2 y3 y4 y5 y6 y7 y8 y9) (Y25.j3 (k+1) y0 y1 y2 y3 y4 y5 y6 y7 y8 y9))
 | 0=>by refine ⟨?_,?_,?_,?_⟩ <;> intros <;> exact LeO.none _
 | k+1=>by
  obtain ⟨ih0,ih1,ih2,ih3⟩:=Y25.mono_l k
  have m0:=@Y50.mono
  have m1:=@Y44.mono
  refine ⟨?_,?_,?_,?_⟩
  ·intros
   unfold Y25.l0
   exact mO
  ·intros
   unfold Y25.l1
   exact mO
  ·intros
   unfold Y25.l2
   exact mO
  ·intros
   unfold Y25.j3
   exact mO
theorem Y25.mono:∀ a0 a1 k,LeO (Y25.f k a0 a1) (Y25.f (k+1) a0 a1):=by
 intro a0 a1 k
 have m0:=@Y50.mono
 have m1:=@Y44.mono
 obtain ⟨ih0,ih1,ih2,ih3⟩:=Y25.mono_l k
 unfold Y25.f
 exact mO
theorem Y25.calls (k:Nat) (a0:Int) (a1:Int) (r1:Int) (r2:List (S78)) (w:World) (h:Y25.f k a0 a1=some (r1,r2)) :
  Calls Tryz.prog 46 #[.int .i64 a0,.int .i64 a1] w fun e w'=>∃ v1_:Value,e = .returned (.agg #[.int .i64 r1,v1_])∧Kd.R k78 78 w' w.heap.size (fun _=>True) v1_ r2∧Below w.heap.size w w':=by
 have AD7:=Tryz.underlying27
 have Ah1:=Tryz.underlying78
 have HB:=aM (Below.refl w.heap.size w)
 have H:(Y25.l0 k a0 a1 1 a0 ([]:List (S78)))=some (r1,r2):=h
 clear h
 have H':=aM H
 clear H
 go_enter Tryz.func46,Tryz.ntmps46
 go_wp2_with (first | ((with_reducible refine gd_ 4 ?_);refine be_ 4 #[.int .i64 0,.slice none 0 0] 27 ?_;intro Z7 hg w3 hbox hb;have n0_:=aM (below_step (z6_ HB.out) hb);have n1_:=aM (hbox);have n2_:=aM ((z7_ HB.out:w.heap.size≤Z7));have n3_:=aM ((z7_ HB.out:w.heap.size≤Z7));clear HB;have HB:=n0_;have D5:=n1_;have B51:=n2_;have H4:=n3_;clear n0_ n1_ n2_ n3_;clear hb hbox hg) | ((with_reducible refine gd_ 5 ?_);refine be_ 5 #[.int .i64 0,.slice none 0 0] 27 ?_;intro Z8 hg w4 hbox hb;have n0_:=aM (blkB_ D5.out hb);have n1_:=aM (below_step (z4_ HB.out H4.out) hb);have n2_:=aM (hbox);have n3_:=aM ((z13_ HB.out H4.out:w.heap.size≤Z8));have n4_:=aM ((z13_ HB.out H4.out:w.heap.size≤Z8));have n5_:=aM (neL_ D5.out hg);have n6_:=aM (neG_ D5.out hg);clear D5;clear HB;have D5:=n0_;have HB:=n1_;have D6:=n2_;have B52:=n3_;have I9:=n4_;have M8:=n5_;have P8:=n6_;clear n0_ n1_ n2_ n3_ n4_ n5_ n6_;clear hb hbox hg;have CF3:=P8.out;have CF4:=M8.out;have ⟨AD8,AG8,AD9,AG9⟩:=cz2_ D6.out))
 repeat (go_quiet (first | ((with_reducible refine gd_ 4 ?_);refine be_ 4 #[.int .i64 0,.slice none 0 0] 27 ?_;intro Z7 hg w3 hbox hb;have n0_:=aM (below_step (z6_ HB.out) hb);have n1_:=aM (hbox);have n2_:=aM ((z7_ HB.out:w.heap.size≤Z7));have n3_:=aM ((z7_ HB.out:w.heap.size≤Z7));clear HB;have HB:=n0_;have D5:=n1_;have B51:=n2_;have H4:=n3_;clear n0_ n1_ n2_ n3_;clear hb hbox hg) | ((with_reducible refine gd_ 5 ?_);refine be_ 5 #[.int .i64 0,.slice none 0 0] 27 ?_;intro Z8 hg w4 hbox hb;have n0_:=aM (blkB_ D5.out hb);have n1_:=aM (below_step (z4_ HB.out H4.out) hb);have n2_:=aM (hbox);have n3_:=aM ((z13_ HB.out H4.out:w.heap.size≤Z8));have n4_:=aM ((z13_ HB.out H4.out:w.heap.size≤Z8));have n5_:=aM (neL_ D5.out hg);have n6_:=aM (neG_ D5.out hg);clear D5;clear HB;have D5:=n0_;have HB:=n1_;have D6:=n2_;have B52:=n3_;have I9:=n4_;have M8:=n5_;have P8:=n6_;clear n0_ n1_ n2_ n3_ n4_ n5_ n6_;clear hb hbox hg;have CF3:=P8.out;have CF4:=M8.out;have ⟨AD8,AG8,AD9,AG9⟩:=cz2_ D6.out));try go_wp2_with (first | ((with_reducible refine gd_ 4 ?_);refine be_ 4 #[.int .i64 0,.slice none 0 0] 27 ?_;intro Z7 hg w3 hbox hb;have n0_:=aM (below_step (z6_ HB.out) hb);have n1_:=aM (hbox);have n2_:=aM ((z7_ HB.out:w.heap.size≤Z7));have n3_:=aM ((z7_ HB.out:w.heap.size≤Z7));clear HB;have HB:=n0_;have D5:=n1_;have B51:=n2_;have H4:=n3_;clear n0_ n1_ n2_ n3_;clear hb hbox hg) | ((with_reducible refine gd_ 5 ?_);refine be_ 5 #[.int .i64 0,.slice none 0 0] 27 ?_;intro Z8 hg w4 hbox hb;have n0_:=aM (blkB_ D5.out hb);have n1_:=aM (below_step (z4_ HB.out H4.out) hb);have n2_:=aM (hbox);have n3_:=aM ((z13_ HB.out H4.out:w.heap.size≤Z8));have n4_:=aM ((z13_ HB.out H4.out:w.heap.size≤Z8));have n5_:=aM (neL_ D5.out hg);have n6_:=aM (neG_ D5.out hg);clear D5;clear HB;have D5:=n0_;have HB:=n1_;have D6:=n2_;have B52:=n3_;have I9:=n4_;have M8:=n5_;have P8:=n6_;clear n0_ n1_ n2_ n3_ n4_ n5_ n6_;clear hb hbox hg;have CF3:=P8.out;have CF4:=M8.out;have ⟨AD8,AG8,AD9,AG9⟩:=cz2_ D6.out)))
 go_loopg [6] k (fun kq v6 w'=>∃ (D9:Int) (AE6:List (S78)) (X5:Value),v6 = .int .i64 D9∧Aside0 (Y25.l0 kq a0 a1 D9 a0 AE6=some (r1,r2))∧Aside0 (kq≤k)∧Aside0 (Kd.R k78 78 w' w.heap.size (fun _=>True) X5 AE6)∧Aside0 (w'.heap[Z7]? = some (.cells #[.int .i64 0,(.slice none 0 0)] 27 (0,0)))∧Aside0 (w'.heap[Z8]? = some (.cells #[.int .i64 a0,X5] 27 (0,0)))∧Aside0 (Below w.heap.size w w'))
 case atStart=>exact ⟨(1),(([]:List (S78))),(.slice none 0 0),(z2_),H',⟨Nat.le_refl _⟩,⟨z27_⟩,⟨z22_ M8.out D5.out⟩,⟨z18_ D6.out⟩,⟨z9_ HB.out H4.out I9.out⟩⟩
 case round =>
  clear H'
  try clear p2
  try clear c4
  try clear c5
  try clear AD8
  try clear AG8
  try clear AD9
  try clear AG9
  obtain ⟨D9,AE6,X5,rfl,HA,HK1,C0,D5,D6,HB⟩:=hrel
  cases gk with
  | zero=>exact absurd HA.out (by simp [Y25.l0])
  | succ k1 =>
   have H:=HA.out
   clear HA
   simp only [Y25.l0] at H
   by_cases c7:D9≤a0
   ·rw [if_pos c7] at H
    have c7b0:decide (D9≤a0)=true:=dE c7
    clear c7
    have H':=aM H
    clear H
    go_wp2
    repeat (go_quiet (fail);try go_wp2)
    go_loopg [7] k1 (fun kq v7 w'=>∃ (K4:Int) (C1:List (S78)) (X5:Value),v7 = .int .i64 K4∧Aside0 (Y25.l1 kq a0 a1 D9 K4 a0 C1=some (r1,r2))∧Aside0 (kq≤k1)∧Aside0 (Kd.R k78 78 w' w.heap.size (fun _=>True) X5 C1)∧Aside0 (w'.heap[Z7]? = some (.cells #[.int .i64 0,(.slice none 0 0)] 27 (0,0)))∧Aside0 (w'.heap[Z8]? = some (.cells #[.int .i64 a0,X5] 27 (0,0)))∧Aside0 (Below w.heap.size w w'))
    case atStart=>exact ⟨(1),(AE6),(X5),(z2_),H',⟨Nat.le_refl _⟩,⟨z0_ C0.out⟩,⟨z3_ D5.out⟩,⟨z3_ D6.out⟩,⟨z9_ HB.out H4.out I9.out⟩⟩
    case round =>
     clear H'
     try clear p2
     try clear c4
     try clear c5
     try clear c7
     try clear c7b0
     try clear AD8
     try clear AG8
     try clear AD9
     try clear AG9
     try clear p2
     obtain ⟨K4,C1,X5,rfl,HA,HK2,C0,D5,D6,HB⟩:=hrel
     cases gk with
     | zero=>exact absurd HA.out (by simp [Y25.l1])
     | succ k2 =>
      have H:=HA.out
      clear HA
      simp only [Y25.l1] at H
      by_cases c8:K4≤a1
      ·rw [if_pos c8] at H
       have c8b0:decide (K4≤a1)=true:=dE c8
       clear c8
       replace H:=bS H
       obtain ⟨AD6,A90,H⟩:=H
       replace H:(if AD6.size+1≤9223372036854775807 then ((Y50.f k2 K4).bind fun t130=>(if (AD6.size+1)+t130.size≤9223372036854775807 then ((Y44.f k2 ((AD6 ++ (⟨#[45]⟩:ByteArray)) ++ t130)).bind fun t131=>(Y25.l2 k2 a0 a1 D9 K4 0 a0 C1 t131 D9)) else (none))) else (none))=some (r1,r2):=H
       have A9:=aM A90
       clear A90
       by_cases c10:AD6.size+1≤9223372036854775807
       ·rw [if_pos c10] at H
        have c10b0:=eq_true c10
        have c10b1:decide (AD6.size+1≤9223372036854775807)=true:=dE c10
        try have c10b2:(9223372036854775807<AD6.size+1)=False:=eq_false (Nat.not_lt.2 c10)
        replace H:=bS H
        obtain ⟨t130,f7,H⟩:=H
        replace H:(if (AD6.size+1)+t130.size≤9223372036854775807 then ((Y44.f k2 ((AD6 ++ (⟨#[45]⟩:ByteArray)) ++ t130)).bind fun t131=>(Y25.l2 k2 a0 a1 D9 K4 0 a0 C1 t131 D9)) else (none))=some (r1,r2):=H
        have A11:=aM f7
        clear f7
        by_cases c12:(AD6.size+1)+t130.size≤9223372036854775807
        ·rw [if_pos c12] at H
         have c12b0:=eq_true c12
         have c12b1:decide ((AD6.size+1)+t130.size≤9223372036854775807)=true:=dE c12
         try have c12b2:(9223372036854775807<(AD6.size+1)+t130.size)=False:=eq_false (Nat.not_lt.2 c12)
         replace H:=bS H
         obtain ⟨t131,AK7,H⟩:=H
         replace H:(Y25.l2 k2 a0 a1 D9 K4 0 a0 C1 t131 D9)=some (r1,r2):=H
         have A13:=aM AK7
         clear AK7
         have H':=aM H
         clear H
         go_wp2_with (first | (go_at_call 75;(with_reducible refine (Y50.calls k2 D9 AD6 _ A9.out).mono ?_);rintro e w14 ⟨rfl,hb⟩;have n0_:=aM (Kd.R_below (z0_ C0.out) hb);have n1_:=aM (blkB_ D5.out hb);have n2_:=aM (blkB_ D6.out hb);have n3_:=aM (below_step (z9_ HB.out H4.out I9.out) hb);clear C0;clear D5;clear D6;clear HB;have C0:=n0_;have D5:=n1_;have D6:=n2_;have HB:=n3_;clear n0_ n1_ n2_ n3_;(try clear hb)) | (go_at_call 75;(with_reducible refine (Y50.calls k2 K4 t130 _ A11.out).mono ?_);rintro e w15 ⟨rfl,hb⟩;have n0_:=aM (Kd.R_below (z0_ C0.out) hb);have n1_:=aM (blkB_ D5.out hb);have n2_:=aM (blkB_ D6.out hb);have n3_:=aM (below_step (z9_ HB.out H4.out I9.out) hb);clear C0;clear D5;clear D6;clear HB;have C0:=n0_;have D5:=n1_;have D6:=n2_;have HB:=n3_;clear n0_ n1_ n2_ n3_;(try clear hb)) | (go_at_call 55;(with_reducible refine (Y44.calls k2 ((AD6 ++ (⟨#[45]⟩:ByteArray)) ++ t130) t131 _ A13.out).mono ?_);rintro e w' ⟨rfl,⟨nd,rfl⟩⟩;(try first | exact ⟨rfl,_,World.drewN_drewN _ _ _⟩ | exact ⟨rfl,_,Eq.trans (World.drewN_drewN _ _ _) (congrArg (World.drewN _) (Nat.add_assoc _ _ _))⟩)) | ((with_reducible refine gd_ 8 ?_);refine be_ 8 #[.int .i64 0,.int .i64 0] 78 ?_;intro G4 hg w16 hbox hb;have n0_:=aM (Kd.R_below (Kd.R_elderB (z0_ C0.out) G4 (Nat.le_of_eq hg.symm)) hb);have n1_:=aM (blkB_ D5.out hb);have n2_:=aM (blkB_ D6.out hb);have n3_:=aM (below_step (z9_ HB.out H4.out I9.out) hb);have n4_:=aM (hbox);have n5_:=aM ((z38_ HB.out H4.out I9.out:w.heap.size≤G4));have n6_:=aM ((z38_ HB.out H4.out I9.out:w.heap.size≤G4));have n7_:=aM (neL_ D5.out hg);have n8_:=aM (neG_ D5.out hg);have n9_:=aM (neL_ D6.out hg);have K9:=aM (neG_ D6.out hg);clear C0;clear D5;clear D6;clear HB;have C0:=n0_;have D5:=n1_;have D6:=n2_;have HB:=n3_;have G7:=n4_;have B53:=n5_;have O7:=n6_;have R1:=n7_;have S7:=n8_;have P9:=n9_;have R2:=K9;clear n0_ n1_ n2_ n3_ n4_ n5_ n6_ n7_ n8_ n9_ K9;clear hb hbox hg;have B54:=S7.out;have B55:=R1.out;have BX4:=R2.out;have BX5:=P9.out;have ⟨AT7,AT8,AT9,AU0⟩:=cz2_ G7.out))
         repeat (go_quiet (first | (go_at_call 75;(with_reducible refine (Y50.calls k2 D9 AD6 _ A9.out).mono ?_);rintro e w14 ⟨rfl,hb⟩;have n0_:=aM (Kd.R_below (z0_ C0.out) hb);have n1_:=aM (blkB_ D5.out hb);have n2_:=aM (blkB_ D6.out hb);have n3_:=aM (below_step (z9_ HB.out H4.out I9.out) hb);clear C0;clear D5;clear D6;clear HB;have C0:=n0_;have D5:=n1_;have D6:=n2_;have HB:=n3_;clear n0_ n1_ n2_ n3_;(try clear hb)) | (go_at_call 75;(with_reducible refine (Y50.calls k2 K4 t130 _ A11.out).mono ?_);rintro e w15 ⟨rfl,hb⟩;have n0_:=aM (Kd.R_below (z0_ C0.out) hb);have n1_:=aM (blkB_ D5.out hb);have n2_:=aM (blkB_ D6.out hb);have n3_:=aM (below_step (z9_ HB.out H4.out I9.out) hb);clear C0;clear D5;clear D6;clear HB;have C0:=n0_;have D5:=n1_;have D6:=n2_;have HB:=n3_;clear n0_ n1_ n2_ n3_;(try clear hb)) | (go_at_call 55;(with_reducible refine (Y44.calls k2 ((AD6 ++ (⟨#[45]⟩:ByteArray)) ++ t130) t131 _ A13.out).mono ?_);rintro e w' ⟨rfl,⟨nd,rfl⟩⟩;(try first | exact ⟨rfl,_,World.drewN_drewN _ _ _⟩ | exact ⟨rfl,_,Eq.trans (World.drewN_drewN _ _ _) (congrArg (World.drewN _) (Nat.add_assoc _ _ _))⟩)) | ((with_reducible refine gd_ 8 ?_);refine be_ 8 #[.int .i64 0,.int .i64 0] 78 ?_;intro G4 hg w16 hbox hb;have n0_:=aM (Kd.R_below (Kd.R_elderB (z0_ C0.out) G4 (Nat.le_of_eq hg.symm)) hb);have n1_:=aM (blkB_ D5.out hb);have n2_:=aM (blkB_ D6.out hb);have n3_:=aM (below_step (z9_ HB.out H4.out I9.out) hb);have n4_:=aM (hbox);have n5_:=aM ((z38_ HB.out H4.out I9.out:w.heap.size≤G4));have n6_:=aM ((z38_ HB.out H4.out I9.out:w.heap.size≤G4));have n7_:=aM (neL_ D5.out hg);have n8_:=aM (neG_ D5.out hg);have n9_:=aM (neL_ D6.out hg);have K9:=aM (neG_ D6.out hg);clear C0;clear D5;clear D6;clear HB;have C0:=n0_;have D5:=n1_;have D6:=n2_;have HB:=n3_;have G7:=n4_;have B53:=n5_;have O7:=n6_;have R1:=n7_;have S7:=n8_;have P9:=n9_;have R2:=K9;clear n0_ n1_ n2_ n3_ n4_ n5_ n6_ n7_ n8_ n9_ K9;clear hb hbox hg;have B54:=S7.out;have B55:=R1.out;have BX4:=R2.out;have BX5:=P9.out;have ⟨AT7,AT8,AT9,AU0⟩:=cz2_ G7.out));try go_wp2_with (first | (go_at_call 75;(with_reducible refine (Y50.calls k2 D9 AD6 _ A9.out).mono ?_);rintro e w14 ⟨rfl,hb⟩;have n0_:=aM (Kd.R_below (z0_ C0.out) hb);have n1_:=aM (blkB_ D5.out hb);have n2_:=aM (blkB_ D6.out hb);have n3_:=aM (below_step (z9_ HB.out H4.out I9.out) hb);clear C0;clear D5;clear D6;clear HB;have C0:=n0_;have D5:=n1_;have D6:=n2_;have HB:=n3_;clear n0_ n1_ n2_ n3_;(try clear hb)) | (go_at_call 75;(with_reducible refine (Y50.calls k2 K4 t130 _ A11.out).mono ?_);rintro e w15 ⟨rfl,hb⟩;have n0_:=aM (Kd.R_below (z0_ C0.out) hb);have n1_:=aM (blkB_ D5.out hb);have n2_:=aM (blkB_ D6.out hb);have n3_:=aM (below_step (z9_ HB.out H4.out I9.out) hb);clear C0;clear D5;clear D6;clear HB;have C0:=n0_;have D5:=n1_;have D6:=n2_;have HB:=n3_;clear n0_ n1_ n2_ n3_;(try clear hb)) | (go_at_call 55;(with_reducible refine (Y44.calls k2 ((AD6 ++ (⟨#[45]⟩:ByteArray)) ++ t130) t131 _ A13.out).mono ?_);rintro e w' ⟨rfl,⟨nd,rfl⟩⟩;(try first | exact ⟨rfl,_,World.drewN_drewN _ _ _⟩ | exact ⟨rfl,_,Eq.trans (World.drewN_drewN _ _ _) (congrArg (World.drewN _) (Nat.add_assoc _ _ _))⟩)) | ((with_reducible refine gd_ 8 ?_);refine be_ 8 #[.int .i64 0,.int .i64 0] 78 ?_;intro G4 hg w16 hbox hb;have n0_:=aM (Kd.R_below (Kd.R_elderB (z0_ C0.out) G4 (Nat.le_of_eq hg.symm)) hb);have n1_:=aM (blkB_ D5.out hb);have n2_:=aM (blkB_ D6.out hb);have n3_:=aM (below_step (z9_ HB.out H4.out I9.out) hb);have n4_:=aM (hbox);have n5_:=aM ((z38_ HB.out H4.out I9.out:w.heap.size≤G4));have n6_:=aM ((z38_ HB.out H4.out I9.out:w.heap.size≤G4));have n7_:=aM (neL_ D5.out hg);have n8_:=aM (neG_ D5.out hg);have n9_:=aM (neL_ D6.out hg);have K9:=aM (neG_ D6.out hg);clear C0;clear D5;clear D6;clear HB;have C0:=n0_;have D5:=n1_;have D6:=n2_;have HB:=n3_;have G7:=n4_;have B53:=n5_;have O7:=n6_;have R1:=n7_;have S7:=n8_;have P9:=n9_;have R2:=K9;clear n0_ n1_ n2_ n3_ n4_ n5_ n6_ n7_ n8_ n9_ K9;clear hb hbox hg;have B54:=S7.out;have B55:=R1.out;have BX4:=R2.out;have BX5:=P9.out;have ⟨AT7,AT8,AT9,AU0⟩:=cz2_ G7.out)))
         go_loopg [9] k2 (fun kq v9 w'=>∃ (F4:Int),v9 = .int .i64 F4∧Aside0 (Y25.l2 kq a0 a1 D9 K4 F4 a0 C1 t131 D9=some (r1,r2))∧Aside0 (kq≤k2)∧Aside0 (Kd.R k78 78 w' w.heap.size (fun k_=>k_≠G4) X5 C1)∧Aside0 (w'.heap[Z7]? = some (.cells #[.int .i64 0,(.slice none 0 0)] 27 (0,0)))∧Aside0 (w'.heap[Z8]? = some (.cells #[.int .i64 a0,X5] 27 (0,0)))∧Aside0 (w'.heap[G4]? = some (.cells #[.int .i64 t131,.int .i64 D9] 78 (0,0)))∧Aside0 (Below w.heap.size w w'))
         case atStart=>exact ⟨(0),(z2_),H',⟨Nat.le_refl _⟩,⟨by (with_reducible repeat (first | apply Kd.R_alloc | apply Kd.R_drewN | apply Kd.R_drew));exact Kd.R_mono (rf2_ (Kd.R_mono C0.out (fun k_ hk=>(⟨hk,hk.2⟩:_∧k_≠G4))) (fun _ hk=>hk.2)) (fun _ hk=>hk.1.2)⟩,⟨z22_ R1.out D5.out⟩,⟨z22_ P9.out D6.out⟩,⟨z18_ G7.out⟩,⟨z10_ HB.out H4.out I9.out O7.out⟩⟩
         case round =>
          clear H'
          try clear c1
          try clear p2
          try clear c4
          try clear c5
          try clear c7
          try clear c7b0
          try clear c8
          try clear c8b0
          try clear c10
          try clear c10b0
          try clear c10b1
          try clear c10b2
          try clear c12
          try clear c12b0
          try clear c12b1
          try clear c12b2
          try clear c17
          try clear c18
          try clear AT7
          try clear AT8
          try clear AD8
          try clear AG8
          try clear AT9
          try clear AU0
          try clear AD9
          try clear AG9
          try clear p2
          obtain ⟨F4,rfl,HA,HK3,C0,D5,D6,G7,HB⟩:=hrel
          cases gk with
          | zero=>exact absurd HA.out (by simp [Y25.l2])
          | succ k3 =>
           have H:=HA.out
           clear HA
           simp only [Y25.l2] at H
           have CF5:=aM H
           clear H
           go_upto_region 10 with (fail)
           repeat (go_quiet (fail);go_upto_region 10 with (fail))
           go_cut [69] (fun v69 wc=>∃ (kq:Nat) (Aq3:Bool),v69 = .bool Aq3∧Aside0 (Y25.j3 kq a0 a1 D9 K4 F4 Aq3 a0 C1 t131 D9=some (r1,r2))∧Aside0 (kq≤k3)∧Aside0 (Kd.R k78 78 wc w.heap.size (fun k_=>k_≠G4) X5 C1)∧Aside0 (wc.heap[Z7]? = some (.cells #[.int .i64 0,(.slice none 0 0)] 27 (0,0)))∧Aside0 (wc.heap[Z8]? = some (.cells #[.int .i64 a0,X5] 27 (0,0)))∧Aside0 (wc.heap[G4]? = some (.cells #[.int .i64 t131,.int .i64 D9] 78 (0,0)))∧Aside0 (Below w.heap.size w wc))
           case first =>
            have H:=CF5.out
            clear CF5
            by_cases c21:F4<(C1.length:Int)
            ·rw [if_pos c21] at H
             have c21b0:decide (F4<(C1.length:Int))=true:=dE c21
             clear c21
             (first | rw [c21b0] | (simp only [i64_w,i32_w];rw [c21b0]) | skip)
             by_cases c22:0≤F4
             ·rw [if_pos c22] at H
              have c22b0:decide (0≤F4)=true:=dE c22
              clear c22
              by_cases c23:((rd_T78 C1 F4).f0)<t131
              ·rw [if_pos c23] at H
               have c23b0:decide (((rd_T78 C1 F4).f0)<t131)=true:=dE c23
               clear c23
               have H':=aM H
               clear H
               have hnb24:=P8.out
               have hnc24:=M8.out
               have hnb25:=P9.out
               have hnc25:=R2.out
               have ⟨Af2,Af3,Aq4,Af4⟩:=cz2_ D6.out
               obtain ⟨Bo3,BX6,Ah2⟩:=Kd.R_slice C0.out
               subst Ah2
               have Ab9:0≤(F4:Int):=dT (z1_)
               have Ac0:F4<(C1.length:Int):=dT (z1_)
               obtain ⟨Av8,BX7,Aq5,Aq6⟩:=at_T78 (Kd.R_reads' C0.out).2.2 F4 Ab9 Ac0
               cases BX7
               replace Ab9:=eq_true Ab9
               replace Ac0:=eq_true Ac0
               have hnb28:=S7.out
               have hnc28:=R1.out
               have ⟨Bo4,Bo5,Bo6,Bo7⟩:=cz2_ G7.out
               go_wp2
               repeat (go_quiet (fail);try go_wp2)
               go_meet
               case rel=>exact ⟨_,(true),(z2_),H',⟨z33_ HK1.out HK2.out HK3.out⟩,⟨z0_ C0.out⟩,⟨z3_ D5.out⟩,⟨z3_ D6.out⟩,⟨z3_ G7.out⟩,⟨z10_ HB.out H4.out I9.out O7.out⟩⟩
              ·rw [if_neg c23] at H
               have c23b0:decide (((rd_T78 C1 F4).f0)<t131)=false:=dF c23
               clear c23
               by_cases c30:((rd_T78 C1 F4).f0)=t131
               ·rw [if_pos c30] at H
                have c30b0:(((rd_T78 C1 F4).f0) == t131)=true:=beq_iff_eq.mpr c30
                have c30b1:(((rd_T78 C1 F4).f0) != t131)=false:=bne_eq_false_iff_eq.mpr c30
                clear c30
                have H':=aM H
                clear H
                have hnb31:=P8.out
                have hnc31:=M8.out
                have hnb32:=P9.out
                have hnc32:=R2.out
                have ⟨Bo8,Bo9,Bp0,Bp1⟩:=cz2_ D6.out
                obtain ⟨Ao34,co34,Cz2⟩:=Kd.R_slice C0.out
                subst Cz2
                have Ab9:0≤(F4:Int):=dT (z1_)
                have Ac0:F4<(C1.length:Int):=dT (z1_)
                obtain ⟨Av8,BX7,Aq5,Aq6⟩:=at_T78 (Kd.R_reads' C0.out).2.2 F4 Ab9 Ac0
                cases BX7
                replace Ab9:=eq_true Ab9
                replace Ac0:=eq_true Ac0
                have hnb35:=S7.out
                have hnc35:=R1.out
                have ⟨BI6,BI7,BI8,BI9⟩:=cz2_ G7.out
                have Av9:0≤(F4:Int):=dT (z1_)
                have Aw0:F4<(C1.length:Int):=dT (z1_)
                obtain ⟨BX8,CF6,BJ0,BJ1⟩:=at_T78 (Kd.R_reads' C0.out).2.2 F4 Av9 Aw0
                obtain rfl:Av8=BX8:=(by injection CF6)
                replace Av9:=eq_true Av9
                replace Aw0:=eq_true Aw0
                have Bp2:0≤(F4:Int):=dT (z1_)
                have Bp3:F4<(C1.length:Int):=dT (z1_)
                obtain ⟨CW4,Cz3,Bp4,Bp5⟩:=at_T78 (Kd.R_reads' C0.out).2.2 F4 Bp2 Bp3
                obtain rfl:Av8=CW4:=(by injection Cz3)
                replace Bp2:=eq_true Bp2
                replace Bp3:=eq_true Bp3
                go_wp2
                repeat (go_quiet (fail);try go_wp2)
                go_meet
                case rel=>exact ⟨_,(decide (((rd_T78 C1 F4).f1)<D9)),(z2_),H',⟨z33_ HK1.out HK2.out HK3.out⟩,⟨z0_ C0.out⟩,⟨z3_ D5.out⟩,⟨z3_ D6.out⟩,⟨z3_ G7.out⟩,⟨z10_ HB.out H4.out I9.out O7.out⟩⟩
               ·rw [if_neg c30] at H
                have c30b0:(((rd_T78 C1 F4).f0) == t131)=false:=beq_eq_false_iff_ne.mpr c30
                have c30b1:(((rd_T78 C1 F4).f0) != t131)=true:=bne_iff_ne.mpr c30
                have H':=aM H
                clear H
                have hnb37:=P8.out
                have hnc37:=M8.out
                have CW5:=P9.out
                have CW6:=R2.out
                have ⟨BJ2,Bp6,BJ3,Bp7⟩:=cz2_ D6.out
                obtain ⟨Cz4,Cz5,CF7⟩:=Kd.R_slice C0.out
                subst CF7
                have Ab9:0≤(F4:Int):=dT (z1_)
                have Ac0:F4<(C1.length:Int):=dT (z1_)
                obtain ⟨Av8,BX7,Aq5,Aq6⟩:=at_T78 (Kd.R_reads' C0.out).2.2 F4 Ab9 Ac0
                cases BX7
                replace Ab9:=eq_true Ab9
                replace Ac0:=eq_true Ac0
                have CW7:=S7.out
                have CW8:=R1.out
                have ⟨Ap8,Ap9,BJ4,Aq0⟩:=cz2_ G7.out
                have Av9:0≤(F4:Int):=dT (z1_)
                have Aw0:F4<(C1.length:Int):=dT (z1_)
                obtain ⟨BX8,CF6,BJ0,BJ1⟩:=at_T78 (Kd.R_reads' C0.out).2.2 F4 Av9 Aw0
                obtain rfl:Av8=BX8:=(by injection CF6)
                replace Av9:=eq_true Av9
                replace Aw0:=eq_true Aw0
                go_wp2
                repeat (go_quiet (fail);try go_wp2)
                go_meet
                case rel=>exact ⟨_,(false),(z2_),H',⟨z33_ HK1.out HK2.out HK3.out⟩,⟨z0_ C0.out⟩,⟨z3_ D5.out⟩,⟨z3_ D6.out⟩,⟨z3_ G7.out⟩,⟨z10_ HB.out H4.out I9.out O7.out⟩⟩
             ·rw [if_neg c22] at H
              exact nO H
            ·rw [if_neg c21] at H
             have c21b0:decide (F4<(C1.length:Int))=false:=dF c21
             clear c21
             (first | rw [c21b0] | (simp only [i64_w,i32_w];rw [c21b0]) | skip)
             have H':=aM H
             clear H
             have hnb43:=P8.out
             have hnc43:=M8.out
             have CW9:=P9.out
             have CX0:=R2.out
             have ⟨BJ5,BJ6,BJ7,BJ8⟩:=cz2_ D6.out
             obtain ⟨Ao46,co46,Cz6⟩:=Kd.R_slice C0.out
             subst Cz6
             go_wp2
             repeat (go_quiet (fail);try go_wp2)
             go_meet
             case rel=>exact ⟨_,(false),(z2_),H',⟨z33_ HK1.out HK2.out HK3.out⟩,⟨z0_ C0.out⟩,⟨z3_ D5.out⟩,⟨z3_ D6.out⟩,⟨z3_ G7.out⟩,⟨z10_ HB.out H4.out I9.out O7.out⟩⟩
           case rest =>
            clear CF5
            try clear c1
            try clear p1
            try clear q1
            try clear hx1
            try clear c2
            try clear p2
            try clear c3
            try clear c4
            try clear c5
            try clear c7
            try clear c7b0
            try clear c8
            try clear c8b0
            try clear c10
            try clear c10b0
            try clear c10b1
            try clear c10b2
            try clear c12
            try clear c12b0
            try clear c12b1
            try clear c12b2
            try clear p13
            try clear q13
            try clear hx13
            try clear c17
            try clear c18
            try clear c21
            try clear c21b0
            try clear c22
            try clear c22b0
            try clear c23
            try clear c23b0
            try clear c24
            try clear c25
            try clear c28
            try clear c30
            try clear c30b0
            try clear c30b1
            try clear c31
            try clear c32
            try clear c35
            try clear c37
            try clear c38
            try clear c41
            try clear c43
            try clear c44
            try clear c46
            try clear AT7
            try clear AT8
            try clear Af2
            try clear Af3
            try clear Bo4
            try clear Bo5
            try clear Bo8
            try clear Bo9
            try clear BI6
            try clear BI7
            try clear BJ2
            try clear Bp6
            try clear Ap8
            try clear Ap9
            try clear BJ5
            try clear BJ6
            try clear AD8
            try clear AG8
            try clear AT9
            try clear AU0
            try clear Aq4
            try clear Af4
            try clear Bo6
            try clear Bo7
            try clear Bp0
            try clear Bp1
            try clear BI8
            try clear BI9
            try clear BJ3
            try clear Bp7
            try clear BJ4
            try clear Aq0
            try clear BJ7
            try clear BJ8
            try clear AD9
            try clear AG9
            try clear Aq5
            try clear Aq6
            try clear BJ0
            try clear BJ1
            try clear Bp4
            try clear Bp5
            try clear Ab9
            try clear Av9
            try clear Bp2
            try clear p2
            try clear Ac0
            try clear Aw0
            try clear Bp3
            obtain ⟨kq,Aq3,rfl,HA,Bp8,C0,D5,D6,G7,HB⟩:=hcut
            cases kq with
            | zero=>exact absurd HA.out (by simp [Y25.j3])
            | succ Am4 =>
             have H:=HA.out
             clear HA
             simp only [Y25.j3] at H
             by_cases c47:Aq3=true
             ·subst c47
              have H1:(Y25.l2 Am4 a0 a1 D9 K4 (wrap64 (F4+1)) a0 C1 t131 D9)=some (r1,r2):=by rw [if_pos rfl] at H;exact H
              clear H
              have H:=H1
              clear H1
              have H':=aM H
              clear H
              go_wp2
              repeat (go_quiet (fail);try go_wp2)
              go_roundg Am4
              case measure=>have:=HK1.out;have:=HK2.out;have:=HK3.out;have:=Bp8.out;omega
              case rel=>exact ⟨(wrap64 (F4+1)),(z2_),H',⟨by have:=HK1.out;have:=HK2.out;have:=HK3.out;have:=Bp8.out;omega⟩,⟨z0_ C0.out⟩,⟨z3_ D5.out⟩,⟨z3_ D6.out⟩,⟨z3_ G7.out⟩,⟨z10_ HB.out H4.out I9.out O7.out⟩⟩
             ·replace c47:=Bool.eq_false_iff.mpr c47
              subst c47
              have H1:((some (([]:List (S78)):List (S78))).bind fun AQ4=>(if 0≤F4 then (if F4≤(C1.length:Int) then ((some (C1.take (F4:Int).toNat:List (S78))).bind fun U1=>(if AQ4.length+U1.length<8796093022208 then ((some (AQ4 ++ U1:List (S78))).bind fun AG7=>(if AG7.length<8796093022208 then ((some (AG7 ++ [(⟨t131,D9⟩:S78)]:List (S78))).bind fun z9=>((some (C1.drop (F4:Int).toNat:List (S78))).bind fun Q8=>(if z9.length+Q8.length<8796093022208 then (Y25.l1 Am4 a0 a1 D9 (wrap64 (K4+1)) a0 (z9 ++ Q8)) else (none)))) else (none))) else (none))) else (none)) else (none)))=some (r1,r2):=by rw [if_neg (show ¬ (false=true) by decide)] at H;exact H
              clear H
              have H:=H1
              clear H1
              obtain ⟨AQ4,Aw1⟩:∃ y_:List (S78),y_=(([]:List (S78))):=⟨_,rfl⟩
              replace H:(if 0≤F4 then (if F4≤(C1.length:Int) then ((some (C1.take (F4:Int).toNat:List (S78))).bind fun U1=>(if AQ4.length+U1.length<8796093022208 then ((some (AQ4 ++ U1:List (S78))).bind fun AG7=>(if AG7.length<8796093022208 then ((some (AG7 ++ [(⟨t131,D9⟩:S78)]:List (S78))).bind fun z9=>((some (C1.drop (F4:Int).toNat:List (S78))).bind fun Q8=>(if z9.length+Q8.length<8796093022208 then (Y25.l1 Am4 a0 a1 D9 (wrap64 (K4+1)) a0 (z9 ++ Q8)) else (none)))) else (none))) else (none))) else (none)) else (none))=some (r1,r2):=by first | (rw [Aw1];with_reducible exact H) | (have H2_:=(Option.bind_some _ _).symm.trans H;rw [Aw1];with_reducible exact H2_) | (have H2_:=(Option.bind_some _ _).symm.trans H;with_reducible exact H2_) | with_reducible exact H | (rw [Aw1];exact H) | exact H
              have An8:=aM Aw1
              clear Aw1
              by_cases c48:0≤F4
              ·rw [if_pos c48] at H
               have c48b0:=eq_true c48
               have c48b1:decide (0≤F4)=true:=dE c48
               clear c48
               by_cases c49:F4≤(C1.length:Int)
               ·rw [if_pos c49] at H
                have c49b0:=eq_true c49
                have c49b1:decide (F4≤(C1.length:Int))=true:=dE c49
                clear c49
                obtain ⟨U1,Aw2⟩:∃ y_:List (S78),y_=(C1.take (F4:Int).toNat):=⟨_,rfl⟩
                replace H:(if AQ4.length+U1.length<8796093022208 then ((some (AQ4 ++ U1:List (S78))).bind fun AG7=>(if AG7.length<8796093022208 then ((some (AG7 ++ [(⟨t131,D9⟩:S78)]:List (S78))).bind fun z9=>((some (C1.drop (F4:Int).toNat:List (S78))).bind fun Q8=>(if z9.length+Q8.length<8796093022208 then (Y25.l1 Am4 a0 a1 D9 (wrap64 (K4+1)) a0 (z9 ++ Q8)) else (none)))) else (none))) else (none))=some (r1,r2):=by first | (rw [Aw2];with_reducible exact H) | (have H2_:=(Option.bind_some _ _).symm.trans H;rw [Aw2];with_reducible exact H2_) | (have H2_:=(Option.bind_some _ _).symm.trans H;with_reducible exact H2_) | with_reducible exact H | (rw [Aw2];exact H) | exact H
                have AA3:=aM Aw2
                clear Aw2
                by_cases c50:AQ4.length+U1.length<8796093022208
                ·rw [if_pos c50] at H
                 have BX9:=aM c50
                 clear c50
                 obtain ⟨AG7,Aw3⟩:∃ y_:List (S78),y_=(AQ4 ++ U1):=⟨_,rfl⟩
                 replace H:(if AG7.length<8796093022208 then ((some (AG7 ++ [(⟨t131,D9⟩:S78)]:List (S78))).bind fun z9=>((some (C1.drop (F4:Int).toNat:List (S78))).bind fun Q8=>(if z9.length+Q8.length<8796093022208 then (Y25.l1 Am4 a0 a1 D9 (wrap64 (K4+1)) a0 (z9 ++ Q8)) else (none)))) else (none))=some (r1,r2):=by first | (rw [Aw3];with_reducible exact H) | (have H2_:=(Option.bind_some _ _).symm.trans H;rw [Aw3];with_reducible exact H2_) | (have H2_:=(Option.bind_some _ _).symm.trans H;with_reducible exact H2_) | with_reducible exact H | (rw [Aw3];exact H) | exact H
                 have BY0:=aM Aw3
                 clear Aw3
                 by_cases c51:AG7.length<8796093022208
                 ·rw [if_pos c51] at H
                  have BY1:=aM c51
                  clear c51
                  obtain ⟨z9,Aw4⟩:∃ y_:List (S78),y_=(AG7 ++ [(⟨t131,D9⟩:S78)]):=⟨_,rfl⟩
                  replace H:((some (C1.drop (F4:Int).toNat:List (S78))).bind fun Q8=>(if z9.length+Q8.length<8796093022208 then (Y25.l1 Am4 a0 a1 D9 (wrap64 (K4+1)) a0 (z9 ++ Q8)) else (none)))=some (r1,r2):=by first | (rw [Aw4];with_reducible exact H) | (have H2_:=(Option.bind_some _ _).symm.trans H;rw [Aw4];with_reducible exact H2_) | (have H2_:=(Option.bind_some _ _).symm.trans H;with_reducible exact H2_) | with_reducible exact H | (rw [Aw4];exact H) | exact H
                  have BY2:=aM Aw4
                  clear Aw4
                  have c52b0:=eq_true (dT (z1_):0≤F4)
                  have c53b0:=eq_true (dT (z1_):F4≤(C1.length:Int))
                  obtain ⟨Q8,Aw5⟩:∃ y_:List (S78),y_=(C1.drop (F4:Int).toNat):=⟨_,rfl⟩
                  replace H:(if z9.length+Q8.length<8796093022208 then (Y25.l1 Am4 a0 a1 D9 (wrap64 (K4+1)) a0 (z9 ++ Q8)) else (none))=some (r1,r2):=by first | (rw [Aw5];with_reducible exact H) | (have H2_:=(Option.bind_some _ _).symm.trans H;rw [Aw5];with_reducible exact H2_) | (have H2_:=(Option.bind_some _ _).symm.trans H;with_reducible exact H2_) | with_reducible exact H | (rw [Aw5];exact H) | exact H
                  have AU1:=aM Aw5
                  clear Aw5
                  by_cases c54:z9.length+Q8.length<8796093022208
                  ·rw [if_pos c54] at H
                   have BY3:=aM c54
                   clear c54
                   obtain ⟨y153,hy153⟩:∃ y_:List (S78),y_=(z9 ++ Q8):=⟨_,rfl⟩
                   replace H:(Y25.l1 Am4 a0 a1 D9 (wrap64 (K4+1)) a0 y153)=some (r1,r2):=by first | (rw [hy153];with_reducible exact H) | (have H2_:=(Option.bind_some _ _).symm.trans H;rw [hy153];with_reducible exact H2_) | (have H2_:=(Option.bind_some _ _).symm.trans H;with_reducible exact H2_) | with_reducible exact H | (rw [hy153];exact H) | exact H
                   have BY4:=aM hy153
                   clear hy153
                   have H':=aM H
                   clear H
                   go_wp2_with (first | ((with_reducible refine gd_ 72 ?_);refine Kd.R_lit k78 _ 78 ?hg (N:=72) ?hd (xs:=([]:List (S78))) (inner:=[]) (ok:=fun _=>True) (okp:=fun _=>True) ?hr ?hp (fun _ hk=>hk) trivial (Below.refl _ _) (Nat.le_refl _) (by simp) ?_;(case hd=>rfl);(case hg=>rfl);(case hr=>first | (go_simp;done) | (go_simp;rfl));(case hp=>exact (Reps.none _ _));intro BY5 w55 AE7 hb hg_ hnew_;clear hg_ hnew_;(first | rw [← An8.out] at AE7 | (simp only [Int.reduceToNat] at AE7;rw [← An8.out] at AE7));have n0_:=aM (Kd.R_elder' (z0_ C0.out) (Kd.R_base AE7) hb);have n1_:=aM (Kd.R_lower (Kd.R_newB (Kd.R_new' AE7 (Kd.R_lt (z0_ C0.out))) (g:=G4) (o:=.cells #[.int .i64 t131,.int .i64 D9] 78 (0,0)) (z3_ G7.out)) (below_size (z10_ HB.out H4.out I9.out O7.out)));have n2_:=aM (blkB_ D5.out hb);have n3_:=aM (blkB_ D6.out hb);have n4_:=aM (blkB_ G7.out hb);have n5_:=aM (below_step (z10_ HB.out H4.out I9.out O7.out) hb);clear C0;clear D5;clear D6;clear G7;clear HB;have C0:=n0_;have t4:=n1_;have D5:=n2_;have D6:=n3_;have G7:=n4_;have HB:=n5_;clear n0_ n1_ n2_ n3_ n4_ n5_;clear hb AE7;have BY6:=P8.out;have BY7:=M8.out;have B56:=P9.out;have B57:=R2.out;have ⟨BJ9,BK0,BK1,BK2⟩:=cz2_ D6.out;obtain ⟨O8,O9,Aw6⟩:=Kd.R_slice C0.out;subst Aw6;have q60:(F4:Int)≤((C1.length:Int):Int):=dT (z1_);obtain ⟨CX1,Aa6,_,Aw7,_⟩:=info_parts info78;have AC0:C1.length≤O9:=(Kd.R_reads' C0.out).2.1;have Aw8:Kd.C k78 _ O8 C1.length C1:=(Kd.R_reads' C0.out).2.2;have Ah3:=cut_to (P:=Tryz.prog) 25 78 .i64 Tryz.underlying25 Aa6 O8 C1.length O9 F4 (dT (z1_)) q60 AC0;have Ah4:=Kd.C_take (m:=(F4:Int).toNat) Aw8 (by omega);have Ah5:U1.length=(F4:Int).toNat:=(z34_ AA3.out);rw [← AA3.out] at Ah4;rw [← Ah5] at Ah3;have X1:=aM Ah4;have B58:=aM (show U1.length≤O9 from by omega);clear Ah4 Aw8 AC0 Aa6 Aw7;have CX2:=aM Ah5;clear Ah5;have Ah6:=aM (show (F4:Int).toNat≤C1.length from by omega);replace q60:=eq_true q60) | ((with_reducible refine gate_builtin (b:=.append) (xs:=#[.tmp 72,.tmp 76]) rfl ?_);at_builtin;refine Kd.R_append_rows k78 (w0:=w) w.heap.size rfl (.tmp 72) (.tmp 76) 25 78 (.agg #[(.int .i64 0),(.int .i64 0)]) 16 rfl Tryz.underlying25 info78 rfl (by decide) (by omega) BY5 AQ4 U1 _ _ _ (fun k_=>some k_≠(.slice O8 C1.length O9:Value).ownBlock∧k_≠G4) (fun _=>False) rfl rfl ?aO ?aR (fun _ _ h=>h) (fun _ h=>h.elim) ?aF ?aB ?aS ?aL ?_;(case aR=>repeat (first | exact (z28_ X1.out) | (with_reducible refine Kd.C_alloc ?_ _) | (with_reducible refine Kd.C_drewN ?_ _) | (with_reducible refine Kd.C_drew ?_)));(case aB=>exact (z10_ HB.out H4.out I9.out O7.out));(case aF=>exact (fun k_ hk=>⟨Kd.fresh' (Kd.R_lt (z0_ C0.out)) k_ hk,Kd.freshB (g:=G4) (o:=.cells #[.int .i64 t131,.int .i64 D9] 78 (0,0)) (z3_ G7.out) k_ hk⟩));(case aO=>exact (z53_ t4.out));(case aS=>exact (below_size (z10_ HB.out H4.out I9.out O7.out)));(case aL=>have:=BX9.out;omega);intro BY8 w62 ho hb hg hat;rw [← BY0.out] at ho;have n0_:=aM (Kd.R_after (ok:=(fun k_=>k_≠G4)) (z0_ C0.out) hg hat);have n1_:=aM (blk_grown (g:=Z7) (o:=.cells #[.int .i64 0,.slice none 0 0] 27 (0,0)) (z3_ D5.out) hg (Kd.R_ne t4.out D5.out (by decide)));have n2_:=aM (blk_grown (g:=Z8) (o:=.cells #[.int .i64 a0,.slice O8 C1.length O9] 27 (0,0)) (z3_ D6.out) hg (Kd.R_ne t4.out D6.out (by decide)));have n3_:=aM (blk_grown (g:=G4) (o:=.cells #[.int .i64 t131,.int .i64 D9] 78 (0,0)) (z3_ G7.out) hg (Kd.R_away t4.out (fun _ hk=>hk.2)));have n4_:=aM (hb);have n5_:=aM ((show Kd.C k78 w62 O8 U1.length U1 from by rw [AA3.out];exact Kd.C_take (m:=(F4:Int).toNat) ((Kd.R_reads' (Kd.R_after (ok:=(fun k_=>k_≠G4)) (z0_ C0.out) hg hat)).2.2) Ah6.out));have n6_:=aM (ho);clear C0;clear D5;clear D6;clear G7;clear HB;clear X1;clear t4;have C0:=n0_;have D5:=n1_;have D6:=n2_;have G7:=n3_;have HB:=n4_;have X1:=n5_;have t5:=n6_;clear n0_ n1_ n2_ n3_ n4_ n5_ n6_;clear ho hb hg hat;have B59:=S7.out;have B60:=R1.out;have ⟨BK3,BK4,BK5,BK6⟩:=cz2_ G7.out) | ((with_reducible refine gate_builtin (b:=.append) (xs:=#[.tmp 78,.tmp 80]) rfl ?_);at_builtin;refine Kd.R_append k78 (w0:=w) w.heap.size rfl (.tmp 78) (.tmp 80) 25 78 (.agg #[(.int .i64 0),(.int .i64 0)]) 16 rfl Tryz.underlying25 info78 rfl (by decide) (by omega) BY8 AG7 (⟨t131,D9⟩:S78) [.int .i64 t131,.int .i64 D9] (fun k_=>some k_≠(.slice O8 C1.length O9:Value).ownBlock∧k_≠G4) (fun _=>False) rfl rfl ?aP (fun _ hk=>hk.elim) ?aF ?aO ?aB ?aS ?aL ?_;(case aP=>exact k78_mkM _ _ _ (⟨t131,D9⟩:S78));(case aB=>exact (z10_ HB.out H4.out I9.out O7.out));(case aF=>exact (fun k_ hk=>⟨Kd.fresh' (Kd.R_lt (z0_ C0.out)) k_ hk,Kd.freshB (g:=G4) (o:=.cells #[.int .i64 t131,.int .i64 D9] 78 (0,0)) (z3_ G7.out) k_ hk⟩));(case aO=>exact (z0_ t5.out));(case aS=>exact (below_size (z10_ HB.out H4.out I9.out O7.out)));(case aL=>have:=BY1.out;omega);intro BY9 w65 ho hb hg hat;rw [← BY2.out] at ho;have n0_:=aM (Kd.R_after (ok:=(fun k_=>k_≠G4)) (z0_ C0.out) hg hat);have n1_:=aM (blk_grown (g:=Z7) (o:=.cells #[.int .i64 0,.slice none 0 0] 27 (0,0)) (z3_ D5.out) hg (Kd.R_ne t5.out D5.out (by decide)));have n2_:=aM (blk_grown (g:=Z8) (o:=.cells #[.int .i64 a0,.slice O8 C1.length O9] 27 (0,0)) (z3_ D6.out) hg (Kd.R_ne t5.out D6.out (by decide)));have n3_:=aM (blk_grown (g:=G4) (o:=.cells #[.int .i64 t131,.int .i64 D9] 78 (0,0)) (z3_ G7.out) hg (Kd.R_away t5.out (fun _ hk=>hk.2)));have n4_:=aM (hb);have n5_:=aM ((show Kd.C k78 w65 O8 U1.length U1 from by rw [AA3.out];exact Kd.C_take (m:=(F4:Int).toNat) ((Kd.R_reads' (Kd.R_after (ok:=(fun k_=>k_≠G4)) (z0_ C0.out) hg hat)).2.2) Ah6.out));have n6_:=aM (ho);clear C0;clear D5;clear D6;clear G7;clear HB;clear X1;clear t5;have C0:=n0_;have D5:=n1_;have D6:=n2_;have G7:=n3_;have HB:=n4_;have X1:=n5_;have t6:=n6_;clear n0_ n1_ n2_ n3_ n4_ n5_ n6_;clear ho hb hg hat;have ⟨BK7,BK8,BK9,BL0⟩:=cz2_ D6.out;have q67:(F4:Int)≤((C1.length:Int):Int):=dT (z1_);obtain ⟨CX3,Aa7,_,Aa8,_⟩:=info_parts info78;have f8:C1.length≤O9:=(Kd.R_reads' C0.out).2.1;have Aw9:Kd.C k78 _ O8 C1.length C1:=(Kd.R_reads' C0.out).2.2;have BZ0:(0:Int)≤(F4:Int):=dT (z1_);have Ah7:=cut_from (P:=Tryz.prog) 25 78 .i64 Tryz.underlying25 Aa7 2 Aa8 O8 C1.length O9 F4 BZ0 q67;have AK8:=Kd.C_drop (m:=(F4:Int).toNat) (c:=O9) Aw9 (by omega) f8;obtain ⟨A67,AU2⟩:∃ A1,A1=(if O9=(F4:Int).toNat then O8 else (O8:Option Addr).map (·.add ((F4:Int).toNat*2))):=⟨_,rfl⟩;obtain ⟨c67,Ah8⟩:∃ c1,c1=O9-(F4:Int).toNat:=⟨_,rfl⟩;have AU3:Q8.length=C1.length-(F4:Int).toNat:=(by rw [AU1.out,List.length_drop] <;> omega);rw [show (C1).drop (F4:Int).toNat=Q8 from AU1.out.symm] at AK8;replace AK8:Kd.C k78 _ A67 Q8.length Q8:=(by rw [AU2];exact AK8);rw [← AU3,← AU2,← Ah8] at Ah7;have AK9:=aM AK8;have B61:=aM (show Q8.length≤c67 from by rw [AU3,Ah8];exact Nat.sub_le_sub_right f8 _);clear AK8 Aw9 f8 Aa7 Aa8 Ah8;have CX4:=aM AU3;have BZ1:=aM AU2;clear AU3 AU2;have BZ2:=aM (show (F4:Int).toNat≤C1.length from by omega);replace q67:=eq_true q67) | ((with_reducible refine gate_builtin (b:=.append) (xs:=#[.tmp 82,.tmp 86]) rfl ?_);at_builtin;refine Kd.R_append_rows k78 (w0:=w) w.heap.size rfl (.tmp 82) (.tmp 86) 25 78 (.agg #[(.int .i64 0),(.int .i64 0)]) 16 rfl Tryz.underlying25 info78 rfl (by decide) (by omega) BY9 z9 Q8 _ _ _ (fun k_=>some k_≠(.slice O8 C1.length O9:Value).ownBlock∧k_≠G4) (fun _=>False) rfl rfl ?aO ?aR (fun _ _ h=>h) (fun _ h=>h.elim) ?aF ?aB ?aS ?aL ?_;(case aR=>repeat (first | exact (z28_ AK9.out) | (with_reducible refine Kd.C_alloc ?_ _) | (with_reducible refine Kd.C_drewN ?_ _) | (with_reducible refine Kd.C_drew ?_)));(case aB=>exact (z10_ HB.out H4.out I9.out O7.out));(case aF=>exact (fun k_ hk=>⟨Kd.fresh' (Kd.R_lt (z0_ C0.out)) k_ hk,Kd.freshB (g:=G4) (o:=.cells #[.int .i64 t131,.int .i64 D9] 78 (0,0)) (z3_ G7.out) k_ hk⟩));(case aO=>exact (z0_ t6.out));(case aS=>exact (below_size (z10_ HB.out H4.out I9.out O7.out)));(case aL=>have:=BY3.out;omega);intro v154 w68 ho hb hg hat;rw [← BY4.out] at ho;have n0_:=aM (Kd.R_after (ok:=(fun k_=>k_≠G4)) (z0_ C0.out) hg hat);have n1_:=aM (blk_grown (g:=Z7) (o:=.cells #[.int .i64 0,.slice none 0 0] 27 (0,0)) (z3_ D5.out) hg (Kd.R_ne t6.out D5.out (by decide)));have n2_:=aM (blk_grown (g:=Z8) (o:=.cells #[.int .i64 a0,.slice O8 C1.length O9] 27 (0,0)) (z3_ D6.out) hg (Kd.R_ne t6.out D6.out (by decide)));have n3_:=aM (blk_grown (g:=G4) (o:=.cells #[.int .i64 t131,.int .i64 D9] 78 (0,0)) (z3_ G7.out) hg (Kd.R_away t6.out (fun _ hk=>hk.2)));have n4_:=aM (hb);have n5_:=aM ((show Kd.C k78 w68 O8 U1.length U1 from by rw [AA3.out];exact Kd.C_take (m:=(F4:Int).toNat) ((Kd.R_reads' (Kd.R_after (ok:=(fun k_=>k_≠G4)) (z0_ C0.out) hg hat)).2.2) Ah6.out));have n6_:=aM ((show Kd.C k78 w68 A67 Q8.length Q8 from by rw [AU1.out,BZ1.out];exact Kd.C_drop (m:=(F4:Int).toNat) (c:=O9) ((Kd.R_reads' (Kd.R_after (ok:=(fun k_=>k_≠G4)) (z0_ C0.out) hg hat)).2.2) BZ2.out ((Kd.R_reads' (Kd.R_after (ok:=(fun k_=>k_≠G4)) (z0_ C0.out) hg hat)).2.1)));have n7_:=aM (ho);clear C0;clear D5;clear D6;clear G7;clear HB;clear X1;clear AK9;clear t6;have C0:=n0_;have D5:=n1_;have D6:=n2_;have G7:=n3_;have HB:=n4_;have X1:=n5_;have AK9:=n6_;have An9:=n7_;clear n0_ n1_ n2_ n3_ n4_ n5_ n6_ n7_;clear ho hb hg hat;obtain ⟨Bp9,Bq0,BZ3⟩:=Kd.R_slice An9.out;subst BZ3;have ⟨BL1,BL2,BL3,BL4⟩:=cz2_ D6.out))
                   repeat (go_quiet (first | ((with_reducible refine gd_ 72 ?_);refine Kd.R_lit k78 _ 78 ?hg (N:=72) ?hd (xs:=([]:List (S78))) (inner:=[]) (ok:=fun _=>True) (okp:=fun _=>True) ?hr ?hp (fun _ hk=>hk) trivial (Below.refl _ _) (Nat.le_refl _) (by simp) ?_;(case hd=>rfl);(case hg=>rfl);(case hr=>first | (go_simp;done) | (go_simp;rfl));(case hp=>exact (Reps.none _ _));intro BY5 w55 AE7 hb hg_ hnew_;clear hg_ hnew_;(first | rw [← An8.out] at AE7 | (simp only [Int.reduceToNat] at AE7;rw [← An8.out] at AE7));have n0_:=aM (Kd.R_elder' (z0_ C0.out) (Kd.R_base AE7) hb);have n1_:=aM (Kd.R_lower (Kd.R_newB (Kd.R_new' AE7 (Kd.R_lt (z0_ C0.out))) (g:=G4) (o:=.cells #[.int .i64 t131,.int .i64 D9] 78 (0,0)) (z3_ G7.out)) (below_size (z10_ HB.out H4.out I9.out O7.out)));have n2_:=aM (blkB_ D5.out hb);have n3_:=aM (blkB_ D6.out hb);have n4_:=aM (blkB_ G7.out hb);have n5_:=aM (below_step (z10_ HB.out H4.out I9.out O7.out) hb);clear C0;clear D5;clear D6;clear G7;clear HB;have C0:=n0_;have t4:=n1_;have D5:=n2_;have D6:=n3_;have G7:=n4_;have HB:=n5_;clear n0_ n1_ n2_ n3_ n4_ n5_;clear hb AE7;have BY6:=P8.out;have BY7:=M8.out;have B56:=P9.out;have B57:=R2.out;have ⟨BJ9,BK0,BK1,BK2⟩:=cz2_ D6.out;obtain ⟨O8,O9,Aw6⟩:=Kd.R_slice C0.out;subst Aw6;have q60:(F4:Int)≤((C1.length:Int):Int):=dT (z1_);obtain ⟨CX1,Aa6,_,Aw7,_⟩:=info_parts info78;have AC0:C1.length≤O9:=(Kd.R_reads' C0.out).2.1;have Aw8:Kd.C k78 _ O8 C1.length C1:=(Kd.R_reads' C0.out).2.2;have Ah3:=cut_to (P:=Tryz.prog) 25 78 .i64 Tryz.underlying25 Aa6 O8 C1.length O9 F4 (dT (z1_)) q60 AC0;have Ah4:=Kd.C_take (m:=(F4:Int).toNat) Aw8 (by omega);have Ah5:U1.length=(F4:Int).toNat:=(z34_ AA3.out);rw [← AA3.out] at Ah4;rw [← Ah5] at Ah3;have X1:=aM Ah4;have B58:=aM (show U1.length≤O9 from by omega);clear Ah4 Aw8 AC0 Aa6 Aw7;have CX2:=aM Ah5;clear Ah5;have Ah6:=aM (show (F4:Int).toNat≤C1.length from by omega);replace q60:=eq_true q60) | ((with_reducible refine gate_builtin (b:=.append) (xs:=#[.tmp 72,.tmp 76]) rfl ?_);at_builtin;refine Kd.R_append_rows k78 (w0:=w) w.heap.size rfl (.tmp 72) (.tmp 76) 25 78 (.agg #[(.int .i64 0),(.int .i64 0)]) 16 rfl Tryz.underlying25 info78 rfl (by decide) (by omega) BY5 AQ4 U1 _ _ _ (fun k_=>some k_≠(.slice O8 C1.length O9:Value).ownBlock∧k_≠G4) (fun _=>False) rfl rfl ?aO ?aR (fun _ _ h=>h) (fun _ h=>h.elim) ?aF ?aB ?aS ?aL ?_;(case aR=>repeat (first | exact (z28_ X1.out) | (with_reducible refine Kd.C_alloc ?_ _) | (with_reducible refine Kd.C_drewN ?_ _) | (with_reducible refine Kd.C_drew ?_)));(case aB=>exact (z10_ HB.out H4.out I9.out O7.out));(case aF=>exact (fun k_ hk=>⟨Kd.fresh' (Kd.R_lt (z0_ C0.out)) k_ hk,Kd.freshB (g:=G4) (o:=.cells #[.int .i64 t131,.int .i64 D9] 78 (0,0)) (z3_ G7.out) k_ hk⟩));(case aO=>exact (z53_ t4.out));(case aS=>exact (below_size (z10_ HB.out H4.out I9.out O7.out)));(case aL=>have:=BX9.out;omega);intro BY8 w62 ho hb hg hat;rw [← BY0.out] at ho;have n0_:=aM (Kd.R_after (ok:=(fun k_=>k_≠G4)) (z0_ C0.out) hg hat);have n1_:=aM (blk_grown (g:=Z7) (o:=.cells #[.int .i64 0,.slice none 0 0] 27 (0,0)) (z3_ D5.out) hg (Kd.R_ne t4.out D5.out (by decide)));have n2_:=aM (blk_grown (g:=Z8) (o:=.cells #[.int .i64 a0,.slice O8 C1.length O9] 27 (0,0)) (z3_ D6.out) hg (Kd.R_ne t4.out D6.out (by decide)));have n3_:=aM (blk_grown (g:=G4) (o:=.cells #[.int .i64 t131,.int .i64 D9] 78 (0,0)) (z3_ G7.out) hg (Kd.R_away t4.out (fun _ hk=>hk.2)));have n4_:=aM (hb);have n5_:=aM ((show Kd.C k78 w62 O8 U1.length U1 from by rw [AA3.out];exact Kd.C_take (m:=(F4:Int).toNat) ((Kd.R_reads' (Kd.R_after (ok:=(fun k_=>k_≠G4)) (z0_ C0.out) hg hat)).2.2) Ah6.out));have n6_:=aM (ho);clear C0;clear D5;clear D6;clear G7;clear HB;clear X1;clear t4;have C0:=n0_;have D5:=n1_;have D6:=n2_;have G7:=n3_;have HB:=n4_;have X1:=n5_;have t5:=n6_;clear n0_ n1_ n2_ n3_ n4_ n5_ n6_;clear ho hb hg hat;have B59:=S7.out;have B60:=R1.out;have ⟨BK3,BK4,BK5,BK6⟩:=cz2_ G7.out) | ((with_reducible refine gate_builtin (b:=.append) (xs:=#[.tmp 78,.tmp 80]) rfl ?_);at_builtin;refine Kd.R_append k78 (w0:=w) w.heap.size rfl (.tmp 78) (.tmp 80) 25 78 (.agg #[(.int .i64 0),(.int .i64 0)]) 16 rfl Tryz.underlying25 info78 rfl (by decide) (by omega) BY8 AG7 (⟨t131,D9⟩:S78) [.int .i64 t131,.int .i64 D9] (fun k_=>some k_≠(.slice O8 C1.length O9:Value).ownBlock∧k_≠G4) (fun _=>False) rfl rfl ?aP (fun _ hk=>hk.elim) ?aF ?aO ?aB ?aS ?aL ?_;(case aP=>exact k78_mkM _ _ _ (⟨t131,D9⟩:S78));(case aB=>exact (z10_ HB.out H4.out I9.out O7.out));(case aF=>exact (fun k_ hk=>⟨Kd.fresh' (Kd.R_lt (z0_ C0.out)) k_ hk,Kd.freshB (g:=G4) (o:=.cells #[.int .i64 t131,.int .i64 D9] 78 (0,0)) (z3_ G7.out) k_ hk⟩));(case aO=>exact (z0_ t5.out));(case aS=>exact (below_size (z10_ HB.out H4.out I9.out O7.out)));(case aL=>have:=BY1.out;omega);intro BY9 w65 ho hb hg hat;rw [← BY2.out] at ho;have n0_:=aM (Kd.R_after (ok:=(fun k_=>k_≠G4)) (z0_ C0.out) hg hat);have n1_:=aM (blk_grown (g:=Z7) (o:=.cells #[.int .i64 0,.slice none 0 0] 27 (0,0)) (z3_ D5.out) hg (Kd.R_ne t5.out D5.out (by decide)));have n2_:=aM (blk_grown (g:=Z8) (o:=.cells #[.int .i64 a0,.slice O8 C1.length O9] 27 (0,0)) (z3_ D6.out) hg (Kd.R_ne t5.out D6.out (by decide)));have n3_:=aM (blk_grown (g:=G4) (o:=.cells #[.int .i64 t131,.int .i64 D9] 78 (0,0)) (z3_ G7.out) hg (Kd.R_away t5.out (fun _ hk=>hk.2)));have n4_:=aM (hb);have n5_:=aM ((show Kd.C k78 w65 O8 U1.length U1 from by rw [AA3.out];exact Kd.C_take (m:=(F4:Int).toNat) ((Kd.R_reads' (Kd.R_after (ok:=(fun k_=>k_≠G4)) (z0_ C0.out) hg hat)).2.2) Ah6.out));have n6_:=aM (ho);clear C0;clear D5;clear D6;clear G7;clear HB;clear X1;clear t5;have C0:=n0_;have D5:=n1_;have D6:=n2_;have G7:=n3_;have HB:=n4_;have X1:=n5_;have t6:=n6_;clear n0_ n1_ n2_ n3_ n4_ n5_ n6_;clear ho hb hg hat;have ⟨BK7,BK8,BK9,BL0⟩:=cz2_ D6.out;have q67:(F4:Int)≤((C1.length:Int):Int):=dT (z1_);obtain ⟨CX3,Aa7,_,Aa8,_⟩:=info_parts info78;have f8:C1.length≤O9:=(Kd.R_reads' C0.out).2.1;have Aw9:Kd.C k78 _ O8 C1.length C1:=(Kd.R_reads' C0.out).2.2;have BZ0:(0:Int)≤(F4:Int):=dT (z1_);have Ah7:=cut_from (P:=Tryz.prog) 25 78 .i64 Tryz.underlying25 Aa7 2 Aa8 O8 C1.length O9 F4 BZ0 q67;have AK8:=Kd.C_drop (m:=(F4:Int).toNat) (c:=O9) Aw9 (by omega) f8;obtain ⟨A67,AU2⟩:∃ A1,A1=(if O9=(F4:Int).toNat then O8 else (O8:Option Addr).map (·.add ((F4:Int).toNat*2))):=⟨_,rfl⟩;obtain ⟨c67,Ah8⟩:∃ c1,c1=O9-(F4:Int).toNat:=⟨_,rfl⟩;have AU3:Q8.length=C1.length-(F4:Int).toNat:=(by rw [AU1.out,List.length_drop] <;> omega);rw [show (C1).drop (F4:Int).toNat=Q8 from AU1.out.symm] at AK8;replace AK8:Kd.C k78 _ A67 Q8.length Q8:=(by rw [AU2];exact AK8);rw [← AU3,← AU2,← Ah8] at Ah7;have AK9:=aM AK8;have B61:=aM (show Q8.length≤c67 from by rw [AU3,Ah8];exact Nat.sub_le_sub_right f8 _);clear AK8 Aw9 f8 Aa7 Aa8 Ah8;have CX4:=aM AU3;have BZ1:=aM AU2;clear AU3 AU2;have BZ2:=aM (show (F4:Int).toNat≤C1.length from by omega);replace q67:=eq_true q67) | ((with_reducible refine gate_builtin (b:=.append) (xs:=#[.tmp 82,.tmp 86]) rfl ?_);at_builtin;refine Kd.R_append_rows k78 (w0:=w) w.heap.size rfl (.tmp 82) (.tmp 86) 25 78 (.agg #[(.int .i64 0),(.int .i64 0)]) 16 rfl Tryz.underlying25 info78 rfl (by decide) (by omega) BY9 z9 Q8 _ _ _ (fun k_=>some k_≠(.slice O8 C1.length O9:Value).ownBlock∧k_≠G4) (fun _=>False) rfl rfl ?aO ?aR (fun _ _ h=>h) (fun _ h=>h.elim) ?aF ?aB ?aS ?aL ?_;(case aR=>repeat (first | exact (z28_ AK9.out) | (with_reducible refine Kd.C_alloc ?_ _) | (with_reducible refine Kd.C_drewN ?_ _) | (with_reducible refine Kd.C_drew ?_)));(case aB=>exact (z10_ HB.out H4.out I9.out O7.out));(case aF=>exact (fun k_ hk=>⟨Kd.fresh' (Kd.R_lt (z0_ C0.out)) k_ hk,Kd.freshB (g:=G4) (o:=.cells #[.int .i64 t131,.int .i64 D9] 78 (0,0)) (z3_ G7.out) k_ hk⟩));(case aO=>exact (z0_ t6.out));(case aS=>exact (below_size (z10_ HB.out H4.out I9.out O7.out)));(case aL=>have:=BY3.out;omega);intro v154 w68 ho hb hg hat;rw [← BY4.out] at ho;have n0_:=aM (Kd.R_after (ok:=(fun k_=>k_≠G4)) (z0_ C0.out) hg hat);have n1_:=aM (blk_grown (g:=Z7) (o:=.cells #[.int .i64 0,.slice none 0 0] 27 (0,0)) (z3_ D5.out) hg (Kd.R_ne t6.out D5.out (by decide)));have n2_:=aM (blk_grown (g:=Z8) (o:=.cells #[.int .i64 a0,.slice O8 C1.length O9] 27 (0,0)) (z3_ D6.out) hg (Kd.R_ne t6.out D6.out (by decide)));have n3_:=aM (blk_grown (g:=G4) (o:=.cells #[.int .i64 t131,.int .i64 D9] 78 (0,0)) (z3_ G7.out) hg (Kd.R_away t6.out (fun _ hk=>hk.2)));have n4_:=aM (hb);have n5_:=aM ((show Kd.C k78 w68 O8 U1.length U1 from by rw [AA3.out];exact Kd.C_take (m:=(F4:Int).toNat) ((Kd.R_reads' (Kd.R_after (ok:=(fun k_=>k_≠G4)) (z0_ C0.out) hg hat)).2.2) Ah6.out));have n6_:=aM ((show Kd.C k78 w68 A67 Q8.length Q8 from by rw [AU1.out,BZ1.out];exact Kd.C_drop (m:=(F4:Int).toNat) (c:=O9) ((Kd.R_reads' (Kd.R_after (ok:=(fun k_=>k_≠G4)) (z0_ C0.out) hg hat)).2.2) BZ2.out ((Kd.R_reads' (Kd.R_after (ok:=(fun k_=>k_≠G4)) (z0_ C0.out) hg hat)).2.1)));have n7_:=aM (ho);clear C0;clear D5;clear D6;clear G7;clear HB;clear X1;clear AK9;clear t6;have C0:=n0_;have D5:=n1_;have D6:=n2_;have G7:=n3_;have HB:=n4_;have X1:=n5_;have AK9:=n6_;have An9:=n7_;clear n0_ n1_ n2_ n3_ n4_ n5_ n6_ n7_;clear ho hb hg hat;obtain ⟨Bp9,Bq0,BZ3⟩:=Kd.R_slice An9.out;subst BZ3;have ⟨BL1,BL2,BL3,BL4⟩:=cz2_ D6.out));try go_wp2_with (first | ((with_reducible refine gd_ 72 ?_);refine Kd.R_lit k78 _ 78 ?hg (N:=72) ?hd (xs:=([]:List (S78))) (inner:=[]) (ok:=fun _=>True) (okp:=fun _=>True) ?hr ?hp (fun _ hk=>hk) trivial (Below.refl _ _) (Nat.le_refl _) (by simp) ?_;(case hd=>rfl);(case hg=>rfl);(case hr=>first | (go_simp;done) | (go_simp;rfl));(case hp=>exact (Reps.none _ _));intro BY5 w55 AE7 hb hg_ hnew_;clear hg_ hnew_;(first | rw [← An8.out] at AE7 | (simp only [Int.reduceToNat] at AE7;rw [← An8.out] at AE7));have n0_:=aM (Kd.R_elder' (z0_ C0.out) (Kd.R_base AE7) hb);have n1_:=aM (Kd.R_lower (Kd.R_newB (Kd.R_new' AE7 (Kd.R_lt (z0_ C0.out))) (g:=G4) (o:=.cells #[.int .i64 t131,.int .i64 D9] 78 (0,0)) (z3_ G7.out)) (below_size (z10_ HB.out H4.out I9.out O7.out)));have n2_:=aM (blkB_ D5.out hb);have n3_:=aM (blkB_ D6.out hb);have n4_:=aM (blkB_ G7.out hb);have n5_:=aM (below_step (z10_ HB.out H4.out I9.out O7.out) hb);clear C0;clear D5;clear D6;clear G7;clear HB;have C0:=n0_;have t4:=n1_;have D5:=n2_;have D6:=n3_;have G7:=n4_;have HB:=n5_;clear n0_ n1_ n2_ n3_ n4_ n5_;clear hb AE7;have BY6:=P8.out;have BY7:=M8.out;have B56:=P9.out;have B57:=R2.out;have ⟨BJ9,BK0,BK1,BK2⟩:=cz2_ D6.out;obtain ⟨O8,O9,Aw6⟩:=Kd.R_slice C0.out;subst Aw6;have q60:(F4:Int)≤((C1.length:Int):Int):=dT (z1_);obtain ⟨CX1,Aa6,_,Aw7,_⟩:=info_parts info78;have AC0:C1.length≤O9:=(Kd.R_reads' C0.out).2.1;have Aw8:Kd.C k78 _ O8 C1.length C1:=(Kd.R_reads' C0.out).2.2;have Ah3:=cut_to (P:=Tryz.prog) 25 78 .i64 Tryz.underlying25 Aa6 O8 C1.length O9 F4 (dT (z1_)) q60 AC0;have Ah4:=Kd.C_take (m:=(F4:Int).toNat) Aw8 (by omega);have Ah5:U1.length=(F4:Int).toNat:=(z34_ AA3.out);rw [← AA3.out] at Ah4;rw [← Ah5] at Ah3;have X1:=aM Ah4;have B58:=aM (show U1.length≤O9 from by omega);clear Ah4 Aw8 AC0 Aa6 Aw7;have CX2:=aM Ah5;clear Ah5;have Ah6:=aM (show (F4:Int).toNat≤C1.length from by omega);replace q60:=eq_true q60) | ((with_reducible refine gate_builtin (b:=.append) (xs:=#[.tmp 72,.tmp 76]) rfl ?_);at_builtin;refine Kd.R_append_rows k78 (w0:=w) w.heap.size rfl (.tmp 72) (.tmp 76) 25 78 (.agg #[(.int .i64 0),(.int .i64 0)]) 16 rfl Tryz.underlying25 info78 rfl (by decide) (by omega) BY5 AQ4 U1 _ _ _ (fun k_=>some k_≠(.slice O8 C1.length O9:Value).ownBlock∧k_≠G4) (fun _=>False) rfl rfl ?aO ?aR (fun _ _ h=>h) (fun _ h=>h.elim) ?aF ?aB ?aS ?aL ?_;(case aR=>repeat (first | exact (z28_ X1.out) | (with_reducible refine Kd.C_alloc ?_ _) | (with_reducible refine Kd.C_drewN ?_ _) | (with_reducible refine Kd.C_drew ?_)));(case aB=>exact (z10_ HB.out H4.out I9.out O7.out));(case aF=>exact (fun k_ hk=>⟨Kd.fresh' (Kd.R_lt (z0_ C0.out)) k_ hk,Kd.freshB (g:=G4) (o:=.cells #[.int .i64 t131,.int .i64 D9] 78 (0,0)) (z3_ G7.out) k_ hk⟩));(case aO=>exact (z53_ t4.out));(case aS=>exact (below_size (z10_ HB.out H4.out I9.out O7.out)));(case aL=>have:=BX9.out;omega);intro BY8 w62 ho hb hg hat;rw [← BY0.out] at ho;have n0_:=aM (Kd.R_after (ok:=(fun k_=>k_≠G4)) (z0_ C0.out) hg hat);have n1_:=aM (blk_grown (g:=Z7) (o:=.cells #[.int .i64 0,.slice none 0 0] 27 (0,0)) (z3_ D5.out) hg (Kd.R_ne t4.out D5.out (by decide)));have n2_:=aM (blk_grown (g:=Z8) (o:=.cells #[.int .i64 a0,.slice O8 C1.length O9] 27 (0,0)) (z3_ D6.out) hg (Kd.R_ne t4.out D6.out (by decide)));have n3_:=aM (blk_grown (g:=G4) (o:=.cells #[.int .i64 t131,.int .i64 D9] 78 (0,0)) (z3_ G7.out) hg (Kd.R_away t4.out (fun _ hk=>hk.2)));have n4_:=aM (hb);have n5_:=aM ((show Kd.C k78 w62 O8 U1.length U1 from by rw [AA3.out];exact Kd.C_take (m:=(F4:Int).toNat) ((Kd.R_reads' (Kd.R_after (ok:=(fun k_=>k_≠G4)) (z0_ C0.out) hg hat)).2.2) Ah6.out));have n6_:=aM (ho);clear C0;clear D5;clear D6;clear G7;clear HB;clear X1;clear t4;have C0:=n0_;have D5:=n1_;have D6:=n2_;have G7:=n3_;have HB:=n4_;have X1:=n5_;have t5:=n6_;clear n0_ n1_ n2_ n3_ n4_ n5_ n6_;clear ho hb hg hat;have B59:=S7.out;have B60:=R1.out;have ⟨BK3,BK4,BK5,BK6⟩:=cz2_ G7.out) | ((with_reducible refine gate_builtin (b:=.append) (xs:=#[.tmp 78,.tmp 80]) rfl ?_);at_builtin;refine Kd.R_append k78 (w0:=w) w.heap.size rfl (.tmp 78) (.tmp 80) 25 78 (.agg #[(.int .i64 0),(.int .i64 0)]) 16 rfl Tryz.underlying25 info78 rfl (by decide) (by omega) BY8 AG7 (⟨t131,D9⟩:S78) [.int .i64 t131,.int .i64 D9] (fun k_=>some k_≠(.slice O8 C1.length O9:Value).ownBlock∧k_≠G4) (fun _=>False) rfl rfl ?aP (fun _ hk=>hk.elim) ?aF ?aO ?aB ?aS ?aL ?_;(case aP=>exact k78_mkM _ _ _ (⟨t131,D9⟩:S78));(case aB=>exact (z10_ HB.out H4.out I9.out O7.out));(case aF=>exact (fun k_ hk=>⟨Kd.fresh' (Kd.R_lt (z0_ C0.out)) k_ hk,Kd.freshB (g:=G4) (o:=.cells #[.int .i64 t131,.int .i64 D9] 78 (0,0)) (z3_ G7.out) k_ hk⟩));(case aO=>exact (z0_ t5.out));(case aS=>exact (below_size (z10_ HB.out H4.out I9.out O7.out)));(case aL=>have:=BY1.out;omega);intro BY9 w65 ho hb hg hat;rw [← BY2.out] at ho;have n0_:=aM (Kd.R_after (ok:=(fun k_=>k_≠G4)) (z0_ C0.out) hg hat);have n1_:=aM (blk_grown (g:=Z7) (o:=.cells #[.int .i64 0,.slice none 0 0] 27 (0,0)) (z3_ D5.out) hg (Kd.R_ne t5.out D5.out (by decide)));have n2_:=aM (blk_grown (g:=Z8) (o:=.cells #[.int .i64 a0,.slice O8 C1.length O9] 27 (0,0)) (z3_ D6.out) hg (Kd.R_ne t5.out D6.out (by decide)));have n3_:=aM (blk_grown (g:=G4) (o:=.cells #[.int .i64 t131,.int .i64 D9] 78 (0,0)) (z3_ G7.out) hg (Kd.R_away t5.out (fun _ hk=>hk.2)));have n4_:=aM (hb);have n5_:=aM ((show Kd.C k78 w65 O8 U1.length U1 from by rw [AA3.out];exact Kd.C_take (m:=(F4:Int).toNat) ((Kd.R_reads' (Kd.R_after (ok:=(fun k_=>k_≠G4)) (z0_ C0.out) hg hat)).2.2) Ah6.out));have n6_:=aM (ho);clear C0;clear D5;clear D6;clear G7;clear HB;clear X1;clear t5;have C0:=n0_;have D5:=n1_;have D6:=n2_;have G7:=n3_;have HB:=n4_;have X1:=n5_;have t6:=n6_;clear n0_ n1_ n2_ n3_ n4_ n5_ n6_;clear ho hb hg hat;have ⟨BK7,BK8,BK9,BL0⟩:=cz2_ D6.out;have q67:(F4:Int)≤((C1.length:Int):Int):=dT (z1_);obtain ⟨CX3,Aa7,_,Aa8,_⟩:=info_parts info78;have f8:C1.length≤O9:=(Kd.R_reads' C0.out).2.1;have Aw9:Kd.C k78 _ O8 C1.length C1:=(Kd.R_reads' C0.out).2.2;have BZ0:(0:Int)≤(F4:Int):=dT (z1_);have Ah7:=cut_from (P:=Tryz.prog) 25 78 .i64 Tryz.underlying25 Aa7 2 Aa8 O8 C1.length O9 F4 BZ0 q67;have AK8:=Kd.C_drop (m:=(F4:Int).toNat) (c:=O9) Aw9 (by omega) f8;obtain ⟨A67,AU2⟩:∃ A1,A1=(if O9=(F4:Int).toNat then O8 else (O8:Option Addr).map (·.add ((F4:Int).toNat*2))):=⟨_,rfl⟩;obtain ⟨c67,Ah8⟩:∃ c1,c1=O9-(F4:Int).toNat:=⟨_,rfl⟩;have AU3:Q8.length=C1.length-(F4:Int).toNat:=(by rw [AU1.out,List.length_drop] <;> omega);rw [show (C1).drop (F4:Int).toNat=Q8 from AU1.out.symm] at AK8;replace AK8:Kd.C k78 _ A67 Q8.length Q8:=(by rw [AU2];exact AK8);rw [← AU3,← AU2,← Ah8] at Ah7;have AK9:=aM AK8;have B61:=aM (show Q8.length≤c67 from by rw [AU3,Ah8];exact Nat.sub_le_sub_right f8 _);clear AK8 Aw9 f8 Aa7 Aa8 Ah8;have CX4:=aM AU3;have BZ1:=aM AU2;clear AU3 AU2;have BZ2:=aM (show (F4:Int).toNat≤C1.length from by omega);replace q67:=eq_true q67) | ((with_reducible refine gate_builtin (b:=.append) (xs:=#[.tmp 82,.tmp 86]) rfl ?_);at_builtin;refine Kd.R_append_rows k78 (w0:=w) w.heap.size rfl (.tmp 82) (.tmp 86) 25 78 (.agg #[(.int .i64 0),(.int .i64 0)]) 16 rfl Tryz.underlying25 info78 rfl (by decide) (by omega) BY9 z9 Q8 _ _ _ (fun k_=>some k_≠(.slice O8 C1.length O9:Value).ownBlock∧k_≠G4) (fun _=>False) rfl rfl ?aO ?aR (fun _ _ h=>h) (fun _ h=>h.elim) ?aF ?aB ?aS ?aL ?_;(case aR=>repeat (first | exact (z28_ AK9.out) | (with_reducible refine Kd.C_alloc ?_ _) | (with_reducible refine Kd.C_drewN ?_ _) | (with_reducible refine Kd.C_drew ?_)));(case aB=>exact (z10_ HB.out H4.out I9.out O7.out));(case aF=>exact (fun k_ hk=>⟨Kd.fresh' (Kd.R_lt (z0_ C0.out)) k_ hk,Kd.freshB (g:=G4) (o:=.cells #[.int .i64 t131,.int .i64 D9] 78 (0,0)) (z3_ G7.out) k_ hk⟩));(case aO=>exact (z0_ t6.out));(case aS=>exact (below_size (z10_ HB.out H4.out I9.out O7.out)));(case aL=>have:=BY3.out;omega);intro v154 w68 ho hb hg hat;rw [← BY4.out] at ho;have n0_:=aM (Kd.R_after (ok:=(fun k_=>k_≠G4)) (z0_ C0.out) hg hat);have n1_:=aM (blk_grown (g:=Z7) (o:=.cells #[.int .i64 0,.slice none 0 0] 27 (0,0)) (z3_ D5.out) hg (Kd.R_ne t6.out D5.out (by decide)));have n2_:=aM (blk_grown (g:=Z8) (o:=.cells #[.int .i64 a0,.slice O8 C1.length O9] 27 (0,0)) (z3_ D6.out) hg (Kd.R_ne t6.out D6.out (by decide)));have n3_:=aM (blk_grown (g:=G4) (o:=.cells #[.int .i64 t131,.int .i64 D9] 78 (0,0)) (z3_ G7.out) hg (Kd.R_away t6.out (fun _ hk=>hk.2)));have n4_:=aM (hb);have n5_:=aM ((show Kd.C k78 w68 O8 U1.length U1 from by rw [AA3.out];exact Kd.C_take (m:=(F4:Int).toNat) ((Kd.R_reads' (Kd.R_after (ok:=(fun k_=>k_≠G4)) (z0_ C0.out) hg hat)).2.2) Ah6.out));have n6_:=aM ((show Kd.C k78 w68 A67 Q8.length Q8 from by rw [AU1.out,BZ1.out];exact Kd.C_drop (m:=(F4:Int).toNat) (c:=O9) ((Kd.R_reads' (Kd.R_after (ok:=(fun k_=>k_≠G4)) (z0_ C0.out) hg hat)).2.2) BZ2.out ((Kd.R_reads' (Kd.R_after (ok:=(fun k_=>k_≠G4)) (z0_ C0.out) hg hat)).2.1)));have n7_:=aM (ho);clear C0;clear D5;clear D6;clear G7;clear HB;clear X1;clear AK9;clear t6;have C0:=n0_;have D5:=n1_;have D6:=n2_;have G7:=n3_;have HB:=n4_;have X1:=n5_;have AK9:=n6_;have An9:=n7_;clear n0_ n1_ n2_ n3_ n4_ n5_ n6_ n7_;clear ho hb hg hat;obtain ⟨Bp9,Bq0,BZ3⟩:=Kd.R_slice An9.out;subst BZ3;have ⟨BL1,BL2,BL3,BL4⟩:=cz2_ D6.out)))
                   go_roundg Am4
                   case measure=>have:=HK1.out;have:=HK2.out;have:=HK3.out;have:=Bp8.out;omega
                   case rel=>exact ⟨(wrap64 (K4+1)),(y153),(.slice Bp9 y153.length Bq0),(z2_),H',⟨by have:=HK1.out;have:=HK2.out;have:=HK3.out;have:=Bp8.out;omega⟩,⟨by (with_reducible repeat (first | apply Kd.R_alloc | apply Kd.R_drewN | apply Kd.R_drew));exact Kd.R_mono (Kd.R_far (p:=⟨Z8,1,none⟩) (Kd.R_types An9.out D6.out (by decide)) (fun _ hk=>hk.2) (.slice Bp9 y153.length Bq0)) (fun _ hk=>trivial)⟩,⟨z46_ M8.out D5.out⟩,⟨by (with_reducible repeat (first | refine blk_drewN ?_ _ | refine blk_drew ?_ | refine blk_alloc ?_ _));refine blk_put (cs:=#[.int .i64 a0,.slice O8 C1.length O9]) ?_ 1 _ rfl;(with_reducible repeat (first | refine blk_drewN ?_ _ | refine blk_drew ?_ | refine blk_alloc ?_ _));exact D6.out⟩,⟨z10_ HB.out H4.out I9.out O7.out⟩⟩
                  ·rw [if_neg c54] at H
                   exact nO H
                 ·rw [if_neg c51] at H
                  exact nO H
                ·rw [if_neg c50] at H
                 exact nO H
               ·rw [if_neg c49] at H
                exact nO H
              ·rw [if_neg c48] at H
               exact nO H
        ·rw [if_neg c12] at H
         exact nO H
       ·rw [if_neg c10] at H
        exact nO H
      ·rw [if_neg c8] at H
       have c8b0:decide (K4≤a1)=false:=dF c8
       clear c8
       have H':=aM H
       clear H
       go_wp2
       repeat (go_quiet (fail);try go_wp2)
       go_roundg k2
       case measure=>have:=HK1.out;have:=HK2.out;omega
       case rel=>exact ⟨(wrap64 (D9+1)),(C1),(X5),(z2_),H',⟨z14_ HK1.out HK2.out⟩,⟨z0_ C0.out⟩,⟨z3_ D5.out⟩,⟨z3_ D6.out⟩,⟨z9_ HB.out H4.out I9.out⟩⟩
   ·rw [if_neg c7] at H
    have c7b0:decide (D9≤a0)=false:=dF c7
    clear c7
    simp only [Option.some.injEq,Prod.mk.injEq] at H
    obtain ⟨rfl,rfl⟩:=H
    have hnb71:=P8.out
    have hnc71:=M8.out
    have ⟨hcz72_0,hcz72_1,hfz72_0,hfz72_1⟩:=cz2_ D6.out
    have ⟨hcz73_0,hcz73_1,hfz73_0,hfz73_1⟩:=cz2_ D5.out
    obtain ⟨Cz7,Cz8,Cz9⟩:=Kd.R_slice C0.out
    subst Cz9
    go_wp2
    repeat (go_quiet (fail);try go_wp2)
    refine bodyPost_ret (results_cell_row rfl _ _ Z7 27 #[.int .i64 a0,.slice Cz7 AE6.length Cz8] (0,0) _ rfl (z18_ D5.out) Tryz.underlying27 rfl (by kernel_rfl)) rfl ?_
    exact ⟨_,z8_,z24_ C0.out D5.out,z9_ HB.out H4.out I9.out⟩


/-! ### Y47: function 32 -/
def Y47.f (k:Nat) (E2:List Int) (H8:Int) (C7:Int) (K2:Int):Option (Int × (List (S78)) × Int × Int × Int):=(Y4.f E2 H8 C7 K2 5).bind fun AU4=>((Y4.f E2 AU4.2.1 AU4.2.2.1 AU4.2.2.2 4).bind fun AC1=>((Y25.f k (wrap64 (1+AU4.1)) (wrap64 (1+AC1.1))).bind fun Q3=>((Y55.f E2 AC1.2.1 AC1.2.2.1 AC1.2.2.2 15).bind fun L6=>(if L6.1=true then ((Y4.f E2 L6.2.1 L6.2.2.1 L6.2.2.2 2).bind fun I3=>(if I3.1=0 then ((Y4.f E2 I3.2.1 I3.2.2.1 I3.2.2.2 7).bind fun L7=>(some (L7.1,Q3.2,L7.2.1,L7.2.2.1,L7.2.2.2))) else ((Y4.f E2 I3.2.1 I3.2.2.1 I3.2.2.2 6).bind fun L8=>(if 0<(Q3.2.length:Int) then (some (Q3.1,(Q3.2.set (0:Int).toNat (⟨(rd_T78 Q3.2 0).f0,L8.1⟩:S78)),L8.2.1,L8.2.2.1,L8.2.2.2)) else (none))))) else (some (Q3.1,Q3.2,L6.2.1,L6.2.2.1,L6.2.2.2))))))
theorem Y47.mono:∀ a0 a1 a2 a3 k,LeO (Y47.f k a0 a1 a2 a3) (Y47.f (k+1) a0 a1 a2 a3):=by
 intro a0 a1 a2 a3 k
 have m0:=@Y25.mono
 unfold Y47.f
 exact mO
theorem Y47.calls (k:Nat) (g:Nat) (E2:List Int) (H8:Int) (C7:Int) (K2:Int) (r1:Int) (r2:List (S78)) (r3:Int) (r4:Int) (r5:Int) (w0 w:World) (hI:IsS98 w0 w g E2 H8 C7 K2) (hB:Below w0.heap.size w0 w) (h:Y47.f k E2 H8 C7 K2=some (r1,r2,r3,r4,r5)) :
  Calls Tryz.prog 32 #[.pointer (some ⟨g,0,none⟩)] w fun e w'=>∃ v1_:Value,e = .returned (.agg #[.int .i64 r1,v1_])∧Kd.R k78 78 w' w.heap.size (fun _=>True) v1_ r2∧IsS98 w0 w' g E2 r3 r4 r5∧Below w0.heap.size w0 w'∧KeepBut w w' g none:=by
 have AD7:=Tryz.underlying27
 have HI0:=aM hI
 have HK:=aM (KeepBut.refl w g none)
 have HL:=aM hB.size
 clear hI
 have HW0:=aM hB.size
 have HB:=aM hB
 clear hB
 have H:((Y4.f E2 H8 C7 K2 5).bind fun AU4=>((Y4.f E2 AU4.2.1 AU4.2.2.1 AU4.2.2.2 4).bind fun AC1=>((Y25.f k (wrap64 (1+AU4.1)) (wrap64 (1+AC1.1))).bind fun Q3=>((Y55.f E2 AC1.2.1 AC1.2.2.1 AC1.2.2.2 15).bind fun L6=>(if L6.1=true then ((Y4.f E2 L6.2.1 L6.2.2.1 L6.2.2.2 2).bind fun I3=>(if I3.1=0 then ((Y4.f E2 I3.2.1 I3.2.2.1 I3.2.2.2 7).bind fun L7=>(some (L7.1,Q3.2,L7.2.1,L7.2.2.1,L7.2.2.2))) else ((Y4.f E2 I3.2.1 I3.2.2.1 I3.2.2.2 6).bind fun L8=>(if 0<(Q3.2.length:Int) then (some (Q3.1,(Q3.2.set (0:Int).toNat (⟨(rd_T78 Q3.2 0).f0,L8.1⟩:S78)),L8.2.1,L8.2.2.1,L8.2.2.2)) else (none))))) else (some (Q3.1,Q3.2,L6.2.1,L6.2.2.1,L6.2.2.2)))))))=some (r1,r2,r3,r4,r5):=h
 clear h
 replace H:=bS H
 obtain ⟨⟨t157,BB9,t159,t160⟩,A20,H⟩:=H
 replace H:((Y4.f E2 BB9 t159 t160 4).bind fun AC1=>((Y25.f k (wrap64 (1+t157)) (wrap64 (1+AC1.1))).bind fun Q3=>((Y55.f E2 AC1.2.1 AC1.2.2.1 AC1.2.2.2 15).bind fun L6=>(if L6.1=true then ((Y4.f E2 L6.2.1 L6.2.2.1 L6.2.2.2 2).bind fun I3=>(if I3.1=0 then ((Y4.f E2 I3.2.1 I3.2.2.1 I3.2.2.2 7).bind fun L7=>(some (L7.1,Q3.2,L7.2.1,L7.2.2.1,L7.2.2.2))) else ((Y4.f E2 I3.2.1 I3.2.2.1 I3.2.2.2 6).bind fun L8=>(if 0<(Q3.2.length:Int) then (some (Q3.1,(Q3.2.set (0:Int).toNat (⟨(rd_T78 Q3.2 0).f0,L8.1⟩:S78)),L8.2.1,L8.2.2.1,L8.2.2.2)) else (none))))) else (some (Q3.1,Q3.2,L6.2.1,L6.2.2.1,L6.2.2.2))))))=some (r1,r2,r3,r4,r5):=H
 have A2:=aM A20
 clear A20
 replace H:=bS H
 obtain ⟨⟨Am5,t162,AZ0,t164⟩,A30,H⟩:=H
 replace H:((Y25.f k (wrap64 (1+t157)) (wrap64 (1+Am5))).bind fun Q3=>((Y55.f E2 t162 AZ0 t164 15).bind fun L6=>(if L6.1=true then ((Y4.f E2 L6.2.1 L6.2.2.1 L6.2.2.2 2).bind fun I3=>(if I3.1=0 then ((Y4.f E2 I3.2.1 I3.2.2.1 I3.2.2.2 7).bind fun L7=>(some (L7.1,Q3.2,L7.2.1,L7.2.2.1,L7.2.2.2))) else ((Y4.f E2 I3.2.1 I3.2.2.1 I3.2.2.2 6).bind fun L8=>(if 0<(Q3.2.length:Int) then (some (Q3.1,(Q3.2.set (0:Int).toNat (⟨(rd_T78 Q3.2 0).f0,L8.1⟩:S78)),L8.2.1,L8.2.2.1,L8.2.2.2)) else (none))))) else (some (Q3.1,Q3.2,L6.2.1,L6.2.2.1,L6.2.2.2)))))=some (r1,r2,r3,r4,r5):=H
 have A3:=aM A30
 clear A30
 replace H:=bS H
 obtain ⟨⟨AA4,O0⟩,A40,H⟩:=H
 replace H:((Y55.f E2 t162 AZ0 t164 15).bind fun L6=>(if L6.1=true then ((Y4.f E2 L6.2.1 L6.2.2.1 L6.2.2.2 2).bind fun I3=>(if I3.1=0 then ((Y4.f E2 I3.2.1 I3.2.2.1 I3.2.2.2 7).bind fun L7=>(some (L7.1,O0,L7.2.1,L7.2.2.1,L7.2.2.2))) else ((Y4.f E2 I3.2.1 I3.2.2.1 I3.2.2.2 6).bind fun L8=>(if 0<(O0.length:Int) then (some (AA4,(O0.set (0:Int).toNat (⟨(rd_T78 O0 0).f0,L8.1⟩:S78)),L8.2.1,L8.2.2.1,L8.2.2.2)) else (none))))) else (some (AA4,O0,L6.2.1,L6.2.2.1,L6.2.2.2))))=some (r1,r2,r3,r4,r5):=H
 have A4:=aM A40
 clear A40
 replace H:=bS H
 obtain ⟨⟨CX5,t171,Ah9,t173⟩,A50,H⟩:=H
 replace H:(if CX5=true then ((Y4.f E2 t171 Ah9 t173 2).bind fun I3=>(if I3.1=0 then ((Y4.f E2 I3.2.1 I3.2.2.1 I3.2.2.2 7).bind fun L7=>(some (L7.1,O0,L7.2.1,L7.2.2.1,L7.2.2.2))) else ((Y4.f E2 I3.2.1 I3.2.2.1 I3.2.2.2 6).bind fun L8=>(if 0<(O0.length:Int) then (some (AA4,(O0.set (0:Int).toNat (⟨(rd_T78 O0 0).f0,L8.1⟩:S78)),L8.2.1,L8.2.2.1,L8.2.2.2)) else (none))))) else (some (AA4,O0,t171,Ah9,t173)))=some (r1,r2,r3,r4,r5):=H
 have A5:=aM A50
 clear A50
 by_cases c6:CX5=true
 ·subst c6
  have H1:((Y4.f E2 t171 Ah9 t173 2).bind fun I3=>(if I3.1=0 then ((Y4.f E2 I3.2.1 I3.2.2.1 I3.2.2.2 7).bind fun L7=>(some (L7.1,O0,L7.2.1,L7.2.2.1,L7.2.2.2))) else ((Y4.f E2 I3.2.1 I3.2.2.1 I3.2.2.2 6).bind fun L8=>(if 0<(O0.length:Int) then (some (AA4,(O0.set (0:Int).toNat (⟨(rd_T78 O0 0).f0,L8.1⟩:S78)),L8.2.1,L8.2.2.1,L8.2.2.2)) else (none)))))=some (r1,r2,r3,r4,r5):=by rw [if_pos rfl] at H;exact H
  clear H
  have H:=H1
  clear H1
  replace H:=bS H
  obtain ⟨⟨Ax0,t175,Ax1,Ax2⟩,A70,H⟩:=H
  replace H:(if Ax0=0 then ((Y4.f E2 t175 Ax1 Ax2 7).bind fun L7=>(some (L7.1,O0,L7.2.1,L7.2.2.1,L7.2.2.2))) else ((Y4.f E2 t175 Ax1 Ax2 6).bind fun L8=>(if 0<(O0.length:Int) then (some (AA4,(O0.set (0:Int).toNat (⟨(rd_T78 O0 0).f0,L8.1⟩:S78)),L8.2.1,L8.2.2.1,L8.2.2.2)) else (none))))=some (r1,r2,r3,r4,r5):=H
  have A7:=aM A70
  clear A70
  by_cases c8:Ax0=0
  ·rw [if_pos c8] at H
   have c8b0:(Ax0 == 0)=true:=beq_iff_eq.mpr c8
   have c8b1:(Ax0 != 0)=false:=bne_eq_false_iff_eq.mpr c8
   clear c8
   replace H:=bS H
   obtain ⟨⟨Bq1,CX6,CX7,CX8⟩,A90,H⟩:=H
   replace H:(some (Bq1,O0,CX6,CX7,CX8))=some (r1,r2,r3,r4,r5):=H
   have A9:=aM A90
   clear A90
   simp only [Option.some.injEq,Prod.mk.injEq] at H
   obtain ⟨rfl,rfl,rfl,rfl,rfl⟩:=H
   go_enter Tryz.func32,Tryz.ntmps32
   go_wp2_with (first | ((with_reducible refine gd_ 2 ?_);refine be_ 2 #[.int .i64 0,.slice none 0 0] 27 ?_;intro O2 hg w10 hbox hb;have n0_:=aM (IsS98.below (z17_ HI0.out) hb);have n1_:=aM (KeepBut.trans (z12_ HK.out) (KeepBut.of_below hb g none) (.inl rfl));have n2_:=aM (below_step (z15_ HB.out HI0.out) hb);have n3_:=aM (hbox);have n4_:=aM ((z40_ HK.out:w.heap.size≤O2));have n5_:=aM ((Nat.le_trans HW0.out (z40_ HK.out:w.heap.size≤O2):w0.heap.size≤O2));have n6_:=aM ((z54_ HI0.out:g≠O2));have n7_:=aM ((z55_ HI0.out:O2≠g));clear HI0;clear HK;clear HB;have HI0:=n0_;have HK:=n1_;have HB:=n2_;have F1:=n3_;have O3:=n4_;have V0:=n5_;have G5:=n6_;have Q7:=n7_;clear n0_ n1_ n2_ n3_ n4_ n5_ n6_ n7_;clear hb hbox hg) | ((with_reducible refine gc_ 31 ?_);refine gl_ (some 5) Tryz.func31 #[.pointer (some ⟨g,0,none⟩),.int .i64 5] ?_;(with_reducible refine (Y4.calls g E2 H8 C7 K2 5 t157 BB9 t159 t160 w0 _ ?s1 ?s2 A2.out).mono ?_);(case s1=>repeat (first | (with_reducible first | exact HI0.out | apply IsS98.alloc | apply IsS98.drewN | apply IsS98.drew | apply IsS98.set_1 | apply IsS98.set_2 | apply IsS98.set_3 | refine IsS98.far ?_ (by exact G5.out) _) | exact HI0.out));(case s2=>repeat (first | (with_reducible first | exact HB.out | apply below_alloc | apply pw_below_drewN | apply below_drew1 | refine below_set ?_ (IsS98.ge HI0.out) | refine below_set ?_ V0.out) | exact HB.out));rintro e w11 ⟨rfl,hi,hb,hk⟩;refine ⟨_,rfl,?_⟩;have n0_:=aM (KeepBut.blk hk (g':=O2) (o:=.cells #[.int .i64 0,.slice none 0 0] 27 (0,0)) (z3_ F1.out) Q7.out (by simp));have n1_:=aM (KeepBut.trans (z23_ HK.out O3.out) hk (.inl rfl));have n2_:=aM (hb);have n3_:=aM (hi);clear F1;clear HK;clear HB;clear HI0;have F1:=n0_;have HK:=n1_;have HB:=n2_;have HI0:=n3_;clear n0_ n1_ n2_ n3_;(try clear hb);(try clear hk);(try clear hi)) | ((with_reducible refine gc_ 31 ?_);refine gl_ (some 8) Tryz.func31 #[.pointer (some ⟨g,0,none⟩),.int .i64 4] ?_;(with_reducible refine (Y4.calls g E2 BB9 t159 t160 4 Am5 t162 AZ0 t164 w0 _ ?s1 ?s2 A3.out).mono ?_);(case s1=>repeat (first | (with_reducible first | exact HI0.out | apply IsS98.alloc | apply IsS98.drewN | apply IsS98.drew | apply IsS98.set_1 | apply IsS98.set_2 | apply IsS98.set_3 | refine IsS98.far ?_ (by exact G5.out) _) | exact HI0.out));(case s2=>repeat (first | (with_reducible first | exact HB.out | apply below_alloc | apply pw_below_drewN | apply below_drew1 | refine below_set ?_ (IsS98.ge HI0.out) | refine below_set ?_ V0.out) | exact HB.out));rintro e w12 ⟨rfl,hi,hb,hk⟩;refine ⟨_,rfl,?_⟩;have n0_:=aM (KeepBut.blk hk (g':=O2) (o:=.cells #[.int .i64 0,.slice none 0 0] 27 (0,0)) (z3_ F1.out) Q7.out (by simp));have n1_:=aM (KeepBut.trans (z23_ HK.out O3.out) hk (.inl rfl));have n2_:=aM (hb);have n3_:=aM (hi);clear F1;clear HK;clear HB;clear HI0;have F1:=n0_;have HK:=n1_;have HB:=n2_;have HI0:=n3_;clear n0_ n1_ n2_ n3_;(try clear hb);(try clear hk);(try clear hi)) | ((with_reducible refine gc_ 46 ?_);refine gl_ (some 10) Tryz.func46 #[.int .i64 (wrap64 (1+t157)),.int .i64 (wrap64 (1+Am5))] ?_;(with_reducible refine (Y25.calls k (wrap64 (1+t157)) (wrap64 (1+Am5)) AA4 O0 _ A4.out).mono ?_);rintro e w13 ⟨v167,rfl,ho0,hb⟩;refine ⟨_,rfl,?_⟩;have n0_:=aM (Kd.R_lower ho0 (keep_size (w:=w) (g:=g) (row:=none) (z23_ HK.out O3.out)));have n1_:=aM (IsS98.below (z35_ HI0.out G5.out) hb);have n2_:=aM (blkB_ F1.out hb);have n3_:=aM (KeepBut.trans (z23_ HK.out O3.out) (KeepBut.of_below hb g none) (.inl rfl));have n4_:=aM (below_step (z25_ HB.out HI0.out V0.out) hb);clear HI0;clear F1;clear HK;clear HB;have J0:=n0_;have HI0:=n1_;have F1:=n2_;have HK:=n3_;have HB:=n4_;clear n0_ n1_ n2_ n3_ n4_;(try clear hb);(try clear ho0)) | ((with_reducible refine gd_ 3 ?_);refine be_ 3 #[.int .i64 0,.slice none 0 0] 27 ?_;intro S3 hg w14 hbox hb;have n0_:=aM (Kd.R_below (z0_ J0.out) hb);have n1_:=aM (IsS98.below (z35_ HI0.out G5.out) hb);have n2_:=aM (blkB_ F1.out hb);have n3_:=aM (KeepBut.trans (z23_ HK.out O3.out) (KeepBut.of_below hb g none) (.inl rfl));have n4_:=aM (below_step (z25_ HB.out HI0.out V0.out) hb);have n5_:=aM (hbox);have n6_:=aM ((z41_ HK.out O3.out:w.heap.size≤S3));have n7_:=aM ((Nat.le_trans HW0.out (z41_ HK.out O3.out:w.heap.size≤S3):w0.heap.size≤S3));have n8_:=aM (neL_ F1.out hg);have n9_:=aM (neG_ F1.out hg);have K9:=aM ((z56_ HI0.out G5.out:g≠S3));have V1:=aM ((z57_ HI0.out G5.out:S3≠g));clear J0;clear HI0;clear F1;clear HK;clear HB;have J0:=n0_;have HI0:=n1_;have F1:=n2_;have HK:=n3_;have HB:=n4_;have K7:=n5_;have AE8:=n6_;have AE9:=n7_;have X6:=n8_;have AF0:=n9_;have L9:=K9;have b8:=V1;clear n0_ n1_ n2_ n3_ n4_ n5_ n6_ n7_ n8_ n9_ K9 V1;clear hb hbox hg;have B62:=AF0.out;have B63:=X6.out;have hnb16:=b8.out;have hnc16:=L9.out;have ⟨Bq2,Bq3,Bq4,Bq5⟩:=cz2_ K7.out;obtain ⟨AP1,AJ7,BZ4⟩:=Kd.R_slice J0.out;subst BZ4) | ((with_reducible refine gc_ 36 ?_);refine gl_ (some 12) Tryz.func36 #[.pointer (some ⟨g,0,none⟩),.int .i64 15] ?_;(with_reducible refine (Y55.calls g E2 t162 AZ0 t164 15 true t171 Ah9 t173 w0 _ ?s1 ?s2 A5.out).mono ?_);(case s1=>repeat (first | (with_reducible first | exact HI0.out | apply IsS98.alloc | apply IsS98.drewN | apply IsS98.drew | apply IsS98.set_1 | apply IsS98.set_2 | apply IsS98.set_3 | refine IsS98.far ?_ (by exact G5.out) _ | refine IsS98.far ?_ (by exact L9.out) _) | exact HI0.out));(case s2=>repeat (first | (with_reducible first | exact HB.out | apply below_alloc | apply pw_below_drewN | apply below_drew1 | refine below_set ?_ (IsS98.ge HI0.out) | refine below_set ?_ V0.out | refine below_set ?_ AE9.out) | exact HB.out));rintro e w19 ⟨rfl,hi,hb,hk⟩;refine ⟨_,rfl,?_⟩;have n0_:=aM (KeepBut.blk hk (g':=O2) (o:=.cells #[.int .i64 0,.slice none 0 0] 27 (0,0)) (z22_ X6.out F1.out) Q7.out (by simp));have n1_:=aM (Kd.R_mono (Kd.R_keep (IsS98.apart (show IsS98 w0 _ g E2 t162 AZ0 t164 from by repeat (first | (with_reducible first | exact HI0.out | apply IsS98.alloc | apply IsS98.drewN | apply IsS98.drew | apply IsS98.set_1 | apply IsS98.set_2 | apply IsS98.set_3 | refine IsS98.far ?_ (by exact G5.out) _ | refine IsS98.far ?_ (by exact L9.out) _) | exact HI0.out)) (z16_ J0.out K7.out) (by decide)) hk (fun _ h=>h.2)) (fun _ h=>h.1));have n2_:=aM (KeepBut.blk hk (g':=S3) (o:=.cells #[.int .i64 AA4,.slice AP1 O0.length AJ7] 27 (0,0)) (z18_ K7.out) b8.out (by simp));have n3_:=aM (KeepBut.trans (z29_ HK.out O3.out AE8.out) hk (.inl rfl));have n4_:=aM (hb);have n5_:=aM (hi);clear F1;clear J0;clear K7;clear HK;clear HB;clear HI0;have F1:=n0_;have J0:=n1_;have K7:=n2_;have HK:=n3_;have HB:=n4_;have HI0:=n5_;clear n0_ n1_ n2_ n3_ n4_ n5_;(try clear hb);(try clear hk);(try clear hi)) | ((with_reducible refine gc_ 31 ?_);refine gl_ (some 14) Tryz.func31 #[.pointer (some ⟨g,0,none⟩),.int .i64 2] ?_;(with_reducible refine (Y4.calls g E2 t171 Ah9 t173 2 Ax0 t175 Ax1 Ax2 w0 _ ?s1 ?s2 A7.out).mono ?_);(case s1=>repeat (first | (with_reducible first | exact HI0.out | apply IsS98.alloc | apply IsS98.drewN | apply IsS98.drew | apply IsS98.set_1 | apply IsS98.set_2 | apply IsS98.set_3 | refine IsS98.far ?_ (by exact G5.out) _ | refine IsS98.far ?_ (by exact L9.out) _) | exact HI0.out));(case s2=>repeat (first | (with_reducible first | exact HB.out | apply below_alloc | apply pw_below_drewN | apply below_drew1 | refine below_set ?_ (IsS98.ge HI0.out) | refine below_set ?_ V0.out | refine below_set ?_ AE9.out) | exact HB.out));rintro e w20 ⟨rfl,hi,hb,hk⟩;refine ⟨_,rfl,?_⟩;have n0_:=aM (KeepBut.blk hk (g':=O2) (o:=.cells #[.int .i64 0,.slice none 0 0] 27 (0,0)) (z3_ F1.out) Q7.out (by simp));have n1_:=aM (Kd.R_mono (Kd.R_keep (IsS98.apart (show IsS98 w0 _ g E2 t171 Ah9 t173 from by repeat (first | (with_reducible first | exact HI0.out | apply IsS98.alloc | apply IsS98.drewN | apply IsS98.drew | apply IsS98.set_1 | apply IsS98.set_2 | apply IsS98.set_3 | refine IsS98.far ?_ (by exact G5.out) _ | refine IsS98.far ?_ (by exact L9.out) _) | exact HI0.out)) (z0_ J0.out) (by decide)) hk (fun _ h=>h.2)) (fun _ h=>h.1));have n2_:=aM (KeepBut.blk hk (g':=S3) (o:=.cells #[.int .i64 AA4,.slice AP1 O0.length AJ7] 27 (0,0)) (z3_ K7.out) b8.out (by simp));have n3_:=aM (KeepBut.trans (z29_ HK.out O3.out AE8.out) hk (.inl rfl));have n4_:=aM (hb);have n5_:=aM (hi);clear F1;clear J0;clear K7;clear HK;clear HB;clear HI0;have F1:=n0_;have J0:=n1_;have K7:=n2_;have HK:=n3_;have HB:=n4_;have HI0:=n5_;clear n0_ n1_ n2_ n3_ n4_ n5_;(try clear hb);(try clear hk);(try clear hi)) | ((with_reducible refine gc_ 31 ?_);refine gl_ (some 24) Tryz.func31 #[.pointer (some ⟨g,0,none⟩),.int .i64 7] ?_;(with_reducible refine (Y4.calls g E2 t175 Ax1 Ax2 7 Bq1 CX6 CX7 CX8 w0 _ ?s1 ?s2 A9.out).mono ?_);(case s1=>repeat (first | (with_reducible first | exact HI0.out | apply IsS98.alloc | apply IsS98.drewN | apply IsS98.drew | apply IsS98.set_1 | apply IsS98.set_2 | apply IsS98.set_3 | refine IsS98.far ?_ (by exact G5.out) _ | refine IsS98.far ?_ (by exact L9.out) _) | exact HI0.out));(case s2=>repeat (first | (with_reducible first | exact HB.out | apply below_alloc | apply pw_below_drewN | apply below_drew1 | refine below_set ?_ (IsS98.ge HI0.out) | refine below_set ?_ V0.out | refine below_set ?_ AE9.out) | exact HB.out));rintro e w21 ⟨rfl,hi,hb,hk⟩;refine ⟨_,rfl,?_⟩;have n0_:=aM (KeepBut.blk hk (g':=O2) (o:=.cells #[.int .i64 0,.slice none 0 0] 27 (0,0)) (z3_ F1.out) Q7.out (by simp));have n1_:=aM (Kd.R_mono (Kd.R_keep (IsS98.apart (show IsS98 w0 _ g E2 t175 Ax1 Ax2 from by repeat (first | (with_reducible first | exact HI0.out | apply IsS98.alloc | apply IsS98.drewN | apply IsS98.drew | apply IsS98.set_1 | apply IsS98.set_2 | apply IsS98.set_3 | refine IsS98.far ?_ (by exact G5.out) _ | refine IsS98.far ?_ (by exact L9.out) _) | exact HI0.out)) (z0_ J0.out) (by decide)) hk (fun _ h=>h.2)) (fun _ h=>h.1));have n2_:=aM (KeepBut.blk hk (g':=S3) (o:=.cells #[.int .i64 AA4,.slice AP1 O0.length AJ7] 27 (0,0)) (z3_ K7.out) b8.out (by simp));have n3_:=aM (KeepBut.trans (z29_ HK.out O3.out AE8.out) hk (.inl rfl));have n4_:=aM (hb);have n5_:=aM (hi);clear F1;clear J0;clear K7;clear HK;clear HB;clear HI0;have F1:=n0_;have J0:=n1_;have K7:=n2_;have HK:=n3_;have HB:=n4_;have HI0:=n5_;clear n0_ n1_ n2_ n3_ n4_ n5_;(try clear hb);(try clear hk);(try clear hi);have ⟨Af5,Aq7,Af6,Aq8⟩:=cz2_ K7.out;have hnb23:=Q7.out;have hnc23:=G5.out;have ⟨BL5,BL6,BL7,BL8⟩:=cz2_ F1.out))
   refine bodyPost_ret (results_cell_row rfl _ _ O2 27 #[.int .i64 Bq1,.slice AP1 O0.length AJ7] (0,0) _ rfl (by (with_reducible repeat (first | refine blk_drewN ?_ _ | refine blk_drew ?_ | refine blk_alloc ?_ _));apply put2_;(with_reducible repeat (first | refine blk_drewN ?_ _ | refine blk_drew ?_ | refine blk_alloc ?_ _));refine blk_far ?_ X6.out _;(with_reducible repeat (first | refine blk_drewN ?_ _ | refine blk_drew ?_ | refine blk_alloc ?_ _));exact F1.out) Tryz.underlying27 rfl (by kernel_rfl)) rfl ?_
   exact ⟨_,z8_,by (with_reducible repeat (first | apply Kd.R_alloc | apply Kd.R_drewN | apply Kd.R_drew));exact Kd.R_mono (rf2_ (Kd.R_far (p:=⟨S3,0,none⟩) (Kd.R_types (Kd.R_types J0.out K7.out (by decide)) F1.out (by decide)) (fun _ hk=>hk.1.2) (.int .i64 Bq1)) (fun _ hk=>hk.2)) (fun _ hk=>trivial),z30_ HI0.out G5.out L9.out,z19_ HB.out HI0.out V0.out AE9.out,z29_ HK.out O3.out AE8.out⟩
  ·rw [if_neg c8] at H
   have c8b0:(Ax0 == 0)=false:=beq_eq_false_iff_ne.mpr c8
   have c8b1:(Ax0 != 0)=true:=bne_iff_ne.mpr c8
   replace H:=bS H
   obtain ⟨⟨t182,t183,Bq6,Bq7⟩,Ai0,H⟩:=H
   replace H:(if 0<(O0.length:Int) then (some (AA4,(O0.set (0:Int).toNat (⟨(rd_T78 O0 0).f0,t182⟩:S78)),t183,Bq6,Bq7)) else (none))=some (r1,r2,r3,r4,r5):=H
   have A25:=aM Ai0
   clear Ai0
   by_cases c26:0<(O0.length:Int)
   ·rw [if_pos c26] at H
    have c26b0:decide (0<(O0.length:Int))=true:=dE c26
    have c26b1:decide (0<O0.length)=true:=dE (by omega)
    clear c26
    obtain ⟨CX9,Ax3⟩:∃ y_:List (S78),y_=(O0.set (0:Int).toNat (⟨(rd_T78 O0 0).f0,t182⟩:S78)):=⟨_,rfl⟩
    replace H:(some (AA4,CX9,t183,Bq6,Bq7))=some (r1,r2,r3,r4,r5):=by first | (rw [Ax3];with_reducible exact H) | (have H2_:=(Option.bind_some _ _).symm.trans H;rw [Ax3];with_reducible exact H2_) | (have H2_:=(Option.bind_some _ _).symm.trans H;with_reducible exact H2_) | with_reducible exact H | (rw [Ax3];exact H) | exact H
    have CY0:=aM Ax3
    clear Ax3
    simp only [Option.some.injEq,Prod.mk.injEq] at H
    obtain ⟨rfl,rfl,rfl,rfl,rfl⟩:=H
    go_enter Tryz.func32,Tryz.ntmps32
    try go_wp2_with (first | ((with_reducible refine gd_ 2 ?_);refine be_ 2 #[.int .i64 0,.slice none 0 0] 27 ?_;intro O2 hg w28 hbox hb;have n0_:=aM (IsS98.below (z17_ HI0.out) hb);have n1_:=aM (KeepBut.trans (z12_ HK.out) (KeepBut.of_below hb g none) (.inl rfl));have n2_:=aM (below_step (z15_ HB.out HI0.out) hb);have n3_:=aM (hbox);have n4_:=aM ((z40_ HK.out:w.heap.size≤O2));have n5_:=aM ((Nat.le_trans HW0.out (z40_ HK.out:w.heap.size≤O2):w0.heap.size≤O2));have n6_:=aM ((z54_ HI0.out:g≠O2));have n7_:=aM ((z55_ HI0.out:O2≠g));clear HI0;clear HK;clear HB;have HI0:=n0_;have HK:=n1_;have HB:=n2_;have F1:=n3_;have O3:=n4_;have V0:=n5_;have G5:=n6_;have Q7:=n7_;clear n0_ n1_ n2_ n3_ n4_ n5_ n6_ n7_;clear hb hbox hg) | ((with_reducible refine gc_ 31 ?_);refine gl_ (some 5) Tryz.func31 #[.pointer (some ⟨g,0,none⟩),.int .i64 5] ?_;(with_reducible refine (Y4.calls g E2 H8 C7 K2 5 t157 BB9 t159 t160 w0 _ ?s1 ?s2 A2.out).mono ?_);(case s1=>repeat (first | (with_reducible first | exact HI0.out | apply IsS98.alloc | apply IsS98.drewN | apply IsS98.drew | apply IsS98.set_1 | apply IsS98.set_2 | apply IsS98.set_3 | refine IsS98.far ?_ (by exact G5.out) _) | exact HI0.out));(case s2=>repeat (first | (with_reducible first | exact HB.out | apply below_alloc | apply pw_below_drewN | apply below_drew1 | refine below_set ?_ (IsS98.ge HI0.out) | refine below_set ?_ V0.out) | exact HB.out));rintro e w29 ⟨rfl,hi,hb,hk⟩;refine ⟨_,rfl,?_⟩;have n0_:=aM (KeepBut.blk hk (g':=O2) (o:=.cells #[.int .i64 0,.slice none 0 0] 27 (0,0)) (z3_ F1.out) Q7.out (by simp));have n1_:=aM (KeepBut.trans (z23_ HK.out O3.out) hk (.inl rfl));have n2_:=aM (hb);have n3_:=aM (hi);clear F1;clear HK;clear HB;clear HI0;have F1:=n0_;have HK:=n1_;have HB:=n2_;have HI0:=n3_;clear n0_ n1_ n2_ n3_;(try clear hb);(try clear hk);(try clear hi)) | ((with_reducible refine gc_ 31 ?_);refine gl_ (some 8) Tryz.func31 #[.pointer (some ⟨g,0,none⟩),.int .i64 4] ?_;(with_reducible refine (Y4.calls g E2 BB9 t159 t160 4 Am5 t162 AZ0 t164 w0 _ ?s1 ?s2 A3.out).mono ?_);(case s1=>repeat (first | (with_reducible first | exact HI0.out | apply IsS98.alloc | apply IsS98.drewN | apply IsS98.drew | apply IsS98.set_1 | apply IsS98.set_2 | apply IsS98.set_3 | refine IsS98.far ?_ (by exact G5.out) _) | exact HI0.out));(case s2=>repeat (first | (with_reducible first | exact HB.out | apply below_alloc | apply pw_below_drewN | apply below_drew1 | refine below_set ?_ (IsS98.ge HI0.out) | refine below_set ?_ V0.out) | exact HB.out));rintro e w30 ⟨rfl,hi,hb,hk⟩;refine ⟨_,rfl,?_⟩;have n0_:=aM (KeepBut.blk hk (g':=O2) (o:=.cells #[.int .i64 0,.slice none 0 0] 27 (0,0)) (z3_ F1.out) Q7.out (by simp));have n1_:=aM (KeepBut.trans (z23_ HK.out O3.out) hk (.inl rfl));have n2_:=aM (hb);have n3_:=aM (hi);clear F1;clear HK;clear HB;clear HI0;have F1:=n0_;have HK:=n1_;have HB:=n2_;have HI0:=n3_;clear n0_ n1_ n2_ n3_;(try clear hb);(try clear hk);(try clear hi)) | ((with_reducible refine gc_ 46 ?_);refine gl_ (some 10) Tryz.func46 #[.int .i64 (wrap64 (1+t157)),.int .i64 (wrap64 (1+Am5))] ?_;(with_reducible refine (Y25.calls k (wrap64 (1+t157)) (wrap64 (1+Am5)) AA4 O0 _ A4.out).mono ?_);rintro e w31 ⟨v167,rfl,ho0,hb⟩;refine ⟨_,rfl,?_⟩;have n0_:=aM (Kd.R_lower ho0 (keep_size (w:=w) (g:=g) (row:=none) (z23_ HK.out O3.out)));have n1_:=aM (IsS98.below (z35_ HI0.out G5.out) hb);have n2_:=aM (blkB_ F1.out hb);have n3_:=aM (KeepBut.trans (z23_ HK.out O3.out) (KeepBut.of_below hb g none) (.inl rfl));have n4_:=aM (below_step (z25_ HB.out HI0.out V0.out) hb);clear HI0;clear F1;clear HK;clear HB;have J0:=n0_;have HI0:=n1_;have F1:=n2_;have HK:=n3_;have HB:=n4_;clear n0_ n1_ n2_ n3_ n4_;(try clear hb);(try clear ho0)) | ((with_reducible refine gd_ 3 ?_);refine be_ 3 #[.int .i64 0,.slice none 0 0] 27 ?_;intro S3 hg w32 hbox hb;have n0_:=aM (Kd.R_below (z0_ J0.out) hb);have n1_:=aM (IsS98.below (z35_ HI0.out G5.out) hb);have n2_:=aM (blkB_ F1.out hb);have n3_:=aM (KeepBut.trans (z23_ HK.out O3.out) (KeepBut.of_below hb g none) (.inl rfl));have n4_:=aM (below_step (z25_ HB.out HI0.out V0.out) hb);have n5_:=aM (hbox);have n6_:=aM ((z41_ HK.out O3.out:w.heap.size≤S3));have n7_:=aM ((Nat.le_trans HW0.out (z41_ HK.out O3.out:w.heap.size≤S3):w0.heap.size≤S3));have n8_:=aM (neL_ F1.out hg);have n9_:=aM (neG_ F1.out hg);have K9:=aM ((z56_ HI0.out G5.out:g≠S3));have V1:=aM ((z57_ HI0.out G5.out:S3≠g));clear J0;clear HI0;clear F1;clear HK;clear HB;have J0:=n0_;have HI0:=n1_;have F1:=n2_;have HK:=n3_;have HB:=n4_;have K7:=n5_;have AE8:=n6_;have AE9:=n7_;have X6:=n8_;have AF0:=n9_;have L9:=K9;have b8:=V1;clear n0_ n1_ n2_ n3_ n4_ n5_ n6_ n7_ n8_ n9_ K9 V1;clear hb hbox hg;have B64:=AF0.out;have B65:=X6.out;have hnb34:=b8.out;have hnc34:=L9.out;have ⟨hcz35_0,hcz35_1,hfz35_0,hfz35_1⟩:=cz2_ K7.out;obtain ⟨Bq8,BC0,C00⟩:=Kd.R_slice J0.out;subst C00) | ((with_reducible refine gc_ 36 ?_);refine gl_ (some 12) Tryz.func36 #[.pointer (some ⟨g,0,none⟩),.int .i64 15] ?_;(with_reducible refine (Y55.calls g E2 t162 AZ0 t164 15 true t171 Ah9 t173 w0 _ ?s1 ?s2 A5.out).mono ?_);(case s1=>repeat (first | (with_reducible first | exact HI0.out | apply IsS98.alloc | apply IsS98.drewN | apply IsS98.drew | apply IsS98.set_1 | apply IsS98.set_2 | apply IsS98.set_3 | refine IsS98.far ?_ (by exact G5.out) _ | refine IsS98.far ?_ (by exact L9.out) _) | exact HI0.out));(case s2=>repeat (first | (with_reducible first | exact HB.out | apply below_alloc | apply pw_below_drewN | apply below_drew1 | refine below_set ?_ (IsS98.ge HI0.out) | refine below_set ?_ V0.out | refine below_set ?_ AE9.out) | exact HB.out));rintro e w37 ⟨rfl,hi,hb,hk⟩;refine ⟨_,rfl,?_⟩;have n0_:=aM (KeepBut.blk hk (g':=O2) (o:=.cells #[.int .i64 0,.slice none 0 0] 27 (0,0)) (z22_ X6.out F1.out) Q7.out (by simp));have n1_:=aM (Kd.R_mono (Kd.R_keep (IsS98.apart (show IsS98 w0 _ g E2 t162 AZ0 t164 from by repeat (first | (with_reducible first | exact HI0.out | apply IsS98.alloc | apply IsS98.drewN | apply IsS98.drew | apply IsS98.set_1 | apply IsS98.set_2 | apply IsS98.set_3 | refine IsS98.far ?_ (by exact G5.out) _ | refine IsS98.far ?_ (by exact L9.out) _) | exact HI0.out)) (z16_ J0.out K7.out) (by decide)) hk (fun _ h=>h.2)) (fun _ h=>h.1));have n2_:=aM (KeepBut.blk hk (g':=S3) (o:=.cells #[.int .i64 AA4,.slice Bq8 O0.length BC0] 27 (0,0)) (z18_ K7.out) b8.out (by simp));have n3_:=aM (KeepBut.trans (z29_ HK.out O3.out AE8.out) hk (.inl rfl));have n4_:=aM (hb);have n5_:=aM (hi);clear F1;clear J0;clear K7;clear HK;clear HB;clear HI0;have F1:=n0_;have J0:=n1_;have K7:=n2_;have HK:=n3_;have HB:=n4_;have HI0:=n5_;clear n0_ n1_ n2_ n3_ n4_ n5_;(try clear hb);(try clear hk);(try clear hi)) | ((with_reducible refine gc_ 31 ?_);refine gl_ (some 14) Tryz.func31 #[.pointer (some ⟨g,0,none⟩),.int .i64 2] ?_;(with_reducible refine (Y4.calls g E2 t171 Ah9 t173 2 Ax0 t175 Ax1 Ax2 w0 _ ?s1 ?s2 A7.out).mono ?_);(case s1=>repeat (first | (with_reducible first | exact HI0.out | apply IsS98.alloc | apply IsS98.drewN | apply IsS98.drew | apply IsS98.set_1 | apply IsS98.set_2 | apply IsS98.set_3 | refine IsS98.far ?_ (by exact G5.out) _ | refine IsS98.far ?_ (by exact L9.out) _) | exact HI0.out));(case s2=>repeat (first | (with_reducible first | exact HB.out | apply below_alloc | apply pw_below_drewN | apply below_drew1 | refine below_set ?_ (IsS98.ge HI0.out) | refine below_set ?_ V0.out | refine below_set ?_ AE9.out) | exact HB.out));rintro e w38 ⟨rfl,hi,hb,hk⟩;refine ⟨_,rfl,?_⟩;have n0_:=aM (KeepBut.blk hk (g':=O2) (o:=.cells #[.int .i64 0,.slice none 0 0] 27 (0,0)) (z3_ F1.out) Q7.out (by simp));have n1_:=aM (Kd.R_mono (Kd.R_keep (IsS98.apart (show IsS98 w0 _ g E2 t171 Ah9 t173 from by repeat (first | (with_reducible first | exact HI0.out | apply IsS98.alloc | apply IsS98.drewN | apply IsS98.drew | apply IsS98.set_1 | apply IsS98.set_2 | apply IsS98.set_3 | refine IsS98.far ?_ (by exact G5.out) _ | refine IsS98.far ?_ (by exact L9.out) _) | exact HI0.out)) (z0_ J0.out) (by decide)) hk (fun _ h=>h.2)) (fun _ h=>h.1));have n2_:=aM (KeepBut.blk hk (g':=S3) (o:=.cells #[.int .i64 AA4,.slice Bq8 O0.length BC0] 27 (0,0)) (z3_ K7.out) b8.out (by simp));have n3_:=aM (KeepBut.trans (z29_ HK.out O3.out AE8.out) hk (.inl rfl));have n4_:=aM (hb);have n5_:=aM (hi);clear F1;clear J0;clear K7;clear HK;clear HB;clear HI0;have F1:=n0_;have J0:=n1_;have K7:=n2_;have HK:=n3_;have HB:=n4_;have HI0:=n5_;clear n0_ n1_ n2_ n3_ n4_ n5_;(try clear hb);(try clear hk);(try clear hi)))
    have n0_:=aM (Kd.R_drew J0.out)
    have n1_:=aM (blk_drew F1.out)
    have n2_:=aM (blk_drew K7.out)
    have n3_:=aM (IsS98.drew HI0.out)
    have n4_:=aM (keep_drew HK.out)
    have n5_:=aM (below_drew1 HB.out)
    clear J0
    clear F1
    clear K7
    clear HI0
    clear HK
    clear HB
    have J0:=n0_
    have F1:=n1_
    have K7:=n2_
    have HI0:=n3_
    have HK:=n4_
    have HB:=n5_
    clear n0_ n1_ n2_ n3_ n4_ n5_
    refine start_ (n:=7) (S:=fun w'=>w'.cell? ⟨S3,0,none⟩=some (.int .i64 AA4)∧w'.cell? ⟨S3,1,none⟩=some (.slice Bq8 O0.length BC0)) (ds:=[6]) #[O,O,O,O,O,O,O] (by kernel_rfl) rfl rfl (cc2_ K7.out) (fun hHeld=>?_)
    generalize w38.drew=w39 at J0 F1 K7 HI0 HK HB hHeld ⊢
    refine pure_ (i:=0) (N:=some 15) (v:=?_) (a':=?_) #[I,O,O,O,O,O,O] rfl rfl (by kernel_rfl) (fun _ _ _ h=>h) (Or.inl ⟨by rfl,?_⟩) ?_ ?_
    rotate_left
    ·intro w'
     go_simp
     with_reducible rfl
    rotate_left
    ·simp only [Act.put,sa_,s0_,ss_,i64_w,i32_w]
     rfl
    refine pure_ (i:=2) (N:=some 17) (v:=?_) (a':=?_) #[I,O,I,O,O,O,O] rfl rfl (by kernel_rfl) (fun _ _ _ h=>h) (Or.inl ⟨by rfl,?_⟩) ?_ ?_
    rotate_left
    ·intro w'
     go_simp
     with_reducible rfl
    rotate_left
    ·simp only [Act.put,sa_,s0_,ss_,i64_w,i32_w]
     rfl
    refine take_ (i:=1) (N:=some 16) (v:=?_) (a':=?_) #[I,I,I,O,O,O,O] rfl rfl (by kernel_rfl) (fun _ _ _ h=>h) (Or.inl ⟨by rfl,?_⟩) hHeld ?_ ?_
    rotate_left
    ·rintro w' ⟨s0,s1⟩
     go_simp
     with_reducible rfl
    rotate_left
    ·simp only [Act.put,sa_,s0_,ss_,i64_w,i32_w]
     rfl
    refine one_ (i:=3) (N:=some 18) #[I,I,I,I,O,O,O] rfl rfl (by kernel_rfl) (by decide) (fun K hK=>?_)
    refine gs_ Tryz.func31 #[.pointer (some ⟨g,0,none⟩),.int .i64 6] ?_
    with_reducible refine (Y4.calls g E2 t175 Ax1 Ax2 6 t182 t183 Bq6 Bq7 w0 _ ?s1 ?s2 A25.out).mono ?_
    (case s1=>repeat (first | (with_reducible first | exact HI0.out | apply IsS98.alloc | apply IsS98.drewN | apply IsS98.drew | apply IsS98.set_1 | apply IsS98.set_2 | apply IsS98.set_3 | refine IsS98.far ?_ (by exact G5.out) _ | refine IsS98.far ?_ (by exact L9.out) _) | exact HI0.out))
    (case s2=>repeat (first | (with_reducible first | exact HB.out | apply below_alloc | apply pw_below_drewN | apply below_drew1 | refine below_set ?_ (IsS98.ge HI0.out) | refine below_set ?_ V0.out | refine below_set ?_ AE9.out) | exact HB.out))
    rintro e w40 ⟨rfl,hi,hb,hk⟩
    refine ⟨_,rfl,?_⟩
    have n0_:=aM (KeepBut.blk hk (g':=O2) (o:=.cells #[.int .i64 0,.slice none 0 0] 27 (0,0)) (z3_ F1.out) Q7.out (by simp))
    have n1_:=aM (Kd.R_mono (Kd.R_keep (IsS98.apart (show IsS98 w0 _ g E2 t175 Ax1 Ax2 from by repeat (first | (with_reducible first | exact HI0.out | apply IsS98.alloc | apply IsS98.drewN | apply IsS98.drew | apply IsS98.set_1 | apply IsS98.set_2 | apply IsS98.set_3 | refine IsS98.far ?_ (by exact G5.out) _ | refine IsS98.far ?_ (by exact L9.out) _) | exact HI0.out)) (z0_ J0.out) (by decide)) hk (fun _ h=>h.2)) (fun _ h=>h.1))
    have n2_:=aM (KeepBut.blk hk (g':=S3) (o:=.cells #[.int .i64 AA4,.slice Bq8 O0.length BC0] 27 (0,0)) (z3_ K7.out) b8.out (by simp))
    have n3_:=aM (KeepBut.trans (z29_ HK.out O3.out AE8.out) hk (.inl rfl))
    have n4_:=aM (hb)
    have n5_:=aM (hi)
    clear F1
    clear J0
    clear K7
    clear HK
    clear HB
    clear HI0
    have F1:=n0_
    have J0:=n1_
    have K7:=n2_
    have HK:=n3_
    have HB:=n4_
    have HI0:=n5_
    clear n0_ n1_ n2_ n3_ n4_ n5_
    (try clear hb)
    (try clear hk)
    (try clear hi)
    have p27:0≤(0:Int):=(by omega)
    have q27:(0:Int)<((O0.length:Int):Int):=dT (z1_)
    have qi27:(0<O0.length)=True:=eq_true (by omega)
    obtain ⟨AQ5,BX6,Ah2,CY1,C01,cl27,CY2⟩:=Kd.R_form J0.out (by omega)
    (first | cases Ah2 | (injection Ah2 with ea_ en_ ec_;(first | subst ea_ | (injection ea_ with ea_;subst ea_));subst ec_;clear en_))
    have CY3:=aM CY1
    have GG27:=aM CY2
    clear CY1 C01 CY2
    obtain ⟨ce27,CY4,CY5,BZ5,BZ6⟩:=Kd.R_elem J0.out z78 (0:Int) p27 q27
    obtain rfl:=k78_openM CY5
    have BZ7:World.cell? _ ⟨AQ5,(0:Int).toNat*2,none⟩=some (.int .i64 ((rd_T78 O0 0).f0)):=BZ5 0 _ rfl
    have BZ8:World.cell? _ ⟨AQ5,(0:Int).toNat*2+1,none⟩=some (.int .i64 ((rd_T78 O0 0).f1)):=BZ5 1 _ rfl
    have BZ9:World.frozen? _ ⟨AQ5,(0:Int).toNat*2,none⟩=false:=BZ6 0
    have Ba0:World.frozen? _ ⟨AQ5,(0:Int).toNat*2+1,none⟩=false:=BZ6 1
    clear CY4 BZ5 BZ6 CY5
    (try rw [show ((0:Int)).toNat=0 from rfl] at BZ7)
    (try simp only [Nat.reduceMul,Nat.zero_mul,Nat.zero_add,Nat.reduceAdd] at BZ7)
    (try rw [show ((0:Int)).toNat=0 from rfl] at BZ9)
    (try simp only [Nat.reduceMul,Nat.zero_mul,Nat.zero_add,Nat.reduceAdd] at BZ9)
    (try rw [show ((0:Int)).toNat=0 from rfl] at BZ8)
    (try simp only [Nat.reduceMul,Nat.zero_mul,Nat.zero_add,Nat.reduceAdd] at BZ8)
    (try rw [show ((0:Int)).toNat=0 from rfl] at Ba0)
    (try simp only [Nat.reduceMul,Nat.zero_mul,Nat.zero_add,Nat.reduceAdd] at Ba0)
    replace p27:=eq_true p27
    replace q27:=eq_true q27
    have HN0_go27:=aM (show g≠AQ5 from by have h_:=IsS98.own_ne HI0.out J0.out (by decide);intro e_;exact h_ (by rw [e_];rfl))
    obtain ⟨ce41,B66,CY6,B67,CY7⟩:=Kd.R_elem J0.out z78 (0:Int) (by omega) (by have h_:(0:Int)<((O0.length:Int):Int):=dT (by first | (with_reducible assumption) | assumption);first | exact h_ | (have e_:=(Kd.R_reads' J0.out).1;omega) | simpa using h_)
    obtain rfl:=k78_openM CY6
    have CF8:=(Kd.R_seg J0.out (0:Int) (by omega) (by have h_:(0:Int)<((O0.length:Int):Int):=dT (by first | (with_reducible assumption) | assumption);first | exact h_ | (have e_:=(Kd.R_reads' J0.out).1;omega) | simpa using h_) (seg:=[.int .i64 t182]) (j:=1) B66 B67 (show 2≤2 from by decide) (x':=(⟨(rd_T78 O0 0).f0,t182⟩:S78)) (k78_mkM _ _ _ (⟨(rd_T78 O0 0).f0,t182⟩:S78) ) (fun _ hk=>hk)).1
    rw [← CY0.out] at CF8
    have C02:=aM CF8
    clear B66 B67 CY7 CY6 CF8
    refine hK.out _ _ (cc2_ K7.out) (fun hHeld=>?_)
    clear hK K
    refine nm_ 18 ?_
    refine pure_ (i:=4) (N:=some 19) (v:=?_) (a':=?_) #[I,I,I,I,I,O,O] rfl rfl (by kernel_rfl) (fun _ _ _ h=>h) (Or.inl ⟨by rfl,?_⟩) ?_ ?_
    rotate_left
    ·intro w'
     go_simp
     with_reducible rfl
    rotate_left
    ·simp only [Act.put,sa_,s0_,ss_,i64_w,i32_w]
     rfl
    refine pure_ (i:=5) (N:=some 20) (v:=?_) (a':=?_) #[I,I,I,I,I,I,O] rfl rfl (by kernel_rfl) (fun _ _ _ h=>h) (Or.inl ⟨by rfl,?_⟩) ?_ ?_
    rotate_left
    ·intro w'
     go_simp
     with_reducible rfl
    rotate_left
    ·simp only [Act.put,sa_,s0_,ss_,i64_w,i32_w]
     rfl
    refine last_ (i:=6) (N:=none) #[I,I,I,I,I,I,I] rfl rfl (by kernel_rfl) (by decide) (fun K hK=>?_)
    refine skip_ (w1:=?_) (by rfl) rfl ?_ ?_
    rotate_left
    ·go_simp
     rfl
    refine hK.out _ _ ?_
    clear hK K
    refine done_ (by kernel_rfl) ?_
    have n0_:Aside0 (Kd.R k78 78 (w40.setCell ⟨AQ5,1,none⟩ (.int .i64 t182)) w.heap.size (fun _=>True) (.slice (some ⟨AQ5,0,none⟩) O0.length BC0) CX9):=⟨z0_ C02.out⟩
    have n1_:Aside0 ((w40.setCell ⟨AQ5,1,none⟩ (.int .i64 t182)).heap[O2]? = some (.cells #[.int .i64 0,.slice none 0 0] 27 (0,0))):=⟨by (with_reducible repeat (first | refine blk_drewN ?_ _ | refine blk_drew ?_ | refine blk_alloc ?_ _));refine blk_far ?_ (by have h_:=Kd.R_ne J0.out F1.out (by decide);intro e_;exact h_ (by rw [e_];rfl)) _;(with_reducible repeat (first | refine blk_drewN ?_ _ | refine blk_drew ?_ | refine blk_alloc ?_ _));exact F1.out⟩
    have n2_:Aside0 ((w40.setCell ⟨AQ5,1,none⟩ (.int .i64 t182)).heap[S3]? = some (.cells #[.int .i64 AA4,.slice (some ⟨AQ5,0,none⟩) O0.length BC0] 27 (0,0))):=⟨by (with_reducible repeat (first | refine blk_drewN ?_ _ | refine blk_drew ?_ | refine blk_alloc ?_ _));refine blk_far ?_ (by have h_:=Kd.R_ne J0.out K7.out (by decide);intro e_;exact h_ (by rw [e_];rfl)) _;(with_reducible repeat (first | refine blk_drewN ?_ _ | refine blk_drew ?_ | refine blk_alloc ?_ _));exact K7.out⟩
    have n3_:Aside0 (IsS98 w0 (w40.setCell ⟨AQ5,1,none⟩ (.int .i64 t182)) g E2 t183 Bq6 Bq7):=⟨by repeat (first | (with_reducible first | exact HI0.out | apply IsS98.alloc | apply IsS98.drewN | apply IsS98.drew | apply IsS98.set_1 | apply IsS98.set_2 | apply IsS98.set_3 | refine IsS98.far ?_ (by exact HN0_go27.out) _ | refine IsS98.far ?_ (by exact G5.out) _ | refine IsS98.far ?_ (by exact L9.out) _) | exact HI0.out)⟩
    have n4_:Aside0 (KeepBut w (w40.setCell ⟨AQ5,1,none⟩ (.int .i64 t182)) g none):=⟨by repeat (first | (with_reducible first | exact HK.out | apply KeepBut.set_ | apply keep_drewN | apply keep_drew | apply keep_alloc | refine keep_far ?_ CY3.out _ | refine keep_far ?_ O3.out _ | refine keep_far ?_ AE8.out _) | exact HK.out)⟩
    have n5_:Aside0 (Below w0.heap.size w0 (w40.setCell ⟨AQ5,1,none⟩ (.int .i64 t182))):=⟨by repeat (first | (with_reducible first | exact HB.out | apply below_alloc | apply pw_below_drewN | apply below_drew1 | refine below_set ?_ (Nat.le_trans HL.out CY3.out) | refine below_set ?_ (IsS98.ge HI0.out) | refine below_set ?_ V0.out | refine below_set ?_ AE9.out) | exact HB.out)⟩
    (try clear K7)
    (try clear HI0)
    (try clear HK)
    (try clear HB)
    generalize (w40.setCell ⟨AQ5,1,none⟩ (.int .i64 t182))=w42 at n0_ n1_ n2_ n3_ n4_ n5_ ⊢
    have J0:=n0_
    have F1:=n1_
    have K7:=n2_
    have HI0:=n3_
    have HK:=n4_
    have HB:=n5_
    clear n0_ n1_ n2_ n3_ n4_ n5_
    have ⟨Bq9,hcz43_1,Br0,hfz43_1⟩:=cz2_ K7.out
    have CW9:=Q7.out
    have CX0:=G5.out
    have ⟨BJ5,BJ6,BJ7,BJ8⟩:=cz2_ F1.out
    try go_wp2
    refine bodyPost_ret (results_cell_row rfl _ _ O2 27 #[.int .i64 AA4,.slice (some ⟨AQ5,0,none⟩) O0.length BC0] (0,0) _ rfl (z18_ F1.out) Tryz.underlying27 rfl (by kernel_rfl)) rfl ?_
    exact ⟨_,z8_,z24_ J0.out F1.out,z30_ HI0.out G5.out L9.out,z19_ HB.out HI0.out V0.out AE9.out,z29_ HK.out O3.out AE8.out⟩
   ·rw [if_neg c26] at H
    exact nO H
 ·replace c6:=Bool.eq_false_iff.mpr c6
  subst c6
  have H1:(some (AA4,O0,t171,Ah9,t173))=some (r1,r2,r3,r4,r5):=by rw [if_neg (show ¬ (false=true) by decide)] at H;exact H
  clear H
  have H:=H1
  clear H1
  simp only [Option.some.injEq,Prod.mk.injEq] at H
  obtain ⟨rfl,rfl,rfl,rfl,rfl⟩:=H
  go_enter Tryz.func32,Tryz.ntmps32
  go_wp2_with (first | ((with_reducible refine gd_ 2 ?_);refine be_ 2 #[.int .i64 0,.slice none 0 0] 27 ?_;intro O2 hg w46 hbox hb;have n0_:=aM (IsS98.below (z17_ HI0.out) hb);have n1_:=aM (KeepBut.trans (z12_ HK.out) (KeepBut.of_below hb g none) (.inl rfl));have n2_:=aM (below_step (z15_ HB.out HI0.out) hb);have n3_:=aM (hbox);have n4_:=aM ((z40_ HK.out:w.heap.size≤O2));have n5_:=aM ((Nat.le_trans HW0.out (z40_ HK.out:w.heap.size≤O2):w0.heap.size≤O2));have n6_:=aM ((z54_ HI0.out:g≠O2));have n7_:=aM ((z55_ HI0.out:O2≠g));clear HI0;clear HK;clear HB;have HI0:=n0_;have HK:=n1_;have HB:=n2_;have F1:=n3_;have O3:=n4_;have V0:=n5_;have G5:=n6_;have Q7:=n7_;clear n0_ n1_ n2_ n3_ n4_ n5_ n6_ n7_;clear hb hbox hg) | ((with_reducible refine gc_ 31 ?_);refine gl_ (some 5) Tryz.func31 #[.pointer (some ⟨g,0,none⟩),.int .i64 5] ?_;(with_reducible refine (Y4.calls g E2 H8 C7 K2 5 t157 BB9 t159 t160 w0 _ ?s1 ?s2 A2.out).mono ?_);(case s1=>repeat (first | (with_reducible first | exact HI0.out | apply IsS98.alloc | apply IsS98.drewN | apply IsS98.drew | apply IsS98.set_1 | apply IsS98.set_2 | apply IsS98.set_3 | refine IsS98.far ?_ (by exact G5.out) _) | exact HI0.out));(case s2=>repeat (first | (with_reducible first | exact HB.out | apply below_alloc | apply pw_below_drewN | apply below_drew1 | refine below_set ?_ (IsS98.ge HI0.out) | refine below_set ?_ V0.out) | exact HB.out));rintro e w47 ⟨rfl,hi,hb,hk⟩;refine ⟨_,rfl,?_⟩;have n0_:=aM (KeepBut.blk hk (g':=O2) (o:=.cells #[.int .i64 0,.slice none 0 0] 27 (0,0)) (z3_ F1.out) Q7.out (by simp));have n1_:=aM (KeepBut.trans (z23_ HK.out O3.out) hk (.inl rfl));have n2_:=aM (hb);have n3_:=aM (hi);clear F1;clear HK;clear HB;clear HI0;have F1:=n0_;have HK:=n1_;have HB:=n2_;have HI0:=n3_;clear n0_ n1_ n2_ n3_;(try clear hb);(try clear hk);(try clear hi)) | ((with_reducible refine gc_ 31 ?_);refine gl_ (some 8) Tryz.func31 #[.pointer (some ⟨g,0,none⟩),.int .i64 4] ?_;(with_reducible refine (Y4.calls g E2 BB9 t159 t160 4 Am5 t162 AZ0 t164 w0 _ ?s1 ?s2 A3.out).mono ?_);(case s1=>repeat (first | (with_reducible first | exact HI0.out | apply IsS98.alloc | apply IsS98.drewN | apply IsS98.drew | apply IsS98.set_1 | apply IsS98.set_2 | apply IsS98.set_3 | refine IsS98.far ?_ (by exact G5.out) _) | exact HI0.out));(case s2=>repeat (first | (with_reducible first | exact HB.out | apply below_alloc | apply pw_below_drewN | apply below_drew1 | refine below_set ?_ (IsS98.ge HI0.out) | refine below_set ?_ V0.out) | exact HB.out));rintro e w48 ⟨rfl,hi,hb,hk⟩;refine ⟨_,rfl,?_⟩;have n0_:=aM (KeepBut.blk hk (g':=O2) (o:=.cells #[.int .i64 0,.slice none 0 0] 27 (0,0)) (z3_ F1.out) Q7.out (by simp));have n1_:=aM (KeepBut.trans (z23_ HK.out O3.out) hk (.inl rfl));have n2_:=aM (hb);have n3_:=aM (hi);clear F1;clear HK;clear HB;clear HI0;have F1:=n0_;have HK:=n1_;have HB:=n2_;have HI0:=n3_;clear n0_ n1_ n2_ n3_;(try clear hb);(try clear hk);(try clear hi)) | ((with_reducible refine gc_ 46 ?_);refine gl_ (some 10) Tryz.func46 #[.int .i64 (wrap64 (1+t157)),.int .i64 (wrap64 (1+Am5))] ?_;(with_reducible refine (Y25.calls k (wrap64 (1+t157)) (wrap64 (1+Am5)) AA4 O0 _ A4.out).mono ?_);rintro e w49 ⟨v167,rfl,ho0,hb⟩;refine ⟨_,rfl,?_⟩;have n0_:=aM (Kd.R_lower ho0 (keep_size (w:=w) (g:=g) (row:=none) (z23_ HK.out O3.out)));have n1_:=aM (IsS98.below (z35_ HI0.out G5.out) hb);have n2_:=aM (blkB_ F1.out hb);have n3_:=aM (KeepBut.trans (z23_ HK.out O3.out) (KeepBut.of_below hb g none) (.inl rfl));have n4_:=aM (below_step (z25_ HB.out HI0.out V0.out) hb);clear HI0;clear F1;clear HK;clear HB;have J0:=n0_;have HI0:=n1_;have F1:=n2_;have HK:=n3_;have HB:=n4_;clear n0_ n1_ n2_ n3_ n4_;(try clear hb);(try clear ho0)) | ((with_reducible refine gd_ 3 ?_);refine be_ 3 #[.int .i64 0,.slice none 0 0] 27 ?_;intro S3 hg w50 hbox hb;have n0_:=aM (Kd.R_below (z0_ J0.out) hb);have n1_:=aM (IsS98.below (z35_ HI0.out G5.out) hb);have n2_:=aM (blkB_ F1.out hb);have n3_:=aM (KeepBut.trans (z23_ HK.out O3.out) (KeepBut.of_below hb g none) (.inl rfl));have n4_:=aM (below_step (z25_ HB.out HI0.out V0.out) hb);have n5_:=aM (hbox);have n6_:=aM ((z41_ HK.out O3.out:w.heap.size≤S3));have n7_:=aM ((Nat.le_trans HW0.out (z41_ HK.out O3.out:w.heap.size≤S3):w0.heap.size≤S3));have n8_:=aM (neL_ F1.out hg);have n9_:=aM (neG_ F1.out hg);have K9:=aM ((z56_ HI0.out G5.out:g≠S3));have V1:=aM ((z57_ HI0.out G5.out:S3≠g));clear J0;clear HI0;clear F1;clear HK;clear HB;have J0:=n0_;have HI0:=n1_;have F1:=n2_;have HK:=n3_;have HB:=n4_;have K7:=n5_;have AE8:=n6_;have AE9:=n7_;have X6:=n8_;have AF0:=n9_;have L9:=K9;have b8:=V1;clear n0_ n1_ n2_ n3_ n4_ n5_ n6_ n7_ n8_ n9_ K9 V1;clear hb hbox hg;have hnb51:=AF0.out;have hnc51:=X6.out;have hnb52:=b8.out;have hnc52:=L9.out;have ⟨hcz53_0,hcz53_1,hfz53_0,hfz53_1⟩:=cz2_ K7.out;obtain ⟨CY8,CY9,C03⟩:=Kd.R_slice J0.out;subst C03) | ((with_reducible refine gc_ 36 ?_);refine gl_ (some 12) Tryz.func36 #[.pointer (some ⟨g,0,none⟩),.int .i64 15] ?_;(with_reducible refine (Y55.calls g E2 t162 AZ0 t164 15 false t171 Ah9 t173 w0 _ ?s1 ?s2 A5.out).mono ?_);(case s1=>repeat (first | (with_reducible first | exact HI0.out | apply IsS98.alloc | apply IsS98.drewN | apply IsS98.drew | apply IsS98.set_1 | apply IsS98.set_2 | apply IsS98.set_3 | refine IsS98.far ?_ (by exact G5.out) _ | refine IsS98.far ?_ (by exact L9.out) _) | exact HI0.out));(case s2=>repeat (first | (with_reducible first | exact HB.out | apply below_alloc | apply pw_below_drewN | apply below_drew1 | refine below_set ?_ (IsS98.ge HI0.out) | refine below_set ?_ V0.out | refine below_set ?_ AE9.out) | exact HB.out));rintro e w55 ⟨rfl,hi,hb,hk⟩;refine ⟨_,rfl,?_⟩;have n0_:=aM (KeepBut.blk hk (g':=O2) (o:=.cells #[.int .i64 0,.slice none 0 0] 27 (0,0)) (z22_ X6.out F1.out) Q7.out (by simp));have n1_:=aM (Kd.R_mono (Kd.R_keep (IsS98.apart (show IsS98 w0 _ g E2 t162 AZ0 t164 from by repeat (first | (with_reducible first | exact HI0.out | apply IsS98.alloc | apply IsS98.drewN | apply IsS98.drew | apply IsS98.set_1 | apply IsS98.set_2 | apply IsS98.set_3 | refine IsS98.far ?_ (by exact G5.out) _ | refine IsS98.far ?_ (by exact L9.out) _) | exact HI0.out)) (z16_ J0.out K7.out) (by decide)) hk (fun _ h=>h.2)) (fun _ h=>h.1));have n2_:=aM (KeepBut.blk hk (g':=S3) (o:=.cells #[.int .i64 AA4,.slice CY8 O0.length CY9] 27 (0,0)) (z18_ K7.out) b8.out (by simp));have n3_:=aM (KeepBut.trans (z29_ HK.out O3.out AE8.out) hk (.inl rfl));have n4_:=aM (hb);have n5_:=aM (hi);clear F1;clear J0;clear K7;clear HK;clear HB;clear HI0;have F1:=n0_;have J0:=n1_;have K7:=n2_;have HK:=n3_;have HB:=n4_;have HI0:=n5_;clear n0_ n1_ n2_ n3_ n4_ n5_;(try clear hb);(try clear hk);(try clear hi);have ⟨hcz56_0,hcz56_1,hfz56_0,hfz56_1⟩:=cz2_ K7.out;have BY6:=Q7.out;have BY7:=G5.out;have ⟨hcz58_0,hcz58_1,hfz58_0,hfz58_1⟩:=cz2_ F1.out))
  refine bodyPost_ret (results_cell_row rfl _ _ O2 27 #[.int .i64 AA4,.slice CY8 O0.length CY9] (0,0) _ rfl (z18_ F1.out) Tryz.underlying27 rfl (by kernel_rfl)) rfl ?_
  exact ⟨_,z8_,z24_ J0.out F1.out,z30_ HI0.out G5.out L9.out,z19_ HB.out HI0.out V0.out AE9.out,z29_ HK.out O3.out AE8.out⟩


/-! ### Y65: function 63 -/
def Y65.f (E2:List Int) (H8:Int) (C7:Int) (K2:Int) (l1:List ByteArray):Option (ByteArray × Int × Int × Int):=(Y4.f E2 H8 C7 K2 (l1.length:Int)).bind fun AF1=>(if 0≤AF1.1 then (if AF1.1<(l1.length:Int) then (some (rdOf ByteArray.empty l1 AF1.1,AF1.2.1,AF1.2.2.1,AF1.2.2.2)) else (none)) else (none))
theorem Y65.calls (g:Nat) (E2:List Int) (H8:Int) (C7:Int) (K2:Int) (A1:Option Addr) (c1:Nat) (l1:List ByteArray) (r1:ByteArray) (r2:Int) (r3:Int) (r4:Int) (w0 w:World) (hI:IsS98 w0 w g E2 H8 C7 K2) (hB:Below w0.heap.size w0 w) (hr1:Kd.C Kd.string w A1 l1.length l1) (hc1:l1.length≤c1) (hf1:∀ ad,A1=some ad→0<l1.length→ad.block≠g) (h:Y65.f E2 H8 C7 K2 l1=some (r1,r2,r3,r4)) :
  Calls Tryz.prog 63 #[.pointer (some ⟨g,0,none⟩),.slice A1 l1.length c1] w fun e w'=>e = .returned (.string r1)∧IsS98 w0 w' g E2 r2 r3 r4∧Below w0.heap.size w0 w'∧KeepBut w w' g none:=by
 have HR1:=aM hr1
 have HC1:=aM hc1
 clear hr1 hc1
 have HI0:=aM hI
 have HK:=aM (KeepBut.refl w g none)
 have HL:=aM hB.size
 clear hI
 have HW0:=aM hB.size
 have HB:=aM hB
 clear hB
 have H:((Y4.f E2 H8 C7 K2 (l1.length:Int)).bind fun AF1=>(if 0≤AF1.1 then (if AF1.1<(l1.length:Int) then (some (rdOf ByteArray.empty l1 AF1.1,AF1.2.1,AF1.2.2.1,AF1.2.2.2)) else (none)) else (none)))=some (r1,r2,r3,r4):=h
 clear h
 replace H:=bS H
 obtain ⟨⟨Ai1,CZ0,CZ1,CZ2⟩,A30,H⟩:=H
 replace H:(if 0≤Ai1 then (if Ai1<(l1.length:Int) then (some (rdOf ByteArray.empty l1 Ai1,CZ0,CZ1,CZ2)) else (none)) else (none))=some (r1,r2,r3,r4):=H
 have A3:=aM A30
 clear A30
 by_cases c4:0≤Ai1
 ·rw [if_pos c4] at H
  have c4b0:decide (0≤Ai1)=true:=dE c4
  clear c4
  by_cases c5:Ai1<(l1.length:Int)
  ·rw [if_pos c5] at H
   have c5b0:decide (Ai1<(l1.length:Int))=true:=dE c5
   clear c5
   simp only [Option.some.injEq,Prod.mk.injEq] at H
   obtain ⟨rfl,rfl,rfl,rfl⟩:=H
   go_enter Tryz.func63,Tryz.ntmps63
   go_wp2_with (first | ((with_reducible refine gc_ 31 ?_);refine gl_ (some 9) Tryz.func31 #[.pointer (some ⟨g,0,none⟩),.int .i64 (l1.length:Int)] ?_;(with_reducible refine (Y4.calls g E2 H8 C7 K2 (l1.length:Int) Ai1 CZ0 CZ1 CZ2 w0 _ ?s1 ?s2 A3.out).mono ?_);(case s1=>repeat (first | (with_reducible first | exact HI0.out | apply IsS98.alloc | apply IsS98.drewN | apply IsS98.drew | apply IsS98.set_1 | apply IsS98.set_2 | apply IsS98.set_3) | exact HI0.out));(case s2=>repeat (first | (with_reducible first | exact HB.out | apply below_alloc | apply pw_below_drewN | apply below_drew1 | refine below_set ?_ (IsS98.ge HI0.out)) | exact HB.out));rintro e w6 ⟨rfl,hi,hb,hk⟩;refine ⟨_,rfl,?_⟩;have n0_:=aM (KeepBut.trans (z12_ HK.out) hk (.inl rfl));have n1_:=aM (hb);have n2_:=aM (hi);clear HK;clear HB;clear HI0;have HK:=n0_;have HB:=n1_;have HI0:=n2_;clear n0_ n1_ n2_;(try clear hb);(try clear hk);(try clear hi);have CF9:0≤(Ai1:Int):=dT (z1_);have CG0:Ai1<(l1.length:Int):=dT (z1_);obtain ⟨CZ3,C04,BL9⟩:=Kd.at_string HR1.out Ai1 CF9 CG0;cases C04;replace BL9:=keep_cell HK.out BL9 (by first | (rw [add_block];exact hf1 _ rfl (by omega)) | exact hf1 _ rfl (by omega) | exact hf1 CZ3 rfl (by omega));replace CF9:=eq_true CF9;replace CG0:=eq_true CG0))
   go_ret
   exact ⟨z8_,z17_ HI0.out,z15_ HB.out HI0.out,z12_ HK.out⟩
  ·rw [if_neg c5] at H
   exact nO H
 ·rw [if_neg c4] at H
  exact nO H


/-! ### Y51: function 33 -/
def Y51.f (E2:List Int) (H8:Int) (C7:Int) (K2:Int):Option (ByteArray × Int × Int × Int):=(Y55.f E2 H8 C7 K2 20).bind fun AA5=>(if AA5.1=true then ((Y65.f E2 AA5.2.1 AA5.2.2.1 AA5.2.2.2 (([(⟨#[]⟩:ByteArray),(⟨#[65]⟩:ByteArray)]:List ByteArray))).bind fun W6=>(some (W6.1,W6.2.1,W6.2.2.1,W6.2.2.2))) else ((Y65.f E2 AA5.2.1 AA5.2.2.1 AA5.2.2.2 (([(⟨#[99,97,114,116]⟩:ByteArray),(⟨#[117,115,101,114]⟩:ByteArray),(⟨#[120]⟩:ByteArray),(⟨#[121]⟩:ByteArray)]:List ByteArray))).bind fun W7=>(some (W7.1,W7.2.1,W7.2.2.1,W7.2.2.2))))
theorem Y51.calls (g:Nat) (E2:List Int) (H8:Int) (C7:Int) (K2:Int) (r1:ByteArray) (r2:Int) (r3:Int) (r4:Int) (w0 w:World) (hI:IsS98 w0 w g E2 H8 C7 K2) (hB:Below w0.heap.size w0 w) (h:Y51.f E2 H8 C7 K2=some (r1,r2,r3,r4)) :
  Calls Tryz.prog 33 #[.pointer (some ⟨g,0,none⟩)] w fun e w'=>e = .returned (.string r1)∧IsS98 w0 w' g E2 r2 r3 r4∧Below w0.heap.size w0 w'∧KeepBut w w' g none:=by
 have HI0:=aM hI
 have HK:=aM (KeepBut.refl w g none)
 have HL:=aM hB.size
 clear hI
 have HW0:=aM hB.size
 have HB:=aM hB
 clear hB
 have H:((Y55.f E2 H8 C7 K2 20).bind fun AA5=>(if AA5.1=true then ((Y65.f E2 AA5.2.1 AA5.2.2.1 AA5.2.2.2 (([(⟨#[]⟩:ByteArray),(⟨#[65]⟩:ByteArray)]:List ByteArray))).bind fun W6=>(some (W6.1,W6.2.1,W6.2.2.1,W6.2.2.2))) else ((Y65.f E2 AA5.2.1 AA5.2.2.1 AA5.2.2.2 (([(⟨#[99,97,114,116]⟩:ByteArray),(⟨#[117,115,101,114]⟩:ByteArray),(⟨#[120]⟩:ByteArray),(⟨#[121]⟩:ByteArray)]:List ByteArray))).bind fun W7=>(some (W7.1,W7.2.1,W7.2.2.1,W7.2.2.2)))))=some (r1,r2,r3,r4):=h
 clear h
 replace H:=bS H
 obtain ⟨⟨CZ4,t193,t194,Ac1⟩,A20,H⟩:=H
 replace H:(if CZ4=true then ((Y65.f E2 t193 t194 Ac1 (([(⟨#[]⟩:ByteArray),(⟨#[65]⟩:ByteArray)]:List ByteArray))).bind fun W6=>(some (W6.1,W6.2.1,W6.2.2.1,W6.2.2.2))) else ((Y65.f E2 t193 t194 Ac1 (([(⟨#[99,97,114,116]⟩:ByteArray),(⟨#[117,115,101,114]⟩:ByteArray),(⟨#[120]⟩:ByteArray),(⟨#[121]⟩:ByteArray)]:List ByteArray))).bind fun W7=>(some (W7.1,W7.2.1,W7.2.2.1,W7.2.2.2))))=some (r1,r2,r3,r4):=H
 have A2:=aM A20
 clear A20
 by_cases c3:CZ4=true
 ·subst c3
  have H1:((Y65.f E2 t193 t194 Ac1 (([(⟨#[]⟩:ByteArray),(⟨#[65]⟩:ByteArray)]:List ByteArray))).bind fun W6=>(some (W6.1,W6.2.1,W6.2.2.1,W6.2.2.2)))=some (r1,r2,r3,r4):=by rw [if_pos rfl] at H;exact H
  clear H
  have H:=H1
  clear H1
  obtain ⟨CG1,Ax4⟩:∃ y_:List ByteArray,y_=(([(⟨#[]⟩:ByteArray),(⟨#[65]⟩:ByteArray)]:List ByteArray)):=⟨_,rfl⟩
  replace H:((Y65.f E2 t193 t194 Ac1 CG1).bind fun W6=>(some (W6.1,W6.2.1,W6.2.2.1,W6.2.2.2)))=some (r1,r2,r3,r4):=by first | (rw [Ax4];with_reducible exact H) | (have H2_:=(Option.bind_some _ _).symm.trans H;rw [Ax4];with_reducible exact H2_) | (have H2_:=(Option.bind_some _ _).symm.trans H;with_reducible exact H2_) | with_reducible exact H | (rw [Ax4];exact H) | exact H
  have B68:=aM Ax4
  clear Ax4
  replace H:=bS H
  obtain ⟨⟨CZ5,CZ6,t201,CZ7⟩,A40,H⟩:=H
  replace H:(some (CZ5,CZ6,t201,CZ7))=some (r1,r2,r3,r4):=H
  have A4:=aM A40
  clear A40
  simp only [Option.some.injEq,Prod.mk.injEq] at H
  obtain ⟨rfl,rfl,rfl,rfl⟩:=H
  go_enter Tryz.func33,Tryz.ntmps33
  go_wp2_with (first | ((with_reducible refine gc_ 36 ?_);refine gl_ (some 4) Tryz.func36 #[.pointer (some ⟨g,0,none⟩),.int .i64 20] ?_;(with_reducible refine (Y55.calls g E2 H8 C7 K2 20 true t193 t194 Ac1 w0 _ ?s1 ?s2 A2.out).mono ?_);(case s1=>repeat (first | (with_reducible first | exact HI0.out | apply IsS98.alloc | apply IsS98.drewN | apply IsS98.drew | apply IsS98.set_1 | apply IsS98.set_2 | apply IsS98.set_3) | exact HI0.out));(case s2=>repeat (first | (with_reducible first | exact HB.out | apply below_alloc | apply pw_below_drewN | apply below_drew1 | refine below_set ?_ (IsS98.ge HI0.out)) | exact HB.out));rintro e w5 ⟨rfl,hi,hb,hk⟩;refine ⟨_,rfl,?_⟩;have n0_:=aM (KeepBut.trans (z12_ HK.out) hk (.inl rfl));have n1_:=aM (hb);have n2_:=aM (hi);clear HK;clear HB;clear HI0;have HK:=n0_;have HB:=n1_;have HI0:=n2_;clear n0_ n1_ n2_;(try clear hb);(try clear hk);(try clear hi)) | ((with_reducible refine gd_ 6 ?_);refine Kd.R_lit Kd.string _ 9 ?hg (N:=6) ?hd (xs:=([(⟨#[]⟩:ByteArray),(⟨#[65]⟩:ByteArray)]:List ByteArray)) (inner:=[.string (⟨#[]⟩:ByteArray),.string (⟨#[65]⟩:ByteArray)]) (ok:=fun _=>True) (okp:=fun _=>True) ?hr ?hp (fun _ hk=>hk) trivial (Below.refl _ _) (Nat.le_refl _) (by simp) ?_;(case hd=>rfl);(case hg=>rfl);(case hr=>first | (go_simp;done) | (go_simp;rfl));(case hp=>exact (Reps.one (show Kd.M Kd.string _ _ _ (⟨#[]⟩:ByteArray) [.string (⟨#[]⟩:ByteArray)] from rfl) (Reps.one (show Kd.M Kd.string _ _ _ (⟨#[65]⟩:ByteArray) [.string (⟨#[65]⟩:ByteArray)] from rfl) (Reps.none _ _))));intro v197 w6 ho7 hb hg_ hnew_;clear hg_ hnew_;(first | rw [← B68.out] at ho7 | (simp only [Int.reduceToNat] at ho7;rw [← B68.out] at ho7));have n0_:=aM (Kd.R_lower ho7 (keep_size (w:=w) (g:=g) (row:=none) (z12_ HK.out)));have n1_:=aM (IsS98.below (z17_ HI0.out) hb);have n2_:=aM (KeepBut.trans (z12_ HK.out) (KeepBut.of_below hb g none) (.inl rfl));have n3_:=aM (below_step (z15_ HB.out HI0.out) hb);clear HI0;clear HK;clear HB;have Ai2:=n0_;have HI0:=n1_;have HK:=n2_;have HB:=n3_;clear n0_ n1_ n2_ n3_;clear hb ho7;obtain ⟨Ao8,co8,eo8⟩:=Kd.R_slice Ai2.out;subst eo8) | ((with_reducible refine gc_ 63 ?_);refine gl_ (some 7) Tryz.func63 #[.pointer (some ⟨g,0,none⟩),.slice Ao8 CG1.length co8] ?_;(with_reducible refine (Y65.calls g E2 t193 t194 Ac1 _ _ CG1 CZ5 CZ6 t201 CZ7 w0 _ ?s1 ?s2 ?s3 ?s4 ?s5 A4.out).mono ?_);(case s1=>repeat (first | (with_reducible first | exact HI0.out | apply IsS98.alloc | apply IsS98.drewN | apply IsS98.drew | apply IsS98.set_1 | apply IsS98.set_2 | apply IsS98.set_3) | exact HI0.out));(case s2=>repeat (first | (with_reducible first | exact HB.out | apply below_alloc | apply pw_below_drewN | apply below_drew1 | refine below_set ?_ (IsS98.ge HI0.out)) | exact HB.out));(case s3=>repeat (first | exact (Kd.R_reads' Ai2.out).2.2 | (with_reducible refine Kd.C_alloc ?_ _) | (with_reducible refine Kd.C_drewN ?_ _) | (with_reducible refine Kd.C_drew ?_)));(case s4=>exact (Kd.R_reads' Ai2.out).2.1);(case s5=>exact far_slice (IsS98.own_ne HI0.out Ai2.out (by decide)));rintro e w9 ⟨rfl,hi,hb,hk⟩;refine ⟨_,rfl,?_⟩;have n0_:=aM (Kd.R_mono (Kd.R_keep (IsS98.apart (show IsS98 w0 _ g E2 t193 t194 Ac1 from by repeat (first | (with_reducible first | exact HI0.out | apply IsS98.alloc | apply IsS98.drewN | apply IsS98.drew | apply IsS98.set_1 | apply IsS98.set_2 | apply IsS98.set_3) | exact HI0.out)) (z0_ Ai2.out) (by decide)) hk (fun _ h=>h.2)) (fun _ h=>h.1));have n1_:=aM (KeepBut.trans (z12_ HK.out) hk (.inl rfl));have n2_:=aM (hb);have n3_:=aM (hi);clear Ai2;clear HK;clear HB;clear HI0;have Ai2:=n0_;have HK:=n1_;have HB:=n2_;have HI0:=n3_;clear n0_ n1_ n2_ n3_;(try clear hb);(try clear hk);(try clear hi)))
  go_ret
  exact ⟨z8_,z17_ HI0.out,z15_ HB.out HI0.out,z12_ HK.out⟩
 ·replace c3:=Bool.eq_false_iff.mpr c3
  subst c3
  have H1:((Y65.f E2 t193 t194 Ac1 (([(⟨#[99,97,114,116]⟩:ByteArray),(⟨#[117,115,101,114]⟩:ByteArray),(⟨#[120]⟩:ByteArray),(⟨#[121]⟩:ByteArray)]:List ByteArray))).bind fun W7=>(some (W7.1,W7.2.1,W7.2.2.1,W7.2.2.2)))=some (r1,r2,r3,r4):=by rw [if_neg (show ¬ (false=true) by decide)] at H;exact H
  clear H
  have H:=H1
  clear H1
  obtain ⟨CG2,Ax5⟩:∃ y_:List ByteArray,y_=(([(⟨#[99,97,114,116]⟩:ByteArray),(⟨#[117,115,101,114]⟩:ByteArray),(⟨#[120]⟩:ByteArray),(⟨#[121]⟩:ByteArray)]:List ByteArray)):=⟨_,rfl⟩
  replace H:((Y65.f E2 t193 t194 Ac1 CG2).bind fun W7=>(some (W7.1,W7.2.1,W7.2.2.1,W7.2.2.2)))=some (r1,r2,r3,r4):=by first | (rw [Ax5];with_reducible exact H) | (have H2_:=(Option.bind_some _ _).symm.trans H;rw [Ax5];with_reducible exact H2_) | (have H2_:=(Option.bind_some _ _).symm.trans H;with_reducible exact H2_) | with_reducible exact H | (rw [Ax5];exact H) | exact H
  have B69:=aM Ax5
  clear Ax5
  replace H:=bS H
  obtain ⟨⟨t206,CZ8,t208,CZ9⟩,AF2,H⟩:=H
  replace H:(some (t206,CZ8,t208,CZ9))=some (r1,r2,r3,r4):=H
  have A10:=aM AF2
  clear AF2
  simp only [Option.some.injEq,Prod.mk.injEq] at H
  obtain ⟨rfl,rfl,rfl,rfl⟩:=H
  go_enter Tryz.func33,Tryz.ntmps33
  go_wp2_with (first | ((with_reducible refine gc_ 36 ?_);refine gl_ (some 4) Tryz.func36 #[.pointer (some ⟨g,0,none⟩),.int .i64 20] ?_;(with_reducible refine (Y55.calls g E2 H8 C7 K2 20 false t193 t194 Ac1 w0 _ ?s1 ?s2 A2.out).mono ?_);(case s1=>repeat (first | (with_reducible first | exact HI0.out | apply IsS98.alloc | apply IsS98.drewN | apply IsS98.drew | apply IsS98.set_1 | apply IsS98.set_2 | apply IsS98.set_3) | exact HI0.out));(case s2=>repeat (first | (with_reducible first | exact HB.out | apply below_alloc | apply pw_below_drewN | apply below_drew1 | refine below_set ?_ (IsS98.ge HI0.out)) | exact HB.out));rintro e w11 ⟨rfl,hi,hb,hk⟩;refine ⟨_,rfl,?_⟩;have n0_:=aM (KeepBut.trans (z12_ HK.out) hk (.inl rfl));have n1_:=aM (hb);have n2_:=aM (hi);clear HK;clear HB;clear HI0;have HK:=n0_;have HB:=n1_;have HI0:=n2_;clear n0_ n1_ n2_;(try clear hb);(try clear hk);(try clear hi)) | ((with_reducible refine gd_ 9 ?_);refine Kd.R_lit Kd.string _ 9 ?hg (N:=9) ?hd (xs:=([(⟨#[99,97,114,116]⟩:ByteArray),(⟨#[117,115,101,114]⟩:ByteArray),(⟨#[120]⟩:ByteArray),(⟨#[121]⟩:ByteArray)]:List ByteArray)) (inner:=[.string (⟨#[99,97,114,116]⟩:ByteArray),.string (⟨#[117,115,101,114]⟩:ByteArray),.string (⟨#[120]⟩:ByteArray),.string (⟨#[121]⟩:ByteArray)]) (ok:=fun _=>True) (okp:=fun _=>True) ?hr ?hp (fun _ hk=>hk) trivial (Below.refl _ _) (Nat.le_refl _) (by simp) ?_;(case hd=>rfl);(case hg=>rfl);(case hr=>first | (go_simp;done) | (go_simp;rfl));(case hp=>exact (Reps.one (show Kd.M Kd.string _ _ _ (⟨#[99,97,114,116]⟩:ByteArray) [.string (⟨#[99,97,114,116]⟩:ByteArray)] from rfl) (Reps.one (show Kd.M Kd.string _ _ _ (⟨#[117,115,101,114]⟩:ByteArray) [.string (⟨#[117,115,101,114]⟩:ByteArray)] from rfl) (Reps.one (show Kd.M Kd.string _ _ _ (⟨#[120]⟩:ByteArray) [.string (⟨#[120]⟩:ByteArray)] from rfl) (Reps.one (show Kd.M Kd.string _ _ _ (⟨#[121]⟩:ByteArray) [.string (⟨#[121]⟩:ByteArray)] from rfl) (Reps.none _ _))))));intro v204 w12 Ah0 hb hg_ hnew_;clear hg_ hnew_;(first | rw [← B69.out] at Ah0 | (simp only [Int.reduceToNat] at Ah0;rw [← B69.out] at Ah0));have n0_:=aM (Kd.R_lower Ah0 (keep_size (w:=w) (g:=g) (row:=none) (z12_ HK.out)));have n1_:=aM (IsS98.below (z17_ HI0.out) hb);have n2_:=aM (KeepBut.trans (z12_ HK.out) (KeepBut.of_below hb g none) (.inl rfl));have n3_:=aM (below_step (z15_ HB.out HI0.out) hb);clear HI0;clear HK;clear HB;have Ai3:=n0_;have HI0:=n1_;have HK:=n2_;have HB:=n3_;clear n0_ n1_ n2_ n3_;clear hb Ah0;obtain ⟨C05,C06,C07⟩:=Kd.R_slice Ai3.out;subst C07) | ((with_reducible refine gc_ 63 ?_);refine gl_ (some 10) Tryz.func63 #[.pointer (some ⟨g,0,none⟩),.slice C05 CG2.length C06] ?_;(with_reducible refine (Y65.calls g E2 t193 t194 Ac1 _ _ CG2 t206 CZ8 t208 CZ9 w0 _ ?s1 ?s2 ?s3 ?s4 ?s5 A10.out).mono ?_);(case s1=>repeat (first | (with_reducible first | exact HI0.out | apply IsS98.alloc | apply IsS98.drewN | apply IsS98.drew | apply IsS98.set_1 | apply IsS98.set_2 | apply IsS98.set_3) | exact HI0.out));(case s2=>repeat (first | (with_reducible first | exact HB.out | apply below_alloc | apply pw_below_drewN | apply below_drew1 | refine below_set ?_ (IsS98.ge HI0.out)) | exact HB.out));(case s3=>repeat (first | exact (Kd.R_reads' Ai3.out).2.2 | (with_reducible refine Kd.C_alloc ?_ _) | (with_reducible refine Kd.C_drewN ?_ _) | (with_reducible refine Kd.C_drew ?_)));(case s4=>exact (Kd.R_reads' Ai3.out).2.1);(case s5=>exact far_slice (IsS98.own_ne HI0.out Ai3.out (by decide)));rintro e w15 ⟨rfl,hi,hb,hk⟩;refine ⟨_,rfl,?_⟩;have n0_:=aM (Kd.R_mono (Kd.R_keep (IsS98.apart (show IsS98 w0 _ g E2 t193 t194 Ac1 from by repeat (first | (with_reducible first | exact HI0.out | apply IsS98.alloc | apply IsS98.drewN | apply IsS98.drew | apply IsS98.set_1 | apply IsS98.set_2 | apply IsS98.set_3) | exact HI0.out)) (z0_ Ai3.out) (by decide)) hk (fun _ h=>h.2)) (fun _ h=>h.1));have n1_:=aM (KeepBut.trans (z12_ HK.out) hk (.inl rfl));have n2_:=aM (hb);have n3_:=aM (hi);clear Ai3;clear HK;clear HB;clear HI0;have Ai3:=n0_;have HK:=n1_;have HB:=n2_;have HI0:=n3_;clear n0_ n1_ n2_ n3_;(try clear hb);(try clear hk);(try clear hi)))
  go_ret
  exact ⟨z8_,z17_ HI0.out,z15_ HB.out HI0.out,z12_ HK.out⟩


/-! ### Y79: function 6 -/
def Y79.f (k:Nat) (l0:List Int):Option (Int × (List (S78)) × ByteArray):=(Y20.f k l0).bind fun AL0=>((Y47.f k AL0.1 AL0.2.1 AL0.2.2.1 AL0.2.2.2).bind fun t7=>((Y51.f AL0.1 t7.2.2.1 t7.2.2.2.1 t7.2.2.2.2).bind fun Ai4=>(some (t7.1,t7.2.1,Ai4.1))))
theorem Y79.mono:∀ a0 k,LeO (Y79.f k a0) (Y79.f (k+1) a0):=by
 intro a0 k
 have m0:=@Y20.mono
 have m1:=@Y47.mono
 unfold Y79.f
 exact mO
theorem Y79.calls (k:Nat) (A0:Option Addr) (c0:Nat) (l0:List Int) (r1:Int) (r2:List (S78)) (r3:ByteArray) (w:World) (hr0:Kd.C (Kd.int .u8) w A0 l0.length l0) (hc0:l0.length≤c0) (h:Y79.f k l0=some (r1,r2,r3)) :
  Calls Tryz.prog 6 #[.slice A0 l0.length c0] w fun e w'=>∃ v1_:Value,e = .returned (.tuple #[.agg #[.int .i64 r1,v1_],.string r3])∧Kd.R k78 78 w' w.heap.size (fun _=>True) v1_ r2∧Below w.heap.size w w':=by
 have AD7:=Tryz.underlying27
 have HR0:=aM hr0
 have HC0:=aM hc0
 clear hr0 hc0
 have HB:=aM (Below.refl w.heap.size w)
 have H:((Y20.f k l0).bind fun AL0=>((Y47.f k AL0.1 AL0.2.1 AL0.2.2.1 AL0.2.2.2).bind fun t7=>((Y51.f AL0.1 t7.2.2.1 t7.2.2.2.1 t7.2.2.2.2).bind fun Ai4=>(some (t7.1,t7.2.1,Ai4.1)))))=some (r1,r2,r3):=h
 clear h
 replace H:=bS H
 obtain ⟨⟨Am6,t212,t213,CG3⟩,A20,H⟩:=H
 replace H:((Y47.f k Am6 t212 t213 CG3).bind fun t7=>((Y51.f Am6 t7.2.2.1 t7.2.2.2.1 t7.2.2.2.2).bind fun Ai4=>(some (t7.1,t7.2.1,Ai4.1))))=some (r1,r2,r3):=H
 have A2:=aM A20
 clear A20
 replace H:=bS H
 obtain ⟨⟨AZ1,AQ6,BC1,BC2,t222⟩,A30,H⟩:=H
 replace H:((Y51.f Am6 BC1 BC2 t222).bind fun Ai4=>(some (AZ1,AQ6,Ai4.1)))=some (r1,r2,r3):=H
 have A3:=aM A30
 clear A30
 replace H:=bS H
 obtain ⟨⟨Ca0,C08,t226,t227⟩,A40,H⟩:=H
 replace H:(some (AZ1,AQ6,Ca0))=some (r1,r2,r3):=H
 have A4:=aM A40
 clear A40
 simp only [Option.some.injEq,Prod.mk.injEq] at H
 obtain ⟨rfl,rfl,rfl⟩:=H
 go_enter Tryz.func6,Tryz.ntmps6
 try go_wp2_with (first | ((with_reducible refine gd_ 2 ?_);refine be_ 2 #[.int .i64 0,.slice none 0 0] 27 ?_;intro AA6 hg w5 hbox hb;have n0_:=aM (below_step (z6_ HB.out) hb);have n1_:=aM (hbox);have n2_:=aM ((z7_ HB.out:w.heap.size≤AA6));have n3_:=aM ((z7_ HB.out:w.heap.size≤AA6));clear HB;have HB:=n0_;have R3:=n1_;have GW210:=n2_;have AU5:=n3_;clear n0_ n1_ n2_ n3_;clear hb hbox hg) | ((with_reducible refine gc_ 30 ?_);refine gl_ (some 7) Tryz.func30 #[.slice A0 l0.length c0] ?_;(with_reducible refine (Y20.calls k _ _ l0 Am6 t212 t213 CG3 w _ ?s1 ?s2 ?s3 A2.out).mono ?_);(case s1=>repeat (first | (with_reducible first | exact HB.out | apply below_alloc | apply pw_below_drewN | apply below_drew1 | refine below_set ?_ AU5.out) | exact HB.out));(case s2=>exact HR0.out);(case s3=>exact HC0.out);rintro e w6 ⟨Am7,rfl,hi,hb,hb2⟩;refine ⟨_,rfl,?_⟩;have n0_:=aM (blk_below (g:=AA6) (o:=.cells #[.int .i64 0,.slice none 0 0] 27 (0,0)) (z3_ R3.out) hb2);have n1_:=aM (hb);have n2_:=aM (hi);have n3_:=aM (IsS98.ne_blk hi (blk_below (g:=AA6) (o:=.cells #[.int .i64 0,.slice none 0 0] 27 (0,0)) (z3_ R3.out) hb2) (by decide));have n4_:=aM (Ne.symm (IsS98.ne_blk hi (blk_below (g:=AA6) (o:=.cells #[.int .i64 0,.slice none 0 0] 27 (0,0)) (z3_ R3.out) hb2) (by decide)));clear R3;clear HB;have R3:=n0_;have HB:=n1_;have P7:=n2_;have n5:=n3_;have Ao0:=n4_;clear n0_ n1_ n2_ n3_ n4_;(try clear hb);(try clear hb2);(try clear hi)) | ((with_reducible refine gc_ 32 ?_);refine gl_ (some 9) Tryz.func32 #[.pointer (some ⟨Am7,0,none⟩)] ?_;(with_reducible refine (Y47.calls k Am7 Am6 t212 t213 CG3 AZ1 AQ6 BC1 BC2 t222 w _ ?s1 ?s2 A3.out).mono ?_);(case s1=>repeat (first | (with_reducible first | exact P7.out | apply IsS98.alloc | apply IsS98.drewN | apply IsS98.drew | apply IsS98.set_1 | apply IsS98.set_2 | apply IsS98.set_3 | refine IsS98.far ?_ (by exact n5.out) _) | exact P7.out));(case s2=>repeat (first | (with_reducible first | exact HB.out | apply below_alloc | apply pw_below_drewN | apply below_drew1 | refine below_set ?_ (IsS98.ge P7.out) | refine below_set ?_ AU5.out) | exact HB.out));rintro e w7 ⟨v218,rfl,ho0,hi,hb,hk⟩;refine ⟨_,rfl,?_⟩;have n0_:=aM (KeepBut.blk hk (g':=AA6) (o:=.cells #[.int .i64 0,.slice none 0 0] 27 (0,0)) (z3_ R3.out) Ao0.out (by simp));have n1_:=aM (Kd.R_lower ho0 (below_size (z25_ HB.out P7.out AU5.out)));have n2_:=aM (hb);have n3_:=aM (hi);clear R3;clear HB;clear P7;have R3:=n0_;have AA7:=n1_;have HB:=n2_;have P7:=n3_;clear n0_ n1_ n2_ n3_;(try clear hb);(try clear hk);(try clear hi);(try clear ho0)) | ((with_reducible refine gd_ 5 ?_);refine be_ 5 #[.int .i64 0,.slice none 0 0] 27 ?_;intro d5 hg w8 hbox hb;have n0_:=aM (Kd.R_below (z0_ AA7.out) hb);have n1_:=aM (blkB_ R3.out hb);have n2_:=aM (IsS98.below (z35_ P7.out n5.out) hb);have n3_:=aM (below_step (z25_ HB.out P7.out AU5.out) hb);have n4_:=aM (hbox);have n5_:=aM ((z42_ HB.out P7.out AU5.out:w.heap.size≤d5));have n6_:=aM ((z42_ HB.out P7.out AU5.out:w.heap.size≤d5));have n7_:=aM (neL_ R3.out hg);have n8_:=aM (neG_ R3.out hg);have n9_:=aM ((by rw [hg];exact Nat.ne_of_lt (IsS98.lt (show IsS98 w _ Am7 Am6 BC1 BC2 t222 from by repeat (first | (with_reducible first | exact P7.out | apply IsS98.alloc | apply IsS98.drewN | apply IsS98.drew | apply IsS98.set_1 | apply IsS98.set_2 | apply IsS98.set_3 | refine IsS98.far ?_ (by exact n5.out) _) | exact P7.out))):Am7≠d5));have K9:=aM ((by rw [hg];exact Nat.ne_of_gt (IsS98.lt (show IsS98 w _ Am7 Am6 BC1 BC2 t222 from by repeat (first | (with_reducible first | exact P7.out | apply IsS98.alloc | apply IsS98.drewN | apply IsS98.drew | apply IsS98.set_1 | apply IsS98.set_2 | apply IsS98.set_3 | refine IsS98.far ?_ (by exact n5.out) _) | exact P7.out))):d5≠Am7));clear AA7;clear R3;clear P7;clear HB;have AA7:=n0_;have R3:=n1_;have P7:=n2_;have HB:=n3_;have AC2:=n4_;have GW223:=n5_;have Ba1:=n6_;have AN7:=n7_;have n6:=n8_;have AN8:=n9_;have Ao1:=K9;clear n0_ n1_ n2_ n3_ n4_ n5_ n6_ n7_ n8_ n9_ K9;clear hb hbox hg;have C09:=n6.out;have C10:=AN7.out;have B70:=Ao1.out;have B71:=AN8.out;have ⟨o0,o1,o3,o4⟩:=cz2_ AC2.out;obtain ⟨U4,N5,Ai5⟩:=Kd.R_slice AA7.out;subst Ai5))
 have n0_:Aside0 (Kd.R k78 78 ((w8.setCell ⟨d5,0,none⟩ (.int .i64 AZ1)).setCell ⟨d5,1,none⟩ (.slice U4 AQ6.length N5)) w.heap.size (fun _=>True) (.slice U4 AQ6.length N5) AQ6):=⟨z24_ AA7.out AC2.out⟩
 have n1_:Aside0 (((w8.setCell ⟨d5,0,none⟩ (.int .i64 AZ1)).setCell ⟨d5,1,none⟩ (.slice U4 AQ6.length N5)).heap[AA6]? = some (.cells #[.int .i64 0,.slice none 0 0] 27 (0,0))):=⟨z22_ AN7.out R3.out⟩
 have n2_:Aside0 (((w8.setCell ⟨d5,0,none⟩ (.int .i64 AZ1)).setCell ⟨d5,1,none⟩ (.slice U4 AQ6.length N5)).heap[d5]? = some (.cells #[.int .i64 AZ1,.slice U4 AQ6.length N5] 27 (0,0))):=⟨z18_ AC2.out⟩
 have n3_:Aside0 (IsS98 w ((w8.setCell ⟨d5,0,none⟩ (.int .i64 AZ1)).setCell ⟨d5,1,none⟩ (.slice U4 AQ6.length N5)) Am7 Am6 BC1 BC2 t222):=⟨z30_ P7.out n5.out AN8.out⟩
 have n4_:Aside0 (Below w.heap.size w ((w8.setCell ⟨d5,0,none⟩ (.int .i64 AZ1)).setCell ⟨d5,1,none⟩ (.slice U4 AQ6.length N5))):=⟨z19_ HB.out P7.out AU5.out Ba1.out⟩
 (try clear AA7)
 (try clear R3)
 (try clear AC2)
 (try clear P7)
 (try clear HB)
 generalize ((w8.setCell ⟨d5,0,none⟩ (.int .i64 AZ1)).setCell ⟨d5,1,none⟩ (.slice U4 AQ6.length N5))=w13 at n0_ n1_ n2_ n3_ n4_ ⊢
 have AA7:=n0_
 have R3:=n1_
 have AC2:=n2_
 have P7:=n3_
 have HB:=n4_
 clear n0_ n1_ n2_ n3_ n4_
 have n0_:=aM (Kd.R_drew AA7.out)
 have n1_:=aM (blk_drew R3.out)
 have n2_:=aM (blk_drew AC2.out)
 have n3_:=aM (IsS98.drew P7.out)
 have n4_:=aM (below_drew1 HB.out)
 clear AA7
 clear R3
 clear AC2
 clear P7
 clear HB
 have AA7:=n0_
 have R3:=n1_
 have AC2:=n2_
 have P7:=n3_
 have HB:=n4_
 clear n0_ n1_ n2_ n3_ n4_
 refine start_ (n:=5) (S:=fun w'=>w'.cell? ⟨d5,0,none⟩=some (.int .i64 AZ1)∧w'.cell? ⟨d5,1,none⟩=some (.slice U4 AQ6.length N5)) (ds:=[]) #[O,O,O,O,O] (by kernel_rfl) rfl rfl (cc2_ AC2.out) (fun hHeld=>?_)
 generalize w13.drew=w14 at AA7 R3 AC2 P7 HB hHeld ⊢
 refine pure_ (i:=1) (N:=some 11) (v:=?_) (a':=?_) #[O,I,O,O,O] rfl rfl (by kernel_rfl) (fun _ _ _ h=>h) (Or.inl ⟨by rfl,?_⟩) ?_ ?_
 rotate_left
 ·intro w'
  go_simp
  with_reducible rfl
 rotate_left
 ·simp only [Act.put,sa_,s0_,ss_,i64_w,i32_w]
  rfl
 refine take_ (i:=0) (N:=some 10) (v:=?_) (a':=?_) #[I,I,O,O,O] rfl rfl (by kernel_rfl) (fun _ _ _ h=>h) (Or.inl ⟨by rfl,?_⟩) hHeld ?_ ?_
 rotate_left
 ·rintro w' ⟨s0,s1⟩
  go_simp
  with_reducible rfl
 rotate_left
 ·simp only [Act.put,sa_,s0_,ss_,i64_w,i32_w]
  rfl
 refine one_ (i:=2) (N:=some 12) #[I,I,I,O,O] rfl rfl (by kernel_rfl) (by decide) (fun K hK=>?_)
 refine gs_ Tryz.func33 #[.pointer (some ⟨Am7,0,none⟩)] ?_
 with_reducible refine (Y51.calls Am7 Am6 BC1 BC2 t222 Ca0 C08 t226 t227 w _ ?s1 ?s2 A4.out).mono ?_
 (case s1=>repeat (first | (with_reducible first | exact P7.out | apply IsS98.alloc | apply IsS98.drewN | apply IsS98.drew | apply IsS98.set_1 | apply IsS98.set_2 | apply IsS98.set_3 | refine IsS98.far ?_ (by exact n5.out) _ | refine IsS98.far ?_ (by exact AN8.out) _) | exact P7.out))
 (case s2=>repeat (first | (with_reducible first | exact HB.out | apply below_alloc | apply pw_below_drewN | apply below_drew1 | refine below_set ?_ (IsS98.ge P7.out) | refine below_set ?_ AU5.out | refine below_set ?_ Ba1.out) | exact HB.out))
 rintro e w15 ⟨rfl,hi,hb,hk⟩
 refine ⟨_,rfl,?_⟩
 have n0_:=aM (KeepBut.blk hk (g':=AA6) (o:=.cells #[.int .i64 0,.slice none 0 0] 27 (0,0)) (z3_ R3.out) Ao0.out (by simp))
 have n1_:=aM (Kd.R_mono (Kd.R_keep (IsS98.apart (show IsS98 w _ Am7 Am6 BC1 BC2 t222 from by repeat (first | (with_reducible first | exact P7.out | apply IsS98.alloc | apply IsS98.drewN | apply IsS98.drew | apply IsS98.set_1 | apply IsS98.set_2 | apply IsS98.set_3 | refine IsS98.far ?_ (by exact n5.out) _ | refine IsS98.far ?_ (by exact AN8.out) _) | exact P7.out)) (z0_ AA7.out) (by decide)) hk (fun _ h=>h.2)) (fun _ h=>h.1))
 have n2_:=aM (KeepBut.blk hk (g':=d5) (o:=.cells #[.int .i64 AZ1,.slice U4 AQ6.length N5] 27 (0,0)) (z3_ AC2.out) Ao1.out (by simp))
 have n3_:=aM (hb)
 have n4_:=aM (hi)
 clear R3
 clear AA7
 clear AC2
 clear HB
 clear P7
 have R3:=n0_
 have AA7:=n1_
 have AC2:=n2_
 have HB:=n3_
 have P7:=n4_
 clear n0_ n1_ n2_ n3_ n4_
 (try clear hb)
 (try clear hk)
 (try clear hi)
 refine hK.out _ _ (cc2_ AC2.out) (fun hHeld=>?_)
 clear hK K
 refine nm_ 12 ?_
 refine one_ (i:=3) (N:=none) #[I,I,I,I,O] rfl rfl (by kernel_rfl) (by decide) (fun K hK=>?_)
 have hs16:w15.cell? ⟨AA6,0,none⟩=some (.int .i64 0):=(blk_cell R3.out 0).trans rfl
 have hfs16:=blk_frozen R3.out 0
 have hns16_1:=n6.out
 have hms16_1:=AN7.out
 have C11:w15.cell? ⟨AA6,1,none⟩=some (.slice none 0 0):=(blk_cell R3.out 1).trans rfl
 have Ca1:=blk_frozen R3.out 1
 have Br1:=n6.out
 have Br2:=AN7.out
 refine skip_ (w1:=?_) (by rfl) rfl ?_ ?_
 rotate_left
 ·go_simp
  rfl
 refine hK.out _ _ ⟨((cell_far (p:=⟨AA6,_,none⟩) n6.out _).trans (((cell_far (p:=⟨AA6,_,none⟩) n6.out _).trans (hHeld.1)))),((cell_far (p:=⟨AA6,_,none⟩) n6.out _).trans (((cell_far (p:=⟨AA6,_,none⟩) n6.out _).trans (hHeld.2))))⟩ (fun hHeld=>?_)
 clear hK K
 refine pure_ (i:=4) (N:=some 3) (v:=?_) (a':=?_) #[I,I,I,I,I] rfl rfl (by kernel_rfl) (fun _ _ _ h=>h) (Or.inl ⟨by rfl,?_⟩) ?_ ?_
 rotate_left
 ·intro w'
  go_simp
  with_reducible rfl
 rotate_left
 ·simp only [Act.put,sa_,s0_,ss_,i64_w,i32_w]
  rfl
 refine done_ (by kernel_rfl) ?_
 try go_wp2
 refine bodyPost_ret (results_ct rfl _ _ AA6 27 #[.int .i64 AZ1,.slice U4 AQ6.length N5] (0,0) _ rfl (z18_ R3.out) Tryz.underlying27 rfl (by kernel_rfl)) rfl ?_
 exact ⟨_,z8_,z24_ AA7.out R3.out,z19_ HB.out P7.out AU5.out Ba1.out⟩


/-! ### Y59: function 42 -/
def Y59.f (a0:Int) (a1:Int) (a2:Int):Option (Bool):=if a1≤a0 then (some (decide (a0≤a2))) else (some false)
theorem Y59.calls (a0:Int) (a1:Int) (a2:Int) (r:Bool) (w:World) (h:Y59.f a0 a1 a2=some r) :
  Calls Tryz.prog 42 #[.int .i64 a0,.int .i64 a1,.int .i64 a2] w fun e w'=>e = .returned (.bool r)∧Drawn0 w w':=by
 have H:(if a1≤a0 then (some (decide (a0≤a2))) else (some false))=some r:=h
 clear h
 by_cases c4:a1≤a0
 ·rw [if_pos c4] at H
  have c4b0:decide (a1≤a0)=true:=dE c4
  clear c4
  obtain rfl:=sI H
  go_enter Tryz.func42,Tryz.ntmps42
  go_wp2
  go_ret
  exact ⟨z2_,z5_⟩
 ·rw [if_neg c4] at H
  have c4b0:decide (a1≤a0)=false:=dF c4
  clear c4
  obtain rfl:=sI H
  go_enter Tryz.func42,Tryz.ntmps42
  go_wp2
  go_ret
  exact ⟨z2_,z5_⟩


/-! ### Y62: function 38 -/
def Y62.f (a0:Int):Option (Bool):=(Y59.f a0 1 5).bind fun t228=>(some t228)
theorem Y62.calls (a0:Int) (r:Bool) (w:World) (h:Y62.f a0=some r) :
  Calls Tryz.prog 38 #[.int .i64 a0] w fun e w'=>e = .returned (.bool r)∧Drawn0 w w':=by
 have H:((Y59.f a0 1 5).bind fun t228=>(some t228))=some r:=h
 clear h
 replace H:=bS H
 obtain ⟨t228,A20,H⟩:=H
 replace H:(some t228)=some r:=H
 have A2:=aM A20
 clear A20
 obtain rfl:=sI H
 go_enter Tryz.func38,Tryz.ntmps38
 go_wp2_with (first | ((with_reducible refine gc_ 42 ?_);refine gl_ (some 4) Tryz.func42 #[.int .i64 a0,.int .i64 1,.int .i64 5] ?_;(with_reducible refine (Y59.calls a0 1 5 t228 _ A2.out).mono ?_);rintro e w' ⟨rfl,⟨nd,rfl⟩⟩;refine ⟨_,rfl,?_⟩))
 go_ret
 exact ⟨z2_,z5_⟩


/-! ### Y56: function 54 -/
def Y56.l0:Nat→ByteArray→Int→Int→Int→Option (Int)
 | 0,_,_,_,_=>none
 | k+1,x0,x3,x6,x7=>if x7<x6 then (if 0≤x7 then (if x7<(x0.size:Int) then (Y56.l0 k x0 (((Go.bits .xor .u32 x3 ((bt x0 x7) % 4294967296))*16777619) % 4294967296) x6 (wrap64 (x7+1))) else (none)) else (none)) else (some (wrap64 (x3)))
def Y56.f (k:Nat) (a0:ByteArray):Option (Int):=Y56.l0 k a0 2166136261 (a0.size:Int) 0
theorem Y56.mono_l:∀ k,(∀ y0 y1 y2 y3,LeO (Y56.l0 k y0 y1 y2 y3) (Y56.l0 (k+1) y0 y1 y2 y3))
 | 0=>by intros <;> exact LeO.none _
 | k+1=>by
  have ih0:=Y56.mono_l k
  ·intros
   unfold Y56.l0
   exact mO
theorem Y56.mono:∀ a0 k,LeO (Y56.f k a0) (Y56.f (k+1) a0):=by
 intro a0 k
 have ih0:=Y56.mono_l k
 unfold Y56.f
 exact mO
theorem Y56.calls (k:Nat) (a0:ByteArray) (r:Int) (w:World) (h:Y56.f k a0=some r) :
  Calls Tryz.prog 54 #[.string a0] w fun e w'=>e = .returned (.int .i64 r)∧Drawn0 w w':=by
 have H:(Y56.l0 k a0 2166136261 (a0.size:Int) 0)=some r:=h
 clear h
 have H':=aM H
 clear H
 go_enter Tryz.func54,Tryz.ntmps54
 go_wp2
 go_loopg [3,7] k (fun kq v3 v7 w'=>∃ (I0:Int) (AQ7:Int),v3 = .int .u32 I0∧v7 = .int .i64 AQ7∧Aside0 (Y56.l0 kq a0 I0 (a0.size:Int) AQ7=some r)∧Aside0 (kq≤k)∧Drawn0 w w')
 case atStart=>exact ⟨(2166136261),(0),(z2_),(z2_),H',⟨Nat.le_refl _⟩,z5_⟩
 case round =>
  clear H'
  obtain ⟨I0,AQ7,rfl,rfl,HA,HK1,⟨m1,rfl⟩⟩:=hrel
  cases gk with
  | zero=>exact absurd HA.out (by simp [Y56.l0])
  | succ k1 =>
   have H:=HA.out
   clear HA
   simp only [Y56.l0] at H
   by_cases c2:AQ7<(a0.size:Int)
   ·rw [if_pos c2] at H
    have c2b0:decide (AQ7<(a0.size:Int))=true:=dE c2
    clear c2
    by_cases c3:0≤AQ7
    ·rw [if_pos c3] at H
     have c3b0:decide (0≤AQ7)=true:=dE c3
     clear c3
     by_cases c4:AQ7<(a0.size:Int)
     ·rw [if_pos c4] at H
      have c4b0:decide (AQ7<(a0.size:Int))=true:=dE c4
      clear c4
      have H':=aM H
      clear H
      have p5:0≤(AQ7:Int):=dT (z1_)
      have q5:AQ7<(a0.size:Int):=dT (z1_)
      have hx5:=bt_at a0 AQ7
      replace p5:=eq_true p5
      replace q5:=eq_true q5
      go_wp2
      go_roundg k1
      case measure=>have:=HK1.out;omega
      case rel=>exact ⟨(((Go.bits .xor .u32 I0 ((bt a0 AQ7) % 4294967296))*16777619) % 4294967296),(wrap64 (AQ7+1)),(z2_),(z2_),H',⟨by have:=HK1.out;omega⟩,z5_⟩
     ·rw [if_neg c4] at H
      exact nO H
    ·rw [if_neg c3] at H
     exact nO H
   ·rw [if_neg c2] at H
    have c2b0:decide (AQ7<(a0.size:Int))=false:=dF c2
    clear c2
    obtain rfl:=sI H
    go_wp2
    go_ret
    exact ⟨z2_,z5_⟩


/-! ### Y91: function 148 -/
def Y91.f (a0:Int):Option (ByteArray):=if a0<10 then (if 0≤a0 then (if a0≤(wrap64 (a0+1)) then (if (wrap64 (a0+1))≤36 then (some ((⟨#[48,49,50,51,52,53,54,55,56,57,97,98,99,100,101,102,103,104,105,106,107,108,109,110,111,112,113,114,115,116,117,118,119,120,121,122]⟩:ByteArray).extract (a0:Int).toNat ((wrap64 (a0+1)):Int).toNat)) else (none)) else (none)) else (none)) else (if 0≤(wrap64 (a0*2)) then (if (wrap64 (a0*2))≤(wrap64 ((wrap64 (a0*2))+2)) then (if (wrap64 ((wrap64 (a0*2))+2))≤200 then (some ((⟨#[48,48,48,49,48,50,48,51,48,52,48,53,48,54,48,55,48,56,48,57,49,48,49,49,49,50,49,51,49,52,49,53,49,54,49,55,49,56,49,57,50,48,50,49,50,50,50,51,50,52,50,53,50,54,50,55,50,56,50,57,51,48,51,49,51,50,51,51,51,52,51,53,51,54,51,55,51,56,51,57,52,48,52,49,52,50,52,51,52,52,52,53,52,54,52,55,52,56,52,57,53,48,53,49,53,50,53,51,53,52,53,53,53,54,53,55,53,56,53,57,54,48,54,49,54,50,54,51,54,52,54,53,54,54,54,55,54,56,54,57,55,48,55,49,55,50,55,51,55,52,55,53,55,54,55,55,55,56,55,57,56,48,56,49,56,50,56,51,56,52,56,53,56,54,56,55,56,56,56,57,57,48,57,49,57,50,57,51,57,52,57,53,57,54,57,55,57,56,57,57]⟩:ByteArray).extract ((wrap64 (a0*2)):Int).toNat ((wrap64 ((wrap64 (a0*2))+2)):Int).toNat)) else (none)) else (none)) else (none))
theorem Y91.calls (a0:Int) (r:ByteArray) (w:World) (h:Y91.f a0=some r) :
  Calls Tryz.prog 148 #[.int .i64 a0] w fun e w'=>e = .returned (.string r)∧Drawn0 w w':=by
 have H:(if a0<10 then (if 0≤a0 then (if a0≤(wrap64 (a0+1)) then (if (wrap64 (a0+1))≤36 then (some ((⟨#[48,49,50,51,52,53,54,55,56,57,97,98,99,100,101,102,103,104,105,106,107,108,109,110,111,112,113,114,115,116,117,118,119,120,121,122]⟩:ByteArray).extract (a0:Int).toNat ((wrap64 (a0+1)):Int).toNat)) else (none)) else (none)) else (none)) else (if 0≤(wrap64 (a0*2)) then (if (wrap64 (a0*2))≤(wrap64 ((wrap64 (a0*2))+2)) then (if (wrap64 ((wrap64 (a0*2))+2))≤200 then (some ((⟨#[48,48,48,49,48,50,48,51,48,52,48,53,48,54,48,55,48,56,48,57,49,48,49,49,49,50,49,51,49,52,49,53,49,54,49,55,49,56,49,57,50,48,50,49,50,50,50,51,50,52,50,53,50,54,50,55,50,56,50,57,51,48,51,49,51,50,51,51,51,52,51,53,51,54,51,55,51,56,51,57,52,48,52,49,52,50,52,51,52,52,52,53,52,54,52,55,52,56,52,57,53,48,53,49,53,50,53,51,53,52,53,53,53,54,53,55,53,56,53,57,54,48,54,49,54,50,54,51,54,52,54,53,54,54,54,55,54,56,54,57,55,48,55,49,55,50,55,51,55,52,55,53,55,54,55,55,55,56,55,57,56,48,56,49,56,50,56,51,56,52,56,53,56,54,56,55,56,56,56,57,57,48,57,49,57,50,57,51,57,52,57,53,57,54,57,55,57,56,57,57]⟩:ByteArray).extract ((wrap64 (a0*2)):Int).toNat ((wrap64 ((wrap64 (a0*2))+2)):Int).toNat)) else (none)) else (none)) else (none)))=some r:=h
 clear h
 by_cases c2:a0<10
 ·rw [if_pos c2] at H
  have c2b0:decide (a0<10)=true:=dE c2
  clear c2
  by_cases c3:0≤a0
  ·rw [if_pos c3] at H
   have c3b0:=eq_true c3
   have c3b1:decide (0≤a0)=true:=dE c3
   clear c3
   by_cases c4:a0≤(wrap64 (a0+1))
   ·rw [if_pos c4] at H
    have c4b0:=eq_true c4
    have c4b1:decide (a0≤(wrap64 (a0+1)))=true:=dE c4
    by_cases c5:(wrap64 (a0+1))≤36
    ·rw [if_pos c5] at H
     have c5b0:=eq_true c5
     have c5b1:decide ((wrap64 (a0+1))≤36)=true:=dE c5
     obtain rfl:=sI H
     go_enter Tryz.func148,Tryz.ntmps148
     go_wp2
     go_ret
     exact ⟨z2_,z5_⟩
    ·rw [if_neg c5] at H
     exact nO H
   ·rw [if_neg c4] at H
    exact nO H
  ·rw [if_neg c3] at H
   exact nO H
 ·rw [if_neg c2] at H
  have c2b0:decide (a0<10)=false:=dF c2
  clear c2
  obtain ⟨ji6,Am8⟩:∃ j_:Int,(wrap64 (a0*2))=j_:=⟨_,rfl⟩
  replace H:(if 0≤(ji6) then (if (ji6)≤(wrap64 ((ji6)+2)) then (if (wrap64 ((ji6)+2))≤200 then (some ((⟨#[48,48,48,49,48,50,48,51,48,52,48,53,48,54,48,55,48,56,48,57,49,48,49,49,49,50,49,51,49,52,49,53,49,54,49,55,49,56,49,57,50,48,50,49,50,50,50,51,50,52,50,53,50,54,50,55,50,56,50,57,51,48,51,49,51,50,51,51,51,52,51,53,51,54,51,55,51,56,51,57,52,48,52,49,52,50,52,51,52,52,52,53,52,54,52,55,52,56,52,57,53,48,53,49,53,50,53,51,53,52,53,53,53,54,53,55,53,56,53,57,54,48,54,49,54,50,54,51,54,52,54,53,54,54,54,55,54,56,54,57,55,48,55,49,55,50,55,51,55,52,55,53,55,54,55,55,55,56,55,57,56,48,56,49,56,50,56,51,56,52,56,53,56,54,56,55,56,56,56,57,57,48,57,49,57,50,57,51,57,52,57,53,57,54,57,55,57,56,57,57]⟩:ByteArray).extract ((ji6):Int).toNat ((wrap64 ((ji6)+2)):Int).toNat)) else (none)) else (none)) else (none))=some r:=by first | (rw [Am8] at H;exact H) | (simp only [Am8] at H ⊢;exact H)
  have hji6w:(IntKind.i64.wrap (a0*2))=ji6:=(i64_w _).trans Am8
  by_cases c7:0≤(ji6)
  ·rw [if_pos c7] at H
   have c7b0:=eq_true c7
   have c7b1:decide (0≤(ji6))=true:=dE c7
   clear c7
   by_cases c8:(ji6)≤(wrap64 ((ji6)+2))
   ·rw [if_pos c8] at H
    have c8b0:=eq_true c8
    have c8b1:decide ((ji6)≤(wrap64 ((ji6)+2)))=true:=dE c8
    by_cases c9:(wrap64 ((ji6)+2))≤200
    ·rw [if_pos c9] at H
     have c9b0:=eq_true c9
     have c9b1:decide ((wrap64 ((ji6)+2))≤200)=true:=dE c9
     obtain rfl:=sI H
     go_enter Tryz.func148,Tryz.ntmps148
     go_wp2
     go_ret
     exact ⟨by first | rfl | (simp;done) | (simp only [← Am8] <;> (first | rfl | simp)) | (simp [*];done),z5_⟩
    ·rw [if_neg c9] at H
     exact nO H
   ·rw [if_neg c8] at H
    exact nO H
  ·rw [if_neg c7] at H
   exact nO H


/-! ### Y39: function 126 -/
def Y39.j0:Nat→Int→Bool→Option (ByteArray)
 | 0,_,_=>none
 | k+1,x0,x17=>if x17=true then ((Y91.f x0).bind fun t229=>(some t229)) else (none)
def Y39.f (k:Nat) (a0:Int) (a1:Int):Option (ByteArray):=if a1=10 then (if 0≤a0 then (Y39.j0 k a0 (decide (a0<100))) else (Y39.j0 k a0 false)) else (none)
theorem Y39.mono_l:∀ k,(∀ y0 y1,LeO (Y39.j0 k y0 y1) (Y39.j0 (k+1) y0 y1))
 | 0=>by intros <;> exact LeO.none _
 | k+1=>by
  have ih0:=Y39.mono_l k
  ·intros
   unfold Y39.j0
   exact mO
theorem Y39.mono:∀ a0 a1 k,LeO (Y39.f k a0 a1) (Y39.f (k+1) a0 a1):=by
 intro a0 a1 k
 have ih0:=Y39.mono_l k
 unfold Y39.f
 exact mO
theorem Y39.calls (k:Nat) (a0:Int) (a1:Int) (r:ByteArray) (w:World) (h:Y39.f k a0 a1=some r) :
  Calls Tryz.prog 126 #[.int .i64 a0,.int .i64 a1] w fun e w'=>e = .returned (.string r)∧Drawn0 w w':=by
 have H:(if a1=10 then (if 0≤a0 then (Y39.j0 k a0 (decide (a0<100))) else (Y39.j0 k a0 false)) else (none))=some r:=h
 clear h
 by_cases c3:a1=10
 ·rw [if_pos c3] at H
  have c3b0:(a1 == 10)=true:=beq_iff_eq.mpr c3
  have c3b1:(a1 != 10)=false:=bne_eq_false_iff_eq.mpr c3
  clear c3
  have HC4:=aM H
  clear H
  go_enter Tryz.func126,Tryz.ntmps126
  go_upto_region 2 with (fail)
  go_cut [17] (fun v17 wc=>∃ (kq:Nat) (BM0:Bool),v17 = .bool BM0∧Aside0 (Y39.j0 kq a0 BM0=some r)∧Aside0 (kq≤k)∧Drawn0 w wc)
  case first =>
   have H:=HC4.out
   clear HC4
   by_cases c5:0≤a0
   ·rw [if_pos c5] at H
    have c5b0:decide (0≤a0)=true:=dE c5
    clear c5
    (first | rw [c5b0] | (simp only [i64_w,i32_w];rw [c5b0]) | skip)
    have H':=aM H
    clear H
    go_wp2
    go_meet
    case rel=>exact ⟨_,(decide (a0<100)),(z2_),H',⟨by first | omega | exact Nat.le_refl _⟩,z5_⟩
   ·rw [if_neg c5] at H
    have c5b0:decide (0≤a0)=false:=dF c5
    clear c5
    (first | rw [c5b0] | (simp only [i64_w,i32_w];rw [c5b0]) | skip)
    have H':=aM H
    clear H
    go_wp2
    go_meet
    case rel=>exact ⟨_,(false),(z2_),H',⟨by first | omega | exact Nat.le_refl _⟩,z5_⟩
  case rest =>
   clear HC4
   try clear c1
   try clear p2
   try clear c3
   try clear c3b0
   try clear c3b1
   try clear c5
   try clear c5b0
   obtain ⟨kq,BM0,rfl,HA,HJ3,⟨mc3,rfl⟩⟩:=hcut
   cases kq with
   | zero=>exact absurd HA.out (by simp [Y39.j0])
   | succ kj3 =>
    have H:=HA.out
    clear HA
    simp only [Y39.j0] at H
    by_cases c6:BM0=true
    ·subst c6
     have H1:((Y91.f a0).bind fun t229=>(some t229))=some r:=by rw [if_pos rfl] at H;exact H
     clear H
     have H:=H1
     clear H1
     replace H:=bS H
     obtain ⟨t229,A70,H⟩:=H
     replace H:(some t229)=some r:=H
     have A7:=aM A70
     clear A70
     obtain rfl:=sI H
     go_wp2_with (first | ((with_reducible refine gc_ 148 ?_);refine gl_ (some 19) Tryz.func148 #[.int .i64 a0] ?_;(with_reducible refine (Y91.calls a0 t229 _ A7.out).mono ?_);rintro e w' ⟨rfl,⟨nd,rfl⟩⟩;refine ⟨_,rfl,?_⟩))
     go_ret
     exact ⟨z2_,z5_⟩
    ·replace c6:=Bool.eq_false_iff.mpr c6
     subst c6
     have H1:(none)=some r:=by rw [if_neg (show ¬ (false=true) by decide)] at H;exact H
     clear H
     have H:=H1
     clear H1
     exact nO H
 ·rw [if_neg c3] at H
  exact nO H


/-! ### Y73: function 102 -/
def Y73.f (k:Nat) (a0:Int) (a1:Int):Option (ByteArray):=(Y39.f k a0 a1).bind fun BQ9=>(some BQ9)
theorem Y73.mono:∀ a0 a1 k,LeO (Y73.f k a0 a1) (Y73.f (k+1) a0 a1):=by
 intro a0 a1 k
 have m0:=@Y39.mono
 unfold Y73.f
 exact mO
theorem Y73.calls (k:Nat) (a0:Int) (a1:Int) (r:ByteArray) (w:World) (h:Y73.f k a0 a1=some r) :
  Calls Tryz.prog 102 #[.int .i64 a0,.int .i64 a1] w fun e w'=>e = .returned (.string r)∧Drawn0 w w':=by
 have H:((Y39.f k a0 a1).bind fun BQ9=>(some BQ9))=some r:=h
 clear h
 replace H:=bS H
 obtain ⟨BQ9,A30,H⟩:=H
 replace H:(some BQ9)=some r:=H
 have A3:=aM A30
 clear A30
 obtain rfl:=sI H
 go_enter Tryz.func102,Tryz.ntmps102
 go_wp2_with (first | ((with_reducible refine gc_ 126 ?_);refine gl_ (some 7) Tryz.func126 #[.int .i64 a0,.int .i64 a1] ?_;(with_reducible refine (Y39.calls k a0 a1 BQ9 _ A3.out).mono ?_);rintro e w' ⟨rfl,⟨nd,rfl⟩⟩;refine ⟨_,rfl,?_⟩))
 go_ret
 exact ⟨z2_,z5_⟩


/-! ### Y82: function 70 -/
def Y82.f (k:Nat) (a0:Int):Option (ByteArray):=(Y73.f k a0 10).bind fun BR0=>(some BR0)
theorem Y82.mono:∀ a0 k,LeO (Y82.f k a0) (Y82.f (k+1) a0):=by
 intro a0 k
 have m0:=@Y73.mono
 unfold Y82.f
 exact mO
theorem Y82.calls (k:Nat) (a0:Int) (r:ByteArray) (w:World) (h:Y82.f k a0=some r) :
  Calls Tryz.prog 70 #[.int .i64 a0] w fun e w'=>e = .returned (.string r)∧Drawn0 w w':=by
 have H:((Y73.f k a0 10).bind fun BR0=>(some BR0))=some r:=h
 clear h
 replace H:=bS H
 obtain ⟨BR0,A20,H⟩:=H
 replace H:(some BR0)=some r:=H
 have A2:=aM A20
 clear A20
 obtain rfl:=sI H
 go_enter Tryz.func70,Tryz.ntmps70
 go_wp2_with (first | ((with_reducible refine gc_ 102 ?_);refine gl_ (some 4) Tryz.func102 #[.int .i64 a0,.int .i64 10] ?_;(with_reducible refine (Y73.calls k a0 10 BR0 _ A2.out).mono ?_);rintro e w' ⟨rfl,⟨nd,rfl⟩⟩;refine ⟨_,rfl,?_⟩))
 go_ret
 exact ⟨z2_,z5_⟩


/-! ### Y58: function 136 -/
mutual
def Y58.j0:Nat→Int→Int→Option (Int)
 | 0,_,_=>none
 | k+1,x0,x2=>if x0≥65536 then (Y58.j1 k (x0 / 65536) (wrap64 (x2+16))) else (Y58.j1 k x0 x2)
def Y58.j1:Nat→Int→Int→Option (Int)
 | 0,_,_=>none
 | k+1,x0,x2=>if x0≥256 then (if 0≤((x0 / 256) % 256) then (if ((x0 / 256) % 256)<256 then (some (wrap64 ((wrap64 (x2+8))+(wrap64 (bt (⟨#[0,1,2,2,3,3,3,3,4,4,4,4,4,4,4,4,5,5,5,5,5,5,5,5,5,5,5,5,5,5,5,5,6,6,6,6,6,6,6,6,6,6,6,6,6,6,6,6,6,6,6,6,6,6,6,6,6,6,6,6,6,6,6,6,7,7,7,7,7,7,7,7,7,7,7,7,7,7,7,7,7,7,7,7,7,7,7,7,7,7,7,7,7,7,7,7,7,7,7,7,7,7,7,7,7,7,7,7,7,7,7,7,7,7,7,7,7,7,7,7,7,7,7,7,7,7,7,7,8,8,8,8,8,8,8,8,8,8,8,8,8,8,8,8,8,8,8,8,8,8,8,8,8,8,8,8,8,8,8,8,8,8,8,8,8,8,8,8,8,8,8,8,8,8,8,8,8,8,8,8,8,8,8,8,8,8,8,8,8,8,8,8,8,8,8,8,8,8,8,8,8,8,8,8,8,8,8,8,8,8,8,8,8,8,8,8,8,8,8,8,8,8,8,8,8,8,8,8,8,8,8,8,8,8,8,8,8,8,8,8,8,8,8,8,8,8,8,8,8,8,8,8,8,8,8,8]⟩:ByteArray) ((x0 / 256) % 256)))))) else (none)) else (none)) else (if 0≤((x0) % 256) then (if ((x0) % 256)<256 then (some (wrap64 (x2+(wrap64 (bt (⟨#[0,1,2,2,3,3,3,3,4,4,4,4,4,4,4,4,5,5,5,5,5,5,5,5,5,5,5,5,5,5,5,5,6,6,6,6,6,6,6,6,6,6,6,6,6,6,6,6,6,6,6,6,6,6,6,6,6,6,6,6,6,6,6,6,7,7,7,7,7,7,7,7,7,7,7,7,7,7,7,7,7,7,7,7,7,7,7,7,7,7,7,7,7,7,7,7,7,7,7,7,7,7,7,7,7,7,7,7,7,7,7,7,7,7,7,7,7,7,7,7,7,7,7,7,7,7,7,7,8,8,8,8,8,8,8,8,8,8,8,8,8,8,8,8,8,8,8,8,8,8,8,8,8,8,8,8,8,8,8,8,8,8,8,8,8,8,8,8,8,8,8,8,8,8,8,8,8,8,8,8,8,8,8,8,8,8,8,8,8,8,8,8,8,8,8,8,8,8,8,8,8,8,8,8,8,8,8,8,8,8,8,8,8,8,8,8,8,8,8,8,8,8,8,8,8,8,8,8,8,8,8,8,8,8,8,8,8,8,8,8,8,8,8,8,8,8,8,8,8,8,8,8,8,8,8,8]⟩:ByteArray) ((x0) % 256)))))) else (none)) else (none))
end
def Y58.f (k:Nat) (a0:Int):Option (Int):=if a0≥4294967296 then (Y58.j0 k (a0 / 4294967296) 32) else (Y58.j0 k a0 0)
theorem Y58.mono_l:∀ k,(∀ y0 y1,LeO (Y58.j0 k y0 y1) (Y58.j0 (k+1) y0 y1))∧(∀ y0 y1,LeO (Y58.j1 k y0 y1) (Y58.j1 (k+1) y0 y1))
 | 0=>by refine ⟨?_,?_⟩ <;> intros <;> exact LeO.none _
 | k+1=>by
  obtain ⟨ih0,ih1⟩:=Y58.mono_l k
  refine ⟨?_,?_⟩
  ·intros
   unfold Y58.j0
   exact mO
  ·intros
   unfold Y58.j1
   exact mO
theorem Y58.mono:∀ a0 k,LeO (Y58.f k a0) (Y58.f (k+1) a0):=by
 intro a0 k
 obtain ⟨ih0,ih1⟩:=Y58.mono_l k
 unfold Y58.f
 exact mO
theorem Y58.calls (k:Nat) (a0:Int) (r:Int) (w:World) (h:Y58.f k a0=some r) :
  Calls Tryz.prog 136 #[.int .u64 a0] w fun e w'=>e = .returned (.int .i64 r)∧Drawn0 w w':=by
 have H:(if a0≥4294967296 then (Y58.j0 k (a0 / 4294967296) 32) else (Y58.j0 k a0 0))=some r:=h
 clear h
 have HC2:=aM H
 clear H
 go_enter Tryz.func136,Tryz.ntmps136
 go_upto_if 4 with (fail)
 go_cut [0,2] (fun v0 v2 wc=>∃ (kq:Nat) (D4:Int) (F5:Int),v0 = .int .u64 D4∧v2 = .int .i64 F5∧Aside0 (Y58.j0 kq D4 F5=some r)∧Aside0 (kq≤k)∧Drawn0 w wc)
 case first =>
  have H:=HC2.out
  clear HC2
  by_cases c3:a0≥4294967296
  ·rw [if_pos c3] at H
   have c3b0:decide (4294967296≤a0)=true:=dE c3
   clear c3
   (first | rw [c3b0] | (simp only [i64_w,i32_w];rw [c3b0]) | skip)
   have H':=aM H
   clear H
   go_wp2
   go_meet
   case rel=>exact ⟨_,(a0 / 4294967296),(32),(z2_),(z2_),H',⟨by first | omega | exact Nat.le_refl _⟩,z5_⟩
  ·rw [if_neg c3] at H
   have c3b0:decide (4294967296≤a0)=false:=dF c3
   clear c3
   (first | rw [c3b0] | (simp only [i64_w,i32_w];rw [c3b0]) | skip)
   have H':=aM H
   clear H
   go_wp2
   go_meet
   case rel=>exact ⟨_,(a0),(0),(z2_),(z2_),H',⟨by first | omega | exact Nat.le_refl _⟩,z5_⟩
 case rest =>
  clear HC2
  try clear c1
  try clear p2
  try clear c3
  try clear c3b0
  obtain ⟨kq,D4,F5,rfl,rfl,HA,HJ1,⟨mc1,rfl⟩⟩:=hcut
  cases kq with
  | zero=>exact absurd HA.out (by simp [Y58.j0])
  | succ kj1 =>
   have H:=HA.out
   clear HA
   simp only [Y58.j0] at H
   have HC4:=aM H
   clear H
   go_upto_if 8 with (fail)
   go_cut [0,2] (fun v0 v2 wc=>∃ (kq:Nat) (Ax6:Int) (Ba2:Int),v0 = .int .u64 Ax6∧v2 = .int .i64 Ba2∧Aside0 (Y58.j1 kq Ax6 Ba2=some r)∧Aside0 (kq≤kj1)∧Drawn0 w wc)
   case first =>
    have H:=HC4.out
    clear HC4
    by_cases c5:D4≥65536
    ·rw [if_pos c5] at H
     have c5b0:decide (65536≤D4)=true:=dE c5
     clear c5
     (first | rw [c5b0] | (simp only [i64_w,i32_w];rw [c5b0]) | skip)
     have H':=aM H
     clear H
     go_wp2
     go_meet
     case rel=>exact ⟨_,(D4 / 65536),(wrap64 (F5+16)),(z2_),(z2_),H',⟨z21_ HJ1.out⟩,z5_⟩
    ·rw [if_neg c5] at H
     have c5b0:decide (65536≤D4)=false:=dF c5
     clear c5
     (first | rw [c5b0] | (simp only [i64_w,i32_w];rw [c5b0]) | skip)
     have H':=aM H
     clear H
     go_wp2
     go_meet
     case rel=>exact ⟨_,(D4),(F5),(z2_),(z2_),H',⟨z21_ HJ1.out⟩,z5_⟩
   case rest =>
    clear HC4
    try clear c1
    try clear p2
    try clear c3
    try clear c3b0
    try clear c5
    try clear c5b0
    try clear p2
    obtain ⟨kq,Ax6,Ba2,rfl,rfl,HA,HJ3,⟨mc3,rfl⟩⟩:=hcut
    cases kq with
    | zero=>exact absurd HA.out (by simp [Y58.j1])
    | succ kj3 =>
     have H:=HA.out
     clear HA
     simp only [Y58.j1] at H
     by_cases c6:Ax6≥256
     ·rw [if_pos c6] at H
      have c6b0:decide (256≤Ax6)=true:=dE c6
      clear c6
      obtain ⟨ji7,CG4⟩:∃ j_:Int,((Ax6 / 256) % 256)=j_:=⟨_,rfl⟩
      replace H:(if 0≤(ji7) then (if (ji7)<256 then (some (wrap64 ((wrap64 (Ba2+8))+(wrap64 (bt (⟨#[0,1,2,2,3,3,3,3,4,4,4,4,4,4,4,4,5,5,5,5,5,5,5,5,5,5,5,5,5,5,5,5,6,6,6,6,6,6,6,6,6,6,6,6,6,6,6,6,6,6,6,6,6,6,6,6,6,6,6,6,6,6,6,6,7,7,7,7,7,7,7,7,7,7,7,7,7,7,7,7,7,7,7,7,7,7,7,7,7,7,7,7,7,7,7,7,7,7,7,7,7,7,7,7,7,7,7,7,7,7,7,7,7,7,7,7,7,7,7,7,7,7,7,7,7,7,7,7,8,8,8,8,8,8,8,8,8,8,8,8,8,8,8,8,8,8,8,8,8,8,8,8,8,8,8,8,8,8,8,8,8,8,8,8,8,8,8,8,8,8,8,8,8,8,8,8,8,8,8,8,8,8,8,8,8,8,8,8,8,8,8,8,8,8,8,8,8,8,8,8,8,8,8,8,8,8,8,8,8,8,8,8,8,8,8,8,8,8,8,8,8,8,8,8,8,8,8,8,8,8,8,8,8,8,8,8,8,8,8,8,8,8,8,8,8,8,8,8,8,8,8,8,8,8,8,8]⟩:ByteArray) (ji7)))))) else (none)) else (none))=some r:=by first | (rw [CG4] at H;exact H) | (simp only [CG4] at H ⊢;exact H)
      by_cases c8:0≤(ji7)
      ·rw [if_pos c8] at H
       have c8b0:decide (0≤(ji7))=true:=dE c8
       clear c8
       by_cases c9:(ji7)<256
       ·rw [if_pos c9] at H
        have c9b0:decide ((ji7)<256)=true:=dE c9
        clear c9
        obtain rfl:=sI H
        have p10:0≤((ji7):Int):=dT (z1_)
        have q10:(ji7)<(256:Int):=dT (z1_)
        have Aq9:=bt_at (⟨#[0,1,2,2,3,3,3,3,4,4,4,4,4,4,4,4,5,5,5,5,5,5,5,5,5,5,5,5,5,5,5,5,6,6,6,6,6,6,6,6,6,6,6,6,6,6,6,6,6,6,6,6,6,6,6,6,6,6,6,6,6,6,6,6,7,7,7,7,7,7,7,7,7,7,7,7,7,7,7,7,7,7,7,7,7,7,7,7,7,7,7,7,7,7,7,7,7,7,7,7,7,7,7,7,7,7,7,7,7,7,7,7,7,7,7,7,7,7,7,7,7,7,7,7,7,7,7,7,8,8,8,8,8,8,8,8,8,8,8,8,8,8,8,8,8,8,8,8,8,8,8,8,8,8,8,8,8,8,8,8,8,8,8,8,8,8,8,8,8,8,8,8,8,8,8,8,8,8,8,8,8,8,8,8,8,8,8,8,8,8,8,8,8,8,8,8,8,8,8,8,8,8,8,8,8,8,8,8,8,8,8,8,8,8,8,8,8,8,8,8,8,8,8,8,8,8,8,8,8,8,8,8,8,8,8,8,8,8,8,8,8,8,8,8,8,8,8,8,8,8,8,8,8,8,8,8]⟩:ByteArray) (ji7)
        replace p10:=eq_true p10
        replace q10:=eq_true q10
        go_wp2
        go_ret
        exact ⟨by first | rfl | (simp;done) | (simp only [← CG4] <;> (first | rfl | simp)) | (simp [*];done),z5_⟩
       ·rw [if_neg c9] at H
        exact nO H
      ·rw [if_neg c8] at H
       exact nO H
     ·rw [if_neg c6] at H
      have c6b0:decide (256≤Ax6)=false:=dF c6
      clear c6
      obtain ⟨Am9,Ba3⟩:∃ j_:Int,((Ax6) % 256)=j_:=⟨_,rfl⟩
      replace H:(if 0≤(Am9) then (if (Am9)<256 then (some (wrap64 (Ba2+(wrap64 (bt (⟨#[0,1,2,2,3,3,3,3,4,4,4,4,4,4,4,4,5,5,5,5,5,5,5,5,5,5,5,5,5,5,5,5,6,6,6,6,6,6,6,6,6,6,6,6,6,6,6,6,6,6,6,6,6,6,6,6,6,6,6,6,6,6,6,6,7,7,7,7,7,7,7,7,7,7,7,7,7,7,7,7,7,7,7,7,7,7,7,7,7,7,7,7,7,7,7,7,7,7,7,7,7,7,7,7,7,7,7,7,7,7,7,7,7,7,7,7,7,7,7,7,7,7,7,7,7,7,7,7,8,8,8,8,8,8,8,8,8,8,8,8,8,8,8,8,8,8,8,8,8,8,8,8,8,8,8,8,8,8,8,8,8,8,8,8,8,8,8,8,8,8,8,8,8,8,8,8,8,8,8,8,8,8,8,8,8,8,8,8,8,8,8,8,8,8,8,8,8,8,8,8,8,8,8,8,8,8,8,8,8,8,8,8,8,8,8,8,8,8,8,8,8,8,8,8,8,8,8,8,8,8,8,8,8,8,8,8,8,8,8,8,8,8,8,8,8,8,8,8,8,8,8,8,8,8,8,8]⟩:ByteArray) (Am9)))))) else (none)) else (none))=some r:=by first | (rw [Ba3] at H;exact H) | (simp only [Ba3] at H ⊢;exact H)
      by_cases c12:0≤(Am9)
      ·rw [if_pos c12] at H
       have c12b0:decide (0≤(Am9))=true:=dE c12
       clear c12
       by_cases c13:(Am9)<256
       ·rw [if_pos c13] at H
        have c13b0:decide ((Am9)<256)=true:=dE c13
        clear c13
        obtain rfl:=sI H
        have p14:0≤((Am9):Int):=dT (z1_)
        have q14:(Am9)<(256:Int):=dT (z1_)
        have Ai6:=bt_at (⟨#[0,1,2,2,3,3,3,3,4,4,4,4,4,4,4,4,5,5,5,5,5,5,5,5,5,5,5,5,5,5,5,5,6,6,6,6,6,6,6,6,6,6,6,6,6,6,6,6,6,6,6,6,6,6,6,6,6,6,6,6,6,6,6,6,7,7,7,7,7,7,7,7,7,7,7,7,7,7,7,7,7,7,7,7,7,7,7,7,7,7,7,7,7,7,7,7,7,7,7,7,7,7,7,7,7,7,7,7,7,7,7,7,7,7,7,7,7,7,7,7,7,7,7,7,7,7,7,7,8,8,8,8,8,8,8,8,8,8,8,8,8,8,8,8,8,8,8,8,8,8,8,8,8,8,8,8,8,8,8,8,8,8,8,8,8,8,8,8,8,8,8,8,8,8,8,8,8,8,8,8,8,8,8,8,8,8,8,8,8,8,8,8,8,8,8,8,8,8,8,8,8,8,8,8,8,8,8,8,8,8,8,8,8,8,8,8,8,8,8,8,8,8,8,8,8,8,8,8,8,8,8,8,8,8,8,8,8,8,8,8,8,8,8,8,8,8,8,8,8,8,8,8,8,8,8,8]⟩:ByteArray) (Am9)
        replace p14:=eq_true p14
        replace q14:=eq_true q14
        go_wp2
        go_ret
        exact ⟨by first | rfl | (simp;done) | (simp only [← Ba3] <;> (first | rfl | simp)) | (simp [*];done),z5_⟩
       ·rw [if_neg c13] at H
        exact nO H
      ·rw [if_neg c12] at H
       exact nO H


/-! ### Y90: function 104 -/
def Y90.f (k:Nat) (a0:Int):Option (Int):=(Y58.f k a0).bind fun t232=>(some t232)
theorem Y90.mono:∀ a0 k,LeO (Y90.f k a0) (Y90.f (k+1) a0):=by
 intro a0 k
 have m0:=@Y58.mono
 unfold Y90.f
 exact mO
theorem Y90.calls (k:Nat) (a0:Int) (r:Int) (w:World) (h:Y90.f k a0=some r) :
  Calls Tryz.prog 104 #[.int .u64 a0] w fun e w'=>e = .returned (.int .i64 r)∧Drawn0 w w':=by
 have H:((Y58.f k a0).bind fun t232=>(some t232))=some r:=h
 clear h
 replace H:=bS H
 obtain ⟨t232,A20,H⟩:=H
 replace H:(some t232)=some r:=H
 have A2:=aM A20
 clear A20
 obtain rfl:=sI H
 go_enter Tryz.func104,Tryz.ntmps104
 go_wp2_with (first | ((with_reducible refine gc_ 136 ?_);refine gl_ (some 7) Tryz.func136 #[.int .u64 a0] ?_;(with_reducible refine (Y58.calls k a0 t232 _ A2.out).mono ?_);rintro e w' ⟨rfl,⟨nd,rfl⟩⟩;refine ⟨_,rfl,?_⟩))
 go_ret
 exact ⟨z2_,z5_⟩


/-! ### Y68: function 73 -/
def Y68.l0:Nat→Int→List Int→Int→Int→Option (Int)
 | 0,_,_,_,_=>none
 | k+1,x3,x6,x7,x8=>if x8<x7 then (if 0≤x8 then (if x8<(x6.length:Int) then (if (rd x6 x8)=x3 then (Y68.l0 k x3 x6 x7 (wrap64 (x8+1))) else (some (rd x6 x8))) else (none)) else (none)) else (some x3)
def Y68.f (k:Nat) (l0:List Int):Option (Int):=Y68.l0 k 0 l0 (l0.length:Int) 0
theorem Y68.mono_l:∀ k,(∀ y0 y1 y2 y3,LeO (Y68.l0 k y0 y1 y2 y3) (Y68.l0 (k+1) y0 y1 y2 y3))
 | 0=>by intros <;> exact LeO.none _
 | k+1=>by
  have ih0:=Y68.mono_l k
  ·intros
   unfold Y68.l0
   exact mO
theorem Y68.mono:∀ a0 k,LeO (Y68.f k a0) (Y68.f (k+1) a0):=by
 intro a0 k
 have ih0:=Y68.mono_l k
 unfold Y68.f
 exact mO
theorem Y68.calls (k:Nat) (A0:Option Addr) (c0:Nat) (l0:List Int) (r:Int) (w:World) (hr0:Kd.C (Kd.int .i64) w A0 l0.length l0) (hc0:l0.length≤c0) (h:Y68.f k l0=some r) :
  Calls Tryz.prog 73 #[.slice A0 l0.length c0] w fun e w'=>e = .returned (.int .i64 r)∧Drawn0 w w':=by
 have HR0:=aM hr0
 have HC0:=aM hc0
 clear hr0 hc0
 have H:(Y68.l0 k 0 l0 (l0.length:Int) 0)=some r:=h
 clear h
 have H':=aM H
 clear H
 go_enter Tryz.func73,Tryz.ntmps73
 go_wp2
 go_loopg [8] k (fun kq v8 w'=>∃ (E6:Int),v8 = .int .i64 E6∧Aside0 (Y68.l0 kq 0 l0 (l0.length:Int) E6=some r)∧Aside0 (kq≤k)∧Drawn0 w w')
 case atStart=>exact ⟨(0),(z2_),H',⟨Nat.le_refl _⟩,z5_⟩
 case round =>
  clear H'
  obtain ⟨E6,rfl,HA,HK1,⟨m1,rfl⟩⟩:=hrel
  cases gk with
  | zero=>exact absurd HA.out (by simp [Y68.l0])
  | succ k1 =>
   have H:=HA.out
   clear HA
   simp only [Y68.l0] at H
   by_cases c2:E6<(l0.length:Int)
   ·rw [if_pos c2] at H
    have c2b0:decide (E6<(l0.length:Int))=true:=dE c2
    clear c2
    by_cases c3:0≤E6
    ·rw [if_pos c3] at H
     have c3b0:decide (0≤E6)=true:=dE c3
     clear c3
     by_cases c4:E6<(l0.length:Int)
     ·rw [if_pos c4] at H
      have c4b0:decide (E6<(l0.length:Int))=true:=dE c4
      clear c4
      by_cases c5:(rd l0 E6)=0
      ·rw [if_pos c5] at H
       have c5b0:((rd l0 E6) == 0)=true:=beq_iff_eq.mpr c5
       have c5b1:((rd l0 E6) != 0)=false:=bne_eq_false_iff_eq.mpr c5
       clear c5
       have H':=aM H
       clear H
       have BC3:0≤(E6:Int):=dT (z1_)
       have BC4:E6<(l0.length:Int):=dT (z1_)
       obtain ⟨Ca2,e233,Br3⟩:=Kd.at_int HR0.out E6 BC3 BC4
       cases e233
       replace BC3:=eq_true BC3
       replace BC4:=eq_true BC4
       go_wp2
       go_roundg k1
       case measure=>have:=HK1.out;omega
       case rel=>exact ⟨(wrap64 (E6+1)),(z2_),H',⟨by have:=HK1.out;omega⟩,z5_⟩
      ·rw [if_neg c5] at H
       have c5b0:((rd l0 E6) == 0)=false:=beq_eq_false_iff_ne.mpr c5
       have c5b1:((rd l0 E6) != 0)=true:=bne_iff_ne.mpr c5
       obtain rfl:=sI H
       have BC3:0≤(E6:Int):=dT (z1_)
       have BC4:E6<(l0.length:Int):=dT (z1_)
       obtain ⟨Ca2,e233,Br3⟩:=Kd.at_int HR0.out E6 BC3 BC4
       cases e233
       replace BC3:=eq_true BC3
       replace BC4:=eq_true BC4
       go_wp2
       go_ret
       exact ⟨z2_,z5_⟩
     ·rw [if_neg c4] at H
      exact nO H
    ·rw [if_neg c3] at H
     exact nO H
   ·rw [if_neg c2] at H
    have c2b0:decide (E6<(l0.length:Int))=false:=dF c2
    clear c2
    obtain rfl:=sI H
    go_wp2
    go_ret
    exact ⟨z2_,z5_⟩


/-! ### Y61: function 105 -/
def Y61.f (a0:Int):Option (Bool):=some (a0 != a0)
theorem Y61.calls (a0:Int) (r:Bool) (w:World) (h:Y61.f a0=some r) :
  Calls Tryz.prog 105 #[.int .i64 a0] w fun e w'=>e = .returned (.bool r)∧Drawn0 w w':=by
 have H:(some (a0 != a0))=some r:=h
 clear h
 obtain rfl:=sI H
 go_enter Tryz.func105,Tryz.ntmps105
 go_wp2
 go_ret
 exact ⟨z2_,z5_⟩

end Go.Proofs.YtelecnmflodkkaaGreatDoor.P
