/- For every answer the program's SayText and the reference's return the same text, and the answer stays as it was. No condition. (Part 1 of 2: written by programs of this workplace and by hand, merged.) -/
import Derived.Test.YtffjlmmlclpcnaaDoorProg
import Derived.Below
import Derived.Deep.Draws
import Derived.Deep.AppendLies
import Derived.Maps.AppendAt
import Derived.OwnWalk
import Derived.Laws.BytesArg
import Derived.Laws.MakeOwn
import Derived.Laws.OwnMore
import Derived.Deep.OwnRows
import Derived.Tactics
import Derived.Lib.ConvBytes
import Derived.Laws.Slices
import Derived.WalkKit
import Derived.KernelRfl
import Derived.RowKit3
import Derived.Deep.LoopGhost
import Derived.Deep.QuietTactic
import Derived.BigQuiet
import Derived.WideLaws
import Derived.Deep.DeepCutAuto
import Derived.Deep.CutBlock
import Derived.Deep.RegionHeld3
import Derived.Laws.Rows
import Derived.Lib.AppendStr
import Derived.ArgAppend
import Derived.Laws.IdiomCopy
import Derived.OrdersHeld
import Derived.Laws.BitsLemmas
import Derived.RowKit
import Derived.Lib.Bytealg
import Derived.Lib.Walk
import Derived.Test.YtffjlmmlclpcnaaDoorMFnExactSayTextWWords
import Derived.Test.YtffjlmmlclpcnaaDoorMFnExactSayTextWLast
import Derived.Test.YtffjlmmlclpcnaaDoorMFnExactSayTextWTab
import Derived.Test.YtffjlmmlclpcnaaDoorMFnExactSayTextWApart
import Derived.Test.YtffjlmmlclpcnaaDoorMFnExactSayTextWFoot
import Derived.Test.YtffjlmmlclpcnaaDoorMFnExactSayTextWKept
import Derived.Test.YtffjlmmlclpcnaaDoorMFnExactSayTextWShare
import Derived.Test.YtffjlmmlclpcnaaDoorMFnExactSayTextWN
import Derived.Laws.StructEq
import Derived.Test.YtffjlmmlclpcnaaDoorMFnExactSayTextWRepsOne
import Derived.Test.YtffjlmmlclpcnaaDoorMFnExactSayTextWMore
import Derived.ChangeArms
import Derived.ChangeSlices
import Derived.WideShapes
import Derived.Shelf.Strconv.Itoa4
import Derived.Shelf.Unicode.PredsPay
import Derived.Lib.OthersKept
import Derived.Shelf.Strings.OnBuilder
import Derived.Lib.ItoaNum
import Derived.Lib.Join
set_option linter.unusedVariables false
set_option linter.unusedSimpArgs false
set_option maxHeartbeats 8000000
set_option maxRecDepth 100000

namespace Go.Proofs.YtffjlmmlclpcnaaDoor.P
open Go.RowKit Go.Proofs.YtffjlmmlclpcnaaDoorW.PrintWords Go.Proofs.YtffjlmmlclpcnaaDoorW.PrintLast Go.Proofs.YtffjlmmlclpcnaaDoorW.PrintMore
attribute [local go_sem] max2_int min2_int max_two min_two max_three min_three max_four min_four   -- for this text's walks alone
set_option linter.unusedVariables false
set_option linter.unusedSimpArgs false

theorem sa_ {α:Type _} (l:List α) (i:Nat) (a:α):l.toArray.setIfInBounds i a=(l.set i a).toArray:=List.setIfInBounds_toArray ..
theorem s0_ {α:Type _} (x:α) (l:List α) (a:α):(x :: l).set 0 a=a :: l:=List.set_cons_zero ..
theorem ss_ {α:Type _} (x:α) (l:List α) (n:Nat) (a:α):(x :: l).set (n+1) a=x :: l.set n a:=List.set_cons_succ ..
section
variable {P:Program} {ops:Array Oper} {Q:Exit→Act→World→Prop}
end



def errW:Option Int→Value
  | none=>.nilIface
  | some c=>.iface 0 (.int .i64 c)
theorem errW_none:errW none = .nilIface:=rfl
theorem errW_some (c:Int):errW (some c) = .iface 0 (.int .i64 c):=rfl

theorem info5:(Tryd.prog.info? 5).map (fun i=>(i.zero,i.size,i.bytes))=some (some (.int .u8 0),1,1):=by kernel_rfl
theorem info9:(Tryd.prog.info? 9).map (fun i=>(i.zero,i.size,i.bytes))=some (some (.string ⟨#[]⟩),1,16):=by kernel_rfl
theorem info71:(Tryd.prog.info? 71).map (fun i=>(i.zero,i.size,i.bytes))=some (some (.agg #[(.int .i64 0),(.int .i64 0),(.bool false),(.string ⟨#[]⟩)]),4,40):=by kernel_rfl
-- the values' own types
/-! #### struct type 70 -/
structure S70 where
  f0:Int
  f1:Int
  f2:Bool
  f3:ByteArray
def z70:S70:=⟨(0:Int),(0:Int),false,(⟨#[]⟩:ByteArray)⟩
def k70:Kd S70:=Kd.iso (Kd.pair (Kd.int .i64) (Kd.pair (Kd.int .i64) (Kd.pair Kd.bool Kd.string))) (fun x:S70=>(x.f0,x.f1,x.f2,x.f3))
theorem k70_open {w:World} {x:S70} {cs:List Value} (h:k70.K w x cs):cs=[.int .i64 x.f0,.int .i64 x.f1,.bool x.f2,.string x.f3]:=by
  obtain ⟨_,_,rfl,rfl,⟨_,_,rfl,rfl,⟨_,_,rfl,rfl,rfl⟩⟩⟩:=h
  exact rfl
def rd_T70 (xs:List S70) (i:Int):S70:=xs.getD i.toNat z70
theorem at_T70 {w:World} {A:Option Addr} {n:Nat} {xs:List S70} (h:Kd.C k70 w A n xs) (i:Int) (h0:0≤i) (h1:i<n):∃ ad , A=some ad∧w.cell? (ad.add (i.toNat*4))=some (.int .i64 (rd_T70 xs i).f0)∧w.cell? ⟨(ad.add (i.toNat*4)).block,(ad.add (i.toNat*4)).off+1,none⟩=some (.int .i64 (rd_T70 xs i).f1)∧w.cell? ⟨(ad.add (i.toNat*4)).block,(ad.add (i.toNat*4)).off+2,none⟩=some (.bool (rd_T70 xs i).f2)∧w.cell? ⟨(ad.add (i.toNat*4)).block,(ad.add (i.toNat*4)).off+3,none⟩=some (.string (rd_T70 xs i).f3):=by
  obtain ⟨ad,c,e,_,hK,hc0⟩:=Kd.C_get h z70 i h0 h1
  have hc:∀ j u,c[j]? = some u→w.cell? (ad.add (i.toNat*4+j))=some u:=hc0
  obtain rfl:=k70_open hK
  exact ⟨ad,e,hc 0 _ rfl,by rw [← add_field _ _ 1 (by omega)];exact hc 1 _ rfl,by rw [← add_field _ _ 2 (by omega)];exact hc 2 _ rfl,by rw [← add_field _ _ 3 (by omega)];exact hc 3 _ rfl⟩

/-! #### struct type 71 -/
structure S71 where
  f0:Int
  f1:Int
  f2:Bool
  f3:ByteArray
def z71:S71:=⟨(0:Int),(0:Int),false,(⟨#[]⟩:ByteArray)⟩
def k71:Kd S71:=Kd.iso (Kd.pair (Kd.int .i64) (Kd.pair (Kd.int .i64) (Kd.pair Kd.bool Kd.string))) (fun x:S71=>(x.f0,x.f1,x.f2,x.f3))
theorem k71_open {w:World} {x:S71} {cs:List Value} (h:k71.K w x cs):cs=[.int .i64 x.f0,.int .i64 x.f1,.bool x.f2,.string x.f3]:=by
  obtain ⟨_,_,rfl,rfl,⟨_,_,rfl,rfl,⟨_,_,rfl,rfl,rfl⟩⟩⟩:=h
  exact rfl
theorem k71_openM {w:World} {base:Nat} {ok:Nat→Prop} {x:S71} {cs:List Value} (h:k71.M w base ok x cs):cs=[.int .i64 x.f0,.int .i64 x.f1,.bool x.f2,.string x.f3]:=by
  obtain ⟨_,_,rfl,rfl,⟨_,_,rfl,rfl,⟨_,_,rfl,rfl,rfl⟩⟩⟩:=h
  exact rfl
theorem k71_mkM (w:World) (base:Nat) (ok:Nat→Prop) (x:S71)  : k71.M w base ok x [.int .i64 x.f0,.int .i64 x.f1,.bool x.f2,.string x.f3]:=⟨[.int .i64 x.f0],[.int .i64 x.f1,.bool x.f2,.string x.f3],rfl,rfl,⟨[.int .i64 x.f1],[.bool x.f2,.string x.f3],rfl,rfl,⟨[.bool x.f2],[.string x.f3],rfl,rfl,rfl⟩⟩⟩
def rd_T71 (xs:List S71) (i:Int):S71:=xs.getD i.toNat z71
theorem at_T71 {w:World} {A:Option Addr} {n:Nat} {xs:List S71} (h:Kd.C k71 w A n xs) (i:Int) (h0:0≤i) (h1:i<n):∃ ad , A=some ad∧w.cell? (ad.add (i.toNat*4))=some (.int .i64 (rd_T71 xs i).f0)∧w.cell? ⟨(ad.add (i.toNat*4)).block,(ad.add (i.toNat*4)).off+1,none⟩=some (.int .i64 (rd_T71 xs i).f1)∧w.cell? ⟨(ad.add (i.toNat*4)).block,(ad.add (i.toNat*4)).off+2,none⟩=some (.bool (rd_T71 xs i).f2)∧w.cell? ⟨(ad.add (i.toNat*4)).block,(ad.add (i.toNat*4)).off+3,none⟩=some (.string (rd_T71 xs i).f3):=by
  obtain ⟨ad,c,e,_,hK,hc0⟩:=Kd.C_get h z71 i h0 h1
  have hc:∀ j u,c[j]? = some u→w.cell? (ad.add (i.toNat*4+j))=some u:=hc0
  obtain rfl:=k71_open hK
  exact ⟨ad,e,hc 0 _ rfl,by rw [← add_field _ _ 1 (by omega)];exact hc 1 _ rfl,by rw [← add_field _ _ 2 (by omega)];exact hc 2 _ rfl,by rw [← add_field _ _ 3 (by omega)];exact hc 3 _ rfl⟩

/-! #### struct type 31 -/
structure S31 where
  f0:Int
  f1:Int
def z31:S31:=⟨(0:Int),(0:Int)⟩
def k31:Kd S31:=Kd.iso (Kd.pair (Kd.int .i64) (Kd.int .i64)) (fun x:S31=>(x.f0,x.f1))
theorem k31_open {w:World} {x:S31} {cs:List Value} (h:k31.K w x cs):cs=[.int .i64 x.f0,.int .i64 x.f1]:=by
  obtain ⟨_,_,rfl,rfl,rfl⟩:=h
  exact rfl
/-! #### struct type 34 -/
structure S34 where
  f0:Int
  f1:ByteArray
  f2:Bool
  f3:Int
  f4:(List ByteArray)
  f5:ByteArray
  f6:S31
  f7:(List S70)
def k34:Kd S34:=Kd.iso (Kd.pair (Kd.int .i64) (Kd.pair Kd.string (Kd.pair Kd.bool (Kd.pair (Kd.int .i64) (Kd.pair (Kd.slice 9 Kd.string) (Kd.pair Kd.string (Kd.pair k31 (Kd.slice 70 k70)))))))) (fun x:S34=>(x.f0,x.f1,x.f2,x.f3,x.f4,x.f5,x.f6,x.f7))
theorem k34_open {w:World} {x:S34} {cs:List Value} (h:k34.K w x cs):∃ A4 c4 A8 c8,cs=[.int .i64 x.f0,.string x.f1,.bool x.f2,.int .i64 x.f3,.slice A4 x.f4.length c4,.string x.f5,.int .i64 x.f6.f0,.int .i64 x.f6.f1,.slice A8 x.f7.length c8]∧x.f4.length≤c4∧Kd.string.C w A4 x.f4.length x.f4∧x.f7.length≤c8∧k70.C w A8 x.f7.length x.f7:=by
  obtain ⟨_,_,rfl,rfl,⟨_,_,rfl,rfl,⟨_,_,rfl,rfl,⟨_,_,rfl,rfl,⟨_,_,rfl,⟨A4,c4,rfl,l4,g4⟩,⟨_,_,rfl,rfl,⟨_,_,rfl,s6,⟨A8,c8,rfl,l8,g8⟩⟩⟩⟩⟩⟩⟩⟩:=h
  obtain rfl:=k31_open s6
  exact ⟨A4,c4,A8,c8,rfl,l4,g4,l8,g8⟩
end Go.Proofs.YtffjlmmlclpcnaaDoor.P

namespace Go.Proofs.YtffjlmmlclpcnaaDoor.P
open Go.RowKit Go.Proofs.YtffjlmmlclpcnaaDoorW.PrintWords Go.Proofs.YtffjlmmlclpcnaaDoorW.PrintLast Go.Proofs.YtffjlmmlclpcnaaDoorW.PrintMore
abbrev I:=true
abbrev O:=false
theorem mO {p:Prop} (h:p:=by repeat' first | (with_reducible exact LeO.refl _) | (with_reducible exact LeO.none _) | (with_reducible refine LeO.ite ?_ ?_) | (with_reducible refine LeO.bind ?_ (fun _=>?_)) | (with_reducible apply_assumption) | apply_assumption | exact LeO.none _ | refine LeO.ite ?_ ?_ | refine LeO.bind ?_ (fun _=>?_)):p:=h
theorem nO {q p:Prop} (h:q) (f:¬q:=by simp):p:=absurd h f
theorem aM {p:Prop} (h:p):Aside0 p:=⟨h⟩
theorem sI {α:Type _} {a b:α} (h:some a=some b):a=b:=Option.some.inj h
theorem bS {α β:Type _} {x:Option α} {f:α→Option β} {b:β} (h:x.bind f=some b):∃ a,x=some a∧f a=some b:=Option.bind_eq_some_iff.mp h
theorem dT {p:Prop} [Decidable p] (h:decide p=true):p:=of_decide_eq_true h
theorem dE {p:Prop} [Decidable p] (h:p):decide p=true:=decide_eq_true h
theorem dF {p:Prop} [Decidable p] (h:¬p):decide p=false:=decide_eq_false h
section
variable {P:Program} {ops:Array Oper} {Q:Exit→Act→World→Prop} {md:Region.Mode} {S:World→Prop} {ds:List Nat}
theorem pu_ {T:Bool × List (List Nat × List Nat)} (i:Nat) (N:Tmp) {oi:Oper} {v:Value} {fuel:Nat} {l:Array Bool} {a a':Act} {w:World} (l':Array Bool) (hT:rtab md ops=T) (h:wpAnyLast P md ops Q S ds fuel l' a' w) (hi:ops[i]? = some oi:=by exact rfl) (hN:oi.dst=some N:=by exact rfl) (hc:anyT T l.toList l'.toList i=true:=by kernel_rfl) (hQ:∀ c a w,Q (.panic c) (a.put oi.dst v) w→Q (.panic c) a w:=by exact fun _ _ _ h=>h) (hw:Region.wanted oi (yielded ops a.tmps)=true:=by rfl) (hy:∀ w',(execOp a.eval oi).run P w' = .ok (.value v) w':=by (intro w');go_simp;(with_reducible rfl)) (ha:a.put (some N) v=a':=by (simp only [Act.put,sa_,s0_,ss_,i64_w,i32_w]);exact rfl):wpAnyLast P md ops Q S ds (fuel+1) l a w:=pure_ l' hi hN (any_of hT hc) hQ (Or.inl ⟨hw,hy⟩) ha h
theorem tk8_ {T:Bool × List (List Nat × List Nat)} (i:Nat) (N:Tmp) {oi:Oper} {v:Value} {fuel:Nat} {l:Array Bool} {a a':Act} {w:World} (l':Array Bool) {B:List Nat} (hT:rtab md ops=T) (hB:waitsOk T.2 B=true) (hS:S w) (h:wpAnyLast P md ops Q S ds fuel l' a' w) (hi:ops[i]? = some oi:=by exact rfl) (hN:oi.dst=some N:=by exact rfl) (hc:takeW T B ds l.toList l'.toList i=true:=by kernel_rfl) (hQ:∀ c a w,Q (.panic c) (a.put oi.dst v) w→Q (.panic c) a w:=by exact fun _ _ _ h=>h) (hw:Region.wanted oi (yielded ops a.tmps)=true:=by rfl) (hy:∀ w',S w'→(execOp a.eval oi).run P w' = .ok (.value v) w':=by (rintro w' ⟨s0,s1,s2,s3,s4,s5,s6,s7⟩);go_simp;(with_reducible rfl)) (ha:a.put (some N) v=a':=by (simp only [Act.put,sa_,s0_,ss_,i64_w,i32_w]);exact rfl):wpAnyLast P md ops Q S ds (fuel+1) l a w:=take_ l' hi hN (take_ofW hT hB hc) hQ (Or.inl ⟨hw,hy⟩) hS ha h
theorem o1_ {T:Bool × List (List Nat × List Nat)} (i:Nat) (N:Tmp) {oi:Oper} {fuel:Nat} {l:Array Bool} {a:Act} {w:World} (l':Array Bool) (hT:rtab md ops=T) (h:∀ K:Act→World→Prop,Shut (∀ a' w',S w'→(S w'→wpAnyLast P md ops Q S ds fuel l' a' w')→K a' w')→if Region.wanted oi (yielded ops a.tmps)=true then Oper.wp P oi a w K Q else K (a.put (some N) undef) w) (hi:ops[i]? = some oi:=by exact rfl) (hN:oi.dst=some N:=by exact rfl) (hc:(readyT T.2 l.toList == [i] && l.toList.set i true == l'.toList)=true:=by kernel_rfl) (hd:i ∉ ds:=by decide):wpAnyLast P md ops Q S ds (fuel+1) l a w:=one_ l' hi hN (one_of hT hc) hd h
theorem nm_ (N:Tmp) {fuel:Nat} {l:Array Bool} {a a':Act} {v:Value} {w:World} (h:wpAnyLast P md ops Q S ds fuel l a' w) (ha:Act.put a (some N) v=a':=by simp only [Act.put,sa_,s0_,ss_,i64_w,i32_w];rfl):wpAnyLast P md ops Q S ds fuel l (Act.put a (some N) v) w:=norm_ ha h
end
section
variable {P:Program} {ops:Array Oper} {rest:List Oper} {o:Oper} {a:Act} {Q:Exit→Act→World→Prop} {W:World}
theorem gd_ (N:Tmp) (h:wpList P ops Q (o :: rest) a W) (hN:o.dst=some N:=by with_reducible rfl):wpList P ops Q (o :: rest) a W:=h
theorem gc_ (f:FuncId) {ars:Array Operand} {ts:Array TypeId} (h:wpList P ops Q (o :: rest) a W) (ho:o.op = .call { callee:=.value (.func f),args:=ars,argTypes:=ts }:=by with_reducible rfl):wpList P ops Q (o :: rest) a W:=h
theorem be_ (N:Tmp) (cs:Array Value) (t:TypeId) (h:∀ g,g=W.heap.size→∀ w1,w1.heap[g]? = some (.cells cs t (0,0))→Below W.heap.size W w1→wpList P ops Q rest (a.put o.dst (.pointer (some ⟨g,0,none⟩))) w1) (hd:o.dst=some N:=by rfl) (hgd:o.guard=none:=by rfl) (hrun:(execOp a.eval o).run P W = .ok (.value (.pointer (some ⟨W.heap.size,0,none⟩))) (W.alloc (.cells cs t (0,0))):=by first | (go_simp;done) | (go_simp;rfl)):wpList P ops Q (o :: rest) a W:=box_event hgd hd hrun h
theorem gl_ (N:Option Tmp) {f:FuncId} {fn:Func} {ars:Array Operand} {ts:Array TypeId} (hf:P.funcs[f]? = some fn) (args:Array Value) (h:Calls P f args W fun e w'=>∃ v,e = .returned v∧wpList P ops Q rest (a.put N v) w') (hd:o.dst=N:=by exact rfl) (hg:o.guard=none:=by exact rfl) (hname:(fn.name == "runtime.NumGoroutine")=false:=by kernel_rfl) (hb:fn.body.isSome=true:=by exact rfl) (hop:o.op = .call { callee:=.value (.func f),args:=ars,argTypes:=ts }:=by exact rfl) (hargs:ars.map a.eval=args:=by (try simp only [List.map_toArray,List.map_cons,List.map_nil]);first | done | rfl | (simp only [List.length_drop,List.length_take];rfl)):wpList P ops Q (o :: rest) a W:=goesL_ N hd hg hf hname hb args hop hargs h
theorem gs_ {N:Option Tmp} {K:Act→World→Prop} {f:FuncId} {fn:Func} {ars:Array Operand} {ts:Array TypeId} (hf:P.funcs[f]? = some fn) (args:Array Value) (h:Calls P f args W fun e w'=>∃ v,e = .returned v∧K (a.put N v) w') (hname:(fn.name == "runtime.NumGoroutine")=false:=by kernel_rfl) (hb:fn.body.isSome=true:=by exact rfl) (hw:Region.wanted o (yielded ops a.tmps)=true:=by rfl) (hN:o.dst=N:=by exact rfl) (hop:o.op = .call { callee:=.value (.func f),args:=ars,argTypes:=ts }:=by exact rfl) (hargs:ars.map a.eval=args:=by (try simp only [List.map_toArray,List.map_cons,List.map_nil]);first | done | rfl | (simp only [List.length_drop,List.length_take];rfl)):if Region.wanted o (yielded ops a.tmps)=true then Oper.wp P o a W K Q else K (a.put N undef) W:=goes_ hf hname hb args hw hN hop hargs h
end
theorem cc9_ {w:World} {g:Nat} {t:TypeId} {v0 v1 v2 v3 v4 v5 v6 v7 v8:Value} (h:w.heap[g]? = some (.cells #[v0,v1,v2,v3,v4,v5,v6,v7,v8] t (0,0))):w.cell? ⟨g,0,none⟩=some v0∧w.cell? ⟨g,1,none⟩=some v1∧w.cell? ⟨g,2,none⟩=some v2∧w.cell? ⟨g,3,none⟩=some v3∧w.cell? ⟨g,4,none⟩=some v4∧w.cell? ⟨g,5,none⟩=some v5∧w.cell? ⟨g,6,none⟩=some v6∧w.cell? ⟨g,7,none⟩=some v7∧w.cell? ⟨g,8,none⟩=some v8:=⟨blk_cell h 0,blk_cell h 1,blk_cell h 2,blk_cell h 3,blk_cell h 4,blk_cell h 5,blk_cell h 6,blk_cell h 7,blk_cell h 8⟩
theorem cj9_ {p:Prop} {w:World} {g:Nat} {t:TypeId} {v0 v1 v2 v3 v4 v5 v6 v7 v8:Value} (h:w.heap[g]? = some (.cells #[v0,v1,v2,v3,v4,v5,v6,v7,v8] t (0,0))) (r:p):w.cell? ⟨g,0,none⟩=some v0∧w.cell? ⟨g,1,none⟩=some v1∧w.cell? ⟨g,2,none⟩=some v2∧w.cell? ⟨g,3,none⟩=some v3∧w.cell? ⟨g,4,none⟩=some v4∧w.cell? ⟨g,5,none⟩=some v5∧w.cell? ⟨g,6,none⟩=some v6∧w.cell? ⟨g,7,none⟩=some v7∧w.cell? ⟨g,8,none⟩=some v8∧p:=⟨blk_cell h 0,blk_cell h 1,blk_cell h 2,blk_cell h 3,blk_cell h 4,blk_cell h 5,blk_cell h 6,blk_cell h 7,blk_cell h 8,r⟩
theorem blkB_ {W0 W W':World} {g:Nat} {o:Obj} (h:W0.heap[g]? = some o) (hb:Below W.heap.size W W') (f:W0.heap[g]? = some o→W.heap[g]? = some o:=by intro h_;(with_reducible repeat (first | refine blk_drewN ?_ _ | refine blk_drew ?_ | refine blk_alloc ?_ _));exact h_):W'.heap[g]? = some o:=blk_below (f h) hb
theorem neL_ {W0 W:World} {g b:Nat} {o:Obj} (h:W0.heap[b]? = some o) (hg:g=W.heap.size) (f:W0.heap[b]? = some o→W.heap[b]? = some o:=by intro h_;(with_reducible repeat (first | refine blk_drewN ?_ _ | refine blk_drew ?_ | refine blk_alloc ?_ _));exact h_):b≠g:=by rw [hg];exact Nat.ne_of_lt (blk_lt (f h))
theorem neG_ {W0 W:World} {g b:Nat} {o:Obj} (h:W0.heap[b]? = some o) (hg:g=W.heap.size) (f:W0.heap[b]? = some o→W.heap[b]? = some o:=by intro h_;(with_reducible repeat (first | refine blk_drewN ?_ _ | refine blk_drew ?_ | refine blk_alloc ?_ _));exact h_):g≠b:=by rw [hg];exact Nat.ne_of_gt (blk_lt (f h))
theorem cz2_ {w:World} {g:Nat} {t:TypeId} {v0 v1:Value} (h:w.heap[g]? = some (.cells #[v0,v1] t (0,0))):w.cell? ⟨g,0,none⟩=some v0∧w.cell? ⟨g,1,none⟩=some v1∧w.frozen? ⟨g,0,none⟩=false∧w.frozen? ⟨g,1,none⟩=false:=⟨blk_cell h 0,blk_cell h 1,blk_frozen h 0,blk_frozen h 1⟩
theorem cz4_ {w:World} {g:Nat} {t:TypeId} {v0 v1 v2 v3:Value} (h:w.heap[g]? = some (.cells #[v0,v1,v2,v3] t (0,0))):w.cell? ⟨g,0,none⟩=some v0∧w.cell? ⟨g,1,none⟩=some v1∧w.cell? ⟨g,2,none⟩=some v2∧w.cell? ⟨g,3,none⟩=some v3∧w.frozen? ⟨g,0,none⟩=false∧w.frozen? ⟨g,1,none⟩=false∧w.frozen? ⟨g,2,none⟩=false∧w.frozen? ⟨g,3,none⟩=false:=⟨blk_cell h 0,blk_cell h 1,blk_cell h 2,blk_cell h 3,blk_frozen h 0,blk_frozen h 1,blk_frozen h 2,blk_frozen h 3⟩
theorem cz9_ {w:World} {g:Nat} {t:TypeId} {v0 v1 v2 v3 v4 v5 v6 v7 v8:Value} (h:w.heap[g]? = some (.cells #[v0,v1,v2,v3,v4,v5,v6,v7,v8] t (0,0))):w.cell? ⟨g,0,none⟩=some v0∧w.cell? ⟨g,1,none⟩=some v1∧w.cell? ⟨g,2,none⟩=some v2∧w.cell? ⟨g,3,none⟩=some v3∧w.cell? ⟨g,4,none⟩=some v4∧w.cell? ⟨g,5,none⟩=some v5∧w.cell? ⟨g,6,none⟩=some v6∧w.cell? ⟨g,7,none⟩=some v7∧w.cell? ⟨g,8,none⟩=some v8∧w.frozen? ⟨g,0,none⟩=false∧w.frozen? ⟨g,1,none⟩=false∧w.frozen? ⟨g,2,none⟩=false∧w.frozen? ⟨g,3,none⟩=false∧w.frozen? ⟨g,4,none⟩=false∧w.frozen? ⟨g,5,none⟩=false∧w.frozen? ⟨g,6,none⟩=false∧w.frozen? ⟨g,7,none⟩=false∧w.frozen? ⟨g,8,none⟩=false:=⟨blk_cell h 0,blk_cell h 1,blk_cell h 2,blk_cell h 3,blk_cell h 4,blk_cell h 5,blk_cell h 6,blk_cell h 7,blk_cell h 8,blk_frozen h 0,blk_frozen h 1,blk_frozen h 2,blk_frozen h 3,blk_frozen h 4,blk_frozen h 5,blk_frozen h 6,blk_frozen h 7,blk_frozen h 8⟩
theorem put2_ {w:World} {g:Nat} {t:TypeId} {v0 v1 z0 z1:Value} (h:w.heap[g]? = some (.cells #[z0,z1] t (0,0))):((w.setCell ⟨g,0,none⟩ v0).setCell ⟨g,1,none⟩ v1).heap[g]? = some (.cells #[v0,v1] t (0,0)):=(blk_put (cs':=#[v0,v1]) (blk_put (cs':=#[v0,z1]) h 0 v0 rfl) 1 v1 rfl)
theorem put4_ {w:World} {g:Nat} {t:TypeId} {v0 v1 v2 v3 z0 z1 z2 z3:Value} (h:w.heap[g]? = some (.cells #[z0,z1,z2,z3] t (0,0))):((((w.setCell ⟨g,0,none⟩ v0).setCell ⟨g,1,none⟩ v1).setCell ⟨g,2,none⟩ v2).setCell ⟨g,3,none⟩ v3).heap[g]? = some (.cells #[v0,v1,v2,v3] t (0,0)):=(blk_put (cs':=#[v0,v1,v2,v3]) (blk_put (cs':=#[v0,v1,v2,z3]) (blk_put (cs':=#[v0,v1,z2,z3]) (blk_put (cs':=#[v0,z1,z2,z3]) h 0 v0 rfl) 1 v1 rfl) 2 v2 rfl) 3 v3 rfl)
theorem put9_ {w:World} {g:Nat} {t:TypeId} {v0 v1 v2 v3 v4 v5 v6 v7 v8 z0 z1 z2 z3 z4 z5 z6 z7 z8:Value} (h:w.heap[g]? = some (.cells #[z0,z1,z2,z3,z4,z5,z6,z7,z8] t (0,0))):(((((((((w.setCell ⟨g,0,none⟩ v0).setCell ⟨g,1,none⟩ v1).setCell ⟨g,2,none⟩ v2).setCell ⟨g,3,none⟩ v3).setCell ⟨g,4,none⟩ v4).setCell ⟨g,5,none⟩ v5).setCell ⟨g,6,none⟩ v6).setCell ⟨g,7,none⟩ v7).setCell ⟨g,8,none⟩ v8).heap[g]? = some (.cells #[v0,v1,v2,v3,v4,v5,v6,v7,v8] t (0,0)):=(blk_put (cs':=#[v0,v1,v2,v3,v4,v5,v6,v7,v8]) (blk_put (cs':=#[v0,v1,v2,v3,v4,v5,v6,v7,z8]) (blk_put (cs':=#[v0,v1,v2,v3,v4,v5,v6,z7,z8]) (blk_put (cs':=#[v0,v1,v2,v3,v4,v5,z6,z7,z8]) (blk_put (cs':=#[v0,v1,v2,v3,v4,z5,z6,z7,z8]) (blk_put (cs':=#[v0,v1,v2,v3,z4,z5,z6,z7,z8]) (blk_put (cs':=#[v0,v1,v2,z3,z4,z5,z6,z7,z8]) (blk_put (cs':=#[v0,v1,z2,z3,z4,z5,z6,z7,z8]) (blk_put (cs':=#[v0,z1,z2,z3,z4,z5,z6,z7,z8]) h 0 v0 rfl) 1 v1 rfl) 2 v2 rfl) 3 v3 rfl) 4 v4 rfl) 5 v5 rfl) 6 v6 rfl) 7 v7 rfl) 8 v8 rfl)
theorem rf9_ {α:Type} {d:Kd α} {e:TypeId} {w:World} {base g:Nat} {ok:Nat→Prop} {v:Value} {xs:List α} {v0 v1 v2 v3 v4 v5 v6 v7 v8:Value} (h:d.R e w base ok v xs) (f:∀ k,ok k→k≠g):d.R e (((((((((w.setCell ⟨g,0,none⟩ v0).setCell ⟨g,1,none⟩ v1).setCell ⟨g,2,none⟩ v2).setCell ⟨g,3,none⟩ v3).setCell ⟨g,4,none⟩ v4).setCell ⟨g,5,none⟩ v5).setCell ⟨g,6,none⟩ v6).setCell ⟨g,7,none⟩ v7).setCell ⟨g,8,none⟩ v8) base ok v xs:=(Kd.R_far (p:=⟨g,8,none⟩) (Kd.R_far (p:=⟨g,7,none⟩) (Kd.R_far (p:=⟨g,6,none⟩) (Kd.R_far (p:=⟨g,5,none⟩) (Kd.R_far (p:=⟨g,4,none⟩) (Kd.R_far (p:=⟨g,3,none⟩) (Kd.R_far (p:=⟨g,2,none⟩) (Kd.R_far (p:=⟨g,1,none⟩) (Kd.R_far (p:=⟨g,0,none⟩) h f v0) f v1) f v2) f v3) f v4) f v5) f v6) f v7) f v8)
theorem z0_ {a0 a1 p:Prop} (h0:a0) (h1:a1) (f:a0→a1→p:=by intro h0_ h1_;repeat (first | (with_reducible first | exact h0_ | apply below_alloc | apply pw_below_drewN | apply below_drew1 | refine below_set ?_ h1_) | exact h0_)):p:=f h0 h1
theorem z1_ {a0 p:Prop} (h0:a0) (f:a0→p:=by intro h0_;repeat (first | (with_reducible first | exact h0_ | apply below_alloc | apply pw_below_drewN | apply below_drew1) | exact h0_)):p:=f h0
theorem z2_ {p:Prop} (f:p:=by first | rfl | (simp;done) | (simp [*];done) | (simp [bne];done)):p:=f
theorem z3_ {a0 p:Prop} (h0:a0) (f:a0→p:=by intro h0_;(with_reducible repeat (first | apply Kd.R_alloc | apply Kd.R_drewN | apply Kd.R_drew));exact h0_):p:=f h0
theorem z4_ {p:Prop} (f:p:=by first | (with_reducible assumption) | assumption):p:=f
theorem z5_ {a0 p:Prop} (h0:a0) (f:a0→p:=by intro h0_;rw [hg];exact (below_size (by repeat (first | (with_reducible first | exact h0_ | apply below_alloc | apply pw_below_drewN | apply below_drew1) | exact h0_)))):p:=f h0
theorem z6_ {p:Prop} (f:p:=by first | rfl | (simp [errW_none,errW_some] <;> rfl) | (simp [*,errW_none,errW_some] <;> rfl)):p:=f
theorem z7_ {a0 p:Prop} (h0:a0) (f:a0→p:=by intro h0_;(with_reducible repeat (first | refine blk_drewN ?_ _ | refine blk_drew ?_ | refine blk_alloc ?_ _));exact h0_):p:=f h0
theorem z8_ {a0 a1 a2 p:Prop} (h0:a0) (h1:a1) (h2:a2) (f:a0→a1→a2→p:=by intro h0_ h1_ h2_;repeat (first | (with_reducible first | exact h0_ | apply below_alloc | apply pw_below_drewN | apply below_drew1 | refine below_set ?_ h1_ | refine below_set ?_ h2_) | exact h0_)):p:=f h0 h1 h2
theorem z9_ {a0 a1 p:Prop} (h0:a0) (h1:a1) (f:a0→a1→p:=by intro h0_ h1_;rw [hg];exact (below_size (by repeat (first | (with_reducible first | exact h0_ | apply below_alloc | apply pw_below_drewN | apply below_drew1 | refine below_set ?_ h1_) | exact h0_)))):p:=f h0 h1
theorem z10_ {p:Prop} (f:p:=by repeat (first | exact Drawn0.refl _ | apply Drawn0.step)):p:=f
theorem z11_ {a0 a1 a2 a3 p:Prop} (h0:a0) (h1:a1) (h2:a2) (h3:a3) (f:a0→a1→a2→a3→p:=by intro h0_ h1_ h2_ h3_;repeat (first | (with_reducible first | exact h0_ | apply below_alloc | apply pw_below_drewN | apply below_drew1 | refine below_set ?_ h1_ | refine below_set ?_ h2_ | refine below_set ?_ h3_) | exact h0_)):p:=f h0 h1 h2 h3
theorem z12_ {a0 a1 a2 p:Prop} (h0:a0) (h1:a1) (h2:a2) (f:a0→a1→a2→p:=by intro h0_ h1_ h2_;rw [hg];exact (below_size (by repeat (first | (with_reducible first | exact h0_ | apply below_alloc | apply pw_below_drewN | apply below_drew1 | refine below_set ?_ h1_ | refine below_set ?_ h2_) | exact h0_)))):p:=f h0 h1 h2
theorem z13_ {a0 a1 p:Prop} (h0:a0) (h1:a1) (f:a0→a1→p:=by intro h0_ h1_;(with_reducible repeat (first | apply Kd.R_alloc | apply Kd.R_drewN | apply Kd.R_drew));exact (Kd.R_mono (rf9_ (Kd.R_types h0_ h1_ (by decide)) (fun _ hk=>hk.2)) (fun _ h_=>h_.1))):p:=f h0 h1
theorem z14_ {a0 a1 p:Prop} (h0:a0) (h1:a1) (f:a0→a1→p:=by intro h0_ h1_;(with_reducible repeat (first | refine blk_drewN ?_ _ | refine blk_drew ?_ | refine blk_alloc ?_ _));refine blk_far ?_ h0_ _;(with_reducible repeat (first | refine blk_drewN ?_ _ | refine blk_drew ?_ | refine blk_alloc ?_ _));refine blk_far ?_ h0_ _;(with_reducible repeat (first | refine blk_drewN ?_ _ | refine blk_drew ?_ | refine blk_alloc ?_ _));exact h1_):p:=f h0 h1
end Go.Proofs.YtffjlmmlclpcnaaDoor.P

namespace Go.Proofs.YtffjlmmlclpcnaaDoor.Open
open Go.RowKit Go.Proofs.YtffjlmmlclpcnaaDoorW.PrintWords

def Opens {α:Type} (P:Program) (t:TypeId) (d:Kd α) (wf:α→Prop):Prop :=
  ∀ {H:Type} {enc:TypeId × Value→H} {W:World} {base:Nat} {spare:Nat→Bool} {held:Bool} {fuel:Nat} {cs:List Value} {x:DataW H × List MemPlace},
    DataW.trod enc P W base spare held fuel t cs=some x→∃ a:α,d.K W a cs∧wf a
section
variable {P:Program} {t e:TypeId} {α β:Type} {d:Kd α} {d':Kd β} {wf:α→Prop} {wf':β→Prop}
theorem opens_int {k:IntKind} (ht:P.underlying t=some (.int k)):Opens P t (Kd.int k) (fun n=>(Lit.int k n).wf=true):=by
  intro H enc W base spare held fuel cs x h
  obtain ⟨n,rfl,_,hw⟩:=DataW.trod_int ht h
  exact ⟨n,rfl,hw⟩
theorem opens_bool (ht:P.underlying t=some .bool):Opens P t Kd.bool (fun _=>True):=by
  intro H enc W base spare held fuel cs x h
  obtain ⟨n,rfl,_⟩:=DataW.trod_bool ht h
  exact ⟨n,rfl,trivial⟩
theorem opens_string (ht:P.underlying t=some .string):Opens P t Kd.string (fun s=>s.size≤maxLen):=by
  intro H enc W base spare held fuel cs x h
  obtain ⟨n,rfl,_,hw⟩:=DataW.trod_string ht h
  exact ⟨n,rfl,hw⟩
theorem add_add_ (a:Addr) (i j:Nat):(a.add i).add j=a.add (i+j):=by
  by_cases hi:i=0 <;> by_cases hj:j=0 <;> simp [Addr.add,hi,hj,Nat.add_assoc]
theorem cells_get {W:World} {base n:Nat} {a:Addr} {c:List Value} (h:W.cells? base a n=some c):c.length=n∧∀ i u,c[i]? = some u→W.cell? (a.add i)=some u:=by
  unfold World.cells? at h
  split at h
  · have hl:c.length=n:=by simpa using mapM_some_length h
    refine ⟨hl,fun i u hu=>?_⟩
    have hi:i<n:=by rw [← hl];exact (List.getElem?_eq_some_iff.1 hu).1
    have:=mapM_some_get h i i (by simp [hi])
    rw [this,hu]
  · cases h
theorem opens_slice (ht:P.underlying t=some (.slice e)) (hs:P.cellsOf e=d.sz) (he:Opens P e d wf):Opens P t (Kd.slice e d) (fun l=>l.length≤maxLen∧∀ x ∈ l,wf x):=by
  intro H enc W base spare held fuel cs x h
  rcases DataW.trod_slice ht h with ⟨rfl,_⟩ | ⟨a,len,cap,elems,rest,n,_,rfl,rfl,hb,hl,hm,hlen,hel,_,_⟩
  · exact ⟨[],⟨none,0,rfl,Nat.le_refl _,Kd.C_nil _ _⟩,by simp [maxLen],by simp⟩
  have each:∀ i:Fin len,∃ y:α,∃ c:List Value,c.length=d.sz∧d.K W y c∧wf y∧∀ j u,c[j]? = some u→W.cell? (a.add (i.1*d.sz+j))=some u:=by
    intro i
    have h1:=hel i.1 i.2
    have h2:elems[i.1]? = some (elems[i.1]'(by rw [hlen];exact i.2)):=List.getElem?_eq_getElem _
    rw [h2,Option.bind_eq_some_iff] at h1
    obtain ⟨c,hc,hy⟩:=h1
    obtain ⟨y,hk,hw⟩:=he hy
    obtain ⟨_,hc2⟩:=cells_get hc
    refine ⟨y,c,d.K_len hk,hk,hw,fun j u hu=>?_⟩
    have:=hc2 j u hu
    rwa [add_add_,hs] at this
  have L:(List.ofFn fun i:Fin len=>(each i).choose).length=len:=List.length_ofFn
  have G:∀ j p,(List.ofFn fun i:Fin len=>(each i).choose)[j]? = some p→∃ h:j<len,p=(each ⟨j,h⟩).choose:=by
    intro j p hp
    have hj:j<len:=by rw [← L];exact (List.getElem?_eq_some_iff.1 hp).1
    refine ⟨hj,?_⟩
    rw [List.getElem?_ofFn] at hp
    simp only [hj,dite_true,Option.some.injEq] at hp
    exact hp.symm
  refine ⟨List.ofFn fun i:Fin len=>(each i).choose,⟨some a,cap,by rw [L],by rw [L];exact hl,rfl,by rw [L];exact Nat.le_trans hl hm,fun _=>⟨a,rfl,fun j p hp=>?_⟩⟩,by rw [L];exact Nat.le_trans hl hm,fun p hp=>?_⟩
  · obtain ⟨hj,rfl⟩:=G j p hp
    obtain ⟨c,h1,h2,_,h4⟩:=(each ⟨j,hj⟩).choose_spec
    exact ⟨c,h1,h2,h4⟩
  · obtain ⟨j,hj0⟩:=List.getElem?_of_mem hp
    obtain ⟨hj,rfl⟩:=G j p hj0
    exact (each ⟨j,hj⟩).choose_spec.choose_spec.2.2.1
/-- The fields from one on. -/
def OpensF {α:Type} (P:Program) (fs:List Field) (off:Nat) (d:Kd α) (wf:α→Prop):Prop :=
  ∀ {H:Type} {enc:TypeId × Value→H} {W:World} {base:Nat} {spare:Nat→Bool} {held:Bool} {n:Nat} {cs:List Value},
    (∀ (i:Nat) (f:Field),fs[i]? = some f→∃ y,DataW.trod enc P W base spare held n f.type ((cs.drop f.offset).take (P.cellsOf f.type))=some y)→cs.length=off+d.sz→∃ a:α,d.K W a (cs.drop off)∧wf a
theorem opensF_one {f:Field} {off:Nat} (ho:f.offset=off) (hs:P.cellsOf f.type=d.sz) (he:Opens P f.type d wf):OpensF P [f] off d wf:=by
  intro H enc W base spare held n cs h hl
  obtain ⟨y,hy⟩:=h 0 f rfl
  rw [ho,hs,List.take_of_length_le (by rw [List.length_drop];omega)] at hy
  exact he hy
theorem opensF_cons {f:Field} {fs:List Field} {off:Nat} (ho:f.offset=off) (hs:P.cellsOf f.type=d.sz) (he:Opens P f.type d wf) (hf:OpensF P fs (off+d.sz) d' wf') :
    OpensF P (f :: fs) off (Kd.pair d d') (fun x=>wf x.1∧wf' x.2):=by
  intro H enc W base spare held n cs h hl
  have hl':cs.length=off+(d.sz+d'.sz):=hl
  obtain ⟨y,hy⟩:=h 0 f rfl
  rw [ho,hs] at hy
  obtain ⟨a,ha,hw⟩:=he hy
  obtain ⟨b,hb,hw'⟩:=hf (cs:=cs) (fun i g hg=>h (i+1) g hg) (by omega)
  refine ⟨(a,b),⟨(cs.drop off).take d.sz,cs.drop (off+d.sz),?_,ha,hb⟩,hw,hw'⟩
  rw [← List.drop_drop,List.take_append_drop]
theorem opens_struct {fs:Array Field} (ht:P.underlying t=some (.struct fs)) (hc:P.cellsOf t=d.sz) (hf:OpensF P fs.toList 0 d wf):Opens P t d wf:=by
  intro H enc W base spare held fuel cs x h
  obtain ⟨xs,n,_,_,hl,hx,hall⟩:=DataW.trod_struct ht h
  have:=hf (H:=H) (enc:=enc) (W:=W) (base:=base) (spare:=spare) (held:=held) (n:=n) (cs:=cs) (fun i f hi=>by
    have h1:=hall i f (by simpa using hi)
    have hi2:i<xs.length:=by
      rw [hx]
      have:=(List.getElem?_eq_some_iff.1 hi).1
      simpa using this
    exact ⟨xs[i],by rw [h1];exact List.getElem?_eq_getElem hi2⟩) (by rw [hl,hc];omega)
  simpa using this
theorem opens_iso {f:β→α} {g:α→β} (hg:∀ y,f (g y)=y) (h:Opens P t d wf):Opens P t (Kd.iso d f) (fun x=>wf (f x)):=by
  intro H enc W base spare held fuel cs x hx
  obtain ⟨a,ha,hw⟩:=h hx
  exact ⟨g a,by show d.K W (f (g a)) cs;rw [hg];exact ha,by show wf (f (g a));rw [hg];exact hw⟩
end
end Go.Proofs.YtffjlmmlclpcnaaDoor.Open

namespace Go.Proofs.YtffjlmmlclpcnaaDoor.RO
open Go.RowKit Go.Proofs.YtffjlmmlclpcnaaDoor.Open Go.Proofs.YtffjlmmlclpcnaaDoor.P Go.Proofs.YtffjlmmlclpcnaaDoorW.PrintWords
set_option linter.unusedVariables false

def wfT31 (x:S31):Prop:=(Lit.int .i64 x.f0).wf=true∧(Lit.int .i64 x.f1).wf=true
theorem op_T31:Opens Tryd.prog 31 k31 wfT31:=opens_iso (f:=fun x:S31=>(x.f0,x.f1)) (g:=fun p_=>(⟨p_.1,p_.2⟩:S31)) (fun _=>rfl) (opens_struct Tryd.underlying31 (by kernel_rfl) (opensF_cons rfl (by kernel_rfl) (opens_int Tryd.underlying2) (opensF_one rfl (by kernel_rfl) (opens_int Tryd.underlying2))))
def wfT70 (x:S70):Prop:=(Lit.int .i64 x.f0).wf=true∧(Lit.int .i64 x.f1).wf=true∧True∧x.f3.size≤maxLen
theorem op_T70:Opens Tryd.prog 70 k70 wfT70:=opens_iso (f:=fun x:S70=>(x.f0,x.f1,x.f2,x.f3)) (g:=fun p_=>(⟨p_.1,p_.2.1,p_.2.2.1,p_.2.2.2⟩:S70)) (fun _=>rfl) (opens_struct Tryd.underlying70 (by kernel_rfl) (opensF_cons rfl (by kernel_rfl) (opens_int Tryd.underlying2) (opensF_cons rfl (by kernel_rfl) (opens_int Tryd.underlying2) (opensF_cons rfl (by kernel_rfl) (opens_bool Tryd.underlying4) (opensF_one rfl (by kernel_rfl) (opens_string Tryd.underlying9))))))
def wfT34 (x:S34):Prop:=(Lit.int .i64 x.f0).wf=true∧x.f1.size≤maxLen∧True∧(Lit.int .i64 x.f3).wf=true∧(x.f4.length≤maxLen∧∀ y_ ∈ x.f4,y_.size≤maxLen)∧x.f5.size≤maxLen∧wfT31 x.f6∧(x.f7.length≤maxLen∧∀ y_ ∈ x.f7,wfT70 y_)
theorem op_T34:Opens Tryd.prog 34 k34 wfT34:=opens_iso (f:=fun x:S34=>(x.f0,x.f1,x.f2,x.f3,x.f4,x.f5,x.f6,x.f7)) (g:=fun p_=>(⟨p_.1,p_.2.1,p_.2.2.1,p_.2.2.2.1,p_.2.2.2.2.1,p_.2.2.2.2.2.1,p_.2.2.2.2.2.2.1,p_.2.2.2.2.2.2.2⟩:S34)) (fun _=>rfl) (opens_struct Tryd.underlying34 (by kernel_rfl) (opensF_cons rfl (by kernel_rfl) (opens_int Tryd.underlying2) (opensF_cons rfl (by kernel_rfl) (opens_string Tryd.underlying9) (opensF_cons rfl (by kernel_rfl) (opens_bool Tryd.underlying4) (opensF_cons rfl (by kernel_rfl) (opens_int Tryd.underlying2) (opensF_cons rfl (by kernel_rfl) (opens_slice Tryd.underlying29 (by kernel_rfl) (opens_string Tryd.underlying9)) (opensF_cons rfl (by kernel_rfl) (opens_string Tryd.underlying9) (opensF_cons rfl (by kernel_rfl) op_T31 (opensF_one rfl (by kernel_rfl) (opens_slice Tryd.underlying32 (by kernel_rfl) op_T70))))))))))
end Go.Proofs.YtffjlmmlclpcnaaDoor.RO

namespace Go.Proofs.YtffjlmmlclpcnaaDoor.P
open Go.RowKit Go.Proofs.YtffjlmmlclpcnaaDoorW.PrintWords Go.Proofs.YtffjlmmlclpcnaaDoorW.PrintLast Go.Proofs.YtffjlmmlclpcnaaDoorW.PrintMore
attribute [local go_sem] max2_int min2_int max_two min_two max_three min_three max_four min_four   -- for this text's walks alone
set_option linter.unusedVariables false
set_option linter.unusedSimpArgs false

/-! ### Y3: function 20 -/
def Y3.l0:Nat→List ByteArray→Int→Int→Option (Int)
 | 0,_,_,_=>none
 | k+1,x0,x1,x5=>if x5<(x0.length:Int) then (if 0≤x5 then (if (wrap64 (x1-((rdOf ByteArray.empty x0 x5).size:Int)))<0 then (some (-1)) else (Y3.l0 k x0 (wrap64 (x1-((rdOf ByteArray.empty x0 x5).size:Int))) (wrap64 (x5+1)))) else (none)) else (some x1)
def Y3.f (k:Nat) (l0:List ByteArray) (a1:Int):Option (Int):=if (wrap64 (a1-(l0.length:Int)))<0 then (some (-1)) else (Y3.l0 k l0 (wrap64 (a1-(l0.length:Int))) 0)
theorem Y3.mono_l:∀ k,(∀ y0 y1 y2,LeO (Y3.l0 k y0 y1 y2) (Y3.l0 (k+1) y0 y1 y2))
 | 0=>by intros <;> exact LeO.none _
 | k+1=>by
  have ih0:=Y3.mono_l k
  ·intros
   unfold Y3.l0
   exact mO
theorem Y3.mono:∀ a0 a1 k,LeO (Y3.f k a0 a1) (Y3.f (k+1) a0 a1):=by
 intro a0 a1 k
 have ih0:=Y3.mono_l k
 unfold Y3.f
 exact mO
theorem Y3.calls (k:Nat) (A0:Option Addr) (c0:Nat) (l0:List ByteArray) (a1:Int) (r:Int) (w:World) (hr0:Kd.C Kd.string w A0 l0.length l0) (hc0:l0.length≤c0) (h:Y3.f k l0 a1=some r) :
  Calls Tryd.prog 20 #[.slice A0 l0.length c0,.int .i64 a1] w fun e w'=>e = .returned (.int .i64 r)∧Drawn0 w w':=by
 have HR0:=aM hr0
 have HC0:=aM hc0
 clear hr0 hc0
 have H:(if (wrap64 (a1-(l0.length:Int)))<0 then (some (-1)) else (Y3.l0 k l0 (wrap64 (a1-(l0.length:Int))) 0))=some r:=h
 clear h
 by_cases c3:(wrap64 (a1-(l0.length:Int)))<0
 ·rw [if_pos c3] at H
  have c3b0:decide ((wrap64 (a1-(l0.length:Int)))<0)=true:=dE c3
  clear c3
  obtain rfl:=sI H
  go_enter Tryd.func20,Tryd.ntmps20
  go_wp2
  go_ret
  exact ⟨z2_,z10_⟩
 ·rw [if_neg c3] at H
  have c3b0:decide ((wrap64 (a1-(l0.length:Int)))<0)=false:=dF c3
  clear c3
  have H':=aM H
  clear H
  go_enter Tryd.func20,Tryd.ntmps20
  go_wp2
  go_loopg [1,5] k (fun kq v1 v5 w'=>∃ (x1_1:Int) (x5_1:Int),v1 = .int .i64 x1_1∧v5 = .int .i64 x5_1∧Aside0 (Y3.l0 kq l0 x1_1 x5_1=some r)∧Aside0 (kq≤k)∧Drawn0 w w')
  case atStart=>exact ⟨(wrap64 (a1-(l0.length:Int))),(0),(z2_),(z2_),H',⟨Nat.le_refl _⟩,z10_⟩
  case round =>
   clear H'
   try clear c2
   try clear p2
   try clear c3
   try clear c3b0
   obtain ⟨x1_1,x5_1,rfl,rfl,HA,HK1,⟨m1,rfl⟩⟩:=hrel
   cases gk with
   | zero=>exact absurd HA.out (by simp [Y3.l0])
   | succ k1 =>
    have H:=HA.out
    clear HA
    simp only [Y3.l0] at H
    by_cases c4:x5_1<(l0.length:Int)
    ·rw [if_pos c4] at H
     have c4b0:decide (x5_1<(l0.length:Int))=true:=dE c4
     clear c4
     by_cases c5:0≤x5_1
     ·rw [if_pos c5] at H
      have c5b0:decide (0≤x5_1)=true:=dE c5
      clear c5
      by_cases c6:(wrap64 (x1_1-((rdOf ByteArray.empty l0 x5_1).size:Int)))<0
      ·rw [if_pos c6] at H
       have c6b0:decide ((wrap64 (x1_1-((rdOf ByteArray.empty l0 x5_1).size:Int)))<0)=true:=dE c6
       clear c6
       obtain rfl:=sI H
       have p202:0≤(x5_1:Int):=dT (z4_)
       have q202:x5_1<(l0.length:Int):=dT (z4_)
       obtain ⟨ad202,e202,hx202_0⟩:=Kd.at_string HR0.out x5_1 p202 q202
       cases e202
       replace p202:=eq_true p202
       replace q202:=eq_true q202
       go_wp2
       go_ret
       exact ⟨z2_,z10_⟩
      ·rw [if_neg c6] at H
       have c6b0:decide ((wrap64 (x1_1-((rdOf ByteArray.empty l0 x5_1).size:Int)))<0)=false:=dF c6
       clear c6
       have H':=aM H
       clear H
       have p202:0≤(x5_1:Int):=dT (z4_)
       have q202:x5_1<(l0.length:Int):=dT (z4_)
       obtain ⟨ad202,e202,hx202_0⟩:=Kd.at_string HR0.out x5_1 p202 q202
       cases e202
       replace p202:=eq_true p202
       replace q202:=eq_true q202
       go_wp2
       go_roundg k1
       case measure=>have:=HK1.out;omega
       case rel=>exact ⟨(wrap64 (x1_1-((rdOf ByteArray.empty l0 x5_1).size:Int))),(wrap64 (x5_1+1)),(z2_),(z2_),H',⟨by have:=HK1.out;omega⟩,z10_⟩
     ·rw [if_neg c5] at H
      exact nO H
    ·rw [if_neg c4] at H
     have c4b0:decide (x5_1<(l0.length:Int))=false:=dF c4
     clear c4
     obtain rfl:=sI H
     go_wp2
     go_ret
     exact ⟨z2_,z10_⟩


/-! ### Y17: function 43 -/
def Y17.f (a0_0:Int) (a0_1:Int) (a0_2:Bool) (a0_3:ByteArray) (a1:Int):Option (Int):=if (wrap64 (a1-(a0_3.size:Int)))<0 then (some (-1)) else (some (wrap64 (a1-(a0_3.size:Int))))
theorem Y17.calls (a0_0:Int) (a0_1:Int) (a0_2:Bool) (a0_3:ByteArray) (a1:Int) (r:Int) (w:World) (h:Y17.f a0_0 a0_1 a0_2 a0_3 a1=some r) :
  Calls Tryd.prog 43 #[.agg #[.int .i64 a0_0,.int .i64 a0_1,.bool a0_2,.string a0_3],.int .i64 a1] w fun e w'=>e = .returned (.int .i64 r)∧Below w.heap.size w w':=by
 have hu70:=Tryd.underlying70
 have HB:=aM (Below.refl w.heap.size w)
 have H:(if (wrap64 (a1-(a0_3.size:Int)))<0 then (some (-1)) else (some (wrap64 (a1-(a0_3.size:Int)))))=some r:=h
 clear h
 by_cases c3:(wrap64 (a1-(a0_3.size:Int)))<0
 ·rw [if_pos c3] at H
  have c3b0:decide ((wrap64 (a1-(a0_3.size:Int)))<0)=true:=dE c3
  clear c3
  obtain rfl:=sI H
  go_enter Tryd.func43,Tryd.ntmps43
  go_wp2_with (first | ((with_reducible refine gd_ 2 ?_);refine be_ 2 #[.int .i64 a0_0,.int .i64 a0_1,.bool a0_2,.string a0_3] 70 ?_;intro gb203 hg w4 hbox hb;have n0_:=aM (below_step (z1_ HB.out) hb);have n1_:=aM (hbox);have n2_:=aM ((z5_ HB.out:w.heap.size≤gb203));have n3_:=aM ((z5_ HB.out:w.heap.size≤gb203));clear HB;have HB:=n0_;have BK203:=n1_;have GW203:=n2_;have GE203:=n3_;clear n0_ n1_ n2_ n3_;clear hb hbox hg;have ⟨hcz5_0,hcz5_1,hcz5_2,hcz5_3,hfz5_0,hfz5_1,hfz5_2,hfz5_3⟩:=cz4_ BK203.out))
  go_ret
  exact ⟨z6_,z0_ HB.out GE203.out⟩
 ·rw [if_neg c3] at H
  have c3b0:decide ((wrap64 (a1-(a0_3.size:Int)))<0)=false:=dF c3
  clear c3
  obtain rfl:=sI H
  go_enter Tryd.func43,Tryd.ntmps43
  go_wp2_with (first | ((with_reducible refine gd_ 2 ?_);refine be_ 2 #[.int .i64 a0_0,.int .i64 a0_1,.bool a0_2,.string a0_3] 70 ?_;intro gb203 hg w6 hbox hb;have n0_:=aM (below_step (z1_ HB.out) hb);have n1_:=aM (hbox);have n2_:=aM ((z5_ HB.out:w.heap.size≤gb203));have n3_:=aM ((z5_ HB.out:w.heap.size≤gb203));clear HB;have HB:=n0_;have BK203:=n1_;have GW203:=n2_;have GE203:=n3_;clear n0_ n1_ n2_ n3_;clear hb hbox hg;have ⟨hcz7_0,hcz7_1,hcz7_2,hcz7_3,hfz7_0,hfz7_1,hfz7_2,hfz7_3⟩:=cz4_ BK203.out))
  go_ret
  exact ⟨z6_,z0_ HB.out GE203.out⟩


/-! ### Y8: function 21 -/
def Y8.l0:Nat→List (S70)→Int→Int→Option (Int)
 | 0,_,_,_=>none
 | k+1,x0,x1,x5=>if x5<(x0.length:Int) then (if 0≤x5 then ((Y17.f ((rd_T70 x0 x5).f0) ((rd_T70 x0 x5).f1) ((rd_T70 x0 x5).f2) ((rd_T70 x0 x5).f3) x1).bind fun t205=>(if t205<0 then (some (-1)) else (Y8.l0 k x0 t205 (wrap64 (x5+1))))) else (none)) else (some x1)
def Y8.f (k:Nat) (l0:List (S70)) (a1:Int):Option (Int):=if (wrap64 (a1-(l0.length:Int)))<0 then (some (-1)) else (Y8.l0 k l0 (wrap64 (a1-(l0.length:Int))) 0)
theorem Y8.mono_l:∀ k,(∀ y0 y1 y2,LeO (Y8.l0 k y0 y1 y2) (Y8.l0 (k+1) y0 y1 y2))
 | 0=>by intros <;> exact LeO.none _
 | k+1=>by
  have ih0:=Y8.mono_l k
  ·intros
   unfold Y8.l0
   exact mO
theorem Y8.mono:∀ a0 a1 k,LeO (Y8.f k a0 a1) (Y8.f (k+1) a0 a1):=by
 intro a0 a1 k
 have ih0:=Y8.mono_l k
 unfold Y8.f
 exact mO
theorem Y8.calls (k:Nat) (A0:Option Addr) (c0:Nat) (l0:List (S70)) (a1:Int) (r:Int) (w:World) (hr0:Kd.C k70 w A0 l0.length l0) (hc0:l0.length≤c0) (h:Y8.f k l0 a1=some r) :
  Calls Tryd.prog 21 #[.slice A0 l0.length c0,.int .i64 a1] w fun e w'=>e = .returned (.int .i64 r)∧Below w.heap.size w w':=by
 have hu70:=Tryd.underlying70
 have HR0:=aM hr0
 have HC0:=aM hc0
 clear hr0 hc0
 have HB:=aM (Below.refl w.heap.size w)
 have H:(if (wrap64 (a1-(l0.length:Int)))<0 then (some (-1)) else (Y8.l0 k l0 (wrap64 (a1-(l0.length:Int))) 0))=some r:=h
 clear h
 by_cases c3:(wrap64 (a1-(l0.length:Int)))<0
 ·rw [if_pos c3] at H
  have c3b0:decide ((wrap64 (a1-(l0.length:Int)))<0)=true:=dE c3
  clear c3
  obtain rfl:=sI H
  go_enter Tryd.func21,Tryd.ntmps21
  go_wp2
  go_ret
  exact ⟨z6_,z1_ HB.out⟩
 ·rw [if_neg c3] at H
  have c3b0:decide ((wrap64 (a1-(l0.length:Int)))<0)=false:=dF c3
  clear c3
  have H':=aM H
  clear H
  go_enter Tryd.func21,Tryd.ntmps21
  go_wp2
  go_loopg [1,5] k (fun kq v1 v5 w'=>∃ (x1_1:Int) (x5_1:Int),v1 = .int .i64 x1_1∧v5 = .int .i64 x5_1∧Aside0 (Y8.l0 kq l0 x1_1 x5_1=some r)∧Aside0 (kq≤k)∧Aside0 (Below w.heap.size w w'))
  case atStart=>exact ⟨(wrap64 (a1-(l0.length:Int))),(0),(z2_),(z2_),H',⟨Nat.le_refl _⟩,⟨z1_ HB.out⟩⟩
  case round =>
   clear H'
   try clear c2
   try clear p2
   try clear c3
   try clear c3b0
   obtain ⟨x1_1,x5_1,rfl,rfl,HA,HK1,HB⟩:=hrel
   cases gk with
   | zero=>exact absurd HA.out (by simp [Y8.l0])
   | succ k1 =>
    have H:=HA.out
    clear HA
    simp only [Y8.l0] at H
    by_cases c4:x5_1<(l0.length:Int)
    ·rw [if_pos c4] at H
     have c4b0:decide (x5_1<(l0.length:Int))=true:=dE c4
     clear c4
     by_cases c5:0≤x5_1
     ·rw [if_pos c5] at H
      have c5b0:decide (0≤x5_1)=true:=dE c5
      clear c5
      replace H:=bS H
      obtain ⟨t205,A60,H⟩:=H
      replace H:(if t205<0 then (some (-1)) else (Y8.l0 k1 l0 t205 (wrap64 (x5_1+1))))=some r:=H
      have A6:=aM A60
      clear A60
      by_cases c7:t205<0
      ·rw [if_pos c7] at H
       have c7b0:decide (t205<0)=true:=dE c7
       clear c7
       obtain rfl:=sI H
       have p204:0≤(x5_1:Int):=dT (z4_)
       have q204:x5_1<(l0.length:Int):=dT (z4_)
       obtain ⟨ad204,e204,hx204_0,hx204_1,hx204_2,hx204_3⟩:=at_T70 HR0.out x5_1 p204 q204
       cases e204
       replace hx204_0:=(HB.out.cell (World.block_lt_of_cell? w _ hx204_0)).trans hx204_0
       replace hx204_1:=(HB.out.cell (World.block_lt_of_cell? w _ hx204_1)).trans hx204_1
       replace hx204_2:=(HB.out.cell (World.block_lt_of_cell? w _ hx204_2)).trans hx204_2
       replace hx204_3:=(HB.out.cell (World.block_lt_of_cell? w _ hx204_3)).trans hx204_3
       replace p204:=eq_true p204
       replace q204:=eq_true q204
       go_wp2_with (first | ((with_reducible refine gc_ 43 ?_);refine gl_ (some 23) Tryd.func43 #[.agg #[.int .i64 ((rd_T70 l0 x5_1).f0),.int .i64 ((rd_T70 l0 x5_1).f1),.bool ((rd_T70 l0 x5_1).f2),.string ((rd_T70 l0 x5_1).f3)],.int .i64 x1_1] ?_;(with_reducible refine (Y17.calls ((rd_T70 l0 x5_1).f0) ((rd_T70 l0 x5_1).f1) ((rd_T70 l0 x5_1).f2) ((rd_T70 l0 x5_1).f3) x1_1 t205 _ A6.out).mono ?_);rintro e w8 ⟨rfl,hb⟩;refine ⟨_,rfl,?_⟩;have n0_:=aM (below_step (z1_ HB.out) hb);clear HB;have HB:=n0_;clear n0_;(try clear hb)))
       go_ret
       exact ⟨z6_,z1_ HB.out⟩
      ·rw [if_neg c7] at H
       have c7b0:decide (t205<0)=false:=dF c7
       clear c7
       have H':=aM H
       clear H
       have p204:0≤(x5_1:Int):=dT (z4_)
       have q204:x5_1<(l0.length:Int):=dT (z4_)
       obtain ⟨ad204,e204,hx204_0,hx204_1,hx204_2,hx204_3⟩:=at_T70 HR0.out x5_1 p204 q204
       cases e204
       replace hx204_0:=(HB.out.cell (World.block_lt_of_cell? w _ hx204_0)).trans hx204_0
       replace hx204_1:=(HB.out.cell (World.block_lt_of_cell? w _ hx204_1)).trans hx204_1
       replace hx204_2:=(HB.out.cell (World.block_lt_of_cell? w _ hx204_2)).trans hx204_2
       replace hx204_3:=(HB.out.cell (World.block_lt_of_cell? w _ hx204_3)).trans hx204_3
       replace p204:=eq_true p204
       replace q204:=eq_true q204
       go_wp2_with (first | ((with_reducible refine gc_ 43 ?_);refine gl_ (some 23) Tryd.func43 #[.agg #[.int .i64 ((rd_T70 l0 x5_1).f0),.int .i64 ((rd_T70 l0 x5_1).f1),.bool ((rd_T70 l0 x5_1).f2),.string ((rd_T70 l0 x5_1).f3)],.int .i64 x1_1] ?_;(with_reducible refine (Y17.calls ((rd_T70 l0 x5_1).f0) ((rd_T70 l0 x5_1).f1) ((rd_T70 l0 x5_1).f2) ((rd_T70 l0 x5_1).f3) x1_1 t205 _ A6.out).mono ?_);rintro e w9 ⟨rfl,hb⟩;refine ⟨_,rfl,?_⟩;have n0_:=aM (below_step (z1_ HB.out) hb);clear HB;have HB:=n0_;clear n0_;(try clear hb)))
       go_roundg k1
       case measure=>have:=HK1.out;omega
       case rel=>exact ⟨(t205),(wrap64 (x5_1+1)),(z2_),(z2_),H',⟨by have:=HK1.out;omega⟩,⟨z1_ HB.out⟩⟩
     ·rw [if_neg c5] at H
      exact nO H
    ·rw [if_neg c4] at H
     have c4b0:decide (x5_1<(l0.length:Int))=false:=dF c4
     clear c4
     obtain rfl:=sI H
     go_wp2
     go_ret
     exact ⟨z6_,z1_ HB.out⟩


/-! ### Y14: function 9 -/
def Y14.f (k:Nat) (a0_0:Int) (a0_1:ByteArray) (a0_2:Bool) (a0_3:Int) (l0_4:List ByteArray) (a0_5:ByteArray) (a0_6:Int) (a0_7:Int) (l0_8:List (S70)) (a1:Int):Option (Int):=if (wrap64 (a1-(a0_1.size:Int)))<0 then (some (-1)) else ((Y3.f k l0_4 (wrap64 (a1-(a0_1.size:Int)))).bind fun t207=>(if t207<0 then (some (-1)) else (if (wrap64 (t207-(a0_5.size:Int)))<0 then (some (-1)) else ((Y8.f k l0_8 (wrap64 (t207-(a0_5.size:Int)))).bind fun t208=>(if t208<0 then (some (-1)) else (some t208))))))
theorem Y14.mono:∀ a0 a1 a2 a3 a4 a5 a6 a7 a8 a9 k,LeO (Y14.f k a0 a1 a2 a3 a4 a5 a6 a7 a8 a9) (Y14.f (k+1) a0 a1 a2 a3 a4 a5 a6 a7 a8 a9):=by
 intro a0 a1 a2 a3 a4 a5 a6 a7 a8 a9 k
 have m0:=@Y8.mono
 have m1:=@Y3.mono
 unfold Y14.f
 exact mO
theorem Y14.calls (k:Nat) (a0_0:Int) (a0_1:ByteArray) (a0_2:Bool) (a0_3:Int) (A0_4:Option Addr) (c0_4:Nat) (l0_4:List ByteArray) (a0_5:ByteArray) (a0_6:Int) (a0_7:Int) (A0_8:Option Addr) (c0_8:Nat) (l0_8:List (S70)) (a1:Int) (r:Int) (w:World) (hr0_4:Kd.C Kd.string w A0_4 l0_4.length l0_4) (hc0_4:l0_4.length≤c0_4) (hr0_8:Kd.C k70 w A0_8 l0_8.length l0_8) (hc0_8:l0_8.length≤c0_8) (h:Y14.f k a0_0 a0_1 a0_2 a0_3 l0_4 a0_5 a0_6 a0_7 l0_8 a1=some r) :
  Calls Tryd.prog 9 #[.agg #[.int .i64 a0_0,.string a0_1,.bool a0_2,.int .i64 a0_3,.slice A0_4 l0_4.length c0_4,.string a0_5,.int .i64 a0_6,.int .i64 a0_7,.slice A0_8 l0_8.length c0_8],.int .i64 a1] w fun e w'=>e = .returned (.int .i64 r)∧Below w.heap.size w w':=by
 have hu34:=Tryd.underlying34
 have HR0_4:=aM hr0_4
 have HC0_4:=aM hc0_4
 clear hr0_4 hc0_4
 have HR0_8:=aM hr0_8
 have HC0_8:=aM hc0_8
 clear hr0_8 hc0_8
 have HB:=aM (Below.refl w.heap.size w)
 have H:(if (wrap64 (a1-(a0_1.size:Int)))<0 then (some (-1)) else ((Y3.f k l0_4 (wrap64 (a1-(a0_1.size:Int)))).bind fun t207=>(if t207<0 then (some (-1)) else (if (wrap64 (t207-(a0_5.size:Int)))<0 then (some (-1)) else ((Y8.f k l0_8 (wrap64 (t207-(a0_5.size:Int)))).bind fun t208=>(if t208<0 then (some (-1)) else (some t208)))))))=some r:=h
 clear h
 by_cases c3:(wrap64 (a1-(a0_1.size:Int)))<0
 ·rw [if_pos c3] at H
  have c3b0:decide ((wrap64 (a1-(a0_1.size:Int)))<0)=true:=dE c3
  clear c3
  obtain rfl:=sI H
  go_enter Tryd.func9,Tryd.ntmps9
  go_wp2_with (first | ((with_reducible refine gd_ 2 ?_);refine be_ 2 #[.int .i64 a0_0,.string a0_1,.bool a0_2,.int .i64 a0_3,.slice A0_4 l0_4.length c0_4,.string a0_5,.int .i64 a0_6,.int .i64 a0_7,.slice A0_8 l0_8.length c0_8] 34 ?_;intro gb206 hg w4 hbox hb;have n0_:=aM (below_step (z1_ HB.out) hb);have n1_:=aM (hbox);have n2_:=aM ((z5_ HB.out:w.heap.size≤gb206));have n3_:=aM ((z5_ HB.out:w.heap.size≤gb206));clear HB;have HB:=n0_;have BK206:=n1_;have GW206:=n2_;have GE206:=n3_;clear n0_ n1_ n2_ n3_;clear hb hbox hg;have ⟨hcz5_0,hcz5_1,hcz5_2,hcz5_3,hcz5_4,hcz5_5,hcz5_6,hcz5_7,hcz5_8,hfz5_0,hfz5_1,hfz5_2,hfz5_3,hfz5_4,hfz5_5,hfz5_6,hfz5_7,hfz5_8⟩:=cz9_ BK206.out))
  go_ret
  exact ⟨z6_,z0_ HB.out GE206.out⟩
 ·rw [if_neg c3] at H
  have c3b0:decide ((wrap64 (a1-(a0_1.size:Int)))<0)=false:=dF c3
  clear c3
  replace H:=bS H
  obtain ⟨t207,A60,H⟩:=H
  replace H:(if t207<0 then (some (-1)) else (if (wrap64 (t207-(a0_5.size:Int)))<0 then (some (-1)) else ((Y8.f k l0_8 (wrap64 (t207-(a0_5.size:Int)))).bind fun t208=>(if t208<0 then (some (-1)) else (some t208)))))=some r:=H
  have A6:=aM A60
  clear A60
  by_cases c7:t207<0
  ·rw [if_pos c7] at H
   have c7b0:decide (t207<0)=true:=dE c7
   clear c7
   obtain rfl:=sI H
   go_enter Tryd.func9,Tryd.ntmps9
   go_wp2_with (first | ((with_reducible refine gd_ 2 ?_);refine be_ 2 #[.int .i64 a0_0,.string a0_1,.bool a0_2,.int .i64 a0_3,.slice A0_4 l0_4.length c0_4,.string a0_5,.int .i64 a0_6,.int .i64 a0_7,.slice A0_8 l0_8.length c0_8] 34 ?_;intro gb206 hg w8 hbox hb;have n0_:=aM (below_step (z1_ HB.out) hb);have n1_:=aM (hbox);have n2_:=aM ((z5_ HB.out:w.heap.size≤gb206));have n3_:=aM ((z5_ HB.out:w.heap.size≤gb206));clear HB;have HB:=n0_;have BK206:=n1_;have GW206:=n2_;have GE206:=n3_;clear n0_ n1_ n2_ n3_;clear hb hbox hg;have ⟨hcz9_0,hcz9_1,hcz9_2,hcz9_3,hcz9_4,hcz9_5,hcz9_6,hcz9_7,hcz9_8,hfz9_0,hfz9_1,hfz9_2,hfz9_3,hfz9_4,hfz9_5,hfz9_6,hfz9_7,hfz9_8⟩:=cz9_ BK206.out) | ((with_reducible refine gc_ 20 ?_);refine gl_ (some 15) Tryd.func20 #[.slice A0_4 l0_4.length c0_4,.int .i64 (wrap64 (a1-(a0_1.size:Int)))] ?_;(with_reducible refine (Y3.calls k _ _ l0_4 (wrap64 (a1-(a0_1.size:Int))) t207 _ ?s1 ?s2 A6.out).mono ?_);(case s1=>repeat (first | exact (Kd.C_below HR0_4.out HB.out) | (with_reducible refine Kd.C_alloc ?_ _) | (with_reducible refine Kd.C_drewN ?_ _) | (with_reducible refine Kd.C_drew ?_)));(case s2=>exact HC0_4.out);rintro e w' ⟨rfl,⟨nd,rfl⟩⟩;refine ⟨_,rfl,?_⟩))
   go_ret
   exact ⟨z6_,z0_ HB.out GE206.out⟩
  ·rw [if_neg c7] at H
   have c7b0:decide (t207<0)=false:=dF c7
   clear c7
   by_cases c10:(wrap64 (t207-(a0_5.size:Int)))<0
   ·rw [if_pos c10] at H
    have c10b0:decide ((wrap64 (t207-(a0_5.size:Int)))<0)=true:=dE c10
    clear c10
    obtain rfl:=sI H
    go_enter Tryd.func9,Tryd.ntmps9
    go_wp2_with (first | ((with_reducible refine gd_ 2 ?_);refine be_ 2 #[.int .i64 a0_0,.string a0_1,.bool a0_2,.int .i64 a0_3,.slice A0_4 l0_4.length c0_4,.string a0_5,.int .i64 a0_6,.int .i64 a0_7,.slice A0_8 l0_8.length c0_8] 34 ?_;intro gb206 hg w11 hbox hb;have n0_:=aM (below_step (z1_ HB.out) hb);have n1_:=aM (hbox);have n2_:=aM ((z5_ HB.out:w.heap.size≤gb206));have n3_:=aM ((z5_ HB.out:w.heap.size≤gb206));clear HB;have HB:=n0_;have BK206:=n1_;have GW206:=n2_;have GE206:=n3_;clear n0_ n1_ n2_ n3_;clear hb hbox hg;have ⟨hcz12_0,hcz12_1,hcz12_2,hcz12_3,hcz12_4,hcz12_5,hcz12_6,hcz12_7,hcz12_8,hfz12_0,hfz12_1,hfz12_2,hfz12_3,hfz12_4,hfz12_5,hfz12_6,hfz12_7,hfz12_8⟩:=cz9_ BK206.out) | ((with_reducible refine gc_ 20 ?_);refine gl_ (some 15) Tryd.func20 #[.slice A0_4 l0_4.length c0_4,.int .i64 (wrap64 (a1-(a0_1.size:Int)))] ?_;(with_reducible refine (Y3.calls k _ _ l0_4 (wrap64 (a1-(a0_1.size:Int))) t207 _ ?s1 ?s2 A6.out).mono ?_);(case s1=>repeat (first | exact (Kd.C_below HR0_4.out HB.out) | (with_reducible refine Kd.C_alloc ?_ _) | (with_reducible refine Kd.C_drewN ?_ _) | (with_reducible refine Kd.C_drew ?_)));(case s2=>exact HC0_4.out);rintro e w' ⟨rfl,⟨nd,rfl⟩⟩;refine ⟨_,rfl,?_⟩))
    go_ret
    exact ⟨z6_,z0_ HB.out GE206.out⟩
   ·rw [if_neg c10] at H
    have c10b0:decide ((wrap64 (t207-(a0_5.size:Int)))<0)=false:=dF c10
    clear c10
    replace H:=bS H
    obtain ⟨t208,A130,H⟩:=H
    replace H:(if t208<0 then (some (-1)) else (some t208))=some r:=H
    have A13:=aM A130
    clear A130
    by_cases c14:t208<0
    ·rw [if_pos c14] at H
     have c14b0:decide (t208<0)=true:=dE c14
     clear c14
     obtain rfl:=sI H
     go_enter Tryd.func9,Tryd.ntmps9
     go_wp2_with (first | ((with_reducible refine gd_ 2 ?_);refine be_ 2 #[.int .i64 a0_0,.string a0_1,.bool a0_2,.int .i64 a0_3,.slice A0_4 l0_4.length c0_4,.string a0_5,.int .i64 a0_6,.int .i64 a0_7,.slice A0_8 l0_8.length c0_8] 34 ?_;intro gb206 hg w15 hbox hb;have n0_:=aM (below_step (z1_ HB.out) hb);have n1_:=aM (hbox);have n2_:=aM ((z5_ HB.out:w.heap.size≤gb206));have n3_:=aM ((z5_ HB.out:w.heap.size≤gb206));clear HB;have HB:=n0_;have BK206:=n1_;have GW206:=n2_;have GE206:=n3_;clear n0_ n1_ n2_ n3_;clear hb hbox hg;have ⟨hcz16_0,hcz16_1,hcz16_2,hcz16_3,hcz16_4,hcz16_5,hcz16_6,hcz16_7,hcz16_8,hfz16_0,hfz16_1,hfz16_2,hfz16_3,hfz16_4,hfz16_5,hfz16_6,hfz16_7,hfz16_8⟩:=cz9_ BK206.out) | ((with_reducible refine gc_ 20 ?_);refine gl_ (some 15) Tryd.func20 #[.slice A0_4 l0_4.length c0_4,.int .i64 (wrap64 (a1-(a0_1.size:Int)))] ?_;(with_reducible refine (Y3.calls k _ _ l0_4 (wrap64 (a1-(a0_1.size:Int))) t207 _ ?s1 ?s2 A6.out).mono ?_);(case s1=>repeat (first | exact (Kd.C_below HR0_4.out HB.out) | (with_reducible refine Kd.C_alloc ?_ _) | (with_reducible refine Kd.C_drewN ?_ _) | (with_reducible refine Kd.C_drew ?_)));(case s2=>exact HC0_4.out);rintro e w' ⟨rfl,⟨nd,rfl⟩⟩;refine ⟨_,rfl,?_⟩) | ((with_reducible refine gc_ 21 ?_);refine gl_ (some 28) Tryd.func21 #[.slice A0_8 l0_8.length c0_8,.int .i64 (wrap64 (t207-(a0_5.size:Int)))] ?_;(with_reducible refine (Y8.calls k _ _ l0_8 (wrap64 (t207-(a0_5.size:Int))) t208 _ ?s1 ?s2 A13.out).mono ?_);(case s1=>repeat (first | exact (Kd.C_below HR0_8.out (z0_ HB.out GE206.out)) | (with_reducible refine Kd.C_alloc ?_ _) | (with_reducible refine Kd.C_drewN ?_ _) | (with_reducible refine Kd.C_drew ?_)));(case s2=>exact HC0_8.out);rintro e w17 ⟨rfl,hb⟩;refine ⟨_,rfl,?_⟩;have n0_:=aM (blkB_ BK206.out hb);have n1_:=aM (below_step (z0_ HB.out GE206.out) hb);clear BK206;clear HB;have BK206:=n0_;have HB:=n1_;clear n0_ n1_;(try clear hb)))
     go_ret
     exact ⟨z6_,z0_ HB.out GE206.out⟩
    ·rw [if_neg c14] at H
     have c14b0:decide (t208<0)=false:=dF c14
     clear c14
     obtain rfl:=sI H
     go_enter Tryd.func9,Tryd.ntmps9
     go_wp2_with (first | ((with_reducible refine gd_ 2 ?_);refine be_ 2 #[.int .i64 a0_0,.string a0_1,.bool a0_2,.int .i64 a0_3,.slice A0_4 l0_4.length c0_4,.string a0_5,.int .i64 a0_6,.int .i64 a0_7,.slice A0_8 l0_8.length c0_8] 34 ?_;intro gb206 hg w18 hbox hb;have n0_:=aM (below_step (z1_ HB.out) hb);have n1_:=aM (hbox);have n2_:=aM ((z5_ HB.out:w.heap.size≤gb206));have n3_:=aM ((z5_ HB.out:w.heap.size≤gb206));clear HB;have HB:=n0_;have BK206:=n1_;have GW206:=n2_;have GE206:=n3_;clear n0_ n1_ n2_ n3_;clear hb hbox hg;have ⟨hcz19_0,hcz19_1,hcz19_2,hcz19_3,hcz19_4,hcz19_5,hcz19_6,hcz19_7,hcz19_8,hfz19_0,hfz19_1,hfz19_2,hfz19_3,hfz19_4,hfz19_5,hfz19_6,hfz19_7,hfz19_8⟩:=cz9_ BK206.out) | ((with_reducible refine gc_ 20 ?_);refine gl_ (some 15) Tryd.func20 #[.slice A0_4 l0_4.length c0_4,.int .i64 (wrap64 (a1-(a0_1.size:Int)))] ?_;(with_reducible refine (Y3.calls k _ _ l0_4 (wrap64 (a1-(a0_1.size:Int))) t207 _ ?s1 ?s2 A6.out).mono ?_);(case s1=>repeat (first | exact (Kd.C_below HR0_4.out HB.out) | (with_reducible refine Kd.C_alloc ?_ _) | (with_reducible refine Kd.C_drewN ?_ _) | (with_reducible refine Kd.C_drew ?_)));(case s2=>exact HC0_4.out);rintro e w' ⟨rfl,⟨nd,rfl⟩⟩;refine ⟨_,rfl,?_⟩) | ((with_reducible refine gc_ 21 ?_);refine gl_ (some 28) Tryd.func21 #[.slice A0_8 l0_8.length c0_8,.int .i64 (wrap64 (t207-(a0_5.size:Int)))] ?_;(with_reducible refine (Y8.calls k _ _ l0_8 (wrap64 (t207-(a0_5.size:Int))) t208 _ ?s1 ?s2 A13.out).mono ?_);(case s1=>repeat (first | exact (Kd.C_below HR0_8.out (z0_ HB.out GE206.out)) | (with_reducible refine Kd.C_alloc ?_ _) | (with_reducible refine Kd.C_drewN ?_ _) | (with_reducible refine Kd.C_drew ?_)));(case s2=>exact HC0_8.out);rintro e w20 ⟨rfl,hb⟩;refine ⟨_,rfl,?_⟩;have n0_:=aM (blkB_ BK206.out hb);have n1_:=aM (below_step (z0_ HB.out GE206.out) hb);clear BK206;clear HB;have BK206:=n0_;have HB:=n1_;clear n0_ n1_;(try clear hb)))
     go_ret
     exact ⟨z6_,z0_ HB.out GE206.out⟩


/-! ### Y4: function 17 -/
def Y4.l0:Nat→Int→Bool→ByteArray→Option (ByteArray)
 | 0,_,_,_=>none
 | k+1,x0,x3,x4=>if x0=0 then (if x3=true then (if 1+x4.size≤9223372036854775807 then (some ((⟨#[45]⟩:ByteArray) ++ x4)) else (none)) else (some x4)) else (if (Int.tmod x0 10)<0 then ((some (([(wrap64 (48+(wrap64 (-(Int.tmod x0 10))))) % 256]:List Int):List Int)).bind fun y119=>(if (strOfNums y119).size+x4.size≤9223372036854775807 then (Y4.l0 k (wrap64 (Int.tdiv x0 10)) x3 ((strOfNums y119) ++ x4)) else (none))) else ((some (([(wrap64 (48+(Int.tmod x0 10))) % 256]:List Int):List Int)).bind fun y122=>(if (strOfNums y122).size+x4.size≤9223372036854775807 then (Y4.l0 k (wrap64 (Int.tdiv x0 10)) x3 ((strOfNums y122) ++ x4)) else (none))))
def Y4.f (k:Nat) (a0:Int):Option (ByteArray):=if a0=0 then (some (⟨#[48]⟩:ByteArray)) else (Y4.l0 k a0 (decide (a0<0)) (⟨#[]⟩:ByteArray))
theorem Y4.mono_l:∀ k,(∀ y0 y1 y2,LeO (Y4.l0 k y0 y1 y2) (Y4.l0 (k+1) y0 y1 y2))
 | 0=>by intros <;> exact LeO.none _
 | k+1=>by
  have ih0:=Y4.mono_l k
  ·intros
   unfold Y4.l0
   exact mO
theorem Y4.mono:∀ a0 k,LeO (Y4.f k a0) (Y4.f (k+1) a0):=by
 intro a0 k
 have ih0:=Y4.mono_l k
 unfold Y4.f
 exact mO
theorem Y4.calls (k:Nat) (a0:Int) (r:ByteArray) (w:World) (h:Y4.f k a0=some r) :
  Calls Tryd.prog 17 #[.int .i64 a0] w fun e w'=>e = .returned (.string r)∧Below w.heap.size w w':=by
 have HB:=aM (Below.refl w.heap.size w)
 have H:(if a0=0 then (some (⟨#[48]⟩:ByteArray)) else (Y4.l0 k a0 (decide (a0<0)) (⟨#[]⟩:ByteArray)))=some r:=h
 clear h
 by_cases c2:a0=0
 ·rw [if_pos c2] at H
  have c2b0:(a0 == 0)=true:=beq_iff_eq.mpr c2
  have c2b1:(a0 != 0)=false:=bne_eq_false_iff_eq.mpr c2
  clear c2
  obtain rfl:=sI H
  go_enter Tryd.func17,Tryd.ntmps17
  go_wp2
  go_ret
  exact ⟨z6_,z1_ HB.out⟩
 ·rw [if_neg c2] at H
  have c2b0:(a0 == 0)=false:=beq_eq_false_iff_ne.mpr c2
  have c2b1:(a0 != 0)=true:=bne_iff_ne.mpr c2
  have H':=aM H
  clear H
  go_enter Tryd.func17,Tryd.ntmps17
  go_wp2
  go_loopg [0,4] k (fun kq v0 v4 w'=>∃ (x0_1:Int) (x4_1:ByteArray),v0 = .int .i64 x0_1∧v4 = .string x4_1∧Aside0 (Y4.l0 kq x0_1 (decide (a0<0)) x4_1=some r)∧Aside0 (kq≤k)∧Aside0 (Below w.heap.size w w'))
  case atStart=>exact ⟨(a0),((⟨#[]⟩:ByteArray)),(z2_),(z2_),H',⟨Nat.le_refl _⟩,⟨z1_ HB.out⟩⟩
  case round =>
   clear H'
   try clear c1
   try clear c2
   try clear c2b0
   try clear c2b1
   try clear p2
   obtain ⟨x0_1,x4_1,rfl,rfl,HA,HK1,HB⟩:=hrel
   cases gk with
   | zero=>exact absurd HA.out (by simp [Y4.l0])
   | succ k1 =>
    have H:=HA.out
    clear HA
    simp only [Y4.l0] at H
    by_cases c3:x0_1=0
    ·rw [if_pos c3] at H
     have c3b0:(x0_1 == 0)=true:=beq_iff_eq.mpr c3
     have c3b1:(x0_1 != 0)=false:=bne_eq_false_iff_eq.mpr c3
     clear c3
     by_cases c4:(decide (a0<0))=true
     ·rw [if_pos c4] at H
      have c4b0:(decide (a0<0))=true:=c4
      have c4q0:(a0<0):=dT c4b0
      have c4q1:=eq_true c4q0
      clear c4
      by_cases c5:1+x4_1.size≤9223372036854775807
      ·rw [if_pos c5] at H
       have c5b0:=eq_true c5
       have c5b1:decide (1+x4_1.size≤9223372036854775807)=true:=dE c5
       try have c5b2:(9223372036854775807<1+x4_1.size)=False:=eq_false (Nat.not_lt.2 c5)
       obtain rfl:=sI H
       go_wp2
       go_ret
       exact ⟨z6_,z1_ HB.out⟩
      ·rw [if_neg c5] at H
       exact nO H
     ·rw [if_neg c4] at H
      have c4b0:(decide (a0<0))=false:=by simpa using c4
      have c4q0:¬ (a0<0):=of_decide_eq_false c4b0
      have c4q1:=eq_false c4q0
      clear c4
      obtain rfl:=sI H
      go_wp2
      go_ret
      exact ⟨z6_,z1_ HB.out⟩
    ·rw [if_neg c3] at H
     have c3b0:(x0_1 == 0)=false:=beq_eq_false_iff_ne.mpr c3
     have c3b1:(x0_1 != 0)=true:=bne_iff_ne.mpr c3
     by_cases c6:(Int.tmod x0_1 10)<0
     ·rw [if_pos c6] at H
      have c6b0:decide ((Int.tmod x0_1 10)<0)=true:=dE c6
      clear c6
      obtain ⟨y119,hy119⟩:∃ y_:List Int,y_=(([(wrap64 (48+(wrap64 (-(Int.tmod x0_1 10))))) % 256]:List Int)):=⟨_,rfl⟩
      replace H:(if (strOfNums y119).size+x4_1.size≤9223372036854775807 then (Y4.l0 k1 (wrap64 (Int.tdiv x0_1 10)) (decide (a0<0)) ((strOfNums y119) ++ x4_1)) else (none))=some r:=by first | (rw [hy119];with_reducible exact H) | (have H2_:=(Option.bind_some _ _).symm.trans H;rw [hy119];with_reducible exact H2_) | (have H2_:=(Option.bind_some _ _).symm.trans H;with_reducible exact H2_) | with_reducible exact H | (rw [hy119];exact H) | exact H
      have Ny119:=aM hy119
      clear hy119
      by_cases c7:(strOfNums y119).size+x4_1.size≤9223372036854775807
      ·rw [if_pos c7] at H
       have c7b0:=eq_true c7
       have c7b1:decide ((strOfNums y119).size+x4_1.size≤9223372036854775807)=true:=dE c7
       try have c7b2:(9223372036854775807<(strOfNums y119).size+x4_1.size)=False:=eq_false (Nat.not_lt.2 c7)
       have H':=aM H
       clear H
       go_wp2_with (first | ((with_reducible refine gd_ 21 ?_);refine Kd.R_lit (Kd.int .u8) _ 5 ?hg (N:=21) ?hd (xs:=([(wrap64 (48+(wrap64 (-(Int.tmod x0_1 10))))) % 256]:List Int)) (inner:=[.int .u8 ((wrap64 (48+(wrap64 (-(Int.tmod x0_1 10))))) % 256)]) (ok:=fun _=>True) (okp:=fun _=>True) ?hr ?hp (fun _ hk=>hk) trivial (Below.refl _ _) (Nat.le_refl _) (by simp) ?_;(case hd=>rfl);(case hg=>rfl);(case hr=>first | (go_simp;done) | (go_simp;rfl));(case hp=>exact (Reps.one (show Kd.M (Kd.int .u8) _ _ _ ((wrap64 (48+(wrap64 (-(Int.tmod x0_1 10))))) % 256) [.int .u8 ((wrap64 (48+(wrap64 (-(Int.tmod x0_1 10))))) % 256)] from rfl) (Reps.none _ _)));intro v120 w8 ho9 hb hg_ hnew_;clear hg_ hnew_;(first | rw [← Ny119.out] at ho9 | (simp only [Int.reduceToNat] at ho9;rw [← Ny119.out] at ho9));have n0_:=aM (Kd.R_lower ho9 (below_size (z1_ HB.out)));have n1_:=aM (below_step (z1_ HB.out) hb);clear HB;have HO121:=n0_;have HB:=n1_;clear n0_ n1_;clear hb ho9;have hcv10:=own_string (P:=Tryd.prog) Tryd.underlying51 Tryd.underlying5 Tryd.underlying9 (Kd.own_of_R HO121.out)))
       go_roundg k1
       case measure=>have:=HK1.out;omega
       case rel=>exact ⟨(wrap64 (Int.tdiv x0_1 10)),((strOfNums y119) ++ x4_1),(z2_),(z2_),H',⟨by have:=HK1.out;omega⟩,⟨z1_ HB.out⟩⟩
      ·rw [if_neg c7] at H
       exact nO H
     ·rw [if_neg c6] at H
      have c6b0:decide ((Int.tmod x0_1 10)<0)=false:=dF c6
      clear c6
      obtain ⟨y122,hy122⟩:∃ y_:List Int,y_=(([(wrap64 (48+(Int.tmod x0_1 10))) % 256]:List Int)):=⟨_,rfl⟩
      replace H:(if (strOfNums y122).size+x4_1.size≤9223372036854775807 then (Y4.l0 k1 (wrap64 (Int.tdiv x0_1 10)) (decide (a0<0)) ((strOfNums y122) ++ x4_1)) else (none))=some r:=by first | (rw [hy122];with_reducible exact H) | (have H2_:=(Option.bind_some _ _).symm.trans H;rw [hy122];with_reducible exact H2_) | (have H2_:=(Option.bind_some _ _).symm.trans H;with_reducible exact H2_) | with_reducible exact H | (rw [hy122];exact H) | exact H
      have Ny122:=aM hy122
      clear hy122
      by_cases c11:(strOfNums y122).size+x4_1.size≤9223372036854775807
      ·rw [if_pos c11] at H
       have c11b0:=eq_true c11
       have c11b1:decide ((strOfNums y122).size+x4_1.size≤9223372036854775807)=true:=dE c11
       try have c11b2:(9223372036854775807<(strOfNums y122).size+x4_1.size)=False:=eq_false (Nat.not_lt.2 c11)
       have H':=aM H
       clear H
       go_wp2_with (first | ((with_reducible refine gd_ 21 ?_);refine Kd.R_lit (Kd.int .u8) _ 5 ?hg (N:=21) ?hd (xs:=([(wrap64 (48+(Int.tmod x0_1 10))) % 256]:List Int)) (inner:=[.int .u8 ((wrap64 (48+(Int.tmod x0_1 10))) % 256)]) (ok:=fun _=>True) (okp:=fun _=>True) ?hr ?hp (fun _ hk=>hk) trivial (Below.refl _ _) (Nat.le_refl _) (by simp) ?_;(case hd=>rfl);(case hg=>rfl);(case hr=>first | (go_simp;done) | (go_simp;rfl));(case hp=>exact (Reps.one (show Kd.M (Kd.int .u8) _ _ _ ((wrap64 (48+(Int.tmod x0_1 10))) % 256) [.int .u8 ((wrap64 (48+(Int.tmod x0_1 10))) % 256)] from rfl) (Reps.none _ _)));intro v123 w12 ho13 hb hg_ hnew_;clear hg_ hnew_;(first | rw [← Ny122.out] at ho13 | (simp only [Int.reduceToNat] at ho13;rw [← Ny122.out] at ho13));have n0_:=aM (Kd.R_lower ho13 (below_size (z1_ HB.out)));have n1_:=aM (below_step (z1_ HB.out) hb);clear HB;have HO124:=n0_;have HB:=n1_;clear n0_ n1_;clear hb ho13;have hcv14:=own_string (P:=Tryd.prog) Tryd.underlying51 Tryd.underlying5 Tryd.underlying9 (Kd.own_of_R HO124.out)))
       go_roundg k1
       case measure=>have:=HK1.out;omega
       case rel=>exact ⟨(wrap64 (Int.tdiv x0_1 10)),((strOfNums y122) ++ x4_1),(z2_),(z2_),H',⟨by have:=HK1.out;omega⟩,⟨z1_ HB.out⟩⟩
      ·rw [if_neg c11] at H
       exact nO H


/-! ### Y13: function 22 -/
def Y13.f (a0:Int) (a1:Int):Option (Int):=if a0>a1 then (some a0) else (some a1)
theorem Y13.calls (a0:Int) (a1:Int) (r:Int) (w:World) (h:Y13.f a0 a1=some r) :
  Calls Tryd.prog 22 #[.int .i64 a0,.int .i64 a1] w fun e w'=>e = .returned (.int .i64 r)∧Drawn0 w w':=by
 have H:(if a0>a1 then (some a0) else (some a1))=some r:=h
 clear h
 by_cases c3:a0>a1
 ·rw [if_pos c3] at H
  have c3b0:decide (a1<a0)=true:=dE c3
  clear c3
  obtain rfl:=sI H
  go_enter Tryd.func22,Tryd.ntmps22
  go_wp2
  go_ret
  exact ⟨z2_,z10_⟩
 ·rw [if_neg c3] at H
  have c3b0:decide (a1<a0)=false:=dF c3
  clear c3
  obtain rfl:=sI H
  go_enter Tryd.func22,Tryd.ntmps22
  go_wp2
  go_ret
  exact ⟨z2_,z10_⟩


/-! ### Y0: function 10 -/
mutual
def Y0.j0:Nat→ByteArray→Int→ByteArray→Bool→Int→List ByteArray→ByteArray→Int→Int→List (S71)→Option (ByteArray)
 | 0,_,_,_,_,_,_,_,_,_,_=>none
 | k+1,x3,x210000,x210001,x210002,x210003,x210004,x210005,x210006,x210007,x210008=>if x210002=true then (Y0.j1 k x3 (x210003 == 0) x210000 x210001 x210002 x210003 x210004 x210005 x210006 x210007 x210008) else (Y0.j1 k x3 false x210000 x210001 x210002 x210003 x210004 x210005 x210006 x210007 x210008)
def Y0.j1:Nat→ByteArray→Bool→Int→ByteArray→Bool→Int→List ByteArray→ByteArray→Int→Int→List (S71)→Option (ByteArray)
 | 0,_,_,_,_,_,_,_,_,_,_,_=>none
 | k+1,x3,x38,x210000,x210001,x210002,x210003,x210004,x210005,x210006,x210007,x210008=>if x38=true then (Y0.l0 k x3 (([]:List Int)) 0 x210000 x210001 x210002 x210003 x210004 x210005 x210006 x210007 x210008) else (some x3)
def Y0.l0:Nat→ByteArray→List Int→Int→Int→ByteArray→Bool→Int→List ByteArray→ByteArray→Int→Int→List (S71)→Option (ByteArray)
 | 0,_,_,_,_,_,_,_,_,_,_,_,_=>none
 | k+1,x3,x4,x5,x210000,x210001,x210002,x210003,x210004,x210005,x210006,x210007,x210008=>if x5<(x210004.length:Int) then (if x5>0 then (if x4.length<140737488355328 then ((some (x4 ++ [44]:List Int)).bind fun y217=>(if 0≤x5 then (if y217.length+(rdOf ByteArray.empty x210004 x5).size<140737488355328 then (Y0.l0 k x3 (y217 ++ bytesOf (rdOf ByteArray.empty x210004 x5)) (wrap64 (x5+1)) x210000 x210001 x210002 x210003 x210004 x210005 x210006 x210007 x210008) else (none)) else (none))) else (none)) else (if 0≤x5 then (if x4.length+(rdOf ByteArray.empty x210004 x5).size<140737488355328 then (Y0.l0 k x3 (x4 ++ bytesOf (rdOf ByteArray.empty x210004 x5)) (wrap64 (x5+1)) x210000 x210001 x210002 x210003 x210004 x210005 x210006 x210007 x210008) else (none)) else (none))) else (if (x210004.length:Int)=0 then (if x4.length<140737488355328 then ((some (x4 ++ [45]:List Int)).bind fun y228=>(if x3.size+1≤9223372036854775807 then (if (x3.size+1)+(strOfNums y228).size≤9223372036854775807 then (some ((x3 ++ (⟨#[58]⟩:ByteArray)) ++ (strOfNums y228))) else (none)) else (none))) else (none)) else (if x3.size+1≤9223372036854775807 then (if (x3.size+1)+(strOfNums x4).size≤9223372036854775807 then (some ((x3 ++ (⟨#[58]⟩:ByteArray)) ++ (strOfNums x4))) else (none)) else (none)))
end
def Y0.f (k:Nat) (a0_0:Int) (a0_1:ByteArray) (a0_2:Bool) (a0_3:Int) (l0_4:List ByteArray) (a0_5:ByteArray) (a0_6:Int) (a0_7:Int) (l0_8:List (S71)):Option (ByteArray):=(Y13.f 0 a0_0).bind fun t210=>((Y4.f k t210).bind fun t211=>(if t211.size+1≤9223372036854775807 then (if a0_3=0 then (if (t211.size+1)+2≤9223372036854775807 then (Y0.j0 k ((t211 ++ (⟨#[58]⟩:ByteArray)) ++ (⟨#[111,107]⟩:ByteArray)) a0_0 a0_1 a0_2 a0_3 l0_4 a0_5 a0_6 a0_7 l0_8) else (none)) else (if a0_3=12 then (if (t211.size+1)+3≤9223372036854775807 then (Y0.j0 k ((t211 ++ (⟨#[58]⟩:ByteArray)) ++ (⟨#[102,101,119]⟩:ByteArray)) a0_0 a0_1 a0_2 a0_3 l0_4 a0_5 a0_6 a0_7 l0_8) else (none)) else (if a0_3=11 then (if (t211.size+1)+4≤9223372036854775807 then (Y0.j0 k ((t211 ++ (⟨#[58]⟩:ByteArray)) ++ (⟨#[100,111,119,110]⟩:ByteArray)) a0_0 a0_1 a0_2 a0_3 l0_4 a0_5 a0_6 a0_7 l0_8) else (none)) else (if (t211.size+1)+5≤9223372036854775807 then ((Y13.f 0 a0_3).bind fun t212=>((Y4.f k t212).bind fun t213=>(if ((t211.size+1)+5)+t213.size≤9223372036854775807 then (Y0.j0 k (((t211 ++ (⟨#[58]⟩:ByteArray)) ++ (⟨#[101,114,114,111,114]⟩:ByteArray)) ++ t213) a0_0 a0_1 a0_2 a0_3 l0_4 a0_5 a0_6 a0_7 l0_8) else (none)))) else (none))))) else (none)))
theorem Y0.mono_l:∀ k,(∀ y0 y1 y2 y3 y4 y5 y6 y7 y8 y9,LeO (Y0.j0 k y0 y1 y2 y3 y4 y5 y6 y7 y8 y9) (Y0.j0 (k+1) y0 y1 y2 y3 y4 y5 y6 y7 y8 y9))∧(∀ y0 y1 y2 y3 y4 y5 y6 y7 y8 y9 y10,LeO (Y0.j1 k y0 y1 y2 y3 y4 y5 y6 y7 y8 y9 y10) (Y0.j1 (k+1) y0 y1 y2 y3 y4 y5 y6 y7 y8 y9 y10))∧(∀ y0 y1 y2 y3 y4 y5 y6 y7 y8 y9 y10 y11,LeO (Y0.l0 k y0 y1 y2 y3 y4 y5 y6 y7 y8 y9 y10 y11) (Y0.l0 (k+1) y0 y1 y2 y3 y4 y5 y6 y7 y8 y9 y10 y11))
 | 0=>by refine ⟨?_,?_,?_⟩ <;> intros <;> exact LeO.none _
 | k+1=>by
  obtain ⟨ih0,ih1,ih2⟩:=Y0.mono_l k
  have m0:=@Y4.mono
  refine ⟨?_,?_,?_⟩
  ·intros
   unfold Y0.j0
   exact mO
  ·intros
   unfold Y0.j1
   exact mO
  ·intros
   unfold Y0.l0
   exact mO
theorem Y0.mono:∀ a0 a1 a2 a3 a4 a5 a6 a7 a8 k,LeO (Y0.f k a0 a1 a2 a3 a4 a5 a6 a7 a8) (Y0.f (k+1) a0 a1 a2 a3 a4 a5 a6 a7 a8):=by
 intro a0 a1 a2 a3 a4 a5 a6 a7 a8 k
 have m0:=@Y4.mono
 obtain ⟨ih0,ih1,ih2⟩:=Y0.mono_l k
 unfold Y0.f
 exact mO
theorem Y0.calls (k:Nat) (a0_0:Int) (a0_1:ByteArray) (a0_2:Bool) (a0_3:Int) (A0_4:Option Addr) (c0_4:Nat) (l0_4:List ByteArray) (a0_5:ByteArray) (a0_6:Int) (a0_7:Int) (A0_8:Option Addr) (c0_8:Nat) (l0_8:List (S71)) (r:ByteArray) (w:World) (hr0_4:Kd.C Kd.string w A0_4 l0_4.length l0_4) (hc0_4:l0_4.length≤c0_4) (hr0_8:Kd.C k71 w A0_8 l0_8.length l0_8) (hc0_8:l0_8.length≤c0_8) (h:Y0.f k a0_0 a0_1 a0_2 a0_3 l0_4 a0_5 a0_6 a0_7 l0_8=some r) :
  Calls Tryd.prog 10 #[.agg #[.int .i64 a0_0,.string a0_1,.bool a0_2,.int .i64 a0_3,.slice A0_4 l0_4.length c0_4,.string a0_5,.int .i64 a0_6,.int .i64 a0_7,.slice A0_8 l0_8.length c0_8]] w fun e w'=>e = .returned (.string r)∧Below w.heap.size w w':=by
 have hu40:=Tryd.underlying40
 have HR0_4:=aM hr0_4
 have HC0_4:=aM hc0_4
 clear hr0_4 hc0_4
 have HR0_8:=aM hr0_8
 have HC0_8:=aM hc0_8
 clear hr0_8 hc0_8
 have HB:=aM (Below.refl w.heap.size w)
 have H:((Y13.f 0 a0_0).bind fun t210=>((Y4.f k t210).bind fun t211=>(if t211.size+1≤9223372036854775807 then (if a0_3=0 then (if (t211.size+1)+2≤9223372036854775807 then (Y0.j0 k ((t211 ++ (⟨#[58]⟩:ByteArray)) ++ (⟨#[111,107]⟩:ByteArray)) a0_0 a0_1 a0_2 a0_3 l0_4 a0_5 a0_6 a0_7 l0_8) else (none)) else (if a0_3=12 then (if (t211.size+1)+3≤9223372036854775807 then (Y0.j0 k ((t211 ++ (⟨#[58]⟩:ByteArray)) ++ (⟨#[102,101,119]⟩:ByteArray)) a0_0 a0_1 a0_2 a0_3 l0_4 a0_5 a0_6 a0_7 l0_8) else (none)) else (if a0_3=11 then (if (t211.size+1)+4≤9223372036854775807 then (Y0.j0 k ((t211 ++ (⟨#[58]⟩:ByteArray)) ++ (⟨#[100,111,119,110]⟩:ByteArray)) a0_0 a0_1 a0_2 a0_3 l0_4 a0_5 a0_6 a0_7 l0_8) else (none)) else (if (t211.size+1)+5≤9223372036854775807 then ((Y13.f 0 a0_3).bind fun t212=>((Y4.f k t212).bind fun t213=>(if ((t211.size+1)+5)+t213.size≤9223372036854775807 then (Y0.j0 k (((t211 ++ (⟨#[58]⟩:ByteArray)) ++ (⟨#[101,114,114,111,114]⟩:ByteArray)) ++ t213) a0_0 a0_1 a0_2 a0_3 l0_4 a0_5 a0_6 a0_7 l0_8) else (none)))) else (none))))) else (none))))=some r:=h
 clear h
 replace H:=bS H
 obtain ⟨t210,A20,H⟩:=H
 replace H:((Y4.f k t210).bind fun t211=>(if t211.size+1≤9223372036854775807 then (if a0_3=0 then (if (t211.size+1)+2≤9223372036854775807 then (Y0.j0 k ((t211 ++ (⟨#[58]⟩:ByteArray)) ++ (⟨#[111,107]⟩:ByteArray)) a0_0 a0_1 a0_2 a0_3 l0_4 a0_5 a0_6 a0_7 l0_8) else (none)) else (if a0_3=12 then (if (t211.size+1)+3≤9223372036854775807 then (Y0.j0 k ((t211 ++ (⟨#[58]⟩:ByteArray)) ++ (⟨#[102,101,119]⟩:ByteArray)) a0_0 a0_1 a0_2 a0_3 l0_4 a0_5 a0_6 a0_7 l0_8) else (none)) else (if a0_3=11 then (if (t211.size+1)+4≤9223372036854775807 then (Y0.j0 k ((t211 ++ (⟨#[58]⟩:ByteArray)) ++ (⟨#[100,111,119,110]⟩:ByteArray)) a0_0 a0_1 a0_2 a0_3 l0_4 a0_5 a0_6 a0_7 l0_8) else (none)) else (if (t211.size+1)+5≤9223372036854775807 then ((Y13.f 0 a0_3).bind fun t212=>((Y4.f k t212).bind fun t213=>(if ((t211.size+1)+5)+t213.size≤9223372036854775807 then (Y0.j0 k (((t211 ++ (⟨#[58]⟩:ByteArray)) ++ (⟨#[101,114,114,111,114]⟩:ByteArray)) ++ t213) a0_0 a0_1 a0_2 a0_3 l0_4 a0_5 a0_6 a0_7 l0_8) else (none)))) else (none))))) else (none)))=some r:=H
 have A2:=aM A20
 clear A20
 replace H:=bS H
 obtain ⟨t211,A30,H⟩:=H
 replace H:(if t211.size+1≤9223372036854775807 then (if a0_3=0 then (if (t211.size+1)+2≤9223372036854775807 then (Y0.j0 k ((t211 ++ (⟨#[58]⟩:ByteArray)) ++ (⟨#[111,107]⟩:ByteArray)) a0_0 a0_1 a0_2 a0_3 l0_4 a0_5 a0_6 a0_7 l0_8) else (none)) else (if a0_3=12 then (if (t211.size+1)+3≤9223372036854775807 then (Y0.j0 k ((t211 ++ (⟨#[58]⟩:ByteArray)) ++ (⟨#[102,101,119]⟩:ByteArray)) a0_0 a0_1 a0_2 a0_3 l0_4 a0_5 a0_6 a0_7 l0_8) else (none)) else (if a0_3=11 then (if (t211.size+1)+4≤9223372036854775807 then (Y0.j0 k ((t211 ++ (⟨#[58]⟩:ByteArray)) ++ (⟨#[100,111,119,110]⟩:ByteArray)) a0_0 a0_1 a0_2 a0_3 l0_4 a0_5 a0_6 a0_7 l0_8) else (none)) else (if (t211.size+1)+5≤9223372036854775807 then ((Y13.f 0 a0_3).bind fun t212=>((Y4.f k t212).bind fun t213=>(if ((t211.size+1)+5)+t213.size≤9223372036854775807 then (Y0.j0 k (((t211 ++ (⟨#[58]⟩:ByteArray)) ++ (⟨#[101,114,114,111,114]⟩:ByteArray)) ++ t213) a0_0 a0_1 a0_2 a0_3 l0_4 a0_5 a0_6 a0_7 l0_8) else (none)))) else (none))))) else (none))=some r:=H
 have A3:=aM A30
 clear A30
 by_cases c4:t211.size+1≤9223372036854775807
 ·rw [if_pos c4] at H
  have c4b0:=eq_true c4
  have c4b1:decide (t211.size+1≤9223372036854775807)=true:=dE c4
  try have c4b2:(9223372036854775807<t211.size+1)=False:=eq_false (Nat.not_lt.2 c4)
  have HC5:=aM H
  clear H
  go_enter Tryd.func10,Tryd.ntmps10
  go_upto_block 0 with (first | ((with_reducible refine gd_ 1 ?_);refine be_ 1 #[.int .i64 a0_0,.string a0_1,.bool a0_2,.int .i64 a0_3,.slice A0_4 l0_4.length c0_4,.string a0_5,.int .i64 a0_6,.int .i64 a0_7,.slice A0_8 l0_8.length c0_8] 40 ?_;intro gb209 hg w6 hbox hb;have n0_:=aM (below_step (z1_ HB.out) hb);have n1_:=aM (hbox);have n2_:=aM ((z5_ HB.out:w.heap.size≤gb209));have n3_:=aM ((z5_ HB.out:w.heap.size≤gb209));clear HB;have HB:=n0_;have BK209:=n1_;have GW209:=n2_;have GE209:=n3_;clear n0_ n1_ n2_ n3_;clear hb hbox hg;have ⟨hcz7_0,hcz7_1,hcz7_2,hcz7_3,hcz7_4,hcz7_5,hcz7_6,hcz7_7,hcz7_8,hfz7_0,hfz7_1,hfz7_2,hfz7_3,hfz7_4,hfz7_5,hfz7_6,hfz7_7,hfz7_8⟩:=cz9_ BK209.out) | ((with_reducible refine gc_ 22 ?_);refine gl_ (some 8) Tryd.func22 #[.int .i64 0,.int .i64 a0_0] ?_;(with_reducible refine (Y13.calls 0 a0_0 t210 _ A2.out).mono ?_);rintro e w' ⟨rfl,⟨nd,rfl⟩⟩;refine ⟨_,rfl,?_⟩) | ((with_reducible refine gc_ 17 ?_);refine gl_ (some 9) Tryd.func17 #[.int .i64 t210] ?_;(with_reducible refine (Y4.calls k t210 t211 _ A3.out).mono ?_);rintro e w8 ⟨rfl,hb⟩;refine ⟨_,rfl,?_⟩;have n0_:=aM (blkB_ BK209.out hb);have n1_:=aM (below_step (z0_ HB.out GE209.out) hb);clear BK209;clear HB;have BK209:=n0_;have HB:=n1_;clear n0_ n1_;(try clear hb);have ⟨hcz9_0,hcz9_1,hcz9_2,hcz9_3,hcz9_4,hcz9_5,hcz9_6,hcz9_7,hcz9_8,hfz9_0,hfz9_1,hfz9_2,hfz9_3,hfz9_4,hfz9_5,hfz9_6,hfz9_7,hfz9_8⟩:=cz9_ BK209.out))
  (try simp only [Act.put,sa_,s0_,ss_])
  go_cut [3] (fun v3 wc=>∃ (kq:Nat) (x3_4:ByteArray),v3 = .string x3_4∧Aside0 (Y0.j0 kq x3_4 a0_0 a0_1 a0_2 a0_3 l0_4 a0_5 a0_6 a0_7 l0_8=some r)∧Aside0 (kq≤k)∧Aside0 (wc.heap[gb209]? = some (.cells #[.int .i64 a0_0,.string a0_1,.bool a0_2,.int .i64 a0_3,(.slice A0_4 l0_4.length c0_4),.string a0_5,.int .i64 a0_6,.int .i64 a0_7,(.slice A0_8 l0_8.length c0_8)] 40 (0,0)))∧Aside0 (Below w.heap.size w wc))
  case first =>
   have H:=HC5.out
   clear HC5
   by_cases c10:a0_3=0
   ·rw [if_pos c10] at H
    have c10b0:(a0_3 == 0)=true:=beq_iff_eq.mpr c10
    have c10b1:(a0_3 != 0)=false:=bne_eq_false_iff_eq.mpr c10
    clear c10
    (first | rw [c10b0] | (simp only [i64_w,i32_w];rw [c10b0]) | skip)
    by_cases c11:(t211.size+1)+2≤9223372036854775807
    ·rw [if_pos c11] at H
     have c11b0:=eq_true c11
     have c11b1:decide ((t211.size+1)+2≤9223372036854775807)=true:=dE c11
     try have c11b2:(9223372036854775807<(t211.size+1)+2)=False:=eq_false (Nat.not_lt.2 c11)
     have H':=aM H
     clear H
     go_wp2
     go_meet
     case rel=>exact ⟨_,((t211 ++ (⟨#[58]⟩:ByteArray)) ++ (⟨#[111,107]⟩:ByteArray)),(z2_),H',⟨by first | omega | exact Nat.le_refl _⟩,⟨z7_ BK209.out⟩,⟨z0_ HB.out GE209.out⟩⟩
    ·rw [if_neg c11] at H
     exact nO H
   ·rw [if_neg c10] at H
    have c10b0:(a0_3 == 0)=false:=beq_eq_false_iff_ne.mpr c10
    have c10b1:(a0_3 != 0)=true:=bne_iff_ne.mpr c10
    (first | rw [c10b0] | (simp only [i64_w,i32_w];rw [c10b0]) | skip)
    by_cases c12:a0_3=12
    ·rw [if_pos c12] at H
     have c12b0:(a0_3 == 12)=true:=beq_iff_eq.mpr c12
     have c12b1:(a0_3 != 12)=false:=bne_eq_false_iff_eq.mpr c12
     clear c12
     by_cases c13:(t211.size+1)+3≤9223372036854775807
     ·rw [if_pos c13] at H
      have c13b0:=eq_true c13
      have c13b1:decide ((t211.size+1)+3≤9223372036854775807)=true:=dE c13
      try have c13b2:(9223372036854775807<(t211.size+1)+3)=False:=eq_false (Nat.not_lt.2 c13)
      have H':=aM H
      clear H
      go_wp2
      go_meet
      case rel=>exact ⟨_,((t211 ++ (⟨#[58]⟩:ByteArray)) ++ (⟨#[102,101,119]⟩:ByteArray)),(z2_),H',⟨by first | omega | exact Nat.le_refl _⟩,⟨z7_ BK209.out⟩,⟨z0_ HB.out GE209.out⟩⟩
     ·rw [if_neg c13] at H
      exact nO H
    ·rw [if_neg c12] at H
     have c12b0:(a0_3 == 12)=false:=beq_eq_false_iff_ne.mpr c12
     have c12b1:(a0_3 != 12)=true:=bne_iff_ne.mpr c12
     by_cases c14:a0_3=11
     ·rw [if_pos c14] at H
      have c14b0:(a0_3 == 11)=true:=beq_iff_eq.mpr c14
      have c14b1:(a0_3 != 11)=false:=bne_eq_false_iff_eq.mpr c14
      clear c14
      by_cases c15:(t211.size+1)+4≤9223372036854775807
      ·rw [if_pos c15] at H
       have c15b0:=eq_true c15
       have c15b1:decide ((t211.size+1)+4≤9223372036854775807)=true:=dE c15
       try have c15b2:(9223372036854775807<(t211.size+1)+4)=False:=eq_false (Nat.not_lt.2 c15)
       have H':=aM H
       clear H
       go_wp2
       go_meet
       case rel=>exact ⟨_,((t211 ++ (⟨#[58]⟩:ByteArray)) ++ (⟨#[100,111,119,110]⟩:ByteArray)),(z2_),H',⟨by first | omega | exact Nat.le_refl _⟩,⟨z7_ BK209.out⟩,⟨z0_ HB.out GE209.out⟩⟩
      ·rw [if_neg c15] at H
       exact nO H
     ·rw [if_neg c14] at H
      have c14b0:(a0_3 == 11)=false:=beq_eq_false_iff_ne.mpr c14
      have c14b1:(a0_3 != 11)=true:=bne_iff_ne.mpr c14
      by_cases c16:(t211.size+1)+5≤9223372036854775807
      ·rw [if_pos c16] at H
       have c16b0:=eq_true c16
       have c16b1:decide ((t211.size+1)+5≤9223372036854775807)=true:=dE c16
       try have c16b2:(9223372036854775807<(t211.size+1)+5)=False:=eq_false (Nat.not_lt.2 c16)
       replace H:=bS H
       obtain ⟨t212,A170,H⟩:=H
       replace H:((Y4.f k t212).bind fun t213=>(if ((t211.size+1)+5)+t213.size≤9223372036854775807 then (Y0.j0 k (((t211 ++ (⟨#[58]⟩:ByteArray)) ++ (⟨#[101,114,114,111,114]⟩:ByteArray)) ++ t213) a0_0 a0_1 a0_2 a0_3 l0_4 a0_5 a0_6 a0_7 l0_8) else (none)))=some r:=H
       have A17:=aM A170
       clear A170
       replace H:=bS H
       obtain ⟨t213,A180,H⟩:=H
       replace H:(if ((t211.size+1)+5)+t213.size≤9223372036854775807 then (Y0.j0 k (((t211 ++ (⟨#[58]⟩:ByteArray)) ++ (⟨#[101,114,114,111,114]⟩:ByteArray)) ++ t213) a0_0 a0_1 a0_2 a0_3 l0_4 a0_5 a0_6 a0_7 l0_8) else (none))=some r:=H
       have A18:=aM A180
       clear A180
       by_cases c19:((t211.size+1)+5)+t213.size≤9223372036854775807
       ·rw [if_pos c19] at H
        have c19b0:=eq_true c19
        have c19b1:decide (((t211.size+1)+5)+t213.size≤9223372036854775807)=true:=dE c19
        try have c19b2:(9223372036854775807<((t211.size+1)+5)+t213.size)=False:=eq_false (Nat.not_lt.2 c19)
        have H':=aM H
        clear H
        have ⟨hcz20_0,hcz20_1,hcz20_2,hcz20_3,hcz20_4,hcz20_5,hcz20_6,hcz20_7,hcz20_8,hfz20_0,hfz20_1,hfz20_2,hfz20_3,hfz20_4,hfz20_5,hfz20_6,hfz20_7,hfz20_8⟩:=cz9_ BK209.out
        go_wp2_with (first | ((with_reducible refine gc_ 22 ?_);refine gl_ (some 17) Tryd.func22 #[.int .i64 0,.int .i64 a0_3] ?_;(with_reducible refine (Y13.calls 0 a0_3 t212 _ A17.out).mono ?_);rintro e w' ⟨rfl,⟨nd,rfl⟩⟩;refine ⟨_,rfl,?_⟩) | ((with_reducible refine gc_ 17 ?_);refine gl_ (some 18) Tryd.func17 #[.int .i64 t212] ?_;(with_reducible refine (Y4.calls k t212 t213 _ A18.out).mono ?_);rintro e w21 ⟨rfl,hb⟩;refine ⟨_,rfl,?_⟩;have n0_:=aM (blkB_ BK209.out hb);have n1_:=aM (below_step (z0_ HB.out GE209.out) hb);clear BK209;clear HB;have BK209:=n0_;have HB:=n1_;clear n0_ n1_;(try clear hb)))
        go_meet
        case rel=>exact ⟨_,(((t211 ++ (⟨#[58]⟩:ByteArray)) ++ (⟨#[101,114,114,111,114]⟩:ByteArray)) ++ t213),(z2_),H',⟨by first | omega | exact Nat.le_refl _⟩,⟨z7_ BK209.out⟩,⟨z0_ HB.out GE209.out⟩⟩
       ·rw [if_neg c19] at H
        exact nO H
      ·rw [if_neg c16] at H
       exact nO H
  case rest =>
   clear HC5
   try clear c1
   try clear c2
   try clear p2
   try clear c4
   try clear c4b0
   try clear c4b1
   try clear c4b2
   try clear c10
   try clear c10b0
   try clear c10b1
   try clear c11
   try clear c11b0
   try clear c11b1
   try clear c11b2
   try clear c12
   try clear c12b0
   try clear c12b1
   try clear c13
   try clear c13b0
   try clear c13b1
   try clear c13b2
   try clear c14
   try clear c14b0
   try clear c14b1
   try clear c15
   try clear c15b0
   try clear c15b1
   try clear c15b2
   try clear c16
   try clear c16b0
   try clear c16b1
   try clear c16b2
   try clear c17
   try clear c19
   try clear c19b0
   try clear c19b1
   try clear c19b2
   try clear hcz20_0
   try clear hcz20_1
   try clear hcz20_2
   try clear hcz20_3
   try clear hcz20_4
   try clear hcz20_5
   try clear hcz20_6
   try clear hcz20_7
   try clear hcz20_8
   try clear hcz7_0
   try clear hcz7_1
   try clear hcz7_2
   try clear hcz7_3
   try clear hcz7_4
   try clear hcz7_5
   try clear hcz7_6
   try clear hcz7_7
   try clear hcz7_8
   try clear hcz9_0
   try clear hcz9_1
   try clear hcz9_2
   try clear hcz9_3
   try clear hcz9_4
   try clear hcz9_5
   try clear hcz9_6
   try clear hcz9_7
   try clear hcz9_8
   try clear hfz20_0
   try clear hfz20_1
   try clear hfz20_2
   try clear hfz20_3
   try clear hfz20_4
   try clear hfz20_5
   try clear hfz20_6
   try clear hfz20_7
   try clear hfz20_8
   try clear hfz7_0
   try clear hfz7_1
   try clear hfz7_2
   try clear hfz7_3
   try clear hfz7_4
   try clear hfz7_5
   try clear hfz7_6
   try clear hfz7_7
   try clear hfz7_8
   try clear hfz9_0
   try clear hfz9_1
   try clear hfz9_2
   try clear hfz9_3
   try clear hfz9_4
   try clear hfz9_5
   try clear hfz9_6
   try clear hfz9_7
   try clear hfz9_8
   obtain ⟨kq,x3_4,rfl,HA,HJ4,BK209,HB⟩:=hcut
   cases kq with
   | zero=>exact absurd HA.out (by simp [Y0.j0])
   | succ kj4 =>
    have H:=HA.out
    clear HA
    simp only [Y0.j0] at H
    have HC22:=aM H
    clear H
    go_upto_region 10 with (fail)
    go_cut [38] (fun v38 wc=>∃ (kq:Nat) (x38_21:Bool),v38 = .bool x38_21∧Aside0 (Y0.j1 kq x3_4 x38_21 a0_0 a0_1 a0_2 a0_3 l0_4 a0_5 a0_6 a0_7 l0_8=some r)∧Aside0 (kq≤kj4)∧Aside0 (wc.heap[gb209]? = some (.cells #[.int .i64 a0_0,.string a0_1,.bool a0_2,.int .i64 a0_3,(.slice A0_4 l0_4.length c0_4),.string a0_5,.int .i64 a0_6,.int .i64 a0_7,(.slice A0_8 l0_8.length c0_8)] 40 (0,0)))∧Aside0 (Below w.heap.size w wc))
    case first =>
     have H:=HC22.out
     clear HC22
     by_cases c23:a0_2=true
     ·subst c23
      have H1:(Y0.j1 kj4 x3_4 (a0_3 == 0) a0_0 a0_1 true a0_3 l0_4 a0_5 a0_6 a0_7 l0_8)=some r:=by rw [if_pos rfl] at H;exact H
      clear H
      have H:=H1
      clear H1
      have H':=aM H
      clear H
      have ⟨hcz24_0,hcz24_1,hcz24_2,hcz24_3,hcz24_4,hcz24_5,hcz24_6,hcz24_7,hcz24_8,hfz24_0,hfz24_1,hfz24_2,hfz24_3,hfz24_4,hfz24_5,hfz24_6,hfz24_7,hfz24_8⟩:=cz9_ BK209.out
      go_wp2
      go_meet
      case rel=>exact ⟨_,((a0_3 == 0)),(z2_),H',⟨by have:=HJ4.out;first | omega | exact Nat.le_refl _⟩,⟨z7_ BK209.out⟩,⟨z0_ HB.out GE209.out⟩⟩
     ·replace c23:=Bool.eq_false_iff.mpr c23
      subst c23
      have H1:(Y0.j1 kj4 x3_4 false a0_0 a0_1 false a0_3 l0_4 a0_5 a0_6 a0_7 l0_8)=some r:=by rw [if_neg (show ¬ (false=true) by decide)] at H;exact H
      clear H
      have H:=H1
      clear H1
      have H':=aM H
      clear H
      have ⟨hcz25_0,hcz25_1,hcz25_2,hcz25_3,hcz25_4,hcz25_5,hcz25_6,hcz25_7,hcz25_8,hfz25_0,hfz25_1,hfz25_2,hfz25_3,hfz25_4,hfz25_5,hfz25_6,hfz25_7,hfz25_8⟩:=cz9_ BK209.out
      go_wp2
      go_meet
      case rel=>exact ⟨_,(false),(z2_),H',⟨by have:=HJ4.out;first | omega | exact Nat.le_refl _⟩,⟨z7_ BK209.out⟩,⟨z0_ HB.out GE209.out⟩⟩
    case rest =>
     clear HC22
     try clear c1
     try clear c2
     try clear p2
     try clear c4
     try clear c4b0
     try clear c4b1
     try clear c4b2
     try clear c10
     try clear c10b0
     try clear c10b1
     try clear c11
     try clear c11b0
     try clear c11b1
     try clear c11b2
     try clear c12
     try clear c12b0
     try clear c12b1
     try clear c13
     try clear c13b0
     try clear c13b1
     try clear c13b2
     try clear c14
     try clear c14b0
     try clear c14b1
     try clear c15
     try clear c15b0
     try clear c15b1
     try clear c15b2
     try clear c16
     try clear c16b0
     try clear c16b1
     try clear c16b2
     try clear c17
     try clear c19
     try clear c19b0
     try clear c19b1
     try clear c19b2
     try clear c22
     try clear c23
     try clear hcz20_0
     try clear hcz20_1
     try clear hcz20_2
     try clear hcz20_3
     try clear hcz20_4
     try clear hcz20_5
     try clear hcz20_6
     try clear hcz20_7
     try clear hcz20_8
     try clear hcz24_0
     try clear hcz24_1
     try clear hcz24_2
     try clear hcz24_3
     try clear hcz24_4
     try clear hcz24_5
     try clear hcz24_6
     try clear hcz24_7
     try clear hcz24_8
     try clear hcz25_0
     try clear hcz25_1
     try clear hcz25_2
     try clear hcz25_3
     try clear hcz25_4
     try clear hcz25_5
     try clear hcz25_6
     try clear hcz25_7
     try clear hcz25_8
     try clear hcz7_0
     try clear hcz7_1
     try clear hcz7_2
     try clear hcz7_3
     try clear hcz7_4
     try clear hcz7_5
     try clear hcz7_6
     try clear hcz7_7
     try clear hcz7_8
     try clear hcz9_0
     try clear hcz9_1
     try clear hcz9_2
     try clear hcz9_3
     try clear hcz9_4
     try clear hcz9_5
     try clear hcz9_6
     try clear hcz9_7
     try clear hcz9_8
     try clear hfz20_0
     try clear hfz20_1
     try clear hfz20_2
     try clear hfz20_3
     try clear hfz20_4
     try clear hfz20_5
     try clear hfz20_6
     try clear hfz20_7
     try clear hfz20_8
     try clear hfz24_0
     try clear hfz24_1
     try clear hfz24_2
     try clear hfz24_3
     try clear hfz24_4
     try clear hfz24_5
     try clear hfz24_6
     try clear hfz24_7
     try clear hfz24_8
     try clear hfz25_0
     try clear hfz25_1
     try clear hfz25_2
     try clear hfz25_3
     try clear hfz25_4
     try clear hfz25_5
     try clear hfz25_6
     try clear hfz25_7
     try clear hfz25_8
     try clear hfz7_0
     try clear hfz7_1
     try clear hfz7_2
     try clear hfz7_3
     try clear hfz7_4
     try clear hfz7_5
     try clear hfz7_6
     try clear hfz7_7
     try clear hfz7_8
     try clear hfz9_0
     try clear hfz9_1
     try clear hfz9_2
     try clear hfz9_3
     try clear hfz9_4
     try clear hfz9_5
     try clear hfz9_6
     try clear hfz9_7
     try clear hfz9_8
     try clear p2
     obtain ⟨kq,x38_21,rfl,HA,HJ21,BK209,HB⟩:=hcut
     cases kq with
     | zero=>exact absurd HA.out (by simp [Y0.j1])
     | succ kj21 =>
      have H:=HA.out
      clear HA
      simp only [Y0.j1] at H
      by_cases c26:x38_21=true
      ·subst c26
       have H1:(Y0.l0 kj21 x3_4 (([]:List Int)) 0 a0_0 a0_1 a0_2 a0_3 l0_4 a0_5 a0_6 a0_7 l0_8)=some r:=by rw [if_pos rfl] at H;exact H
       clear H
       have H:=H1
       clear H1
       obtain ⟨y214,hy214⟩:∃ y_:List Int,y_=(([]:List Int)):=⟨_,rfl⟩
       replace H:(Y0.l0 kj21 x3_4 y214 0 a0_0 a0_1 a0_2 a0_3 l0_4 a0_5 a0_6 a0_7 l0_8)=some r:=by first | (rw [hy214];with_reducible exact H) | (have H2_:=(Option.bind_some _ _).symm.trans H;rw [hy214];with_reducible exact H2_) | (have H2_:=(Option.bind_some _ _).symm.trans H;with_reducible exact H2_) | with_reducible exact H | (rw [hy214];exact H) | exact H
       have Ny214:=aM hy214
       clear hy214
       have H':=aM H
       clear H
       go_wp2_with (first | ((with_reducible refine gd_ 39 ?_);refine Kd.R_lit (Kd.int .u8) _ 5 ?hg (N:=39) ?hd (xs:=([]:List Int)) (inner:=[]) (ok:=fun _=>True) (okp:=fun _=>True) ?hr ?hp (fun _ hk=>hk) trivial (Below.refl _ _) (Nat.le_refl _) (by simp) ?_;(case hd=>rfl);(case hg=>rfl);(case hr=>first | (go_simp;done) | (go_simp;rfl));(case hp=>exact (Reps.none _ _));intro v215 w27 ho28 hb hg_ hnew_;clear hg_ hnew_;(first | rw [← Ny214.out] at ho28 | (simp only [Int.reduceToNat] at ho28;rw [← Ny214.out] at ho28));have n0_:=aM (Kd.R_lower ho28 (below_size (z0_ HB.out GE209.out)));have n1_:=aM (blkB_ BK209.out hb);have n2_:=aM (below_step (z0_ HB.out GE209.out) hb);clear BK209;clear HB;have HO216:=n0_;have BK209:=n1_;have HB:=n2_;clear n0_ n1_ n2_;clear hb ho28))
       go_loopg [4,5] kj21 (fun kq v4 v5 w'=>∃ (x4_3:List Int) (x5_3:Int),v5 = .int .i64 x5_3∧Aside0 (Y0.l0 kq x3_4 x4_3 x5_3 a0_0 a0_1 a0_2 a0_3 l0_4 a0_5 a0_6 a0_7 l0_8=some r)∧Aside0 (kq≤kj21)∧Aside0 (Kd.R (Kd.int .u8) 5 w' w.heap.size (fun _=>True) v4 x4_3)∧Aside0 (w'.heap[gb209]? = some (.cells #[.int .i64 a0_0,.string a0_1,.bool a0_2,.int .i64 a0_3,(.slice A0_4 l0_4.length c0_4),.string a0_5,.int .i64 a0_6,.int .i64 a0_7,(.slice A0_8 l0_8.length c0_8)] 40 (0,0)))∧Aside0 (Below w.heap.size w w'))
       case atStart=>exact ⟨(y214),(0),(z2_),H',⟨Nat.le_refl _⟩,⟨z3_ HO216.out⟩,⟨z7_ BK209.out⟩,⟨z0_ HB.out GE209.out⟩⟩
       case round =>
        clear H'
        try clear c1
        try clear c2
        try clear p2
        try clear c4
        try clear c4b0
        try clear c4b1
        try clear c4b2
        try clear c10
        try clear c10b0
        try clear c10b1
        try clear c11
        try clear c11b0
        try clear c11b1
        try clear c11b2
        try clear c12
        try clear c12b0
        try clear c12b1
        try clear c13
        try clear c13b0
        try clear c13b1
        try clear c13b2
        try clear c14
        try clear c14b0
        try clear c14b1
        try clear c15
        try clear c15b0
        try clear c15b1
        try clear c15b2
        try clear c16
        try clear c16b0
        try clear c16b1
        try clear c16b2
        try clear c17
        try clear c19
        try clear c19b0
        try clear c19b1
        try clear c19b2
        try clear c22
        try clear c23
        try clear c26
        try clear hcz20_0
        try clear hcz20_1
        try clear hcz20_2
        try clear hcz20_3
        try clear hcz20_4
        try clear hcz20_5
        try clear hcz20_6
        try clear hcz20_7
        try clear hcz20_8
        try clear hcz24_0
        try clear hcz24_1
        try clear hcz24_2
        try clear hcz24_3
        try clear hcz24_4
        try clear hcz24_5
        try clear hcz24_6
        try clear hcz24_7
        try clear hcz24_8
        try clear hcz25_0
        try clear hcz25_1
        try clear hcz25_2
        try clear hcz25_3
        try clear hcz25_4
        try clear hcz25_5
        try clear hcz25_6
        try clear hcz25_7
        try clear hcz25_8
        try clear hcz7_0
        try clear hcz7_1
        try clear hcz7_2
        try clear hcz7_3
        try clear hcz7_4
        try clear hcz7_5
        try clear hcz7_6
        try clear hcz7_7
        try clear hcz7_8
        try clear hcz9_0
        try clear hcz9_1
        try clear hcz9_2
        try clear hcz9_3
        try clear hcz9_4
        try clear hcz9_5
        try clear hcz9_6
        try clear hcz9_7
        try clear hcz9_8
        try clear hfz20_0
        try clear hfz20_1
        try clear hfz20_2
        try clear hfz20_3
        try clear hfz20_4
        try clear hfz20_5
        try clear hfz20_6
        try clear hfz20_7
        try clear hfz20_8
        try clear hfz24_0
        try clear hfz24_1
        try clear hfz24_2
        try clear hfz24_3
        try clear hfz24_4
        try clear hfz24_5
        try clear hfz24_6
        try clear hfz24_7
        try clear hfz24_8
        try clear hfz25_0
        try clear hfz25_1
        try clear hfz25_2
        try clear hfz25_3
        try clear hfz25_4
        try clear hfz25_5
        try clear hfz25_6
        try clear hfz25_7
        try clear hfz25_8
        try clear hfz7_0
        try clear hfz7_1
        try clear hfz7_2
        try clear hfz7_3
        try clear hfz7_4
        try clear hfz7_5
        try clear hfz7_6
        try clear hfz7_7
        try clear hfz7_8
        try clear hfz9_0
        try clear hfz9_1
        try clear hfz9_2
        try clear hfz9_3
        try clear hfz9_4
        try clear hfz9_5
        try clear hfz9_6
        try clear hfz9_7
        try clear hfz9_8
        try clear p2
        obtain ⟨x4_3,x5_3,rfl,HA,HK3,HO_4,BK209,HB⟩:=hrel
        cases gk with
        | zero=>exact absurd HA.out (by simp [Y0.l0])
        | succ k3 =>
         have H:=HA.out
         clear HA
         simp only [Y0.l0] at H
         by_cases c29:x5_3<(l0_4.length:Int)
         ·rw [if_pos c29] at H
          have c29b0:decide (x5_3<(l0_4.length:Int))=true:=dE c29
          clear c29
          by_cases c30:x5_3>0
          ·rw [if_pos c30] at H
           have c30b0:decide (0<x5_3)=true:=dE c30
           clear c30
           by_cases c31:x4_3.length<140737488355328
           ·rw [if_pos c31] at H
            have LMc31:=aM c31
            clear c31
            obtain ⟨y217,hy217⟩:∃ y_:List Int,y_=(x4_3 ++ [44]):=⟨_,rfl⟩
            replace H:(if 0≤x5_3 then (if y217.length+(rdOf ByteArray.empty l0_4 x5_3).size<140737488355328 then (Y0.l0 k3 x3_4 (y217 ++ bytesOf (rdOf ByteArray.empty l0_4 x5_3)) (wrap64 (x5_3+1)) a0_0 a0_1 a0_2 a0_3 l0_4 a0_5 a0_6 a0_7 l0_8) else (none)) else (none))=some r:=by first | (rw [hy217];with_reducible exact H) | (have H2_:=(Option.bind_some _ _).symm.trans H;rw [hy217];with_reducible exact H2_) | (have H2_:=(Option.bind_some _ _).symm.trans H;with_reducible exact H2_) | with_reducible exact H | (rw [hy217];exact H) | exact H
            have Ny217:=aM hy217
            clear hy217
            by_cases c32:0≤x5_3
            ·rw [if_pos c32] at H
             have c32b0:decide (0≤x5_3)=true:=dE c32
             clear c32
             by_cases c33:y217.length+(rdOf ByteArray.empty l0_4 x5_3).size<140737488355328
             ·rw [if_pos c33] at H
              have LMc33:=aM c33
              clear c33
              obtain ⟨y221,hy221⟩:∃ y_:List Int,y_=(y217 ++ bytesOf (rdOf ByteArray.empty l0_4 x5_3)):=⟨_,rfl⟩
              replace H:(Y0.l0 k3 x3_4 y221 (wrap64 (x5_3+1)) a0_0 a0_1 a0_2 a0_3 l0_4 a0_5 a0_6 a0_7 l0_8)=some r:=by first | (rw [hy221];with_reducible exact H) | (have H2_:=(Option.bind_some _ _).symm.trans H;rw [hy221];with_reducible exact H2_) | (have H2_:=(Option.bind_some _ _).symm.trans H;with_reducible exact H2_) | with_reducible exact H | (rw [hy221];exact H) | exact H
              have Ny221:=aM hy221
              clear hy221
              have H':=aM H
              clear H
              have ⟨hcz34_0,hcz34_1,hcz34_2,hcz34_3,hcz34_4,hcz34_5,hcz34_6,hcz34_7,hcz34_8,hfz34_0,hfz34_1,hfz34_2,hfz34_3,hfz34_4,hfz34_5,hfz34_6,hfz34_7,hfz34_8⟩:=cz9_ BK209.out
              go_wp2_with (first | ((with_reducible refine gate_builtin (b:=.append) (xs:=#[.tmp 49,.tmp 50]) rfl ?_);at_builtin;refine Kd.R_append (Kd.int .u8) (w0:=w) w.heap.size rfl (.tmp 49) (.tmp 50) 51 5 (.int .u8 0) 1 rfl Tryd.underlying51 info5 rfl (by decide) (by omega) u4 x4_3 44 [.int .u8 44] (fun _=>True) (fun _=>False) rfl rfl ?aP (fun _ hk=>hk.elim) ?aF ?aO ?aB ?aS ?aL ?_;(case aP=>exact rfl);(case aB=>exact (z0_ HB.out GE209.out));(case aF=>exact (fun _ _=>trivial));(case aO=>exact (z3_ HO_4.out));(case aS=>exact (below_size (z0_ HB.out GE209.out)));(case aL=>have:=LMc31.out;omega);intro v218 w35 ho hb hg hat;rw [← Ny217.out] at ho;have n0_:=aM (blk_grown (g:=gb209) (o:=.cells #[.int .i64 a0_0,.string a0_1,.bool a0_2,.int .i64 a0_3,.slice A0_4 l0_4.length c0_4,.string a0_5,.int .i64 a0_6,.int .i64 a0_7,.slice A0_8 l0_8.length c0_8] 40 (0,0)) (z7_ BK209.out) hg (Kd.R_ne HO_4.out BK209.out (by decide)));have n1_:=aM (hb);have n2_:=aM (ho);clear BK209;clear HB;clear HO_4;have BK209:=n0_;have HB:=n1_;have HO219:=n2_;clear n0_ n1_ n2_;clear ho hb hg hat;have ⟨hcz36_0,hcz36_1,hcz36_2,hcz36_3,hcz36_4,hcz36_5,hcz36_6,hcz36_7,hcz36_8,hfz36_0,hfz36_1,hfz36_2,hfz36_3,hfz36_4,hfz36_5,hfz36_6,hfz36_7,hfz36_8⟩:=cz9_ BK209.out;have p220:0≤(x5_3:Int):=dT (z4_);have q220:x5_3<(l0_4.length:Int):=dT (z4_);obtain ⟨ad220,e220,hx220_0⟩:=Kd.at_string HR0_4.out x5_3 p220 q220;cases e220;replace hx220_0:=(HB.out.cell (World.block_lt_of_cell? w _ hx220_0)).trans hx220_0;replace p220:=eq_true p220;replace q220:=eq_true q220) | (at_builtin;refine print_append_str (w0:=w) w.heap.size rfl (.tmp 52) _ 51 9 5 rfl Tryd.underlying51 Tryd.underlying9 info5 v218 y217 (rdOf ByteArray.empty l0_4 x5_3) rfl rfl ?aO ?aB ?aS ?aL ?_;(case aB=>exact (z0_ HB.out GE209.out));(case aO=>exact (Kd.own_of_R (z3_ HO219.out)));(case aS=>exact (below_size (z0_ HB.out GE209.out)));(case aL=>have:=LMc33.out;omega);intro v222 w37 ho0 hb hg;have ho:=Kd.R_of_own (h1:=fun _=>rfl) (ok:=fun _=>True) ho0 (fun _ _=>trivial);clear ho0;have hat:=True.intro;rw [← Ny221.out] at ho;change Kd.R (Kd.int .u8) 5 w37 w.heap.size (fun _=>True) v222 y221 at ho;have n0_:=aM (blk_grown (g:=gb209) (o:=.cells #[.int .i64 a0_0,.string a0_1,.bool a0_2,.int .i64 a0_3,.slice (some ad220) l0_4.length c0_4,.string a0_5,.int .i64 a0_6,.int .i64 a0_7,.slice A0_8 l0_8.length c0_8] 40 (0,0)) (z7_ BK209.out) hg (Kd.R_ne HO219.out BK209.out (by decide)));have n1_:=aM (hb);have n2_:=aM (ho);clear BK209;clear HB;clear HO219;have BK209:=n0_;have HB:=n1_;have HO223:=n2_;clear n0_ n1_ n2_;clear ho hb hg hat))
              go_roundg k3
              case measure=>have:=HJ4.out;have:=HJ21.out;have:=HK3.out;omega
              case rel=>exact ⟨(y221),(wrap64 (x5_3+1)),(z2_),H',⟨by have:=HJ4.out;have:=HJ21.out;have:=HK3.out;omega⟩,⟨z3_ HO223.out⟩,⟨z7_ BK209.out⟩,⟨z0_ HB.out GE209.out⟩⟩
             ·rw [if_neg c33] at H
              exact nO H
            ·rw [if_neg c32] at H
             exact nO H
           ·rw [if_neg c31] at H
            exact nO H
          ·rw [if_neg c30] at H
           have c30b0:decide (0<x5_3)=false:=dF c30
           clear c30
           by_cases c38:0≤x5_3
           ·rw [if_pos c38] at H
            have c38b0:decide (0≤x5_3)=true:=dE c38
            clear c38
            by_cases c39:x4_3.length+(rdOf ByteArray.empty l0_4 x5_3).size<140737488355328
            ·rw [if_pos c39] at H
             have LMc39:=aM c39
             clear c39
             obtain ⟨y225,hy225⟩:∃ y_:List Int,y_=(x4_3 ++ bytesOf (rdOf ByteArray.empty l0_4 x5_3)):=⟨_,rfl⟩
             replace H:(Y0.l0 k3 x3_4 y225 (wrap64 (x5_3+1)) a0_0 a0_1 a0_2 a0_3 l0_4 a0_5 a0_6 a0_7 l0_8)=some r:=by first | (rw [hy225];with_reducible exact H) | (have H2_:=(Option.bind_some _ _).symm.trans H;rw [hy225];with_reducible exact H2_) | (have H2_:=(Option.bind_some _ _).symm.trans H;with_reducible exact H2_) | with_reducible exact H | (rw [hy225];exact H) | exact H
             have Ny225:=aM hy225
             clear hy225
             have H':=aM H
             clear H
             have ⟨hcz40_0,hcz40_1,hcz40_2,hcz40_3,hcz40_4,hcz40_5,hcz40_6,hcz40_7,hcz40_8,hfz40_0,hfz40_1,hfz40_2,hfz40_3,hfz40_4,hfz40_5,hfz40_6,hfz40_7,hfz40_8⟩:=cz9_ BK209.out
             have p224:0≤(x5_3:Int):=dT (z4_)
             have q224:x5_3<(l0_4.length:Int):=dT (z4_)
             obtain ⟨ad224,e224,hx224_0⟩:=Kd.at_string HR0_4.out x5_3 p224 q224
             cases e224
             replace hx224_0:=(HB.out.cell (World.block_lt_of_cell? w _ hx224_0)).trans hx224_0
             replace p224:=eq_true p224
             replace q224:=eq_true q224
             go_wp2_with (first | (at_builtin;refine print_append_str (w0:=w) w.heap.size rfl (.tmp 52) _ 51 9 5 rfl Tryd.underlying51 Tryd.underlying9 info5 u4 x4_3 (rdOf ByteArray.empty l0_4 x5_3) rfl rfl ?aO ?aB ?aS ?aL ?_;(case aB=>exact (z0_ HB.out GE209.out));(case aO=>exact (Kd.own_of_R (z3_ HO_4.out)));(case aS=>exact (below_size (z0_ HB.out GE209.out)));(case aL=>have:=LMc39.out;omega);intro v226 w41 ho0 hb hg;have ho:=Kd.R_of_own (h1:=fun _=>rfl) (ok:=fun _=>True) ho0 (fun _ _=>trivial);clear ho0;have hat:=True.intro;rw [← Ny225.out] at ho;change Kd.R (Kd.int .u8) 5 w41 w.heap.size (fun _=>True) v226 y225 at ho;have n0_:=aM (blk_grown (g:=gb209) (o:=.cells #[.int .i64 a0_0,.string a0_1,.bool a0_2,.int .i64 a0_3,.slice (some ad224) l0_4.length c0_4,.string a0_5,.int .i64 a0_6,.int .i64 a0_7,.slice A0_8 l0_8.length c0_8] 40 (0,0)) (z7_ BK209.out) hg (Kd.R_ne HO_4.out BK209.out (by decide)));have n1_:=aM (hb);have n2_:=aM (ho);clear BK209;clear HB;clear HO_4;have BK209:=n0_;have HB:=n1_;have HO227:=n2_;clear n0_ n1_ n2_;clear ho hb hg hat))
             go_roundg k3
             case measure=>have:=HJ4.out;have:=HJ21.out;have:=HK3.out;omega
             case rel=>exact ⟨(y225),(wrap64 (x5_3+1)),(z2_),H',⟨by have:=HJ4.out;have:=HJ21.out;have:=HK3.out;omega⟩,⟨z3_ HO227.out⟩,⟨z7_ BK209.out⟩,⟨z0_ HB.out GE209.out⟩⟩
            ·rw [if_neg c39] at H
             exact nO H
           ·rw [if_neg c38] at H
            exact nO H
         ·rw [if_neg c29] at H
          have c29b0:decide (x5_3<(l0_4.length:Int))=false:=dF c29
          clear c29
          by_cases c42:(l0_4.length:Int)=0
          ·rw [if_pos c42] at H
           have c42b0:((l0_4.length:Int) == 0)=true:=beq_iff_eq.mpr c42
           have c42b1:((l0_4.length:Int) != 0)=false:=bne_eq_false_iff_eq.mpr c42
           clear c42
           by_cases c43:x4_3.length<140737488355328
           ·rw [if_pos c43] at H
            have LMc43:=aM c43
            clear c43
            obtain ⟨y228,hy228⟩:∃ y_:List Int,y_=(x4_3 ++ [45]):=⟨_,rfl⟩
            replace H:(if x3_4.size+1≤9223372036854775807 then (if (x3_4.size+1)+(strOfNums y228).size≤9223372036854775807 then (some ((x3_4 ++ (⟨#[58]⟩:ByteArray)) ++ (strOfNums y228))) else (none)) else (none))=some r:=by first | (rw [hy228];with_reducible exact H) | (have H2_:=(Option.bind_some _ _).symm.trans H;rw [hy228];with_reducible exact H2_) | (have H2_:=(Option.bind_some _ _).symm.trans H;with_reducible exact H2_) | with_reducible exact H | (rw [hy228];exact H) | exact H
            have Ny228:=aM hy228
            clear hy228
            by_cases c44:x3_4.size+1≤9223372036854775807
            ·rw [if_pos c44] at H
             have c44b0:=eq_true c44
             have c44b1:decide (x3_4.size+1≤9223372036854775807)=true:=dE c44
             try have c44b2:(9223372036854775807<x3_4.size+1)=False:=eq_false (Nat.not_lt.2 c44)
             by_cases c45:(x3_4.size+1)+(strOfNums y228).size≤9223372036854775807
             ·rw [if_pos c45] at H
              have c45b0:=eq_true c45
              have c45b1:decide ((x3_4.size+1)+(strOfNums y228).size≤9223372036854775807)=true:=dE c45
              try have c45b2:(9223372036854775807<(x3_4.size+1)+(strOfNums y228).size)=False:=eq_false (Nat.not_lt.2 c45)
              obtain rfl:=sI H
              have ⟨hcz46_0,hcz46_1,hcz46_2,hcz46_3,hcz46_4,hcz46_5,hcz46_6,hcz46_7,hcz46_8,hfz46_0,hfz46_1,hfz46_2,hfz46_3,hfz46_4,hfz46_5,hfz46_6,hfz46_7,hfz46_8⟩:=cz9_ BK209.out
              go_wp2_with (first | ((with_reducible refine gate_builtin (b:=.append) (xs:=#[.tmp 63,.tmp 64]) rfl ?_);at_builtin;refine Kd.R_append (Kd.int .u8) (w0:=w) w.heap.size rfl (.tmp 63) (.tmp 64) 51 5 (.int .u8 0) 1 rfl Tryd.underlying51 info5 rfl (by decide) (by omega) u4 x4_3 45 [.int .u8 45] (fun _=>True) (fun _=>False) rfl rfl ?aP (fun _ hk=>hk.elim) ?aF ?aO ?aB ?aS ?aL ?_;(case aP=>exact rfl);(case aB=>exact (z0_ HB.out GE209.out));(case aF=>exact (fun _ _=>trivial));(case aO=>exact (z3_ HO_4.out));(case aS=>exact (below_size (z0_ HB.out GE209.out)));(case aL=>have:=LMc43.out;omega);intro v229 w47 ho hb hg hat;rw [← Ny228.out] at ho;have n0_:=aM (blk_grown (g:=gb209) (o:=.cells #[.int .i64 a0_0,.string a0_1,.bool a0_2,.int .i64 a0_3,.slice A0_4 l0_4.length c0_4,.string a0_5,.int .i64 a0_6,.int .i64 a0_7,.slice A0_8 l0_8.length c0_8] 40 (0,0)) (z7_ BK209.out) hg (Kd.R_ne HO_4.out BK209.out (by decide)));have n1_:=aM (hb);have n2_:=aM (ho);clear BK209;clear HB;clear HO_4;have BK209:=n0_;have HB:=n1_;have HO230:=n2_;clear n0_ n1_ n2_;clear ho hb hg hat;have hcv48:=own_string (P:=Tryd.prog) Tryd.underlying51 Tryd.underlying5 Tryd.underlying9 (Kd.own_of_R HO230.out)))
              go_ret
              exact ⟨z6_,z0_ HB.out GE209.out⟩
             ·rw [if_neg c45] at H
              exact nO H
            ·rw [if_neg c44] at H
             exact nO H
           ·rw [if_neg c43] at H
            exact nO H
          ·rw [if_neg c42] at H
           have c42b0:((l0_4.length:Int) == 0)=false:=beq_eq_false_iff_ne.mpr c42
           have c42b1:((l0_4.length:Int) != 0)=true:=bne_iff_ne.mpr c42
           have c42b2:¬ (l0_4=[]):=fun h_=>c42 (by rw [h_];rfl)
           by_cases c49:x3_4.size+1≤9223372036854775807
           ·rw [if_pos c49] at H
            have c49b0:=eq_true c49
            have c49b1:decide (x3_4.size+1≤9223372036854775807)=true:=dE c49
            try have c49b2:(9223372036854775807<x3_4.size+1)=False:=eq_false (Nat.not_lt.2 c49)
            by_cases c50:(x3_4.size+1)+(strOfNums x4_3).size≤9223372036854775807
            ·rw [if_pos c50] at H
             have c50b0:=eq_true c50
             have c50b1:decide ((x3_4.size+1)+(strOfNums x4_3).size≤9223372036854775807)=true:=dE c50
             try have c50b2:(9223372036854775807<(x3_4.size+1)+(strOfNums x4_3).size)=False:=eq_false (Nat.not_lt.2 c50)
             obtain rfl:=sI H
             have ⟨hcz51_0,hcz51_1,hcz51_2,hcz51_3,hcz51_4,hcz51_5,hcz51_6,hcz51_7,hcz51_8,hfz51_0,hfz51_1,hfz51_2,hfz51_3,hfz51_4,hfz51_5,hfz51_6,hfz51_7,hfz51_8⟩:=cz9_ BK209.out
             have hcv52:=own_string (P:=Tryd.prog) Tryd.underlying51 Tryd.underlying5 Tryd.underlying9 (Kd.own_of_R HO_4.out)
             go_wp2
             go_ret
             exact ⟨z6_,z0_ HB.out GE209.out⟩
            ·rw [if_neg c50] at H
             exact nO H
           ·rw [if_neg c49] at H
            exact nO H
      ·replace c26:=Bool.eq_false_iff.mpr c26
       subst c26
       have H1:(some x3_4)=some r:=by rw [if_neg (show ¬ (false=true) by decide)] at H;exact H
       clear H
       have H:=H1
       clear H1
       obtain rfl:=sI H
       go_wp2
       go_ret
       exact ⟨z6_,z0_ HB.out GE209.out⟩
 ·rw [if_neg c4] at H
  exact nO H


/-! ### Y5: function 23 -/
def Y5.l0:Nat→List ByteArray→List ByteArray→Int→Option (List ByteArray)
 | 0,_,_,_=>none
 | k+1,x0,x3,x4=>if x4<(x0.length:Int) then (if 0≤x4 then (if x4<(x3.length:Int) then (Y5.l0 k x0 (x3.set (x4:Int).toNat (rdOf ByteArray.empty x0 x4)) (wrap64 (x4+1))) else (none)) else (none)) else (some x3)
def Y5.f (k:Nat) (l0:List ByteArray):Option (List ByteArray):=if 0≤(l0.length:Int) then (if ((l0.length:Int):Int).toNat≤17592186044416 then (Y5.l0 k l0 (List.replicate ((l0.length:Int):Int).toNat (⟨#[]⟩:ByteArray)) 0) else (none)) else (none)
theorem Y5.mono_l:∀ k,(∀ y0 y1 y2,LeO (Y5.l0 k y0 y1 y2) (Y5.l0 (k+1) y0 y1 y2))
 | 0=>by intros <;> exact LeO.none _
 | k+1=>by
  have ih0:=Y5.mono_l k
  ·intros
   unfold Y5.l0
   exact mO
theorem Y5.mono:∀ a0 k,LeO (Y5.f k a0) (Y5.f (k+1) a0):=by
 intro a0 k
 have ih0:=Y5.mono_l k
 unfold Y5.f
 exact mO
theorem Y5.calls (k:Nat) (A0:Option Addr) (c0:Nat) (l0:List ByteArray) (r:List ByteArray) (w:World) (hr0:Kd.C Kd.string w A0 l0.length l0) (hc0:l0.length≤c0) (h:Y5.f k l0=some r) :
  Calls Tryd.prog 23 #[.slice A0 l0.length c0] w fun e w'=>∃ v0_:Value,e = .returned (v0_)∧Kd.R Kd.string 9 w' w.heap.size (fun _=>True) v0_ r∧Below w.heap.size w w':=by
 have HR0:=aM hr0
 have HC0:=aM hc0
 clear hr0 hc0
 have HB:=aM (Below.refl w.heap.size w)
 have H:(if 0≤(l0.length:Int) then (if ((l0.length:Int):Int).toNat≤17592186044416 then (Y5.l0 k l0 (List.replicate ((l0.length:Int):Int).toNat (⟨#[]⟩:ByteArray)) 0) else (none)) else (none))=some r:=h
 clear h
 by_cases c2:0≤(l0.length:Int)
 ·rw [if_pos c2] at H
  have c2b0:=eq_true c2
  have c2b1:decide (0≤(l0.length:Int))=true:=dE c2
  clear c2
  by_cases c3:((l0.length:Int):Int).toNat≤17592186044416
  ·rw [if_pos c3] at H
   have c3b0:=eq_true c3
   have c3b1:decide (((l0.length:Int):Int).toNat≤17592186044416)=true:=dE c3
   clear c3
   obtain ⟨y231,hy231⟩:∃ y_:List ByteArray,y_=(List.replicate ((l0.length:Int):Int).toNat (⟨#[]⟩:ByteArray)):=⟨_,rfl⟩
   replace H:(Y5.l0 k l0 y231 0)=some r:=by first | (rw [hy231];with_reducible exact H) | (have H2_:=(Option.bind_some _ _).symm.trans H;rw [hy231];with_reducible exact H2_) | (have H2_:=(Option.bind_some _ _).symm.trans H;with_reducible exact H2_) | with_reducible exact H | (rw [hy231];exact H) | exact H
   have Ny231:=aM hy231
   clear hy231
   have H':=aM H
   clear H
   go_enter Tryd.func23,Tryd.ntmps23
   go_wp2_with (first | ((with_reducible refine gd_ 7 ?_);refine Kd.R_make Kd.string _ 9 rfl (N:=7) rfl 29 _ _ rfl (l0.length:Int) rfl rfl Tryd.underlying29 (.string ⟨#[]⟩) 16 info9 rfl (by decide) (by omega) (⟨#[]⟩:ByteArray) (ok:=fun _=>True) (okp:=fun _=>True) rfl (fun _ hk=>hk) trivial (dT (z4_)) (Nat.le_trans (Nat.mul_le_mul_right _ (dT (z4_):(l0.length:Int).toNat≤17592186044416)) (by omega)) (Below.refl _ _) (Nat.le_refl _) ?_;intro v232 w4 ho5 hb hg_ hnew_;clear hg_ hnew_;(first | rw [← Ny231.out] at ho5 | (simp only [Int.reduceToNat] at ho5;rw [← Ny231.out] at ho5));have n0_:=aM (Kd.R_lower ho5 (below_size (z1_ HB.out)));have n1_:=aM (below_step (z1_ HB.out) hb);clear HB;have HO233:=n0_;have HB:=n1_;clear n0_ n1_;clear hb ho5))
   go_loopg [4] k (fun kq v4 w'=>∃ (x3_1:List ByteArray) (x4_1:Int),v4 = .int .i64 x4_1∧Aside0 (Y5.l0 kq l0 x3_1 x4_1=some r)∧Aside0 (kq≤k)∧Aside0 (Kd.R Kd.string 9 w' w.heap.size (fun _=>True) v232 x3_1)∧Aside0 (Below w.heap.size w w'))
   case atStart=>exact ⟨(y231),(0),(z2_),H',⟨Nat.le_refl _⟩,⟨z3_ HO233.out⟩,⟨z1_ HB.out⟩⟩
   case round =>
    clear H'
    try clear c2
    try clear c2b0
    try clear c2b1
    try clear p2
    try clear c3
    try clear c3b0
    try clear c3b1
    obtain ⟨x3_1,x4_1,rfl,HA,HK1,HO_3,HB⟩:=hrel
    cases gk with
    | zero=>exact absurd HA.out (by simp [Y5.l0])
    | succ k1 =>
     have H:=HA.out
     clear HA
     simp only [Y5.l0] at H
     by_cases c6:x4_1<(l0.length:Int)
     ·rw [if_pos c6] at H
      have c6b0:decide (x4_1<(l0.length:Int))=true:=dE c6
      clear c6
      by_cases c7:0≤x4_1
      ·rw [if_pos c7] at H
       have c7b0:decide (0≤x4_1)=true:=dE c7
       clear c7
       by_cases c8:x4_1<(x3_1.length:Int)
       ·rw [if_pos c8] at H
        have c8b0:decide (x4_1<(x3_1.length:Int))=true:=dE c8
        clear c8
        obtain ⟨y235,hy235⟩:∃ y_:List ByteArray,y_=(x3_1.set (x4_1:Int).toNat (rdOf ByteArray.empty l0 x4_1)):=⟨_,rfl⟩
        replace H:(Y5.l0 k1 l0 y235 (wrap64 (x4_1+1)))=some r:=by first | (rw [hy235];with_reducible exact H) | (have H2_:=(Option.bind_some _ _).symm.trans H;rw [hy235];with_reducible exact H2_) | (have H2_:=(Option.bind_some _ _).symm.trans H;with_reducible exact H2_) | with_reducible exact H | (rw [hy235];exact H) | exact H
        have Ny235:=aM hy235
        clear hy235
        have H':=aM H
        clear H
        have p234:0≤(x4_1:Int):=dT (z4_)
        have q234:x4_1<(l0.length:Int):=dT (z4_)
        obtain ⟨ad234,e234,hx234_0⟩:=Kd.at_string HR0.out x4_1 p234 q234
        cases e234
        replace hx234_0:=(HB.out.cell (World.block_lt_of_cell? w _ hx234_0)).trans hx234_0
        replace p234:=eq_true p234
        replace q234:=eq_true q234
        have p9:0≤(x4_1:Int):=dT (z4_)
        have q9:(x4_1:Int)<((x3_1.length:Int):Int):=dT (z4_)
        obtain ⟨go9,co9,eo9,gb9,gl9,cl9,HG9⟩:=Kd.R_form HO_3.out (by omega)
        (first | cases eo9 | (injection eo9 with ea_ en_ ec_;(first | subst ea_ | (injection ea_ with ea_;subst ea_));subst ec_;clear en_))
        have GB9:=aM gb9
        have GG9:=aM HG9
        clear gb9 gl9 HG9
        obtain ⟨hx9_0,hf9_0⟩:=Kd.R_celln (⟨#[]⟩:ByteArray) HO_3.out (x4_1:Int) p9 q9
        replace p9:=eq_true p9
        replace q9:=eq_true q9
        have HP10:=Kd.R_putg HO_3.out (x4_1:Int) (rdOf ByteArray.empty l0 x4_1)
        go_wp2_with (first | ((with_reducible refine gate_store (t:=9) (p:=20) rfl ?_);refine store_event (t:=9) (p:=20) (v:=?vo_w11) (w1:=(wr.setCell ⟨go9,(x4_1:Int).toNat,none⟩ (.string (rdOf ByteArray.empty l0 x4_1)))) ?hg ?ho ?hn ?hr ?_;(case ho=>rfl);(case hg=>rfl);(case hn=>rfl);(case hr=>first | (go_simp;done) | (go_simp;rfl));intro w11 hw;have hg:wr.grownBy w11 (some go9):=(by rw [hw];exact HP10.2);have hp_:Kd.R Kd.string 9 w11 w.heap.size (fun _=>True) (.slice (some ⟨go9,0,none⟩) x3_1.length co9) y235:=(by rw [hw,Ny235.out];exact HP10.1);clear HP10;have n0_:=aM (hp_);have n1_:=aM ((by rw [hw];exact below_set (HB.out) GB9.out:Below w.heap.size w w11));clear HO_3;clear HB;have HO_3:=n0_;have HB:=n1_;clear n0_ n1_;clear hg hw hp_))
        go_roundg k1
        case measure=>have:=HK1.out;omega
        case rel=>exact ⟨(y235),(wrap64 (x4_1+1)),(z2_),H',⟨by have:=HK1.out;omega⟩,⟨z3_ HO_3.out⟩,⟨z1_ HB.out⟩⟩
       ·rw [if_neg c8] at H
        exact nO H
      ·rw [if_neg c7] at H
       exact nO H
     ·rw [if_neg c6] at H
      have c6b0:decide (x4_1<(l0.length:Int))=false:=dF c6
      clear c6
      obtain rfl:=sI H
      go_wp2
      go_ret
      exact ⟨_,z6_,z3_ HO_3.out,z1_ HB.out⟩
  ·rw [if_neg c3] at H
   exact nO H
 ·rw [if_neg c2] at H
  exact nO H


/-! ### Y18: function 24 -/
def Y18.f (a0_0:Int) (a0_1:Int):Option (Int × Int):=some (a0_0,a0_1)
theorem Y18.calls (a0_0:Int) (a0_1:Int) (r1:Int) (r2:Int) (w:World) (h:Y18.f a0_0 a0_1=some (r1,r2)) :
  Calls Tryd.prog 24 #[.agg #[.int .i64 a0_0,.int .i64 a0_1]] w fun e w'=>e = .returned (.agg #[.int .i64 r1,.int .i64 r2])∧Below w.heap.size w w':=by
 have hu31:=Tryd.underlying31
 have hu37:=Tryd.underlying37
 have HB:=aM (Below.refl w.heap.size w)
 have H:(some (a0_0,a0_1))=some (r1,r2):=h
 clear h
 simp only [Option.some.injEq,Prod.mk.injEq] at H
 obtain ⟨rfl,rfl⟩:=H
 go_enter Tryd.func24,Tryd.ntmps24
 go_wp2_with (first | ((with_reducible refine gd_ 1 ?_);refine be_ 1 #[.int .i64 a0_0,.int .i64 a0_1] 31 ?_;intro gb236 hg w2 hbox hb;have n0_:=aM (below_step (z1_ HB.out) hb);have n1_:=aM (hbox);have n2_:=aM ((z5_ HB.out:w.heap.size≤gb236));have n3_:=aM ((z5_ HB.out:w.heap.size≤gb236));clear HB;have HB:=n0_;have BK236:=n1_;have GW236:=n2_;have GE236:=n3_;clear n0_ n1_ n2_ n3_;clear hb hbox hg) | ((with_reducible refine gd_ 2 ?_);refine be_ 2 #[.int .i64 0,.int .i64 0] 37 ?_;intro gb237 hg w3 hbox hb;have n0_:=aM (blkB_ BK236.out hb);have n1_:=aM (below_step (z0_ HB.out GE236.out) hb);have n2_:=aM (hbox);have n3_:=aM ((z9_ HB.out GE236.out:w.heap.size≤gb237));have n4_:=aM ((z9_ HB.out GE236.out:w.heap.size≤gb237));have n5_:=aM (neL_ BK236.out hg);have n6_:=aM (neG_ BK236.out hg);clear BK236;clear HB;have BK236:=n0_;have HB:=n1_;have BK237:=n2_;have GW237:=n3_;have GE237:=n4_;have NB236_237:=n5_;have NB237_236:=n6_;clear n0_ n1_ n2_ n3_ n4_ n5_ n6_;clear hb hbox hg) | ((with_reducible refine gd_ 3 ?_);refine be_ 3 #[.int .i64 0,.int .i64 0] 37 ?_;intro gb238 hg w4 hbox hb;have n0_:=aM (blkB_ BK236.out hb);have n1_:=aM (blkB_ BK237.out hb);have n2_:=aM (below_step (z8_ HB.out GE236.out GE237.out) hb);have n3_:=aM (hbox);have n4_:=aM ((z12_ HB.out GE236.out GE237.out:w.heap.size≤gb238));have n5_:=aM ((z12_ HB.out GE236.out GE237.out:w.heap.size≤gb238));have n6_:=aM (neL_ BK236.out hg);have n7_:=aM (neG_ BK236.out hg);have n8_:=aM (neL_ BK237.out hg);have n9_:=aM (neG_ BK237.out hg);clear BK236;clear BK237;clear HB;have BK236:=n0_;have BK237:=n1_;have HB:=n2_;have BK238:=n3_;have GW238:=n4_;have GE238:=n5_;have NB236_238:=n6_;have NB238_236:=n7_;have NB237_238:=n8_;have NB238_237:=n9_;clear n0_ n1_ n2_ n3_ n4_ n5_ n6_ n7_ n8_ n9_;clear hb hbox hg;have hnb5:=NB236_237.out;have hnc5:=NB237_236.out;have hnb6:=NB236_238.out;have hnc6:=NB238_236.out;have ⟨hcz7_0,hcz7_1,hfz7_0,hfz7_1⟩:=cz2_ BK236.out;have hnb8:=NB238_237.out;have hnc8:=NB237_238.out;have ⟨hcz9_0,hcz9_1,hfz9_0,hfz9_1⟩:=cz2_ BK238.out;have ⟨hcz10_0,hcz10_1,hfz10_0,hfz10_1⟩:=cz2_ BK237.out))
 refine bodyPost_ret (results_cell_row rfl _ _ gb237 37 #[.int .i64 a0_0,.int .i64 a0_1] (0,0) _ rfl (by (with_reducible repeat (first | refine blk_drewN ?_ _ | refine blk_drew ?_ | refine blk_alloc ?_ _));apply put2_;(with_reducible repeat (first | refine blk_drewN ?_ _ | refine blk_drew ?_ | refine blk_alloc ?_ _));refine blk_far ?_ NB237_238.out _;(with_reducible repeat (first | refine blk_drewN ?_ _ | refine blk_drew ?_ | refine blk_alloc ?_ _));refine blk_far ?_ NB237_238.out _;(with_reducible repeat (first | refine blk_drewN ?_ _ | refine blk_drew ?_ | refine blk_alloc ?_ _));exact BK237.out) Tryd.underlying37 rfl (by kernel_rfl)) rfl ?_
 exact ⟨z6_,z11_ HB.out GE236.out GE237.out GE238.out⟩


/-! ### Y20: function 44 -/
def Y20.f (a0_0:Int) (a0_1:Int) (a0_2:Bool) (a0_3:ByteArray):Option (Int × Int × Bool × ByteArray):=some (a0_0,a0_1,a0_2,a0_3)
theorem Y20.calls (a0_0:Int) (a0_1:Int) (a0_2:Bool) (a0_3:ByteArray) (r1:Int) (r2:Int) (r3:Bool) (r4:ByteArray) (w:World) (h:Y20.f a0_0 a0_1 a0_2 a0_3=some (r1,r2,r3,r4)) :
  Calls Tryd.prog 44 #[.agg #[.int .i64 a0_0,.int .i64 a0_1,.bool a0_2,.string a0_3]] w fun e w'=>e = .returned (.agg #[.int .i64 r1,.int .i64 r2,.bool r3,.string r4])∧Below w.heap.size w w':=by
 have hu70:=Tryd.underlying70
 have hu71:=Tryd.underlying71
 have HB:=aM (Below.refl w.heap.size w)
 have H:(some (a0_0,a0_1,a0_2,a0_3))=some (r1,r2,r3,r4):=h
 clear h
 simp only [Option.some.injEq,Prod.mk.injEq] at H
 obtain ⟨rfl,rfl,rfl,rfl⟩:=H
 go_enter Tryd.func44,Tryd.ntmps44
 go_wp2_with (first | ((with_reducible refine gd_ 1 ?_);refine be_ 1 #[.int .i64 a0_0,.int .i64 a0_1,.bool a0_2,.string a0_3] 70 ?_;intro gb239 hg w2 hbox hb;have n0_:=aM (below_step (z1_ HB.out) hb);have n1_:=aM (hbox);have n2_:=aM ((z5_ HB.out:w.heap.size≤gb239));have n3_:=aM ((z5_ HB.out:w.heap.size≤gb239));clear HB;have HB:=n0_;have BK239:=n1_;have GW239:=n2_;have GE239:=n3_;clear n0_ n1_ n2_ n3_;clear hb hbox hg) | ((with_reducible refine gd_ 2 ?_);refine be_ 2 #[.int .i64 0,.int .i64 0,.bool false,.string (⟨#[]⟩:ByteArray)] 71 ?_;intro gb240 hg w3 hbox hb;have n0_:=aM (blkB_ BK239.out hb);have n1_:=aM (below_step (z0_ HB.out GE239.out) hb);have n2_:=aM (hbox);have n3_:=aM ((z9_ HB.out GE239.out:w.heap.size≤gb240));have n4_:=aM ((z9_ HB.out GE239.out:w.heap.size≤gb240));have n5_:=aM (neL_ BK239.out hg);have n6_:=aM (neG_ BK239.out hg);clear BK239;clear HB;have BK239:=n0_;have HB:=n1_;have BK240:=n2_;have GW240:=n3_;have GE240:=n4_;have NB239_240:=n5_;have NB240_239:=n6_;clear n0_ n1_ n2_ n3_ n4_ n5_ n6_;clear hb hbox hg) | ((with_reducible refine gd_ 3 ?_);refine be_ 3 #[.int .i64 0,.int .i64 0,.bool false,.string (⟨#[]⟩:ByteArray)] 71 ?_;intro gb241 hg w4 hbox hb;have n0_:=aM (blkB_ BK239.out hb);have n1_:=aM (blkB_ BK240.out hb);have n2_:=aM (below_step (z8_ HB.out GE239.out GE240.out) hb);have n3_:=aM (hbox);have n4_:=aM ((z12_ HB.out GE239.out GE240.out:w.heap.size≤gb241));have n5_:=aM ((z12_ HB.out GE239.out GE240.out:w.heap.size≤gb241));have n6_:=aM (neL_ BK239.out hg);have n7_:=aM (neG_ BK239.out hg);have n8_:=aM (neL_ BK240.out hg);have n9_:=aM (neG_ BK240.out hg);clear BK239;clear BK240;clear HB;have BK239:=n0_;have BK240:=n1_;have HB:=n2_;have BK241:=n3_;have GW241:=n4_;have GE241:=n5_;have NB239_241:=n6_;have NB241_239:=n7_;have NB240_241:=n8_;have NB241_240:=n9_;clear n0_ n1_ n2_ n3_ n4_ n5_ n6_ n7_ n8_ n9_;clear hb hbox hg;have hnb5:=NB239_240.out;have hnc5:=NB240_239.out;have hnb6:=NB239_241.out;have hnc6:=NB241_239.out;have ⟨hcz7_0,hcz7_1,hcz7_2,hcz7_3,hfz7_0,hfz7_1,hfz7_2,hfz7_3⟩:=cz4_ BK239.out;have hnb8:=NB241_240.out;have hnc8:=NB240_241.out;have ⟨hcz9_0,hcz9_1,hcz9_2,hcz9_3,hfz9_0,hfz9_1,hfz9_2,hfz9_3⟩:=cz4_ BK241.out;have ⟨hcz10_0,hcz10_1,hcz10_2,hcz10_3,hfz10_0,hfz10_1,hfz10_2,hfz10_3⟩:=cz4_ BK240.out))
 refine bodyPost_ret (results_cell_row rfl _ _ gb240 71 #[.int .i64 a0_0,.int .i64 a0_1,.bool a0_2,.string a0_3] (0,0) _ rfl (by (with_reducible repeat (first | refine blk_drewN ?_ _ | refine blk_drew ?_ | refine blk_alloc ?_ _));apply put4_;(with_reducible repeat (first | refine blk_drewN ?_ _ | refine blk_drew ?_ | refine blk_alloc ?_ _));refine blk_far ?_ NB240_241.out _;(with_reducible repeat (first | refine blk_drewN ?_ _ | refine blk_drew ?_ | refine blk_alloc ?_ _));refine blk_far ?_ NB240_241.out _;(with_reducible repeat (first | refine blk_drewN ?_ _ | refine blk_drew ?_ | refine blk_alloc ?_ _));refine blk_far ?_ NB240_241.out _;(with_reducible repeat (first | refine blk_drewN ?_ _ | refine blk_drew ?_ | refine blk_alloc ?_ _));refine blk_far ?_ NB240_241.out _;(with_reducible repeat (first | refine blk_drewN ?_ _ | refine blk_drew ?_ | refine blk_alloc ?_ _));exact BK240.out) Tryd.underlying71 rfl (by kernel_rfl)) rfl ?_
 exact ⟨z6_,z11_ HB.out GE239.out GE240.out GE241.out⟩


/-! ### Y7: function 25 -/
def Y7.l0:Nat→List (S70)→List (S71)→Int→Option ((List (S71)))
 | 0,_,_,_=>none
 | k+1,x0,x3,x4=>if x4<(x0.length:Int) then (if 0≤x4 then ((Y20.f ((rd_T70 x0 x4).f0) ((rd_T70 x0 x4).f1) ((rd_T70 x0 x4).f2) ((rd_T70 x0 x4).f3)).bind fun bt246=>(if x4<(x3.length:Int) then (Y7.l0 k x0 (x3.set (x4:Int).toNat (⟨bt246.1,bt246.2.1,bt246.2.2.1,bt246.2.2.2⟩:S71)) (wrap64 (x4+1))) else (none))) else (none)) else (some x3)
def Y7.f (k:Nat) (l0:List (S70)):Option ((List (S71))):=if 0≤(l0.length:Int) then (if ((l0.length:Int):Int).toNat≤7036874417766 then (Y7.l0 k l0 (List.replicate ((l0.length:Int):Int).toNat z71) 0) else (none)) else (none)
theorem Y7.mono_l:∀ k,(∀ y0 y1 y2,LeO (Y7.l0 k y0 y1 y2) (Y7.l0 (k+1) y0 y1 y2))
 | 0=>by intros <;> exact LeO.none _
 | k+1=>by
  have ih0:=Y7.mono_l k
  ·intros
   unfold Y7.l0
   exact mO
theorem Y7.mono:∀ a0 k,LeO (Y7.f k a0) (Y7.f (k+1) a0):=by
 intro a0 k
 have ih0:=Y7.mono_l k
 unfold Y7.f
 exact mO
theorem Y7.calls (k:Nat) (A0:Option Addr) (c0:Nat) (l0:List (S70)) (r:List (S71)) (w:World) (hr0:Kd.C k70 w A0 l0.length l0) (hc0:l0.length≤c0) (h:Y7.f k l0=some r) :
  Calls Tryd.prog 25 #[.slice A0 l0.length c0] w fun e w'=>∃ v0_:Value,e = .returned (v0_)∧Kd.R k71 71 w' w.heap.size (fun _=>True) v0_ r∧Below w.heap.size w w':=by
 have hu70:=Tryd.underlying70
 have hu71:=Tryd.underlying71
 have HR0:=aM hr0
 have HC0:=aM hc0
 clear hr0 hc0
 have HB:=aM (Below.refl w.heap.size w)
 have H:(if 0≤(l0.length:Int) then (if ((l0.length:Int):Int).toNat≤7036874417766 then (Y7.l0 k l0 (List.replicate ((l0.length:Int):Int).toNat z71) 0) else (none)) else (none))=some r:=h
 clear h
 by_cases c2:0≤(l0.length:Int)
 ·rw [if_pos c2] at H
  have c2b0:=eq_true c2
  have c2b1:decide (0≤(l0.length:Int))=true:=dE c2
  clear c2
  by_cases c3:((l0.length:Int):Int).toNat≤7036874417766
  ·rw [if_pos c3] at H
   have c3b0:=eq_true c3
   have c3b1:decide (((l0.length:Int):Int).toNat≤7036874417766)=true:=dE c3
   clear c3
   obtain ⟨y242,hy242⟩:∃ y_:List (S71),y_=(List.replicate ((l0.length:Int):Int).toNat z71):=⟨_,rfl⟩
   replace H:(Y7.l0 k l0 y242 0)=some r:=by first | (rw [hy242];with_reducible exact H) | (have H2_:=(Option.bind_some _ _).symm.trans H;rw [hy242];with_reducible exact H2_) | (have H2_:=(Option.bind_some _ _).symm.trans H;with_reducible exact H2_) | with_reducible exact H | (rw [hy242];exact H) | exact H
   have Ny242:=aM hy242
   clear hy242
   have H':=aM H
   clear H
   go_enter Tryd.func25,Tryd.ntmps25
   go_wp2_with (first | ((with_reducible refine gd_ 7 ?_);refine Kd.R_make k71 _ 71 rfl (N:=7) rfl 38 _ _ rfl (l0.length:Int) rfl rfl Tryd.underlying38 (.agg #[(.int .i64 0),(.int .i64 0),(.bool false),(.string ⟨#[]⟩)]) 40 info71 rfl (by decide) (by omega) z71 (ok:=fun _=>True) (okp:=fun _=>True) (k71_mkM _ _ _ z71 ) (fun _ hk=>hk) trivial (dT (z4_)) (Nat.le_trans (Nat.mul_le_mul_right _ (dT (z4_):(l0.length:Int).toNat≤7036874417766)) (by omega)) (Below.refl _ _) (Nat.le_refl _) ?_;intro v243 w4 ho5 hb hg_ hnew_;clear hg_ hnew_;(first | rw [← Ny242.out] at ho5 | (simp only [Int.reduceToNat] at ho5;rw [← Ny242.out] at ho5));have n0_:=aM (Kd.R_lower ho5 (below_size (z1_ HB.out)));have n1_:=aM (below_step (z1_ HB.out) hb);clear HB;have HO244:=n0_;have HB:=n1_;clear n0_ n1_;clear hb ho5))
   go_loopg [4] k (fun kq v4 w'=>∃ (x3_1:List (S71)) (x4_1:Int),v4 = .int .i64 x4_1∧Aside0 (Y7.l0 kq l0 x3_1 x4_1=some r)∧Aside0 (kq≤k)∧Aside0 (Kd.R k71 71 w' w.heap.size (fun _=>True) v243 x3_1)∧Aside0 (Below w.heap.size w w'))
   case atStart=>exact ⟨(y242),(0),(z2_),H',⟨Nat.le_refl _⟩,⟨z3_ HO244.out⟩,⟨z1_ HB.out⟩⟩
   case round =>
    clear H'
    try clear c2
    try clear c2b0
    try clear c2b1
    try clear p2
    try clear c3
    try clear c3b0
    try clear c3b1
    obtain ⟨x3_1,x4_1,rfl,HA,HK1,HO_3,HB⟩:=hrel
    cases gk with
    | zero=>exact absurd HA.out (by simp [Y7.l0])
    | succ k1 =>
     have H:=HA.out
     clear HA
     simp only [Y7.l0] at H
     by_cases c6:x4_1<(l0.length:Int)
     ·rw [if_pos c6] at H
      have c6b0:decide (x4_1<(l0.length:Int))=true:=dE c6
      clear c6
      by_cases c7:0≤x4_1
      ·rw [if_pos c7] at H
       have c7b0:decide (0≤x4_1)=true:=dE c7
       clear c7
       replace H:=bS H
       obtain ⟨⟨t246,t247,t248,t249⟩,A80,H⟩:=H
       replace H:(if x4_1<(x3_1.length:Int) then (Y7.l0 k1 l0 (x3_1.set (x4_1:Int).toNat (⟨t246,t247,t248,t249⟩:S71)) (wrap64 (x4_1+1))) else (none))=some r:=H
       have A8:=aM A80
       clear A80
       by_cases c9:x4_1<(x3_1.length:Int)
       ·rw [if_pos c9] at H
        have c9b0:decide (x4_1<(x3_1.length:Int))=true:=dE c9
        clear c9
        obtain ⟨y250,hy250⟩:∃ y_:List (S71),y_=(x3_1.set (x4_1:Int).toNat (⟨t246,t247,t248,t249⟩:S71)):=⟨_,rfl⟩
        replace H:(Y7.l0 k1 l0 y250 (wrap64 (x4_1+1)))=some r:=by first | (rw [hy250];with_reducible exact H) | (have H2_:=(Option.bind_some _ _).symm.trans H;rw [hy250];with_reducible exact H2_) | (have H2_:=(Option.bind_some _ _).symm.trans H;with_reducible exact H2_) | with_reducible exact H | (rw [hy250];exact H) | exact H
        have Ny250:=aM hy250
        clear hy250
        have H':=aM H
        clear H
        have p245:0≤(x4_1:Int):=dT (z4_)
        have q245:x4_1<(l0.length:Int):=dT (z4_)
        obtain ⟨ad245,e245,hx245_0,hx245_1,hx245_2,hx245_3⟩:=at_T70 HR0.out x4_1 p245 q245
        cases e245
        replace hx245_0:=(HB.out.cell (World.block_lt_of_cell? w _ hx245_0)).trans hx245_0
        replace hx245_1:=(HB.out.cell (World.block_lt_of_cell? w _ hx245_1)).trans hx245_1
        replace hx245_2:=(HB.out.cell (World.block_lt_of_cell? w _ hx245_2)).trans hx245_2
        replace hx245_3:=(HB.out.cell (World.block_lt_of_cell? w _ hx245_3)).trans hx245_3
        replace p245:=eq_true p245
        replace q245:=eq_true q245
        go_wp2_with (first | ((with_reducible refine gc_ 44 ?_);refine gl_ (some 20) Tryd.func44 #[.agg #[.int .i64 ((rd_T70 l0 x4_1).f0),.int .i64 ((rd_T70 l0 x4_1).f1),.bool ((rd_T70 l0 x4_1).f2),.string ((rd_T70 l0 x4_1).f3)]] ?_;(with_reducible refine (Y20.calls ((rd_T70 l0 x4_1).f0) ((rd_T70 l0 x4_1).f1) ((rd_T70 l0 x4_1).f2) ((rd_T70 l0 x4_1).f3) t246 t247 t248 t249 _ A8.out).mono ?_);rintro e w11 ⟨rfl,hb⟩;refine ⟨_,rfl,?_⟩;have n0_:=aM (Kd.R_below (z3_ HO_3.out) hb);have n1_:=aM (below_step (z1_ HB.out) hb);clear HO_3;clear HB;have HO_3:=n0_;have HB:=n1_;clear n0_ n1_;(try clear hb);have p10:0≤(x4_1:Int):=dT (z4_);have q10:(x4_1:Int)<((x3_1.length:Int):Int):=dT (z4_);obtain ⟨go10,co10,eo10,gb10,gl10,cl10,HG10⟩:=Kd.R_form HO_3.out (by omega);(first | cases eo10 | (injection eo10 with ea_ en_ ec_;(first | subst ea_ | (injection ea_ with ea_;subst ea_));subst ec_;clear en_));have GB10:=aM gb10;have GG10:=aM HG10;clear gb10 gl10 HG10;obtain ⟨ce10,hcl10,hM10,hcc10,hfr10⟩:=Kd.R_elem HO_3.out z71 (x4_1:Int) p10 q10;obtain rfl:=k71_openM hM10;have hx10_0:w11.cell? ⟨go10,(x4_1:Int).toNat*4,none⟩=some (.int .i64 ((rd_T71 x3_1 x4_1).f0)):=hcc10 0 _ rfl;have hx10_1:w11.cell? ⟨go10,(x4_1:Int).toNat*4+1,none⟩=some (.int .i64 ((rd_T71 x3_1 x4_1).f1)):=hcc10 1 _ rfl;have hx10_2:w11.cell? ⟨go10,(x4_1:Int).toNat*4+2,none⟩=some (.bool ((rd_T71 x3_1 x4_1).f2)):=hcc10 2 _ rfl;have hx10_3:w11.cell? ⟨go10,(x4_1:Int).toNat*4+3,none⟩=some (.string ((rd_T71 x3_1 x4_1).f3)):=hcc10 3 _ rfl;have hf10_0:w11.frozen? ⟨go10,(x4_1:Int).toNat*4,none⟩=false:=hfr10 0;have hf10_1:w11.frozen? ⟨go10,(x4_1:Int).toNat*4+1,none⟩=false:=hfr10 1;have hf10_2:w11.frozen? ⟨go10,(x4_1:Int).toNat*4+2,none⟩=false:=hfr10 2;have hf10_3:w11.frozen? ⟨go10,(x4_1:Int).toNat*4+3,none⟩=false:=hfr10 3;clear hcl10 hcc10 hfr10 hM10;replace p10:=eq_true p10;replace q10:=eq_true q10;have HX12:=aM (show Kd.R k71 71 w11 w.heap.size (fun _=>True) (.slice (some ⟨go10,0,none⟩) x3_1.length co10) x3_1 from (z3_ HO_3.out));obtain ⟨ce12,hcl12,hM12,hcc12,hfr12⟩:=Kd.R_elem HX12.out z71 (x4_1:Int) (dT (z4_)) (by have h_:(x4_1:Int)<((x3_1.length:Int):Int):=dT (by first | (with_reducible assumption) | assumption);first | exact h_ | (have e_:=(Kd.R_reads' HO_3.out).1;omega) | simpa using h_);obtain rfl:=k71_openM hM12;have HP12:=Kd.R_seg HX12.out (x4_1:Int) (dT (z4_)) (by have h_:(x4_1:Int)<((x3_1.length:Int):Int):=dT (by first | (with_reducible assumption) | assumption);first | exact h_ | (have e_:=(Kd.R_reads' HO_3.out).1;omega) | simpa using h_) (seg:=[.int .i64 t246,.int .i64 t247,.bool t248,.string t249]) (j:=0) hcl12 hcc12 (show 4≤4 from by decide) (x':=(⟨t246,t247,t248,t249⟩:S71)) (k71_mkM _ _ _ (⟨t246,t247,t248,t249⟩:S71) ) (fun _ hk=>hk);have hx12_0:=hcc12 0 _ rfl;(try simp only [show (k71).sz=4 from rfl,Nat.mul_one,Nat.add_zero] at hx12_0);have hf12_0:=hfr12 0;(try simp only [show (k71).sz=4 from rfl,Nat.mul_one,Nat.add_zero] at hf12_0);have hx12_1:=hcc12 1 _ rfl;(try simp only [show (k71).sz=4 from rfl,Nat.mul_one,Nat.add_zero] at hx12_1);have hf12_1:=hfr12 1;(try simp only [show (k71).sz=4 from rfl,Nat.mul_one,Nat.add_zero] at hf12_1);have hx12_2:=hcc12 2 _ rfl;(try simp only [show (k71).sz=4 from rfl,Nat.mul_one,Nat.add_zero] at hx12_2);have hf12_2:=hfr12 2;(try simp only [show (k71).sz=4 from rfl,Nat.mul_one,Nat.add_zero] at hf12_2);have hx12_3:=hcc12 3 _ rfl;(try simp only [show (k71).sz=4 from rfl,Nat.mul_one,Nat.add_zero] at hx12_3);have hf12_3:=hfr12 3;(try simp only [show (k71).sz=4 from rfl,Nat.mul_one,Nat.add_zero] at hf12_3);clear hcl12 hcc12 hfr12 hM12) | ((with_reducible refine gate_store (t:=71) (p:=21) rfl ?_);refine store_event (t:=71) (p:=21) (v:=?vo_w13) (w1:=((((w11.setCell ⟨go10,(x4_1:Int).toNat*4,none⟩ (.int .i64 t246)).setCell ⟨go10,(x4_1:Int).toNat*4+1,none⟩ (.int .i64 t247)).setCell ⟨go10,(x4_1:Int).toNat*4+2,none⟩ (.bool t248)).setCell ⟨go10,(x4_1:Int).toNat*4+3,none⟩ (.string t249))) ?hg ?ho ?hn ?hr ?_;(case ho=>rfl);(case hg=>rfl);(case hn=>rfl);(case hr=>first | (go_simp;done) | (go_simp;rfl));intro w13 hw;have hg:w11.grownBy w13 (some go10):=(by rw [hw];exact HP12.2);have hp_:Kd.R k71 71 w13 w.heap.size (fun _=>True) (.slice (some ⟨go10,0,none⟩) x3_1.length co10) y250:=(by rw [hw,Ny250.out];exact HP12.1);clear HP12;have n0_:=aM (hp_);have n1_:=aM ((by rw [hw];exact below_set (below_set (below_set (below_set (HB.out) GB10.out) GB10.out) GB10.out) GB10.out:Below w.heap.size w w13));clear HO_3;clear HB;have HO_3:=n0_;have HB:=n1_;clear n0_ n1_;clear hg hw hp_))
        go_roundg k1
        case measure=>have:=HK1.out;omega
        case rel=>exact ⟨(y250),(wrap64 (x4_1+1)),(z2_),H',⟨by have:=HK1.out;omega⟩,⟨z3_ HO_3.out⟩,⟨z1_ HB.out⟩⟩
       ·rw [if_neg c9] at H
        exact nO H
      ·rw [if_neg c7] at H
       exact nO H
     ·rw [if_neg c6] at H
      have c6b0:decide (x4_1<(l0.length:Int))=false:=dF c6
      clear c6
      obtain rfl:=sI H
      go_wp2
      go_ret
      exact ⟨_,z6_,z3_ HO_3.out,z1_ HB.out⟩
  ·rw [if_neg c3] at H
   exact nO H
 ·rw [if_neg c2] at H
  exact nO H


/-! ### Y9: function 11 -/
def Y9.f (k:Nat) (a0_0:Int) (a0_1:ByteArray) (a0_2:Bool) (a0_3:Int) (l0_4:List ByteArray) (a0_5:ByteArray) (a0_6:Int) (a0_7:Int) (l0_8:List (S70)):Option (Int × ByteArray × Bool × Int × List ByteArray × ByteArray × Int × Int × (List (S71))):=(Y5.f k l0_4).bind fun t254=>((Y18.f a0_6 a0_7).bind fun bt257=>((Y7.f k l0_8).bind fun t259=>(some (a0_0,a0_1,a0_2,a0_3,t254,a0_5,bt257.1,bt257.2,t259))))
theorem Y9.mono:∀ a0 a1 a2 a3 a4 a5 a6 a7 a8 k,LeO (Y9.f k a0 a1 a2 a3 a4 a5 a6 a7 a8) (Y9.f (k+1) a0 a1 a2 a3 a4 a5 a6 a7 a8):=by
 intro a0 a1 a2 a3 a4 a5 a6 a7 a8 k
 have m0:=@Y7.mono
 have m1:=@Y5.mono
 unfold Y9.f
 exact mO
theorem Y9.calls (k:Nat) (a0_0:Int) (a0_1:ByteArray) (a0_2:Bool) (a0_3:Int) (A0_4:Option Addr) (c0_4:Nat) (l0_4:List ByteArray) (a0_5:ByteArray) (a0_6:Int) (a0_7:Int) (A0_8:Option Addr) (c0_8:Nat) (l0_8:List (S70)) (r1:Int) (r2:ByteArray) (r3:Bool) (r4:Int) (r5:List ByteArray) (r6:ByteArray) (r7:Int) (r8:Int) (r9:List (S71)) (w:World) (hr0_4:Kd.C Kd.string w A0_4 l0_4.length l0_4) (hc0_4:l0_4.length≤c0_4) (hr0_8:Kd.C k70 w A0_8 l0_8.length l0_8) (hc0_8:l0_8.length≤c0_8) (h:Y9.f k a0_0 a0_1 a0_2 a0_3 l0_4 a0_5 a0_6 a0_7 l0_8=some (r1,r2,r3,r4,r5,r6,r7,r8,r9)) :
  Calls Tryd.prog 11 #[.agg #[.int .i64 a0_0,.string a0_1,.bool a0_2,.int .i64 a0_3,.slice A0_4 l0_4.length c0_4,.string a0_5,.int .i64 a0_6,.int .i64 a0_7,.slice A0_8 l0_8.length c0_8]] w fun e w'=>∃ v4_ v8_:Value,e = .returned (.agg #[.int .i64 r1,.string r2,.bool r3,.int .i64 r4,v4_,.string r6,.int .i64 r7,.int .i64 r8,v8_])∧Kd.R Kd.string 9 w' w.heap.size (fun _=>True) v4_ r5∧Kd.R k71 71 w' w.heap.size (fun _=>True) v8_ r9∧Below w.heap.size w w':=by
 have hu34:=Tryd.underlying34
 have hu40:=Tryd.underlying40
 have hu31:=Tryd.underlying31
 have hu37:=Tryd.underlying37
 have HR0_4:=aM hr0_4
 have HC0_4:=aM hc0_4
 clear hr0_4 hc0_4
 have HR0_8:=aM hr0_8
 have HC0_8:=aM hc0_8
 clear hr0_8 hc0_8
 have HB:=aM (Below.refl w.heap.size w)
 have H:((Y5.f k l0_4).bind fun t254=>((Y18.f a0_6 a0_7).bind fun bt257=>((Y7.f k l0_8).bind fun t259=>(some (a0_0,a0_1,a0_2,a0_3,t254,a0_5,bt257.1,bt257.2,t259)))))=some (r1,r2,r3,r4,r5,r6,r7,r8,r9):=h
 clear h
 replace H:=bS H
 obtain ⟨t254,A20,H⟩:=H
 replace H:((Y18.f a0_6 a0_7).bind fun bt257=>((Y7.f k l0_8).bind fun t259=>(some (a0_0,a0_1,a0_2,a0_3,t254,a0_5,bt257.1,bt257.2,t259))))=some (r1,r2,r3,r4,r5,r6,r7,r8,r9):=H
 have A2:=aM A20
 clear A20
 replace H:=bS H
 obtain ⟨⟨t257,t258⟩,A30,H⟩:=H
 replace H:((Y7.f k l0_8).bind fun t259=>(some (a0_0,a0_1,a0_2,a0_3,t254,a0_5,t257,t258,t259)))=some (r1,r2,r3,r4,r5,r6,r7,r8,r9):=H
 have A3:=aM A30
 clear A30
 replace H:=bS H
 obtain ⟨t259,A40,H⟩:=H
 replace H:(some (a0_0,a0_1,a0_2,a0_3,t254,a0_5,t257,t258,t259))=some (r1,r2,r3,r4,r5,r6,r7,r8,r9):=H
 have A4:=aM A40
 clear A40
 simp only [Option.some.injEq,Prod.mk.injEq] at H
 obtain ⟨rfl,rfl,rfl,rfl,rfl,rfl,rfl,rfl,rfl⟩:=H
 go_enter Tryd.func11,Tryd.ntmps11
 go_wp2_with (first | ((with_reducible refine gd_ 1 ?_);refine be_ 1 #[.int .i64 a0_0,.string a0_1,.bool a0_2,.int .i64 a0_3,.slice A0_4 l0_4.length c0_4,.string a0_5,.int .i64 a0_6,.int .i64 a0_7,.slice A0_8 l0_8.length c0_8] 34 ?_;intro gb251 hg w5 hbox hb;have n0_:=aM (below_step (z1_ HB.out) hb);have n1_:=aM (hbox);have n2_:=aM ((z5_ HB.out:w.heap.size≤gb251));have n3_:=aM ((z5_ HB.out:w.heap.size≤gb251));clear HB;have HB:=n0_;have BK251:=n1_;have GW251:=n2_;have GE251:=n3_;clear n0_ n1_ n2_ n3_;clear hb hbox hg) | ((with_reducible refine gd_ 2 ?_);refine be_ 2 #[.int .i64 0,.string (⟨#[]⟩:ByteArray),.bool false,.int .i64 0,.slice none 0 0,.string (⟨#[]⟩:ByteArray),.int .i64 0,.int .i64 0,.slice none 0 0] 40 ?_;intro gb252 hg w6 hbox hb;have n0_:=aM (blkB_ BK251.out hb);have n1_:=aM (below_step (z0_ HB.out GE251.out) hb);have n2_:=aM (hbox);have n3_:=aM ((z9_ HB.out GE251.out:w.heap.size≤gb252));have n4_:=aM ((z9_ HB.out GE251.out:w.heap.size≤gb252));have n5_:=aM (neL_ BK251.out hg);have n6_:=aM (neG_ BK251.out hg);clear BK251;clear HB;have BK251:=n0_;have HB:=n1_;have BK252:=n2_;have GW252:=n3_;have GE252:=n4_;have NB251_252:=n5_;have NB252_251:=n6_;clear n0_ n1_ n2_ n3_ n4_ n5_ n6_;clear hb hbox hg) | ((with_reducible refine gd_ 3 ?_);refine be_ 3 #[.int .i64 0,.string (⟨#[]⟩:ByteArray),.bool false,.int .i64 0,.slice none 0 0,.string (⟨#[]⟩:ByteArray),.int .i64 0,.int .i64 0,.slice none 0 0] 40 ?_;intro gb253 hg w7 hbox hb;have n0_:=aM (blkB_ BK251.out hb);have n1_:=aM (blkB_ BK252.out hb);have n2_:=aM (below_step (z8_ HB.out GE251.out GE252.out) hb);have n3_:=aM (hbox);have n4_:=aM ((z12_ HB.out GE251.out GE252.out:w.heap.size≤gb253));have n5_:=aM ((z12_ HB.out GE251.out GE252.out:w.heap.size≤gb253));have n6_:=aM (neL_ BK251.out hg);have n7_:=aM (neG_ BK251.out hg);have n8_:=aM (neL_ BK252.out hg);have n9_:=aM (neG_ BK252.out hg);clear BK251;clear BK252;clear HB;have BK251:=n0_;have BK252:=n1_;have HB:=n2_;have BK253:=n3_;have GW253:=n4_;have GE253:=n5_;have NB251_253:=n6_;have NB253_251:=n7_;have NB252_253:=n8_;have NB253_252:=n9_;clear n0_ n1_ n2_ n3_ n4_ n5_ n6_ n7_ n8_ n9_;clear hb hbox hg;have hnb8:=NB251_252.out;have hnc8:=NB252_251.out;have hnb9:=NB251_253.out;have hnc9:=NB253_251.out;have ⟨hcz10_0,hcz10_1,hcz10_2,hcz10_3,hcz10_4,hcz10_5,hcz10_6,hcz10_7,hcz10_8,hfz10_0,hfz10_1,hfz10_2,hfz10_3,hfz10_4,hfz10_5,hfz10_6,hfz10_7,hfz10_8⟩:=cz9_ BK251.out;have hnb11:=NB253_252.out;have hnc11:=NB252_253.out;have ⟨hcz12_0,hcz12_1,hcz12_2,hcz12_3,hcz12_4,hcz12_5,hcz12_6,hcz12_7,hcz12_8,hfz12_0,hfz12_1,hfz12_2,hfz12_3,hfz12_4,hfz12_5,hfz12_6,hfz12_7,hfz12_8⟩:=cz9_ BK253.out) | ((with_reducible refine gc_ 23 ?_);refine gl_ (some 18) Tryd.func23 #[.slice A0_4 l0_4.length c0_4] ?_;(with_reducible refine (Y5.calls k _ _ l0_4 t254 _ ?s1 ?s2 A2.out).mono ?_);(case s1=>exact Kd.C_below HR0_4.out (z11_ HB.out GE251.out GE252.out GE253.out));(case s2=>exact HC0_4.out);rintro e w13 ⟨v255,rfl,ho0,hb⟩;refine ⟨_,rfl,?_⟩;have n0_:=aM (Kd.R_lower ho0 (below_size (z11_ HB.out GE251.out GE252.out GE253.out)));have n1_:=aM (blk_below (g:=gb251) (o:=.cells #[.int .i64 a0_0,.string a0_1,.bool a0_2,.int .i64 a0_3,.slice A0_4 l0_4.length c0_4,.string a0_5,.int .i64 a0_6,.int .i64 a0_7,.slice A0_8 l0_8.length c0_8] 34 (0,0)) (by (with_reducible repeat (first | refine blk_drewN ?_ _ | refine blk_drew ?_ | refine blk_alloc ?_ _));refine blk_far ?_ NB251_253.out _;(with_reducible repeat (first | refine blk_drewN ?_ _ | refine blk_drew ?_ | refine blk_alloc ?_ _));refine blk_far ?_ NB251_253.out _;(with_reducible repeat (first | refine blk_drewN ?_ _ | refine blk_drew ?_ | refine blk_alloc ?_ _));refine blk_far ?_ NB251_253.out _;(with_reducible repeat (first | refine blk_drewN ?_ _ | refine blk_drew ?_ | refine blk_alloc ?_ _));refine blk_far ?_ NB251_253.out _;(with_reducible repeat (first | refine blk_drewN ?_ _ | refine blk_drew ?_ | refine blk_alloc ?_ _));exact BK251.out) hb);have n2_:=aM (blk_below (g:=gb252) (o:=.cells #[.int .i64 0,.string (⟨#[]⟩:ByteArray),.bool false,.int .i64 0,.slice none 0 0,.string (⟨#[]⟩:ByteArray),.int .i64 0,.int .i64 0,.slice none 0 0] 40 (0,0)) (by (with_reducible repeat (first | refine blk_drewN ?_ _ | refine blk_drew ?_ | refine blk_alloc ?_ _));refine blk_far ?_ NB252_253.out _;(with_reducible repeat (first | refine blk_drewN ?_ _ | refine blk_drew ?_ | refine blk_alloc ?_ _));refine blk_far ?_ NB252_253.out _;(with_reducible repeat (first | refine blk_drewN ?_ _ | refine blk_drew ?_ | refine blk_alloc ?_ _));refine blk_far ?_ NB252_253.out _;(with_reducible repeat (first | refine blk_drewN ?_ _ | refine blk_drew ?_ | refine blk_alloc ?_ _));refine blk_far ?_ NB252_253.out _;(with_reducible repeat (first | refine blk_drewN ?_ _ | refine blk_drew ?_ | refine blk_alloc ?_ _));exact BK252.out) hb);have n3_:=aM (blk_below (g:=gb253) (o:=.cells #[.int .i64 a0_0,.string a0_1,.bool a0_2,.int .i64 a0_3,.slice none 0 0,.string (⟨#[]⟩:ByteArray),.int .i64 0,.int .i64 0,.slice none 0 0] 40 (0,0)) (by (with_reducible repeat (first | refine blk_drewN ?_ _ | refine blk_drew ?_ | refine blk_alloc ?_ _));refine blk_put (cs:=#[.int .i64 a0_0,.string a0_1,.bool a0_2,.int .i64 0,.slice none 0 0,.string (⟨#[]⟩:ByteArray),.int .i64 0,.int .i64 0,.slice none 0 0]) ?_ 3 _ rfl;(with_reducible repeat (first | refine blk_drewN ?_ _ | refine blk_drew ?_ | refine blk_alloc ?_ _));refine blk_put (cs:=#[.int .i64 a0_0,.string a0_1,.bool false,.int .i64 0,.slice none 0 0,.string (⟨#[]⟩:ByteArray),.int .i64 0,.int .i64 0,.slice none 0 0]) ?_ 2 _ rfl;(with_reducible repeat (first | refine blk_drewN ?_ _ | refine blk_drew ?_ | refine blk_alloc ?_ _));refine blk_put (cs:=#[.int .i64 a0_0,.string (⟨#[]⟩:ByteArray),.bool false,.int .i64 0,.slice none 0 0,.string (⟨#[]⟩:ByteArray),.int .i64 0,.int .i64 0,.slice none 0 0]) ?_ 1 _ rfl;(with_reducible repeat (first | refine blk_drewN ?_ _ | refine blk_drew ?_ | refine blk_alloc ?_ _));refine blk_put (cs:=#[.int .i64 0,.string (⟨#[]⟩:ByteArray),.bool false,.int .i64 0,.slice none 0 0,.string (⟨#[]⟩:ByteArray),.int .i64 0,.int .i64 0,.slice none 0 0]) ?_ 0 _ rfl;(with_reducible repeat (first | refine blk_drewN ?_ _ | refine blk_drew ?_ | refine blk_alloc ?_ _));exact BK253.out) hb);have n4_:=aM (below_step (z11_ HB.out GE251.out GE252.out GE253.out) hb);clear BK251;clear BK252;clear BK253;clear HB;have HO256:=n0_;have BK251:=n1_;have BK252:=n2_;have BK253:=n3_;have HB:=n4_;clear n0_ n1_ n2_ n3_ n4_;(try clear hb);(try clear ho0);obtain ⟨Ao14,co14,eo14⟩:=Kd.R_slice HO256.out;subst eo14;have ⟨hcz15_0,hcz15_1,hcz15_2,hcz15_3,hcz15_4,hcz15_5,hcz15_6,hcz15_7,hcz15_8,hfz15_0,hfz15_1,hfz15_2,hfz15_3,hfz15_4,hfz15_5,hfz15_6,hfz15_7,hfz15_8⟩:=cz9_ BK253.out;have ⟨hcz16_0,hcz16_1,hcz16_2,hcz16_3,hcz16_4,hcz16_5,hcz16_6,hcz16_7,hcz16_8,hfz16_0,hfz16_1,hfz16_2,hfz16_3,hfz16_4,hfz16_5,hfz16_6,hfz16_7,hfz16_8⟩:=cz9_ BK251.out) | ((with_reducible refine gc_ 24 ?_);refine gl_ (some 25) Tryd.func24 #[.agg #[.int .i64 a0_6,.int .i64 a0_7]] ?_;(with_reducible refine (Y18.calls a0_6 a0_7 t257 t258 _ A3.out).mono ?_);rintro e w17 ⟨rfl,hb⟩;refine ⟨_,rfl,?_⟩;have n0_:=aM (Kd.R_below (by (with_reducible repeat (first | apply Kd.R_alloc | apply Kd.R_drewN | apply Kd.R_drew));exact (Kd.R_mono (Kd.R_far (p:=⟨gb253,5,none⟩) (Kd.R_far (p:=⟨gb253,4,none⟩) (Kd.R_types HO256.out BK253.out (by decide)) (fun _ hk=>hk.2) (.slice Ao14 t254.length co14)) (fun _ hk=>hk.2) (.string a0_5)) (fun _ h_=>h_.1))) hb);have n1_:=aM (blk_below (g:=gb251) (o:=.cells #[.int .i64 a0_0,.string a0_1,.bool a0_2,.int .i64 a0_3,.slice A0_4 l0_4.length c0_4,.string a0_5,.int .i64 a0_6,.int .i64 a0_7,.slice A0_8 l0_8.length c0_8] 34 (0,0)) (z14_ NB251_253.out BK251.out) hb);have n2_:=aM (blk_below (g:=gb252) (o:=.cells #[.int .i64 0,.string (⟨#[]⟩:ByteArray),.bool false,.int .i64 0,.slice none 0 0,.string (⟨#[]⟩:ByteArray),.int .i64 0,.int .i64 0,.slice none 0 0] 40 (0,0)) (z14_ NB252_253.out BK252.out) hb);have n3_:=aM (blk_below (g:=gb253) (o:=.cells #[.int .i64 a0_0,.string a0_1,.bool a0_2,.int .i64 a0_3,.slice Ao14 t254.length co14,.string a0_5,.int .i64 0,.int .i64 0,.slice none 0 0] 40 (0,0)) (by (with_reducible repeat (first | refine blk_drewN ?_ _ | refine blk_drew ?_ | refine blk_alloc ?_ _));refine blk_put (cs:=#[.int .i64 a0_0,.string a0_1,.bool a0_2,.int .i64 a0_3,.slice Ao14 t254.length co14,.string (⟨#[]⟩:ByteArray),.int .i64 0,.int .i64 0,.slice none 0 0]) ?_ 5 _ rfl;(with_reducible repeat (first | refine blk_drewN ?_ _ | refine blk_drew ?_ | refine blk_alloc ?_ _));refine blk_put (cs:=#[.int .i64 a0_0,.string a0_1,.bool a0_2,.int .i64 a0_3,.slice none 0 0,.string (⟨#[]⟩:ByteArray),.int .i64 0,.int .i64 0,.slice none 0 0]) ?_ 4 _ rfl;(with_reducible repeat (first | refine blk_drewN ?_ _ | refine blk_drew ?_ | refine blk_alloc ?_ _));exact BK253.out) hb);have n4_:=aM (below_step (z11_ HB.out GE251.out GE252.out GE253.out) hb);clear HO256;clear BK251;clear BK252;clear BK253;clear HB;have HO256:=n0_;have BK251:=n1_;have BK252:=n2_;have BK253:=n3_;have HB:=n4_;clear n0_ n1_ n2_ n3_ n4_;(try clear hb);(try clear hk);have ⟨hcz18_0,hcz18_1,hcz18_2,hcz18_3,hcz18_4,hcz18_5,hcz18_6,hcz18_7,hcz18_8,hfz18_0,hfz18_1,hfz18_2,hfz18_3,hfz18_4,hfz18_5,hfz18_6,hfz18_7,hfz18_8⟩:=cz9_ BK253.out;have ⟨hcz19_0,hcz19_1,hcz19_2,hcz19_3,hcz19_4,hcz19_5,hcz19_6,hcz19_7,hcz19_8,hfz19_0,hfz19_1,hfz19_2,hfz19_3,hfz19_4,hfz19_5,hfz19_6,hfz19_7,hfz19_8⟩:=cz9_ BK251.out) | ((with_reducible refine gc_ 25 ?_);refine gl_ (some 29) Tryd.func25 #[.slice A0_8 l0_8.length c0_8] ?_;(with_reducible refine (Y7.calls k _ _ l0_8 t259 _ ?s1 ?s2 A4.out).mono ?_);(case s1=>exact Kd.C_below HR0_8.out (z11_ HB.out GE251.out GE252.out GE253.out));(case s2=>exact HC0_8.out);rintro e w20 ⟨v260,rfl,ho0,hb⟩;refine ⟨_,rfl,?_⟩;have n0_:=aM (Kd.R_below (by (with_reducible repeat (first | apply Kd.R_alloc | apply Kd.R_drewN | apply Kd.R_drew));exact (Kd.R_mono (Kd.R_far (p:=⟨gb253,7,none⟩) (Kd.R_far (p:=⟨gb253,6,none⟩) (Kd.R_types HO256.out BK253.out (by decide)) (fun _ hk=>hk.2) (.int .i64 t257)) (fun _ hk=>hk.2) (.int .i64 t258)) (fun _ h_=>h_.1))) hb);have n1_:=aM (Kd.R_lower ho0 (below_size (z11_ HB.out GE251.out GE252.out GE253.out)));have n2_:=aM (blk_below (g:=gb251) (o:=.cells #[.int .i64 a0_0,.string a0_1,.bool a0_2,.int .i64 a0_3,.slice A0_4 l0_4.length c0_4,.string a0_5,.int .i64 a0_6,.int .i64 a0_7,.slice A0_8 l0_8.length c0_8] 34 (0,0)) (z14_ NB251_253.out BK251.out) hb);have n3_:=aM (blk_below (g:=gb252) (o:=.cells #[.int .i64 0,.string (⟨#[]⟩:ByteArray),.bool false,.int .i64 0,.slice none 0 0,.string (⟨#[]⟩:ByteArray),.int .i64 0,.int .i64 0,.slice none 0 0] 40 (0,0)) (z14_ NB252_253.out BK252.out) hb);have n4_:=aM (blk_below (g:=gb253) (o:=.cells #[.int .i64 a0_0,.string a0_1,.bool a0_2,.int .i64 a0_3,.slice Ao14 t254.length co14,.string a0_5,.int .i64 t257,.int .i64 t258,.slice none 0 0] 40 (0,0)) (by (with_reducible repeat (first | refine blk_drewN ?_ _ | refine blk_drew ?_ | refine blk_alloc ?_ _));refine blk_put (cs:=#[.int .i64 a0_0,.string a0_1,.bool a0_2,.int .i64 a0_3,.slice Ao14 t254.length co14,.string a0_5,.int .i64 t257,.int .i64 0,.slice none 0 0]) ?_ 7 _ rfl;(with_reducible repeat (first | refine blk_drewN ?_ _ | refine blk_drew ?_ | refine blk_alloc ?_ _));refine blk_put (cs:=#[.int .i64 a0_0,.string a0_1,.bool a0_2,.int .i64 a0_3,.slice Ao14 t254.length co14,.string a0_5,.int .i64 0,.int .i64 0,.slice none 0 0]) ?_ 6 _ rfl;(with_reducible repeat (first | refine blk_drewN ?_ _ | refine blk_drew ?_ | refine blk_alloc ?_ _));exact BK253.out) hb);have n5_:=aM (below_step (z11_ HB.out GE251.out GE252.out GE253.out) hb);clear HO256;clear BK251;clear BK252;clear BK253;clear HB;have HO256:=n0_;have HO261:=n1_;have BK251:=n2_;have BK252:=n3_;have BK253:=n4_;have HB:=n5_;clear n0_ n1_ n2_ n3_ n4_ n5_;(try clear hb);(try clear hk);(try clear ho0);obtain ⟨Ao21,co21,eo21⟩:=Kd.R_slice HO261.out;subst eo21;have ⟨hcz22_0,hcz22_1,hcz22_2,hcz22_3,hcz22_4,hcz22_5,hcz22_6,hcz22_7,hcz22_8,hfz22_0,hfz22_1,hfz22_2,hfz22_3,hfz22_4,hfz22_5,hfz22_6,hfz22_7,hfz22_8⟩:=cz9_ BK253.out;have ⟨hcz23_0,hcz23_1,hcz23_2,hcz23_3,hcz23_4,hcz23_5,hcz23_6,hcz23_7,hcz23_8,hfz23_0,hfz23_1,hfz23_2,hfz23_3,hfz23_4,hfz23_5,hfz23_6,hfz23_7,hfz23_8⟩:=cz9_ BK252.out))
 refine bodyPost_ret (results_cell_row rfl _ _ gb252 40 #[.int .i64 a0_0,.string a0_1,.bool a0_2,.int .i64 a0_3,.slice Ao14 t254.length co14,.string a0_5,.int .i64 t257,.int .i64 t258,.slice Ao21 t259.length co21] (0,0) _ rfl (by (with_reducible repeat (first | refine blk_drewN ?_ _ | refine blk_drew ?_ | refine blk_alloc ?_ _));apply put9_;(with_reducible repeat (first | refine blk_drewN ?_ _ | refine blk_drew ?_ | refine blk_alloc ?_ _));refine blk_far ?_ NB252_253.out _;(with_reducible repeat (first | refine blk_drewN ?_ _ | refine blk_drew ?_ | refine blk_alloc ?_ _));exact BK252.out) Tryd.underlying40 rfl (by kernel_rfl)) rfl ?_
 exact ⟨_,_,z6_,by (with_reducible repeat (first | apply Kd.R_alloc | apply Kd.R_drewN | apply Kd.R_drew));exact Kd.R_mono (rf9_ (Kd.R_far (p:=⟨gb253,8,none⟩) (Kd.R_types (Kd.R_types HO256.out BK253.out (by decide)) BK252.out (by decide)) (fun _ hk=>hk.1.2) (.slice Ao21 t259.length co21)) (fun _ hk=>hk.2)) (fun _ hk=>trivial),by (with_reducible repeat (first | apply Kd.R_alloc | apply Kd.R_drewN | apply Kd.R_drew));exact Kd.R_mono (rf9_ (Kd.R_far (p:=⟨gb253,8,none⟩) (Kd.R_types (Kd.R_types HO261.out BK253.out (by decide)) BK252.out (by decide)) (fun _ hk=>hk.1.2) (.slice Ao21 t259.length co21)) (fun _ hk=>hk.2)) (fun _ hk=>trivial),z11_ HB.out GE251.out GE252.out GE253.out⟩


/-! ### Y11: function 26 -/
section
open Go.Shelf Go.Sort
def lays173__ren:Go.Shelf.Ren:=⟨fun | 173=>45 | 246=>50 | 283=>55 | 284=>56 | 285=>57 | 286=>58 | 129=>66 | 317=>65 | 318=>67 | 319=>68 | 320=>69 | 337=>74 | 338=>75 | n=>n,fun | 2=>2 | 3=>3 | 9=>9 | 4=>4 | 171=>88 | 0=>0 | 53=>89 | 37=>51 | 5=>5 | 173=>92 | 212=>99 | 51=>100 | 20=>20 | 213=>101 | 46=>97 | 232=>110 | 233=>111 | n=>n,fun | 17=>1 | 18=>2 | 19=>3 | n=>n⟩
theorem lays173_:Go.Proofs.LaysM.n173 Tryd.prog lays173__ren:={
  mixed:=by kernel_rfl
  f129:=Tryd.func66.trans (congrArg some (by kernel_rfl))
  f173:=Tryd.func45.trans (congrArg some (by kernel_rfl))
  f246:=Tryd.func50.trans (congrArg some (by kernel_rfl))
  f283:=Tryd.func55.trans (congrArg some (by kernel_rfl))
  f284:=Tryd.func56.trans (congrArg some (by kernel_rfl))
  f285:=Tryd.func57.trans (congrArg some (by kernel_rfl))
  f286:=Tryd.func58.trans (congrArg some (by kernel_rfl))
  f317:=Tryd.func65.trans (congrArg some (by kernel_rfl))
  f318:=Tryd.func67.trans (congrArg some (by kernel_rfl))
  f319:=Tryd.func68.trans (congrArg some (by kernel_rfl))
  f320:=Tryd.func69.trans (congrArg some (by kernel_rfl))
  f337:=Tryd.func74.trans (congrArg some (by kernel_rfl))
  f338:=Tryd.func75.trans (congrArg some (by kernel_rfl))
  t0:=Tryd.underlying0
  a0:=Tryd.isAgg0
  z0:=Tryd.sizeOf0
  v0:=Tryd.zeroValue0
  t2:=Tryd.underlying2
  a2:=Tryd.isAgg2
  z2:=Tryd.sizeOf2
  v2:=Tryd.zeroValue2
  t3:=Tryd.underlying3
  a3:=Tryd.isAgg3
  z3:=Tryd.sizeOf3
  v3:=Tryd.zeroValue3
  t4:=Tryd.underlying4
  a4:=Tryd.isAgg4
  z4:=Tryd.sizeOf4
  v4:=Tryd.zeroValue4
  t5:=Tryd.underlying5
  a5:=Tryd.isAgg5
  z5:=Tryd.sizeOf5
  v5:=Tryd.zeroValue5
  t9:=Tryd.underlying9
  a9:=Tryd.isAgg9
  z9:=Tryd.sizeOf9
  v9:=Tryd.zeroValue9
  t20:=Tryd.underlying20
  a20:=Tryd.isAgg20
  z20:=Tryd.sizeOf20
  v20:=Tryd.zeroValue20
  t37:=Tryd.underlying51
  a37:=Tryd.isAgg51
  z37:=Tryd.sizeOf51
  v37:=Tryd.zeroValue51
  t46:=Tryd.underlying97
  a46:=Tryd.isAgg97
  z46:=Tryd.sizeOf97
  v46:=Tryd.zeroValue97
  t51:=Tryd.underlying100
  a51:=Tryd.isAgg100
  z51:=Tryd.sizeOf100
  v51:=Tryd.zeroValue100
  t53:=Tryd.underlying89
  a53:=Tryd.isAgg89
  z53:=Tryd.sizeOf89
  v53:=Tryd.zeroValue89
  t171:=Tryd.underlying88
  a171:=Tryd.isAgg88
  z171:=Tryd.sizeOf88
  v171:=Tryd.zeroValue88
  t173:=Tryd.underlying92
  a173:=Tryd.isAgg92
  z173:=Tryd.sizeOf92
  v173:=Tryd.zeroValue92
  t212:=Tryd.underlying99
  a212:=Tryd.isAgg99
  z212:=Tryd.sizeOf99
  v212:=Tryd.zeroValue99
  t213:=Tryd.underlying101
  a213:=Tryd.isAgg101
  z213:=Tryd.sizeOf101
  t232:=Tryd.underlying110
  a232:=Tryd.isAgg110
  z232:=Tryd.sizeOf110
  v232:=Tryd.zeroValue110
  t233:=Tryd.underlying111
  a233:=Tryd.isAgg111
  z233:=Tryd.sizeOf111
  v233:=Tryd.zeroValue111
  g17:=by kernel_rfl
  g18:=by kernel_rfl
  g19:=by kernel_rfl
  i0:=by kernel_rfl
  i2:=by kernel_rfl
  i3:=by kernel_rfl
  i4:=by kernel_rfl
  i5:=by kernel_rfl
  i9:=by kernel_rfl
  i20:=by kernel_rfl
  i37:=by kernel_rfl
  i46:=by kernel_rfl
  i51:=by kernel_rfl
  i53:=by kernel_rfl
  i171:=by kernel_rfl
  i173:=by kernel_rfl
  i212:=by kernel_rfl
  i232:=by kernel_rfl
  i233:=by kernel_rfl
  m17:=by kernel_rfl
  m18:=by kernel_rfl
  m19:=by kernel_rfl }
theorem below_grown_ (w:World) (q:Nat) (os:Array Obj):Below w.heap.size w (grow (w.drewN q) os) :=
 ⟨rfl,rfl,rfl,by first | (simp [grow];done) | (simp [grow];omega),fun i hi=>by
  show ((w.drewN q).heap ++ os)[i]? = _
  rw [Array.getElem?_append_left (by show i<w.heap.size;omega)]
  rfl⟩
abbrev Tab_ (w:World):Prop:=Lib.TabIs Tryd.prog w "internal/strconv.uint64pow10" .u64 Lib.pow10Tab
theorem tab_below {w w':World} (h:Tab_ w) (hb:Below w.heap.size w w'):Tab_ w':=Go.Proofs.TabIs_below (g:=1) (by kernel_rfl) h hb
def I64_ (n:Int):Prop := -9223372036854775808≤n∧n≤9223372036854775807
instance (n:Int):Decidable (I64_ n):=by unfold I64_;exact inferInstance
def Y11.f (a0:Int):Option ByteArray:=if I64_ a0 then some ⟨(Lib.itoa a0).toArray⟩ else none
set_option maxHeartbeats 1000000 in
theorem Y11.calls (a0:Int) (r:ByteArray) (w:World) (h:Y11.f a0=some r) (htab:Tab_ w) :
  Calls Tryd.prog 26 #[.int .i64 a0] w fun e w'=>e = .returned (.string r)∧Below w.heap.size w w':=by
 unfold Y11.f at h
 by_cases hn:I64_ a0
 case neg=>rw [if_neg hn] at h;cases h
 rw [if_pos hn] at h
 obtain rfl:=Option.some.inj h
 clear h
 go_enter Tryd.func26,Tryd.ntmps26
 go_wp2_with (first | ((with_reducible refine gc_ 45 ?_);refine goesL_ (some 4) rfl rfl Tryd.func45 (by kernel_rfl) rfl #[.int .i64 a0,.int .i64 10] rfl (by (try simp only [List.map_toArray,List.map_cons,List.map_nil]);first | done | rfl) ?_;refine (Go.Proofs.Any.strconv_FormatInt_10 lays173_ a0 hn.1 hn.2 _ htab).mono ?_;rintro e w' ⟨rfl,k,os,rfl⟩;refine ⟨_,rfl,?_⟩))
 go_ret
 exact ⟨rfl,below_grown_ _ _ _⟩

end


/-! ### Y15: function 27 -/
section
open Go.Shelf
def lays156_ren:Go.Shelf.Ren:=⟨fun | 156=>46 | 165=>51 | 166=>52 | 169=>53 | 240=>59 | 241=>60 | 276=>70 | 277=>71 | n=>n,fun | 31=>29 | 9=>9 | 3=>3 | 4=>4 | 0=>0 | 20=>20 | 72=>80 | 76=>84 | 70=>78 | 37=>51 | 75=>83 | 127=>94 | 164=>104 | 5=>5 | 80=>86 | n=>n,fun | n=>n⟩
theorem lays156:Go.Proofs.Lays.n156 Tryd.prog lays156_ren:={
  mixed:=by kernel_rfl
  f156:=Tryd.func46.trans (congrArg some (by kernel_rfl))
  f165:=Tryd.func51.trans (congrArg some (by kernel_rfl))
  f166:=Tryd.func52.trans (congrArg some (by kernel_rfl))
  f169:=Tryd.func53.trans (congrArg some (by kernel_rfl))
  f240:=Tryd.func59.trans (congrArg some (by kernel_rfl))
  f241:=Tryd.func60.trans (congrArg some (by kernel_rfl))
  f276:=Tryd.func70.trans (congrArg some (by kernel_rfl))
  f277:=Tryd.func71.trans (congrArg some (by kernel_rfl))
  t0:=Tryd.underlying0
  a0:=Tryd.isAgg0
  z0:=Tryd.sizeOf0
  v0:=Tryd.zeroValue0
  t3:=Tryd.underlying3
  a3:=Tryd.isAgg3
  z3:=Tryd.sizeOf3
  v3:=Tryd.zeroValue3
  t4:=Tryd.underlying4
  a4:=Tryd.isAgg4
  z4:=Tryd.sizeOf4
  v4:=Tryd.zeroValue4
  t9:=Tryd.underlying9
  a9:=Tryd.isAgg9
  z9:=Tryd.sizeOf9
  v9:=Tryd.zeroValue9
  t20:=Tryd.underlying20
  a20:=Tryd.isAgg20
  z20:=Tryd.sizeOf20
  v20:=Tryd.zeroValue20
  t31:=Tryd.underlying29
  a31:=Tryd.isAgg29
  z31:=Tryd.sizeOf29
  v31:=Tryd.zeroValue29
  t37:=Tryd.underlying51
  a37:=Tryd.isAgg51
  z37:=Tryd.sizeOf51
  v37:=Tryd.zeroValue51
  t70:=Tryd.underlying78
  a70:=Tryd.isAgg78
  z70:=Tryd.sizeOf78
  v70:=Tryd.zeroValue78
  t72:=Tryd.underlying80
  a72:=Tryd.isAgg80
  z72:=Tryd.sizeOf80
  v72:=Tryd.zeroValue80
  t75:=Tryd.underlying83
  a75:=Tryd.isAgg83
  z75:=Tryd.sizeOf83
  v75:=Tryd.zeroValue83
  t76:=Tryd.underlying84
  a76:=Tryd.isAgg84
  z76:=Tryd.sizeOf84
  v76:=Tryd.zeroValue84
  t127:=Tryd.underlying94
  a127:=Tryd.isAgg94
  z127:=Tryd.sizeOf94
  v127:=Tryd.zeroValue94
  t164:=Tryd.underlying104
  a164:=Tryd.isAgg104
  z164:=Tryd.sizeOf104
  v164:=Tryd.zeroValue104 }
theorem joinExtra_:Go.Proofs.Builder.Extra Tryd.prog lays156_ren:={
  sizeBuilder:=by kernel_rfl
  liesBuilder:=by kernel_rfl
  t5:=Tryd.underlying5
  a5:=Tryd.isAgg5
  z5:=Tryd.sizeOf5
  v5:=Tryd.zeroValue5
  infoByte:=by kernel_rfl
  cellsByte:=by kernel_rfl
  sizeByte:=by kernel_rfl
  neB5:=by decide }
def Y15.f (l0:List ByteArray):Option ByteArray:=if l0.length=0 then some ⟨#[45]⟩ else if l0.length≤140737488355328∧(Lib.join (l0.map (·.data.toList)) [44]).length≤140737488355328 then some ⟨(Lib.join (l0.map (·.data.toList)) [44]).toArray⟩ else none
set_option maxHeartbeats 1000000 in
theorem Y15.calls (A0:Option Addr) (c0:Nat) (l0:List ByteArray) (r:ByteArray) (w:World) (hr0:Kd.C Kd.string w A0 l0.length l0) (hc0:l0.length≤c0) (h:Y15.f l0=some r) :
  Calls Tryd.prog 27 #[.slice A0 l0.length c0] w fun e w'=>e = .returned (.string r)∧Below w.heap.size w w':=by
 unfold Y15.f at h
 by_cases h0:l0.length=0
 ·rw [if_pos h0] at h
  obtain rfl:=Option.some.inj h
  have hz:l0=[]:=List.length_eq_zero_iff.1 h0
  subst hz
  clear h h0
  go_enter Tryd.func27,Tryd.ntmps27
  go_wp2
  go_ret
  exact ⟨rfl,Below.refl _ _⟩
 ·rw [if_neg h0] at h
  by_cases h1:l0.length≤140737488355328∧(Lib.join (l0.map (·.data.toList)) [44]).length≤140737488355328
  case neg=>rw [if_neg h1] at h;cases h
  rw [if_pos h1] at h
  obtain rfl:=Option.some.inj h
  obtain ⟨ad,eA,hcells⟩:=hr0.2.2 (by omega)
  subst eA
  have hall:∀ (j:Nat) x,l0[j]? = some x→w.cell? (ad.add j)=some (.string x):=by
   intro j x hj
   obtain ⟨c,hc1,hc2,hc3⟩:=hcells j x hj
   have hc2':c=[.string x]:=hc2
   subst hc2'
   have h5:=hc3 0 (.string x) rfl
   have h6:Kd.string.sz=1:=rfl
   rw [h6,Nat.mul_one,Nat.add_zero] at h5
   exact h5
  obtain ⟨x0,hx0⟩:∃ x,l0[0]? = some x:=⟨l0[0]'(by omega),List.getElem?_eq_getElem (by omega)⟩
  have hz:=hall 0 x0 hx0
  obtain ⟨bk,o,sp⟩:=ad
  have hsp:sp=none:=by
   cases sp with
   | none=>rfl
   | some s=>simp [Addr.add,World.cell?] at hz;split at hz <;> simp at hz
  subst hsp
  have hbk:bk<w.heap.size:=World.block_lt_of_cell? _ _ hz
  have hcl:∀ (j:Nat) x,l0[j]? = some x→w.cell? ⟨bk,o+j,none⟩=some (.string x):=by
   intro j x hj
   have h5:=hall j x hj
   by_cases hj0:j=0
   ·subst hj0;exact h5
   ·simpa [Addr.add,hj0] using h5
  have HJ:=aM (Go.Proofs.Any.strings_Join lays156 joinExtra_ bk o c0 l0 ⟨#[44]⟩ w hcl hbk h1.1 hc0 h1.2)
  have hlen2:((l0.length:Int) == 0)=false:=beq_eq_false_iff_ne.mpr (by omega)
  clear h hr0 hcells hall hz hcl hx0
  go_enter Tryd.func27,Tryd.ntmps27
  go_wp2_with (first | ((with_reducible refine gc_ 46 ?_);refine goesL_ (some 7) rfl rfl Tryd.func46 (by kernel_rfl) rfl #[.slice (some ⟨bk,o,none⟩) l0.length c0,.string ⟨#[44]⟩] rfl (by (try simp only [List.map_toArray,List.map_cons,List.map_nil]);first | done | rfl) ?_;refine HJ.out.mono ?_;rintro e w' ⟨rfl,hb⟩;refine ⟨_,rfl,?_⟩))
  go_ret
  exact ⟨rfl,hb⟩

end


/-! ### Y1: function 12 -/
mutual
def Y1.j0:Nat→ByteArray→Int→ByteArray→Bool→Int→List ByteArray→ByteArray→Int→Int→List (S71)→Option (ByteArray)
 | 0,_,_,_,_,_,_,_,_,_,_=>none
 | k+1,x3,x263000,x263001,x263002,x263003,x263004,x263005,x263006,x263007,x263008=>if x263002=true then (Y1.j1 k x3 (x263003 == 0) x263000 x263001 x263002 x263003 x263004 x263005 x263006 x263007 x263008) else (Y1.j1 k x3 false x263000 x263001 x263002 x263003 x263004 x263005 x263006 x263007 x263008)
def Y1.j1:Nat→ByteArray→Bool→Int→ByteArray→Bool→Int→List ByteArray→ByteArray→Int→Int→List (S71)→Option (ByteArray)
 | 0,_,_,_,_,_,_,_,_,_,_,_=>none
 | k+1,x3,x36,x263000,x263001,x263002,x263003,x263004,x263005,x263006,x263007,x263008=>if x36=true then ((Y15.f x263004).bind fun t265=>(if 1+t265.size≤9223372036854775807 then (if x3.size+(1+t265.size)≤9223372036854775807 then (some (x3 ++ ((⟨#[58]⟩:ByteArray) ++ t265))) else (none)) else (none))) else (some x3)
end
def Y1.f (k:Nat) (a0_0:Int) (a0_1:ByteArray) (a0_2:Bool) (a0_3:Int) (l0_4:List ByteArray) (a0_5:ByteArray) (a0_6:Int) (a0_7:Int) (l0_8:List (S71)):Option (ByteArray):=(Y11.f (mx 0 a0_0)).bind fun t263=>(if t263.size+1≤9223372036854775807 then (if a0_3=0 then (if (t263.size+1)+2≤9223372036854775807 then (Y1.j0 k ((t263 ++ (⟨#[58]⟩:ByteArray)) ++ (⟨#[111,107]⟩:ByteArray)) a0_0 a0_1 a0_2 a0_3 l0_4 a0_5 a0_6 a0_7 l0_8) else (none)) else (if a0_3=12 then (if (t263.size+1)+3≤9223372036854775807 then (Y1.j0 k ((t263 ++ (⟨#[58]⟩:ByteArray)) ++ (⟨#[102,101,119]⟩:ByteArray)) a0_0 a0_1 a0_2 a0_3 l0_4 a0_5 a0_6 a0_7 l0_8) else (none)) else (if a0_3=11 then (if (t263.size+1)+4≤9223372036854775807 then (Y1.j0 k ((t263 ++ (⟨#[58]⟩:ByteArray)) ++ (⟨#[100,111,119,110]⟩:ByteArray)) a0_0 a0_1 a0_2 a0_3 l0_4 a0_5 a0_6 a0_7 l0_8) else (none)) else ((Y11.f (mx 0 a0_3)).bind fun t264=>(if 5+t264.size≤9223372036854775807 then (if (t263.size+1)+(5+t264.size)≤9223372036854775807 then (Y1.j0 k ((t263 ++ (⟨#[58]⟩:ByteArray)) ++ ((⟨#[101,114,114,111,114]⟩:ByteArray) ++ t264)) a0_0 a0_1 a0_2 a0_3 l0_4 a0_5 a0_6 a0_7 l0_8) else (none)) else (none)))))) else (none))
theorem Y1.mono_l:∀ k,(∀ y0 y1 y2 y3 y4 y5 y6 y7 y8 y9,LeO (Y1.j0 k y0 y1 y2 y3 y4 y5 y6 y7 y8 y9) (Y1.j0 (k+1) y0 y1 y2 y3 y4 y5 y6 y7 y8 y9))∧(∀ y0 y1 y2 y3 y4 y5 y6 y7 y8 y9 y10,LeO (Y1.j1 k y0 y1 y2 y3 y4 y5 y6 y7 y8 y9 y10) (Y1.j1 (k+1) y0 y1 y2 y3 y4 y5 y6 y7 y8 y9 y10))
 | 0=>by refine ⟨?_,?_⟩ <;> intros <;> exact LeO.none _
 | k+1=>by
  obtain ⟨ih0,ih1⟩:=Y1.mono_l k
  refine ⟨?_,?_⟩
  ·intros
   unfold Y1.j0
   exact mO
  ·intros
   unfold Y1.j1
   exact mO
theorem Y1.mono:∀ a0 a1 a2 a3 a4 a5 a6 a7 a8 k,LeO (Y1.f k a0 a1 a2 a3 a4 a5 a6 a7 a8) (Y1.f (k+1) a0 a1 a2 a3 a4 a5 a6 a7 a8):=by
 intro a0 a1 a2 a3 a4 a5 a6 a7 a8 k
 obtain ⟨ih0,ih1⟩:=Y1.mono_l k
 unfold Y1.f
 exact mO
theorem Y1.calls (k:Nat) (a0_0:Int) (a0_1:ByteArray) (a0_2:Bool) (a0_3:Int) (A0_4:Option Addr) (c0_4:Nat) (l0_4:List ByteArray) (a0_5:ByteArray) (a0_6:Int) (a0_7:Int) (A0_8:Option Addr) (c0_8:Nat) (l0_8:List (S71)) (r:ByteArray) (w:World) (hr0_4:Kd.C Kd.string w A0_4 l0_4.length l0_4) (hc0_4:l0_4.length≤c0_4) (hr0_8:Kd.C k71 w A0_8 l0_8.length l0_8) (hc0_8:l0_8.length≤c0_8) (h:Y1.f k a0_0 a0_1 a0_2 a0_3 l0_4 a0_5 a0_6 a0_7 l0_8=some r) (htab_:Tab_ w) :
  Calls Tryd.prog 12 #[.agg #[.int .i64 a0_0,.string a0_1,.bool a0_2,.int .i64 a0_3,.slice A0_4 l0_4.length c0_4,.string a0_5,.int .i64 a0_6,.int .i64 a0_7,.slice A0_8 l0_8.length c0_8]] w fun e w'=>e = .returned (.string r)∧Below w.heap.size w w':=by
 have hu40:=Tryd.underlying40
 have HR0_4:=aM hr0_4
 have HC0_4:=aM hc0_4
 clear hr0_4 hc0_4
 have HR0_8:=aM hr0_8
 have HC0_8:=aM hc0_8
 clear hr0_8 hc0_8
 have HB:=aM (Below.refl w.heap.size w)
 have H:((Y11.f (mx 0 a0_0)).bind fun t263=>(if t263.size+1≤9223372036854775807 then (if a0_3=0 then (if (t263.size+1)+2≤9223372036854775807 then (Y1.j0 k ((t263 ++ (⟨#[58]⟩:ByteArray)) ++ (⟨#[111,107]⟩:ByteArray)) a0_0 a0_1 a0_2 a0_3 l0_4 a0_5 a0_6 a0_7 l0_8) else (none)) else (if a0_3=12 then (if (t263.size+1)+3≤9223372036854775807 then (Y1.j0 k ((t263 ++ (⟨#[58]⟩:ByteArray)) ++ (⟨#[102,101,119]⟩:ByteArray)) a0_0 a0_1 a0_2 a0_3 l0_4 a0_5 a0_6 a0_7 l0_8) else (none)) else (if a0_3=11 then (if (t263.size+1)+4≤9223372036854775807 then (Y1.j0 k ((t263 ++ (⟨#[58]⟩:ByteArray)) ++ (⟨#[100,111,119,110]⟩:ByteArray)) a0_0 a0_1 a0_2 a0_3 l0_4 a0_5 a0_6 a0_7 l0_8) else (none)) else ((Y11.f (mx 0 a0_3)).bind fun t264=>(if 5+t264.size≤9223372036854775807 then (if (t263.size+1)+(5+t264.size)≤9223372036854775807 then (Y1.j0 k ((t263 ++ (⟨#[58]⟩:ByteArray)) ++ ((⟨#[101,114,114,111,114]⟩:ByteArray) ++ t264)) a0_0 a0_1 a0_2 a0_3 l0_4 a0_5 a0_6 a0_7 l0_8) else (none)) else (none)))))) else (none)))=some r:=h
 clear h
 obtain ⟨ji2,hji2⟩:∃ j_:Int,(mx 0 a0_0)=j_:=⟨_,rfl⟩
 replace H:((Y11.f (ji2)).bind fun t263=>(if t263.size+1≤9223372036854775807 then (if a0_3=0 then (if (t263.size+1)+2≤9223372036854775807 then (Y1.j0 k ((t263 ++ (⟨#[58]⟩:ByteArray)) ++ (⟨#[111,107]⟩:ByteArray)) a0_0 a0_1 a0_2 a0_3 l0_4 a0_5 a0_6 a0_7 l0_8) else (none)) else (if a0_3=12 then (if (t263.size+1)+3≤9223372036854775807 then (Y1.j0 k ((t263 ++ (⟨#[58]⟩:ByteArray)) ++ (⟨#[102,101,119]⟩:ByteArray)) a0_0 a0_1 a0_2 a0_3 l0_4 a0_5 a0_6 a0_7 l0_8) else (none)) else (if a0_3=11 then (if (t263.size+1)+4≤9223372036854775807 then (Y1.j0 k ((t263 ++ (⟨#[58]⟩:ByteArray)) ++ (⟨#[100,111,119,110]⟩:ByteArray)) a0_0 a0_1 a0_2 a0_3 l0_4 a0_5 a0_6 a0_7 l0_8) else (none)) else ((Y11.f (mx 0 a0_3)).bind fun t264=>(if 5+t264.size≤9223372036854775807 then (if (t263.size+1)+(5+t264.size)≤9223372036854775807 then (Y1.j0 k ((t263 ++ (⟨#[58]⟩:ByteArray)) ++ ((⟨#[101,114,114,111,114]⟩:ByteArray) ++ t264)) a0_0 a0_1 a0_2 a0_3 l0_4 a0_5 a0_6 a0_7 l0_8) else (none)) else (none)))))) else (none)))=some r:=by first | (rw [hji2] at H;exact H) | (simp only [hji2] at H ⊢;exact H)
 (try (have hji2l:0≤ji2:=by (rw [← hji2];unfold mx;(repeat' split) <;> omega)))
 (try (have hji2m:0≤ji2:=by omega))
 have hji2_:(if 0<a0_0 then a0_0 else 0)=ji2:=hji2
 replace H:=bS H
 obtain ⟨t263,A30,H⟩:=H
 replace H:(if t263.size+1≤9223372036854775807 then (if a0_3=0 then (if (t263.size+1)+2≤9223372036854775807 then (Y1.j0 k ((t263 ++ (⟨#[58]⟩:ByteArray)) ++ (⟨#[111,107]⟩:ByteArray)) a0_0 a0_1 a0_2 a0_3 l0_4 a0_5 a0_6 a0_7 l0_8) else (none)) else (if a0_3=12 then (if (t263.size+1)+3≤9223372036854775807 then (Y1.j0 k ((t263 ++ (⟨#[58]⟩:ByteArray)) ++ (⟨#[102,101,119]⟩:ByteArray)) a0_0 a0_1 a0_2 a0_3 l0_4 a0_5 a0_6 a0_7 l0_8) else (none)) else (if a0_3=11 then (if (t263.size+1)+4≤9223372036854775807 then (Y1.j0 k ((t263 ++ (⟨#[58]⟩:ByteArray)) ++ (⟨#[100,111,119,110]⟩:ByteArray)) a0_0 a0_1 a0_2 a0_3 l0_4 a0_5 a0_6 a0_7 l0_8) else (none)) else ((Y11.f (mx 0 a0_3)).bind fun t264=>(if 5+t264.size≤9223372036854775807 then (if (t263.size+1)+(5+t264.size)≤9223372036854775807 then (Y1.j0 k ((t263 ++ (⟨#[58]⟩:ByteArray)) ++ ((⟨#[101,114,114,111,114]⟩:ByteArray) ++ t264)) a0_0 a0_1 a0_2 a0_3 l0_4 a0_5 a0_6 a0_7 l0_8) else (none)) else (none)))))) else (none))=some r:=H
 have A3:=aM A30
 clear A30
 by_cases c4:t263.size+1≤9223372036854775807
 ·rw [if_pos c4] at H
  have c4b0:=eq_true c4
  have c4b1:decide (t263.size+1≤9223372036854775807)=true:=dE c4
  try have c4b2:(9223372036854775807<t263.size+1)=False:=eq_false (Nat.not_lt.2 c4)
  have HC5:=aM H
  clear H
  go_enter Tryd.func12,Tryd.ntmps12
  go_upto_block 0 with (first | ((with_reducible refine gd_ 1 ?_);refine be_ 1 #[.int .i64 a0_0,.string a0_1,.bool a0_2,.int .i64 a0_3,.slice A0_4 l0_4.length c0_4,.string a0_5,.int .i64 a0_6,.int .i64 a0_7,.slice A0_8 l0_8.length c0_8] 40 ?_;intro gb262 hg w6 hbox hb;have n0_:=aM (below_step (z1_ HB.out) hb);have n1_:=aM (hbox);have n2_:=aM ((z5_ HB.out:w.heap.size≤gb262));have n3_:=aM ((z5_ HB.out:w.heap.size≤gb262));clear HB;have HB:=n0_;have BK262:=n1_;have GW262:=n2_;have GE262:=n3_;clear n0_ n1_ n2_ n3_;clear hb hbox hg;have ⟨hcz7_0,hcz7_1,hcz7_2,hcz7_3,hcz7_4,hcz7_5,hcz7_6,hcz7_7,hcz7_8,hfz7_0,hfz7_1,hfz7_2,hfz7_3,hfz7_4,hfz7_5,hfz7_6,hfz7_7,hfz7_8⟩:=cz9_ BK262.out) | ((with_reducible refine gc_ 26 ?_);refine goesL_ (some 7) rfl rfl Tryd.func26 (by kernel_rfl) rfl #[.int .i64 ji2] rfl (by (try simp only [List.map_toArray,List.map_cons,List.map_nil]);first | done | (simp only [hji2];rfl) | rfl | (simp only [List.length_drop,List.length_take];rfl)) ?_;(with_reducible refine (Y11.calls ji2 t263 _ A3.out (tab_below htab_ (z0_ HB.out GE262.out))).mono ?_);rintro e w8 ⟨rfl,hb⟩;refine ⟨_,rfl,?_⟩;have n0_:=aM (blkB_ BK262.out hb);have n1_:=aM (below_step (z0_ HB.out GE262.out) hb);clear BK262;clear HB;have BK262:=n0_;have HB:=n1_;clear n0_ n1_;(try clear hb);have ⟨hcz9_0,hcz9_1,hcz9_2,hcz9_3,hcz9_4,hcz9_5,hcz9_6,hcz9_7,hcz9_8,hfz9_0,hfz9_1,hfz9_2,hfz9_3,hfz9_4,hfz9_5,hfz9_6,hfz9_7,hfz9_8⟩:=cz9_ BK262.out))
  (try simp only [Act.put,sa_,s0_,ss_])
  go_cut [3] (fun v3 wc=>∃ (kq:Nat) (x3_4:ByteArray),v3 = .string x3_4∧Aside0 (Y1.j0 kq x3_4 a0_0 a0_1 a0_2 a0_3 l0_4 a0_5 a0_6 a0_7 l0_8=some r)∧Aside0 (kq≤k)∧Aside0 (wc.heap[gb262]? = some (.cells #[.int .i64 a0_0,.string a0_1,.bool a0_2,.int .i64 a0_3,(.slice A0_4 l0_4.length c0_4),.string a0_5,.int .i64 a0_6,.int .i64 a0_7,(.slice A0_8 l0_8.length c0_8)] 40 (0,0)))∧Aside0 (Below w.heap.size w wc))
  case first =>
   have H:=HC5.out
   clear HC5
   by_cases c10:a0_3=0
   ·rw [if_pos c10] at H
    have c10b0:(a0_3 == 0)=true:=beq_iff_eq.mpr c10
    have c10b1:(a0_3 != 0)=false:=bne_eq_false_iff_eq.mpr c10
    clear c10
    (first | rw [c10b0] | (simp only [i64_w,i32_w];rw [c10b0]) | skip)
    by_cases c11:(t263.size+1)+2≤9223372036854775807
    ·rw [if_pos c11] at H
     have c11b0:=eq_true c11
     have c11b1:decide ((t263.size+1)+2≤9223372036854775807)=true:=dE c11
     try have c11b2:(9223372036854775807<(t263.size+1)+2)=False:=eq_false (Nat.not_lt.2 c11)
     have H':=aM H
     clear H
     go_wp2
     go_meet
     case rel=>exact ⟨_,((t263 ++ (⟨#[58]⟩:ByteArray)) ++ (⟨#[111,107]⟩:ByteArray)),(z2_),H',⟨by first | omega | exact Nat.le_refl _⟩,⟨z7_ BK262.out⟩,⟨z0_ HB.out GE262.out⟩⟩
    ·rw [if_neg c11] at H
     exact nO H
   ·rw [if_neg c10] at H
    have c10b0:(a0_3 == 0)=false:=beq_eq_false_iff_ne.mpr c10
    have c10b1:(a0_3 != 0)=true:=bne_iff_ne.mpr c10
    (first | rw [c10b0] | (simp only [i64_w,i32_w];rw [c10b0]) | skip)
    by_cases c12:a0_3=12
    ·rw [if_pos c12] at H
     have c12b0:(a0_3 == 12)=true:=beq_iff_eq.mpr c12
     have c12b1:(a0_3 != 12)=false:=bne_eq_false_iff_eq.mpr c12
     clear c12
     by_cases c13:(t263.size+1)+3≤9223372036854775807
     ·rw [if_pos c13] at H
      have c13b0:=eq_true c13
      have c13b1:decide ((t263.size+1)+3≤9223372036854775807)=true:=dE c13
      try have c13b2:(9223372036854775807<(t263.size+1)+3)=False:=eq_false (Nat.not_lt.2 c13)
      have H':=aM H
      clear H
      go_wp2
      go_meet
      case rel=>exact ⟨_,((t263 ++ (⟨#[58]⟩:ByteArray)) ++ (⟨#[102,101,119]⟩:ByteArray)),(z2_),H',⟨by first | omega | exact Nat.le_refl _⟩,⟨z7_ BK262.out⟩,⟨z0_ HB.out GE262.out⟩⟩
     ·rw [if_neg c13] at H
      exact nO H
    ·rw [if_neg c12] at H
     have c12b0:(a0_3 == 12)=false:=beq_eq_false_iff_ne.mpr c12
     have c12b1:(a0_3 != 12)=true:=bne_iff_ne.mpr c12
     by_cases c14:a0_3=11
     ·rw [if_pos c14] at H
      have c14b0:(a0_3 == 11)=true:=beq_iff_eq.mpr c14
      have c14b1:(a0_3 != 11)=false:=bne_eq_false_iff_eq.mpr c14
      clear c14
      by_cases c15:(t263.size+1)+4≤9223372036854775807
      ·rw [if_pos c15] at H
       have c15b0:=eq_true c15
       have c15b1:decide ((t263.size+1)+4≤9223372036854775807)=true:=dE c15
       try have c15b2:(9223372036854775807<(t263.size+1)+4)=False:=eq_false (Nat.not_lt.2 c15)
       have H':=aM H
       clear H
       go_wp2
       go_meet
       case rel=>exact ⟨_,((t263 ++ (⟨#[58]⟩:ByteArray)) ++ (⟨#[100,111,119,110]⟩:ByteArray)),(z2_),H',⟨by first | omega | exact Nat.le_refl _⟩,⟨z7_ BK262.out⟩,⟨z0_ HB.out GE262.out⟩⟩
      ·rw [if_neg c15] at H
       exact nO H
     ·rw [if_neg c14] at H
      have c14b0:(a0_3 == 11)=false:=beq_eq_false_iff_ne.mpr c14
      have c14b1:(a0_3 != 11)=true:=bne_iff_ne.mpr c14
      obtain ⟨ji16,hji16⟩:∃ j_:Int,(mx 0 a0_3)=j_:=⟨_,rfl⟩
      replace H:((Y11.f (ji16)).bind fun t264=>(if 5+t264.size≤9223372036854775807 then (if (t263.size+1)+(5+t264.size)≤9223372036854775807 then (Y1.j0 k ((t263 ++ (⟨#[58]⟩:ByteArray)) ++ ((⟨#[101,114,114,111,114]⟩:ByteArray) ++ t264)) a0_0 a0_1 a0_2 a0_3 l0_4 a0_5 a0_6 a0_7 l0_8) else (none)) else (none)))=some r:=by first | (rw [hji16] at H;exact H) | (simp only [hji16] at H ⊢;exact H)
      (try (have hji16l:0≤ji16:=by (rw [← hji16];unfold mx;(repeat' split) <;> omega)))
      (try (have hji16m:0≤ji16:=by omega))
      have hji16_:(if 0<a0_3 then a0_3 else 0)=ji16:=hji16
      replace H:=bS H
      obtain ⟨t264,A170,H⟩:=H
      replace H:(if 5+t264.size≤9223372036854775807 then (if (t263.size+1)+(5+t264.size)≤9223372036854775807 then (Y1.j0 k ((t263 ++ (⟨#[58]⟩:ByteArray)) ++ ((⟨#[101,114,114,111,114]⟩:ByteArray) ++ t264)) a0_0 a0_1 a0_2 a0_3 l0_4 a0_5 a0_6 a0_7 l0_8) else (none)) else (none))=some r:=H
      have A17:=aM A170
      clear A170
      by_cases c18:5+t264.size≤9223372036854775807
      ·rw [if_pos c18] at H
       have c18b0:=eq_true c18
       have c18b1:decide (5+t264.size≤9223372036854775807)=true:=dE c18
       try have c18b2:(9223372036854775807<5+t264.size)=False:=eq_false (Nat.not_lt.2 c18)
       by_cases c19:(t263.size+1)+(5+t264.size)≤9223372036854775807
       ·rw [if_pos c19] at H
        have c19b0:=eq_true c19
        have c19b1:decide ((t263.size+1)+(5+t264.size)≤9223372036854775807)=true:=dE c19
        try have c19b2:(9223372036854775807<(t263.size+1)+(5+t264.size))=False:=eq_false (Nat.not_lt.2 c19)
        have H':=aM H
        clear H
        have ⟨hcz20_0,hcz20_1,hcz20_2,hcz20_3,hcz20_4,hcz20_5,hcz20_6,hcz20_7,hcz20_8,hfz20_0,hfz20_1,hfz20_2,hfz20_3,hfz20_4,hfz20_5,hfz20_6,hfz20_7,hfz20_8⟩:=cz9_ BK262.out
        go_wp2_with (first | ((with_reducible refine gc_ 26 ?_);refine goesL_ (some 15) rfl rfl Tryd.func26 (by kernel_rfl) rfl #[.int .i64 ji16] rfl (by (try simp only [List.map_toArray,List.map_cons,List.map_nil]);first | done | (simp only [hji16];rfl) | rfl | (simp only [List.length_drop,List.length_take];rfl)) ?_;(with_reducible refine (Y11.calls ji16 t264 _ A17.out (tab_below htab_ (z0_ HB.out GE262.out))).mono ?_);rintro e w21 ⟨rfl,hb⟩;refine ⟨_,rfl,?_⟩;have n0_:=aM (blkB_ BK262.out hb);have n1_:=aM (below_step (z0_ HB.out GE262.out) hb);clear BK262;clear HB;have BK262:=n0_;have HB:=n1_;clear n0_ n1_;(try clear hb)))
        go_meet
        case rel=>exact ⟨_,((t263 ++ (⟨#[58]⟩:ByteArray)) ++ ((⟨#[101,114,114,111,114]⟩:ByteArray) ++ t264)),(z2_),H',⟨by first | omega | exact Nat.le_refl _⟩,⟨z7_ BK262.out⟩,⟨z0_ HB.out GE262.out⟩⟩
       ·rw [if_neg c19] at H
        exact nO H
      ·rw [if_neg c18] at H
       exact nO H
  case rest =>
   clear HC5
   try clear c1
   try clear c2
   try clear p2
   try clear c4
   try clear c4b0
   try clear c4b1
   try clear c4b2
   try clear c10
   try clear c10b0
   try clear c10b1
   try clear c11
   try clear c11b0
   try clear c11b1
   try clear c11b2
   try clear c12
   try clear c12b0
   try clear c12b1
   try clear c13
   try clear c13b0
   try clear c13b1
   try clear c13b2
   try clear c14
   try clear c14b0
   try clear c14b1
   try clear c15
   try clear c15b0
   try clear c15b1
   try clear c15b2
   try clear c18
   try clear c18b0
   try clear c18b1
   try clear c18b2
   try clear c19
   try clear c19b0
   try clear c19b1
   try clear c19b2
   try clear hcz20_0
   try clear hcz20_1
   try clear hcz20_2
   try clear hcz20_3
   try clear hcz20_4
   try clear hcz20_5
   try clear hcz20_6
   try clear hcz20_7
   try clear hcz20_8
   try clear hcz7_0
   try clear hcz7_1
   try clear hcz7_2
   try clear hcz7_3
   try clear hcz7_4
   try clear hcz7_5
   try clear hcz7_6
   try clear hcz7_7
   try clear hcz7_8
   try clear hcz9_0
   try clear hcz9_1
   try clear hcz9_2
   try clear hcz9_3
   try clear hcz9_4
   try clear hcz9_5
   try clear hcz9_6
   try clear hcz9_7
   try clear hcz9_8
   try clear hfz20_0
   try clear hfz20_1
   try clear hfz20_2
   try clear hfz20_3
   try clear hfz20_4
   try clear hfz20_5
   try clear hfz20_6
   try clear hfz20_7
   try clear hfz20_8
   try clear hfz7_0
   try clear hfz7_1
   try clear hfz7_2
   try clear hfz7_3
   try clear hfz7_4
   try clear hfz7_5
   try clear hfz7_6
   try clear hfz7_7
   try clear hfz7_8
   try clear hfz9_0
   try clear hfz9_1
   try clear hfz9_2
   try clear hfz9_3
   try clear hfz9_4
   try clear hfz9_5
   try clear hfz9_6
   try clear hfz9_7
   try clear hfz9_8
   obtain ⟨kq,x3_4,rfl,HA,HJ4,BK262,HB⟩:=hcut
   cases kq with
   | zero=>exact absurd HA.out (by simp [Y1.j0])
   | succ kj4 =>
    have H:=HA.out
    clear HA
    simp only [Y1.j0] at H
    have HC22:=aM H
    clear H
    go_upto_region 10 with (fail)
    go_cut [36] (fun v36 wc=>∃ (kq:Nat) (x36_21:Bool),v36 = .bool x36_21∧Aside0 (Y1.j1 kq x3_4 x36_21 a0_0 a0_1 a0_2 a0_3 l0_4 a0_5 a0_6 a0_7 l0_8=some r)∧Aside0 (kq≤kj4)∧Aside0 (wc.heap[gb262]? = some (.cells #[.int .i64 a0_0,.string a0_1,.bool a0_2,.int .i64 a0_3,(.slice A0_4 l0_4.length c0_4),.string a0_5,.int .i64 a0_6,.int .i64 a0_7,(.slice A0_8 l0_8.length c0_8)] 40 (0,0)))∧Aside0 (Below w.heap.size w wc))
    case first =>
     have H:=HC22.out
     clear HC22
     by_cases c23:a0_2=true
     ·subst c23
      have H1:(Y1.j1 kj4 x3_4 (a0_3 == 0) a0_0 a0_1 true a0_3 l0_4 a0_5 a0_6 a0_7 l0_8)=some r:=by rw [if_pos rfl] at H;exact H
      clear H
      have H:=H1
      clear H1
      have H':=aM H
      clear H
      have ⟨hcz24_0,hcz24_1,hcz24_2,hcz24_3,hcz24_4,hcz24_5,hcz24_6,hcz24_7,hcz24_8,hfz24_0,hfz24_1,hfz24_2,hfz24_3,hfz24_4,hfz24_5,hfz24_6,hfz24_7,hfz24_8⟩:=cz9_ BK262.out
      go_wp2
      go_meet
      case rel=>exact ⟨_,((a0_3 == 0)),(z2_),H',⟨by have:=HJ4.out;first | omega | exact Nat.le_refl _⟩,⟨z7_ BK262.out⟩,⟨z0_ HB.out GE262.out⟩⟩
     ·replace c23:=Bool.eq_false_iff.mpr c23
      subst c23
      have H1:(Y1.j1 kj4 x3_4 false a0_0 a0_1 false a0_3 l0_4 a0_5 a0_6 a0_7 l0_8)=some r:=by rw [if_neg (show ¬ (false=true) by decide)] at H;exact H
      clear H
      have H:=H1
      clear H1
      have H':=aM H
      clear H
      have ⟨hcz25_0,hcz25_1,hcz25_2,hcz25_3,hcz25_4,hcz25_5,hcz25_6,hcz25_7,hcz25_8,hfz25_0,hfz25_1,hfz25_2,hfz25_3,hfz25_4,hfz25_5,hfz25_6,hfz25_7,hfz25_8⟩:=cz9_ BK262.out
      go_wp2
      go_meet
      case rel=>exact ⟨_,(false),(z2_),H',⟨by have:=HJ4.out;first | omega | exact Nat.le_refl _⟩,⟨z7_ BK262.out⟩,⟨z0_ HB.out GE262.out⟩⟩
    case rest =>
     clear HC22
     try clear c1
     try clear c2
     try clear p2
     try clear c4
     try clear c4b0
     try clear c4b1
     try clear c4b2
     try clear c10
     try clear c10b0
     try clear c10b1
     try clear c11
     try clear c11b0
     try clear c11b1
     try clear c11b2
     try clear c12
     try clear c12b0
     try clear c12b1
     try clear c13
     try clear c13b0
     try clear c13b1
     try clear c13b2
     try clear c14
     try clear c14b0
     try clear c14b1
     try clear c15
     try clear c15b0
     try clear c15b1
     try clear c15b2
     try clear c18
     try clear c18b0
     try clear c18b1
     try clear c18b2
     try clear c19
     try clear c19b0
     try clear c19b1
     try clear c19b2
     try clear c23
     try clear hcz20_0
     try clear hcz20_1
     try clear hcz20_2
     try clear hcz20_3
     try clear hcz20_4
     try clear hcz20_5
     try clear hcz20_6
     try clear hcz20_7
     try clear hcz20_8
     try clear hcz24_0
     try clear hcz24_1
     try clear hcz24_2
     try clear hcz24_3
     try clear hcz24_4
     try clear hcz24_5
     try clear hcz24_6
     try clear hcz24_7
     try clear hcz24_8
     try clear hcz25_0
     try clear hcz25_1
     try clear hcz25_2
     try clear hcz25_3
     try clear hcz25_4
     try clear hcz25_5
     try clear hcz25_6
     try clear hcz25_7
     try clear hcz25_8
     try clear hcz7_0
     try clear hcz7_1
     try clear hcz7_2
     try clear hcz7_3
     try clear hcz7_4
     try clear hcz7_5
     try clear hcz7_6
     try clear hcz7_7
     try clear hcz7_8
     try clear hcz9_0
     try clear hcz9_1
     try clear hcz9_2
     try clear hcz9_3
     try clear hcz9_4
     try clear hcz9_5
     try clear hcz9_6
     try clear hcz9_7
     try clear hcz9_8
     try clear hfz20_0
     try clear hfz20_1
     try clear hfz20_2
     try clear hfz20_3
     try clear hfz20_4
     try clear hfz20_5
     try clear hfz20_6
     try clear hfz20_7
     try clear hfz20_8
     try clear hfz24_0
     try clear hfz24_1
     try clear hfz24_2
     try clear hfz24_3
     try clear hfz24_4
     try clear hfz24_5
     try clear hfz24_6
     try clear hfz24_7
     try clear hfz24_8
     try clear hfz25_0
     try clear hfz25_1
     try clear hfz25_2
     try clear hfz25_3
     try clear hfz25_4
     try clear hfz25_5
     try clear hfz25_6
     try clear hfz25_7
     try clear hfz25_8
     try clear hfz7_0
     try clear hfz7_1
     try clear hfz7_2
     try clear hfz7_3
     try clear hfz7_4
     try clear hfz7_5
     try clear hfz7_6
     try clear hfz7_7
     try clear hfz7_8
     try clear hfz9_0
     try clear hfz9_1
     try clear hfz9_2
     try clear hfz9_3
     try clear hfz9_4
     try clear hfz9_5
     try clear hfz9_6
     try clear hfz9_7
     try clear hfz9_8
     try clear p2
     obtain ⟨kq,x36_21,rfl,HA,HJ21,BK262,HB⟩:=hcut
     cases kq with
     | zero=>exact absurd HA.out (by simp [Y1.j1])
     | succ kj21 =>
      have H:=HA.out
      clear HA
      simp only [Y1.j1] at H
      by_cases c26:x36_21=true
      ·subst c26
       have H1:((Y15.f l0_4).bind fun t265=>(if 1+t265.size≤9223372036854775807 then (if x3_4.size+(1+t265.size)≤9223372036854775807 then (some (x3_4 ++ ((⟨#[58]⟩:ByteArray) ++ t265))) else (none)) else (none)))=some r:=by rw [if_pos rfl] at H;exact H
       clear H
       have H:=H1
       clear H1
       replace H:=bS H
       obtain ⟨t265,A270,H⟩:=H
       replace H:(if 1+t265.size≤9223372036854775807 then (if x3_4.size+(1+t265.size)≤9223372036854775807 then (some (x3_4 ++ ((⟨#[58]⟩:ByteArray) ++ t265))) else (none)) else (none))=some r:=H
       have A27:=aM A270
       clear A270
       by_cases c28:1+t265.size≤9223372036854775807
       ·rw [if_pos c28] at H
        have c28b0:=eq_true c28
        have c28b1:decide (1+t265.size≤9223372036854775807)=true:=dE c28
        try have c28b2:(9223372036854775807<1+t265.size)=False:=eq_false (Nat.not_lt.2 c28)
        by_cases c29:x3_4.size+(1+t265.size)≤9223372036854775807
        ·rw [if_pos c29] at H
         have c29b0:=eq_true c29
         have c29b1:decide (x3_4.size+(1+t265.size)≤9223372036854775807)=true:=dE c29
         try have c29b2:(9223372036854775807<x3_4.size+(1+t265.size))=False:=eq_false (Nat.not_lt.2 c29)
         obtain rfl:=sI H
         have ⟨hcz30_0,hcz30_1,hcz30_2,hcz30_3,hcz30_4,hcz30_5,hcz30_6,hcz30_7,hcz30_8,hfz30_0,hfz30_1,hfz30_2,hfz30_3,hfz30_4,hfz30_5,hfz30_6,hfz30_7,hfz30_8⟩:=cz9_ BK262.out
         go_wp2_with (first | ((with_reducible refine gc_ 27 ?_);refine gl_ (some 40) Tryd.func27 #[.slice A0_4 l0_4.length c0_4] ?_;(with_reducible refine (Y15.calls _ _ l0_4 t265 _ ?s1 ?s2 A27.out).mono ?_);(case s1=>repeat (first | exact (Kd.C_below HR0_4.out HB.out) | (with_reducible refine Kd.C_alloc ?_ _) | (with_reducible refine Kd.C_drewN ?_ _) | (with_reducible refine Kd.C_drew ?_)));(case s2=>exact HC0_4.out);rintro e w31 ⟨rfl,hb⟩;refine ⟨_,rfl,?_⟩;have n0_:=aM (blkB_ BK262.out hb);have n1_:=aM (below_step (z0_ HB.out GE262.out) hb);clear BK262;clear HB;have BK262:=n0_;have HB:=n1_;clear n0_ n1_;(try clear hb)))
         go_ret
         exact ⟨by first | rfl | (simp [errW_none,errW_some] <;> rfl) | (simp only [← hji2];first | rfl | (simp [errW_none,errW_some] <;> rfl)) | (simp [*,errW_none,errW_some] <;> rfl),z0_ HB.out GE262.out⟩
        ·rw [if_neg c29] at H
         exact nO H
       ·rw [if_neg c28] at H
        exact nO H
      ·replace c26:=Bool.eq_false_iff.mpr c26
       subst c26
       have H1:(some x3_4)=some r:=by rw [if_neg (show ¬ (false=true) by decide)] at H;exact H
       clear H
       have H:=H1
       clear H1
       obtain rfl:=sI H
       go_wp2
       go_ret
       exact ⟨by first | rfl | (simp [errW_none,errW_some] <;> rfl) | (simp only [← hji2];first | rfl | (simp [errW_none,errW_some] <;> rfl)) | (simp [*,errW_none,errW_some] <;> rfl),z0_ HB.out GE262.out⟩
 ·rw [if_neg c4] at H
  exact nO H


/-! ### Y6: function 28 -/
def Y6.l0:Nat→List ByteArray→List ByteArray→Int→Option (Bool)
 | 0,_,_,_=>none
 | k+1,x0,x1,x5=>if x5<(x0.length:Int) then (if 0≤x5 then (if x5<(x1.length:Int) then (if (rdOf ByteArray.empty x0 x5).toList=(rdOf ByteArray.empty x1 x5).toList then (Y6.l0 k x0 x1 (wrap64 (x5+1))) else (none)) else (none)) else (none)) else (some true)
def Y6.f (k:Nat) (l0:List ByteArray) (l1:List ByteArray):Option (Bool):=if (l0.length:Int)=(l1.length:Int) then (Y6.l0 k l0 l1 0) else (none)
theorem Y6.mono_l:∀ k,(∀ y0 y1 y2,LeO (Y6.l0 k y0 y1 y2) (Y6.l0 (k+1) y0 y1 y2))
 | 0=>by intros <;> exact LeO.none _
 | k+1=>by
  have ih0:=Y6.mono_l k
  ·intros
   unfold Y6.l0
   exact mO
theorem Y6.mono:∀ a0 a1 k,LeO (Y6.f k a0 a1) (Y6.f (k+1) a0 a1):=by
 intro a0 a1 k
 have ih0:=Y6.mono_l k
 unfold Y6.f
 exact mO
theorem Y6.calls (k:Nat) (A0:Option Addr) (c0:Nat) (l0:List ByteArray) (A1:Option Addr) (c1:Nat) (l1:List ByteArray) (r:Bool) (w:World) (hr0:Kd.C Kd.string w A0 l0.length l0) (hc0:l0.length≤c0) (hr1:Kd.C Kd.string w A1 l1.length l1) (hc1:l1.length≤c1) (h:Y6.f k l0 l1=some r) :
  Calls Tryd.prog 28 #[.slice A0 l0.length c0,.slice A1 l1.length c1] w fun e w'=>e = .returned (.bool r)∧Drawn0 w w':=by
 have HR0:=aM hr0
 have HC0:=aM hc0
 clear hr0 hc0
 have HR1:=aM hr1
 have HC1:=aM hc1
 clear hr1 hc1
 have H:(if (l0.length:Int)=(l1.length:Int) then (Y6.l0 k l0 l1 0) else (none))=some r:=h
 clear h
 by_cases c3:(l0.length:Int)=(l1.length:Int)
 ·rw [if_pos c3] at H
  have c3b0:((l0.length:Int) == (l1.length:Int))=true:=beq_iff_eq.mpr c3
  have c3b1:((l0.length:Int) != (l1.length:Int))=false:=bne_eq_false_iff_eq.mpr c3
  have c3b2:(l0.length == l1.length)=true:=by first | simpa using c3 | (simp at c3 ⊢;omega)
  clear c3
  have H':=aM H
  clear H
  go_enter Tryd.func28,Tryd.ntmps28
  go_wp2
  repeat (go_quiet (fail);try go_wp2)
  go_loopg [5] k (fun kq v5 w'=>∃ (x5_1:Int),v5 = .int .i64 x5_1∧Aside0 (Y6.l0 kq l0 l1 x5_1=some r)∧Aside0 (kq≤k)∧Drawn0 w w')
  case atStart=>exact ⟨(0),(z2_),H',⟨Nat.le_refl _⟩,z10_⟩
  case round =>
   clear H'
   try clear c1
   try clear c2
   try clear p2
   try clear c3
   try clear c3b0
   try clear c3b1
   try clear c3b2
   obtain ⟨x5_1,rfl,HA,HK1,⟨m1,rfl⟩⟩:=hrel
   cases gk with
   | zero=>exact absurd HA.out (by simp [Y6.l0])
   | succ k1 =>
    have H:=HA.out
    clear HA
    simp only [Y6.l0] at H
    by_cases c4:x5_1<(l0.length:Int)
    ·rw [if_pos c4] at H
     have c4b0:decide (x5_1<(l0.length:Int))=true:=dE c4
     clear c4
     by_cases c5:0≤x5_1
     ·rw [if_pos c5] at H
      have c5b0:decide (0≤x5_1)=true:=dE c5
      clear c5
      by_cases c6:x5_1<(l1.length:Int)
      ·rw [if_pos c6] at H
       have c6b0:decide (x5_1<(l1.length:Int))=true:=dE c6
       clear c6
       by_cases c7:(rdOf ByteArray.empty l0 x5_1).toList=(rdOf ByteArray.empty l1 x5_1).toList
       ·rw [if_pos c7] at H
        have c7b0:((rdOf ByteArray.empty l0 x5_1).toList == (rdOf ByteArray.empty l1 x5_1).toList)=true:=beq_iff_eq.mpr c7
        have c7b1:((rdOf ByteArray.empty l0 x5_1).toList != (rdOf ByteArray.empty l1 x5_1).toList)=false:=bne_eq_false_iff_eq.mpr c7
        clear c7
        have H':=aM H
        clear H
        have p266:0≤(x5_1:Int):=dT (z4_)
        have q266:x5_1<(l0.length:Int):=dT (z4_)
        obtain ⟨ad266,e266,hx266_0⟩:=Kd.at_string HR0.out x5_1 p266 q266
        cases e266
        replace p266:=eq_true p266
        replace q266:=eq_true q266
        have p267:0≤(x5_1:Int):=dT (z4_)
        have q267:x5_1<(l1.length:Int):=dT (z4_)
        obtain ⟨ad267,e267,hx267_0⟩:=Kd.at_string HR1.out x5_1 p267 q267
        cases e267
        replace p267:=eq_true p267
        replace q267:=eq_true q267
        go_wp2
        repeat (go_quiet (fail);try go_wp2)
        go_roundg k1
        case measure=>have:=HK1.out;omega
        case rel=>exact ⟨(wrap64 (x5_1+1)),(z2_),H',⟨by have:=HK1.out;omega⟩,z10_⟩
       ·rw [if_neg c7] at H
        exact nO H
      ·rw [if_neg c6] at H
       exact nO H
     ·rw [if_neg c5] at H
      exact nO H
    ·rw [if_neg c4] at H
     have c4b0:decide (x5_1<(l0.length:Int))=false:=dF c4
     clear c4
     obtain rfl:=sI H
     go_wp2
     repeat (go_quiet (fail);try go_wp2)
     go_ret
     exact ⟨z2_,z10_⟩
 ·rw [if_neg c3] at H
  exact nO H


/-! ### Y16: function 29 -/
def Y16.f (a0_0:Int) (a0_1:Int) (a1_0:Int) (a1_1:Int):Option (Bool):=if a0_0=a1_0 then (if a0_1=a1_1 then (some true) else (none)) else (none)
theorem Y16.calls (a0_0:Int) (a0_1:Int) (a1_0:Int) (a1_1:Int) (r:Bool) (w:World) (h:Y16.f a0_0 a0_1 a1_0 a1_1=some r) :
  Calls Tryd.prog 29 #[.agg #[.int .i64 a0_0,.int .i64 a0_1],.agg #[.int .i64 a1_0,.int .i64 a1_1]] w fun e w'=>e = .returned (.bool r)∧Below w.heap.size w w':=by
 have hu37:=Tryd.underlying37
 have HB:=aM (Below.refl w.heap.size w)
 have H:(if a0_0=a1_0 then (if a0_1=a1_1 then (some true) else (none)) else (none))=some r:=h
 clear h
 by_cases c3:a0_0=a1_0
 ·rw [if_pos c3] at H
  have c3b0:(a0_0 == a1_0)=true:=beq_iff_eq.mpr c3
  have c3b1:(a0_0 != a1_0)=false:=bne_eq_false_iff_eq.mpr c3
  clear c3
  by_cases c4:a0_1=a1_1
  ·rw [if_pos c4] at H
   have c4b0:(a0_1 == a1_1)=true:=beq_iff_eq.mpr c4
   have c4b1:(a0_1 != a1_1)=false:=bne_eq_false_iff_eq.mpr c4
   clear c4
   obtain rfl:=sI H
   go_enter Tryd.func29,Tryd.ntmps29
   go_wp2_with (first | ((with_reducible refine gd_ 2 ?_);refine be_ 2 #[.int .i64 a0_0,.int .i64 a0_1] 37 ?_;intro gb268 hg w5 hbox hb;have n0_:=aM (below_step (z1_ HB.out) hb);have n1_:=aM (hbox);have n2_:=aM ((z5_ HB.out:w.heap.size≤gb268));have n3_:=aM ((z5_ HB.out:w.heap.size≤gb268));clear HB;have HB:=n0_;have BK268:=n1_;have GW268:=n2_;have GE268:=n3_;clear n0_ n1_ n2_ n3_;clear hb hbox hg) | ((with_reducible refine gd_ 3 ?_);refine be_ 3 #[.int .i64 a1_0,.int .i64 a1_1] 37 ?_;intro gb269 hg w6 hbox hb;have n0_:=aM (blkB_ BK268.out hb);have n1_:=aM (below_step (z0_ HB.out GE268.out) hb);have n2_:=aM (hbox);have n3_:=aM ((z9_ HB.out GE268.out:w.heap.size≤gb269));have n4_:=aM ((z9_ HB.out GE268.out:w.heap.size≤gb269));have n5_:=aM (neL_ BK268.out hg);have n6_:=aM (neG_ BK268.out hg);clear BK268;clear HB;have BK268:=n0_;have HB:=n1_;have BK269:=n2_;have GW269:=n3_;have GE269:=n4_;have NB268_269:=n5_;have NB269_268:=n6_;clear n0_ n1_ n2_ n3_ n4_ n5_ n6_;clear hb hbox hg;have hnb7:=NB268_269.out;have hnc7:=NB269_268.out;have ⟨hcz8_0,hcz8_1,hfz8_0,hfz8_1⟩:=cz2_ BK268.out;have ⟨hcz9_0,hcz9_1,hfz9_0,hfz9_1⟩:=cz2_ BK269.out))
   go_ret
   exact ⟨z6_,z8_ HB.out GE268.out GE269.out⟩
  ·rw [if_neg c4] at H
   exact nO H
 ·rw [if_neg c3] at H
  exact nO H


/-! ### Y19: function 47 -/
def Y19.f (a0_0:Int) (a0_1:Int) (a0_2:Bool) (a0_3:ByteArray) (a1_0:Int) (a1_1:Int) (a1_2:Bool) (a1_3:ByteArray):Option (Bool):=if a0_0=a1_0 then (if a0_1=a1_1 then (if (a0_2 != a1_2)=true then (none) else (if a0_3.toList=a1_3.toList then (some true) else (none))) else (none)) else (none)
theorem Y19.calls (a0_0:Int) (a0_1:Int) (a0_2:Bool) (a0_3:ByteArray) (a1_0:Int) (a1_1:Int) (a1_2:Bool) (a1_3:ByteArray) (r:Bool) (w:World) (h:Y19.f a0_0 a0_1 a0_2 a0_3 a1_0 a1_1 a1_2 a1_3=some r) :
  Calls Tryd.prog 47 #[.agg #[.int .i64 a0_0,.int .i64 a0_1,.bool a0_2,.string a0_3],.agg #[.int .i64 a1_0,.int .i64 a1_1,.bool a1_2,.string a1_3]] w fun e w'=>e = .returned (.bool r)∧Below w.heap.size w w':=by
 have hu71:=Tryd.underlying71
 have HB:=aM (Below.refl w.heap.size w)
 have H:(if a0_0=a1_0 then (if a0_1=a1_1 then (if (a0_2 != a1_2)=true then (none) else (if a0_3.toList=a1_3.toList then (some true) else (none))) else (none)) else (none))=some r:=h
 clear h
 by_cases c3:a0_0=a1_0
 ·rw [if_pos c3] at H
  have c3b0:(a0_0 == a1_0)=true:=beq_iff_eq.mpr c3
  have c3b1:(a0_0 != a1_0)=false:=bne_eq_false_iff_eq.mpr c3
  clear c3
  by_cases c4:a0_1=a1_1
  ·rw [if_pos c4] at H
   have c4b0:(a0_1 == a1_1)=true:=beq_iff_eq.mpr c4
   have c4b1:(a0_1 != a1_1)=false:=bne_eq_false_iff_eq.mpr c4
   clear c4
   by_cases c5:(a0_2 != a1_2)=true
   ·rw [if_pos c5] at H
    exact nO H
   ·rw [if_neg c5] at H
    have c5b0:(a0_2 != a1_2)=false:=by simpa using c5
    (try (have c5b1:decide (a0_2=a1_2)=true:=by simpa using c5))
    (try (have c5b2:(a0_2 == a1_2)=true:=by simpa using c5))
    clear c5
    by_cases c6:a0_3.toList=a1_3.toList
    ·rw [if_pos c6] at H
     have c6b0:(a0_3.toList == a1_3.toList)=true:=beq_iff_eq.mpr c6
     have c6b1:(a0_3.toList != a1_3.toList)=false:=bne_eq_false_iff_eq.mpr c6
     clear c6
     obtain rfl:=sI H
     go_enter Tryd.func47,Tryd.ntmps47
     go_wp2_with (first | ((with_reducible refine gd_ 2 ?_);refine be_ 2 #[.int .i64 a0_0,.int .i64 a0_1,.bool a0_2,.string a0_3] 71 ?_;intro gb270 hg w7 hbox hb;have n0_:=aM (below_step (z1_ HB.out) hb);have n1_:=aM (hbox);have n2_:=aM ((z5_ HB.out:w.heap.size≤gb270));have n3_:=aM ((z5_ HB.out:w.heap.size≤gb270));clear HB;have HB:=n0_;have BK270:=n1_;have GW270:=n2_;have GE270:=n3_;clear n0_ n1_ n2_ n3_;clear hb hbox hg) | ((with_reducible refine gd_ 3 ?_);refine be_ 3 #[.int .i64 a1_0,.int .i64 a1_1,.bool a1_2,.string a1_3] 71 ?_;intro gb271 hg w8 hbox hb;have n0_:=aM (blkB_ BK270.out hb);have n1_:=aM (below_step (z0_ HB.out GE270.out) hb);have n2_:=aM (hbox);have n3_:=aM ((z9_ HB.out GE270.out:w.heap.size≤gb271));have n4_:=aM ((z9_ HB.out GE270.out:w.heap.size≤gb271));have n5_:=aM (neL_ BK270.out hg);have n6_:=aM (neG_ BK270.out hg);clear BK270;clear HB;have BK270:=n0_;have HB:=n1_;have BK271:=n2_;have GW271:=n3_;have GE271:=n4_;have NB270_271:=n5_;have NB271_270:=n6_;clear n0_ n1_ n2_ n3_ n4_ n5_ n6_;clear hb hbox hg;have hnb9:=NB270_271.out;have hnc9:=NB271_270.out;have ⟨hcz10_0,hcz10_1,hcz10_2,hcz10_3,hfz10_0,hfz10_1,hfz10_2,hfz10_3⟩:=cz4_ BK270.out;have ⟨hcz11_0,hcz11_1,hcz11_2,hcz11_3,hfz11_0,hfz11_1,hfz11_2,hfz11_3⟩:=cz4_ BK271.out))
     go_ret
     exact ⟨z6_,z8_ HB.out GE270.out GE271.out⟩
    ·rw [if_neg c6] at H
     exact nO H
  ·rw [if_neg c4] at H
   exact nO H
 ·rw [if_neg c3] at H
  exact nO H


/-! ### Y2: function 30 -/
def Y2.l0:Nat→List (S71)→List (S71)→Int→Option (Bool)
 | 0,_,_,_=>none
 | k+1,x0,x1,x5=>if x5<(x0.length:Int) then (if 0≤x5 then (if x5<(x1.length:Int) then ((Y19.f ((rd_T71 x0 x5).f0) ((rd_T71 x0 x5).f1) ((rd_T71 x0 x5).f2) ((rd_T71 x0 x5).f3) ((rd_T71 x1 x5).f0) ((rd_T71 x1 x5).f1) ((rd_T71 x1 x5).f2) ((rd_T71 x1 x5).f3)).bind fun t274=>(if t274=true then (Y2.l0 k x0 x1 (wrap64 (x5+1))) else (none))) else (none)) else (none)) else (some true)
def Y2.f (k:Nat) (l0:List (S71)) (l1:List (S71)):Option (Bool):=if (l0.length:Int)=(l1.length:Int) then (Y2.l0 k l0 l1 0) else (none)
theorem Y2.mono_l:∀ k,(∀ y0 y1 y2,LeO (Y2.l0 k y0 y1 y2) (Y2.l0 (k+1) y0 y1 y2))
 | 0=>by intros <;> exact LeO.none _
 | k+1=>by
  have ih0:=Y2.mono_l k
  ·intros
   unfold Y2.l0
   exact mO
theorem Y2.mono:∀ a0 a1 k,LeO (Y2.f k a0 a1) (Y2.f (k+1) a0 a1):=by
 intro a0 a1 k
 have ih0:=Y2.mono_l k
 unfold Y2.f
 exact mO
def Y2.T6:Bool × List (List Nat × List Nat):=(true,[([],[]),([],[]),([0,1],[0,1]),([2],[2]),([],[]),([],[]),([4,5],[4,5]),([6],[6]),([3,7],[3,7]),([8],[8])])
def Y2.B6:List Nat:=[0,0,3,7,0,0,48,112,255,511]
theorem Y2.tab6:rtab .any (opsOf Tryd.f30 6)=Y2.T6:=by kernel_rfl
theorem Y2.bits6:waitsOk Y2.T6.2 Y2.B6=true:=by kernel_rfl
theorem Y2.calls (k:Nat) (A0:Option Addr) (c0:Nat) (l0:List (S71)) (A1:Option Addr) (c1:Nat) (l1:List (S71)) (r:Bool) (w:World) (hr0:Kd.C k71 w A0 l0.length l0) (hc0:l0.length≤c0) (hr1:Kd.C k71 w A1 l1.length l1) (hc1:l1.length≤c1) (h:Y2.f k l0 l1=some r) :
  Calls Tryd.prog 30 #[.slice A0 l0.length c0,.slice A1 l1.length c1] w fun e w'=>e = .returned (.bool r)∧Below w.heap.size w w':=by
 have hu71:=Tryd.underlying71
 have HR0:=aM hr0
 have HC0:=aM hc0
 clear hr0 hc0
 have HR1:=aM hr1
 have HC1:=aM hc1
 clear hr1 hc1
 have HB:=aM (Below.refl w.heap.size w)
 have H:(if (l0.length:Int)=(l1.length:Int) then (Y2.l0 k l0 l1 0) else (none))=some r:=h
 clear h
 by_cases c3:(l0.length:Int)=(l1.length:Int)
 ·rw [if_pos c3] at H
  have c3b0:((l0.length:Int) == (l1.length:Int))=true:=beq_iff_eq.mpr c3
  have c3b1:((l0.length:Int) != (l1.length:Int))=false:=bne_eq_false_iff_eq.mpr c3
  have c3b2:(l0.length == l1.length)=true:=by first | simpa using c3 | (simp at c3 ⊢;omega)
  clear c3
  have H':=aM H
  clear H
  go_enter Tryd.func30,Tryd.ntmps30
  go_wp2
  go_loopg [5] k (fun kq v5 w'=>∃ (x5_1:Int),v5 = .int .i64 x5_1∧Aside0 (Y2.l0 kq l0 l1 x5_1=some r)∧Aside0 (kq≤k)∧Aside0 (Below w.heap.size w w'))
  case atStart=>exact ⟨(0),(z2_),H',⟨Nat.le_refl _⟩,⟨z1_ HB.out⟩⟩
  case round =>
   clear H'
   try clear c1
   try clear p2
   try clear c3
   try clear c3b0
   try clear c3b1
   try clear c3b2
   obtain ⟨x5_1,rfl,HA,HK1,HB⟩:=hrel
   cases gk with
   | zero=>exact absurd HA.out (by simp [Y2.l0])
   | succ k1 =>
    have H:=HA.out
    clear HA
    simp only [Y2.l0] at H
    by_cases c4:x5_1<(l0.length:Int)
    ·rw [if_pos c4] at H
     have c4b0:decide (x5_1<(l0.length:Int))=true:=dE c4
     clear c4
     by_cases c5:0≤x5_1
     ·rw [if_pos c5] at H
      have c5b0:decide (0≤x5_1)=true:=dE c5
      clear c5
      by_cases c6:x5_1<(l1.length:Int)
      ·rw [if_pos c6] at H
       have c6b0:decide (x5_1<(l1.length:Int))=true:=dE c6
       clear c6
       replace H:=bS H
       obtain ⟨t274,A70,H⟩:=H
       replace H:(if t274=true then (Y2.l0 k1 l0 l1 (wrap64 (x5_1+1))) else (none))=some r:=H
       have A7:=aM A70
       clear A70
       by_cases c8:t274=true
       ·subst c8
        have H1:(Y2.l0 k1 l0 l1 (wrap64 (x5_1+1)))=some r:=by rw [if_pos rfl] at H;exact H
        clear H
        have H:=H1
        clear H1
        have H':=aM H
        clear H
        try go_wp2
        have n0_:=aM (below_drew1 HB.out)
        clear HB
        have HB:=n0_
        clear n0_
        have p272:0≤(x5_1:Int):=dT (z4_)
        have q272:x5_1<(l0.length:Int):=dT (z4_)
        obtain ⟨ad272,e272,hx272_0,hx272_1,hx272_2,hx272_3⟩:=at_T71 HR0.out x5_1 p272 q272
        have hw272_3:=hx272_3
        have hw272_2:=hx272_2
        have hw272_1:=hx272_1
        have hw272_0:=hx272_0
        cases e272
        replace hx272_0:=(HB.out.cell (World.block_lt_of_cell? w _ hx272_0)).trans hx272_0
        replace hx272_1:=(HB.out.cell (World.block_lt_of_cell? w _ hx272_1)).trans hx272_1
        replace hx272_2:=(HB.out.cell (World.block_lt_of_cell? w _ hx272_2)).trans hx272_2
        replace hx272_3:=(HB.out.cell (World.block_lt_of_cell? w _ hx272_3)).trans hx272_3
        replace p272:=eq_true p272
        replace q272:=eq_true q272
        have p273:0≤(x5_1:Int):=dT (z4_)
        have q273:x5_1<(l1.length:Int):=dT (z4_)
        obtain ⟨ad273,e273,hx273_0,hx273_1,hx273_2,hx273_3⟩:=at_T71 HR1.out x5_1 p273 q273
        have hw273_3:=hx273_3
        have hw273_2:=hx273_2
        have hw273_1:=hx273_1
        have hw273_0:=hx273_0
        cases e273
        replace hx273_0:=(HB.out.cell (World.block_lt_of_cell? w _ hx273_0)).trans hx273_0
        replace hx273_1:=(HB.out.cell (World.block_lt_of_cell? w _ hx273_1)).trans hx273_1
        replace hx273_2:=(HB.out.cell (World.block_lt_of_cell? w _ hx273_2)).trans hx273_2
        replace hx273_3:=(HB.out.cell (World.block_lt_of_cell? w _ hx273_3)).trans hx273_3
        replace p273:=eq_true p273
        replace q273:=eq_true q273
        refine start_ (n:=10) (S:=fun w'=>w'.cell? (ad272.add ((x5_1).toNat*4))=some (.int .i64 ((rd_T71 l0 x5_1).f0))∧w'.cell? ⟨(ad272.add ((x5_1).toNat*4)).block,(ad272.add ((x5_1).toNat*4)).off+1,none⟩=some (.int .i64 ((rd_T71 l0 x5_1).f1))∧w'.cell? ⟨(ad272.add ((x5_1).toNat*4)).block,(ad272.add ((x5_1).toNat*4)).off+2,none⟩=some (.bool ((rd_T71 l0 x5_1).f2))∧w'.cell? ⟨(ad272.add ((x5_1).toNat*4)).block,(ad272.add ((x5_1).toNat*4)).off+3,none⟩=some (.string ((rd_T71 l0 x5_1).f3))∧w'.cell? (ad273.add ((x5_1).toNat*4))=some (.int .i64 ((rd_T71 l1 x5_1).f0))∧w'.cell? ⟨(ad273.add ((x5_1).toNat*4)).block,(ad273.add ((x5_1).toNat*4)).off+1,none⟩=some (.int .i64 ((rd_T71 l1 x5_1).f1))∧w'.cell? ⟨(ad273.add ((x5_1).toNat*4)).block,(ad273.add ((x5_1).toNat*4)).off+2,none⟩=some (.bool ((rd_T71 l1 x5_1).f2))∧w'.cell? ⟨(ad273.add ((x5_1).toNat*4)).block,(ad273.add ((x5_1).toNat*4)).off+3,none⟩=some (.string ((rd_T71 l1 x5_1).f3))) (ds:=[]) #[O,O,O,O,O,O,O,O,O,O] (by kernel_rfl) rfl rfl ⟨((HB.out.cell (World.block_lt_of_cell? w _ hw272_0)).trans hw272_0),((HB.out.cell (World.block_lt_of_cell? w _ hw272_1)).trans hw272_1),((HB.out.cell (World.block_lt_of_cell? w _ hw272_2)).trans hw272_2),((HB.out.cell (World.block_lt_of_cell? w _ hw272_3)).trans hw272_3),((HB.out.cell (World.block_lt_of_cell? w _ hw273_0)).trans hw273_0),((HB.out.cell (World.block_lt_of_cell? w _ hw273_1)).trans hw273_1),((HB.out.cell (World.block_lt_of_cell? w _ hw273_2)).trans hw273_2),((HB.out.cell (World.block_lt_of_cell? w _ hw273_3)).trans hw273_3)⟩ (fun hHeld=>?_);refine with_tabW Y2.tab6 Y2.bits6 (fun HT_ HW_=>?_)
        generalize wr.drew=w9 at HB hx272_0 hx272_1 hx272_2 hx272_3 hx273_0 hx273_1 hx273_2 hx273_3 hHeld ⊢
        refine pu_ 0 17 #[I,O,O,O,O,O,O,O,O,O] HT_.out ?_
        refine pu_ 1 18 #[I,I,O,O,O,O,O,O,O,O] HT_.out ?_
        refine pu_ 2 19 #[I,I,I,O,O,O,O,O,O,O] HT_.out ?_
        refine pu_ 4 21 #[I,I,I,O,I,O,O,O,O,O] HT_.out ?_
        refine pu_ 5 22 #[I,I,I,O,I,I,O,O,O,O] HT_.out ?_
        refine pu_ 6 23 #[I,I,I,O,I,I,I,O,O,O] HT_.out ?_
        refine tk8_ 3 20 #[I,I,I,I,I,I,I,O,O,O] HT_.out HW_.out hHeld ?_
        refine tk8_ 7 24 #[I,I,I,I,I,I,I,I,O,O] HT_.out HW_.out hHeld ?_
        refine o1_ 8 25 #[I,I,I,I,I,I,I,I,I,O] HT_.out (fun K hK=>?_)
        refine gs_ Tryd.func47 #[.agg #[.int .i64 ((rd_T71 l0 x5_1).f0),.int .i64 ((rd_T71 l0 x5_1).f1),.bool ((rd_T71 l0 x5_1).f2),.string ((rd_T71 l0 x5_1).f3)],.agg #[.int .i64 ((rd_T71 l1 x5_1).f0),.int .i64 ((rd_T71 l1 x5_1).f1),.bool ((rd_T71 l1 x5_1).f2),.string ((rd_T71 l1 x5_1).f3)]] ?_
        with_reducible refine (Y19.calls ((rd_T71 l0 x5_1).f0) ((rd_T71 l0 x5_1).f1) ((rd_T71 l0 x5_1).f2) ((rd_T71 l0 x5_1).f3) ((rd_T71 l1 x5_1).f0) ((rd_T71 l1 x5_1).f1) ((rd_T71 l1 x5_1).f2) ((rd_T71 l1 x5_1).f3) true _ A7.out).mono ?_
        rintro e w10 ⟨rfl,hb⟩
        refine ⟨_,rfl,?_⟩
        have n0_:=aM (below_step (z1_ HB.out) hb)
        clear HB
        have HB:=n0_
        clear n0_
        (try clear hb)
        refine hK.out _ _ ⟨((HB.out.cell (World.block_lt_of_cell? w _ hw272_0)).trans hw272_0),((HB.out.cell (World.block_lt_of_cell? w _ hw272_1)).trans hw272_1),((HB.out.cell (World.block_lt_of_cell? w _ hw272_2)).trans hw272_2),((HB.out.cell (World.block_lt_of_cell? w _ hw272_3)).trans hw272_3),((HB.out.cell (World.block_lt_of_cell? w _ hw273_0)).trans hw273_0),((HB.out.cell (World.block_lt_of_cell? w _ hw273_1)).trans hw273_1),((HB.out.cell (World.block_lt_of_cell? w _ hw273_2)).trans hw273_2),((HB.out.cell (World.block_lt_of_cell? w _ hw273_3)).trans hw273_3)⟩ (fun hHeld=>?_)
        clear hK K
        refine nm_ 25 ?_
        refine pu_ 9 26 #[I,I,I,I,I,I,I,I,I,I] HT_.out ?_
        refine done_ (done_of HT_.out (by kernel_rfl)) ?_
        try go_wp2
        go_roundg k1
        case measure=>have:=HK1.out;omega
        case rel=>exact ⟨(wrap64 (x5_1+1)),(z2_),H',⟨by have:=HK1.out;omega⟩,⟨z1_ HB.out⟩⟩
       ·replace c8:=Bool.eq_false_iff.mpr c8
        subst c8
        have H1:(none)=some r:=by rw [if_neg (show ¬ (false=true) by decide)] at H;exact H
        clear H
        have H:=H1
        clear H1
        exact nO H
      ·rw [if_neg c6] at H
       exact nO H
     ·rw [if_neg c5] at H
      exact nO H
    ·rw [if_neg c4] at H
     have c4b0:decide (x5_1<(l0.length:Int))=false:=dF c4
     clear c4
     obtain rfl:=sI H
     go_wp2
     go_ret
     exact ⟨z6_,z1_ HB.out⟩
 ·rw [if_neg c3] at H
  exact nO H


/-! ### Y12: function 13 -/
def Y12.f (k:Nat) (a0_0:Int) (a0_1:ByteArray) (a0_2:Bool) (a0_3:Int) (l0_4:List ByteArray) (a0_5:ByteArray) (a0_6:Int) (a0_7:Int) (l0_8:List (S71)) (a1_0:Int) (a1_1:ByteArray) (a1_2:Bool) (a1_3:Int) (l1_4:List ByteArray) (a1_5:ByteArray) (a1_6:Int) (a1_7:Int) (l1_8:List (S71)):Option (Bool):=if a0_0=a1_0 then (if a0_1.toList=a1_1.toList then (if (a0_2 != a1_2)=true then (none) else (if a0_3=a1_3 then ((Y6.f k l0_4 l1_4).bind fun t277=>(if t277=true then (if a0_5.toList=a1_5.toList then ((Y16.f a0_6 a0_7 a1_6 a1_7).bind fun t278=>(if t278=true then ((Y2.f k l0_8 l1_8).bind fun t279=>(if t279=true then (some true) else (none))) else (none))) else (none)) else (none))) else (none))) else (none)) else (none)
theorem Y12.mono:∀ a0 a1 a2 a3 a4 a5 a6 a7 a8 a9 a10 a11 a12 a13 a14 a15 a16 a17 k,LeO (Y12.f k a0 a1 a2 a3 a4 a5 a6 a7 a8 a9 a10 a11 a12 a13 a14 a15 a16 a17) (Y12.f (k+1) a0 a1 a2 a3 a4 a5 a6 a7 a8 a9 a10 a11 a12 a13 a14 a15 a16 a17):=by
 intro a0 a1 a2 a3 a4 a5 a6 a7 a8 a9 a10 a11 a12 a13 a14 a15 a16 a17 k
 have m0:=@Y2.mono
 have m1:=@Y6.mono
 unfold Y12.f
 exact mO
theorem Y12.calls (k:Nat) (a0_0:Int) (a0_1:ByteArray) (a0_2:Bool) (a0_3:Int) (A0_4:Option Addr) (c0_4:Nat) (l0_4:List ByteArray) (a0_5:ByteArray) (a0_6:Int) (a0_7:Int) (A0_8:Option Addr) (c0_8:Nat) (l0_8:List (S71)) (a1_0:Int) (a1_1:ByteArray) (a1_2:Bool) (a1_3:Int) (A1_4:Option Addr) (c1_4:Nat) (l1_4:List ByteArray) (a1_5:ByteArray) (a1_6:Int) (a1_7:Int) (A1_8:Option Addr) (c1_8:Nat) (l1_8:List (S71)) (r:Bool) (w:World) (hr0_4:Kd.C Kd.string w A0_4 l0_4.length l0_4) (hc0_4:l0_4.length≤c0_4) (hr0_8:Kd.C k71 w A0_8 l0_8.length l0_8) (hc0_8:l0_8.length≤c0_8) (hr1_4:Kd.C Kd.string w A1_4 l1_4.length l1_4) (hc1_4:l1_4.length≤c1_4) (hr1_8:Kd.C k71 w A1_8 l1_8.length l1_8) (hc1_8:l1_8.length≤c1_8) (h:Y12.f k a0_0 a0_1 a0_2 a0_3 l0_4 a0_5 a0_6 a0_7 l0_8 a1_0 a1_1 a1_2 a1_3 l1_4 a1_5 a1_6 a1_7 l1_8=some r) :
  Calls Tryd.prog 13 #[.agg #[.int .i64 a0_0,.string a0_1,.bool a0_2,.int .i64 a0_3,.slice A0_4 l0_4.length c0_4,.string a0_5,.int .i64 a0_6,.int .i64 a0_7,.slice A0_8 l0_8.length c0_8],.agg #[.int .i64 a1_0,.string a1_1,.bool a1_2,.int .i64 a1_3,.slice A1_4 l1_4.length c1_4,.string a1_5,.int .i64 a1_6,.int .i64 a1_7,.slice A1_8 l1_8.length c1_8]] w fun e w'=>e = .returned (.bool r)∧Below w.heap.size w w':=by
 have hu40:=Tryd.underlying40
 have hu37:=Tryd.underlying37
 have HR0_4:=aM hr0_4
 have HC0_4:=aM hc0_4
 clear hr0_4 hc0_4
 have HR0_8:=aM hr0_8
 have HC0_8:=aM hc0_8
 clear hr0_8 hc0_8
 have HR1_4:=aM hr1_4
 have HC1_4:=aM hc1_4
 clear hr1_4 hc1_4
 have HR1_8:=aM hr1_8
 have HC1_8:=aM hc1_8
 clear hr1_8 hc1_8
 have HB:=aM (Below.refl w.heap.size w)
 have H:(if a0_0=a1_0 then (if a0_1.toList=a1_1.toList then (if (a0_2 != a1_2)=true then (none) else (if a0_3=a1_3 then ((Y6.f k l0_4 l1_4).bind fun t277=>(if t277=true then (if a0_5.toList=a1_5.toList then ((Y16.f a0_6 a0_7 a1_6 a1_7).bind fun t278=>(if t278=true then ((Y2.f k l0_8 l1_8).bind fun t279=>(if t279=true then (some true) else (none))) else (none))) else (none)) else (none))) else (none))) else (none)) else (none))=some r:=h
 clear h
 by_cases c3:a0_0=a1_0
 ·rw [if_pos c3] at H
  have c3b0:(a0_0 == a1_0)=true:=beq_iff_eq.mpr c3
  have c3b1:(a0_0 != a1_0)=false:=bne_eq_false_iff_eq.mpr c3
  clear c3
  by_cases c4:a0_1.toList=a1_1.toList
  ·rw [if_pos c4] at H
   have c4b0:(a0_1.toList == a1_1.toList)=true:=beq_iff_eq.mpr c4
   have c4b1:(a0_1.toList != a1_1.toList)=false:=bne_eq_false_iff_eq.mpr c4
   clear c4
   by_cases c5:(a0_2 != a1_2)=true
   ·rw [if_pos c5] at H
    exact nO H
   ·rw [if_neg c5] at H
    have c5b0:(a0_2 != a1_2)=false:=by simpa using c5
    (try (have c5b1:decide (a0_2=a1_2)=true:=by simpa using c5))
    (try (have c5b2:(a0_2 == a1_2)=true:=by simpa using c5))
    clear c5
    by_cases c6:a0_3=a1_3
    ·rw [if_pos c6] at H
     have c6b0:(a0_3 == a1_3)=true:=beq_iff_eq.mpr c6
     have c6b1:(a0_3 != a1_3)=false:=bne_eq_false_iff_eq.mpr c6
     clear c6
     replace H:=bS H
     obtain ⟨t277,A70,H⟩:=H
     replace H:(if t277=true then (if a0_5.toList=a1_5.toList then ((Y16.f a0_6 a0_7 a1_6 a1_7).bind fun t278=>(if t278=true then ((Y2.f k l0_8 l1_8).bind fun t279=>(if t279=true then (some true) else (none))) else (none))) else (none)) else (none))=some r:=H
     have A7:=aM A70
     clear A70
     by_cases c8:t277=true
     ·subst c8
      have H1:(if a0_5.toList=a1_5.toList then ((Y16.f a0_6 a0_7 a1_6 a1_7).bind fun t278=>(if t278=true then ((Y2.f k l0_8 l1_8).bind fun t279=>(if t279=true then (some true) else (none))) else (none))) else (none))=some r:=by rw [if_pos rfl] at H;exact H
      clear H
      have H:=H1
      clear H1
      by_cases c9:a0_5.toList=a1_5.toList
      ·rw [if_pos c9] at H
       have c9b0:(a0_5.toList == a1_5.toList)=true:=beq_iff_eq.mpr c9
       have c9b1:(a0_5.toList != a1_5.toList)=false:=bne_eq_false_iff_eq.mpr c9
       clear c9
       replace H:=bS H
       obtain ⟨t278,A100,H⟩:=H
       replace H:(if t278=true then ((Y2.f k l0_8 l1_8).bind fun t279=>(if t279=true then (some true) else (none))) else (none))=some r:=H
       have A10:=aM A100
       clear A100
       by_cases c11:t278=true
       ·subst c11
        have H1:((Y2.f k l0_8 l1_8).bind fun t279=>(if t279=true then (some true) else (none)))=some r:=by rw [if_pos rfl] at H;exact H
        clear H
        have H:=H1
        clear H1
        replace H:=bS H
        obtain ⟨t279,A120,H⟩:=H
        replace H:(if t279=true then (some true) else (none))=some r:=H
        have A12:=aM A120
        clear A120
        by_cases c13:t279=true
        ·subst c13
         have H1:(some true)=some r:=by rw [if_pos rfl] at H;exact H
         clear H
         have H:=H1
         clear H1
         obtain rfl:=sI H
         go_enter Tryd.func13,Tryd.ntmps13
         go_wp2_with (first | ((with_reducible refine gd_ 2 ?_);refine be_ 2 #[.int .i64 a0_0,.string a0_1,.bool a0_2,.int .i64 a0_3,.slice A0_4 l0_4.length c0_4,.string a0_5,.int .i64 a0_6,.int .i64 a0_7,.slice A0_8 l0_8.length c0_8] 40 ?_;intro gb275 hg w14 hbox hb;have n0_:=aM (below_step (z1_ HB.out) hb);have n1_:=aM (hbox);have n2_:=aM ((z5_ HB.out:w.heap.size≤gb275));have n3_:=aM ((z5_ HB.out:w.heap.size≤gb275));clear HB;have HB:=n0_;have BK275:=n1_;have GW275:=n2_;have GE275:=n3_;clear n0_ n1_ n2_ n3_;clear hb hbox hg) | ((with_reducible refine gd_ 3 ?_);refine be_ 3 #[.int .i64 a1_0,.string a1_1,.bool a1_2,.int .i64 a1_3,.slice A1_4 l1_4.length c1_4,.string a1_5,.int .i64 a1_6,.int .i64 a1_7,.slice A1_8 l1_8.length c1_8] 40 ?_;intro gb276 hg w15 hbox hb;have n0_:=aM (blkB_ BK275.out hb);have n1_:=aM (below_step (z0_ HB.out GE275.out) hb);have n2_:=aM (hbox);have n3_:=aM ((z9_ HB.out GE275.out:w.heap.size≤gb276));have n4_:=aM ((z9_ HB.out GE275.out:w.heap.size≤gb276));have n5_:=aM (neL_ BK275.out hg);have n6_:=aM (neG_ BK275.out hg);clear BK275;clear HB;have BK275:=n0_;have HB:=n1_;have BK276:=n2_;have GW276:=n3_;have GE276:=n4_;have NB275_276:=n5_;have NB276_275:=n6_;clear n0_ n1_ n2_ n3_ n4_ n5_ n6_;clear hb hbox hg;have hnb16:=NB275_276.out;have hnc16:=NB276_275.out;have ⟨hcz17_0,hcz17_1,hcz17_2,hcz17_3,hcz17_4,hcz17_5,hcz17_6,hcz17_7,hcz17_8,hfz17_0,hfz17_1,hfz17_2,hfz17_3,hfz17_4,hfz17_5,hfz17_6,hfz17_7,hfz17_8⟩:=cz9_ BK275.out;have ⟨hcz18_0,hcz18_1,hcz18_2,hcz18_3,hcz18_4,hcz18_5,hcz18_6,hcz18_7,hcz18_8,hfz18_0,hfz18_1,hfz18_2,hfz18_3,hfz18_4,hfz18_5,hfz18_6,hfz18_7,hfz18_8⟩:=cz9_ BK276.out) | ((with_reducible refine gc_ 28 ?_);refine gl_ (some 29) Tryd.func28 #[.slice A0_4 l0_4.length c0_4,.slice A1_4 l1_4.length c1_4] ?_;(with_reducible refine (Y6.calls k _ _ l0_4 _ _ l1_4 true _ ?s1 ?s2 ?s3 ?s4 A7.out).mono ?_);(case s1=>repeat (first | exact (Kd.C_below HR0_4.out HB.out) | (with_reducible refine Kd.C_alloc ?_ _) | (with_reducible refine Kd.C_drewN ?_ _) | (with_reducible refine Kd.C_drew ?_)));(case s2=>exact HC0_4.out);(case s3=>repeat (first | exact (Kd.C_below HR1_4.out HB.out) | (with_reducible refine Kd.C_alloc ?_ _) | (with_reducible refine Kd.C_drewN ?_ _) | (with_reducible refine Kd.C_drew ?_)));(case s4=>exact HC1_4.out);rintro e w' ⟨rfl,⟨nd,rfl⟩⟩;refine ⟨_,rfl,?_⟩) | ((with_reducible refine gc_ 29 ?_);refine gl_ (some 40) Tryd.func29 #[.agg #[.int .i64 a0_6,.int .i64 a0_7],.agg #[.int .i64 a1_6,.int .i64 a1_7]] ?_;(with_reducible refine (Y16.calls a0_6 a0_7 a1_6 a1_7 true _ A10.out).mono ?_);rintro e w19 ⟨rfl,hb⟩;refine ⟨_,rfl,?_⟩;have n0_:=aM (blkB_ BK275.out hb);have n1_:=aM (blkB_ BK276.out hb);have n2_:=aM (below_step (z8_ HB.out GE275.out GE276.out) hb);clear BK275;clear BK276;clear HB;have BK275:=n0_;have BK276:=n1_;have HB:=n2_;clear n0_ n1_ n2_;(try clear hb);have ⟨hcz20_0,hcz20_1,hcz20_2,hcz20_3,hcz20_4,hcz20_5,hcz20_6,hcz20_7,hcz20_8,hfz20_0,hfz20_1,hfz20_2,hfz20_3,hfz20_4,hfz20_5,hfz20_6,hfz20_7,hfz20_8⟩:=cz9_ BK275.out;have ⟨hcz21_0,hcz21_1,hcz21_2,hcz21_3,hcz21_4,hcz21_5,hcz21_6,hcz21_7,hcz21_8,hfz21_0,hfz21_1,hfz21_2,hfz21_3,hfz21_4,hfz21_5,hfz21_6,hfz21_7,hfz21_8⟩:=cz9_ BK276.out) | ((with_reducible refine gc_ 30 ?_);refine gl_ (some 46) Tryd.func30 #[.slice A0_8 l0_8.length c0_8,.slice A1_8 l1_8.length c1_8] ?_;(with_reducible refine (Y2.calls k _ _ l0_8 _ _ l1_8 true _ ?s1 ?s2 ?s3 ?s4 A12.out).mono ?_);(case s1=>repeat (first | exact (Kd.C_below HR0_8.out HB.out) | (with_reducible refine Kd.C_alloc ?_ _) | (with_reducible refine Kd.C_drewN ?_ _) | (with_reducible refine Kd.C_drew ?_)));(case s2=>exact HC0_8.out);(case s3=>repeat (first | exact (Kd.C_below HR1_8.out HB.out) | (with_reducible refine Kd.C_alloc ?_ _) | (with_reducible refine Kd.C_drewN ?_ _) | (with_reducible refine Kd.C_drew ?_)));(case s4=>exact HC1_8.out);rintro e w22 ⟨rfl,hb⟩;refine ⟨_,rfl,?_⟩;have n0_:=aM (blkB_ BK275.out hb);have n1_:=aM (blkB_ BK276.out hb);have n2_:=aM (below_step (z8_ HB.out GE275.out GE276.out) hb);clear BK275;clear BK276;clear HB;have BK275:=n0_;have BK276:=n1_;have HB:=n2_;clear n0_ n1_ n2_;(try clear hb)))
         go_ret
         exact ⟨z6_,z8_ HB.out GE275.out GE276.out⟩
        ·replace c13:=Bool.eq_false_iff.mpr c13
         subst c13
         have H1:(none)=some r:=by rw [if_neg (show ¬ (false=true) by decide)] at H;exact H
         clear H
         have H:=H1
         clear H1
         exact nO H
       ·replace c11:=Bool.eq_false_iff.mpr c11
        subst c11
        have H1:(none)=some r:=by rw [if_neg (show ¬ (false=true) by decide)] at H;exact H
        clear H
        have H:=H1
        clear H1
        exact nO H
      ·rw [if_neg c9] at H
       exact nO H
     ·replace c8:=Bool.eq_false_iff.mpr c8
      subst c8
      have H1:(none)=some r:=by rw [if_neg (show ¬ (false=true) by decide)] at H;exact H
      clear H
      have H:=H1
      clear H1
      exact nO H
    ·rw [if_neg c6] at H
     exact nO H
  ·rw [if_neg c4] at H
   exact nO H
 ·rw [if_neg c3] at H
  exact nO H


/-! ### Y10: function 4 -/
def Y10.f (k:Nat) (a0_0:Int) (a0_1:ByteArray) (a0_2:Bool) (a0_3:Int) (l0_4:List ByteArray) (a0_5:ByteArray) (a0_6:Int) (a0_7:Int) (l0_8:List (S70)):Option (Bool):=(Y14.f k a0_0 a0_1 a0_2 a0_3 l0_4 a0_5 a0_6 a0_7 l0_8 1048576).bind fun t281=>(if t281<0 then (some true) else ((Y9.f k a0_0 a0_1 a0_2 a0_3 l0_4 a0_5 a0_6 a0_7 l0_8).bind fun bt282=>((Y0.f k bt282.1 bt282.2.1 bt282.2.2.1 bt282.2.2.2.1 bt282.2.2.2.2.1 bt282.2.2.2.2.2.1 bt282.2.2.2.2.2.2.1 bt282.2.2.2.2.2.2.2.1 bt282.2.2.2.2.2.2.2.2).bind fun t295=>((Y9.f k a0_0 a0_1 a0_2 a0_3 l0_4 a0_5 a0_6 a0_7 l0_8).bind fun bt296=>((Y1.f k bt296.1 bt296.2.1 bt296.2.2.1 bt296.2.2.2.1 bt296.2.2.2.2.1 bt296.2.2.2.2.2.1 bt296.2.2.2.2.2.2.1 bt296.2.2.2.2.2.2.2.1 bt296.2.2.2.2.2.2.2.2).bind fun t310=>(if t310.toList=t295.toList then ((Y9.f k a0_0 a0_1 a0_2 a0_3 l0_4 a0_5 a0_6 a0_7 l0_8).bind fun bt311=>((Y12.f k bt296.1 bt296.2.1 bt296.2.2.1 bt296.2.2.2.1 bt296.2.2.2.2.1 bt296.2.2.2.2.2.1 bt296.2.2.2.2.2.2.1 bt296.2.2.2.2.2.2.2.1 bt296.2.2.2.2.2.2.2.2 bt311.1 bt311.2.1 bt311.2.2.1 bt311.2.2.2.1 bt311.2.2.2.2.1 bt311.2.2.2.2.2.1 bt311.2.2.2.2.2.2.1 bt311.2.2.2.2.2.2.2.1 bt311.2.2.2.2.2.2.2.2).bind fun t324=>(if t324=true then (some true) else (none)))) else (none)))))))
theorem Y10.mono:∀ a0 a1 a2 a3 a4 a5 a6 a7 a8 k,LeO (Y10.f k a0 a1 a2 a3 a4 a5 a6 a7 a8) (Y10.f (k+1) a0 a1 a2 a3 a4 a5 a6 a7 a8):=by
 intro a0 a1 a2 a3 a4 a5 a6 a7 a8 k
 have m0:=@Y1.mono
 have m1:=@Y12.mono
 have m2:=@Y14.mono
 have m3:=@Y9.mono
 have m4:=@Y0.mono
 unfold Y10.f
 exact mO
theorem Y10.calls (k:Nat) (a0_0:Int) (a0_1:ByteArray) (a0_2:Bool) (a0_3:Int) (A0_4:Option Addr) (c0_4:Nat) (l0_4:List ByteArray) (a0_5:ByteArray) (a0_6:Int) (a0_7:Int) (A0_8:Option Addr) (c0_8:Nat) (l0_8:List (S70)) (r:Bool) (w:World) (hr0_4:Kd.C Kd.string w A0_4 l0_4.length l0_4) (hc0_4:l0_4.length≤c0_4) (hr0_8:Kd.C k70 w A0_8 l0_8.length l0_8) (hc0_8:l0_8.length≤c0_8) (h:Y10.f k a0_0 a0_1 a0_2 a0_3 l0_4 a0_5 a0_6 a0_7 l0_8=some r) (htab_:Tab_ w) :
  Calls Tryd.prog 4 #[.agg #[.int .i64 a0_0,.string a0_1,.bool a0_2,.int .i64 a0_3,.slice A0_4 l0_4.length c0_4,.string a0_5,.int .i64 a0_6,.int .i64 a0_7,.slice A0_8 l0_8.length c0_8]] w fun e w'=>e = .returned (.bool r)∧Below w.heap.size w w':=by
 have hu34:=Tryd.underlying34
 have hu40:=Tryd.underlying40
 have HR0_4:=aM hr0_4
 have HC0_4:=aM hc0_4
 clear hr0_4 hc0_4
 have HR0_8:=aM hr0_8
 have HC0_8:=aM hc0_8
 clear hr0_8 hc0_8
 have HB:=aM (Below.refl w.heap.size w)
 have H:((Y14.f k a0_0 a0_1 a0_2 a0_3 l0_4 a0_5 a0_6 a0_7 l0_8 1048576).bind fun t281=>(if t281<0 then (some true) else ((Y9.f k a0_0 a0_1 a0_2 a0_3 l0_4 a0_5 a0_6 a0_7 l0_8).bind fun bt282=>((Y0.f k bt282.1 bt282.2.1 bt282.2.2.1 bt282.2.2.2.1 bt282.2.2.2.2.1 bt282.2.2.2.2.2.1 bt282.2.2.2.2.2.2.1 bt282.2.2.2.2.2.2.2.1 bt282.2.2.2.2.2.2.2.2).bind fun t295=>((Y9.f k a0_0 a0_1 a0_2 a0_3 l0_4 a0_5 a0_6 a0_7 l0_8).bind fun bt296=>((Y1.f k bt296.1 bt296.2.1 bt296.2.2.1 bt296.2.2.2.1 bt296.2.2.2.2.1 bt296.2.2.2.2.2.1 bt296.2.2.2.2.2.2.1 bt296.2.2.2.2.2.2.2.1 bt296.2.2.2.2.2.2.2.2).bind fun t310=>(if t310.toList=t295.toList then ((Y9.f k a0_0 a0_1 a0_2 a0_3 l0_4 a0_5 a0_6 a0_7 l0_8).bind fun bt311=>((Y12.f k bt296.1 bt296.2.1 bt296.2.2.1 bt296.2.2.2.1 bt296.2.2.2.2.1 bt296.2.2.2.2.2.1 bt296.2.2.2.2.2.2.1 bt296.2.2.2.2.2.2.2.1 bt296.2.2.2.2.2.2.2.2 bt311.1 bt311.2.1 bt311.2.2.1 bt311.2.2.2.1 bt311.2.2.2.2.1 bt311.2.2.2.2.2.1 bt311.2.2.2.2.2.2.1 bt311.2.2.2.2.2.2.2.1 bt311.2.2.2.2.2.2.2.2).bind fun t324=>(if t324=true then (some true) else (none)))) else (none))))))))=some r:=h
 clear h
 replace H:=bS H
 obtain ⟨t281,A20,H⟩:=H
 replace H:(if t281<0 then (some true) else ((Y9.f k a0_0 a0_1 a0_2 a0_3 l0_4 a0_5 a0_6 a0_7 l0_8).bind fun bt282=>((Y0.f k bt282.1 bt282.2.1 bt282.2.2.1 bt282.2.2.2.1 bt282.2.2.2.2.1 bt282.2.2.2.2.2.1 bt282.2.2.2.2.2.2.1 bt282.2.2.2.2.2.2.2.1 bt282.2.2.2.2.2.2.2.2).bind fun t295=>((Y9.f k a0_0 a0_1 a0_2 a0_3 l0_4 a0_5 a0_6 a0_7 l0_8).bind fun bt296=>((Y1.f k bt296.1 bt296.2.1 bt296.2.2.1 bt296.2.2.2.1 bt296.2.2.2.2.1 bt296.2.2.2.2.2.1 bt296.2.2.2.2.2.2.1 bt296.2.2.2.2.2.2.2.1 bt296.2.2.2.2.2.2.2.2).bind fun t310=>(if t310.toList=t295.toList then ((Y9.f k a0_0 a0_1 a0_2 a0_3 l0_4 a0_5 a0_6 a0_7 l0_8).bind fun bt311=>((Y12.f k bt296.1 bt296.2.1 bt296.2.2.1 bt296.2.2.2.1 bt296.2.2.2.2.1 bt296.2.2.2.2.2.1 bt296.2.2.2.2.2.2.1 bt296.2.2.2.2.2.2.2.1 bt296.2.2.2.2.2.2.2.2 bt311.1 bt311.2.1 bt311.2.2.1 bt311.2.2.2.1 bt311.2.2.2.2.1 bt311.2.2.2.2.2.1 bt311.2.2.2.2.2.2.1 bt311.2.2.2.2.2.2.2.1 bt311.2.2.2.2.2.2.2.2).bind fun t324=>(if t324=true then (some true) else (none)))) else (none)))))))=some r:=H
 have A2:=aM A20
 clear A20
 by_cases c3:t281<0
 ·rw [if_pos c3] at H
  have c3b0:decide (t281<0)=true:=dE c3
  clear c3
  obtain rfl:=sI H
  go_enter Tryd.func4,Tryd.ntmps4
  go_wp2_with (first | ((with_reducible refine gd_ 1 ?_);refine be_ 1 #[.int .i64 a0_0,.string a0_1,.bool a0_2,.int .i64 a0_3,.slice A0_4 l0_4.length c0_4,.string a0_5,.int .i64 a0_6,.int .i64 a0_7,.slice A0_8 l0_8.length c0_8] 34 ?_;intro gb280 hg w4 hbox hb;have n0_:=aM (below_step (z1_ HB.out) hb);have n1_:=aM (hbox);have n2_:=aM ((z5_ HB.out:w.heap.size≤gb280));have n3_:=aM ((z5_ HB.out:w.heap.size≤gb280));clear HB;have HB:=n0_;have BK280:=n1_;have GW280:=n2_;have GE280:=n3_;clear n0_ n1_ n2_ n3_;clear hb hbox hg;have ⟨hcz5_0,hcz5_1,hcz5_2,hcz5_3,hcz5_4,hcz5_5,hcz5_6,hcz5_7,hcz5_8,hfz5_0,hfz5_1,hfz5_2,hfz5_3,hfz5_4,hfz5_5,hfz5_6,hfz5_7,hfz5_8⟩:=cz9_ BK280.out) | ((with_reducible refine gc_ 9 ?_);refine gl_ (some 9) Tryd.func9 #[.agg #[.int .i64 a0_0,.string a0_1,.bool a0_2,.int .i64 a0_3,.slice A0_4 l0_4.length c0_4,.string a0_5,.int .i64 a0_6,.int .i64 a0_7,.slice A0_8 l0_8.length c0_8],.int .i64 1048576] ?_;(with_reducible refine (Y14.calls k a0_0 a0_1 a0_2 a0_3 _ _ l0_4 a0_5 a0_6 a0_7 _ _ l0_8 1048576 t281 _ ?s1 ?s2 ?s3 ?s4 A2.out).mono ?_);(case s1=>repeat (first | exact (Kd.C_below HR0_4.out HB.out) | (with_reducible refine Kd.C_alloc ?_ _) | (with_reducible refine Kd.C_drewN ?_ _) | (with_reducible refine Kd.C_drew ?_)));(case s2=>exact HC0_4.out);(case s3=>repeat (first | exact (Kd.C_below HR0_8.out HB.out) | (with_reducible refine Kd.C_alloc ?_ _) | (with_reducible refine Kd.C_drewN ?_ _) | (with_reducible refine Kd.C_drew ?_)));(case s4=>exact HC0_8.out);rintro e w6 ⟨rfl,hb⟩;refine ⟨_,rfl,?_⟩;have n0_:=aM (blkB_ BK280.out hb);have n1_:=aM (below_step (z0_ HB.out GE280.out) hb);clear BK280;clear HB;have BK280:=n0_;have HB:=n1_;clear n0_ n1_;(try clear hb)))
  go_ret
  exact ⟨z6_,z0_ HB.out GE280.out⟩
 ·rw [if_neg c3] at H
  have c3b0:decide (t281<0)=false:=dF c3
  clear c3
  replace H:=bS H
  obtain ⟨⟨t282,t283,t284,t285,t286,t289,t290,t291,t292⟩,A70,H⟩:=H
  replace H:((Y0.f k t282 t283 t284 t285 t286 t289 t290 t291 t292).bind fun t295=>((Y9.f k a0_0 a0_1 a0_2 a0_3 l0_4 a0_5 a0_6 a0_7 l0_8).bind fun bt296=>((Y1.f k bt296.1 bt296.2.1 bt296.2.2.1 bt296.2.2.2.1 bt296.2.2.2.2.1 bt296.2.2.2.2.2.1 bt296.2.2.2.2.2.2.1 bt296.2.2.2.2.2.2.2.1 bt296.2.2.2.2.2.2.2.2).bind fun t310=>(if t310.toList=t295.toList then ((Y9.f k a0_0 a0_1 a0_2 a0_3 l0_4 a0_5 a0_6 a0_7 l0_8).bind fun bt311=>((Y12.f k bt296.1 bt296.2.1 bt296.2.2.1 bt296.2.2.2.1 bt296.2.2.2.2.1 bt296.2.2.2.2.2.1 bt296.2.2.2.2.2.2.1 bt296.2.2.2.2.2.2.2.1 bt296.2.2.2.2.2.2.2.2 bt311.1 bt311.2.1 bt311.2.2.1 bt311.2.2.2.1 bt311.2.2.2.2.1 bt311.2.2.2.2.2.1 bt311.2.2.2.2.2.2.1 bt311.2.2.2.2.2.2.2.1 bt311.2.2.2.2.2.2.2.2).bind fun t324=>(if t324=true then (some true) else (none)))) else (none)))))=some r:=H
  have A7:=aM A70
  clear A70
  replace H:=bS H
  obtain ⟨t295,A80,H⟩:=H
  replace H:((Y9.f k a0_0 a0_1 a0_2 a0_3 l0_4 a0_5 a0_6 a0_7 l0_8).bind fun bt296=>((Y1.f k bt296.1 bt296.2.1 bt296.2.2.1 bt296.2.2.2.1 bt296.2.2.2.2.1 bt296.2.2.2.2.2.1 bt296.2.2.2.2.2.2.1 bt296.2.2.2.2.2.2.2.1 bt296.2.2.2.2.2.2.2.2).bind fun t310=>(if t310.toList=t295.toList then ((Y9.f k a0_0 a0_1 a0_2 a0_3 l0_4 a0_5 a0_6 a0_7 l0_8).bind fun bt311=>((Y12.f k bt296.1 bt296.2.1 bt296.2.2.1 bt296.2.2.2.1 bt296.2.2.2.2.1 bt296.2.2.2.2.2.1 bt296.2.2.2.2.2.2.1 bt296.2.2.2.2.2.2.2.1 bt296.2.2.2.2.2.2.2.2 bt311.1 bt311.2.1 bt311.2.2.1 bt311.2.2.2.1 bt311.2.2.2.2.1 bt311.2.2.2.2.2.1 bt311.2.2.2.2.2.2.1 bt311.2.2.2.2.2.2.2.1 bt311.2.2.2.2.2.2.2.2).bind fun t324=>(if t324=true then (some true) else (none)))) else (none))))=some r:=H
  have A8:=aM A80
  clear A80
  replace H:=bS H
  obtain ⟨⟨t296,t297,t298,t299,t300,t303,t304,t305,t306⟩,A90,H⟩:=H
  replace H:((Y1.f k t296 t297 t298 t299 t300 t303 t304 t305 t306).bind fun t310=>(if t310.toList=t295.toList then ((Y9.f k a0_0 a0_1 a0_2 a0_3 l0_4 a0_5 a0_6 a0_7 l0_8).bind fun bt311=>((Y12.f k t296 t297 t298 t299 t300 t303 t304 t305 t306 bt311.1 bt311.2.1 bt311.2.2.1 bt311.2.2.2.1 bt311.2.2.2.2.1 bt311.2.2.2.2.2.1 bt311.2.2.2.2.2.2.1 bt311.2.2.2.2.2.2.2.1 bt311.2.2.2.2.2.2.2.2).bind fun t324=>(if t324=true then (some true) else (none)))) else (none)))=some r:=H
  have A9:=aM A90
  clear A90
  replace H:=bS H
  obtain ⟨t310,A100,H⟩:=H
  replace H:(if t310.toList=t295.toList then ((Y9.f k a0_0 a0_1 a0_2 a0_3 l0_4 a0_5 a0_6 a0_7 l0_8).bind fun bt311=>((Y12.f k t296 t297 t298 t299 t300 t303 t304 t305 t306 bt311.1 bt311.2.1 bt311.2.2.1 bt311.2.2.2.1 bt311.2.2.2.2.1 bt311.2.2.2.2.2.1 bt311.2.2.2.2.2.2.1 bt311.2.2.2.2.2.2.2.1 bt311.2.2.2.2.2.2.2.2).bind fun t324=>(if t324=true then (some true) else (none)))) else (none))=some r:=H
  have A10:=aM A100
  clear A100
  by_cases c11:t310.toList=t295.toList
  ·rw [if_pos c11] at H
   have c11b0:(t310.toList == t295.toList)=true:=beq_iff_eq.mpr c11
   have c11b1:(t310.toList != t295.toList)=false:=bne_eq_false_iff_eq.mpr c11
   clear c11
   replace H:=bS H
   obtain ⟨⟨t311,t312,t313,t314,t315,t318,t319,t320,t321⟩,A120,H⟩:=H
   replace H:((Y12.f k t296 t297 t298 t299 t300 t303 t304 t305 t306 t311 t312 t313 t314 t315 t318 t319 t320 t321).bind fun t324=>(if t324=true then (some true) else (none)))=some r:=H
   have A12:=aM A120
   clear A120
   replace H:=bS H
   obtain ⟨t324,A130,H⟩:=H
   replace H:(if t324=true then (some true) else (none))=some r:=H
   have A13:=aM A130
   clear A130
   by_cases c14:t324=true
   ·subst c14
    have H1:(some true)=some r:=by rw [if_pos rfl] at H;exact H
    clear H
    have H:=H1
    clear H1
    obtain rfl:=sI H
    go_enter Tryd.func4,Tryd.ntmps4
    try go_wp2_with (first | ((with_reducible refine gd_ 1 ?_);refine be_ 1 #[.int .i64 a0_0,.string a0_1,.bool a0_2,.int .i64 a0_3,.slice A0_4 l0_4.length c0_4,.string a0_5,.int .i64 a0_6,.int .i64 a0_7,.slice A0_8 l0_8.length c0_8] 34 ?_;intro gb280 hg w15 hbox hb;have n0_:=aM (below_step (z1_ HB.out) hb);have n1_:=aM (hbox);have n2_:=aM ((z5_ HB.out:w.heap.size≤gb280));have n3_:=aM ((z5_ HB.out:w.heap.size≤gb280));clear HB;have HB:=n0_;have BK280:=n1_;have GW280:=n2_;have GE280:=n3_;clear n0_ n1_ n2_ n3_;clear hb hbox hg;have ⟨hcz16_0,hcz16_1,hcz16_2,hcz16_3,hcz16_4,hcz16_5,hcz16_6,hcz16_7,hcz16_8,hfz16_0,hfz16_1,hfz16_2,hfz16_3,hfz16_4,hfz16_5,hfz16_6,hfz16_7,hfz16_8⟩:=cz9_ BK280.out) | ((with_reducible refine gc_ 9 ?_);refine gl_ (some 9) Tryd.func9 #[.agg #[.int .i64 a0_0,.string a0_1,.bool a0_2,.int .i64 a0_3,.slice A0_4 l0_4.length c0_4,.string a0_5,.int .i64 a0_6,.int .i64 a0_7,.slice A0_8 l0_8.length c0_8],.int .i64 1048576] ?_;(with_reducible refine (Y14.calls k a0_0 a0_1 a0_2 a0_3 _ _ l0_4 a0_5 a0_6 a0_7 _ _ l0_8 1048576 t281 _ ?s1 ?s2 ?s3 ?s4 A2.out).mono ?_);(case s1=>repeat (first | exact (Kd.C_below HR0_4.out HB.out) | (with_reducible refine Kd.C_alloc ?_ _) | (with_reducible refine Kd.C_drewN ?_ _) | (with_reducible refine Kd.C_drew ?_)));(case s2=>exact HC0_4.out);(case s3=>repeat (first | exact (Kd.C_below HR0_8.out HB.out) | (with_reducible refine Kd.C_alloc ?_ _) | (with_reducible refine Kd.C_drewN ?_ _) | (with_reducible refine Kd.C_drew ?_)));(case s4=>exact HC0_8.out);rintro e w17 ⟨rfl,hb⟩;refine ⟨_,rfl,?_⟩;have n0_:=aM (blkB_ BK280.out hb);have n1_:=aM (below_step (z0_ HB.out GE280.out) hb);clear BK280;clear HB;have BK280:=n0_;have HB:=n1_;clear n0_ n1_;(try clear hb);have ⟨hcz18_0,hcz18_1,hcz18_2,hcz18_3,hcz18_4,hcz18_5,hcz18_6,hcz18_7,hcz18_8,hfz18_0,hfz18_1,hfz18_2,hfz18_3,hfz18_4,hfz18_5,hfz18_6,hfz18_7,hfz18_8⟩:=cz9_ BK280.out) | ((with_reducible refine gc_ 11 ?_);refine gl_ (some 13) Tryd.func11 #[.agg #[.int .i64 a0_0,.string a0_1,.bool a0_2,.int .i64 a0_3,.slice A0_4 l0_4.length c0_4,.string a0_5,.int .i64 a0_6,.int .i64 a0_7,.slice A0_8 l0_8.length c0_8]] ?_;(with_reducible refine (Y9.calls k a0_0 a0_1 a0_2 a0_3 _ _ l0_4 a0_5 a0_6 a0_7 _ _ l0_8 t282 t283 t284 t285 t286 t289 t290 t291 t292 _ ?s1 ?s2 ?s3 ?s4 A7.out).mono ?_);(case s1=>repeat (first | exact (Kd.C_below HR0_4.out HB.out) | (with_reducible refine Kd.C_alloc ?_ _) | (with_reducible refine Kd.C_drewN ?_ _) | (with_reducible refine Kd.C_drew ?_)));(case s2=>exact HC0_4.out);(case s3=>repeat (first | exact (Kd.C_below HR0_8.out HB.out) | (with_reducible refine Kd.C_alloc ?_ _) | (with_reducible refine Kd.C_drewN ?_ _) | (with_reducible refine Kd.C_drew ?_)));(case s4=>exact HC0_8.out);rintro e w19 ⟨v287,v293,rfl,ho0,ho1,hb⟩;refine ⟨_,rfl,?_⟩;have n0_:=aM (Kd.R_lower ho0 (below_size (z0_ HB.out GE280.out)));have n1_:=aM (Kd.R_lower ho1 (below_size (z0_ HB.out GE280.out)));have n2_:=aM (blkB_ BK280.out hb);have n3_:=aM (below_step (z0_ HB.out GE280.out) hb);clear BK280;clear HB;have HO288:=n0_;have HO294:=n1_;have BK280:=n2_;have HB:=n3_;clear n0_ n1_ n2_ n3_;(try clear hb);(try clear ho0);(try clear ho1);obtain ⟨Ao20,co20,eo20⟩:=Kd.R_slice HO288.out;subst eo20;obtain ⟨Ao21,co21,eo21⟩:=Kd.R_slice HO294.out;subst eo21) | ((with_reducible refine gc_ 10 ?_);refine gl_ (some 14) Tryd.func10 #[.agg #[.int .i64 t282,.string t283,.bool t284,.int .i64 t285,.slice Ao20 t286.length co20,.string t289,.int .i64 t290,.int .i64 t291,.slice Ao21 t292.length co21]] ?_;(with_reducible refine (Y0.calls k t282 t283 t284 t285 _ _ t286 t289 t290 t291 _ _ t292 t295 _ ?s1 ?s2 ?s3 ?s4 A8.out).mono ?_);(case s1=>repeat (first | exact (Kd.R_reads' HO288.out).2.2 | (with_reducible refine Kd.C_alloc ?_ _) | (with_reducible refine Kd.C_drewN ?_ _) | (with_reducible refine Kd.C_drew ?_)));(case s2=>exact (Kd.R_reads' HO288.out).2.1);(case s3=>repeat (first | exact (Kd.R_reads' HO294.out).2.2 | (with_reducible refine Kd.C_alloc ?_ _) | (with_reducible refine Kd.C_drewN ?_ _) | (with_reducible refine Kd.C_drew ?_)));(case s4=>exact (Kd.R_reads' HO294.out).2.1);rintro e w22 ⟨rfl,hb⟩;refine ⟨_,rfl,?_⟩;have n0_:=aM (Kd.R_below (z3_ HO288.out) hb);have n1_:=aM (Kd.R_below (z3_ HO294.out) hb);have n2_:=aM (blkB_ BK280.out hb);have n3_:=aM (below_step (z0_ HB.out GE280.out) hb);clear HO288;clear HO294;clear BK280;clear HB;have HO288:=n0_;have HO294:=n1_;have BK280:=n2_;have HB:=n3_;clear n0_ n1_ n2_ n3_;(try clear hb);have ⟨hcz23_0,hcz23_1,hcz23_2,hcz23_3,hcz23_4,hcz23_5,hcz23_6,hcz23_7,hcz23_8,hfz23_0,hfz23_1,hfz23_2,hfz23_3,hfz23_4,hfz23_5,hfz23_6,hfz23_7,hfz23_8⟩:=cz9_ BK280.out) | ((with_reducible refine gc_ 11 ?_);refine gl_ (some 16) Tryd.func11 #[.agg #[.int .i64 a0_0,.string a0_1,.bool a0_2,.int .i64 a0_3,.slice A0_4 l0_4.length c0_4,.string a0_5,.int .i64 a0_6,.int .i64 a0_7,.slice A0_8 l0_8.length c0_8]] ?_;(with_reducible refine (Y9.calls k a0_0 a0_1 a0_2 a0_3 _ _ l0_4 a0_5 a0_6 a0_7 _ _ l0_8 t296 t297 t298 t299 t300 t303 t304 t305 t306 _ ?s1 ?s2 ?s3 ?s4 A9.out).mono ?_);(case s1=>repeat (first | exact (Kd.C_below HR0_4.out HB.out) | (with_reducible refine Kd.C_alloc ?_ _) | (with_reducible refine Kd.C_drewN ?_ _) | (with_reducible refine Kd.C_drew ?_)));(case s2=>exact HC0_4.out);(case s3=>repeat (first | exact (Kd.C_below HR0_8.out HB.out) | (with_reducible refine Kd.C_alloc ?_ _) | (with_reducible refine Kd.C_drewN ?_ _) | (with_reducible refine Kd.C_drew ?_)));(case s4=>exact HC0_8.out);rintro e w24 ⟨v301,v307,rfl,ho0,ho1,hb⟩;refine ⟨_,rfl,?_⟩;have n0_:=aM (Kd.R_elder' (z3_ HO288.out) (Kd.R_base ho0) hb);have n1_:=aM (Kd.R_elder' (z3_ HO294.out) (Kd.R_base ho1) hb);have n2_:=aM (Kd.R_lower (Kd.R_new' ho0 (Kd.R_lt (z3_ HO288.out))) (below_size (z0_ HB.out GE280.out)));have n3_:=aM (Kd.R_lower (Kd.R_new' ho1 (Kd.R_lt (z3_ HO294.out))) (below_size (z0_ HB.out GE280.out)));have n4_:=aM (blkB_ BK280.out hb);have n5_:=aM (below_step (z0_ HB.out GE280.out) hb);clear HO288;clear HO294;clear BK280;clear HB;have HO288:=n0_;have HO294:=n1_;have HO302:=n2_;have HO308:=n3_;have BK280:=n4_;have HB:=n5_;clear n0_ n1_ n2_ n3_ n4_ n5_;(try clear hb);(try clear ho0);(try clear ho1)) | ((with_reducible refine gd_ 5 ?_);refine be_ 5 #[.int .i64 0,.string (⟨#[]⟩:ByteArray),.bool false,.int .i64 0,.slice none 0 0,.string (⟨#[]⟩:ByteArray),.int .i64 0,.int .i64 0,.slice none 0 0] 40 ?_;intro gb309 hg w25 hbox hb;have n0_:=aM (Kd.R_below (z3_ HO288.out) hb);have n1_:=aM (Kd.R_below (z3_ HO294.out) hb);have n2_:=aM (Kd.R_below (z3_ HO302.out) hb);have n3_:=aM (Kd.R_below (z3_ HO308.out) hb);have n4_:=aM (blkB_ BK280.out hb);have n5_:=aM (below_step (z0_ HB.out GE280.out) hb);have n6_:=aM (hbox);have n7_:=aM ((z9_ HB.out GE280.out:w.heap.size≤gb309));have n8_:=aM ((z9_ HB.out GE280.out:w.heap.size≤gb309));have n9_:=aM (neL_ BK280.out hg);have n10_:=aM (neG_ BK280.out hg);clear HO288;clear HO294;clear HO302;clear HO308;clear BK280;clear HB;have HO288:=n0_;have HO294:=n1_;have HO302:=n2_;have HO308:=n3_;have BK280:=n4_;have HB:=n5_;have BK309:=n6_;have GW309:=n7_;have GE309:=n8_;have NB280_309:=n9_;have NB309_280:=n10_;clear n0_ n1_ n2_ n3_ n4_ n5_ n6_ n7_ n8_ n9_ n10_;clear hb hbox hg;have hnb26:=NB309_280.out;have hnc26:=NB280_309.out;have ⟨hcz27_0,hcz27_1,hcz27_2,hcz27_3,hcz27_4,hcz27_5,hcz27_6,hcz27_7,hcz27_8,hfz27_0,hfz27_1,hfz27_2,hfz27_3,hfz27_4,hfz27_5,hfz27_6,hfz27_7,hfz27_8⟩:=cz9_ BK309.out;obtain ⟨Ao28,co28,eo28⟩:=Kd.R_slice HO302.out;subst eo28;obtain ⟨Ao29,co29,eo29⟩:=Kd.R_slice HO308.out;subst eo29) | ((with_reducible refine gc_ 12 ?_);refine gl_ (some 18) Tryd.func12 #[.agg #[.int .i64 t296,.string t297,.bool t298,.int .i64 t299,.slice Ao28 t300.length co28,.string t303,.int .i64 t304,.int .i64 t305,.slice Ao29 t306.length co29]] ?_;(with_reducible refine (Y1.calls k t296 t297 t298 t299 _ _ t300 t303 t304 t305 _ _ t306 t310 _ ?s1 ?s2 ?s3 ?s4 A10.out (tab_below htab_ (z8_ HB.out GE280.out GE309.out))).mono ?_);(case s1=>refine (Kd.R_reads' (e:=9) (base:=w.heap.size) (ok:=fun k_=>(True∧some k_≠(.slice Ao20 t286.length co20:Value).ownBlock)) (n:=t300.length) (c:=co28) ?_).2.2;exact (z13_ HO302.out BK309.out));(case s2=>exact (Kd.R_reads' HO302.out).2.1);(case s3=>refine (Kd.R_reads' (e:=71) (base:=w.heap.size) (ok:=fun k_=>(True∧some k_≠(.slice Ao21 t292.length co21:Value).ownBlock)) (n:=t306.length) (c:=co29) ?_).2.2;exact (z13_ HO308.out BK309.out));(case s4=>exact (Kd.R_reads' HO308.out).2.1);rintro e w30 ⟨rfl,hb⟩;refine ⟨_,rfl,?_⟩;have n0_:=aM (Kd.R_below (z13_ HO288.out BK309.out) hb);have n1_:=aM (Kd.R_below (z13_ HO294.out BK309.out) hb);have n2_:=aM (Kd.R_below (z13_ HO302.out BK309.out) hb);have n3_:=aM (Kd.R_below (z13_ HO308.out BK309.out) hb);have n4_:=aM (blk_below (g:=gb280) (o:=.cells #[.int .i64 a0_0,.string a0_1,.bool a0_2,.int .i64 a0_3,.slice A0_4 l0_4.length c0_4,.string a0_5,.int .i64 a0_6,.int .i64 a0_7,.slice A0_8 l0_8.length c0_8] 34 (0,0)) (by (with_reducible repeat (first | refine blk_drewN ?_ _ | refine blk_drew ?_ | refine blk_alloc ?_ _));refine blk_far ?_ NB280_309.out _;(with_reducible repeat (first | refine blk_drewN ?_ _ | refine blk_drew ?_ | refine blk_alloc ?_ _));refine blk_far ?_ NB280_309.out _;(with_reducible repeat (first | refine blk_drewN ?_ _ | refine blk_drew ?_ | refine blk_alloc ?_ _));refine blk_far ?_ NB280_309.out _;(with_reducible repeat (first | refine blk_drewN ?_ _ | refine blk_drew ?_ | refine blk_alloc ?_ _));refine blk_far ?_ NB280_309.out _;(with_reducible repeat (first | refine blk_drewN ?_ _ | refine blk_drew ?_ | refine blk_alloc ?_ _));refine blk_far ?_ NB280_309.out _;(with_reducible repeat (first | refine blk_drewN ?_ _ | refine blk_drew ?_ | refine blk_alloc ?_ _));refine blk_far ?_ NB280_309.out _;(with_reducible repeat (first | refine blk_drewN ?_ _ | refine blk_drew ?_ | refine blk_alloc ?_ _));refine blk_far ?_ NB280_309.out _;(with_reducible repeat (first | refine blk_drewN ?_ _ | refine blk_drew ?_ | refine blk_alloc ?_ _));refine blk_far ?_ NB280_309.out _;(with_reducible repeat (first | refine blk_drewN ?_ _ | refine blk_drew ?_ | refine blk_alloc ?_ _));refine blk_far ?_ NB280_309.out _;(with_reducible repeat (first | refine blk_drewN ?_ _ | refine blk_drew ?_ | refine blk_alloc ?_ _));exact BK280.out) hb);have n5_:=aM (blk_below (g:=gb309) (o:=.cells #[.int .i64 t296,.string t297,.bool t298,.int .i64 t299,.slice Ao28 t300.length co28,.string t303,.int .i64 t304,.int .i64 t305,.slice Ao29 t306.length co29] 40 (0,0)) (by (with_reducible repeat (first | refine blk_drewN ?_ _ | refine blk_drew ?_ | refine blk_alloc ?_ _));apply put9_;(with_reducible repeat (first | refine blk_drewN ?_ _ | refine blk_drew ?_ | refine blk_alloc ?_ _));exact BK309.out) hb);have n6_:=aM (below_step (z8_ HB.out GE280.out GE309.out) hb);clear HO288;clear HO294;clear HO302;clear HO308;clear BK280;clear BK309;clear HB;have HO288:=n0_;have HO294:=n1_;have HO302:=n2_;have HO308:=n3_;have BK280:=n4_;have BK309:=n5_;have HB:=n6_;clear n0_ n1_ n2_ n3_ n4_ n5_ n6_;(try clear hb);(try clear hb2);(try clear hk);(try clear hi)))
    have n0_:=aM (Kd.R_drew HO288.out)
    have n1_:=aM (Kd.R_drew HO294.out)
    have n2_:=aM (Kd.R_drew HO302.out)
    have n3_:=aM (Kd.R_drew HO308.out)
    have n4_:=aM (blk_drew BK280.out)
    have n5_:=aM (blk_drew BK309.out)
    have n6_:=aM (below_drew1 HB.out)
    clear HO288
    clear HO294
    clear HO302
    clear HO308
    clear BK280
    clear BK309
    clear HB
    have HO288:=n0_
    have HO294:=n1_
    have HO302:=n2_
    have HO308:=n3_
    have BK280:=n4_
    have BK309:=n5_
    have HB:=n6_
    clear n0_ n1_ n2_ n3_ n4_ n5_ n6_
    refine start_ (n:=5) (S:=fun w'=>w'.cell? ⟨gb309,0,none⟩=some (.int .i64 t296)∧w'.cell? ⟨gb309,1,none⟩=some (.string t297)∧w'.cell? ⟨gb309,2,none⟩=some (.bool t298)∧w'.cell? ⟨gb309,3,none⟩=some (.int .i64 t299)∧w'.cell? ⟨gb309,4,none⟩=some (.slice Ao28 t300.length co28)∧w'.cell? ⟨gb309,5,none⟩=some (.string t303)∧w'.cell? ⟨gb309,6,none⟩=some (.int .i64 t304)∧w'.cell? ⟨gb309,7,none⟩=some (.int .i64 t305)∧w'.cell? ⟨gb309,8,none⟩=some (.slice Ao29 t306.length co29)∧w'.cell? ⟨gb280,0,none⟩=some (.int .i64 a0_0)∧w'.cell? ⟨gb280,1,none⟩=some (.string a0_1)∧w'.cell? ⟨gb280,2,none⟩=some (.bool a0_2)∧w'.cell? ⟨gb280,3,none⟩=some (.int .i64 a0_3)∧w'.cell? ⟨gb280,4,none⟩=some (.slice A0_4 l0_4.length c0_4)∧w'.cell? ⟨gb280,5,none⟩=some (.string a0_5)∧w'.cell? ⟨gb280,6,none⟩=some (.int .i64 a0_6)∧w'.cell? ⟨gb280,7,none⟩=some (.int .i64 a0_7)∧w'.cell? ⟨gb280,8,none⟩=some (.slice A0_8 l0_8.length c0_8)) (ds:=[]) #[O,O,O,O,O] (by kernel_rfl) rfl rfl (cj9_ BK309.out (cc9_ BK280.out)) (fun hHeld=>?_)
    generalize w30.drew=w31 at HO288 HO294 HO302 HO308 BK280 BK309 HB hHeld ⊢
    refine take_ (i:=0) (N:=some 22) (v:=?_) (a':=?_) #[I,O,O,O,O] rfl rfl (by kernel_rfl) (fun _ _ _ h=>h) (Or.inl ⟨by rfl,?_⟩) hHeld ?_ ?_
    rotate_left
    ·rintro w' ⟨s0,s1,s2,s3,s4,s5,s6,s7,s8,s9,s10,s11,s12,s13,s14,s15,s16,s17⟩
     go_simp
     with_reducible rfl
    rotate_left
    ·simp only [Act.put,sa_,s0_,ss_,i64_w,i32_w]
     rfl
    refine take_ (i:=1) (N:=some 23) (v:=?_) (a':=?_) #[I,I,O,O,O] rfl rfl (by kernel_rfl) (fun _ _ _ h=>h) (Or.inl ⟨by rfl,?_⟩) hHeld ?_ ?_
    rotate_left
    ·rintro w' ⟨s0,s1,s2,s3,s4,s5,s6,s7,s8,s9,s10,s11,s12,s13,s14,s15,s16,s17⟩
     go_simp
     with_reducible rfl
    rotate_left
    ·simp only [Act.put,sa_,s0_,ss_,i64_w,i32_w]
     rfl
    refine one_ (i:=2) (N:=some 24) #[I,I,I,O,O] rfl rfl (by kernel_rfl) (by decide) (fun K hK=>?_)
    refine gs_ Tryd.func11 #[.agg #[.int .i64 a0_0,.string a0_1,.bool a0_2,.int .i64 a0_3,.slice A0_4 l0_4.length c0_4,.string a0_5,.int .i64 a0_6,.int .i64 a0_7,.slice A0_8 l0_8.length c0_8]] ?_
    with_reducible refine (Y9.calls k a0_0 a0_1 a0_2 a0_3 _ _ l0_4 a0_5 a0_6 a0_7 _ _ l0_8 t311 t312 t313 t314 t315 t318 t319 t320 t321 _ ?s1 ?s2 ?s3 ?s4 A12.out).mono ?_
    (case s1=>repeat (first | exact (Kd.C_below HR0_4.out HB.out) | (with_reducible refine Kd.C_alloc ?_ _) | (with_reducible refine Kd.C_drewN ?_ _) | (with_reducible refine Kd.C_drew ?_)))
    (case s2=>exact HC0_4.out)
    (case s3=>repeat (first | exact (Kd.C_below HR0_8.out HB.out) | (with_reducible refine Kd.C_alloc ?_ _) | (with_reducible refine Kd.C_drewN ?_ _) | (with_reducible refine Kd.C_drew ?_)))
    (case s4=>exact HC0_8.out)
    rintro e w32 ⟨v316,v322,rfl,ho0,ho1,hb⟩
    refine ⟨_,rfl,?_⟩
    have n0_:=aM (Kd.R_elder' (z3_ HO288.out) (Kd.R_base ho0) hb)
    have n1_:=aM (Kd.R_elder' (z3_ HO294.out) (Kd.R_base ho1) hb)
    have n2_:=aM (Kd.R_elder' (z3_ HO302.out) (Kd.R_base ho0) hb)
    have n3_:=aM (Kd.R_elder' (z3_ HO308.out) (Kd.R_base ho1) hb)
    have n4_:=aM (Kd.R_lower (Kd.R_new' (Kd.R_new' ho0 (Kd.R_lt (z3_ HO288.out))) (Kd.R_lt (z3_ HO302.out))) (below_size (z8_ HB.out GE280.out GE309.out)))
    have n5_:=aM (Kd.R_lower (Kd.R_new' (Kd.R_new' ho1 (Kd.R_lt (z3_ HO294.out))) (Kd.R_lt (z3_ HO308.out))) (below_size (z8_ HB.out GE280.out GE309.out)))
    have n6_:=aM (blkB_ BK280.out hb)
    have n7_:=aM (blkB_ BK309.out hb)
    have n8_:=aM (below_step (z8_ HB.out GE280.out GE309.out) hb)
    clear HO288
    clear HO294
    clear HO302
    clear HO308
    clear BK280
    clear BK309
    clear HB
    have HO288:=n0_
    have HO294:=n1_
    have HO302:=n2_
    have HO308:=n3_
    have HO317:=n4_
    have HO323:=n5_
    have BK280:=n6_
    have BK309:=n7_
    have HB:=n8_
    clear n0_ n1_ n2_ n3_ n4_ n5_ n6_ n7_ n8_
    (try clear hb)
    (try clear ho0)
    (try clear ho1)
    obtain ⟨Ao33,co33,eo33⟩:=Kd.R_slice HO317.out
    (first | subst eo33 | (injection eo33 with f1_ f2_ f3_;have f4_:=f1_.symm;have f5_:=f3_.symm;clear f1_ f2_ f3_;subst f4_;subst f5_))
    obtain ⟨Ao34,co34,eo34⟩:=Kd.R_slice HO323.out
    (first | subst eo34 | (injection eo34 with f1_ f2_ f3_;have f4_:=f1_.symm;have f5_:=f3_.symm;clear f1_ f2_ f3_;subst f4_;subst f5_))
    refine hK.out _ _ (cj9_ BK309.out (cc9_ BK280.out)) (fun hHeld=>?_)
    clear hK K
    refine nm_ 24 ?_
    refine one_ (i:=3) (N:=some 25) #[I,I,I,I,O] rfl rfl (by kernel_rfl) (by decide) (fun K hK=>?_)
    refine gs_ Tryd.func13 #[.agg #[.int .i64 t296,.string t297,.bool t298,.int .i64 t299,.slice Ao28 t300.length co28,.string t303,.int .i64 t304,.int .i64 t305,.slice Ao29 t306.length co29],.agg #[.int .i64 t311,.string t312,.bool t313,.int .i64 t314,.slice Ao33 t315.length co33,.string t318,.int .i64 t319,.int .i64 t320,.slice Ao34 t321.length co34]] ?_
    with_reducible refine (Y12.calls k t296 t297 t298 t299 _ _ t300 t303 t304 t305 _ _ t306 t311 t312 t313 t314 _ _ t315 t318 t319 t320 _ _ t321 true _ ?s1 ?s2 ?s3 ?s4 ?s5 ?s6 ?s7 ?s8 A13.out).mono ?_
    (case s1=>repeat (first | exact (Kd.R_reads' HO302.out).2.2 | (with_reducible refine Kd.C_alloc ?_ _) | (with_reducible refine Kd.C_drewN ?_ _) | (with_reducible refine Kd.C_drew ?_)))
    (case s2=>exact (Kd.R_reads' HO302.out).2.1)
    (case s3=>repeat (first | exact (Kd.R_reads' HO308.out).2.2 | (with_reducible refine Kd.C_alloc ?_ _) | (with_reducible refine Kd.C_drewN ?_ _) | (with_reducible refine Kd.C_drew ?_)))
    (case s4=>exact (Kd.R_reads' HO308.out).2.1)
    (case s5=>repeat (first | exact (Kd.R_reads' HO317.out).2.2 | (with_reducible refine Kd.C_alloc ?_ _) | (with_reducible refine Kd.C_drewN ?_ _) | (with_reducible refine Kd.C_drew ?_)))
    (case s6=>exact (Kd.R_reads' HO317.out).2.1)
    (case s7=>repeat (first | exact (Kd.R_reads' HO323.out).2.2 | (with_reducible refine Kd.C_alloc ?_ _) | (with_reducible refine Kd.C_drewN ?_ _) | (with_reducible refine Kd.C_drew ?_)))
    (case s8=>exact (Kd.R_reads' HO323.out).2.1)
    rintro e w35 ⟨rfl,hb⟩
    refine ⟨_,rfl,?_⟩
    have n0_:=aM (Kd.R_below (z3_ HO288.out) hb)
    have n1_:=aM (Kd.R_below (z3_ HO294.out) hb)
    have n2_:=aM (Kd.R_below (z3_ HO302.out) hb)
    have n3_:=aM (Kd.R_below (z3_ HO308.out) hb)
    have n4_:=aM (Kd.R_below (z3_ HO317.out) hb)
    have n5_:=aM (Kd.R_below (z3_ HO323.out) hb)
    have n6_:=aM (blkB_ BK280.out hb)
    have n7_:=aM (blkB_ BK309.out hb)
    have n8_:=aM (below_step (z8_ HB.out GE280.out GE309.out) hb)
    clear HO288
    clear HO294
    clear HO302
    clear HO308
    clear HO317
    clear HO323
    clear BK280
    clear BK309
    clear HB
    have HO288:=n0_
    have HO294:=n1_
    have HO302:=n2_
    have HO308:=n3_
    have HO317:=n4_
    have HO323:=n5_
    have BK280:=n6_
    have BK309:=n7_
    have HB:=n8_
    clear n0_ n1_ n2_ n3_ n4_ n5_ n6_ n7_ n8_
    (try clear hb)
    refine hK.out _ _ (cj9_ BK309.out (cc9_ BK280.out)) (fun hHeld=>?_)
    clear hK K
    refine nm_ 25 ?_
    refine pure_ (i:=4) (N:=some 26) (v:=?_) (a':=?_) #[I,I,I,I,I] rfl rfl (by kernel_rfl) (fun _ _ _ h=>h) (Or.inl ⟨by rfl,?_⟩) ?_ ?_
    rotate_left
    ·intro w'
     go_simp
     with_reducible rfl
    rotate_left
    ·simp only [Act.put,sa_,s0_,ss_,i64_w,i32_w]
     rfl
    refine done_ (by kernel_rfl) ?_
    try go_wp2
    go_ret
    exact ⟨z6_,z8_ HB.out GE280.out GE309.out⟩
   ·replace c14:=Bool.eq_false_iff.mpr c14
    subst c14
    have H1:(none)=some r:=by rw [if_neg (show ¬ (false=true) by decide)] at H;exact H
    clear H
    have H:=H1
    clear H1
    exact nO H
  ·rw [if_neg c11] at H
   exact nO H

end Go.Proofs.YtffjlmmlclpcnaaDoor.P

namespace Go.Proofs.YtffjlmmlclpcnaaDoor.P
open Go.RowKit Go.Proofs.YtffjlmmlclpcnaaDoor.RO
def Y10.Pure:Prop:=∀ (x0:S34),wfT34 x0→∃ k,Y10.f k x0.f0 x0.f1 x0.f2 x0.f3 x0.f4 x0.f5 x0.f6.f0 x0.f6.f1 x0.f7=some true
end Go.Proofs.YtffjlmmlclpcnaaDoor.P

namespace Go.Proofs.YtffjlmmlclpcnaaDoor.Q
open Go.RowKit Go.Proofs.YtffjlmmlclpcnaaDoorW.PrintWords Go.Proofs.YtffjlmmlclpcnaaDoorW.PrintMore

theorem w64 {x:Int} (h0 : -9223372036854775808≤x) (h1:x≤9223372036854775807):wrap64 x=x:=by unfold wrap64;omega
theorem wf64 {n:Int} (h:(Lit.int .i64 n).wf=true) : -9223372036854775808≤n∧n≤9223372036854775807:=by
  simp only [Lit.wf,IntKind.min,IntKind.max,IntKind.signed,IntKind.bits,Bool.and_eq_true,decide_eq_true_eq,if_true] at h
  omega
theorem evPos {α:Type} {c:Prop} [Decidable c] {f g:Nat→Option α} {r:α} (hc:c) (h:Ev f r):Ev (fun k=>if c then f k else g k) r:=by
  simp only [if_pos hc];exact h
theorem evNeg {α:Type} {c:Prop} [Decidable c] {f g:Nat→Option α} {r:α} (hc:¬ c) (h:Ev g r):Ev (fun k=>if c then f k else g k) r:=by
  simp only [if_neg hc];exact h
theorem evBind1 {α β:Type} {g:Option α} {f:Nat→α→Option β} {a:α} {r:β} (h:g=some a) (k:Ev (fun n=>f n a) r):Ev (fun n=>g.bind (f n)) r:=by
  subst h;exact k
theorem dropCons {α:Type} {l:List α} {i:Nat} {a:α} {s:List α} (h:l.drop i=a :: s) (d:α):i<l.length∧l.getD i d=a∧l.drop (i+1)=s:=by
  have hl:i<l.length:=by
    have:=congrArg List.length h
    simp at this;omega
  rw [List.drop_eq_getElem_cons hl] at h
  injection h with h1 h2
  exact ⟨hl,by rw [List.getD_eq_getElem?_getD,List.getElem?_eq_getElem hl];exact h1,h2⟩
theorem dropNil {α:Type} {l:List α} {i:Nat} (h:l.drop i=[]):l.length≤i:=by
  have:=congrArg List.length h
  simp at this;omega
theorem dropNil' {α:Type} {l:List α} {i:Nat} (h:l.drop i=[]) (hi:i≤l.length):l.length=i:=by
  have:=dropNil h;omega
end Go.Proofs.YtffjlmmlclpcnaaDoor.Q

namespace Go.Proofs.YtffjlmmlclpcnaaDoor.P
open Go.RowKit Go.Proofs.YtffjlmmlclpcnaaDoorW.PrintWords Go.Proofs.YtffjlmmlclpcnaaDoorW.PrintLast Go.Proofs.YtffjlmmlclpcnaaDoorW.PrintMore
attribute [local go_sem] max2_int min2_int max_two min_two max_three min_three max_four min_four   -- for this text's walks alone
set_option linter.unusedVariables false
set_option linter.unusedSimpArgs false

/-! ### Y22: function 31 -/
def Y22.f (a0:Int) (a1:Int) (a2:Int):Option (Bool):=if a0≥a1 then (some (decide (a0≤a2))) else (some false)

/-! ### Y21: function 35 -/
def Y21.f (a0:Int) (a1:Int) (a2:Int):Option (Bool):=if a1≤a0 then (some (decide (a0≤a2))) else (some false)
end Go.Proofs.YtffjlmmlclpcnaaDoor.P

namespace Go.Proofs.YtffjlmmlclpcnaaDoor.Q
open Go.RowKit Go.Proofs.YtffjlmmlclpcnaaDoor.P Go.Proofs.YtffjlmmlclpcnaaDoorW.PrintWords Go.Proofs.YtffjlmmlclpcnaaDoorW.PrintMore

theorem toList_loop (b:ByteArray):∀ (n i:Nat) (r:List UInt8),b.size-i=n→ByteArray.toList.loop b i r=r.reverse ++ b.data.toList.drop i:=by
  intro n
  induction n with
  | zero =>
    intro i r h
    unfold ByteArray.toList.loop
    have hs:b.data.toList.length=b.size:=by rw [Array.length_toList];rfl
    rw [if_neg (by omega),List.drop_of_length_le (by omega),List.append_nil]
  | succ n ih =>
    intro i r h
    unfold ByteArray.toList.loop
    have hs:b.data.toList.length=b.size:=by rw [Array.length_toList];rfl
    rw [if_pos (by omega),ih (i+1) _ (by omega),List.drop_eq_getElem_cons (i:=i) (by omega)]
    have:b.get! i=b.data.toList[i]'(by omega):=by
      have hi:i<b.data.size:=by rw [← Array.length_toList];omega
      show b.data[i]! = _
      rw [getElem!_pos b.data i hi]
      simp
    simp [this]
theorem toList_data (b:ByteArray):b.toList=b.data.toList:=by
  unfold ByteArray.toList
  rw [toList_loop b _ 0 [] rfl]
  simp
theorem toList_inj {a b:ByteArray} (h:a.toList=b.toList):a=b:=by
  rw [toList_data,toList_data] at h
  obtain ⟨a⟩:=a
  obtain ⟨b⟩:=b
  simp only [ByteArray.mk.injEq]
  exact Array.toList_inj.1 h
end Go.Proofs.YtffjlmmlclpcnaaDoor.Q

namespace Go.Proofs.YtffjlmmlclpcnaaDoor.Q
open Go.RowKit Go.Proofs.YtffjlmmlclpcnaaDoor.P Go.Proofs.YtffjlmmlclpcnaaDoorW.PrintWords Go.Proofs.YtffjlmmlclpcnaaDoorW.PrintMore

def numText (n:Int):ByteArray:=⟨(Lib.itoa n).toArray⟩
theorem digits_len:∀ (j u:Nat),u<10 ^ (j+1)→(Lib.decDigits u).length≤j+1
  | 0,u,h=>by rw [Lib.decDigits_one (by simpa using h)];simp
  | j+1,u,h=>by
    by_cases hu:u<10
    · rw [Lib.decDigits_one hu];simp
    · rw [Lib.decDigits,dif_neg hu,List.length_append]
      have:=digits_len j (u / 10) (by rw [Nat.pow_succ] at h;omega)
      simp only [List.length_cons,List.length_nil]
      omega
theorem numText_size {n:Int} (h0:0≤n) (h1:n≤9223372036854775807):(numText n).size≤19:=by
  have h:=digits_len 18 n.toNat (by have:(10:Nat) ^ (18+1)=10000000000000000000:=rfl;omega)
  unfold numText Lib.itoa
  rw [if_neg (by omega)]
  show (Lib.decDigits n.toNat).toArray.size≤19
  rw [List.size_toArray]
  exact h
theorem strOne (d:Nat) (hd:d<10):strOfNums ([(48+(d:Int)) % 256]:List Int)=⟨#[UInt8.ofNat (48+d)]⟩:=by
  obtain rfl | rfl | rfl | rfl | rfl | rfl | rfl | rfl | rfl | rfl:d=0∨d=1∨d=2∨d=3∨d=4∨d=5∨d=6∨d=7∨d=8∨d=9:=by omega
  all_goals rfl
theorem dec_l0:∀ (j x:Nat) (t:ByteArray),x<10 ^ j→j≤20→x≤9223372036854775807→t.size+j≤1000 →
    Ev (fun k=>Y4.l0 k (x:Int) false t) (if x=0 then t else (⟨(Lib.decDigits x).toArray⟩:ByteArray) ++ t)
  | 0,x,t,h,_,_,_=>by
    have:x=0:=by simpa using h
    subst this
    exact Ev.step (f:=fun _=>some t) (fun k=>by simp [Y4.l0]) (Ev.now _)
  | j+1,x,t,h,hj,hx,ht=>by
    by_cases h0:x=0
    · subst h0
      exact Ev.step (f:=fun _=>some t) (fun k=>by simp [Y4.l0]) (Ev.now _)
    · rw [if_neg h0]
      have hd:Int.tmod (x:Int) 10=((x % 10:Nat):Int):=by rw [Int.tmod_eq_emod_of_nonneg (by omega)];omega
      have hq:Int.tdiv (x:Int) 10=((x / 10:Nat):Int):=by rw [Int.tdiv_eq_ediv_of_nonneg (by omega)];omega
      have hs:=strOne (x % 10) (by omega)
      have hsz:(strOfNums ([(wrap64 (48+Int.tmod (x:Int) 10)) % 256]:List Int)).size=1:=rfl
      have e:strOfNums ([(wrap64 (48+Int.tmod (x:Int) 10)) % 256]:List Int)=⟨#[UInt8.ofNat (48+x % 10)]⟩:=by rw [hd,w64 (by omega) (by omega)];exact hs
      have ih:=dec_l0 j (x / 10) ((⟨#[UInt8.ofNat (48+x % 10)]⟩:ByteArray) ++ t) (by rw [Nat.pow_succ] at h;omega) (by omega) (by omega) (by rw [ByteArray.size_append];show 1+t.size+j≤1000;omega)
      have er:(if x / 10=0 then (⟨#[UInt8.ofNat (48+x % 10)]⟩:ByteArray) ++ t else (⟨(Lib.decDigits (x / 10)).toArray⟩:ByteArray) ++ ((⟨#[UInt8.ofNat (48+x % 10)]⟩:ByteArray) ++ t))=(⟨(Lib.decDigits x).toArray⟩:ByteArray) ++ t:=by
        by_cases hu:x<10
        · rw [if_pos (by omega),Lib.decDigits_one hu,Nat.mod_eq_of_lt hu]
        · rw [if_neg (by omega),show Lib.decDigits x=Lib.decDigits (x / 10) ++ [UInt8.ofNat (48+x % 10)] from by rw [Lib.decDigits,dif_neg hu],← ByteArray.append_assoc]
          have e3:(⟨(Lib.decDigits (x / 10) ++ [UInt8.ofNat (48+x % 10)]).toArray⟩:ByteArray)=(⟨(Lib.decDigits (x / 10)).toArray⟩:ByteArray) ++ (⟨#[UInt8.ofNat (48+x % 10)]⟩:ByteArray):=by
            apply ByteArray.ext
            rw [ByteArray.data_append]
            simp
          rw [e3]
      rw [er] at ih
      refine Ev.step (fun k=>?_) ih
      simp only [Y4.l0]
      rw [if_neg (by omega),if_neg (by omega),Option.bind_some,if_pos (by rw [hsz];omega),e,hq,w64 (by omega) (by omega)]
theorem l01Dec_ev (n:Int) (h0:0≤n) (h1:n≤9223372036854775807):Ev (fun k=>Y4.f k n) (numText n):=by
  unfold Y4.f
  by_cases hz:n=0
  · subst hz
    exact evPos rfl (by have:numText 0=⟨#[48]⟩:=(by unfold numText Lib.itoa;rw [if_neg (by omega),Lib.decDigits_one (by decide)];rfl);rw [this];exact Ev.now _)
  · refine evNeg hz ?_
    rw [decide_eq_false (by omega)]
    obtain ⟨x,rfl⟩:=Int.eq_ofNat_of_zero_le h0
    have h:=dec_l0 19 x ⟨#[]⟩ (by have:(10:Nat) ^ 19=10000000000000000000:=rfl;omega) (by omega) (by omega) (by decide)
    rw [if_neg (by omega)] at h
    have e:(⟨(Lib.decDigits x).toArray⟩:ByteArray) ++ (⟨#[]⟩:ByteArray)=numText (x:Int):=by
      unfold numText Lib.itoa
      rw [if_neg (by omega),Int.toNat_natCast]
      apply ByteArray.ext
      rw [ByteArray.data_append]
      simp
    rw [e] at h
    exact h
end Go.Proofs.YtffjlmmlclpcnaaDoor.Q

namespace Go.Proofs.YtffjlmmlclpcnaaDoor.Q
open Go.RowKit Go.Proofs.YtffjlmmlclpcnaaDoor.P Go.Proofs.YtffjlmmlclpcnaaDoorW.PrintWords Go.Proofs.YtffjlmmlclpcnaaDoorW.PrintMore

abbrev LAsk:=S70
abbrev Ask:=S71
def tot:List ByteArray→Nat
  | []=>0
  | a :: s=>a.size+tot s
theorem szStr_l0 (l:List ByteArray) (hl:l.length≤1048576) (hs:∀ a ∈ l,a.size≤9223372036854775807):∀ (s:List ByteArray) (i:Nat),l.drop i=s→i≤l.length→∀ n:Int,0≤n→n≤1048576 →
    ∃ r,Ev (fun k=>Y3.l0 k l n (i:Int)) r∧r≤1048576∧(¬ r<0→(tot s:Int)≤n)
  | [],i,h,hi,n,h0,h1=>by
    have:=dropNil' h hi
    refine ⟨n,Ev.step (f:=fun _=>some n) (fun k=>?_) (Ev.now _),h1,fun _=>by simp [tot,h0]⟩
    simp only [Y3.l0]
    rw [if_neg (by omega)]
  | a :: s,i,h,hi,n,h0,h1=>by
    obtain ⟨g1,g2,g3⟩:=dropCons h ByteArray.empty
    have ha:a.size≤9223372036854775807:=hs a (List.mem_of_mem_drop (i:=i) (by rw [h];exact List.mem_cons_self ..))
    have hr:rdOf ByteArray.empty l (i:Int)=a:=by simpa [rdOf] using g2
    by_cases hn:n-(a.size:Int)<0
    · refine ⟨-1,Ev.step (f:=fun _=>some (-1)) (fun k=>?_) (Ev.now _),by omega,fun h=>absurd h (by omega)⟩
      simp only [Y3.l0,hr]
      rw [if_pos (by omega),if_pos (by omega),w64 (by omega) (by omega),if_pos hn]
    · obtain ⟨r,e1,e2,e3⟩:=szStr_l0 l hl hs s (i+1) g3 (by omega) (n-(a.size:Int)) (by omega) (by omega)
      refine ⟨r,Ev.step (fun k=>?_) e1,e2,fun h=>by have:=e3 h;simp only [tot];omega⟩
      simp only [Y3.l0,hr]
      rw [if_pos (by omega),if_pos (by omega),w64 (x:=n-(a.size:Int)) (by omega) (by omega),if_neg hn,w64 (by omega) (by omega)]
      rfl
theorem szStr_ev (l:List ByteArray) (hl:l.length≤9223372036854775807) (hs:∀ a ∈ l,a.size≤9223372036854775807) (n:Int) (h0:0≤n) (h1:n≤1048576) :
    ∃ r,Ev (fun k=>Y3.f k l n) r∧r≤1048576∧(¬ r<0→l.length≤1048576∧tot l≤1048576):=by
  unfold Y3.f
  rw [w64 (by omega) (by omega)]
  by_cases hn:n-(l.length:Int)<0
  · exact ⟨-1,evPos hn (Ev.now _),by omega,fun h=>absurd h (by omega)⟩
  · obtain ⟨r,e1,e2,e3⟩:=szStr_l0 l (by omega) hs l 0 rfl (by omega) (n-(l.length:Int)) (by omega) (by omega)
    exact ⟨r,evNeg hn e1,e2,fun h=>⟨by omega,by have:=e3 h;omega⟩⟩
theorem szAsk_is (x:LAsk) (n:Int) (h0:0≤n) (h1:n≤1048576) (hs:x.f3.size≤9223372036854775807) :
    Y17.f x.f0 x.f1 x.f2 x.f3 n=some (if n-(x.f3.size:Int)<0 then -1 else n-(x.f3.size:Int)):=by
  unfold Y17.f
  rw [w64 (by omega) (by omega)]
  split <;> rfl
theorem szAskS_l0 (l:List LAsk) (hl:l.length≤1048576) (hs:∀ a ∈ l,a.f3.size≤9223372036854775807):∀ (s:List LAsk) (i:Nat),l.drop i=s→i≤l.length→∀ n:Int,0≤n→n≤1048576 →
    ∃ r,Ev (fun k=>Y8.l0 k l n (i:Int)) r∧r≤1048576
  | [],i,h,hi,n,h0,h1=>by
    have:=dropNil' h hi
    refine ⟨n,Ev.step (f:=fun _=>some n) (fun k=>?_) (Ev.now _),h1⟩
    simp only [Y8.l0]
    rw [if_neg (by omega)]
  | a :: s,i,h,hi,n,h0,h1=>by
    obtain ⟨g1,g2,g3⟩:=dropCons h z70
    have ha:=hs a (List.mem_of_mem_drop (i:=i) (by rw [h];exact List.mem_cons_self ..))
    have hr:rd_T70 l (i:Int)=a:=by simpa [rd_T70] using g2
    have hz:=szAsk_is a n h0 h1 ha
    by_cases hn:n-(a.f3.size:Int)<0
    · refine ⟨-1,Ev.step (f:=fun _=>some (-1)) (fun k=>?_) (Ev.now _),by omega⟩
      simp only [Y8.l0,hr,hz,Option.bind_some]
      rw [if_pos (by omega),if_pos (by omega),if_pos hn,if_pos (by omega)]
    · obtain ⟨r,e1,e2⟩:=szAskS_l0 l hl hs s (i+1) g3 (by omega) (n-(a.f3.size:Int)) (by omega) (by omega)
      refine ⟨r,Ev.step (fun k=>?_) e1,e2⟩
      simp only [Y8.l0,hr,hz,Option.bind_some]
      rw [if_pos (by omega),if_pos (by omega),if_neg hn,if_neg (by omega),w64 (by omega) (by omega)]
      rfl
theorem szAskS_ev (l:List LAsk) (hl:l.length≤9223372036854775807) (hs:∀ a ∈ l,a.f3.size≤9223372036854775807) (n:Int) (h0:0≤n) (h1:n≤1048576) :
    ∃ r,Ev (fun k=>Y8.f k l n) r∧r≤1048576∧(¬ r<0→l.length≤1048576):=by
  unfold Y8.f
  rw [w64 (by omega) (by omega)]
  by_cases hn:n-(l.length:Int)<0
  · exact ⟨-1,evPos hn (Ev.now _),by omega,fun h=>absurd h (by omega)⟩
  · obtain ⟨r,e1,e2⟩:=szAskS_l0 l (by omega) hs l 0 rfl (by omega) (n-(l.length:Int)) (by omega) (by omega)
    exact ⟨r,evNeg hn e1,e2,fun h=>by omega⟩
theorem toStr_l0 (l:List ByteArray) (hl:l.length≤1048576):∀ (s:List ByteArray) (i:Nat),l.drop i=s→i≤l.length→∀ (acc:List ByteArray),acc.length=l.length→acc.take i=l.take i →
    Ev (fun k=>Y5.l0 k l acc (i:Int)) l
  | [],i,h,hi,acc,ha,hc=>by
    have:=dropNil' h hi
    refine Ev.step (f:=fun _=>some l) (fun k=>?_) (Ev.now _)
    simp only [Y5.l0]
    rw [if_neg (by omega)]
    rw [← this,List.take_of_length_le (by omega),List.take_length] at hc
    rw [hc]
  | m :: s,i,h,hi,acc,ha,hc=>by
    obtain ⟨h1,h2,h3⟩:=dropCons h ByteArray.empty
    have hr:rdOf ByteArray.empty l (i:Int)=m:=by simpa [rdOf] using h2
    have hm:l[i]'h1=m:=by
      rw [List.getD_eq_getElem?_getD,List.getElem?_eq_getElem h1] at h2;exact h2
    refine Ev.step (fun k=>?_) (toStr_l0 l hl s (i+1) h3 (by omega) (acc.set i m) (by simpa using ha) (by
      rw [List.take_succ_eq_append_getElem (by simp;omega),List.take_succ_eq_append_getElem h1,List.take_set_of_le (by omega),hc]
      simp [hm]))
    simp only [Y5.l0,hr,Int.toNat_natCast]
    rw [if_pos (by omega),if_pos (by omega),if_pos (by omega),w64 (by omega) (by omega)]
    rfl
theorem toStr_ev (l:List ByteArray) (hl:l.length≤1048576):Ev (fun k=>Y5.f k l) l:=by
  unfold Y5.f
  refine evPos (by omega) (evPos (by omega) ?_)
  exact toStr_l0 l hl l 0 rfl (by omega) _ (by simp) (by simp)
def toAsk (m:LAsk):Ask:=⟨m.f0,m.f1,m.f2,m.f3⟩
theorem toAskS_l0 (l:List LAsk) (hl:l.length≤1048576):∀ (s:List LAsk) (i:Nat),l.drop i=s→i≤l.length→∀ (acc:List Ask),acc.length=l.length→acc.take i=(l.take i).map toAsk →
    Ev (fun k=>Y7.l0 k l acc (i:Int)) (l.map toAsk)
  | [],i,h,hi,acc,ha,hc=>by
    have:=dropNil' h hi
    refine Ev.step (f:=fun _=>some (l.map toAsk)) (fun k=>?_) (Ev.now _)
    simp only [Y7.l0]
    rw [if_neg (by omega)]
    rw [← this,List.take_of_length_le (by omega),List.take_length] at hc
    rw [hc]
  | m :: s,i,h,hi,acc,ha,hc=>by
    obtain ⟨h1,h2,h3⟩:=dropCons h z70
    have hr:rd_T70 l (i:Int)=m:=by simpa [rd_T70] using h2
    have hm:l[i]'h1=m:=by
      rw [List.getD_eq_getElem?_getD,List.getElem?_eq_getElem h1] at h2;exact h2
    refine Ev.step (fun k=>?_) (toAskS_l0 l hl s (i+1) h3 (by omega) (acc.set i (toAsk m)) (by simpa using ha) (by
      rw [List.take_succ_eq_append_getElem (by simp;omega),List.take_succ_eq_append_getElem h1,List.map_append,List.take_set_of_le (by omega),hc]
      simp [hm]))
    simp only [Y7.l0,Y20.f,hr,Option.bind_some,Int.toNat_natCast]
    rw [if_pos (by omega),if_pos (by omega),if_pos (by omega),w64 (by omega) (by omega)]
    rfl
theorem toAskS_ev (l:List LAsk) (hl:l.length≤1048576):Ev (fun k=>Y7.f k l) (l.map toAsk):=by
  unfold Y7.f
  refine evPos (by omega) (evPos (by omega) ?_)
  exact toAskS_l0 l hl l 0 rfl (by omega) _ (by simp) (by simp)
theorem eqStr_l0 (l:List ByteArray) (hl:l.length≤1048576):∀ (s:List ByteArray) (i:Nat),l.drop i=s→i≤l.length →
    Ev (fun k=>Y6.l0 k l l (i:Int)) true
  | [],i,h,hi=>by
    have:=dropNil' h hi
    refine Ev.step (f:=fun _=>some true) (fun k=>?_) (Ev.now _)
    simp only [Y6.l0]
    rw [if_neg (by omega)]
  | m :: s,i,h,hi=>by
    obtain ⟨h1,h2,h3⟩:=dropCons h ByteArray.empty
    refine Ev.step (fun k=>?_) (eqStr_l0 l hl s (i+1) h3 (by omega))
    simp only [Y6.l0]
    rw [if_pos (by omega),if_pos (by omega),if_pos (by omega),if_pos trivial,w64 (by omega) (by omega)]
    rfl
theorem eqStr_ev (l:List ByteArray) (hl:l.length≤1048576):Ev (fun k=>Y6.f k l l) true:=by
  unfold Y6.f
  exact evPos rfl (eqStr_l0 l hl l 0 rfl (by omega))
theorem eqAsk_refl (a b:Int) (c:Bool) (d:ByteArray):Y19.f a b c d a b c d=some true:=by simp [Y19.f]
theorem eqAskS_l0 (l:List Ask) (hl:l.length≤1048576):∀ (s:List Ask) (i:Nat),l.drop i=s→i≤l.length →
    Ev (fun k=>Y2.l0 k l l (i:Int)) true
  | [],i,h,hi=>by
    have:=dropNil' h hi
    refine Ev.step (f:=fun _=>some true) (fun k=>?_) (Ev.now _)
    simp only [Y2.l0]
    rw [if_neg (by omega)]
  | m :: s,i,h,hi=>by
    obtain ⟨h1,h2,h3⟩:=dropCons h z71
    refine Ev.step (fun k=>?_) (eqAskS_l0 l hl s (i+1) h3 (by omega))
    simp only [Y2.l0,eqAsk_refl,Option.bind_some]
    rw [if_pos (by omega),if_pos (by omega),if_pos (by omega),if_pos trivial,w64 (by omega) (by omega)]
    rfl
theorem eqAskS_ev (l:List Ask) (hl:l.length≤1048576):Ev (fun k=>Y2.f k l l) true:=by
  unfold Y2.f
  exact evPos rfl (eqAskS_l0 l hl l 0 rfl (by omega))
theorem toSay_ev (a0:Int) (a1:ByteArray) (a2:Bool) (a3:Int) (l4:List ByteArray) (a5:ByteArray) (a6 a7:Int) (l8:List LAsk) (h4:l4.length≤1048576) (h8:l8.length≤1048576) :
    Ev (fun k=>Y9.f k a0 a1 a2 a3 l4 a5 a6 a7 l8) (a0,a1,a2,a3,l4,a5,a6,a7,l8.map toAsk):=by
  unfold Y9.f
  exact Ev.bind (toStr_ev l4 h4) (evBind1 rfl (Ev.bind (toAskS_ev l8 h8) (Ev.now _)))
theorem eqSay_ev (a0:Int) (a1:ByteArray) (a2:Bool) (a3:Int) (l4:List ByteArray) (a5:ByteArray) (a6 a7:Int) (l8:List Ask) (h4:l4.length≤1048576) (h8:l8.length≤1048576) :
    Ev (fun k=>Y12.f k a0 a1 a2 a3 l4 a5 a6 a7 l8 a0 a1 a2 a3 l4 a5 a6 a7 l8) true:=by
  unfold Y12.f
  refine evPos rfl (evPos rfl (evNeg (by simp) (evPos rfl (Ev.bind (eqStr_ev l4 h4) (evPos rfl (evPos rfl (evBind1 (a:=true) (by simp [Y16.f]) (evPos rfl (Ev.bind (eqAskS_ev l8 h8) (evPos rfl (Ev.now _)))))))))))

/-! the texts -/
def valsOf (l:List ByteArray):List UInt8:=Lib.join (l.map (·.data.toList)) [44]
def dashText (l:List ByteArray):ByteArray:=if l.length=0 then ⟨#[45]⟩ else ⟨(valsOf l).toArray⟩
theorem lens_tot (l:List ByteArray):Lib.lens (l.map (·.data.toList))=tot l:=by
  induction l with
  | nil=>rfl
  | cons a s ih =>
    simp only [Lib.lens,List.map_cons,List.sum_cons,tot] at ih ⊢
    rw [ih];rfl
theorem vals_len (l:List ByteArray) (hl:l.length≤1048576) (ht:tot l≤1048576):(valsOf l).length≤2097152:=by
  unfold valsOf
  cases l with
  | nil=>simp [Lib.join_nil]
  | cons a s =>
    have h2:=lens_tot (a :: s)
    rw [List.map_cons] at h2
    rw [List.map_cons,Lib.join_length,h2]
    simp only [List.length_cons,List.length_nil,List.length_map] at hl ⊢
    omega
theorem dash_is (l:List ByteArray) (hl:l.length≤1048576) (ht:tot l≤1048576):Y15.f l=some (dashText l):=by
  unfold Y15.f dashText
  have:=vals_len l hl ht
  unfold valsOf at this
  split
  · rfl
  · rw [if_pos ⟨by omega,by omega⟩];rfl
theorem dash_size (l:List ByteArray) (hl:l.length≤1048576) (ht:tot l≤1048576):(dashText l).size≤2097152:=by
  unfold dashText
  have:=vals_len l hl ht
  split
  · decide
  · show (valsOf l).toArray.size≤_
    rw [List.size_toArray];exact this
def nums (l:List UInt8):List Int:=l.map fun b=>(b.toNat:Int)
theorem nums_back (l:List UInt8):strOfNums (nums l)=⟨l.toArray⟩:=by
  unfold strOfNums nums
  congr 1
  simp only [List.map_map]
  rw [show l.map ((fun n:Int=>UInt8.ofNat n.toNat) ∘ fun b:UInt8=>(b.toNat:Int))=l.map id from List.map_congr_left (fun b _=>by simp),List.map_id]
theorem bytesOf_nums (a:ByteArray):bytesOf a=nums a.data.toList:=rfl
theorem say_l0 (x3:ByteArray) (hx:x3.size≤100) (a0:Int) (a1:ByteArray) (a2:Bool) (a3:Int) (l:List ByteArray) (a5:ByteArray) (a6 a7:Int) (l8:List Ask) (hl:l.length≤1048576) (ht:tot l≤1048576) :
    ∀ (s:List ByteArray) (i:Nat),l.drop i=s→i≤l.length→0<i→∀ pre:List UInt8,pre.length+s.length+tot s≤3000000 →
    Ev (fun k=>Y0.l0 k x3 (nums pre) (i:Int) a0 a1 a2 a3 l a5 a6 a7 l8) ((x3 ++ (⟨#[58]⟩:ByteArray)) ++ (⟨(pre ++ Lib.joinTail [44] (s.map (·.data.toList))).toArray⟩:ByteArray))
  | [],i,h,hi,h0,pre,hp=>by
    have:=dropNil' h hi
    have hz:(strOfNums (nums pre)).size=pre.length:=by rw [nums_back];show pre.toArray.size=_;rw [List.size_toArray]
    refine Ev.step (f:=fun _=>some ((x3 ++ (⟨#[58]⟩:ByteArray)) ++ (⟨pre.toArray⟩:ByteArray))) (fun k=>?_) (by simpa [Lib.joinTail] using Ev.now ((x3 ++ (⟨#[58]⟩:ByteArray)) ++ (⟨pre.toArray⟩:ByteArray)))
    simp only [Y0.l0]
    simp only [List.length_nil] at hp
    rw [if_neg (by omega),if_neg (by omega),if_pos (by omega),if_pos (by rw [hz];omega),nums_back]
  | a :: s,i,h,hi,h0,pre,hp=>by
    obtain ⟨g1,g2,g3⟩:=dropCons h ByteArray.empty
    have hr:rdOf ByteArray.empty l (i:Int)=a:=by simpa [rdOf] using g2
    have hn:(nums pre).length=pre.length:=by simp [nums]
    simp only [tot,List.length_cons] at hp
    have ih:=say_l0 x3 hx a0 a1 a2 a3 l a5 a6 a7 l8 hl ht s (i+1) g3 (by omega) (by omega) (pre ++ (44 :: a.data.toList)) (by
      have:a.data.toList.length=a.size:=data_length a
      simp only [List.length_append,List.length_cons];omega)
    have e:(pre ++ 44 :: a.data.toList) ++ Lib.joinTail [44] (s.map (·.data.toList))=pre ++ Lib.joinTail [44] ((a :: s).map (·.data.toList)):=by simp [Lib.joinTail]
    rw [e] at ih
    refine Ev.step (fun k=>?_) ih
    have en:nums pre ++ [44] ++ bytesOf a=nums (pre ++ 44 :: a.data.toList):=by
      rw [bytesOf_nums];simp [nums]
    simp only [Y0.l0,hr,Option.bind_some]
    rw [if_pos (by omega),if_pos (by omega),if_pos (by omega),if_pos (by omega),if_pos (by simp only [List.length_append,List.length_cons,List.length_nil];omega),en,w64 (by omega) (by omega)]
    rfl
theorem say_vals (x3:ByteArray) (hx:x3.size≤100) (a0:Int) (a1:ByteArray) (a2:Bool) (a3:Int) (l:List ByteArray) (a5:ByteArray) (a6 a7:Int) (l8:List Ask) (hl:l.length≤1048576) (ht:tot l≤1048576) :
    Ev (fun k=>Y0.l0 k x3 ([]:List Int) 0 a0 a1 a2 a3 l a5 a6 a7 l8) ((x3 ++ (⟨#[58]⟩:ByteArray)) ++ dashText l):=by
  cases l with
  | nil =>
    refine Ev.step (f:=fun _=>some ((x3 ++ (⟨#[58]⟩:ByteArray)) ++ (⟨#[45]⟩:ByteArray))) (fun k=>?_) (Ev.now _)
    have e1:strOfNums ([] ++ [45]:List Int)=⟨#[45]⟩:=rfl
    have hz:(⟨#[45]⟩:ByteArray).size=1:=rfl
    simp only [Y0.l0]
    rw [if_neg (by simp),if_pos (by simp),if_pos (by simp),Option.bind_some,e1,if_pos (by omega),if_pos (by omega)]
  | cons a s =>
    have hr:rdOf ByteArray.empty (a :: s) 0=a:=rfl
    have hd:a.data.toList.length=a.size:=data_length a
    have h:=say_l0 x3 hx a0 a1 a2 a3 (a :: s) a5 a6 a7 l8 hl ht s 1 rfl (by simp) (by omega) a.data.toList (by
      simp only [tot,List.length_cons] at hl ht;omega)
    have e:dashText (a :: s)=⟨(a.data.toList ++ Lib.joinTail [44] (s.map (·.data.toList))).toArray⟩:=by
      unfold dashText valsOf
      rw [if_neg (by simp),List.map_cons,Lib.join_cons]
    rw [e]
    refine Ev.step (fun k=>?_) h
    simp only [Y0.l0,hr]
    simp only [tot,List.length_cons] at hl ht
    rw [if_pos (by simp only [List.length_cons];omega),if_neg (by omega),if_pos (by omega),if_pos (by simp only [List.length_nil];omega),w64 (by omega) (by omega),List.nil_append,bytesOf_nums]
    rfl
def sayTail (get:Bool) (code:Int) (l:List ByteArray) (x:ByteArray):ByteArray:=if (get && code == 0)=true then (x ++ (⟨#[58]⟩:ByteArray)) ++ dashText l else x
theorem spec_tail (x3:ByteArray) (hx:x3.size≤100) (a0:Int) (a1:ByteArray) (a2:Bool) (a3:Int) (l:List ByteArray) (a5:ByteArray) (a6 a7:Int) (l8:List Ask) (hl:l.length≤1048576) (ht:tot l≤1048576) :
    Ev (fun k=>Y0.j0 k x3 a0 a1 a2 a3 l a5 a6 a7 l8) (sayTail a2 a3 l x3):=by
  have hj:∀ b:Bool,Ev (fun k=>Y0.j1 k x3 b a0 a1 a2 a3 l a5 a6 a7 l8) (if b=true then (x3 ++ (⟨#[58]⟩:ByteArray)) ++ dashText l else x3):=fun b=>by
    cases b with
    | true=>exact Ev.step (fun k=>by simp only [Y0.j1];rw [if_pos trivial]) (say_vals x3 hx a0 a1 a2 a3 l a5 a6 a7 l8 hl ht)
    | false=>exact Ev.step (f:=fun _=>some x3) (fun k=>by simp only [Y0.j1];rw [if_neg (by simp)]) (Ev.now _)
  unfold sayTail
  cases a2 with
  | true=>exact Ev.step (fun k=>by simp only [Y0.j0];rw [if_pos trivial];rfl) (hj _)
  | false=>exact Ev.step (fun k=>by simp only [Y0.j0];rw [if_neg (by simp)]) (hj false)
theorem impl_tail (x3:ByteArray) (hx:x3.size≤100) (a0:Int) (a1:ByteArray) (a2:Bool) (a3:Int) (l:List ByteArray) (a5:ByteArray) (a6 a7:Int) (l8:List Ask) (hl:l.length≤1048576) (ht:tot l≤1048576) :
    Ev (fun k=>Y1.j0 k x3 a0 a1 a2 a3 l a5 a6 a7 l8) (sayTail a2 a3 l x3):=by
  have hs:=dash_size l hl ht
  have hj:∀ b:Bool,Ev (fun k=>Y1.j1 k x3 b a0 a1 a2 a3 l a5 a6 a7 l8) (if b=true then (x3 ++ (⟨#[58]⟩:ByteArray)) ++ dashText l else x3):=fun b=>by
    cases b with
    | true =>
      refine Ev.step (f:=fun _=>some ((x3 ++ (⟨#[58]⟩:ByteArray)) ++ dashText l)) (fun k=>?_) (Ev.now _)
      simp only [Y1.j1,dash_is l hl ht,Option.bind_some]
      rw [if_pos trivial,if_pos (by omega),if_pos (by omega),ByteArray.append_assoc]
    | false=>exact Ev.step (f:=fun _=>some x3) (fun k=>by simp only [Y1.j1];rw [if_neg (by simp)]) (Ev.now _)
  unfold sayTail
  cases a2 with
  | true=>exact Ev.step (fun k=>by simp only [Y1.j0];rw [if_pos trivial];rfl) (hj _)
  | false=>exact Ev.step (fun k=>by simp only [Y1.j0];rw [if_neg (by simp)]) (hj false)
theorem l01Max_is (a b:Int):Y13.f a b=some (mx a b):=by
  unfold Y13.f mx
  split <;> split <;> first | rfl | (exfalso;omega) | (congr 1;omega)
def sayHead (id code:Int):ByteArray :=
  let x:=numText (mx 0 id) ++ (⟨#[58]⟩:ByteArray)
  if code=0 then x ++ (⟨#[111,107]⟩:ByteArray) else if code=12 then x ++ (⟨#[102,101,119]⟩:ByteArray) else if code=11 then x ++ (⟨#[100,111,119,110]⟩:ByteArray) else (x ++ (⟨#[101,114,114,111,114]⟩:ByteArray)) ++ numText (mx 0 code)
theorem mx_bounds {a:Int} (h:a≤9223372036854775807):0≤mx 0 a∧mx 0 a≤9223372036854775807:=by unfold mx;split <;> omega
theorem decimal_max (n:Int) (h:n≤9223372036854775807):Y11.f (mx 0 n)=some (numText (mx 0 n)):=by
  have:=mx_bounds h
  unfold Y11.f numText
  rw [if_pos ⟨by omega,by omega⟩]
theorem spec_SayText_ev (a0:Int) (a1:ByteArray) (a2:Bool) (a3:Int) (l:List ByteArray) (a5:ByteArray) (a6 a7:Int) (l8:List Ask) (h0:a0≤9223372036854775807) (h3:a3≤9223372036854775807) (hl:l.length≤1048576) (ht:tot l≤1048576) :
    Ev (fun k=>Y0.f k a0 a1 a2 a3 l a5 a6 a7 l8) (sayTail a2 a3 l (sayHead a0 a3)):=by
  have b0:=mx_bounds h0
  have b3:=mx_bounds h3
  have s0:=numText_size b0.1 b0.2
  have s3:=numText_size b3.1 b3.2
  have z1:(⟨#[58]⟩:ByteArray).size=1:=rfl
  have z2:(⟨#[111,107]⟩:ByteArray).size=2:=rfl
  have z3:(⟨#[102,101,119]⟩:ByteArray).size=3:=rfl
  have z4:(⟨#[100,111,119,110]⟩:ByteArray).size=4:=rfl
  have z5:(⟨#[101,114,114,111,114]⟩:ByteArray).size=5:=rfl
  unfold Y0.f
  refine evBind1 (l01Max_is 0 a0) (Ev.bind (l01Dec_ev _ b0.1 b0.2) (evPos (by omega) ?_))
  unfold sayHead
  by_cases c0:a3=0
  · rw [if_pos c0]
    exact evPos c0 (evPos (by omega) (spec_tail _ (by simp only [ByteArray.size_append];omega) _ _ _ _ _ _ _ _ _ hl ht))
  refine evNeg c0 ?_
  rw [if_neg c0]
  by_cases c1:a3=12
  · rw [if_pos c1]
    exact evPos c1 (evPos (by omega) (spec_tail _ (by simp only [ByteArray.size_append];omega) _ _ _ _ _ _ _ _ _ hl ht))
  refine evNeg c1 ?_
  rw [if_neg c1]
  by_cases c2:a3=11
  · rw [if_pos c2]
    exact evPos c2 (evPos (by omega) (spec_tail _ (by simp only [ByteArray.size_append];omega) _ _ _ _ _ _ _ _ _ hl ht))
  refine evNeg c2 ?_
  rw [if_neg c2]
  exact evPos (by omega) (evBind1 (l01Max_is 0 a3) (Ev.bind (l01Dec_ev _ b3.1 b3.2) (evPos (by omega) (spec_tail _ (by simp only [ByteArray.size_append];omega) _ _ _ _ _ _ _ _ _ hl ht))))
theorem impl_SayText_ev (a0:Int) (a1:ByteArray) (a2:Bool) (a3:Int) (l:List ByteArray) (a5:ByteArray) (a6 a7:Int) (l8:List Ask) (h0:a0≤9223372036854775807) (h3:a3≤9223372036854775807) (hl:l.length≤1048576) (ht:tot l≤1048576) :
    Ev (fun k=>Y1.f k a0 a1 a2 a3 l a5 a6 a7 l8) (sayTail a2 a3 l (sayHead a0 a3)):=by
  have b0:=mx_bounds h0
  have b3:=mx_bounds h3
  have s0:=numText_size b0.1 b0.2
  have s3:=numText_size b3.1 b3.2
  have z1:(⟨#[58]⟩:ByteArray).size=1:=rfl
  have z2:(⟨#[111,107]⟩:ByteArray).size=2:=rfl
  have z3:(⟨#[102,101,119]⟩:ByteArray).size=3:=rfl
  have z4:(⟨#[100,111,119,110]⟩:ByteArray).size=4:=rfl
  have z5:(⟨#[101,114,114,111,114]⟩:ByteArray).size=5:=rfl
  unfold Y1.f
  refine evBind1 (decimal_max a0 h0) (evPos (by omega) ?_)
  unfold sayHead
  by_cases c0:a3=0
  · rw [if_pos c0]
    exact evPos c0 (evPos (by omega) (impl_tail _ (by simp only [ByteArray.size_append];omega) _ _ _ _ _ _ _ _ _ hl ht))
  refine evNeg c0 ?_
  rw [if_neg c0]
  by_cases c1:a3=12
  · rw [if_pos c1]
    exact evPos c1 (evPos (by omega) (impl_tail _ (by simp only [ByteArray.size_append];omega) _ _ _ _ _ _ _ _ _ hl ht))
  refine evNeg c1 ?_
  rw [if_neg c1]
  by_cases c2:a3=11
  · rw [if_pos c2]
    exact evPos c2 (evPos (by omega) (impl_tail _ (by simp only [ByteArray.size_append];omega) _ _ _ _ _ _ _ _ _ hl ht))
  refine evNeg c2 ?_
  rw [if_neg c2]
  refine evBind1 (decimal_max a3 h3) (evPos (by omega) (evPos (by omega) ?_))
  rw [← ByteArray.append_assoc]
  exact impl_tail _ (by simp only [ByteArray.size_append];omega) _ _ _ _ _ _ _ _ _ hl ht
end Go.Proofs.YtffjlmmlclpcnaaDoor.Q

namespace Go.Proofs.YtffjlmmlclpcnaaDoor.Pure
open Go.RowKit Go.Proofs.YtffjlmmlclpcnaaDoor.P Go.Proofs.YtffjlmmlclpcnaaDoor.Q Go.Proofs.YtffjlmmlclpcnaaDoorW.PrintWords Go.Proofs.YtffjlmmlclpcnaaDoorW.PrintMore
theorem FnExactSayText:Y10.Pure:=by
  intro x hx
  obtain ⟨w0,w1,_,w3,⟨w4,w4s⟩,w5,_,w7,w7s⟩:=hx
  have w0':=(wf64 w0).2
  have w3':=(wf64 w3).2
  have w1':x.f1.size≤9223372036854775807:=w1
  have w5':x.f5.size≤9223372036854775807:=w5
  refine Ev.rounds ?_
  unfold Y10.f Y14.f
  rw [w64 (x:=1048576-(x.f1.size:Int)) (by omega) (by omega)]
  by_cases h1:1048576-(x.f1.size:Int)<0
  · exact Ev.bind (evPos h1 (Ev.now _)) (evPos (by omega) (Ev.now _))
  obtain ⟨r,e1,e2,e3⟩:=szStr_ev x.f4 w4 w4s (1048576-(x.f1.size:Int)) (by omega) (by omega)
  by_cases h2:r<0
  · exact Ev.bind (evNeg h1 (Ev.bind e1 (evPos h2 (Ev.now _)))) (evPos (by omega) (Ev.now _))
  obtain ⟨g1,g2⟩:=e3 h2
  have hw:=w64 (x:=r-(x.f5.size:Int)) (by omega) (by omega)
  by_cases h3:r-(x.f5.size:Int)<0
  · exact Ev.bind (evNeg h1 (Ev.bind e1 (evNeg h2 (evPos (by rw [hw];exact h3) (Ev.now _))))) (evPos (by omega) (Ev.now _))
  obtain ⟨q,e4,e5,e6⟩:=szAskS_ev x.f7 w7 (fun a ha=>(w7s a ha).2.2.2) (r-(x.f5.size:Int)) (by omega) (by omega)
  by_cases h4:q<0
  · exact Ev.bind (evNeg h1 (Ev.bind e1 (evNeg h2 (evNeg (by rw [hw];exact h3) (by rw [hw];exact Ev.bind e4 (evPos h4 (Ev.now _))))))) (evPos (by omega) (Ev.now _))
  have g3:=e6 h4
  refine Ev.bind (evNeg h1 (Ev.bind e1 (evNeg h2 (evNeg (by rw [hw];exact h3) (by rw [hw];exact Ev.bind e4 (evNeg h4 (Ev.now _))))))) (evNeg h4 ?_)
  have ht:=toSay_ev x.f0 x.f1 x.f2 x.f3 x.f4 x.f5 x.f6.f0 x.f6.f1 x.f7 g1 g3
  refine Ev.bind ht (Ev.bind (spec_SayText_ev _ _ _ _ _ _ _ _ _ w0' w3' g1 g2) (Ev.bind ht (Ev.bind (impl_SayText_ev _ _ _ _ _ _ _ _ _ w0' w3' g1 g2) (evPos rfl (Ev.bind ht (Ev.bind (eqSay_ev _ _ _ _ _ _ _ _ _ g1 (by simpa using g3)) (evPos rfl (Ev.now _))))))))
end Go.Proofs.YtffjlmmlclpcnaaDoor.Pure
