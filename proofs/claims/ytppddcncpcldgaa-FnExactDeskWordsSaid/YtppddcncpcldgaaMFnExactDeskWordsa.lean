/- The program's DeskWords and the reference's return the same ten words: by the kernel. No condition. (Part 1 of 1: written by programs of this workplace and by hand, merged.) -/
import Derived.Test.YtppddcncpcldgaaProg
import Derived.Below
import Derived.Deep.Draws
import Derived.Deep.AppendLies
import Derived.Maps.AppendAt
import Derived.OwnWalk
import Derived.Laws.BytesArg
import Derived.Laws.MakeOwn
import Derived.Laws.OwnMore
import Derived.Deep.OwnRows
import Derived.Tactics
import Derived.Lib.ConvBytes
import Derived.Laws.Slices
import Derived.WalkKit
import Derived.KernelRfl
import Derived.RowKit3
import Derived.Deep.LoopGhost
import Derived.Deep.QuietTactic
import Derived.BigQuiet
import Derived.WideLaws
import Derived.Deep.DeepCutAuto
import Derived.Deep.CutBlock
import Derived.Deep.RegionHeld3
import Derived.Laws.Rows
import Derived.Lib.AppendStr
import Derived.ArgAppend
import Derived.Laws.IdiomCopy
import Derived.OrdersHeld
import Derived.Laws.BitsLemmas
import Derived.RowKit
import Derived.Lib.Bytealg
import Derived.Lib.Walk
import Derived.Test.YtppddcncpcldgaaMFnExactDeskWordsWWords
import Derived.Test.YtppddcncpcldgaaMFnExactDeskWordsWLast
import Derived.Test.YtppddcncpcldgaaMFnExactDeskWordsWApart
import Derived.Test.YtppddcncpcldgaaMFnExactDeskWordsWFoot
import Derived.Test.YtppddcncpcldgaaMFnExactDeskWordsWKept
import Derived.Test.YtppddcncpcldgaaMFnExactDeskWordsWShare
import Derived.Test.YtppddcncpcldgaaMFnExactDeskWordsWN
import Derived.Laws.StructEq
import Derived.Test.YtppddcncpcldgaaMFnExactDeskWordsWRepsOne
import Derived.Test.YtppddcncpcldgaaMFnExactDeskWordsWMore
import Derived.Shelf.SlIter.Nil
import Derived.Shelf.SortM.Plain
import Derived.Shelf.SortM.SortNone
import Derived.Test.YtppddcncpcldgaaRows
import Derived.ProofKit
import Derived.OpenShut
import Derived.ShutString
import Derived.ChangeOld
import Derived.SizedLaws
set_option linter.unusedVariables false
set_option linter.unusedSimpArgs false
set_option maxHeartbeats 8000000
set_option maxRecDepth 100000

namespace Go.Proofs.Ytppddcncpcldgaa.P
open Go.RowKit Go.Proofs.YtppddcncpcldgaaW.PrintWords Go.Proofs.YtppddcncpcldgaaW.PrintLast Go.Proofs.YtppddcncpcldgaaW.PrintMore
attribute [local go_sem] max2_int min2_int max_two min_two max_three min_three max_four min_four   -- for this text's walks alone
set_option linter.unusedVariables false
set_option linter.unusedSimpArgs false

theorem sa_ {α:Type _} (l:List α) (i:Nat) (a:α):l.toArray.setIfInBounds i a=(l.set i a).toArray:=List.setIfInBounds_toArray ..
theorem s0_ {α:Type _} (x:α) (l:List α) (a:α):(x :: l).set 0 a=a :: l:=List.set_cons_zero ..
theorem ss_ {α:Type _} (x:α) (l:List α) (n:Nat) (a:α):(x :: l).set (n+1) a=x :: l.set n a:=List.set_cons_succ ..
section
variable {P:Program} {ops:Array Oper} {Q:Exit→Act→World→Prop}
end



def errW:Option Int→Value
  | none=>.nilIface
  | some c=>.iface 0 (.int .i64 c)
theorem errW_none:errW none = .nilIface:=rfl
theorem errW_some (c:Int):errW (some c) = .iface 0 (.int .i64 c):=rfl

-- the values' own types

end Go.Proofs.Ytppddcncpcldgaa.P

namespace Go.Proofs.Ytppddcncpcldgaa.P
open Go.RowKit Go.Proofs.YtppddcncpcldgaaW.PrintWords Go.Proofs.YtppddcncpcldgaaW.PrintLast Go.Proofs.YtppddcncpcldgaaW.PrintMore
abbrev I:=true
abbrev O:=false
theorem mO {p:Prop} (h:p:=by repeat' first | (with_reducible exact LeO.refl _) | (with_reducible exact LeO.none _) | (with_reducible refine LeO.ite ?_ ?_) | (with_reducible refine LeO.bind ?_ (fun _=>?_)) | (with_reducible apply_assumption) | apply_assumption | exact LeO.none _ | refine LeO.ite ?_ ?_ | refine LeO.bind ?_ (fun _=>?_)):p:=h
theorem nO {q p:Prop} (h:q) (f:¬q:=by simp):p:=absurd h f
theorem aM {p:Prop} (h:p):Aside0 p:=⟨h⟩
theorem sI {α:Type _} {a b:α} (h:some a=some b):a=b:=Option.some.inj h
theorem bS {α β:Type _} {x:Option α} {f:α→Option β} {b:β} (h:x.bind f=some b):∃ a,x=some a∧f a=some b:=Option.bind_eq_some_iff.mp h
theorem dT {p:Prop} [Decidable p] (h:decide p=true):p:=of_decide_eq_true h
theorem dE {p:Prop} [Decidable p] (h:p):decide p=true:=decide_eq_true h
theorem dF {p:Prop} [Decidable p] (h:¬p):decide p=false:=decide_eq_false h
section
variable {P:Program} {ops:Array Oper} {Q:Exit→Act→World→Prop} {md:Region.Mode} {S:World→Prop} {ds:List Nat}
theorem nm_ (N:Tmp) {fuel:Nat} {l:Array Bool} {a a':Act} {v:Value} {w:World} (h:wpAnyLast P md ops Q S ds fuel l a' w) (ha:Act.put a (some N) v=a':=by simp only [Act.put,sa_,s0_,ss_,i64_w,i32_w];rfl):wpAnyLast P md ops Q S ds fuel l (Act.put a (some N) v) w:=norm_ ha h
end
section
variable {P:Program} {ops:Array Oper} {rest:List Oper} {o:Oper} {a:Act} {Q:Exit→Act→World→Prop} {W:World}
theorem gd_ (N:Tmp) (h:wpList P ops Q (o :: rest) a W) (hN:o.dst=some N:=by with_reducible rfl):wpList P ops Q (o :: rest) a W:=h
theorem gc_ (f:FuncId) {ars:Array Operand} {ts:Array TypeId} (h:wpList P ops Q (o :: rest) a W) (ho:o.op = .call { callee:=.value (.func f),args:=ars,argTypes:=ts }:=by with_reducible rfl):wpList P ops Q (o :: rest) a W:=h
theorem gl_ (N:Option Tmp) {f:FuncId} {fn:Func} {ars:Array Operand} {ts:Array TypeId} (hf:P.funcs[f]? = some fn) (args:Array Value) (h:Calls P f args W fun e w'=>∃ v,e = .returned v∧wpList P ops Q rest (a.put N v) w') (hd:o.dst=N:=by exact rfl) (hg:o.guard=none:=by exact rfl) (hname:(fn.name == "runtime.NumGoroutine")=false:=by kernel_rfl) (hb:fn.body.isSome=true:=by exact rfl) (hop:o.op = .call { callee:=.value (.func f),args:=ars,argTypes:=ts }:=by exact rfl) (hargs:ars.map a.eval=args:=by (try simp only [List.map_toArray,List.map_cons,List.map_nil]);first | done | rfl | (simp only [List.length_drop,List.length_take];rfl)):wpList P ops Q (o :: rest) a W:=goesL_ N hd hg hf hname hb args hop hargs h
theorem gs_ {N:Option Tmp} {K:Act→World→Prop} {f:FuncId} {fn:Func} {ars:Array Operand} {ts:Array TypeId} (hf:P.funcs[f]? = some fn) (args:Array Value) (h:Calls P f args W fun e w'=>∃ v,e = .returned v∧K (a.put N v) w') (hname:(fn.name == "runtime.NumGoroutine")=false:=by kernel_rfl) (hb:fn.body.isSome=true:=by exact rfl) (hw:Region.wanted o (yielded ops a.tmps)=true:=by rfl) (hN:o.dst=N:=by exact rfl) (hop:o.op = .call { callee:=.value (.func f),args:=ars,argTypes:=ts }:=by exact rfl) (hargs:ars.map a.eval=args:=by (try simp only [List.map_toArray,List.map_cons,List.map_nil]);first | done | rfl | (simp only [List.length_drop,List.length_take];rfl)):if Region.wanted o (yielded ops a.tmps)=true then Oper.wp P o a W K Q else K (a.put N undef) W:=goes_ hf hname hb args hw hN hop hargs h
end
theorem z0_ {a0 p:Prop} (h0:a0) (f:a0→p:=by intro h0_;repeat (first | (with_reducible first | exact h0_ | apply below_alloc | apply pw_below_drewN | apply below_drew1) | exact h0_)):p:=f h0
theorem z1_ {a0 p:Prop} (h0:a0) (f:a0→p:=by intro h0_;(with_reducible repeat (first | apply Kd.R_alloc | apply Kd.R_drewN | apply Kd.R_drew));exact h0_):p:=f h0
theorem z2_ {p:Prop} (f:p:=by first | rfl | (simp;done) | (simp [*];done) | (simp [bne];done)):p:=f
theorem z3_ {p:Prop} (f:p:=by first | (with_reducible assumption) | assumption):p:=f
theorem z4_ {p:Prop} (f:p:=by first | rfl | (simp [errW_none,errW_some] <;> rfl) | (simp [*,errW_none,errW_some] <;> rfl)):p:=f
theorem z5_ {a0 p:Prop} (h0:a0) (f:a0→p:=by intro h0_;repeat (first | (with_reducible first | exact h0_ | apply Kept.alloc | apply Kept.drewN | apply Kept.drew) | exact h0_)):p:=f h0
end Go.Proofs.Ytppddcncpcldgaa.P

namespace Go.Proofs.Ytppddcncpcldgaa.P
open Go.RowKit Go.Proofs.YtppddcncpcldgaaW.PrintWords Go.Proofs.YtppddcncpcldgaaW.PrintLast Go.Proofs.YtppddcncpcldgaaW.PrintMore
attribute [local go_sem] max2_int min2_int max_two min_two max_three min_three max_four min_four   -- for this text's walks alone
set_option linter.unusedVariables false
set_option linter.unusedSimpArgs false

/-! ### Y6: function 11 -/
def Y6.f  : Option (List ByteArray):=some (([(⟨#[98,108,105,110,100]⟩:ByteArray),(⟨#[99,114,97,115,104]⟩:ByteArray),(⟨#[100,101,108]⟩:ByteArray),(⟨#[100,111,119,110]⟩:ByteArray),(⟨#[103,101,116]⟩:ByteArray),(⟨#[104,97,110,100]⟩:ByteArray),(⟨#[104,105,110,116,115]⟩:ByteArray),(⟨#[112,117,116]⟩:ByteArray),(⟨#[117,112]⟩:ByteArray),(⟨#[119,104,111]⟩:ByteArray)]:List ByteArray))
theorem Y6.calls  (r:List ByteArray) (w:World) (h:Y6.f  = some r) :
  Calls Try.prog 11 #[] w fun e w'=>∃ v0_:Value,e = .returned (v0_)∧Kd.R Kd.string 9 w' w.heap.size (fun _=>True) v0_ r∧Below w.heap.size w w':=by
 have HB:=aM (Below.refl w.heap.size w)
 have H:(some (([(⟨#[98,108,105,110,100]⟩:ByteArray),(⟨#[99,114,97,115,104]⟩:ByteArray),(⟨#[100,101,108]⟩:ByteArray),(⟨#[100,111,119,110]⟩:ByteArray),(⟨#[103,101,116]⟩:ByteArray),(⟨#[104,97,110,100]⟩:ByteArray),(⟨#[104,105,110,116,115]⟩:ByteArray),(⟨#[112,117,116]⟩:ByteArray),(⟨#[117,112]⟩:ByteArray),(⟨#[119,104,111]⟩:ByteArray)]:List ByteArray)))=some r:=h
 clear h
 obtain ⟨y101,hy101⟩:∃ y_:List ByteArray,y_=(([(⟨#[98,108,105,110,100]⟩:ByteArray),(⟨#[99,114,97,115,104]⟩:ByteArray),(⟨#[100,101,108]⟩:ByteArray),(⟨#[100,111,119,110]⟩:ByteArray),(⟨#[103,101,116]⟩:ByteArray),(⟨#[104,97,110,100]⟩:ByteArray),(⟨#[104,105,110,116,115]⟩:ByteArray),(⟨#[112,117,116]⟩:ByteArray),(⟨#[117,112]⟩:ByteArray),(⟨#[119,104,111]⟩:ByteArray)]:List ByteArray)):=⟨_,rfl⟩
 replace H:(some y101)=some r:=by first | (rw [hy101];with_reducible exact H) | (have H2_:=(Option.bind_some _ _).symm.trans H;rw [hy101];with_reducible exact H2_) | (have H2_:=(Option.bind_some _ _).symm.trans H;with_reducible exact H2_) | with_reducible exact H | (rw [hy101];exact H) | exact H
 have Ny101:=aM hy101
 clear hy101
 obtain rfl:=sI H
 go_enter Try.func11,Try.ntmps11
 go_wp2_with (first | ((with_reducible refine gd_ 1 ?_);refine Kd.R_lit Kd.string _ 9 ?hg (N:=1) ?hd (xs:=([(⟨#[98,108,105,110,100]⟩:ByteArray),(⟨#[99,114,97,115,104]⟩:ByteArray),(⟨#[100,101,108]⟩:ByteArray),(⟨#[100,111,119,110]⟩:ByteArray),(⟨#[103,101,116]⟩:ByteArray),(⟨#[104,97,110,100]⟩:ByteArray),(⟨#[104,105,110,116,115]⟩:ByteArray),(⟨#[112,117,116]⟩:ByteArray),(⟨#[117,112]⟩:ByteArray),(⟨#[119,104,111]⟩:ByteArray)]:List ByteArray)) (inner:=[.string (⟨#[98,108,105,110,100]⟩:ByteArray),.string (⟨#[99,114,97,115,104]⟩:ByteArray),.string (⟨#[100,101,108]⟩:ByteArray),.string (⟨#[100,111,119,110]⟩:ByteArray),.string (⟨#[103,101,116]⟩:ByteArray),.string (⟨#[104,97,110,100]⟩:ByteArray),.string (⟨#[104,105,110,116,115]⟩:ByteArray),.string (⟨#[112,117,116]⟩:ByteArray),.string (⟨#[117,112]⟩:ByteArray),.string (⟨#[119,104,111]⟩:ByteArray)]) (ok:=fun _=>True) (okp:=fun _=>True) ?hr ?hp (fun _ hk=>hk) trivial (Below.refl _ _) (Nat.le_refl _) (by simp) ?_;(case hd=>rfl);(case hg=>rfl);(case hr=>first | (go_simp;done) | (go_simp;rfl));(case hp=>exact (Reps.one (show Kd.M Kd.string _ _ _ (⟨#[98,108,105,110,100]⟩:ByteArray) [.string (⟨#[98,108,105,110,100]⟩:ByteArray)] from rfl) (Reps.one (show Kd.M Kd.string _ _ _ (⟨#[99,114,97,115,104]⟩:ByteArray) [.string (⟨#[99,114,97,115,104]⟩:ByteArray)] from rfl) (Reps.one (show Kd.M Kd.string _ _ _ (⟨#[100,101,108]⟩:ByteArray) [.string (⟨#[100,101,108]⟩:ByteArray)] from rfl) (Reps.one (show Kd.M Kd.string _ _ _ (⟨#[100,111,119,110]⟩:ByteArray) [.string (⟨#[100,111,119,110]⟩:ByteArray)] from rfl) (Reps.one (show Kd.M Kd.string _ _ _ (⟨#[103,101,116]⟩:ByteArray) [.string (⟨#[103,101,116]⟩:ByteArray)] from rfl) (Reps.one (show Kd.M Kd.string _ _ _ (⟨#[104,97,110,100]⟩:ByteArray) [.string (⟨#[104,97,110,100]⟩:ByteArray)] from rfl) (Reps.one (show Kd.M Kd.string _ _ _ (⟨#[104,105,110,116,115]⟩:ByteArray) [.string (⟨#[104,105,110,116,115]⟩:ByteArray)] from rfl) (Reps.one (show Kd.M Kd.string _ _ _ (⟨#[112,117,116]⟩:ByteArray) [.string (⟨#[112,117,116]⟩:ByteArray)] from rfl) (Reps.one (show Kd.M Kd.string _ _ _ (⟨#[117,112]⟩:ByteArray) [.string (⟨#[117,112]⟩:ByteArray)] from rfl) (Reps.one (show Kd.M Kd.string _ _ _ (⟨#[119,104,111]⟩:ByteArray) [.string (⟨#[119,104,111]⟩:ByteArray)] from rfl) (Reps.none _ _))))))))))));intro v102 w1 ho2 hb hg_ hnew_;clear hg_ hnew_;(first | rw [← Ny101.out] at ho2 | (simp only [Int.reduceToNat] at ho2;rw [← Ny101.out] at ho2));have n0_:=aM (Kd.R_lower ho2 (below_size (z0_ HB.out)));have n1_:=aM (below_step (z0_ HB.out) hb);clear HB;have HO103:=n0_;have HB:=n1_;clear n0_ n1_;clear hb ho2))
 go_ret
 exact ⟨_,z4_,z1_ HO103.out,z0_ HB.out⟩


/-! ### Y5: function 12 -/
section
open Go.RowKit Go.Maps Go.Sort Go.Shelf
def impl_DeskWords_keysA_ren:Go.Shelf.Ren:=⟨fun | 7=>29 | 10=>54 | n=>n,fun | 23=>61 | 26=>9 | 3=>9 | 28=>59 | 0=>0 | 27=>58 | 33=>85 | 4=>4 | n=>n,fun | n=>n⟩
theorem impl_DeskWords_keysA:Go.Proofs.SlLaysZ.n7 Try.prog impl_DeskWords_keysA_ren:={
  mixed:=by kernel_rfl
  f7:=⟨Try.f29.name,by decide,Try.func29.trans (congrArg some (by kernel_rfl))⟩
  f10:=⟨Try.f54.name,by decide,Try.func54.trans (congrArg some (by kernel_rfl))⟩
  t0:=Try.underlying0
  a0:=Try.isAgg0
  z0:=Try.sizeOf0
  v0:=Try.zeroValue0
  t4:=Try.underlying4
  a4:=Try.isAgg4
  z4:=Try.sizeOf4
  v4:=Try.zeroValue4
  t23:=Try.underlying61
  a23:=Try.isAgg61
  z23:=Try.sizeOf61
  v23:=Try.zeroValue61
  t26:=Try.underlying9
  a26:=Try.isAgg9
  z26:=Try.sizeOf9
  v26:=Try.zeroValue9
  t27:=Try.underlying58
  a27:=Try.isAgg58
  z27:=Try.sizeOf58
  v27:=Try.zeroValue58
  t28:=Try.underlying59
  a28:=Try.isAgg59
  z28:=Try.sizeOf59
  v28:=Try.zeroValue59
  t33:=Try.underlying85
  a33:=Try.isAgg85
  z33:=Try.sizeOf85
  v33:=Try.zeroValue85 }
def impl_DeskWords_sortedA_ren:Go.Shelf.Ren:=⟨fun | 6=>28 | 8=>52 | 9=>53 | 11=>66 | 13=>63 | 12=>67 | 23=>78 | 24=>79 | 14=>80 | 15=>81 | 16=>82 | 17=>83 | 18=>84 | 19=>85 | 20=>86 | 21=>87 | 22=>88 | 25=>94 | 26=>90 | 27=>91 | 28=>95 | 29=>96 | 30=>97 | 31=>99 | n=>n,fun | 26=>9 | 28=>59 | 24=>40 | 0=>0 | 3=>3 | 37=>86 | 48=>109 | 50=>64 | 4=>4 | 40=>102 | 39=>101 | 45=>106 | 5=>5 | 9=>9 | 51=>117 | 55=>121 | 57=>125 | 58=>126 | 33=>85 | n=>n,fun | n=>n⟩
theorem impl_DeskWords_sortedA:Go.Proofs.SlLaysZ.n6 Try.prog impl_DeskWords_sortedA_ren:={
  mixed:=by kernel_rfl
  f6:=⟨Try.f28.name,by decide,Try.func28.trans (congrArg some (by kernel_rfl))⟩
  f8:=⟨Try.f52.name,by decide,Try.func52.trans (congrArg some (by kernel_rfl))⟩
  f11:=⟨Try.f66.name,by decide,Try.func66.trans (congrArg some (by kernel_rfl))⟩
  t0:=Try.underlying0
  a0:=Try.isAgg0
  z0:=Try.sizeOf0
  v0:=Try.zeroValue0
  t24:=Try.underlying40
  a24:=Try.isAgg40
  z24:=Try.sizeOf40
  v24:=Try.zeroValue40
  t26:=Try.underlying9
  a26:=Try.isAgg9
  z26:=Try.sizeOf9
  v26:=Try.zeroValue9
  t28:=Try.underlying59
  a28:=Try.isAgg59
  z28:=Try.sizeOf59
  v28:=Try.zeroValue59
  i26:=by kernel_rfl }
def impl_DeskWords_sortA_ren:Go.Shelf.Ren:=⟨fun | 6=>53 | 8=>63 | 9=>67 | 19=>78 | 20=>79 | 21=>80 | 22=>81 | 23=>82 | 24=>83 | 25=>84 | 26=>85 | 27=>86 | 28=>87 | 29=>88 | 36=>94 | 31=>90 | 32=>91 | 37=>95 | 38=>96 | 39=>97 | 41=>99 | n=>n,fun | 27=>40 | 29=>9 | 3=>3 | 32=>86 | 26=>40 | 0=>0 | 44=>109 | 46=>64 | 4=>4 | 36=>102 | 35=>101 | 41=>106 | 5=>5 | 9=>9 | 53=>117 | 57=>121 | 63=>125 | 64=>126 | n=>n,fun | n=>n⟩
theorem impl_DeskWords_sortA:Go.Proofs.SlLaysM.n6 Try.prog impl_DeskWords_sortA_ren:={
  mixed:=by kernel_rfl
  f6:=⟨Try.f53.name,by decide,Try.func53.trans (congrArg some (by kernel_rfl))⟩
  f8:=Try.func63.trans (congrArg some (by kernel_rfl))
  f9:=⟨Try.f67.name,by decide,Try.func67.trans (congrArg some (by kernel_rfl))⟩
  f19:=Try.func78.trans (congrArg some (by kernel_rfl))
  f20:=Try.func79.trans (congrArg some (by kernel_rfl))
  f21:=⟨Try.f80.name,by decide,Try.func80.trans (congrArg some (by kernel_rfl))⟩
  f22:=⟨Try.f81.name,by decide,Try.func81.trans (congrArg some (by kernel_rfl))⟩
  f23:=⟨Try.f82.name,by decide,Try.func82.trans (congrArg some (by kernel_rfl))⟩
  f24:=⟨Try.f83.name,by decide,Try.func83.trans (congrArg some (by kernel_rfl))⟩
  f25:=⟨Try.f84.name,by decide,Try.func84.trans (congrArg some (by kernel_rfl))⟩
  f26:=⟨Try.f85.name,by decide,Try.func85.trans (congrArg some (by kernel_rfl))⟩
  f27:=⟨Try.f86.name,by decide,Try.func86.trans (congrArg some (by kernel_rfl))⟩
  f28:=⟨Try.f87.name,by decide,Try.func87.trans (congrArg some (by kernel_rfl))⟩
  f29:=⟨Try.f88.name,by decide,Try.func88.trans (congrArg some (by kernel_rfl))⟩
  f31:=Try.func90.trans (congrArg some (by kernel_rfl))
  f32:=Try.func91.trans (congrArg some (by kernel_rfl))
  f36:=⟨Try.f94.name,by decide,Try.func94.trans (congrArg some (by kernel_rfl))⟩
  f37:=⟨Try.f95.name,by decide,Try.func95.trans (congrArg some (by kernel_rfl))⟩
  f38:=⟨Try.f96.name,by decide,Try.func96.trans (congrArg some (by kernel_rfl))⟩
  f39:=⟨Try.f97.name,by decide,Try.func97.trans (congrArg some (by kernel_rfl))⟩
  f41:=⟨Try.f99.name,by decide,Try.func99.trans (congrArg some (by kernel_rfl))⟩
  t0:=Try.underlying0
  a0:=Try.isAgg0
  z0:=Try.sizeOf0
  v0:=Try.zeroValue0
  t3:=Try.underlying3
  a3:=Try.isAgg3
  z3:=Try.sizeOf3
  v3:=Try.zeroValue3
  t4:=Try.underlying4
  a4:=Try.isAgg4
  z4:=Try.sizeOf4
  v4:=Try.zeroValue4
  t5:=Try.underlying5
  a5:=Try.isAgg5
  z5:=Try.sizeOf5
  v5:=Try.zeroValue5
  t9:=Try.underlying9
  a9:=Try.isAgg9
  z9:=Try.sizeOf9
  v9:=Try.zeroValue9
  t26:=Try.underlying40
  a26:=Try.isAgg40
  z26:=Try.sizeOf40
  v26:=Try.zeroValue40
  t27:=Try.underlying40
  a27:=Try.isAgg40
  z27:=Try.sizeOf40
  v27:=Try.zeroValue40
  t29:=Try.underlying9
  a29:=Try.isAgg9
  z29:=Try.sizeOf9
  v29:=Try.zeroValue9
  t32:=Try.underlying86
  a32:=Try.isAgg86
  z32:=Try.sizeOf86
  v32:=Try.zeroValue86
  t35:=Try.underlying101
  a35:=Try.isAgg101
  z35:=Try.sizeOf101
  v35:=Try.zeroValue101
  t36:=Try.underlying102
  a36:=Try.isAgg102
  z36:=Try.sizeOf102
  v36:=Try.zeroValue102
  t41:=Try.underlying106
  a41:=Try.isAgg106
  z41:=Try.sizeOf106
  v41:=Try.zeroValue106
  t44:=Try.underlying109
  a44:=Try.isAgg109
  z44:=Try.sizeOf109
  v44:=Try.zeroValue109
  t46:=Try.underlying64
  a46:=Try.isAgg64
  z46:=Try.sizeOf64
  v46:=Try.zeroValue64
  t53:=Try.underlying117
  a53:=Try.isAgg117
  z53:=Try.sizeOf117
  v53:=Try.zeroValue117
  t57:=Try.underlying121
  a57:=Try.isAgg121
  z57:=Try.sizeOf121
  v57:=Try.zeroValue121
  t63:=Try.underlying125
  a63:=Try.isAgg125
  z63:=Try.sizeOf125
  v63:=Try.zeroValue125
  t64:=Try.underlying126
  a64:=Try.isAgg126
  z64:=Try.sizeOf126
  v64:=Try.zeroValue126 }
theorem impl_DeskWords_sortsA (m:Nat):AnyZ.SortsIn Try.prog impl_DeskWords_sortedA_ren Fence.wide m :=
  ⟨fun blk off cap ss W hH hblk hsz=>callsIn_wide.2 (AnyM.slices_Sort_string impl_DeskWords_sortA blk off cap ss W hH hblk hsz),
   fun p cap W=>callsIn_wide.2 (AnyM.slices_Sort_string_none impl_DeskWords_sortA p cap W)⟩

theorem impl_DeskWords_insert_own {H:Type} {P:Program} (w:World) {ops:Array Oper} {rest:List Oper} {o:Oper} {a:Act} {Q:Exit→Act→World→Prop}
    (hg:o.guard=none) (m x v:Operand) (t:TypeId) (hop:o.op=Op.insert t m x v)
    (k e:TypeId) (K:Keyed P k) (ht:P.underlying t=some (.map k e)) (R:Value→Option (DataW H × List MemPlace)) (b n:Nat) (D:DataW H)
    (hm:a.eval m = .map (some b)) (hown:w.ownsMap P k R b n D) (hn:n<maxLen) (key val:Value) (kl:Lit) (hx:a.eval x=key) (hv:a.eval v=val) (hkey:keyOf P k key=some kl)
    (d:DataW H) (ps:List MemPlace) (hval:R val=some (d,ps))
    (hK:∀ w',w'.ownsMap P k R b (n+1) (D.put kl d)→w.grownBy w' (some b)→wpList P ops Q rest (a.put o.dst undef) w') :
    wpList P ops Q (o :: rest) a w:=by
  refine wpList_plain hg fun K' hK'=>?_
  obtain ⟨w',hrun,r1,r2⟩:=hown.update K ht hn hkey hval
  unfold Oper.wp
  simp [execOp,hop,hm,hx,hv,hrun,Result.andThen]
  exact hK' _ _ (hK w' r1 r2)

theorem impl_DeskWords_key (s:ByteArray) (h:s.size≤maxLen):keyOf Try.prog 9 (.string s)=some (.string s.data.toList):=Go.WideMaps.keyOf_string_mk Try.underlying9 h
def impl_DeskWords_words:List (List UInt8):=[[98,108,105,110,100],[99,114,97,115,104],[100,101,108],[100,111,119,110],[103,101,116],[104,97,110,100],[104,105,110,116,115],[112,117,116],[117,112],[119,104,111]]
set_option maxHeartbeats 4000000 in
theorem impl_DeskWords_forms (w:World) :
    Calls Try.prog 30 #[] w fun e w'=>e = .returned (.map (some w.heap.size))∧(∃ D,w'.ownsMap Try.prog 9 (plainElem (H:=Unit) Try.prog 9) w.heap.size 10 D∧strKeys D=impl_DeskWords_words∧Maps.size D=10)∧Below w.heap.size w w':=by
  have hmm:=@run_makeMap Try.prog
  have HO:Hid _:=(World.ownsMap_made (H:=Unit) w Try.prog 9 (plainElem (H:=Unit) Try.prog 9))
  have HB:Hid _:=((Below.refl w.heap.size w).alloc (Nat.le_refl _) (.map #[] 0))
  go_enter Try.func30,Try.ntmps30
  go_wp2_with (first
    | (refine impl_DeskWords_insert_own _ rfl _ _ _ 61 rfl 9 9 (string_keyed Try.underlying9) Try.underlying61 _ w.heap.size _ _ rfl HO.out (by unfold maxLen;omega) _ _ _ rfl rfl (impl_DeskWords_key _ (by decide)) _ [] (plainElem_string Try.underlying9 (by decide)) ?_;intro w1 hown1 hg1;have R2:Hid _:=(HB.out.grown hg1 HB.out.size (fun j hj=>by cases hj;exact Nat.le_refl _));clear HO HB;have HO:Hid _:=hown1;have HB:=R2;clear R2 hown1 hg1))
  go_ret
  exact ⟨rfl,⟨_,HO.out,by kernel_rfl,by kernel_rfl⟩,HB.out⟩

theorem impl_DeskWords_words_sorted:impl_DeskWords_words.mergeSort (fun x y=>decide (x≤y))=impl_DeskWords_words:=List.mergeSort_of_pairwise (by decide)
def Y5.f:Option (List ByteArray):=some [⟨#[98,108,105,110,100]⟩,⟨#[99,114,97,115,104]⟩,⟨#[100,101,108]⟩,⟨#[100,111,119,110]⟩,⟨#[103,101,116]⟩,⟨#[104,97,110,100]⟩,⟨#[104,105,110,116,115]⟩,⟨#[112,117,116]⟩,⟨#[117,112]⟩,⟨#[119,104,111]⟩]
set_option maxHeartbeats 4000000 in
theorem Y5.calls (r:List ByteArray) (w:World) (h:Y5.f=some r) :
    Calls Try.prog 12 #[] w fun e w'=>∃ v0_:Value,e = .returned v0_∧Kd.R Kd.string 9 w' w.heap.size (fun _=>True) v0_ r∧Below w.heap.size w w':=by
  refine (callsIn_wide (n:=6)).1 ?_
  have cF:=callsIn_wide (n:=5).2 (impl_DeskWords_forms w)
  have cK:∀ mb W,CallsIn Fence.wide 5 Try.prog 29 #[.map mb] W fun e w'=>e = .returned (.func (.func 54) #[] #[.pointer (some ⟨W.heap.size,0,none⟩)])∧w'=W.alloc (.cells #[.map mb] 61):=fun mb W=>AnyZ.keys_in impl_DeskWords_keysA Fence.wide 5 trivial rfl mb W
  have cS:∀ (W:World) (D:DataW Unit),W.ownsMap Try.prog 9 (plainElem (H:=Unit) Try.prog 9) w.heap.size 10 D→strKeys D=impl_DeskWords_words→Maps.size D=10→CallsIn Fence.wide 5 Try.prog 28 #[.func (.func 54) #[] #[.pointer (some ⟨W.heap.size,0,none⟩)]] (W.alloc (.cells #[.map (some w.heap.size)] 61)) fun e w'=>∃ v,e = .returned v∧w'.ownsRow W.heap.size 9 1 v 10 (impl_DeskWords_words.map encStr)∧Below W.heap.size W w':=by
    intro W D hown hD hM
    have hbl:=hown.lt
    have hseq:SeqGives Fence.wide 2 Try.prog 54 #[.pointer (some ⟨W.heap.size,0,none⟩)] encStr (fun ss=>ss.Perm (strKeys D)) (Maps.size D) (W.alloc (.cells #[.map (some w.heap.size)] 61)) :=
      AnyZ.keys_gives (ρ:=impl_DeskWords_keysA_ren) { impl_DeskWords_keysA with } Fence.wide _ trivial rfl (by omega) W.heap.size w.heap.size 10 D _ (by simp) (by simp) (by
        obtain ⟨es,clock,hb,Ft,hs,hD⟩:=hown
        exact ⟨es,clock,(Below.heap_alloc _ _ w.heap.size hbl).trans hb,Ft,hs,hD⟩)
    have cS:=AnyZ.sorted_in impl_DeskWords_sortedA Fence.wide 5 trivial trivial trivial trivial rfl (by omega) (impl_DeskWords_sortsA _) (enters_of Try.func53 (by kernel_rfl) rfl) 54 #[.pointer (some ⟨W.heap.size,0,none⟩)] trivial (enters_of Try.func54 (by kernel_rfl) rfl) _ _ (by rw [hM];decide) (by rw [hM];decide) _ hseq
    change CallsIn _ _ Try.prog 28 _ _ _ at cS
    refine cS.mono ?_
    rintro e w' ⟨v,ss,rfl,hS,hrow,hnil,hb⟩
    have hs:ss.mergeSort (fun x y=>decide (x≤y))=impl_DeskWords_words:=(mergeSort_of_perm hS).trans ((congrArg (fun l=>List.mergeSort l (fun x y=>decide (x≤y))) hD).trans impl_DeskWords_words_sorted)
    have hl:ss.length=10:=by rw [hS.length_eq,hD];rfl
    rw [hs,hl] at hrow
    exact ⟨v,rfl,own_weaken hrow (by simp),((Below.refl _ W).alloc (Nat.le_refl _) _).trans (hb.mono (by simp))⟩
  have hfF:Fence.wide.fn 30:=trivial
  have hfK:Fence.wide.fn 29:=trivial
  have hfS:Fence.wide.fn 28:=trivial
  refine callsIn_of_wp Try.func12 rfl trivial ?_ rfl
  simp only [Try.ntmps12,List.size_toArray,List.length_cons,List.length_nil,Nat.reduceAdd,Nat.reduceSub,Array.replicate_succ,Array.replicate_zero,List.push_toArray,List.append_toArray,List.nil_append,List.cons_append]
  gi_wp2_with (first
    | (gi_at_call 30;refine cF.mono ?_;rintro e W ⟨rfl,⟨D,hO,hD,hM⟩,hB⟩)
    | (gi_at_call 29;refine (cK _ _).mono ?_;rintro e w' ⟨rfl,rfl⟩)
    | (gi_at_call 28;refine (cS _ _ hO hD hM).mono ?_;rintro e w' ⟨v,rfl,hrow,hb⟩))
  go_ret
  have hE:impl_DeskWords_words.map encStr=encs Value.string r:=by rw [← Option.some.inj h];rfl
  have hL:r.length=10:=by rw [← Option.some.inj h];rfl
  refine ⟨v,rfl,Kd.R_of_own (own_weaken ?_ hB.size) (fun _ _=>trivial),hB.trans (hb.mono hB.size)⟩
  rw [hL,← hE]
  exact hrow

end


/-! ### Y1: function 13 -/
def Y1.l0:Nat→List ByteArray→List ByteArray→Int→Option (Bool)
 | 0,_,_,_=>none
 | k+1,x0,x1,x5=>if x5<(x0.length:Int) then (if 0≤x5 then (if x5<(x1.length:Int) then (if (rdOf ByteArray.empty x0 x5).toList=(rdOf ByteArray.empty x1 x5).toList then (Y1.l0 k x0 x1 (wrap64 (x5+1))) else (none)) else (none)) else (none)) else (some true)
def Y1.f (k:Nat) (l0:List ByteArray) (l1:List ByteArray):Option (Bool):=if (l0.length:Int)=(l1.length:Int) then (Y1.l0 k l0 l1 0) else (none)
theorem Y1.mono_l:∀ k,(∀ y0 y1 y2,LeO (Y1.l0 k y0 y1 y2) (Y1.l0 (k+1) y0 y1 y2))
 | 0=>by intros <;> exact LeO.none _
 | k+1=>by
  have ih0:=Y1.mono_l k
  ·intros
   unfold Y1.l0
   exact mO
theorem Y1.mono:∀ a0 a1 k,LeO (Y1.f k a0 a1) (Y1.f (k+1) a0 a1):=by
 intro a0 a1 k
 have ih0:=Y1.mono_l k
 unfold Y1.f
 exact mO
theorem Y1.calls (k:Nat) (A0:Option Addr) (c0:Nat) (l0:List ByteArray) (A1:Option Addr) (c1:Nat) (l1:List ByteArray) (r:Bool) (w:World) (hr0:Kd.C Kd.string w A0 l0.length l0) (hc0:l0.length≤c0) (hr1:Kd.C Kd.string w A1 l1.length l1) (hc1:l1.length≤c1) (h:Y1.f k l0 l1=some r) :
  Calls Try.prog 13 #[.slice A0 l0.length c0,.slice A1 l1.length c1] w fun e w'=>e = .returned (.bool r)∧Drawn0 w w':=by
 have HR0:=aM hr0
 have HC0:=aM hc0
 clear hr0 hc0
 have HR1:=aM hr1
 have HC1:=aM hc1
 clear hr1 hc1
 have H:(if (l0.length:Int)=(l1.length:Int) then (Y1.l0 k l0 l1 0) else (none))=some r:=h
 clear h
 by_cases c3:(l0.length:Int)=(l1.length:Int)
 ·rw [if_pos c3] at H
  have c3b0:((l0.length:Int) == (l1.length:Int))=true:=beq_iff_eq.mpr c3
  have c3b1:((l0.length:Int) != (l1.length:Int))=false:=bne_eq_false_iff_eq.mpr c3
  have c3b2:(l0.length == l1.length)=true:=by first | simpa using c3 | (simp at c3 ⊢;omega)
  clear c3
  have H':=aM H
  clear H
  go_enter Try.func13,Try.ntmps13
  go_wp2
  repeat (go_quiet (fail);try go_wp2)
  go_loopg [5] k (fun kq v5 w'=>∃ (x5_1:Int),v5 = .int .i64 x5_1∧Aside0 (Y1.l0 kq l0 l1 x5_1=some r)∧Aside0 (kq≤k)∧Drawn0 w w')
  case atStart=>exact ⟨(0),(z2_),H',⟨Nat.le_refl _⟩,by repeat (first | exact Drawn0.refl _ | apply Drawn0.step)⟩
  case round =>
   clear H'
   try clear c1
   try clear p2
   try clear c3
   try clear c3b0
   try clear c3b1
   try clear c3b2
   obtain ⟨x5_1,rfl,HA,HK1,⟨m1,rfl⟩⟩:=hrel
   cases gk with
   | zero=>exact absurd HA.out (by simp [Y1.l0])
   | succ k1 =>
    have H:=HA.out
    clear HA
    simp only [Y1.l0] at H
    by_cases c4:x5_1<(l0.length:Int)
    ·rw [if_pos c4] at H
     have c4b0:decide (x5_1<(l0.length:Int))=true:=dE c4
     clear c4
     by_cases c5:0≤x5_1
     ·rw [if_pos c5] at H
      have c5b0:decide (0≤x5_1)=true:=dE c5
      clear c5
      by_cases c6:x5_1<(l1.length:Int)
      ·rw [if_pos c6] at H
       have c6b0:decide (x5_1<(l1.length:Int))=true:=dE c6
       clear c6
       by_cases c7:(rdOf ByteArray.empty l0 x5_1).toList=(rdOf ByteArray.empty l1 x5_1).toList
       ·rw [if_pos c7] at H
        have c7b0:((rdOf ByteArray.empty l0 x5_1).toList == (rdOf ByteArray.empty l1 x5_1).toList)=true:=beq_iff_eq.mpr c7
        have c7b1:((rdOf ByteArray.empty l0 x5_1).toList != (rdOf ByteArray.empty l1 x5_1).toList)=false:=bne_eq_false_iff_eq.mpr c7
        clear c7
        have H':=aM H
        clear H
        have p104:0≤(x5_1:Int):=dT (z3_)
        have q104:x5_1<(l0.length:Int):=dT (z3_)
        obtain ⟨ad104,e104,hx104_0⟩:=Kd.at_string HR0.out x5_1 p104 q104
        cases e104
        replace p104:=eq_true p104
        replace q104:=eq_true q104
        have p105:0≤(x5_1:Int):=dT (z3_)
        have q105:x5_1<(l1.length:Int):=dT (z3_)
        obtain ⟨ad105,e105,hx105_0⟩:=Kd.at_string HR1.out x5_1 p105 q105
        cases e105
        replace p105:=eq_true p105
        replace q105:=eq_true q105
        go_wp2
        repeat (go_quiet (fail);try go_wp2)
        go_roundg k1
        case measure=>have:=HK1.out;omega
        case rel=>exact ⟨(wrap64 (x5_1+1)),(z2_),H',⟨by have:=HK1.out;omega⟩,by repeat (first | exact Drawn0.refl _ | apply Drawn0.step)⟩
       ·rw [if_neg c7] at H
        exact nO H
      ·rw [if_neg c6] at H
       exact nO H
     ·rw [if_neg c5] at H
      exact nO H
    ·rw [if_neg c4] at H
     have c4b0:decide (x5_1<(l0.length:Int))=false:=dF c4
     clear c4
     obtain rfl:=sI H
     go_wp2
     repeat (go_quiet (fail);try go_wp2)
     go_ret
     exact ⟨z2_,by repeat (first | exact Drawn0.refl _ | apply Drawn0.step)⟩
 ·rw [if_neg c3] at H
  exact nO H


/-! ### Y3: function 31 -/
def Y3.l0:Nat→Int→ByteArray→Option (ByteArray)
 | 0,_,_=>none
 | k+1,x0,x3=>if x0>0 then ((some (([(wrap64 (48+(Int.tmod x0 10))) % 256]:List Int):List Int)).bind fun y106=>(if (strOfNums y106).size+x3.size≤9223372036854775807 then (Y3.l0 k (wrap64 (Int.tdiv x0 10)) ((strOfNums y106) ++ x3)) else (none))) else (if 1+x3.size≤9223372036854775807 then (some ((⟨#[109]⟩:ByteArray) ++ x3)) else (none))
def Y3.f (k:Nat) (a0:Int):Option (ByteArray):=if a0≤0 then (some (⟨#[109,48]⟩:ByteArray)) else (Y3.l0 k a0 (⟨#[]⟩:ByteArray))
theorem Y3.mono_l:∀ k,(∀ y0 y1,LeO (Y3.l0 k y0 y1) (Y3.l0 (k+1) y0 y1))
 | 0=>by intros <;> exact LeO.none _
 | k+1=>by
  have ih0:=Y3.mono_l k
  ·intros
   unfold Y3.l0
   exact mO
theorem Y3.mono:∀ a0 k,LeO (Y3.f k a0) (Y3.f (k+1) a0):=by
 intro a0 k
 have ih0:=Y3.mono_l k
 unfold Y3.f
 exact mO
theorem Y3.calls (k:Nat) (a0:Int) (r:ByteArray) (w:World) (h:Y3.f k a0=some r) :
  Calls Try.prog 31 #[.int .i64 a0] w fun e w'=>e = .returned (.string r)∧Below w.heap.size w w':=by
 have HB:=aM (Below.refl w.heap.size w)
 have H:(if a0≤0 then (some (⟨#[109,48]⟩:ByteArray)) else (Y3.l0 k a0 (⟨#[]⟩:ByteArray)))=some r:=h
 clear h
 by_cases c2:a0≤0
 ·rw [if_pos c2] at H
  have c2b0:decide (a0≤0)=true:=dE c2
  clear c2
  obtain rfl:=sI H
  go_enter Try.func31,Try.ntmps31
  go_wp2
  go_ret
  exact ⟨z4_,z0_ HB.out⟩
 ·rw [if_neg c2] at H
  have c2b0:decide (a0≤0)=false:=dF c2
  clear c2
  have H':=aM H
  clear H
  go_enter Try.func31,Try.ntmps31
  go_wp2
  go_loopg [0,3] k (fun kq v0 v3 w'=>∃ (x0_1:Int) (x3_1:ByteArray),v0 = .int .i64 x0_1∧v3 = .string x3_1∧Aside0 (Y3.l0 kq x0_1 x3_1=some r)∧Aside0 (kq≤k)∧Aside0 (Below w.heap.size w w'))
  case atStart=>exact ⟨(a0),((⟨#[]⟩:ByteArray)),(z2_),(z2_),H',⟨Nat.le_refl _⟩,⟨z0_ HB.out⟩⟩
  case round =>
   clear H'
   try clear c2
   try clear c2b0
   try clear p2
   obtain ⟨x0_1,x3_1,rfl,rfl,HA,HK1,HB⟩:=hrel
   cases gk with
   | zero=>exact absurd HA.out (by simp [Y3.l0])
   | succ k1 =>
    have H:=HA.out
    clear HA
    simp only [Y3.l0] at H
    by_cases c3:x0_1>0
    ·rw [if_pos c3] at H
     have c3b0:decide (0<x0_1)=true:=dE c3
     clear c3
     obtain ⟨y106,hy106⟩:∃ y_:List Int,y_=(([(wrap64 (48+(Int.tmod x0_1 10))) % 256]:List Int)):=⟨_,rfl⟩
     replace H:(if (strOfNums y106).size+x3_1.size≤9223372036854775807 then (Y3.l0 k1 (wrap64 (Int.tdiv x0_1 10)) ((strOfNums y106) ++ x3_1)) else (none))=some r:=by first | (rw [hy106];with_reducible exact H) | (have H2_:=(Option.bind_some _ _).symm.trans H;rw [hy106];with_reducible exact H2_) | (have H2_:=(Option.bind_some _ _).symm.trans H;with_reducible exact H2_) | with_reducible exact H | (rw [hy106];exact H) | exact H
     have Ny106:=aM hy106
     clear hy106
     by_cases c4:(strOfNums y106).size+x3_1.size≤9223372036854775807
     ·rw [if_pos c4] at H
      have c4b0:=eq_true c4
      have c4b1:decide ((strOfNums y106).size+x3_1.size≤9223372036854775807)=true:=dE c4
      try have c4b2:(9223372036854775807<(strOfNums y106).size+x3_1.size)=False:=eq_false (Nat.not_lt.2 c4)
      have H':=aM H
      clear H
      go_wp2_with (first | ((with_reducible refine gd_ 12 ?_);refine Kd.R_lit (Kd.int .u8) _ 5 ?hg (N:=12) ?hd (xs:=([(wrap64 (48+(Int.tmod x0_1 10))) % 256]:List Int)) (inner:=[.int .u8 ((wrap64 (48+(Int.tmod x0_1 10))) % 256)]) (ok:=fun _=>True) (okp:=fun _=>True) ?hr ?hp (fun _ hk=>hk) trivial (Below.refl _ _) (Nat.le_refl _) (by simp) ?_;(case hd=>rfl);(case hg=>rfl);(case hr=>first | (go_simp;done) | (go_simp;rfl));(case hp=>exact (Reps.one (show Kd.M (Kd.int .u8) _ _ _ ((wrap64 (48+(Int.tmod x0_1 10))) % 256) [.int .u8 ((wrap64 (48+(Int.tmod x0_1 10))) % 256)] from rfl) (Reps.none _ _)));intro v107 w5 ho6 hb hg_ hnew_;clear hg_ hnew_;(first | rw [← Ny106.out] at ho6 | (simp only [Int.reduceToNat] at ho6;rw [← Ny106.out] at ho6));have n0_:=aM (Kd.R_lower ho6 (below_size (z0_ HB.out)));have n1_:=aM (below_step (z0_ HB.out) hb);clear HB;have HO108:=n0_;have HB:=n1_;clear n0_ n1_;clear hb ho6;have hcv7:=own_string (P:=Try.prog) Try.underlying22 Try.underlying5 Try.underlying9 (Kd.own_of_R HO108.out)))
      go_roundg k1
      case measure=>have:=HK1.out;omega
      case rel=>exact ⟨(wrap64 (Int.tdiv x0_1 10)),((strOfNums y106) ++ x3_1),(z2_),(z2_),H',⟨by have:=HK1.out;omega⟩,⟨z0_ HB.out⟩⟩
     ·rw [if_neg c4] at H
      exact nO H
    ·rw [if_neg c3] at H
     have c3b0:decide (0<x0_1)=false:=dF c3
     clear c3
     by_cases c8:1+x3_1.size≤9223372036854775807
     ·rw [if_pos c8] at H
      have c8b0:=eq_true c8
      have c8b1:decide (1+x3_1.size≤9223372036854775807)=true:=dE c8
      try have c8b2:(9223372036854775807<1+x3_1.size)=False:=eq_false (Nat.not_lt.2 c8)
      obtain rfl:=sI H
      go_wp2
      go_ret
      exact ⟨z4_,z0_ HB.out⟩
     ·rw [if_neg c8] at H
      exact nO H


/-! ### Y2: function 14 -/
def Y2.l0:Nat→List ByteArray→Int→Int→Option (Int × List ByteArray)
 | 0,_,_,_=>none
 | k+1,x0,x1,x5=>if x5<(x0.length:Int) then ((Y3.f k x1).bind fun t109=>(if 0≤x5 then (Y2.l0 k (x0.set (x5:Int).toNat t109) (wrap64 (x1+1)) (wrap64 (x5+1))) else (none))) else (some (x1,x0))
def Y2.f (k:Nat) (l0:List ByteArray) (a1:Int):Option (Int × List ByteArray):=Y2.l0 k l0 a1 0
theorem Y2.mono_l:∀ k,(∀ y0 y1 y2,LeO (Y2.l0 k y0 y1 y2) (Y2.l0 (k+1) y0 y1 y2))
 | 0=>by intros <;> exact LeO.none _
 | k+1=>by
  have ih0:=Y2.mono_l k
  have m0:=@Y3.mono
  ·intros
   unfold Y2.l0
   exact mO
theorem Y2.mono:∀ a0 a1 k,LeO (Y2.f k a0 a1) (Y2.f (k+1) a0 a1):=by
 intro a0 a1 k
 have m0:=@Y3.mono
 have ih0:=Y2.mono_l k
 unfold Y2.f
 exact mO
theorem Y2.calls (k:Nat) (P0_:Nat→Prop) (u9000_:Value) (l0:List ByteArray) (a1:Int) (r1:Int) (r2:List ByteArray) (w0 w:World) (hB:Below w0.heap.size w0 w) (ho0:Kd.R Kd.string 9 w w0.heap.size P0_ u9000_ l0) (h:Y2.f k l0 a1=some (r1,r2)) :
  Calls Try.prog 14 #[u9000_,.int .i64 a1] w fun e w'=>e = .returned (.int .i64 r1)∧Kd.R Kd.string 9 w' w0.heap.size (fun k_=>(P0_ k_∨w.heap.size≤k_)) u9000_ r2∧Below w0.heap.size w0 w'∧Kept w w' (fun k_=>P0_ k_):=by
 have HO0:=aM (show Kd.R Kd.string 9 w w0.heap.size (fun k_=>(P0_ k_∨w.heap.size≤k_)) u9000_ l0 from Kd.R_mono ho0 (fun k_ hk=>(.inl hk)))
 have HK:=aM (Kept.refl w (fun k_=>P0_ k_))
 have HW0:=aM hB.size
 have HB:=aM hB
 clear hB
 have H:(Y2.l0 k l0 a1 0)=some (r1,r2):=h
 clear h
 have H':=aM H
 clear H
 go_enter Try.func14,Try.ntmps14
 go_wp2
 go_loopg [1,5] k (fun kq v1 v5 w'=>∃ (x0_1:List ByteArray) (x1_1:Int) (x5_1:Int),v1 = .int .i64 x1_1∧v5 = .int .i64 x5_1∧Aside0 (Y2.l0 kq x0_1 x1_1 x5_1=some (r1,r2))∧Aside0 (kq≤k)∧Aside0 (Kd.R Kd.string 9 w' w0.heap.size (fun k_=>(P0_ k_∨w.heap.size≤k_)) u9000_ x0_1)∧Aside0 (Kept w w' (fun k_=>P0_ k_))∧Aside0 (Below w0.heap.size w0 w'))
 case atStart=>exact ⟨(l0),(a1),(0),(z2_),(z2_),H',⟨Nat.le_refl _⟩,⟨z1_ HO0.out⟩,⟨z5_ HK.out⟩,⟨z0_ HB.out⟩⟩
 case round =>
  clear H'
  try clear c1
  try clear p2
  obtain ⟨x0_1,x1_1,x5_1,rfl,rfl,HA,HK1,HO_0,HK,HB⟩:=hrel
  cases gk with
  | zero=>exact absurd HA.out (by simp [Y2.l0])
  | succ k1 =>
   have H:=HA.out
   clear HA
   simp only [Y2.l0] at H
   by_cases c3:x5_1<(x0_1.length:Int)
   ·rw [if_pos c3] at H
    have c3b0:decide (x5_1<(x0_1.length:Int))=true:=dE c3
    clear c3
    replace H:=bS H
    obtain ⟨t109,A40,H⟩:=H
    replace H:(if 0≤x5_1 then (Y2.l0 k1 (x0_1.set (x5_1:Int).toNat t109) (wrap64 (x1_1+1)) (wrap64 (x5_1+1))) else (none))=some (r1,r2):=H
    have A4:=aM A40
    clear A40
    by_cases c5:0≤x5_1
    ·rw [if_pos c5] at H
     have c5b0:decide (0≤x5_1)=true:=dE c5
     clear c5
     obtain ⟨y110,hy110⟩:∃ y_:List ByteArray,y_=(x0_1.set (x5_1:Int).toNat t109):=⟨_,rfl⟩
     replace H:(Y2.l0 k1 y110 (wrap64 (x1_1+1)) (wrap64 (x5_1+1)))=some (r1,r2):=by first | (rw [hy110];with_reducible exact H) | (have H2_:=(Option.bind_some _ _).symm.trans H;rw [hy110];with_reducible exact H2_) | (have H2_:=(Option.bind_some _ _).symm.trans H;with_reducible exact H2_) | with_reducible exact H | (rw [hy110];exact H) | exact H
     have Ny110:=aM hy110
     clear hy110
     have H':=aM H
     clear H
     obtain ⟨Ao7,co7,eo7⟩:=Kd.R_slice HO_0.out
     subst eo7
     go_wp2_with (first | ((with_reducible refine gc_ 31 ?_);refine gl_ (some 15) Try.func31 #[.int .i64 x1_1] ?_;(with_reducible refine (Y3.calls k1 x1_1 t109 _ A4.out).mono ?_);rintro e w8 ⟨rfl,hb⟩;refine ⟨_,rfl,?_⟩;have n0_:=aM (Kd.R_below (z1_ HO_0.out) hb);have n1_:=aM (Kept.below (S:=(fun k_=>P0_ k_)) (z5_ HK.out) hb);have n2_:=aM (below_step (z0_ HB.out) hb);clear HO_0;clear HK;clear HB;have HO_0:=n0_;have HK:=n1_;have HB:=n2_;clear n0_ n1_ n2_;(try clear hb);have p6:0≤(x5_1:Int):=dT (z3_);have q6:(x5_1:Int)<((x0_1.length:Int):Int):=dT (z3_);obtain ⟨go6,co6,eo6,gb6,gl6,cl6,HG6⟩:=Kd.R_form HO_0.out (by omega);(first | cases eo6 | (injection eo6 with ea_ en_ ec_;(first | subst ea_ | (injection ea_ with ea_;subst ea_));subst ec_;clear en_));have GB6:=aM gb6;have GG6:=aM HG6;clear gb6 gl6 HG6;have HMgo6:=aM (show (P0_ go6∨w.heap.size≤go6) from (HO_0.out.1 _ rfl));obtain ⟨hx6_0,hf6_0⟩:=Kd.R_celln (⟨#[]⟩:ByteArray) HO_0.out (x5_1:Int) p6 q6;replace p6:=eq_true p6;replace q6:=eq_true q6;obtain ⟨hy9_,hz9_⟩:=Kd.R_celln (⟨#[]⟩:ByteArray) HO_0.out (x5_1:Int) (dT (z3_)) (dT (z3_));have HP9:=Kd.R_putg HO_0.out (x5_1:Int) t109) | ((with_reducible refine gate_store (t:=9) (p:=16) rfl ?_);refine store_event (t:=9) (p:=16) (v:=?vo_w10) (w1:=(w8.setCell ⟨go6,(x5_1:Int).toNat,none⟩ (.string t109))) ?hg ?ho ?hn ?hr ?_;(case ho=>rfl);(case hg=>rfl);(case hn=>rfl);(case hr=>first | (go_simp;done) | (go_simp;rfl));intro w10 hw;have hg:w8.grownBy w10 (some go6):=(by rw [hw];exact HP9.2);have hp_:Kd.R Kd.string 9 w10 w0.heap.size (fun k_=>(P0_ k_∨w.heap.size≤k_)) (.slice (some ⟨go6,0,none⟩) x0_1.length co7) y110:=(by rw [hw,Ny110.out];exact HP9.1);clear HP9;have n0_:=aM (hp_);have n1_:=aM ((by rw [hw];exact below_set (HB.out) GB6.out:Below w0.heap.size w0 w10));have n2_:=aM (Kept.of_grown (S:=(fun k_=>P0_ k_)) hg (z5_ HK.out) (fun k_ e_=>(HO_0.out.1 k_ e_)));clear HO_0;clear HB;clear HK;have HO_0:=n0_;have HB:=n1_;have HK:=n2_;clear n0_ n1_ n2_;clear hg hw hp_))
     go_roundg k1
     case measure=>have:=HK1.out;omega
     case rel=>exact ⟨(y110),(wrap64 (x1_1+1)),(wrap64 (x5_1+1)),(z2_),(z2_),H',⟨by have:=HK1.out;omega⟩,⟨z1_ HO_0.out⟩,⟨z5_ HK.out⟩,⟨z0_ HB.out⟩⟩
    ·rw [if_neg c5] at H
     exact nO H
   ·rw [if_neg c3] at H
    have c3b0:decide (x5_1<(x0_1.length:Int))=false:=dF c3
    clear c3
    simp only [Option.some.injEq,Prod.mk.injEq] at H
    obtain ⟨rfl,rfl⟩:=H
    obtain ⟨Ao11,co11,eo11⟩:=Kd.R_slice HO_0.out
    subst eo11
    go_wp2
    go_ret
    exact ⟨z4_,z1_ HO_0.out,z0_ HB.out,z5_ HK.out⟩


/-! ### Y0: function 15 -/
def Y0.l0:Nat→List ByteArray→Int→Int→Option (Int)
 | 0,_,_,_=>none
 | k+1,x0,x1,x5=>if x5<(x0.length:Int) then (if 0≤x5 then ((Y3.f k x1).bind fun t112=>(if (rdOf ByteArray.empty x0 x5).toList=t112.toList then (Y0.l0 k x0 (wrap64 (x1+1)) (wrap64 (x5+1))) else (none))) else (none)) else (some x1)
def Y0.f (k:Nat) (l0:List ByteArray) (a1:Int):Option (Int):=Y0.l0 k l0 a1 0
theorem Y0.mono_l:∀ k,(∀ y0 y1 y2,LeO (Y0.l0 k y0 y1 y2) (Y0.l0 (k+1) y0 y1 y2))
 | 0=>by intros <;> exact LeO.none _
 | k+1=>by
  have ih0:=Y0.mono_l k
  have m0:=@Y3.mono
  ·intros
   unfold Y0.l0
   exact mO
theorem Y0.mono:∀ a0 a1 k,LeO (Y0.f k a0 a1) (Y0.f (k+1) a0 a1):=by
 intro a0 a1 k
 have m0:=@Y3.mono
 have ih0:=Y0.mono_l k
 unfold Y0.f
 exact mO
theorem Y0.calls (k:Nat) (A0:Option Addr) (c0:Nat) (l0:List ByteArray) (a1:Int) (r:Int) (w:World) (hr0:Kd.C Kd.string w A0 l0.length l0) (hc0:l0.length≤c0) (h:Y0.f k l0 a1=some r) :
  Calls Try.prog 15 #[.slice A0 l0.length c0,.int .i64 a1] w fun e w'=>e = .returned (.int .i64 r)∧Below w.heap.size w w':=by
 have HR0:=aM hr0
 have HC0:=aM hc0
 clear hr0 hc0
 have HB:=aM (Below.refl w.heap.size w)
 have H:(Y0.l0 k l0 a1 0)=some r:=h
 clear h
 have H':=aM H
 clear H
 go_enter Try.func15,Try.ntmps15
 go_wp2
 go_loopg [1,5] k (fun kq v1 v5 w'=>∃ (x1_1:Int) (x5_1:Int),v1 = .int .i64 x1_1∧v5 = .int .i64 x5_1∧Aside0 (Y0.l0 kq l0 x1_1 x5_1=some r)∧Aside0 (kq≤k)∧Aside0 (Below w.heap.size w w'))
 case atStart=>exact ⟨(a1),(0),(z2_),(z2_),H',⟨Nat.le_refl _⟩,⟨z0_ HB.out⟩⟩
 case round =>
  clear H'
  try clear c1
  try clear p2
  obtain ⟨x1_1,x5_1,rfl,rfl,HA,HK1,HB⟩:=hrel
  cases gk with
  | zero=>exact absurd HA.out (by simp [Y0.l0])
  | succ k1 =>
   have H:=HA.out
   clear HA
   simp only [Y0.l0] at H
   by_cases c3:x5_1<(l0.length:Int)
   ·rw [if_pos c3] at H
    have c3b0:decide (x5_1<(l0.length:Int))=true:=dE c3
    clear c3
    by_cases c4:0≤x5_1
    ·rw [if_pos c4] at H
     have c4b0:decide (0≤x5_1)=true:=dE c4
     clear c4
     replace H:=bS H
     obtain ⟨t112,A50,H⟩:=H
     replace H:(if (rdOf ByteArray.empty l0 x5_1).toList=t112.toList then (Y0.l0 k1 l0 (wrap64 (x1_1+1)) (wrap64 (x5_1+1))) else (none))=some r:=H
     have A5:=aM A50
     clear A50
     by_cases c6:(rdOf ByteArray.empty l0 x5_1).toList=t112.toList
     ·rw [if_pos c6] at H
      have c6b0:((rdOf ByteArray.empty l0 x5_1).toList == t112.toList)=true:=beq_iff_eq.mpr c6
      have c6b1:((rdOf ByteArray.empty l0 x5_1).toList != t112.toList)=false:=bne_eq_false_iff_eq.mpr c6
      clear c6
      have H':=aM H
      clear H
      try go_wp2
      have n0_:=aM (below_drew1 HB.out)
      clear HB
      have HB:=n0_
      clear n0_
      have p111:0≤(x5_1:Int):=dT (z3_)
      have q111:x5_1<(l0.length:Int):=dT (z3_)
      obtain ⟨ad111,e111,hx111_0⟩:=Kd.at_string HR0.out x5_1 p111 q111
      have hw111_0:=hx111_0
      cases e111
      replace hx111_0:=(HB.out.cell (World.block_lt_of_cell? w _ hx111_0)).trans hx111_0
      replace p111:=eq_true p111
      replace q111:=eq_true q111
      refine start_ (n:=7) (S:=fun w'=>w'.cell? (ad111.add (x5_1).toNat)=some (.string (rdOf ByteArray.empty l0 x5_1))) (ds:=[]) #[O,O,O,O,O,O,O] (by kernel_rfl) rfl rfl (((HB.out.cell (World.block_lt_of_cell? w _ hw111_0)).trans hw111_0)) (fun hHeld=>?_)
      generalize wr.drew=w7 at HB hx111_0 hHeld ⊢
      refine pure_ (i:=0) (N:=some 12) (v:=?_) (a':=?_) #[I,O,O,O,O,O,O] rfl rfl (by kernel_rfl) (fun _ _ _ h=>h) (Or.inl ⟨by rfl,?_⟩) ?_ ?_
      rotate_left
      ·intro w'
       go_simp
       with_reducible rfl
      rotate_left
      ·simp only [Act.put,sa_,s0_,ss_,i64_w,i32_w]
       rfl
      refine pure_ (i:=1) (N:=some 13) (v:=?_) (a':=?_) #[I,I,O,O,O,O,O] rfl rfl (by kernel_rfl) (fun _ _ _ h=>h) (Or.inl ⟨by rfl,?_⟩) ?_ ?_
      rotate_left
      ·intro w'
       go_simp
       with_reducible rfl
      rotate_left
      ·simp only [Act.put,sa_,s0_,ss_,i64_w,i32_w]
       rfl
      refine pure_ (i:=2) (N:=some 14) (v:=?_) (a':=?_) #[I,I,I,O,O,O,O] rfl rfl (by kernel_rfl) (fun _ _ _ h=>h) (Or.inl ⟨by rfl,?_⟩) ?_ ?_
      rotate_left
      ·intro w'
       go_simp
       with_reducible rfl
      rotate_left
      ·simp only [Act.put,sa_,s0_,ss_,i64_w,i32_w]
       rfl
      refine pure_ (i:=4) (N:=some 16) (v:=?_) (a':=?_) #[I,I,I,O,I,O,O] rfl rfl (by kernel_rfl) (fun _ _ _ h=>h) (Or.inl ⟨by rfl,?_⟩) ?_ ?_
      rotate_left
      ·intro w'
       go_simp
       with_reducible rfl
      rotate_left
      ·simp only [Act.put,sa_,s0_,ss_,i64_w,i32_w]
       rfl
      refine take_ (i:=3) (N:=some 15) (v:=?_) (a':=?_) #[I,I,I,I,I,O,O] rfl rfl (by kernel_rfl) (fun _ _ _ h=>h) (Or.inl ⟨by rfl,?_⟩) hHeld ?_ ?_
      rotate_left
      ·intro w' s0
       go_simp
       with_reducible rfl
      rotate_left
      ·simp only [Act.put,sa_,s0_,ss_,i64_w,i32_w]
       rfl
      refine one_ (i:=5) (N:=some 17) #[I,I,I,I,I,I,O] rfl rfl (by kernel_rfl) (by decide) (fun K hK=>?_)
      refine gs_ Try.func31 #[.int .i64 x1_1] ?_
      with_reducible refine (Y3.calls k1 x1_1 t112 _ A5.out).mono ?_
      rintro e w8 ⟨rfl,hb⟩
      refine ⟨_,rfl,?_⟩
      have n0_:=aM (below_step (z0_ HB.out) hb)
      clear HB
      have HB:=n0_
      clear n0_
      (try clear hb)
      refine hK.out _ _ (((HB.out.cell (World.block_lt_of_cell? w _ hw111_0)).trans hw111_0)) (fun hHeld=>?_)
      clear hK K
      refine nm_ 17 ?_
      refine pure_ (i:=6) (N:=some 18) (v:=?_) (a':=?_) #[I,I,I,I,I,I,I] rfl rfl (by kernel_rfl) (fun _ _ _ h=>h) (Or.inl ⟨by rfl,?_⟩) ?_ ?_
      rotate_left
      ·intro w'
       go_simp
       with_reducible rfl
      rotate_left
      ·simp only [Act.put,sa_,s0_,ss_,i64_w,i32_w]
       rfl
      refine done_ (by kernel_rfl) ?_
      try go_wp2
      go_roundg k1
      case measure=>have:=HK1.out;omega
      case rel=>exact ⟨(wrap64 (x1_1+1)),(wrap64 (x5_1+1)),(z2_),(z2_),H',⟨by have:=HK1.out;omega⟩,⟨z0_ HB.out⟩⟩
     ·rw [if_neg c6] at H
      exact nO H
    ·rw [if_neg c4] at H
     exact nO H
   ·rw [if_neg c3] at H
    have c3b0:decide (x5_1<(l0.length:Int))=false:=dF c3
    clear c3
    obtain rfl:=sI H
    go_wp2
    go_ret
    exact ⟨z4_,z0_ HB.out⟩


/-! ### Y4: function 4 -/
def Y4.f (k:Nat)  : Option (Bool):=(Y6.f).bind fun t113=>((Y5.f).bind fun t116=>((Y1.f k t116 t113).bind fun t119=>(if t119=true then ((Y2.f k t116 1).bind fun bt120=>((Y0.f k bt120.2 1).bind fun t122=>(if t122<0 then (none) else (if t122=bt120.1 then ((Y5.f).bind fun t123=>((Y1.f k t123 t113).bind fun t126=>(if t126=true then ((Y0.f k bt120.2 1).bind fun t127=>(if t127<0 then (none) else (if t127=bt120.1 then (some true) else (none)))) else (none)))) else (none))))) else (none))))
theorem Y4.mono:∀ k,LeO (Y4.f k ) (Y4.f (k+1) ):=by
 intro  k
 have m0:=@Y1.mono
 have m1:=@Y0.mono
 have m2:=@Y2.mono
 unfold Y4.f
 exact mO
theorem Y4.calls (k:Nat)  (r:Bool) (w:World) (h:Y4.f k  = some r) :
  Calls Try.prog 4 #[] w fun e w'=>e = .returned (.bool r)∧Below w.heap.size w w':=by
 have HB:=aM (Below.refl w.heap.size w)
 have H:((Y6.f).bind fun t113=>((Y5.f).bind fun t116=>((Y1.f k t116 t113).bind fun t119=>(if t119=true then ((Y2.f k t116 1).bind fun bt120=>((Y0.f k bt120.2 1).bind fun t122=>(if t122<0 then (none) else (if t122=bt120.1 then ((Y5.f).bind fun t123=>((Y1.f k t123 t113).bind fun t126=>(if t126=true then ((Y0.f k bt120.2 1).bind fun t127=>(if t127<0 then (none) else (if t127=bt120.1 then (some true) else (none)))) else (none)))) else (none))))) else (none)))))=some r:=h
 clear h
 replace H:=bS H
 obtain ⟨t113,A10,H⟩:=H
 replace H:((Y5.f).bind fun t116=>((Y1.f k t116 t113).bind fun t119=>(if t119=true then ((Y2.f k t116 1).bind fun bt120=>((Y0.f k bt120.2 1).bind fun t122=>(if t122<0 then (none) else (if t122=bt120.1 then ((Y5.f).bind fun t123=>((Y1.f k t123 t113).bind fun t126=>(if t126=true then ((Y0.f k bt120.2 1).bind fun t127=>(if t127<0 then (none) else (if t127=bt120.1 then (some true) else (none)))) else (none)))) else (none))))) else (none))))=some r:=H
 have A1:=aM A10
 clear A10
 replace H:=bS H
 obtain ⟨t116,A20,H⟩:=H
 replace H:((Y1.f k t116 t113).bind fun t119=>(if t119=true then ((Y2.f k t116 1).bind fun bt120=>((Y0.f k bt120.2 1).bind fun t122=>(if t122<0 then (none) else (if t122=bt120.1 then ((Y5.f).bind fun t123=>((Y1.f k t123 t113).bind fun t126=>(if t126=true then ((Y0.f k bt120.2 1).bind fun t127=>(if t127<0 then (none) else (if t127=bt120.1 then (some true) else (none)))) else (none)))) else (none))))) else (none)))=some r:=H
 have A2:=aM A20
 clear A20
 replace H:=bS H
 obtain ⟨t119,A30,H⟩:=H
 replace H:(if t119=true then ((Y2.f k t116 1).bind fun bt120=>((Y0.f k bt120.2 1).bind fun t122=>(if t122<0 then (none) else (if t122=bt120.1 then ((Y5.f).bind fun t123=>((Y1.f k t123 t113).bind fun t126=>(if t126=true then ((Y0.f k bt120.2 1).bind fun t127=>(if t127<0 then (none) else (if t127=bt120.1 then (some true) else (none)))) else (none)))) else (none))))) else (none))=some r:=H
 have A3:=aM A30
 clear A30
 by_cases c4:t119=true
 ·subst c4
  have H1:((Y2.f k t116 1).bind fun bt120=>((Y0.f k bt120.2 1).bind fun t122=>(if t122<0 then (none) else (if t122=bt120.1 then ((Y5.f).bind fun t123=>((Y1.f k t123 t113).bind fun t126=>(if t126=true then ((Y0.f k bt120.2 1).bind fun t127=>(if t127<0 then (none) else (if t127=bt120.1 then (some true) else (none)))) else (none)))) else (none)))))=some r:=by rw [if_pos rfl] at H;exact H
  clear H
  have H:=H1
  clear H1
  replace H:=bS H
  obtain ⟨⟨t120,t121⟩,A50,H⟩:=H
  replace H:((Y0.f k t121 1).bind fun t122=>(if t122<0 then (none) else (if t122=t120 then ((Y5.f).bind fun t123=>((Y1.f k t123 t113).bind fun t126=>(if t126=true then ((Y0.f k t121 1).bind fun t127=>(if t127<0 then (none) else (if t127=t120 then (some true) else (none)))) else (none)))) else (none))))=some r:=H
  have A5:=aM A50
  clear A50
  replace H:=bS H
  obtain ⟨t122,A60,H⟩:=H
  replace H:(if t122<0 then (none) else (if t122=t120 then ((Y5.f).bind fun t123=>((Y1.f k t123 t113).bind fun t126=>(if t126=true then ((Y0.f k t121 1).bind fun t127=>(if t127<0 then (none) else (if t127=t120 then (some true) else (none)))) else (none)))) else (none)))=some r:=H
  have A6:=aM A60
  clear A60
  by_cases c7:t122<0
  ·rw [if_pos c7] at H
   exact nO H
  ·rw [if_neg c7] at H
   have c7b0:decide (t122<0)=false:=dF c7
   clear c7
   by_cases c8:t122=t120
   ·rw [if_pos c8] at H
    have c8b0:(t122 == t120)=true:=beq_iff_eq.mpr c8
    have c8b1:(t122 != t120)=false:=bne_eq_false_iff_eq.mpr c8
    clear c8
    replace H:=bS H
    obtain ⟨t123,A90,H⟩:=H
    replace H:((Y1.f k t123 t113).bind fun t126=>(if t126=true then ((Y0.f k t121 1).bind fun t127=>(if t127<0 then (none) else (if t127=t120 then (some true) else (none)))) else (none)))=some r:=H
    have A9:=aM A90
    clear A90
    replace H:=bS H
    obtain ⟨t126,A100,H⟩:=H
    replace H:(if t126=true then ((Y0.f k t121 1).bind fun t127=>(if t127<0 then (none) else (if t127=t120 then (some true) else (none)))) else (none))=some r:=H
    have A10:=aM A100
    clear A100
    by_cases c11:t126=true
    ·subst c11
     have H1:((Y0.f k t121 1).bind fun t127=>(if t127<0 then (none) else (if t127=t120 then (some true) else (none))))=some r:=by rw [if_pos rfl] at H;exact H
     clear H
     have H:=H1
     clear H1
     replace H:=bS H
     obtain ⟨t127,A120,H⟩:=H
     replace H:(if t127<0 then (none) else (if t127=t120 then (some true) else (none)))=some r:=H
     have A12:=aM A120
     clear A120
     by_cases c13:t127<0
     ·rw [if_pos c13] at H
      exact nO H
     ·rw [if_neg c13] at H
      have c13b0:decide (t127<0)=false:=dF c13
      clear c13
      by_cases c14:t127=t120
      ·rw [if_pos c14] at H
       have c14b0:(t127 == t120)=true:=beq_iff_eq.mpr c14
       have c14b1:(t127 != t120)=false:=bne_eq_false_iff_eq.mpr c14
       clear c14
       obtain rfl:=sI H
       go_enter Try.func4,Try.ntmps4
       go_wp2_with (first | ((with_reducible refine gc_ 11 ?_);refine gl_ (some 6) Try.func11 #[] ?_;(with_reducible refine (Y6.calls  t113 _ A1.out).mono ?_);rintro e w15 ⟨v114,rfl,ho0,hb⟩;refine ⟨_,rfl,?_⟩;have n0_:=aM (Kd.R_lower ho0 (below_size (z0_ HB.out)));have n1_:=aM (below_step (z0_ HB.out) hb);clear HB;have HO115:=n0_;have HB:=n1_;clear n0_ n1_;(try clear hb);(try clear ho0)) | ((with_reducible refine gc_ 12 ?_);refine gl_ (some 7) Try.func12 #[] ?_;(with_reducible refine (Y5.calls  t116 _ A2.out).mono ?_);rintro e w16 ⟨v117,rfl,ho0,hb⟩;refine ⟨_,rfl,?_⟩;have n0_:=aM (Kd.R_elder' (z1_ HO115.out) (Kd.R_base ho0) hb);have n1_:=aM (Kd.R_lower (Kd.R_new' ho0 (Kd.R_lt (z1_ HO115.out))) (below_size (z0_ HB.out)));have n2_:=aM (below_step (z0_ HB.out) hb);clear HO115;clear HB;have HO115:=n0_;have HO118:=n1_;have HB:=n2_;clear n0_ n1_ n2_;(try clear hb);(try clear ho0);obtain ⟨Ao17,co17,eo17⟩:=Kd.R_slice HO118.out;subst eo17;obtain ⟨Ao18,co18,eo18⟩:=Kd.R_slice HO115.out;subst eo18) | ((with_reducible refine gc_ 13 ?_);refine gl_ (some 10) Try.func13 #[.slice Ao17 t116.length co17,.slice Ao18 t113.length co18] ?_;(with_reducible refine (Y1.calls k _ _ t116 _ _ t113 true _ ?s1 ?s2 ?s3 ?s4 A3.out).mono ?_);(case s1=>repeat (first | exact (Kd.R_reads' HO118.out).2.2 | (with_reducible refine Kd.C_alloc ?_ _) | (with_reducible refine Kd.C_drewN ?_ _) | (with_reducible refine Kd.C_drew ?_)));(case s2=>exact (Kd.R_reads' HO118.out).2.1);(case s3=>repeat (first | exact (Kd.R_reads' HO115.out).2.2 | (with_reducible refine Kd.C_alloc ?_ _) | (with_reducible refine Kd.C_drewN ?_ _) | (with_reducible refine Kd.C_drew ?_)));(case s4=>exact (Kd.R_reads' HO115.out).2.1);rintro e w' ⟨rfl,⟨nd,rfl⟩⟩;refine ⟨_,rfl,?_⟩) | ((with_reducible refine gc_ 14 ?_);refine gl_ (some 14) Try.func14 #[.slice Ao17 t116.length co17,.int .i64 1] ?_;(with_reducible refine (Y2.calls k (fun k_=>some k_=(.slice Ao17 t116.length co17:Value).ownBlock) (.slice Ao17 t116.length co17) t116 1 t120 t121 w _ ?s1 ?s2 A5.out).mono ?_);(case s1=>repeat (first | (with_reducible first | exact HB.out | apply below_alloc | apply pw_below_drewN | apply below_drew1) | exact HB.out));(case s2=>exact Kd.R_tight rfl HO118.out);rintro e w19 ⟨rfl,hy0,hb,hkp⟩;refine ⟨_,rfl,?_⟩;have n0_:=aM (Kd.R_mono (ok':=fun k_=>some k_≠(.slice Ao17 t116.length co17:Value).ownBlock) (Kd.R_keptB (HO115.out) hkp (fun k_ hk_ hs_=>(hk_.2) hs_)) (fun k_ hk_=>hk_.1.2));have n1_:=aM (Kd.R_reok rfl hy0 (fun k_ e_=>HO118.out.1 k_ e_));have n2_:=aM (hb);clear HO115;clear HO118;clear HB;have HO115:=n0_;have HO118:=n1_;have HB:=n2_;clear n0_ n1_ n2_;(try clear hb);(try clear hkp);(try clear hy0)) | ((with_reducible refine gc_ 15 ?_);refine goesL_ (some 17) rfl rfl Try.func15 (by kernel_rfl) rfl #[.slice Ao17 t121.length co17,.int .i64 1] rfl (by (try simp only [List.map_toArray,List.map_cons,List.map_nil]);first | done | (rw [show t121.length=t116.length from (Kd.R_reads' HO118.out).1.symm] <;> rfl) | rfl | (simp only [List.length_drop,List.length_take];rfl)) ?_;(with_reducible refine (Y0.calls k _ _ t121 1 t122 _ ?s1 ?s2 A6.out).mono ?_);(case s1=>repeat (first | exact (Kd.R_reads' HO118.out).2.2 | (with_reducible refine Kd.C_alloc ?_ _) | (with_reducible refine Kd.C_drewN ?_ _) | (with_reducible refine Kd.C_drew ?_)));(case s2=>rw [show t121.length=t116.length from (Kd.R_reads' HO118.out).1.symm];exact (Kd.R_reads' HO118.out).2.1);rintro e w20 ⟨rfl,hb⟩;refine ⟨_,rfl,?_⟩;have n0_:=aM (Kd.R_below (z1_ HO115.out) hb);have n1_:=aM (Kd.R_below (z1_ HO118.out) hb);have n2_:=aM (below_step (z0_ HB.out) hb);clear HO115;clear HO118;clear HB;have HO115:=n0_;have HO118:=n1_;have HB:=n2_;clear n0_ n1_ n2_;(try clear hb)) | ((with_reducible refine gc_ 12 ?_);refine gl_ (some 23) Try.func12 #[] ?_;(with_reducible refine (Y5.calls  t123 _ A9.out).mono ?_);rintro e w21 ⟨v124,rfl,ho0,hb⟩;refine ⟨_,rfl,?_⟩;have n0_:=aM (Kd.R_elder' (z1_ HO115.out) (Kd.R_base ho0) hb);have n1_:=aM (Kd.R_elder' (z1_ HO118.out) (Kd.R_base ho0) hb);have n2_:=aM (Kd.R_lower (Kd.R_new' (Kd.R_new' ho0 (Kd.R_lt (z1_ HO115.out))) (Kd.R_lt (z1_ HO118.out))) (below_size (z0_ HB.out)));have n3_:=aM (below_step (z0_ HB.out) hb);clear HO115;clear HO118;clear HB;have HO115:=n0_;have HO118:=n1_;have HO125:=n2_;have HB:=n3_;clear n0_ n1_ n2_ n3_;(try clear hb);(try clear ho0);obtain ⟨Ao22,co22,eo22⟩:=Kd.R_slice HO125.out;subst eo22) | ((with_reducible refine gc_ 13 ?_);refine gl_ (some 26) Try.func13 #[.slice Ao22 t123.length co22,.slice Ao18 t113.length co18] ?_;(with_reducible refine (Y1.calls k _ _ t123 _ _ t113 true _ ?s1 ?s2 ?s3 ?s4 A10.out).mono ?_);(case s1=>repeat (first | exact (Kd.R_reads' HO125.out).2.2 | (with_reducible refine Kd.C_alloc ?_ _) | (with_reducible refine Kd.C_drewN ?_ _) | (with_reducible refine Kd.C_drew ?_)));(case s2=>exact (Kd.R_reads' HO125.out).2.1);(case s3=>repeat (first | exact (Kd.R_reads' HO115.out).2.2 | (with_reducible refine Kd.C_alloc ?_ _) | (with_reducible refine Kd.C_drewN ?_ _) | (with_reducible refine Kd.C_drew ?_)));(case s4=>exact (Kd.R_reads' HO115.out).2.1);rintro e w' ⟨rfl,⟨nd,rfl⟩⟩;refine ⟨_,rfl,?_⟩) | ((with_reducible refine gc_ 15 ?_);refine goesL_ (some 30) rfl rfl Try.func15 (by kernel_rfl) rfl #[.slice Ao17 t121.length co17,.int .i64 1] rfl (by (try simp only [List.map_toArray,List.map_cons,List.map_nil]);first | done | (rw [show t121.length=t116.length from (Kd.R_reads' HO118.out).1.symm] <;> rfl) | rfl | (simp only [List.length_drop,List.length_take];rfl)) ?_;(with_reducible refine (Y0.calls k _ _ t121 1 t127 _ ?s1 ?s2 A12.out).mono ?_);(case s1=>repeat (first | exact (Kd.R_reads' HO118.out).2.2 | (with_reducible refine Kd.C_alloc ?_ _) | (with_reducible refine Kd.C_drewN ?_ _) | (with_reducible refine Kd.C_drew ?_)));(case s2=>rw [show t121.length=t116.length from (Kd.R_reads' HO118.out).1.symm];exact (Kd.R_reads' HO118.out).2.1);rintro e w23 ⟨rfl,hb⟩;refine ⟨_,rfl,?_⟩;have n0_:=aM (Kd.R_below (z1_ HO115.out) hb);have n1_:=aM (Kd.R_below (z1_ HO118.out) hb);have n2_:=aM (Kd.R_below (z1_ HO125.out) hb);have n3_:=aM (below_step (z0_ HB.out) hb);clear HO115;clear HO118;clear HO125;clear HB;have HO115:=n0_;have HO118:=n1_;have HO125:=n2_;have HB:=n3_;clear n0_ n1_ n2_ n3_;(try clear hb)))
       go_ret
       exact ⟨z4_,z0_ HB.out⟩
      ·rw [if_neg c14] at H
       exact nO H
    ·replace c11:=Bool.eq_false_iff.mpr c11
     subst c11
     have H1:(none)=some r:=by rw [if_neg (show ¬ (false=true) by decide)] at H;exact H
     clear H
     have H:=H1
     clear H1
     exact nO H
   ·rw [if_neg c8] at H
    exact nO H
 ·replace c4:=Bool.eq_false_iff.mpr c4
  subst c4
  have H1:(none)=some r:=by rw [if_neg (show ¬ (false=true) by decide)] at H;exact H
  clear H
  have H:=H1
  clear H1
  exact nO H

/-- THE ONE PURE STATEMENT of Y4: yours. -/
def Y4.Pure:Prop:=∃ k,Y4.f k  = some true
theorem Y4.walk (P:Y4.Pure)  (w:World)  :
  Calls Try.prog 4 #[] w fun e w'=>e = .returned (.bool true)∧Below w.heap.size w w':=by
 obtain ⟨k,h⟩:=P  
 refine (Y4.calls k  true w h).mono ?_
 rintro e w' ⟨rfl,hd⟩
 exact ⟨rfl,hd⟩

end Go.Proofs.Ytppddcncpcldgaa.P

namespace Go.Proofs.Ytppddcncpcldgaa.Pure
open Go.RowKit Go.Proofs.Ytppddcncpcldgaa.P Go.Proofs.YtppddcncpcldgaaW.PrintWords
theorem FnExactDeskWords:Y4.Pure:=⟨300,by kernel_rfl⟩
end Go.Proofs.Ytppddcncpcldgaa.Pure

namespace Go.Proofs.Ytppddcncpcldgaa.fnExactDeskWords
open Go.ChangeShapes Go.WideShapes Go.ChangeAt Go.RowKit
open Go.ChangeMaps (open_string shut_string)
set_option linter.unusedVariables false
theorem own:ownKnob Try.prog.godebug=none:=by kernel_rfl
set_option maxRecDepth 100000 in
theorem lifted (os:Os) (started:os.Started) (H:Type) (enc:TypeId × Value→H) :
    ReturnsInHanded {} Try.checked os 4 .any (Rows.fnExactDeskWordsSpec.pre6 enc Try.prog Try.f4 Rows.fnExactDeskWordsRow.domain false) (Rows.fnExactDeskWordsSpec.post enc Try.prog Try.f4 false true false false):=by
  refine returnsInHanded_of_change_sized (C:=Try.checked) own started (by kernel_rfl) Try.func4
    (ChangeSpec.witness6 (enc:=enc) (C:=Try.checked) false ⟨#[],#[],[]⟩ 8 (by kernel_rfl) (by kernel_rfl) (by kernel_rfl) (by kernel_rfl)) ?_
  intro W base args ds gs before hval0 hW hcnd hsz0 _
  have hsz:(DataW.weightsEach Try.prog (Try.f4.params.toList ++ Rows.fnExactDeskWordsSpec.plain.varTypes Try.prog) (ds ++ gs)).all (· ≤ reachBytes)=true:=hsz0
  have hval:∀ (j:Nat) t v,Try.f4.params[j]? = some t→args[j]? = some v→Value.okWide Try.prog W .any base t v:=hval0
  have hW':=hW
  obtain ⟨p,q,hA0,hV,rfl,hfz,hnd⟩:=hW
  have hA:DataW.TrodAll enc Try.prog W 0 (fun _=>true) true Try.f4.params.toList args.toList ds p:=hA0
  rw [Try.params4] at hA hval hsz
  obtain ⟨rfl,rfl,rfl⟩:=trodAll_none hA
  obtain ⟨rfl,rfl⟩:=trodVars_none hV
  clear hA0 hval0 hsz0 hsz
  refine (P.Y4.walk Pure.FnExactDeskWords  W ).mono fun e W' ⟨he,bel⟩=>?_
  subst he
  exact ⟨_,rfl,_,_,_,[],_,[],hW',trodAll_mk1 (shut_bool Try.underlying4 _),trodAll_mk0,rfl,bel.frame _,fun h=>by cases h⟩
theorem over:Rows.fnExactDeskWordsRow.holds Try.pinned (OpenSpec.ofChange Rows.fnExactDeskWordsSpec) :=
  OpenClaim.holds_of_wide 4 Try.f4 rfl rfl rfl rfl rfl rfl rfl ⟨rfl,rfl,rfl,rfl,rfl⟩ rfl rfl rfl rfl rfl (by kernel_rfl) Try.func4 (by kernel_rfl)
    (of_decide_eq_true (by kernel_rfl)) (by unfold Func.isWrapper;first | (rw [if_pos (by decide +kernel)];kernel_rfl) | (rw [if_neg (by decide +kernel)];exact ⟨rfl,rfl⟩))
    (fun os started H enc _=>lifted os started H enc)
theorem proved:Rows.FnExactDeskWordsSaid:=over
#print axioms proved
end Go.Proofs.Ytppddcncpcldgaa.fnExactDeskWords
namespace Go.Proofs.Ytppddcncpcldgaa
/-- The row, under a short name, for the claim. -/
theorem fnExactDeskWords_holds:Rows.FnExactDeskWordsSaid:=fnExactDeskWords.proved
end Go.Proofs.Ytppddcncpcldgaa
