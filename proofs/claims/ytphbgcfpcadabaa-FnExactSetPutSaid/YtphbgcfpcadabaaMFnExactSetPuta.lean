/- For all sets, marks, nodes, data and flags the program's SetPut and the reference's return the same, of its own memory, and leave what they are given. No condition. (Part 1 of 4: written by programs of this workplace and by hand, merged.) -/
import Derived.Test.YtphbgcfpcadabaaProg
import Derived.Below
import Derived.Deep.Draws
import Derived.Deep.AppendLies
import Derived.Maps.AppendAt
import Derived.OwnWalk
import Derived.Laws.BytesArg
import Derived.Laws.MakeOwn
import Derived.Laws.OwnMore
import Derived.Deep.OwnRows
import Derived.Tactics
import Derived.Lib.ConvBytes
import Derived.Laws.Slices
import Derived.WalkKit
import Derived.KernelRfl
import Derived.RowKit3
import Derived.Deep.LoopGhost
import Derived.Deep.QuietTactic
import Derived.BigQuiet
import Derived.WideLaws
import Derived.Deep.DeepCutAuto
import Derived.Deep.CutBlock
import Derived.Deep.RegionHeld3
import Derived.Laws.Rows
import Derived.Lib.AppendStr
import Derived.ArgAppend
import Derived.Laws.IdiomCopy
import Derived.OrdersHeld
import Derived.Laws.BitsLemmas
import Derived.RowKit
import Derived.Lib.Bytealg
import Derived.Lib.Walk
import Derived.Test.YtphbgcfpcadabaaMFnExactSetPutWWords
import Derived.Test.YtphbgcfpcadabaaMFnExactSetPutWLast
import Derived.Test.YtphbgcfpcadabaaMFnExactSetPutWTab
import Derived.Test.YtphbgcfpcadabaaMFnExactSetPutWApart
import Derived.Test.YtphbgcfpcadabaaMFnExactSetPutWFoot
import Derived.Test.YtphbgcfpcadabaaMFnExactSetPutWKept
import Derived.Test.YtphbgcfpcadabaaMFnExactSetPutWShare
import Derived.Test.YtphbgcfpcadabaaMFnExactSetPutWN
import Derived.Test.YtphbgcfpcadabaaMFnExactSetPutWEqStruct
import Derived.Test.YtphbgcfpcadabaaMFnExactSetPutWRepsOne
import Derived.Test.YtphbgcfpcadabaaMFnExactSetPutWGuard
import Derived.Test.YtphbgcfpcadabaaMFnExactSetPutWMore
import Derived.ChangeArms
import Derived.ChangeSlices
import Derived.WideShapes
set_option linter.unusedVariables false
set_option linter.unusedSimpArgs false

namespace Go.Proofs.Ytphbgcfpcadabaa.P
open Go.RowKit Go.Proofs.YtphbgcfpcadabaaW.PrintWords Go.Proofs.YtphbgcfpcadabaaW.PrintLast Go.Proofs.YtphbgcfpcadabaaW.PrintMore
attribute [local go_sem] max2_int min2_int max_two min_two max_three min_three max_four min_four   -- for this text's walks alone
set_option linter.unusedVariables false
set_option linter.unusedSimpArgs false

theorem sa_ {α:Type _} (l:List α) (i:Nat) (a:α):l.toArray.setIfInBounds i a=(l.set i a).toArray:=List.setIfInBounds_toArray ..
theorem s0_ {α:Type _} (x:α) (l:List α) (a:α):(x :: l).set 0 a=a :: l:=List.set_cons_zero ..
theorem ss_ {α:Type _} (x:α) (l:List α) (n:Nat) (a:α):(x :: l).set (n+1) a=x :: l.set n a:=List.set_cons_succ ..
section
variable {P:Program} {ops:Array Oper} {Q:Exit→Act→World→Prop}
/-- A call of a function value, as a step of a region that draws. -/
theorem goesD_ {oi:Oper} {N:Option Tmp} {a:Act} {w:World} {K:Act→World→Prop} {f:FuncId} {fn:Func} {as_:Array Operand} {ts:Array TypeId} {x:Operand} (hf:P.funcs[f]? = some fn) (hname:(fn.name == "runtime.NumGoroutine")=false) (hb:fn.body.isSome=true) (args:Array Value)
    (hw:Region.wanted oi (yielded ops a.tmps)=true) (hN:oi.dst=N) (hop:oi.op = .call { callee:=.value x,args:=as_,argTypes:=ts }) (hx:a.eval x = .func (.func f) #[] #[]) (hargs:as_.map a.eval=args)
    (h:Calls P f args w fun e w'=>∃ v,e = .returned v∧K (a.put N v) w'):if Region.wanted oi (yielded ops a.tmps)=true then Oper.wp P oi a w K Q else K (a.put N undef) w:=by
  refine call_ f args hw hN ?_ h
  have he:=enters_ hf hname hb args w
  unfold execOp
  simp [hop,resolve,Deferred.ofValue,invoke,hx,hargs,he]
end



def errW:Option Int→Value
  | none=>.nilIface
  | some c=>.iface 0 (.int .i64 c)
theorem errW_none:errW none = .nilIface:=rfl
theorem errW_some (c:Int):errW (some c) = .iface 0 (.int .i64 c):=rfl

theorem info56:(Try.prog.info? 56).map (fun i=>(i.zero,i.size,i.bytes))=some (some (.agg #[(.int .i64 0),(.int .i64 0)]),2,16):=by kernel_rfl
theorem info91:(Try.prog.info? 91).map (fun i=>(i.zero,i.size,i.bytes))=some (some (.agg #[(.int .i64 0),(.int .i64 0),(.bool false),(.string ⟨#[]⟩)]),4,40):=by kernel_rfl
-- the values' own types
/-! #### struct type 100 -/
structure S100 where
  f0:Int
  f1:Int
def z100:S100:=⟨(0:Int),(0:Int)⟩
def k100:Kd S100:=Kd.iso (Kd.pair (Kd.int .i64) (Kd.int .i64)) (fun x:S100=>(x.f0,x.f1))
theorem k100_open {w:World} {x:S100} {cs:List Value} (h:k100.K w x cs):cs=[.int .i64 x.f0,.int .i64 x.f1]:=by
  obtain ⟨_,_,rfl,rfl,rfl⟩:=h
  exact rfl
def rd_T100 (xs:List S100) (i:Int):S100:=xs.getD i.toNat z100
theorem at_T100 {w:World} {A:Option Addr} {n:Nat} {xs:List S100} (h:Kd.C k100 w A n xs) (i:Int) (h0:0≤i) (h1:i<n):∃ ad , A=some ad∧w.cell? (ad.add (i.toNat*2))=some (.int .i64 (rd_T100 xs i).f0)∧w.cell? ⟨(ad.add (i.toNat*2)).block,(ad.add (i.toNat*2)).off+1,none⟩=some (.int .i64 (rd_T100 xs i).f1):=by
  obtain ⟨ad,c,e,_,hK,hc0⟩:=Kd.C_get h z100 i h0 h1
  have hc:∀ j u,c[j]? = some u→w.cell? (ad.add (i.toNat*2+j))=some u:=hc0
  obtain rfl:=k100_open hK
  exact ⟨ad,e,hc 0 _ rfl,by rw [← add_field _ _ 1 (by omega)];exact hc 1 _ rfl⟩

/-! #### struct type 107 -/
structure S107 where
  f0:S100
  f1:Bool
  f2:ByteArray
def z107:S107:=⟨z100,false,(⟨#[]⟩:ByteArray)⟩
def k107:Kd S107:=Kd.iso (Kd.pair k100 (Kd.pair Kd.bool Kd.string)) (fun x:S107=>(x.f0,x.f1,x.f2))
theorem k107_open {w:World} {x:S107} {cs:List Value} (h:k107.K w x cs):cs=[.int .i64 x.f0.f0,.int .i64 x.f0.f1,.bool x.f1,.string x.f2]:=by
  obtain ⟨_,_,rfl,s0,⟨_,_,rfl,rfl,rfl⟩⟩:=h
  obtain rfl:=k100_open s0
  exact rfl
def rd_T107 (xs:List S107) (i:Int):S107:=xs.getD i.toNat z107
theorem at_T107 {w:World} {A:Option Addr} {n:Nat} {xs:List S107} (h:Kd.C k107 w A n xs) (i:Int) (h0:0≤i) (h1:i<n):∃ ad , A=some ad∧w.cell? (ad.add (i.toNat*4))=some (.int .i64 (rd_T107 xs i).f0.f0)∧w.cell? ⟨(ad.add (i.toNat*4)).block,(ad.add (i.toNat*4)).off+1,none⟩=some (.int .i64 (rd_T107 xs i).f0.f1)∧w.cell? ⟨(ad.add (i.toNat*4)).block,(ad.add (i.toNat*4)).off+2,none⟩=some (.bool (rd_T107 xs i).f1)∧w.cell? ⟨(ad.add (i.toNat*4)).block,(ad.add (i.toNat*4)).off+3,none⟩=some (.string (rd_T107 xs i).f2):=by
  obtain ⟨ad,c,e,_,hK,hc0⟩:=Kd.C_get h z107 i h0 h1
  have hc:∀ j u,c[j]? = some u→w.cell? (ad.add (i.toNat*4+j))=some u:=hc0
  obtain rfl:=k107_open hK
  exact ⟨ad,e,hc 0 _ rfl,by rw [← add_field _ _ 1 (by omega)];exact hc 1 _ rfl,by rw [← add_field _ _ 2 (by omega)];exact hc 2 _ rfl,by rw [← add_field _ _ 3 (by omega)];exact hc 3 _ rfl⟩

/-! #### struct type 56 -/
structure S56 where
  f0:Int
  f1:Int
def z56:S56:=⟨(0:Int),(0:Int)⟩
def k56:Kd S56:=Kd.iso (Kd.pair (Kd.int .i64) (Kd.int .i64)) (fun x:S56=>(x.f0,x.f1))
theorem k56_open {w:World} {x:S56} {cs:List Value} (h:k56.K w x cs):cs=[.int .i64 x.f0,.int .i64 x.f1]:=by
  obtain ⟨_,_,rfl,rfl,rfl⟩:=h
  exact rfl
theorem k56_openM {w:World} {base:Nat} {ok:Nat→Prop} {x:S56} {cs:List Value} (h:k56.M w base ok x cs):cs=[.int .i64 x.f0,.int .i64 x.f1]:=by
  obtain ⟨_,_,rfl,rfl,rfl⟩:=h
  exact rfl
theorem k56_mkM (w:World) (base:Nat) (ok:Nat→Prop) (x:S56)  : k56.M w base ok x [.int .i64 x.f0,.int .i64 x.f1]:=⟨[.int .i64 x.f0],[.int .i64 x.f1],rfl,rfl,rfl⟩
def rd_T56 (xs:List S56) (i:Int):S56:=xs.getD i.toNat z56
theorem at_T56 {w:World} {A:Option Addr} {n:Nat} {xs:List S56} (h:Kd.C k56 w A n xs) (i:Int) (h0:0≤i) (h1:i<n):∃ ad , A=some ad∧w.cell? (ad.add (i.toNat*2))=some (.int .i64 (rd_T56 xs i).f0)∧w.cell? ⟨(ad.add (i.toNat*2)).block,(ad.add (i.toNat*2)).off+1,none⟩=some (.int .i64 (rd_T56 xs i).f1):=by
  obtain ⟨ad,c,e,_,hK,hc0⟩:=Kd.C_get h z56 i h0 h1
  have hc:∀ j u,c[j]? = some u→w.cell? (ad.add (i.toNat*2+j))=some u:=hc0
  obtain rfl:=k56_open hK
  exact ⟨ad,e,hc 0 _ rfl,by rw [← add_field _ _ 1 (by omega)];exact hc 1 _ rfl⟩

/-! #### struct type 91 -/
structure S91 where
  f0:S56
  f1:Bool
  f2:ByteArray
def z91:S91:=⟨z56,false,(⟨#[]⟩:ByteArray)⟩
def k91:Kd S91:=Kd.iso (Kd.pair k56 (Kd.pair Kd.bool Kd.string)) (fun x:S91=>(x.f0,x.f1,x.f2))
theorem k91_open {w:World} {x:S91} {cs:List Value} (h:k91.K w x cs):cs=[.int .i64 x.f0.f0,.int .i64 x.f0.f1,.bool x.f1,.string x.f2]:=by
  obtain ⟨_,_,rfl,s0,⟨_,_,rfl,rfl,rfl⟩⟩:=h
  obtain rfl:=k56_open s0
  exact rfl
theorem k91_openM {w:World} {base:Nat} {ok:Nat→Prop} {x:S91} {cs:List Value} (h:k91.M w base ok x cs):cs=[.int .i64 x.f0.f0,.int .i64 x.f0.f1,.bool x.f1,.string x.f2]:=by
  obtain ⟨_,_,rfl,s0,⟨_,_,rfl,rfl,rfl⟩⟩:=h
  obtain rfl:=k56_openM s0
  exact rfl
theorem k91_mkM (w:World) (base:Nat) (ok:Nat→Prop) (x:S91)  : k91.M w base ok x [.int .i64 x.f0.f0,.int .i64 x.f0.f1,.bool x.f1,.string x.f2]:=⟨[.int .i64 x.f0.f0,.int .i64 x.f0.f1],[.bool x.f1,.string x.f2],rfl,(k56_mkM w base ok x.f0 ),⟨[.bool x.f1],[.string x.f2],rfl,rfl,rfl⟩⟩
def rd_T91 (xs:List S91) (i:Int):S91:=xs.getD i.toNat z91
theorem at_T91 {w:World} {A:Option Addr} {n:Nat} {xs:List S91} (h:Kd.C k91 w A n xs) (i:Int) (h0:0≤i) (h1:i<n):∃ ad , A=some ad∧w.cell? (ad.add (i.toNat*4))=some (.int .i64 (rd_T91 xs i).f0.f0)∧w.cell? ⟨(ad.add (i.toNat*4)).block,(ad.add (i.toNat*4)).off+1,none⟩=some (.int .i64 (rd_T91 xs i).f0.f1)∧w.cell? ⟨(ad.add (i.toNat*4)).block,(ad.add (i.toNat*4)).off+2,none⟩=some (.bool (rd_T91 xs i).f1)∧w.cell? ⟨(ad.add (i.toNat*4)).block,(ad.add (i.toNat*4)).off+3,none⟩=some (.string (rd_T91 xs i).f2):=by
  obtain ⟨ad,c,e,_,hK,hc0⟩:=Kd.C_get h z91 i h0 h1
  have hc:∀ j u,c[j]? = some u→w.cell? (ad.add (i.toNat*4+j))=some u:=hc0
  obtain rfl:=k91_open hK
  exact ⟨ad,e,hc 0 _ rfl,by rw [← add_field _ _ 1 (by omega)];exact hc 1 _ rfl,by rw [← add_field _ _ 2 (by omega)];exact hc 2 _ rfl,by rw [← add_field _ _ 3 (by omega)];exact hc 3 _ rfl⟩

/-! #### struct type 32 -/
structure S32 where
  f0:(List S100)
  f1:(List S107)
def k32:Kd S32:=Kd.iso (Kd.pair (Kd.slice 100 k100) (Kd.slice 107 k107)) (fun x:S32=>(x.f0,x.f1))
theorem k32_open {w:World} {x:S32} {cs:List Value} (h:k32.K w x cs):∃ A0 c0 A1 c1,cs=[.slice A0 x.f0.length c0,.slice A1 x.f1.length c1]∧x.f0.length≤c0∧k100.C w A0 x.f0.length x.f0∧x.f1.length≤c1∧k107.C w A1 x.f1.length x.f1:=by
  obtain ⟨_,_,rfl,⟨A0,c0,rfl,l0,g0⟩,⟨A1,c1,rfl,l1,g1⟩⟩:=h
  exact ⟨A0,c0,A1,c1,rfl,l0,g0,l1,g1⟩
end Go.Proofs.Ytphbgcfpcadabaa.P

namespace Go.Proofs.Ytphbgcfpcadabaa.P
open Go.RowKit Go.Proofs.YtphbgcfpcadabaaW.PrintWords Go.Proofs.YtphbgcfpcadabaaW.PrintLast Go.Proofs.YtphbgcfpcadabaaW.PrintMore
abbrev I:=true
abbrev O:=false
section
variable {P:Program} {ops:Array Oper} {Q:Exit→Act→World→Prop} {md:Region.Mode} {S:World→Prop} {ds:List Nat}
theorem pu_ {T:Bool × List (List Nat × List Nat)} (i:Nat) (N:Tmp) {oi:Oper} {v:Value} {fuel:Nat} {l:Array Bool} {a a':Act} {w:World} (l':Array Bool) (hT:rtab md ops=T) (h:wpAnyLast P md ops Q S ds fuel l' a' w) (hi:ops[i]? = some oi:=by exact rfl) (hN:oi.dst=some N:=by exact rfl) (hc:anyT T l.toList l'.toList i=true:=by kernel_rfl) (hQ:∀ c a w,Q (.panic c) (a.put oi.dst v) w→Q (.panic c) a w:=by exact fun _ _ _ h=>h) (hw:Region.wanted oi (yielded ops a.tmps)=true:=by rfl) (hy:∀ w',(execOp a.eval oi).run P w' = .ok (.value v) w':=by (intro w');go_simp;(with_reducible rfl)) (ha:a.put (some N) v=a':=by (simp only [Act.put,sa_,s0_,ss_,i64_w,i32_w]);exact rfl):wpAnyLast P md ops Q S ds (fuel+1) l a w:=pure_ l' hi hN (any_of hT hc) hQ (Or.inl ⟨hw,hy⟩) ha h
theorem pn_ {T:Bool × List (List Nat × List Nat)} (i:Nat) (N:Tmp) {oi:Oper} {v:Value} {fuel:Nat} {l:Array Bool} {a a':Act} {w:World} (l':Array Bool) (hT:rtab md ops=T) (h:wpAnyLast P md ops Q S ds fuel l' a' w) (hi:ops[i]? = some oi:=by exact rfl) (hN:oi.dst=some N:=by exact rfl) (hc:anyT T l.toList l'.toList i=true:=by kernel_rfl) (hQ:∀ c a w,Q (.panic c) (a.put oi.dst v) w→Q (.panic c) a w:=by exact fun _ _ _ h=>h) (hw:Region.wanted oi (yielded ops a.tmps)=false:=by rfl) (hy:v=undef:=by rfl) (ha:a.put (some N) v=a':=by (simp only [Act.put,sa_,s0_,ss_,i64_w,i32_w]);exact rfl):wpAnyLast P md ops Q S ds (fuel+1) l a w:=pure_ l' hi hN (any_of hT hc) hQ (Or.inr ⟨hw,hy⟩) ha h
theorem tk2_ {T:Bool × List (List Nat × List Nat)} (i:Nat) (N:Tmp) {oi:Oper} {v:Value} {fuel:Nat} {l:Array Bool} {a a':Act} {w:World} (l':Array Bool) {B:List Nat} (hT:rtab md ops=T) (hB:waitsOk T.2 B=true) (hS:S w) (h:wpAnyLast P md ops Q S ds fuel l' a' w) (hi:ops[i]? = some oi:=by exact rfl) (hN:oi.dst=some N:=by exact rfl) (hc:takeW T B ds l.toList l'.toList i=true:=by kernel_rfl) (hQ:∀ c a w,Q (.panic c) (a.put oi.dst v) w→Q (.panic c) a w:=by exact fun _ _ _ h=>h) (hw:Region.wanted oi (yielded ops a.tmps)=true:=by rfl) (hy:∀ w',S w'→(execOp a.eval oi).run P w' = .ok (.value v) w':=by (rintro w' ⟨s0,s1⟩);go_simp;(with_reducible rfl)) (ha:a.put (some N) v=a':=by (simp only [Act.put,sa_,s0_,ss_,i64_w,i32_w]);exact rfl):wpAnyLast P md ops Q S ds (fuel+1) l a w:=take_ l' hi hN (take_ofW hT hB hc) hQ (Or.inl ⟨hw,hy⟩) hS ha h
theorem tk4_ {T:Bool × List (List Nat × List Nat)} (i:Nat) (N:Tmp) {oi:Oper} {v:Value} {fuel:Nat} {l:Array Bool} {a a':Act} {w:World} (l':Array Bool) {B:List Nat} (hT:rtab md ops=T) (hB:waitsOk T.2 B=true) (hS:S w) (h:wpAnyLast P md ops Q S ds fuel l' a' w) (hi:ops[i]? = some oi:=by exact rfl) (hN:oi.dst=some N:=by exact rfl) (hc:takeW T B ds l.toList l'.toList i=true:=by kernel_rfl) (hQ:∀ c a w,Q (.panic c) (a.put oi.dst v) w→Q (.panic c) a w:=by exact fun _ _ _ h=>h) (hw:Region.wanted oi (yielded ops a.tmps)=true:=by rfl) (hy:∀ w',S w'→(execOp a.eval oi).run P w' = .ok (.value v) w':=by (rintro w' ⟨s0,s1,s2,s3⟩);go_simp;(with_reducible rfl)) (ha:a.put (some N) v=a':=by (simp only [Act.put,sa_,s0_,ss_,i64_w,i32_w]);exact rfl):wpAnyLast P md ops Q S ds (fuel+1) l a w:=take_ l' hi hN (take_ofW hT hB hc) hQ (Or.inl ⟨hw,hy⟩) hS ha h
theorem tk6_ {T:Bool × List (List Nat × List Nat)} (i:Nat) (N:Tmp) {oi:Oper} {v:Value} {fuel:Nat} {l:Array Bool} {a a':Act} {w:World} (l':Array Bool) {B:List Nat} (hT:rtab md ops=T) (hB:waitsOk T.2 B=true) (hS:S w) (h:wpAnyLast P md ops Q S ds fuel l' a' w) (hi:ops[i]? = some oi:=by exact rfl) (hN:oi.dst=some N:=by exact rfl) (hc:takeW T B ds l.toList l'.toList i=true:=by kernel_rfl) (hQ:∀ c a w,Q (.panic c) (a.put oi.dst v) w→Q (.panic c) a w:=by exact fun _ _ _ h=>h) (hw:Region.wanted oi (yielded ops a.tmps)=true:=by rfl) (hy:∀ w',S w'→(execOp a.eval oi).run P w' = .ok (.value v) w':=by (rintro w' ⟨s0,s1,s2,s3,s4,s5⟩);go_simp;(with_reducible rfl)) (ha:a.put (some N) v=a':=by (simp only [Act.put,sa_,s0_,ss_,i64_w,i32_w]);exact rfl):wpAnyLast P md ops Q S ds (fuel+1) l a w:=take_ l' hi hN (take_ofW hT hB hc) hQ (Or.inl ⟨hw,hy⟩) hS ha h
theorem tk8_ {T:Bool × List (List Nat × List Nat)} (i:Nat) (N:Tmp) {oi:Oper} {v:Value} {fuel:Nat} {l:Array Bool} {a a':Act} {w:World} (l':Array Bool) {B:List Nat} (hT:rtab md ops=T) (hB:waitsOk T.2 B=true) (hS:S w) (h:wpAnyLast P md ops Q S ds fuel l' a' w) (hi:ops[i]? = some oi:=by exact rfl) (hN:oi.dst=some N:=by exact rfl) (hc:takeW T B ds l.toList l'.toList i=true:=by kernel_rfl) (hQ:∀ c a w,Q (.panic c) (a.put oi.dst v) w→Q (.panic c) a w:=by exact fun _ _ _ h=>h) (hw:Region.wanted oi (yielded ops a.tmps)=true:=by rfl) (hy:∀ w',S w'→(execOp a.eval oi).run P w' = .ok (.value v) w':=by (rintro w' ⟨s0,s1,s2,s3,s4,s5,s6,s7⟩);go_simp;(with_reducible rfl)) (ha:a.put (some N) v=a':=by (simp only [Act.put,sa_,s0_,ss_,i64_w,i32_w]);exact rfl):wpAnyLast P md ops Q S ds (fuel+1) l a w:=take_ l' hi hN (take_ofW hT hB hc) hQ (Or.inl ⟨hw,hy⟩) hS ha h
theorem tk10_ {T:Bool × List (List Nat × List Nat)} (i:Nat) (N:Tmp) {oi:Oper} {v:Value} {fuel:Nat} {l:Array Bool} {a a':Act} {w:World} (l':Array Bool) {B:List Nat} (hT:rtab md ops=T) (hB:waitsOk T.2 B=true) (hS:S w) (h:wpAnyLast P md ops Q S ds fuel l' a' w) (hi:ops[i]? = some oi:=by exact rfl) (hN:oi.dst=some N:=by exact rfl) (hc:takeW T B ds l.toList l'.toList i=true:=by kernel_rfl) (hQ:∀ c a w,Q (.panic c) (a.put oi.dst v) w→Q (.panic c) a w:=by exact fun _ _ _ h=>h) (hw:Region.wanted oi (yielded ops a.tmps)=true:=by rfl) (hy:∀ w',S w'→(execOp a.eval oi).run P w' = .ok (.value v) w':=by (rintro w' ⟨s0,s1,s2,s3,s4,s5,s6,s7,s8,s9⟩);go_simp;(with_reducible rfl)) (ha:a.put (some N) v=a':=by (simp only [Act.put,sa_,s0_,ss_,i64_w,i32_w]);exact rfl):wpAnyLast P md ops Q S ds (fuel+1) l a w:=take_ l' hi hN (take_ofW hT hB hc) hQ (Or.inl ⟨hw,hy⟩) hS ha h
theorem o1_ {T:Bool × List (List Nat × List Nat)} (i:Nat) (N:Tmp) {oi:Oper} {fuel:Nat} {l:Array Bool} {a:Act} {w:World} (l':Array Bool) (hT:rtab md ops=T) (h:∀ K:Act→World→Prop,Shut (∀ a' w',S w'→(S w'→wpAnyLast P md ops Q S ds fuel l' a' w')→K a' w')→if Region.wanted oi (yielded ops a.tmps)=true then Oper.wp P oi a w K Q else K (a.put (some N) undef) w) (hi:ops[i]? = some oi:=by exact rfl) (hN:oi.dst=some N:=by exact rfl) (hc:(readyT T.2 l.toList == [i] && l.toList.set i true == l'.toList)=true:=by kernel_rfl) (hd:i ∉ ds:=by decide):wpAnyLast P md ops Q S ds (fuel+1) l a w:=one_ l' hi hN (one_of hT hc) hd h
theorem nm_ (N:Tmp) {fuel:Nat} {l:Array Bool} {a a':Act} {v:Value} {w:World} (h:wpAnyLast P md ops Q S ds fuel l a' w) (ha:Act.put a (some N) v=a':=by simp only [Act.put,sa_,s0_,ss_,i64_w,i32_w];rfl):wpAnyLast P md ops Q S ds fuel l (Act.put a (some N) v) w:=norm_ ha h
end
section
variable {P:Program} {ops:Array Oper} {rest:List Oper} {o:Oper} {a:Act} {Q:Exit→Act→World→Prop} {W:World}
theorem gd_ (N:Tmp) (h:wpList P ops Q (o :: rest) a W) (hN:o.dst=some N:=by with_reducible rfl):wpList P ops Q (o :: rest) a W:=h
theorem gc_ (f:FuncId) {ars:Array Operand} {ts:Array TypeId} (h:wpList P ops Q (o :: rest) a W) (ho:o.op = .call { callee:=.value (.func f),args:=ars,argTypes:=ts }:=by with_reducible rfl):wpList P ops Q (o :: rest) a W:=h
theorem be_ (N:Tmp) (cs:Array Value) (t:TypeId) (h:∀ g,g=W.heap.size→∀ w1,w1.heap[g]? = some (.cells cs t (0,0))→Below W.heap.size W w1→wpList P ops Q rest (a.put o.dst (.pointer (some ⟨g,0,none⟩))) w1) (hd:o.dst=some N:=by rfl) (hgd:o.guard=none:=by rfl) (hrun:(execOp a.eval o).run P W = .ok (.value (.pointer (some ⟨W.heap.size,0,none⟩))) (W.alloc (.cells cs t (0,0))):=by first | (go_simp;done) | (go_simp;rfl)):wpList P ops Q (o :: rest) a W:=box_event hgd hd hrun h
theorem gl_ (N:Option Tmp) {f:FuncId} {fn:Func} {ars:Array Operand} {ts:Array TypeId} (hf:P.funcs[f]? = some fn) (args:Array Value) (h:Calls P f args W fun e w'=>∃ v,e = .returned v∧wpList P ops Q rest (a.put N v) w') (hd:o.dst=N:=by exact rfl) (hg:o.guard=none:=by exact rfl) (hname:(fn.name == "runtime.NumGoroutine")=false:=by kernel_rfl) (hb:fn.body.isSome=true:=by exact rfl) (hop:o.op = .call { callee:=.value (.func f),args:=ars,argTypes:=ts }:=by exact rfl) (hargs:ars.map a.eval=args:=by (try simp only [List.map_toArray,List.map_cons,List.map_nil]);first | done | rfl | (simp only [List.length_drop,List.length_take];rfl)):wpList P ops Q (o :: rest) a W:=goesL_ N hd hg hf hname hb args hop hargs h
theorem gs_ {N:Option Tmp} {K:Act→World→Prop} {f:FuncId} {fn:Func} {ars:Array Operand} {ts:Array TypeId} (hf:P.funcs[f]? = some fn) (args:Array Value) (h:Calls P f args W fun e w'=>∃ v,e = .returned v∧K (a.put N v) w') (hname:(fn.name == "runtime.NumGoroutine")=false:=by kernel_rfl) (hb:fn.body.isSome=true:=by exact rfl) (hw:Region.wanted o (yielded ops a.tmps)=true:=by rfl) (hN:o.dst=N:=by exact rfl) (hop:o.op = .call { callee:=.value (.func f),args:=ars,argTypes:=ts }:=by exact rfl) (hargs:ars.map a.eval=args:=by (try simp only [List.map_toArray,List.map_cons,List.map_nil]);first | done | rfl | (simp only [List.length_drop,List.length_take];rfl)):if Region.wanted o (yielded ops a.tmps)=true then Oper.wp P o a W K Q else K (a.put N undef) W:=goes_ hf hname hb args hw hN hop hargs h
end
theorem cc2_ {w:World} {g:Nat} {t:TypeId} {v0 v1:Value} (h:w.heap[g]? = some (.cells #[v0,v1] t (0,0))):w.cell? ⟨g,0,none⟩=some v0∧w.cell? ⟨g,1,none⟩=some v1:=⟨blk_cell h 0,blk_cell h 1⟩
theorem cj2_ {p:Prop} {w:World} {g:Nat} {t:TypeId} {v0 v1:Value} (h:w.heap[g]? = some (.cells #[v0,v1] t (0,0))) (r:p):w.cell? ⟨g,0,none⟩=some v0∧w.cell? ⟨g,1,none⟩=some v1∧p:=⟨blk_cell h 0,blk_cell h 1,r⟩
theorem cc4_ {w:World} {g:Nat} {t:TypeId} {v0 v1 v2 v3:Value} (h:w.heap[g]? = some (.cells #[v0,v1,v2,v3] t (0,0))):w.cell? ⟨g,0,none⟩=some v0∧w.cell? ⟨g,1,none⟩=some v1∧w.cell? ⟨g,2,none⟩=some v2∧w.cell? ⟨g,3,none⟩=some v3:=⟨blk_cell h 0,blk_cell h 1,blk_cell h 2,blk_cell h 3⟩
theorem cj4_ {p:Prop} {w:World} {g:Nat} {t:TypeId} {v0 v1 v2 v3:Value} (h:w.heap[g]? = some (.cells #[v0,v1,v2,v3] t (0,0))) (r:p):w.cell? ⟨g,0,none⟩=some v0∧w.cell? ⟨g,1,none⟩=some v1∧w.cell? ⟨g,2,none⟩=some v2∧w.cell? ⟨g,3,none⟩=some v3∧p:=⟨blk_cell h 0,blk_cell h 1,blk_cell h 2,blk_cell h 3,r⟩
theorem blkB_ {W0 W W':World} {g:Nat} {o:Obj} (h:W0.heap[g]? = some o) (hb:Below W.heap.size W W') (f:W0.heap[g]? = some o→W.heap[g]? = some o:=by intro h_;(with_reducible repeat (first | refine blk_drewN ?_ _ | refine blk_drew ?_ | refine blk_alloc ?_ _));exact h_):W'.heap[g]? = some o:=blk_below (f h) hb
theorem neL_ {W0 W:World} {g b:Nat} {o:Obj} (h:W0.heap[b]? = some o) (hg:g=W.heap.size) (f:W0.heap[b]? = some o→W.heap[b]? = some o:=by intro h_;(with_reducible repeat (first | refine blk_drewN ?_ _ | refine blk_drew ?_ | refine blk_alloc ?_ _));exact h_):b≠g:=by rw [hg];exact Nat.ne_of_lt (blk_lt (f h))
theorem neG_ {W0 W:World} {g b:Nat} {o:Obj} (h:W0.heap[b]? = some o) (hg:g=W.heap.size) (f:W0.heap[b]? = some o→W.heap[b]? = some o:=by intro h_;(with_reducible repeat (first | refine blk_drewN ?_ _ | refine blk_drew ?_ | refine blk_alloc ?_ _));exact h_):g≠b:=by rw [hg];exact Nat.ne_of_gt (blk_lt (f h))
theorem cz2_ {w:World} {g:Nat} {t:TypeId} {v0 v1:Value} (h:w.heap[g]? = some (.cells #[v0,v1] t (0,0))):w.cell? ⟨g,0,none⟩=some v0∧w.cell? ⟨g,1,none⟩=some v1∧w.frozen? ⟨g,0,none⟩=false∧w.frozen? ⟨g,1,none⟩=false:=⟨blk_cell h 0,blk_cell h 1,blk_frozen h 0,blk_frozen h 1⟩
theorem cz4_ {w:World} {g:Nat} {t:TypeId} {v0 v1 v2 v3:Value} (h:w.heap[g]? = some (.cells #[v0,v1,v2,v3] t (0,0))):w.cell? ⟨g,0,none⟩=some v0∧w.cell? ⟨g,1,none⟩=some v1∧w.cell? ⟨g,2,none⟩=some v2∧w.cell? ⟨g,3,none⟩=some v3∧w.frozen? ⟨g,0,none⟩=false∧w.frozen? ⟨g,1,none⟩=false∧w.frozen? ⟨g,2,none⟩=false∧w.frozen? ⟨g,3,none⟩=false:=⟨blk_cell h 0,blk_cell h 1,blk_cell h 2,blk_cell h 3,blk_frozen h 0,blk_frozen h 1,blk_frozen h 2,blk_frozen h 3⟩
theorem cz5_ {w:World} {g:Nat} {t:TypeId} {v0 v1 v2 v3 v4:Value} (h:w.heap[g]? = some (.cells #[v0,v1,v2,v3,v4] t (0,0))):w.cell? ⟨g,0,none⟩=some v0∧w.cell? ⟨g,1,none⟩=some v1∧w.cell? ⟨g,2,none⟩=some v2∧w.cell? ⟨g,3,none⟩=some v3∧w.cell? ⟨g,4,none⟩=some v4∧w.frozen? ⟨g,0,none⟩=false∧w.frozen? ⟨g,1,none⟩=false∧w.frozen? ⟨g,2,none⟩=false∧w.frozen? ⟨g,3,none⟩=false∧w.frozen? ⟨g,4,none⟩=false:=⟨blk_cell h 0,blk_cell h 1,blk_cell h 2,blk_cell h 3,blk_cell h 4,blk_frozen h 0,blk_frozen h 1,blk_frozen h 2,blk_frozen h 3,blk_frozen h 4⟩
theorem put2_ {w:World} {g:Nat} {t:TypeId} {v0 v1 z0 z1:Value} (h:w.heap[g]? = some (.cells #[z0,z1] t (0,0))):((w.setCell ⟨g,0,none⟩ v0).setCell ⟨g,1,none⟩ v1).heap[g]? = some (.cells #[v0,v1] t (0,0)):=(blk_put (cs':=#[v0,v1]) (blk_put (cs':=#[v0,z1]) h 0 v0 rfl) 1 v1 rfl)
theorem rf2_ {α:Type} {d:Kd α} {e:TypeId} {w:World} {base g:Nat} {ok:Nat→Prop} {v:Value} {xs:List α} {v0 v1:Value} (h:d.R e w base ok v xs) (f:∀ k,ok k→k≠g):d.R e ((w.setCell ⟨g,0,none⟩ v0).setCell ⟨g,1,none⟩ v1) base ok v xs:=(Kd.R_far (p:=⟨g,1,none⟩) (Kd.R_far (p:=⟨g,0,none⟩) h f v0) f v1)
theorem put4_ {w:World} {g:Nat} {t:TypeId} {v0 v1 v2 v3 z0 z1 z2 z3:Value} (h:w.heap[g]? = some (.cells #[z0,z1,z2,z3] t (0,0))):((((w.setCell ⟨g,0,none⟩ v0).setCell ⟨g,1,none⟩ v1).setCell ⟨g,2,none⟩ v2).setCell ⟨g,3,none⟩ v3).heap[g]? = some (.cells #[v0,v1,v2,v3] t (0,0)):=(blk_put (cs':=#[v0,v1,v2,v3]) (blk_put (cs':=#[v0,v1,v2,z3]) (blk_put (cs':=#[v0,v1,z2,z3]) (blk_put (cs':=#[v0,z1,z2,z3]) h 0 v0 rfl) 1 v1 rfl) 2 v2 rfl) 3 v3 rfl)
theorem rf4_ {α:Type} {d:Kd α} {e:TypeId} {w:World} {base g:Nat} {ok:Nat→Prop} {v:Value} {xs:List α} {v0 v1 v2 v3:Value} (h:d.R e w base ok v xs) (f:∀ k,ok k→k≠g):d.R e ((((w.setCell ⟨g,0,none⟩ v0).setCell ⟨g,1,none⟩ v1).setCell ⟨g,2,none⟩ v2).setCell ⟨g,3,none⟩ v3) base ok v xs:=(Kd.R_far (p:=⟨g,3,none⟩) (Kd.R_far (p:=⟨g,2,none⟩) (Kd.R_far (p:=⟨g,1,none⟩) (Kd.R_far (p:=⟨g,0,none⟩) h f v0) f v1) f v2) f v3)
theorem put5_ {w:World} {g:Nat} {t:TypeId} {v0 v1 v2 v3 v4 z0 z1 z2 z3 z4:Value} (h:w.heap[g]? = some (.cells #[z0,z1,z2,z3,z4] t (0,0))):(((((w.setCell ⟨g,0,none⟩ v0).setCell ⟨g,1,none⟩ v1).setCell ⟨g,2,none⟩ v2).setCell ⟨g,3,none⟩ v3).setCell ⟨g,4,none⟩ v4).heap[g]? = some (.cells #[v0,v1,v2,v3,v4] t (0,0)):=(blk_put (cs':=#[v0,v1,v2,v3,v4]) (blk_put (cs':=#[v0,v1,v2,v3,z4]) (blk_put (cs':=#[v0,v1,v2,z3,z4]) (blk_put (cs':=#[v0,v1,z2,z3,z4]) (blk_put (cs':=#[v0,z1,z2,z3,z4]) h 0 v0 rfl) 1 v1 rfl) 2 v2 rfl) 3 v3 rfl) 4 v4 rfl)
theorem rf5_ {α:Type} {d:Kd α} {e:TypeId} {w:World} {base g:Nat} {ok:Nat→Prop} {v:Value} {xs:List α} {v0 v1 v2 v3 v4:Value} (h:d.R e w base ok v xs) (f:∀ k,ok k→k≠g):d.R e (((((w.setCell ⟨g,0,none⟩ v0).setCell ⟨g,1,none⟩ v1).setCell ⟨g,2,none⟩ v2).setCell ⟨g,3,none⟩ v3).setCell ⟨g,4,none⟩ v4) base ok v xs:=(Kd.R_far (p:=⟨g,4,none⟩) (Kd.R_far (p:=⟨g,3,none⟩) (Kd.R_far (p:=⟨g,2,none⟩) (Kd.R_far (p:=⟨g,1,none⟩) (Kd.R_far (p:=⟨g,0,none⟩) h f v0) f v1) f v2) f v3) f v4)
theorem as2_ {p p0 p1:Prop} (hp0:p0) (hp1:p1) (h:Aside0 p0→Aside0 p1→p):p:=h ⟨hp0⟩ ⟨hp1⟩
theorem as3_ {p p0 p1 p2:Prop} (hp0:p0) (hp1:p1) (hp2:p2) (h:Aside0 p0→Aside0 p1→Aside0 p2→p):p:=h ⟨hp0⟩ ⟨hp1⟩ ⟨hp2⟩
theorem as4_ {p p0 p1 p2 p3:Prop} (hp0:p0) (hp1:p1) (hp2:p2) (hp3:p3) (h:Aside0 p0→Aside0 p1→Aside0 p2→Aside0 p3→p):p:=h ⟨hp0⟩ ⟨hp1⟩ ⟨hp2⟩ ⟨hp3⟩
theorem as5_ {p p0 p1 p2 p3 p4:Prop} (hp0:p0) (hp1:p1) (hp2:p2) (hp3:p3) (hp4:p4) (h:Aside0 p0→Aside0 p1→Aside0 p2→Aside0 p3→Aside0 p4→p):p:=h ⟨hp0⟩ ⟨hp1⟩ ⟨hp2⟩ ⟨hp3⟩ ⟨hp4⟩
theorem as6_ {p p0 p1 p2 p3 p4 p5:Prop} (hp0:p0) (hp1:p1) (hp2:p2) (hp3:p3) (hp4:p4) (hp5:p5) (h:Aside0 p0→Aside0 p1→Aside0 p2→Aside0 p3→Aside0 p4→Aside0 p5→p):p:=h ⟨hp0⟩ ⟨hp1⟩ ⟨hp2⟩ ⟨hp3⟩ ⟨hp4⟩ ⟨hp5⟩
theorem as7_ {p p0 p1 p2 p3 p4 p5 p6:Prop} (hp0:p0) (hp1:p1) (hp2:p2) (hp3:p3) (hp4:p4) (hp5:p5) (hp6:p6) (h:Aside0 p0→Aside0 p1→Aside0 p2→Aside0 p3→Aside0 p4→Aside0 p5→Aside0 p6→p):p:=h ⟨hp0⟩ ⟨hp1⟩ ⟨hp2⟩ ⟨hp3⟩ ⟨hp4⟩ ⟨hp5⟩ ⟨hp6⟩
theorem as8_ {p p0 p1 p2 p3 p4 p5 p6 p7:Prop} (hp0:p0) (hp1:p1) (hp2:p2) (hp3:p3) (hp4:p4) (hp5:p5) (hp6:p6) (hp7:p7) (h:Aside0 p0→Aside0 p1→Aside0 p2→Aside0 p3→Aside0 p4→Aside0 p5→Aside0 p6→Aside0 p7→p):p:=h ⟨hp0⟩ ⟨hp1⟩ ⟨hp2⟩ ⟨hp3⟩ ⟨hp4⟩ ⟨hp5⟩ ⟨hp6⟩ ⟨hp7⟩
theorem as9_ {p p0 p1 p2 p3 p4 p5 p6 p7 p8:Prop} (hp0:p0) (hp1:p1) (hp2:p2) (hp3:p3) (hp4:p4) (hp5:p5) (hp6:p6) (hp7:p7) (hp8:p8) (h:Aside0 p0→Aside0 p1→Aside0 p2→Aside0 p3→Aside0 p4→Aside0 p5→Aside0 p6→Aside0 p7→Aside0 p8→p):p:=h ⟨hp0⟩ ⟨hp1⟩ ⟨hp2⟩ ⟨hp3⟩ ⟨hp4⟩ ⟨hp5⟩ ⟨hp6⟩ ⟨hp7⟩ ⟨hp8⟩
theorem as10_ {p p0 p1 p2 p3 p4 p5 p6 p7 p8 p9:Prop} (hp0:p0) (hp1:p1) (hp2:p2) (hp3:p3) (hp4:p4) (hp5:p5) (hp6:p6) (hp7:p7) (hp8:p8) (hp9:p9) (h:Aside0 p0→Aside0 p1→Aside0 p2→Aside0 p3→Aside0 p4→Aside0 p5→Aside0 p6→Aside0 p7→Aside0 p8→Aside0 p9→p):p:=h ⟨hp0⟩ ⟨hp1⟩ ⟨hp2⟩ ⟨hp3⟩ ⟨hp4⟩ ⟨hp5⟩ ⟨hp6⟩ ⟨hp7⟩ ⟨hp8⟩ ⟨hp9⟩
theorem as11_ {p p0 p1 p2 p3 p4 p5 p6 p7 p8 p9 p10:Prop} (hp0:p0) (hp1:p1) (hp2:p2) (hp3:p3) (hp4:p4) (hp5:p5) (hp6:p6) (hp7:p7) (hp8:p8) (hp9:p9) (hp10:p10) (h:Aside0 p0→Aside0 p1→Aside0 p2→Aside0 p3→Aside0 p4→Aside0 p5→Aside0 p6→Aside0 p7→Aside0 p8→Aside0 p9→Aside0 p10→p):p:=h ⟨hp0⟩ ⟨hp1⟩ ⟨hp2⟩ ⟨hp3⟩ ⟨hp4⟩ ⟨hp5⟩ ⟨hp6⟩ ⟨hp7⟩ ⟨hp8⟩ ⟨hp9⟩ ⟨hp10⟩
theorem as12_ {p p0 p1 p2 p3 p4 p5 p6 p7 p8 p9 p10 p11:Prop} (hp0:p0) (hp1:p1) (hp2:p2) (hp3:p3) (hp4:p4) (hp5:p5) (hp6:p6) (hp7:p7) (hp8:p8) (hp9:p9) (hp10:p10) (hp11:p11) (h:Aside0 p0→Aside0 p1→Aside0 p2→Aside0 p3→Aside0 p4→Aside0 p5→Aside0 p6→Aside0 p7→Aside0 p8→Aside0 p9→Aside0 p10→Aside0 p11→p):p:=h ⟨hp0⟩ ⟨hp1⟩ ⟨hp2⟩ ⟨hp3⟩ ⟨hp4⟩ ⟨hp5⟩ ⟨hp6⟩ ⟨hp7⟩ ⟨hp8⟩ ⟨hp9⟩ ⟨hp10⟩ ⟨hp11⟩
theorem as13_ {p p0 p1 p2 p3 p4 p5 p6 p7 p8 p9 p10 p11 p12:Prop} (hp0:p0) (hp1:p1) (hp2:p2) (hp3:p3) (hp4:p4) (hp5:p5) (hp6:p6) (hp7:p7) (hp8:p8) (hp9:p9) (hp10:p10) (hp11:p11) (hp12:p12) (h:Aside0 p0→Aside0 p1→Aside0 p2→Aside0 p3→Aside0 p4→Aside0 p5→Aside0 p6→Aside0 p7→Aside0 p8→Aside0 p9→Aside0 p10→Aside0 p11→Aside0 p12→p):p:=h ⟨hp0⟩ ⟨hp1⟩ ⟨hp2⟩ ⟨hp3⟩ ⟨hp4⟩ ⟨hp5⟩ ⟨hp6⟩ ⟨hp7⟩ ⟨hp8⟩ ⟨hp9⟩ ⟨hp10⟩ ⟨hp11⟩ ⟨hp12⟩
theorem as14_ {p p0 p1 p2 p3 p4 p5 p6 p7 p8 p9 p10 p11 p12 p13:Prop} (hp0:p0) (hp1:p1) (hp2:p2) (hp3:p3) (hp4:p4) (hp5:p5) (hp6:p6) (hp7:p7) (hp8:p8) (hp9:p9) (hp10:p10) (hp11:p11) (hp12:p12) (hp13:p13) (h:Aside0 p0→Aside0 p1→Aside0 p2→Aside0 p3→Aside0 p4→Aside0 p5→Aside0 p6→Aside0 p7→Aside0 p8→Aside0 p9→Aside0 p10→Aside0 p11→Aside0 p12→Aside0 p13→p):p:=h ⟨hp0⟩ ⟨hp1⟩ ⟨hp2⟩ ⟨hp3⟩ ⟨hp4⟩ ⟨hp5⟩ ⟨hp6⟩ ⟨hp7⟩ ⟨hp8⟩ ⟨hp9⟩ ⟨hp10⟩ ⟨hp11⟩ ⟨hp12⟩ ⟨hp13⟩
theorem as15_ {p p0 p1 p2 p3 p4 p5 p6 p7 p8 p9 p10 p11 p12 p13 p14:Prop} (hp0:p0) (hp1:p1) (hp2:p2) (hp3:p3) (hp4:p4) (hp5:p5) (hp6:p6) (hp7:p7) (hp8:p8) (hp9:p9) (hp10:p10) (hp11:p11) (hp12:p12) (hp13:p13) (hp14:p14) (h:Aside0 p0→Aside0 p1→Aside0 p2→Aside0 p3→Aside0 p4→Aside0 p5→Aside0 p6→Aside0 p7→Aside0 p8→Aside0 p9→Aside0 p10→Aside0 p11→Aside0 p12→Aside0 p13→Aside0 p14→p):p:=h ⟨hp0⟩ ⟨hp1⟩ ⟨hp2⟩ ⟨hp3⟩ ⟨hp4⟩ ⟨hp5⟩ ⟨hp6⟩ ⟨hp7⟩ ⟨hp8⟩ ⟨hp9⟩ ⟨hp10⟩ ⟨hp11⟩ ⟨hp12⟩ ⟨hp13⟩ ⟨hp14⟩
theorem as16_ {p p0 p1 p2 p3 p4 p5 p6 p7 p8 p9 p10 p11 p12 p13 p14 p15:Prop} (hp0:p0) (hp1:p1) (hp2:p2) (hp3:p3) (hp4:p4) (hp5:p5) (hp6:p6) (hp7:p7) (hp8:p8) (hp9:p9) (hp10:p10) (hp11:p11) (hp12:p12) (hp13:p13) (hp14:p14) (hp15:p15) (h:Aside0 p0→Aside0 p1→Aside0 p2→Aside0 p3→Aside0 p4→Aside0 p5→Aside0 p6→Aside0 p7→Aside0 p8→Aside0 p9→Aside0 p10→Aside0 p11→Aside0 p12→Aside0 p13→Aside0 p14→Aside0 p15→p):p:=h ⟨hp0⟩ ⟨hp1⟩ ⟨hp2⟩ ⟨hp3⟩ ⟨hp4⟩ ⟨hp5⟩ ⟨hp6⟩ ⟨hp7⟩ ⟨hp8⟩ ⟨hp9⟩ ⟨hp10⟩ ⟨hp11⟩ ⟨hp12⟩ ⟨hp13⟩ ⟨hp14⟩ ⟨hp15⟩
theorem as17_ {p p0 p1 p2 p3 p4 p5 p6 p7 p8 p9 p10 p11 p12 p13 p14 p15 p16:Prop} (hp0:p0) (hp1:p1) (hp2:p2) (hp3:p3) (hp4:p4) (hp5:p5) (hp6:p6) (hp7:p7) (hp8:p8) (hp9:p9) (hp10:p10) (hp11:p11) (hp12:p12) (hp13:p13) (hp14:p14) (hp15:p15) (hp16:p16) (h:Aside0 p0→Aside0 p1→Aside0 p2→Aside0 p3→Aside0 p4→Aside0 p5→Aside0 p6→Aside0 p7→Aside0 p8→Aside0 p9→Aside0 p10→Aside0 p11→Aside0 p12→Aside0 p13→Aside0 p14→Aside0 p15→Aside0 p16→p):p:=h ⟨hp0⟩ ⟨hp1⟩ ⟨hp2⟩ ⟨hp3⟩ ⟨hp4⟩ ⟨hp5⟩ ⟨hp6⟩ ⟨hp7⟩ ⟨hp8⟩ ⟨hp9⟩ ⟨hp10⟩ ⟨hp11⟩ ⟨hp12⟩ ⟨hp13⟩ ⟨hp14⟩ ⟨hp15⟩ ⟨hp16⟩
theorem as18_ {p p0 p1 p2 p3 p4 p5 p6 p7 p8 p9 p10 p11 p12 p13 p14 p15 p16 p17:Prop} (hp0:p0) (hp1:p1) (hp2:p2) (hp3:p3) (hp4:p4) (hp5:p5) (hp6:p6) (hp7:p7) (hp8:p8) (hp9:p9) (hp10:p10) (hp11:p11) (hp12:p12) (hp13:p13) (hp14:p14) (hp15:p15) (hp16:p16) (hp17:p17) (h:Aside0 p0→Aside0 p1→Aside0 p2→Aside0 p3→Aside0 p4→Aside0 p5→Aside0 p6→Aside0 p7→Aside0 p8→Aside0 p9→Aside0 p10→Aside0 p11→Aside0 p12→Aside0 p13→Aside0 p14→Aside0 p15→Aside0 p16→Aside0 p17→p):p:=h ⟨hp0⟩ ⟨hp1⟩ ⟨hp2⟩ ⟨hp3⟩ ⟨hp4⟩ ⟨hp5⟩ ⟨hp6⟩ ⟨hp7⟩ ⟨hp8⟩ ⟨hp9⟩ ⟨hp10⟩ ⟨hp11⟩ ⟨hp12⟩ ⟨hp13⟩ ⟨hp14⟩ ⟨hp15⟩ ⟨hp16⟩ ⟨hp17⟩
theorem as23_ {p p0 p1 p2 p3 p4 p5 p6 p7 p8 p9 p10 p11 p12 p13 p14 p15 p16 p17 p18 p19 p20 p21 p22:Prop} (hp0:p0) (hp1:p1) (hp2:p2) (hp3:p3) (hp4:p4) (hp5:p5) (hp6:p6) (hp7:p7) (hp8:p8) (hp9:p9) (hp10:p10) (hp11:p11) (hp12:p12) (hp13:p13) (hp14:p14) (hp15:p15) (hp16:p16) (hp17:p17) (hp18:p18) (hp19:p19) (hp20:p20) (hp21:p21) (hp22:p22) (h:Aside0 p0→Aside0 p1→Aside0 p2→Aside0 p3→Aside0 p4→Aside0 p5→Aside0 p6→Aside0 p7→Aside0 p8→Aside0 p9→Aside0 p10→Aside0 p11→Aside0 p12→Aside0 p13→Aside0 p14→Aside0 p15→Aside0 p16→Aside0 p17→Aside0 p18→Aside0 p19→Aside0 p20→Aside0 p21→Aside0 p22→p):p:=h ⟨hp0⟩ ⟨hp1⟩ ⟨hp2⟩ ⟨hp3⟩ ⟨hp4⟩ ⟨hp5⟩ ⟨hp6⟩ ⟨hp7⟩ ⟨hp8⟩ ⟨hp9⟩ ⟨hp10⟩ ⟨hp11⟩ ⟨hp12⟩ ⟨hp13⟩ ⟨hp14⟩ ⟨hp15⟩ ⟨hp16⟩ ⟨hp17⟩ ⟨hp18⟩ ⟨hp19⟩ ⟨hp20⟩ ⟨hp21⟩ ⟨hp22⟩
theorem as27_ {p p0 p1 p2 p3 p4 p5 p6 p7 p8 p9 p10 p11 p12 p13 p14 p15 p16 p17 p18 p19 p20 p21 p22 p23 p24 p25 p26:Prop} (hp0:p0) (hp1:p1) (hp2:p2) (hp3:p3) (hp4:p4) (hp5:p5) (hp6:p6) (hp7:p7) (hp8:p8) (hp9:p9) (hp10:p10) (hp11:p11) (hp12:p12) (hp13:p13) (hp14:p14) (hp15:p15) (hp16:p16) (hp17:p17) (hp18:p18) (hp19:p19) (hp20:p20) (hp21:p21) (hp22:p22) (hp23:p23) (hp24:p24) (hp25:p25) (hp26:p26) (h:Aside0 p0→Aside0 p1→Aside0 p2→Aside0 p3→Aside0 p4→Aside0 p5→Aside0 p6→Aside0 p7→Aside0 p8→Aside0 p9→Aside0 p10→Aside0 p11→Aside0 p12→Aside0 p13→Aside0 p14→Aside0 p15→Aside0 p16→Aside0 p17→Aside0 p18→Aside0 p19→Aside0 p20→Aside0 p21→Aside0 p22→Aside0 p23→Aside0 p24→Aside0 p25→Aside0 p26→p):p:=h ⟨hp0⟩ ⟨hp1⟩ ⟨hp2⟩ ⟨hp3⟩ ⟨hp4⟩ ⟨hp5⟩ ⟨hp6⟩ ⟨hp7⟩ ⟨hp8⟩ ⟨hp9⟩ ⟨hp10⟩ ⟨hp11⟩ ⟨hp12⟩ ⟨hp13⟩ ⟨hp14⟩ ⟨hp15⟩ ⟨hp16⟩ ⟨hp17⟩ ⟨hp18⟩ ⟨hp19⟩ ⟨hp20⟩ ⟨hp21⟩ ⟨hp22⟩ ⟨hp23⟩ ⟨hp24⟩ ⟨hp25⟩ ⟨hp26⟩
theorem z0_ {a0 p:Prop} (h0:a0) (f:a0→p:=by intro h0_;(with_reducible repeat (first | apply Kd.R_alloc | apply Kd.R_drewN | apply Kd.R_drew));exact h0_):p:=f h0
theorem z1_ {p:Prop} (f:p:=by first | (with_reducible assumption) | assumption):p:=f
theorem z2_ {p:Prop} (f:p:=by first | rfl | (simp;done) | (simp [*];done) | (simp [bne];done)):p:=f
theorem z3_ {a0 p:Prop} (h0:a0) (f:a0→p:=by intro h0_;repeat (first | (with_reducible first | exact h0_ | apply below_alloc | apply pw_below_drewN | apply below_drew1) | exact h0_)):p:=f h0
theorem z4_ {a0 a1 a2 p:Prop} (h0:a0) (h1:a1) (h2:a2) (f:a0→a1→a2→p:=by intro h0_ h1_ h2_;repeat (first | (with_reducible first | exact h0_ | apply below_alloc | apply pw_below_drewN | apply below_drew1 | refine below_set ?_ h1_ | refine below_set ?_ h2_) | exact h0_)):p:=f h0 h1 h2
theorem z5_ {a0 p:Prop} (h0:a0) (f:a0→p:=by intro h0_;(with_reducible repeat (first | refine blk_drewN ?_ _ | refine blk_drew ?_ | refine blk_alloc ?_ _));exact h0_):p:=f h0
theorem z6_ {a0 a1 p:Prop} (h0:a0) (h1:a1) (f:a0→a1→p:=by intro h0_ h1_;repeat (first | (with_reducible first | exact h0_ | apply below_alloc | apply pw_below_drewN | apply below_drew1 | refine below_set ?_ h1_) | exact h0_)):p:=f h0 h1
theorem z7_ {a0 p:Prop} (h0:a0) (f:a0→p:=by intro h0_;rw [hg];exact (below_size (by repeat (first | (with_reducible first | exact h0_ | apply below_alloc | apply pw_below_drewN | apply below_drew1) | exact h0_)))):p:=f h0
theorem z8_ {p:Prop} (f:p:=by first | rfl | (simp [errW_none,errW_some] <;> rfl) | (simp [*,errW_none,errW_some] <;> rfl)):p:=f
theorem z9_ {a0 a1 p:Prop} (h0:a0) (h1:a1) (f:a0→a1→p:=by intro h0_ h1_;rw [hg];exact (below_size (by repeat (first | (with_reducible first | exact h0_ | apply below_alloc | apply pw_below_drewN | apply below_drew1 | refine below_set ?_ h1_) | exact h0_)))):p:=f h0 h1
theorem z10_ {a0 a1 a2 a3 a4 p:Prop} (h0:a0) (h1:a1) (h2:a2) (h3:a3) (h4:a4) (f:a0→a1→a2→a3→a4→p:=by intro h0_ h1_ h2_ h3_ h4_;repeat (first | (with_reducible first | exact h0_ | apply below_alloc | apply pw_below_drewN | apply below_drew1 | refine below_set ?_ h1_ | refine below_set ?_ h2_ | refine below_set ?_ h3_ | refine below_set ?_ h4_) | exact h0_)):p:=f h0 h1 h2 h3 h4
theorem z11_ {p:Prop} (f:p:=by repeat (first | exact Drawn0.refl _ | apply Drawn0.step)):p:=f
theorem z12_ {a0 a1 p:Prop} (h0:a0) (h1:a1) (f:a0→a1→p:=by intro h0_ h1_;(with_reducible repeat (first | apply Kd.R_alloc | apply Kd.R_drewN | apply Kd.R_drew));exact (Kd.R_mono (rf5_ (Kd.R_types h0_ h1_ (by decide)) (fun _ hk=>hk.2)) (fun _ h_=>h_.1))):p:=f h0 h1
theorem z13_ {a0 a1 a2 a3 p:Prop} (h0:a0) (h1:a1) (h2:a2) (h3:a3) (f:a0→a1→a2→a3→p:=by intro h0_ h1_ h2_ h3_;repeat (first | (with_reducible first | exact h0_ | apply below_alloc | apply pw_below_drewN | apply below_drew1 | refine below_set ?_ h1_ | refine below_set ?_ h2_ | refine below_set ?_ h3_) | exact h0_)):p:=f h0 h1 h2 h3
theorem z14_ {a0 p:Prop} (h0:a0) (f:a0→p:=by intro h0_;repeat (first | (with_reducible first | exact h0_ | apply Kept.alloc | apply Kept.drewN | apply Kept.drew) | exact h0_)):p:=f h0
theorem z15_ {a0 a1 p:Prop} (h0:a0) (h1:a1) (f:a0→a1→p:=by intro h0_ h1_;(with_reducible repeat (first | refine blk_drewN ?_ _ | refine blk_drew ?_ | refine blk_alloc ?_ _));refine blk_far ?_ h0_ _;(with_reducible repeat (first | refine blk_drewN ?_ _ | refine blk_drew ?_ | refine blk_alloc ?_ _));refine blk_far ?_ h0_ _;(with_reducible repeat (first | refine blk_drewN ?_ _ | refine blk_drew ?_ | refine blk_alloc ?_ _));refine blk_far ?_ h0_ _;(with_reducible repeat (first | refine blk_drewN ?_ _ | refine blk_drew ?_ | refine blk_alloc ?_ _));refine blk_far ?_ h0_ _;(with_reducible repeat (first | refine blk_drewN ?_ _ | refine blk_drew ?_ | refine blk_alloc ?_ _));exact h1_):p:=f h0 h1
theorem z16_ {a0 a1 p:Prop} (h0:a0) (h1:a1) (f:a0→a1→p:=by intro h0_ h1_;(with_reducible repeat (first | refine blk_drewN ?_ _ | refine blk_drew ?_ | refine blk_alloc ?_ _));refine blk_far ?_ h0_ _;(with_reducible repeat (first | refine blk_drewN ?_ _ | refine blk_drew ?_ | refine blk_alloc ?_ _));exact h1_):p:=f h0 h1
theorem z17_ {a0 a1 p:Prop} (h0:a0) (h1:a1) (f:a0→a1→p:=by intro h0_ h1_;(with_reducible repeat (first | apply Kd.R_alloc | apply Kd.R_drewN | apply Kd.R_drew));exact (Kd.R_mono (rf2_ (Kd.R_types h0_ h1_ (by decide)) (fun _ hk=>hk.2)) (fun _ h_=>h_.1))):p:=f h0 h1
theorem z18_ {a0 a1 p:Prop} (h0:a0) (h1:a1) (f:a0→a1→p:=by intro h0_ h1_;(with_reducible repeat (first | refine blk_drewN ?_ _ | refine blk_drew ?_ | refine blk_alloc ?_ _));refine blk_far ?_ h0_ _;(with_reducible repeat (first | refine blk_drewN ?_ _ | refine blk_drew ?_ | refine blk_alloc ?_ _));refine blk_far ?_ h0_ _;(with_reducible repeat (first | refine blk_drewN ?_ _ | refine blk_drew ?_ | refine blk_alloc ?_ _));exact h1_):p:=f h0 h1
theorem z19_ {a0 p:Prop} (h0:a0) (f:a0→p:=by intro h0_;(with_reducible repeat (first | refine blk_drewN ?_ _ | refine blk_drew ?_ | refine blk_alloc ?_ _));apply put4_;(with_reducible repeat (first | refine blk_drewN ?_ _ | refine blk_drew ?_ | refine blk_alloc ?_ _));exact h0_):p:=f h0
theorem z20_ {a0 a1 a2 p:Prop} (h0:a0) (h1:a1) (h2:a2) (f:a0→a1→a2→p:=by intro h0_ h1_ h2_;rw [hg];exact (below_size (by repeat (first | (with_reducible first | exact h0_ | apply below_alloc | apply pw_below_drewN | apply below_drew1 | refine below_set ?_ h1_ | refine below_set ?_ h2_) | exact h0_)))):p:=f h0 h1 h2
theorem z21_ {a0 p:Prop} (h0:a0) (f:a0→p:=by intro h0_;(with_reducible repeat (first | refine blk_drewN ?_ _ | refine blk_drew ?_ | refine blk_alloc ?_ _));apply put2_;(with_reducible repeat (first | refine blk_drewN ?_ _ | refine blk_drew ?_ | refine blk_alloc ?_ _));exact h0_):p:=f h0
theorem z22_ {a0 p:Prop} (h0:a0) (f:a0→p:=by intro h0_;have h_:(x5_1:Int)<((x0_1.length:Int):Int):=of_decide_eq_true (by first | (with_reducible assumption) | assumption);first | exact h_ | (have e_:=(Kd.R_reads' h0_).1;omega) | simpa using h_):p:=f h0
theorem z23_ {a0 p:Prop} (h0:a0) (f:a0→p:=by intro h0_;have:=h0_;first | omega | exact Nat.le_refl _):p:=f h0
theorem z24_ {a0 p:Prop} (h0:a0) (f:a0→p:=by intro h0_;(with_reducible repeat (first | refine blk_drewN ?_ _ | refine blk_drew ?_ | refine blk_alloc ?_ _));apply put5_;(with_reducible repeat (first | refine blk_drewN ?_ _ | refine blk_drew ?_ | refine blk_alloc ?_ _));exact h0_):p:=f h0
theorem z25_ {a0 a1 a2 a3 a4 a5 p:Prop} (h0:a0) (h1:a1) (h2:a2) (h3:a3) (h4:a4) (h5:a5) (f:a0→a1→a2→a3→a4→a5→p:=by intro h0_ h1_ h2_ h3_ h4_ h5_;repeat (first | (with_reducible first | exact h0_ | apply below_alloc | apply pw_below_drewN | apply below_drew1 | refine below_set ?_ h1_ | refine below_set ?_ h2_ | refine below_set ?_ h3_ | refine below_set ?_ h4_ | refine below_set ?_ h5_) | exact h0_)):p:=f h0 h1 h2 h3 h4 h5
theorem z26_ {p:Prop} (f:p:=by first | exact Kd.R_nil _ _ _ _ _ | exact Kd.N_nil _ _ _ _ _ | exact Kd.V_nil _ _ _ _ _ | exact Kd.Q_nil _ _ _ _ _ | exact Kd.S_nil _ _ _ _ _):p:=f
theorem z27_ {a0 a1 p:Prop} (h0:a0) (h1:a1) (f:a0→a1→p:=by intro h0_ h1_;(with_reducible repeat (first | apply Kd.R_alloc | apply Kd.R_drewN | apply Kd.R_drew));exact Kd.R_mono (rf5_ (Kd.R_types h0_ h1_ (by decide)) (fun _ hk=>hk.2)) (fun _ hk=>trivial)):p:=f h0 h1
theorem z28_ {a0 a1 p:Prop} (h0:a0) (h1:a1) (f:a0→a1→p:=by intro h0_ h1_;(with_reducible repeat (first | apply Kd.R_alloc | apply Kd.R_drewN | apply Kd.R_drew));exact (Kd.R_mono (Kd.R_far (p:=⟨gb789,1,none⟩) (Kd.R_types h0_ h1_ (by decide)) (fun _ hk=>hk.2) (.slice Ao120 t813.length co120)) (fun _ h_=>h_.1))):p:=f h0 h1
theorem z29_ {a0 a1 p:Prop} (h0:a0) (h1:a1) (f:a0→a1→p:=by intro h0_ h1_;have:=h0_;have:=h1_;first | omega | exact Nat.le_refl _):p:=f h0 h1
theorem z30_ {a0 a1 a2 a3 p:Prop} (h0:a0) (h1:a1) (h2:a2) (h3:a3) (f:a0→a1→a2→a3→p:=by intro h0_ h1_ h2_ h3_;rw [hg];exact (below_size (by repeat (first | (with_reducible first | exact h0_ | apply below_alloc | apply pw_below_drewN | apply below_drew1 | refine below_set ?_ h1_ | refine below_set ?_ h2_ | refine below_set ?_ h3_) | exact h0_)))):p:=f h0 h1 h2 h3
theorem z31_ {a0 a1 p:Prop} (h0:a0) (h1:a1) (f:a0→a1→p:=by intro h0_ h1_;(with_reducible repeat (first | refine blk_drewN ?_ _ | refine blk_drew ?_ | refine blk_alloc ?_ _));refine blk_far ?_ h0_ _;(with_reducible repeat (first | refine blk_drewN ?_ _ | refine blk_drew ?_ | refine blk_alloc ?_ _));refine blk_far ?_ h0_ _;(with_reducible repeat (first | refine blk_drewN ?_ _ | refine blk_drew ?_ | refine blk_alloc ?_ _));refine blk_far ?_ h0_ _;(with_reducible repeat (first | refine blk_drewN ?_ _ | refine blk_drew ?_ | refine blk_alloc ?_ _));refine blk_far ?_ h0_ _;(with_reducible repeat (first | refine blk_drewN ?_ _ | refine blk_drew ?_ | refine blk_alloc ?_ _));refine blk_far ?_ h0_ _;(with_reducible repeat (first | refine blk_drewN ?_ _ | refine blk_drew ?_ | refine blk_alloc ?_ _));exact h1_):p:=f h0 h1
theorem z32_ {a0 a1 p:Prop} (h0:a0) (h1:a1) (f:a0→a1→p:=by intro h0_ h1_;(with_reducible repeat (first | apply Kd.R_alloc | apply Kd.R_drewN | apply Kd.R_drew));exact (Kd.R_mono (Kd.R_far (p:=⟨gb789,0,none⟩) (Kd.R_types h0_ h1_ (by decide)) (fun _ hk=>hk.2) (.slice Ao115 t810.length co115)) (fun _ h_=>h_.1))):p:=f h0 h1
theorem z33_ {a0 a1 p:Prop} (h0:a0) (h1:a1) (f:a0→a1→p:=by intro h0_ h1_;(with_reducible repeat (first | apply Kd.R_alloc | apply Kd.R_drewN | apply Kd.R_drew));exact (Kd.R_mono (Kd.R_far (p:=⟨gb789,0,none⟩) (Kd.R_types h0_ h1_ (by decide)) (fun _ hk=>hk.2) (.slice Ao140 t810.length co140)) (fun _ h_=>h_.1))):p:=f h0 h1
theorem z34_ {a0 a1 a2 a3 a4 p:Prop} (h0:a0) (h1:a1) (h2:a2) (h3:a3) (h4:a4) (f:a0→a1→a2→a3→a4→p:=by intro h0_ h1_ h2_ h3_ h4_;rw [hg];exact (below_size (by repeat (first | (with_reducible first | exact h0_ | apply below_alloc | apply pw_below_drewN | apply below_drew1 | refine below_set ?_ h1_ | refine below_set ?_ h2_ | refine below_set ?_ h3_ | refine below_set ?_ h4_) | exact h0_)))):p:=f h0 h1 h2 h3 h4
theorem z35_ {a0 p:Prop} (h0:a0) (f:a0→p:=by intro h0_;(with_reducible repeat (first | apply Kd.R_alloc | apply Kd.R_drewN | apply Kd.R_drew));exact Kd.R_mono h0_ (fun _ hk=>⟨hk.2.1,hk.2.2.1⟩)):p:=f h0
theorem z36_ {a0 a1 p:Prop} (h0:a0) (h1:a1) (f:a0→a1→p:=by intro h0_ h1_;repeat (first | (with_reducible first | exact h0_ | apply Kept.alloc | apply Kept.drewN | apply Kept.drew | refine Kept.setCell ?_ (.inr h1_) _) | exact h0_)):p:=f h0 h1
theorem z37_ {a0 p:Prop} (h0:a0) (f:a0→p:=by intro h0_;have h_:(x4_1:Int)<((x3_1.length:Int):Int):=of_decide_eq_true (by first | (with_reducible assumption) | assumption);first | exact h_ | (have e_:=(Kd.R_reads' h0_).1;omega) | simpa using h_):p:=f h0
theorem z38_ {a0 p:Prop} (h0:a0) (f:a0→p:=by intro h0_;(with_reducible repeat (first | apply Kd.R_alloc | apply Kd.R_drewN | apply Kd.R_drew));exact (Kd.R_mono (rf2_ (Kd.R_mono h0_ (fun k_ hk=>(⟨hk,hk.2⟩:_∧k_≠gb806))) (fun _ hk=>hk.2)) (fun _ h_=>h_.1))):p:=f h0
theorem z39_ {a0 p:Prop} (h0:a0) (f:a0→p:=by intro h0_;(with_reducible repeat (first | apply Kd.R_alloc | apply Kd.R_drewN | apply Kd.R_drew));exact Kd.R_mono h0_ (fun _ hk=>⟨hk.2.2.1,hk.2.2.2.2.1⟩)):p:=f h0
end Go.Proofs.Ytphbgcfpcadabaa.P

namespace Go.Proofs.Ytphbgcfpcadabaa.Open
open Go.RowKit Go.Proofs.YtphbgcfpcadabaaW.PrintWords

def Opens {α:Type} (P:Program) (t:TypeId) (d:Kd α) (wf:α→Prop):Prop :=
  ∀ {H:Type} {enc:TypeId × Value→H} {W:World} {base:Nat} {spare:Nat→Bool} {held:Bool} {fuel:Nat} {cs:List Value} {x:DataW H × List MemPlace},
    DataW.trod enc P W base spare held fuel t cs=some x→∃ a:α,d.K W a cs∧wf a
section
variable {P:Program} {t e:TypeId} {α β:Type} {d:Kd α} {d':Kd β} {wf:α→Prop} {wf':β→Prop}
theorem opens_int {k:IntKind} (ht:P.underlying t=some (.int k)):Opens P t (Kd.int k) (fun n=>(Lit.int k n).wf=true):=by
  intro H enc W base spare held fuel cs x h
  obtain ⟨n,rfl,_,hw⟩:=DataW.trod_int ht h
  exact ⟨n,rfl,hw⟩
theorem opens_bool (ht:P.underlying t=some .bool):Opens P t Kd.bool (fun _=>True):=by
  intro H enc W base spare held fuel cs x h
  obtain ⟨n,rfl,_⟩:=DataW.trod_bool ht h
  exact ⟨n,rfl,trivial⟩
theorem opens_string (ht:P.underlying t=some .string):Opens P t Kd.string (fun s=>s.size≤maxLen):=by
  intro H enc W base spare held fuel cs x h
  obtain ⟨n,rfl,_,hw⟩:=DataW.trod_string ht h
  exact ⟨n,rfl,hw⟩
theorem add_add_ (a:Addr) (i j:Nat):(a.add i).add j=a.add (i+j):=by
  by_cases hi:i=0 <;> by_cases hj:j=0 <;> simp [Addr.add,hi,hj,Nat.add_assoc]
theorem cells_get {W:World} {base n:Nat} {a:Addr} {c:List Value} (h:W.cells? base a n=some c):c.length=n∧∀ i u,c[i]? = some u→W.cell? (a.add i)=some u:=by
  unfold World.cells? at h
  split at h
  · have hl:c.length=n:=by simpa using mapM_some_length h
    refine ⟨hl,fun i u hu=>?_⟩
    have hi:i<n:=by rw [← hl];exact (List.getElem?_eq_some_iff.1 hu).1
    have:=mapM_some_get h i i (by simp [hi])
    rw [this,hu]
  · cases h
theorem opens_slice (ht:P.underlying t=some (.slice e)) (hs:P.cellsOf e=d.sz) (he:Opens P e d wf):Opens P t (Kd.slice e d) (fun l=>l.length≤maxLen∧∀ x ∈ l,wf x):=by
  intro H enc W base spare held fuel cs x h
  rcases DataW.trod_slice ht h with ⟨rfl,_⟩ | ⟨a,len,cap,elems,rest,n,_,rfl,rfl,hb,hl,hm,hlen,hel,_,_⟩
  · exact ⟨[],⟨none,0,rfl,Nat.le_refl _,Kd.C_nil _ _⟩,by simp [maxLen],by simp⟩
  have each:∀ i:Fin len,∃ y:α,∃ c:List Value,c.length=d.sz∧d.K W y c∧wf y∧∀ j u,c[j]? = some u→W.cell? (a.add (i.1*d.sz+j))=some u:=by
    intro i
    have h1:=hel i.1 i.2
    have h2:elems[i.1]? = some (elems[i.1]'(by rw [hlen];exact i.2)):=List.getElem?_eq_getElem _
    rw [h2,Option.bind_eq_some_iff] at h1
    obtain ⟨c,hc,hy⟩:=h1
    obtain ⟨y,hk,hw⟩:=he hy
    obtain ⟨_,hc2⟩:=cells_get hc
    refine ⟨y,c,d.K_len hk,hk,hw,fun j u hu=>?_⟩
    have:=hc2 j u hu
    rwa [add_add_,hs] at this
  have L:(List.ofFn fun i:Fin len=>(each i).choose).length=len:=List.length_ofFn
  have G:∀ j p,(List.ofFn fun i:Fin len=>(each i).choose)[j]? = some p→∃ h:j<len,p=(each ⟨j,h⟩).choose:=by
    intro j p hp
    have hj:j<len:=by rw [← L];exact (List.getElem?_eq_some_iff.1 hp).1
    refine ⟨hj,?_⟩
    rw [List.getElem?_ofFn] at hp
    simp only [hj,dite_true,Option.some.injEq] at hp
    exact hp.symm
  refine ⟨List.ofFn fun i:Fin len=>(each i).choose,⟨some a,cap,by rw [L],by rw [L];exact hl,rfl,by rw [L];exact Nat.le_trans hl hm,fun _=>⟨a,rfl,fun j p hp=>?_⟩⟩,by rw [L];exact Nat.le_trans hl hm,fun p hp=>?_⟩
  · obtain ⟨hj,rfl⟩:=G j p hp
    obtain ⟨c,h1,h2,_,h4⟩:=(each ⟨j,hj⟩).choose_spec
    exact ⟨c,h1,h2,h4⟩
  · obtain ⟨j,hj0⟩:=List.getElem?_of_mem hp
    obtain ⟨hj,rfl⟩:=G j p hj0
    exact (each ⟨j,hj⟩).choose_spec.choose_spec.2.2.1
/-- The fields from one on. -/
def OpensF {α:Type} (P:Program) (fs:List Field) (off:Nat) (d:Kd α) (wf:α→Prop):Prop :=
  ∀ {H:Type} {enc:TypeId × Value→H} {W:World} {base:Nat} {spare:Nat→Bool} {held:Bool} {n:Nat} {cs:List Value},
    (∀ (i:Nat) (f:Field),fs[i]? = some f→∃ y,DataW.trod enc P W base spare held n f.type ((cs.drop f.offset).take (P.cellsOf f.type))=some y)→cs.length=off+d.sz→∃ a:α,d.K W a (cs.drop off)∧wf a
theorem opensF_one {f:Field} {off:Nat} (ho:f.offset=off) (hs:P.cellsOf f.type=d.sz) (he:Opens P f.type d wf):OpensF P [f] off d wf:=by
  intro H enc W base spare held n cs h hl
  obtain ⟨y,hy⟩:=h 0 f rfl
  rw [ho,hs,List.take_of_length_le (by rw [List.length_drop];omega)] at hy
  exact he hy
theorem opensF_cons {f:Field} {fs:List Field} {off:Nat} (ho:f.offset=off) (hs:P.cellsOf f.type=d.sz) (he:Opens P f.type d wf) (hf:OpensF P fs (off+d.sz) d' wf') :
    OpensF P (f :: fs) off (Kd.pair d d') (fun x=>wf x.1∧wf' x.2):=by
  intro H enc W base spare held n cs h hl
  have hl':cs.length=off+(d.sz+d'.sz):=hl
  obtain ⟨y,hy⟩:=h 0 f rfl
  rw [ho,hs] at hy
  obtain ⟨a,ha,hw⟩:=he hy
  obtain ⟨b,hb,hw'⟩:=hf (cs:=cs) (fun i g hg=>h (i+1) g hg) (by omega)
  refine ⟨(a,b),⟨(cs.drop off).take d.sz,cs.drop (off+d.sz),?_,ha,hb⟩,hw,hw'⟩
  rw [← List.drop_drop,List.take_append_drop]
theorem opens_struct {fs:Array Field} (ht:P.underlying t=some (.struct fs)) (hc:P.cellsOf t=d.sz) (hf:OpensF P fs.toList 0 d wf):Opens P t d wf:=by
  intro H enc W base spare held fuel cs x h
  obtain ⟨xs,n,_,_,hl,hx,hall⟩:=DataW.trod_struct ht h
  have:=hf (H:=H) (enc:=enc) (W:=W) (base:=base) (spare:=spare) (held:=held) (n:=n) (cs:=cs) (fun i f hi=>by
    have h1:=hall i f (by simpa using hi)
    have hi2:i<xs.length:=by
      rw [hx]
      have:=(List.getElem?_eq_some_iff.1 hi).1
      simpa using this
    exact ⟨xs[i],by rw [h1];exact List.getElem?_eq_getElem hi2⟩) (by rw [hl,hc];omega)
  simpa using this
theorem opens_iso {f:β→α} {g:α→β} (hg:∀ y,f (g y)=y) (h:Opens P t d wf):Opens P t (Kd.iso d f) (fun x=>wf (f x)):=by
  intro H enc W base spare held fuel cs x hx
  obtain ⟨a,ha,hw⟩:=h hx
  exact ⟨g a,by show d.K W (f (g a)) cs;rw [hg];exact ha,by show wf (f (g a));rw [hg];exact hw⟩
end
end Go.Proofs.Ytphbgcfpcadabaa.Open

namespace Go.Proofs.Ytphbgcfpcadabaa.RO
open Go.RowKit Go.Proofs.Ytphbgcfpcadabaa.Open Go.Proofs.Ytphbgcfpcadabaa.P Go.Proofs.YtphbgcfpcadabaaW.PrintWords
set_option linter.unusedVariables false

def wfT100 (x:S100):Prop:=(Lit.int .i64 x.f0).wf=true∧(Lit.int .i64 x.f1).wf=true
theorem op_T100:Opens Try.prog 100 k100 wfT100:=opens_iso (f:=fun x:S100=>(x.f0,x.f1)) (g:=fun p_=>(⟨p_.1,p_.2⟩:S100)) (fun _=>rfl) (opens_struct Try.underlying100 (by kernel_rfl) (opensF_cons rfl (by kernel_rfl) (opens_int Try.underlying2) (opensF_one rfl (by kernel_rfl) (opens_int Try.underlying2))))
def wfT107 (x:S107):Prop:=wfT100 x.f0∧True∧x.f2.size≤maxLen
theorem op_T107:Opens Try.prog 107 k107 wfT107:=opens_iso (f:=fun x:S107=>(x.f0,x.f1,x.f2)) (g:=fun p_=>(⟨p_.1,p_.2.1,p_.2.2⟩:S107)) (fun _=>rfl) (opens_struct Try.underlying107 (by kernel_rfl) (opensF_cons rfl (by kernel_rfl) op_T100 (opensF_cons rfl (by kernel_rfl) (opens_bool Try.underlying4) (opensF_one rfl (by kernel_rfl) (opens_string Try.underlying9)))))
def wfT32 (x:S32):Prop:=(x.f0.length≤maxLen∧∀ y_ ∈ x.f0,wfT100 y_)∧(x.f1.length≤maxLen∧∀ y_ ∈ x.f1,wfT107 y_)
theorem op_T32:Opens Try.prog 32 k32 wfT32:=opens_iso (f:=fun x:S32=>(x.f0,x.f1)) (g:=fun p_=>(⟨p_.1,p_.2⟩:S32)) (fun _=>rfl) (opens_struct Try.underlying32 (by kernel_rfl) (opensF_cons rfl (by kernel_rfl) (opens_slice Try.underlying29 (by kernel_rfl) op_T100) (opensF_one rfl (by kernel_rfl) (opens_slice Try.underlying30 (by kernel_rfl) op_T107))))
end Go.Proofs.Ytphbgcfpcadabaa.RO

namespace Go.Proofs.Ytphbgcfpcadabaa.P
open Go.RowKit Go.Proofs.YtphbgcfpcadabaaW.PrintWords Go.Proofs.YtphbgcfpcadabaaW.PrintLast Go.Proofs.YtphbgcfpcadabaaW.PrintMore
attribute [local go_sem] max2_int min2_int max_two min_two max_three min_three max_four min_four   -- for this text's walks alone
set_option linter.unusedVariables false
set_option linter.unusedSimpArgs false

/-! ### laws_szMarkS: function 29 -/
def laws_szMarkS.f (l0:List (S100)) (a1:Int):Option (Int):=if (wrap64 (a1-(l0.length:Int)))<0 then (some (-1)) else (some (wrap64 (a1-(l0.length:Int))))
set_option maxHeartbeats 8000000 in
set_option maxRecDepth 100000 in
theorem laws_szMarkS.calls (A0:Option Addr) (c0:Nat) (l0:List (S100)) (a1:Int) (r:Int) (w:World) (hr0:Kd.C k100 w A0 l0.length l0) (hc0:l0.length≤c0) (h:laws_szMarkS.f l0 a1=some r) :
  Calls Try.prog 29 #[.slice A0 l0.length c0,.int .i64 a1] w fun e w'=>e = .returned (.int .i64 r)∧Drawn0 w w':=by
 have HR0:=Aside0.mk hr0
 have HC0:=Aside0.mk hc0
 clear hr0 hc0
 have H:(if (wrap64 (a1-(l0.length:Int)))<0 then (some (-1)) else (some (wrap64 (a1-(l0.length:Int)))))=some r:=h
 clear h
 by_cases c3:(wrap64 (a1-(l0.length:Int)))<0
 ·rw [if_pos c3] at H
  have c3b0:decide ((wrap64 (a1-(l0.length:Int)))<0)=true:=decide_eq_true c3
  clear c3
  obtain rfl:=Option.some.inj H
  go_enter Try.func29,Try.ntmps29
  go_wp2
  go_ret
  exact ⟨z2_,z11_⟩
 ·rw [if_neg c3] at H
  have c3b0:decide ((wrap64 (a1-(l0.length:Int)))<0)=false:=decide_eq_false c3
  clear c3
  obtain rfl:=Option.some.inj H
  go_enter Try.func29,Try.ntmps29
  go_wp2
  go_ret
  exact ⟨z2_,z11_⟩


/-! ### laws_szSib: function 80 -/
def laws_szSib.f (a0_0:Int) (a0_1:Int) (a0_2:Bool) (a0_3:ByteArray) (a1:Int):Option (Int):=if (wrap64 (a1-(a0_3.size:Int)))<0 then (some (-1)) else (some (wrap64 (a1-(a0_3.size:Int))))
set_option maxHeartbeats 8000000 in
set_option maxRecDepth 100000 in
theorem laws_szSib.calls (a0_0:Int) (a0_1:Int) (a0_2:Bool) (a0_3:ByteArray) (a1:Int) (r:Int) (w:World) (h:laws_szSib.f a0_0 a0_1 a0_2 a0_3 a1=some r) :
  Calls Try.prog 80 #[.agg #[.int .i64 a0_0,.int .i64 a0_1,.bool a0_2,.string a0_3],.int .i64 a1] w fun e w'=>e = .returned (.int .i64 r)∧Below w.heap.size w w':=by
 have hu107:=Try.underlying107
 have HB:=Aside0.mk (Below.refl w.heap.size w)
 have H:(if (wrap64 (a1-(a0_3.size:Int)))<0 then (some (-1)) else (some (wrap64 (a1-(a0_3.size:Int)))))=some r:=h
 clear h
 by_cases c3:(wrap64 (a1-(a0_3.size:Int)))<0
 ·rw [if_pos c3] at H
  have c3b0:decide ((wrap64 (a1-(a0_3.size:Int)))<0)=true:=decide_eq_true c3
  clear c3
  obtain rfl:=Option.some.inj H
  go_enter Try.func80,Try.ntmps80
  go_wp2_with (first | ((with_reducible refine gd_ 2 ?_);refine be_ 2 #[.int .i64 a0_0,.int .i64 a0_1,.bool a0_2,.string a0_3] 107 ?_;intro gb101 hg w4 hbox hb;refine as4_ (below_step (z3_ HB.out) hb) (hbox) ((z7_ HB.out:w.heap.size≤gb101)) ((z7_ HB.out:w.heap.size≤gb101)) ?_;clear HB;intro HB BK101 GW101 GE101;clear hb hbox hg;have ⟨hcz5_0,hcz5_1,hcz5_2,hcz5_3,hfz5_0,hfz5_1,hfz5_2,hfz5_3⟩:=cz4_ BK101.out))
  go_ret
  exact ⟨z8_,z6_ HB.out GE101.out⟩
 ·rw [if_neg c3] at H
  have c3b0:decide ((wrap64 (a1-(a0_3.size:Int)))<0)=false:=decide_eq_false c3
  clear c3
  obtain rfl:=Option.some.inj H
  go_enter Try.func80,Try.ntmps80
  go_wp2_with (first | ((with_reducible refine gd_ 2 ?_);refine be_ 2 #[.int .i64 a0_0,.int .i64 a0_1,.bool a0_2,.string a0_3] 107 ?_;intro gb101 hg w6 hbox hb;refine as4_ (below_step (z3_ HB.out) hb) (hbox) ((z7_ HB.out:w.heap.size≤gb101)) ((z7_ HB.out:w.heap.size≤gb101)) ?_;clear HB;intro HB BK101 GW101 GE101;clear hb hbox hg;have ⟨hcz7_0,hcz7_1,hcz7_2,hcz7_3,hfz7_0,hfz7_1,hfz7_2,hfz7_3⟩:=cz4_ BK101.out))
  go_ret
  exact ⟨z8_,z6_ HB.out GE101.out⟩


/-! ### laws_szSibS: function 49 -/
def laws_szSibS.l0:Nat→List (S107)→Int→Int→Option (Int)
 | 0,_,_,_=>none
 | k+1,x0,x1,x5=>if x5<(x0.length:Int) then (if 0≤x5 then ((laws_szSib.f ((rd_T107 x0 x5).f0.f0) ((rd_T107 x0 x5).f0.f1) ((rd_T107 x0 x5).f1) ((rd_T107 x0 x5).f2) x1).bind fun t103=>(if t103<0 then (some (-1)) else (laws_szSibS.l0 k x0 t103 (wrap64 (x5+1))))) else (none)) else (some x1)
def laws_szSibS.f (k:Nat) (l0:List (S107)) (a1:Int):Option (Int):=if (wrap64 (a1-(l0.length:Int)))<0 then (some (-1)) else (laws_szSibS.l0 k l0 (wrap64 (a1-(l0.length:Int))) 0)
theorem laws_szSibS.mono_l:∀ k,(∀ y0 y1 y2,LeO (laws_szSibS.l0 k y0 y1 y2) (laws_szSibS.l0 (k+1) y0 y1 y2))
 | 0=>fun _ _ _ r h=>by simp [laws_szSibS.l0] at h
 | k+1=>by
  have ih0:=laws_szSibS.mono_l k
  ·intro y0 y1 y2
   unfold laws_szSibS.l0
   repeat' first
   | (with_reducible exact ih0 _ _ _)
   | (with_reducible exact LeO.refl _)
   | (with_reducible exact LeO.none _)
   | (with_reducible refine LeO.ite ?_ ?_)
   | (with_reducible refine LeO.bind ?_ (fun _=>?_))
   | exact ih0 _ _ _
   | exact LeO.none _
   | refine LeO.ite ?_ ?_
   | refine LeO.bind ?_ (fun _=>?_)
theorem laws_szSibS.mono:∀ a0 a1 k,LeO (laws_szSibS.f k a0 a1) (laws_szSibS.f (k+1) a0 a1):=by
 intro a0 a1 k
 have ih0:=laws_szSibS.mono_l k
 unfold laws_szSibS.f
 repeat' first
   | (with_reducible exact ih0 _ _ _)
   | (with_reducible exact LeO.refl _)
   | (with_reducible exact LeO.none _)
   | (with_reducible refine LeO.ite ?_ ?_)
   | (with_reducible refine LeO.bind ?_ (fun _=>?_))
   | exact ih0 _ _ _
   | exact LeO.none _
   | refine LeO.ite ?_ ?_
   | refine LeO.bind ?_ (fun _=>?_)
set_option maxHeartbeats 8000000 in
set_option maxRecDepth 100000 in
theorem laws_szSibS.calls (k:Nat) (A0:Option Addr) (c0:Nat) (l0:List (S107)) (a1:Int) (r:Int) (w:World) (hr0:Kd.C k107 w A0 l0.length l0) (hc0:l0.length≤c0) (h:laws_szSibS.f k l0 a1=some r) :
  Calls Try.prog 49 #[.slice A0 l0.length c0,.int .i64 a1] w fun e w'=>e = .returned (.int .i64 r)∧Below w.heap.size w w':=by
 have hu107:=Try.underlying107
 have HR0:=Aside0.mk hr0
 have HC0:=Aside0.mk hc0
 clear hr0 hc0
 have HB:=Aside0.mk (Below.refl w.heap.size w)
 have H:(if (wrap64 (a1-(l0.length:Int)))<0 then (some (-1)) else (laws_szSibS.l0 k l0 (wrap64 (a1-(l0.length:Int))) 0))=some r:=h
 clear h
 by_cases c3:(wrap64 (a1-(l0.length:Int)))<0
 ·rw [if_pos c3] at H
  have c3b0:decide ((wrap64 (a1-(l0.length:Int)))<0)=true:=decide_eq_true c3
  clear c3
  obtain rfl:=Option.some.inj H
  go_enter Try.func49,Try.ntmps49
  go_wp2
  go_ret
  exact ⟨z8_,z3_ HB.out⟩
 ·rw [if_neg c3] at H
  have c3b0:decide ((wrap64 (a1-(l0.length:Int)))<0)=false:=decide_eq_false c3
  clear c3
  have H':=Aside0.mk H
  clear H
  go_enter Try.func49,Try.ntmps49
  go_wp2
  go_loopg [1,5] k (fun kq v1 v5 w'=>∃ (x1_1:Int) (x5_1:Int),v1 = .int .i64 x1_1∧v5 = .int .i64 x5_1∧Aside0 (laws_szSibS.l0 kq l0 x1_1 x5_1=some r)∧Aside0 (kq≤k)∧Aside0 (Below w.heap.size w w'))
  case atStart=>exact ⟨(wrap64 (a1-(l0.length:Int))),(0),(z2_),(z2_),H',⟨Nat.le_refl _⟩,⟨z3_ HB.out⟩⟩
  case round =>
   clear H'
   try clear p2
   try clear c3
   try clear c3b0
   obtain ⟨x1_1,x5_1,rfl,rfl,HA,HK1,HB⟩:=hrel
   cases gk with
   | zero=>exact absurd HA.out (by simp [laws_szSibS.l0])
   | succ k1 =>
    have H:=HA.out
    clear HA
    simp only [laws_szSibS.l0] at H
    by_cases c4:x5_1<(l0.length:Int)
    ·rw [if_pos c4] at H
     have c4b0:decide (x5_1<(l0.length:Int))=true:=decide_eq_true c4
     clear c4
     by_cases c5:0≤x5_1
     ·rw [if_pos c5] at H
      have c5b0:decide (0≤x5_1)=true:=decide_eq_true c5
      clear c5
      replace H:=Option.bind_eq_some_iff.mp H
      obtain ⟨t103,A60,H⟩:=H
      replace H:(if t103<0 then (some (-1)) else (laws_szSibS.l0 k1 l0 t103 (wrap64 (x5_1+1))))=some r:=H
      have A6:=Aside0.mk A60
      clear A60
      by_cases c7:t103<0
      ·rw [if_pos c7] at H
       have c7b0:decide (t103<0)=true:=decide_eq_true c7
       clear c7
       obtain rfl:=Option.some.inj H
       have p102:0≤(x5_1:Int):=of_decide_eq_true (z1_)
       have q102:x5_1<(l0.length:Int):=of_decide_eq_true (z1_)
       obtain ⟨ad102,e102,hx102_0,hx102_1,hx102_2,hx102_3⟩:=at_T107 HR0.out x5_1 p102 q102
       cases e102
       replace hx102_0:=(HB.out.cell (World.block_lt_of_cell? w _ hx102_0)).trans hx102_0
       replace hx102_1:=(HB.out.cell (World.block_lt_of_cell? w _ hx102_1)).trans hx102_1
       replace hx102_2:=(HB.out.cell (World.block_lt_of_cell? w _ hx102_2)).trans hx102_2
       replace hx102_3:=(HB.out.cell (World.block_lt_of_cell? w _ hx102_3)).trans hx102_3
       replace p102:=eq_true p102
       replace q102:=eq_true q102
       go_wp2_with (first | ((with_reducible refine gc_ 80 ?_);refine gl_ (some 23) Try.func80 #[.agg #[.int .i64 ((rd_T107 l0 x5_1).f0.f0),.int .i64 ((rd_T107 l0 x5_1).f0.f1),.bool ((rd_T107 l0 x5_1).f1),.string ((rd_T107 l0 x5_1).f2)],.int .i64 x1_1] ?_;(with_reducible refine (laws_szSib.calls ((rd_T107 l0 x5_1).f0.f0) ((rd_T107 l0 x5_1).f0.f1) ((rd_T107 l0 x5_1).f1) ((rd_T107 l0 x5_1).f2) x1_1 t103 _ A6.out).mono ?_);rintro e w8 ⟨rfl,hb⟩;refine ⟨_,rfl,?_⟩;have n0_:=Aside0.mk (below_step (z3_ HB.out) hb);clear HB;have HB:=n0_;clear n0_;(try clear hb)))
       go_ret
       exact ⟨z8_,z3_ HB.out⟩
      ·rw [if_neg c7] at H
       have c7b0:decide (t103<0)=false:=decide_eq_false c7
       clear c7
       have H':=Aside0.mk H
       clear H
       have p102:0≤(x5_1:Int):=of_decide_eq_true (z1_)
       have q102:x5_1<(l0.length:Int):=of_decide_eq_true (z1_)
       obtain ⟨ad102,e102,hx102_0,hx102_1,hx102_2,hx102_3⟩:=at_T107 HR0.out x5_1 p102 q102
       cases e102
       replace hx102_0:=(HB.out.cell (World.block_lt_of_cell? w _ hx102_0)).trans hx102_0
       replace hx102_1:=(HB.out.cell (World.block_lt_of_cell? w _ hx102_1)).trans hx102_1
       replace hx102_2:=(HB.out.cell (World.block_lt_of_cell? w _ hx102_2)).trans hx102_2
       replace hx102_3:=(HB.out.cell (World.block_lt_of_cell? w _ hx102_3)).trans hx102_3
       replace p102:=eq_true p102
       replace q102:=eq_true q102
       go_wp2_with (first | ((with_reducible refine gc_ 80 ?_);refine gl_ (some 23) Try.func80 #[.agg #[.int .i64 ((rd_T107 l0 x5_1).f0.f0),.int .i64 ((rd_T107 l0 x5_1).f0.f1),.bool ((rd_T107 l0 x5_1).f1),.string ((rd_T107 l0 x5_1).f2)],.int .i64 x1_1] ?_;(with_reducible refine (laws_szSib.calls ((rd_T107 l0 x5_1).f0.f0) ((rd_T107 l0 x5_1).f0.f1) ((rd_T107 l0 x5_1).f1) ((rd_T107 l0 x5_1).f2) x1_1 t103 _ A6.out).mono ?_);rintro e w9 ⟨rfl,hb⟩;refine ⟨_,rfl,?_⟩;have n0_:=Aside0.mk (below_step (z3_ HB.out) hb);clear HB;have HB:=n0_;clear n0_;(try clear hb)))
       go_roundg k1
       case measure=>have:=HK1.out;omega
       case rel=>exact ⟨(t103),(wrap64 (x5_1+1)),(z2_),(z2_),H',⟨by have:=HK1.out;omega⟩,⟨z3_ HB.out⟩⟩
     ·rw [if_neg c5] at H
      exact absurd H (by simp)
    ·rw [if_neg c4] at H
     have c4b0:decide (x5_1<(l0.length:Int))=false:=decide_eq_false c4
     clear c4
     obtain rfl:=Option.some.inj H
     go_wp2
     go_ret
     exact ⟨z8_,z3_ HB.out⟩


/-! ### laws_szSet: function 12 -/
def laws_szSet.f (k:Nat) (l0_0:List (S100)) (l0_1:List (S107)) (a1:Int):Option (Int):=(laws_szMarkS.f l0_0 a1).bind fun t105=>(if t105<0 then (some (-1)) else ((laws_szSibS.f k l0_1 t105).bind fun t106=>(if t106<0 then (some (-1)) else (some t106))))
theorem laws_szSet.mono:∀ a0 a1 a2 k,LeO (laws_szSet.f k a0 a1 a2) (laws_szSet.f (k+1) a0 a1 a2):=by
 intro a0 a1 a2 k
 unfold laws_szSet.f
 repeat' first
   | (with_reducible exact laws_szSibS.mono _ _ _)
   | (with_reducible exact LeO.refl _)
   | (with_reducible exact LeO.none _)
   | (with_reducible refine LeO.ite ?_ ?_)
   | (with_reducible refine LeO.bind ?_ (fun _=>?_))
   | exact laws_szSibS.mono _ _ _
   | exact LeO.none _
   | refine LeO.ite ?_ ?_
   | refine LeO.bind ?_ (fun _=>?_)
set_option maxHeartbeats 8000000 in
set_option maxRecDepth 100000 in
theorem laws_szSet.calls (k:Nat) (A0_0:Option Addr) (c0_0:Nat) (l0_0:List (S100)) (A0_1:Option Addr) (c0_1:Nat) (l0_1:List (S107)) (a1:Int) (r:Int) (w:World) (hr0_0:Kd.C k100 w A0_0 l0_0.length l0_0) (hc0_0:l0_0.length≤c0_0) (hr0_1:Kd.C k107 w A0_1 l0_1.length l0_1) (hc0_1:l0_1.length≤c0_1) (h:laws_szSet.f k l0_0 l0_1 a1=some r) :
  Calls Try.prog 12 #[.agg #[.slice A0_0 l0_0.length c0_0,.slice A0_1 l0_1.length c0_1],.int .i64 a1] w fun e w'=>e = .returned (.int .i64 r)∧Below w.heap.size w w':=by
 have hu32:=Try.underlying32
 have HR0_0:=Aside0.mk hr0_0
 have HC0_0:=Aside0.mk hc0_0
 clear hr0_0 hc0_0
 have HR0_1:=Aside0.mk hr0_1
 have HC0_1:=Aside0.mk hc0_1
 clear hr0_1 hc0_1
 have HB:=Aside0.mk (Below.refl w.heap.size w)
 have H:((laws_szMarkS.f l0_0 a1).bind fun t105=>(if t105<0 then (some (-1)) else ((laws_szSibS.f k l0_1 t105).bind fun t106=>(if t106<0 then (some (-1)) else (some t106)))))=some r:=h
 clear h
 replace H:=Option.bind_eq_some_iff.mp H
 obtain ⟨t105,A30,H⟩:=H
 replace H:(if t105<0 then (some (-1)) else ((laws_szSibS.f k l0_1 t105).bind fun t106=>(if t106<0 then (some (-1)) else (some t106))))=some r:=H
 have A3:=Aside0.mk A30
 clear A30
 by_cases c4:t105<0
 ·rw [if_pos c4] at H
  have c4b0:decide (t105<0)=true:=decide_eq_true c4
  clear c4
  obtain rfl:=Option.some.inj H
  go_enter Try.func12,Try.ntmps12
  go_wp2_with (first | ((with_reducible refine gd_ 2 ?_);refine be_ 2 #[.slice A0_0 l0_0.length c0_0,.slice A0_1 l0_1.length c0_1] 32 ?_;intro gb104 hg w5 hbox hb;refine as4_ (below_step (z3_ HB.out) hb) (hbox) ((z7_ HB.out:w.heap.size≤gb104)) ((z7_ HB.out:w.heap.size≤gb104)) ?_;clear HB;intro HB BK104 GW104 GE104;clear hb hbox hg;have ⟨hcz6_0,hcz6_1,hfz6_0,hfz6_1⟩:=cz2_ BK104.out) | ((with_reducible refine gc_ 29 ?_);refine gl_ (some 8) Try.func29 #[.slice A0_0 l0_0.length c0_0,.int .i64 a1] ?_;(with_reducible refine (laws_szMarkS.calls _ _ l0_0 a1 t105 _ ?s1 ?s2 A3.out).mono ?_);(case s1=>repeat (first | exact (Kd.C_below HR0_0.out HB.out) | (with_reducible refine Kd.C_alloc ?_ _) | (with_reducible refine Kd.C_drewN ?_ _) | (with_reducible refine Kd.C_drew ?_)));(case s2=>exact HC0_0.out);rintro e w' ⟨rfl,⟨nd,rfl⟩⟩;refine ⟨_,rfl,?_⟩))
  go_ret
  exact ⟨z8_,z6_ HB.out GE104.out⟩
 ·rw [if_neg c4] at H
  have c4b0:decide (t105<0)=false:=decide_eq_false c4
  clear c4
  replace H:=Option.bind_eq_some_iff.mp H
  obtain ⟨t106,A70,H⟩:=H
  replace H:(if t106<0 then (some (-1)) else (some t106))=some r:=H
  have A7:=Aside0.mk A70
  clear A70
  by_cases c8:t106<0
  ·rw [if_pos c8] at H
   have c8b0:decide (t106<0)=true:=decide_eq_true c8
   clear c8
   obtain rfl:=Option.some.inj H
   go_enter Try.func12,Try.ntmps12
   go_wp2_with (first | ((with_reducible refine gd_ 2 ?_);refine be_ 2 #[.slice A0_0 l0_0.length c0_0,.slice A0_1 l0_1.length c0_1] 32 ?_;intro gb104 hg w9 hbox hb;refine as4_ (below_step (z3_ HB.out) hb) (hbox) ((z7_ HB.out:w.heap.size≤gb104)) ((z7_ HB.out:w.heap.size≤gb104)) ?_;clear HB;intro HB BK104 GW104 GE104;clear hb hbox hg;have ⟨hcz10_0,hcz10_1,hfz10_0,hfz10_1⟩:=cz2_ BK104.out) | ((with_reducible refine gc_ 29 ?_);refine gl_ (some 8) Try.func29 #[.slice A0_0 l0_0.length c0_0,.int .i64 a1] ?_;(with_reducible refine (laws_szMarkS.calls _ _ l0_0 a1 t105 _ ?s1 ?s2 A3.out).mono ?_);(case s1=>repeat (first | exact (Kd.C_below HR0_0.out HB.out) | (with_reducible refine Kd.C_alloc ?_ _) | (with_reducible refine Kd.C_drewN ?_ _) | (with_reducible refine Kd.C_drew ?_)));(case s2=>exact HC0_0.out);rintro e w' ⟨rfl,⟨nd,rfl⟩⟩;refine ⟨_,rfl,?_⟩) | ((with_reducible refine gc_ 49 ?_);refine gl_ (some 14) Try.func49 #[.slice A0_1 l0_1.length c0_1,.int .i64 t105] ?_;(with_reducible refine (laws_szSibS.calls k _ _ l0_1 t105 t106 _ ?s1 ?s2 A7.out).mono ?_);(case s1=>repeat (first | exact (Kd.C_below HR0_1.out (z6_ HB.out GE104.out)) | (with_reducible refine Kd.C_alloc ?_ _) | (with_reducible refine Kd.C_drewN ?_ _) | (with_reducible refine Kd.C_drew ?_)));(case s2=>exact HC0_1.out);rintro e w11 ⟨rfl,hb⟩;refine ⟨_,rfl,?_⟩;refine as2_ (blkB_ BK104.out hb) (below_step (z6_ HB.out GE104.out) hb) ?_;clear BK104 HB;intro BK104 HB;(try clear hb)))
   go_ret
   exact ⟨z8_,z6_ HB.out GE104.out⟩
  ·rw [if_neg c8] at H
   have c8b0:decide (t106<0)=false:=decide_eq_false c8
   clear c8
   obtain rfl:=Option.some.inj H
   go_enter Try.func12,Try.ntmps12
   go_wp2_with (first | ((with_reducible refine gd_ 2 ?_);refine be_ 2 #[.slice A0_0 l0_0.length c0_0,.slice A0_1 l0_1.length c0_1] 32 ?_;intro gb104 hg w12 hbox hb;refine as4_ (below_step (z3_ HB.out) hb) (hbox) ((z7_ HB.out:w.heap.size≤gb104)) ((z7_ HB.out:w.heap.size≤gb104)) ?_;clear HB;intro HB BK104 GW104 GE104;clear hb hbox hg;have ⟨hcz13_0,hcz13_1,hfz13_0,hfz13_1⟩:=cz2_ BK104.out) | ((with_reducible refine gc_ 29 ?_);refine gl_ (some 8) Try.func29 #[.slice A0_0 l0_0.length c0_0,.int .i64 a1] ?_;(with_reducible refine (laws_szMarkS.calls _ _ l0_0 a1 t105 _ ?s1 ?s2 A3.out).mono ?_);(case s1=>repeat (first | exact (Kd.C_below HR0_0.out HB.out) | (with_reducible refine Kd.C_alloc ?_ _) | (with_reducible refine Kd.C_drewN ?_ _) | (with_reducible refine Kd.C_drew ?_)));(case s2=>exact HC0_0.out);rintro e w' ⟨rfl,⟨nd,rfl⟩⟩;refine ⟨_,rfl,?_⟩) | ((with_reducible refine gc_ 49 ?_);refine gl_ (some 14) Try.func49 #[.slice A0_1 l0_1.length c0_1,.int .i64 t105] ?_;(with_reducible refine (laws_szSibS.calls k _ _ l0_1 t105 t106 _ ?s1 ?s2 A7.out).mono ?_);(case s1=>repeat (first | exact (Kd.C_below HR0_1.out (z6_ HB.out GE104.out)) | (with_reducible refine Kd.C_alloc ?_ _) | (with_reducible refine Kd.C_drewN ?_ _) | (with_reducible refine Kd.C_drew ?_)));(case s2=>exact HC0_1.out);rintro e w14 ⟨rfl,hb⟩;refine ⟨_,rfl,?_⟩;refine as2_ (blkB_ BK104.out hb) (below_step (z6_ HB.out GE104.out) hb) ?_;clear BK104 HB;intro BK104 HB;(try clear hb)))
   go_ret
   exact ⟨z8_,z6_ HB.out GE104.out⟩


/-! ### laws_toMark: function 74 -/
def laws_toMark.f (a0_0:Int) (a0_1:Int):Option (Int × Int):=some (a0_0,a0_1)
set_option maxHeartbeats 8000000 in
set_option maxRecDepth 100000 in
theorem laws_toMark.calls (a0_0:Int) (a0_1:Int) (r1:Int) (r2:Int) (w:World) (h:laws_toMark.f a0_0 a0_1=some (r1,r2)) :
  Calls Try.prog 74 #[.agg #[.int .i64 a0_0,.int .i64 a0_1]] w fun e w'=>e = .returned (.agg #[.int .i64 r1,.int .i64 r2])∧Below w.heap.size w w':=by
 have hu100:=Try.underlying100
 have hu56:=Try.underlying56
 have HB:=Aside0.mk (Below.refl w.heap.size w)
 have H:(some (a0_0,a0_1))=some (r1,r2):=h
 clear h
 simp only [Option.some.injEq,Prod.mk.injEq] at H
 obtain ⟨rfl,rfl⟩:=H
 go_enter Try.func74,Try.ntmps74
 go_wp2_with (first | ((with_reducible refine gd_ 1 ?_);refine be_ 1 #[.int .i64 a0_0,.int .i64 a0_1] 100 ?_;intro gb185 hg w2 hbox hb;refine as4_ (below_step (z3_ HB.out) hb) (hbox) ((z7_ HB.out:w.heap.size≤gb185)) ((z7_ HB.out:w.heap.size≤gb185)) ?_;clear HB;intro HB BK185 GW185 GE185;clear hb hbox hg) | ((with_reducible refine gd_ 2 ?_);refine be_ 2 #[.int .i64 0,.int .i64 0] 56 ?_;intro gb186 hg w3 hbox hb;refine as7_ (blkB_ BK185.out hb) (below_step (z6_ HB.out GE185.out) hb) (hbox) ((z9_ HB.out GE185.out:w.heap.size≤gb186)) ((z9_ HB.out GE185.out:w.heap.size≤gb186)) (neL_ BK185.out hg) (neG_ BK185.out hg) ?_;clear BK185 HB;intro BK185 HB BK186 GW186 GE186 NB185_186 NB186_185;clear hb hbox hg) | ((with_reducible refine gd_ 3 ?_);refine be_ 3 #[.int .i64 0,.int .i64 0] 56 ?_;intro gb187 hg w4 hbox hb;refine as10_ (blkB_ BK185.out hb) (blkB_ BK186.out hb) (below_step (z4_ HB.out GE185.out GE186.out) hb) (hbox) ((z20_ HB.out GE185.out GE186.out:w.heap.size≤gb187)) ((z20_ HB.out GE185.out GE186.out:w.heap.size≤gb187)) (neL_ BK185.out hg) (neG_ BK185.out hg) (neL_ BK186.out hg) (neG_ BK186.out hg) ?_;clear BK185 BK186 HB;intro BK185 BK186 HB BK187 GW187 GE187 NB185_187 NB187_185 NB186_187 NB187_186;clear hb hbox hg;have hnb5:=NB185_186.out;have hnc5:=NB186_185.out;have hnb6:=NB185_187.out;have hnc6:=NB187_185.out;have ⟨hcz7_0,hcz7_1,hfz7_0,hfz7_1⟩:=cz2_ BK185.out;have hnb8:=NB187_186.out;have hnc8:=NB186_187.out;have ⟨hcz9_0,hcz9_1,hfz9_0,hfz9_1⟩:=cz2_ BK187.out;have ⟨hcz10_0,hcz10_1,hfz10_0,hfz10_1⟩:=cz2_ BK186.out))
 refine bodyPost_ret (results_cell_row rfl _ _ gb186 56 #[.int .i64 a0_0,.int .i64 a0_1] (0,0) _ rfl (by (with_reducible repeat (first | refine blk_drewN ?_ _ | refine blk_drew ?_ | refine blk_alloc ?_ _));apply put2_;(with_reducible repeat (first | refine blk_drewN ?_ _ | refine blk_drew ?_ | refine blk_alloc ?_ _));refine blk_far ?_ NB186_187.out _;(with_reducible repeat (first | refine blk_drewN ?_ _ | refine blk_drew ?_ | refine blk_alloc ?_ _));refine blk_far ?_ NB186_187.out _;(with_reducible repeat (first | refine blk_drewN ?_ _ | refine blk_drew ?_ | refine blk_alloc ?_ _));exact BK186.out) Try.underlying56 rfl (by kernel_rfl)) rfl ?_
 exact ⟨z8_,z13_ HB.out GE185.out GE186.out GE187.out⟩


/-! ### laws_toMarkS: function 31 -/
def laws_toMarkS.l0:Nat→List (S100)→List (S56)→Int→Option ((List (S56)))
 | 0,_,_,_=>none
 | k+1,x0,x3,x4=>if x4<(x0.length:Int) then (if 0≤x4 then ((laws_toMark.f ((rd_T100 x0 x4).f0) ((rd_T100 x0 x4).f1)).bind fun bt192=>(if x4<(x3.length:Int) then (laws_toMarkS.l0 k x0 (x3.set (x4:Int).toNat (⟨bt192.1,bt192.2⟩:S56)) (wrap64 (x4+1))) else (none))) else (none)) else (some x3)
def laws_toMarkS.f (k:Nat) (l0:List (S100)):Option ((List (S56))):=if 0≤(l0.length:Int) then (if ((l0.length:Int):Int).toNat≤17592186044416 then (laws_toMarkS.l0 k l0 (List.replicate ((l0.length:Int):Int).toNat z56) 0) else (none)) else (none)
theorem laws_toMarkS.mono_l:∀ k,(∀ y0 y1 y2,LeO (laws_toMarkS.l0 k y0 y1 y2) (laws_toMarkS.l0 (k+1) y0 y1 y2))
 | 0=>fun _ _ _ r h=>by simp [laws_toMarkS.l0] at h
 | k+1=>by
  have ih0:=laws_toMarkS.mono_l k
  ·intro y0 y1 y2
   unfold laws_toMarkS.l0
   repeat' first
   | (with_reducible exact ih0 _ _ _)
   | (with_reducible exact LeO.refl _)
   | (with_reducible exact LeO.none _)
   | (with_reducible refine LeO.ite ?_ ?_)
   | (with_reducible refine LeO.bind ?_ (fun _=>?_))
   | exact ih0 _ _ _
   | exact LeO.none _
   | refine LeO.ite ?_ ?_
   | refine LeO.bind ?_ (fun _=>?_)
theorem laws_toMarkS.mono:∀ a0 k,LeO (laws_toMarkS.f k a0) (laws_toMarkS.f (k+1) a0):=by
 intro a0 k
 have ih0:=laws_toMarkS.mono_l k
 unfold laws_toMarkS.f
 repeat' first
   | (with_reducible exact ih0 _ _ _)
   | (with_reducible exact LeO.refl _)
   | (with_reducible exact LeO.none _)
   | (with_reducible refine LeO.ite ?_ ?_)
   | (with_reducible refine LeO.bind ?_ (fun _=>?_))
   | exact ih0 _ _ _
   | exact LeO.none _
   | refine LeO.ite ?_ ?_
   | refine LeO.bind ?_ (fun _=>?_)
set_option maxHeartbeats 8000000 in
set_option maxRecDepth 100000 in
theorem laws_toMarkS.calls (k:Nat) (A0:Option Addr) (c0:Nat) (l0:List (S100)) (r:List (S56)) (w:World) (hr0:Kd.C k100 w A0 l0.length l0) (hc0:l0.length≤c0) (h:laws_toMarkS.f k l0=some r) :
  Calls Try.prog 31 #[.slice A0 l0.length c0] w fun e w'=>∃ v0_:Value,e = .returned (v0_)∧Kd.R k56 56 w' w.heap.size (fun _=>True) v0_ r∧Below w.heap.size w w':=by
 have hu100:=Try.underlying100
 have hu56:=Try.underlying56
 have HR0:=Aside0.mk hr0
 have HC0:=Aside0.mk hc0
 clear hr0 hc0
 have HB:=Aside0.mk (Below.refl w.heap.size w)
 have H:(if 0≤(l0.length:Int) then (if ((l0.length:Int):Int).toNat≤17592186044416 then (laws_toMarkS.l0 k l0 (List.replicate ((l0.length:Int):Int).toNat z56) 0) else (none)) else (none))=some r:=h
 clear h
 by_cases c2:0≤(l0.length:Int)
 ·rw [if_pos c2] at H
  have c2b0:=eq_true c2
  have c2b1:decide (0≤(l0.length:Int))=true:=decide_eq_true c2
  clear c2
  by_cases c3:((l0.length:Int):Int).toNat≤17592186044416
  ·rw [if_pos c3] at H
   have c3b0:=eq_true c3
   have c3b1:decide (((l0.length:Int):Int).toNat≤17592186044416)=true:=decide_eq_true c3
   clear c3
   obtain ⟨y188,hy188⟩:∃ y_:List (S56),y_=(List.replicate ((l0.length:Int):Int).toNat z56):=⟨_,rfl⟩
   replace H:(laws_toMarkS.l0 k l0 y188 0)=some r:=by first | (rw [hy188];with_reducible exact H) | (have H2_:=(Option.bind_some _ _).symm.trans H;rw [hy188];with_reducible exact H2_) | (have H2_:=(Option.bind_some _ _).symm.trans H;with_reducible exact H2_) | with_reducible exact H | (rw [hy188];exact H) | exact H
   have Ny188:=Aside0.mk hy188
   clear hy188
   have H':=Aside0.mk H
   clear H
   go_enter Try.func31,Try.ntmps31
   go_wp2_with (first | ((with_reducible refine gd_ 7 ?_);refine Kd.R_make k56 _ 56 rfl (N:=7) rfl 37 _ _ rfl (l0.length:Int) rfl rfl Try.underlying37 (.agg #[(.int .i64 0),(.int .i64 0)]) 16 info56 rfl (by decide) (by omega) z56 (ok:=fun _=>True) (okp:=fun _=>True) (k56_mkM _ _ _ z56 ) (fun _ hk=>hk) trivial (of_decide_eq_true (z1_)) (Nat.le_trans (Nat.mul_le_mul_right _ (of_decide_eq_true (z1_):(l0.length:Int).toNat≤17592186044416)) (by omega)) (Below.refl _ _) (Nat.le_refl _) ?_;intro v189 w4 ho5 hb hg_ hnew_;clear hg_ hnew_;(first | rw [← Ny188.out] at ho5 | (simp only [Int.reduceToNat] at ho5;rw [← Ny188.out] at ho5));refine as2_ (Kd.R_lower ho5 (below_size (z3_ HB.out))) (below_step (z3_ HB.out) hb) ?_;clear HB;intro HO190 HB;clear hb ho5))
   go_loopg [4] k (fun kq v4 w'=>∃ (x3_1:List (S56)) (x4_1:Int),v4 = .int .i64 x4_1∧Aside0 (laws_toMarkS.l0 kq l0 x3_1 x4_1=some r)∧Aside0 (kq≤k)∧Aside0 (Kd.R k56 56 w' w.heap.size (fun _=>True) v189 x3_1)∧Aside0 (Below w.heap.size w w'))
   case atStart=>exact ⟨(y188),(0),(z2_),H',⟨Nat.le_refl _⟩,⟨z0_ HO190.out⟩,⟨z3_ HB.out⟩⟩
   case round =>
    clear H'
    try clear c2
    try clear c2b0
    try clear c2b1
    try clear p2
    try clear c3
    try clear c3b0
    try clear c3b1
    obtain ⟨x3_1,x4_1,rfl,HA,HK1,HO_3,HB⟩:=hrel
    cases gk with
    | zero=>exact absurd HA.out (by simp [laws_toMarkS.l0])
    | succ k1 =>
     have H:=HA.out
     clear HA
     simp only [laws_toMarkS.l0] at H
     by_cases c6:x4_1<(l0.length:Int)
     ·rw [if_pos c6] at H
      have c6b0:decide (x4_1<(l0.length:Int))=true:=decide_eq_true c6
      clear c6
      by_cases c7:0≤x4_1
      ·rw [if_pos c7] at H
       have c7b0:decide (0≤x4_1)=true:=decide_eq_true c7
       clear c7
       replace H:=Option.bind_eq_some_iff.mp H
       obtain ⟨⟨t192,t193⟩,A80,H⟩:=H
       replace H:(if x4_1<(x3_1.length:Int) then (laws_toMarkS.l0 k1 l0 (x3_1.set (x4_1:Int).toNat (⟨t192,t193⟩:S56)) (wrap64 (x4_1+1))) else (none))=some r:=H
       have A8:=Aside0.mk A80
       clear A80
       by_cases c9:x4_1<(x3_1.length:Int)
       ·rw [if_pos c9] at H
        have c9b0:decide (x4_1<(x3_1.length:Int))=true:=decide_eq_true c9
        clear c9
        obtain ⟨y194,hy194⟩:∃ y_:List (S56),y_=(x3_1.set (x4_1:Int).toNat (⟨t192,t193⟩:S56)):=⟨_,rfl⟩
        replace H:(laws_toMarkS.l0 k1 l0 y194 (wrap64 (x4_1+1)))=some r:=by first | (rw [hy194];with_reducible exact H) | (have H2_:=(Option.bind_some _ _).symm.trans H;rw [hy194];with_reducible exact H2_) | (have H2_:=(Option.bind_some _ _).symm.trans H;with_reducible exact H2_) | with_reducible exact H | (rw [hy194];exact H) | exact H
        have Ny194:=Aside0.mk hy194
        clear hy194
        have H':=Aside0.mk H
        clear H
        have p191:0≤(x4_1:Int):=of_decide_eq_true (z1_)
        have q191:x4_1<(l0.length:Int):=of_decide_eq_true (z1_)
        obtain ⟨ad191,e191,hx191_0,hx191_1⟩:=at_T100 HR0.out x4_1 p191 q191
        cases e191
        replace hx191_0:=(HB.out.cell (World.block_lt_of_cell? w _ hx191_0)).trans hx191_0
        replace hx191_1:=(HB.out.cell (World.block_lt_of_cell? w _ hx191_1)).trans hx191_1
        replace p191:=eq_true p191
        replace q191:=eq_true q191
        go_wp2_with (first | ((with_reducible refine gc_ 74 ?_);refine gl_ (some 20) Try.func74 #[.agg #[.int .i64 ((rd_T100 l0 x4_1).f0),.int .i64 ((rd_T100 l0 x4_1).f1)]] ?_;(with_reducible refine (laws_toMark.calls ((rd_T100 l0 x4_1).f0) ((rd_T100 l0 x4_1).f1) t192 t193 _ A8.out).mono ?_);rintro e w11 ⟨rfl,hb⟩;refine ⟨_,rfl,?_⟩;refine as2_ (Kd.R_below (z0_ HO_3.out) hb) (below_step (z3_ HB.out) hb) ?_;clear HO_3 HB;intro HO_3 HB;(try clear hb);have p10:0≤(x4_1:Int):=of_decide_eq_true (z1_);have q10:(x4_1:Int)<((x3_1.length:Int):Int):=of_decide_eq_true (z1_);obtain ⟨go10,co10,eo10,gb10,gl10,cl10,HG10⟩:=Kd.R_form HO_3.out (by omega);(first | cases eo10 | (injection eo10 with ea_ en_ ec_;(first | subst ea_ | (injection ea_ with ea_;subst ea_));subst ec_;clear en_));have GB10:=Aside0.mk gb10;have GG10:=Aside0.mk HG10;clear gb10 gl10 HG10;obtain ⟨ce10,hcl10,hM10,hcc10,hfr10⟩:=Kd.R_elem HO_3.out z56 (x4_1:Int) p10 q10;obtain rfl:=k56_openM hM10;have hx10_0:w11.cell? ⟨go10,(x4_1:Int).toNat*2,none⟩=some (.int .i64 ((rd_T56 x3_1 x4_1).f0)):=hcc10 0 _ rfl;have hx10_1:w11.cell? ⟨go10,(x4_1:Int).toNat*2+1,none⟩=some (.int .i64 ((rd_T56 x3_1 x4_1).f1)):=hcc10 1 _ rfl;have hf10_0:w11.frozen? ⟨go10,(x4_1:Int).toNat*2,none⟩=false:=hfr10 0;have hf10_1:w11.frozen? ⟨go10,(x4_1:Int).toNat*2+1,none⟩=false:=hfr10 1;clear hcl10 hcc10 hfr10 hM10;replace p10:=eq_true p10;replace q10:=eq_true q10;have HX12:=Aside0.mk (show Kd.R k56 56 w11 w.heap.size (fun _=>True) (.slice (some ⟨go10,0,none⟩) x3_1.length co10) x3_1 from (z0_ HO_3.out));obtain ⟨ce12,hcl12,hM12,hcc12,hfr12⟩:=Kd.R_elem HX12.out z56 (x4_1:Int) (of_decide_eq_true (z1_)) (z37_ HO_3.out);obtain rfl:=k56_openM hM12;have HP12:=Kd.R_seg HX12.out (x4_1:Int) (of_decide_eq_true (z1_)) (z37_ HO_3.out) (seg:=[.int .i64 t192,.int .i64 t193]) (j:=0) hcl12 hcc12 (show 2≤2 from by decide) (x':=(⟨t192,t193⟩:S56)) (k56_mkM _ _ _ (⟨t192,t193⟩:S56) ) (fun _ hk=>hk);have hx12_0:=hcc12 0 _ rfl;(try simp only [show (k56).sz=2 from rfl,Nat.mul_one,Nat.add_zero] at hx12_0);have hf12_0:=hfr12 0;(try simp only [show (k56).sz=2 from rfl,Nat.mul_one,Nat.add_zero] at hf12_0);have hx12_1:=hcc12 1 _ rfl;(try simp only [show (k56).sz=2 from rfl,Nat.mul_one,Nat.add_zero] at hx12_1);have hf12_1:=hfr12 1;(try simp only [show (k56).sz=2 from rfl,Nat.mul_one,Nat.add_zero] at hf12_1);clear hcl12 hcc12 hfr12 hM12) | ((with_reducible refine gate_store (t:=56) (p:=21) rfl ?_);refine store_event (t:=56) (p:=21) (v:=?vo_w13) (w1:=((w11.setCell ⟨go10,(x4_1:Int).toNat*2,none⟩ (.int .i64 t192)).setCell ⟨go10,(x4_1:Int).toNat*2+1,none⟩ (.int .i64 t193))) ?hg ?ho ?hn ?hr ?_;(case ho=>rfl);(case hg=>rfl);(case hn=>rfl);(case hr=>first | (go_simp;done) | (go_simp;rfl));intro w13 hw;have hg:w11.grownBy w13 (some go10):=(by rw [hw];exact HP12.2);have hp_:Kd.R k56 56 w13 w.heap.size (fun _=>True) (.slice (some ⟨go10,0,none⟩) x3_1.length co10) y194:=(by rw [hw,Ny194.out];exact HP12.1);clear HP12;refine as2_ (hp_) ((by rw [hw];exact below_set (below_set (HB.out) GB10.out) GB10.out:Below w.heap.size w w13)) ?_;clear HO_3 HB;intro HO_3 HB;clear hg hw hp_))
        go_roundg k1
        case measure=>have:=HK1.out;omega
        case rel=>exact ⟨(y194),(wrap64 (x4_1+1)),(z2_),H',⟨by have:=HK1.out;omega⟩,⟨z0_ HO_3.out⟩,⟨z3_ HB.out⟩⟩
       ·rw [if_neg c9] at H
        exact absurd H (by simp)
      ·rw [if_neg c7] at H
       exact absurd H (by simp)
     ·rw [if_neg c6] at H
      have c6b0:decide (x4_1<(l0.length:Int))=false:=decide_eq_false c6
      clear c6
      obtain rfl:=Option.some.inj H
      go_wp2
      go_ret
      exact ⟨_,z8_,z0_ HO_3.out,z3_ HB.out⟩
  ·rw [if_neg c3] at H
   exact absurd H (by simp)
 ·rw [if_neg c2] at H
  exact absurd H (by simp)


/-! ### laws_toSib: function 84 -/
def laws_toSib.f (a0_0:Int) (a0_1:Int) (a0_2:Bool) (a0_3:ByteArray):Option (Int × Int × Bool × ByteArray):=(laws_toMark.f a0_0 a0_1).bind fun bt198=>(some (bt198.1,bt198.2,a0_2,a0_3))
set_option maxHeartbeats 8000000 in
set_option maxRecDepth 100000 in
theorem laws_toSib.calls (a0_0:Int) (a0_1:Int) (a0_2:Bool) (a0_3:ByteArray) (r1:Int) (r2:Int) (r3:Bool) (r4:ByteArray) (w:World) (h:laws_toSib.f a0_0 a0_1 a0_2 a0_3=some (r1,r2,r3,r4)) :
  Calls Try.prog 84 #[.agg #[.int .i64 a0_0,.int .i64 a0_1,.bool a0_2,.string a0_3]] w fun e w'=>e = .returned (.agg #[.int .i64 r1,.int .i64 r2,.bool r3,.string r4])∧Below w.heap.size w w':=by
 have hu107:=Try.underlying107
 have hu91:=Try.underlying91
 have hu100:=Try.underlying100
 have hu56:=Try.underlying56
 have HB:=Aside0.mk (Below.refl w.heap.size w)
 have H:((laws_toMark.f a0_0 a0_1).bind fun bt198=>(some (bt198.1,bt198.2,a0_2,a0_3)))=some (r1,r2,r3,r4):=h
 clear h
 replace H:=Option.bind_eq_some_iff.mp H
 obtain ⟨⟨t198,t199⟩,A20,H⟩:=H
 replace H:(some (t198,t199,a0_2,a0_3))=some (r1,r2,r3,r4):=H
 have A2:=Aside0.mk A20
 clear A20
 simp only [Option.some.injEq,Prod.mk.injEq] at H
 obtain ⟨rfl,rfl,rfl,rfl⟩:=H
 go_enter Try.func84,Try.ntmps84
 go_wp2_with (first | ((with_reducible refine gd_ 1 ?_);refine be_ 1 #[.int .i64 a0_0,.int .i64 a0_1,.bool a0_2,.string a0_3] 107 ?_;intro gb195 hg w3 hbox hb;refine as4_ (below_step (z3_ HB.out) hb) (hbox) ((z7_ HB.out:w.heap.size≤gb195)) ((z7_ HB.out:w.heap.size≤gb195)) ?_;clear HB;intro HB BK195 GW195 GE195;clear hb hbox hg) | ((with_reducible refine gd_ 2 ?_);refine be_ 2 #[.int .i64 0,.int .i64 0,.bool false,.string (⟨#[]⟩:ByteArray)] 91 ?_;intro gb196 hg w4 hbox hb;refine as7_ (blkB_ BK195.out hb) (below_step (z6_ HB.out GE195.out) hb) (hbox) ((z9_ HB.out GE195.out:w.heap.size≤gb196)) ((z9_ HB.out GE195.out:w.heap.size≤gb196)) (neL_ BK195.out hg) (neG_ BK195.out hg) ?_;clear BK195 HB;intro BK195 HB BK196 GW196 GE196 NB195_196 NB196_195;clear hb hbox hg) | ((with_reducible refine gd_ 3 ?_);refine be_ 3 #[.int .i64 0,.int .i64 0,.bool false,.string (⟨#[]⟩:ByteArray)] 91 ?_;intro gb197 hg w5 hbox hb;refine as10_ (blkB_ BK195.out hb) (blkB_ BK196.out hb) (below_step (z4_ HB.out GE195.out GE196.out) hb) (hbox) ((z20_ HB.out GE195.out GE196.out:w.heap.size≤gb197)) ((z20_ HB.out GE195.out GE196.out:w.heap.size≤gb197)) (neL_ BK195.out hg) (neG_ BK195.out hg) (neL_ BK196.out hg) (neG_ BK196.out hg) ?_;clear BK195 BK196 HB;intro BK195 BK196 HB BK197 GW197 GE197 NB195_197 NB197_195 NB196_197 NB197_196;clear hb hbox hg;have hnb6:=NB195_196.out;have hnc6:=NB196_195.out;have hnb7:=NB195_197.out;have hnc7:=NB197_195.out;have ⟨hcz8_0,hcz8_1,hcz8_2,hcz8_3,hfz8_0,hfz8_1,hfz8_2,hfz8_3⟩:=cz4_ BK195.out) | ((with_reducible refine gc_ 74 ?_);refine gl_ (some 6) Try.func74 #[.agg #[.int .i64 a0_0,.int .i64 a0_1]] ?_;(with_reducible refine (laws_toMark.calls a0_0 a0_1 t198 t199 _ A2.out).mono ?_);rintro e w9 ⟨rfl,hb⟩;refine ⟨_,rfl,?_⟩;refine as4_ (blkB_ BK195.out hb) (blkB_ BK196.out hb) (blkB_ BK197.out hb) (below_step (z13_ HB.out GE195.out GE196.out GE197.out) hb) ?_;clear BK195 BK196 BK197 HB;intro BK195 BK196 BK197 HB;(try clear hb);have hnb10:=NB197_196.out;have hnc10:=NB196_197.out;have ⟨hcz11_0,hcz11_1,hcz11_2,hcz11_3,hfz11_0,hfz11_1,hfz11_2,hfz11_3⟩:=cz4_ BK197.out;have ⟨hcz12_0,hcz12_1,hcz12_2,hcz12_3,hfz12_0,hfz12_1,hfz12_2,hfz12_3⟩:=cz4_ BK195.out;have ⟨hcz13_0,hcz13_1,hcz13_2,hcz13_3,hfz13_0,hfz13_1,hfz13_2,hfz13_3⟩:=cz4_ BK196.out))
 refine bodyPost_ret (results_cell_row rfl _ _ gb196 91 #[.int .i64 t198,.int .i64 t199,.bool a0_2,.string a0_3] (0,0) _ rfl (by (with_reducible repeat (first | refine blk_drewN ?_ _ | refine blk_drew ?_ | refine blk_alloc ?_ _));apply put4_;(with_reducible repeat (first | refine blk_drewN ?_ _ | refine blk_drew ?_ | refine blk_alloc ?_ _));refine blk_far ?_ NB196_197.out _;(with_reducible repeat (first | refine blk_drewN ?_ _ | refine blk_drew ?_ | refine blk_alloc ?_ _));refine blk_far ?_ NB196_197.out _;(with_reducible repeat (first | refine blk_drewN ?_ _ | refine blk_drew ?_ | refine blk_alloc ?_ _));refine blk_far ?_ NB196_197.out _;(with_reducible repeat (first | refine blk_drewN ?_ _ | refine blk_drew ?_ | refine blk_alloc ?_ _));refine blk_far ?_ NB196_197.out _;(with_reducible repeat (first | refine blk_drewN ?_ _ | refine blk_drew ?_ | refine blk_alloc ?_ _));exact BK196.out) Try.underlying91 rfl (by kernel_rfl)) rfl ?_
 exact ⟨z8_,z13_ HB.out GE195.out GE196.out GE197.out⟩


/-! ### laws_toSibS: function 53 -/
def laws_toSibS.l0:Nat→List (S107)→List (S91)→Int→Option ((List (S91)))
 | 0,_,_,_=>none
 | k+1,x0,x3,x4=>if x4<(x0.length:Int) then (if 0≤x4 then ((laws_toSib.f ((rd_T107 x0 x4).f0.f0) ((rd_T107 x0 x4).f0.f1) ((rd_T107 x0 x4).f1) ((rd_T107 x0 x4).f2)).bind fun bt204=>(if x4<(x3.length:Int) then (laws_toSibS.l0 k x0 (x3.set (x4:Int).toNat (⟨(⟨bt204.1,bt204.2.1⟩:S56),bt204.2.2.1,bt204.2.2.2⟩:S91)) (wrap64 (x4+1))) else (none))) else (none)) else (some x3)
def laws_toSibS.f (k:Nat) (l0:List (S107)):Option ((List (S91))):=if 0≤(l0.length:Int) then (if ((l0.length:Int):Int).toNat≤7036874417766 then (laws_toSibS.l0 k l0 (List.replicate ((l0.length:Int):Int).toNat z91) 0) else (none)) else (none)
theorem laws_toSibS.mono_l:∀ k,(∀ y0 y1 y2,LeO (laws_toSibS.l0 k y0 y1 y2) (laws_toSibS.l0 (k+1) y0 y1 y2))
 | 0=>fun _ _ _ r h=>by simp [laws_toSibS.l0] at h
 | k+1=>by
  have ih0:=laws_toSibS.mono_l k
  ·intro y0 y1 y2
   unfold laws_toSibS.l0
   repeat' first
   | (with_reducible exact ih0 _ _ _)
   | (with_reducible exact LeO.refl _)
   | (with_reducible exact LeO.none _)
   | (with_reducible refine LeO.ite ?_ ?_)
   | (with_reducible refine LeO.bind ?_ (fun _=>?_))
   | exact ih0 _ _ _
   | exact LeO.none _
   | refine LeO.ite ?_ ?_
   | refine LeO.bind ?_ (fun _=>?_)
theorem laws_toSibS.mono:∀ a0 k,LeO (laws_toSibS.f k a0) (laws_toSibS.f (k+1) a0):=by
 intro a0 k
 have ih0:=laws_toSibS.mono_l k
 unfold laws_toSibS.f
 repeat' first
   | (with_reducible exact ih0 _ _ _)
   | (with_reducible exact LeO.refl _)
   | (with_reducible exact LeO.none _)
   | (with_reducible refine LeO.ite ?_ ?_)
   | (with_reducible refine LeO.bind ?_ (fun _=>?_))
   | exact ih0 _ _ _
   | exact LeO.none _
   | refine LeO.ite ?_ ?_
   | refine LeO.bind ?_ (fun _=>?_)
set_option maxHeartbeats 8000000 in
set_option maxRecDepth 100000 in
theorem laws_toSibS.calls (k:Nat) (A0:Option Addr) (c0:Nat) (l0:List (S107)) (r:List (S91)) (w:World) (hr0:Kd.C k107 w A0 l0.length l0) (hc0:l0.length≤c0) (h:laws_toSibS.f k l0=some r) :
  Calls Try.prog 53 #[.slice A0 l0.length c0] w fun e w'=>∃ v0_:Value,e = .returned (v0_)∧Kd.R k91 91 w' w.heap.size (fun _=>True) v0_ r∧Below w.heap.size w w':=by
 have hu107:=Try.underlying107
 have hu91:=Try.underlying91
 have HR0:=Aside0.mk hr0
 have HC0:=Aside0.mk hc0
 clear hr0 hc0
 have HB:=Aside0.mk (Below.refl w.heap.size w)
 have H:(if 0≤(l0.length:Int) then (if ((l0.length:Int):Int).toNat≤7036874417766 then (laws_toSibS.l0 k l0 (List.replicate ((l0.length:Int):Int).toNat z91) 0) else (none)) else (none))=some r:=h
 clear h
 by_cases c2:0≤(l0.length:Int)
 ·rw [if_pos c2] at H
  have c2b0:=eq_true c2
  have c2b1:decide (0≤(l0.length:Int))=true:=decide_eq_true c2
  clear c2
  by_cases c3:((l0.length:Int):Int).toNat≤7036874417766
  ·rw [if_pos c3] at H
   have c3b0:=eq_true c3
   have c3b1:decide (((l0.length:Int):Int).toNat≤7036874417766)=true:=decide_eq_true c3
   clear c3
   obtain ⟨y200,hy200⟩:∃ y_:List (S91),y_=(List.replicate ((l0.length:Int):Int).toNat z91):=⟨_,rfl⟩
   replace H:(laws_toSibS.l0 k l0 y200 0)=some r:=by first | (rw [hy200];with_reducible exact H) | (have H2_:=(Option.bind_some _ _).symm.trans H;rw [hy200];with_reducible exact H2_) | (have H2_:=(Option.bind_some _ _).symm.trans H;with_reducible exact H2_) | with_reducible exact H | (rw [hy200];exact H) | exact H
   have Ny200:=Aside0.mk hy200
   clear hy200
   have H':=Aside0.mk H
   clear H
   go_enter Try.func53,Try.ntmps53
   go_wp2_with (first | ((with_reducible refine gd_ 7 ?_);refine Kd.R_make k91 _ 91 rfl (N:=7) rfl 38 _ _ rfl (l0.length:Int) rfl rfl Try.underlying38 (.agg #[(.int .i64 0),(.int .i64 0),(.bool false),(.string ⟨#[]⟩)]) 40 info91 rfl (by decide) (by omega) z91 (ok:=fun _=>True) (okp:=fun _=>True) (k91_mkM _ _ _ z91 ) (fun _ hk=>hk) trivial (of_decide_eq_true (z1_)) (Nat.le_trans (Nat.mul_le_mul_right _ (of_decide_eq_true (z1_):(l0.length:Int).toNat≤7036874417766)) (by omega)) (Below.refl _ _) (Nat.le_refl _) ?_;intro v201 w4 ho5 hb hg_ hnew_;clear hg_ hnew_;(first | rw [← Ny200.out] at ho5 | (simp only [Int.reduceToNat] at ho5;rw [← Ny200.out] at ho5));refine as2_ (Kd.R_lower ho5 (below_size (z3_ HB.out))) (below_step (z3_ HB.out) hb) ?_;clear HB;intro HO202 HB;clear hb ho5))
   go_loopg [4] k (fun kq v4 w'=>∃ (x3_1:List (S91)) (x4_1:Int),v4 = .int .i64 x4_1∧Aside0 (laws_toSibS.l0 kq l0 x3_1 x4_1=some r)∧Aside0 (kq≤k)∧Aside0 (Kd.R k91 91 w' w.heap.size (fun _=>True) v201 x3_1)∧Aside0 (Below w.heap.size w w'))
   case atStart=>exact ⟨(y200),(0),(z2_),H',⟨Nat.le_refl _⟩,⟨z0_ HO202.out⟩,⟨z3_ HB.out⟩⟩
   case round =>
    clear H'
    try clear c2
    try clear c2b0
    try clear c2b1
    try clear p2
    try clear c3
    try clear c3b0
    try clear c3b1
    try clear c5
    obtain ⟨x3_1,x4_1,rfl,HA,HK1,HO_3,HB⟩:=hrel
    cases gk with
    | zero=>exact absurd HA.out (by simp [laws_toSibS.l0])
    | succ k1 =>
     have H:=HA.out
     clear HA
     simp only [laws_toSibS.l0] at H
     by_cases c6:x4_1<(l0.length:Int)
     ·rw [if_pos c6] at H
      have c6b0:decide (x4_1<(l0.length:Int))=true:=decide_eq_true c6
      clear c6
      by_cases c7:0≤x4_1
      ·rw [if_pos c7] at H
       have c7b0:decide (0≤x4_1)=true:=decide_eq_true c7
       clear c7
       replace H:=Option.bind_eq_some_iff.mp H
       obtain ⟨⟨t204,t205,t206,t207⟩,A80,H⟩:=H
       replace H:(if x4_1<(x3_1.length:Int) then (laws_toSibS.l0 k1 l0 (x3_1.set (x4_1:Int).toNat (⟨(⟨t204,t205⟩:S56),t206,t207⟩:S91)) (wrap64 (x4_1+1))) else (none))=some r:=H
       have A8:=Aside0.mk A80
       clear A80
       by_cases c9:x4_1<(x3_1.length:Int)
       ·rw [if_pos c9] at H
        have c9b0:decide (x4_1<(x3_1.length:Int))=true:=decide_eq_true c9
        clear c9
        obtain ⟨y208,hy208⟩:∃ y_:List (S91),y_=(x3_1.set (x4_1:Int).toNat (⟨(⟨t204,t205⟩:S56),t206,t207⟩:S91)):=⟨_,rfl⟩
        replace H:(laws_toSibS.l0 k1 l0 y208 (wrap64 (x4_1+1)))=some r:=by first | (rw [hy208];with_reducible exact H) | (have H2_:=(Option.bind_some _ _).symm.trans H;rw [hy208];with_reducible exact H2_) | (have H2_:=(Option.bind_some _ _).symm.trans H;with_reducible exact H2_) | with_reducible exact H | (rw [hy208];exact H) | exact H
        have Ny208:=Aside0.mk hy208
        clear hy208
        have H':=Aside0.mk H
        clear H
        have p203:0≤(x4_1:Int):=of_decide_eq_true (z1_)
        have q203:x4_1<(l0.length:Int):=of_decide_eq_true (z1_)
        obtain ⟨ad203,e203,hx203_0,hx203_1,hx203_2,hx203_3⟩:=at_T107 HR0.out x4_1 p203 q203
        cases e203
        replace hx203_0:=(HB.out.cell (World.block_lt_of_cell? w _ hx203_0)).trans hx203_0
        replace hx203_1:=(HB.out.cell (World.block_lt_of_cell? w _ hx203_1)).trans hx203_1
        replace hx203_2:=(HB.out.cell (World.block_lt_of_cell? w _ hx203_2)).trans hx203_2
        replace hx203_3:=(HB.out.cell (World.block_lt_of_cell? w _ hx203_3)).trans hx203_3
        replace p203:=eq_true p203
        replace q203:=eq_true q203
        go_wp2_with (first | ((with_reducible refine gc_ 84 ?_);refine gl_ (some 20) Try.func84 #[.agg #[.int .i64 ((rd_T107 l0 x4_1).f0.f0),.int .i64 ((rd_T107 l0 x4_1).f0.f1),.bool ((rd_T107 l0 x4_1).f1),.string ((rd_T107 l0 x4_1).f2)]] ?_;(with_reducible refine (laws_toSib.calls ((rd_T107 l0 x4_1).f0.f0) ((rd_T107 l0 x4_1).f0.f1) ((rd_T107 l0 x4_1).f1) ((rd_T107 l0 x4_1).f2) t204 t205 t206 t207 _ A8.out).mono ?_);rintro e w11 ⟨rfl,hb⟩;refine ⟨_,rfl,?_⟩;refine as2_ (Kd.R_below (z0_ HO_3.out) hb) (below_step (z3_ HB.out) hb) ?_;clear HO_3 HB;intro HO_3 HB;(try clear hb);have p10:0≤(x4_1:Int):=of_decide_eq_true (z1_);have q10:(x4_1:Int)<((x3_1.length:Int):Int):=of_decide_eq_true (z1_);obtain ⟨go10,co10,eo10,gb10,gl10,cl10,HG10⟩:=Kd.R_form HO_3.out (by omega);(first | cases eo10 | (injection eo10 with ea_ en_ ec_;(first | subst ea_ | (injection ea_ with ea_;subst ea_));subst ec_;clear en_));have GB10:=Aside0.mk gb10;have GG10:=Aside0.mk HG10;clear gb10 gl10 HG10;obtain ⟨ce10,hcl10,hM10,hcc10,hfr10⟩:=Kd.R_elem HO_3.out z91 (x4_1:Int) p10 q10;obtain rfl:=k91_openM hM10;have hx10_0:w11.cell? ⟨go10,(x4_1:Int).toNat*4,none⟩=some (.int .i64 ((rd_T91 x3_1 x4_1).f0.f0)):=hcc10 0 _ rfl;have hx10_1:w11.cell? ⟨go10,(x4_1:Int).toNat*4+1,none⟩=some (.int .i64 ((rd_T91 x3_1 x4_1).f0.f1)):=hcc10 1 _ rfl;have hx10_2:w11.cell? ⟨go10,(x4_1:Int).toNat*4+2,none⟩=some (.bool ((rd_T91 x3_1 x4_1).f1)):=hcc10 2 _ rfl;have hx10_3:w11.cell? ⟨go10,(x4_1:Int).toNat*4+3,none⟩=some (.string ((rd_T91 x3_1 x4_1).f2)):=hcc10 3 _ rfl;have hf10_0:w11.frozen? ⟨go10,(x4_1:Int).toNat*4,none⟩=false:=hfr10 0;have hf10_1:w11.frozen? ⟨go10,(x4_1:Int).toNat*4+1,none⟩=false:=hfr10 1;have hf10_2:w11.frozen? ⟨go10,(x4_1:Int).toNat*4+2,none⟩=false:=hfr10 2;have hf10_3:w11.frozen? ⟨go10,(x4_1:Int).toNat*4+3,none⟩=false:=hfr10 3;clear hcl10 hcc10 hfr10 hM10;replace p10:=eq_true p10;replace q10:=eq_true q10;have HX12:=Aside0.mk (show Kd.R k91 91 w11 w.heap.size (fun _=>True) (.slice (some ⟨go10,0,none⟩) x3_1.length co10) x3_1 from (z0_ HO_3.out));obtain ⟨ce12,hcl12,hM12,hcc12,hfr12⟩:=Kd.R_elem HX12.out z91 (x4_1:Int) (of_decide_eq_true (z1_)) (z37_ HO_3.out);obtain rfl:=k91_openM hM12;have HP12:=Kd.R_seg HX12.out (x4_1:Int) (of_decide_eq_true (z1_)) (z37_ HO_3.out) (seg:=[.int .i64 t204,.int .i64 t205,.bool t206,.string t207]) (j:=0) hcl12 hcc12 (show 4≤4 from by decide) (x':=(⟨(⟨t204,t205⟩:S56),t206,t207⟩:S91)) (k91_mkM _ _ _ (⟨(⟨t204,t205⟩:S56),t206,t207⟩:S91) ) (fun _ hk=>hk);have hx12_0:=hcc12 0 _ rfl;(try simp only [show (k91).sz=4 from rfl,Nat.mul_one,Nat.add_zero] at hx12_0);have hf12_0:=hfr12 0;(try simp only [show (k91).sz=4 from rfl,Nat.mul_one,Nat.add_zero] at hf12_0);have hx12_1:=hcc12 1 _ rfl;(try simp only [show (k91).sz=4 from rfl,Nat.mul_one,Nat.add_zero] at hx12_1);have hf12_1:=hfr12 1;(try simp only [show (k91).sz=4 from rfl,Nat.mul_one,Nat.add_zero] at hf12_1);have hx12_2:=hcc12 2 _ rfl;(try simp only [show (k91).sz=4 from rfl,Nat.mul_one,Nat.add_zero] at hx12_2);have hf12_2:=hfr12 2;(try simp only [show (k91).sz=4 from rfl,Nat.mul_one,Nat.add_zero] at hf12_2);have hx12_3:=hcc12 3 _ rfl;(try simp only [show (k91).sz=4 from rfl,Nat.mul_one,Nat.add_zero] at hx12_3);have hf12_3:=hfr12 3;(try simp only [show (k91).sz=4 from rfl,Nat.mul_one,Nat.add_zero] at hf12_3);clear hcl12 hcc12 hfr12 hM12) | ((with_reducible refine gate_store (t:=91) (p:=21) rfl ?_);refine store_event (t:=91) (p:=21) (v:=?vo_w13) (w1:=((((w11.setCell ⟨go10,(x4_1:Int).toNat*4,none⟩ (.int .i64 t204)).setCell ⟨go10,(x4_1:Int).toNat*4+1,none⟩ (.int .i64 t205)).setCell ⟨go10,(x4_1:Int).toNat*4+2,none⟩ (.bool t206)).setCell ⟨go10,(x4_1:Int).toNat*4+3,none⟩ (.string t207))) ?hg ?ho ?hn ?hr ?_;(case ho=>rfl);(case hg=>rfl);(case hn=>rfl);(case hr=>first | (go_simp;done) | (go_simp;rfl));intro w13 hw;have hg:w11.grownBy w13 (some go10):=(by rw [hw];exact HP12.2);have hp_:Kd.R k91 91 w13 w.heap.size (fun _=>True) (.slice (some ⟨go10,0,none⟩) x3_1.length co10) y208:=(by rw [hw,Ny208.out];exact HP12.1);clear HP12;refine as2_ (hp_) ((by rw [hw];exact below_set (below_set (below_set (below_set (HB.out) GB10.out) GB10.out) GB10.out) GB10.out:Below w.heap.size w w13)) ?_;clear HO_3 HB;intro HO_3 HB;clear hg hw hp_))
        go_roundg k1
        case measure=>have:=HK1.out;omega
        case rel=>exact ⟨(y208),(wrap64 (x4_1+1)),(z2_),H',⟨by have:=HK1.out;omega⟩,⟨z0_ HO_3.out⟩,⟨z3_ HB.out⟩⟩
       ·rw [if_neg c9] at H
        exact absurd H (by simp)
      ·rw [if_neg c7] at H
       exact absurd H (by simp)
     ·rw [if_neg c6] at H
      have c6b0:decide (x4_1<(l0.length:Int))=false:=decide_eq_false c6
      clear c6
      obtain rfl:=Option.some.inj H
      go_wp2
      go_ret
      exact ⟨_,z8_,z0_ HO_3.out,z3_ HB.out⟩
  ·rw [if_neg c3] at H
   exact absurd H (by simp)
 ·rw [if_neg c2] at H
  exact absurd H (by simp)


/-! ### laws_toSet: function 15 -/
def laws_toSet.f (k:Nat) (l0_0:List (S100)) (l0_1:List (S107)):Option ((List (S56)) × (List (S91))):=(laws_toMarkS.f k l0_0).bind fun t212=>((laws_toSibS.f k l0_1).bind fun t215=>(some (t212,t215)))
theorem laws_toSet.mono:∀ a0 a1 k,LeO (laws_toSet.f k a0 a1) (laws_toSet.f (k+1) a0 a1):=by
 intro a0 a1 k
 unfold laws_toSet.f
 repeat' first
   | (with_reducible exact laws_toMarkS.mono _ _)
   | (with_reducible exact laws_toSibS.mono _ _)
   | (with_reducible exact LeO.refl _)
   | (with_reducible exact LeO.none _)
   | (with_reducible refine LeO.ite ?_ ?_)
   | (with_reducible refine LeO.bind ?_ (fun _=>?_))
   | exact laws_toMarkS.mono _ _
   | exact laws_toSibS.mono _ _
   | exact LeO.none _
   | refine LeO.ite ?_ ?_
   | refine LeO.bind ?_ (fun _=>?_)
set_option maxHeartbeats 8000000 in
set_option maxRecDepth 100000 in
theorem laws_toSet.calls (k:Nat) (A0_0:Option Addr) (c0_0:Nat) (l0_0:List (S100)) (A0_1:Option Addr) (c0_1:Nat) (l0_1:List (S107)) (r1:List (S56)) (r2:List (S91)) (w:World) (hr0_0:Kd.C k100 w A0_0 l0_0.length l0_0) (hc0_0:l0_0.length≤c0_0) (hr0_1:Kd.C k107 w A0_1 l0_1.length l0_1) (hc0_1:l0_1.length≤c0_1) (h:laws_toSet.f k l0_0 l0_1=some (r1,r2)) :
  Calls Try.prog 15 #[.agg #[.slice A0_0 l0_0.length c0_0,.slice A0_1 l0_1.length c0_1]] w fun e w'=>∃ v0_ v1_:Value,e = .returned (.agg #[v0_,v1_])∧Kd.R k56 56 w' w.heap.size (fun _=>True) v0_ r1∧Kd.R k91 91 w' w.heap.size (fun _=>True) v1_ r2∧Below w.heap.size w w':=by
 have hu32:=Try.underlying32
 have hu40:=Try.underlying40
 have HR0_0:=Aside0.mk hr0_0
 have HC0_0:=Aside0.mk hc0_0
 clear hr0_0 hc0_0
 have HR0_1:=Aside0.mk hr0_1
 have HC0_1:=Aside0.mk hc0_1
 clear hr0_1 hc0_1
 have HB:=Aside0.mk (Below.refl w.heap.size w)
 have H:((laws_toMarkS.f k l0_0).bind fun t212=>((laws_toSibS.f k l0_1).bind fun t215=>(some (t212,t215))))=some (r1,r2):=h
 clear h
 replace H:=Option.bind_eq_some_iff.mp H
 obtain ⟨t212,A20,H⟩:=H
 replace H:((laws_toSibS.f k l0_1).bind fun t215=>(some (t212,t215)))=some (r1,r2):=H
 have A2:=Aside0.mk A20
 clear A20
 replace H:=Option.bind_eq_some_iff.mp H
 obtain ⟨t215,A30,H⟩:=H
 replace H:(some (t212,t215))=some (r1,r2):=H
 have A3:=Aside0.mk A30
 clear A30
 simp only [Option.some.injEq,Prod.mk.injEq] at H
 obtain ⟨rfl,rfl⟩:=H
 go_enter Try.func15,Try.ntmps15
 go_wp2_with (first | ((with_reducible refine gd_ 1 ?_);refine be_ 1 #[.slice A0_0 l0_0.length c0_0,.slice A0_1 l0_1.length c0_1] 32 ?_;intro gb209 hg w4 hbox hb;refine as4_ (below_step (z3_ HB.out) hb) (hbox) ((z7_ HB.out:w.heap.size≤gb209)) ((z7_ HB.out:w.heap.size≤gb209)) ?_;clear HB;intro HB BK209 GW209 GE209;clear hb hbox hg) | ((with_reducible refine gd_ 2 ?_);refine be_ 2 #[.slice none 0 0,.slice none 0 0] 40 ?_;intro gb210 hg w5 hbox hb;refine as7_ (blkB_ BK209.out hb) (below_step (z6_ HB.out GE209.out) hb) (hbox) ((z9_ HB.out GE209.out:w.heap.size≤gb210)) ((z9_ HB.out GE209.out:w.heap.size≤gb210)) (neL_ BK209.out hg) (neG_ BK209.out hg) ?_;clear BK209 HB;intro BK209 HB BK210 GW210 GE210 NB209_210 NB210_209;clear hb hbox hg) | ((with_reducible refine gd_ 3 ?_);refine be_ 3 #[.slice none 0 0,.slice none 0 0] 40 ?_;intro gb211 hg w6 hbox hb;refine as10_ (blkB_ BK209.out hb) (blkB_ BK210.out hb) (below_step (z4_ HB.out GE209.out GE210.out) hb) (hbox) ((z20_ HB.out GE209.out GE210.out:w.heap.size≤gb211)) ((z20_ HB.out GE209.out GE210.out:w.heap.size≤gb211)) (neL_ BK209.out hg) (neG_ BK209.out hg) (neL_ BK210.out hg) (neG_ BK210.out hg) ?_;clear BK209 BK210 HB;intro BK209 BK210 HB BK211 GW211 GE211 NB209_211 NB211_209 NB210_211 NB211_210;clear hb hbox hg;have hnb7:=NB209_210.out;have hnc7:=NB210_209.out;have hnb8:=NB209_211.out;have hnc8:=NB211_209.out;have ⟨hcz9_0,hcz9_1,hfz9_0,hfz9_1⟩:=cz2_ BK209.out) | ((with_reducible refine gc_ 31 ?_);refine gl_ (some 6) Try.func31 #[.slice A0_0 l0_0.length c0_0] ?_;(with_reducible refine (laws_toMarkS.calls k _ _ l0_0 t212 _ ?s1 ?s2 A2.out).mono ?_);(case s1=>repeat (first | exact (Kd.C_below HR0_0.out HB.out) | (with_reducible refine Kd.C_alloc ?_ _) | (with_reducible refine Kd.C_drewN ?_ _) | (with_reducible refine Kd.C_drew ?_)));(case s2=>exact HC0_0.out);rintro e w10 ⟨v213,rfl,ho0,hb⟩;refine ⟨_,rfl,?_⟩;refine as5_ (Kd.R_lower ho0 (below_size (z13_ HB.out GE209.out GE210.out GE211.out))) (blkB_ BK209.out hb) (blkB_ BK210.out hb) (blkB_ BK211.out hb) (below_step (z13_ HB.out GE209.out GE210.out GE211.out) hb) ?_;clear BK209 BK210 BK211 HB;intro HO214 BK209 BK210 BK211 HB;(try clear hb);(try clear ho0);obtain ⟨Ao11,co11,eo11⟩:=Kd.R_slice HO214.out;subst eo11;have hnb12:=NB211_210.out;have hnc12:=NB210_211.out;have ⟨hcz13_0,hcz13_1,hfz13_0,hfz13_1⟩:=cz2_ BK211.out;have ⟨hcz14_0,hcz14_1,hfz14_0,hfz14_1⟩:=cz2_ BK209.out) | ((with_reducible refine gc_ 53 ?_);refine gl_ (some 10) Try.func53 #[.slice A0_1 l0_1.length c0_1] ?_;(with_reducible refine (laws_toSibS.calls k _ _ l0_1 t215 _ ?s1 ?s2 A3.out).mono ?_);(case s1=>exact Kd.C_below HR0_1.out (z13_ HB.out GE209.out GE210.out GE211.out));(case s2=>exact HC0_1.out);rintro e w15 ⟨v216,rfl,ho0,hb⟩;refine ⟨_,rfl,?_⟩;refine as6_ (Kd.R_below (by (with_reducible repeat (first | apply Kd.R_alloc | apply Kd.R_drewN | apply Kd.R_drew));exact (Kd.R_mono (Kd.R_far (p:=⟨gb211,0,none⟩) (Kd.R_types HO214.out BK211.out (by decide)) (fun _ hk=>hk.2) (.slice Ao11 t212.length co11)) (fun _ h_=>h_.1))) hb) (Kd.R_lower ho0 (below_size (z13_ HB.out GE209.out GE210.out GE211.out))) (blk_below (g:=gb209) (o:=.cells #[.slice A0_0 l0_0.length c0_0,.slice A0_1 l0_1.length c0_1] 32 (0,0)) (z16_ NB209_211.out BK209.out) hb) (blk_below (g:=gb210) (o:=.cells #[.slice none 0 0,.slice none 0 0] 40 (0,0)) (z16_ NB210_211.out BK210.out) hb) (blk_below (g:=gb211) (o:=.cells #[.slice Ao11 t212.length co11,.slice none 0 0] 40 (0,0)) (by (with_reducible repeat (first | refine blk_drewN ?_ _ | refine blk_drew ?_ | refine blk_alloc ?_ _));refine blk_put (cs:=#[.slice none 0 0,.slice none 0 0]) ?_ 0 _ rfl;(with_reducible repeat (first | refine blk_drewN ?_ _ | refine blk_drew ?_ | refine blk_alloc ?_ _));exact BK211.out) hb) (below_step (z13_ HB.out GE209.out GE210.out GE211.out) hb) ?_;clear HO214 BK209 BK210 BK211 HB;intro HO214 HO217 BK209 BK210 BK211 HB;(try clear hb);(try clear hk);(try clear ho0);obtain ⟨Ao16,co16,eo16⟩:=Kd.R_slice HO217.out;subst eo16;have ⟨hcz17_0,hcz17_1,hfz17_0,hfz17_1⟩:=cz2_ BK211.out;have ⟨hcz18_0,hcz18_1,hfz18_0,hfz18_1⟩:=cz2_ BK210.out))
 refine bodyPost_ret (results_cell_row rfl _ _ gb210 40 #[.slice Ao11 t212.length co11,.slice Ao16 t215.length co16] (0,0) _ rfl (by (with_reducible repeat (first | refine blk_drewN ?_ _ | refine blk_drew ?_ | refine blk_alloc ?_ _));apply put2_;(with_reducible repeat (first | refine blk_drewN ?_ _ | refine blk_drew ?_ | refine blk_alloc ?_ _));refine blk_far ?_ NB210_211.out _;(with_reducible repeat (first | refine blk_drewN ?_ _ | refine blk_drew ?_ | refine blk_alloc ?_ _));exact BK210.out) Try.underlying40 rfl (by kernel_rfl)) rfl ?_
 exact ⟨_,_,z8_,by (with_reducible repeat (first | apply Kd.R_alloc | apply Kd.R_drewN | apply Kd.R_drew));exact Kd.R_mono (rf2_ (Kd.R_far (p:=⟨gb211,1,none⟩) (Kd.R_types (Kd.R_types HO214.out BK211.out (by decide)) BK210.out (by decide)) (fun _ hk=>hk.1.2) (.slice Ao16 t215.length co16)) (fun _ hk=>hk.2)) (fun _ hk=>trivial),by (with_reducible repeat (first | apply Kd.R_alloc | apply Kd.R_drewN | apply Kd.R_drew));exact Kd.R_mono (rf2_ (Kd.R_far (p:=⟨gb211,1,none⟩) (Kd.R_types (Kd.R_types HO217.out BK211.out (by decide)) BK210.out (by decide)) (fun _ hk=>hk.1.2) (.slice Ao16 t215.length co16)) (fun _ hk=>hk.2)) (fun _ hk=>trivial),z13_ HB.out GE209.out GE210.out GE211.out⟩


/-! ### laws_eqMark: function 66 -/
def laws_eqMark.f (a0_0:Int) (a0_1:Int) (a1_0:Int) (a1_1:Int):Option (Bool):=if a0_0=a1_0 then (if a0_1=a1_1 then (some true) else (none)) else (none)
set_option maxHeartbeats 8000000 in
set_option maxRecDepth 100000 in
theorem laws_eqMark.calls (a0_0:Int) (a0_1:Int) (a1_0:Int) (a1_1:Int) (r:Bool) (w:World) (h:laws_eqMark.f a0_0 a0_1 a1_0 a1_1=some r) :
  Calls Try.prog 66 #[.agg #[.int .i64 a0_0,.int .i64 a0_1],.agg #[.int .i64 a1_0,.int .i64 a1_1]] w fun e w'=>e = .returned (.bool r)∧Below w.heap.size w w':=by
 have hu56:=Try.underlying56
 have HB:=Aside0.mk (Below.refl w.heap.size w)
 have H:(if a0_0=a1_0 then (if a0_1=a1_1 then (some true) else (none)) else (none))=some r:=h
 clear h
 by_cases c3:a0_0=a1_0
 ·rw [if_pos c3] at H
  have c3b0:(a0_0 == a1_0)=true:=beq_iff_eq.mpr c3
  have c3b1:(a0_0 != a1_0)=false:=bne_eq_false_iff_eq.mpr c3
  clear c3
  by_cases c4:a0_1=a1_1
  ·rw [if_pos c4] at H
   have c4b0:(a0_1 == a1_1)=true:=beq_iff_eq.mpr c4
   have c4b1:(a0_1 != a1_1)=false:=bne_eq_false_iff_eq.mpr c4
   clear c4
   obtain rfl:=Option.some.inj H
   go_enter Try.func66,Try.ntmps66
   go_wp2_with (first | ((with_reducible refine gd_ 2 ?_);refine be_ 2 #[.int .i64 a0_0,.int .i64 a0_1] 56 ?_;intro gb317 hg w5 hbox hb;refine as4_ (below_step (z3_ HB.out) hb) (hbox) ((z7_ HB.out:w.heap.size≤gb317)) ((z7_ HB.out:w.heap.size≤gb317)) ?_;clear HB;intro HB BK317 GW317 GE317;clear hb hbox hg) | ((with_reducible refine gd_ 3 ?_);refine be_ 3 #[.int .i64 a1_0,.int .i64 a1_1] 56 ?_;intro gb318 hg w6 hbox hb;refine as7_ (blkB_ BK317.out hb) (below_step (z6_ HB.out GE317.out) hb) (hbox) ((z9_ HB.out GE317.out:w.heap.size≤gb318)) ((z9_ HB.out GE317.out:w.heap.size≤gb318)) (neL_ BK317.out hg) (neG_ BK317.out hg) ?_;clear BK317 HB;intro BK317 HB BK318 GW318 GE318 NB317_318 NB318_317;clear hb hbox hg;have hnb7:=NB317_318.out;have hnc7:=NB318_317.out;have ⟨hcz8_0,hcz8_1,hfz8_0,hfz8_1⟩:=cz2_ BK317.out;have ⟨hcz9_0,hcz9_1,hfz9_0,hfz9_1⟩:=cz2_ BK318.out))
   go_ret
   exact ⟨z8_,z4_ HB.out GE317.out GE318.out⟩
  ·rw [if_neg c4] at H
   exact absurd H (by simp)
 ·rw [if_neg c3] at H
  exact absurd H (by simp)


/-! ### laws_eqMarkS: function 33 -/
def laws_eqMarkS.l0:Nat→List (S56)→List (S56)→Int→Option (Bool)
 | 0,_,_,_=>none
 | k+1,x0,x1,x5=>if x5<(x0.length:Int) then (if 0≤x5 then (if x5<(x1.length:Int) then ((laws_eqMark.f ((rd_T56 x0 x5).f0) ((rd_T56 x0 x5).f1) ((rd_T56 x1 x5).f0) ((rd_T56 x1 x5).f1)).bind fun t321=>(if t321=true then (laws_eqMarkS.l0 k x0 x1 (wrap64 (x5+1))) else (none))) else (none)) else (none)) else (some true)
def laws_eqMarkS.f (k:Nat) (l0:List (S56)) (l1:List (S56)):Option (Bool):=if (l0.length:Int)=(l1.length:Int) then (laws_eqMarkS.l0 k l0 l1 0) else (none)
theorem laws_eqMarkS.mono_l:∀ k,(∀ y0 y1 y2,LeO (laws_eqMarkS.l0 k y0 y1 y2) (laws_eqMarkS.l0 (k+1) y0 y1 y2))
 | 0=>fun _ _ _ r h=>by simp [laws_eqMarkS.l0] at h
 | k+1=>by
  have ih0:=laws_eqMarkS.mono_l k
  ·intro y0 y1 y2
   unfold laws_eqMarkS.l0
   repeat' first
   | (with_reducible exact ih0 _ _ _)
   | (with_reducible exact LeO.refl _)
   | (with_reducible exact LeO.none _)
   | (with_reducible refine LeO.ite ?_ ?_)
   | (with_reducible refine LeO.bind ?_ (fun _=>?_))
   | exact ih0 _ _ _
   | exact LeO.none _
   | refine LeO.ite ?_ ?_
   | refine LeO.bind ?_ (fun _=>?_)
theorem laws_eqMarkS.mono:∀ a0 a1 k,LeO (laws_eqMarkS.f k a0 a1) (laws_eqMarkS.f (k+1) a0 a1):=by
 intro a0 a1 k
 have ih0:=laws_eqMarkS.mono_l k
 unfold laws_eqMarkS.f
 repeat' first
   | (with_reducible exact ih0 _ _ _)
   | (with_reducible exact LeO.refl _)
   | (with_reducible exact LeO.none _)
   | (with_reducible refine LeO.ite ?_ ?_)
   | (with_reducible refine LeO.bind ?_ (fun _=>?_))
   | exact ih0 _ _ _
   | exact LeO.none _
   | refine LeO.ite ?_ ?_
   | refine LeO.bind ?_ (fun _=>?_)
def laws_eqMarkS.T6:Bool × List (List Nat × List Nat):=(true,[([],[]),([],[]),([0,1],[0,1]),([2],[2]),([],[]),([],[]),([4,5],[4,5]),([6],[6]),([3,7],[3,7]),([8],[8])])
def laws_eqMarkS.B6:List Nat:=[0,0,3,7,0,0,48,112,255,511]
theorem laws_eqMarkS.tab6:rtab .any (opsOf Try.f33 6)=laws_eqMarkS.T6:=by kernel_rfl
theorem laws_eqMarkS.bits6:waitsOk laws_eqMarkS.T6.2 laws_eqMarkS.B6=true:=by kernel_rfl
set_option maxHeartbeats 8000000 in
set_option maxRecDepth 100000 in
theorem laws_eqMarkS.calls (k:Nat) (A0:Option Addr) (c0:Nat) (l0:List (S56)) (A1:Option Addr) (c1:Nat) (l1:List (S56)) (r:Bool) (w:World) (hr0:Kd.C k56 w A0 l0.length l0) (hc0:l0.length≤c0) (hr1:Kd.C k56 w A1 l1.length l1) (hc1:l1.length≤c1) (h:laws_eqMarkS.f k l0 l1=some r) :
  Calls Try.prog 33 #[.slice A0 l0.length c0,.slice A1 l1.length c1] w fun e w'=>e = .returned (.bool r)∧Below w.heap.size w w':=by
 have hu56:=Try.underlying56
 have HR0:=Aside0.mk hr0
 have HC0:=Aside0.mk hc0
 clear hr0 hc0
 have HR1:=Aside0.mk hr1
 have HC1:=Aside0.mk hc1
 clear hr1 hc1
 have HB:=Aside0.mk (Below.refl w.heap.size w)
 have H:(if (l0.length:Int)=(l1.length:Int) then (laws_eqMarkS.l0 k l0 l1 0) else (none))=some r:=h
 clear h
 by_cases c3:(l0.length:Int)=(l1.length:Int)
 ·rw [if_pos c3] at H
  have c3b0:((l0.length:Int) == (l1.length:Int))=true:=beq_iff_eq.mpr c3
  have c3b1:((l0.length:Int) != (l1.length:Int))=false:=bne_eq_false_iff_eq.mpr c3
  have c3b2:(l0.length == l1.length)=true:=by first | simpa using c3 | (simp at c3 ⊢;omega)
  clear c3
  have H':=Aside0.mk H
  clear H
  go_enter Try.func33,Try.ntmps33
  go_wp2
  go_loopg [5] k (fun kq v5 w'=>∃ (x5_1:Int),v5 = .int .i64 x5_1∧Aside0 (laws_eqMarkS.l0 kq l0 l1 x5_1=some r)∧Aside0 (kq≤k)∧Aside0 (Below w.heap.size w w'))
  case atStart=>exact ⟨(0),(z2_),H',⟨Nat.le_refl _⟩,⟨z3_ HB.out⟩⟩
  case round =>
   clear H'
   try clear c1
   try clear p2
   try clear c3
   try clear c3b0
   try clear c3b1
   try clear c3b2
   obtain ⟨x5_1,rfl,HA,HK1,HB⟩:=hrel
   cases gk with
   | zero=>exact absurd HA.out (by simp [laws_eqMarkS.l0])
   | succ k1 =>
    have H:=HA.out
    clear HA
    simp only [laws_eqMarkS.l0] at H
    by_cases c4:x5_1<(l0.length:Int)
    ·rw [if_pos c4] at H
     have c4b0:decide (x5_1<(l0.length:Int))=true:=decide_eq_true c4
     clear c4
     by_cases c5:0≤x5_1
     ·rw [if_pos c5] at H
      have c5b0:decide (0≤x5_1)=true:=decide_eq_true c5
      clear c5
      by_cases c6:x5_1<(l1.length:Int)
      ·rw [if_pos c6] at H
       have c6b0:decide (x5_1<(l1.length:Int))=true:=decide_eq_true c6
       clear c6
       replace H:=Option.bind_eq_some_iff.mp H
       obtain ⟨t321,A70,H⟩:=H
       replace H:(if t321=true then (laws_eqMarkS.l0 k1 l0 l1 (wrap64 (x5_1+1))) else (none))=some r:=H
       have A7:=Aside0.mk A70
       clear A70
       by_cases c8:t321=true
       ·subst c8
        have H1:(laws_eqMarkS.l0 k1 l0 l1 (wrap64 (x5_1+1)))=some r:=by rw [if_pos rfl] at H;exact H
        clear H
        have H:=H1
        clear H1
        have H':=Aside0.mk H
        clear H
        try go_wp2
        have n0_:=Aside0.mk (below_drew1 HB.out)
        clear HB
        have HB:=n0_
        clear n0_
        have p319:0≤(x5_1:Int):=of_decide_eq_true (z1_)
        have q319:x5_1<(l0.length:Int):=of_decide_eq_true (z1_)
        obtain ⟨ad319,e319,hx319_0,hx319_1⟩:=at_T56 HR0.out x5_1 p319 q319
        have hw319_1:=hx319_1
        have hw319_0:=hx319_0
        cases e319
        replace hx319_0:=(HB.out.cell (World.block_lt_of_cell? w _ hx319_0)).trans hx319_0
        replace hx319_1:=(HB.out.cell (World.block_lt_of_cell? w _ hx319_1)).trans hx319_1
        replace p319:=eq_true p319
        replace q319:=eq_true q319
        have p320:0≤(x5_1:Int):=of_decide_eq_true (z1_)
        have q320:x5_1<(l1.length:Int):=of_decide_eq_true (z1_)
        obtain ⟨ad320,e320,hx320_0,hx320_1⟩:=at_T56 HR1.out x5_1 p320 q320
        have hw320_1:=hx320_1
        have hw320_0:=hx320_0
        cases e320
        replace hx320_0:=(HB.out.cell (World.block_lt_of_cell? w _ hx320_0)).trans hx320_0
        replace hx320_1:=(HB.out.cell (World.block_lt_of_cell? w _ hx320_1)).trans hx320_1
        replace p320:=eq_true p320
        replace q320:=eq_true q320
        refine start_ (n:=10) (S:=fun w'=>w'.cell? (ad319.add ((x5_1).toNat*2))=some (.int .i64 ((rd_T56 l0 x5_1).f0))∧w'.cell? ⟨(ad319.add ((x5_1).toNat*2)).block,(ad319.add ((x5_1).toNat*2)).off+1,none⟩=some (.int .i64 ((rd_T56 l0 x5_1).f1))∧w'.cell? (ad320.add ((x5_1).toNat*2))=some (.int .i64 ((rd_T56 l1 x5_1).f0))∧w'.cell? ⟨(ad320.add ((x5_1).toNat*2)).block,(ad320.add ((x5_1).toNat*2)).off+1,none⟩=some (.int .i64 ((rd_T56 l1 x5_1).f1))) (ds:=[]) #[O,O,O,O,O,O,O,O,O,O] (by kernel_rfl) rfl rfl ⟨((HB.out.cell (World.block_lt_of_cell? w _ hw319_0)).trans hw319_0),((HB.out.cell (World.block_lt_of_cell? w _ hw319_1)).trans hw319_1),((HB.out.cell (World.block_lt_of_cell? w _ hw320_0)).trans hw320_0),((HB.out.cell (World.block_lt_of_cell? w _ hw320_1)).trans hw320_1)⟩ (fun hHeld=>?_);refine with_tabW laws_eqMarkS.tab6 laws_eqMarkS.bits6 (fun HT_ HW_=>?_)
        generalize wr.drew=w9 at HB hx319_0 hx319_1 hx320_0 hx320_1 hHeld ⊢
        refine pu_ 0 17 #[I,O,O,O,O,O,O,O,O,O] HT_.out ?_
        refine pu_ 1 18 #[I,I,O,O,O,O,O,O,O,O] HT_.out ?_
        refine pu_ 2 19 #[I,I,I,O,O,O,O,O,O,O] HT_.out ?_
        refine pu_ 4 21 #[I,I,I,O,I,O,O,O,O,O] HT_.out ?_
        refine pu_ 5 22 #[I,I,I,O,I,I,O,O,O,O] HT_.out ?_
        refine pu_ 6 23 #[I,I,I,O,I,I,I,O,O,O] HT_.out ?_
        refine tk4_ 3 20 #[I,I,I,I,I,I,I,O,O,O] HT_.out HW_.out hHeld ?_
        refine tk4_ 7 24 #[I,I,I,I,I,I,I,I,O,O] HT_.out HW_.out hHeld ?_
        refine o1_ 8 25 #[I,I,I,I,I,I,I,I,I,O] HT_.out (fun K hK=>?_)
        refine gs_ Try.func66 #[.agg #[.int .i64 ((rd_T56 l0 x5_1).f0),.int .i64 ((rd_T56 l0 x5_1).f1)],.agg #[.int .i64 ((rd_T56 l1 x5_1).f0),.int .i64 ((rd_T56 l1 x5_1).f1)]] ?_
        with_reducible refine (laws_eqMark.calls ((rd_T56 l0 x5_1).f0) ((rd_T56 l0 x5_1).f1) ((rd_T56 l1 x5_1).f0) ((rd_T56 l1 x5_1).f1) true _ A7.out).mono ?_
        rintro e w10 ⟨rfl,hb⟩
        refine ⟨_,rfl,?_⟩
        have n0_:=Aside0.mk (below_step (z3_ HB.out) hb)
        clear HB
        have HB:=n0_
        clear n0_
        (try clear hb)
        refine hK.out _ _ ⟨((HB.out.cell (World.block_lt_of_cell? w _ hw319_0)).trans hw319_0),((HB.out.cell (World.block_lt_of_cell? w _ hw319_1)).trans hw319_1),((HB.out.cell (World.block_lt_of_cell? w _ hw320_0)).trans hw320_0),((HB.out.cell (World.block_lt_of_cell? w _ hw320_1)).trans hw320_1)⟩ (fun hHeld=>?_)
        clear hK K
        refine nm_ 25 ?_
        refine pu_ 9 26 #[I,I,I,I,I,I,I,I,I,I] HT_.out ?_
        refine done_ (done_of HT_.out (by kernel_rfl)) ?_
        try go_wp2
        go_roundg k1
        case measure=>have:=HK1.out;omega
        case rel=>exact ⟨(wrap64 (x5_1+1)),(z2_),H',⟨by have:=HK1.out;omega⟩,⟨z3_ HB.out⟩⟩
       ·replace c8:=Bool.eq_false_iff.mpr c8
        subst c8
        have H1:(none)=some r:=by rw [if_neg (show ¬ (false=true) by decide)] at H;exact H
        clear H
        have H:=H1
        clear H1
        exact absurd H (by simp)
      ·rw [if_neg c6] at H
       exact absurd H (by simp)
     ·rw [if_neg c5] at H
      exact absurd H (by simp)
    ·rw [if_neg c4] at H
     have c4b0:decide (x5_1<(l0.length:Int))=false:=decide_eq_false c4
     clear c4
     obtain rfl:=Option.some.inj H
     go_wp2
     go_ret
     exact ⟨z8_,z3_ HB.out⟩
 ·rw [if_neg c3] at H
  exact absurd H (by simp)


/-! ### laws_eqSib: function 91 -/
def laws_eqSib.f (a0_0:Int) (a0_1:Int) (a0_2:Bool) (a0_3:ByteArray) (a1_0:Int) (a1_1:Int) (a1_2:Bool) (a1_3:ByteArray):Option (Bool):=(laws_eqMark.f a0_0 a0_1 a1_0 a1_1).bind fun t324=>(if t324=true then (if (a0_2 != a1_2)=true then (none) else (if a0_3.toList=a1_3.toList then (some true) else (none))) else (none))
set_option maxHeartbeats 8000000 in
set_option maxRecDepth 100000 in
theorem laws_eqSib.calls (a0_0:Int) (a0_1:Int) (a0_2:Bool) (a0_3:ByteArray) (a1_0:Int) (a1_1:Int) (a1_2:Bool) (a1_3:ByteArray) (r:Bool) (w:World) (h:laws_eqSib.f a0_0 a0_1 a0_2 a0_3 a1_0 a1_1 a1_2 a1_3=some r) :
  Calls Try.prog 91 #[.agg #[.int .i64 a0_0,.int .i64 a0_1,.bool a0_2,.string a0_3],.agg #[.int .i64 a1_0,.int .i64 a1_1,.bool a1_2,.string a1_3]] w fun e w'=>e = .returned (.bool r)∧Below w.heap.size w w':=by
 have hu91:=Try.underlying91
 have hu56:=Try.underlying56
 have HB:=Aside0.mk (Below.refl w.heap.size w)
 have H:((laws_eqMark.f a0_0 a0_1 a1_0 a1_1).bind fun t324=>(if t324=true then (if (a0_2 != a1_2)=true then (none) else (if a0_3.toList=a1_3.toList then (some true) else (none))) else (none)))=some r:=h
 clear h
 replace H:=Option.bind_eq_some_iff.mp H
 obtain ⟨t324,A30,H⟩:=H
 replace H:(if t324=true then (if (a0_2 != a1_2)=true then (none) else (if a0_3.toList=a1_3.toList then (some true) else (none))) else (none))=some r:=H
 have A3:=Aside0.mk A30
 clear A30
 by_cases c4:t324=true
 ·subst c4
  have H1:(if (a0_2 != a1_2)=true then (none) else (if a0_3.toList=a1_3.toList then (some true) else (none)))=some r:=by rw [if_pos rfl] at H;exact H
  clear H
  have H:=H1
  clear H1
  by_cases c5:(a0_2 != a1_2)=true
  ·rw [if_pos c5] at H
   exact absurd H (by simp)
  ·rw [if_neg c5] at H
   have c5b0:(a0_2 != a1_2)=false:=by simpa using c5
   (try (have c5b1:decide (a0_2=a1_2)=true:=by simpa using c5))
   (try (have c5b2:(a0_2 == a1_2)=true:=by simpa using c5))
   clear c5
   by_cases c6:a0_3.toList=a1_3.toList
   ·rw [if_pos c6] at H
    have c6b0:(a0_3.toList == a1_3.toList)=true:=beq_iff_eq.mpr c6
    have c6b1:(a0_3.toList != a1_3.toList)=false:=bne_eq_false_iff_eq.mpr c6
    clear c6
    obtain rfl:=Option.some.inj H
    go_enter Try.func91,Try.ntmps91
    go_wp2_with (first | ((with_reducible refine gd_ 2 ?_);refine be_ 2 #[.int .i64 a0_0,.int .i64 a0_1,.bool a0_2,.string a0_3] 91 ?_;intro gb322 hg w7 hbox hb;refine as4_ (below_step (z3_ HB.out) hb) (hbox) ((z7_ HB.out:w.heap.size≤gb322)) ((z7_ HB.out:w.heap.size≤gb322)) ?_;clear HB;intro HB BK322 GW322 GE322;clear hb hbox hg) | ((with_reducible refine gd_ 3 ?_);refine be_ 3 #[.int .i64 a1_0,.int .i64 a1_1,.bool a1_2,.string a1_3] 91 ?_;intro gb323 hg w8 hbox hb;refine as7_ (blkB_ BK322.out hb) (below_step (z6_ HB.out GE322.out) hb) (hbox) ((z9_ HB.out GE322.out:w.heap.size≤gb323)) ((z9_ HB.out GE322.out:w.heap.size≤gb323)) (neL_ BK322.out hg) (neG_ BK322.out hg) ?_;clear BK322 HB;intro BK322 HB BK323 GW323 GE323 NB322_323 NB323_322;clear hb hbox hg;have hnb9:=NB322_323.out;have hnc9:=NB323_322.out;have ⟨hcz10_0,hcz10_1,hcz10_2,hcz10_3,hfz10_0,hfz10_1,hfz10_2,hfz10_3⟩:=cz4_ BK322.out;have ⟨hcz11_0,hcz11_1,hcz11_2,hcz11_3,hfz11_0,hfz11_1,hfz11_2,hfz11_3⟩:=cz4_ BK323.out) | ((with_reducible refine gc_ 66 ?_);refine gl_ (some 9) Try.func66 #[.agg #[.int .i64 a0_0,.int .i64 a0_1],.agg #[.int .i64 a1_0,.int .i64 a1_1]] ?_;(with_reducible refine (laws_eqMark.calls a0_0 a0_1 a1_0 a1_1 true _ A3.out).mono ?_);rintro e w12 ⟨rfl,hb⟩;refine ⟨_,rfl,?_⟩;refine as3_ (blkB_ BK322.out hb) (blkB_ BK323.out hb) (below_step (z4_ HB.out GE322.out GE323.out) hb) ?_;clear BK322 BK323 HB;intro BK322 BK323 HB;(try clear hb);have ⟨hcz13_0,hcz13_1,hcz13_2,hcz13_3,hfz13_0,hfz13_1,hfz13_2,hfz13_3⟩:=cz4_ BK322.out;have ⟨hcz14_0,hcz14_1,hcz14_2,hcz14_3,hfz14_0,hfz14_1,hfz14_2,hfz14_3⟩:=cz4_ BK323.out))
    go_ret
    exact ⟨z8_,z4_ HB.out GE322.out GE323.out⟩
   ·rw [if_neg c6] at H
    exact absurd H (by simp)
 ·replace c4:=Bool.eq_false_iff.mpr c4
  subst c4
  have H1:(none)=some r:=by rw [if_neg (show ¬ (false=true) by decide)] at H;exact H
  clear H
  have H:=H1
  clear H1
  exact absurd H (by simp)


/-! ### laws_eqSibS: function 57 -/
def laws_eqSibS.l0:Nat→List (S91)→List (S91)→Int→Option (Bool)
 | 0,_,_,_=>none
 | k+1,x0,x1,x5=>if x5<(x0.length:Int) then (if 0≤x5 then (if x5<(x1.length:Int) then ((laws_eqSib.f ((rd_T91 x0 x5).f0.f0) ((rd_T91 x0 x5).f0.f1) ((rd_T91 x0 x5).f1) ((rd_T91 x0 x5).f2) ((rd_T91 x1 x5).f0.f0) ((rd_T91 x1 x5).f0.f1) ((rd_T91 x1 x5).f1) ((rd_T91 x1 x5).f2)).bind fun t327=>(if t327=true then (laws_eqSibS.l0 k x0 x1 (wrap64 (x5+1))) else (none))) else (none)) else (none)) else (some true)
def laws_eqSibS.f (k:Nat) (l0:List (S91)) (l1:List (S91)):Option (Bool):=if (l0.length:Int)=(l1.length:Int) then (laws_eqSibS.l0 k l0 l1 0) else (none)
theorem laws_eqSibS.mono_l:∀ k,(∀ y0 y1 y2,LeO (laws_eqSibS.l0 k y0 y1 y2) (laws_eqSibS.l0 (k+1) y0 y1 y2))
 | 0=>fun _ _ _ r h=>by simp [laws_eqSibS.l0] at h
 | k+1=>by
  have ih0:=laws_eqSibS.mono_l k
  ·intro y0 y1 y2
   unfold laws_eqSibS.l0
   repeat' first
   | (with_reducible exact ih0 _ _ _)
   | (with_reducible exact LeO.refl _)
   | (with_reducible exact LeO.none _)
   | (with_reducible refine LeO.ite ?_ ?_)
   | (with_reducible refine LeO.bind ?_ (fun _=>?_))
   | exact ih0 _ _ _
   | exact LeO.none _
   | refine LeO.ite ?_ ?_
   | refine LeO.bind ?_ (fun _=>?_)
theorem laws_eqSibS.mono:∀ a0 a1 k,LeO (laws_eqSibS.f k a0 a1) (laws_eqSibS.f (k+1) a0 a1):=by
 intro a0 a1 k
 have ih0:=laws_eqSibS.mono_l k
 unfold laws_eqSibS.f
 repeat' first
   | (with_reducible exact ih0 _ _ _)
   | (with_reducible exact LeO.refl _)
   | (with_reducible exact LeO.none _)
   | (with_reducible refine LeO.ite ?_ ?_)
   | (with_reducible refine LeO.bind ?_ (fun _=>?_))
   | exact ih0 _ _ _
   | exact LeO.none _
   | refine LeO.ite ?_ ?_
   | refine LeO.bind ?_ (fun _=>?_)
def laws_eqSibS.T6:Bool × List (List Nat × List Nat):=(true,[([],[]),([],[]),([0,1],[0,1]),([2],[2]),([],[]),([],[]),([4,5],[4,5]),([6],[6]),([3,7],[3,7]),([8],[8])])
def laws_eqSibS.B6:List Nat:=[0,0,3,7,0,0,48,112,255,511]
theorem laws_eqSibS.tab6:rtab .any (opsOf Try.f57 6)=laws_eqSibS.T6:=by kernel_rfl
theorem laws_eqSibS.bits6:waitsOk laws_eqSibS.T6.2 laws_eqSibS.B6=true:=by kernel_rfl
set_option maxHeartbeats 8000000 in
set_option maxRecDepth 100000 in
theorem laws_eqSibS.calls (k:Nat) (A0:Option Addr) (c0:Nat) (l0:List (S91)) (A1:Option Addr) (c1:Nat) (l1:List (S91)) (r:Bool) (w:World) (hr0:Kd.C k91 w A0 l0.length l0) (hc0:l0.length≤c0) (hr1:Kd.C k91 w A1 l1.length l1) (hc1:l1.length≤c1) (h:laws_eqSibS.f k l0 l1=some r) :
  Calls Try.prog 57 #[.slice A0 l0.length c0,.slice A1 l1.length c1] w fun e w'=>e = .returned (.bool r)∧Below w.heap.size w w':=by
 have hu91:=Try.underlying91
 have HR0:=Aside0.mk hr0
 have HC0:=Aside0.mk hc0
 clear hr0 hc0
 have HR1:=Aside0.mk hr1
 have HC1:=Aside0.mk hc1
 clear hr1 hc1
 have HB:=Aside0.mk (Below.refl w.heap.size w)
 have H:(if (l0.length:Int)=(l1.length:Int) then (laws_eqSibS.l0 k l0 l1 0) else (none))=some r:=h
 clear h
 by_cases c3:(l0.length:Int)=(l1.length:Int)
 ·rw [if_pos c3] at H
  have c3b0:((l0.length:Int) == (l1.length:Int))=true:=beq_iff_eq.mpr c3
  have c3b1:((l0.length:Int) != (l1.length:Int))=false:=bne_eq_false_iff_eq.mpr c3
  have c3b2:(l0.length == l1.length)=true:=by first | simpa using c3 | (simp at c3 ⊢;omega)
  clear c3
  have H':=Aside0.mk H
  clear H
  go_enter Try.func57,Try.ntmps57
  go_wp2
  go_loopg [5] k (fun kq v5 w'=>∃ (x5_1:Int),v5 = .int .i64 x5_1∧Aside0 (laws_eqSibS.l0 kq l0 l1 x5_1=some r)∧Aside0 (kq≤k)∧Aside0 (Below w.heap.size w w'))
  case atStart=>exact ⟨(0),(z2_),H',⟨Nat.le_refl _⟩,⟨z3_ HB.out⟩⟩
  case round =>
   clear H'
   try clear c1
   try clear p2
   try clear c3
   try clear c3b0
   try clear c3b1
   try clear c3b2
   obtain ⟨x5_1,rfl,HA,HK1,HB⟩:=hrel
   cases gk with
   | zero=>exact absurd HA.out (by simp [laws_eqSibS.l0])
   | succ k1 =>
    have H:=HA.out
    clear HA
    simp only [laws_eqSibS.l0] at H
    by_cases c4:x5_1<(l0.length:Int)
    ·rw [if_pos c4] at H
     have c4b0:decide (x5_1<(l0.length:Int))=true:=decide_eq_true c4
     clear c4
     by_cases c5:0≤x5_1
     ·rw [if_pos c5] at H
      have c5b0:decide (0≤x5_1)=true:=decide_eq_true c5
      clear c5
      by_cases c6:x5_1<(l1.length:Int)
      ·rw [if_pos c6] at H
       have c6b0:decide (x5_1<(l1.length:Int))=true:=decide_eq_true c6
       clear c6
       replace H:=Option.bind_eq_some_iff.mp H
       obtain ⟨t327,A70,H⟩:=H
       replace H:(if t327=true then (laws_eqSibS.l0 k1 l0 l1 (wrap64 (x5_1+1))) else (none))=some r:=H
       have A7:=Aside0.mk A70
       clear A70
       by_cases c8:t327=true
       ·subst c8
        have H1:(laws_eqSibS.l0 k1 l0 l1 (wrap64 (x5_1+1)))=some r:=by rw [if_pos rfl] at H;exact H
        clear H
        have H:=H1
        clear H1
        have H':=Aside0.mk H
        clear H
        try go_wp2
        have n0_:=Aside0.mk (below_drew1 HB.out)
        clear HB
        have HB:=n0_
        clear n0_
        have p325:0≤(x5_1:Int):=of_decide_eq_true (z1_)
        have q325:x5_1<(l0.length:Int):=of_decide_eq_true (z1_)
        obtain ⟨ad325,e325,hx325_0,hx325_1,hx325_2,hx325_3⟩:=at_T91 HR0.out x5_1 p325 q325
        have hw325_3:=hx325_3
        have hw325_2:=hx325_2
        have hw325_1:=hx325_1
        have hw325_0:=hx325_0
        cases e325
        replace hx325_0:=(HB.out.cell (World.block_lt_of_cell? w _ hx325_0)).trans hx325_0
        replace hx325_1:=(HB.out.cell (World.block_lt_of_cell? w _ hx325_1)).trans hx325_1
        replace hx325_2:=(HB.out.cell (World.block_lt_of_cell? w _ hx325_2)).trans hx325_2
        replace hx325_3:=(HB.out.cell (World.block_lt_of_cell? w _ hx325_3)).trans hx325_3
        replace p325:=eq_true p325
        replace q325:=eq_true q325
        have p326:0≤(x5_1:Int):=of_decide_eq_true (z1_)
        have q326:x5_1<(l1.length:Int):=of_decide_eq_true (z1_)
        obtain ⟨ad326,e326,hx326_0,hx326_1,hx326_2,hx326_3⟩:=at_T91 HR1.out x5_1 p326 q326
        have hw326_3:=hx326_3
        have hw326_2:=hx326_2
        have hw326_1:=hx326_1
        have hw326_0:=hx326_0
        cases e326
        replace hx326_0:=(HB.out.cell (World.block_lt_of_cell? w _ hx326_0)).trans hx326_0
        replace hx326_1:=(HB.out.cell (World.block_lt_of_cell? w _ hx326_1)).trans hx326_1
        replace hx326_2:=(HB.out.cell (World.block_lt_of_cell? w _ hx326_2)).trans hx326_2
        replace hx326_3:=(HB.out.cell (World.block_lt_of_cell? w _ hx326_3)).trans hx326_3
        replace p326:=eq_true p326
        replace q326:=eq_true q326
        refine start_ (n:=10) (S:=fun w'=>w'.cell? (ad325.add ((x5_1).toNat*4))=some (.int .i64 ((rd_T91 l0 x5_1).f0.f0))∧w'.cell? ⟨(ad325.add ((x5_1).toNat*4)).block,(ad325.add ((x5_1).toNat*4)).off+1,none⟩=some (.int .i64 ((rd_T91 l0 x5_1).f0.f1))∧w'.cell? ⟨(ad325.add ((x5_1).toNat*4)).block,(ad325.add ((x5_1).toNat*4)).off+2,none⟩=some (.bool ((rd_T91 l0 x5_1).f1))∧w'.cell? ⟨(ad325.add ((x5_1).toNat*4)).block,(ad325.add ((x5_1).toNat*4)).off+3,none⟩=some (.string ((rd_T91 l0 x5_1).f2))∧w'.cell? (ad326.add ((x5_1).toNat*4))=some (.int .i64 ((rd_T91 l1 x5_1).f0.f0))∧w'.cell? ⟨(ad326.add ((x5_1).toNat*4)).block,(ad326.add ((x5_1).toNat*4)).off+1,none⟩=some (.int .i64 ((rd_T91 l1 x5_1).f0.f1))∧w'.cell? ⟨(ad326.add ((x5_1).toNat*4)).block,(ad326.add ((x5_1).toNat*4)).off+2,none⟩=some (.bool ((rd_T91 l1 x5_1).f1))∧w'.cell? ⟨(ad326.add ((x5_1).toNat*4)).block,(ad326.add ((x5_1).toNat*4)).off+3,none⟩=some (.string ((rd_T91 l1 x5_1).f2))) (ds:=[]) #[O,O,O,O,O,O,O,O,O,O] (by kernel_rfl) rfl rfl ⟨((HB.out.cell (World.block_lt_of_cell? w _ hw325_0)).trans hw325_0),((HB.out.cell (World.block_lt_of_cell? w _ hw325_1)).trans hw325_1),((HB.out.cell (World.block_lt_of_cell? w _ hw325_2)).trans hw325_2),((HB.out.cell (World.block_lt_of_cell? w _ hw325_3)).trans hw325_3),((HB.out.cell (World.block_lt_of_cell? w _ hw326_0)).trans hw326_0),((HB.out.cell (World.block_lt_of_cell? w _ hw326_1)).trans hw326_1),((HB.out.cell (World.block_lt_of_cell? w _ hw326_2)).trans hw326_2),((HB.out.cell (World.block_lt_of_cell? w _ hw326_3)).trans hw326_3)⟩ (fun hHeld=>?_);refine with_tabW laws_eqSibS.tab6 laws_eqSibS.bits6 (fun HT_ HW_=>?_)
        generalize wr.drew=w9 at HB hx325_0 hx325_1 hx325_2 hx325_3 hx326_0 hx326_1 hx326_2 hx326_3 hHeld ⊢
        refine pu_ 0 17 #[I,O,O,O,O,O,O,O,O,O] HT_.out ?_
        refine pu_ 1 18 #[I,I,O,O,O,O,O,O,O,O] HT_.out ?_
        refine pu_ 2 19 #[I,I,I,O,O,O,O,O,O,O] HT_.out ?_
        refine pu_ 4 21 #[I,I,I,O,I,O,O,O,O,O] HT_.out ?_
        refine pu_ 5 22 #[I,I,I,O,I,I,O,O,O,O] HT_.out ?_
        refine pu_ 6 23 #[I,I,I,O,I,I,I,O,O,O] HT_.out ?_
        refine tk8_ 3 20 #[I,I,I,I,I,I,I,O,O,O] HT_.out HW_.out hHeld ?_
        refine tk8_ 7 24 #[I,I,I,I,I,I,I,I,O,O] HT_.out HW_.out hHeld ?_
        refine o1_ 8 25 #[I,I,I,I,I,I,I,I,I,O] HT_.out (fun K hK=>?_)
        refine gs_ Try.func91 #[.agg #[.int .i64 ((rd_T91 l0 x5_1).f0.f0),.int .i64 ((rd_T91 l0 x5_1).f0.f1),.bool ((rd_T91 l0 x5_1).f1),.string ((rd_T91 l0 x5_1).f2)],.agg #[.int .i64 ((rd_T91 l1 x5_1).f0.f0),.int .i64 ((rd_T91 l1 x5_1).f0.f1),.bool ((rd_T91 l1 x5_1).f1),.string ((rd_T91 l1 x5_1).f2)]] ?_
        with_reducible refine (laws_eqSib.calls ((rd_T91 l0 x5_1).f0.f0) ((rd_T91 l0 x5_1).f0.f1) ((rd_T91 l0 x5_1).f1) ((rd_T91 l0 x5_1).f2) ((rd_T91 l1 x5_1).f0.f0) ((rd_T91 l1 x5_1).f0.f1) ((rd_T91 l1 x5_1).f1) ((rd_T91 l1 x5_1).f2) true _ A7.out).mono ?_
        rintro e w10 ⟨rfl,hb⟩
        refine ⟨_,rfl,?_⟩
        have n0_:=Aside0.mk (below_step (z3_ HB.out) hb)
        clear HB
        have HB:=n0_
        clear n0_
        (try clear hb)
        refine hK.out _ _ ⟨((HB.out.cell (World.block_lt_of_cell? w _ hw325_0)).trans hw325_0),((HB.out.cell (World.block_lt_of_cell? w _ hw325_1)).trans hw325_1),((HB.out.cell (World.block_lt_of_cell? w _ hw325_2)).trans hw325_2),((HB.out.cell (World.block_lt_of_cell? w _ hw325_3)).trans hw325_3),((HB.out.cell (World.block_lt_of_cell? w _ hw326_0)).trans hw326_0),((HB.out.cell (World.block_lt_of_cell? w _ hw326_1)).trans hw326_1),((HB.out.cell (World.block_lt_of_cell? w _ hw326_2)).trans hw326_2),((HB.out.cell (World.block_lt_of_cell? w _ hw326_3)).trans hw326_3)⟩ (fun hHeld=>?_)
        clear hK K
        refine nm_ 25 ?_
        refine pu_ 9 26 #[I,I,I,I,I,I,I,I,I,I] HT_.out ?_
        refine done_ (done_of HT_.out (by kernel_rfl)) ?_
        try go_wp2
        go_roundg k1
        case measure=>have:=HK1.out;omega
        case rel=>exact ⟨(wrap64 (x5_1+1)),(z2_),H',⟨by have:=HK1.out;omega⟩,⟨z3_ HB.out⟩⟩
       ·replace c8:=Bool.eq_false_iff.mpr c8
        subst c8
        have H1:(none)=some r:=by rw [if_neg (show ¬ (false=true) by decide)] at H;exact H
        clear H
        have H:=H1
        clear H1
        exact absurd H (by simp)
      ·rw [if_neg c6] at H
       exact absurd H (by simp)
     ·rw [if_neg c5] at H
      exact absurd H (by simp)
    ·rw [if_neg c4] at H
     have c4b0:decide (x5_1<(l0.length:Int))=false:=decide_eq_false c4
     clear c4
     obtain rfl:=Option.some.inj H
     go_wp2
     go_ret
     exact ⟨z8_,z3_ HB.out⟩
 ·rw [if_neg c3] at H
  exact absurd H (by simp)


/-! ### laws_eqSet: function 19 -/
def laws_eqSet.f (k:Nat) (l0_0:List (S56)) (l0_1:List (S91)) (l1_0:List (S56)) (l1_1:List (S91)):Option (Bool):=(laws_eqMarkS.f k l0_0 l1_0).bind fun t330=>(if t330=true then ((laws_eqSibS.f k l0_1 l1_1).bind fun t331=>(if t331=true then (some true) else (none))) else (none))
theorem laws_eqSet.mono:∀ a0 a1 a2 a3 k,LeO (laws_eqSet.f k a0 a1 a2 a3) (laws_eqSet.f (k+1) a0 a1 a2 a3):=by
 intro a0 a1 a2 a3 k
 unfold laws_eqSet.f
 repeat' first
   | (with_reducible exact laws_eqMarkS.mono _ _ _)
   | (with_reducible exact laws_eqSibS.mono _ _ _)
   | (with_reducible exact LeO.refl _)
   | (with_reducible exact LeO.none _)
   | (with_reducible refine LeO.ite ?_ ?_)
   | (with_reducible refine LeO.bind ?_ (fun _=>?_))
   | exact laws_eqMarkS.mono _ _ _
   | exact laws_eqSibS.mono _ _ _
   | exact LeO.none _
   | refine LeO.ite ?_ ?_
   | refine LeO.bind ?_ (fun _=>?_)
set_option maxHeartbeats 8000000 in
set_option maxRecDepth 100000 in
theorem laws_eqSet.calls (k:Nat) (A0_0:Option Addr) (c0_0:Nat) (l0_0:List (S56)) (A0_1:Option Addr) (c0_1:Nat) (l0_1:List (S91)) (A1_0:Option Addr) (c1_0:Nat) (l1_0:List (S56)) (A1_1:Option Addr) (c1_1:Nat) (l1_1:List (S91)) (r:Bool) (w:World) (hr0_0:Kd.C k56 w A0_0 l0_0.length l0_0) (hc0_0:l0_0.length≤c0_0) (hr0_1:Kd.C k91 w A0_1 l0_1.length l0_1) (hc0_1:l0_1.length≤c0_1) (hr1_0:Kd.C k56 w A1_0 l1_0.length l1_0) (hc1_0:l1_0.length≤c1_0) (hr1_1:Kd.C k91 w A1_1 l1_1.length l1_1) (hc1_1:l1_1.length≤c1_1) (h:laws_eqSet.f k l0_0 l0_1 l1_0 l1_1=some r) :
  Calls Try.prog 19 #[.agg #[.slice A0_0 l0_0.length c0_0,.slice A0_1 l0_1.length c0_1],.agg #[.slice A1_0 l1_0.length c1_0,.slice A1_1 l1_1.length c1_1]] w fun e w'=>e = .returned (.bool r)∧Below w.heap.size w w':=by
 have hu40:=Try.underlying40
 have HR0_0:=Aside0.mk hr0_0
 have HC0_0:=Aside0.mk hc0_0
 clear hr0_0 hc0_0
 have HR0_1:=Aside0.mk hr0_1
 have HC0_1:=Aside0.mk hc0_1
 clear hr0_1 hc0_1
 have HR1_0:=Aside0.mk hr1_0
 have HC1_0:=Aside0.mk hc1_0
 clear hr1_0 hc1_0
 have HR1_1:=Aside0.mk hr1_1
 have HC1_1:=Aside0.mk hc1_1
 clear hr1_1 hc1_1
 have HB:=Aside0.mk (Below.refl w.heap.size w)
 have H:((laws_eqMarkS.f k l0_0 l1_0).bind fun t330=>(if t330=true then ((laws_eqSibS.f k l0_1 l1_1).bind fun t331=>(if t331=true then (some true) else (none))) else (none)))=some r:=h
 clear h
 replace H:=Option.bind_eq_some_iff.mp H
 obtain ⟨t330,A30,H⟩:=H
 replace H:(if t330=true then ((laws_eqSibS.f k l0_1 l1_1).bind fun t331=>(if t331=true then (some true) else (none))) else (none))=some r:=H
 have A3:=Aside0.mk A30
 clear A30
 by_cases c4:t330=true
 ·subst c4
  have H1:((laws_eqSibS.f k l0_1 l1_1).bind fun t331=>(if t331=true then (some true) else (none)))=some r:=by rw [if_pos rfl] at H;exact H
  clear H
  have H:=H1
  clear H1
  replace H:=Option.bind_eq_some_iff.mp H
  obtain ⟨t331,A50,H⟩:=H
  replace H:(if t331=true then (some true) else (none))=some r:=H
  have A5:=Aside0.mk A50
  clear A50
  by_cases c6:t331=true
  ·subst c6
   have H1:(some true)=some r:=by rw [if_pos rfl] at H;exact H
   clear H
   have H:=H1
   clear H1
   obtain rfl:=Option.some.inj H
   go_enter Try.func19,Try.ntmps19
   go_wp2_with (first | ((with_reducible refine gd_ 2 ?_);refine be_ 2 #[.slice A0_0 l0_0.length c0_0,.slice A0_1 l0_1.length c0_1] 40 ?_;intro gb328 hg w7 hbox hb;refine as4_ (below_step (z3_ HB.out) hb) (hbox) ((z7_ HB.out:w.heap.size≤gb328)) ((z7_ HB.out:w.heap.size≤gb328)) ?_;clear HB;intro HB BK328 GW328 GE328;clear hb hbox hg) | ((with_reducible refine gd_ 3 ?_);refine be_ 3 #[.slice A1_0 l1_0.length c1_0,.slice A1_1 l1_1.length c1_1] 40 ?_;intro gb329 hg w8 hbox hb;refine as7_ (blkB_ BK328.out hb) (below_step (z6_ HB.out GE328.out) hb) (hbox) ((z9_ HB.out GE328.out:w.heap.size≤gb329)) ((z9_ HB.out GE328.out:w.heap.size≤gb329)) (neL_ BK328.out hg) (neG_ BK328.out hg) ?_;clear BK328 HB;intro BK328 HB BK329 GW329 GE329 NB328_329 NB329_328;clear hb hbox hg;have hnb9:=NB328_329.out;have hnc9:=NB329_328.out;have ⟨hcz10_0,hcz10_1,hfz10_0,hfz10_1⟩:=cz2_ BK328.out;have ⟨hcz11_0,hcz11_1,hfz11_0,hfz11_1⟩:=cz2_ BK329.out) | ((with_reducible refine gc_ 33 ?_);refine gl_ (some 9) Try.func33 #[.slice A0_0 l0_0.length c0_0,.slice A1_0 l1_0.length c1_0] ?_;(with_reducible refine (laws_eqMarkS.calls k _ _ l0_0 _ _ l1_0 true _ ?s1 ?s2 ?s3 ?s4 A3.out).mono ?_);(case s1=>repeat (first | exact (Kd.C_below HR0_0.out HB.out) | (with_reducible refine Kd.C_alloc ?_ _) | (with_reducible refine Kd.C_drewN ?_ _) | (with_reducible refine Kd.C_drew ?_)));(case s2=>exact HC0_0.out);(case s3=>repeat (first | exact (Kd.C_below HR1_0.out HB.out) | (with_reducible refine Kd.C_alloc ?_ _) | (with_reducible refine Kd.C_drewN ?_ _) | (with_reducible refine Kd.C_drew ?_)));(case s4=>exact HC1_0.out);rintro e w12 ⟨rfl,hb⟩;refine ⟨_,rfl,?_⟩;refine as3_ (blkB_ BK328.out hb) (blkB_ BK329.out hb) (below_step (z4_ HB.out GE328.out GE329.out) hb) ?_;clear BK328 BK329 HB;intro BK328 BK329 HB;(try clear hb);have ⟨hcz13_0,hcz13_1,hfz13_0,hfz13_1⟩:=cz2_ BK328.out;have ⟨hcz14_0,hcz14_1,hfz14_0,hfz14_1⟩:=cz2_ BK329.out) | ((with_reducible refine gc_ 57 ?_);refine gl_ (some 15) Try.func57 #[.slice A0_1 l0_1.length c0_1,.slice A1_1 l1_1.length c1_1] ?_;(with_reducible refine (laws_eqSibS.calls k _ _ l0_1 _ _ l1_1 true _ ?s1 ?s2 ?s3 ?s4 A5.out).mono ?_);(case s1=>repeat (first | exact (Kd.C_below HR0_1.out HB.out) | (with_reducible refine Kd.C_alloc ?_ _) | (with_reducible refine Kd.C_drewN ?_ _) | (with_reducible refine Kd.C_drew ?_)));(case s2=>exact HC0_1.out);(case s3=>repeat (first | exact (Kd.C_below HR1_1.out HB.out) | (with_reducible refine Kd.C_alloc ?_ _) | (with_reducible refine Kd.C_drewN ?_ _) | (with_reducible refine Kd.C_drew ?_)));(case s4=>exact HC1_1.out);rintro e w15 ⟨rfl,hb⟩;refine ⟨_,rfl,?_⟩;refine as3_ (blkB_ BK328.out hb) (blkB_ BK329.out hb) (below_step (z4_ HB.out GE328.out GE329.out) hb) ?_;clear BK328 BK329 HB;intro BK328 BK329 HB;(try clear hb)))
   go_ret
   exact ⟨z8_,z4_ HB.out GE328.out GE329.out⟩
  ·replace c6:=Bool.eq_false_iff.mpr c6
   subst c6
   have H1:(none)=some r:=by rw [if_neg (show ¬ (false=true) by decide)] at H;exact H
   clear H
   have H:=H1
   clear H1
   exact absurd H (by simp)
 ·replace c4:=Bool.eq_false_iff.mpr c4
  subst c4
  have H1:(none)=some r:=by rw [if_neg (show ¬ (false=true) by decide)] at H;exact H
  clear H
  have H:=H1
  clear H1
  exact absurd H (by simp)


/-! ### laws_markMarkS: function 34 -/
def laws_markMarkS.l0:Nat→List (S56)→Int→Int→Option (Int × (List (S56)))
 | 0,_,_,_=>none
 | k+1,x0,x1,x5=>if x5<(x0.length:Int) then (if 0≤x5 then ((some (x0.set (x5:Int).toNat (⟨x1,(rd_T56 x0 x5).f1⟩:S56):List (S56))).bind fun y338=>(laws_markMarkS.l0 k (y338.set (x5:Int).toNat (⟨(rd_T56 y338 x5).f0,wrap64 (x1+1)⟩:S56)) (wrap64 ((wrap64 (x1+1))+1)) (wrap64 (x5+1)))) else (none)) else (some (x1,x0))
def laws_markMarkS.f (k:Nat) (l0:List (S56)) (a1:Int):Option (Int × (List (S56))):=laws_markMarkS.l0 k l0 a1 0
theorem laws_markMarkS.mono_l:∀ k,(∀ y0 y1 y2,LeO (laws_markMarkS.l0 k y0 y1 y2) (laws_markMarkS.l0 (k+1) y0 y1 y2))
 | 0=>fun _ _ _ r h=>by simp [laws_markMarkS.l0] at h
 | k+1=>by
  have ih0:=laws_markMarkS.mono_l k
  ·intro y0 y1 y2
   unfold laws_markMarkS.l0
   repeat' first
   | (with_reducible exact ih0 _ _ _)
   | (with_reducible exact LeO.refl _)
   | (with_reducible exact LeO.none _)
   | (with_reducible refine LeO.ite ?_ ?_)
   | (with_reducible refine LeO.bind ?_ (fun _=>?_))
   | exact ih0 _ _ _
   | exact LeO.none _
   | refine LeO.ite ?_ ?_
   | refine LeO.bind ?_ (fun _=>?_)
theorem laws_markMarkS.mono:∀ a0 a1 k,LeO (laws_markMarkS.f k a0 a1) (laws_markMarkS.f (k+1) a0 a1):=by
 intro a0 a1 k
 have ih0:=laws_markMarkS.mono_l k
 unfold laws_markMarkS.f
 repeat' first
   | (with_reducible exact ih0 _ _ _)
   | (with_reducible exact LeO.refl _)
   | (with_reducible exact LeO.none _)
   | (with_reducible refine LeO.ite ?_ ?_)
   | (with_reducible refine LeO.bind ?_ (fun _=>?_))
   | exact ih0 _ _ _
   | exact LeO.none _
   | refine LeO.ite ?_ ?_
   | refine LeO.bind ?_ (fun _=>?_)
set_option maxHeartbeats 8000000 in
set_option maxRecDepth 100000 in
theorem laws_markMarkS.calls (k:Nat) (P0_:Nat→Prop) (u9000_:Value) (l0:List (S56)) (a1:Int) (r1:Int) (r2:List (S56)) (w0 w:World) (hB:Below w0.heap.size w0 w) (ho0:Kd.R k56 56 w w0.heap.size P0_ u9000_ l0) (h:laws_markMarkS.f k l0 a1=some (r1,r2)) :
  Calls Try.prog 34 #[u9000_,.int .i64 a1] w fun e w'=>e = .returned (.int .i64 r1)∧Kd.R k56 56 w' w0.heap.size (fun k_=>(P0_ k_∨w.heap.size≤k_)) u9000_ r2∧Below w0.heap.size w0 w'∧Kept w w' (fun k_=>P0_ k_):=by
 have HO0:=Aside0.mk (show Kd.R k56 56 w w0.heap.size (fun k_=>(P0_ k_∨w.heap.size≤k_)) u9000_ l0 from Kd.R_mono ho0 (fun k_ hk=>(.inl hk)))
 have HK:=Aside0.mk (Kept.refl w (fun k_=>P0_ k_))
 have HW0:=Aside0.mk hB.size
 have HB:=Aside0.mk hB
 clear hB
 have H:(laws_markMarkS.l0 k l0 a1 0)=some (r1,r2):=h
 clear h
 have H':=Aside0.mk H
 clear H
 go_enter Try.func34,Try.ntmps34
 go_wp2
 go_loopg [1,5] k (fun kq v1 v5 w'=>∃ (x0_1:List (S56)) (x1_1:Int) (x5_1:Int),v1 = .int .i64 x1_1∧v5 = .int .i64 x5_1∧Aside0 (laws_markMarkS.l0 kq x0_1 x1_1 x5_1=some (r1,r2))∧Aside0 (kq≤k)∧Aside0 (Kd.R k56 56 w' w0.heap.size (fun k_=>(P0_ k_∨w.heap.size≤k_)) u9000_ x0_1)∧Aside0 (Kept w w' (fun k_=>P0_ k_))∧Aside0 (Below w0.heap.size w0 w'))
 case atStart=>exact ⟨(l0),(a1),(0),(z2_),(z2_),H',⟨Nat.le_refl _⟩,⟨z0_ HO0.out⟩,⟨z14_ HK.out⟩,⟨z3_ HB.out⟩⟩
 case round =>
  clear H'
  try clear p2
  obtain ⟨x0_1,x1_1,x5_1,rfl,rfl,HA,HK1,HO_0,HK,HB⟩:=hrel
  cases gk with
  | zero=>exact absurd HA.out (by simp [laws_markMarkS.l0])
  | succ k1 =>
   have H:=HA.out
   clear HA
   simp only [laws_markMarkS.l0] at H
   by_cases c3:x5_1<(x0_1.length:Int)
   ·rw [if_pos c3] at H
    have c3b0:decide (x5_1<(x0_1.length:Int))=true:=decide_eq_true c3
    clear c3
    by_cases c4:0≤x5_1
    ·rw [if_pos c4] at H
     have c4b0:decide (0≤x5_1)=true:=decide_eq_true c4
     clear c4
     obtain ⟨y338,hy338⟩:∃ y_:List (S56),y_=(x0_1.set (x5_1:Int).toNat (⟨x1_1,(rd_T56 x0_1 x5_1).f1⟩:S56)):=⟨_,rfl⟩
     replace H:(laws_markMarkS.l0 k1 (y338.set (x5_1:Int).toNat (⟨(rd_T56 y338 x5_1).f0,wrap64 (x1_1+1)⟩:S56)) (wrap64 ((wrap64 (x1_1+1))+1)) (wrap64 (x5_1+1)))=some (r1,r2):=by first | (rw [hy338];with_reducible exact H) | (have H2_:=(Option.bind_some _ _).symm.trans H;rw [hy338];with_reducible exact H2_) | (have H2_:=(Option.bind_some _ _).symm.trans H;with_reducible exact H2_) | with_reducible exact H | (rw [hy338];exact H) | exact H
     have Ny338:=Aside0.mk hy338
     clear hy338
     obtain ⟨y339,hy339⟩:∃ y_:List (S56),y_=(y338.set (x5_1:Int).toNat (⟨(rd_T56 y338 x5_1).f0,wrap64 (x1_1+1)⟩:S56)):=⟨_,rfl⟩
     replace H:(laws_markMarkS.l0 k1 y339 (wrap64 ((wrap64 (x1_1+1))+1)) (wrap64 (x5_1+1)))=some (r1,r2):=by first | (rw [hy339];with_reducible exact H) | (have H2_:=(Option.bind_some _ _).symm.trans H;rw [hy339];with_reducible exact H2_) | (have H2_:=(Option.bind_some _ _).symm.trans H;with_reducible exact H2_) | with_reducible exact H | (rw [hy339];exact H) | exact H
     have Ny339:=Aside0.mk hy339
     clear hy339
     have H':=Aside0.mk H
     clear H
     obtain ⟨Ao7,co7,eo7⟩:=Kd.R_slice HO_0.out
     subst eo7
     have p5:0≤(x5_1:Int):=of_decide_eq_true (z1_)
     have q5:(x5_1:Int)<((x0_1.length:Int):Int):=of_decide_eq_true (z1_)
     obtain ⟨go5,co5,eo5,gb5,gl5,cl5,HG5⟩:=Kd.R_form HO_0.out (by omega)
     (first | cases eo5 | (injection eo5 with ea_ en_ ec_;(first | subst ea_ | (injection ea_ with ea_;subst ea_));subst ec_;clear en_))
     have GB5:=Aside0.mk gb5
     have GG5:=Aside0.mk HG5
     clear gb5 gl5 HG5
     have HMgo5:=Aside0.mk (show (P0_ go5∨w.heap.size≤go5) from (HO_0.out.1 _ rfl))
     obtain ⟨ce5,hcl5,hM5,hcc5,hfr5⟩:=Kd.R_elem HO_0.out z56 (x5_1:Int) p5 q5
     obtain rfl:=k56_openM hM5
     have hx5_0:wr.cell? ⟨go5,(x5_1:Int).toNat*2,none⟩=some (.int .i64 ((rd_T56 x0_1 x5_1).f0)):=hcc5 0 _ rfl
     have hx5_1:wr.cell? ⟨go5,(x5_1:Int).toNat*2+1,none⟩=some (.int .i64 ((rd_T56 x0_1 x5_1).f1)):=hcc5 1 _ rfl
     have hf5_0:wr.frozen? ⟨go5,(x5_1:Int).toNat*2,none⟩=false:=hfr5 0
     have hf5_1:wr.frozen? ⟨go5,(x5_1:Int).toNat*2+1,none⟩=false:=hfr5 1
     clear hcl5 hcc5 hfr5 hM5
     replace p5:=eq_true p5
     replace q5:=eq_true q5
     have HX8:=Aside0.mk (show Kd.R k56 56 wr w0.heap.size (fun k_=>(P0_ k_∨w.heap.size≤k_)) (.slice (some ⟨go5,0,none⟩) x0_1.length co7) x0_1 from (z0_ HO_0.out))
     obtain ⟨ce8,hcl8,hM8,hcc8,hfr8⟩:=Kd.R_elem HX8.out z56 (x5_1:Int) (of_decide_eq_true (z1_)) (z22_ HO_0.out)
     obtain rfl:=k56_openM hM8
     have HP8:=Kd.R_seg HX8.out (x5_1:Int) (of_decide_eq_true (z1_)) (z22_ HO_0.out) (seg:=[.int .i64 x1_1]) (j:=0) hcl8 hcc8 (show 1≤2 from by decide) (x':=(⟨x1_1,(rd_T56 x0_1 x5_1).f1⟩:S56)) (k56_mkM _ _ _ (⟨x1_1,(rd_T56 x0_1 x5_1).f1⟩:S56) ) (fun _ hk=>hk)
     have hx8_0:=hcc8 0 _ rfl
     (try simp only [show (k56).sz=2 from rfl,Nat.mul_one,Nat.add_zero] at hx8_0)
     have hf8_0:=hfr8 0
     (try simp only [show (k56).sz=2 from rfl,Nat.mul_one,Nat.add_zero] at hf8_0)
     clear hcl8 hcc8 hfr8 hM8
     go_wp2_with (first | ((with_reducible refine gate_store (t:=2) (p:=16) rfl ?_);refine store_event (t:=2) (p:=16) (v:=?vo_w9) (w1:=(wr.setCell ⟨go5,(x5_1:Int).toNat*2,none⟩ (.int .i64 x1_1))) ?hg ?ho ?hn ?hr ?_;(case ho=>rfl);(case hg=>rfl);(case hn=>rfl);(case hr=>first | (go_simp;done) | (go_simp;rfl));intro w9 hw;have hg:wr.grownBy w9 (some go5):=(by rw [hw];exact HP8.2);have hp_:Kd.R k56 56 w9 w0.heap.size (fun k_=>(P0_ k_∨w.heap.size≤k_)) (.slice (some ⟨go5,0,none⟩) x0_1.length co7) y338:=(by rw [hw,Ny338.out];exact HP8.1);clear HP8;refine as3_ (hp_) ((by rw [hw];exact below_set (HB.out) GB5.out:Below w0.heap.size w0 w9)) (Kept.of_grown (S:=(fun k_=>P0_ k_)) hg (z14_ HK.out) (fun k_ e_=>(HO_0.out.1 k_ e_))) ?_;clear HO_0 HB HK;intro HO_0 HB HK;clear hg hw hp_;have p6:0≤(x5_1:Int):=of_decide_eq_true (z1_);have q6:(x5_1:Int)<((x0_1.length:Int):Int):=of_decide_eq_true (z1_);obtain ⟨ce6,hcl6,hM6,hcc6,hfr6⟩:=Kd.R_elem HO_0.out z56 (x5_1:Int) p6 q6;obtain rfl:=k56_openM hM6;have hx6_0:w9.cell? ⟨go5,(x5_1:Int).toNat*2,none⟩=some (.int .i64 ((rd_T56 y338 x5_1).f0)):=hcc6 0 _ rfl;have hx6_1:w9.cell? ⟨go5,(x5_1:Int).toNat*2+1,none⟩=some (.int .i64 ((rd_T56 y338 x5_1).f1)):=hcc6 1 _ rfl;have hf6_0:w9.frozen? ⟨go5,(x5_1:Int).toNat*2,none⟩=false:=hfr6 0;have hf6_1:w9.frozen? ⟨go5,(x5_1:Int).toNat*2+1,none⟩=false:=hfr6 1;clear hcl6 hcc6 hfr6 hM6;replace p6:=eq_true p6;replace q6:=eq_true q6;have HX10:=Aside0.mk (show Kd.R k56 56 w9 w0.heap.size (fun k_=>(P0_ k_∨w.heap.size≤k_)) (.slice (some ⟨go5,0,none⟩) x0_1.length co7) y338 from (z0_ HO_0.out));obtain ⟨ce10,hcl10,hM10,hcc10,hfr10⟩:=Kd.R_elem HX10.out z56 (x5_1:Int) (of_decide_eq_true (z1_)) (z22_ HO_0.out);obtain rfl:=k56_openM hM10;have HP10:=Kd.R_seg HX10.out (x5_1:Int) (of_decide_eq_true (z1_)) (z22_ HO_0.out) (seg:=[.int .i64 (wrap64 (x1_1+1))]) (j:=1) hcl10 hcc10 (show 2≤2 from by decide) (x':=(⟨(rd_T56 y338 x5_1).f0,wrap64 (x1_1+1)⟩:S56)) (k56_mkM _ _ _ (⟨(rd_T56 y338 x5_1).f0,wrap64 (x1_1+1)⟩:S56) ) (fun _ hk=>hk);have hx10_1:=hcc10 1 _ rfl;(try simp only [show (k56).sz=2 from rfl,Nat.mul_one,Nat.add_zero] at hx10_1);have hf10_1:=hfr10 1;(try simp only [show (k56).sz=2 from rfl,Nat.mul_one,Nat.add_zero] at hf10_1);clear hcl10 hcc10 hfr10 hM10) | ((with_reducible refine gate_store (t:=2) (p:=23) rfl ?_);refine store_event (t:=2) (p:=23) (v:=?vo_w11) (w1:=(w9.setCell ⟨go5,(x5_1:Int).toNat*2+1,none⟩ (.int .i64 (wrap64 (x1_1+1))))) ?hg ?ho ?hn ?hr ?_;(case ho=>rfl);(case hg=>rfl);(case hn=>rfl);(case hr=>first | (go_simp;done) | (go_simp;rfl));intro w11 hw;have hg:w9.grownBy w11 (some go5):=(by rw [hw];exact HP10.2);have hp_:Kd.R k56 56 w11 w0.heap.size (fun k_=>(P0_ k_∨w.heap.size≤k_)) (.slice (some ⟨go5,0,none⟩) x0_1.length co7) y339:=(by rw [hw,Ny339.out];exact HP10.1);clear HP10;refine as3_ (hp_) ((by rw [hw];exact below_set (HB.out) GB5.out:Below w0.heap.size w0 w11)) (Kept.of_grown (S:=(fun k_=>P0_ k_)) hg (z14_ HK.out) (fun k_ e_=>(HO_0.out.1 k_ e_))) ?_;clear HO_0 HB HK;intro HO_0 HB HK;clear hg hw hp_))
     go_roundg k1
     case measure=>have:=HK1.out;omega
     case rel=>exact ⟨(y339),(wrap64 ((wrap64 (x1_1+1))+1)),(wrap64 (x5_1+1)),(z2_),(z2_),H',⟨by have:=HK1.out;omega⟩,⟨z0_ HO_0.out⟩,⟨z14_ HK.out⟩,⟨z3_ HB.out⟩⟩
    ·rw [if_neg c4] at H
     exact absurd H (by simp)
   ·rw [if_neg c3] at H
    have c3b0:decide (x5_1<(x0_1.length:Int))=false:=decide_eq_false c3
    clear c3
    simp only [Option.some.injEq,Prod.mk.injEq] at H
    obtain ⟨rfl,rfl⟩:=H
    obtain ⟨Ao12,co12,eo12⟩:=Kd.R_slice HO_0.out
    subst eo12
    go_wp2
    go_ret
    exact ⟨z8_,z0_ HO_0.out,z3_ HB.out,z14_ HK.out⟩


/-! ### laws_markText: function 92 -/
def laws_markText.l0:Nat→Int→ByteArray→Option (ByteArray)
 | 0,_,_=>none
 | k+1,x0,x3=>if x0>0 then ((some (([(wrap64 (48+(Int.tmod x0 10))) % 256]:List Int):List Int)).bind fun y340=>(if (strOfNums y340).size+x3.size≤9223372036854775807 then (laws_markText.l0 k (wrap64 (Int.tdiv x0 10)) ((strOfNums y340) ++ x3)) else (none))) else (if 1+x3.size≤9223372036854775807 then (some ((⟨#[109]⟩:ByteArray) ++ x3)) else (none))
def laws_markText.f (k:Nat) (a0:Int):Option (ByteArray):=if a0≤0 then (some (⟨#[109,48]⟩:ByteArray)) else (laws_markText.l0 k a0 (⟨#[]⟩:ByteArray))
theorem laws_markText.mono_l:∀ k,(∀ y0 y1,LeO (laws_markText.l0 k y0 y1) (laws_markText.l0 (k+1) y0 y1))
 | 0=>fun _ _ r h=>by simp [laws_markText.l0] at h
 | k+1=>by
  have ih0:=laws_markText.mono_l k
  ·intro y0 y1
   unfold laws_markText.l0
   repeat' first
   | (with_reducible exact ih0 _ _)
   | (with_reducible exact LeO.refl _)
   | (with_reducible exact LeO.none _)
   | (with_reducible refine LeO.ite ?_ ?_)
   | (with_reducible refine LeO.bind ?_ (fun _=>?_))
   | exact ih0 _ _
   | exact LeO.none _
   | refine LeO.ite ?_ ?_
   | refine LeO.bind ?_ (fun _=>?_)
theorem laws_markText.mono:∀ a0 k,LeO (laws_markText.f k a0) (laws_markText.f (k+1) a0):=by
 intro a0 k
 have ih0:=laws_markText.mono_l k
 unfold laws_markText.f
 repeat' first
   | (with_reducible exact ih0 _ _)
   | (with_reducible exact LeO.refl _)
   | (with_reducible exact LeO.none _)
   | (with_reducible refine LeO.ite ?_ ?_)
   | (with_reducible refine LeO.bind ?_ (fun _=>?_))
   | exact ih0 _ _
   | exact LeO.none _
   | refine LeO.ite ?_ ?_
   | refine LeO.bind ?_ (fun _=>?_)
set_option maxHeartbeats 8000000 in
set_option maxRecDepth 100000 in
theorem laws_markText.calls (k:Nat) (a0:Int) (r:ByteArray) (w:World) (h:laws_markText.f k a0=some r) :
  Calls Try.prog 92 #[.int .i64 a0] w fun e w'=>e = .returned (.string r)∧Below w.heap.size w w':=by
 have HB:=Aside0.mk (Below.refl w.heap.size w)
 have H:(if a0≤0 then (some (⟨#[109,48]⟩:ByteArray)) else (laws_markText.l0 k a0 (⟨#[]⟩:ByteArray)))=some r:=h
 clear h
 by_cases c2:a0≤0
 ·rw [if_pos c2] at H
  have c2b0:decide (a0≤0)=true:=decide_eq_true c2
  clear c2
  obtain rfl:=Option.some.inj H
  go_enter Try.func92,Try.ntmps92
  go_wp2
  go_ret
  exact ⟨z8_,z3_ HB.out⟩
 ·rw [if_neg c2] at H
  have c2b0:decide (a0≤0)=false:=decide_eq_false c2
  clear c2
  have H':=Aside0.mk H
  clear H
  go_enter Try.func92,Try.ntmps92
  go_wp2
  go_loopg [0,3] k (fun kq v0 v3 w'=>∃ (x0_1:Int) (x3_1:ByteArray),v0 = .int .i64 x0_1∧v3 = .string x3_1∧Aside0 (laws_markText.l0 kq x0_1 x3_1=some r)∧Aside0 (kq≤k)∧Aside0 (Below w.heap.size w w'))
  case atStart=>exact ⟨(a0),((⟨#[]⟩:ByteArray)),(z2_),(z2_),H',⟨Nat.le_refl _⟩,⟨z3_ HB.out⟩⟩
  case round =>
   clear H'
   try clear c2
   try clear c2b0
   try clear p2
   obtain ⟨x0_1,x3_1,rfl,rfl,HA,HK1,HB⟩:=hrel
   cases gk with
   | zero=>exact absurd HA.out (by simp [laws_markText.l0])
   | succ k1 =>
    have H:=HA.out
    clear HA
    simp only [laws_markText.l0] at H
    by_cases c3:x0_1>0
    ·rw [if_pos c3] at H
     have c3b0:decide (0<x0_1)=true:=decide_eq_true c3
     clear c3
     obtain ⟨y340,hy340⟩:∃ y_:List Int,y_=(([(wrap64 (48+(Int.tmod x0_1 10))) % 256]:List Int)):=⟨_,rfl⟩
     replace H:(if (strOfNums y340).size+x3_1.size≤9223372036854775807 then (laws_markText.l0 k1 (wrap64 (Int.tdiv x0_1 10)) ((strOfNums y340) ++ x3_1)) else (none))=some r:=by first | (rw [hy340];with_reducible exact H) | (have H2_:=(Option.bind_some _ _).symm.trans H;rw [hy340];with_reducible exact H2_) | (have H2_:=(Option.bind_some _ _).symm.trans H;with_reducible exact H2_) | with_reducible exact H | (rw [hy340];exact H) | exact H
     have Ny340:=Aside0.mk hy340
     clear hy340
     by_cases c4:(strOfNums y340).size+x3_1.size≤9223372036854775807
     ·rw [if_pos c4] at H
      have c4b0:=eq_true c4
      have c4b1:decide ((strOfNums y340).size+x3_1.size≤9223372036854775807)=true:=decide_eq_true c4
      try have c4b2:(9223372036854775807<(strOfNums y340).size+x3_1.size)=False:=eq_false (Nat.not_lt.2 c4)
      have H':=Aside0.mk H
      clear H
      go_wp2_with (first | ((with_reducible refine gd_ 12 ?_);refine Kd.R_lit (Kd.int .u8) _ 5 ?hg (N:=12) ?hd (xs:=([(wrap64 (48+(Int.tmod x0_1 10))) % 256]:List Int)) (inner:=[.int .u8 ((wrap64 (48+(Int.tmod x0_1 10))) % 256)]) (ok:=fun _=>True) (okp:=fun _=>True) ?hr ?hp (fun _ hk=>hk) trivial (Below.refl _ _) (Nat.le_refl _) (by simp) ?_;(case hd=>rfl);(case hg=>rfl);(case hr=>first | (go_simp;done) | (go_simp;rfl));(case hp=>exact (Reps.one (show Kd.M (Kd.int .u8) _ _ _ ((wrap64 (48+(Int.tmod x0_1 10))) % 256) [.int .u8 ((wrap64 (48+(Int.tmod x0_1 10))) % 256)] from rfl) (Reps.none _ _)));intro v341 w5 ho6 hb hg_ hnew_;clear hg_ hnew_;(first | rw [← Ny340.out] at ho6 | (simp only [Int.reduceToNat] at ho6;rw [← Ny340.out] at ho6));refine as2_ (Kd.R_lower ho6 (below_size (z3_ HB.out))) (below_step (z3_ HB.out) hb) ?_;clear HB;intro HO342 HB;clear hb ho6;have hcv7:=own_string (P:=Try.prog) Try.underlying126 Try.underlying5 Try.underlying9 (Kd.own_of_R HO342.out)))
      go_roundg k1
      case measure=>have:=HK1.out;omega
      case rel=>exact ⟨(wrap64 (Int.tdiv x0_1 10)),((strOfNums y340) ++ x3_1),(z2_),(z2_),H',⟨by have:=HK1.out;omega⟩,⟨z3_ HB.out⟩⟩
     ·rw [if_neg c4] at H
      exact absurd H (by simp)
    ·rw [if_neg c3] at H
     have c3b0:decide (0<x0_1)=false:=decide_eq_false c3
     clear c3
     by_cases c8:1+x3_1.size≤9223372036854775807
     ·rw [if_pos c8] at H
      have c8b0:=eq_true c8
      have c8b1:decide (1+x3_1.size≤9223372036854775807)=true:=decide_eq_true c8
      try have c8b2:(9223372036854775807<1+x3_1.size)=False:=eq_false (Nat.not_lt.2 c8)
      obtain rfl:=Option.some.inj H
      go_wp2
      go_ret
      exact ⟨z8_,z3_ HB.out⟩
     ·rw [if_neg c8] at H
      exact absurd H (by simp)


/-! ### laws_markSibS: function 58 -/
def laws_markSibS.l0:Nat→List (S91)→Int→Int→Option (Int × (List (S91)))
 | 0,_,_,_=>none
 | k+1,x0,x1,x5=>if x5<(x0.length:Int) then (if 0≤x5 then ((some (x0.set (x5:Int).toNat (⟨(⟨x1,(rd_T91 x0 x5).f0.f1⟩:S56),(rd_T91 x0 x5).f1,(rd_T91 x0 x5).f2⟩:S91):List (S91))).bind fun y343=>((some (y343.set (x5:Int).toNat (⟨(⟨(rd_T91 y343 x5).f0.f0,wrap64 (x1+1)⟩:S56),(rd_T91 y343 x5).f1,(rd_T91 y343 x5).f2⟩:S91):List (S91))).bind fun y344=>((some (y344.set (x5:Int).toNat (⟨(⟨(rd_T91 y344 x5).f0.f0,(rd_T91 y344 x5).f0.f1⟩:S56),((Int.tmod (wrap64 ((wrap64 (x1+1))+1)) 3) == 0),(rd_T91 y344 x5).f2⟩:S91):List (S91))).bind fun y345=>((laws_markText.f k (wrap64 ((wrap64 ((wrap64 (x1+1))+1))+1))).bind fun t346=>(laws_markSibS.l0 k (y345.set (x5:Int).toNat (⟨(⟨(rd_T91 y345 x5).f0.f0,(rd_T91 y345 x5).f0.f1⟩:S56),(rd_T91 y345 x5).f1,t346⟩:S91)) (wrap64 ((wrap64 ((wrap64 ((wrap64 (x1+1))+1))+1))+1)) (wrap64 (x5+1))))))) else (none)) else (some (x1,x0))
def laws_markSibS.f (k:Nat) (l0:List (S91)) (a1:Int):Option (Int × (List (S91))):=laws_markSibS.l0 k l0 a1 0
theorem laws_markSibS.mono_l:∀ k,(∀ y0 y1 y2,LeO (laws_markSibS.l0 k y0 y1 y2) (laws_markSibS.l0 (k+1) y0 y1 y2))
 | 0=>fun _ _ _ r h=>by simp [laws_markSibS.l0] at h
 | k+1=>by
  have ih0:=laws_markSibS.mono_l k
  ·intro y0 y1 y2
   unfold laws_markSibS.l0
   repeat' first
   | (with_reducible exact ih0 _ _ _)
   | (with_reducible exact laws_markText.mono _ _)
   | (with_reducible exact LeO.refl _)
   | (with_reducible exact LeO.none _)
   | (with_reducible refine LeO.ite ?_ ?_)
   | (with_reducible refine LeO.bind ?_ (fun _=>?_))
   | exact ih0 _ _ _
   | exact laws_markText.mono _ _
   | exact LeO.none _
   | refine LeO.ite ?_ ?_
   | refine LeO.bind ?_ (fun _=>?_)
theorem laws_markSibS.mono:∀ a0 a1 k,LeO (laws_markSibS.f k a0 a1) (laws_markSibS.f (k+1) a0 a1):=by
 intro a0 a1 k
 have ih0:=laws_markSibS.mono_l k
 unfold laws_markSibS.f
 repeat' first
   | (with_reducible exact ih0 _ _ _)
   | (with_reducible exact laws_markText.mono _ _)
   | (with_reducible exact LeO.refl _)
   | (with_reducible exact LeO.none _)
   | (with_reducible refine LeO.ite ?_ ?_)
   | (with_reducible refine LeO.bind ?_ (fun _=>?_))
   | exact ih0 _ _ _
   | exact laws_markText.mono _ _
   | exact LeO.none _
   | refine LeO.ite ?_ ?_
   | refine LeO.bind ?_ (fun _=>?_)
set_option maxHeartbeats 8000000 in
set_option maxRecDepth 100000 in
theorem laws_markSibS.calls (k:Nat) (P0_:Nat→Prop) (u9000_:Value) (l0:List (S91)) (a1:Int) (r1:Int) (r2:List (S91)) (w0 w:World) (hB:Below w0.heap.size w0 w) (ho0:Kd.R k91 91 w w0.heap.size P0_ u9000_ l0) (h:laws_markSibS.f k l0 a1=some (r1,r2)) :
  Calls Try.prog 58 #[u9000_,.int .i64 a1] w fun e w'=>e = .returned (.int .i64 r1)∧Kd.R k91 91 w' w0.heap.size (fun k_=>(P0_ k_∨w.heap.size≤k_)) u9000_ r2∧Below w0.heap.size w0 w'∧Kept w w' (fun k_=>P0_ k_):=by
 have HO0:=Aside0.mk (show Kd.R k91 91 w w0.heap.size (fun k_=>(P0_ k_∨w.heap.size≤k_)) u9000_ l0 from Kd.R_mono ho0 (fun k_ hk=>(.inl hk)))
 have HK:=Aside0.mk (Kept.refl w (fun k_=>P0_ k_))
 have HW0:=Aside0.mk hB.size
 have HB:=Aside0.mk hB
 clear hB
 have H:(laws_markSibS.l0 k l0 a1 0)=some (r1,r2):=h
 clear h
 have H':=Aside0.mk H
 clear H
 go_enter Try.func58,Try.ntmps58
 go_wp2
 go_loopg [1,5] k (fun kq v1 v5 w'=>∃ (x0_1:List (S91)) (x1_1:Int) (x5_1:Int),v1 = .int .i64 x1_1∧v5 = .int .i64 x5_1∧Aside0 (laws_markSibS.l0 kq x0_1 x1_1 x5_1=some (r1,r2))∧Aside0 (kq≤k)∧Aside0 (Kd.R k91 91 w' w0.heap.size (fun k_=>(P0_ k_∨w.heap.size≤k_)) u9000_ x0_1)∧Aside0 (Kept w w' (fun k_=>P0_ k_))∧Aside0 (Below w0.heap.size w0 w'))
 case atStart=>exact ⟨(l0),(a1),(0),(z2_),(z2_),H',⟨Nat.le_refl _⟩,⟨z0_ HO0.out⟩,⟨z14_ HK.out⟩,⟨z3_ HB.out⟩⟩
 case round =>
  clear H'
  try clear p2
  obtain ⟨x0_1,x1_1,x5_1,rfl,rfl,HA,HK1,HO_0,HK,HB⟩:=hrel
  cases gk with
  | zero=>exact absurd HA.out (by simp [laws_markSibS.l0])
  | succ k1 =>
   have H:=HA.out
   clear HA
   simp only [laws_markSibS.l0] at H
   by_cases c3:x5_1<(x0_1.length:Int)
   ·rw [if_pos c3] at H
    have c3b0:decide (x5_1<(x0_1.length:Int))=true:=decide_eq_true c3
    clear c3
    by_cases c4:0≤x5_1
    ·rw [if_pos c4] at H
     have c4b0:decide (0≤x5_1)=true:=decide_eq_true c4
     clear c4
     obtain ⟨y343,hy343⟩:∃ y_:List (S91),y_=(x0_1.set (x5_1:Int).toNat (⟨(⟨x1_1,(rd_T91 x0_1 x5_1).f0.f1⟩:S56),(rd_T91 x0_1 x5_1).f1,(rd_T91 x0_1 x5_1).f2⟩:S91)):=⟨_,rfl⟩
     replace H:((some (y343.set (x5_1:Int).toNat (⟨(⟨(rd_T91 y343 x5_1).f0.f0,wrap64 (x1_1+1)⟩:S56),(rd_T91 y343 x5_1).f1,(rd_T91 y343 x5_1).f2⟩:S91):List (S91))).bind fun y344=>((some (y344.set (x5_1:Int).toNat (⟨(⟨(rd_T91 y344 x5_1).f0.f0,(rd_T91 y344 x5_1).f0.f1⟩:S56),((Int.tmod (wrap64 ((wrap64 (x1_1+1))+1)) 3) == 0),(rd_T91 y344 x5_1).f2⟩:S91):List (S91))).bind fun y345=>((laws_markText.f k1 (wrap64 ((wrap64 ((wrap64 (x1_1+1))+1))+1))).bind fun t346=>(laws_markSibS.l0 k1 (y345.set (x5_1:Int).toNat (⟨(⟨(rd_T91 y345 x5_1).f0.f0,(rd_T91 y345 x5_1).f0.f1⟩:S56),(rd_T91 y345 x5_1).f1,t346⟩:S91)) (wrap64 ((wrap64 ((wrap64 ((wrap64 (x1_1+1))+1))+1))+1)) (wrap64 (x5_1+1))))))=some (r1,r2):=by first | (rw [hy343];with_reducible exact H) | (have H2_:=(Option.bind_some _ _).symm.trans H;rw [hy343];with_reducible exact H2_) | (have H2_:=(Option.bind_some _ _).symm.trans H;with_reducible exact H2_) | with_reducible exact H | (rw [hy343];exact H) | exact H
     have Ny343:=Aside0.mk hy343
     clear hy343
     obtain ⟨y344,hy344⟩:∃ y_:List (S91),y_=(y343.set (x5_1:Int).toNat (⟨(⟨(rd_T91 y343 x5_1).f0.f0,wrap64 (x1_1+1)⟩:S56),(rd_T91 y343 x5_1).f1,(rd_T91 y343 x5_1).f2⟩:S91)):=⟨_,rfl⟩
     replace H:((some (y344.set (x5_1:Int).toNat (⟨(⟨(rd_T91 y344 x5_1).f0.f0,(rd_T91 y344 x5_1).f0.f1⟩:S56),((Int.tmod (wrap64 ((wrap64 (x1_1+1))+1)) 3) == 0),(rd_T91 y344 x5_1).f2⟩:S91):List (S91))).bind fun y345=>((laws_markText.f k1 (wrap64 ((wrap64 ((wrap64 (x1_1+1))+1))+1))).bind fun t346=>(laws_markSibS.l0 k1 (y345.set (x5_1:Int).toNat (⟨(⟨(rd_T91 y345 x5_1).f0.f0,(rd_T91 y345 x5_1).f0.f1⟩:S56),(rd_T91 y345 x5_1).f1,t346⟩:S91)) (wrap64 ((wrap64 ((wrap64 ((wrap64 (x1_1+1))+1))+1))+1)) (wrap64 (x5_1+1)))))=some (r1,r2):=by first | (rw [hy344];with_reducible exact H) | (have H2_:=(Option.bind_some _ _).symm.trans H;rw [hy344];with_reducible exact H2_) | (have H2_:=(Option.bind_some _ _).symm.trans H;with_reducible exact H2_) | with_reducible exact H | (rw [hy344];exact H) | exact H
     have Ny344:=Aside0.mk hy344
     clear hy344
     obtain ⟨y345,hy345⟩:∃ y_:List (S91),y_=(y344.set (x5_1:Int).toNat (⟨(⟨(rd_T91 y344 x5_1).f0.f0,(rd_T91 y344 x5_1).f0.f1⟩:S56),((Int.tmod (wrap64 ((wrap64 (x1_1+1))+1)) 3) == 0),(rd_T91 y344 x5_1).f2⟩:S91)):=⟨_,rfl⟩
     replace H:((laws_markText.f k1 (wrap64 ((wrap64 ((wrap64 (x1_1+1))+1))+1))).bind fun t346=>(laws_markSibS.l0 k1 (y345.set (x5_1:Int).toNat (⟨(⟨(rd_T91 y345 x5_1).f0.f0,(rd_T91 y345 x5_1).f0.f1⟩:S56),(rd_T91 y345 x5_1).f1,t346⟩:S91)) (wrap64 ((wrap64 ((wrap64 ((wrap64 (x1_1+1))+1))+1))+1)) (wrap64 (x5_1+1))))=some (r1,r2):=by first | (rw [hy345];with_reducible exact H) | (have H2_:=(Option.bind_some _ _).symm.trans H;rw [hy345];with_reducible exact H2_) | (have H2_:=(Option.bind_some _ _).symm.trans H;with_reducible exact H2_) | with_reducible exact H | (rw [hy345];exact H) | exact H
     have Ny345:=Aside0.mk hy345
     clear hy345
     replace H:=Option.bind_eq_some_iff.mp H
     obtain ⟨t346,A80,H⟩:=H
     replace H:(laws_markSibS.l0 k1 (y345.set (x5_1:Int).toNat (⟨(⟨(rd_T91 y345 x5_1).f0.f0,(rd_T91 y345 x5_1).f0.f1⟩:S56),(rd_T91 y345 x5_1).f1,t346⟩:S91)) (wrap64 ((wrap64 ((wrap64 ((wrap64 (x1_1+1))+1))+1))+1)) (wrap64 (x5_1+1)))=some (r1,r2):=H
     have A8:=Aside0.mk A80
     clear A80
     obtain ⟨y347,hy347⟩:∃ y_:List (S91),y_=(y345.set (x5_1:Int).toNat (⟨(⟨(rd_T91 y345 x5_1).f0.f0,(rd_T91 y345 x5_1).f0.f1⟩:S56),(rd_T91 y345 x5_1).f1,t346⟩:S91)):=⟨_,rfl⟩
     replace H:(laws_markSibS.l0 k1 y347 (wrap64 ((wrap64 ((wrap64 ((wrap64 (x1_1+1))+1))+1))+1)) (wrap64 (x5_1+1)))=some (r1,r2):=by first | (rw [hy347];with_reducible exact H) | (have H2_:=(Option.bind_some _ _).symm.trans H;rw [hy347];with_reducible exact H2_) | (have H2_:=(Option.bind_some _ _).symm.trans H;with_reducible exact H2_) | with_reducible exact H | (rw [hy347];exact H) | exact H
     have Ny347:=Aside0.mk hy347
     clear hy347
     have H':=Aside0.mk H
     clear H
     obtain ⟨Ao10,co10,eo10⟩:=Kd.R_slice HO_0.out
     subst eo10
     have p5:0≤(x5_1:Int):=of_decide_eq_true (z1_)
     have q5:(x5_1:Int)<((x0_1.length:Int):Int):=of_decide_eq_true (z1_)
     obtain ⟨go5,co5,eo5,gb5,gl5,cl5,HG5⟩:=Kd.R_form HO_0.out (by omega)
     (first | cases eo5 | (injection eo5 with ea_ en_ ec_;(first | subst ea_ | (injection ea_ with ea_;subst ea_));subst ec_;clear en_))
     have GB5:=Aside0.mk gb5
     have GG5:=Aside0.mk HG5
     clear gb5 gl5 HG5
     have HMgo5:=Aside0.mk (show (P0_ go5∨w.heap.size≤go5) from (HO_0.out.1 _ rfl))
     obtain ⟨ce5,hcl5,hM5,hcc5,hfr5⟩:=Kd.R_elem HO_0.out z91 (x5_1:Int) p5 q5
     obtain rfl:=k91_openM hM5
     have hx5_0:wr.cell? ⟨go5,(x5_1:Int).toNat*4,none⟩=some (.int .i64 ((rd_T91 x0_1 x5_1).f0.f0)):=hcc5 0 _ rfl
     have hx5_1:wr.cell? ⟨go5,(x5_1:Int).toNat*4+1,none⟩=some (.int .i64 ((rd_T91 x0_1 x5_1).f0.f1)):=hcc5 1 _ rfl
     have hx5_2:wr.cell? ⟨go5,(x5_1:Int).toNat*4+2,none⟩=some (.bool ((rd_T91 x0_1 x5_1).f1)):=hcc5 2 _ rfl
     have hx5_3:wr.cell? ⟨go5,(x5_1:Int).toNat*4+3,none⟩=some (.string ((rd_T91 x0_1 x5_1).f2)):=hcc5 3 _ rfl
     have hf5_0:wr.frozen? ⟨go5,(x5_1:Int).toNat*4,none⟩=false:=hfr5 0
     have hf5_1:wr.frozen? ⟨go5,(x5_1:Int).toNat*4+1,none⟩=false:=hfr5 1
     have hf5_2:wr.frozen? ⟨go5,(x5_1:Int).toNat*4+2,none⟩=false:=hfr5 2
     have hf5_3:wr.frozen? ⟨go5,(x5_1:Int).toNat*4+3,none⟩=false:=hfr5 3
     clear hcl5 hcc5 hfr5 hM5
     replace p5:=eq_true p5
     replace q5:=eq_true q5
     have HX11:=Aside0.mk (show Kd.R k91 91 wr w0.heap.size (fun k_=>(P0_ k_∨w.heap.size≤k_)) (.slice (some ⟨go5,0,none⟩) x0_1.length co10) x0_1 from (z0_ HO_0.out))
     obtain ⟨ce11,hcl11,hM11,hcc11,hfr11⟩:=Kd.R_elem HX11.out z91 (x5_1:Int) (of_decide_eq_true (z1_)) (z22_ HO_0.out)
     obtain rfl:=k91_openM hM11
     have HP11:=Kd.R_seg HX11.out (x5_1:Int) (of_decide_eq_true (z1_)) (z22_ HO_0.out) (seg:=[.int .i64 x1_1]) (j:=0) hcl11 hcc11 (show 1≤4 from by decide) (x':=(⟨(⟨x1_1,(rd_T91 x0_1 x5_1).f0.f1⟩:S56),(rd_T91 x0_1 x5_1).f1,(rd_T91 x0_1 x5_1).f2⟩:S91)) (k91_mkM _ _ _ (⟨(⟨x1_1,(rd_T91 x0_1 x5_1).f0.f1⟩:S56),(rd_T91 x0_1 x5_1).f1,(rd_T91 x0_1 x5_1).f2⟩:S91) ) (fun _ hk=>hk)
     have hx11_0:=hcc11 0 _ rfl
     (try simp only [show (k91).sz=4 from rfl,Nat.mul_one,Nat.add_zero] at hx11_0)
     have hf11_0:=hfr11 0
     (try simp only [show (k91).sz=4 from rfl,Nat.mul_one,Nat.add_zero] at hf11_0)
     clear hcl11 hcc11 hfr11 hM11
     go_wp2_with (first | ((with_reducible refine gate_store (t:=2) (p:=17) rfl ?_);refine store_event (t:=2) (p:=17) (v:=?vo_w12) (w1:=(wr.setCell ⟨go5,(x5_1:Int).toNat*4,none⟩ (.int .i64 x1_1))) ?hg ?ho ?hn ?hr ?_;(case ho=>rfl);(case hg=>rfl);(case hn=>rfl);(case hr=>first | (go_simp;done) | (go_simp;rfl));intro w12 hw;have hg:wr.grownBy w12 (some go5):=(by rw [hw];exact HP11.2);have hp_:Kd.R k91 91 w12 w0.heap.size (fun k_=>(P0_ k_∨w.heap.size≤k_)) (.slice (some ⟨go5,0,none⟩) x0_1.length co10) y343:=(by rw [hw,Ny343.out];exact HP11.1);clear HP11;refine as3_ (hp_) ((by rw [hw];exact below_set (HB.out) GB5.out:Below w0.heap.size w0 w12)) (Kept.of_grown (S:=(fun k_=>P0_ k_)) hg (z14_ HK.out) (fun k_ e_=>(HO_0.out.1 k_ e_))) ?_;clear HO_0 HB HK;intro HO_0 HB HK;clear hg hw hp_;have p6:0≤(x5_1:Int):=of_decide_eq_true (z1_);have q6:(x5_1:Int)<((x0_1.length:Int):Int):=of_decide_eq_true (z1_);obtain ⟨ce6,hcl6,hM6,hcc6,hfr6⟩:=Kd.R_elem HO_0.out z91 (x5_1:Int) p6 q6;obtain rfl:=k91_openM hM6;have hx6_0:w12.cell? ⟨go5,(x5_1:Int).toNat*4,none⟩=some (.int .i64 ((rd_T91 y343 x5_1).f0.f0)):=hcc6 0 _ rfl;have hx6_1:w12.cell? ⟨go5,(x5_1:Int).toNat*4+1,none⟩=some (.int .i64 ((rd_T91 y343 x5_1).f0.f1)):=hcc6 1 _ rfl;have hx6_2:w12.cell? ⟨go5,(x5_1:Int).toNat*4+2,none⟩=some (.bool ((rd_T91 y343 x5_1).f1)):=hcc6 2 _ rfl;have hx6_3:w12.cell? ⟨go5,(x5_1:Int).toNat*4+3,none⟩=some (.string ((rd_T91 y343 x5_1).f2)):=hcc6 3 _ rfl;have hf6_0:w12.frozen? ⟨go5,(x5_1:Int).toNat*4,none⟩=false:=hfr6 0;have hf6_1:w12.frozen? ⟨go5,(x5_1:Int).toNat*4+1,none⟩=false:=hfr6 1;have hf6_2:w12.frozen? ⟨go5,(x5_1:Int).toNat*4+2,none⟩=false:=hfr6 2;have hf6_3:w12.frozen? ⟨go5,(x5_1:Int).toNat*4+3,none⟩=false:=hfr6 3;clear hcl6 hcc6 hfr6 hM6;replace p6:=eq_true p6;replace q6:=eq_true q6;have HX13:=Aside0.mk (show Kd.R k91 91 w12 w0.heap.size (fun k_=>(P0_ k_∨w.heap.size≤k_)) (.slice (some ⟨go5,0,none⟩) x0_1.length co10) y343 from (z0_ HO_0.out));obtain ⟨ce13,hcl13,hM13,hcc13,hfr13⟩:=Kd.R_elem HX13.out z91 (x5_1:Int) (of_decide_eq_true (z1_)) (z22_ HO_0.out);obtain rfl:=k91_openM hM13;have HP13:=Kd.R_seg HX13.out (x5_1:Int) (of_decide_eq_true (z1_)) (z22_ HO_0.out) (seg:=[.int .i64 (wrap64 (x1_1+1))]) (j:=1) hcl13 hcc13 (show 2≤4 from by decide) (x':=(⟨(⟨(rd_T91 y343 x5_1).f0.f0,wrap64 (x1_1+1)⟩:S56),(rd_T91 y343 x5_1).f1,(rd_T91 y343 x5_1).f2⟩:S91)) (k91_mkM _ _ _ (⟨(⟨(rd_T91 y343 x5_1).f0.f0,wrap64 (x1_1+1)⟩:S56),(rd_T91 y343 x5_1).f1,(rd_T91 y343 x5_1).f2⟩:S91) ) (fun _ hk=>hk);have hx13_1:=hcc13 1 _ rfl;(try simp only [show (k91).sz=4 from rfl,Nat.mul_one,Nat.add_zero] at hx13_1);have hf13_1:=hfr13 1;(try simp only [show (k91).sz=4 from rfl,Nat.mul_one,Nat.add_zero] at hf13_1);clear hcl13 hcc13 hfr13 hM13) | ((with_reducible refine gate_store (t:=2) (p:=25) rfl ?_);refine store_event (t:=2) (p:=25) (v:=?vo_w14) (w1:=(w12.setCell ⟨go5,(x5_1:Int).toNat*4+1,none⟩ (.int .i64 (wrap64 (x1_1+1))))) ?hg ?ho ?hn ?hr ?_;(case ho=>rfl);(case hg=>rfl);(case hn=>rfl);(case hr=>first | (go_simp;done) | (go_simp;rfl));intro w14 hw;have hg:w12.grownBy w14 (some go5):=(by rw [hw];exact HP13.2);have hp_:Kd.R k91 91 w14 w0.heap.size (fun k_=>(P0_ k_∨w.heap.size≤k_)) (.slice (some ⟨go5,0,none⟩) x0_1.length co10) y344:=(by rw [hw,Ny344.out];exact HP13.1);clear HP13;refine as3_ (hp_) ((by rw [hw];exact below_set (HB.out) GB5.out:Below w0.heap.size w0 w14)) (Kept.of_grown (S:=(fun k_=>P0_ k_)) hg (z14_ HK.out) (fun k_ e_=>(HO_0.out.1 k_ e_))) ?_;clear HO_0 HB HK;intro HO_0 HB HK;clear hg hw hp_;have p7:0≤(x5_1:Int):=of_decide_eq_true (z1_);have q7:(x5_1:Int)<((x0_1.length:Int):Int):=of_decide_eq_true (z1_);obtain ⟨ce7,hcl7,hM7,hcc7,hfr7⟩:=Kd.R_elem HO_0.out z91 (x5_1:Int) p7 q7;obtain rfl:=k91_openM hM7;have hx7_0:w14.cell? ⟨go5,(x5_1:Int).toNat*4,none⟩=some (.int .i64 ((rd_T91 y344 x5_1).f0.f0)):=hcc7 0 _ rfl;have hx7_1:w14.cell? ⟨go5,(x5_1:Int).toNat*4+1,none⟩=some (.int .i64 ((rd_T91 y344 x5_1).f0.f1)):=hcc7 1 _ rfl;have hx7_2:w14.cell? ⟨go5,(x5_1:Int).toNat*4+2,none⟩=some (.bool ((rd_T91 y344 x5_1).f1)):=hcc7 2 _ rfl;have hx7_3:w14.cell? ⟨go5,(x5_1:Int).toNat*4+3,none⟩=some (.string ((rd_T91 y344 x5_1).f2)):=hcc7 3 _ rfl;have hf7_0:w14.frozen? ⟨go5,(x5_1:Int).toNat*4,none⟩=false:=hfr7 0;have hf7_1:w14.frozen? ⟨go5,(x5_1:Int).toNat*4+1,none⟩=false:=hfr7 1;have hf7_2:w14.frozen? ⟨go5,(x5_1:Int).toNat*4+2,none⟩=false:=hfr7 2;have hf7_3:w14.frozen? ⟨go5,(x5_1:Int).toNat*4+3,none⟩=false:=hfr7 3;clear hcl7 hcc7 hfr7 hM7;replace p7:=eq_true p7;replace q7:=eq_true q7;have HX15:=Aside0.mk (show Kd.R k91 91 w14 w0.heap.size (fun k_=>(P0_ k_∨w.heap.size≤k_)) (.slice (some ⟨go5,0,none⟩) x0_1.length co10) y344 from (z0_ HO_0.out));obtain ⟨ce15,hcl15,hM15,hcc15,hfr15⟩:=Kd.R_elem HX15.out z91 (x5_1:Int) (of_decide_eq_true (z1_)) (z22_ HO_0.out);obtain rfl:=k91_openM hM15;have HP15:=Kd.R_seg HX15.out (x5_1:Int) (of_decide_eq_true (z1_)) (z22_ HO_0.out) (seg:=[.bool ((Int.tmod (wrap64 ((wrap64 (x1_1+1))+1)) 3) == 0)]) (j:=2) hcl15 hcc15 (show 3≤4 from by decide) (x':=(⟨(⟨(rd_T91 y344 x5_1).f0.f0,(rd_T91 y344 x5_1).f0.f1⟩:S56),((Int.tmod (wrap64 ((wrap64 (x1_1+1))+1)) 3) == 0),(rd_T91 y344 x5_1).f2⟩:S91)) (k91_mkM _ _ _ (⟨(⟨(rd_T91 y344 x5_1).f0.f0,(rd_T91 y344 x5_1).f0.f1⟩:S56),((Int.tmod (wrap64 ((wrap64 (x1_1+1))+1)) 3) == 0),(rd_T91 y344 x5_1).f2⟩:S91) ) (fun _ hk=>hk);have hx15_2:=hcc15 2 _ rfl;(try simp only [show (k91).sz=4 from rfl,Nat.mul_one,Nat.add_zero] at hx15_2);have hf15_2:=hfr15 2;(try simp only [show (k91).sz=4 from rfl,Nat.mul_one,Nat.add_zero] at hf15_2);clear hcl15 hcc15 hfr15 hM15) | ((with_reducible refine gate_store (t:=4) (p:=34) rfl ?_);refine store_event (t:=4) (p:=34) (v:=?vo_w16) (w1:=(w14.setCell ⟨go5,(x5_1:Int).toNat*4+2,none⟩ (.bool ((Int.tmod (wrap64 ((wrap64 (x1_1+1))+1)) 3) == 0)))) ?hg ?ho ?hn ?hr ?_;(case ho=>rfl);(case hg=>rfl);(case hn=>rfl);(case hr=>first | (go_simp;done) | (go_simp;rfl));intro w16 hw;have hg:w14.grownBy w16 (some go5):=(by rw [hw];exact HP15.2);have hp_:Kd.R k91 91 w16 w0.heap.size (fun k_=>(P0_ k_∨w.heap.size≤k_)) (.slice (some ⟨go5,0,none⟩) x0_1.length co10) y345:=(by rw [hw,Ny345.out];exact HP15.1);clear HP15;refine as3_ (hp_) ((by rw [hw];exact below_set (HB.out) GB5.out:Below w0.heap.size w0 w16)) (Kept.of_grown (S:=(fun k_=>P0_ k_)) hg (z14_ HK.out) (fun k_ e_=>(HO_0.out.1 k_ e_))) ?_;clear HO_0 HB HK;intro HO_0 HB HK;clear hg hw hp_) | ((with_reducible refine gc_ 92 ?_);refine gl_ (some 40) Try.func92 #[.int .i64 (wrap64 ((wrap64 ((wrap64 (x1_1+1))+1))+1))] ?_;(with_reducible refine (laws_markText.calls k1 (wrap64 ((wrap64 ((wrap64 (x1_1+1))+1))+1)) t346 _ A8.out).mono ?_);rintro e w17 ⟨rfl,hb⟩;refine ⟨_,rfl,?_⟩;refine as3_ (Kd.R_below (z0_ HO_0.out) hb) (Kept.below (S:=(fun k_=>P0_ k_)) (z14_ HK.out) hb) (below_step (z3_ HB.out) hb) ?_;clear HO_0 HK HB;intro HO_0 HK HB;(try clear hb);have p9:0≤(x5_1:Int):=of_decide_eq_true (z1_);have q9:(x5_1:Int)<((x0_1.length:Int):Int):=of_decide_eq_true (z1_);obtain ⟨ce9,hcl9,hM9,hcc9,hfr9⟩:=Kd.R_elem HO_0.out z91 (x5_1:Int) p9 q9;obtain rfl:=k91_openM hM9;have hx9_0:w17.cell? ⟨go5,(x5_1:Int).toNat*4,none⟩=some (.int .i64 ((rd_T91 y345 x5_1).f0.f0)):=hcc9 0 _ rfl;have hx9_1:w17.cell? ⟨go5,(x5_1:Int).toNat*4+1,none⟩=some (.int .i64 ((rd_T91 y345 x5_1).f0.f1)):=hcc9 1 _ rfl;have hx9_2:w17.cell? ⟨go5,(x5_1:Int).toNat*4+2,none⟩=some (.bool ((rd_T91 y345 x5_1).f1)):=hcc9 2 _ rfl;have hx9_3:w17.cell? ⟨go5,(x5_1:Int).toNat*4+3,none⟩=some (.string ((rd_T91 y345 x5_1).f2)):=hcc9 3 _ rfl;have hf9_0:w17.frozen? ⟨go5,(x5_1:Int).toNat*4,none⟩=false:=hfr9 0;have hf9_1:w17.frozen? ⟨go5,(x5_1:Int).toNat*4+1,none⟩=false:=hfr9 1;have hf9_2:w17.frozen? ⟨go5,(x5_1:Int).toNat*4+2,none⟩=false:=hfr9 2;have hf9_3:w17.frozen? ⟨go5,(x5_1:Int).toNat*4+3,none⟩=false:=hfr9 3;clear hcl9 hcc9 hfr9 hM9;replace p9:=eq_true p9;replace q9:=eq_true q9;have HX18:=Aside0.mk (show Kd.R k91 91 w17 w0.heap.size (fun k_=>(P0_ k_∨w.heap.size≤k_)) (.slice (some ⟨go5,0,none⟩) x0_1.length co10) y345 from (z0_ HO_0.out));obtain ⟨ce18,hcl18,hM18,hcc18,hfr18⟩:=Kd.R_elem HX18.out z91 (x5_1:Int) (of_decide_eq_true (z1_)) (z22_ HO_0.out);obtain rfl:=k91_openM hM18;have HP18:=Kd.R_seg HX18.out (x5_1:Int) (of_decide_eq_true (z1_)) (z22_ HO_0.out) (seg:=[.string t346]) (j:=3) hcl18 hcc18 (show 4≤4 from by decide) (x':=(⟨(⟨(rd_T91 y345 x5_1).f0.f0,(rd_T91 y345 x5_1).f0.f1⟩:S56),(rd_T91 y345 x5_1).f1,t346⟩:S91)) (k91_mkM _ _ _ (⟨(⟨(rd_T91 y345 x5_1).f0.f0,(rd_T91 y345 x5_1).f0.f1⟩:S56),(rd_T91 y345 x5_1).f1,t346⟩:S91) ) (fun _ hk=>hk);have hx18_3:=hcc18 3 _ rfl;(try simp only [show (k91).sz=4 from rfl,Nat.mul_one,Nat.add_zero] at hx18_3);have hf18_3:=hfr18 3;(try simp only [show (k91).sz=4 from rfl,Nat.mul_one,Nat.add_zero] at hf18_3);clear hcl18 hcc18 hfr18 hM18) | ((with_reducible refine gate_store (t:=9) (p:=42) rfl ?_);refine store_event (t:=9) (p:=42) (v:=?vo_w19) (w1:=(w17.setCell ⟨go5,(x5_1:Int).toNat*4+3,none⟩ (.string t346))) ?hg ?ho ?hn ?hr ?_;(case ho=>rfl);(case hg=>rfl);(case hn=>rfl);(case hr=>first | (go_simp;done) | (go_simp;rfl));intro w19 hw;have hg:w17.grownBy w19 (some go5):=(by rw [hw];exact HP18.2);have hp_:Kd.R k91 91 w19 w0.heap.size (fun k_=>(P0_ k_∨w.heap.size≤k_)) (.slice (some ⟨go5,0,none⟩) x0_1.length co10) y347:=(by rw [hw,Ny347.out];exact HP18.1);clear HP18;refine as3_ (hp_) ((by rw [hw];exact below_set (HB.out) GB5.out:Below w0.heap.size w0 w19)) (Kept.of_grown (S:=(fun k_=>P0_ k_)) hg (z14_ HK.out) (fun k_ e_=>(HO_0.out.1 k_ e_))) ?_;clear HO_0 HB HK;intro HO_0 HB HK;clear hg hw hp_))
     go_roundg k1
     case measure=>have:=HK1.out;omega
     case rel=>exact ⟨(y347),(wrap64 ((wrap64 ((wrap64 ((wrap64 (x1_1+1))+1))+1))+1)),(wrap64 (x5_1+1)),(z2_),(z2_),H',⟨by have:=HK1.out;omega⟩,⟨z0_ HO_0.out⟩,⟨z14_ HK.out⟩,⟨z3_ HB.out⟩⟩
    ·rw [if_neg c4] at H
     exact absurd H (by simp)
   ·rw [if_neg c3] at H
    have c3b0:decide (x5_1<(x0_1.length:Int))=false:=decide_eq_false c3
    clear c3
    simp only [Option.some.injEq,Prod.mk.injEq] at H
    obtain ⟨rfl,rfl⟩:=H
    obtain ⟨Ao20,co20,eo20⟩:=Kd.R_slice HO_0.out
    subst eo20
    go_wp2
    go_ret
    exact ⟨z8_,z0_ HO_0.out,z3_ HB.out,z14_ HK.out⟩


/-! ### laws_markSet: function 21 -/
def laws_markSet.f (k:Nat) (l0_0:List (S56)) (l0_1:List (S91)) (a1:Int):Option (Int × (List (S56)) × (List (S91))):=(laws_markMarkS.f k l0_0 a1).bind fun bt349=>((laws_markSibS.f k l0_1 bt349.1).bind fun bt351=>(some (bt351.1,bt349.2,bt351.2)))
theorem laws_markSet.mono:∀ a0 a1 a2 k,LeO (laws_markSet.f k a0 a1 a2) (laws_markSet.f (k+1) a0 a1 a2):=by
 intro a0 a1 a2 k
 unfold laws_markSet.f
 repeat' first
   | (with_reducible exact laws_markMarkS.mono _ _ _)
   | (with_reducible exact laws_markSibS.mono _ _ _)
   | (with_reducible exact LeO.refl _)
   | (with_reducible exact LeO.none _)
   | (with_reducible refine LeO.ite ?_ ?_)
   | (with_reducible refine LeO.bind ?_ (fun _=>?_))
   | exact laws_markMarkS.mono _ _ _
   | exact laws_markSibS.mono _ _ _
   | exact LeO.none _
   | refine LeO.ite ?_ ?_
   | refine LeO.bind ?_ (fun _=>?_)
set_option maxHeartbeats 8000000 in
set_option maxRecDepth 100000 in
theorem laws_markSet.calls (k:Nat) (P0_0_:Nat→Prop) (u9000_:Value) (l0_0:List (S56)) (P0_1_:Nat→Prop) (u9001_:Value) (l0_1:List (S91)) (a1:Int) (r1:Int) (r2:List (S56)) (r3:List (S91)) (w0 w:World) (hB:Below w0.heap.size w0 w) (ho0_0:Kd.R k56 56 w w0.heap.size P0_0_ u9000_ l0_0) (ho0_1:Kd.R k91 91 w w0.heap.size P0_1_ u9001_ l0_1) (h:laws_markSet.f k l0_0 l0_1 a1=some (r1,r2,r3)) :
  Calls Try.prog 21 #[.agg #[u9000_,u9001_],.int .i64 a1] w fun e w'=>e = .returned (.int .i64 r1)∧Kd.R k56 56 w' w0.heap.size (fun k_=>((P0_0_ k_∨P0_1_ k_)∨w.heap.size≤k_)) u9000_ r2∧Kd.R k91 91 w' w0.heap.size (fun k_=>((P0_0_ k_∨P0_1_ k_)∨w.heap.size≤k_)) u9001_ r3∧Below w0.heap.size w0 w'∧Kept w w' (fun k_=>P0_0_ k_∨P0_1_ k_):=by
 have hu40:=Try.underlying40
 have HO0_0:=Aside0.mk (show Kd.R k56 56 w w0.heap.size (fun k_=>((P0_0_ k_∨P0_1_ k_)∨w.heap.size≤k_)) u9000_ l0_0 from Kd.R_mono ho0_0 (fun k_ hk=>(.inl (.inl hk))))
 have HO0_1:=Aside0.mk (show Kd.R k91 91 w w0.heap.size (fun k_=>((P0_0_ k_∨P0_1_ k_)∨w.heap.size≤k_)) u9001_ l0_1 from Kd.R_mono ho0_1 (fun k_ hk=>(.inl (.inr hk))))
 have HK:=Aside0.mk (Kept.refl w (fun k_=>P0_0_ k_∨P0_1_ k_))
 have HW0:=Aside0.mk hB.size
 have HB:=Aside0.mk hB
 clear hB
 have H:((laws_markMarkS.f k l0_0 a1).bind fun bt349=>((laws_markSibS.f k l0_1 bt349.1).bind fun bt351=>(some (bt351.1,bt349.2,bt351.2))))=some (r1,r2,r3):=h
 clear h
 replace H:=Option.bind_eq_some_iff.mp H
 obtain ⟨⟨t349,t350⟩,A30,H⟩:=H
 replace H:((laws_markSibS.f k l0_1 t349).bind fun bt351=>(some (bt351.1,t350,bt351.2)))=some (r1,r2,r3):=H
 have A3:=Aside0.mk A30
 clear A30
 replace H:=Option.bind_eq_some_iff.mp H
 obtain ⟨⟨t351,t352⟩,A40,H⟩:=H
 replace H:(some (t351,t350,t352))=some (r1,r2,r3):=H
 have A4:=Aside0.mk A40
 clear A40
 simp only [Option.some.injEq,Prod.mk.injEq] at H
 obtain ⟨rfl,rfl,rfl⟩:=H
 obtain ⟨Ao5,co5,eo5⟩:=Kd.R_slice HO0_0.out
 subst eo5
 obtain ⟨Ao6,co6,eo6⟩:=Kd.R_slice HO0_1.out
 subst eo6
 go_enter Try.func21,Try.ntmps21
 go_wp2_with (first | ((with_reducible refine gd_ 2 ?_);refine be_ 2 #[.slice Ao5 l0_0.length co5,.slice Ao6 l0_1.length co6] 40 ?_;intro gb348 hg w7 hbox hb;refine as7_ (Kd.R_below (z0_ HO0_0.out) hb) (Kd.R_below (z0_ HO0_1.out) hb) (Kept.below (S:=(fun k_=>P0_0_ k_∨P0_1_ k_)) (z14_ HK.out) hb) (below_step (z3_ HB.out) hb) (hbox) ((by rw [hg];exact (by first | exact HK.out.1 | exact (show Kept w _ (fun k_=>P0_0_ k_∨P0_1_ k_) from by repeat (first | (with_reducible first | exact HK.out | apply Kept.alloc | apply Kept.drewN | apply Kept.drew) | exact HK.out)).1):w.heap.size≤gb348)) ((z7_ HB.out:w0.heap.size≤gb348)) ?_;clear HO0_0 HO0_1 HK HB;intro HO0_0 HO0_1 HK HB BK348 GW348 GE348;clear hb hbox hg;have ⟨hcz8_0,hcz8_1,hfz8_0,hfz8_1⟩:=cz2_ BK348.out) | ((with_reducible refine gc_ 34 ?_);refine gl_ (some 8) Try.func34 #[.slice Ao5 l0_0.length co5,.int .i64 a1] ?_;(with_reducible refine (laws_markMarkS.calls k (fun k_=>some k_=(.slice Ao5 l0_0.length co5:Value).ownBlock) (.slice Ao5 l0_0.length co5) l0_0 a1 t349 t350 w0 _ ?s1 ?s2 A3.out).mono ?_);(case s1=>repeat (first | (with_reducible first | exact HB.out | apply below_alloc | apply pw_below_drewN | apply below_drew1 | refine below_set ?_ GE348.out) | exact HB.out));(case s2=>exact Kd.R_tight rfl HO0_0.out);rintro e w9 ⟨rfl,hy0,hb,hkp⟩;refine ⟨_,rfl,?_⟩;refine as5_ (Kd.R_reok rfl hy0 (fun k_ e_=>HO0_0.out.1 k_ e_)) (Kd.R_mono (ok':=fun k_=>((P0_0_ k_∨P0_1_ k_)∨w.heap.size≤k_)) (Kd.R_keptB ((Kd.R_apart' HO0_1.out (Kd.R_typed HO0_0.out) (by decide))) hkp (fun k_ hk_ hs_=>(hk_.2) hs_)) (fun k_ hk_=>hk_.1.1)) (blk_kept (z5_ BK348.out) hkp (fun hs_=>(fun e_=>(Kd.R_ne HO0_0.out BK348.out (by decide)) e_) hs_)) (Kept.then_ (S:=(fun k_=>P0_0_ k_∨P0_1_ k_)) (z36_ HK.out GW348.out) hkp (fun k_ hs_=>(fun e_=>(HO0_0.out.1 k_ e_.symm)) hs_)) (hb) ?_;clear HO0_0 HO0_1 BK348 HK HB;intro HO0_0 HO0_1 BK348 HK HB;(try clear hb);(try clear hkp);(try clear hy0);have ⟨hcz10_0,hcz10_1,hfz10_0,hfz10_1⟩:=cz2_ BK348.out) | ((with_reducible refine gc_ 58 ?_);refine gl_ (some 12) Try.func58 #[.slice Ao6 l0_1.length co6,.int .i64 t349] ?_;(with_reducible refine (laws_markSibS.calls k (fun k_=>some k_=(.slice Ao6 l0_1.length co6:Value).ownBlock) (.slice Ao6 l0_1.length co6) l0_1 t349 t351 t352 w0 _ ?s1 ?s2 A4.out).mono ?_);(case s1=>repeat (first | (with_reducible first | exact HB.out | apply below_alloc | apply pw_below_drewN | apply below_drew1 | refine below_set ?_ GE348.out) | exact HB.out));(case s2=>exact Kd.R_tight rfl HO0_1.out);rintro e w11 ⟨rfl,hy0,hb,hkp⟩;refine ⟨_,rfl,?_⟩;refine as5_ (Kd.R_mono (ok':=fun k_=>((P0_0_ k_∨P0_1_ k_)∨w.heap.size≤k_)) (Kd.R_keptB ((Kd.R_apart' HO0_0.out (Kd.R_typed HO0_1.out) (by decide))) hkp (fun k_ hk_ hs_=>(hk_.2) hs_)) (fun k_ hk_=>hk_.1.1)) (Kd.R_reok rfl hy0 (fun k_ e_=>HO0_1.out.1 k_ e_)) (blk_kept (z5_ BK348.out) hkp (fun hs_=>(fun e_=>(Kd.R_ne HO0_1.out BK348.out (by decide)) e_) hs_)) (Kept.then_ (S:=(fun k_=>P0_0_ k_∨P0_1_ k_)) (z36_ HK.out GW348.out) hkp (fun k_ hs_=>(fun e_=>(HO0_1.out.1 k_ e_.symm)) hs_)) (hb) ?_;clear HO0_0 HO0_1 BK348 HK HB;intro HO0_0 HO0_1 BK348 HK HB;(try clear hb);(try clear hkp);(try clear hy0)))
 go_ret
 exact ⟨z8_,z0_ HO0_0.out,z0_ HO0_1.out,z6_ HB.out GE348.out,z36_ HK.out GW348.out⟩


/-! ### laws_eqSetOut: function 26 -/
def laws_eqSetOut.f (k:Nat) (l0_0:List (S56)) (l0_1:List (S91)) (a0_2:Int) (a0_3:Int) (a0_4:Int) (l1_0:List (S56)) (l1_1:List (S91)) (a1_2:Int) (a1_3:Int) (a1_4:Int):Option (Bool):=(laws_eqSet.f k l0_0 l0_1 l1_0 l1_1).bind fun t655=>(if t655=true then ((laws_eqMark.f a0_2 a0_3 a1_2 a1_3).bind fun t656=>(if t656=true then (if a0_4=a1_4 then (some true) else (none)) else (none))) else (none))
theorem laws_eqSetOut.mono:∀ a0 a1 a2 a3 a4 a5 a6 a7 a8 a9 k,LeO (laws_eqSetOut.f k a0 a1 a2 a3 a4 a5 a6 a7 a8 a9) (laws_eqSetOut.f (k+1) a0 a1 a2 a3 a4 a5 a6 a7 a8 a9):=by
 intro a0 a1 a2 a3 a4 a5 a6 a7 a8 a9 k
 unfold laws_eqSetOut.f
 repeat' first
   | (with_reducible exact laws_eqSet.mono _ _ _ _ _)
   | (with_reducible exact LeO.refl _)
   | (with_reducible exact LeO.none _)
   | (with_reducible refine LeO.ite ?_ ?_)
   | (with_reducible refine LeO.bind ?_ (fun _=>?_))
   | exact laws_eqSet.mono _ _ _ _ _
   | exact LeO.none _
   | refine LeO.ite ?_ ?_
   | refine LeO.bind ?_ (fun _=>?_)
set_option maxHeartbeats 8000000 in
set_option maxRecDepth 100000 in
theorem laws_eqSetOut.calls (k:Nat) (A0_0:Option Addr) (c0_0:Nat) (l0_0:List (S56)) (A0_1:Option Addr) (c0_1:Nat) (l0_1:List (S91)) (a0_2:Int) (a0_3:Int) (a0_4:Int) (A1_0:Option Addr) (c1_0:Nat) (l1_0:List (S56)) (A1_1:Option Addr) (c1_1:Nat) (l1_1:List (S91)) (a1_2:Int) (a1_3:Int) (a1_4:Int) (r:Bool) (w:World) (hr0_0:Kd.C k56 w A0_0 l0_0.length l0_0) (hc0_0:l0_0.length≤c0_0) (hr0_1:Kd.C k91 w A0_1 l0_1.length l0_1) (hc0_1:l0_1.length≤c0_1) (hr1_0:Kd.C k56 w A1_0 l1_0.length l1_0) (hc1_0:l1_0.length≤c1_0) (hr1_1:Kd.C k91 w A1_1 l1_1.length l1_1) (hc1_1:l1_1.length≤c1_1) (h:laws_eqSetOut.f k l0_0 l0_1 a0_2 a0_3 a0_4 l1_0 l1_1 a1_2 a1_3 a1_4=some r) :
  Calls Try.prog 26 #[.agg #[.slice A0_0 l0_0.length c0_0,.slice A0_1 l0_1.length c0_1,.int .i64 a0_2,.int .i64 a0_3,.int .i64 a0_4],.agg #[.slice A1_0 l1_0.length c1_0,.slice A1_1 l1_1.length c1_1,.int .i64 a1_2,.int .i64 a1_3,.int .i64 a1_4]] w fun e w'=>e = .returned (.bool r)∧Below w.heap.size w w':=by
 have hu58:=Try.underlying58
 have hu40:=Try.underlying40
 have hu56:=Try.underlying56
 have HR0_0:=Aside0.mk hr0_0
 have HC0_0:=Aside0.mk hc0_0
 clear hr0_0 hc0_0
 have HR0_1:=Aside0.mk hr0_1
 have HC0_1:=Aside0.mk hc0_1
 clear hr0_1 hc0_1
 have HR1_0:=Aside0.mk hr1_0
 have HC1_0:=Aside0.mk hc1_0
 clear hr1_0 hc1_0
 have HR1_1:=Aside0.mk hr1_1
 have HC1_1:=Aside0.mk hc1_1
 clear hr1_1 hc1_1
 have HB:=Aside0.mk (Below.refl w.heap.size w)
 have H:((laws_eqSet.f k l0_0 l0_1 l1_0 l1_1).bind fun t655=>(if t655=true then ((laws_eqMark.f a0_2 a0_3 a1_2 a1_3).bind fun t656=>(if t656=true then (if a0_4=a1_4 then (some true) else (none)) else (none))) else (none)))=some r:=h
 clear h
 replace H:=Option.bind_eq_some_iff.mp H
 obtain ⟨t655,A30,H⟩:=H
 replace H:(if t655=true then ((laws_eqMark.f a0_2 a0_3 a1_2 a1_3).bind fun t656=>(if t656=true then (if a0_4=a1_4 then (some true) else (none)) else (none))) else (none))=some r:=H
 have A3:=Aside0.mk A30
 clear A30
 by_cases c4:t655=true
 ·subst c4
  have H1:((laws_eqMark.f a0_2 a0_3 a1_2 a1_3).bind fun t656=>(if t656=true then (if a0_4=a1_4 then (some true) else (none)) else (none)))=some r:=by rw [if_pos rfl] at H;exact H
  clear H
  have H:=H1
  clear H1
  replace H:=Option.bind_eq_some_iff.mp H
  obtain ⟨t656,A50,H⟩:=H
  replace H:(if t656=true then (if a0_4=a1_4 then (some true) else (none)) else (none))=some r:=H
  have A5:=Aside0.mk A50
  clear A50
  by_cases c6:t656=true
  ·subst c6
   have H1:(if a0_4=a1_4 then (some true) else (none))=some r:=by rw [if_pos rfl] at H;exact H
   clear H
   have H:=H1
   clear H1
   by_cases c7:a0_4=a1_4
   ·rw [if_pos c7] at H
    have c7b0:(a0_4 == a1_4)=true:=beq_iff_eq.mpr c7
    have c7b1:(a0_4 != a1_4)=false:=bne_eq_false_iff_eq.mpr c7
    clear c7
    obtain rfl:=Option.some.inj H
    go_enter Try.func26,Try.ntmps26
    go_wp2_with (first | ((with_reducible refine gd_ 2 ?_);refine be_ 2 #[.slice A0_0 l0_0.length c0_0,.slice A0_1 l0_1.length c0_1,.int .i64 a0_2,.int .i64 a0_3,.int .i64 a0_4] 58 ?_;intro gb653 hg w8 hbox hb;refine as4_ (below_step (z3_ HB.out) hb) (hbox) ((z7_ HB.out:w.heap.size≤gb653)) ((z7_ HB.out:w.heap.size≤gb653)) ?_;clear HB;intro HB BK653 GW653 GE653;clear hb hbox hg) | ((with_reducible refine gd_ 3 ?_);refine be_ 3 #[.slice A1_0 l1_0.length c1_0,.slice A1_1 l1_1.length c1_1,.int .i64 a1_2,.int .i64 a1_3,.int .i64 a1_4] 58 ?_;intro gb654 hg w9 hbox hb;refine as7_ (blkB_ BK653.out hb) (below_step (z6_ HB.out GE653.out) hb) (hbox) ((z9_ HB.out GE653.out:w.heap.size≤gb654)) ((z9_ HB.out GE653.out:w.heap.size≤gb654)) (neL_ BK653.out hg) (neG_ BK653.out hg) ?_;clear BK653 HB;intro BK653 HB BK654 GW654 GE654 NB653_654 NB654_653;clear hb hbox hg;have hnb10:=NB653_654.out;have hnc10:=NB654_653.out;have ⟨hcz11_0,hcz11_1,hcz11_2,hcz11_3,hcz11_4,hfz11_0,hfz11_1,hfz11_2,hfz11_3,hfz11_4⟩:=cz5_ BK653.out;have ⟨hcz12_0,hcz12_1,hcz12_2,hcz12_3,hcz12_4,hfz12_0,hfz12_1,hfz12_2,hfz12_3,hfz12_4⟩:=cz5_ BK654.out) | ((with_reducible refine gc_ 19 ?_);refine gl_ (some 9) Try.func19 #[.agg #[.slice A0_0 l0_0.length c0_0,.slice A0_1 l0_1.length c0_1],.agg #[.slice A1_0 l1_0.length c1_0,.slice A1_1 l1_1.length c1_1]] ?_;(with_reducible refine (laws_eqSet.calls k _ _ l0_0 _ _ l0_1 _ _ l1_0 _ _ l1_1 true _ ?s1 ?s2 ?s3 ?s4 ?s5 ?s6 ?s7 ?s8 A3.out).mono ?_);(case s1=>repeat (first | exact (Kd.C_below HR0_0.out HB.out) | (with_reducible refine Kd.C_alloc ?_ _) | (with_reducible refine Kd.C_drewN ?_ _) | (with_reducible refine Kd.C_drew ?_)));(case s2=>exact HC0_0.out);(case s3=>repeat (first | exact (Kd.C_below HR0_1.out HB.out) | (with_reducible refine Kd.C_alloc ?_ _) | (with_reducible refine Kd.C_drewN ?_ _) | (with_reducible refine Kd.C_drew ?_)));(case s4=>exact HC0_1.out);(case s5=>repeat (first | exact (Kd.C_below HR1_0.out HB.out) | (with_reducible refine Kd.C_alloc ?_ _) | (with_reducible refine Kd.C_drewN ?_ _) | (with_reducible refine Kd.C_drew ?_)));(case s6=>exact HC1_0.out);(case s7=>repeat (first | exact (Kd.C_below HR1_1.out HB.out) | (with_reducible refine Kd.C_alloc ?_ _) | (with_reducible refine Kd.C_drewN ?_ _) | (with_reducible refine Kd.C_drew ?_)));(case s8=>exact HC1_1.out);rintro e w13 ⟨rfl,hb⟩;refine ⟨_,rfl,?_⟩;refine as3_ (blkB_ BK653.out hb) (blkB_ BK654.out hb) (below_step (z4_ HB.out GE653.out GE654.out) hb) ?_;clear BK653 BK654 HB;intro BK653 BK654 HB;(try clear hb);have ⟨hcz14_0,hcz14_1,hcz14_2,hcz14_3,hcz14_4,hfz14_0,hfz14_1,hfz14_2,hfz14_3,hfz14_4⟩:=cz5_ BK653.out;have ⟨hcz15_0,hcz15_1,hcz15_2,hcz15_3,hcz15_4,hfz15_0,hfz15_1,hfz15_2,hfz15_3,hfz15_4⟩:=cz5_ BK654.out) | ((with_reducible refine gc_ 66 ?_);refine gl_ (some 15) Try.func66 #[.agg #[.int .i64 a0_2,.int .i64 a0_3],.agg #[.int .i64 a1_2,.int .i64 a1_3]] ?_;(with_reducible refine (laws_eqMark.calls a0_2 a0_3 a1_2 a1_3 true _ A5.out).mono ?_);rintro e w16 ⟨rfl,hb⟩;refine ⟨_,rfl,?_⟩;refine as3_ (blkB_ BK653.out hb) (blkB_ BK654.out hb) (below_step (z4_ HB.out GE653.out GE654.out) hb) ?_;clear BK653 BK654 HB;intro BK653 BK654 HB;(try clear hb);have ⟨hcz17_0,hcz17_1,hcz17_2,hcz17_3,hcz17_4,hfz17_0,hfz17_1,hfz17_2,hfz17_3,hfz17_4⟩:=cz5_ BK653.out;have ⟨hcz18_0,hcz18_1,hcz18_2,hcz18_3,hcz18_4,hfz18_0,hfz18_1,hfz18_2,hfz18_3,hfz18_4⟩:=cz5_ BK654.out))
    go_ret
    exact ⟨z8_,z4_ HB.out GE653.out GE654.out⟩
   ·rw [if_neg c7] at H
    exact absurd H (by simp)
  ·replace c6:=Bool.eq_false_iff.mpr c6
   subst c6
   have H1:(none)=some r:=by rw [if_neg (show ¬ (false=true) by decide)] at H;exact H
   clear H
   have H:=H1
   clear H1
   exact absurd H (by simp)
 ·replace c4:=Bool.eq_false_iff.mpr c4
  subst c4
  have H1:(none)=some r:=by rw [if_neg (show ¬ (false=true) by decide)] at H;exact H
  clear H
  have H:=H1
  clear H1
  exact absurd H (by simp)


/-! ### laws_markSetOut: function 27 -/
def laws_markSetOut.f (k:Nat) (l0_0:List (S56)) (l0_1:List (S91)) (a0_2:Int) (a0_3:Int) (a0_4:Int) (a1:Int):Option (Int × (List (S56)) × (List (S91))):=(laws_markSet.f k l0_0 l0_1 a1).bind fun bt658=>(some (bt658.1,bt658.2.1,bt658.2.2))
theorem laws_markSetOut.mono:∀ a0 a1 a2 a3 a4 a5 k,LeO (laws_markSetOut.f k a0 a1 a2 a3 a4 a5) (laws_markSetOut.f (k+1) a0 a1 a2 a3 a4 a5):=by
 intro a0 a1 a2 a3 a4 a5 k
 unfold laws_markSetOut.f
 repeat' first
   | (with_reducible exact laws_markSet.mono _ _ _ _)
   | (with_reducible exact LeO.refl _)
   | (with_reducible exact LeO.none _)
   | (with_reducible refine LeO.ite ?_ ?_)
   | (with_reducible refine LeO.bind ?_ (fun _=>?_))
   | exact laws_markSet.mono _ _ _ _
   | exact LeO.none _
   | refine LeO.ite ?_ ?_
   | refine LeO.bind ?_ (fun _=>?_)
set_option maxHeartbeats 8000000 in
set_option maxRecDepth 100000 in
theorem laws_markSetOut.calls (k:Nat) (P0_0_:Nat→Prop) (u9000_:Value) (l0_0:List (S56)) (P0_1_:Nat→Prop) (u9001_:Value) (l0_1:List (S91)) (a0_2:Int) (a0_3:Int) (a0_4:Int) (a1:Int) (r1:Int) (r2:List (S56)) (r3:List (S91)) (w0 w:World) (hB:Below w0.heap.size w0 w) (ho0_0:Kd.R k56 56 w w0.heap.size P0_0_ u9000_ l0_0) (ho0_1:Kd.R k91 91 w w0.heap.size P0_1_ u9001_ l0_1) (h:laws_markSetOut.f k l0_0 l0_1 a0_2 a0_3 a0_4 a1=some (r1,r2,r3)) :
  Calls Try.prog 27 #[.agg #[u9000_,u9001_,.int .i64 a0_2,.int .i64 a0_3,.int .i64 a0_4],.int .i64 a1] w fun e w'=>e = .returned (.int .i64 r1)∧Kd.R k56 56 w' w0.heap.size (fun k_=>((P0_0_ k_∨P0_1_ k_)∨w.heap.size≤k_)) u9000_ r2∧Kd.R k91 91 w' w0.heap.size (fun k_=>((P0_0_ k_∨P0_1_ k_)∨w.heap.size≤k_)) u9001_ r3∧Below w0.heap.size w0 w'∧Kept w w' (fun k_=>P0_0_ k_∨P0_1_ k_):=by
 have hu58:=Try.underlying58
 have hu40:=Try.underlying40
 have HO0_0:=Aside0.mk (show Kd.R k56 56 w w0.heap.size (fun k_=>((P0_0_ k_∨P0_1_ k_)∨w.heap.size≤k_)) u9000_ l0_0 from Kd.R_mono ho0_0 (fun k_ hk=>(.inl (.inl hk))))
 have HO0_1:=Aside0.mk (show Kd.R k91 91 w w0.heap.size (fun k_=>((P0_0_ k_∨P0_1_ k_)∨w.heap.size≤k_)) u9001_ l0_1 from Kd.R_mono ho0_1 (fun k_ hk=>(.inl (.inr hk))))
 have HK:=Aside0.mk (Kept.refl w (fun k_=>P0_0_ k_∨P0_1_ k_))
 have HW0:=Aside0.mk hB.size
 have HB:=Aside0.mk hB
 clear hB
 have H:((laws_markSet.f k l0_0 l0_1 a1).bind fun bt658=>(some (bt658.1,bt658.2.1,bt658.2.2)))=some (r1,r2,r3):=h
 clear h
 replace H:=Option.bind_eq_some_iff.mp H
 obtain ⟨⟨t658,t659,t660⟩,A30,H⟩:=H
 replace H:(some (t658,t659,t660))=some (r1,r2,r3):=H
 have A3:=Aside0.mk A30
 clear A30
 simp only [Option.some.injEq,Prod.mk.injEq] at H
 obtain ⟨rfl,rfl,rfl⟩:=H
 obtain ⟨Ao4,co4,eo4⟩:=Kd.R_slice HO0_0.out
 subst eo4
 obtain ⟨Ao5,co5,eo5⟩:=Kd.R_slice HO0_1.out
 subst eo5
 go_enter Try.func27,Try.ntmps27
 go_wp2_with (first | ((with_reducible refine gd_ 2 ?_);refine be_ 2 #[.slice Ao4 l0_0.length co4,.slice Ao5 l0_1.length co5,.int .i64 a0_2,.int .i64 a0_3,.int .i64 a0_4] 58 ?_;intro gb657 hg w6 hbox hb;refine as7_ (Kd.R_below (z0_ HO0_0.out) hb) (Kd.R_below (z0_ HO0_1.out) hb) (Kept.below (S:=(fun k_=>P0_0_ k_∨P0_1_ k_)) (z14_ HK.out) hb) (below_step (z3_ HB.out) hb) (hbox) ((by rw [hg];exact (by first | exact HK.out.1 | exact (show Kept w _ (fun k_=>P0_0_ k_∨P0_1_ k_) from by repeat (first | (with_reducible first | exact HK.out | apply Kept.alloc | apply Kept.drewN | apply Kept.drew) | exact HK.out)).1):w.heap.size≤gb657)) ((z7_ HB.out:w0.heap.size≤gb657)) ?_;clear HO0_0 HO0_1 HK HB;intro HO0_0 HO0_1 HK HB BK657 GW657 GE657;clear hb hbox hg;have ⟨hcz7_0,hcz7_1,hcz7_2,hcz7_3,hcz7_4,hfz7_0,hfz7_1,hfz7_2,hfz7_3,hfz7_4⟩:=cz5_ BK657.out) | ((with_reducible refine gc_ 21 ?_);refine gl_ (some 8) Try.func21 #[.agg #[.slice Ao4 l0_0.length co4,.slice Ao5 l0_1.length co5],.int .i64 a1] ?_;(with_reducible refine (laws_markSet.calls k (fun k_=>some k_=(.slice Ao4 l0_0.length co4:Value).ownBlock) (.slice Ao4 l0_0.length co4) l0_0 (fun k_=>some k_=(.slice Ao5 l0_1.length co5:Value).ownBlock) (.slice Ao5 l0_1.length co5) l0_1 a1 t658 t659 t660 w0 _ ?s1 ?s2 ?s3 A3.out).mono ?_);(case s1=>repeat (first | (with_reducible first | exact HB.out | apply below_alloc | apply pw_below_drewN | apply below_drew1 | refine below_set ?_ GE657.out) | exact HB.out));(case s2=>exact Kd.R_tight rfl HO0_0.out);(case s3=>exact Kd.R_tight rfl HO0_1.out);rintro e w8 ⟨rfl,hy0,hy1,hb,hkp⟩;refine ⟨_,rfl,?_⟩;refine as5_ (Kd.R_reok rfl hy0 (fun k_ e_=>HO0_0.out.1 k_ e_)) (Kd.R_reok rfl hy1 (fun k_ e_=>HO0_1.out.1 k_ e_)) (blk_kept (z5_ BK657.out) hkp (fun hs_=>Or.elim hs_ (fun e_=>(fun e_=>(Kd.R_ne HO0_0.out BK657.out (by decide)) e_) e_) (fun e_=>(fun e_=>(Kd.R_ne HO0_1.out BK657.out (by decide)) e_) e_))) (Kept.then_ (S:=(fun k_=>P0_0_ k_∨P0_1_ k_)) (z36_ HK.out GW657.out) hkp (fun k_ hs_=>Or.elim hs_ (fun e_=>(fun e_=>(HO0_0.out.1 k_ e_.symm)) e_) (fun e_=>(fun e_=>(HO0_1.out.1 k_ e_.symm)) e_))) (hb) ?_;clear HO0_0 HO0_1 BK657 HK HB;intro HO0_0 HO0_1 BK657 HK HB;(try clear hb);(try clear hkp);(try clear hy0);(try clear hy1)))
 go_ret
 exact ⟨z8_,z0_ HO0_0.out,z0_ HO0_1.out,z6_ HB.out GE657.out,z36_ HK.out GW657.out⟩


/-! ### laws_heldMarkS: function 99 -/
def laws_heldMarkS.l0:Nat→List (S56)→Int→Int→Option (Int)
 | 0,_,_,_=>none
 | k+1,x0,x1,x5=>if x5<(x0.length:Int) then (if 0≤x5 then (if ((rd_T56 x0 x5).f0)=x1 then (if ((rd_T56 x0 x5).f1)=(wrap64 (x1+1)) then (laws_heldMarkS.l0 k x0 (wrap64 ((wrap64 (x1+1))+1)) (wrap64 (x5+1))) else (none)) else (none)) else (none)) else (some x1)
def laws_heldMarkS.f (k:Nat) (l0:List (S56)) (a1:Int):Option (Int):=laws_heldMarkS.l0 k l0 a1 0
theorem laws_heldMarkS.mono_l:∀ k,(∀ y0 y1 y2,LeO (laws_heldMarkS.l0 k y0 y1 y2) (laws_heldMarkS.l0 (k+1) y0 y1 y2))
 | 0=>fun _ _ _ r h=>by simp [laws_heldMarkS.l0] at h
 | k+1=>by
  have ih0:=laws_heldMarkS.mono_l k
  ·intro y0 y1 y2
   unfold laws_heldMarkS.l0
   repeat' first
   | (with_reducible exact ih0 _ _ _)
   | (with_reducible exact LeO.refl _)
   | (with_reducible exact LeO.none _)
   | (with_reducible refine LeO.ite ?_ ?_)
   | (with_reducible refine LeO.bind ?_ (fun _=>?_))
   | exact ih0 _ _ _
   | exact LeO.none _
   | refine LeO.ite ?_ ?_
   | refine LeO.bind ?_ (fun _=>?_)
theorem laws_heldMarkS.mono:∀ a0 a1 k,LeO (laws_heldMarkS.f k a0 a1) (laws_heldMarkS.f (k+1) a0 a1):=by
 intro a0 a1 k
 have ih0:=laws_heldMarkS.mono_l k
 unfold laws_heldMarkS.f
 repeat' first
   | (with_reducible exact ih0 _ _ _)
   | (with_reducible exact LeO.refl _)
   | (with_reducible exact LeO.none _)
   | (with_reducible refine LeO.ite ?_ ?_)
   | (with_reducible refine LeO.bind ?_ (fun _=>?_))
   | exact ih0 _ _ _
   | exact LeO.none _
   | refine LeO.ite ?_ ?_
   | refine LeO.bind ?_ (fun _=>?_)
set_option maxHeartbeats 8000000 in
set_option maxRecDepth 100000 in
theorem laws_heldMarkS.calls (k:Nat) (A0:Option Addr) (c0:Nat) (l0:List (S56)) (a1:Int) (r:Int) (w:World) (hr0:Kd.C k56 w A0 l0.length l0) (hc0:l0.length≤c0) (h:laws_heldMarkS.f k l0 a1=some r) :
  Calls Try.prog 99 #[.slice A0 l0.length c0,.int .i64 a1] w fun e w'=>e = .returned (.int .i64 r)∧Drawn0 w w':=by
 have HR0:=Aside0.mk hr0
 have HC0:=Aside0.mk hc0
 clear hr0 hc0
 have H:(laws_heldMarkS.l0 k l0 a1 0)=some r:=h
 clear h
 have H':=Aside0.mk H
 clear H
 go_enter Try.func99,Try.ntmps99
 go_wp2
 go_loopg [1,5] k (fun kq v1 v5 w'=>∃ (x1_1:Int) (x5_1:Int),v1 = .int .i64 x1_1∧v5 = .int .i64 x5_1∧Aside0 (laws_heldMarkS.l0 kq l0 x1_1 x5_1=some r)∧Aside0 (kq≤k)∧Drawn0 w w')
 case atStart=>exact ⟨(a1),(0),(z2_),(z2_),H',⟨Nat.le_refl _⟩,z11_⟩
 case round =>
  clear H'
  try clear p2
  obtain ⟨x1_1,x5_1,rfl,rfl,HA,HK1,⟨m1,rfl⟩⟩:=hrel
  cases gk with
  | zero=>exact absurd HA.out (by simp [laws_heldMarkS.l0])
  | succ k1 =>
   have H:=HA.out
   clear HA
   simp only [laws_heldMarkS.l0] at H
   by_cases c3:x5_1<(l0.length:Int)
   ·rw [if_pos c3] at H
    have c3b0:decide (x5_1<(l0.length:Int))=true:=decide_eq_true c3
    clear c3
    by_cases c4:0≤x5_1
    ·rw [if_pos c4] at H
     have c4b0:decide (0≤x5_1)=true:=decide_eq_true c4
     clear c4
     by_cases c5:((rd_T56 l0 x5_1).f0)=x1_1
     ·rw [if_pos c5] at H
      have c5b0:(((rd_T56 l0 x5_1).f0) == x1_1)=true:=beq_iff_eq.mpr c5
      have c5b1:(((rd_T56 l0 x5_1).f0) != x1_1)=false:=bne_eq_false_iff_eq.mpr c5
      clear c5
      by_cases c6:((rd_T56 l0 x5_1).f1)=(wrap64 (x1_1+1))
      ·rw [if_pos c6] at H
       have c6b0:(((rd_T56 l0 x5_1).f1) == (wrap64 (x1_1+1)))=true:=beq_iff_eq.mpr c6
       have c6b1:(((rd_T56 l0 x5_1).f1) != (wrap64 (x1_1+1)))=false:=bne_eq_false_iff_eq.mpr c6
       clear c6
       have H':=Aside0.mk H
       clear H
       have p361:0≤(x5_1:Int):=of_decide_eq_true (z1_)
       have q361:x5_1<(l0.length:Int):=of_decide_eq_true (z1_)
       obtain ⟨ad361,e361,hx361_0,hx361_1⟩:=at_T56 HR0.out x5_1 p361 q361
       cases e361
       replace p361:=eq_true p361
       replace q361:=eq_true q361
       have p362:0≤(x5_1:Int):=of_decide_eq_true (z1_)
       have q362:x5_1<(l0.length:Int):=of_decide_eq_true (z1_)
       obtain ⟨ad362,e362,hx362_0,hx362_1⟩:=at_T56 HR0.out x5_1 p362 q362
       obtain rfl:ad361=ad362:=(by injection e362)
       replace p362:=eq_true p362
       replace q362:=eq_true q362
       go_wp2
       go_roundg k1
       case measure=>have:=HK1.out;omega
       case rel=>exact ⟨(wrap64 ((wrap64 (x1_1+1))+1)),(wrap64 (x5_1+1)),(z2_),(z2_),H',⟨by have:=HK1.out;omega⟩,z11_⟩
      ·rw [if_neg c6] at H
       exact absurd H (by simp)
     ·rw [if_neg c5] at H
      exact absurd H (by simp)
    ·rw [if_neg c4] at H
     exact absurd H (by simp)
   ·rw [if_neg c3] at H
    have c3b0:decide (x5_1<(l0.length:Int))=false:=decide_eq_false c3
    clear c3
    obtain rfl:=Option.some.inj H
    go_wp2
    go_ret
    exact ⟨z2_,z11_⟩


/-! ### laws_heldSibS: function 100 -/
def laws_heldSibS.l0:Nat→List (S91)→Int→Int→Option (Int)
 | 0,_,_,_=>none
 | k+1,x0,x1,x5=>if x5<(x0.length:Int) then (if 0≤x5 then (if ((rd_T91 x0 x5).f0.f0)=x1 then (if ((rd_T91 x0 x5).f0.f1)=(wrap64 (x1+1)) then (if (((rd_T91 x0 x5).f1) != ((Int.tmod (wrap64 ((wrap64 (x1+1))+1)) 3) == 0))=true then (none) else ((laws_markText.f k (wrap64 ((wrap64 ((wrap64 (x1+1))+1))+1))).bind fun t367=>(if ((rd_T91 x0 x5).f2).toList=t367.toList then (laws_heldSibS.l0 k x0 (wrap64 ((wrap64 ((wrap64 ((wrap64 (x1+1))+1))+1))+1)) (wrap64 (x5+1))) else (none)))) else (none)) else (none)) else (none)) else (some x1)
def laws_heldSibS.f (k:Nat) (l0:List (S91)) (a1:Int):Option (Int):=laws_heldSibS.l0 k l0 a1 0
theorem laws_heldSibS.mono_l:∀ k,(∀ y0 y1 y2,LeO (laws_heldSibS.l0 k y0 y1 y2) (laws_heldSibS.l0 (k+1) y0 y1 y2))
 | 0=>fun _ _ _ r h=>by simp [laws_heldSibS.l0] at h
 | k+1=>by
  have ih0:=laws_heldSibS.mono_l k
  ·intro y0 y1 y2
   unfold laws_heldSibS.l0
   repeat' first
   | (with_reducible exact ih0 _ _ _)
   | (with_reducible exact laws_markText.mono _ _)
   | (with_reducible exact LeO.refl _)
   | (with_reducible exact LeO.none _)
   | (with_reducible refine LeO.ite ?_ ?_)
   | (with_reducible refine LeO.bind ?_ (fun _=>?_))
   | exact ih0 _ _ _
   | exact laws_markText.mono _ _
   | exact LeO.none _
   | refine LeO.ite ?_ ?_
   | refine LeO.bind ?_ (fun _=>?_)
theorem laws_heldSibS.mono:∀ a0 a1 k,LeO (laws_heldSibS.f k a0 a1) (laws_heldSibS.f (k+1) a0 a1):=by
 intro a0 a1 k
 have ih0:=laws_heldSibS.mono_l k
 unfold laws_heldSibS.f
 repeat' first
   | (with_reducible exact ih0 _ _ _)
   | (with_reducible exact laws_markText.mono _ _)
   | (with_reducible exact LeO.refl _)
   | (with_reducible exact LeO.none _)
   | (with_reducible refine LeO.ite ?_ ?_)
   | (with_reducible refine LeO.bind ?_ (fun _=>?_))
   | exact ih0 _ _ _
   | exact laws_markText.mono _ _
   | exact LeO.none _
   | refine LeO.ite ?_ ?_
   | refine LeO.bind ?_ (fun _=>?_)
def laws_heldSibS.T13:Bool × List (List Nat × List Nat):=(true,[([],[]),([],[]),([0,1],[0,1]),([2],[2]),([3],[3]),([],[]),([5],[5]),([4,6],[4,6])])
def laws_heldSibS.B13:List Nat:=[0,0,3,7,15,0,32,127]
theorem laws_heldSibS.tab13:rtab .any (opsOf Try.f100 13)=laws_heldSibS.T13:=by kernel_rfl
theorem laws_heldSibS.bits13:waitsOk laws_heldSibS.T13.2 laws_heldSibS.B13=true:=by kernel_rfl
set_option maxHeartbeats 8000000 in
set_option maxRecDepth 100000 in
theorem laws_heldSibS.calls (k:Nat) (A0:Option Addr) (c0:Nat) (l0:List (S91)) (a1:Int) (r:Int) (w:World) (hr0:Kd.C k91 w A0 l0.length l0) (hc0:l0.length≤c0) (h:laws_heldSibS.f k l0 a1=some r) :
  Calls Try.prog 100 #[.slice A0 l0.length c0,.int .i64 a1] w fun e w'=>e = .returned (.int .i64 r)∧Below w.heap.size w w':=by
 have HR0:=Aside0.mk hr0
 have HC0:=Aside0.mk hc0
 clear hr0 hc0
 have HB:=Aside0.mk (Below.refl w.heap.size w)
 have H:(laws_heldSibS.l0 k l0 a1 0)=some r:=h
 clear h
 have H':=Aside0.mk H
 clear H
 go_enter Try.func100,Try.ntmps100
 go_wp2
 go_loopg [1,5] k (fun kq v1 v5 w'=>∃ (x1_1:Int) (x5_1:Int),v1 = .int .i64 x1_1∧v5 = .int .i64 x5_1∧Aside0 (laws_heldSibS.l0 kq l0 x1_1 x5_1=some r)∧Aside0 (kq≤k)∧Aside0 (Below w.heap.size w w'))
 case atStart=>exact ⟨(a1),(0),(z2_),(z2_),H',⟨Nat.le_refl _⟩,⟨z3_ HB.out⟩⟩
 case round =>
  clear H'
  try clear c1
  try clear p2
  obtain ⟨x1_1,x5_1,rfl,rfl,HA,HK1,HB⟩:=hrel
  cases gk with
  | zero=>exact absurd HA.out (by simp [laws_heldSibS.l0])
  | succ k1 =>
   have H:=HA.out
   clear HA
   simp only [laws_heldSibS.l0] at H
   by_cases c3:x5_1<(l0.length:Int)
   ·rw [if_pos c3] at H
    have c3b0:decide (x5_1<(l0.length:Int))=true:=decide_eq_true c3
    clear c3
    by_cases c4:0≤x5_1
    ·rw [if_pos c4] at H
     have c4b0:decide (0≤x5_1)=true:=decide_eq_true c4
     clear c4
     by_cases c5:((rd_T91 l0 x5_1).f0.f0)=x1_1
     ·rw [if_pos c5] at H
      have c5b0:(((rd_T91 l0 x5_1).f0.f0) == x1_1)=true:=beq_iff_eq.mpr c5
      have c5b1:(((rd_T91 l0 x5_1).f0.f0) != x1_1)=false:=bne_eq_false_iff_eq.mpr c5
      clear c5
      by_cases c6:((rd_T91 l0 x5_1).f0.f1)=(wrap64 (x1_1+1))
      ·rw [if_pos c6] at H
       have c6b0:(((rd_T91 l0 x5_1).f0.f1) == (wrap64 (x1_1+1)))=true:=beq_iff_eq.mpr c6
       have c6b1:(((rd_T91 l0 x5_1).f0.f1) != (wrap64 (x1_1+1)))=false:=bne_eq_false_iff_eq.mpr c6
       clear c6
       by_cases c7:(((rd_T91 l0 x5_1).f1) != ((Int.tmod (wrap64 ((wrap64 (x1_1+1))+1)) 3) == 0))=true
       ·rw [if_pos c7] at H
        exact absurd H (by simp)
       ·rw [if_neg c7] at H
        have c7b0:(((rd_T91 l0 x5_1).f1) != ((Int.tmod (wrap64 ((wrap64 (x1_1+1))+1)) 3) == 0))=false:=by simpa using c7
        (try (have c7b1:decide (((rd_T91 l0 x5_1).f1)=((Int.tmod (wrap64 ((wrap64 (x1_1+1))+1)) 3) == 0))=true:=by simpa using c7))
        (try (have c7b2:(((rd_T91 l0 x5_1).f1) == ((Int.tmod (wrap64 ((wrap64 (x1_1+1))+1)) 3) == 0))=true:=by simpa using c7))
        clear c7
        replace H:=Option.bind_eq_some_iff.mp H
        obtain ⟨t367,A80,H⟩:=H
        replace H:(if ((rd_T91 l0 x5_1).f2).toList=t367.toList then (laws_heldSibS.l0 k1 l0 (wrap64 ((wrap64 ((wrap64 ((wrap64 (x1_1+1))+1))+1))+1)) (wrap64 (x5_1+1))) else (none))=some r:=H
        have A8:=Aside0.mk A80
        clear A80
        by_cases c9:((rd_T91 l0 x5_1).f2).toList=t367.toList
        ·rw [if_pos c9] at H
         have c9b0:(((rd_T91 l0 x5_1).f2).toList == t367.toList)=true:=beq_iff_eq.mpr c9
         have c9b1:(((rd_T91 l0 x5_1).f2).toList != t367.toList)=false:=bne_eq_false_iff_eq.mpr c9
         clear c9
         have H':=Aside0.mk H
         clear H
         have p363:0≤(x5_1:Int):=of_decide_eq_true (z1_)
         have q363:x5_1<(l0.length:Int):=of_decide_eq_true (z1_)
         obtain ⟨ad363,e363,hx363_0,hx363_1,hx363_2,hx363_3⟩:=at_T91 HR0.out x5_1 p363 q363
         cases e363
         replace hx363_0:=(HB.out.cell (World.block_lt_of_cell? w _ hx363_0)).trans hx363_0
         replace hx363_1:=(HB.out.cell (World.block_lt_of_cell? w _ hx363_1)).trans hx363_1
         replace hx363_2:=(HB.out.cell (World.block_lt_of_cell? w _ hx363_2)).trans hx363_2
         replace hx363_3:=(HB.out.cell (World.block_lt_of_cell? w _ hx363_3)).trans hx363_3
         replace p363:=eq_true p363
         replace q363:=eq_true q363
         have p364:0≤(x5_1:Int):=of_decide_eq_true (z1_)
         have q364:x5_1<(l0.length:Int):=of_decide_eq_true (z1_)
         obtain ⟨ad364,e364,hx364_0,hx364_1,hx364_2,hx364_3⟩:=at_T91 HR0.out x5_1 p364 q364
         obtain rfl:ad363=ad364:=(by injection e364)
         replace hx364_0:=(HB.out.cell (World.block_lt_of_cell? w _ hx364_0)).trans hx364_0
         replace hx364_1:=(HB.out.cell (World.block_lt_of_cell? w _ hx364_1)).trans hx364_1
         replace hx364_2:=(HB.out.cell (World.block_lt_of_cell? w _ hx364_2)).trans hx364_2
         replace hx364_3:=(HB.out.cell (World.block_lt_of_cell? w _ hx364_3)).trans hx364_3
         replace p364:=eq_true p364
         replace q364:=eq_true q364
         have p365:0≤(x5_1:Int):=of_decide_eq_true (z1_)
         have q365:x5_1<(l0.length:Int):=of_decide_eq_true (z1_)
         obtain ⟨ad365,e365,hx365_0,hx365_1,hx365_2,hx365_3⟩:=at_T91 HR0.out x5_1 p365 q365
         obtain rfl:ad363=ad365:=(by injection e365)
         replace hx365_0:=(HB.out.cell (World.block_lt_of_cell? w _ hx365_0)).trans hx365_0
         replace hx365_1:=(HB.out.cell (World.block_lt_of_cell? w _ hx365_1)).trans hx365_1
         replace hx365_2:=(HB.out.cell (World.block_lt_of_cell? w _ hx365_2)).trans hx365_2
         replace hx365_3:=(HB.out.cell (World.block_lt_of_cell? w _ hx365_3)).trans hx365_3
         replace p365:=eq_true p365
         replace q365:=eq_true q365
         try go_wp2
         have n0_:=Aside0.mk (below_drew1 HB.out)
         clear HB
         have HB:=n0_
         clear n0_
         have p366:0≤(x5_1:Int):=of_decide_eq_true (z1_)
         have q366:x5_1<(l0.length:Int):=of_decide_eq_true (z1_)
         obtain ⟨ad366,e366,hx366_0,hx366_1,hx366_2,hx366_3⟩:=at_T91 HR0.out x5_1 p366 q366
         have hw366_3:=hx366_3
         have hw366_2:=hx366_2
         have hw366_1:=hx366_1
         have hw366_0:=hx366_0
         obtain rfl:ad363=ad366:=(by injection e366)
         replace hx366_0:=(HB.out.cell (World.block_lt_of_cell? w _ hx366_0)).trans hx366_0
         replace hx366_1:=(HB.out.cell (World.block_lt_of_cell? w _ hx366_1)).trans hx366_1
         replace hx366_2:=(HB.out.cell (World.block_lt_of_cell? w _ hx366_2)).trans hx366_2
         replace hx366_3:=(HB.out.cell (World.block_lt_of_cell? w _ hx366_3)).trans hx366_3
         replace p366:=eq_true p366
         replace q366:=eq_true q366
         refine start_ (n:=8) (S:=fun w'=>w'.cell? (ad363.add ((x5_1).toNat*4))=some (.int .i64 ((rd_T91 l0 x5_1).f0.f0))∧w'.cell? ⟨(ad363.add ((x5_1).toNat*4)).block,(ad363.add ((x5_1).toNat*4)).off+1,none⟩=some (.int .i64 ((rd_T91 l0 x5_1).f0.f1))∧w'.cell? ⟨(ad363.add ((x5_1).toNat*4)).block,(ad363.add ((x5_1).toNat*4)).off+2,none⟩=some (.bool ((rd_T91 l0 x5_1).f1))∧w'.cell? ⟨(ad363.add ((x5_1).toNat*4)).block,(ad363.add ((x5_1).toNat*4)).off+3,none⟩=some (.string ((rd_T91 l0 x5_1).f2))) (ds:=[]) #[O,O,O,O,O,O,O,O] (by kernel_rfl) rfl rfl ⟨((HB.out.cell (World.block_lt_of_cell? w _ hw366_0)).trans hw366_0),((HB.out.cell (World.block_lt_of_cell? w _ hw366_1)).trans hw366_1),((HB.out.cell (World.block_lt_of_cell? w _ hw366_2)).trans hw366_2),((HB.out.cell (World.block_lt_of_cell? w _ hw366_3)).trans hw366_3)⟩ (fun hHeld=>?_);refine with_tabW laws_heldSibS.tab13 laws_heldSibS.bits13 (fun HT_ HW_=>?_)
         generalize wr.drew=w10 at HB hx366_0 hx366_1 hx366_2 hx366_3 hHeld ⊢
         refine pu_ 0 43 #[I,O,O,O,O,O,O,O] HT_.out ?_
         refine pu_ 1 44 #[I,I,O,O,O,O,O,O] HT_.out ?_
         refine pu_ 2 45 #[I,I,I,O,O,O,O,O] HT_.out ?_
         refine pu_ 3 46 #[I,I,I,I,O,O,O,O] HT_.out ?_
         refine pu_ 5 48 #[I,I,I,I,O,I,O,O] HT_.out ?_
         refine tk4_ 4 47 #[I,I,I,I,I,I,O,O] HT_.out HW_.out hHeld ?_
         refine o1_ 6 49 #[I,I,I,I,I,I,I,O] HT_.out (fun K hK=>?_)
         refine gs_ Try.func92 #[.int .i64 (wrap64 ((wrap64 ((wrap64 (x1_1+1))+1))+1))] ?_
         with_reducible refine (laws_markText.calls k1 (wrap64 ((wrap64 ((wrap64 (x1_1+1))+1))+1)) t367 _ A8.out).mono ?_
         rintro e w11 ⟨rfl,hb⟩
         refine ⟨_,rfl,?_⟩
         have n0_:=Aside0.mk (below_step (z3_ HB.out) hb)
         clear HB
         have HB:=n0_
         clear n0_
         (try clear hb)
         refine hK.out _ _ ⟨((HB.out.cell (World.block_lt_of_cell? w _ hw366_0)).trans hw366_0),((HB.out.cell (World.block_lt_of_cell? w _ hw366_1)).trans hw366_1),((HB.out.cell (World.block_lt_of_cell? w _ hw366_2)).trans hw366_2),((HB.out.cell (World.block_lt_of_cell? w _ hw366_3)).trans hw366_3)⟩ (fun hHeld=>?_)
         clear hK K
         refine nm_ 49 ?_
         refine pu_ 7 50 #[I,I,I,I,I,I,I,I] HT_.out ?_
         refine done_ (done_of HT_.out (by kernel_rfl)) ?_
         try go_wp2
         go_roundg k1
         case measure=>have:=HK1.out;omega
         case rel=>exact ⟨(wrap64 ((wrap64 ((wrap64 ((wrap64 (x1_1+1))+1))+1))+1)),(wrap64 (x5_1+1)),(z2_),(z2_),H',⟨by have:=HK1.out;omega⟩,⟨z3_ HB.out⟩⟩
        ·rw [if_neg c9] at H
         exact absurd H (by simp)
      ·rw [if_neg c6] at H
       exact absurd H (by simp)
     ·rw [if_neg c5] at H
      exact absurd H (by simp)
    ·rw [if_neg c4] at H
     exact absurd H (by simp)
   ·rw [if_neg c3] at H
    have c3b0:decide (x5_1<(l0.length:Int))=false:=decide_eq_false c3
    clear c3
    obtain rfl:=Option.some.inj H
    go_wp2
    go_ret
    exact ⟨z8_,z3_ HB.out⟩


/-! ### laws_heldSet: function 67 -/
def laws_heldSet.f (k:Nat) (l0_0:List (S56)) (l0_1:List (S91)) (a1:Int):Option (Int):=(laws_heldMarkS.f k l0_0 a1).bind fun t369=>(if t369<0 then (none) else ((laws_heldSibS.f k l0_1 t369).bind fun t370=>(if t370<0 then (none) else (some t370))))
theorem laws_heldSet.mono:∀ a0 a1 a2 k,LeO (laws_heldSet.f k a0 a1 a2) (laws_heldSet.f (k+1) a0 a1 a2):=by
 intro a0 a1 a2 k
 unfold laws_heldSet.f
 repeat' first
   | (with_reducible exact laws_heldMarkS.mono _ _ _)
   | (with_reducible exact laws_heldSibS.mono _ _ _)
   | (with_reducible exact LeO.refl _)
   | (with_reducible exact LeO.none _)
   | (with_reducible refine LeO.ite ?_ ?_)
   | (with_reducible refine LeO.bind ?_ (fun _=>?_))
   | exact laws_heldMarkS.mono _ _ _
   | exact laws_heldSibS.mono _ _ _
   | exact LeO.none _
   | refine LeO.ite ?_ ?_
   | refine LeO.bind ?_ (fun _=>?_)
set_option maxHeartbeats 8000000 in
set_option maxRecDepth 100000 in
theorem laws_heldSet.calls (k:Nat) (A0_0:Option Addr) (c0_0:Nat) (l0_0:List (S56)) (A0_1:Option Addr) (c0_1:Nat) (l0_1:List (S91)) (a1:Int) (r:Int) (w:World) (hr0_0:Kd.C k56 w A0_0 l0_0.length l0_0) (hc0_0:l0_0.length≤c0_0) (hr0_1:Kd.C k91 w A0_1 l0_1.length l0_1) (hc0_1:l0_1.length≤c0_1) (h:laws_heldSet.f k l0_0 l0_1 a1=some r) :
  Calls Try.prog 67 #[.agg #[.slice A0_0 l0_0.length c0_0,.slice A0_1 l0_1.length c0_1],.int .i64 a1] w fun e w'=>e = .returned (.int .i64 r)∧Below w.heap.size w w':=by
 have hu40:=Try.underlying40
 have HR0_0:=Aside0.mk hr0_0
 have HC0_0:=Aside0.mk hc0_0
 clear hr0_0 hc0_0
 have HR0_1:=Aside0.mk hr0_1
 have HC0_1:=Aside0.mk hc0_1
 clear hr0_1 hc0_1
 have HB:=Aside0.mk (Below.refl w.heap.size w)
 have H:((laws_heldMarkS.f k l0_0 a1).bind fun t369=>(if t369<0 then (none) else ((laws_heldSibS.f k l0_1 t369).bind fun t370=>(if t370<0 then (none) else (some t370)))))=some r:=h
 clear h
 replace H:=Option.bind_eq_some_iff.mp H
 obtain ⟨t369,A30,H⟩:=H
 replace H:(if t369<0 then (none) else ((laws_heldSibS.f k l0_1 t369).bind fun t370=>(if t370<0 then (none) else (some t370))))=some r:=H
 have A3:=Aside0.mk A30
 clear A30
 by_cases c4:t369<0
 ·rw [if_pos c4] at H
  exact absurd H (by simp)
 ·rw [if_neg c4] at H
  have c4b0:decide (t369<0)=false:=decide_eq_false c4
  clear c4
  replace H:=Option.bind_eq_some_iff.mp H
  obtain ⟨t370,A50,H⟩:=H
  replace H:(if t370<0 then (none) else (some t370))=some r:=H
  have A5:=Aside0.mk A50
  clear A50
  by_cases c6:t370<0
  ·rw [if_pos c6] at H
   exact absurd H (by simp)
  ·rw [if_neg c6] at H
   have c6b0:decide (t370<0)=false:=decide_eq_false c6
   clear c6
   obtain rfl:=Option.some.inj H
   go_enter Try.func67,Try.ntmps67
   go_wp2_with (first | ((with_reducible refine gd_ 2 ?_);refine be_ 2 #[.slice A0_0 l0_0.length c0_0,.slice A0_1 l0_1.length c0_1] 40 ?_;intro gb368 hg w7 hbox hb;refine as4_ (below_step (z3_ HB.out) hb) (hbox) ((z7_ HB.out:w.heap.size≤gb368)) ((z7_ HB.out:w.heap.size≤gb368)) ?_;clear HB;intro HB BK368 GW368 GE368;clear hb hbox hg;have ⟨hcz8_0,hcz8_1,hfz8_0,hfz8_1⟩:=cz2_ BK368.out) | ((with_reducible refine gc_ 99 ?_);refine gl_ (some 8) Try.func99 #[.slice A0_0 l0_0.length c0_0,.int .i64 a1] ?_;(with_reducible refine (laws_heldMarkS.calls k _ _ l0_0 a1 t369 _ ?s1 ?s2 A3.out).mono ?_);(case s1=>repeat (first | exact (Kd.C_below HR0_0.out HB.out) | (with_reducible refine Kd.C_alloc ?_ _) | (with_reducible refine Kd.C_drewN ?_ _) | (with_reducible refine Kd.C_drew ?_)));(case s2=>exact HC0_0.out);rintro e w' ⟨rfl,⟨nd,rfl⟩⟩;refine ⟨_,rfl,?_⟩) | ((with_reducible refine gc_ 100 ?_);refine gl_ (some 14) Try.func100 #[.slice A0_1 l0_1.length c0_1,.int .i64 t369] ?_;(with_reducible refine (laws_heldSibS.calls k _ _ l0_1 t369 t370 _ ?s1 ?s2 A5.out).mono ?_);(case s1=>repeat (first | exact (Kd.C_below HR0_1.out (z6_ HB.out GE368.out)) | (with_reducible refine Kd.C_alloc ?_ _) | (with_reducible refine Kd.C_drewN ?_ _) | (with_reducible refine Kd.C_drew ?_)));(case s2=>exact HC0_1.out);rintro e w9 ⟨rfl,hb⟩;refine ⟨_,rfl,?_⟩;refine as2_ (blkB_ BK368.out hb) (below_step (z6_ HB.out GE368.out) hb) ?_;clear BK368 HB;intro BK368 HB;(try clear hb)))
   go_ret
   exact ⟨z8_,z6_ HB.out GE368.out⟩


/-! ### laws_heldSetOut: function 28 -/
def laws_heldSetOut.f (k:Nat) (l0_0:List (S56)) (l0_1:List (S91)) (a0_2:Int) (a0_3:Int) (a0_4:Int) (a1:Int):Option (Int):=(laws_heldSet.f k l0_0 l0_1 a1).bind fun t662=>(if t662<0 then (none) else (some t662))
theorem laws_heldSetOut.mono:∀ a0 a1 a2 a3 a4 a5 k,LeO (laws_heldSetOut.f k a0 a1 a2 a3 a4 a5) (laws_heldSetOut.f (k+1) a0 a1 a2 a3 a4 a5):=by
 intro a0 a1 a2 a3 a4 a5 k
 unfold laws_heldSetOut.f
 repeat' first
   | (with_reducible exact laws_heldSet.mono _ _ _ _)
   | (with_reducible exact LeO.refl _)
   | (with_reducible exact LeO.none _)
   | (with_reducible refine LeO.ite ?_ ?_)
   | (with_reducible refine LeO.bind ?_ (fun _=>?_))
   | exact laws_heldSet.mono _ _ _ _
   | exact LeO.none _
   | refine LeO.ite ?_ ?_
   | refine LeO.bind ?_ (fun _=>?_)
set_option maxHeartbeats 8000000 in
set_option maxRecDepth 100000 in
theorem laws_heldSetOut.calls (k:Nat) (A0_0:Option Addr) (c0_0:Nat) (l0_0:List (S56)) (A0_1:Option Addr) (c0_1:Nat) (l0_1:List (S91)) (a0_2:Int) (a0_3:Int) (a0_4:Int) (a1:Int) (r:Int) (w:World) (hr0_0:Kd.C k56 w A0_0 l0_0.length l0_0) (hc0_0:l0_0.length≤c0_0) (hr0_1:Kd.C k91 w A0_1 l0_1.length l0_1) (hc0_1:l0_1.length≤c0_1) (h:laws_heldSetOut.f k l0_0 l0_1 a0_2 a0_3 a0_4 a1=some r) :
  Calls Try.prog 28 #[.agg #[.slice A0_0 l0_0.length c0_0,.slice A0_1 l0_1.length c0_1,.int .i64 a0_2,.int .i64 a0_3,.int .i64 a0_4],.int .i64 a1] w fun e w'=>e = .returned (.int .i64 r)∧Below w.heap.size w w':=by
 have hu58:=Try.underlying58
 have hu40:=Try.underlying40
 have HR0_0:=Aside0.mk hr0_0
 have HC0_0:=Aside0.mk hc0_0
 clear hr0_0 hc0_0
 have HR0_1:=Aside0.mk hr0_1
 have HC0_1:=Aside0.mk hc0_1
 clear hr0_1 hc0_1
 have HB:=Aside0.mk (Below.refl w.heap.size w)
 have H:((laws_heldSet.f k l0_0 l0_1 a1).bind fun t662=>(if t662<0 then (none) else (some t662)))=some r:=h
 clear h
 replace H:=Option.bind_eq_some_iff.mp H
 obtain ⟨t662,A30,H⟩:=H
 replace H:(if t662<0 then (none) else (some t662))=some r:=H
 have A3:=Aside0.mk A30
 clear A30
 by_cases c4:t662<0
 ·rw [if_pos c4] at H
  exact absurd H (by simp)
 ·rw [if_neg c4] at H
  have c4b0:decide (t662<0)=false:=decide_eq_false c4
  clear c4
  obtain rfl:=Option.some.inj H
  go_enter Try.func28,Try.ntmps28
  go_wp2_with (first | ((with_reducible refine gd_ 2 ?_);refine be_ 2 #[.slice A0_0 l0_0.length c0_0,.slice A0_1 l0_1.length c0_1,.int .i64 a0_2,.int .i64 a0_3,.int .i64 a0_4] 58 ?_;intro gb661 hg w5 hbox hb;refine as4_ (below_step (z3_ HB.out) hb) (hbox) ((z7_ HB.out:w.heap.size≤gb661)) ((z7_ HB.out:w.heap.size≤gb661)) ?_;clear HB;intro HB BK661 GW661 GE661;clear hb hbox hg;have ⟨hcz6_0,hcz6_1,hcz6_2,hcz6_3,hcz6_4,hfz6_0,hfz6_1,hfz6_2,hfz6_3,hfz6_4⟩:=cz5_ BK661.out) | ((with_reducible refine gc_ 67 ?_);refine gl_ (some 8) Try.func67 #[.agg #[.slice A0_0 l0_0.length c0_0,.slice A0_1 l0_1.length c0_1],.int .i64 a1] ?_;(with_reducible refine (laws_heldSet.calls k _ _ l0_0 _ _ l0_1 a1 t662 _ ?s1 ?s2 ?s3 ?s4 A3.out).mono ?_);(case s1=>repeat (first | exact (Kd.C_below HR0_0.out HB.out) | (with_reducible refine Kd.C_alloc ?_ _) | (with_reducible refine Kd.C_drewN ?_ _) | (with_reducible refine Kd.C_drew ?_)));(case s2=>exact HC0_0.out);(case s3=>repeat (first | exact (Kd.C_below HR0_1.out HB.out) | (with_reducible refine Kd.C_alloc ?_ _) | (with_reducible refine Kd.C_drewN ?_ _) | (with_reducible refine Kd.C_drew ?_)));(case s4=>exact HC0_1.out);rintro e w7 ⟨rfl,hb⟩;refine ⟨_,rfl,?_⟩;refine as2_ (blkB_ BK661.out hb) (below_step (z6_ HB.out GE661.out) hb) ?_;clear BK661 HB;intro BK661 HB;(try clear hb)))
  go_ret
  exact ⟨z8_,z6_ HB.out GE661.out⟩


/-! ### spec_l02Is: function 37 -/
def spec_l02Is.f (a0:Int) (a1:Int) (a2:Int):Option (Bool):=if a0≥a1 then (some (decide (a0≤a2))) else (some false)
set_option maxHeartbeats 8000000 in
set_option maxRecDepth 100000 in
theorem spec_l02Is.calls (a0:Int) (a1:Int) (a2:Int) (r:Bool) (w:World) (h:spec_l02Is.f a0 a1 a2=some r) :
  Calls Try.prog 37 #[.int .i64 a0,.int .i64 a1,.int .i64 a2] w fun e w'=>e = .returned (.bool r)∧Drawn0 w w':=by
 have H:(if a0≥a1 then (some (decide (a0≤a2))) else (some false))=some r:=h
 clear h
 by_cases c4:a0≥a1
 ·rw [if_pos c4] at H
  have c4b0:decide (a1≤a0)=true:=decide_eq_true c4
  clear c4
  obtain rfl:=Option.some.inj H
  go_enter Try.func37,Try.ntmps37
  go_wp2
  go_ret
  exact ⟨z2_,z11_⟩
 ·rw [if_neg c4] at H
  have c4b0:decide (a1≤a0)=false:=decide_eq_false c4
  clear c4
  obtain rfl:=Option.some.inj H
  go_enter Try.func37,Try.ntmps37
  go_wp2
  go_ret
  exact ⟨z2_,z11_⟩


/-! ### spec_l02Node: function 69 -/
def spec_l02Node.f (a0:Int):Option (Bool):=(spec_l02Is.f a0 1 5).bind fun t109=>(some t109)
set_option maxHeartbeats 8000000 in
set_option maxRecDepth 100000 in
theorem spec_l02Node.calls (a0:Int) (r:Bool) (w:World) (h:spec_l02Node.f a0=some r) :
  Calls Try.prog 69 #[.int .i64 a0] w fun e w'=>e = .returned (.bool r)∧Drawn0 w w':=by
 have H:((spec_l02Is.f a0 1 5).bind fun t109=>(some t109))=some r:=h
 clear h
 replace H:=Option.bind_eq_some_iff.mp H
 obtain ⟨t109,A20,H⟩:=H
 replace H:(some t109)=some r:=H
 have A2:=Aside0.mk A20
 clear A20
 obtain rfl:=Option.some.inj H
 go_enter Try.func69,Try.ntmps69
 go_wp2_with (first | ((with_reducible refine gc_ 37 ?_);refine gl_ (some 4) Try.func37 #[.int .i64 a0,.int .i64 1,.int .i64 5] ?_;(with_reducible refine (spec_l02Is.calls a0 1 5 t109 _ A2.out).mono ?_);rintro e w' ⟨rfl,⟨nd,rfl⟩⟩;refine ⟨_,rfl,?_⟩))
 go_ret
 exact ⟨z2_,z11_⟩


/-! ### spec_l02Dot: function 101 -/
def spec_l02Dot.f (a0_0:Int) (a0_1:Int):Option (Bool):=(spec_l02Node.f a0_0).bind fun t111=>(if t111=true then ((spec_l02Is.f a0_1 1 1000000).bind fun t112=>(some t112)) else (some false))
set_option maxHeartbeats 8000000 in
set_option maxRecDepth 100000 in
theorem spec_l02Dot.calls (a0_0:Int) (a0_1:Int) (r:Bool) (w:World) (h:spec_l02Dot.f a0_0 a0_1=some r) :
  Calls Try.prog 101 #[.agg #[.int .i64 a0_0,.int .i64 a0_1]] w fun e w'=>e = .returned (.bool r)∧Below w.heap.size w w':=by
 have hu56:=Try.underlying56
 have HB:=Aside0.mk (Below.refl w.heap.size w)
 have H:((spec_l02Node.f a0_0).bind fun t111=>(if t111=true then ((spec_l02Is.f a0_1 1 1000000).bind fun t112=>(some t112)) else (some false)))=some r:=h
 clear h
 replace H:=Option.bind_eq_some_iff.mp H
 obtain ⟨t111,A20,H⟩:=H
 replace H:(if t111=true then ((spec_l02Is.f a0_1 1 1000000).bind fun t112=>(some t112)) else (some false))=some r:=H
 have A2:=Aside0.mk A20
 clear A20
 by_cases c3:t111=true
 ·subst c3
  have H1:((spec_l02Is.f a0_1 1 1000000).bind fun t112=>(some t112))=some r:=by rw [if_pos rfl] at H;exact H
  clear H
  have H:=H1
  clear H1
  replace H:=Option.bind_eq_some_iff.mp H
  obtain ⟨t112,A40,H⟩:=H
  replace H:(some t112)=some r:=H
  have A4:=Aside0.mk A40
  clear A40
  obtain rfl:=Option.some.inj H
  go_enter Try.func101,Try.ntmps101
  go_wp2_with (first | ((with_reducible refine gd_ 1 ?_);refine be_ 1 #[.int .i64 a0_0,.int .i64 a0_1] 56 ?_;intro gb110 hg w5 hbox hb;refine as4_ (below_step (z3_ HB.out) hb) (hbox) ((z7_ HB.out:w.heap.size≤gb110)) ((z7_ HB.out:w.heap.size≤gb110)) ?_;clear HB;intro HB BK110 GW110 GE110;clear hb hbox hg;have ⟨hcz6_0,hcz6_1,hfz6_0,hfz6_1⟩:=cz2_ BK110.out) | ((with_reducible refine gc_ 69 ?_);refine gl_ (some 5) Try.func69 #[.int .i64 a0_0] ?_;(with_reducible refine (spec_l02Node.calls a0_0 true _ A2.out).mono ?_);rintro e w' ⟨rfl,⟨nd,rfl⟩⟩;refine ⟨_,rfl,?_⟩) | (go_at_call 37;(with_reducible refine (spec_l02Is.calls a0_1 1 1000000 t112 _ A4.out).mono ?_);rintro e w' ⟨rfl,⟨nd,rfl⟩⟩))
  go_ret
  exact ⟨z8_,z6_ HB.out GE110.out⟩
 ·replace c3:=Bool.eq_false_iff.mpr c3
  subst c3
  have H1:(some false)=some r:=by rw [if_neg (show ¬ (false=true) by decide)] at H;exact H
  clear H
  have H:=H1
  clear H1
  obtain rfl:=Option.some.inj H
  go_enter Try.func101,Try.ntmps101
  go_wp2_with (first | ((with_reducible refine gd_ 1 ?_);refine be_ 1 #[.int .i64 a0_0,.int .i64 a0_1] 56 ?_;intro gb110 hg w7 hbox hb;refine as4_ (below_step (z3_ HB.out) hb) (hbox) ((z7_ HB.out:w.heap.size≤gb110)) ((z7_ HB.out:w.heap.size≤gb110)) ?_;clear HB;intro HB BK110 GW110 GE110;clear hb hbox hg;have ⟨hcz8_0,hcz8_1,hfz8_0,hfz8_1⟩:=cz2_ BK110.out) | ((with_reducible refine gc_ 69 ?_);refine gl_ (some 5) Try.func69 #[.int .i64 a0_0] ?_;(with_reducible refine (spec_l02Node.calls a0_0 false _ A2.out).mono ?_);rintro e w' ⟨rfl,⟨nd,rfl⟩⟩;refine ⟨_,rfl,?_⟩))
  go_ret
  exact ⟨z8_,z6_ HB.out GE110.out⟩


/-! ### spec_SeenRight: function 68 -/
mutual
def spec_SeenRight.l0:Nat→List (S56)→Int→Option (Bool)
 | 0,_,_=>none
 | k+1,x0,x3=>if x3<(x0.length:Int) then (spec_SeenRight.j1 k x0 x3 (decide (x3≤5))) else (spec_SeenRight.j1 k x0 x3 false)
def spec_SeenRight.j1:Nat→List (S56)→Int→Bool→Option (Bool)
 | 0,_,_,_=>none
 | k+1,x0,x3,x11=>if x11=true then (if 0≤x3 then (if x3<(x0.length:Int) then ((spec_l02Dot.f ((rd_T56 x0 x3).f0) ((rd_T56 x0 x3).f1)).bind fun t114=>(if t114=true then (if x3>0 then (if 0≤(wrap64 (x3-1)) then (if (wrap64 (x3-1))<(x0.length:Int) then (if ((rd_T56 x0 (wrap64 (x3-1))).f0)≥((rd_T56 x0 x3).f0) then (some false) else (spec_SeenRight.l0 k x0 (wrap64 (x3+1)))) else (none)) else (none)) else (spec_SeenRight.l0 k x0 (wrap64 (x3+1)))) else (some false))) else (none)) else (none)) else (some (decide ((x0.length:Int)≤5)))
end
def spec_SeenRight.f (k:Nat) (l0:List (S56)):Option (Bool):=spec_SeenRight.l0 k l0 0
theorem spec_SeenRight.mono_l:∀ k,(∀ y0 y1,LeO (spec_SeenRight.l0 k y0 y1) (spec_SeenRight.l0 (k+1) y0 y1))∧(∀ y0 y1 y2,LeO (spec_SeenRight.j1 k y0 y1 y2) (spec_SeenRight.j1 (k+1) y0 y1 y2))
 | 0=>⟨fun _ _ r h=>by simp [spec_SeenRight.l0] at h,fun _ _ _ r h=>by simp [spec_SeenRight.j1] at h⟩
 | k+1=>by
  obtain ⟨ih0,ih1⟩:=spec_SeenRight.mono_l k
  refine ⟨?_,?_⟩
  ·intro y0 y1
   unfold spec_SeenRight.l0
   repeat' first
   | (with_reducible exact ih0 _ _)
   | (with_reducible exact ih1 _ _ _)
   | (with_reducible exact LeO.refl _)
   | (with_reducible exact LeO.none _)
   | (with_reducible refine LeO.ite ?_ ?_)
   | (with_reducible refine LeO.bind ?_ (fun _=>?_))
   | exact ih0 _ _
   | exact ih1 _ _ _
   | exact LeO.none _
   | refine LeO.ite ?_ ?_
   | refine LeO.bind ?_ (fun _=>?_)
  ·intro y0 y1 y2
   unfold spec_SeenRight.j1
   repeat' first
   | (with_reducible exact ih0 _ _)
   | (with_reducible exact ih1 _ _ _)
   | (with_reducible exact LeO.refl _)
   | (with_reducible exact LeO.none _)
   | (with_reducible refine LeO.ite ?_ ?_)
   | (with_reducible refine LeO.bind ?_ (fun _=>?_))
   | exact ih0 _ _
   | exact ih1 _ _ _
   | exact LeO.none _
   | refine LeO.ite ?_ ?_
   | refine LeO.bind ?_ (fun _=>?_)
theorem spec_SeenRight.mono:∀ a0 k,LeO (spec_SeenRight.f k a0) (spec_SeenRight.f (k+1) a0):=by
 intro a0 k
 obtain ⟨ih0,ih1⟩:=spec_SeenRight.mono_l k
 unfold spec_SeenRight.f
 repeat' first
   | (with_reducible exact ih0 _ _)
   | (with_reducible exact ih1 _ _ _)
   | (with_reducible exact LeO.refl _)
   | (with_reducible exact LeO.none _)
   | (with_reducible refine LeO.ite ?_ ?_)
   | (with_reducible refine LeO.bind ?_ (fun _=>?_))
   | exact ih0 _ _
   | exact ih1 _ _ _
   | exact LeO.none _
   | refine LeO.ite ?_ ?_
   | refine LeO.bind ?_ (fun _=>?_)
def spec_SeenRight.T4:Bool × List (List Nat × List Nat):=(true,[([],[]),([],[]),([0,1],[0,1]),([2],[2]),([3],[3]),([4],[4]),([5,4],[5]),([6],[6]),([7,6],[6,7]),([8,6,6],[6,8]),([9],[9]),([9],[9]),([11,9],[9,11]),([10,12,9],[9,10,12]),([13,9],[9,13]),([14,9],[9,14]),([9],[9]),([9],[9]),([16,17,9],[9,16,17]),([18,9],[9,18]),([19,9],[9,19]),([15,20,9],[9,15,20]),([9,21,6],[6,9,21]),([6,22],[6,22])])
def spec_SeenRight.B4:List Nat:=[0,0,3,7,15,31,63,127,255,511,1023,1023,3071,8191,16383,32767,1023,1023,197631,459775,984063,2097151,4194303,8388607]
theorem spec_SeenRight.tab4:rtab .any (opsOf Try.f68 4)=spec_SeenRight.T4:=by kernel_rfl
theorem spec_SeenRight.bits4:waitsOk spec_SeenRight.T4.2 spec_SeenRight.B4=true:=by kernel_rfl
abbrev spec_SeenRight.q0:Array Bool:=#[O,O,O,O,O,O,O,O,O,O,O,O,O,O,O,O,O,O,O,O,O,O,O,O]
abbrev spec_SeenRight.q1:Array Bool:=#[I,O,O,O,O,O,O,O,O,O,O,O,O,O,O,O,O,O,O,O,O,O,O,O]
abbrev spec_SeenRight.q2:Array Bool:=#[I,I,O,O,O,O,O,O,O,O,O,O,O,O,O,O,O,O,O,O,O,O,O,O]
abbrev spec_SeenRight.q3:Array Bool:=#[I,I,I,O,O,O,O,O,O,O,O,O,O,O,O,O,O,O,O,O,O,O,O,O]
abbrev spec_SeenRight.q4:Array Bool:=#[I,I,I,I,O,O,O,O,O,O,O,O,O,O,O,O,O,O,O,O,O,O,O,O]
abbrev spec_SeenRight.q5:Array Bool:=#[I,I,I,I,I,O,O,O,O,O,O,O,O,O,O,O,O,O,O,O,O,O,O,O]
abbrev spec_SeenRight.q6:Array Bool:=#[I,I,I,I,I,I,O,O,O,O,O,O,O,O,O,O,O,O,O,O,O,O,O,O]
abbrev spec_SeenRight.q7:Array Bool:=#[I,I,I,I,I,I,I,O,O,O,O,O,O,O,O,O,O,O,O,O,O,O,O,O]
abbrev spec_SeenRight.q8:Array Bool:=#[I,I,I,I,I,I,I,I,O,O,O,O,O,O,O,O,O,O,O,O,O,O,O,O]
abbrev spec_SeenRight.q9:Array Bool:=#[I,I,I,I,I,I,I,I,I,O,O,O,O,O,O,O,O,O,O,O,O,O,O,O]
abbrev spec_SeenRight.q10:Array Bool:=#[I,I,I,I,I,I,I,I,I,I,O,O,O,O,O,O,O,O,O,O,O,O,O,O]
abbrev spec_SeenRight.q11:Array Bool:=#[I,I,I,I,I,I,I,I,I,I,I,O,O,O,O,O,O,O,O,O,O,O,O,O]
abbrev spec_SeenRight.q12:Array Bool:=#[I,I,I,I,I,I,I,I,I,I,I,I,O,O,O,O,O,O,O,O,O,O,O,O]
abbrev spec_SeenRight.q13:Array Bool:=#[I,I,I,I,I,I,I,I,I,I,I,I,I,O,O,O,O,O,O,O,O,O,O,O]
abbrev spec_SeenRight.q14:Array Bool:=#[I,I,I,I,I,I,I,I,I,I,I,I,I,I,O,O,O,O,O,O,O,O,O,O]
abbrev spec_SeenRight.q15:Array Bool:=#[I,I,I,I,I,I,I,I,I,I,I,I,I,I,I,O,O,O,O,O,O,O,O,O]
abbrev spec_SeenRight.q16:Array Bool:=#[I,I,I,I,I,I,I,I,I,I,I,I,I,I,I,O,I,O,O,O,O,O,O,O]
abbrev spec_SeenRight.q17:Array Bool:=#[I,I,I,I,I,I,I,I,I,I,I,I,I,I,I,O,I,I,O,O,O,O,O,O]
abbrev spec_SeenRight.q18:Array Bool:=#[I,I,I,I,I,I,I,I,I,I,I,I,I,I,I,O,I,I,I,O,O,O,O,O]
abbrev spec_SeenRight.q19:Array Bool:=#[I,I,I,I,I,I,I,I,I,I,I,I,I,I,I,O,I,I,I,I,O,O,O,O]
abbrev spec_SeenRight.q20:Array Bool:=#[I,I,I,I,I,I,I,I,I,I,I,I,I,I,I,I,I,I,I,I,O,O,O,O]
abbrev spec_SeenRight.q21:Array Bool:=#[I,I,I,I,I,I,I,I,I,I,I,I,I,I,I,I,I,I,I,I,I,O,O,O]
abbrev spec_SeenRight.q22:Array Bool:=#[I,I,I,I,I,I,I,I,I,I,I,I,I,I,I,I,I,I,I,I,I,I,O,O]
abbrev spec_SeenRight.q23:Array Bool:=#[I,I,I,I,I,I,I,I,I,I,I,I,I,I,I,I,I,I,I,I,I,I,I,O]
abbrev spec_SeenRight.q24:Array Bool:=#[I,I,I,I,I,I,I,I,I,I,I,I,I,I,I,I,I,I,I,I,I,I,I,I]
abbrev spec_SeenRight.q25:Array Bool:=#[I,I,I,I,I,I,I,I,I,I,I,I,I,I,I,I,O,O,O,O,O,O,O,O]
abbrev spec_SeenRight.q26:Array Bool:=#[I,I,I,I,I,I,I,I,I,I,I,I,I,I,I,I,I,O,O,O,O,O,O,O]
abbrev spec_SeenRight.q27:Array Bool:=#[I,I,I,I,I,I,I,I,I,I,I,I,I,I,I,I,I,I,O,O,O,O,O,O]
abbrev spec_SeenRight.q28:Array Bool:=#[I,I,I,I,I,I,I,I,I,I,I,I,I,I,I,I,I,I,I,O,O,O,O,O]
set_option maxHeartbeats 8000000 in
set_option maxRecDepth 100000 in
theorem spec_SeenRight.calls (k:Nat) (A0:Option Addr) (c0:Nat) (l0:List (S56)) (r:Bool) (w:World) (hr0:Kd.C k56 w A0 l0.length l0) (hc0:l0.length≤c0) (h:spec_SeenRight.f k l0=some r) :
  Calls Try.prog 68 #[.slice A0 l0.length c0] w fun e w'=>e = .returned (.bool r)∧Below w.heap.size w w':=by
 have hu56:=Try.underlying56
 have HR0:=Aside0.mk hr0
 have HC0:=Aside0.mk hc0
 clear hr0 hc0
 have HB:=Aside0.mk (Below.refl w.heap.size w)
 have H:(spec_SeenRight.l0 k l0 0)=some r:=h
 clear h
 have H':=Aside0.mk H
 clear H
 go_enter Try.func68,Try.ntmps68
 go_wp2
 go_loopg [3] k (fun kq v3 w'=>∃ (x3_1:Int),v3 = .int .i64 x3_1∧Aside0 (spec_SeenRight.l0 kq l0 x3_1=some r)∧Aside0 (kq≤k)∧Aside0 (Below w.heap.size w w'))
 case atStart=>exact ⟨(0),(z2_),H',⟨Nat.le_refl _⟩,⟨z3_ HB.out⟩⟩
 case round =>
  clear H'
  obtain ⟨x3_1,rfl,HA,HK1,HB⟩:=hrel
  cases gk with
  | zero=>exact absurd HA.out (by simp [spec_SeenRight.l0])
  | succ k1 =>
   have H:=HA.out
   clear HA
   simp only [spec_SeenRight.l0] at H
   have HC2:=Aside0.mk H
   clear H
   go_upto_region 2 with (fail)
   go_cut [11] (fun v11 wc=>∃ (kq:Nat) (x11_1:Bool),v11 = .bool x11_1∧Aside0 (spec_SeenRight.j1 kq l0 x3_1 x11_1=some r)∧Aside0 (kq≤k1)∧Aside0 (Below w.heap.size w wc))
   case first =>
    have H:=HC2.out
    clear HC2
    by_cases c3:x3_1<(l0.length:Int)
    ·rw [if_pos c3] at H
     have c3b0:decide (x3_1<(l0.length:Int))=true:=decide_eq_true c3
     clear c3
     (first | rw [c3b0] | (simp only [i64_w,i32_w];rw [c3b0]) | skip)
     have H':=Aside0.mk H
     clear H
     go_wp2
     go_meet
     case rel=>exact ⟨_,(decide (x3_1≤5)),(z2_),H',⟨z23_ HK1.out⟩,⟨z3_ HB.out⟩⟩
    ·rw [if_neg c3] at H
     have c3b0:decide (x3_1<(l0.length:Int))=false:=decide_eq_false c3
     clear c3
     (first | rw [c3b0] | (simp only [i64_w,i32_w];rw [c3b0]) | skip)
     have H':=Aside0.mk H
     clear H
     go_wp2
     go_meet
     case rel=>exact ⟨_,(false),(z2_),H',⟨z23_ HK1.out⟩,⟨z3_ HB.out⟩⟩
   case rest =>
    clear HC2
    try clear p2
    try clear c3
    try clear c3b0
    obtain ⟨kq,x11_1,rfl,HA,HJ1,HB⟩:=hcut
    cases kq with
    | zero=>exact absurd HA.out (by simp [spec_SeenRight.j1])
    | succ kj1 =>
     have H:=HA.out
     clear HA
     simp only [spec_SeenRight.j1] at H
     by_cases c4:x11_1=true
     ·subst c4
      have H1:(if 0≤x3_1 then (if x3_1<(l0.length:Int) then ((spec_l02Dot.f ((rd_T56 l0 x3_1).f0) ((rd_T56 l0 x3_1).f1)).bind fun t114=>(if t114=true then (if x3_1>0 then (if 0≤(wrap64 (x3_1-1)) then (if (wrap64 (x3_1-1))<(l0.length:Int) then (if ((rd_T56 l0 (wrap64 (x3_1-1))).f0)≥((rd_T56 l0 x3_1).f0) then (some false) else (spec_SeenRight.l0 kj1 l0 (wrap64 (x3_1+1)))) else (none)) else (none)) else (spec_SeenRight.l0 kj1 l0 (wrap64 (x3_1+1)))) else (some false))) else (none)) else (none))=some r:=by rw [if_pos rfl] at H;exact H
      clear H
      have H:=H1
      clear H1
      by_cases c5:0≤x3_1
      ·rw [if_pos c5] at H
       have c5b0:decide (0≤x3_1)=true:=decide_eq_true c5
       clear c5
       by_cases c6:x3_1<(l0.length:Int)
       ·rw [if_pos c6] at H
        have c6b0:decide (x3_1<(l0.length:Int))=true:=decide_eq_true c6
        clear c6
        replace H:=Option.bind_eq_some_iff.mp H
        obtain ⟨t114,A70,H⟩:=H
        replace H:(if t114=true then (if x3_1>0 then (if 0≤(wrap64 (x3_1-1)) then (if (wrap64 (x3_1-1))<(l0.length:Int) then (if ((rd_T56 l0 (wrap64 (x3_1-1))).f0)≥((rd_T56 l0 x3_1).f0) then (some false) else (spec_SeenRight.l0 kj1 l0 (wrap64 (x3_1+1)))) else (none)) else (none)) else (spec_SeenRight.l0 kj1 l0 (wrap64 (x3_1+1)))) else (some false))=some r:=H
        have A7:=Aside0.mk A70
        clear A70
        by_cases c8:t114=true
        ·subst c8
         have H1:(if x3_1>0 then (if 0≤(wrap64 (x3_1-1)) then (if (wrap64 (x3_1-1))<(l0.length:Int) then (if ((rd_T56 l0 (wrap64 (x3_1-1))).f0)≥((rd_T56 l0 x3_1).f0) then (some false) else (spec_SeenRight.l0 kj1 l0 (wrap64 (x3_1+1)))) else (none)) else (none)) else (spec_SeenRight.l0 kj1 l0 (wrap64 (x3_1+1))))=some r:=by rw [if_pos rfl] at H;exact H
         clear H
         have H:=H1
         clear H1
         by_cases c9:x3_1>0
         ·rw [if_pos c9] at H
          have c9b0:decide (0<x3_1)=true:=decide_eq_true c9
          clear c9
          obtain ⟨ji10,hji10⟩:∃ j_:Int,(wrap64 (x3_1-1))=j_:=⟨_,rfl⟩
          replace H:(if 0≤(ji10) then (if (ji10)<(l0.length:Int) then (if ((rd_T56 l0 (ji10)).f0)≥((rd_T56 l0 x3_1).f0) then (some false) else (spec_SeenRight.l0 kj1 l0 (wrap64 (x3_1+1)))) else (none)) else (none))=some r:=by first | (rw [hji10] at H;exact H) | (simp only [hji10] at H ⊢;exact H)
          (try rw [hji10] at A7)
          have hji10w:(IntKind.i64.wrap (x3_1-1))=ji10:=(i64_w _).trans hji10
          by_cases c11:0≤(ji10)
          ·rw [if_pos c11] at H
           have c11b0:decide (0≤(ji10))=true:=decide_eq_true c11
           clear c11
           by_cases c12:(ji10)<(l0.length:Int)
           ·rw [if_pos c12] at H
            have c12b0:decide ((ji10)<(l0.length:Int))=true:=decide_eq_true c12
            clear c12
            by_cases c13:((rd_T56 l0 (ji10)).f0)≥((rd_T56 l0 x3_1).f0)
            ·rw [if_pos c13] at H
             have c13b0:decide (((rd_T56 l0 x3_1).f0)≤((rd_T56 l0 (ji10)).f0))=true:=decide_eq_true c13
             clear c13
             obtain rfl:=Option.some.inj H
             try go_wp2
             have n0_:=Aside0.mk (below_drew1 HB.out)
             clear HB
             have HB:=n0_
             clear n0_
             have p113:0≤(x3_1:Int):=of_decide_eq_true (z1_)
             have q113:x3_1<(l0.length:Int):=of_decide_eq_true (z1_)
             obtain ⟨ad113,e113,hx113_0,hx113_1⟩:=at_T56 HR0.out x3_1 p113 q113
             have hw113_1:=hx113_1
             have hw113_0:=hx113_0
             cases e113
             replace hx113_0:=(HB.out.cell (World.block_lt_of_cell? w _ hx113_0)).trans hx113_0
             replace hx113_1:=(HB.out.cell (World.block_lt_of_cell? w _ hx113_1)).trans hx113_1
             replace p113:=eq_true p113
             replace q113:=eq_true q113
             have p115:0≤((ji10):Int):=of_decide_eq_true (z1_)
             have q115:(ji10)<(l0.length:Int):=of_decide_eq_true (z1_)
             obtain ⟨ad115,e115,hx115_0,hx115_1⟩:=at_T56 HR0.out (ji10) p115 q115
             have hw115_1:=hx115_1
             have hw115_0:=hx115_0
             obtain rfl:ad113=ad115:=(by injection e115)
             replace hx115_0:=(HB.out.cell (World.block_lt_of_cell? w _ hx115_0)).trans hx115_0
             replace hx115_1:=(HB.out.cell (World.block_lt_of_cell? w _ hx115_1)).trans hx115_1
             replace p115:=eq_true p115
             replace q115:=eq_true q115
             have p116:0≤(x3_1:Int):=of_decide_eq_true (z1_)
             have q116:x3_1<(l0.length:Int):=of_decide_eq_true (z1_)
             obtain ⟨ad116,e116,hx116_0,hx116_1⟩:=at_T56 HR0.out x3_1 p116 q116
             have hw116_1:=hx116_1
             have hw116_0:=hx116_0
             obtain rfl:ad113=ad116:=(by injection e116)
             replace hx116_0:=(HB.out.cell (World.block_lt_of_cell? w _ hx116_0)).trans hx116_0
             replace hx116_1:=(HB.out.cell (World.block_lt_of_cell? w _ hx116_1)).trans hx116_1
             replace p116:=eq_true p116
             replace q116:=eq_true q116
             refine start_ (n:=24) (S:=fun w'=>w'.cell? (ad113.add ((x3_1).toNat*2))=some (.int .i64 ((rd_T56 l0 x3_1).f0))∧w'.cell? ⟨(ad113.add ((x3_1).toNat*2)).block,(ad113.add ((x3_1).toNat*2)).off+1,none⟩=some (.int .i64 ((rd_T56 l0 x3_1).f1))∧w'.cell? (ad113.add (((ji10)).toNat*2))=some (.int .i64 ((rd_T56 l0 (ji10)).f0))∧w'.cell? ⟨(ad113.add (((ji10)).toNat*2)).block,(ad113.add (((ji10)).toNat*2)).off+1,none⟩=some (.int .i64 ((rd_T56 l0 (ji10)).f1))∧w'.cell? (ad113.add ((x3_1).toNat*2))=some (.int .i64 ((rd_T56 l0 x3_1).f0))∧w'.cell? ⟨(ad113.add ((x3_1).toNat*2)).block,(ad113.add ((x3_1).toNat*2)).off+1,none⟩=some (.int .i64 ((rd_T56 l0 x3_1).f1))) (ds:=[]) spec_SeenRight.q0 (by kernel_rfl) rfl rfl ⟨((HB.out.cell (World.block_lt_of_cell? w _ hw113_0)).trans hw113_0),((HB.out.cell (World.block_lt_of_cell? w _ hw113_1)).trans hw113_1),((HB.out.cell (World.block_lt_of_cell? w _ hw115_0)).trans hw115_0),((HB.out.cell (World.block_lt_of_cell? w _ hw115_1)).trans hw115_1),((HB.out.cell (World.block_lt_of_cell? w _ hw116_0)).trans hw116_0),((HB.out.cell (World.block_lt_of_cell? w _ hw116_1)).trans hw116_1)⟩ (fun hHeld=>?_);refine with_tabW spec_SeenRight.tab4 spec_SeenRight.bits4 (fun HT_ HW_=>?_)
             generalize wc.drew=w14 at HB hx113_0 hx113_1 hx115_0 hx115_1 hx116_0 hx116_1 hHeld ⊢
             refine pu_ 0 14 spec_SeenRight.q1 HT_.out ?_
             refine pu_ 1 15 spec_SeenRight.q2 HT_.out ?_
             refine pu_ 2 16 spec_SeenRight.q3 HT_.out ?_
             refine tk6_ 3 17 spec_SeenRight.q4 HT_.out HW_.out hHeld ?_
             refine o1_ 4 18 spec_SeenRight.q5 HT_.out (fun K hK=>?_)
             refine gs_ Try.func101 #[.agg #[.int .i64 ((rd_T56 l0 x3_1).f0),.int .i64 ((rd_T56 l0 x3_1).f1)]] ?_
             with_reducible refine (spec_l02Dot.calls ((rd_T56 l0 x3_1).f0) ((rd_T56 l0 x3_1).f1) true _ A7.out).mono ?_
             rintro e w15 ⟨rfl,hb⟩
             refine ⟨_,rfl,?_⟩
             have n0_:=Aside0.mk (below_step (z3_ HB.out) hb)
             clear HB
             have HB:=n0_
             clear n0_
             (try clear hb)
             refine hK.out _ _ ⟨((HB.out.cell (World.block_lt_of_cell? w _ hw113_0)).trans hw113_0),((HB.out.cell (World.block_lt_of_cell? w _ hw113_1)).trans hw113_1),((HB.out.cell (World.block_lt_of_cell? w _ hw115_0)).trans hw115_0),((HB.out.cell (World.block_lt_of_cell? w _ hw115_1)).trans hw115_1),((HB.out.cell (World.block_lt_of_cell? w _ hw116_0)).trans hw116_0),((HB.out.cell (World.block_lt_of_cell? w _ hw116_1)).trans hw116_1)⟩ (fun hHeld=>?_)
             clear hK K
             refine nm_ 18 ?_
             refine pu_ 5 19 spec_SeenRight.q6 HT_.out ?_
             refine pu_ 6 20 spec_SeenRight.q7 HT_.out ?_
             refine pu_ 7 21 spec_SeenRight.q8 HT_.out ?_
             refine pu_ 8 22 spec_SeenRight.q9 HT_.out ?_
             refine pu_ 9 23 spec_SeenRight.q10 HT_.out ?_
             refine pu_ 10 24 spec_SeenRight.q11 HT_.out ?_
             refine pu_ 11 25 spec_SeenRight.q12 HT_.out ?_
             refine pu_ 12 26 spec_SeenRight.q13 HT_.out ?_
             refine pu_ 13 27 spec_SeenRight.q14 HT_.out ?_
             refine pu_ 14 28 spec_SeenRight.q15 HT_.out ?_
             refine pu_ 16 30 spec_SeenRight.q16 HT_.out ?_
             refine pu_ 17 31 spec_SeenRight.q17 HT_.out ?_
             refine pu_ 18 32 spec_SeenRight.q18 HT_.out ?_
             refine pu_ 19 33 spec_SeenRight.q19 HT_.out ?_
             refine tk6_ 15 29 spec_SeenRight.q20 HT_.out HW_.out hHeld ?_
             refine tk6_ 20 34 spec_SeenRight.q21 HT_.out HW_.out hHeld ?_
             refine pu_ 21 35 spec_SeenRight.q22 HT_.out ?_
             refine pu_ 22 36 spec_SeenRight.q23 HT_.out ?_
             refine pu_ 23 37 spec_SeenRight.q24 HT_.out ?_
             refine done_ (done_of HT_.out (by kernel_rfl)) ?_
             try go_wp2
             go_ret
             exact ⟨by first | rfl | (simp [errW_none,errW_some] <;> rfl) | (simp only [← hji10];first | rfl | (simp [errW_none,errW_some] <;> rfl)) | (simp [*,errW_none,errW_some] <;> rfl),z3_ HB.out⟩
            ·rw [if_neg c13] at H
             have c13b0:decide (((rd_T56 l0 x3_1).f0)≤((rd_T56 l0 (ji10)).f0))=false:=decide_eq_false c13
             clear c13
             have H':=Aside0.mk H
             clear H
             try go_wp2
             have n0_:=Aside0.mk (below_drew1 HB.out)
             clear HB
             have HB:=n0_
             clear n0_
             have p113:0≤(x3_1:Int):=of_decide_eq_true (z1_)
             have q113:x3_1<(l0.length:Int):=of_decide_eq_true (z1_)
             obtain ⟨ad113,e113,hx113_0,hx113_1⟩:=at_T56 HR0.out x3_1 p113 q113
             have hw113_1:=hx113_1
             have hw113_0:=hx113_0
             cases e113
             replace hx113_0:=(HB.out.cell (World.block_lt_of_cell? w _ hx113_0)).trans hx113_0
             replace hx113_1:=(HB.out.cell (World.block_lt_of_cell? w _ hx113_1)).trans hx113_1
             replace p113:=eq_true p113
             replace q113:=eq_true q113
             have p115:0≤((ji10):Int):=of_decide_eq_true (z1_)
             have q115:(ji10)<(l0.length:Int):=of_decide_eq_true (z1_)
             obtain ⟨ad115,e115,hx115_0,hx115_1⟩:=at_T56 HR0.out (ji10) p115 q115
             have hw115_1:=hx115_1
             have hw115_0:=hx115_0
             obtain rfl:ad113=ad115:=(by injection e115)
             replace hx115_0:=(HB.out.cell (World.block_lt_of_cell? w _ hx115_0)).trans hx115_0
             replace hx115_1:=(HB.out.cell (World.block_lt_of_cell? w _ hx115_1)).trans hx115_1
             replace p115:=eq_true p115
             replace q115:=eq_true q115
             have p116:0≤(x3_1:Int):=of_decide_eq_true (z1_)
             have q116:x3_1<(l0.length:Int):=of_decide_eq_true (z1_)
             obtain ⟨ad116,e116,hx116_0,hx116_1⟩:=at_T56 HR0.out x3_1 p116 q116
             have hw116_1:=hx116_1
             have hw116_0:=hx116_0
             obtain rfl:ad113=ad116:=(by injection e116)
             replace hx116_0:=(HB.out.cell (World.block_lt_of_cell? w _ hx116_0)).trans hx116_0
             replace hx116_1:=(HB.out.cell (World.block_lt_of_cell? w _ hx116_1)).trans hx116_1
             replace p116:=eq_true p116
             replace q116:=eq_true q116
             refine start_ (n:=24) (S:=fun w'=>w'.cell? (ad113.add ((x3_1).toNat*2))=some (.int .i64 ((rd_T56 l0 x3_1).f0))∧w'.cell? ⟨(ad113.add ((x3_1).toNat*2)).block,(ad113.add ((x3_1).toNat*2)).off+1,none⟩=some (.int .i64 ((rd_T56 l0 x3_1).f1))∧w'.cell? (ad113.add (((ji10)).toNat*2))=some (.int .i64 ((rd_T56 l0 (ji10)).f0))∧w'.cell? ⟨(ad113.add (((ji10)).toNat*2)).block,(ad113.add (((ji10)).toNat*2)).off+1,none⟩=some (.int .i64 ((rd_T56 l0 (ji10)).f1))∧w'.cell? (ad113.add ((x3_1).toNat*2))=some (.int .i64 ((rd_T56 l0 x3_1).f0))∧w'.cell? ⟨(ad113.add ((x3_1).toNat*2)).block,(ad113.add ((x3_1).toNat*2)).off+1,none⟩=some (.int .i64 ((rd_T56 l0 x3_1).f1))) (ds:=[]) spec_SeenRight.q0 (by kernel_rfl) rfl rfl ⟨((HB.out.cell (World.block_lt_of_cell? w _ hw113_0)).trans hw113_0),((HB.out.cell (World.block_lt_of_cell? w _ hw113_1)).trans hw113_1),((HB.out.cell (World.block_lt_of_cell? w _ hw115_0)).trans hw115_0),((HB.out.cell (World.block_lt_of_cell? w _ hw115_1)).trans hw115_1),((HB.out.cell (World.block_lt_of_cell? w _ hw116_0)).trans hw116_0),((HB.out.cell (World.block_lt_of_cell? w _ hw116_1)).trans hw116_1)⟩ (fun hHeld=>?_);refine with_tabW spec_SeenRight.tab4 spec_SeenRight.bits4 (fun HT_ HW_=>?_)
             generalize wc.drew=w16 at HB hx113_0 hx113_1 hx115_0 hx115_1 hx116_0 hx116_1 hHeld ⊢
             refine pu_ 0 14 spec_SeenRight.q1 HT_.out ?_
             refine pu_ 1 15 spec_SeenRight.q2 HT_.out ?_
             refine pu_ 2 16 spec_SeenRight.q3 HT_.out ?_
             refine tk6_ 3 17 spec_SeenRight.q4 HT_.out HW_.out hHeld ?_
             refine o1_ 4 18 spec_SeenRight.q5 HT_.out (fun K hK=>?_)
             refine gs_ Try.func101 #[.agg #[.int .i64 ((rd_T56 l0 x3_1).f0),.int .i64 ((rd_T56 l0 x3_1).f1)]] ?_
             with_reducible refine (spec_l02Dot.calls ((rd_T56 l0 x3_1).f0) ((rd_T56 l0 x3_1).f1) true _ A7.out).mono ?_
             rintro e w17 ⟨rfl,hb⟩
             refine ⟨_,rfl,?_⟩
             have n0_:=Aside0.mk (below_step (z3_ HB.out) hb)
             clear HB
             have HB:=n0_
             clear n0_
             (try clear hb)
             refine hK.out _ _ ⟨((HB.out.cell (World.block_lt_of_cell? w _ hw113_0)).trans hw113_0),((HB.out.cell (World.block_lt_of_cell? w _ hw113_1)).trans hw113_1),((HB.out.cell (World.block_lt_of_cell? w _ hw115_0)).trans hw115_0),((HB.out.cell (World.block_lt_of_cell? w _ hw115_1)).trans hw115_1),((HB.out.cell (World.block_lt_of_cell? w _ hw116_0)).trans hw116_0),((HB.out.cell (World.block_lt_of_cell? w _ hw116_1)).trans hw116_1)⟩ (fun hHeld=>?_)
             clear hK K
             refine nm_ 18 ?_
             refine pu_ 5 19 spec_SeenRight.q6 HT_.out ?_
             refine pu_ 6 20 spec_SeenRight.q7 HT_.out ?_
             refine pu_ 7 21 spec_SeenRight.q8 HT_.out ?_
             refine pu_ 8 22 spec_SeenRight.q9 HT_.out ?_
             refine pu_ 9 23 spec_SeenRight.q10 HT_.out ?_
             refine pu_ 10 24 spec_SeenRight.q11 HT_.out ?_
             refine pu_ 11 25 spec_SeenRight.q12 HT_.out ?_
             refine pu_ 12 26 spec_SeenRight.q13 HT_.out ?_
             refine pu_ 13 27 spec_SeenRight.q14 HT_.out ?_
             refine pu_ 14 28 spec_SeenRight.q15 HT_.out ?_
             refine pu_ 16 30 spec_SeenRight.q16 HT_.out ?_
             refine pu_ 17 31 spec_SeenRight.q17 HT_.out ?_
             refine pu_ 18 32 spec_SeenRight.q18 HT_.out ?_
             refine pu_ 19 33 spec_SeenRight.q19 HT_.out ?_
             refine tk6_ 15 29 spec_SeenRight.q20 HT_.out HW_.out hHeld ?_
             refine tk6_ 20 34 spec_SeenRight.q21 HT_.out HW_.out hHeld ?_
             refine pu_ 21 35 spec_SeenRight.q22 HT_.out ?_
             refine pu_ 22 36 spec_SeenRight.q23 HT_.out ?_
             refine pu_ 23 37 spec_SeenRight.q24 HT_.out ?_
             refine done_ (done_of HT_.out (by kernel_rfl)) ?_
             try go_wp2
             go_roundg kj1
             case measure=>have:=HK1.out;have:=HJ1.out;omega
             case rel=>exact ⟨(wrap64 (x3_1+1)),(z2_),H',⟨by have:=HK1.out;have:=HJ1.out;omega⟩,⟨z3_ HB.out⟩⟩
           ·rw [if_neg c12] at H
            exact absurd H (by simp)
          ·rw [if_neg c11] at H
           exact absurd H (by simp)
         ·rw [if_neg c9] at H
          have c9b0:decide (0<x3_1)=false:=decide_eq_false c9
          clear c9
          have H':=Aside0.mk H
          clear H
          try go_wp2
          have n0_:=Aside0.mk (below_drew1 HB.out)
          clear HB
          have HB:=n0_
          clear n0_
          have p113:0≤(x3_1:Int):=of_decide_eq_true (z1_)
          have q113:x3_1<(l0.length:Int):=of_decide_eq_true (z1_)
          obtain ⟨ad113,e113,hx113_0,hx113_1⟩:=at_T56 HR0.out x3_1 p113 q113
          have hw113_1:=hx113_1
          have hw113_0:=hx113_0
          cases e113
          replace hx113_0:=(HB.out.cell (World.block_lt_of_cell? w _ hx113_0)).trans hx113_0
          replace hx113_1:=(HB.out.cell (World.block_lt_of_cell? w _ hx113_1)).trans hx113_1
          replace p113:=eq_true p113
          replace q113:=eq_true q113
          refine start_ (n:=24) (S:=fun w'=>w'.cell? (ad113.add ((x3_1).toNat*2))=some (.int .i64 ((rd_T56 l0 x3_1).f0))∧w'.cell? ⟨(ad113.add ((x3_1).toNat*2)).block,(ad113.add ((x3_1).toNat*2)).off+1,none⟩=some (.int .i64 ((rd_T56 l0 x3_1).f1))) (ds:=[]) spec_SeenRight.q0 (by kernel_rfl) rfl rfl ⟨((HB.out.cell (World.block_lt_of_cell? w _ hw113_0)).trans hw113_0),((HB.out.cell (World.block_lt_of_cell? w _ hw113_1)).trans hw113_1)⟩ (fun hHeld=>?_);refine with_tabW spec_SeenRight.tab4 spec_SeenRight.bits4 (fun HT_ HW_=>?_)
          generalize wc.drew=w18 at HB hx113_0 hx113_1 hHeld ⊢
          refine pu_ 0 14 spec_SeenRight.q1 HT_.out ?_
          refine pu_ 1 15 spec_SeenRight.q2 HT_.out ?_
          refine pu_ 2 16 spec_SeenRight.q3 HT_.out ?_
          refine tk2_ 3 17 spec_SeenRight.q4 HT_.out HW_.out hHeld ?_
          refine o1_ 4 18 spec_SeenRight.q5 HT_.out (fun K hK=>?_)
          refine gs_ Try.func101 #[.agg #[.int .i64 ((rd_T56 l0 x3_1).f0),.int .i64 ((rd_T56 l0 x3_1).f1)]] ?_
          with_reducible refine (spec_l02Dot.calls ((rd_T56 l0 x3_1).f0) ((rd_T56 l0 x3_1).f1) true _ A7.out).mono ?_
          rintro e w19 ⟨rfl,hb⟩
          refine ⟨_,rfl,?_⟩
          have n0_:=Aside0.mk (below_step (z3_ HB.out) hb)
          clear HB
          have HB:=n0_
          clear n0_
          (try clear hb)
          refine hK.out _ _ ⟨((HB.out.cell (World.block_lt_of_cell? w _ hw113_0)).trans hw113_0),((HB.out.cell (World.block_lt_of_cell? w _ hw113_1)).trans hw113_1)⟩ (fun hHeld=>?_)
          clear hK K
          refine nm_ 18 ?_
          refine pu_ 5 19 spec_SeenRight.q6 HT_.out ?_
          refine pu_ 6 20 spec_SeenRight.q7 HT_.out ?_
          refine pu_ 7 21 spec_SeenRight.q8 HT_.out ?_
          refine pu_ 8 22 spec_SeenRight.q9 HT_.out ?_
          refine pu_ 9 23 spec_SeenRight.q10 HT_.out ?_
          refine pn_ 10 24 spec_SeenRight.q11 HT_.out ?_
          refine pn_ 11 25 spec_SeenRight.q12 HT_.out ?_
          refine pn_ 12 26 spec_SeenRight.q13 HT_.out ?_
          refine pn_ 13 27 spec_SeenRight.q14 HT_.out ?_
          refine pn_ 14 28 spec_SeenRight.q15 HT_.out ?_
          refine pn_ 15 29 spec_SeenRight.q25 HT_.out ?_
          refine pn_ 16 30 spec_SeenRight.q26 HT_.out ?_
          refine pn_ 17 31 spec_SeenRight.q27 HT_.out ?_
          refine pn_ 18 32 spec_SeenRight.q28 HT_.out ?_
          refine pn_ 19 33 spec_SeenRight.q20 HT_.out ?_
          refine pn_ 20 34 spec_SeenRight.q21 HT_.out ?_
          refine pn_ 21 35 spec_SeenRight.q22 HT_.out ?_
          refine pu_ 22 36 spec_SeenRight.q23 HT_.out ?_
          refine pu_ 23 37 spec_SeenRight.q24 HT_.out ?_
          refine done_ (done_of HT_.out (by kernel_rfl)) ?_
          try go_wp2
          go_roundg kj1
          case measure=>have:=HK1.out;have:=HJ1.out;omega
          case rel=>exact ⟨(wrap64 (x3_1+1)),(z2_),H',⟨by have:=HK1.out;have:=HJ1.out;omega⟩,⟨z3_ HB.out⟩⟩
        ·replace c8:=Bool.eq_false_iff.mpr c8
         subst c8
         have H1:(some false)=some r:=by rw [if_neg (show ¬ (false=true) by decide)] at H;exact H
         clear H
         have H:=H1
         clear H1
         obtain rfl:=Option.some.inj H
         try go_wp2
         have n0_:=Aside0.mk (below_drew1 HB.out)
         clear HB
         have HB:=n0_
         clear n0_
         have p113:0≤(x3_1:Int):=of_decide_eq_true (z1_)
         have q113:x3_1<(l0.length:Int):=of_decide_eq_true (z1_)
         obtain ⟨ad113,e113,hx113_0,hx113_1⟩:=at_T56 HR0.out x3_1 p113 q113
         have hw113_1:=hx113_1
         have hw113_0:=hx113_0
         cases e113
         replace hx113_0:=(HB.out.cell (World.block_lt_of_cell? w _ hx113_0)).trans hx113_0
         replace hx113_1:=(HB.out.cell (World.block_lt_of_cell? w _ hx113_1)).trans hx113_1
         replace p113:=eq_true p113
         replace q113:=eq_true q113
         refine start_ (n:=24) (S:=fun w'=>w'.cell? (ad113.add ((x3_1).toNat*2))=some (.int .i64 ((rd_T56 l0 x3_1).f0))∧w'.cell? ⟨(ad113.add ((x3_1).toNat*2)).block,(ad113.add ((x3_1).toNat*2)).off+1,none⟩=some (.int .i64 ((rd_T56 l0 x3_1).f1))) (ds:=[]) spec_SeenRight.q0 (by kernel_rfl) rfl rfl ⟨((HB.out.cell (World.block_lt_of_cell? w _ hw113_0)).trans hw113_0),((HB.out.cell (World.block_lt_of_cell? w _ hw113_1)).trans hw113_1)⟩ (fun hHeld=>?_);refine with_tabW spec_SeenRight.tab4 spec_SeenRight.bits4 (fun HT_ HW_=>?_)
         generalize wc.drew=w20 at HB hx113_0 hx113_1 hHeld ⊢
         refine pu_ 0 14 spec_SeenRight.q1 HT_.out ?_
         refine pu_ 1 15 spec_SeenRight.q2 HT_.out ?_
         refine pu_ 2 16 spec_SeenRight.q3 HT_.out ?_
         refine tk2_ 3 17 spec_SeenRight.q4 HT_.out HW_.out hHeld ?_
         refine o1_ 4 18 spec_SeenRight.q5 HT_.out (fun K hK=>?_)
         refine gs_ Try.func101 #[.agg #[.int .i64 ((rd_T56 l0 x3_1).f0),.int .i64 ((rd_T56 l0 x3_1).f1)]] ?_
         with_reducible refine (spec_l02Dot.calls ((rd_T56 l0 x3_1).f0) ((rd_T56 l0 x3_1).f1) false _ A7.out).mono ?_
         rintro e w21 ⟨rfl,hb⟩
         refine ⟨_,rfl,?_⟩
         have n0_:=Aside0.mk (below_step (z3_ HB.out) hb)
         clear HB
         have HB:=n0_
         clear n0_
         (try clear hb)
         refine hK.out _ _ ⟨((HB.out.cell (World.block_lt_of_cell? w _ hw113_0)).trans hw113_0),((HB.out.cell (World.block_lt_of_cell? w _ hw113_1)).trans hw113_1)⟩ (fun hHeld=>?_)
         clear hK K
         refine nm_ 18 ?_
         refine pu_ 5 19 spec_SeenRight.q6 HT_.out ?_
         refine pu_ 6 20 spec_SeenRight.q7 HT_.out ?_
         refine pn_ 7 21 spec_SeenRight.q8 HT_.out ?_
         refine pn_ 8 22 spec_SeenRight.q9 HT_.out ?_
         refine pn_ 9 23 spec_SeenRight.q10 HT_.out ?_
         refine pn_ 10 24 spec_SeenRight.q11 HT_.out ?_
         refine pn_ 11 25 spec_SeenRight.q12 HT_.out ?_
         refine pn_ 12 26 spec_SeenRight.q13 HT_.out ?_
         refine pn_ 13 27 spec_SeenRight.q14 HT_.out ?_
         refine pn_ 14 28 spec_SeenRight.q15 HT_.out ?_
         refine pn_ 15 29 spec_SeenRight.q25 HT_.out ?_
         refine pn_ 16 30 spec_SeenRight.q26 HT_.out ?_
         refine pn_ 17 31 spec_SeenRight.q27 HT_.out ?_
         refine pn_ 18 32 spec_SeenRight.q28 HT_.out ?_
         refine pn_ 19 33 spec_SeenRight.q20 HT_.out ?_
         refine pn_ 20 34 spec_SeenRight.q21 HT_.out ?_
         refine pn_ 21 35 spec_SeenRight.q22 HT_.out ?_
         refine pn_ 22 36 spec_SeenRight.q23 HT_.out ?_
         refine pu_ 23 37 spec_SeenRight.q24 HT_.out ?_
         refine done_ (done_of HT_.out (by kernel_rfl)) ?_
         try go_wp2
         go_ret
         exact ⟨z8_,z3_ HB.out⟩
       ·rw [if_neg c6] at H
        exact absurd H (by simp)
      ·rw [if_neg c5] at H
       exact absurd H (by simp)
     ·replace c4:=Bool.eq_false_iff.mpr c4
      subst c4
      have H1:(some (decide ((l0.length:Int)≤5)))=some r:=by rw [if_neg (show ¬ (false=true) by decide)] at H;exact H
      clear H
      have H:=H1
      clear H1
      obtain rfl:=Option.some.inj H
      go_wp2
      go_ret
      exact ⟨z8_,z3_ HB.out⟩


/-! ### spec_l02Of: function 71 -/
def spec_l02Of.l0:Nat→List (S56)→Int→Int→Option (Int)
 | 0,_,_,_=>none
 | k+1,x0,x1,x5=>if x5<(x0.length:Int) then (if 0≤x5 then (if ((rd_T56 x0 x5).f0)=x1 then (some ((rd_T56 x0 x5).f1)) else (spec_l02Of.l0 k x0 x1 (wrap64 (x5+1)))) else (none)) else (some 0)
def spec_l02Of.f (k:Nat) (l0:List (S56)) (a1:Int):Option (Int):=spec_l02Of.l0 k l0 a1 0
theorem spec_l02Of.mono_l:∀ k,(∀ y0 y1 y2,LeO (spec_l02Of.l0 k y0 y1 y2) (spec_l02Of.l0 (k+1) y0 y1 y2))
 | 0=>fun _ _ _ r h=>by simp [spec_l02Of.l0] at h
 | k+1=>by
  have ih0:=spec_l02Of.mono_l k
  ·intro y0 y1 y2
   unfold spec_l02Of.l0
   repeat' first
   | (with_reducible exact ih0 _ _ _)
   | (with_reducible exact LeO.refl _)
   | (with_reducible exact LeO.none _)
   | (with_reducible refine LeO.ite ?_ ?_)
   | (with_reducible refine LeO.bind ?_ (fun _=>?_))
   | exact ih0 _ _ _
   | exact LeO.none _
   | refine LeO.ite ?_ ?_
   | refine LeO.bind ?_ (fun _=>?_)
theorem spec_l02Of.mono:∀ a0 a1 k,LeO (spec_l02Of.f k a0 a1) (spec_l02Of.f (k+1) a0 a1):=by
 intro a0 a1 k
 have ih0:=spec_l02Of.mono_l k
 unfold spec_l02Of.f
 repeat' first
   | (with_reducible exact ih0 _ _ _)
   | (with_reducible exact LeO.refl _)
   | (with_reducible exact LeO.none _)
   | (with_reducible refine LeO.ite ?_ ?_)
   | (with_reducible refine LeO.bind ?_ (fun _=>?_))
   | exact ih0 _ _ _
   | exact LeO.none _
   | refine LeO.ite ?_ ?_
   | refine LeO.bind ?_ (fun _=>?_)
set_option maxHeartbeats 8000000 in
set_option maxRecDepth 100000 in
theorem spec_l02Of.calls (k:Nat) (A0:Option Addr) (c0:Nat) (l0:List (S56)) (a1:Int) (r:Int) (w:World) (hr0:Kd.C k56 w A0 l0.length l0) (hc0:l0.length≤c0) (h:spec_l02Of.f k l0 a1=some r) :
  Calls Try.prog 71 #[.slice A0 l0.length c0,.int .i64 a1] w fun e w'=>e = .returned (.int .i64 r)∧Drawn0 w w':=by
 have HR0:=Aside0.mk hr0
 have HC0:=Aside0.mk hc0
 clear hr0 hc0
 have H:(spec_l02Of.l0 k l0 a1 0)=some r:=h
 clear h
 have H':=Aside0.mk H
 clear H
 go_enter Try.func71,Try.ntmps71
 go_wp2
 go_loopg [5] k (fun kq v5 w'=>∃ (x5_1:Int),v5 = .int .i64 x5_1∧Aside0 (spec_l02Of.l0 kq l0 a1 x5_1=some r)∧Aside0 (kq≤k)∧Drawn0 w w')
 case atStart=>exact ⟨(0),(z2_),H',⟨Nat.le_refl _⟩,z11_⟩
 case round =>
  clear H'
  try clear p2
  obtain ⟨x5_1,rfl,HA,HK1,⟨m1,rfl⟩⟩:=hrel
  cases gk with
  | zero=>exact absurd HA.out (by simp [spec_l02Of.l0])
  | succ k1 =>
   have H:=HA.out
   clear HA
   simp only [spec_l02Of.l0] at H
   by_cases c3:x5_1<(l0.length:Int)
   ·rw [if_pos c3] at H
    have c3b0:decide (x5_1<(l0.length:Int))=true:=decide_eq_true c3
    clear c3
    by_cases c4:0≤x5_1
    ·rw [if_pos c4] at H
     have c4b0:decide (0≤x5_1)=true:=decide_eq_true c4
     clear c4
     by_cases c5:((rd_T56 l0 x5_1).f0)=a1
     ·rw [if_pos c5] at H
      have c5b0:(((rd_T56 l0 x5_1).f0) == a1)=true:=beq_iff_eq.mpr c5
      have c5b1:(((rd_T56 l0 x5_1).f0) != a1)=false:=bne_eq_false_iff_eq.mpr c5
      clear c5
      obtain rfl:=Option.some.inj H
      have p117:0≤(x5_1:Int):=of_decide_eq_true (z1_)
      have q117:x5_1<(l0.length:Int):=of_decide_eq_true (z1_)
      obtain ⟨ad117,e117,hx117_0,hx117_1⟩:=at_T56 HR0.out x5_1 p117 q117
      cases e117
      replace p117:=eq_true p117
      replace q117:=eq_true q117
      have p118:0≤(x5_1:Int):=of_decide_eq_true (z1_)
      have q118:x5_1<(l0.length:Int):=of_decide_eq_true (z1_)
      obtain ⟨ad118,e118,hx118_0,hx118_1⟩:=at_T56 HR0.out x5_1 p118 q118
      obtain rfl:ad117=ad118:=(by injection e118)
      replace p118:=eq_true p118
      replace q118:=eq_true q118
      go_wp2
      go_ret
      exact ⟨z2_,z11_⟩
     ·rw [if_neg c5] at H
      have c5b0:(((rd_T56 l0 x5_1).f0) == a1)=false:=beq_eq_false_iff_ne.mpr c5
      have c5b1:(((rd_T56 l0 x5_1).f0) != a1)=true:=bne_iff_ne.mpr c5
      have H':=Aside0.mk H
      clear H
      have p117:0≤(x5_1:Int):=of_decide_eq_true (z1_)
      have q117:x5_1<(l0.length:Int):=of_decide_eq_true (z1_)
      obtain ⟨ad117,e117,hx117_0,hx117_1⟩:=at_T56 HR0.out x5_1 p117 q117
      cases e117
      replace p117:=eq_true p117
      replace q117:=eq_true q117
      go_wp2
      go_roundg k1
      case measure=>have:=HK1.out;omega
      case rel=>exact ⟨(wrap64 (x5_1+1)),(z2_),H',⟨by have:=HK1.out;omega⟩,z11_⟩
    ·rw [if_neg c4] at H
     exact absurd H (by simp)
   ·rw [if_neg c3] at H
    have c3b0:decide (x5_1<(l0.length:Int))=false:=decide_eq_false c3
    clear c3
    obtain rfl:=Option.some.inj H
    go_wp2
    go_ret
    exact ⟨z2_,z11_⟩

end Go.Proofs.Ytphbgcfpcadabaa.P
