/- For all messages, kinds and sets the program's MsgTurn and the reference's return the same, of its own memory, and leave what they are given. No condition. (Part 1 of 6: written by programs of this workplace and by hand, merged.) -/
import Derived.Test.YtphbgcfpcadabaaProg
import Derived.Below
import Derived.Deep.Draws
import Derived.Deep.AppendLies
import Derived.Maps.AppendAt
import Derived.OwnWalk
import Derived.Laws.BytesArg
import Derived.Laws.MakeOwn
import Derived.Laws.OwnMore
import Derived.Deep.OwnRows
import Derived.Tactics
import Derived.Lib.ConvBytes
import Derived.Laws.Slices
import Derived.WalkKit
import Derived.KernelRfl
import Derived.RowKit3
import Derived.Deep.LoopGhost
import Derived.Deep.QuietTactic
import Derived.BigQuiet
import Derived.WideLaws
import Derived.Deep.DeepCutAuto
import Derived.Deep.CutBlock
import Derived.Deep.RegionHeld3
import Derived.Laws.Rows
import Derived.Lib.AppendStr
import Derived.ArgAppend
import Derived.Laws.IdiomCopy
import Derived.OrdersHeld
import Derived.Laws.BitsLemmas
import Derived.RowKit
import Derived.Lib.Bytealg
import Derived.Lib.Walk
import Derived.Test.YtphbgcfpcadabaaMFnExactMsgTurnWWords
import Derived.Test.YtphbgcfpcadabaaMFnExactMsgTurnWLast
import Derived.Test.YtphbgcfpcadabaaMFnExactMsgTurnWTab
import Derived.Test.YtphbgcfpcadabaaMFnExactMsgTurnWApart
import Derived.Test.YtphbgcfpcadabaaMFnExactMsgTurnWFoot
import Derived.Test.YtphbgcfpcadabaaMFnExactMsgTurnWKept
import Derived.Test.YtphbgcfpcadabaaMFnExactMsgTurnWShare
import Derived.Test.YtphbgcfpcadabaaMFnExactMsgTurnWN
import Derived.Test.YtphbgcfpcadabaaMFnExactMsgTurnWEqStruct
import Derived.Test.YtphbgcfpcadabaaMFnExactMsgTurnWRepsOne
import Derived.Test.YtphbgcfpcadabaaMFnExactMsgTurnWGuard
import Derived.Test.YtphbgcfpcadabaaMFnExactMsgTurnWMore
import Derived.ChangeArms
import Derived.ChangeSlices
import Derived.WideShapes
set_option linter.unusedVariables false
set_option linter.unusedSimpArgs false

namespace Go.Proofs.Ytphbgcfpcadabaa.P
open Go.RowKit Go.Proofs.YtphbgcfpcadabaaW.PrintWords Go.Proofs.YtphbgcfpcadabaaW.PrintLast Go.Proofs.YtphbgcfpcadabaaW.PrintMore
attribute [local go_sem] max2_int min2_int max_two min_two max_three min_three max_four min_four   -- for this text's walks alone
set_option linter.unusedVariables false
set_option linter.unusedSimpArgs false

theorem sa_ {α:Type _} (l:List α) (i:Nat) (a:α):l.toArray.setIfInBounds i a=(l.set i a).toArray:=List.setIfInBounds_toArray ..
theorem s0_ {α:Type _} (x:α) (l:List α) (a:α):(x :: l).set 0 a=a :: l:=List.set_cons_zero ..
theorem ss_ {α:Type _} (x:α) (l:List α) (n:Nat) (a:α):(x :: l).set (n+1) a=x :: l.set n a:=List.set_cons_succ ..
section
variable {P:Program} {ops:Array Oper} {Q:Exit→Act→World→Prop}
end



def errW:Option Int→Value
  | none=>.nilIface
  | some c=>.iface 0 (.int .i64 c)
theorem errW_none:errW none = .nilIface:=rfl
theorem errW_some (c:Int):errW (some c) = .iface 0 (.int .i64 c):=rfl

theorem info56:(Try.prog.info? 56).map (fun i=>(i.zero,i.size,i.bytes))=some (some (.agg #[(.int .i64 0),(.int .i64 0)]),2,16):=by kernel_rfl
theorem info91:(Try.prog.info? 91).map (fun i=>(i.zero,i.size,i.bytes))=some (some (.agg #[(.int .i64 0),(.int .i64 0),(.bool false),(.string ⟨#[]⟩)]),4,40):=by kernel_rfl
-- the values' own types
/-! #### struct type 100 -/
structure S100 where
  f0:Int
  f1:Int
def z100:S100:=⟨(0:Int),(0:Int)⟩
def k100:Kd S100:=Kd.iso (Kd.pair (Kd.int .i64) (Kd.int .i64)) (fun x:S100=>(x.f0,x.f1))
theorem k100_open {w:World} {x:S100} {cs:List Value} (h:k100.K w x cs):cs=[.int .i64 x.f0,.int .i64 x.f1]:=by
  obtain ⟨_,_,rfl,rfl,rfl⟩:=h
  exact rfl
def rd_T100 (xs:List S100) (i:Int):S100:=xs.getD i.toNat z100
theorem at_T100 {w:World} {A:Option Addr} {n:Nat} {xs:List S100} (h:Kd.C k100 w A n xs) (i:Int) (h0:0≤i) (h1:i<n):∃ ad , A=some ad∧w.cell? (ad.add (i.toNat*2))=some (.int .i64 (rd_T100 xs i).f0)∧w.cell? ⟨(ad.add (i.toNat*2)).block,(ad.add (i.toNat*2)).off+1,none⟩=some (.int .i64 (rd_T100 xs i).f1):=by
  obtain ⟨ad,c,e,_,hK,hc0⟩:=Kd.C_get h z100 i h0 h1
  have hc:∀ j u,c[j]? = some u→w.cell? (ad.add (i.toNat*2+j))=some u:=hc0
  obtain rfl:=k100_open hK
  exact ⟨ad,e,hc 0 _ rfl,by rw [← add_field _ _ 1 (by omega)];exact hc 1 _ rfl⟩

/-! #### struct type 107 -/
structure S107 where
  f0:S100
  f1:Bool
  f2:ByteArray
def z107:S107:=⟨z100,false,(⟨#[]⟩:ByteArray)⟩
def k107:Kd S107:=Kd.iso (Kd.pair k100 (Kd.pair Kd.bool Kd.string)) (fun x:S107=>(x.f0,x.f1,x.f2))
theorem k107_open {w:World} {x:S107} {cs:List Value} (h:k107.K w x cs):cs=[.int .i64 x.f0.f0,.int .i64 x.f0.f1,.bool x.f1,.string x.f2]:=by
  obtain ⟨_,_,rfl,s0,⟨_,_,rfl,rfl,rfl⟩⟩:=h
  obtain rfl:=k100_open s0
  exact rfl
def rd_T107 (xs:List S107) (i:Int):S107:=xs.getD i.toNat z107
theorem at_T107 {w:World} {A:Option Addr} {n:Nat} {xs:List S107} (h:Kd.C k107 w A n xs) (i:Int) (h0:0≤i) (h1:i<n):∃ ad , A=some ad∧w.cell? (ad.add (i.toNat*4))=some (.int .i64 (rd_T107 xs i).f0.f0)∧w.cell? ⟨(ad.add (i.toNat*4)).block,(ad.add (i.toNat*4)).off+1,none⟩=some (.int .i64 (rd_T107 xs i).f0.f1)∧w.cell? ⟨(ad.add (i.toNat*4)).block,(ad.add (i.toNat*4)).off+2,none⟩=some (.bool (rd_T107 xs i).f1)∧w.cell? ⟨(ad.add (i.toNat*4)).block,(ad.add (i.toNat*4)).off+3,none⟩=some (.string (rd_T107 xs i).f2):=by
  obtain ⟨ad,c,e,_,hK,hc0⟩:=Kd.C_get h z107 i h0 h1
  have hc:∀ j u,c[j]? = some u→w.cell? (ad.add (i.toNat*4+j))=some u:=hc0
  obtain rfl:=k107_open hK
  exact ⟨ad,e,hc 0 _ rfl,by rw [← add_field _ _ 1 (by omega)];exact hc 1 _ rfl,by rw [← add_field _ _ 2 (by omega)];exact hc 2 _ rfl,by rw [← add_field _ _ 3 (by omega)];exact hc 3 _ rfl⟩

/-! #### struct type 56 -/
structure S56 where
  f0:Int
  f1:Int
def z56:S56:=⟨(0:Int),(0:Int)⟩
def k56:Kd S56:=Kd.iso (Kd.pair (Kd.int .i64) (Kd.int .i64)) (fun x:S56=>(x.f0,x.f1))
theorem k56_open {w:World} {x:S56} {cs:List Value} (h:k56.K w x cs):cs=[.int .i64 x.f0,.int .i64 x.f1]:=by
  obtain ⟨_,_,rfl,rfl,rfl⟩:=h
  exact rfl
theorem k56_openM {w:World} {base:Nat} {ok:Nat→Prop} {x:S56} {cs:List Value} (h:k56.M w base ok x cs):cs=[.int .i64 x.f0,.int .i64 x.f1]:=by
  obtain ⟨_,_,rfl,rfl,rfl⟩:=h
  exact rfl
theorem k56_mkM (w:World) (base:Nat) (ok:Nat→Prop) (x:S56)  : k56.M w base ok x [.int .i64 x.f0,.int .i64 x.f1]:=⟨[.int .i64 x.f0],[.int .i64 x.f1],rfl,rfl,rfl⟩
def rd_T56 (xs:List S56) (i:Int):S56:=xs.getD i.toNat z56
theorem at_T56 {w:World} {A:Option Addr} {n:Nat} {xs:List S56} (h:Kd.C k56 w A n xs) (i:Int) (h0:0≤i) (h1:i<n):∃ ad , A=some ad∧w.cell? (ad.add (i.toNat*2))=some (.int .i64 (rd_T56 xs i).f0)∧w.cell? ⟨(ad.add (i.toNat*2)).block,(ad.add (i.toNat*2)).off+1,none⟩=some (.int .i64 (rd_T56 xs i).f1):=by
  obtain ⟨ad,c,e,_,hK,hc0⟩:=Kd.C_get h z56 i h0 h1
  have hc:∀ j u,c[j]? = some u→w.cell? (ad.add (i.toNat*2+j))=some u:=hc0
  obtain rfl:=k56_open hK
  exact ⟨ad,e,hc 0 _ rfl,by rw [← add_field _ _ 1 (by omega)];exact hc 1 _ rfl⟩

/-! #### struct type 91 -/
structure S91 where
  f0:S56
  f1:Bool
  f2:ByteArray
def z91:S91:=⟨z56,false,(⟨#[]⟩:ByteArray)⟩
def k91:Kd S91:=Kd.iso (Kd.pair k56 (Kd.pair Kd.bool Kd.string)) (fun x:S91=>(x.f0,x.f1,x.f2))
theorem k91_open {w:World} {x:S91} {cs:List Value} (h:k91.K w x cs):cs=[.int .i64 x.f0.f0,.int .i64 x.f0.f1,.bool x.f1,.string x.f2]:=by
  obtain ⟨_,_,rfl,s0,⟨_,_,rfl,rfl,rfl⟩⟩:=h
  obtain rfl:=k56_open s0
  exact rfl
theorem k91_openM {w:World} {base:Nat} {ok:Nat→Prop} {x:S91} {cs:List Value} (h:k91.M w base ok x cs):cs=[.int .i64 x.f0.f0,.int .i64 x.f0.f1,.bool x.f1,.string x.f2]:=by
  obtain ⟨_,_,rfl,s0,⟨_,_,rfl,rfl,rfl⟩⟩:=h
  obtain rfl:=k56_openM s0
  exact rfl
theorem k91_mkM (w:World) (base:Nat) (ok:Nat→Prop) (x:S91)  : k91.M w base ok x [.int .i64 x.f0.f0,.int .i64 x.f0.f1,.bool x.f1,.string x.f2]:=⟨[.int .i64 x.f0.f0,.int .i64 x.f0.f1],[.bool x.f1,.string x.f2],rfl,(k56_mkM w base ok x.f0 ),⟨[.bool x.f1],[.string x.f2],rfl,rfl,rfl⟩⟩
def rd_T91 (xs:List S91) (i:Int):S91:=xs.getD i.toNat z91
theorem at_T91 {w:World} {A:Option Addr} {n:Nat} {xs:List S91} (h:Kd.C k91 w A n xs) (i:Int) (h0:0≤i) (h1:i<n):∃ ad , A=some ad∧w.cell? (ad.add (i.toNat*4))=some (.int .i64 (rd_T91 xs i).f0.f0)∧w.cell? ⟨(ad.add (i.toNat*4)).block,(ad.add (i.toNat*4)).off+1,none⟩=some (.int .i64 (rd_T91 xs i).f0.f1)∧w.cell? ⟨(ad.add (i.toNat*4)).block,(ad.add (i.toNat*4)).off+2,none⟩=some (.bool (rd_T91 xs i).f1)∧w.cell? ⟨(ad.add (i.toNat*4)).block,(ad.add (i.toNat*4)).off+3,none⟩=some (.string (rd_T91 xs i).f2):=by
  obtain ⟨ad,c,e,_,hK,hc0⟩:=Kd.C_get h z91 i h0 h1
  have hc:∀ j u,c[j]? = some u→w.cell? (ad.add (i.toNat*4+j))=some u:=hc0
  obtain rfl:=k91_open hK
  exact ⟨ad,e,hc 0 _ rfl,by rw [← add_field _ _ 1 (by omega)];exact hc 1 _ rfl,by rw [← add_field _ _ 2 (by omega)];exact hc 2 _ rfl,by rw [← add_field _ _ 3 (by omega)];exact hc 3 _ rfl⟩

/-! #### struct type 32 -/
structure S32 where
  f0:(List S100)
  f1:(List S107)
def k32:Kd S32:=Kd.iso (Kd.pair (Kd.slice 100 k100) (Kd.slice 107 k107)) (fun x:S32=>(x.f0,x.f1))
theorem k32_open {w:World} {x:S32} {cs:List Value} (h:k32.K w x cs):∃ A0 c0 A1 c1,cs=[.slice A0 x.f0.length c0,.slice A1 x.f1.length c1]∧x.f0.length≤c0∧k100.C w A0 x.f0.length x.f0∧x.f1.length≤c1∧k107.C w A1 x.f1.length x.f1:=by
  obtain ⟨_,_,rfl,⟨A0,c0,rfl,l0,g0⟩,⟨A1,c1,rfl,l1,g1⟩⟩:=h
  exact ⟨A0,c0,A1,c1,rfl,l0,g0,l1,g1⟩
/-! #### struct type 34 -/
structure S34 where
  f0:Int
  f1:Int
  f2:Int
  f3:Int
  f4:ByteArray
  f5:Int
  f6:S32
def k34:Kd S34:=Kd.iso (Kd.pair (Kd.int .i64) (Kd.pair (Kd.int .i64) (Kd.pair (Kd.int .i64) (Kd.pair (Kd.int .i64) (Kd.pair Kd.string (Kd.pair (Kd.int .i64) k32)))))) (fun x:S34=>(x.f0,x.f1,x.f2,x.f3,x.f4,x.f5,x.f6))
theorem k34_open {w:World} {x:S34} {cs:List Value} (h:k34.K w x cs):∃ A6 c6 A7 c7,cs=[.int .i64 x.f0,.int .i64 x.f1,.int .i64 x.f2,.int .i64 x.f3,.string x.f4,.int .i64 x.f5,.slice A6 x.f6.f0.length c6,.slice A7 x.f6.f1.length c7]∧x.f6.f0.length≤c6∧k100.C w A6 x.f6.f0.length x.f6.f0∧x.f6.f1.length≤c7∧k107.C w A7 x.f6.f1.length x.f6.f1:=by
  obtain ⟨_,_,rfl,rfl,⟨_,_,rfl,rfl,⟨_,_,rfl,rfl,⟨_,_,rfl,rfl,⟨_,_,rfl,rfl,⟨_,_,rfl,rfl,s6⟩⟩⟩⟩⟩⟩:=h
  obtain ⟨A6,c6,A7,c7,rfl,l6,g6,l7,g7⟩:=k32_open s6
  exact ⟨A6,c6,A7,c7,rfl,l6,g6,l7,g7⟩
end Go.Proofs.Ytphbgcfpcadabaa.P

namespace Go.Proofs.Ytphbgcfpcadabaa.P
open Go.RowKit Go.Proofs.YtphbgcfpcadabaaW.PrintWords Go.Proofs.YtphbgcfpcadabaaW.PrintLast Go.Proofs.YtphbgcfpcadabaaW.PrintMore
abbrev I:=true
abbrev O:=false
section
variable {P:Program} {ops:Array Oper} {Q:Exit→Act→World→Prop} {md:Region.Mode} {S:World→Prop} {ds:List Nat}
theorem pu_ {T:Bool × List (List Nat × List Nat)} (i:Nat) (N:Tmp) {oi:Oper} {v:Value} {fuel:Nat} {l:Array Bool} {a a':Act} {w:World} (l':Array Bool) (hT:rtab md ops=T) (h:wpAnyLast P md ops Q S ds fuel l' a' w) (hi:ops[i]? = some oi:=by exact rfl) (hN:oi.dst=some N:=by exact rfl) (hc:anyT T l.toList l'.toList i=true:=by kernel_rfl) (hQ:∀ c a w,Q (.panic c) (a.put oi.dst v) w→Q (.panic c) a w:=by exact fun _ _ _ h=>h) (hw:Region.wanted oi (yielded ops a.tmps)=true:=by rfl) (hy:∀ w',(execOp a.eval oi).run P w' = .ok (.value v) w':=by (intro w');go_simp;(with_reducible rfl)) (ha:a.put (some N) v=a':=by (simp only [Act.put,sa_,s0_,ss_,i64_w,i32_w]);exact rfl):wpAnyLast P md ops Q S ds (fuel+1) l a w:=pure_ l' hi hN (any_of hT hc) hQ (Or.inl ⟨hw,hy⟩) ha h
theorem pn_ {T:Bool × List (List Nat × List Nat)} (i:Nat) (N:Tmp) {oi:Oper} {v:Value} {fuel:Nat} {l:Array Bool} {a a':Act} {w:World} (l':Array Bool) (hT:rtab md ops=T) (h:wpAnyLast P md ops Q S ds fuel l' a' w) (hi:ops[i]? = some oi:=by exact rfl) (hN:oi.dst=some N:=by exact rfl) (hc:anyT T l.toList l'.toList i=true:=by kernel_rfl) (hQ:∀ c a w,Q (.panic c) (a.put oi.dst v) w→Q (.panic c) a w:=by exact fun _ _ _ h=>h) (hw:Region.wanted oi (yielded ops a.tmps)=false:=by rfl) (hy:v=undef:=by rfl) (ha:a.put (some N) v=a':=by (simp only [Act.put,sa_,s0_,ss_,i64_w,i32_w]);exact rfl):wpAnyLast P md ops Q S ds (fuel+1) l a w:=pure_ l' hi hN (any_of hT hc) hQ (Or.inr ⟨hw,hy⟩) ha h
theorem tk2_ {T:Bool × List (List Nat × List Nat)} (i:Nat) (N:Tmp) {oi:Oper} {v:Value} {fuel:Nat} {l:Array Bool} {a a':Act} {w:World} (l':Array Bool) {B:List Nat} (hT:rtab md ops=T) (hB:waitsOk T.2 B=true) (hS:S w) (h:wpAnyLast P md ops Q S ds fuel l' a' w) (hi:ops[i]? = some oi:=by exact rfl) (hN:oi.dst=some N:=by exact rfl) (hc:takeW T B ds l.toList l'.toList i=true:=by kernel_rfl) (hQ:∀ c a w,Q (.panic c) (a.put oi.dst v) w→Q (.panic c) a w:=by exact fun _ _ _ h=>h) (hw:Region.wanted oi (yielded ops a.tmps)=true:=by rfl) (hy:∀ w',S w'→(execOp a.eval oi).run P w' = .ok (.value v) w':=by (rintro w' ⟨s0,s1⟩);go_simp;(with_reducible rfl)) (ha:a.put (some N) v=a':=by (simp only [Act.put,sa_,s0_,ss_,i64_w,i32_w]);exact rfl):wpAnyLast P md ops Q S ds (fuel+1) l a w:=take_ l' hi hN (take_ofW hT hB hc) hQ (Or.inl ⟨hw,hy⟩) hS ha h
theorem tk4_ {T:Bool × List (List Nat × List Nat)} (i:Nat) (N:Tmp) {oi:Oper} {v:Value} {fuel:Nat} {l:Array Bool} {a a':Act} {w:World} (l':Array Bool) {B:List Nat} (hT:rtab md ops=T) (hB:waitsOk T.2 B=true) (hS:S w) (h:wpAnyLast P md ops Q S ds fuel l' a' w) (hi:ops[i]? = some oi:=by exact rfl) (hN:oi.dst=some N:=by exact rfl) (hc:takeW T B ds l.toList l'.toList i=true:=by kernel_rfl) (hQ:∀ c a w,Q (.panic c) (a.put oi.dst v) w→Q (.panic c) a w:=by exact fun _ _ _ h=>h) (hw:Region.wanted oi (yielded ops a.tmps)=true:=by rfl) (hy:∀ w',S w'→(execOp a.eval oi).run P w' = .ok (.value v) w':=by (rintro w' ⟨s0,s1,s2,s3⟩);go_simp;(with_reducible rfl)) (ha:a.put (some N) v=a':=by (simp only [Act.put,sa_,s0_,ss_,i64_w,i32_w]);exact rfl):wpAnyLast P md ops Q S ds (fuel+1) l a w:=take_ l' hi hN (take_ofW hT hB hc) hQ (Or.inl ⟨hw,hy⟩) hS ha h
theorem tk6_ {T:Bool × List (List Nat × List Nat)} (i:Nat) (N:Tmp) {oi:Oper} {v:Value} {fuel:Nat} {l:Array Bool} {a a':Act} {w:World} (l':Array Bool) {B:List Nat} (hT:rtab md ops=T) (hB:waitsOk T.2 B=true) (hS:S w) (h:wpAnyLast P md ops Q S ds fuel l' a' w) (hi:ops[i]? = some oi:=by exact rfl) (hN:oi.dst=some N:=by exact rfl) (hc:takeW T B ds l.toList l'.toList i=true:=by kernel_rfl) (hQ:∀ c a w,Q (.panic c) (a.put oi.dst v) w→Q (.panic c) a w:=by exact fun _ _ _ h=>h) (hw:Region.wanted oi (yielded ops a.tmps)=true:=by rfl) (hy:∀ w',S w'→(execOp a.eval oi).run P w' = .ok (.value v) w':=by (rintro w' ⟨s0,s1,s2,s3,s4,s5⟩);go_simp;(with_reducible rfl)) (ha:a.put (some N) v=a':=by (simp only [Act.put,sa_,s0_,ss_,i64_w,i32_w]);exact rfl):wpAnyLast P md ops Q S ds (fuel+1) l a w:=take_ l' hi hN (take_ofW hT hB hc) hQ (Or.inl ⟨hw,hy⟩) hS ha h
theorem tk8_ {T:Bool × List (List Nat × List Nat)} (i:Nat) (N:Tmp) {oi:Oper} {v:Value} {fuel:Nat} {l:Array Bool} {a a':Act} {w:World} (l':Array Bool) {B:List Nat} (hT:rtab md ops=T) (hB:waitsOk T.2 B=true) (hS:S w) (h:wpAnyLast P md ops Q S ds fuel l' a' w) (hi:ops[i]? = some oi:=by exact rfl) (hN:oi.dst=some N:=by exact rfl) (hc:takeW T B ds l.toList l'.toList i=true:=by kernel_rfl) (hQ:∀ c a w,Q (.panic c) (a.put oi.dst v) w→Q (.panic c) a w:=by exact fun _ _ _ h=>h) (hw:Region.wanted oi (yielded ops a.tmps)=true:=by rfl) (hy:∀ w',S w'→(execOp a.eval oi).run P w' = .ok (.value v) w':=by (rintro w' ⟨s0,s1,s2,s3,s4,s5,s6,s7⟩);go_simp;(with_reducible rfl)) (ha:a.put (some N) v=a':=by (simp only [Act.put,sa_,s0_,ss_,i64_w,i32_w]);exact rfl):wpAnyLast P md ops Q S ds (fuel+1) l a w:=take_ l' hi hN (take_ofW hT hB hc) hQ (Or.inl ⟨hw,hy⟩) hS ha h
theorem tk10_ {T:Bool × List (List Nat × List Nat)} (i:Nat) (N:Tmp) {oi:Oper} {v:Value} {fuel:Nat} {l:Array Bool} {a a':Act} {w:World} (l':Array Bool) {B:List Nat} (hT:rtab md ops=T) (hB:waitsOk T.2 B=true) (hS:S w) (h:wpAnyLast P md ops Q S ds fuel l' a' w) (hi:ops[i]? = some oi:=by exact rfl) (hN:oi.dst=some N:=by exact rfl) (hc:takeW T B ds l.toList l'.toList i=true:=by kernel_rfl) (hQ:∀ c a w,Q (.panic c) (a.put oi.dst v) w→Q (.panic c) a w:=by exact fun _ _ _ h=>h) (hw:Region.wanted oi (yielded ops a.tmps)=true:=by rfl) (hy:∀ w',S w'→(execOp a.eval oi).run P w' = .ok (.value v) w':=by (rintro w' ⟨s0,s1,s2,s3,s4,s5,s6,s7,s8,s9⟩);go_simp;(with_reducible rfl)) (ha:a.put (some N) v=a':=by (simp only [Act.put,sa_,s0_,ss_,i64_w,i32_w]);exact rfl):wpAnyLast P md ops Q S ds (fuel+1) l a w:=take_ l' hi hN (take_ofW hT hB hc) hQ (Or.inl ⟨hw,hy⟩) hS ha h
theorem o1_ {T:Bool × List (List Nat × List Nat)} (i:Nat) (N:Tmp) {oi:Oper} {fuel:Nat} {l:Array Bool} {a:Act} {w:World} (l':Array Bool) (hT:rtab md ops=T) (h:∀ K:Act→World→Prop,Shut (∀ a' w',S w'→(S w'→wpAnyLast P md ops Q S ds fuel l' a' w')→K a' w')→if Region.wanted oi (yielded ops a.tmps)=true then Oper.wp P oi a w K Q else K (a.put (some N) undef) w) (hi:ops[i]? = some oi:=by exact rfl) (hN:oi.dst=some N:=by exact rfl) (hc:(readyT T.2 l.toList == [i] && l.toList.set i true == l'.toList)=true:=by kernel_rfl) (hd:i ∉ ds:=by decide):wpAnyLast P md ops Q S ds (fuel+1) l a w:=one_ l' hi hN (one_of hT hc) hd h
theorem o2_ {T:Bool × List (List Nat × List Nat)} (i j:Nat) (Ni Nj:Tmp) {oi oj:Oper} {fuel:Nat} {l:Array Bool} {a:Act} {w:World} (li lj:Array Bool) (hT:rtab md ops=T) (h1:∀ K:Act→World→Prop,Shut (∀ a' w',S w'→(S w'→wpAnyLast P md ops Q S ds fuel li a' w')→K a' w')→if Region.wanted oi (yielded ops a.tmps)=true then Oper.wp P oi a w K Q else K (a.put (some Ni) undef) w) (h2:∀ K:Act→World→Prop,Shut (∀ a' w',S w'→(S w'→wpAnyLast P md ops Q S ds fuel lj a' w')→K a' w')→if Region.wanted oj (yielded ops a.tmps)=true then Oper.wp P oj a w K Q else K (a.put (some Nj) undef) w) (hi:ops[i]? = some oi:=by exact rfl) (hj:ops[j]? = some oj:=by exact rfl) (hNi:oi.dst=some Ni:=by exact rfl) (hNj:oj.dst=some Nj:=by exact rfl) (hc:(readyT T.2 l.toList == [i,j] && l.toList.set i true == li.toList && l.toList.set j true == lj.toList)=true:=by kernel_rfl) (hdi:i ∉ ds:=by decide) (hdj:j ∉ ds:=by decide):wpAnyLast P md ops Q S ds (fuel+1) l a w:=two_ li lj hi hj hNi hNj (two_of hT hc) hdi hdj h1 h2
theorem nm_ (N:Tmp) {fuel:Nat} {l:Array Bool} {a a':Act} {v:Value} {w:World} (h:wpAnyLast P md ops Q S ds fuel l a' w) (ha:Act.put a (some N) v=a':=by simp only [Act.put,sa_,s0_,ss_,i64_w,i32_w];rfl):wpAnyLast P md ops Q S ds fuel l (Act.put a (some N) v) w:=norm_ ha h
end
section
variable {P:Program} {ops:Array Oper} {rest:List Oper} {o:Oper} {a:Act} {Q:Exit→Act→World→Prop} {W:World}
theorem gd_ (N:Tmp) (h:wpList P ops Q (o :: rest) a W) (hN:o.dst=some N:=by with_reducible rfl):wpList P ops Q (o :: rest) a W:=h
theorem gc_ (f:FuncId) {ars:Array Operand} {ts:Array TypeId} (h:wpList P ops Q (o :: rest) a W) (ho:o.op = .call { callee:=.value (.func f),args:=ars,argTypes:=ts }:=by with_reducible rfl):wpList P ops Q (o :: rest) a W:=h
theorem be_ (N:Tmp) (cs:Array Value) (t:TypeId) (h:∀ g,g=W.heap.size→∀ w1,w1.heap[g]? = some (.cells cs t (0,0))→Below W.heap.size W w1→wpList P ops Q rest (a.put o.dst (.pointer (some ⟨g,0,none⟩))) w1) (hd:o.dst=some N:=by rfl) (hgd:o.guard=none:=by rfl) (hrun:(execOp a.eval o).run P W = .ok (.value (.pointer (some ⟨W.heap.size,0,none⟩))) (W.alloc (.cells cs t (0,0))):=by first | (go_simp;done) | (go_simp;rfl)):wpList P ops Q (o :: rest) a W:=box_event hgd hd hrun h
theorem bs_ {Kc:Act→World→Prop} (N:Tmp) (cs:Array Value) (t:TypeId) (h:∀ g,g=W.heap.size→∀ w1,w1.heap[g]? = some (.cells cs t (0,0))→Below W.heap.size W w1→Kc (a.put o.dst (.pointer (some ⟨g,0,none⟩))) w1) (hd:o.dst=some N:=by rfl) (hw:Region.wanted o (yielded ops a.tmps)=true:=by rfl) (hrun:(execOp a.eval o).run P W = .ok (.value (.pointer (some ⟨W.heap.size,0,none⟩))) (W.alloc (.cells cs t (0,0))):=by first | (go_simp;done) | (go_simp;rfl)):if Region.wanted o (yielded ops a.tmps)=true then Oper.wp P o a W Kc Q else Kc (a.put o.dst undef) W:=box_step hw hd hrun h
theorem gl_ (N:Option Tmp) {f:FuncId} {fn:Func} {ars:Array Operand} {ts:Array TypeId} (hf:P.funcs[f]? = some fn) (args:Array Value) (h:Calls P f args W fun e w'=>∃ v,e = .returned v∧wpList P ops Q rest (a.put N v) w') (hd:o.dst=N:=by exact rfl) (hg:o.guard=none:=by exact rfl) (hname:(fn.name == "runtime.NumGoroutine")=false:=by kernel_rfl) (hb:fn.body.isSome=true:=by exact rfl) (hop:o.op = .call { callee:=.value (.func f),args:=ars,argTypes:=ts }:=by exact rfl) (hargs:ars.map a.eval=args:=by (try simp only [List.map_toArray,List.map_cons,List.map_nil]);first | done | rfl | (simp only [List.length_drop,List.length_take];rfl)):wpList P ops Q (o :: rest) a W:=goesL_ N hd hg hf hname hb args hop hargs h
theorem gs_ {N:Option Tmp} {K:Act→World→Prop} {f:FuncId} {fn:Func} {ars:Array Operand} {ts:Array TypeId} (hf:P.funcs[f]? = some fn) (args:Array Value) (h:Calls P f args W fun e w'=>∃ v,e = .returned v∧K (a.put N v) w') (hname:(fn.name == "runtime.NumGoroutine")=false:=by kernel_rfl) (hb:fn.body.isSome=true:=by exact rfl) (hw:Region.wanted o (yielded ops a.tmps)=true:=by rfl) (hN:o.dst=N:=by exact rfl) (hop:o.op = .call { callee:=.value (.func f),args:=ars,argTypes:=ts }:=by exact rfl) (hargs:ars.map a.eval=args:=by (try simp only [List.map_toArray,List.map_cons,List.map_nil]);first | done | rfl | (simp only [List.length_drop,List.length_take];rfl)):if Region.wanted o (yielded ops a.tmps)=true then Oper.wp P o a W K Q else K (a.put N undef) W:=goes_ hf hname hb args hw hN hop hargs h
end
theorem cc2_ {w:World} {g:Nat} {t:TypeId} {v0 v1:Value} (h:w.heap[g]? = some (.cells #[v0,v1] t (0,0))):w.cell? ⟨g,0,none⟩=some v0∧w.cell? ⟨g,1,none⟩=some v1:=⟨blk_cell h 0,blk_cell h 1⟩
theorem cj2_ {p:Prop} {w:World} {g:Nat} {t:TypeId} {v0 v1:Value} (h:w.heap[g]? = some (.cells #[v0,v1] t (0,0))) (r:p):w.cell? ⟨g,0,none⟩=some v0∧w.cell? ⟨g,1,none⟩=some v1∧p:=⟨blk_cell h 0,blk_cell h 1,r⟩
theorem cc4_ {w:World} {g:Nat} {t:TypeId} {v0 v1 v2 v3:Value} (h:w.heap[g]? = some (.cells #[v0,v1,v2,v3] t (0,0))):w.cell? ⟨g,0,none⟩=some v0∧w.cell? ⟨g,1,none⟩=some v1∧w.cell? ⟨g,2,none⟩=some v2∧w.cell? ⟨g,3,none⟩=some v3:=⟨blk_cell h 0,blk_cell h 1,blk_cell h 2,blk_cell h 3⟩
theorem cj4_ {p:Prop} {w:World} {g:Nat} {t:TypeId} {v0 v1 v2 v3:Value} (h:w.heap[g]? = some (.cells #[v0,v1,v2,v3] t (0,0))) (r:p):w.cell? ⟨g,0,none⟩=some v0∧w.cell? ⟨g,1,none⟩=some v1∧w.cell? ⟨g,2,none⟩=some v2∧w.cell? ⟨g,3,none⟩=some v3∧p:=⟨blk_cell h 0,blk_cell h 1,blk_cell h 2,blk_cell h 3,r⟩
theorem cc8_ {w:World} {g:Nat} {t:TypeId} {v0 v1 v2 v3 v4 v5 v6 v7:Value} (h:w.heap[g]? = some (.cells #[v0,v1,v2,v3,v4,v5,v6,v7] t (0,0))):w.cell? ⟨g,0,none⟩=some v0∧w.cell? ⟨g,1,none⟩=some v1∧w.cell? ⟨g,2,none⟩=some v2∧w.cell? ⟨g,3,none⟩=some v3∧w.cell? ⟨g,4,none⟩=some v4∧w.cell? ⟨g,5,none⟩=some v5∧w.cell? ⟨g,6,none⟩=some v6∧w.cell? ⟨g,7,none⟩=some v7:=⟨blk_cell h 0,blk_cell h 1,blk_cell h 2,blk_cell h 3,blk_cell h 4,blk_cell h 5,blk_cell h 6,blk_cell h 7⟩
theorem cj8_ {p:Prop} {w:World} {g:Nat} {t:TypeId} {v0 v1 v2 v3 v4 v5 v6 v7:Value} (h:w.heap[g]? = some (.cells #[v0,v1,v2,v3,v4,v5,v6,v7] t (0,0))) (r:p):w.cell? ⟨g,0,none⟩=some v0∧w.cell? ⟨g,1,none⟩=some v1∧w.cell? ⟨g,2,none⟩=some v2∧w.cell? ⟨g,3,none⟩=some v3∧w.cell? ⟨g,4,none⟩=some v4∧w.cell? ⟨g,5,none⟩=some v5∧w.cell? ⟨g,6,none⟩=some v6∧w.cell? ⟨g,7,none⟩=some v7∧p:=⟨blk_cell h 0,blk_cell h 1,blk_cell h 2,blk_cell h 3,blk_cell h 4,blk_cell h 5,blk_cell h 6,blk_cell h 7,r⟩
theorem blkB_ {W0 W W':World} {g:Nat} {o:Obj} (h:W0.heap[g]? = some o) (hb:Below W.heap.size W W') (f:W0.heap[g]? = some o→W.heap[g]? = some o:=by intro h_;(with_reducible repeat (first | refine blk_drewN ?_ _ | refine blk_drew ?_ | refine blk_alloc ?_ _));exact h_):W'.heap[g]? = some o:=blk_below (f h) hb
theorem neL_ {W0 W:World} {g b:Nat} {o:Obj} (h:W0.heap[b]? = some o) (hg:g=W.heap.size) (f:W0.heap[b]? = some o→W.heap[b]? = some o:=by intro h_;(with_reducible repeat (first | refine blk_drewN ?_ _ | refine blk_drew ?_ | refine blk_alloc ?_ _));exact h_):b≠g:=by rw [hg];exact Nat.ne_of_lt (blk_lt (f h))
theorem neG_ {W0 W:World} {g b:Nat} {o:Obj} (h:W0.heap[b]? = some o) (hg:g=W.heap.size) (f:W0.heap[b]? = some o→W.heap[b]? = some o:=by intro h_;(with_reducible repeat (first | refine blk_drewN ?_ _ | refine blk_drew ?_ | refine blk_alloc ?_ _));exact h_):g≠b:=by rw [hg];exact Nat.ne_of_gt (blk_lt (f h))
theorem cz2_ {w:World} {g:Nat} {t:TypeId} {v0 v1:Value} (h:w.heap[g]? = some (.cells #[v0,v1] t (0,0))):w.cell? ⟨g,0,none⟩=some v0∧w.cell? ⟨g,1,none⟩=some v1∧w.frozen? ⟨g,0,none⟩=false∧w.frozen? ⟨g,1,none⟩=false:=⟨blk_cell h 0,blk_cell h 1,blk_frozen h 0,blk_frozen h 1⟩
theorem cz4_ {w:World} {g:Nat} {t:TypeId} {v0 v1 v2 v3:Value} (h:w.heap[g]? = some (.cells #[v0,v1,v2,v3] t (0,0))):w.cell? ⟨g,0,none⟩=some v0∧w.cell? ⟨g,1,none⟩=some v1∧w.cell? ⟨g,2,none⟩=some v2∧w.cell? ⟨g,3,none⟩=some v3∧w.frozen? ⟨g,0,none⟩=false∧w.frozen? ⟨g,1,none⟩=false∧w.frozen? ⟨g,2,none⟩=false∧w.frozen? ⟨g,3,none⟩=false:=⟨blk_cell h 0,blk_cell h 1,blk_cell h 2,blk_cell h 3,blk_frozen h 0,blk_frozen h 1,blk_frozen h 2,blk_frozen h 3⟩
theorem cz8_ {w:World} {g:Nat} {t:TypeId} {v0 v1 v2 v3 v4 v5 v6 v7:Value} (h:w.heap[g]? = some (.cells #[v0,v1,v2,v3,v4,v5,v6,v7] t (0,0))):w.cell? ⟨g,0,none⟩=some v0∧w.cell? ⟨g,1,none⟩=some v1∧w.cell? ⟨g,2,none⟩=some v2∧w.cell? ⟨g,3,none⟩=some v3∧w.cell? ⟨g,4,none⟩=some v4∧w.cell? ⟨g,5,none⟩=some v5∧w.cell? ⟨g,6,none⟩=some v6∧w.cell? ⟨g,7,none⟩=some v7∧w.frozen? ⟨g,0,none⟩=false∧w.frozen? ⟨g,1,none⟩=false∧w.frozen? ⟨g,2,none⟩=false∧w.frozen? ⟨g,3,none⟩=false∧w.frozen? ⟨g,4,none⟩=false∧w.frozen? ⟨g,5,none⟩=false∧w.frozen? ⟨g,6,none⟩=false∧w.frozen? ⟨g,7,none⟩=false:=⟨blk_cell h 0,blk_cell h 1,blk_cell h 2,blk_cell h 3,blk_cell h 4,blk_cell h 5,blk_cell h 6,blk_cell h 7,blk_frozen h 0,blk_frozen h 1,blk_frozen h 2,blk_frozen h 3,blk_frozen h 4,blk_frozen h 5,blk_frozen h 6,blk_frozen h 7⟩
theorem cz9_ {w:World} {g:Nat} {t:TypeId} {v0 v1 v2 v3 v4 v5 v6 v7 v8:Value} (h:w.heap[g]? = some (.cells #[v0,v1,v2,v3,v4,v5,v6,v7,v8] t (0,0))):w.cell? ⟨g,0,none⟩=some v0∧w.cell? ⟨g,1,none⟩=some v1∧w.cell? ⟨g,2,none⟩=some v2∧w.cell? ⟨g,3,none⟩=some v3∧w.cell? ⟨g,4,none⟩=some v4∧w.cell? ⟨g,5,none⟩=some v5∧w.cell? ⟨g,6,none⟩=some v6∧w.cell? ⟨g,7,none⟩=some v7∧w.cell? ⟨g,8,none⟩=some v8∧w.frozen? ⟨g,0,none⟩=false∧w.frozen? ⟨g,1,none⟩=false∧w.frozen? ⟨g,2,none⟩=false∧w.frozen? ⟨g,3,none⟩=false∧w.frozen? ⟨g,4,none⟩=false∧w.frozen? ⟨g,5,none⟩=false∧w.frozen? ⟨g,6,none⟩=false∧w.frozen? ⟨g,7,none⟩=false∧w.frozen? ⟨g,8,none⟩=false:=⟨blk_cell h 0,blk_cell h 1,blk_cell h 2,blk_cell h 3,blk_cell h 4,blk_cell h 5,blk_cell h 6,blk_cell h 7,blk_cell h 8,blk_frozen h 0,blk_frozen h 1,blk_frozen h 2,blk_frozen h 3,blk_frozen h 4,blk_frozen h 5,blk_frozen h 6,blk_frozen h 7,blk_frozen h 8⟩
theorem put2_ {w:World} {g:Nat} {t:TypeId} {v0 v1 z0 z1:Value} (h:w.heap[g]? = some (.cells #[z0,z1] t (0,0))):((w.setCell ⟨g,0,none⟩ v0).setCell ⟨g,1,none⟩ v1).heap[g]? = some (.cells #[v0,v1] t (0,0)):=(blk_put (cs':=#[v0,v1]) (blk_put (cs':=#[v0,z1]) h 0 v0 rfl) 1 v1 rfl)
theorem rf2_ {α:Type} {d:Kd α} {e:TypeId} {w:World} {base g:Nat} {ok:Nat→Prop} {v:Value} {xs:List α} {v0 v1:Value} (h:d.R e w base ok v xs) (f:∀ k,ok k→k≠g):d.R e ((w.setCell ⟨g,0,none⟩ v0).setCell ⟨g,1,none⟩ v1) base ok v xs:=(Kd.R_far (p:=⟨g,1,none⟩) (Kd.R_far (p:=⟨g,0,none⟩) h f v0) f v1)
theorem put4_ {w:World} {g:Nat} {t:TypeId} {v0 v1 v2 v3 z0 z1 z2 z3:Value} (h:w.heap[g]? = some (.cells #[z0,z1,z2,z3] t (0,0))):((((w.setCell ⟨g,0,none⟩ v0).setCell ⟨g,1,none⟩ v1).setCell ⟨g,2,none⟩ v2).setCell ⟨g,3,none⟩ v3).heap[g]? = some (.cells #[v0,v1,v2,v3] t (0,0)):=(blk_put (cs':=#[v0,v1,v2,v3]) (blk_put (cs':=#[v0,v1,v2,z3]) (blk_put (cs':=#[v0,v1,z2,z3]) (blk_put (cs':=#[v0,z1,z2,z3]) h 0 v0 rfl) 1 v1 rfl) 2 v2 rfl) 3 v3 rfl)
theorem put8_ {w:World} {g:Nat} {t:TypeId} {v0 v1 v2 v3 v4 v5 v6 v7 z0 z1 z2 z3 z4 z5 z6 z7:Value} (h:w.heap[g]? = some (.cells #[z0,z1,z2,z3,z4,z5,z6,z7] t (0,0))):((((((((w.setCell ⟨g,0,none⟩ v0).setCell ⟨g,1,none⟩ v1).setCell ⟨g,2,none⟩ v2).setCell ⟨g,3,none⟩ v3).setCell ⟨g,4,none⟩ v4).setCell ⟨g,5,none⟩ v5).setCell ⟨g,6,none⟩ v6).setCell ⟨g,7,none⟩ v7).heap[g]? = some (.cells #[v0,v1,v2,v3,v4,v5,v6,v7] t (0,0)):=(blk_put (cs':=#[v0,v1,v2,v3,v4,v5,v6,v7]) (blk_put (cs':=#[v0,v1,v2,v3,v4,v5,v6,z7]) (blk_put (cs':=#[v0,v1,v2,v3,v4,v5,z6,z7]) (blk_put (cs':=#[v0,v1,v2,v3,v4,z5,z6,z7]) (blk_put (cs':=#[v0,v1,v2,v3,z4,z5,z6,z7]) (blk_put (cs':=#[v0,v1,v2,z3,z4,z5,z6,z7]) (blk_put (cs':=#[v0,v1,z2,z3,z4,z5,z6,z7]) (blk_put (cs':=#[v0,z1,z2,z3,z4,z5,z6,z7]) h 0 v0 rfl) 1 v1 rfl) 2 v2 rfl) 3 v3 rfl) 4 v4 rfl) 5 v5 rfl) 6 v6 rfl) 7 v7 rfl)
theorem rf8_ {α:Type} {d:Kd α} {e:TypeId} {w:World} {base g:Nat} {ok:Nat→Prop} {v:Value} {xs:List α} {v0 v1 v2 v3 v4 v5 v6 v7:Value} (h:d.R e w base ok v xs) (f:∀ k,ok k→k≠g):d.R e ((((((((w.setCell ⟨g,0,none⟩ v0).setCell ⟨g,1,none⟩ v1).setCell ⟨g,2,none⟩ v2).setCell ⟨g,3,none⟩ v3).setCell ⟨g,4,none⟩ v4).setCell ⟨g,5,none⟩ v5).setCell ⟨g,6,none⟩ v6).setCell ⟨g,7,none⟩ v7) base ok v xs:=(Kd.R_far (p:=⟨g,7,none⟩) (Kd.R_far (p:=⟨g,6,none⟩) (Kd.R_far (p:=⟨g,5,none⟩) (Kd.R_far (p:=⟨g,4,none⟩) (Kd.R_far (p:=⟨g,3,none⟩) (Kd.R_far (p:=⟨g,2,none⟩) (Kd.R_far (p:=⟨g,1,none⟩) (Kd.R_far (p:=⟨g,0,none⟩) h f v0) f v1) f v2) f v3) f v4) f v5) f v6) f v7)
theorem put9_ {w:World} {g:Nat} {t:TypeId} {v0 v1 v2 v3 v4 v5 v6 v7 v8 z0 z1 z2 z3 z4 z5 z6 z7 z8:Value} (h:w.heap[g]? = some (.cells #[z0,z1,z2,z3,z4,z5,z6,z7,z8] t (0,0))):(((((((((w.setCell ⟨g,0,none⟩ v0).setCell ⟨g,1,none⟩ v1).setCell ⟨g,2,none⟩ v2).setCell ⟨g,3,none⟩ v3).setCell ⟨g,4,none⟩ v4).setCell ⟨g,5,none⟩ v5).setCell ⟨g,6,none⟩ v6).setCell ⟨g,7,none⟩ v7).setCell ⟨g,8,none⟩ v8).heap[g]? = some (.cells #[v0,v1,v2,v3,v4,v5,v6,v7,v8] t (0,0)):=(blk_put (cs':=#[v0,v1,v2,v3,v4,v5,v6,v7,v8]) (blk_put (cs':=#[v0,v1,v2,v3,v4,v5,v6,v7,z8]) (blk_put (cs':=#[v0,v1,v2,v3,v4,v5,v6,z7,z8]) (blk_put (cs':=#[v0,v1,v2,v3,v4,v5,z6,z7,z8]) (blk_put (cs':=#[v0,v1,v2,v3,v4,z5,z6,z7,z8]) (blk_put (cs':=#[v0,v1,v2,v3,z4,z5,z6,z7,z8]) (blk_put (cs':=#[v0,v1,v2,z3,z4,z5,z6,z7,z8]) (blk_put (cs':=#[v0,v1,z2,z3,z4,z5,z6,z7,z8]) (blk_put (cs':=#[v0,z1,z2,z3,z4,z5,z6,z7,z8]) h 0 v0 rfl) 1 v1 rfl) 2 v2 rfl) 3 v3 rfl) 4 v4 rfl) 5 v5 rfl) 6 v6 rfl) 7 v7 rfl) 8 v8 rfl)
theorem rf9_ {α:Type} {d:Kd α} {e:TypeId} {w:World} {base g:Nat} {ok:Nat→Prop} {v:Value} {xs:List α} {v0 v1 v2 v3 v4 v5 v6 v7 v8:Value} (h:d.R e w base ok v xs) (f:∀ k,ok k→k≠g):d.R e (((((((((w.setCell ⟨g,0,none⟩ v0).setCell ⟨g,1,none⟩ v1).setCell ⟨g,2,none⟩ v2).setCell ⟨g,3,none⟩ v3).setCell ⟨g,4,none⟩ v4).setCell ⟨g,5,none⟩ v5).setCell ⟨g,6,none⟩ v6).setCell ⟨g,7,none⟩ v7).setCell ⟨g,8,none⟩ v8) base ok v xs:=(Kd.R_far (p:=⟨g,8,none⟩) (Kd.R_far (p:=⟨g,7,none⟩) (Kd.R_far (p:=⟨g,6,none⟩) (Kd.R_far (p:=⟨g,5,none⟩) (Kd.R_far (p:=⟨g,4,none⟩) (Kd.R_far (p:=⟨g,3,none⟩) (Kd.R_far (p:=⟨g,2,none⟩) (Kd.R_far (p:=⟨g,1,none⟩) (Kd.R_far (p:=⟨g,0,none⟩) h f v0) f v1) f v2) f v3) f v4) f v5) f v6) f v7) f v8)
theorem as2_ {p p0 p1:Prop} (hp0:p0) (hp1:p1) (h:Aside0 p0→Aside0 p1→p):p:=h ⟨hp0⟩ ⟨hp1⟩
theorem as3_ {p p0 p1 p2:Prop} (hp0:p0) (hp1:p1) (hp2:p2) (h:Aside0 p0→Aside0 p1→Aside0 p2→p):p:=h ⟨hp0⟩ ⟨hp1⟩ ⟨hp2⟩
theorem as4_ {p p0 p1 p2 p3:Prop} (hp0:p0) (hp1:p1) (hp2:p2) (hp3:p3) (h:Aside0 p0→Aside0 p1→Aside0 p2→Aside0 p3→p):p:=h ⟨hp0⟩ ⟨hp1⟩ ⟨hp2⟩ ⟨hp3⟩
theorem as5_ {p p0 p1 p2 p3 p4:Prop} (hp0:p0) (hp1:p1) (hp2:p2) (hp3:p3) (hp4:p4) (h:Aside0 p0→Aside0 p1→Aside0 p2→Aside0 p3→Aside0 p4→p):p:=h ⟨hp0⟩ ⟨hp1⟩ ⟨hp2⟩ ⟨hp3⟩ ⟨hp4⟩
theorem as6_ {p p0 p1 p2 p3 p4 p5:Prop} (hp0:p0) (hp1:p1) (hp2:p2) (hp3:p3) (hp4:p4) (hp5:p5) (h:Aside0 p0→Aside0 p1→Aside0 p2→Aside0 p3→Aside0 p4→Aside0 p5→p):p:=h ⟨hp0⟩ ⟨hp1⟩ ⟨hp2⟩ ⟨hp3⟩ ⟨hp4⟩ ⟨hp5⟩
theorem as7_ {p p0 p1 p2 p3 p4 p5 p6:Prop} (hp0:p0) (hp1:p1) (hp2:p2) (hp3:p3) (hp4:p4) (hp5:p5) (hp6:p6) (h:Aside0 p0→Aside0 p1→Aside0 p2→Aside0 p3→Aside0 p4→Aside0 p5→Aside0 p6→p):p:=h ⟨hp0⟩ ⟨hp1⟩ ⟨hp2⟩ ⟨hp3⟩ ⟨hp4⟩ ⟨hp5⟩ ⟨hp6⟩
theorem as8_ {p p0 p1 p2 p3 p4 p5 p6 p7:Prop} (hp0:p0) (hp1:p1) (hp2:p2) (hp3:p3) (hp4:p4) (hp5:p5) (hp6:p6) (hp7:p7) (h:Aside0 p0→Aside0 p1→Aside0 p2→Aside0 p3→Aside0 p4→Aside0 p5→Aside0 p6→Aside0 p7→p):p:=h ⟨hp0⟩ ⟨hp1⟩ ⟨hp2⟩ ⟨hp3⟩ ⟨hp4⟩ ⟨hp5⟩ ⟨hp6⟩ ⟨hp7⟩
theorem as9_ {p p0 p1 p2 p3 p4 p5 p6 p7 p8:Prop} (hp0:p0) (hp1:p1) (hp2:p2) (hp3:p3) (hp4:p4) (hp5:p5) (hp6:p6) (hp7:p7) (hp8:p8) (h:Aside0 p0→Aside0 p1→Aside0 p2→Aside0 p3→Aside0 p4→Aside0 p5→Aside0 p6→Aside0 p7→Aside0 p8→p):p:=h ⟨hp0⟩ ⟨hp1⟩ ⟨hp2⟩ ⟨hp3⟩ ⟨hp4⟩ ⟨hp5⟩ ⟨hp6⟩ ⟨hp7⟩ ⟨hp8⟩
theorem as10_ {p p0 p1 p2 p3 p4 p5 p6 p7 p8 p9:Prop} (hp0:p0) (hp1:p1) (hp2:p2) (hp3:p3) (hp4:p4) (hp5:p5) (hp6:p6) (hp7:p7) (hp8:p8) (hp9:p9) (h:Aside0 p0→Aside0 p1→Aside0 p2→Aside0 p3→Aside0 p4→Aside0 p5→Aside0 p6→Aside0 p7→Aside0 p8→Aside0 p9→p):p:=h ⟨hp0⟩ ⟨hp1⟩ ⟨hp2⟩ ⟨hp3⟩ ⟨hp4⟩ ⟨hp5⟩ ⟨hp6⟩ ⟨hp7⟩ ⟨hp8⟩ ⟨hp9⟩
theorem as12_ {p p0 p1 p2 p3 p4 p5 p6 p7 p8 p9 p10 p11:Prop} (hp0:p0) (hp1:p1) (hp2:p2) (hp3:p3) (hp4:p4) (hp5:p5) (hp6:p6) (hp7:p7) (hp8:p8) (hp9:p9) (hp10:p10) (hp11:p11) (h:Aside0 p0→Aside0 p1→Aside0 p2→Aside0 p3→Aside0 p4→Aside0 p5→Aside0 p6→Aside0 p7→Aside0 p8→Aside0 p9→Aside0 p10→Aside0 p11→p):p:=h ⟨hp0⟩ ⟨hp1⟩ ⟨hp2⟩ ⟨hp3⟩ ⟨hp4⟩ ⟨hp5⟩ ⟨hp6⟩ ⟨hp7⟩ ⟨hp8⟩ ⟨hp9⟩ ⟨hp10⟩ ⟨hp11⟩
theorem as14_ {p p0 p1 p2 p3 p4 p5 p6 p7 p8 p9 p10 p11 p12 p13:Prop} (hp0:p0) (hp1:p1) (hp2:p2) (hp3:p3) (hp4:p4) (hp5:p5) (hp6:p6) (hp7:p7) (hp8:p8) (hp9:p9) (hp10:p10) (hp11:p11) (hp12:p12) (hp13:p13) (h:Aside0 p0→Aside0 p1→Aside0 p2→Aside0 p3→Aside0 p4→Aside0 p5→Aside0 p6→Aside0 p7→Aside0 p8→Aside0 p9→Aside0 p10→Aside0 p11→Aside0 p12→Aside0 p13→p):p:=h ⟨hp0⟩ ⟨hp1⟩ ⟨hp2⟩ ⟨hp3⟩ ⟨hp4⟩ ⟨hp5⟩ ⟨hp6⟩ ⟨hp7⟩ ⟨hp8⟩ ⟨hp9⟩ ⟨hp10⟩ ⟨hp11⟩ ⟨hp12⟩ ⟨hp13⟩
theorem as15_ {p p0 p1 p2 p3 p4 p5 p6 p7 p8 p9 p10 p11 p12 p13 p14:Prop} (hp0:p0) (hp1:p1) (hp2:p2) (hp3:p3) (hp4:p4) (hp5:p5) (hp6:p6) (hp7:p7) (hp8:p8) (hp9:p9) (hp10:p10) (hp11:p11) (hp12:p12) (hp13:p13) (hp14:p14) (h:Aside0 p0→Aside0 p1→Aside0 p2→Aside0 p3→Aside0 p4→Aside0 p5→Aside0 p6→Aside0 p7→Aside0 p8→Aside0 p9→Aside0 p10→Aside0 p11→Aside0 p12→Aside0 p13→Aside0 p14→p):p:=h ⟨hp0⟩ ⟨hp1⟩ ⟨hp2⟩ ⟨hp3⟩ ⟨hp4⟩ ⟨hp5⟩ ⟨hp6⟩ ⟨hp7⟩ ⟨hp8⟩ ⟨hp9⟩ ⟨hp10⟩ ⟨hp11⟩ ⟨hp12⟩ ⟨hp13⟩ ⟨hp14⟩
theorem as16_ {p p0 p1 p2 p3 p4 p5 p6 p7 p8 p9 p10 p11 p12 p13 p14 p15:Prop} (hp0:p0) (hp1:p1) (hp2:p2) (hp3:p3) (hp4:p4) (hp5:p5) (hp6:p6) (hp7:p7) (hp8:p8) (hp9:p9) (hp10:p10) (hp11:p11) (hp12:p12) (hp13:p13) (hp14:p14) (hp15:p15) (h:Aside0 p0→Aside0 p1→Aside0 p2→Aside0 p3→Aside0 p4→Aside0 p5→Aside0 p6→Aside0 p7→Aside0 p8→Aside0 p9→Aside0 p10→Aside0 p11→Aside0 p12→Aside0 p13→Aside0 p14→Aside0 p15→p):p:=h ⟨hp0⟩ ⟨hp1⟩ ⟨hp2⟩ ⟨hp3⟩ ⟨hp4⟩ ⟨hp5⟩ ⟨hp6⟩ ⟨hp7⟩ ⟨hp8⟩ ⟨hp9⟩ ⟨hp10⟩ ⟨hp11⟩ ⟨hp12⟩ ⟨hp13⟩ ⟨hp14⟩ ⟨hp15⟩
theorem as17_ {p p0 p1 p2 p3 p4 p5 p6 p7 p8 p9 p10 p11 p12 p13 p14 p15 p16:Prop} (hp0:p0) (hp1:p1) (hp2:p2) (hp3:p3) (hp4:p4) (hp5:p5) (hp6:p6) (hp7:p7) (hp8:p8) (hp9:p9) (hp10:p10) (hp11:p11) (hp12:p12) (hp13:p13) (hp14:p14) (hp15:p15) (hp16:p16) (h:Aside0 p0→Aside0 p1→Aside0 p2→Aside0 p3→Aside0 p4→Aside0 p5→Aside0 p6→Aside0 p7→Aside0 p8→Aside0 p9→Aside0 p10→Aside0 p11→Aside0 p12→Aside0 p13→Aside0 p14→Aside0 p15→Aside0 p16→p):p:=h ⟨hp0⟩ ⟨hp1⟩ ⟨hp2⟩ ⟨hp3⟩ ⟨hp4⟩ ⟨hp5⟩ ⟨hp6⟩ ⟨hp7⟩ ⟨hp8⟩ ⟨hp9⟩ ⟨hp10⟩ ⟨hp11⟩ ⟨hp12⟩ ⟨hp13⟩ ⟨hp14⟩ ⟨hp15⟩ ⟨hp16⟩
theorem as18_ {p p0 p1 p2 p3 p4 p5 p6 p7 p8 p9 p10 p11 p12 p13 p14 p15 p16 p17:Prop} (hp0:p0) (hp1:p1) (hp2:p2) (hp3:p3) (hp4:p4) (hp5:p5) (hp6:p6) (hp7:p7) (hp8:p8) (hp9:p9) (hp10:p10) (hp11:p11) (hp12:p12) (hp13:p13) (hp14:p14) (hp15:p15) (hp16:p16) (hp17:p17) (h:Aside0 p0→Aside0 p1→Aside0 p2→Aside0 p3→Aside0 p4→Aside0 p5→Aside0 p6→Aside0 p7→Aside0 p8→Aside0 p9→Aside0 p10→Aside0 p11→Aside0 p12→Aside0 p13→Aside0 p14→Aside0 p15→Aside0 p16→Aside0 p17→p):p:=h ⟨hp0⟩ ⟨hp1⟩ ⟨hp2⟩ ⟨hp3⟩ ⟨hp4⟩ ⟨hp5⟩ ⟨hp6⟩ ⟨hp7⟩ ⟨hp8⟩ ⟨hp9⟩ ⟨hp10⟩ ⟨hp11⟩ ⟨hp12⟩ ⟨hp13⟩ ⟨hp14⟩ ⟨hp15⟩ ⟨hp16⟩ ⟨hp17⟩
theorem as19_ {p p0 p1 p2 p3 p4 p5 p6 p7 p8 p9 p10 p11 p12 p13 p14 p15 p16 p17 p18:Prop} (hp0:p0) (hp1:p1) (hp2:p2) (hp3:p3) (hp4:p4) (hp5:p5) (hp6:p6) (hp7:p7) (hp8:p8) (hp9:p9) (hp10:p10) (hp11:p11) (hp12:p12) (hp13:p13) (hp14:p14) (hp15:p15) (hp16:p16) (hp17:p17) (hp18:p18) (h:Aside0 p0→Aside0 p1→Aside0 p2→Aside0 p3→Aside0 p4→Aside0 p5→Aside0 p6→Aside0 p7→Aside0 p8→Aside0 p9→Aside0 p10→Aside0 p11→Aside0 p12→Aside0 p13→Aside0 p14→Aside0 p15→Aside0 p16→Aside0 p17→Aside0 p18→p):p:=h ⟨hp0⟩ ⟨hp1⟩ ⟨hp2⟩ ⟨hp3⟩ ⟨hp4⟩ ⟨hp5⟩ ⟨hp6⟩ ⟨hp7⟩ ⟨hp8⟩ ⟨hp9⟩ ⟨hp10⟩ ⟨hp11⟩ ⟨hp12⟩ ⟨hp13⟩ ⟨hp14⟩ ⟨hp15⟩ ⟨hp16⟩ ⟨hp17⟩ ⟨hp18⟩
theorem as20_ {p p0 p1 p2 p3 p4 p5 p6 p7 p8 p9 p10 p11 p12 p13 p14 p15 p16 p17 p18 p19:Prop} (hp0:p0) (hp1:p1) (hp2:p2) (hp3:p3) (hp4:p4) (hp5:p5) (hp6:p6) (hp7:p7) (hp8:p8) (hp9:p9) (hp10:p10) (hp11:p11) (hp12:p12) (hp13:p13) (hp14:p14) (hp15:p15) (hp16:p16) (hp17:p17) (hp18:p18) (hp19:p19) (h:Aside0 p0→Aside0 p1→Aside0 p2→Aside0 p3→Aside0 p4→Aside0 p5→Aside0 p6→Aside0 p7→Aside0 p8→Aside0 p9→Aside0 p10→Aside0 p11→Aside0 p12→Aside0 p13→Aside0 p14→Aside0 p15→Aside0 p16→Aside0 p17→Aside0 p18→Aside0 p19→p):p:=h ⟨hp0⟩ ⟨hp1⟩ ⟨hp2⟩ ⟨hp3⟩ ⟨hp4⟩ ⟨hp5⟩ ⟨hp6⟩ ⟨hp7⟩ ⟨hp8⟩ ⟨hp9⟩ ⟨hp10⟩ ⟨hp11⟩ ⟨hp12⟩ ⟨hp13⟩ ⟨hp14⟩ ⟨hp15⟩ ⟨hp16⟩ ⟨hp17⟩ ⟨hp18⟩ ⟨hp19⟩
theorem as21_ {p p0 p1 p2 p3 p4 p5 p6 p7 p8 p9 p10 p11 p12 p13 p14 p15 p16 p17 p18 p19 p20:Prop} (hp0:p0) (hp1:p1) (hp2:p2) (hp3:p3) (hp4:p4) (hp5:p5) (hp6:p6) (hp7:p7) (hp8:p8) (hp9:p9) (hp10:p10) (hp11:p11) (hp12:p12) (hp13:p13) (hp14:p14) (hp15:p15) (hp16:p16) (hp17:p17) (hp18:p18) (hp19:p19) (hp20:p20) (h:Aside0 p0→Aside0 p1→Aside0 p2→Aside0 p3→Aside0 p4→Aside0 p5→Aside0 p6→Aside0 p7→Aside0 p8→Aside0 p9→Aside0 p10→Aside0 p11→Aside0 p12→Aside0 p13→Aside0 p14→Aside0 p15→Aside0 p16→Aside0 p17→Aside0 p18→Aside0 p19→Aside0 p20→p):p:=h ⟨hp0⟩ ⟨hp1⟩ ⟨hp2⟩ ⟨hp3⟩ ⟨hp4⟩ ⟨hp5⟩ ⟨hp6⟩ ⟨hp7⟩ ⟨hp8⟩ ⟨hp9⟩ ⟨hp10⟩ ⟨hp11⟩ ⟨hp12⟩ ⟨hp13⟩ ⟨hp14⟩ ⟨hp15⟩ ⟨hp16⟩ ⟨hp17⟩ ⟨hp18⟩ ⟨hp19⟩ ⟨hp20⟩
theorem as22_ {p p0 p1 p2 p3 p4 p5 p6 p7 p8 p9 p10 p11 p12 p13 p14 p15 p16 p17 p18 p19 p20 p21:Prop} (hp0:p0) (hp1:p1) (hp2:p2) (hp3:p3) (hp4:p4) (hp5:p5) (hp6:p6) (hp7:p7) (hp8:p8) (hp9:p9) (hp10:p10) (hp11:p11) (hp12:p12) (hp13:p13) (hp14:p14) (hp15:p15) (hp16:p16) (hp17:p17) (hp18:p18) (hp19:p19) (hp20:p20) (hp21:p21) (h:Aside0 p0→Aside0 p1→Aside0 p2→Aside0 p3→Aside0 p4→Aside0 p5→Aside0 p6→Aside0 p7→Aside0 p8→Aside0 p9→Aside0 p10→Aside0 p11→Aside0 p12→Aside0 p13→Aside0 p14→Aside0 p15→Aside0 p16→Aside0 p17→Aside0 p18→Aside0 p19→Aside0 p20→Aside0 p21→p):p:=h ⟨hp0⟩ ⟨hp1⟩ ⟨hp2⟩ ⟨hp3⟩ ⟨hp4⟩ ⟨hp5⟩ ⟨hp6⟩ ⟨hp7⟩ ⟨hp8⟩ ⟨hp9⟩ ⟨hp10⟩ ⟨hp11⟩ ⟨hp12⟩ ⟨hp13⟩ ⟨hp14⟩ ⟨hp15⟩ ⟨hp16⟩ ⟨hp17⟩ ⟨hp18⟩ ⟨hp19⟩ ⟨hp20⟩ ⟨hp21⟩
theorem as23_ {p p0 p1 p2 p3 p4 p5 p6 p7 p8 p9 p10 p11 p12 p13 p14 p15 p16 p17 p18 p19 p20 p21 p22:Prop} (hp0:p0) (hp1:p1) (hp2:p2) (hp3:p3) (hp4:p4) (hp5:p5) (hp6:p6) (hp7:p7) (hp8:p8) (hp9:p9) (hp10:p10) (hp11:p11) (hp12:p12) (hp13:p13) (hp14:p14) (hp15:p15) (hp16:p16) (hp17:p17) (hp18:p18) (hp19:p19) (hp20:p20) (hp21:p21) (hp22:p22) (h:Aside0 p0→Aside0 p1→Aside0 p2→Aside0 p3→Aside0 p4→Aside0 p5→Aside0 p6→Aside0 p7→Aside0 p8→Aside0 p9→Aside0 p10→Aside0 p11→Aside0 p12→Aside0 p13→Aside0 p14→Aside0 p15→Aside0 p16→Aside0 p17→Aside0 p18→Aside0 p19→Aside0 p20→Aside0 p21→Aside0 p22→p):p:=h ⟨hp0⟩ ⟨hp1⟩ ⟨hp2⟩ ⟨hp3⟩ ⟨hp4⟩ ⟨hp5⟩ ⟨hp6⟩ ⟨hp7⟩ ⟨hp8⟩ ⟨hp9⟩ ⟨hp10⟩ ⟨hp11⟩ ⟨hp12⟩ ⟨hp13⟩ ⟨hp14⟩ ⟨hp15⟩ ⟨hp16⟩ ⟨hp17⟩ ⟨hp18⟩ ⟨hp19⟩ ⟨hp20⟩ ⟨hp21⟩ ⟨hp22⟩
theorem as26_ {p p0 p1 p2 p3 p4 p5 p6 p7 p8 p9 p10 p11 p12 p13 p14 p15 p16 p17 p18 p19 p20 p21 p22 p23 p24 p25:Prop} (hp0:p0) (hp1:p1) (hp2:p2) (hp3:p3) (hp4:p4) (hp5:p5) (hp6:p6) (hp7:p7) (hp8:p8) (hp9:p9) (hp10:p10) (hp11:p11) (hp12:p12) (hp13:p13) (hp14:p14) (hp15:p15) (hp16:p16) (hp17:p17) (hp18:p18) (hp19:p19) (hp20:p20) (hp21:p21) (hp22:p22) (hp23:p23) (hp24:p24) (hp25:p25) (h:Aside0 p0→Aside0 p1→Aside0 p2→Aside0 p3→Aside0 p4→Aside0 p5→Aside0 p6→Aside0 p7→Aside0 p8→Aside0 p9→Aside0 p10→Aside0 p11→Aside0 p12→Aside0 p13→Aside0 p14→Aside0 p15→Aside0 p16→Aside0 p17→Aside0 p18→Aside0 p19→Aside0 p20→Aside0 p21→Aside0 p22→Aside0 p23→Aside0 p24→Aside0 p25→p):p:=h ⟨hp0⟩ ⟨hp1⟩ ⟨hp2⟩ ⟨hp3⟩ ⟨hp4⟩ ⟨hp5⟩ ⟨hp6⟩ ⟨hp7⟩ ⟨hp8⟩ ⟨hp9⟩ ⟨hp10⟩ ⟨hp11⟩ ⟨hp12⟩ ⟨hp13⟩ ⟨hp14⟩ ⟨hp15⟩ ⟨hp16⟩ ⟨hp17⟩ ⟨hp18⟩ ⟨hp19⟩ ⟨hp20⟩ ⟨hp21⟩ ⟨hp22⟩ ⟨hp23⟩ ⟨hp24⟩ ⟨hp25⟩
theorem as30_ {p p0 p1 p2 p3 p4 p5 p6 p7 p8 p9 p10 p11 p12 p13 p14 p15 p16 p17 p18 p19 p20 p21 p22 p23 p24 p25 p26 p27 p28 p29:Prop} (hp0:p0) (hp1:p1) (hp2:p2) (hp3:p3) (hp4:p4) (hp5:p5) (hp6:p6) (hp7:p7) (hp8:p8) (hp9:p9) (hp10:p10) (hp11:p11) (hp12:p12) (hp13:p13) (hp14:p14) (hp15:p15) (hp16:p16) (hp17:p17) (hp18:p18) (hp19:p19) (hp20:p20) (hp21:p21) (hp22:p22) (hp23:p23) (hp24:p24) (hp25:p25) (hp26:p26) (hp27:p27) (hp28:p28) (hp29:p29) (h:Aside0 p0→Aside0 p1→Aside0 p2→Aside0 p3→Aside0 p4→Aside0 p5→Aside0 p6→Aside0 p7→Aside0 p8→Aside0 p9→Aside0 p10→Aside0 p11→Aside0 p12→Aside0 p13→Aside0 p14→Aside0 p15→Aside0 p16→Aside0 p17→Aside0 p18→Aside0 p19→Aside0 p20→Aside0 p21→Aside0 p22→Aside0 p23→Aside0 p24→Aside0 p25→Aside0 p26→Aside0 p27→Aside0 p28→Aside0 p29→p):p:=h ⟨hp0⟩ ⟨hp1⟩ ⟨hp2⟩ ⟨hp3⟩ ⟨hp4⟩ ⟨hp5⟩ ⟨hp6⟩ ⟨hp7⟩ ⟨hp8⟩ ⟨hp9⟩ ⟨hp10⟩ ⟨hp11⟩ ⟨hp12⟩ ⟨hp13⟩ ⟨hp14⟩ ⟨hp15⟩ ⟨hp16⟩ ⟨hp17⟩ ⟨hp18⟩ ⟨hp19⟩ ⟨hp20⟩ ⟨hp21⟩ ⟨hp22⟩ ⟨hp23⟩ ⟨hp24⟩ ⟨hp25⟩ ⟨hp26⟩ ⟨hp27⟩ ⟨hp28⟩ ⟨hp29⟩
theorem as31_ {p p0 p1 p2 p3 p4 p5 p6 p7 p8 p9 p10 p11 p12 p13 p14 p15 p16 p17 p18 p19 p20 p21 p22 p23 p24 p25 p26 p27 p28 p29 p30:Prop} (hp0:p0) (hp1:p1) (hp2:p2) (hp3:p3) (hp4:p4) (hp5:p5) (hp6:p6) (hp7:p7) (hp8:p8) (hp9:p9) (hp10:p10) (hp11:p11) (hp12:p12) (hp13:p13) (hp14:p14) (hp15:p15) (hp16:p16) (hp17:p17) (hp18:p18) (hp19:p19) (hp20:p20) (hp21:p21) (hp22:p22) (hp23:p23) (hp24:p24) (hp25:p25) (hp26:p26) (hp27:p27) (hp28:p28) (hp29:p29) (hp30:p30) (h:Aside0 p0→Aside0 p1→Aside0 p2→Aside0 p3→Aside0 p4→Aside0 p5→Aside0 p6→Aside0 p7→Aside0 p8→Aside0 p9→Aside0 p10→Aside0 p11→Aside0 p12→Aside0 p13→Aside0 p14→Aside0 p15→Aside0 p16→Aside0 p17→Aside0 p18→Aside0 p19→Aside0 p20→Aside0 p21→Aside0 p22→Aside0 p23→Aside0 p24→Aside0 p25→Aside0 p26→Aside0 p27→Aside0 p28→Aside0 p29→Aside0 p30→p):p:=h ⟨hp0⟩ ⟨hp1⟩ ⟨hp2⟩ ⟨hp3⟩ ⟨hp4⟩ ⟨hp5⟩ ⟨hp6⟩ ⟨hp7⟩ ⟨hp8⟩ ⟨hp9⟩ ⟨hp10⟩ ⟨hp11⟩ ⟨hp12⟩ ⟨hp13⟩ ⟨hp14⟩ ⟨hp15⟩ ⟨hp16⟩ ⟨hp17⟩ ⟨hp18⟩ ⟨hp19⟩ ⟨hp20⟩ ⟨hp21⟩ ⟨hp22⟩ ⟨hp23⟩ ⟨hp24⟩ ⟨hp25⟩ ⟨hp26⟩ ⟨hp27⟩ ⟨hp28⟩ ⟨hp29⟩ ⟨hp30⟩
theorem as32_ {p p0 p1 p2 p3 p4 p5 p6 p7 p8 p9 p10 p11 p12 p13 p14 p15 p16 p17 p18 p19 p20 p21 p22 p23 p24 p25 p26 p27 p28 p29 p30 p31:Prop} (hp0:p0) (hp1:p1) (hp2:p2) (hp3:p3) (hp4:p4) (hp5:p5) (hp6:p6) (hp7:p7) (hp8:p8) (hp9:p9) (hp10:p10) (hp11:p11) (hp12:p12) (hp13:p13) (hp14:p14) (hp15:p15) (hp16:p16) (hp17:p17) (hp18:p18) (hp19:p19) (hp20:p20) (hp21:p21) (hp22:p22) (hp23:p23) (hp24:p24) (hp25:p25) (hp26:p26) (hp27:p27) (hp28:p28) (hp29:p29) (hp30:p30) (hp31:p31) (h:Aside0 p0→Aside0 p1→Aside0 p2→Aside0 p3→Aside0 p4→Aside0 p5→Aside0 p6→Aside0 p7→Aside0 p8→Aside0 p9→Aside0 p10→Aside0 p11→Aside0 p12→Aside0 p13→Aside0 p14→Aside0 p15→Aside0 p16→Aside0 p17→Aside0 p18→Aside0 p19→Aside0 p20→Aside0 p21→Aside0 p22→Aside0 p23→Aside0 p24→Aside0 p25→Aside0 p26→Aside0 p27→Aside0 p28→Aside0 p29→Aside0 p30→Aside0 p31→p):p:=h ⟨hp0⟩ ⟨hp1⟩ ⟨hp2⟩ ⟨hp3⟩ ⟨hp4⟩ ⟨hp5⟩ ⟨hp6⟩ ⟨hp7⟩ ⟨hp8⟩ ⟨hp9⟩ ⟨hp10⟩ ⟨hp11⟩ ⟨hp12⟩ ⟨hp13⟩ ⟨hp14⟩ ⟨hp15⟩ ⟨hp16⟩ ⟨hp17⟩ ⟨hp18⟩ ⟨hp19⟩ ⟨hp20⟩ ⟨hp21⟩ ⟨hp22⟩ ⟨hp23⟩ ⟨hp24⟩ ⟨hp25⟩ ⟨hp26⟩ ⟨hp27⟩ ⟨hp28⟩ ⟨hp29⟩ ⟨hp30⟩ ⟨hp31⟩
theorem as34_ {p p0 p1 p2 p3 p4 p5 p6 p7 p8 p9 p10 p11 p12 p13 p14 p15 p16 p17 p18 p19 p20 p21 p22 p23 p24 p25 p26 p27 p28 p29 p30 p31 p32 p33:Prop} (hp0:p0) (hp1:p1) (hp2:p2) (hp3:p3) (hp4:p4) (hp5:p5) (hp6:p6) (hp7:p7) (hp8:p8) (hp9:p9) (hp10:p10) (hp11:p11) (hp12:p12) (hp13:p13) (hp14:p14) (hp15:p15) (hp16:p16) (hp17:p17) (hp18:p18) (hp19:p19) (hp20:p20) (hp21:p21) (hp22:p22) (hp23:p23) (hp24:p24) (hp25:p25) (hp26:p26) (hp27:p27) (hp28:p28) (hp29:p29) (hp30:p30) (hp31:p31) (hp32:p32) (hp33:p33) (h:Aside0 p0→Aside0 p1→Aside0 p2→Aside0 p3→Aside0 p4→Aside0 p5→Aside0 p6→Aside0 p7→Aside0 p8→Aside0 p9→Aside0 p10→Aside0 p11→Aside0 p12→Aside0 p13→Aside0 p14→Aside0 p15→Aside0 p16→Aside0 p17→Aside0 p18→Aside0 p19→Aside0 p20→Aside0 p21→Aside0 p22→Aside0 p23→Aside0 p24→Aside0 p25→Aside0 p26→Aside0 p27→Aside0 p28→Aside0 p29→Aside0 p30→Aside0 p31→Aside0 p32→Aside0 p33→p):p:=h ⟨hp0⟩ ⟨hp1⟩ ⟨hp2⟩ ⟨hp3⟩ ⟨hp4⟩ ⟨hp5⟩ ⟨hp6⟩ ⟨hp7⟩ ⟨hp8⟩ ⟨hp9⟩ ⟨hp10⟩ ⟨hp11⟩ ⟨hp12⟩ ⟨hp13⟩ ⟨hp14⟩ ⟨hp15⟩ ⟨hp16⟩ ⟨hp17⟩ ⟨hp18⟩ ⟨hp19⟩ ⟨hp20⟩ ⟨hp21⟩ ⟨hp22⟩ ⟨hp23⟩ ⟨hp24⟩ ⟨hp25⟩ ⟨hp26⟩ ⟨hp27⟩ ⟨hp28⟩ ⟨hp29⟩ ⟨hp30⟩ ⟨hp31⟩ ⟨hp32⟩ ⟨hp33⟩
theorem as36_ {p p0 p1 p2 p3 p4 p5 p6 p7 p8 p9 p10 p11 p12 p13 p14 p15 p16 p17 p18 p19 p20 p21 p22 p23 p24 p25 p26 p27 p28 p29 p30 p31 p32 p33 p34 p35:Prop} (hp0:p0) (hp1:p1) (hp2:p2) (hp3:p3) (hp4:p4) (hp5:p5) (hp6:p6) (hp7:p7) (hp8:p8) (hp9:p9) (hp10:p10) (hp11:p11) (hp12:p12) (hp13:p13) (hp14:p14) (hp15:p15) (hp16:p16) (hp17:p17) (hp18:p18) (hp19:p19) (hp20:p20) (hp21:p21) (hp22:p22) (hp23:p23) (hp24:p24) (hp25:p25) (hp26:p26) (hp27:p27) (hp28:p28) (hp29:p29) (hp30:p30) (hp31:p31) (hp32:p32) (hp33:p33) (hp34:p34) (hp35:p35) (h:Aside0 p0→Aside0 p1→Aside0 p2→Aside0 p3→Aside0 p4→Aside0 p5→Aside0 p6→Aside0 p7→Aside0 p8→Aside0 p9→Aside0 p10→Aside0 p11→Aside0 p12→Aside0 p13→Aside0 p14→Aside0 p15→Aside0 p16→Aside0 p17→Aside0 p18→Aside0 p19→Aside0 p20→Aside0 p21→Aside0 p22→Aside0 p23→Aside0 p24→Aside0 p25→Aside0 p26→Aside0 p27→Aside0 p28→Aside0 p29→Aside0 p30→Aside0 p31→Aside0 p32→Aside0 p33→Aside0 p34→Aside0 p35→p):p:=h ⟨hp0⟩ ⟨hp1⟩ ⟨hp2⟩ ⟨hp3⟩ ⟨hp4⟩ ⟨hp5⟩ ⟨hp6⟩ ⟨hp7⟩ ⟨hp8⟩ ⟨hp9⟩ ⟨hp10⟩ ⟨hp11⟩ ⟨hp12⟩ ⟨hp13⟩ ⟨hp14⟩ ⟨hp15⟩ ⟨hp16⟩ ⟨hp17⟩ ⟨hp18⟩ ⟨hp19⟩ ⟨hp20⟩ ⟨hp21⟩ ⟨hp22⟩ ⟨hp23⟩ ⟨hp24⟩ ⟨hp25⟩ ⟨hp26⟩ ⟨hp27⟩ ⟨hp28⟩ ⟨hp29⟩ ⟨hp30⟩ ⟨hp31⟩ ⟨hp32⟩ ⟨hp33⟩ ⟨hp34⟩ ⟨hp35⟩
theorem z0_ {a0 p:Prop} (h0:a0) (f:a0→p:=by intro h0_;(with_reducible repeat (first | apply Kd.R_alloc | apply Kd.R_drewN | apply Kd.R_drew));exact h0_):p:=f h0
theorem z1_ {p:Prop} (f:p:=by first | (with_reducible assumption) | assumption):p:=f
theorem z2_ {p:Prop} (f:p:=by first | rfl | (simp;done) | (simp [*];done) | (simp [bne];done)):p:=f
theorem z3_ {a0 p:Prop} (h0:a0) (f:a0→p:=by intro h0_;(with_reducible repeat (first | refine blk_drewN ?_ _ | refine blk_drew ?_ | refine blk_alloc ?_ _));exact h0_):p:=f h0
theorem z4_ {a0 a1 p:Prop} (h0:a0) (h1:a1) (f:a0→a1→p:=by intro h0_ h1_;repeat (first | (with_reducible first | exact h0_ | apply below_alloc | apply pw_below_drewN | apply below_drew1 | refine below_set ?_ h1_) | exact h0_)):p:=f h0 h1
theorem z5_ {a0 p:Prop} (h0:a0) (f:a0→p:=by intro h0_;repeat (first | (with_reducible first | exact h0_ | apply below_alloc | apply pw_below_drewN | apply below_drew1) | exact h0_)):p:=f h0
theorem z6_ {a0 a1 a2 p:Prop} (h0:a0) (h1:a1) (h2:a2) (f:a0→a1→a2→p:=by intro h0_ h1_ h2_;repeat (first | (with_reducible first | exact h0_ | apply below_alloc | apply pw_below_drewN | apply below_drew1 | refine below_set ?_ h1_ | refine below_set ?_ h2_) | exact h0_)):p:=f h0 h1 h2
theorem z7_ {a0 p:Prop} (h0:a0) (f:a0→p:=by intro h0_;rw [hg];exact (below_size (by repeat (first | (with_reducible first | exact h0_ | apply below_alloc | apply pw_below_drewN | apply below_drew1) | exact h0_)))):p:=f h0
theorem z8_ {p:Prop} (f:p:=by first | rfl | (simp [errW_none,errW_some] <;> rfl) | (simp [*,errW_none,errW_some] <;> rfl)):p:=f
theorem z9_ {a0 a1 a2 a3 p:Prop} (h0:a0) (h1:a1) (h2:a2) (h3:a3) (f:a0→a1→a2→a3→p:=by intro h0_ h1_ h2_ h3_;repeat (first | (with_reducible first | exact h0_ | apply below_alloc | apply pw_below_drewN | apply below_drew1 | refine below_set ?_ h1_ | refine below_set ?_ h2_ | refine below_set ?_ h3_) | exact h0_)):p:=f h0 h1 h2 h3
theorem z10_ {p:Prop} (f:p:=by repeat (first | exact Drawn0.refl _ | apply Drawn0.step)):p:=f
theorem z11_ {a0 a1 p:Prop} (h0:a0) (h1:a1) (f:a0→a1→p:=by intro h0_ h1_;rw [hg];exact (below_size (by repeat (first | (with_reducible first | exact h0_ | apply below_alloc | apply pw_below_drewN | apply below_drew1 | refine below_set ?_ h1_) | exact h0_)))):p:=f h0 h1
theorem z12_ {a0 a1 p:Prop} (h0:a0) (h1:a1) (f:a0→a1→p:=by intro h0_ h1_;(with_reducible repeat (first | apply Kd.R_alloc | apply Kd.R_drewN | apply Kd.R_drew));exact (Kd.R_mono (rf9_ (Kd.R_types h0_ h1_ (by decide)) (fun _ hk=>hk.2)) (fun _ h_=>h_.1))):p:=f h0 h1
theorem z13_ {a0 p:Prop} (h0:a0) (f:a0→p:=by intro h0_;(with_reducible repeat (first | apply Kd.R_alloc | apply Kd.R_drewN | apply Kd.R_drew));exact Kd.R_mono h0_ (fun _ hk=>⟨hk.1.1.2,⟨hk.1.2,⟨hk.2,⟨hk.1.1.1.1,⟨hk.1.1.1.2.1,hk.1.1.1.2.2⟩⟩⟩⟩⟩)):p:=f h0
theorem z14_ {a0 a1 p:Prop} (h0:a0) (h1:a1) (f:a0→a1→p:=by intro h0_ h1_;(with_reducible repeat (first | apply Kd.R_alloc | apply Kd.R_drewN | apply Kd.R_drew));exact (Kd.R_mono (rf8_ (Kd.R_types h0_ h1_ (by decide)) (fun _ hk=>hk.2)) (fun _ h_=>h_.1))):p:=f h0 h1
theorem z15_ {a0 a1 a2 a3 a4 p:Prop} (h0:a0) (h1:a1) (h2:a2) (h3:a3) (h4:a4) (f:a0→a1→a2→a3→a4→p:=by intro h0_ h1_ h2_ h3_ h4_;repeat (first | (with_reducible first | exact h0_ | apply below_alloc | apply pw_below_drewN | apply below_drew1 | refine below_set ?_ h1_ | refine below_set ?_ h2_ | refine below_set ?_ h3_ | refine below_set ?_ h4_) | exact h0_)):p:=f h0 h1 h2 h3 h4
theorem z16_ {a0 a1 a2 a3 a4 a5 a6 p:Prop} (h0:a0) (h1:a1) (h2:a2) (h3:a3) (h4:a4) (h5:a5) (h6:a6) (f:a0→a1→a2→a3→a4→a5→a6→p:=by intro h0_ h1_ h2_ h3_ h4_ h5_ h6_;repeat (first | (with_reducible first | exact h0_ | apply below_alloc | apply pw_below_drewN | apply below_drew1 | refine below_set ?_ h1_ | refine below_set ?_ h2_ | refine below_set ?_ h3_ | refine below_set ?_ h4_ | refine below_set ?_ h5_ | refine below_set ?_ h6_) | exact h0_)):p:=f h0 h1 h2 h3 h4 h5 h6
theorem z17_ {a0 a1 a2 a3 a4 a5 a6 a7 p:Prop} (h0:a0) (h1:a1) (h2:a2) (h3:a3) (h4:a4) (h5:a5) (h6:a6) (h7:a7) (f:a0→a1→a2→a3→a4→a5→a6→a7→p:=by intro h0_ h1_ h2_ h3_ h4_ h5_ h6_ h7_;repeat (first | (with_reducible first | exact h0_ | apply below_alloc | apply pw_below_drewN | apply below_drew1 | refine below_set ?_ h1_ | refine below_set ?_ h2_ | refine below_set ?_ h3_ | refine below_set ?_ h4_ | refine below_set ?_ h5_ | refine below_set ?_ h6_ | refine below_set ?_ h7_) | exact h0_)):p:=f h0 h1 h2 h3 h4 h5 h6 h7
theorem z18_ {a0 a1 a2 p:Prop} (h0:a0) (h1:a1) (h2:a2) (f:a0→a1→a2→p:=by intro h0_ h1_ h2_;rw [hg];exact (below_size (by repeat (first | (with_reducible first | exact h0_ | apply below_alloc | apply pw_below_drewN | apply below_drew1 | refine below_set ?_ h1_ | refine below_set ?_ h2_) | exact h0_)))):p:=f h0 h1 h2
theorem z19_ {a0 p:Prop} (h0:a0) (f:a0→p:=by intro h0_;(with_reducible repeat (first | apply Kd.R_alloc | apply Kd.R_drewN | apply Kd.R_drew));exact Kd.R_mono h0_ (fun _ hk=>⟨hk.1.2,hk.2⟩)):p:=f h0
theorem z20_ {a0 a1 p:Prop} (h0:a0) (h1:a1) (f:a0→a1→p:=by intro h0_ h1_;(with_reducible repeat (first | apply Kd.R_alloc | apply Kd.R_drewN | apply Kd.R_drew));exact (Kd.R_mono (rf2_ (Kd.R_types h0_ h1_ (by decide)) (fun _ hk=>hk.2)) (fun _ h_=>h_.1))):p:=f h0 h1
theorem z21_ {a0 p:Prop} (h0:a0) (f:a0→p:=by intro h0_;(with_reducible repeat (first | apply Kd.R_alloc | apply Kd.R_drewN | apply Kd.R_drew));exact Kd.R_mono h0_ (fun _ hk=>⟨hk.1.2,⟨hk.2,⟨hk.1.1.1.1.1.2,⟨hk.1.1.1.1.2,⟨hk.1.1.1.2,hk.1.1.2⟩⟩⟩⟩⟩)):p:=f h0
theorem z22_ {a0 a1 p:Prop} (h0:a0) (h1:a1) (f:a0→a1→p:=by intro h0_ h1_;have:=h0_;have:=h1_;omega):p:=f h0 h1
theorem z23_ {a0 a1 p:Prop} (h0:a0) (h1:a1) (f:a0→a1→p:=by intro h0_ h1_;(with_reducible repeat (first | refine blk_drewN ?_ _ | refine blk_drew ?_ | refine blk_alloc ?_ _));refine blk_far ?_ h0_ _;(with_reducible repeat (first | refine blk_drewN ?_ _ | refine blk_drew ?_ | refine blk_alloc ?_ _));refine blk_far ?_ h0_ _;(with_reducible repeat (first | refine blk_drewN ?_ _ | refine blk_drew ?_ | refine blk_alloc ?_ _));refine blk_far ?_ h0_ _;(with_reducible repeat (first | refine blk_drewN ?_ _ | refine blk_drew ?_ | refine blk_alloc ?_ _));refine blk_far ?_ h0_ _;(with_reducible repeat (first | refine blk_drewN ?_ _ | refine blk_drew ?_ | refine blk_alloc ?_ _));refine blk_far ?_ h0_ _;(with_reducible repeat (first | refine blk_drewN ?_ _ | refine blk_drew ?_ | refine blk_alloc ?_ _));refine blk_far ?_ h0_ _;(with_reducible repeat (first | refine blk_drewN ?_ _ | refine blk_drew ?_ | refine blk_alloc ?_ _));refine blk_far ?_ h0_ _;(with_reducible repeat (first | refine blk_drewN ?_ _ | refine blk_drew ?_ | refine blk_alloc ?_ _));refine blk_far ?_ h0_ _;(with_reducible repeat (first | refine blk_drewN ?_ _ | refine blk_drew ?_ | refine blk_alloc ?_ _));exact h1_):p:=f h0 h1
theorem z24_ {a0 p:Prop} (h0:a0) (f:a0→p:=by intro h0_;repeat (first | (with_reducible first | exact h0_ | apply Kept.alloc | apply Kept.drewN | apply Kept.drew) | exact h0_)):p:=f h0
theorem z25_ {a0 p:Prop} (h0:a0) (f:a0→p:=by intro h0_;(with_reducible repeat (first | apply Kd.R_alloc | apply Kd.R_drewN | apply Kd.R_drew));exact Kd.R_mono h0_ (fun _ hk=>⟨hk.2.2.1,⟨hk.2.2.2.1,hk.2.2.2.2.1⟩⟩)):p:=f h0
theorem z26_ {a0 a1 p:Prop} (h0:a0) (h1:a1) (f:a0→a1→p:=by intro h0_ h1_;(with_reducible repeat (first | refine blk_drewN ?_ _ | refine blk_drew ?_ | refine blk_alloc ?_ _));refine blk_far ?_ h0_ _;(with_reducible repeat (first | refine blk_drewN ?_ _ | refine blk_drew ?_ | refine blk_alloc ?_ _));refine blk_far ?_ h0_ _;(with_reducible repeat (first | refine blk_drewN ?_ _ | refine blk_drew ?_ | refine blk_alloc ?_ _));refine blk_far ?_ h0_ _;(with_reducible repeat (first | refine blk_drewN ?_ _ | refine blk_drew ?_ | refine blk_alloc ?_ _));refine blk_far ?_ h0_ _;(with_reducible repeat (first | refine blk_drewN ?_ _ | refine blk_drew ?_ | refine blk_alloc ?_ _));exact h1_):p:=f h0 h1
theorem z27_ {a0 p:Prop} (h0:a0) (f:a0→p:=by intro h0_;(with_reducible repeat (first | refine blk_drewN ?_ _ | refine blk_drew ?_ | refine blk_alloc ?_ _));apply put4_;(with_reducible repeat (first | refine blk_drewN ?_ _ | refine blk_drew ?_ | refine blk_alloc ?_ _));exact h0_):p:=f h0
theorem z28_ {a0 a1 p:Prop} (h0:a0) (h1:a1) (f:a0→a1→p:=by intro h0_ h1_;(with_reducible repeat (first | refine blk_drewN ?_ _ | refine blk_drew ?_ | refine blk_alloc ?_ _));refine blk_far ?_ h0_ _;(with_reducible repeat (first | refine blk_drewN ?_ _ | refine blk_drew ?_ | refine blk_alloc ?_ _));refine blk_far ?_ h0_ _;(with_reducible repeat (first | refine blk_drewN ?_ _ | refine blk_drew ?_ | refine blk_alloc ?_ _));refine blk_far ?_ h0_ _;(with_reducible repeat (first | refine blk_drewN ?_ _ | refine blk_drew ?_ | refine blk_alloc ?_ _));refine blk_far ?_ h0_ _;(with_reducible repeat (first | refine blk_drewN ?_ _ | refine blk_drew ?_ | refine blk_alloc ?_ _));refine blk_far ?_ h0_ _;(with_reducible repeat (first | refine blk_drewN ?_ _ | refine blk_drew ?_ | refine blk_alloc ?_ _));refine blk_far ?_ h0_ _;(with_reducible repeat (first | refine blk_drewN ?_ _ | refine blk_drew ?_ | refine blk_alloc ?_ _));refine blk_far ?_ h0_ _;(with_reducible repeat (first | refine blk_drewN ?_ _ | refine blk_drew ?_ | refine blk_alloc ?_ _));refine blk_far ?_ h0_ _;(with_reducible repeat (first | refine blk_drewN ?_ _ | refine blk_drew ?_ | refine blk_alloc ?_ _));refine blk_far ?_ h0_ _;(with_reducible repeat (first | refine blk_drewN ?_ _ | refine blk_drew ?_ | refine blk_alloc ?_ _));exact h1_):p:=f h0 h1
theorem z29_ {a0 p:Prop} (h0:a0) (f:a0→p:=by intro h0_;have h_:(x5_1:Int)<((x0_1.length:Int):Int):=of_decide_eq_true (by first | (with_reducible assumption) | assumption);first | exact h_ | (have e_:=(Kd.R_reads' h0_).1;omega) | simpa using h_):p:=f h0
theorem z30_ {p:Prop} (f:p:=by simp only [putAll,Act.put,List.setIfInBounds_toArray,List.set_cons_zero,List.set_cons_succ]):p:=f
theorem z31_ {a0 a1 p:Prop} (h0:a0) (h1:a1) (f:a0→a1→p:=by intro h0_ h1_;have:=h0_;have:=h1_;first | omega | exact Nat.le_refl _):p:=f h0 h1
theorem z32_ {a0 p:Prop} (h0:a0) (f:a0→p:=by intro h0_;(with_reducible repeat (first | refine blk_drewN ?_ _ | refine blk_drew ?_ | refine blk_alloc ?_ _));apply put9_;(with_reducible repeat (first | refine blk_drewN ?_ _ | refine blk_drew ?_ | refine blk_alloc ?_ _));exact h0_):p:=f h0
theorem z33_ {a0 a1 a2 a3 p:Prop} (h0:a0) (h1:a1) (h2:a2) (h3:a3) (f:a0→a1→a2→a3→p:=by intro h0_ h1_ h2_ h3_;rw [hg];exact (below_size (by repeat (first | (with_reducible first | exact h0_ | apply below_alloc | apply pw_below_drewN | apply below_drew1 | refine below_set ?_ h1_ | refine below_set ?_ h2_ | refine below_set ?_ h3_) | exact h0_)))):p:=f h0 h1 h2 h3
theorem z34_ {a0 a1 a2 a3 a4 a5 a6 p:Prop} (h0:a0) (h1:a1) (h2:a2) (h3:a3) (h4:a4) (h5:a5) (h6:a6) (f:a0→a1→a2→a3→a4→a5→a6→p:=by intro h0_ h1_ h2_ h3_ h4_ h5_ h6_;rw [hg];exact (below_size (by repeat (first | (with_reducible first | exact h0_ | apply below_alloc | apply pw_below_drewN | apply below_drew1 | refine below_set ?_ h1_ | refine below_set ?_ h2_ | refine below_set ?_ h3_ | refine below_set ?_ h4_ | refine below_set ?_ h5_ | refine below_set ?_ h6_) | exact h0_)))):p:=f h0 h1 h2 h3 h4 h5 h6
theorem z35_ {a0 p:Prop} (h0:a0) (f:a0→p:=by intro h0_;(with_reducible repeat (first | refine blk_drewN ?_ _ | refine blk_drew ?_ | refine blk_alloc ?_ _));apply put2_;(with_reducible repeat (first | refine blk_drewN ?_ _ | refine blk_drew ?_ | refine blk_alloc ?_ _));exact h0_):p:=f h0
theorem z36_ {a0 p:Prop} (h0:a0) (f:a0→p:=by intro h0_;(with_reducible repeat (first | refine blk_drewN ?_ _ | refine blk_drew ?_ | refine blk_alloc ?_ _));apply put8_;(with_reducible repeat (first | refine blk_drewN ?_ _ | refine blk_drew ?_ | refine blk_alloc ?_ _));exact h0_):p:=f h0
theorem z37_ {a0 a1 p:Prop} (h0:a0) (h1:a1) (f:a0→a1→p:=by intro h0_ h1_;repeat (first | (with_reducible first | exact h0_ | apply Kept.alloc | apply Kept.drewN | apply Kept.drew | refine Kept.setCell ?_ (.inr h1_) _) | exact h0_)):p:=f h0 h1
theorem z38_ {p:Prop} (f:p:=by first | exact Kd.R_nil _ _ _ _ _ | exact Kd.N_nil _ _ _ _ _ | exact Kd.V_nil _ _ _ _ _ | exact Kd.Q_nil _ _ _ _ _ | exact Kd.S_nil _ _ _ _ _):p:=f
theorem z39_ {a0 a1 p:Prop} (h0:a0) (h1:a1) (f:a0→a1→p:=by intro h0_ h1_;(with_reducible repeat (first | apply Kd.R_alloc | apply Kd.R_drewN | apply Kd.R_drew));exact Kd.R_mono (rf2_ (Kd.R_types h0_ h1_ (by decide)) (fun _ hk=>hk.2)) (fun _ hk=>trivial)):p:=f h0 h1
theorem z40_ {a0 a1 p:Prop} (h0:a0) (h1:a1) (f:a0→a1→p:=by intro h0_ h1_;(with_reducible repeat (first | apply Kd.R_alloc | apply Kd.R_drewN | apply Kd.R_drew));exact Kd.R_mono (rf9_ (Kd.R_types h0_ h1_ (by decide)) (fun _ hk=>hk.2)) (fun _ hk=>trivial)):p:=f h0 h1
theorem z41_ {a0 p:Prop} (h0:a0) (f:a0→p:=by intro h0_;have h_:(x4_1:Int)<((x3_1.length:Int):Int):=of_decide_eq_true (by first | (with_reducible assumption) | assumption);first | exact h_ | (have e_:=(Kd.R_reads' h0_).1;omega) | simpa using h_):p:=f h0
theorem z42_ {a0 a1 a2 a3 a4 a5 p:Prop} (h0:a0) (h1:a1) (h2:a2) (h3:a3) (h4:a4) (h5:a5) (f:a0→a1→a2→a3→a4→a5→p:=by intro h0_ h1_ h2_ h3_ h4_ h5_;repeat (first | (with_reducible first | exact h0_ | apply below_alloc | apply pw_below_drewN | apply below_drew1 | refine below_set ?_ h1_ | refine below_set ?_ h2_ | refine below_set ?_ h3_ | refine below_set ?_ h4_ | refine below_set ?_ h5_) | exact h0_)):p:=f h0 h1 h2 h3 h4 h5
theorem z43_ {a0 a1 p:Prop} (h0:a0) (h1:a1) (f:a0→a1→p:=by intro h0_ h1_;(with_reducible repeat (first | refine blk_drewN ?_ _ | refine blk_drew ?_ | refine blk_alloc ?_ _));refine blk_far ?_ h0_ _;(with_reducible repeat (first | refine blk_drewN ?_ _ | refine blk_drew ?_ | refine blk_alloc ?_ _));refine blk_far ?_ h0_ _;(with_reducible repeat (first | refine blk_drewN ?_ _ | refine blk_drew ?_ | refine blk_alloc ?_ _));exact h1_):p:=f h0 h1
theorem z44_ {p:Prop} (f:p:=by have:(0:Int)<(a0.size:Int):=of_decide_eq_true (by first | (with_reducible assumption) | assumption);omega):p:=f
end Go.Proofs.Ytphbgcfpcadabaa.P

namespace Go.Proofs.Ytphbgcfpcadabaa.Open
open Go.RowKit Go.Proofs.YtphbgcfpcadabaaW.PrintWords

def Opens {α:Type} (P:Program) (t:TypeId) (d:Kd α) (wf:α→Prop):Prop :=
  ∀ {H:Type} {enc:TypeId × Value→H} {W:World} {base:Nat} {spare:Nat→Bool} {held:Bool} {fuel:Nat} {cs:List Value} {x:DataW H × List MemPlace},
    DataW.trod enc P W base spare held fuel t cs=some x→∃ a:α,d.K W a cs∧wf a
section
variable {P:Program} {t e:TypeId} {α β:Type} {d:Kd α} {d':Kd β} {wf:α→Prop} {wf':β→Prop}
theorem opens_int {k:IntKind} (ht:P.underlying t=some (.int k)):Opens P t (Kd.int k) (fun n=>(Lit.int k n).wf=true):=by
  intro H enc W base spare held fuel cs x h
  obtain ⟨n,rfl,_,hw⟩:=DataW.trod_int ht h
  exact ⟨n,rfl,hw⟩
theorem opens_bool (ht:P.underlying t=some .bool):Opens P t Kd.bool (fun _=>True):=by
  intro H enc W base spare held fuel cs x h
  obtain ⟨n,rfl,_⟩:=DataW.trod_bool ht h
  exact ⟨n,rfl,trivial⟩
theorem opens_string (ht:P.underlying t=some .string):Opens P t Kd.string (fun s=>s.size≤maxLen):=by
  intro H enc W base spare held fuel cs x h
  obtain ⟨n,rfl,_,hw⟩:=DataW.trod_string ht h
  exact ⟨n,rfl,hw⟩
theorem add_add_ (a:Addr) (i j:Nat):(a.add i).add j=a.add (i+j):=by
  by_cases hi:i=0 <;> by_cases hj:j=0 <;> simp [Addr.add,hi,hj,Nat.add_assoc]
theorem cells_get {W:World} {base n:Nat} {a:Addr} {c:List Value} (h:W.cells? base a n=some c):c.length=n∧∀ i u,c[i]? = some u→W.cell? (a.add i)=some u:=by
  unfold World.cells? at h
  split at h
  · have hl:c.length=n:=by simpa using mapM_some_length h
    refine ⟨hl,fun i u hu=>?_⟩
    have hi:i<n:=by rw [← hl];exact (List.getElem?_eq_some_iff.1 hu).1
    have:=mapM_some_get h i i (by simp [hi])
    rw [this,hu]
  · cases h
theorem opens_slice (ht:P.underlying t=some (.slice e)) (hs:P.cellsOf e=d.sz) (he:Opens P e d wf):Opens P t (Kd.slice e d) (fun l=>l.length≤maxLen∧∀ x ∈ l,wf x):=by
  intro H enc W base spare held fuel cs x h
  rcases DataW.trod_slice ht h with ⟨rfl,_⟩ | ⟨a,len,cap,elems,rest,n,_,rfl,rfl,hb,hl,hm,hlen,hel,_,_⟩
  · exact ⟨[],⟨none,0,rfl,Nat.le_refl _,Kd.C_nil _ _⟩,by simp [maxLen],by simp⟩
  have each:∀ i:Fin len,∃ y:α,∃ c:List Value,c.length=d.sz∧d.K W y c∧wf y∧∀ j u,c[j]? = some u→W.cell? (a.add (i.1*d.sz+j))=some u:=by
    intro i
    have h1:=hel i.1 i.2
    have h2:elems[i.1]? = some (elems[i.1]'(by rw [hlen];exact i.2)):=List.getElem?_eq_getElem _
    rw [h2,Option.bind_eq_some_iff] at h1
    obtain ⟨c,hc,hy⟩:=h1
    obtain ⟨y,hk,hw⟩:=he hy
    obtain ⟨_,hc2⟩:=cells_get hc
    refine ⟨y,c,d.K_len hk,hk,hw,fun j u hu=>?_⟩
    have:=hc2 j u hu
    rwa [add_add_,hs] at this
  have L:(List.ofFn fun i:Fin len=>(each i).choose).length=len:=List.length_ofFn
  have G:∀ j p,(List.ofFn fun i:Fin len=>(each i).choose)[j]? = some p→∃ h:j<len,p=(each ⟨j,h⟩).choose:=by
    intro j p hp
    have hj:j<len:=by rw [← L];exact (List.getElem?_eq_some_iff.1 hp).1
    refine ⟨hj,?_⟩
    rw [List.getElem?_ofFn] at hp
    simp only [hj,dite_true,Option.some.injEq] at hp
    exact hp.symm
  refine ⟨List.ofFn fun i:Fin len=>(each i).choose,⟨some a,cap,by rw [L],by rw [L];exact hl,rfl,by rw [L];exact Nat.le_trans hl hm,fun _=>⟨a,rfl,fun j p hp=>?_⟩⟩,by rw [L];exact Nat.le_trans hl hm,fun p hp=>?_⟩
  · obtain ⟨hj,rfl⟩:=G j p hp
    obtain ⟨c,h1,h2,_,h4⟩:=(each ⟨j,hj⟩).choose_spec
    exact ⟨c,h1,h2,h4⟩
  · obtain ⟨j,hj0⟩:=List.getElem?_of_mem hp
    obtain ⟨hj,rfl⟩:=G j p hj0
    exact (each ⟨j,hj⟩).choose_spec.choose_spec.2.2.1
/-- The fields from one on. -/
def OpensF {α:Type} (P:Program) (fs:List Field) (off:Nat) (d:Kd α) (wf:α→Prop):Prop :=
  ∀ {H:Type} {enc:TypeId × Value→H} {W:World} {base:Nat} {spare:Nat→Bool} {held:Bool} {n:Nat} {cs:List Value},
    (∀ (i:Nat) (f:Field),fs[i]? = some f→∃ y,DataW.trod enc P W base spare held n f.type ((cs.drop f.offset).take (P.cellsOf f.type))=some y)→cs.length=off+d.sz→∃ a:α,d.K W a (cs.drop off)∧wf a
theorem opensF_one {f:Field} {off:Nat} (ho:f.offset=off) (hs:P.cellsOf f.type=d.sz) (he:Opens P f.type d wf):OpensF P [f] off d wf:=by
  intro H enc W base spare held n cs h hl
  obtain ⟨y,hy⟩:=h 0 f rfl
  rw [ho,hs,List.take_of_length_le (by rw [List.length_drop];omega)] at hy
  exact he hy
theorem opensF_cons {f:Field} {fs:List Field} {off:Nat} (ho:f.offset=off) (hs:P.cellsOf f.type=d.sz) (he:Opens P f.type d wf) (hf:OpensF P fs (off+d.sz) d' wf') :
    OpensF P (f :: fs) off (Kd.pair d d') (fun x=>wf x.1∧wf' x.2):=by
  intro H enc W base spare held n cs h hl
  have hl':cs.length=off+(d.sz+d'.sz):=hl
  obtain ⟨y,hy⟩:=h 0 f rfl
  rw [ho,hs] at hy
  obtain ⟨a,ha,hw⟩:=he hy
  obtain ⟨b,hb,hw'⟩:=hf (cs:=cs) (fun i g hg=>h (i+1) g hg) (by omega)
  refine ⟨(a,b),⟨(cs.drop off).take d.sz,cs.drop (off+d.sz),?_,ha,hb⟩,hw,hw'⟩
  rw [← List.drop_drop,List.take_append_drop]
theorem opens_struct {fs:Array Field} (ht:P.underlying t=some (.struct fs)) (hc:P.cellsOf t=d.sz) (hf:OpensF P fs.toList 0 d wf):Opens P t d wf:=by
  intro H enc W base spare held fuel cs x h
  obtain ⟨xs,n,_,_,hl,hx,hall⟩:=DataW.trod_struct ht h
  have:=hf (H:=H) (enc:=enc) (W:=W) (base:=base) (spare:=spare) (held:=held) (n:=n) (cs:=cs) (fun i f hi=>by
    have h1:=hall i f (by simpa using hi)
    have hi2:i<xs.length:=by
      rw [hx]
      have:=(List.getElem?_eq_some_iff.1 hi).1
      simpa using this
    exact ⟨xs[i],by rw [h1];exact List.getElem?_eq_getElem hi2⟩) (by rw [hl,hc];omega)
  simpa using this
theorem opens_iso {f:β→α} {g:α→β} (hg:∀ y,f (g y)=y) (h:Opens P t d wf):Opens P t (Kd.iso d f) (fun x=>wf (f x)):=by
  intro H enc W base spare held fuel cs x hx
  obtain ⟨a,ha,hw⟩:=h hx
  exact ⟨g a,by show d.K W (f (g a)) cs;rw [hg];exact ha,by show wf (f (g a));rw [hg];exact hw⟩
end
end Go.Proofs.Ytphbgcfpcadabaa.Open

namespace Go.Proofs.Ytphbgcfpcadabaa.RO
open Go.RowKit Go.Proofs.Ytphbgcfpcadabaa.Open Go.Proofs.Ytphbgcfpcadabaa.P Go.Proofs.YtphbgcfpcadabaaW.PrintWords
set_option linter.unusedVariables false

def wfT100 (x:S100):Prop:=(Lit.int .i64 x.f0).wf=true∧(Lit.int .i64 x.f1).wf=true
theorem op_T100:Opens Try.prog 100 k100 wfT100:=opens_iso (f:=fun x:S100=>(x.f0,x.f1)) (g:=fun p_=>(⟨p_.1,p_.2⟩:S100)) (fun _=>rfl) (opens_struct Try.underlying100 (by kernel_rfl) (opensF_cons rfl (by kernel_rfl) (opens_int Try.underlying2) (opensF_one rfl (by kernel_rfl) (opens_int Try.underlying2))))
def wfT107 (x:S107):Prop:=wfT100 x.f0∧True∧x.f2.size≤maxLen
theorem op_T107:Opens Try.prog 107 k107 wfT107:=opens_iso (f:=fun x:S107=>(x.f0,x.f1,x.f2)) (g:=fun p_=>(⟨p_.1,p_.2.1,p_.2.2⟩:S107)) (fun _=>rfl) (opens_struct Try.underlying107 (by kernel_rfl) (opensF_cons rfl (by kernel_rfl) op_T100 (opensF_cons rfl (by kernel_rfl) (opens_bool Try.underlying4) (opensF_one rfl (by kernel_rfl) (opens_string Try.underlying9)))))
def wfT32 (x:S32):Prop:=(x.f0.length≤maxLen∧∀ y_ ∈ x.f0,wfT100 y_)∧(x.f1.length≤maxLen∧∀ y_ ∈ x.f1,wfT107 y_)
theorem op_T32:Opens Try.prog 32 k32 wfT32:=opens_iso (f:=fun x:S32=>(x.f0,x.f1)) (g:=fun p_=>(⟨p_.1,p_.2⟩:S32)) (fun _=>rfl) (opens_struct Try.underlying32 (by kernel_rfl) (opensF_cons rfl (by kernel_rfl) (opens_slice Try.underlying29 (by kernel_rfl) op_T100) (opensF_one rfl (by kernel_rfl) (opens_slice Try.underlying30 (by kernel_rfl) op_T107))))
def wfT34 (x:S34):Prop:=(Lit.int .i64 x.f0).wf=true∧(Lit.int .i64 x.f1).wf=true∧(Lit.int .i64 x.f2).wf=true∧(Lit.int .i64 x.f3).wf=true∧x.f4.size≤maxLen∧(Lit.int .i64 x.f5).wf=true∧wfT32 x.f6
theorem op_T34:Opens Try.prog 34 k34 wfT34:=opens_iso (f:=fun x:S34=>(x.f0,x.f1,x.f2,x.f3,x.f4,x.f5,x.f6)) (g:=fun p_=>(⟨p_.1,p_.2.1,p_.2.2.1,p_.2.2.2.1,p_.2.2.2.2.1,p_.2.2.2.2.2.1,p_.2.2.2.2.2.2⟩:S34)) (fun _=>rfl) (opens_struct Try.underlying34 (by kernel_rfl) (opensF_cons rfl (by kernel_rfl) (opens_int Try.underlying2) (opensF_cons rfl (by kernel_rfl) (opens_int Try.underlying2) (opensF_cons rfl (by kernel_rfl) (opens_int Try.underlying2) (opensF_cons rfl (by kernel_rfl) (opens_int Try.underlying2) (opensF_cons rfl (by kernel_rfl) (opens_string Try.underlying9) (opensF_cons rfl (by kernel_rfl) (opens_int Try.underlying2) (opensF_one rfl (by kernel_rfl) op_T32))))))))
end Go.Proofs.Ytphbgcfpcadabaa.RO

namespace Go.Proofs.Ytphbgcfpcadabaa.P
open Go.RowKit Go.Proofs.YtphbgcfpcadabaaW.PrintWords Go.Proofs.YtphbgcfpcadabaaW.PrintLast Go.Proofs.YtphbgcfpcadabaaW.PrintMore
attribute [local go_sem] max2_int min2_int max_two min_two max_three min_three max_four min_four   -- for this text's walks alone
set_option linter.unusedVariables false
set_option linter.unusedSimpArgs false

/-! ### laws_szMarkS: function 29 -/
def laws_szMarkS.f (l0:List (S100)) (a1:Int):Option (Int):=if (wrap64 (a1-(l0.length:Int)))<0 then (some (-1)) else (some (wrap64 (a1-(l0.length:Int))))
set_option maxHeartbeats 8000000 in
set_option maxRecDepth 100000 in
theorem laws_szMarkS.calls (A0:Option Addr) (c0:Nat) (l0:List (S100)) (a1:Int) (r:Int) (w:World) (hr0:Kd.C k100 w A0 l0.length l0) (hc0:l0.length≤c0) (h:laws_szMarkS.f l0 a1=some r) :
  Calls Try.prog 29 #[.slice A0 l0.length c0,.int .i64 a1] w fun e w'=>e = .returned (.int .i64 r)∧Drawn0 w w':=by
 have HR0:=Aside0.mk hr0
 have HC0:=Aside0.mk hc0
 clear hr0 hc0
 have H:(if (wrap64 (a1-(l0.length:Int)))<0 then (some (-1)) else (some (wrap64 (a1-(l0.length:Int)))))=some r:=h
 clear h
 by_cases c3:(wrap64 (a1-(l0.length:Int)))<0
 ·rw [if_pos c3] at H
  have c3b0:decide ((wrap64 (a1-(l0.length:Int)))<0)=true:=decide_eq_true c3
  clear c3
  obtain rfl:=Option.some.inj H
  go_enter Try.func29,Try.ntmps29
  go_wp2
  go_ret
  exact ⟨z2_,z10_⟩
 ·rw [if_neg c3] at H
  have c3b0:decide ((wrap64 (a1-(l0.length:Int)))<0)=false:=decide_eq_false c3
  clear c3
  obtain rfl:=Option.some.inj H
  go_enter Try.func29,Try.ntmps29
  go_wp2
  go_ret
  exact ⟨z2_,z10_⟩


/-! ### laws_szSib: function 80 -/
def laws_szSib.f (a0_0:Int) (a0_1:Int) (a0_2:Bool) (a0_3:ByteArray) (a1:Int):Option (Int):=if (wrap64 (a1-(a0_3.size:Int)))<0 then (some (-1)) else (some (wrap64 (a1-(a0_3.size:Int))))
set_option maxHeartbeats 8000000 in
set_option maxRecDepth 100000 in
theorem laws_szSib.calls (a0_0:Int) (a0_1:Int) (a0_2:Bool) (a0_3:ByteArray) (a1:Int) (r:Int) (w:World) (h:laws_szSib.f a0_0 a0_1 a0_2 a0_3 a1=some r) :
  Calls Try.prog 80 #[.agg #[.int .i64 a0_0,.int .i64 a0_1,.bool a0_2,.string a0_3],.int .i64 a1] w fun e w'=>e = .returned (.int .i64 r)∧Below w.heap.size w w':=by
 have hu107:=Try.underlying107
 have HB:=Aside0.mk (Below.refl w.heap.size w)
 have H:(if (wrap64 (a1-(a0_3.size:Int)))<0 then (some (-1)) else (some (wrap64 (a1-(a0_3.size:Int)))))=some r:=h
 clear h
 by_cases c3:(wrap64 (a1-(a0_3.size:Int)))<0
 ·rw [if_pos c3] at H
  have c3b0:decide ((wrap64 (a1-(a0_3.size:Int)))<0)=true:=decide_eq_true c3
  clear c3
  obtain rfl:=Option.some.inj H
  go_enter Try.func80,Try.ntmps80
  go_wp2_with (first | ((with_reducible refine gd_ 2 ?_);refine be_ 2 #[.int .i64 a0_0,.int .i64 a0_1,.bool a0_2,.string a0_3] 107 ?_;intro gb101 hg w4 hbox hb;refine as4_ (below_step (z5_ HB.out) hb) (hbox) ((z7_ HB.out:w.heap.size≤gb101)) ((z7_ HB.out:w.heap.size≤gb101)) ?_;clear HB;intro HB BK101 GW101 GE101;clear hb hbox hg;have ⟨hcz5_0,hcz5_1,hcz5_2,hcz5_3,hfz5_0,hfz5_1,hfz5_2,hfz5_3⟩:=cz4_ BK101.out))
  go_ret
  exact ⟨z8_,z4_ HB.out GE101.out⟩
 ·rw [if_neg c3] at H
  have c3b0:decide ((wrap64 (a1-(a0_3.size:Int)))<0)=false:=decide_eq_false c3
  clear c3
  obtain rfl:=Option.some.inj H
  go_enter Try.func80,Try.ntmps80
  go_wp2_with (first | ((with_reducible refine gd_ 2 ?_);refine be_ 2 #[.int .i64 a0_0,.int .i64 a0_1,.bool a0_2,.string a0_3] 107 ?_;intro gb101 hg w6 hbox hb;refine as4_ (below_step (z5_ HB.out) hb) (hbox) ((z7_ HB.out:w.heap.size≤gb101)) ((z7_ HB.out:w.heap.size≤gb101)) ?_;clear HB;intro HB BK101 GW101 GE101;clear hb hbox hg;have ⟨hcz7_0,hcz7_1,hcz7_2,hcz7_3,hfz7_0,hfz7_1,hfz7_2,hfz7_3⟩:=cz4_ BK101.out))
  go_ret
  exact ⟨z8_,z4_ HB.out GE101.out⟩


/-! ### laws_szSibS: function 49 -/
def laws_szSibS.l0:Nat→List (S107)→Int→Int→Option (Int)
 | 0,_,_,_=>none
 | k+1,x0,x1,x5=>if x5<(x0.length:Int) then (if 0≤x5 then ((laws_szSib.f ((rd_T107 x0 x5).f0.f0) ((rd_T107 x0 x5).f0.f1) ((rd_T107 x0 x5).f1) ((rd_T107 x0 x5).f2) x1).bind fun t103=>(if t103<0 then (some (-1)) else (laws_szSibS.l0 k x0 t103 (wrap64 (x5+1))))) else (none)) else (some x1)
def laws_szSibS.f (k:Nat) (l0:List (S107)) (a1:Int):Option (Int):=if (wrap64 (a1-(l0.length:Int)))<0 then (some (-1)) else (laws_szSibS.l0 k l0 (wrap64 (a1-(l0.length:Int))) 0)
theorem laws_szSibS.mono_l:∀ k,(∀ y0 y1 y2,LeO (laws_szSibS.l0 k y0 y1 y2) (laws_szSibS.l0 (k+1) y0 y1 y2))
 | 0=>fun _ _ _ r h=>by simp [laws_szSibS.l0] at h
 | k+1=>by
  have ih0:=laws_szSibS.mono_l k
  ·intro y0 y1 y2
   unfold laws_szSibS.l0
   repeat' first
   | (with_reducible exact ih0 _ _ _)
   | (with_reducible exact LeO.refl _)
   | (with_reducible exact LeO.none _)
   | (with_reducible refine LeO.ite ?_ ?_)
   | (with_reducible refine LeO.bind ?_ (fun _=>?_))
   | exact ih0 _ _ _
   | exact LeO.none _
   | refine LeO.ite ?_ ?_
   | refine LeO.bind ?_ (fun _=>?_)
theorem laws_szSibS.mono:∀ a0 a1 k,LeO (laws_szSibS.f k a0 a1) (laws_szSibS.f (k+1) a0 a1):=by
 intro a0 a1 k
 have ih0:=laws_szSibS.mono_l k
 unfold laws_szSibS.f
 repeat' first
   | (with_reducible exact ih0 _ _ _)
   | (with_reducible exact LeO.refl _)
   | (with_reducible exact LeO.none _)
   | (with_reducible refine LeO.ite ?_ ?_)
   | (with_reducible refine LeO.bind ?_ (fun _=>?_))
   | exact ih0 _ _ _
   | exact LeO.none _
   | refine LeO.ite ?_ ?_
   | refine LeO.bind ?_ (fun _=>?_)
set_option maxHeartbeats 8000000 in
set_option maxRecDepth 100000 in
theorem laws_szSibS.calls (k:Nat) (A0:Option Addr) (c0:Nat) (l0:List (S107)) (a1:Int) (r:Int) (w:World) (hr0:Kd.C k107 w A0 l0.length l0) (hc0:l0.length≤c0) (h:laws_szSibS.f k l0 a1=some r) :
  Calls Try.prog 49 #[.slice A0 l0.length c0,.int .i64 a1] w fun e w'=>e = .returned (.int .i64 r)∧Below w.heap.size w w':=by
 have hu107:=Try.underlying107
 have HR0:=Aside0.mk hr0
 have HC0:=Aside0.mk hc0
 clear hr0 hc0
 have HB:=Aside0.mk (Below.refl w.heap.size w)
 have H:(if (wrap64 (a1-(l0.length:Int)))<0 then (some (-1)) else (laws_szSibS.l0 k l0 (wrap64 (a1-(l0.length:Int))) 0))=some r:=h
 clear h
 by_cases c3:(wrap64 (a1-(l0.length:Int)))<0
 ·rw [if_pos c3] at H
  have c3b0:decide ((wrap64 (a1-(l0.length:Int)))<0)=true:=decide_eq_true c3
  clear c3
  obtain rfl:=Option.some.inj H
  go_enter Try.func49,Try.ntmps49
  go_wp2
  go_ret
  exact ⟨z8_,z5_ HB.out⟩
 ·rw [if_neg c3] at H
  have c3b0:decide ((wrap64 (a1-(l0.length:Int)))<0)=false:=decide_eq_false c3
  clear c3
  have H':=Aside0.mk H
  clear H
  go_enter Try.func49,Try.ntmps49
  go_wp2
  go_loopg [1,5] k (fun kq v1 v5 w'=>∃ (x1_1:Int) (x5_1:Int),v1 = .int .i64 x1_1∧v5 = .int .i64 x5_1∧Aside0 (laws_szSibS.l0 kq l0 x1_1 x5_1=some r)∧Aside0 (kq≤k)∧Aside0 (Below w.heap.size w w'))
  case atStart=>exact ⟨(wrap64 (a1-(l0.length:Int))),(0),(z2_),(z2_),H',⟨Nat.le_refl _⟩,⟨z5_ HB.out⟩⟩
  case round =>
   clear H'
   try clear p2
   try clear c3
   try clear c3b0
   obtain ⟨x1_1,x5_1,rfl,rfl,HA,HK1,HB⟩:=hrel
   cases gk with
   | zero=>exact absurd HA.out (by simp [laws_szSibS.l0])
   | succ k1 =>
    have H:=HA.out
    clear HA
    simp only [laws_szSibS.l0] at H
    by_cases c4:x5_1<(l0.length:Int)
    ·rw [if_pos c4] at H
     have c4b0:decide (x5_1<(l0.length:Int))=true:=decide_eq_true c4
     clear c4
     by_cases c5:0≤x5_1
     ·rw [if_pos c5] at H
      have c5b0:decide (0≤x5_1)=true:=decide_eq_true c5
      clear c5
      replace H:=Option.bind_eq_some_iff.mp H
      obtain ⟨t103,A60,H⟩:=H
      replace H:(if t103<0 then (some (-1)) else (laws_szSibS.l0 k1 l0 t103 (wrap64 (x5_1+1))))=some r:=H
      have A6:=Aside0.mk A60
      clear A60
      by_cases c7:t103<0
      ·rw [if_pos c7] at H
       have c7b0:decide (t103<0)=true:=decide_eq_true c7
       clear c7
       obtain rfl:=Option.some.inj H
       have p102:0≤(x5_1:Int):=of_decide_eq_true (z1_)
       have q102:x5_1<(l0.length:Int):=of_decide_eq_true (z1_)
       obtain ⟨ad102,e102,hx102_0,hx102_1,hx102_2,hx102_3⟩:=at_T107 HR0.out x5_1 p102 q102
       cases e102
       replace hx102_0:=(HB.out.cell (World.block_lt_of_cell? w _ hx102_0)).trans hx102_0
       replace hx102_1:=(HB.out.cell (World.block_lt_of_cell? w _ hx102_1)).trans hx102_1
       replace hx102_2:=(HB.out.cell (World.block_lt_of_cell? w _ hx102_2)).trans hx102_2
       replace hx102_3:=(HB.out.cell (World.block_lt_of_cell? w _ hx102_3)).trans hx102_3
       replace p102:=eq_true p102
       replace q102:=eq_true q102
       go_wp2_with (first | ((with_reducible refine gc_ 80 ?_);refine gl_ (some 23) Try.func80 #[.agg #[.int .i64 ((rd_T107 l0 x5_1).f0.f0),.int .i64 ((rd_T107 l0 x5_1).f0.f1),.bool ((rd_T107 l0 x5_1).f1),.string ((rd_T107 l0 x5_1).f2)],.int .i64 x1_1] ?_;(with_reducible refine (laws_szSib.calls ((rd_T107 l0 x5_1).f0.f0) ((rd_T107 l0 x5_1).f0.f1) ((rd_T107 l0 x5_1).f1) ((rd_T107 l0 x5_1).f2) x1_1 t103 _ A6.out).mono ?_);rintro e w8 ⟨rfl,hb⟩;refine ⟨_,rfl,?_⟩;have n0_:=Aside0.mk (below_step (z5_ HB.out) hb);clear HB;have HB:=n0_;clear n0_;(try clear hb)))
       go_ret
       exact ⟨z8_,z5_ HB.out⟩
      ·rw [if_neg c7] at H
       have c7b0:decide (t103<0)=false:=decide_eq_false c7
       clear c7
       have H':=Aside0.mk H
       clear H
       have p102:0≤(x5_1:Int):=of_decide_eq_true (z1_)
       have q102:x5_1<(l0.length:Int):=of_decide_eq_true (z1_)
       obtain ⟨ad102,e102,hx102_0,hx102_1,hx102_2,hx102_3⟩:=at_T107 HR0.out x5_1 p102 q102
       cases e102
       replace hx102_0:=(HB.out.cell (World.block_lt_of_cell? w _ hx102_0)).trans hx102_0
       replace hx102_1:=(HB.out.cell (World.block_lt_of_cell? w _ hx102_1)).trans hx102_1
       replace hx102_2:=(HB.out.cell (World.block_lt_of_cell? w _ hx102_2)).trans hx102_2
       replace hx102_3:=(HB.out.cell (World.block_lt_of_cell? w _ hx102_3)).trans hx102_3
       replace p102:=eq_true p102
       replace q102:=eq_true q102
       go_wp2_with (first | ((with_reducible refine gc_ 80 ?_);refine gl_ (some 23) Try.func80 #[.agg #[.int .i64 ((rd_T107 l0 x5_1).f0.f0),.int .i64 ((rd_T107 l0 x5_1).f0.f1),.bool ((rd_T107 l0 x5_1).f1),.string ((rd_T107 l0 x5_1).f2)],.int .i64 x1_1] ?_;(with_reducible refine (laws_szSib.calls ((rd_T107 l0 x5_1).f0.f0) ((rd_T107 l0 x5_1).f0.f1) ((rd_T107 l0 x5_1).f1) ((rd_T107 l0 x5_1).f2) x1_1 t103 _ A6.out).mono ?_);rintro e w9 ⟨rfl,hb⟩;refine ⟨_,rfl,?_⟩;have n0_:=Aside0.mk (below_step (z5_ HB.out) hb);clear HB;have HB:=n0_;clear n0_;(try clear hb)))
       go_roundg k1
       case measure=>have:=HK1.out;omega
       case rel=>exact ⟨(t103),(wrap64 (x5_1+1)),(z2_),(z2_),H',⟨by have:=HK1.out;omega⟩,⟨z5_ HB.out⟩⟩
     ·rw [if_neg c5] at H
      exact absurd H (by simp)
    ·rw [if_neg c4] at H
     have c4b0:decide (x5_1<(l0.length:Int))=false:=decide_eq_false c4
     clear c4
     obtain rfl:=Option.some.inj H
     go_wp2
     go_ret
     exact ⟨z8_,z5_ HB.out⟩


/-! ### laws_szSet: function 12 -/
def laws_szSet.f (k:Nat) (l0_0:List (S100)) (l0_1:List (S107)) (a1:Int):Option (Int):=(laws_szMarkS.f l0_0 a1).bind fun t105=>(if t105<0 then (some (-1)) else ((laws_szSibS.f k l0_1 t105).bind fun t106=>(if t106<0 then (some (-1)) else (some t106))))
theorem laws_szSet.mono:∀ a0 a1 a2 k,LeO (laws_szSet.f k a0 a1 a2) (laws_szSet.f (k+1) a0 a1 a2):=by
 intro a0 a1 a2 k
 unfold laws_szSet.f
 repeat' first
   | (with_reducible exact laws_szSibS.mono _ _ _)
   | (with_reducible exact LeO.refl _)
   | (with_reducible exact LeO.none _)
   | (with_reducible refine LeO.ite ?_ ?_)
   | (with_reducible refine LeO.bind ?_ (fun _=>?_))
   | exact laws_szSibS.mono _ _ _
   | exact LeO.none _
   | refine LeO.ite ?_ ?_
   | refine LeO.bind ?_ (fun _=>?_)
set_option maxHeartbeats 8000000 in
set_option maxRecDepth 100000 in
theorem laws_szSet.calls (k:Nat) (A0_0:Option Addr) (c0_0:Nat) (l0_0:List (S100)) (A0_1:Option Addr) (c0_1:Nat) (l0_1:List (S107)) (a1:Int) (r:Int) (w:World) (hr0_0:Kd.C k100 w A0_0 l0_0.length l0_0) (hc0_0:l0_0.length≤c0_0) (hr0_1:Kd.C k107 w A0_1 l0_1.length l0_1) (hc0_1:l0_1.length≤c0_1) (h:laws_szSet.f k l0_0 l0_1 a1=some r) :
  Calls Try.prog 12 #[.agg #[.slice A0_0 l0_0.length c0_0,.slice A0_1 l0_1.length c0_1],.int .i64 a1] w fun e w'=>e = .returned (.int .i64 r)∧Below w.heap.size w w':=by
 have hu32:=Try.underlying32
 have HR0_0:=Aside0.mk hr0_0
 have HC0_0:=Aside0.mk hc0_0
 clear hr0_0 hc0_0
 have HR0_1:=Aside0.mk hr0_1
 have HC0_1:=Aside0.mk hc0_1
 clear hr0_1 hc0_1
 have HB:=Aside0.mk (Below.refl w.heap.size w)
 have H:((laws_szMarkS.f l0_0 a1).bind fun t105=>(if t105<0 then (some (-1)) else ((laws_szSibS.f k l0_1 t105).bind fun t106=>(if t106<0 then (some (-1)) else (some t106)))))=some r:=h
 clear h
 replace H:=Option.bind_eq_some_iff.mp H
 obtain ⟨t105,A30,H⟩:=H
 replace H:(if t105<0 then (some (-1)) else ((laws_szSibS.f k l0_1 t105).bind fun t106=>(if t106<0 then (some (-1)) else (some t106))))=some r:=H
 have A3:=Aside0.mk A30
 clear A30
 by_cases c4:t105<0
 ·rw [if_pos c4] at H
  have c4b0:decide (t105<0)=true:=decide_eq_true c4
  clear c4
  obtain rfl:=Option.some.inj H
  go_enter Try.func12,Try.ntmps12
  go_wp2_with (first | ((with_reducible refine gd_ 2 ?_);refine be_ 2 #[.slice A0_0 l0_0.length c0_0,.slice A0_1 l0_1.length c0_1] 32 ?_;intro gb104 hg w5 hbox hb;refine as4_ (below_step (z5_ HB.out) hb) (hbox) ((z7_ HB.out:w.heap.size≤gb104)) ((z7_ HB.out:w.heap.size≤gb104)) ?_;clear HB;intro HB BK104 GW104 GE104;clear hb hbox hg;have ⟨hcz6_0,hcz6_1,hfz6_0,hfz6_1⟩:=cz2_ BK104.out) | ((with_reducible refine gc_ 29 ?_);refine gl_ (some 8) Try.func29 #[.slice A0_0 l0_0.length c0_0,.int .i64 a1] ?_;(with_reducible refine (laws_szMarkS.calls _ _ l0_0 a1 t105 _ ?s1 ?s2 A3.out).mono ?_);(case s1=>repeat (first | exact (Kd.C_below HR0_0.out HB.out) | (with_reducible refine Kd.C_alloc ?_ _) | (with_reducible refine Kd.C_drewN ?_ _) | (with_reducible refine Kd.C_drew ?_)));(case s2=>exact HC0_0.out);rintro e w' ⟨rfl,⟨nd,rfl⟩⟩;refine ⟨_,rfl,?_⟩))
  go_ret
  exact ⟨z8_,z4_ HB.out GE104.out⟩
 ·rw [if_neg c4] at H
  have c4b0:decide (t105<0)=false:=decide_eq_false c4
  clear c4
  replace H:=Option.bind_eq_some_iff.mp H
  obtain ⟨t106,A70,H⟩:=H
  replace H:(if t106<0 then (some (-1)) else (some t106))=some r:=H
  have A7:=Aside0.mk A70
  clear A70
  by_cases c8:t106<0
  ·rw [if_pos c8] at H
   have c8b0:decide (t106<0)=true:=decide_eq_true c8
   clear c8
   obtain rfl:=Option.some.inj H
   go_enter Try.func12,Try.ntmps12
   go_wp2_with (first | ((with_reducible refine gd_ 2 ?_);refine be_ 2 #[.slice A0_0 l0_0.length c0_0,.slice A0_1 l0_1.length c0_1] 32 ?_;intro gb104 hg w9 hbox hb;refine as4_ (below_step (z5_ HB.out) hb) (hbox) ((z7_ HB.out:w.heap.size≤gb104)) ((z7_ HB.out:w.heap.size≤gb104)) ?_;clear HB;intro HB BK104 GW104 GE104;clear hb hbox hg;have ⟨hcz10_0,hcz10_1,hfz10_0,hfz10_1⟩:=cz2_ BK104.out) | ((with_reducible refine gc_ 29 ?_);refine gl_ (some 8) Try.func29 #[.slice A0_0 l0_0.length c0_0,.int .i64 a1] ?_;(with_reducible refine (laws_szMarkS.calls _ _ l0_0 a1 t105 _ ?s1 ?s2 A3.out).mono ?_);(case s1=>repeat (first | exact (Kd.C_below HR0_0.out HB.out) | (with_reducible refine Kd.C_alloc ?_ _) | (with_reducible refine Kd.C_drewN ?_ _) | (with_reducible refine Kd.C_drew ?_)));(case s2=>exact HC0_0.out);rintro e w' ⟨rfl,⟨nd,rfl⟩⟩;refine ⟨_,rfl,?_⟩) | ((with_reducible refine gc_ 49 ?_);refine gl_ (some 14) Try.func49 #[.slice A0_1 l0_1.length c0_1,.int .i64 t105] ?_;(with_reducible refine (laws_szSibS.calls k _ _ l0_1 t105 t106 _ ?s1 ?s2 A7.out).mono ?_);(case s1=>repeat (first | exact (Kd.C_below HR0_1.out (z4_ HB.out GE104.out)) | (with_reducible refine Kd.C_alloc ?_ _) | (with_reducible refine Kd.C_drewN ?_ _) | (with_reducible refine Kd.C_drew ?_)));(case s2=>exact HC0_1.out);rintro e w11 ⟨rfl,hb⟩;refine ⟨_,rfl,?_⟩;refine as2_ (blkB_ BK104.out hb) (below_step (z4_ HB.out GE104.out) hb) ?_;clear BK104 HB;intro BK104 HB;(try clear hb)))
   go_ret
   exact ⟨z8_,z4_ HB.out GE104.out⟩
  ·rw [if_neg c8] at H
   have c8b0:decide (t106<0)=false:=decide_eq_false c8
   clear c8
   obtain rfl:=Option.some.inj H
   go_enter Try.func12,Try.ntmps12
   go_wp2_with (first | ((with_reducible refine gd_ 2 ?_);refine be_ 2 #[.slice A0_0 l0_0.length c0_0,.slice A0_1 l0_1.length c0_1] 32 ?_;intro gb104 hg w12 hbox hb;refine as4_ (below_step (z5_ HB.out) hb) (hbox) ((z7_ HB.out:w.heap.size≤gb104)) ((z7_ HB.out:w.heap.size≤gb104)) ?_;clear HB;intro HB BK104 GW104 GE104;clear hb hbox hg;have ⟨hcz13_0,hcz13_1,hfz13_0,hfz13_1⟩:=cz2_ BK104.out) | ((with_reducible refine gc_ 29 ?_);refine gl_ (some 8) Try.func29 #[.slice A0_0 l0_0.length c0_0,.int .i64 a1] ?_;(with_reducible refine (laws_szMarkS.calls _ _ l0_0 a1 t105 _ ?s1 ?s2 A3.out).mono ?_);(case s1=>repeat (first | exact (Kd.C_below HR0_0.out HB.out) | (with_reducible refine Kd.C_alloc ?_ _) | (with_reducible refine Kd.C_drewN ?_ _) | (with_reducible refine Kd.C_drew ?_)));(case s2=>exact HC0_0.out);rintro e w' ⟨rfl,⟨nd,rfl⟩⟩;refine ⟨_,rfl,?_⟩) | ((with_reducible refine gc_ 49 ?_);refine gl_ (some 14) Try.func49 #[.slice A0_1 l0_1.length c0_1,.int .i64 t105] ?_;(with_reducible refine (laws_szSibS.calls k _ _ l0_1 t105 t106 _ ?s1 ?s2 A7.out).mono ?_);(case s1=>repeat (first | exact (Kd.C_below HR0_1.out (z4_ HB.out GE104.out)) | (with_reducible refine Kd.C_alloc ?_ _) | (with_reducible refine Kd.C_drewN ?_ _) | (with_reducible refine Kd.C_drew ?_)));(case s2=>exact HC0_1.out);rintro e w14 ⟨rfl,hb⟩;refine ⟨_,rfl,?_⟩;refine as2_ (blkB_ BK104.out hb) (below_step (z4_ HB.out GE104.out) hb) ?_;clear BK104 HB;intro BK104 HB;(try clear hb)))
   go_ret
   exact ⟨z8_,z4_ HB.out GE104.out⟩


/-! ### laws_szMsg: function 11 -/
def laws_szMsg.f (k:Nat) (a0_0:Int) (a0_1:Int) (a0_2:Int) (a0_3:Int) (a0_4:ByteArray) (a0_5:Int) (l0_6:List (S100)) (l0_7:List (S107)) (a1:Int):Option (Int):=if (wrap64 (a1-(a0_4.size:Int)))<0 then (some (-1)) else ((laws_szSet.f k l0_6 l0_7 (wrap64 (a1-(a0_4.size:Int)))).bind fun t108=>(if t108<0 then (some (-1)) else (some t108)))
theorem laws_szMsg.mono:∀ a0 a1 a2 a3 a4 a5 a6 a7 a8 k,LeO (laws_szMsg.f k a0 a1 a2 a3 a4 a5 a6 a7 a8) (laws_szMsg.f (k+1) a0 a1 a2 a3 a4 a5 a6 a7 a8):=by
 intro a0 a1 a2 a3 a4 a5 a6 a7 a8 k
 unfold laws_szMsg.f
 repeat' first
   | (with_reducible exact laws_szSet.mono _ _ _ _)
   | (with_reducible exact LeO.refl _)
   | (with_reducible exact LeO.none _)
   | (with_reducible refine LeO.ite ?_ ?_)
   | (with_reducible refine LeO.bind ?_ (fun _=>?_))
   | exact laws_szSet.mono _ _ _ _
   | exact LeO.none _
   | refine LeO.ite ?_ ?_
   | refine LeO.bind ?_ (fun _=>?_)
set_option maxHeartbeats 8000000 in
set_option maxRecDepth 100000 in
theorem laws_szMsg.calls (k:Nat) (a0_0:Int) (a0_1:Int) (a0_2:Int) (a0_3:Int) (a0_4:ByteArray) (a0_5:Int) (A0_6:Option Addr) (c0_6:Nat) (l0_6:List (S100)) (A0_7:Option Addr) (c0_7:Nat) (l0_7:List (S107)) (a1:Int) (r:Int) (w:World) (hr0_6:Kd.C k100 w A0_6 l0_6.length l0_6) (hc0_6:l0_6.length≤c0_6) (hr0_7:Kd.C k107 w A0_7 l0_7.length l0_7) (hc0_7:l0_7.length≤c0_7) (h:laws_szMsg.f k a0_0 a0_1 a0_2 a0_3 a0_4 a0_5 l0_6 l0_7 a1=some r) :
  Calls Try.prog 11 #[.agg #[.int .i64 a0_0,.int .i64 a0_1,.int .i64 a0_2,.int .i64 a0_3,.string a0_4,.int .i64 a0_5,.slice A0_6 l0_6.length c0_6,.slice A0_7 l0_7.length c0_7],.int .i64 a1] w fun e w'=>e = .returned (.int .i64 r)∧Below w.heap.size w w':=by
 have hu34:=Try.underlying34
 have hu32:=Try.underlying32
 have HR0_6:=Aside0.mk hr0_6
 have HC0_6:=Aside0.mk hc0_6
 clear hr0_6 hc0_6
 have HR0_7:=Aside0.mk hr0_7
 have HC0_7:=Aside0.mk hc0_7
 clear hr0_7 hc0_7
 have HB:=Aside0.mk (Below.refl w.heap.size w)
 have H:(if (wrap64 (a1-(a0_4.size:Int)))<0 then (some (-1)) else ((laws_szSet.f k l0_6 l0_7 (wrap64 (a1-(a0_4.size:Int)))).bind fun t108=>(if t108<0 then (some (-1)) else (some t108))))=some r:=h
 clear h
 by_cases c3:(wrap64 (a1-(a0_4.size:Int)))<0
 ·rw [if_pos c3] at H
  have c3b0:decide ((wrap64 (a1-(a0_4.size:Int)))<0)=true:=decide_eq_true c3
  clear c3
  obtain rfl:=Option.some.inj H
  go_enter Try.func11,Try.ntmps11
  go_wp2_with (first | ((with_reducible refine gd_ 2 ?_);refine be_ 2 #[.int .i64 a0_0,.int .i64 a0_1,.int .i64 a0_2,.int .i64 a0_3,.string a0_4,.int .i64 a0_5,.slice A0_6 l0_6.length c0_6,.slice A0_7 l0_7.length c0_7] 34 ?_;intro gb107 hg w4 hbox hb;refine as4_ (below_step (z5_ HB.out) hb) (hbox) ((z7_ HB.out:w.heap.size≤gb107)) ((z7_ HB.out:w.heap.size≤gb107)) ?_;clear HB;intro HB BK107 GW107 GE107;clear hb hbox hg;have ⟨hcz5_0,hcz5_1,hcz5_2,hcz5_3,hcz5_4,hcz5_5,hcz5_6,hcz5_7,hfz5_0,hfz5_1,hfz5_2,hfz5_3,hfz5_4,hfz5_5,hfz5_6,hfz5_7⟩:=cz8_ BK107.out))
  go_ret
  exact ⟨z8_,z4_ HB.out GE107.out⟩
 ·rw [if_neg c3] at H
  have c3b0:decide ((wrap64 (a1-(a0_4.size:Int)))<0)=false:=decide_eq_false c3
  clear c3
  replace H:=Option.bind_eq_some_iff.mp H
  obtain ⟨t108,A60,H⟩:=H
  replace H:(if t108<0 then (some (-1)) else (some t108))=some r:=H
  have A6:=Aside0.mk A60
  clear A60
  by_cases c7:t108<0
  ·rw [if_pos c7] at H
   have c7b0:decide (t108<0)=true:=decide_eq_true c7
   clear c7
   obtain rfl:=Option.some.inj H
   go_enter Try.func11,Try.ntmps11
   go_wp2_with (first | ((with_reducible refine gd_ 2 ?_);refine be_ 2 #[.int .i64 a0_0,.int .i64 a0_1,.int .i64 a0_2,.int .i64 a0_3,.string a0_4,.int .i64 a0_5,.slice A0_6 l0_6.length c0_6,.slice A0_7 l0_7.length c0_7] 34 ?_;intro gb107 hg w8 hbox hb;refine as4_ (below_step (z5_ HB.out) hb) (hbox) ((z7_ HB.out:w.heap.size≤gb107)) ((z7_ HB.out:w.heap.size≤gb107)) ?_;clear HB;intro HB BK107 GW107 GE107;clear hb hbox hg;have ⟨hcz9_0,hcz9_1,hcz9_2,hcz9_3,hcz9_4,hcz9_5,hcz9_6,hcz9_7,hfz9_0,hfz9_1,hfz9_2,hfz9_3,hfz9_4,hfz9_5,hfz9_6,hfz9_7⟩:=cz8_ BK107.out) | ((with_reducible refine gc_ 12 ?_);refine gl_ (some 15) Try.func12 #[.agg #[.slice A0_6 l0_6.length c0_6,.slice A0_7 l0_7.length c0_7],.int .i64 (wrap64 (a1-(a0_4.size:Int)))] ?_;(with_reducible refine (laws_szSet.calls k _ _ l0_6 _ _ l0_7 (wrap64 (a1-(a0_4.size:Int))) t108 _ ?s1 ?s2 ?s3 ?s4 A6.out).mono ?_);(case s1=>repeat (first | exact (Kd.C_below HR0_6.out HB.out) | (with_reducible refine Kd.C_alloc ?_ _) | (with_reducible refine Kd.C_drewN ?_ _) | (with_reducible refine Kd.C_drew ?_)));(case s2=>exact HC0_6.out);(case s3=>repeat (first | exact (Kd.C_below HR0_7.out HB.out) | (with_reducible refine Kd.C_alloc ?_ _) | (with_reducible refine Kd.C_drewN ?_ _) | (with_reducible refine Kd.C_drew ?_)));(case s4=>exact HC0_7.out);rintro e w10 ⟨rfl,hb⟩;refine ⟨_,rfl,?_⟩;refine as2_ (blkB_ BK107.out hb) (below_step (z4_ HB.out GE107.out) hb) ?_;clear BK107 HB;intro BK107 HB;(try clear hb)))
   go_ret
   exact ⟨z8_,z4_ HB.out GE107.out⟩
  ·rw [if_neg c7] at H
   have c7b0:decide (t108<0)=false:=decide_eq_false c7
   clear c7
   obtain rfl:=Option.some.inj H
   go_enter Try.func11,Try.ntmps11
   go_wp2_with (first | ((with_reducible refine gd_ 2 ?_);refine be_ 2 #[.int .i64 a0_0,.int .i64 a0_1,.int .i64 a0_2,.int .i64 a0_3,.string a0_4,.int .i64 a0_5,.slice A0_6 l0_6.length c0_6,.slice A0_7 l0_7.length c0_7] 34 ?_;intro gb107 hg w11 hbox hb;refine as4_ (below_step (z5_ HB.out) hb) (hbox) ((z7_ HB.out:w.heap.size≤gb107)) ((z7_ HB.out:w.heap.size≤gb107)) ?_;clear HB;intro HB BK107 GW107 GE107;clear hb hbox hg;have ⟨hcz12_0,hcz12_1,hcz12_2,hcz12_3,hcz12_4,hcz12_5,hcz12_6,hcz12_7,hfz12_0,hfz12_1,hfz12_2,hfz12_3,hfz12_4,hfz12_5,hfz12_6,hfz12_7⟩:=cz8_ BK107.out) | ((with_reducible refine gc_ 12 ?_);refine gl_ (some 15) Try.func12 #[.agg #[.slice A0_6 l0_6.length c0_6,.slice A0_7 l0_7.length c0_7],.int .i64 (wrap64 (a1-(a0_4.size:Int)))] ?_;(with_reducible refine (laws_szSet.calls k _ _ l0_6 _ _ l0_7 (wrap64 (a1-(a0_4.size:Int))) t108 _ ?s1 ?s2 ?s3 ?s4 A6.out).mono ?_);(case s1=>repeat (first | exact (Kd.C_below HR0_6.out HB.out) | (with_reducible refine Kd.C_alloc ?_ _) | (with_reducible refine Kd.C_drewN ?_ _) | (with_reducible refine Kd.C_drew ?_)));(case s2=>exact HC0_6.out);(case s3=>repeat (first | exact (Kd.C_below HR0_7.out HB.out) | (with_reducible refine Kd.C_alloc ?_ _) | (with_reducible refine Kd.C_drewN ?_ _) | (with_reducible refine Kd.C_drew ?_)));(case s4=>exact HC0_7.out);rintro e w13 ⟨rfl,hb⟩;refine ⟨_,rfl,?_⟩;refine as2_ (blkB_ BK107.out hb) (below_step (z4_ HB.out GE107.out) hb) ?_;clear BK107 HB;intro BK107 HB;(try clear hb)))
   go_ret
   exact ⟨z8_,z4_ HB.out GE107.out⟩


/-! ### spec_l02Is: function 37 -/
def spec_l02Is.f (a0:Int) (a1:Int) (a2:Int):Option (Bool):=if a0≥a1 then (some (decide (a0≤a2))) else (some false)
set_option maxHeartbeats 8000000 in
set_option maxRecDepth 100000 in
theorem spec_l02Is.calls (a0:Int) (a1:Int) (a2:Int) (r:Bool) (w:World) (h:spec_l02Is.f a0 a1 a2=some r) :
  Calls Try.prog 37 #[.int .i64 a0,.int .i64 a1,.int .i64 a2] w fun e w'=>e = .returned (.bool r)∧Drawn0 w w':=by
 have H:(if a0≥a1 then (some (decide (a0≤a2))) else (some false))=some r:=h
 clear h
 by_cases c4:a0≥a1
 ·rw [if_pos c4] at H
  have c4b0:decide (a1≤a0)=true:=decide_eq_true c4
  clear c4
  obtain rfl:=Option.some.inj H
  go_enter Try.func37,Try.ntmps37
  go_wp2
  go_ret
  exact ⟨z2_,z10_⟩
 ·rw [if_neg c4] at H
  have c4b0:decide (a1≤a0)=false:=decide_eq_false c4
  clear c4
  obtain rfl:=Option.some.inj H
  go_enter Try.func37,Try.ntmps37
  go_wp2
  go_ret
  exact ⟨z2_,z10_⟩


/-! ### spec_l02Node: function 69 -/
def spec_l02Node.f (a0:Int):Option (Bool):=(spec_l02Is.f a0 1 5).bind fun t109=>(some t109)
set_option maxHeartbeats 8000000 in
set_option maxRecDepth 100000 in
theorem spec_l02Node.calls (a0:Int) (r:Bool) (w:World) (h:spec_l02Node.f a0=some r) :
  Calls Try.prog 69 #[.int .i64 a0] w fun e w'=>e = .returned (.bool r)∧Drawn0 w w':=by
 have H:((spec_l02Is.f a0 1 5).bind fun t109=>(some t109))=some r:=h
 clear h
 replace H:=Option.bind_eq_some_iff.mp H
 obtain ⟨t109,A20,H⟩:=H
 replace H:(some t109)=some r:=H
 have A2:=Aside0.mk A20
 clear A20
 obtain rfl:=Option.some.inj H
 go_enter Try.func69,Try.ntmps69
 go_wp2_with (first | ((with_reducible refine gc_ 37 ?_);refine gl_ (some 4) Try.func37 #[.int .i64 a0,.int .i64 1,.int .i64 5] ?_;(with_reducible refine (spec_l02Is.calls a0 1 5 t109 _ A2.out).mono ?_);rintro e w' ⟨rfl,⟨nd,rfl⟩⟩;refine ⟨_,rfl,?_⟩))
 go_ret
 exact ⟨z2_,z10_⟩


/-! ### spec_l02Dot: function 101 -/
def spec_l02Dot.f (a0_0:Int) (a0_1:Int):Option (Bool):=(spec_l02Node.f a0_0).bind fun t111=>(if t111=true then ((spec_l02Is.f a0_1 1 1000000).bind fun t112=>(some t112)) else (some false))
set_option maxHeartbeats 8000000 in
set_option maxRecDepth 100000 in
theorem spec_l02Dot.calls (a0_0:Int) (a0_1:Int) (r:Bool) (w:World) (h:spec_l02Dot.f a0_0 a0_1=some r) :
  Calls Try.prog 101 #[.agg #[.int .i64 a0_0,.int .i64 a0_1]] w fun e w'=>e = .returned (.bool r)∧Below w.heap.size w w':=by
 have hu56:=Try.underlying56
 have HB:=Aside0.mk (Below.refl w.heap.size w)
 have H:((spec_l02Node.f a0_0).bind fun t111=>(if t111=true then ((spec_l02Is.f a0_1 1 1000000).bind fun t112=>(some t112)) else (some false)))=some r:=h
 clear h
 replace H:=Option.bind_eq_some_iff.mp H
 obtain ⟨t111,A20,H⟩:=H
 replace H:(if t111=true then ((spec_l02Is.f a0_1 1 1000000).bind fun t112=>(some t112)) else (some false))=some r:=H
 have A2:=Aside0.mk A20
 clear A20
 by_cases c3:t111=true
 ·subst c3
  have H1:((spec_l02Is.f a0_1 1 1000000).bind fun t112=>(some t112))=some r:=by rw [if_pos rfl] at H;exact H
  clear H
  have H:=H1
  clear H1
  replace H:=Option.bind_eq_some_iff.mp H
  obtain ⟨t112,A40,H⟩:=H
  replace H:(some t112)=some r:=H
  have A4:=Aside0.mk A40
  clear A40
  obtain rfl:=Option.some.inj H
  go_enter Try.func101,Try.ntmps101
  go_wp2_with (first | ((with_reducible refine gd_ 1 ?_);refine be_ 1 #[.int .i64 a0_0,.int .i64 a0_1] 56 ?_;intro gb110 hg w5 hbox hb;refine as4_ (below_step (z5_ HB.out) hb) (hbox) ((z7_ HB.out:w.heap.size≤gb110)) ((z7_ HB.out:w.heap.size≤gb110)) ?_;clear HB;intro HB BK110 GW110 GE110;clear hb hbox hg;have ⟨hcz6_0,hcz6_1,hfz6_0,hfz6_1⟩:=cz2_ BK110.out) | ((with_reducible refine gc_ 69 ?_);refine gl_ (some 5) Try.func69 #[.int .i64 a0_0] ?_;(with_reducible refine (spec_l02Node.calls a0_0 true _ A2.out).mono ?_);rintro e w' ⟨rfl,⟨nd,rfl⟩⟩;refine ⟨_,rfl,?_⟩) | (go_at_call 37;(with_reducible refine (spec_l02Is.calls a0_1 1 1000000 t112 _ A4.out).mono ?_);rintro e w' ⟨rfl,⟨nd,rfl⟩⟩))
  go_ret
  exact ⟨z8_,z4_ HB.out GE110.out⟩
 ·replace c3:=Bool.eq_false_iff.mpr c3
  subst c3
  have H1:(some false)=some r:=by rw [if_neg (show ¬ (false=true) by decide)] at H;exact H
  clear H
  have H:=H1
  clear H1
  obtain rfl:=Option.some.inj H
  go_enter Try.func101,Try.ntmps101
  go_wp2_with (first | ((with_reducible refine gd_ 1 ?_);refine be_ 1 #[.int .i64 a0_0,.int .i64 a0_1] 56 ?_;intro gb110 hg w7 hbox hb;refine as4_ (below_step (z5_ HB.out) hb) (hbox) ((z7_ HB.out:w.heap.size≤gb110)) ((z7_ HB.out:w.heap.size≤gb110)) ?_;clear HB;intro HB BK110 GW110 GE110;clear hb hbox hg;have ⟨hcz8_0,hcz8_1,hfz8_0,hfz8_1⟩:=cz2_ BK110.out) | ((with_reducible refine gc_ 69 ?_);refine gl_ (some 5) Try.func69 #[.int .i64 a0_0] ?_;(with_reducible refine (spec_l02Node.calls a0_0 false _ A2.out).mono ?_);rintro e w' ⟨rfl,⟨nd,rfl⟩⟩;refine ⟨_,rfl,?_⟩))
  go_ret
  exact ⟨z8_,z4_ HB.out GE110.out⟩


/-! ### spec_SeenRight: function 68 -/
mutual
def spec_SeenRight.l0:Nat→List (S56)→Int→Option (Bool)
 | 0,_,_=>none
 | k+1,x0,x3=>if x3<(x0.length:Int) then (spec_SeenRight.j1 k x0 x3 (decide (x3≤5))) else (spec_SeenRight.j1 k x0 x3 false)
def spec_SeenRight.j1:Nat→List (S56)→Int→Bool→Option (Bool)
 | 0,_,_,_=>none
 | k+1,x0,x3,x11=>if x11=true then (if 0≤x3 then (if x3<(x0.length:Int) then ((spec_l02Dot.f ((rd_T56 x0 x3).f0) ((rd_T56 x0 x3).f1)).bind fun t114=>(if t114=true then (if x3>0 then (if 0≤(wrap64 (x3-1)) then (if (wrap64 (x3-1))<(x0.length:Int) then (if ((rd_T56 x0 (wrap64 (x3-1))).f0)≥((rd_T56 x0 x3).f0) then (some false) else (spec_SeenRight.l0 k x0 (wrap64 (x3+1)))) else (none)) else (none)) else (spec_SeenRight.l0 k x0 (wrap64 (x3+1)))) else (some false))) else (none)) else (none)) else (some (decide ((x0.length:Int)≤5)))
end
def spec_SeenRight.f (k:Nat) (l0:List (S56)):Option (Bool):=spec_SeenRight.l0 k l0 0
theorem spec_SeenRight.mono_l:∀ k,(∀ y0 y1,LeO (spec_SeenRight.l0 k y0 y1) (spec_SeenRight.l0 (k+1) y0 y1))∧(∀ y0 y1 y2,LeO (spec_SeenRight.j1 k y0 y1 y2) (spec_SeenRight.j1 (k+1) y0 y1 y2))
 | 0=>⟨fun _ _ r h=>by simp [spec_SeenRight.l0] at h,fun _ _ _ r h=>by simp [spec_SeenRight.j1] at h⟩
 | k+1=>by
  obtain ⟨ih0,ih1⟩:=spec_SeenRight.mono_l k
  refine ⟨?_,?_⟩
  ·intro y0 y1
   unfold spec_SeenRight.l0
   repeat' first
   | (with_reducible exact ih0 _ _)
   | (with_reducible exact ih1 _ _ _)
   | (with_reducible exact LeO.refl _)
   | (with_reducible exact LeO.none _)
   | (with_reducible refine LeO.ite ?_ ?_)
   | (with_reducible refine LeO.bind ?_ (fun _=>?_))
   | exact ih0 _ _
   | exact ih1 _ _ _
   | exact LeO.none _
   | refine LeO.ite ?_ ?_
   | refine LeO.bind ?_ (fun _=>?_)
  ·intro y0 y1 y2
   unfold spec_SeenRight.j1
   repeat' first
   | (with_reducible exact ih0 _ _)
   | (with_reducible exact ih1 _ _ _)
   | (with_reducible exact LeO.refl _)
   | (with_reducible exact LeO.none _)
   | (with_reducible refine LeO.ite ?_ ?_)
   | (with_reducible refine LeO.bind ?_ (fun _=>?_))
   | exact ih0 _ _
   | exact ih1 _ _ _
   | exact LeO.none _
   | refine LeO.ite ?_ ?_
   | refine LeO.bind ?_ (fun _=>?_)
theorem spec_SeenRight.mono:∀ a0 k,LeO (spec_SeenRight.f k a0) (spec_SeenRight.f (k+1) a0):=by
 intro a0 k
 obtain ⟨ih0,ih1⟩:=spec_SeenRight.mono_l k
 unfold spec_SeenRight.f
 repeat' first
   | (with_reducible exact ih0 _ _)
   | (with_reducible exact ih1 _ _ _)
   | (with_reducible exact LeO.refl _)
   | (with_reducible exact LeO.none _)
   | (with_reducible refine LeO.ite ?_ ?_)
   | (with_reducible refine LeO.bind ?_ (fun _=>?_))
   | exact ih0 _ _
   | exact ih1 _ _ _
   | exact LeO.none _
   | refine LeO.ite ?_ ?_
   | refine LeO.bind ?_ (fun _=>?_)
def spec_SeenRight.T4:Bool × List (List Nat × List Nat):=(true,[([],[]),([],[]),([0,1],[0,1]),([2],[2]),([3],[3]),([4],[4]),([5,4],[5]),([6],[6]),([7,6],[6,7]),([8,6,6],[6,8]),([9],[9]),([9],[9]),([11,9],[9,11]),([10,12,9],[9,10,12]),([13,9],[9,13]),([14,9],[9,14]),([9],[9]),([9],[9]),([16,17,9],[9,16,17]),([18,9],[9,18]),([19,9],[9,19]),([15,20,9],[9,15,20]),([9,21,6],[6,9,21]),([6,22],[6,22])])
def spec_SeenRight.B4:List Nat:=[0,0,3,7,15,31,63,127,255,511,1023,1023,3071,8191,16383,32767,1023,1023,197631,459775,984063,2097151,4194303,8388607]
theorem spec_SeenRight.tab4:rtab .any (opsOf Try.f68 4)=spec_SeenRight.T4:=by kernel_rfl
theorem spec_SeenRight.bits4:waitsOk spec_SeenRight.T4.2 spec_SeenRight.B4=true:=by kernel_rfl
abbrev spec_SeenRight.q0:Array Bool:=#[O,O,O,O,O,O,O,O,O,O,O,O,O,O,O,O,O,O,O,O,O,O,O,O]
abbrev spec_SeenRight.q1:Array Bool:=#[I,O,O,O,O,O,O,O,O,O,O,O,O,O,O,O,O,O,O,O,O,O,O,O]
abbrev spec_SeenRight.q2:Array Bool:=#[I,I,O,O,O,O,O,O,O,O,O,O,O,O,O,O,O,O,O,O,O,O,O,O]
abbrev spec_SeenRight.q3:Array Bool:=#[I,I,I,O,O,O,O,O,O,O,O,O,O,O,O,O,O,O,O,O,O,O,O,O]
abbrev spec_SeenRight.q4:Array Bool:=#[I,I,I,I,O,O,O,O,O,O,O,O,O,O,O,O,O,O,O,O,O,O,O,O]
abbrev spec_SeenRight.q5:Array Bool:=#[I,I,I,I,I,O,O,O,O,O,O,O,O,O,O,O,O,O,O,O,O,O,O,O]
abbrev spec_SeenRight.q6:Array Bool:=#[I,I,I,I,I,I,O,O,O,O,O,O,O,O,O,O,O,O,O,O,O,O,O,O]
abbrev spec_SeenRight.q7:Array Bool:=#[I,I,I,I,I,I,I,O,O,O,O,O,O,O,O,O,O,O,O,O,O,O,O,O]
abbrev spec_SeenRight.q8:Array Bool:=#[I,I,I,I,I,I,I,I,O,O,O,O,O,O,O,O,O,O,O,O,O,O,O,O]
abbrev spec_SeenRight.q9:Array Bool:=#[I,I,I,I,I,I,I,I,I,O,O,O,O,O,O,O,O,O,O,O,O,O,O,O]
abbrev spec_SeenRight.q10:Array Bool:=#[I,I,I,I,I,I,I,I,I,I,O,O,O,O,O,O,O,O,O,O,O,O,O,O]
abbrev spec_SeenRight.q11:Array Bool:=#[I,I,I,I,I,I,I,I,I,I,I,O,O,O,O,O,O,O,O,O,O,O,O,O]
abbrev spec_SeenRight.q12:Array Bool:=#[I,I,I,I,I,I,I,I,I,I,I,I,O,O,O,O,O,O,O,O,O,O,O,O]
abbrev spec_SeenRight.q13:Array Bool:=#[I,I,I,I,I,I,I,I,I,I,I,I,I,O,O,O,O,O,O,O,O,O,O,O]
abbrev spec_SeenRight.q14:Array Bool:=#[I,I,I,I,I,I,I,I,I,I,I,I,I,I,O,O,O,O,O,O,O,O,O,O]
abbrev spec_SeenRight.q15:Array Bool:=#[I,I,I,I,I,I,I,I,I,I,I,I,I,I,I,O,O,O,O,O,O,O,O,O]
abbrev spec_SeenRight.q16:Array Bool:=#[I,I,I,I,I,I,I,I,I,I,I,I,I,I,I,O,I,O,O,O,O,O,O,O]
abbrev spec_SeenRight.q17:Array Bool:=#[I,I,I,I,I,I,I,I,I,I,I,I,I,I,I,O,I,I,O,O,O,O,O,O]
abbrev spec_SeenRight.q18:Array Bool:=#[I,I,I,I,I,I,I,I,I,I,I,I,I,I,I,O,I,I,I,O,O,O,O,O]
abbrev spec_SeenRight.q19:Array Bool:=#[I,I,I,I,I,I,I,I,I,I,I,I,I,I,I,O,I,I,I,I,O,O,O,O]
abbrev spec_SeenRight.q20:Array Bool:=#[I,I,I,I,I,I,I,I,I,I,I,I,I,I,I,I,I,I,I,I,O,O,O,O]
abbrev spec_SeenRight.q21:Array Bool:=#[I,I,I,I,I,I,I,I,I,I,I,I,I,I,I,I,I,I,I,I,I,O,O,O]
abbrev spec_SeenRight.q22:Array Bool:=#[I,I,I,I,I,I,I,I,I,I,I,I,I,I,I,I,I,I,I,I,I,I,O,O]
abbrev spec_SeenRight.q23:Array Bool:=#[I,I,I,I,I,I,I,I,I,I,I,I,I,I,I,I,I,I,I,I,I,I,I,O]
abbrev spec_SeenRight.q24:Array Bool:=#[I,I,I,I,I,I,I,I,I,I,I,I,I,I,I,I,I,I,I,I,I,I,I,I]
abbrev spec_SeenRight.q25:Array Bool:=#[I,I,I,I,I,I,I,I,I,I,I,I,I,I,I,I,O,O,O,O,O,O,O,O]
abbrev spec_SeenRight.q26:Array Bool:=#[I,I,I,I,I,I,I,I,I,I,I,I,I,I,I,I,I,O,O,O,O,O,O,O]
abbrev spec_SeenRight.q27:Array Bool:=#[I,I,I,I,I,I,I,I,I,I,I,I,I,I,I,I,I,I,O,O,O,O,O,O]
abbrev spec_SeenRight.q28:Array Bool:=#[I,I,I,I,I,I,I,I,I,I,I,I,I,I,I,I,I,I,I,O,O,O,O,O]
set_option maxHeartbeats 8000000 in
set_option maxRecDepth 100000 in
theorem spec_SeenRight.calls (k:Nat) (A0:Option Addr) (c0:Nat) (l0:List (S56)) (r:Bool) (w:World) (hr0:Kd.C k56 w A0 l0.length l0) (hc0:l0.length≤c0) (h:spec_SeenRight.f k l0=some r) :
  Calls Try.prog 68 #[.slice A0 l0.length c0] w fun e w'=>e = .returned (.bool r)∧Below w.heap.size w w':=by
 have hu56:=Try.underlying56
 have HR0:=Aside0.mk hr0
 have HC0:=Aside0.mk hc0
 clear hr0 hc0
 have HB:=Aside0.mk (Below.refl w.heap.size w)
 have H:(spec_SeenRight.l0 k l0 0)=some r:=h
 clear h
 have H':=Aside0.mk H
 clear H
 go_enter Try.func68,Try.ntmps68
 go_wp2
 go_loopg [3] k (fun kq v3 w'=>∃ (x3_1:Int),v3 = .int .i64 x3_1∧Aside0 (spec_SeenRight.l0 kq l0 x3_1=some r)∧Aside0 (kq≤k)∧Aside0 (Below w.heap.size w w'))
 case atStart=>exact ⟨(0),(z2_),H',⟨Nat.le_refl _⟩,⟨z5_ HB.out⟩⟩
 case round =>
  clear H'
  obtain ⟨x3_1,rfl,HA,HK1,HB⟩:=hrel
  cases gk with
  | zero=>exact absurd HA.out (by simp [spec_SeenRight.l0])
  | succ k1 =>
   have H:=HA.out
   clear HA
   simp only [spec_SeenRight.l0] at H
   have HC2:=Aside0.mk H
   clear H
   go_upto_region 2 with (fail)
   go_cut [11] (fun v11 wc=>∃ (kq:Nat) (x11_1:Bool),v11 = .bool x11_1∧Aside0 (spec_SeenRight.j1 kq l0 x3_1 x11_1=some r)∧Aside0 (kq≤k1)∧Aside0 (Below w.heap.size w wc))
   case first =>
    have H:=HC2.out
    clear HC2
    by_cases c3:x3_1<(l0.length:Int)
    ·rw [if_pos c3] at H
     have c3b0:decide (x3_1<(l0.length:Int))=true:=decide_eq_true c3
     clear c3
     (first | rw [c3b0] | (simp only [i64_w,i32_w];rw [c3b0]) | skip)
     have H':=Aside0.mk H
     clear H
     go_wp2
     go_meet
     case rel=>exact ⟨_,(decide (x3_1≤5)),(z2_),H',⟨by have:=HK1.out;first | omega | exact Nat.le_refl _⟩,⟨z5_ HB.out⟩⟩
    ·rw [if_neg c3] at H
     have c3b0:decide (x3_1<(l0.length:Int))=false:=decide_eq_false c3
     clear c3
     (first | rw [c3b0] | (simp only [i64_w,i32_w];rw [c3b0]) | skip)
     have H':=Aside0.mk H
     clear H
     go_wp2
     go_meet
     case rel=>exact ⟨_,(false),(z2_),H',⟨by have:=HK1.out;first | omega | exact Nat.le_refl _⟩,⟨z5_ HB.out⟩⟩
   case rest =>
    clear HC2
    try clear p2
    try clear c3
    try clear c3b0
    obtain ⟨kq,x11_1,rfl,HA,HJ1,HB⟩:=hcut
    cases kq with
    | zero=>exact absurd HA.out (by simp [spec_SeenRight.j1])
    | succ kj1 =>
     have H:=HA.out
     clear HA
     simp only [spec_SeenRight.j1] at H
     by_cases c4:x11_1=true
     ·subst c4
      have H1:(if 0≤x3_1 then (if x3_1<(l0.length:Int) then ((spec_l02Dot.f ((rd_T56 l0 x3_1).f0) ((rd_T56 l0 x3_1).f1)).bind fun t114=>(if t114=true then (if x3_1>0 then (if 0≤(wrap64 (x3_1-1)) then (if (wrap64 (x3_1-1))<(l0.length:Int) then (if ((rd_T56 l0 (wrap64 (x3_1-1))).f0)≥((rd_T56 l0 x3_1).f0) then (some false) else (spec_SeenRight.l0 kj1 l0 (wrap64 (x3_1+1)))) else (none)) else (none)) else (spec_SeenRight.l0 kj1 l0 (wrap64 (x3_1+1)))) else (some false))) else (none)) else (none))=some r:=by rw [if_pos rfl] at H;exact H
      clear H
      have H:=H1
      clear H1
      by_cases c5:0≤x3_1
      ·rw [if_pos c5] at H
       have c5b0:decide (0≤x3_1)=true:=decide_eq_true c5
       clear c5
       by_cases c6:x3_1<(l0.length:Int)
       ·rw [if_pos c6] at H
        have c6b0:decide (x3_1<(l0.length:Int))=true:=decide_eq_true c6
        clear c6
        replace H:=Option.bind_eq_some_iff.mp H
        obtain ⟨t114,A70,H⟩:=H
        replace H:(if t114=true then (if x3_1>0 then (if 0≤(wrap64 (x3_1-1)) then (if (wrap64 (x3_1-1))<(l0.length:Int) then (if ((rd_T56 l0 (wrap64 (x3_1-1))).f0)≥((rd_T56 l0 x3_1).f0) then (some false) else (spec_SeenRight.l0 kj1 l0 (wrap64 (x3_1+1)))) else (none)) else (none)) else (spec_SeenRight.l0 kj1 l0 (wrap64 (x3_1+1)))) else (some false))=some r:=H
        have A7:=Aside0.mk A70
        clear A70
        by_cases c8:t114=true
        ·subst c8
         have H1:(if x3_1>0 then (if 0≤(wrap64 (x3_1-1)) then (if (wrap64 (x3_1-1))<(l0.length:Int) then (if ((rd_T56 l0 (wrap64 (x3_1-1))).f0)≥((rd_T56 l0 x3_1).f0) then (some false) else (spec_SeenRight.l0 kj1 l0 (wrap64 (x3_1+1)))) else (none)) else (none)) else (spec_SeenRight.l0 kj1 l0 (wrap64 (x3_1+1))))=some r:=by rw [if_pos rfl] at H;exact H
         clear H
         have H:=H1
         clear H1
         by_cases c9:x3_1>0
         ·rw [if_pos c9] at H
          have c9b0:decide (0<x3_1)=true:=decide_eq_true c9
          clear c9
          obtain ⟨ji10,hji10⟩:∃ j_:Int,(wrap64 (x3_1-1))=j_:=⟨_,rfl⟩
          replace H:(if 0≤(ji10) then (if (ji10)<(l0.length:Int) then (if ((rd_T56 l0 (ji10)).f0)≥((rd_T56 l0 x3_1).f0) then (some false) else (spec_SeenRight.l0 kj1 l0 (wrap64 (x3_1+1)))) else (none)) else (none))=some r:=by first | (rw [hji10] at H;exact H) | (simp only [hji10] at H ⊢;exact H)
          (try rw [hji10] at A7)
          have hji10w:(IntKind.i64.wrap (x3_1-1))=ji10:=(i64_w _).trans hji10
          by_cases c11:0≤(ji10)
          ·rw [if_pos c11] at H
           have c11b0:decide (0≤(ji10))=true:=decide_eq_true c11
           clear c11
           by_cases c12:(ji10)<(l0.length:Int)
           ·rw [if_pos c12] at H
            have c12b0:decide ((ji10)<(l0.length:Int))=true:=decide_eq_true c12
            clear c12
            by_cases c13:((rd_T56 l0 (ji10)).f0)≥((rd_T56 l0 x3_1).f0)
            ·rw [if_pos c13] at H
             have c13b0:decide (((rd_T56 l0 x3_1).f0)≤((rd_T56 l0 (ji10)).f0))=true:=decide_eq_true c13
             clear c13
             obtain rfl:=Option.some.inj H
             try go_wp2
             have n0_:=Aside0.mk (below_drew1 HB.out)
             clear HB
             have HB:=n0_
             clear n0_
             have p113:0≤(x3_1:Int):=of_decide_eq_true (z1_)
             have q113:x3_1<(l0.length:Int):=of_decide_eq_true (z1_)
             obtain ⟨ad113,e113,hx113_0,hx113_1⟩:=at_T56 HR0.out x3_1 p113 q113
             have hw113_1:=hx113_1
             have hw113_0:=hx113_0
             cases e113
             replace hx113_0:=(HB.out.cell (World.block_lt_of_cell? w _ hx113_0)).trans hx113_0
             replace hx113_1:=(HB.out.cell (World.block_lt_of_cell? w _ hx113_1)).trans hx113_1
             replace p113:=eq_true p113
             replace q113:=eq_true q113
             have p115:0≤((ji10):Int):=of_decide_eq_true (z1_)
             have q115:(ji10)<(l0.length:Int):=of_decide_eq_true (z1_)
             obtain ⟨ad115,e115,hx115_0,hx115_1⟩:=at_T56 HR0.out (ji10) p115 q115
             have hw115_1:=hx115_1
             have hw115_0:=hx115_0
             obtain rfl:ad113=ad115:=(by injection e115)
             replace hx115_0:=(HB.out.cell (World.block_lt_of_cell? w _ hx115_0)).trans hx115_0
             replace hx115_1:=(HB.out.cell (World.block_lt_of_cell? w _ hx115_1)).trans hx115_1
             replace p115:=eq_true p115
             replace q115:=eq_true q115
             have p116:0≤(x3_1:Int):=of_decide_eq_true (z1_)
             have q116:x3_1<(l0.length:Int):=of_decide_eq_true (z1_)
             obtain ⟨ad116,e116,hx116_0,hx116_1⟩:=at_T56 HR0.out x3_1 p116 q116
             have hw116_1:=hx116_1
             have hw116_0:=hx116_0
             obtain rfl:ad113=ad116:=(by injection e116)
             replace hx116_0:=(HB.out.cell (World.block_lt_of_cell? w _ hx116_0)).trans hx116_0
             replace hx116_1:=(HB.out.cell (World.block_lt_of_cell? w _ hx116_1)).trans hx116_1
             replace p116:=eq_true p116
             replace q116:=eq_true q116
             refine start_ (n:=24) (S:=fun w'=>w'.cell? (ad113.add ((x3_1).toNat*2))=some (.int .i64 ((rd_T56 l0 x3_1).f0))∧w'.cell? ⟨(ad113.add ((x3_1).toNat*2)).block,(ad113.add ((x3_1).toNat*2)).off+1,none⟩=some (.int .i64 ((rd_T56 l0 x3_1).f1))∧w'.cell? (ad113.add (((ji10)).toNat*2))=some (.int .i64 ((rd_T56 l0 (ji10)).f0))∧w'.cell? ⟨(ad113.add (((ji10)).toNat*2)).block,(ad113.add (((ji10)).toNat*2)).off+1,none⟩=some (.int .i64 ((rd_T56 l0 (ji10)).f1))∧w'.cell? (ad113.add ((x3_1).toNat*2))=some (.int .i64 ((rd_T56 l0 x3_1).f0))∧w'.cell? ⟨(ad113.add ((x3_1).toNat*2)).block,(ad113.add ((x3_1).toNat*2)).off+1,none⟩=some (.int .i64 ((rd_T56 l0 x3_1).f1))) (ds:=[]) spec_SeenRight.q0 (by kernel_rfl) rfl rfl ⟨((HB.out.cell (World.block_lt_of_cell? w _ hw113_0)).trans hw113_0),((HB.out.cell (World.block_lt_of_cell? w _ hw113_1)).trans hw113_1),((HB.out.cell (World.block_lt_of_cell? w _ hw115_0)).trans hw115_0),((HB.out.cell (World.block_lt_of_cell? w _ hw115_1)).trans hw115_1),((HB.out.cell (World.block_lt_of_cell? w _ hw116_0)).trans hw116_0),((HB.out.cell (World.block_lt_of_cell? w _ hw116_1)).trans hw116_1)⟩ (fun hHeld=>?_);refine with_tabW spec_SeenRight.tab4 spec_SeenRight.bits4 (fun HT_ HW_=>?_)
             generalize wc.drew=w14 at HB hx113_0 hx113_1 hx115_0 hx115_1 hx116_0 hx116_1 hHeld ⊢
             refine pu_ 0 14 spec_SeenRight.q1 HT_.out ?_
             refine pu_ 1 15 spec_SeenRight.q2 HT_.out ?_
             refine pu_ 2 16 spec_SeenRight.q3 HT_.out ?_
             refine tk6_ 3 17 spec_SeenRight.q4 HT_.out HW_.out hHeld ?_
             refine o1_ 4 18 spec_SeenRight.q5 HT_.out (fun K hK=>?_)
             refine gs_ Try.func101 #[.agg #[.int .i64 ((rd_T56 l0 x3_1).f0),.int .i64 ((rd_T56 l0 x3_1).f1)]] ?_
             with_reducible refine (spec_l02Dot.calls ((rd_T56 l0 x3_1).f0) ((rd_T56 l0 x3_1).f1) true _ A7.out).mono ?_
             rintro e w15 ⟨rfl,hb⟩
             refine ⟨_,rfl,?_⟩
             have n0_:=Aside0.mk (below_step (z5_ HB.out) hb)
             clear HB
             have HB:=n0_
             clear n0_
             (try clear hb)
             refine hK.out _ _ ⟨((HB.out.cell (World.block_lt_of_cell? w _ hw113_0)).trans hw113_0),((HB.out.cell (World.block_lt_of_cell? w _ hw113_1)).trans hw113_1),((HB.out.cell (World.block_lt_of_cell? w _ hw115_0)).trans hw115_0),((HB.out.cell (World.block_lt_of_cell? w _ hw115_1)).trans hw115_1),((HB.out.cell (World.block_lt_of_cell? w _ hw116_0)).trans hw116_0),((HB.out.cell (World.block_lt_of_cell? w _ hw116_1)).trans hw116_1)⟩ (fun hHeld=>?_)
             clear hK K
             refine nm_ 18 ?_
             refine pu_ 5 19 spec_SeenRight.q6 HT_.out ?_
             refine pu_ 6 20 spec_SeenRight.q7 HT_.out ?_
             refine pu_ 7 21 spec_SeenRight.q8 HT_.out ?_
             refine pu_ 8 22 spec_SeenRight.q9 HT_.out ?_
             refine pu_ 9 23 spec_SeenRight.q10 HT_.out ?_
             refine pu_ 10 24 spec_SeenRight.q11 HT_.out ?_
             refine pu_ 11 25 spec_SeenRight.q12 HT_.out ?_
             refine pu_ 12 26 spec_SeenRight.q13 HT_.out ?_
             refine pu_ 13 27 spec_SeenRight.q14 HT_.out ?_
             refine pu_ 14 28 spec_SeenRight.q15 HT_.out ?_
             refine pu_ 16 30 spec_SeenRight.q16 HT_.out ?_
             refine pu_ 17 31 spec_SeenRight.q17 HT_.out ?_
             refine pu_ 18 32 spec_SeenRight.q18 HT_.out ?_
             refine pu_ 19 33 spec_SeenRight.q19 HT_.out ?_
             refine tk6_ 15 29 spec_SeenRight.q20 HT_.out HW_.out hHeld ?_
             refine tk6_ 20 34 spec_SeenRight.q21 HT_.out HW_.out hHeld ?_
             refine pu_ 21 35 spec_SeenRight.q22 HT_.out ?_
             refine pu_ 22 36 spec_SeenRight.q23 HT_.out ?_
             refine pu_ 23 37 spec_SeenRight.q24 HT_.out ?_
             refine done_ (done_of HT_.out (by kernel_rfl)) ?_
             try go_wp2
             go_ret
             exact ⟨by first | rfl | (simp [errW_none,errW_some] <;> rfl) | (simp only [← hji10];first | rfl | (simp [errW_none,errW_some] <;> rfl)) | (simp [*,errW_none,errW_some] <;> rfl),z5_ HB.out⟩
            ·rw [if_neg c13] at H
             have c13b0:decide (((rd_T56 l0 x3_1).f0)≤((rd_T56 l0 (ji10)).f0))=false:=decide_eq_false c13
             clear c13
             have H':=Aside0.mk H
             clear H
             try go_wp2
             have n0_:=Aside0.mk (below_drew1 HB.out)
             clear HB
             have HB:=n0_
             clear n0_
             have p113:0≤(x3_1:Int):=of_decide_eq_true (z1_)
             have q113:x3_1<(l0.length:Int):=of_decide_eq_true (z1_)
             obtain ⟨ad113,e113,hx113_0,hx113_1⟩:=at_T56 HR0.out x3_1 p113 q113
             have hw113_1:=hx113_1
             have hw113_0:=hx113_0
             cases e113
             replace hx113_0:=(HB.out.cell (World.block_lt_of_cell? w _ hx113_0)).trans hx113_0
             replace hx113_1:=(HB.out.cell (World.block_lt_of_cell? w _ hx113_1)).trans hx113_1
             replace p113:=eq_true p113
             replace q113:=eq_true q113
             have p115:0≤((ji10):Int):=of_decide_eq_true (z1_)
             have q115:(ji10)<(l0.length:Int):=of_decide_eq_true (z1_)
             obtain ⟨ad115,e115,hx115_0,hx115_1⟩:=at_T56 HR0.out (ji10) p115 q115
             have hw115_1:=hx115_1
             have hw115_0:=hx115_0
             obtain rfl:ad113=ad115:=(by injection e115)
             replace hx115_0:=(HB.out.cell (World.block_lt_of_cell? w _ hx115_0)).trans hx115_0
             replace hx115_1:=(HB.out.cell (World.block_lt_of_cell? w _ hx115_1)).trans hx115_1
             replace p115:=eq_true p115
             replace q115:=eq_true q115
             have p116:0≤(x3_1:Int):=of_decide_eq_true (z1_)
             have q116:x3_1<(l0.length:Int):=of_decide_eq_true (z1_)
             obtain ⟨ad116,e116,hx116_0,hx116_1⟩:=at_T56 HR0.out x3_1 p116 q116
             have hw116_1:=hx116_1
             have hw116_0:=hx116_0
             obtain rfl:ad113=ad116:=(by injection e116)
             replace hx116_0:=(HB.out.cell (World.block_lt_of_cell? w _ hx116_0)).trans hx116_0
             replace hx116_1:=(HB.out.cell (World.block_lt_of_cell? w _ hx116_1)).trans hx116_1
             replace p116:=eq_true p116
             replace q116:=eq_true q116
             refine start_ (n:=24) (S:=fun w'=>w'.cell? (ad113.add ((x3_1).toNat*2))=some (.int .i64 ((rd_T56 l0 x3_1).f0))∧w'.cell? ⟨(ad113.add ((x3_1).toNat*2)).block,(ad113.add ((x3_1).toNat*2)).off+1,none⟩=some (.int .i64 ((rd_T56 l0 x3_1).f1))∧w'.cell? (ad113.add (((ji10)).toNat*2))=some (.int .i64 ((rd_T56 l0 (ji10)).f0))∧w'.cell? ⟨(ad113.add (((ji10)).toNat*2)).block,(ad113.add (((ji10)).toNat*2)).off+1,none⟩=some (.int .i64 ((rd_T56 l0 (ji10)).f1))∧w'.cell? (ad113.add ((x3_1).toNat*2))=some (.int .i64 ((rd_T56 l0 x3_1).f0))∧w'.cell? ⟨(ad113.add ((x3_1).toNat*2)).block,(ad113.add ((x3_1).toNat*2)).off+1,none⟩=some (.int .i64 ((rd_T56 l0 x3_1).f1))) (ds:=[]) spec_SeenRight.q0 (by kernel_rfl) rfl rfl ⟨((HB.out.cell (World.block_lt_of_cell? w _ hw113_0)).trans hw113_0),((HB.out.cell (World.block_lt_of_cell? w _ hw113_1)).trans hw113_1),((HB.out.cell (World.block_lt_of_cell? w _ hw115_0)).trans hw115_0),((HB.out.cell (World.block_lt_of_cell? w _ hw115_1)).trans hw115_1),((HB.out.cell (World.block_lt_of_cell? w _ hw116_0)).trans hw116_0),((HB.out.cell (World.block_lt_of_cell? w _ hw116_1)).trans hw116_1)⟩ (fun hHeld=>?_);refine with_tabW spec_SeenRight.tab4 spec_SeenRight.bits4 (fun HT_ HW_=>?_)
             generalize wc.drew=w16 at HB hx113_0 hx113_1 hx115_0 hx115_1 hx116_0 hx116_1 hHeld ⊢
             refine pu_ 0 14 spec_SeenRight.q1 HT_.out ?_
             refine pu_ 1 15 spec_SeenRight.q2 HT_.out ?_
             refine pu_ 2 16 spec_SeenRight.q3 HT_.out ?_
             refine tk6_ 3 17 spec_SeenRight.q4 HT_.out HW_.out hHeld ?_
             refine o1_ 4 18 spec_SeenRight.q5 HT_.out (fun K hK=>?_)
             refine gs_ Try.func101 #[.agg #[.int .i64 ((rd_T56 l0 x3_1).f0),.int .i64 ((rd_T56 l0 x3_1).f1)]] ?_
             with_reducible refine (spec_l02Dot.calls ((rd_T56 l0 x3_1).f0) ((rd_T56 l0 x3_1).f1) true _ A7.out).mono ?_
             rintro e w17 ⟨rfl,hb⟩
             refine ⟨_,rfl,?_⟩
             have n0_:=Aside0.mk (below_step (z5_ HB.out) hb)
             clear HB
             have HB:=n0_
             clear n0_
             (try clear hb)
             refine hK.out _ _ ⟨((HB.out.cell (World.block_lt_of_cell? w _ hw113_0)).trans hw113_0),((HB.out.cell (World.block_lt_of_cell? w _ hw113_1)).trans hw113_1),((HB.out.cell (World.block_lt_of_cell? w _ hw115_0)).trans hw115_0),((HB.out.cell (World.block_lt_of_cell? w _ hw115_1)).trans hw115_1),((HB.out.cell (World.block_lt_of_cell? w _ hw116_0)).trans hw116_0),((HB.out.cell (World.block_lt_of_cell? w _ hw116_1)).trans hw116_1)⟩ (fun hHeld=>?_)
             clear hK K
             refine nm_ 18 ?_
             refine pu_ 5 19 spec_SeenRight.q6 HT_.out ?_
             refine pu_ 6 20 spec_SeenRight.q7 HT_.out ?_
             refine pu_ 7 21 spec_SeenRight.q8 HT_.out ?_
             refine pu_ 8 22 spec_SeenRight.q9 HT_.out ?_
             refine pu_ 9 23 spec_SeenRight.q10 HT_.out ?_
             refine pu_ 10 24 spec_SeenRight.q11 HT_.out ?_
             refine pu_ 11 25 spec_SeenRight.q12 HT_.out ?_
             refine pu_ 12 26 spec_SeenRight.q13 HT_.out ?_
             refine pu_ 13 27 spec_SeenRight.q14 HT_.out ?_
             refine pu_ 14 28 spec_SeenRight.q15 HT_.out ?_
             refine pu_ 16 30 spec_SeenRight.q16 HT_.out ?_
             refine pu_ 17 31 spec_SeenRight.q17 HT_.out ?_
             refine pu_ 18 32 spec_SeenRight.q18 HT_.out ?_
             refine pu_ 19 33 spec_SeenRight.q19 HT_.out ?_
             refine tk6_ 15 29 spec_SeenRight.q20 HT_.out HW_.out hHeld ?_
             refine tk6_ 20 34 spec_SeenRight.q21 HT_.out HW_.out hHeld ?_
             refine pu_ 21 35 spec_SeenRight.q22 HT_.out ?_
             refine pu_ 22 36 spec_SeenRight.q23 HT_.out ?_
             refine pu_ 23 37 spec_SeenRight.q24 HT_.out ?_
             refine done_ (done_of HT_.out (by kernel_rfl)) ?_
             try go_wp2
             go_roundg kj1
             case measure=>have:=HK1.out;have:=HJ1.out;omega
             case rel=>exact ⟨(wrap64 (x3_1+1)),(z2_),H',⟨z22_ HK1.out HJ1.out⟩,⟨z5_ HB.out⟩⟩
           ·rw [if_neg c12] at H
            exact absurd H (by simp)
          ·rw [if_neg c11] at H
           exact absurd H (by simp)
         ·rw [if_neg c9] at H
          have c9b0:decide (0<x3_1)=false:=decide_eq_false c9
          clear c9
          have H':=Aside0.mk H
          clear H
          try go_wp2
          have n0_:=Aside0.mk (below_drew1 HB.out)
          clear HB
          have HB:=n0_
          clear n0_
          have p113:0≤(x3_1:Int):=of_decide_eq_true (z1_)
          have q113:x3_1<(l0.length:Int):=of_decide_eq_true (z1_)
          obtain ⟨ad113,e113,hx113_0,hx113_1⟩:=at_T56 HR0.out x3_1 p113 q113
          have hw113_1:=hx113_1
          have hw113_0:=hx113_0
          cases e113
          replace hx113_0:=(HB.out.cell (World.block_lt_of_cell? w _ hx113_0)).trans hx113_0
          replace hx113_1:=(HB.out.cell (World.block_lt_of_cell? w _ hx113_1)).trans hx113_1
          replace p113:=eq_true p113
          replace q113:=eq_true q113
          refine start_ (n:=24) (S:=fun w'=>w'.cell? (ad113.add ((x3_1).toNat*2))=some (.int .i64 ((rd_T56 l0 x3_1).f0))∧w'.cell? ⟨(ad113.add ((x3_1).toNat*2)).block,(ad113.add ((x3_1).toNat*2)).off+1,none⟩=some (.int .i64 ((rd_T56 l0 x3_1).f1))) (ds:=[]) spec_SeenRight.q0 (by kernel_rfl) rfl rfl ⟨((HB.out.cell (World.block_lt_of_cell? w _ hw113_0)).trans hw113_0),((HB.out.cell (World.block_lt_of_cell? w _ hw113_1)).trans hw113_1)⟩ (fun hHeld=>?_);refine with_tabW spec_SeenRight.tab4 spec_SeenRight.bits4 (fun HT_ HW_=>?_)
          generalize wc.drew=w18 at HB hx113_0 hx113_1 hHeld ⊢
          refine pu_ 0 14 spec_SeenRight.q1 HT_.out ?_
          refine pu_ 1 15 spec_SeenRight.q2 HT_.out ?_
          refine pu_ 2 16 spec_SeenRight.q3 HT_.out ?_
          refine tk2_ 3 17 spec_SeenRight.q4 HT_.out HW_.out hHeld ?_
          refine o1_ 4 18 spec_SeenRight.q5 HT_.out (fun K hK=>?_)
          refine gs_ Try.func101 #[.agg #[.int .i64 ((rd_T56 l0 x3_1).f0),.int .i64 ((rd_T56 l0 x3_1).f1)]] ?_
          with_reducible refine (spec_l02Dot.calls ((rd_T56 l0 x3_1).f0) ((rd_T56 l0 x3_1).f1) true _ A7.out).mono ?_
          rintro e w19 ⟨rfl,hb⟩
          refine ⟨_,rfl,?_⟩
          have n0_:=Aside0.mk (below_step (z5_ HB.out) hb)
          clear HB
          have HB:=n0_
          clear n0_
          (try clear hb)
          refine hK.out _ _ ⟨((HB.out.cell (World.block_lt_of_cell? w _ hw113_0)).trans hw113_0),((HB.out.cell (World.block_lt_of_cell? w _ hw113_1)).trans hw113_1)⟩ (fun hHeld=>?_)
          clear hK K
          refine nm_ 18 ?_
          refine pu_ 5 19 spec_SeenRight.q6 HT_.out ?_
          refine pu_ 6 20 spec_SeenRight.q7 HT_.out ?_
          refine pu_ 7 21 spec_SeenRight.q8 HT_.out ?_
          refine pu_ 8 22 spec_SeenRight.q9 HT_.out ?_
          refine pu_ 9 23 spec_SeenRight.q10 HT_.out ?_
          refine pn_ 10 24 spec_SeenRight.q11 HT_.out ?_
          refine pn_ 11 25 spec_SeenRight.q12 HT_.out ?_
          refine pn_ 12 26 spec_SeenRight.q13 HT_.out ?_
          refine pn_ 13 27 spec_SeenRight.q14 HT_.out ?_
          refine pn_ 14 28 spec_SeenRight.q15 HT_.out ?_
          refine pn_ 15 29 spec_SeenRight.q25 HT_.out ?_
          refine pn_ 16 30 spec_SeenRight.q26 HT_.out ?_
          refine pn_ 17 31 spec_SeenRight.q27 HT_.out ?_
          refine pn_ 18 32 spec_SeenRight.q28 HT_.out ?_
          refine pn_ 19 33 spec_SeenRight.q20 HT_.out ?_
          refine pn_ 20 34 spec_SeenRight.q21 HT_.out ?_
          refine pn_ 21 35 spec_SeenRight.q22 HT_.out ?_
          refine pu_ 22 36 spec_SeenRight.q23 HT_.out ?_
          refine pu_ 23 37 spec_SeenRight.q24 HT_.out ?_
          refine done_ (done_of HT_.out (by kernel_rfl)) ?_
          try go_wp2
          go_roundg kj1
          case measure=>have:=HK1.out;have:=HJ1.out;omega
          case rel=>exact ⟨(wrap64 (x3_1+1)),(z2_),H',⟨z22_ HK1.out HJ1.out⟩,⟨z5_ HB.out⟩⟩
        ·replace c8:=Bool.eq_false_iff.mpr c8
         subst c8
         have H1:(some false)=some r:=by rw [if_neg (show ¬ (false=true) by decide)] at H;exact H
         clear H
         have H:=H1
         clear H1
         obtain rfl:=Option.some.inj H
         try go_wp2
         have n0_:=Aside0.mk (below_drew1 HB.out)
         clear HB
         have HB:=n0_
         clear n0_
         have p113:0≤(x3_1:Int):=of_decide_eq_true (z1_)
         have q113:x3_1<(l0.length:Int):=of_decide_eq_true (z1_)
         obtain ⟨ad113,e113,hx113_0,hx113_1⟩:=at_T56 HR0.out x3_1 p113 q113
         have hw113_1:=hx113_1
         have hw113_0:=hx113_0
         cases e113
         replace hx113_0:=(HB.out.cell (World.block_lt_of_cell? w _ hx113_0)).trans hx113_0
         replace hx113_1:=(HB.out.cell (World.block_lt_of_cell? w _ hx113_1)).trans hx113_1
         replace p113:=eq_true p113
         replace q113:=eq_true q113
         refine start_ (n:=24) (S:=fun w'=>w'.cell? (ad113.add ((x3_1).toNat*2))=some (.int .i64 ((rd_T56 l0 x3_1).f0))∧w'.cell? ⟨(ad113.add ((x3_1).toNat*2)).block,(ad113.add ((x3_1).toNat*2)).off+1,none⟩=some (.int .i64 ((rd_T56 l0 x3_1).f1))) (ds:=[]) spec_SeenRight.q0 (by kernel_rfl) rfl rfl ⟨((HB.out.cell (World.block_lt_of_cell? w _ hw113_0)).trans hw113_0),((HB.out.cell (World.block_lt_of_cell? w _ hw113_1)).trans hw113_1)⟩ (fun hHeld=>?_);refine with_tabW spec_SeenRight.tab4 spec_SeenRight.bits4 (fun HT_ HW_=>?_)
         generalize wc.drew=w20 at HB hx113_0 hx113_1 hHeld ⊢
         refine pu_ 0 14 spec_SeenRight.q1 HT_.out ?_
         refine pu_ 1 15 spec_SeenRight.q2 HT_.out ?_
         refine pu_ 2 16 spec_SeenRight.q3 HT_.out ?_
         refine tk2_ 3 17 spec_SeenRight.q4 HT_.out HW_.out hHeld ?_
         refine o1_ 4 18 spec_SeenRight.q5 HT_.out (fun K hK=>?_)
         refine gs_ Try.func101 #[.agg #[.int .i64 ((rd_T56 l0 x3_1).f0),.int .i64 ((rd_T56 l0 x3_1).f1)]] ?_
         with_reducible refine (spec_l02Dot.calls ((rd_T56 l0 x3_1).f0) ((rd_T56 l0 x3_1).f1) false _ A7.out).mono ?_
         rintro e w21 ⟨rfl,hb⟩
         refine ⟨_,rfl,?_⟩
         have n0_:=Aside0.mk (below_step (z5_ HB.out) hb)
         clear HB
         have HB:=n0_
         clear n0_
         (try clear hb)
         refine hK.out _ _ ⟨((HB.out.cell (World.block_lt_of_cell? w _ hw113_0)).trans hw113_0),((HB.out.cell (World.block_lt_of_cell? w _ hw113_1)).trans hw113_1)⟩ (fun hHeld=>?_)
         clear hK K
         refine nm_ 18 ?_
         refine pu_ 5 19 spec_SeenRight.q6 HT_.out ?_
         refine pu_ 6 20 spec_SeenRight.q7 HT_.out ?_
         refine pn_ 7 21 spec_SeenRight.q8 HT_.out ?_
         refine pn_ 8 22 spec_SeenRight.q9 HT_.out ?_
         refine pn_ 9 23 spec_SeenRight.q10 HT_.out ?_
         refine pn_ 10 24 spec_SeenRight.q11 HT_.out ?_
         refine pn_ 11 25 spec_SeenRight.q12 HT_.out ?_
         refine pn_ 12 26 spec_SeenRight.q13 HT_.out ?_
         refine pn_ 13 27 spec_SeenRight.q14 HT_.out ?_
         refine pn_ 14 28 spec_SeenRight.q15 HT_.out ?_
         refine pn_ 15 29 spec_SeenRight.q25 HT_.out ?_
         refine pn_ 16 30 spec_SeenRight.q26 HT_.out ?_
         refine pn_ 17 31 spec_SeenRight.q27 HT_.out ?_
         refine pn_ 18 32 spec_SeenRight.q28 HT_.out ?_
         refine pn_ 19 33 spec_SeenRight.q20 HT_.out ?_
         refine pn_ 20 34 spec_SeenRight.q21 HT_.out ?_
         refine pn_ 21 35 spec_SeenRight.q22 HT_.out ?_
         refine pn_ 22 36 spec_SeenRight.q23 HT_.out ?_
         refine pu_ 23 37 spec_SeenRight.q24 HT_.out ?_
         refine done_ (done_of HT_.out (by kernel_rfl)) ?_
         try go_wp2
         go_ret
         exact ⟨z8_,z5_ HB.out⟩
       ·rw [if_neg c6] at H
        exact absurd H (by simp)
      ·rw [if_neg c5] at H
       exact absurd H (by simp)
     ·replace c4:=Bool.eq_false_iff.mpr c4
      subst c4
      have H1:(some (decide ((l0.length:Int)≤5)))=some r:=by rw [if_neg (show ¬ (false=true) by decide)] at H;exact H
      clear H
      have H:=H1
      clear H1
      obtain rfl:=Option.some.inj H
      go_wp2
      go_ret
      exact ⟨z8_,z5_ HB.out⟩


/-! ### spec_l02Of: function 71 -/
def spec_l02Of.l0:Nat→List (S56)→Int→Int→Option (Int)
 | 0,_,_,_=>none
 | k+1,x0,x1,x5=>if x5<(x0.length:Int) then (if 0≤x5 then (if ((rd_T56 x0 x5).f0)=x1 then (some ((rd_T56 x0 x5).f1)) else (spec_l02Of.l0 k x0 x1 (wrap64 (x5+1)))) else (none)) else (some 0)
def spec_l02Of.f (k:Nat) (l0:List (S56)) (a1:Int):Option (Int):=spec_l02Of.l0 k l0 a1 0
theorem spec_l02Of.mono_l:∀ k,(∀ y0 y1 y2,LeO (spec_l02Of.l0 k y0 y1 y2) (spec_l02Of.l0 (k+1) y0 y1 y2))
 | 0=>fun _ _ _ r h=>by simp [spec_l02Of.l0] at h
 | k+1=>by
  have ih0:=spec_l02Of.mono_l k
  ·intro y0 y1 y2
   unfold spec_l02Of.l0
   repeat' first
   | (with_reducible exact ih0 _ _ _)
   | (with_reducible exact LeO.refl _)
   | (with_reducible exact LeO.none _)
   | (with_reducible refine LeO.ite ?_ ?_)
   | (with_reducible refine LeO.bind ?_ (fun _=>?_))
   | exact ih0 _ _ _
   | exact LeO.none _
   | refine LeO.ite ?_ ?_
   | refine LeO.bind ?_ (fun _=>?_)
theorem spec_l02Of.mono:∀ a0 a1 k,LeO (spec_l02Of.f k a0 a1) (spec_l02Of.f (k+1) a0 a1):=by
 intro a0 a1 k
 have ih0:=spec_l02Of.mono_l k
 unfold spec_l02Of.f
 repeat' first
   | (with_reducible exact ih0 _ _ _)
   | (with_reducible exact LeO.refl _)
   | (with_reducible exact LeO.none _)
   | (with_reducible refine LeO.ite ?_ ?_)
   | (with_reducible refine LeO.bind ?_ (fun _=>?_))
   | exact ih0 _ _ _
   | exact LeO.none _
   | refine LeO.ite ?_ ?_
   | refine LeO.bind ?_ (fun _=>?_)
set_option maxHeartbeats 8000000 in
set_option maxRecDepth 100000 in
theorem spec_l02Of.calls (k:Nat) (A0:Option Addr) (c0:Nat) (l0:List (S56)) (a1:Int) (r:Int) (w:World) (hr0:Kd.C k56 w A0 l0.length l0) (hc0:l0.length≤c0) (h:spec_l02Of.f k l0 a1=some r) :
  Calls Try.prog 71 #[.slice A0 l0.length c0,.int .i64 a1] w fun e w'=>e = .returned (.int .i64 r)∧Drawn0 w w':=by
 have HR0:=Aside0.mk hr0
 have HC0:=Aside0.mk hc0
 clear hr0 hc0
 have H:(spec_l02Of.l0 k l0 a1 0)=some r:=h
 clear h
 have H':=Aside0.mk H
 clear H
 go_enter Try.func71,Try.ntmps71
 go_wp2
 go_loopg [5] k (fun kq v5 w'=>∃ (x5_1:Int),v5 = .int .i64 x5_1∧Aside0 (spec_l02Of.l0 kq l0 a1 x5_1=some r)∧Aside0 (kq≤k)∧Drawn0 w w')
 case atStart=>exact ⟨(0),(z2_),H',⟨Nat.le_refl _⟩,z10_⟩
 case round =>
  clear H'
  try clear p2
  obtain ⟨x5_1,rfl,HA,HK1,⟨m1,rfl⟩⟩:=hrel
  cases gk with
  | zero=>exact absurd HA.out (by simp [spec_l02Of.l0])
  | succ k1 =>
   have H:=HA.out
   clear HA
   simp only [spec_l02Of.l0] at H
   by_cases c3:x5_1<(l0.length:Int)
   ·rw [if_pos c3] at H
    have c3b0:decide (x5_1<(l0.length:Int))=true:=decide_eq_true c3
    clear c3
    by_cases c4:0≤x5_1
    ·rw [if_pos c4] at H
     have c4b0:decide (0≤x5_1)=true:=decide_eq_true c4
     clear c4
     by_cases c5:((rd_T56 l0 x5_1).f0)=a1
     ·rw [if_pos c5] at H
      have c5b0:(((rd_T56 l0 x5_1).f0) == a1)=true:=beq_iff_eq.mpr c5
      have c5b1:(((rd_T56 l0 x5_1).f0) != a1)=false:=bne_eq_false_iff_eq.mpr c5
      clear c5
      obtain rfl:=Option.some.inj H
      have p117:0≤(x5_1:Int):=of_decide_eq_true (z1_)
      have q117:x5_1<(l0.length:Int):=of_decide_eq_true (z1_)
      obtain ⟨ad117,e117,hx117_0,hx117_1⟩:=at_T56 HR0.out x5_1 p117 q117
      cases e117
      replace p117:=eq_true p117
      replace q117:=eq_true q117
      have p118:0≤(x5_1:Int):=of_decide_eq_true (z1_)
      have q118:x5_1<(l0.length:Int):=of_decide_eq_true (z1_)
      obtain ⟨ad118,e118,hx118_0,hx118_1⟩:=at_T56 HR0.out x5_1 p118 q118
      obtain rfl:ad117=ad118:=(by injection e118)
      replace p118:=eq_true p118
      replace q118:=eq_true q118
      go_wp2
      go_ret
      exact ⟨z2_,z10_⟩
     ·rw [if_neg c5] at H
      have c5b0:(((rd_T56 l0 x5_1).f0) == a1)=false:=beq_eq_false_iff_ne.mpr c5
      have c5b1:(((rd_T56 l0 x5_1).f0) != a1)=true:=bne_iff_ne.mpr c5
      have H':=Aside0.mk H
      clear H
      have p117:0≤(x5_1:Int):=of_decide_eq_true (z1_)
      have q117:x5_1<(l0.length:Int):=of_decide_eq_true (z1_)
      obtain ⟨ad117,e117,hx117_0,hx117_1⟩:=at_T56 HR0.out x5_1 p117 q117
      cases e117
      replace p117:=eq_true p117
      replace q117:=eq_true q117
      go_wp2
      go_roundg k1
      case measure=>have:=HK1.out;omega
      case rel=>exact ⟨(wrap64 (x5_1+1)),(z2_),H',⟨by have:=HK1.out;omega⟩,z10_⟩
    ·rw [if_neg c4] at H
     exact absurd H (by simp)
   ·rw [if_neg c3] at H
    have c3b0:decide (x5_1<(l0.length:Int))=false:=decide_eq_false c3
    clear c3
    obtain rfl:=Option.some.inj H
    go_wp2
    go_ret
    exact ⟨z2_,z10_⟩


/-! ### spec_SeenHas: function 72 -/
def spec_SeenHas.f (k:Nat) (l0:List (S56)) (a1_0:Int) (a1_1:Int):Option (Bool):=(spec_SeenRight.f k l0).bind fun t120=>(if t120=true then ((spec_l02Dot.f a1_0 a1_1).bind fun t121=>(if t121=true then ((spec_l02Of.f k l0 a1_0).bind fun t122=>(some (decide (a1_1≤t122)))) else (some false))) else (some false))
theorem spec_SeenHas.mono:∀ a0 a1 a2 k,LeO (spec_SeenHas.f k a0 a1 a2) (spec_SeenHas.f (k+1) a0 a1 a2):=by
 intro a0 a1 a2 k
 unfold spec_SeenHas.f
 repeat' first
   | (with_reducible exact spec_SeenRight.mono _ _)
   | (with_reducible exact spec_l02Of.mono _ _ _)
   | (with_reducible exact LeO.refl _)
   | (with_reducible exact LeO.none _)
   | (with_reducible refine LeO.ite ?_ ?_)
   | (with_reducible refine LeO.bind ?_ (fun _=>?_))
   | exact spec_SeenRight.mono _ _
   | exact spec_l02Of.mono _ _ _
   | exact LeO.none _
   | refine LeO.ite ?_ ?_
   | refine LeO.bind ?_ (fun _=>?_)
def spec_SeenHas.T1:Bool × List (List Nat × List Nat):=(true,[([],[]),([0],[0]),([1,1],[1]),([2],[2]),([3,2,2],[2,3]),([2,4],[2,4]),([5,4],[5]),([6],[6]),([7,6],[6,7]),([6],[6]),([6],[6]),([10,6],[6,10]),([9,11,6,6],[6,9,11]),([8,12,6],[6,8,12]),([6,13],[6,13]),([14,12,0,1,2,3,4,5,6,7,8,9,10,11,12,13,14],[14])])
def spec_SeenHas.B1:List Nat:=[0,1,3,7,15,31,63,127,255,127,127,1151,3711,8191,16383,32767]
theorem spec_SeenHas.tab1:rtab .any (opsOf Try.f72 1)=spec_SeenHas.T1:=by kernel_rfl
theorem spec_SeenHas.bits1:waitsOk spec_SeenHas.T1.2 spec_SeenHas.B1=true:=by kernel_rfl
abbrev spec_SeenHas.q0:Array Bool:=#[O,O,O,O,O,O,O,O,O,O,O,O,O,O,O,O]
abbrev spec_SeenHas.q1:Array Bool:=#[I,O,O,O,O,O,O,O,O,O,O,O,O,O,O,O]
abbrev spec_SeenHas.q2:Array Bool:=#[I,I,O,O,O,O,O,O,O,O,O,O,O,O,O,O]
abbrev spec_SeenHas.q3:Array Bool:=#[I,I,I,O,O,O,O,O,O,O,O,O,O,O,O,O]
abbrev spec_SeenHas.q4:Array Bool:=#[I,I,I,I,O,O,O,O,O,O,O,O,O,O,O,O]
abbrev spec_SeenHas.q5:Array Bool:=#[I,I,I,I,I,O,O,O,O,O,O,O,O,O,O,O]
abbrev spec_SeenHas.q6:Array Bool:=#[I,I,I,I,I,I,O,O,O,O,O,O,O,O,O,O]
abbrev spec_SeenHas.q7:Array Bool:=#[I,I,I,I,I,I,I,O,O,O,O,O,O,O,O,O]
abbrev spec_SeenHas.q8:Array Bool:=#[I,I,I,I,I,I,I,I,O,O,O,O,O,O,O,O]
abbrev spec_SeenHas.q9:Array Bool:=#[I,I,I,I,I,I,I,I,I,I,I,O,O,O,O,O]
abbrev spec_SeenHas.q10:Array Bool:=#[I,I,I,I,I,I,I,I,I,I,I,I,O,O,O,O]
abbrev spec_SeenHas.q11:Array Bool:=#[I,I,I,I,I,I,I,I,I,I,I,I,I,O,O,O]
abbrev spec_SeenHas.q12:Array Bool:=#[I,I,I,I,I,I,I,I,I,I,I,I,I,I,O,O]
abbrev spec_SeenHas.q13:Array Bool:=#[I,I,I,I,I,I,I,I,I,I,I,I,I,I,I,O]
abbrev spec_SeenHas.q14:Array Bool:=#[I,I,I,I,I,I,I,I,I,I,I,I,I,I,I,I]
abbrev spec_SeenHas.q15:Array Bool:=#[I,I,I,I,I,I,I,I,I,O,O,O,O,O,O,O]
abbrev spec_SeenHas.q16:Array Bool:=#[I,I,I,I,I,I,I,I,I,I,O,O,O,O,O,O]
set_option maxHeartbeats 8000000 in
set_option maxRecDepth 100000 in
theorem spec_SeenHas.calls (k:Nat) (A0:Option Addr) (c0:Nat) (l0:List (S56)) (a1_0:Int) (a1_1:Int) (r:Bool) (w:World) (hr0:Kd.C k56 w A0 l0.length l0) (hc0:l0.length≤c0) (h:spec_SeenHas.f k l0 a1_0 a1_1=some r) :
  Calls Try.prog 72 #[.slice A0 l0.length c0,.agg #[.int .i64 a1_0,.int .i64 a1_1]] w fun e w'=>e = .returned (.bool r)∧Below w.heap.size w w':=by
 have hu56:=Try.underlying56
 have HR0:=Aside0.mk hr0
 have HC0:=Aside0.mk hc0
 clear hr0 hc0
 have HB:=Aside0.mk (Below.refl w.heap.size w)
 have H:((spec_SeenRight.f k l0).bind fun t120=>(if t120=true then ((spec_l02Dot.f a1_0 a1_1).bind fun t121=>(if t121=true then ((spec_l02Of.f k l0 a1_0).bind fun t122=>(some (decide (a1_1≤t122)))) else (some false))) else (some false)))=some r:=h
 clear h
 replace H:=Option.bind_eq_some_iff.mp H
 obtain ⟨t120,A30,H⟩:=H
 replace H:(if t120=true then ((spec_l02Dot.f a1_0 a1_1).bind fun t121=>(if t121=true then ((spec_l02Of.f k l0 a1_0).bind fun t122=>(some (decide (a1_1≤t122)))) else (some false))) else (some false))=some r:=H
 have A3:=Aside0.mk A30
 clear A30
 by_cases c4:t120=true
 ·subst c4
  have H1:((spec_l02Dot.f a1_0 a1_1).bind fun t121=>(if t121=true then ((spec_l02Of.f k l0 a1_0).bind fun t122=>(some (decide (a1_1≤t122)))) else (some false)))=some r:=by rw [if_pos rfl] at H;exact H
  clear H
  have H:=H1
  clear H1
  replace H:=Option.bind_eq_some_iff.mp H
  obtain ⟨t121,A50,H⟩:=H
  replace H:(if t121=true then ((spec_l02Of.f k l0 a1_0).bind fun t122=>(some (decide (a1_1≤t122)))) else (some false))=some r:=H
  have A5:=Aside0.mk A50
  clear A50
  by_cases c6:t121=true
  ·subst c6
   have H1:((spec_l02Of.f k l0 a1_0).bind fun t122=>(some (decide (a1_1≤t122))))=some r:=by rw [if_pos rfl] at H;exact H
   clear H
   have H:=H1
   clear H1
   replace H:=Option.bind_eq_some_iff.mp H
   obtain ⟨t122,A70,H⟩:=H
   replace H:(some (decide (a1_1≤t122)))=some r:=H
   have A7:=Aside0.mk A70
   clear A70
   obtain rfl:=Option.some.inj H
   go_enter Try.func72,Try.ntmps72
   try go_wp2_with (first | ((with_reducible refine gd_ 3 ?_);refine be_ 3 #[.int .i64 a1_0,.int .i64 a1_1] 56 ?_;intro gb119 hg w8 hbox hb;refine as4_ (below_step (z5_ HB.out) hb) (hbox) ((z7_ HB.out:w.heap.size≤gb119)) ((z7_ HB.out:w.heap.size≤gb119)) ?_;clear HB;intro HB BK119 GW119 GE119;clear hb hbox hg))
   refine as2_ (blk_drew BK119.out) (below_drew1 HB.out) ?_
   clear BK119 HB
   intro BK119 HB
   refine start_ (n:=16) (S:=fun w'=>w'.cell? ⟨gb119,0,none⟩=some (.int .i64 a1_0)∧w'.cell? ⟨gb119,1,none⟩=some (.int .i64 a1_1)) (ds:=[]) spec_SeenHas.q0 (by kernel_rfl) rfl rfl (cc2_ BK119.out) (fun hHeld=>?_);refine with_tabW spec_SeenHas.tab1 spec_SeenHas.bits1 (fun HT_ HW_=>?_)
   generalize w8.drew=w9 at BK119 HB hHeld ⊢
   refine pu_ 0 5 spec_SeenHas.q1 HT_.out ?_
   refine o1_ 1 6 spec_SeenHas.q2 HT_.out (fun K hK=>?_)
   refine gs_ Try.func68 #[.slice A0 l0.length c0] ?_
   with_reducible refine (spec_SeenRight.calls k _ _ l0 true _ ?s1 ?s2 A3.out).mono ?_
   (case s1=>repeat (first | exact (Kd.C_below HR0.out HB.out) | (with_reducible refine Kd.C_alloc ?_ _) | (with_reducible refine Kd.C_drewN ?_ _) | (with_reducible refine Kd.C_drew ?_)))
   (case s2=>exact HC0.out)
   rintro e w10 ⟨rfl,hb⟩
   refine ⟨_,rfl,?_⟩
   refine as2_ (blkB_ BK119.out hb) (below_step (z4_ HB.out GE119.out) hb) ?_
   clear BK119 HB
   intro BK119 HB
   (try clear hb)
   refine hK.out _ _ (cc2_ BK119.out) (fun hHeld=>?_)
   clear hK K
   refine nm_ 6 ?_
   refine pu_ 2 7 spec_SeenHas.q3 HT_.out ?_
   refine tk2_ 3 8 spec_SeenHas.q4 HT_.out HW_.out hHeld ?_
   refine o1_ 4 9 spec_SeenHas.q5 HT_.out (fun K hK=>?_)
   refine gs_ Try.func101 #[.agg #[.int .i64 a1_0,.int .i64 a1_1]] ?_
   with_reducible refine (spec_l02Dot.calls a1_0 a1_1 true _ A5.out).mono ?_
   rintro e w11 ⟨rfl,hb⟩
   refine ⟨_,rfl,?_⟩
   refine as2_ (blkB_ BK119.out hb) (below_step (z4_ HB.out GE119.out) hb) ?_
   clear BK119 HB
   intro BK119 HB
   (try clear hb)
   refine hK.out _ _ (cc2_ BK119.out) (fun hHeld=>?_)
   clear hK K
   refine nm_ 9 ?_
   refine pu_ 5 10 spec_SeenHas.q6 HT_.out ?_
   refine pu_ 6 11 spec_SeenHas.q7 HT_.out ?_
   refine pu_ 7 12 spec_SeenHas.q8 HT_.out ?_
   refine pu_ 9 14 #[I,I,I,I,I,I,I,I,O,I,O,O,O,O,O,O] HT_.out ?_
   refine pu_ 10 15 #[I,I,I,I,I,I,I,I,O,I,I,O,O,O,O,O] HT_.out ?_
   refine tk2_ 8 13 spec_SeenHas.q9 HT_.out HW_.out hHeld ?_
   refine tk2_ 11 16 spec_SeenHas.q10 HT_.out HW_.out hHeld ?_
   refine o1_ 12 17 spec_SeenHas.q11 HT_.out (fun K hK=>?_)
   refine gs_ Try.func71 #[.slice A0 l0.length c0,.int .i64 a1_0] ?_
   with_reducible refine (spec_l02Of.calls k _ _ l0 a1_0 t122 _ ?s1 ?s2 A7.out).mono ?_
   (case s1=>repeat (first | exact (Kd.C_below HR0.out HB.out) | (with_reducible refine Kd.C_alloc ?_ _) | (with_reducible refine Kd.C_drewN ?_ _) | (with_reducible refine Kd.C_drew ?_)))
   (case s2=>exact HC0.out)
   rintro e w' ⟨rfl,⟨nd,rfl⟩⟩
   refine ⟨_,rfl,?_⟩
   refine hK.out _ _ (cc2_ BK119.out) (fun hHeld=>?_)
   clear hK K
   refine nm_ 17 ?_
   refine pu_ 13 18 spec_SeenHas.q12 HT_.out ?_
   refine pu_ 14 19 spec_SeenHas.q13 HT_.out ?_
   refine pu_ 15 4 spec_SeenHas.q14 HT_.out ?_
   refine done_ (done_of HT_.out (by kernel_rfl)) ?_
   try go_wp2
   go_ret
   exact ⟨z8_,z4_ HB.out GE119.out⟩
  ·replace c6:=Bool.eq_false_iff.mpr c6
   subst c6
   have H1:(some false)=some r:=by rw [if_neg (show ¬ (false=true) by decide)] at H;exact H
   clear H
   have H:=H1
   clear H1
   obtain rfl:=Option.some.inj H
   go_enter Try.func72,Try.ntmps72
   try go_wp2_with (first | ((with_reducible refine gd_ 3 ?_);refine be_ 3 #[.int .i64 a1_0,.int .i64 a1_1] 56 ?_;intro gb119 hg w12 hbox hb;refine as4_ (below_step (z5_ HB.out) hb) (hbox) ((z7_ HB.out:w.heap.size≤gb119)) ((z7_ HB.out:w.heap.size≤gb119)) ?_;clear HB;intro HB BK119 GW119 GE119;clear hb hbox hg))
   refine as2_ (blk_drew BK119.out) (below_drew1 HB.out) ?_
   clear BK119 HB
   intro BK119 HB
   refine start_ (n:=16) (S:=fun w'=>w'.cell? ⟨gb119,0,none⟩=some (.int .i64 a1_0)∧w'.cell? ⟨gb119,1,none⟩=some (.int .i64 a1_1)) (ds:=[]) spec_SeenHas.q0 (by kernel_rfl) rfl rfl (cc2_ BK119.out) (fun hHeld=>?_);refine with_tabW spec_SeenHas.tab1 spec_SeenHas.bits1 (fun HT_ HW_=>?_)
   generalize w12.drew=w13 at BK119 HB hHeld ⊢
   refine pu_ 0 5 spec_SeenHas.q1 HT_.out ?_
   refine o1_ 1 6 spec_SeenHas.q2 HT_.out (fun K hK=>?_)
   refine gs_ Try.func68 #[.slice A0 l0.length c0] ?_
   with_reducible refine (spec_SeenRight.calls k _ _ l0 true _ ?s1 ?s2 A3.out).mono ?_
   (case s1=>repeat (first | exact (Kd.C_below HR0.out HB.out) | (with_reducible refine Kd.C_alloc ?_ _) | (with_reducible refine Kd.C_drewN ?_ _) | (with_reducible refine Kd.C_drew ?_)))
   (case s2=>exact HC0.out)
   rintro e w14 ⟨rfl,hb⟩
   refine ⟨_,rfl,?_⟩
   refine as2_ (blkB_ BK119.out hb) (below_step (z4_ HB.out GE119.out) hb) ?_
   clear BK119 HB
   intro BK119 HB
   (try clear hb)
   refine hK.out _ _ (cc2_ BK119.out) (fun hHeld=>?_)
   clear hK K
   refine nm_ 6 ?_
   refine pu_ 2 7 spec_SeenHas.q3 HT_.out ?_
   refine tk2_ 3 8 spec_SeenHas.q4 HT_.out HW_.out hHeld ?_
   refine o1_ 4 9 spec_SeenHas.q5 HT_.out (fun K hK=>?_)
   refine gs_ Try.func101 #[.agg #[.int .i64 a1_0,.int .i64 a1_1]] ?_
   with_reducible refine (spec_l02Dot.calls a1_0 a1_1 false _ A5.out).mono ?_
   rintro e w15 ⟨rfl,hb⟩
   refine ⟨_,rfl,?_⟩
   refine as2_ (blkB_ BK119.out hb) (below_step (z4_ HB.out GE119.out) hb) ?_
   clear BK119 HB
   intro BK119 HB
   (try clear hb)
   refine hK.out _ _ (cc2_ BK119.out) (fun hHeld=>?_)
   clear hK K
   refine nm_ 9 ?_
   refine pu_ 5 10 spec_SeenHas.q6 HT_.out ?_
   refine pu_ 6 11 spec_SeenHas.q7 HT_.out ?_
   refine pn_ 7 12 spec_SeenHas.q8 HT_.out ?_
   refine pn_ 8 13 spec_SeenHas.q15 HT_.out ?_
   refine pn_ 9 14 spec_SeenHas.q16 HT_.out ?_
   refine pn_ 10 15 spec_SeenHas.q9 HT_.out ?_
   refine pn_ 11 16 spec_SeenHas.q10 HT_.out ?_
   refine pn_ 12 17 spec_SeenHas.q11 HT_.out ?_
   refine pn_ 13 18 spec_SeenHas.q12 HT_.out ?_
   refine pu_ 14 19 spec_SeenHas.q13 HT_.out ?_
   refine pu_ 15 4 spec_SeenHas.q14 HT_.out ?_
   refine done_ (done_of HT_.out (by kernel_rfl)) ?_
   try go_wp2
   go_ret
   exact ⟨z8_,z4_ HB.out GE119.out⟩
 ·replace c4:=Bool.eq_false_iff.mpr c4
  subst c4
  have H1:(some false)=some r:=by rw [if_neg (show ¬ (false=true) by decide)] at H;exact H
  clear H
  have H:=H1
  clear H1
  obtain rfl:=Option.some.inj H
  go_enter Try.func72,Try.ntmps72
  try go_wp2_with (first | ((with_reducible refine gd_ 3 ?_);refine be_ 3 #[.int .i64 a1_0,.int .i64 a1_1] 56 ?_;intro gb119 hg w16 hbox hb;refine as4_ (below_step (z5_ HB.out) hb) (hbox) ((z7_ HB.out:w.heap.size≤gb119)) ((z7_ HB.out:w.heap.size≤gb119)) ?_;clear HB;intro HB BK119 GW119 GE119;clear hb hbox hg))
  refine as2_ (blk_drew BK119.out) (below_drew1 HB.out) ?_
  clear BK119 HB
  intro BK119 HB
  refine start_ (n:=16) (S:=fun w'=>True) (ds:=[]) spec_SeenHas.q0 (by kernel_rfl) rfl rfl trivial (fun hHeld=>?_);refine with_tabW spec_SeenHas.tab1 spec_SeenHas.bits1 (fun HT_ HW_=>?_)
  generalize w16.drew=w17 at BK119 HB hHeld ⊢
  refine pu_ 0 5 spec_SeenHas.q1 HT_.out ?_
  refine o1_ 1 6 spec_SeenHas.q2 HT_.out (fun K hK=>?_)
  refine gs_ Try.func68 #[.slice A0 l0.length c0] ?_
  with_reducible refine (spec_SeenRight.calls k _ _ l0 false _ ?s1 ?s2 A3.out).mono ?_
  (case s1=>repeat (first | exact (Kd.C_below HR0.out HB.out) | (with_reducible refine Kd.C_alloc ?_ _) | (with_reducible refine Kd.C_drewN ?_ _) | (with_reducible refine Kd.C_drew ?_)))
  (case s2=>exact HC0.out)
  rintro e w18 ⟨rfl,hb⟩
  refine ⟨_,rfl,?_⟩
  refine as2_ (blkB_ BK119.out hb) (below_step (z4_ HB.out GE119.out) hb) ?_
  clear BK119 HB
  intro BK119 HB
  (try clear hb)
  refine hK.out _ _ trivial (fun hHeld=>?_)
  clear hK K
  refine nm_ 6 ?_
  refine pu_ 2 7 spec_SeenHas.q3 HT_.out ?_
  refine pn_ 3 8 spec_SeenHas.q4 HT_.out ?_
  refine pn_ 4 9 spec_SeenHas.q5 HT_.out ?_
  refine pu_ 5 10 spec_SeenHas.q6 HT_.out ?_
  refine pu_ 6 11 spec_SeenHas.q7 HT_.out ?_
  refine pn_ 7 12 spec_SeenHas.q8 HT_.out ?_
  refine pn_ 8 13 spec_SeenHas.q15 HT_.out ?_
  refine pn_ 9 14 spec_SeenHas.q16 HT_.out ?_
  refine pn_ 10 15 spec_SeenHas.q9 HT_.out ?_
  refine pn_ 11 16 spec_SeenHas.q10 HT_.out ?_
  refine pn_ 12 17 spec_SeenHas.q11 HT_.out ?_
  refine pn_ 13 18 spec_SeenHas.q12 HT_.out ?_
  refine pu_ 14 19 spec_SeenHas.q13 HT_.out ?_
  refine pu_ 15 4 spec_SeenHas.q14 HT_.out ?_
  refine done_ (done_of HT_.out (by kernel_rfl)) ?_
  try go_wp2
  go_ret
  exact ⟨z8_,z4_ HB.out GE119.out⟩


/-! ### spec_l03Less: function 82 -/
def spec_l03Less.f (a0_0:Int) (a0_1:Int) (a1_0:Int) (a1_1:Int):Option (Bool):=if a0_0<a1_0 then (some true) else (if a0_0=a1_0 then (some (decide (a0_1<a1_1))) else (some false))
set_option maxHeartbeats 8000000 in
set_option maxRecDepth 100000 in
theorem spec_l03Less.calls (a0_0:Int) (a0_1:Int) (a1_0:Int) (a1_1:Int) (r:Bool) (w:World) (h:spec_l03Less.f a0_0 a0_1 a1_0 a1_1=some r) :
  Calls Try.prog 82 #[.agg #[.int .i64 a0_0,.int .i64 a0_1],.agg #[.int .i64 a1_0,.int .i64 a1_1]] w fun e w'=>e = .returned (.bool r)∧Below w.heap.size w w':=by
 have hu56:=Try.underlying56
 have HB:=Aside0.mk (Below.refl w.heap.size w)
 have H:(if a0_0<a1_0 then (some true) else (if a0_0=a1_0 then (some (decide (a0_1<a1_1))) else (some false)))=some r:=h
 clear h
 by_cases c3:a0_0<a1_0
 ·rw [if_pos c3] at H
  have c3b0:decide (a0_0<a1_0)=true:=decide_eq_true c3
  clear c3
  obtain rfl:=Option.some.inj H
  go_enter Try.func82,Try.ntmps82
  go_wp2_with (first | ((with_reducible refine gd_ 2 ?_);refine be_ 2 #[.int .i64 a0_0,.int .i64 a0_1] 56 ?_;intro gb123 hg w4 hbox hb;refine as4_ (below_step (z5_ HB.out) hb) (hbox) ((z7_ HB.out:w.heap.size≤gb123)) ((z7_ HB.out:w.heap.size≤gb123)) ?_;clear HB;intro HB BK123 GW123 GE123;clear hb hbox hg) | ((with_reducible refine gd_ 3 ?_);refine be_ 3 #[.int .i64 a1_0,.int .i64 a1_1] 56 ?_;intro gb124 hg w5 hbox hb;refine as7_ (blkB_ BK123.out hb) (below_step (z4_ HB.out GE123.out) hb) (hbox) ((z11_ HB.out GE123.out:w.heap.size≤gb124)) ((z11_ HB.out GE123.out:w.heap.size≤gb124)) (neL_ BK123.out hg) (neG_ BK123.out hg) ?_;clear BK123 HB;intro BK123 HB BK124 GW124 GE124 NB123_124 NB124_123;clear hb hbox hg;have hnb6:=NB123_124.out;have hnc6:=NB124_123.out;have ⟨hcz7_0,hcz7_1,hfz7_0,hfz7_1⟩:=cz2_ BK123.out;have ⟨hcz8_0,hcz8_1,hfz8_0,hfz8_1⟩:=cz2_ BK124.out))
  go_ret
  exact ⟨z8_,z6_ HB.out GE123.out GE124.out⟩
 ·rw [if_neg c3] at H
  have c3b0:decide (a0_0<a1_0)=false:=decide_eq_false c3
  clear c3
  by_cases c9:a0_0=a1_0
  ·rw [if_pos c9] at H
   have c9b0:(a0_0 == a1_0)=true:=beq_iff_eq.mpr c9
   have c9b1:(a0_0 != a1_0)=false:=bne_eq_false_iff_eq.mpr c9
   clear c9
   obtain rfl:=Option.some.inj H
   go_enter Try.func82,Try.ntmps82
   go_wp2_with (first | ((with_reducible refine gd_ 2 ?_);refine be_ 2 #[.int .i64 a0_0,.int .i64 a0_1] 56 ?_;intro gb123 hg w10 hbox hb;refine as4_ (below_step (z5_ HB.out) hb) (hbox) ((z7_ HB.out:w.heap.size≤gb123)) ((z7_ HB.out:w.heap.size≤gb123)) ?_;clear HB;intro HB BK123 GW123 GE123;clear hb hbox hg) | ((with_reducible refine gd_ 3 ?_);refine be_ 3 #[.int .i64 a1_0,.int .i64 a1_1] 56 ?_;intro gb124 hg w11 hbox hb;refine as7_ (blkB_ BK123.out hb) (below_step (z4_ HB.out GE123.out) hb) (hbox) ((z11_ HB.out GE123.out:w.heap.size≤gb124)) ((z11_ HB.out GE123.out:w.heap.size≤gb124)) (neL_ BK123.out hg) (neG_ BK123.out hg) ?_;clear BK123 HB;intro BK123 HB BK124 GW124 GE124 NB123_124 NB124_123;clear hb hbox hg;have hnb12:=NB123_124.out;have hnc12:=NB124_123.out;have ⟨hcz13_0,hcz13_1,hfz13_0,hfz13_1⟩:=cz2_ BK123.out;have ⟨hcz14_0,hcz14_1,hfz14_0,hfz14_1⟩:=cz2_ BK124.out))
   go_ret
   exact ⟨z8_,z6_ HB.out GE123.out GE124.out⟩
  ·rw [if_neg c9] at H
   have c9b0:(a0_0 == a1_0)=false:=beq_eq_false_iff_ne.mpr c9
   have c9b1:(a0_0 != a1_0)=true:=bne_iff_ne.mpr c9
   obtain rfl:=Option.some.inj H
   go_enter Try.func82,Try.ntmps82
   go_wp2_with (first | ((with_reducible refine gd_ 2 ?_);refine be_ 2 #[.int .i64 a0_0,.int .i64 a0_1] 56 ?_;intro gb123 hg w15 hbox hb;refine as4_ (below_step (z5_ HB.out) hb) (hbox) ((z7_ HB.out:w.heap.size≤gb123)) ((z7_ HB.out:w.heap.size≤gb123)) ?_;clear HB;intro HB BK123 GW123 GE123;clear hb hbox hg) | ((with_reducible refine gd_ 3 ?_);refine be_ 3 #[.int .i64 a1_0,.int .i64 a1_1] 56 ?_;intro gb124 hg w16 hbox hb;refine as7_ (blkB_ BK123.out hb) (below_step (z4_ HB.out GE123.out) hb) (hbox) ((z11_ HB.out GE123.out:w.heap.size≤gb124)) ((z11_ HB.out GE123.out:w.heap.size≤gb124)) (neL_ BK123.out hg) (neG_ BK123.out hg) ?_;clear BK123 HB;intro BK123 HB BK124 GW124 GE124 NB123_124 NB124_123;clear hb hbox hg;have hnb17:=NB123_124.out;have hnc17:=NB124_123.out;have ⟨hcz18_0,hcz18_1,hfz18_0,hfz18_1⟩:=cz2_ BK123.out;have ⟨hcz19_0,hcz19_1,hfz19_0,hfz19_1⟩:=cz2_ BK124.out))
   go_ret
   exact ⟨z8_,z6_ HB.out GE123.out GE124.out⟩


/-! ### spec_SetRight: function 51 -/
mutual
def spec_SetRight.j0:Nat→Bool→List (S56)→List (S91)→Option (Bool)
 | 0,_,_,_=>none
 | k+1,x14,x126000,x126001=>if x14=true then (some false) else (spec_SetRight.l0 k 0 x126000 x126001)
def spec_SetRight.l0:Nat→Int→List (S56)→List (S91)→Option (Bool)
 | 0,_,_,_=>none
 | k+1,x3,x126000,x126001=>if x3<(x126001.length:Int) then (if 0≤x3 then ((spec_SeenHas.f k x126000 ((rd_T91 x126001 x3).f0.f0) ((rd_T91 x126001 x3).f0.f1)).bind fun t129=>(if t129=true then (if (((rd_T91 x126001 x3).f2).size:Int)>16 then (some false) else (if (rd_T91 x126001 x3).f1=true then (if ((rd_T91 x126001 x3).f2).toList=([]:List UInt8) then (if x3>0 then (if 0≤(wrap64 (x3-1)) then (if (wrap64 (x3-1))<(x126001.length:Int) then ((spec_l03Less.f ((rd_T91 x126001 (wrap64 (x3-1))).f0.f0) ((rd_T91 x126001 (wrap64 (x3-1))).f0.f1) ((rd_T91 x126001 x3).f0.f0) ((rd_T91 x126001 x3).f0.f1)).bind fun t131=>(if t131=true then (spec_SetRight.l0 k (wrap64 (x3+1)) x126000 x126001) else (some false))) else (none)) else (none)) else (spec_SetRight.l0 k (wrap64 (x3+1)) x126000 x126001)) else (some false)) else (if x3>0 then (if 0≤(wrap64 (x3-1)) then (if (wrap64 (x3-1))<(x126001.length:Int) then ((spec_l03Less.f ((rd_T91 x126001 (wrap64 (x3-1))).f0.f0) ((rd_T91 x126001 (wrap64 (x3-1))).f0.f1) ((rd_T91 x126001 x3).f0.f0) ((rd_T91 x126001 x3).f0.f1)).bind fun t133=>(if t133=true then (spec_SetRight.l0 k (wrap64 (x3+1)) x126000 x126001) else (some false))) else (none)) else (none)) else (spec_SetRight.l0 k (wrap64 (x3+1)) x126000 x126001)))) else (some false))) else (none)) else (some true)
end
def spec_SetRight.f (k:Nat) (l0_0:List (S56)) (l0_1:List (S91)):Option (Bool):=(spec_SeenRight.f k l0_0).bind fun t126=>(if t126=true then (spec_SetRight.j0 k (decide ((l0_1.length:Int)>8)) l0_0 l0_1) else (spec_SetRight.j0 k true l0_0 l0_1))
theorem spec_SetRight.mono_l:∀ k,(∀ y0 y1 y2,LeO (spec_SetRight.j0 k y0 y1 y2) (spec_SetRight.j0 (k+1) y0 y1 y2))∧(∀ y0 y1 y2,LeO (spec_SetRight.l0 k y0 y1 y2) (spec_SetRight.l0 (k+1) y0 y1 y2))
 | 0=>⟨fun _ _ _ r h=>by simp [spec_SetRight.j0] at h,fun _ _ _ r h=>by simp [spec_SetRight.l0] at h⟩
 | k+1=>by
  obtain ⟨ih0,ih1⟩:=spec_SetRight.mono_l k
  refine ⟨?_,?_⟩
  ·intro y0 y1 y2
   unfold spec_SetRight.j0
   repeat' first
   | (with_reducible exact ih0 _ _ _)
   | (with_reducible exact ih1 _ _ _)
   | (with_reducible exact spec_SeenHas.mono _ _ _ _)
   | (with_reducible exact spec_SeenRight.mono _ _)
   | (with_reducible exact LeO.refl _)
   | (with_reducible exact LeO.none _)
   | (with_reducible refine LeO.ite ?_ ?_)
   | (with_reducible refine LeO.bind ?_ (fun _=>?_))
   | exact ih0 _ _ _
   | exact ih1 _ _ _
   | exact spec_SeenHas.mono _ _ _ _
   | exact spec_SeenRight.mono _ _
   | exact LeO.none _
   | refine LeO.ite ?_ ?_
   | refine LeO.bind ?_ (fun _=>?_)
  ·intro y0 y1 y2
   unfold spec_SetRight.l0
   repeat' first
   | (with_reducible exact ih0 _ _ _)
   | (with_reducible exact ih1 _ _ _)
   | (with_reducible exact spec_SeenHas.mono _ _ _ _)
   | (with_reducible exact spec_SeenRight.mono _ _)
   | (with_reducible exact LeO.refl _)
   | (with_reducible exact LeO.none _)
   | (with_reducible refine LeO.ite ?_ ?_)
   | (with_reducible refine LeO.bind ?_ (fun _=>?_))
   | exact ih0 _ _ _
   | exact ih1 _ _ _
   | exact spec_SeenHas.mono _ _ _ _
   | exact spec_SeenRight.mono _ _
   | exact LeO.none _
   | refine LeO.ite ?_ ?_
   | refine LeO.bind ?_ (fun _=>?_)
theorem spec_SetRight.mono:∀ a0 a1 k,LeO (spec_SetRight.f k a0 a1) (spec_SetRight.f (k+1) a0 a1):=by
 intro a0 a1 k
 obtain ⟨ih0,ih1⟩:=spec_SetRight.mono_l k
 unfold spec_SetRight.f
 repeat' first
   | (with_reducible exact ih0 _ _ _)
   | (with_reducible exact ih1 _ _ _)
   | (with_reducible exact spec_SeenHas.mono _ _ _ _)
   | (with_reducible exact spec_SeenRight.mono _ _)
   | (with_reducible exact LeO.refl _)
   | (with_reducible exact LeO.none _)
   | (with_reducible refine LeO.ite ?_ ?_)
   | (with_reducible refine LeO.bind ?_ (fun _=>?_))
   | exact ih0 _ _ _
   | exact ih1 _ _ _
   | exact spec_SeenHas.mono _ _ _ _
   | exact spec_SeenRight.mono _ _
   | exact LeO.none _
   | refine LeO.ite ?_ ?_
   | refine LeO.bind ?_ (fun _=>?_)
def spec_SetRight.T7:Bool × List (List Nat × List Nat):=(true,[([],[]),([0],[0]),([],[]),([2],[2]),([1,3],[1,3]),([4],[4]),([5,4],[5]),([6],[6]),([7,6],[6,7]),([8,6],[6,8]),([9,6],[6,9]),([6,10],[6,10]),([11,6],[11]),([12],[12]),([13,12],[12,13]),([14,12,12],[12,14]),([15],[15]),([16,15],[15,16]),([17,15],[15,17]),([15,18,12],[12,15,18]),([12,19],[12,19]),([20,15],[20]),([21],[21]),([22,21],[21,22]),([23,21,21],[21,23]),([24],[24]),([25,24],[24,25]),([24],[24]),([27,24],[24,27]),([26,28,24],[24,26,28]),([29,24],[24,29]),([30,24],[24,30]),([24],[24]),([32,24],[24,32]),([31,33,24,24],[24,31,33]),([34,24],[24,34]),([24,35,21],[21,24,35]),([21,36],[21,36])])
def spec_SetRight.B7:List Nat:=[0,1,0,4,15,31,63,127,255,511,1023,2047,4095,8191,16383,32767,65535,131071,262143,524287,1048575,2097151,4194303,8388607,16777215,33554431,67108863,33554431,167772159,536870911,1073741823,2147483647,33554431,4328521727,17179869183,34359738367,68719476735,137438953471]
theorem spec_SetRight.tab7:rtab .any (opsOf Try.f51 7)=spec_SetRight.T7:=by kernel_rfl
theorem spec_SetRight.bits7:waitsOk spec_SetRight.T7.2 spec_SetRight.B7=true:=by kernel_rfl
abbrev spec_SetRight.q0:Array Bool:=#[O,O,O,O,O,O,O,O,O,O,O,O,O,O,O,O,O,O,O,O,O,O,O,O,O,O,O,O,O,O,O,O,O,O,O,O,O,O]
abbrev spec_SetRight.q1:Array Bool:=#[I,O,O,O,O,O,O,O,O,O,O,O,O,O,O,O,O,O,O,O,O,O,O,O,O,O,O,O,O,O,O,O,O,O,O,O,O,O]
abbrev spec_SetRight.q2:Array Bool:=#[I,O,I,O,O,O,O,O,O,O,O,O,O,O,O,O,O,O,O,O,O,O,O,O,O,O,O,O,O,O,O,O,O,O,O,O,O,O]
abbrev spec_SetRight.q3:Array Bool:=#[I,I,I,O,O,O,O,O,O,O,O,O,O,O,O,O,O,O,O,O,O,O,O,O,O,O,O,O,O,O,O,O,O,O,O,O,O,O]
abbrev spec_SetRight.q4:Array Bool:=#[I,I,I,I,O,O,O,O,O,O,O,O,O,O,O,O,O,O,O,O,O,O,O,O,O,O,O,O,O,O,O,O,O,O,O,O,O,O]
abbrev spec_SetRight.q5:Array Bool:=#[I,I,I,I,I,O,O,O,O,O,O,O,O,O,O,O,O,O,O,O,O,O,O,O,O,O,O,O,O,O,O,O,O,O,O,O,O,O]
abbrev spec_SetRight.q6:Array Bool:=#[I,I,I,I,I,I,O,O,O,O,O,O,O,O,O,O,O,O,O,O,O,O,O,O,O,O,O,O,O,O,O,O,O,O,O,O,O,O]
abbrev spec_SetRight.q7:Array Bool:=#[I,I,I,I,I,I,I,O,O,O,O,O,O,O,O,O,O,O,O,O,O,O,O,O,O,O,O,O,O,O,O,O,O,O,O,O,O,O]
abbrev spec_SetRight.q8:Array Bool:=#[I,I,I,I,I,I,I,I,O,O,O,O,O,O,O,O,O,O,O,O,O,O,O,O,O,O,O,O,O,O,O,O,O,O,O,O,O,O]
abbrev spec_SetRight.q9:Array Bool:=#[I,I,I,I,I,I,I,I,I,O,O,O,O,O,O,O,O,O,O,O,O,O,O,O,O,O,O,O,O,O,O,O,O,O,O,O,O,O]
abbrev spec_SetRight.q10:Array Bool:=#[I,I,I,I,I,I,I,I,I,I,O,O,O,O,O,O,O,O,O,O,O,O,O,O,O,O,O,O,O,O,O,O,O,O,O,O,O,O]
abbrev spec_SetRight.q11:Array Bool:=#[I,I,I,I,I,I,I,I,I,I,I,O,O,O,O,O,O,O,O,O,O,O,O,O,O,O,O,O,O,O,O,O,O,O,O,O,O,O]
abbrev spec_SetRight.q12:Array Bool:=#[I,I,I,I,I,I,I,I,I,I,I,I,O,O,O,O,O,O,O,O,O,O,O,O,O,O,O,O,O,O,O,O,O,O,O,O,O,O]
abbrev spec_SetRight.q13:Array Bool:=#[I,I,I,I,I,I,I,I,I,I,I,I,I,O,O,O,O,O,O,O,O,O,O,O,O,O,O,O,O,O,O,O,O,O,O,O,O,O]
abbrev spec_SetRight.q14:Array Bool:=#[I,I,I,I,I,I,I,I,I,I,I,I,I,I,O,O,O,O,O,O,O,O,O,O,O,O,O,O,O,O,O,O,O,O,O,O,O,O]
abbrev spec_SetRight.q15:Array Bool:=#[I,I,I,I,I,I,I,I,I,I,I,I,I,I,I,O,O,O,O,O,O,O,O,O,O,O,O,O,O,O,O,O,O,O,O,O,O,O]
abbrev spec_SetRight.q16:Array Bool:=#[I,I,I,I,I,I,I,I,I,I,I,I,I,I,I,I,O,O,O,O,O,O,O,O,O,O,O,O,O,O,O,O,O,O,O,O,O,O]
abbrev spec_SetRight.q17:Array Bool:=#[I,I,I,I,I,I,I,I,I,I,I,I,I,I,I,I,I,O,O,O,O,O,O,O,O,O,O,O,O,O,O,O,O,O,O,O,O,O]
abbrev spec_SetRight.q18:Array Bool:=#[I,I,I,I,I,I,I,I,I,I,I,I,I,I,I,I,I,I,O,O,O,O,O,O,O,O,O,O,O,O,O,O,O,O,O,O,O,O]
abbrev spec_SetRight.q19:Array Bool:=#[I,I,I,I,I,I,I,I,I,I,I,I,I,I,I,I,I,I,I,O,O,O,O,O,O,O,O,O,O,O,O,O,O,O,O,O,O,O]
abbrev spec_SetRight.q20:Array Bool:=#[I,I,I,I,I,I,I,I,I,I,I,I,I,I,I,I,I,I,I,I,O,O,O,O,O,O,O,O,O,O,O,O,O,O,O,O,O,O]
abbrev spec_SetRight.q21:Array Bool:=#[I,I,I,I,I,I,I,I,I,I,I,I,I,I,I,I,I,I,I,I,I,O,O,O,O,O,O,O,O,O,O,O,O,O,O,O,O,O]
abbrev spec_SetRight.q22:Array Bool:=#[I,I,I,I,I,I,I,I,I,I,I,I,I,I,I,I,I,I,I,I,I,I,O,O,O,O,O,O,O,O,O,O,O,O,O,O,O,O]
abbrev spec_SetRight.q23:Array Bool:=#[I,I,I,I,I,I,I,I,I,I,I,I,I,I,I,I,I,I,I,I,I,I,I,O,O,O,O,O,O,O,O,O,O,O,O,O,O,O]
abbrev spec_SetRight.q24:Array Bool:=#[I,I,I,I,I,I,I,I,I,I,I,I,I,I,I,I,I,I,I,I,I,I,I,I,O,O,O,O,O,O,O,O,O,O,O,O,O,O]
abbrev spec_SetRight.q25:Array Bool:=#[I,I,I,I,I,I,I,I,I,I,I,I,I,I,I,I,I,I,I,I,I,I,I,I,I,O,O,O,O,O,O,O,O,O,O,O,O,O]
abbrev spec_SetRight.q26:Array Bool:=#[I,I,I,I,I,I,I,I,I,I,I,I,I,I,I,I,I,I,I,I,I,I,I,I,I,I,O,O,O,O,O,O,O,O,O,O,O,O]
abbrev spec_SetRight.q27:Array Bool:=#[I,I,I,I,I,I,I,I,I,I,I,I,I,I,I,I,I,I,I,I,I,I,I,I,I,I,I,O,O,O,O,O,O,O,O,O,O,O]
abbrev spec_SetRight.q28:Array Bool:=#[I,I,I,I,I,I,I,I,I,I,I,I,I,I,I,I,I,I,I,I,I,I,I,I,I,I,I,I,O,O,O,O,O,O,O,O,O,O]
abbrev spec_SetRight.q29:Array Bool:=#[I,I,I,I,I,I,I,I,I,I,I,I,I,I,I,I,I,I,I,I,I,I,I,I,I,I,I,I,I,O,O,O,O,O,O,O,O,O]
abbrev spec_SetRight.q30:Array Bool:=#[I,I,I,I,I,I,I,I,I,I,I,I,I,I,I,I,I,I,I,I,I,I,I,I,I,I,I,I,I,I,O,O,O,O,O,O,O,O]
abbrev spec_SetRight.q31:Array Bool:=#[I,I,I,I,I,I,I,I,I,I,I,I,I,I,I,I,I,I,I,I,I,I,I,I,I,I,I,I,I,I,I,O,O,O,O,O,O,O]
abbrev spec_SetRight.q32:Array Bool:=#[I,I,I,I,I,I,I,I,I,I,I,I,I,I,I,I,I,I,I,I,I,I,I,I,I,I,I,I,I,I,I,I,O,O,O,O,O,O]
abbrev spec_SetRight.q33:Array Bool:=#[I,I,I,I,I,I,I,I,I,I,I,I,I,I,I,I,I,I,I,I,I,I,I,I,I,I,I,I,I,I,I,I,I,O,O,O,O,O]
abbrev spec_SetRight.q34:Array Bool:=#[I,I,I,I,I,I,I,I,I,I,I,I,I,I,I,I,I,I,I,I,I,I,I,I,I,I,I,I,I,I,I,I,I,I,O,O,O,O]
abbrev spec_SetRight.q35:Array Bool:=#[I,I,I,I,I,I,I,I,I,I,I,I,I,I,I,I,I,I,I,I,I,I,I,I,I,I,I,I,I,I,I,I,I,I,I,O,O,O]
abbrev spec_SetRight.q36:Array Bool:=#[I,I,I,I,I,I,I,I,I,I,I,I,I,I,I,I,I,I,I,I,I,I,I,I,I,I,I,I,I,I,I,I,I,I,I,I,O,O]
abbrev spec_SetRight.q37:Array Bool:=#[I,I,I,I,I,I,I,I,I,I,I,I,I,I,I,I,I,I,I,I,I,I,I,I,I,I,I,I,I,I,I,I,I,I,I,I,I,O]
abbrev spec_SetRight.q38:Array Bool:=#[I,I,I,I,I,I,I,I,I,I,I,I,I,I,I,I,I,I,I,I,I,I,I,I,I,I,I,I,I,I,I,I,I,I,I,I,I,I]
abbrev spec_SetRight.q39:Array Bool:=#[I,I,I,I,I,I,I,I,I,I,I,I,I,I,I,I,I,I,I,I,I,I,I,I,I,I,O,I,O,O,O,O,O,O,O,O,O,O]
abbrev spec_SetRight.q40:Array Bool:=#[I,I,I,I,I,I,I,I,I,I,I,I,I,I,I,I,I,I,I,I,I,I,I,I,I,I,O,I,I,O,O,O,O,O,O,O,O,O]
abbrev spec_SetRight.q41:Array Bool:=#[I,I,I,I,I,I,I,I,I,I,I,I,I,I,I,I,I,I,I,I,I,I,I,I,I,I,O,I,I,O,O,O,I,O,O,O,O,O]
abbrev spec_SetRight.q42:Array Bool:=#[I,I,I,I,I,I,I,I,I,I,I,I,I,I,I,I,I,I,I,I,I,I,I,I,I,I,I,I,I,O,O,O,I,O,O,O,O,O]
abbrev spec_SetRight.q43:Array Bool:=#[I,I,I,I,I,I,I,I,I,I,I,I,I,I,I,I,I,I,I,I,I,I,I,I,I,I,I,I,I,I,O,O,I,O,O,O,O,O]
abbrev spec_SetRight.q44:Array Bool:=#[I,I,I,I,I,I,I,I,I,I,I,I,I,I,I,I,I,I,I,I,I,I,I,I,I,I,I,I,I,I,I,O,I,O,O,O,O,O]
set_option maxHeartbeats 8000000 in
set_option maxRecDepth 100000 in
theorem spec_SetRight.calls (k:Nat) (A0_0:Option Addr) (c0_0:Nat) (l0_0:List (S56)) (A0_1:Option Addr) (c0_1:Nat) (l0_1:List (S91)) (r:Bool) (w:World) (hr0_0:Kd.C k56 w A0_0 l0_0.length l0_0) (hc0_0:l0_0.length≤c0_0) (hr0_1:Kd.C k91 w A0_1 l0_1.length l0_1) (hc0_1:l0_1.length≤c0_1) (h:spec_SetRight.f k l0_0 l0_1=some r) :
  Calls Try.prog 51 #[.agg #[.slice A0_0 l0_0.length c0_0,.slice A0_1 l0_1.length c0_1]] w fun e w'=>e = .returned (.bool r)∧Below w.heap.size w w':=by
 have hu40:=Try.underlying40
 have hu91:=Try.underlying91
 have hu56:=Try.underlying56
 have HR0_0:=Aside0.mk hr0_0
 have HC0_0:=Aside0.mk hc0_0
 clear hr0_0 hc0_0
 have HR0_1:=Aside0.mk hr0_1
 have HC0_1:=Aside0.mk hc0_1
 clear hr0_1 hc0_1
 have HB:=Aside0.mk (Below.refl w.heap.size w)
 have H:((spec_SeenRight.f k l0_0).bind fun t126=>(if t126=true then (spec_SetRight.j0 k (decide ((l0_1.length:Int)>8)) l0_0 l0_1) else (spec_SetRight.j0 k true l0_0 l0_1)))=some r:=h
 clear h
 have HC2:=Aside0.mk H
 clear H
 go_enter Try.func51,Try.ntmps51
 go_upto_region 1 with (first | ((with_reducible refine gd_ 1 ?_);(try (refine gate_guard (by rfl) ?_;dsimp only));refine be_ 1 #[.slice A0_0 l0_0.length c0_0,.slice A0_1 l0_1.length c0_1] 40 ?_;intro gb125 hg w3 hbox hb;refine as4_ (below_step (z5_ HB.out) hb) (hbox) ((z7_ HB.out:w.heap.size≤gb125)) ((z7_ HB.out:w.heap.size≤gb125)) ?_;clear HB;intro HB BK125 GW125 GE125;clear hb hbox hg))
 (try simp only [Act.put,sa_,s0_,ss_])
 go_cut [14] (fun v14 wc=>∃ (kq:Nat) (x14_1:Bool),v14 = .bool x14_1∧Aside0 (spec_SetRight.j0 kq x14_1 l0_0 l0_1=some r)∧Aside0 (kq≤k)∧Aside0 (wc.heap[gb125]? = some (.cells #[(.slice A0_0 l0_0.length c0_0),(.slice A0_1 l0_1.length c0_1)] 40 (0,0)))∧Aside0 (Below w.heap.size w wc))
 case first =>
  have H:=HC2.out
  clear HC2
  replace H:=Option.bind_eq_some_iff.mp H
  obtain ⟨t126,A40,H⟩:=H
  replace H:(if t126=true then (spec_SetRight.j0 k (decide ((l0_1.length:Int)>8)) l0_0 l0_1) else (spec_SetRight.j0 k true l0_0 l0_1))=some r:=H
  have A4:=Aside0.mk A40
  clear A40
  by_cases c5:t126=true
  ·subst c5
   have H1:(spec_SetRight.j0 k (decide ((l0_1.length:Int)>8)) l0_0 l0_1)=some r:=by rw [if_pos rfl] at H;exact H
   clear H
   have H:=H1
   clear H1
   have H':=Aside0.mk H
   clear H
   have ⟨hcz6_0,hcz6_1,hfz6_0,hfz6_1⟩:=cz2_ BK125.out
   go_wp2_with (first | ((with_reducible refine gc_ 68 ?_);refine gl_ (some 7) Try.func68 #[.slice A0_0 l0_0.length c0_0] ?_;(with_reducible refine (spec_SeenRight.calls k _ _ l0_0 true _ ?s1 ?s2 A4.out).mono ?_);(case s1=>repeat (first | exact (Kd.C_below HR0_0.out HB.out) | (with_reducible refine Kd.C_alloc ?_ _) | (with_reducible refine Kd.C_drewN ?_ _) | (with_reducible refine Kd.C_drew ?_)));(case s2=>exact HC0_0.out);rintro e w7 ⟨rfl,hb⟩;refine ⟨_,rfl,?_⟩;refine as2_ (blkB_ BK125.out hb) (below_step (z4_ HB.out GE125.out) hb) ?_;clear BK125 HB;intro BK125 HB;(try clear hb);have ⟨hcz8_0,hcz8_1,hfz8_0,hfz8_1⟩:=cz2_ BK125.out))
   go_meet
   case rel=>exact ⟨_,(decide ((l0_1.length:Int)>8)),(z2_),H',⟨by first | omega | exact Nat.le_refl _⟩,⟨z3_ BK125.out⟩,⟨z4_ HB.out GE125.out⟩⟩
  ·replace c5:=Bool.eq_false_iff.mpr c5
   subst c5
   have H1:(spec_SetRight.j0 k true l0_0 l0_1)=some r:=by rw [if_neg (show ¬ (false=true) by decide)] at H;exact H
   clear H
   have H:=H1
   clear H1
   have H':=Aside0.mk H
   clear H
   have ⟨hcz9_0,hcz9_1,hfz9_0,hfz9_1⟩:=cz2_ BK125.out
   go_wp2_with (first | ((with_reducible refine gc_ 68 ?_);refine gl_ (some 7) Try.func68 #[.slice A0_0 l0_0.length c0_0] ?_;(with_reducible refine (spec_SeenRight.calls k _ _ l0_0 false _ ?s1 ?s2 A4.out).mono ?_);(case s1=>repeat (first | exact (Kd.C_below HR0_0.out HB.out) | (with_reducible refine Kd.C_alloc ?_ _) | (with_reducible refine Kd.C_drewN ?_ _) | (with_reducible refine Kd.C_drew ?_)));(case s2=>exact HC0_0.out);rintro e w10 ⟨rfl,hb⟩;refine ⟨_,rfl,?_⟩;refine as2_ (blkB_ BK125.out hb) (below_step (z4_ HB.out GE125.out) hb) ?_;clear BK125 HB;intro BK125 HB;(try clear hb)))
   go_meet
   case rel=>exact ⟨_,(true),(z2_),H',⟨by first | omega | exact Nat.le_refl _⟩,⟨z3_ BK125.out⟩,⟨z4_ HB.out GE125.out⟩⟩
 case rest =>
  clear HC2
  try clear p2
  try clear c5
  try clear c6
  try clear hcz6_0
  try clear hcz6_1
  try clear hcz8_0
  try clear hcz8_1
  try clear hcz9_0
  try clear hcz9_1
  try clear hfz6_0
  try clear hfz6_1
  try clear hfz8_0
  try clear hfz8_1
  try clear hfz9_0
  try clear hfz9_1
  obtain ⟨kq,x14_1,rfl,HA,HJ1,BK125,HB⟩:=hcut
  cases kq with
  | zero=>exact absurd HA.out (by simp [spec_SetRight.j0])
  | succ kj1 =>
   have H:=HA.out
   clear HA
   simp only [spec_SetRight.j0] at H
   by_cases c11:x14_1=true
   ·subst c11
    have H1:(some false)=some r:=by rw [if_pos rfl] at H;exact H
    clear H
    have H:=H1
    clear H1
    obtain rfl:=Option.some.inj H
    go_wp2
    go_ret
    exact ⟨z8_,z4_ HB.out GE125.out⟩
   ·replace c11:=Bool.eq_false_iff.mpr c11
    subst c11
    have H1:(spec_SetRight.l0 kj1 0 l0_0 l0_1)=some r:=by rw [if_neg (show ¬ (false=true) by decide)] at H;exact H
    clear H
    have H:=H1
    clear H1
    have H':=Aside0.mk H
    clear H
    go_wp2
    go_loopg [3] kj1 (fun kq v3 w'=>∃ (x3_2:Int),v3 = .int .i64 x3_2∧Aside0 (spec_SetRight.l0 kq x3_2 l0_0 l0_1=some r)∧Aside0 (kq≤kj1)∧Aside0 (w'.heap[gb125]? = some (.cells #[(.slice A0_0 l0_0.length c0_0),(.slice A0_1 l0_1.length c0_1)] 40 (0,0)))∧Aside0 (Below w.heap.size w w'))
    case atStart=>exact ⟨(0),(z2_),H',⟨Nat.le_refl _⟩,⟨z3_ BK125.out⟩,⟨z4_ HB.out GE125.out⟩⟩
    case round =>
     clear H'
     try clear c1
     try clear p2
     try clear c5
     try clear c6
     try clear c11
     try clear hcz6_0
     try clear hcz6_1
     try clear hcz8_0
     try clear hcz8_1
     try clear hcz9_0
     try clear hcz9_1
     try clear hfz6_0
     try clear hfz6_1
     try clear hfz8_0
     try clear hfz8_1
     try clear hfz9_0
     try clear hfz9_1
     try clear p2
     obtain ⟨x3_2,rfl,HA,HK2,BK125,HB⟩:=hrel
     cases gk with
     | zero=>exact absurd HA.out (by simp [spec_SetRight.l0])
     | succ k2 =>
      have H:=HA.out
      clear HA
      simp only [spec_SetRight.l0] at H
      by_cases c12:x3_2<(l0_1.length:Int)
      ·rw [if_pos c12] at H
       have c12b0:decide (x3_2<(l0_1.length:Int))=true:=decide_eq_true c12
       clear c12
       by_cases c13:0≤x3_2
       ·rw [if_pos c13] at H
        have c13b0:decide (0≤x3_2)=true:=decide_eq_true c13
        clear c13
        replace H:=Option.bind_eq_some_iff.mp H
        obtain ⟨t129,A140,H⟩:=H
        replace H:(if t129=true then (if (((rd_T91 l0_1 x3_2).f2).size:Int)>16 then (some false) else (if (rd_T91 l0_1 x3_2).f1=true then (if ((rd_T91 l0_1 x3_2).f2).toList=([]:List UInt8) then (if x3_2>0 then (if 0≤(wrap64 (x3_2-1)) then (if (wrap64 (x3_2-1))<(l0_1.length:Int) then ((spec_l03Less.f ((rd_T91 l0_1 (wrap64 (x3_2-1))).f0.f0) ((rd_T91 l0_1 (wrap64 (x3_2-1))).f0.f1) ((rd_T91 l0_1 x3_2).f0.f0) ((rd_T91 l0_1 x3_2).f0.f1)).bind fun t131=>(if t131=true then (spec_SetRight.l0 k2 (wrap64 (x3_2+1)) l0_0 l0_1) else (some false))) else (none)) else (none)) else (spec_SetRight.l0 k2 (wrap64 (x3_2+1)) l0_0 l0_1)) else (some false)) else (if x3_2>0 then (if 0≤(wrap64 (x3_2-1)) then (if (wrap64 (x3_2-1))<(l0_1.length:Int) then ((spec_l03Less.f ((rd_T91 l0_1 (wrap64 (x3_2-1))).f0.f0) ((rd_T91 l0_1 (wrap64 (x3_2-1))).f0.f1) ((rd_T91 l0_1 x3_2).f0.f0) ((rd_T91 l0_1 x3_2).f0.f1)).bind fun t133=>(if t133=true then (spec_SetRight.l0 k2 (wrap64 (x3_2+1)) l0_0 l0_1) else (some false))) else (none)) else (none)) else (spec_SetRight.l0 k2 (wrap64 (x3_2+1)) l0_0 l0_1)))) else (some false))=some r:=H
        have A14:=Aside0.mk A140
        clear A140
        by_cases c15:t129=true
        ·subst c15
         have H1:(if (((rd_T91 l0_1 x3_2).f2).size:Int)>16 then (some false) else (if (rd_T91 l0_1 x3_2).f1=true then (if ((rd_T91 l0_1 x3_2).f2).toList=([]:List UInt8) then (if x3_2>0 then (if 0≤(wrap64 (x3_2-1)) then (if (wrap64 (x3_2-1))<(l0_1.length:Int) then ((spec_l03Less.f ((rd_T91 l0_1 (wrap64 (x3_2-1))).f0.f0) ((rd_T91 l0_1 (wrap64 (x3_2-1))).f0.f1) ((rd_T91 l0_1 x3_2).f0.f0) ((rd_T91 l0_1 x3_2).f0.f1)).bind fun t131=>(if t131=true then (spec_SetRight.l0 k2 (wrap64 (x3_2+1)) l0_0 l0_1) else (some false))) else (none)) else (none)) else (spec_SetRight.l0 k2 (wrap64 (x3_2+1)) l0_0 l0_1)) else (some false)) else (if x3_2>0 then (if 0≤(wrap64 (x3_2-1)) then (if (wrap64 (x3_2-1))<(l0_1.length:Int) then ((spec_l03Less.f ((rd_T91 l0_1 (wrap64 (x3_2-1))).f0.f0) ((rd_T91 l0_1 (wrap64 (x3_2-1))).f0.f1) ((rd_T91 l0_1 x3_2).f0.f0) ((rd_T91 l0_1 x3_2).f0.f1)).bind fun t133=>(if t133=true then (spec_SetRight.l0 k2 (wrap64 (x3_2+1)) l0_0 l0_1) else (some false))) else (none)) else (none)) else (spec_SetRight.l0 k2 (wrap64 (x3_2+1)) l0_0 l0_1))))=some r:=by rw [if_pos rfl] at H;exact H
         clear H
         have H:=H1
         clear H1
         by_cases c16:(((rd_T91 l0_1 x3_2).f2).size:Int)>16
         ·rw [if_pos c16] at H
          have c16b0:decide (16<(((rd_T91 l0_1 x3_2).f2).size:Int))=true:=decide_eq_true c16
          have c16b1:decide (16<((rd_T91 l0_1 x3_2).f2).size)=true:=decide_eq_true (by omega)
          clear c16
          obtain rfl:=Option.some.inj H
          have ⟨hcz17_0,hcz17_1,hfz17_0,hfz17_1⟩:=cz2_ BK125.out
          have p127:0≤(x3_2:Int):=of_decide_eq_true (z1_)
          have q127:x3_2<(l0_1.length:Int):=of_decide_eq_true (z1_)
          obtain ⟨ad127,e127,hx127_0,hx127_1,hx127_2,hx127_3⟩:=at_T91 HR0_1.out x3_2 p127 q127
          cases e127
          replace hx127_0:=(HB.out.cell (World.block_lt_of_cell? w _ hx127_0)).trans hx127_0
          replace hx127_1:=(HB.out.cell (World.block_lt_of_cell? w _ hx127_1)).trans hx127_1
          replace hx127_2:=(HB.out.cell (World.block_lt_of_cell? w _ hx127_2)).trans hx127_2
          replace hx127_3:=(HB.out.cell (World.block_lt_of_cell? w _ hx127_3)).trans hx127_3
          replace p127:=eq_true p127
          replace q127:=eq_true q127
          try go_wp2_with (first | ((with_reducible refine gd_ 4 ?_);(try (refine gate_guard (by rfl) ?_;dsimp only));refine be_ 4 #[.int .i64 0,.int .i64 0,.bool false,.string (⟨#[]⟩:ByteArray)] 91 ?_;intro gb128 hg w18 hbox hb;refine as7_ (blkB_ BK125.out hb) (below_step (z4_ HB.out GE125.out) hb) (hbox) ((z11_ HB.out GE125.out:w.heap.size≤gb128)) ((z11_ HB.out GE125.out:w.heap.size≤gb128)) (neL_ BK125.out hg) (neG_ BK125.out hg) ?_;clear BK125 HB;intro BK125 HB BK128 GW128 GE128 NB125_128 NB128_125;clear hb hbox hg;have hnb19:=NB128_125.out;have hnc19:=NB125_128.out;have ⟨hcz20_0,hcz20_1,hcz20_2,hcz20_3,hfz20_0,hfz20_1,hfz20_2,hfz20_3⟩:=cz4_ BK128.out))
          have n0_:Aside0 (((((w18.setCell ⟨gb128,0,none⟩ (.int .i64 ((rd_T91 l0_1 x3_2).f0.f0))).setCell ⟨gb128,1,none⟩ (.int .i64 ((rd_T91 l0_1 x3_2).f0.f1))).setCell ⟨gb128,2,none⟩ (.bool ((rd_T91 l0_1 x3_2).f1))).setCell ⟨gb128,3,none⟩ (.string ((rd_T91 l0_1 x3_2).f2))).heap[gb125]? = some (.cells #[.slice A0_0 l0_0.length c0_0,.slice (some ad127) l0_1.length c0_1] 40 (0,0))):=⟨z26_ NB125_128.out BK125.out⟩
          have n1_:Aside0 (((((w18.setCell ⟨gb128,0,none⟩ (.int .i64 ((rd_T91 l0_1 x3_2).f0.f0))).setCell ⟨gb128,1,none⟩ (.int .i64 ((rd_T91 l0_1 x3_2).f0.f1))).setCell ⟨gb128,2,none⟩ (.bool ((rd_T91 l0_1 x3_2).f1))).setCell ⟨gb128,3,none⟩ (.string ((rd_T91 l0_1 x3_2).f2))).heap[gb128]? = some (.cells #[.int .i64 ((rd_T91 l0_1 x3_2).f0.f0),.int .i64 ((rd_T91 l0_1 x3_2).f0.f1),.bool ((rd_T91 l0_1 x3_2).f1),.string ((rd_T91 l0_1 x3_2).f2)] 91 (0,0))):=⟨z27_ BK128.out⟩
          have n2_:Aside0 (Below w.heap.size w ((((w18.setCell ⟨gb128,0,none⟩ (.int .i64 ((rd_T91 l0_1 x3_2).f0.f0))).setCell ⟨gb128,1,none⟩ (.int .i64 ((rd_T91 l0_1 x3_2).f0.f1))).setCell ⟨gb128,2,none⟩ (.bool ((rd_T91 l0_1 x3_2).f1))).setCell ⟨gb128,3,none⟩ (.string ((rd_T91 l0_1 x3_2).f2)))):=⟨z6_ HB.out GE125.out GE128.out⟩
          (try clear BK125)
          (try clear BK128)
          (try clear HB)
          generalize ((((w18.setCell ⟨gb128,0,none⟩ (.int .i64 ((rd_T91 l0_1 x3_2).f0.f0))).setCell ⟨gb128,1,none⟩ (.int .i64 ((rd_T91 l0_1 x3_2).f0.f1))).setCell ⟨gb128,2,none⟩ (.bool ((rd_T91 l0_1 x3_2).f1))).setCell ⟨gb128,3,none⟩ (.string ((rd_T91 l0_1 x3_2).f2)))=w21 at n0_ n1_ n2_ ⊢
          have BK125:=n0_
          have BK128:=n1_
          have HB:=n2_
          clear n0_ n1_ n2_
          refine as3_ (blk_drew BK125.out) (blk_drew BK128.out) (below_drew1 HB.out) ?_
          clear BK125 BK128 HB
          intro BK125 BK128 HB
          refine start_ (n:=38) (S:=fun w'=>w'.cell? ⟨gb125,0,none⟩=some (.slice A0_0 l0_0.length c0_0)∧w'.cell? ⟨gb125,1,none⟩=some (.slice (some ad127) l0_1.length c0_1)∧w'.cell? ⟨gb128,0,none⟩=some (.int .i64 ((rd_T91 l0_1 x3_2).f0.f0))∧w'.cell? ⟨gb128,1,none⟩=some (.int .i64 ((rd_T91 l0_1 x3_2).f0.f1))∧w'.cell? ⟨gb128,2,none⟩=some (.bool ((rd_T91 l0_1 x3_2).f1))∧w'.cell? ⟨gb128,3,none⟩=some (.string ((rd_T91 l0_1 x3_2).f2))) (ds:=[]) spec_SetRight.q0 (by kernel_rfl) rfl rfl (cj2_ BK125.out (cc4_ BK128.out)) (fun hHeld=>?_);refine with_tabW spec_SetRight.tab7 spec_SetRight.bits7 (fun HT_ HW_=>?_)
          generalize w21.drew=w22 at BK125 BK128 HB hHeld ⊢
          refine pu_ 0 27 spec_SetRight.q1 HT_.out ?_
          refine pu_ 2 29 spec_SetRight.q2 HT_.out ?_
          refine tk6_ 1 28 spec_SetRight.q3 HT_.out HW_.out hHeld ?_
          refine tk6_ 3 30 spec_SetRight.q4 HT_.out HW_.out hHeld ?_
          refine o1_ 4 31 spec_SetRight.q5 HT_.out (fun K hK=>?_)
          refine gs_ Try.func72 #[.slice A0_0 l0_0.length c0_0,.agg #[.int .i64 ((rd_T91 l0_1 x3_2).f0.f0),.int .i64 ((rd_T91 l0_1 x3_2).f0.f1)]] ?_
          with_reducible refine (spec_SeenHas.calls k2 _ _ l0_0 ((rd_T91 l0_1 x3_2).f0.f0) ((rd_T91 l0_1 x3_2).f0.f1) true _ ?s1 ?s2 A14.out).mono ?_
          (case s1=>repeat (first | exact (Kd.C_below HR0_0.out HB.out) | (with_reducible refine Kd.C_alloc ?_ _) | (with_reducible refine Kd.C_drewN ?_ _) | (with_reducible refine Kd.C_drew ?_)))
          (case s2=>exact HC0_0.out)
          rintro e w23 ⟨rfl,hb⟩
          refine ⟨_,rfl,?_⟩
          refine as3_ (blkB_ BK125.out hb) (blkB_ BK128.out hb) (below_step (z6_ HB.out GE125.out GE128.out) hb) ?_
          clear BK125 BK128 HB
          intro BK125 BK128 HB
          (try clear hb)
          refine hK.out _ _ (cj2_ BK125.out (cc4_ BK128.out)) (fun hHeld=>?_)
          clear hK K
          refine nm_ 31 ?_
          refine pu_ 5 32 spec_SetRight.q6 HT_.out ?_
          refine pu_ 6 33 spec_SetRight.q7 HT_.out ?_
          refine pu_ 7 34 spec_SetRight.q8 HT_.out ?_
          refine tk6_ 8 35 spec_SetRight.q9 HT_.out HW_.out hHeld ?_
          refine pu_ 9 36 spec_SetRight.q10 HT_.out ?_
          refine pu_ 10 37 spec_SetRight.q11 HT_.out ?_
          refine pu_ 11 38 spec_SetRight.q12 HT_.out ?_
          refine pu_ 12 39 spec_SetRight.q13 HT_.out ?_
          refine pn_ 13 40 spec_SetRight.q14 HT_.out ?_
          refine pn_ 14 41 spec_SetRight.q15 HT_.out ?_
          refine pn_ 15 42 spec_SetRight.q16 HT_.out ?_
          refine pn_ 16 43 spec_SetRight.q17 HT_.out ?_
          refine pn_ 17 44 spec_SetRight.q18 HT_.out ?_
          refine pn_ 18 45 spec_SetRight.q19 HT_.out ?_
          refine pn_ 19 46 spec_SetRight.q20 HT_.out ?_
          refine pu_ 20 47 spec_SetRight.q21 HT_.out ?_
          refine pu_ 21 48 spec_SetRight.q22 HT_.out ?_
          refine pn_ 22 49 spec_SetRight.q23 HT_.out ?_
          refine pn_ 23 50 spec_SetRight.q24 HT_.out ?_
          refine pn_ 24 51 spec_SetRight.q25 HT_.out ?_
          refine pn_ 25 52 spec_SetRight.q26 HT_.out ?_
          refine pn_ 26 53 spec_SetRight.q27 HT_.out ?_
          refine pn_ 27 54 spec_SetRight.q28 HT_.out ?_
          refine pn_ 28 55 spec_SetRight.q29 HT_.out ?_
          refine pn_ 29 56 spec_SetRight.q30 HT_.out ?_
          refine pn_ 30 57 spec_SetRight.q31 HT_.out ?_
          refine pn_ 31 58 spec_SetRight.q32 HT_.out ?_
          refine pn_ 32 59 spec_SetRight.q33 HT_.out ?_
          refine pn_ 33 60 spec_SetRight.q34 HT_.out ?_
          refine pn_ 34 61 spec_SetRight.q35 HT_.out ?_
          refine pn_ 35 62 spec_SetRight.q36 HT_.out ?_
          refine pn_ 36 63 spec_SetRight.q37 HT_.out ?_
          refine pu_ 37 64 spec_SetRight.q38 HT_.out ?_
          refine done_ (done_of HT_.out (by kernel_rfl)) ?_
          try go_wp2
          go_ret
          exact ⟨z8_,z6_ HB.out GE125.out GE128.out⟩
         ·rw [if_neg c16] at H
          have c16b0:decide (16<(((rd_T91 l0_1 x3_2).f2).size:Int))=false:=decide_eq_false c16
          have c16b1:decide (16<((rd_T91 l0_1 x3_2).f2).size)=false:=decide_eq_false (by omega)
          clear c16
          obtain ⟨bq24,hbq24⟩:∃ b_:Bool,b_=((rd_T91 l0_1 x3_2).f1):=⟨_,rfl⟩
          replace H:(if bq24=true then (if ((rd_T91 l0_1 x3_2).f2).toList=([]:List UInt8) then (if x3_2>0 then (if 0≤(wrap64 (x3_2-1)) then (if (wrap64 (x3_2-1))<(l0_1.length:Int) then ((spec_l03Less.f ((rd_T91 l0_1 (wrap64 (x3_2-1))).f0.f0) ((rd_T91 l0_1 (wrap64 (x3_2-1))).f0.f1) ((rd_T91 l0_1 x3_2).f0.f0) ((rd_T91 l0_1 x3_2).f0.f1)).bind fun t131=>(if t131=true then (spec_SetRight.l0 k2 (wrap64 (x3_2+1)) l0_0 l0_1) else (some false))) else (none)) else (none)) else (spec_SetRight.l0 k2 (wrap64 (x3_2+1)) l0_0 l0_1)) else (some false)) else (if x3_2>0 then (if 0≤(wrap64 (x3_2-1)) then (if (wrap64 (x3_2-1))<(l0_1.length:Int) then ((spec_l03Less.f ((rd_T91 l0_1 (wrap64 (x3_2-1))).f0.f0) ((rd_T91 l0_1 (wrap64 (x3_2-1))).f0.f1) ((rd_T91 l0_1 x3_2).f0.f0) ((rd_T91 l0_1 x3_2).f0.f1)).bind fun t133=>(if t133=true then (spec_SetRight.l0 k2 (wrap64 (x3_2+1)) l0_0 l0_1) else (some false))) else (none)) else (none)) else (spec_SetRight.l0 k2 (wrap64 (x3_2+1)) l0_0 l0_1)))=some r:=by rw [← hbq24] at H;exact H
          have Nbq24:=Aside0.mk hbq24
          clear hbq24
          by_cases c25:bq24=true
          ·subst c25
           have H1:(if ((rd_T91 l0_1 x3_2).f2).toList=([]:List UInt8) then (if x3_2>0 then (if 0≤(wrap64 (x3_2-1)) then (if (wrap64 (x3_2-1))<(l0_1.length:Int) then ((spec_l03Less.f ((rd_T91 l0_1 (wrap64 (x3_2-1))).f0.f0) ((rd_T91 l0_1 (wrap64 (x3_2-1))).f0.f1) ((rd_T91 l0_1 x3_2).f0.f0) ((rd_T91 l0_1 x3_2).f0.f1)).bind fun t131=>(if t131=true then (spec_SetRight.l0 k2 (wrap64 (x3_2+1)) l0_0 l0_1) else (some false))) else (none)) else (none)) else (spec_SetRight.l0 k2 (wrap64 (x3_2+1)) l0_0 l0_1)) else (some false))=some r:=by rw [if_pos rfl] at H;exact H
           clear H
           have H:=H1
           clear H1
           by_cases c26:((rd_T91 l0_1 x3_2).f2).toList=([]:List UInt8)
           ·rw [if_pos c26] at H
            have c26b0:(((rd_T91 l0_1 x3_2).f2).toList == ([]:List UInt8))=true:=beq_iff_eq.mpr c26
            have c26b1:(((rd_T91 l0_1 x3_2).f2).toList != ([]:List UInt8))=false:=bne_eq_false_iff_eq.mpr c26
            clear c26
            by_cases c27:x3_2>0
            ·rw [if_pos c27] at H
             have c27b0:decide (0<x3_2)=true:=decide_eq_true c27
             clear c27
             obtain ⟨ji28,hji28⟩:∃ j_:Int,(wrap64 (x3_2-1))=j_:=⟨_,rfl⟩
             replace H:(if 0≤(ji28) then (if (ji28)<(l0_1.length:Int) then ((spec_l03Less.f ((rd_T91 l0_1 (ji28)).f0.f0) ((rd_T91 l0_1 (ji28)).f0.f1) ((rd_T91 l0_1 x3_2).f0.f0) ((rd_T91 l0_1 x3_2).f0.f1)).bind fun t131=>(if t131=true then (spec_SetRight.l0 k2 (wrap64 (x3_2+1)) l0_0 l0_1) else (some false))) else (none)) else (none))=some r:=by first | (rw [hji28] at H;exact H) | (simp only [hji28] at H ⊢;exact H)
             (try rw [hji28] at A14)
             have hji28w:(IntKind.i64.wrap (x3_2-1))=ji28:=(i64_w _).trans hji28
             by_cases c29:0≤(ji28)
             ·rw [if_pos c29] at H
              have c29b0:decide (0≤(ji28))=true:=decide_eq_true c29
              clear c29
              by_cases c30:(ji28)<(l0_1.length:Int)
              ·rw [if_pos c30] at H
               have c30b0:decide ((ji28)<(l0_1.length:Int))=true:=decide_eq_true c30
               clear c30
               replace H:=Option.bind_eq_some_iff.mp H
               obtain ⟨t131,A310,H⟩:=H
               replace H:(if t131=true then (spec_SetRight.l0 k2 (wrap64 (x3_2+1)) l0_0 l0_1) else (some false))=some r:=H
               have A31:=Aside0.mk A310
               clear A310
               by_cases c32:t131=true
               ·subst c32
                have H1:(spec_SetRight.l0 k2 (wrap64 (x3_2+1)) l0_0 l0_1)=some r:=by rw [if_pos rfl] at H;exact H
                clear H
                have H:=H1
                clear H1
                have H':=Aside0.mk H
                clear H
                have ⟨hcz33_0,hcz33_1,hfz33_0,hfz33_1⟩:=cz2_ BK125.out
                have p127:0≤(x3_2:Int):=of_decide_eq_true (z1_)
                have q127:x3_2<(l0_1.length:Int):=of_decide_eq_true (z1_)
                obtain ⟨ad127,e127,hx127_0,hx127_1,hx127_2,hx127_3⟩:=at_T91 HR0_1.out x3_2 p127 q127
                (try rw [← Nbq24.out] at hx127_2)
                cases e127
                replace hx127_0:=(HB.out.cell (World.block_lt_of_cell? w _ hx127_0)).trans hx127_0
                replace hx127_1:=(HB.out.cell (World.block_lt_of_cell? w _ hx127_1)).trans hx127_1
                replace hx127_2:=(HB.out.cell (World.block_lt_of_cell? w _ hx127_2)).trans hx127_2
                replace hx127_3:=(HB.out.cell (World.block_lt_of_cell? w _ hx127_3)).trans hx127_3
                replace p127:=eq_true p127
                replace q127:=eq_true q127
                try go_wp2_with (first | ((with_reducible refine gd_ 4 ?_);(try (refine gate_guard (by rfl) ?_;dsimp only));refine be_ 4 #[.int .i64 0,.int .i64 0,.bool false,.string (⟨#[]⟩:ByteArray)] 91 ?_;intro gb128 hg w34 hbox hb;refine as7_ (blkB_ BK125.out hb) (below_step (z4_ HB.out GE125.out) hb) (hbox) ((z11_ HB.out GE125.out:w.heap.size≤gb128)) ((z11_ HB.out GE125.out:w.heap.size≤gb128)) (neL_ BK125.out hg) (neG_ BK125.out hg) ?_;clear BK125 HB;intro BK125 HB BK128 GW128 GE128 NB125_128 NB128_125;clear hb hbox hg;have hnb35:=NB128_125.out;have hnc35:=NB125_128.out;have ⟨hcz36_0,hcz36_1,hcz36_2,hcz36_3,hfz36_0,hfz36_1,hfz36_2,hfz36_3⟩:=cz4_ BK128.out))
                have n0_:Aside0 (((((w34.setCell ⟨gb128,0,none⟩ (.int .i64 ((rd_T91 l0_1 x3_2).f0.f0))).setCell ⟨gb128,1,none⟩ (.int .i64 ((rd_T91 l0_1 x3_2).f0.f1))).setCell ⟨gb128,2,none⟩ (.bool true)).setCell ⟨gb128,3,none⟩ (.string ((rd_T91 l0_1 x3_2).f2))).heap[gb125]? = some (.cells #[.slice A0_0 l0_0.length c0_0,.slice (some ad127) l0_1.length c0_1] 40 (0,0))):=⟨z26_ NB125_128.out BK125.out⟩
                have n1_:Aside0 (((((w34.setCell ⟨gb128,0,none⟩ (.int .i64 ((rd_T91 l0_1 x3_2).f0.f0))).setCell ⟨gb128,1,none⟩ (.int .i64 ((rd_T91 l0_1 x3_2).f0.f1))).setCell ⟨gb128,2,none⟩ (.bool true)).setCell ⟨gb128,3,none⟩ (.string ((rd_T91 l0_1 x3_2).f2))).heap[gb128]? = some (.cells #[.int .i64 ((rd_T91 l0_1 x3_2).f0.f0),.int .i64 ((rd_T91 l0_1 x3_2).f0.f1),.bool true,.string ((rd_T91 l0_1 x3_2).f2)] 91 (0,0))):=⟨z27_ BK128.out⟩
                have n2_:Aside0 (Below w.heap.size w ((((w34.setCell ⟨gb128,0,none⟩ (.int .i64 ((rd_T91 l0_1 x3_2).f0.f0))).setCell ⟨gb128,1,none⟩ (.int .i64 ((rd_T91 l0_1 x3_2).f0.f1))).setCell ⟨gb128,2,none⟩ (.bool true)).setCell ⟨gb128,3,none⟩ (.string ((rd_T91 l0_1 x3_2).f2)))):=⟨z6_ HB.out GE125.out GE128.out⟩
                (try clear BK125)
                (try clear BK128)
                (try clear HB)
                generalize ((((w34.setCell ⟨gb128,0,none⟩ (.int .i64 ((rd_T91 l0_1 x3_2).f0.f0))).setCell ⟨gb128,1,none⟩ (.int .i64 ((rd_T91 l0_1 x3_2).f0.f1))).setCell ⟨gb128,2,none⟩ (.bool true)).setCell ⟨gb128,3,none⟩ (.string ((rd_T91 l0_1 x3_2).f2)))=w37 at n0_ n1_ n2_ ⊢
                have BK125:=n0_
                have BK128:=n1_
                have HB:=n2_
                clear n0_ n1_ n2_
                refine as3_ (blk_drew BK125.out) (blk_drew BK128.out) (below_drew1 HB.out) ?_
                clear BK125 BK128 HB
                intro BK125 BK128 HB
                have p130:0≤((ji28):Int):=of_decide_eq_true (z1_)
                have q130:(ji28)<(l0_1.length:Int):=of_decide_eq_true (z1_)
                obtain ⟨ad130,e130,hx130_0,hx130_1,hx130_2,hx130_3⟩:=at_T91 HR0_1.out (ji28) p130 q130
                have hw130_3:=hx130_3
                have hw130_2:=hx130_2
                have hw130_1:=hx130_1
                have hw130_0:=hx130_0
                (try rw [← Nbq24.out] at hx130_2)
                obtain rfl:ad127=ad130:=(by injection e130)
                replace hx130_0:=(HB.out.cell (World.block_lt_of_cell? w _ hx130_0)).trans hx130_0
                replace hx130_1:=(HB.out.cell (World.block_lt_of_cell? w _ hx130_1)).trans hx130_1
                replace hx130_2:=(HB.out.cell (World.block_lt_of_cell? w _ hx130_2)).trans hx130_2
                replace hx130_3:=(HB.out.cell (World.block_lt_of_cell? w _ hx130_3)).trans hx130_3
                replace p130:=eq_true p130
                replace q130:=eq_true q130
                refine start_ (n:=38) (S:=fun w'=>w'.cell? ⟨gb125,0,none⟩=some (.slice A0_0 l0_0.length c0_0)∧w'.cell? ⟨gb125,1,none⟩=some (.slice (some ad127) l0_1.length c0_1)∧w'.cell? ⟨gb128,0,none⟩=some (.int .i64 ((rd_T91 l0_1 x3_2).f0.f0))∧w'.cell? ⟨gb128,1,none⟩=some (.int .i64 ((rd_T91 l0_1 x3_2).f0.f1))∧w'.cell? ⟨gb128,2,none⟩=some (.bool true)∧w'.cell? ⟨gb128,3,none⟩=some (.string ((rd_T91 l0_1 x3_2).f2))∧w'.cell? (ad127.add (((ji28)).toNat*4))=some (.int .i64 ((rd_T91 l0_1 (ji28)).f0.f0))∧w'.cell? ⟨(ad127.add (((ji28)).toNat*4)).block,(ad127.add (((ji28)).toNat*4)).off+1,none⟩=some (.int .i64 ((rd_T91 l0_1 (ji28)).f0.f1))∧w'.cell? ⟨(ad127.add (((ji28)).toNat*4)).block,(ad127.add (((ji28)).toNat*4)).off+2,none⟩=some (.bool ((rd_T91 l0_1 (ji28)).f1))∧w'.cell? ⟨(ad127.add (((ji28)).toNat*4)).block,(ad127.add (((ji28)).toNat*4)).off+3,none⟩=some (.string ((rd_T91 l0_1 (ji28)).f2))) (ds:=[]) spec_SetRight.q0 (by kernel_rfl) rfl rfl (cj2_ BK125.out (cj4_ BK128.out ⟨((HB.out.cell (World.block_lt_of_cell? w _ hw130_0)).trans hw130_0),⟨((HB.out.cell (World.block_lt_of_cell? w _ hw130_1)).trans hw130_1),⟨((HB.out.cell (World.block_lt_of_cell? w _ hw130_2)).trans hw130_2),((HB.out.cell (World.block_lt_of_cell? w _ hw130_3)).trans hw130_3)⟩⟩⟩)) (fun hHeld=>?_);refine with_tabW spec_SetRight.tab7 spec_SetRight.bits7 (fun HT_ HW_=>?_)
                generalize w37.drew=w38 at BK125 BK128 HB hx130_0 hx130_1 hx130_2 hx130_3 hHeld ⊢
                refine pu_ 0 27 spec_SetRight.q1 HT_.out ?_
                refine pu_ 2 29 spec_SetRight.q2 HT_.out ?_
                refine tk10_ 1 28 spec_SetRight.q3 HT_.out HW_.out hHeld ?_
                refine tk10_ 3 30 spec_SetRight.q4 HT_.out HW_.out hHeld ?_
                refine o1_ 4 31 spec_SetRight.q5 HT_.out (fun K hK=>?_)
                refine gs_ Try.func72 #[.slice A0_0 l0_0.length c0_0,.agg #[.int .i64 ((rd_T91 l0_1 x3_2).f0.f0),.int .i64 ((rd_T91 l0_1 x3_2).f0.f1)]] ?_
                with_reducible refine (spec_SeenHas.calls k2 _ _ l0_0 ((rd_T91 l0_1 x3_2).f0.f0) ((rd_T91 l0_1 x3_2).f0.f1) true _ ?s1 ?s2 A14.out).mono ?_
                (case s1=>repeat (first | exact (Kd.C_below HR0_0.out HB.out) | (with_reducible refine Kd.C_alloc ?_ _) | (with_reducible refine Kd.C_drewN ?_ _) | (with_reducible refine Kd.C_drew ?_)))
                (case s2=>exact HC0_0.out)
                rintro e w39 ⟨rfl,hb⟩
                refine ⟨_,rfl,?_⟩
                refine as3_ (blkB_ BK125.out hb) (blkB_ BK128.out hb) (below_step (z6_ HB.out GE125.out GE128.out) hb) ?_
                clear BK125 BK128 HB
                intro BK125 BK128 HB
                (try clear hb)
                refine hK.out _ _ (cj2_ BK125.out (cj4_ BK128.out ⟨((HB.out.cell (World.block_lt_of_cell? w _ hw130_0)).trans hw130_0),⟨((HB.out.cell (World.block_lt_of_cell? w _ hw130_1)).trans hw130_1),⟨((HB.out.cell (World.block_lt_of_cell? w _ hw130_2)).trans hw130_2),((HB.out.cell (World.block_lt_of_cell? w _ hw130_3)).trans hw130_3)⟩⟩⟩)) (fun hHeld=>?_)
                clear hK K
                refine nm_ 31 ?_
                refine pu_ 5 32 spec_SetRight.q6 HT_.out ?_
                refine pu_ 6 33 spec_SetRight.q7 HT_.out ?_
                refine pu_ 7 34 spec_SetRight.q8 HT_.out ?_
                refine tk10_ 8 35 spec_SetRight.q9 HT_.out HW_.out hHeld ?_
                refine pu_ 9 36 spec_SetRight.q10 HT_.out ?_
                refine pu_ 10 37 spec_SetRight.q11 HT_.out ?_
                refine pu_ 11 38 spec_SetRight.q12 HT_.out ?_
                refine pu_ 12 39 spec_SetRight.q13 HT_.out ?_
                refine pu_ 13 40 spec_SetRight.q14 HT_.out ?_
                refine tk10_ 14 41 spec_SetRight.q15 HT_.out HW_.out hHeld ?_
                refine pu_ 15 42 spec_SetRight.q16 HT_.out ?_
                refine pu_ 16 43 spec_SetRight.q17 HT_.out ?_
                refine tk10_ 17 44 spec_SetRight.q18 HT_.out HW_.out hHeld ?_
                refine pu_ 18 45 spec_SetRight.q19 HT_.out ?_
                refine pu_ 19 46 spec_SetRight.q20 HT_.out ?_
                refine pu_ 20 47 spec_SetRight.q21 HT_.out ?_
                refine pu_ 21 48 spec_SetRight.q22 HT_.out ?_
                refine pu_ 22 49 spec_SetRight.q23 HT_.out ?_
                refine pu_ 23 50 spec_SetRight.q24 HT_.out ?_
                refine pu_ 24 51 spec_SetRight.q25 HT_.out ?_
                refine pu_ 25 52 spec_SetRight.q26 HT_.out ?_
                refine pu_ 27 54 spec_SetRight.q39 HT_.out ?_
                refine pu_ 28 55 spec_SetRight.q40 HT_.out ?_
                refine pu_ 32 59 spec_SetRight.q41 HT_.out ?_
                refine tk10_ 26 53 spec_SetRight.q42 HT_.out HW_.out hHeld ?_
                refine pu_ 29 56 spec_SetRight.q43 HT_.out ?_
                refine pu_ 30 57 spec_SetRight.q44 HT_.out ?_
                refine tk10_ 31 58 spec_SetRight.q33 HT_.out HW_.out hHeld ?_
                refine tk10_ 33 60 spec_SetRight.q34 HT_.out HW_.out hHeld ?_
                refine o1_ 34 61 spec_SetRight.q35 HT_.out (fun K hK=>?_)
                refine goes_ Try.func82 (by kernel_rfl) rfl #[.agg #[.int .i64 ((rd_T91 l0_1 (ji28)).f0.f0),.int .i64 ((rd_T91 l0_1 (ji28)).f0.f1)],.agg #[.int .i64 ((rd_T91 l0_1 x3_2).f0.f0),.int .i64 ((rd_T91 l0_1 x3_2).f0.f1)]] (by rfl) rfl rfl (by (try simp only [List.map_toArray,List.map_cons,List.map_nil]);first | done | (simp only [hji28];rfl) | rfl | (simp only [List.length_drop,List.length_take];rfl)) ?_
                with_reducible refine (spec_l03Less.calls ((rd_T91 l0_1 (ji28)).f0.f0) ((rd_T91 l0_1 (ji28)).f0.f1) ((rd_T91 l0_1 x3_2).f0.f0) ((rd_T91 l0_1 x3_2).f0.f1) true _ A31.out).mono ?_
                rintro e w40 ⟨rfl,hb⟩
                refine ⟨_,rfl,?_⟩
                refine as3_ (blkB_ BK125.out hb) (blkB_ BK128.out hb) (below_step (z6_ HB.out GE125.out GE128.out) hb) ?_
                clear BK125 BK128 HB
                intro BK125 BK128 HB
                (try clear hb)
                refine hK.out _ _ (cj2_ BK125.out (cj4_ BK128.out ⟨((HB.out.cell (World.block_lt_of_cell? w _ hw130_0)).trans hw130_0),⟨((HB.out.cell (World.block_lt_of_cell? w _ hw130_1)).trans hw130_1),⟨((HB.out.cell (World.block_lt_of_cell? w _ hw130_2)).trans hw130_2),((HB.out.cell (World.block_lt_of_cell? w _ hw130_3)).trans hw130_3)⟩⟩⟩)) (fun hHeld=>?_)
                clear hK K
                refine nm_ 61 ?_
                refine pu_ 35 62 spec_SetRight.q36 HT_.out ?_
                refine pu_ 36 63 spec_SetRight.q37 HT_.out ?_
                refine pu_ 37 64 spec_SetRight.q38 HT_.out ?_
                refine done_ (done_of HT_.out (by kernel_rfl)) ?_
                try go_wp2
                go_roundg k2
                case measure=>have:=HJ1.out;have:=HK2.out;omega
                case rel=>exact ⟨(wrap64 (x3_2+1)),(z2_),H',⟨z22_ HJ1.out HK2.out⟩,⟨z3_ BK125.out⟩,⟨z6_ HB.out GE125.out GE128.out⟩⟩
               ·replace c32:=Bool.eq_false_iff.mpr c32
                subst c32
                have H1:(some false)=some r:=by rw [if_neg (show ¬ (false=true) by decide)] at H;exact H
                clear H
                have H:=H1
                clear H1
                obtain rfl:=Option.some.inj H
                have ⟨hcz41_0,hcz41_1,hfz41_0,hfz41_1⟩:=cz2_ BK125.out
                have p127:0≤(x3_2:Int):=of_decide_eq_true (z1_)
                have q127:x3_2<(l0_1.length:Int):=of_decide_eq_true (z1_)
                obtain ⟨ad127,e127,hx127_0,hx127_1,hx127_2,hx127_3⟩:=at_T91 HR0_1.out x3_2 p127 q127
                (try rw [← Nbq24.out] at hx127_2)
                cases e127
                replace hx127_0:=(HB.out.cell (World.block_lt_of_cell? w _ hx127_0)).trans hx127_0
                replace hx127_1:=(HB.out.cell (World.block_lt_of_cell? w _ hx127_1)).trans hx127_1
                replace hx127_2:=(HB.out.cell (World.block_lt_of_cell? w _ hx127_2)).trans hx127_2
                replace hx127_3:=(HB.out.cell (World.block_lt_of_cell? w _ hx127_3)).trans hx127_3
                replace p127:=eq_true p127
                replace q127:=eq_true q127
                try go_wp2_with (first | ((with_reducible refine gd_ 4 ?_);(try (refine gate_guard (by rfl) ?_;dsimp only));refine be_ 4 #[.int .i64 0,.int .i64 0,.bool false,.string (⟨#[]⟩:ByteArray)] 91 ?_;intro gb128 hg w42 hbox hb;refine as7_ (blkB_ BK125.out hb) (below_step (z4_ HB.out GE125.out) hb) (hbox) ((z11_ HB.out GE125.out:w.heap.size≤gb128)) ((z11_ HB.out GE125.out:w.heap.size≤gb128)) (neL_ BK125.out hg) (neG_ BK125.out hg) ?_;clear BK125 HB;intro BK125 HB BK128 GW128 GE128 NB125_128 NB128_125;clear hb hbox hg;have hnb43:=NB128_125.out;have hnc43:=NB125_128.out;have ⟨hcz44_0,hcz44_1,hcz44_2,hcz44_3,hfz44_0,hfz44_1,hfz44_2,hfz44_3⟩:=cz4_ BK128.out))
                have n0_:Aside0 (((((w42.setCell ⟨gb128,0,none⟩ (.int .i64 ((rd_T91 l0_1 x3_2).f0.f0))).setCell ⟨gb128,1,none⟩ (.int .i64 ((rd_T91 l0_1 x3_2).f0.f1))).setCell ⟨gb128,2,none⟩ (.bool true)).setCell ⟨gb128,3,none⟩ (.string ((rd_T91 l0_1 x3_2).f2))).heap[gb125]? = some (.cells #[.slice A0_0 l0_0.length c0_0,.slice (some ad127) l0_1.length c0_1] 40 (0,0))):=⟨z26_ NB125_128.out BK125.out⟩
                have n1_:Aside0 (((((w42.setCell ⟨gb128,0,none⟩ (.int .i64 ((rd_T91 l0_1 x3_2).f0.f0))).setCell ⟨gb128,1,none⟩ (.int .i64 ((rd_T91 l0_1 x3_2).f0.f1))).setCell ⟨gb128,2,none⟩ (.bool true)).setCell ⟨gb128,3,none⟩ (.string ((rd_T91 l0_1 x3_2).f2))).heap[gb128]? = some (.cells #[.int .i64 ((rd_T91 l0_1 x3_2).f0.f0),.int .i64 ((rd_T91 l0_1 x3_2).f0.f1),.bool true,.string ((rd_T91 l0_1 x3_2).f2)] 91 (0,0))):=⟨z27_ BK128.out⟩
                have n2_:Aside0 (Below w.heap.size w ((((w42.setCell ⟨gb128,0,none⟩ (.int .i64 ((rd_T91 l0_1 x3_2).f0.f0))).setCell ⟨gb128,1,none⟩ (.int .i64 ((rd_T91 l0_1 x3_2).f0.f1))).setCell ⟨gb128,2,none⟩ (.bool true)).setCell ⟨gb128,3,none⟩ (.string ((rd_T91 l0_1 x3_2).f2)))):=⟨z6_ HB.out GE125.out GE128.out⟩
                (try clear BK125)
                (try clear BK128)
                (try clear HB)
                generalize ((((w42.setCell ⟨gb128,0,none⟩ (.int .i64 ((rd_T91 l0_1 x3_2).f0.f0))).setCell ⟨gb128,1,none⟩ (.int .i64 ((rd_T91 l0_1 x3_2).f0.f1))).setCell ⟨gb128,2,none⟩ (.bool true)).setCell ⟨gb128,3,none⟩ (.string ((rd_T91 l0_1 x3_2).f2)))=w45 at n0_ n1_ n2_ ⊢
                have BK125:=n0_
                have BK128:=n1_
                have HB:=n2_
                clear n0_ n1_ n2_
                refine as3_ (blk_drew BK125.out) (blk_drew BK128.out) (below_drew1 HB.out) ?_
                clear BK125 BK128 HB
                intro BK125 BK128 HB
                have p130:0≤((ji28):Int):=of_decide_eq_true (z1_)
                have q130:(ji28)<(l0_1.length:Int):=of_decide_eq_true (z1_)
                obtain ⟨ad130,e130,hx130_0,hx130_1,hx130_2,hx130_3⟩:=at_T91 HR0_1.out (ji28) p130 q130
                have hw130_3:=hx130_3
                have hw130_2:=hx130_2
                have hw130_1:=hx130_1
                have hw130_0:=hx130_0
                (try rw [← Nbq24.out] at hx130_2)
                obtain rfl:ad127=ad130:=(by injection e130)
                replace hx130_0:=(HB.out.cell (World.block_lt_of_cell? w _ hx130_0)).trans hx130_0
                replace hx130_1:=(HB.out.cell (World.block_lt_of_cell? w _ hx130_1)).trans hx130_1
                replace hx130_2:=(HB.out.cell (World.block_lt_of_cell? w _ hx130_2)).trans hx130_2
                replace hx130_3:=(HB.out.cell (World.block_lt_of_cell? w _ hx130_3)).trans hx130_3
                replace p130:=eq_true p130
                replace q130:=eq_true q130
                refine start_ (n:=38) (S:=fun w'=>w'.cell? ⟨gb125,0,none⟩=some (.slice A0_0 l0_0.length c0_0)∧w'.cell? ⟨gb125,1,none⟩=some (.slice (some ad127) l0_1.length c0_1)∧w'.cell? ⟨gb128,0,none⟩=some (.int .i64 ((rd_T91 l0_1 x3_2).f0.f0))∧w'.cell? ⟨gb128,1,none⟩=some (.int .i64 ((rd_T91 l0_1 x3_2).f0.f1))∧w'.cell? ⟨gb128,2,none⟩=some (.bool true)∧w'.cell? ⟨gb128,3,none⟩=some (.string ((rd_T91 l0_1 x3_2).f2))∧w'.cell? (ad127.add (((ji28)).toNat*4))=some (.int .i64 ((rd_T91 l0_1 (ji28)).f0.f0))∧w'.cell? ⟨(ad127.add (((ji28)).toNat*4)).block,(ad127.add (((ji28)).toNat*4)).off+1,none⟩=some (.int .i64 ((rd_T91 l0_1 (ji28)).f0.f1))∧w'.cell? ⟨(ad127.add (((ji28)).toNat*4)).block,(ad127.add (((ji28)).toNat*4)).off+2,none⟩=some (.bool ((rd_T91 l0_1 (ji28)).f1))∧w'.cell? ⟨(ad127.add (((ji28)).toNat*4)).block,(ad127.add (((ji28)).toNat*4)).off+3,none⟩=some (.string ((rd_T91 l0_1 (ji28)).f2))) (ds:=[]) spec_SetRight.q0 (by kernel_rfl) rfl rfl (cj2_ BK125.out (cj4_ BK128.out ⟨((HB.out.cell (World.block_lt_of_cell? w _ hw130_0)).trans hw130_0),⟨((HB.out.cell (World.block_lt_of_cell? w _ hw130_1)).trans hw130_1),⟨((HB.out.cell (World.block_lt_of_cell? w _ hw130_2)).trans hw130_2),((HB.out.cell (World.block_lt_of_cell? w _ hw130_3)).trans hw130_3)⟩⟩⟩)) (fun hHeld=>?_);refine with_tabW spec_SetRight.tab7 spec_SetRight.bits7 (fun HT_ HW_=>?_)
                generalize w45.drew=w46 at BK125 BK128 HB hx130_0 hx130_1 hx130_2 hx130_3 hHeld ⊢
                refine pu_ 0 27 spec_SetRight.q1 HT_.out ?_
                refine pu_ 2 29 spec_SetRight.q2 HT_.out ?_
                refine tk10_ 1 28 spec_SetRight.q3 HT_.out HW_.out hHeld ?_
                refine tk10_ 3 30 spec_SetRight.q4 HT_.out HW_.out hHeld ?_
                refine o1_ 4 31 spec_SetRight.q5 HT_.out (fun K hK=>?_)
                refine gs_ Try.func72 #[.slice A0_0 l0_0.length c0_0,.agg #[.int .i64 ((rd_T91 l0_1 x3_2).f0.f0),.int .i64 ((rd_T91 l0_1 x3_2).f0.f1)]] ?_
                with_reducible refine (spec_SeenHas.calls k2 _ _ l0_0 ((rd_T91 l0_1 x3_2).f0.f0) ((rd_T91 l0_1 x3_2).f0.f1) true _ ?s1 ?s2 A14.out).mono ?_
                (case s1=>repeat (first | exact (Kd.C_below HR0_0.out HB.out) | (with_reducible refine Kd.C_alloc ?_ _) | (with_reducible refine Kd.C_drewN ?_ _) | (with_reducible refine Kd.C_drew ?_)))
                (case s2=>exact HC0_0.out)
                rintro e w47 ⟨rfl,hb⟩
                refine ⟨_,rfl,?_⟩
                refine as3_ (blkB_ BK125.out hb) (blkB_ BK128.out hb) (below_step (z6_ HB.out GE125.out GE128.out) hb) ?_
                clear BK125 BK128 HB
                intro BK125 BK128 HB
                (try clear hb)
                refine hK.out _ _ (cj2_ BK125.out (cj4_ BK128.out ⟨((HB.out.cell (World.block_lt_of_cell? w _ hw130_0)).trans hw130_0),⟨((HB.out.cell (World.block_lt_of_cell? w _ hw130_1)).trans hw130_1),⟨((HB.out.cell (World.block_lt_of_cell? w _ hw130_2)).trans hw130_2),((HB.out.cell (World.block_lt_of_cell? w _ hw130_3)).trans hw130_3)⟩⟩⟩)) (fun hHeld=>?_)
                clear hK K
                refine nm_ 31 ?_
                refine pu_ 5 32 spec_SetRight.q6 HT_.out ?_
                refine pu_ 6 33 spec_SetRight.q7 HT_.out ?_
                refine pu_ 7 34 spec_SetRight.q8 HT_.out ?_
                refine tk10_ 8 35 spec_SetRight.q9 HT_.out HW_.out hHeld ?_
                refine pu_ 9 36 spec_SetRight.q10 HT_.out ?_
                refine pu_ 10 37 spec_SetRight.q11 HT_.out ?_
                refine pu_ 11 38 spec_SetRight.q12 HT_.out ?_
                refine pu_ 12 39 spec_SetRight.q13 HT_.out ?_
                refine pu_ 13 40 spec_SetRight.q14 HT_.out ?_
                refine tk10_ 14 41 spec_SetRight.q15 HT_.out HW_.out hHeld ?_
                refine pu_ 15 42 spec_SetRight.q16 HT_.out ?_
                refine pu_ 16 43 spec_SetRight.q17 HT_.out ?_
                refine tk10_ 17 44 spec_SetRight.q18 HT_.out HW_.out hHeld ?_
                refine pu_ 18 45 spec_SetRight.q19 HT_.out ?_
                refine pu_ 19 46 spec_SetRight.q20 HT_.out ?_
                refine pu_ 20 47 spec_SetRight.q21 HT_.out ?_
                refine pu_ 21 48 spec_SetRight.q22 HT_.out ?_
                refine pu_ 22 49 spec_SetRight.q23 HT_.out ?_
                refine pu_ 23 50 spec_SetRight.q24 HT_.out ?_
                refine pu_ 24 51 spec_SetRight.q25 HT_.out ?_
                refine pu_ 25 52 spec_SetRight.q26 HT_.out ?_
                refine pu_ 27 54 spec_SetRight.q39 HT_.out ?_
                refine pu_ 28 55 spec_SetRight.q40 HT_.out ?_
                refine pu_ 32 59 spec_SetRight.q41 HT_.out ?_
                refine tk10_ 26 53 spec_SetRight.q42 HT_.out HW_.out hHeld ?_
                refine pu_ 29 56 spec_SetRight.q43 HT_.out ?_
                refine pu_ 30 57 spec_SetRight.q44 HT_.out ?_
                refine tk10_ 31 58 spec_SetRight.q33 HT_.out HW_.out hHeld ?_
                refine tk10_ 33 60 spec_SetRight.q34 HT_.out HW_.out hHeld ?_
                refine o1_ 34 61 spec_SetRight.q35 HT_.out (fun K hK=>?_)
                refine goes_ Try.func82 (by kernel_rfl) rfl #[.agg #[.int .i64 ((rd_T91 l0_1 (ji28)).f0.f0),.int .i64 ((rd_T91 l0_1 (ji28)).f0.f1)],.agg #[.int .i64 ((rd_T91 l0_1 x3_2).f0.f0),.int .i64 ((rd_T91 l0_1 x3_2).f0.f1)]] (by rfl) rfl rfl (by (try simp only [List.map_toArray,List.map_cons,List.map_nil]);first | done | (simp only [hji28];rfl) | rfl | (simp only [List.length_drop,List.length_take];rfl)) ?_
                with_reducible refine (spec_l03Less.calls ((rd_T91 l0_1 (ji28)).f0.f0) ((rd_T91 l0_1 (ji28)).f0.f1) ((rd_T91 l0_1 x3_2).f0.f0) ((rd_T91 l0_1 x3_2).f0.f1) false _ A31.out).mono ?_
                rintro e w48 ⟨rfl,hb⟩
                refine ⟨_,rfl,?_⟩
                refine as3_ (blkB_ BK125.out hb) (blkB_ BK128.out hb) (below_step (z6_ HB.out GE125.out GE128.out) hb) ?_
                clear BK125 BK128 HB
                intro BK125 BK128 HB
                (try clear hb)
                refine hK.out _ _ (cj2_ BK125.out (cj4_ BK128.out ⟨((HB.out.cell (World.block_lt_of_cell? w _ hw130_0)).trans hw130_0),⟨((HB.out.cell (World.block_lt_of_cell? w _ hw130_1)).trans hw130_1),⟨((HB.out.cell (World.block_lt_of_cell? w _ hw130_2)).trans hw130_2),((HB.out.cell (World.block_lt_of_cell? w _ hw130_3)).trans hw130_3)⟩⟩⟩)) (fun hHeld=>?_)
                clear hK K
                refine nm_ 61 ?_
                refine pu_ 35 62 spec_SetRight.q36 HT_.out ?_
                refine pu_ 36 63 spec_SetRight.q37 HT_.out ?_
                refine pu_ 37 64 spec_SetRight.q38 HT_.out ?_
                refine done_ (done_of HT_.out (by kernel_rfl)) ?_
                try go_wp2
                go_ret
                exact ⟨by first | rfl | (simp [errW_none,errW_some] <;> rfl) | (simp only [← hji28];first | rfl | (simp [errW_none,errW_some] <;> rfl)) | (simp [*,errW_none,errW_some] <;> rfl),z6_ HB.out GE125.out GE128.out⟩
              ·rw [if_neg c30] at H
               exact absurd H (by simp)
             ·rw [if_neg c29] at H
              exact absurd H (by simp)
            ·rw [if_neg c27] at H
             have c27b0:decide (0<x3_2)=false:=decide_eq_false c27
             clear c27
             have H':=Aside0.mk H
             clear H
             have ⟨hcz49_0,hcz49_1,hfz49_0,hfz49_1⟩:=cz2_ BK125.out
             have p127:0≤(x3_2:Int):=of_decide_eq_true (z1_)
             have q127:x3_2<(l0_1.length:Int):=of_decide_eq_true (z1_)
             obtain ⟨ad127,e127,hx127_0,hx127_1,hx127_2,hx127_3⟩:=at_T91 HR0_1.out x3_2 p127 q127
             (try rw [← Nbq24.out] at hx127_2)
             cases e127
             replace hx127_0:=(HB.out.cell (World.block_lt_of_cell? w _ hx127_0)).trans hx127_0
             replace hx127_1:=(HB.out.cell (World.block_lt_of_cell? w _ hx127_1)).trans hx127_1
             replace hx127_2:=(HB.out.cell (World.block_lt_of_cell? w _ hx127_2)).trans hx127_2
             replace hx127_3:=(HB.out.cell (World.block_lt_of_cell? w _ hx127_3)).trans hx127_3
             replace p127:=eq_true p127
             replace q127:=eq_true q127
             try go_wp2_with (first | ((with_reducible refine gd_ 4 ?_);(try (refine gate_guard (by rfl) ?_;dsimp only));refine be_ 4 #[.int .i64 0,.int .i64 0,.bool false,.string (⟨#[]⟩:ByteArray)] 91 ?_;intro gb128 hg w50 hbox hb;refine as7_ (blkB_ BK125.out hb) (below_step (z4_ HB.out GE125.out) hb) (hbox) ((z11_ HB.out GE125.out:w.heap.size≤gb128)) ((z11_ HB.out GE125.out:w.heap.size≤gb128)) (neL_ BK125.out hg) (neG_ BK125.out hg) ?_;clear BK125 HB;intro BK125 HB BK128 GW128 GE128 NB125_128 NB128_125;clear hb hbox hg;have hnb51:=NB128_125.out;have hnc51:=NB125_128.out;have ⟨hcz52_0,hcz52_1,hcz52_2,hcz52_3,hfz52_0,hfz52_1,hfz52_2,hfz52_3⟩:=cz4_ BK128.out))
             have n0_:Aside0 (((((w50.setCell ⟨gb128,0,none⟩ (.int .i64 ((rd_T91 l0_1 x3_2).f0.f0))).setCell ⟨gb128,1,none⟩ (.int .i64 ((rd_T91 l0_1 x3_2).f0.f1))).setCell ⟨gb128,2,none⟩ (.bool true)).setCell ⟨gb128,3,none⟩ (.string ((rd_T91 l0_1 x3_2).f2))).heap[gb125]? = some (.cells #[.slice A0_0 l0_0.length c0_0,.slice (some ad127) l0_1.length c0_1] 40 (0,0))):=⟨z26_ NB125_128.out BK125.out⟩
             have n1_:Aside0 (((((w50.setCell ⟨gb128,0,none⟩ (.int .i64 ((rd_T91 l0_1 x3_2).f0.f0))).setCell ⟨gb128,1,none⟩ (.int .i64 ((rd_T91 l0_1 x3_2).f0.f1))).setCell ⟨gb128,2,none⟩ (.bool true)).setCell ⟨gb128,3,none⟩ (.string ((rd_T91 l0_1 x3_2).f2))).heap[gb128]? = some (.cells #[.int .i64 ((rd_T91 l0_1 x3_2).f0.f0),.int .i64 ((rd_T91 l0_1 x3_2).f0.f1),.bool true,.string ((rd_T91 l0_1 x3_2).f2)] 91 (0,0))):=⟨z27_ BK128.out⟩
             have n2_:Aside0 (Below w.heap.size w ((((w50.setCell ⟨gb128,0,none⟩ (.int .i64 ((rd_T91 l0_1 x3_2).f0.f0))).setCell ⟨gb128,1,none⟩ (.int .i64 ((rd_T91 l0_1 x3_2).f0.f1))).setCell ⟨gb128,2,none⟩ (.bool true)).setCell ⟨gb128,3,none⟩ (.string ((rd_T91 l0_1 x3_2).f2)))):=⟨z6_ HB.out GE125.out GE128.out⟩
             (try clear BK125)
             (try clear BK128)
             (try clear HB)
             generalize ((((w50.setCell ⟨gb128,0,none⟩ (.int .i64 ((rd_T91 l0_1 x3_2).f0.f0))).setCell ⟨gb128,1,none⟩ (.int .i64 ((rd_T91 l0_1 x3_2).f0.f1))).setCell ⟨gb128,2,none⟩ (.bool true)).setCell ⟨gb128,3,none⟩ (.string ((rd_T91 l0_1 x3_2).f2)))=w53 at n0_ n1_ n2_ ⊢
             have BK125:=n0_
             have BK128:=n1_
             have HB:=n2_
             clear n0_ n1_ n2_
             refine as3_ (blk_drew BK125.out) (blk_drew BK128.out) (below_drew1 HB.out) ?_
             clear BK125 BK128 HB
             intro BK125 BK128 HB
             refine start_ (n:=38) (S:=fun w'=>w'.cell? ⟨gb125,0,none⟩=some (.slice A0_0 l0_0.length c0_0)∧w'.cell? ⟨gb125,1,none⟩=some (.slice (some ad127) l0_1.length c0_1)∧w'.cell? ⟨gb128,0,none⟩=some (.int .i64 ((rd_T91 l0_1 x3_2).f0.f0))∧w'.cell? ⟨gb128,1,none⟩=some (.int .i64 ((rd_T91 l0_1 x3_2).f0.f1))∧w'.cell? ⟨gb128,2,none⟩=some (.bool true)∧w'.cell? ⟨gb128,3,none⟩=some (.string ((rd_T91 l0_1 x3_2).f2))) (ds:=[]) spec_SetRight.q0 (by kernel_rfl) rfl rfl (cj2_ BK125.out (cc4_ BK128.out)) (fun hHeld=>?_);refine with_tabW spec_SetRight.tab7 spec_SetRight.bits7 (fun HT_ HW_=>?_)
             generalize w53.drew=w54 at BK125 BK128 HB hHeld ⊢
             refine pu_ 0 27 spec_SetRight.q1 HT_.out ?_
             refine pu_ 2 29 spec_SetRight.q2 HT_.out ?_
             refine tk6_ 1 28 spec_SetRight.q3 HT_.out HW_.out hHeld ?_
             refine tk6_ 3 30 spec_SetRight.q4 HT_.out HW_.out hHeld ?_
             refine o1_ 4 31 spec_SetRight.q5 HT_.out (fun K hK=>?_)
             refine gs_ Try.func72 #[.slice A0_0 l0_0.length c0_0,.agg #[.int .i64 ((rd_T91 l0_1 x3_2).f0.f0),.int .i64 ((rd_T91 l0_1 x3_2).f0.f1)]] ?_
             with_reducible refine (spec_SeenHas.calls k2 _ _ l0_0 ((rd_T91 l0_1 x3_2).f0.f0) ((rd_T91 l0_1 x3_2).f0.f1) true _ ?s1 ?s2 A14.out).mono ?_
             (case s1=>repeat (first | exact (Kd.C_below HR0_0.out HB.out) | (with_reducible refine Kd.C_alloc ?_ _) | (with_reducible refine Kd.C_drewN ?_ _) | (with_reducible refine Kd.C_drew ?_)))
             (case s2=>exact HC0_0.out)
             rintro e w55 ⟨rfl,hb⟩
             refine ⟨_,rfl,?_⟩
             refine as3_ (blkB_ BK125.out hb) (blkB_ BK128.out hb) (below_step (z6_ HB.out GE125.out GE128.out) hb) ?_
             clear BK125 BK128 HB
             intro BK125 BK128 HB
             (try clear hb)
             refine hK.out _ _ (cj2_ BK125.out (cc4_ BK128.out)) (fun hHeld=>?_)
             clear hK K
             refine nm_ 31 ?_
             refine pu_ 5 32 spec_SetRight.q6 HT_.out ?_
             refine pu_ 6 33 spec_SetRight.q7 HT_.out ?_
             refine pu_ 7 34 spec_SetRight.q8 HT_.out ?_
             refine tk6_ 8 35 spec_SetRight.q9 HT_.out HW_.out hHeld ?_
             refine pu_ 9 36 spec_SetRight.q10 HT_.out ?_
             refine pu_ 10 37 spec_SetRight.q11 HT_.out ?_
             refine pu_ 11 38 spec_SetRight.q12 HT_.out ?_
             refine pu_ 12 39 spec_SetRight.q13 HT_.out ?_
             refine pu_ 13 40 spec_SetRight.q14 HT_.out ?_
             refine tk6_ 14 41 spec_SetRight.q15 HT_.out HW_.out hHeld ?_
             refine pu_ 15 42 spec_SetRight.q16 HT_.out ?_
             refine pu_ 16 43 spec_SetRight.q17 HT_.out ?_
             refine tk6_ 17 44 spec_SetRight.q18 HT_.out HW_.out hHeld ?_
             refine pu_ 18 45 spec_SetRight.q19 HT_.out ?_
             refine pu_ 19 46 spec_SetRight.q20 HT_.out ?_
             refine pu_ 20 47 spec_SetRight.q21 HT_.out ?_
             refine pu_ 21 48 spec_SetRight.q22 HT_.out ?_
             refine pu_ 22 49 spec_SetRight.q23 HT_.out ?_
             refine pu_ 23 50 spec_SetRight.q24 HT_.out ?_
             refine pu_ 24 51 spec_SetRight.q25 HT_.out ?_
             refine pn_ 25 52 spec_SetRight.q26 HT_.out ?_
             refine pn_ 26 53 spec_SetRight.q27 HT_.out ?_
             refine pn_ 27 54 spec_SetRight.q28 HT_.out ?_
             refine pn_ 28 55 spec_SetRight.q29 HT_.out ?_
             refine pn_ 29 56 spec_SetRight.q30 HT_.out ?_
             refine pn_ 30 57 spec_SetRight.q31 HT_.out ?_
             refine pn_ 31 58 spec_SetRight.q32 HT_.out ?_
             refine pn_ 32 59 spec_SetRight.q33 HT_.out ?_
             refine pn_ 33 60 spec_SetRight.q34 HT_.out ?_
             refine pn_ 34 61 spec_SetRight.q35 HT_.out ?_
             refine pn_ 35 62 spec_SetRight.q36 HT_.out ?_
             refine pu_ 36 63 spec_SetRight.q37 HT_.out ?_
             refine pu_ 37 64 spec_SetRight.q38 HT_.out ?_
             refine done_ (done_of HT_.out (by kernel_rfl)) ?_
             try go_wp2
             go_roundg k2
             case measure=>have:=HJ1.out;have:=HK2.out;omega
             case rel=>exact ⟨(wrap64 (x3_2+1)),(z2_),H',⟨z22_ HJ1.out HK2.out⟩,⟨z3_ BK125.out⟩,⟨z6_ HB.out GE125.out GE128.out⟩⟩
           ·rw [if_neg c26] at H
            have c26b0:(((rd_T91 l0_1 x3_2).f2).toList == ([]:List UInt8))=false:=beq_eq_false_iff_ne.mpr c26
            have c26b1:(((rd_T91 l0_1 x3_2).f2).toList != ([]:List UInt8))=true:=bne_iff_ne.mpr c26
            obtain rfl:=Option.some.inj H
            have ⟨hcz56_0,hcz56_1,hfz56_0,hfz56_1⟩:=cz2_ BK125.out
            have p127:0≤(x3_2:Int):=of_decide_eq_true (z1_)
            have q127:x3_2<(l0_1.length:Int):=of_decide_eq_true (z1_)
            obtain ⟨ad127,e127,hx127_0,hx127_1,hx127_2,hx127_3⟩:=at_T91 HR0_1.out x3_2 p127 q127
            (try rw [← Nbq24.out] at hx127_2)
            cases e127
            replace hx127_0:=(HB.out.cell (World.block_lt_of_cell? w _ hx127_0)).trans hx127_0
            replace hx127_1:=(HB.out.cell (World.block_lt_of_cell? w _ hx127_1)).trans hx127_1
            replace hx127_2:=(HB.out.cell (World.block_lt_of_cell? w _ hx127_2)).trans hx127_2
            replace hx127_3:=(HB.out.cell (World.block_lt_of_cell? w _ hx127_3)).trans hx127_3
            replace p127:=eq_true p127
            replace q127:=eq_true q127
            try go_wp2_with (first | ((with_reducible refine gd_ 4 ?_);(try (refine gate_guard (by rfl) ?_;dsimp only));refine be_ 4 #[.int .i64 0,.int .i64 0,.bool false,.string (⟨#[]⟩:ByteArray)] 91 ?_;intro gb128 hg w57 hbox hb;refine as7_ (blkB_ BK125.out hb) (below_step (z4_ HB.out GE125.out) hb) (hbox) ((z11_ HB.out GE125.out:w.heap.size≤gb128)) ((z11_ HB.out GE125.out:w.heap.size≤gb128)) (neL_ BK125.out hg) (neG_ BK125.out hg) ?_;clear BK125 HB;intro BK125 HB BK128 GW128 GE128 NB125_128 NB128_125;clear hb hbox hg;have hnb58:=NB128_125.out;have hnc58:=NB125_128.out;have ⟨hcz59_0,hcz59_1,hcz59_2,hcz59_3,hfz59_0,hfz59_1,hfz59_2,hfz59_3⟩:=cz4_ BK128.out))
            have n0_:Aside0 (((((w57.setCell ⟨gb128,0,none⟩ (.int .i64 ((rd_T91 l0_1 x3_2).f0.f0))).setCell ⟨gb128,1,none⟩ (.int .i64 ((rd_T91 l0_1 x3_2).f0.f1))).setCell ⟨gb128,2,none⟩ (.bool true)).setCell ⟨gb128,3,none⟩ (.string ((rd_T91 l0_1 x3_2).f2))).heap[gb125]? = some (.cells #[.slice A0_0 l0_0.length c0_0,.slice (some ad127) l0_1.length c0_1] 40 (0,0))):=⟨z26_ NB125_128.out BK125.out⟩
            have n1_:Aside0 (((((w57.setCell ⟨gb128,0,none⟩ (.int .i64 ((rd_T91 l0_1 x3_2).f0.f0))).setCell ⟨gb128,1,none⟩ (.int .i64 ((rd_T91 l0_1 x3_2).f0.f1))).setCell ⟨gb128,2,none⟩ (.bool true)).setCell ⟨gb128,3,none⟩ (.string ((rd_T91 l0_1 x3_2).f2))).heap[gb128]? = some (.cells #[.int .i64 ((rd_T91 l0_1 x3_2).f0.f0),.int .i64 ((rd_T91 l0_1 x3_2).f0.f1),.bool true,.string ((rd_T91 l0_1 x3_2).f2)] 91 (0,0))):=⟨z27_ BK128.out⟩
            have n2_:Aside0 (Below w.heap.size w ((((w57.setCell ⟨gb128,0,none⟩ (.int .i64 ((rd_T91 l0_1 x3_2).f0.f0))).setCell ⟨gb128,1,none⟩ (.int .i64 ((rd_T91 l0_1 x3_2).f0.f1))).setCell ⟨gb128,2,none⟩ (.bool true)).setCell ⟨gb128,3,none⟩ (.string ((rd_T91 l0_1 x3_2).f2)))):=⟨z6_ HB.out GE125.out GE128.out⟩
            (try clear BK125)
            (try clear BK128)
            (try clear HB)
            generalize ((((w57.setCell ⟨gb128,0,none⟩ (.int .i64 ((rd_T91 l0_1 x3_2).f0.f0))).setCell ⟨gb128,1,none⟩ (.int .i64 ((rd_T91 l0_1 x3_2).f0.f1))).setCell ⟨gb128,2,none⟩ (.bool true)).setCell ⟨gb128,3,none⟩ (.string ((rd_T91 l0_1 x3_2).f2)))=w60 at n0_ n1_ n2_ ⊢
            have BK125:=n0_
            have BK128:=n1_
            have HB:=n2_
            clear n0_ n1_ n2_
            refine as3_ (blk_drew BK125.out) (blk_drew BK128.out) (below_drew1 HB.out) ?_
            clear BK125 BK128 HB
            intro BK125 BK128 HB
            refine start_ (n:=38) (S:=fun w'=>w'.cell? ⟨gb125,0,none⟩=some (.slice A0_0 l0_0.length c0_0)∧w'.cell? ⟨gb125,1,none⟩=some (.slice (some ad127) l0_1.length c0_1)∧w'.cell? ⟨gb128,0,none⟩=some (.int .i64 ((rd_T91 l0_1 x3_2).f0.f0))∧w'.cell? ⟨gb128,1,none⟩=some (.int .i64 ((rd_T91 l0_1 x3_2).f0.f1))∧w'.cell? ⟨gb128,2,none⟩=some (.bool true)∧w'.cell? ⟨gb128,3,none⟩=some (.string ((rd_T91 l0_1 x3_2).f2))) (ds:=[]) spec_SetRight.q0 (by kernel_rfl) rfl rfl (cj2_ BK125.out (cc4_ BK128.out)) (fun hHeld=>?_);refine with_tabW spec_SetRight.tab7 spec_SetRight.bits7 (fun HT_ HW_=>?_)
            generalize w60.drew=w61 at BK125 BK128 HB hHeld ⊢
            refine pu_ 0 27 spec_SetRight.q1 HT_.out ?_
            refine pu_ 2 29 spec_SetRight.q2 HT_.out ?_
            refine tk6_ 1 28 spec_SetRight.q3 HT_.out HW_.out hHeld ?_
            refine tk6_ 3 30 spec_SetRight.q4 HT_.out HW_.out hHeld ?_
            refine o1_ 4 31 spec_SetRight.q5 HT_.out (fun K hK=>?_)
            refine gs_ Try.func72 #[.slice A0_0 l0_0.length c0_0,.agg #[.int .i64 ((rd_T91 l0_1 x3_2).f0.f0),.int .i64 ((rd_T91 l0_1 x3_2).f0.f1)]] ?_
            with_reducible refine (spec_SeenHas.calls k2 _ _ l0_0 ((rd_T91 l0_1 x3_2).f0.f0) ((rd_T91 l0_1 x3_2).f0.f1) true _ ?s1 ?s2 A14.out).mono ?_
            (case s1=>repeat (first | exact (Kd.C_below HR0_0.out HB.out) | (with_reducible refine Kd.C_alloc ?_ _) | (with_reducible refine Kd.C_drewN ?_ _) | (with_reducible refine Kd.C_drew ?_)))
            (case s2=>exact HC0_0.out)
            rintro e w62 ⟨rfl,hb⟩
            refine ⟨_,rfl,?_⟩
            refine as3_ (blkB_ BK125.out hb) (blkB_ BK128.out hb) (below_step (z6_ HB.out GE125.out GE128.out) hb) ?_
            clear BK125 BK128 HB
            intro BK125 BK128 HB
            (try clear hb)
            refine hK.out _ _ (cj2_ BK125.out (cc4_ BK128.out)) (fun hHeld=>?_)
            clear hK K
            refine nm_ 31 ?_
            refine pu_ 5 32 spec_SetRight.q6 HT_.out ?_
            refine pu_ 6 33 spec_SetRight.q7 HT_.out ?_
            refine pu_ 7 34 spec_SetRight.q8 HT_.out ?_
            refine tk6_ 8 35 spec_SetRight.q9 HT_.out HW_.out hHeld ?_
            refine pu_ 9 36 spec_SetRight.q10 HT_.out ?_
            refine pu_ 10 37 spec_SetRight.q11 HT_.out ?_
            refine pu_ 11 38 spec_SetRight.q12 HT_.out ?_
            refine pu_ 12 39 spec_SetRight.q13 HT_.out ?_
            refine pu_ 13 40 spec_SetRight.q14 HT_.out ?_
            refine tk6_ 14 41 spec_SetRight.q15 HT_.out HW_.out hHeld ?_
            refine pu_ 15 42 spec_SetRight.q16 HT_.out ?_
            refine pu_ 16 43 spec_SetRight.q17 HT_.out ?_
            refine tk6_ 17 44 spec_SetRight.q18 HT_.out HW_.out hHeld ?_
            refine pu_ 18 45 spec_SetRight.q19 HT_.out ?_
            refine pu_ 19 46 spec_SetRight.q20 HT_.out ?_
            refine pu_ 20 47 spec_SetRight.q21 HT_.out ?_
            refine pu_ 21 48 spec_SetRight.q22 HT_.out ?_
            refine pn_ 22 49 spec_SetRight.q23 HT_.out ?_
            refine pn_ 23 50 spec_SetRight.q24 HT_.out ?_
            refine pn_ 24 51 spec_SetRight.q25 HT_.out ?_
            refine pn_ 25 52 spec_SetRight.q26 HT_.out ?_
            refine pn_ 26 53 spec_SetRight.q27 HT_.out ?_
            refine pn_ 27 54 spec_SetRight.q28 HT_.out ?_
            refine pn_ 28 55 spec_SetRight.q29 HT_.out ?_
            refine pn_ 29 56 spec_SetRight.q30 HT_.out ?_
            refine pn_ 30 57 spec_SetRight.q31 HT_.out ?_
            refine pn_ 31 58 spec_SetRight.q32 HT_.out ?_
            refine pn_ 32 59 spec_SetRight.q33 HT_.out ?_
            refine pn_ 33 60 spec_SetRight.q34 HT_.out ?_
            refine pn_ 34 61 spec_SetRight.q35 HT_.out ?_
            refine pn_ 35 62 spec_SetRight.q36 HT_.out ?_
            refine pn_ 36 63 spec_SetRight.q37 HT_.out ?_
            refine pu_ 37 64 spec_SetRight.q38 HT_.out ?_
            refine done_ (done_of HT_.out (by kernel_rfl)) ?_
            try go_wp2
            go_ret
            exact ⟨z8_,z6_ HB.out GE125.out GE128.out⟩
          ·replace c25:=Bool.eq_false_iff.mpr c25
           subst c25
           have H1:(if x3_2>0 then (if 0≤(wrap64 (x3_2-1)) then (if (wrap64 (x3_2-1))<(l0_1.length:Int) then ((spec_l03Less.f ((rd_T91 l0_1 (wrap64 (x3_2-1))).f0.f0) ((rd_T91 l0_1 (wrap64 (x3_2-1))).f0.f1) ((rd_T91 l0_1 x3_2).f0.f0) ((rd_T91 l0_1 x3_2).f0.f1)).bind fun t133=>(if t133=true then (spec_SetRight.l0 k2 (wrap64 (x3_2+1)) l0_0 l0_1) else (some false))) else (none)) else (none)) else (spec_SetRight.l0 k2 (wrap64 (x3_2+1)) l0_0 l0_1))=some r:=by rw [if_neg (show ¬ (false=true) by decide)] at H;exact H
           clear H
           have H:=H1
           clear H1
           by_cases c63:x3_2>0
           ·rw [if_pos c63] at H
            have c63b0:decide (0<x3_2)=true:=decide_eq_true c63
            clear c63
            obtain ⟨ji64,hji64⟩:∃ j_:Int,(wrap64 (x3_2-1))=j_:=⟨_,rfl⟩
            replace H:(if 0≤(ji64) then (if (ji64)<(l0_1.length:Int) then ((spec_l03Less.f ((rd_T91 l0_1 (ji64)).f0.f0) ((rd_T91 l0_1 (ji64)).f0.f1) ((rd_T91 l0_1 x3_2).f0.f0) ((rd_T91 l0_1 x3_2).f0.f1)).bind fun t133=>(if t133=true then (spec_SetRight.l0 k2 (wrap64 (x3_2+1)) l0_0 l0_1) else (some false))) else (none)) else (none))=some r:=by first | (rw [hji64] at H;exact H) | (simp only [hji64] at H ⊢;exact H)
            (try rw [hji64] at A14)
            have hji64w:(IntKind.i64.wrap (x3_2-1))=ji64:=(i64_w _).trans hji64
            by_cases c65:0≤(ji64)
            ·rw [if_pos c65] at H
             have c65b0:decide (0≤(ji64))=true:=decide_eq_true c65
             clear c65
             by_cases c66:(ji64)<(l0_1.length:Int)
             ·rw [if_pos c66] at H
              have c66b0:decide ((ji64)<(l0_1.length:Int))=true:=decide_eq_true c66
              clear c66
              replace H:=Option.bind_eq_some_iff.mp H
              obtain ⟨t133,A670,H⟩:=H
              replace H:(if t133=true then (spec_SetRight.l0 k2 (wrap64 (x3_2+1)) l0_0 l0_1) else (some false))=some r:=H
              have A67:=Aside0.mk A670
              clear A670
              by_cases c68:t133=true
              ·subst c68
               have H1:(spec_SetRight.l0 k2 (wrap64 (x3_2+1)) l0_0 l0_1)=some r:=by rw [if_pos rfl] at H;exact H
               clear H
               have H:=H1
               clear H1
               have H':=Aside0.mk H
               clear H
               have ⟨hcz69_0,hcz69_1,hfz69_0,hfz69_1⟩:=cz2_ BK125.out
               have p127:0≤(x3_2:Int):=of_decide_eq_true (z1_)
               have q127:x3_2<(l0_1.length:Int):=of_decide_eq_true (z1_)
               obtain ⟨ad127,e127,hx127_0,hx127_1,hx127_2,hx127_3⟩:=at_T91 HR0_1.out x3_2 p127 q127
               (try rw [← Nbq24.out] at hx127_2)
               cases e127
               replace hx127_0:=(HB.out.cell (World.block_lt_of_cell? w _ hx127_0)).trans hx127_0
               replace hx127_1:=(HB.out.cell (World.block_lt_of_cell? w _ hx127_1)).trans hx127_1
               replace hx127_2:=(HB.out.cell (World.block_lt_of_cell? w _ hx127_2)).trans hx127_2
               replace hx127_3:=(HB.out.cell (World.block_lt_of_cell? w _ hx127_3)).trans hx127_3
               replace p127:=eq_true p127
               replace q127:=eq_true q127
               try go_wp2_with (first | ((with_reducible refine gd_ 4 ?_);(try (refine gate_guard (by rfl) ?_;dsimp only));refine be_ 4 #[.int .i64 0,.int .i64 0,.bool false,.string (⟨#[]⟩:ByteArray)] 91 ?_;intro gb128 hg w70 hbox hb;refine as7_ (blkB_ BK125.out hb) (below_step (z4_ HB.out GE125.out) hb) (hbox) ((z11_ HB.out GE125.out:w.heap.size≤gb128)) ((z11_ HB.out GE125.out:w.heap.size≤gb128)) (neL_ BK125.out hg) (neG_ BK125.out hg) ?_;clear BK125 HB;intro BK125 HB BK128 GW128 GE128 NB125_128 NB128_125;clear hb hbox hg;have hnb71:=NB128_125.out;have hnc71:=NB125_128.out;have ⟨hcz72_0,hcz72_1,hcz72_2,hcz72_3,hfz72_0,hfz72_1,hfz72_2,hfz72_3⟩:=cz4_ BK128.out))
               have n0_:Aside0 (((((w70.setCell ⟨gb128,0,none⟩ (.int .i64 ((rd_T91 l0_1 x3_2).f0.f0))).setCell ⟨gb128,1,none⟩ (.int .i64 ((rd_T91 l0_1 x3_2).f0.f1))).setCell ⟨gb128,2,none⟩ (.bool false)).setCell ⟨gb128,3,none⟩ (.string ((rd_T91 l0_1 x3_2).f2))).heap[gb125]? = some (.cells #[.slice A0_0 l0_0.length c0_0,.slice (some ad127) l0_1.length c0_1] 40 (0,0))):=⟨z26_ NB125_128.out BK125.out⟩
               have n1_:Aside0 (((((w70.setCell ⟨gb128,0,none⟩ (.int .i64 ((rd_T91 l0_1 x3_2).f0.f0))).setCell ⟨gb128,1,none⟩ (.int .i64 ((rd_T91 l0_1 x3_2).f0.f1))).setCell ⟨gb128,2,none⟩ (.bool false)).setCell ⟨gb128,3,none⟩ (.string ((rd_T91 l0_1 x3_2).f2))).heap[gb128]? = some (.cells #[.int .i64 ((rd_T91 l0_1 x3_2).f0.f0),.int .i64 ((rd_T91 l0_1 x3_2).f0.f1),.bool false,.string ((rd_T91 l0_1 x3_2).f2)] 91 (0,0))):=⟨z27_ BK128.out⟩
               have n2_:Aside0 (Below w.heap.size w ((((w70.setCell ⟨gb128,0,none⟩ (.int .i64 ((rd_T91 l0_1 x3_2).f0.f0))).setCell ⟨gb128,1,none⟩ (.int .i64 ((rd_T91 l0_1 x3_2).f0.f1))).setCell ⟨gb128,2,none⟩ (.bool false)).setCell ⟨gb128,3,none⟩ (.string ((rd_T91 l0_1 x3_2).f2)))):=⟨z6_ HB.out GE125.out GE128.out⟩
               (try clear BK125)
               (try clear BK128)
               (try clear HB)
               generalize ((((w70.setCell ⟨gb128,0,none⟩ (.int .i64 ((rd_T91 l0_1 x3_2).f0.f0))).setCell ⟨gb128,1,none⟩ (.int .i64 ((rd_T91 l0_1 x3_2).f0.f1))).setCell ⟨gb128,2,none⟩ (.bool false)).setCell ⟨gb128,3,none⟩ (.string ((rd_T91 l0_1 x3_2).f2)))=w73 at n0_ n1_ n2_ ⊢
               have BK125:=n0_
               have BK128:=n1_
               have HB:=n2_
               clear n0_ n1_ n2_
               refine as3_ (blk_drew BK125.out) (blk_drew BK128.out) (below_drew1 HB.out) ?_
               clear BK125 BK128 HB
               intro BK125 BK128 HB
               have p132:0≤((ji64):Int):=of_decide_eq_true (z1_)
               have q132:(ji64)<(l0_1.length:Int):=of_decide_eq_true (z1_)
               obtain ⟨ad132,e132,hx132_0,hx132_1,hx132_2,hx132_3⟩:=at_T91 HR0_1.out (ji64) p132 q132
               have hw132_3:=hx132_3
               have hw132_2:=hx132_2
               have hw132_1:=hx132_1
               have hw132_0:=hx132_0
               (try rw [← Nbq24.out] at hx132_2)
               obtain rfl:ad127=ad132:=(by injection e132)
               replace hx132_0:=(HB.out.cell (World.block_lt_of_cell? w _ hx132_0)).trans hx132_0
               replace hx132_1:=(HB.out.cell (World.block_lt_of_cell? w _ hx132_1)).trans hx132_1
               replace hx132_2:=(HB.out.cell (World.block_lt_of_cell? w _ hx132_2)).trans hx132_2
               replace hx132_3:=(HB.out.cell (World.block_lt_of_cell? w _ hx132_3)).trans hx132_3
               replace p132:=eq_true p132
               replace q132:=eq_true q132
               refine start_ (n:=38) (S:=fun w'=>w'.cell? ⟨gb125,0,none⟩=some (.slice A0_0 l0_0.length c0_0)∧w'.cell? ⟨gb125,1,none⟩=some (.slice (some ad127) l0_1.length c0_1)∧w'.cell? ⟨gb128,0,none⟩=some (.int .i64 ((rd_T91 l0_1 x3_2).f0.f0))∧w'.cell? ⟨gb128,1,none⟩=some (.int .i64 ((rd_T91 l0_1 x3_2).f0.f1))∧w'.cell? ⟨gb128,2,none⟩=some (.bool false)∧w'.cell? ⟨gb128,3,none⟩=some (.string ((rd_T91 l0_1 x3_2).f2))∧w'.cell? (ad127.add (((ji64)).toNat*4))=some (.int .i64 ((rd_T91 l0_1 (ji64)).f0.f0))∧w'.cell? ⟨(ad127.add (((ji64)).toNat*4)).block,(ad127.add (((ji64)).toNat*4)).off+1,none⟩=some (.int .i64 ((rd_T91 l0_1 (ji64)).f0.f1))∧w'.cell? ⟨(ad127.add (((ji64)).toNat*4)).block,(ad127.add (((ji64)).toNat*4)).off+2,none⟩=some (.bool ((rd_T91 l0_1 (ji64)).f1))∧w'.cell? ⟨(ad127.add (((ji64)).toNat*4)).block,(ad127.add (((ji64)).toNat*4)).off+3,none⟩=some (.string ((rd_T91 l0_1 (ji64)).f2))) (ds:=[]) spec_SetRight.q0 (by kernel_rfl) rfl rfl (cj2_ BK125.out (cj4_ BK128.out ⟨((HB.out.cell (World.block_lt_of_cell? w _ hw132_0)).trans hw132_0),⟨((HB.out.cell (World.block_lt_of_cell? w _ hw132_1)).trans hw132_1),⟨((HB.out.cell (World.block_lt_of_cell? w _ hw132_2)).trans hw132_2),((HB.out.cell (World.block_lt_of_cell? w _ hw132_3)).trans hw132_3)⟩⟩⟩)) (fun hHeld=>?_);refine with_tabW spec_SetRight.tab7 spec_SetRight.bits7 (fun HT_ HW_=>?_)
               generalize w73.drew=w74 at BK125 BK128 HB hx132_0 hx132_1 hx132_2 hx132_3 hHeld ⊢
               refine pu_ 0 27 spec_SetRight.q1 HT_.out ?_
               refine pu_ 2 29 spec_SetRight.q2 HT_.out ?_
               refine tk10_ 1 28 spec_SetRight.q3 HT_.out HW_.out hHeld ?_
               refine tk10_ 3 30 spec_SetRight.q4 HT_.out HW_.out hHeld ?_
               refine o1_ 4 31 spec_SetRight.q5 HT_.out (fun K hK=>?_)
               refine gs_ Try.func72 #[.slice A0_0 l0_0.length c0_0,.agg #[.int .i64 ((rd_T91 l0_1 x3_2).f0.f0),.int .i64 ((rd_T91 l0_1 x3_2).f0.f1)]] ?_
               with_reducible refine (spec_SeenHas.calls k2 _ _ l0_0 ((rd_T91 l0_1 x3_2).f0.f0) ((rd_T91 l0_1 x3_2).f0.f1) true _ ?s1 ?s2 A14.out).mono ?_
               (case s1=>repeat (first | exact (Kd.C_below HR0_0.out HB.out) | (with_reducible refine Kd.C_alloc ?_ _) | (with_reducible refine Kd.C_drewN ?_ _) | (with_reducible refine Kd.C_drew ?_)))
               (case s2=>exact HC0_0.out)
               rintro e w75 ⟨rfl,hb⟩
               refine ⟨_,rfl,?_⟩
               refine as3_ (blkB_ BK125.out hb) (blkB_ BK128.out hb) (below_step (z6_ HB.out GE125.out GE128.out) hb) ?_
               clear BK125 BK128 HB
               intro BK125 BK128 HB
               (try clear hb)
               refine hK.out _ _ (cj2_ BK125.out (cj4_ BK128.out ⟨((HB.out.cell (World.block_lt_of_cell? w _ hw132_0)).trans hw132_0),⟨((HB.out.cell (World.block_lt_of_cell? w _ hw132_1)).trans hw132_1),⟨((HB.out.cell (World.block_lt_of_cell? w _ hw132_2)).trans hw132_2),((HB.out.cell (World.block_lt_of_cell? w _ hw132_3)).trans hw132_3)⟩⟩⟩)) (fun hHeld=>?_)
               clear hK K
               refine nm_ 31 ?_
               refine pu_ 5 32 spec_SetRight.q6 HT_.out ?_
               refine pu_ 6 33 spec_SetRight.q7 HT_.out ?_
               refine pu_ 7 34 spec_SetRight.q8 HT_.out ?_
               refine tk10_ 8 35 spec_SetRight.q9 HT_.out HW_.out hHeld ?_
               refine pu_ 9 36 spec_SetRight.q10 HT_.out ?_
               refine pu_ 10 37 spec_SetRight.q11 HT_.out ?_
               refine pu_ 11 38 spec_SetRight.q12 HT_.out ?_
               refine pu_ 12 39 spec_SetRight.q13 HT_.out ?_
               refine pu_ 13 40 spec_SetRight.q14 HT_.out ?_
               refine tk10_ 14 41 spec_SetRight.q15 HT_.out HW_.out hHeld ?_
               refine pu_ 15 42 spec_SetRight.q16 HT_.out ?_
               refine pn_ 16 43 spec_SetRight.q17 HT_.out ?_
               refine pn_ 17 44 spec_SetRight.q18 HT_.out ?_
               refine pn_ 18 45 spec_SetRight.q19 HT_.out ?_
               refine pu_ 19 46 spec_SetRight.q20 HT_.out ?_
               refine pu_ 20 47 spec_SetRight.q21 HT_.out ?_
               refine pu_ 21 48 spec_SetRight.q22 HT_.out ?_
               refine pu_ 22 49 spec_SetRight.q23 HT_.out ?_
               refine pu_ 23 50 spec_SetRight.q24 HT_.out ?_
               refine pu_ 24 51 spec_SetRight.q25 HT_.out ?_
               refine pu_ 25 52 spec_SetRight.q26 HT_.out ?_
               refine pu_ 27 54 spec_SetRight.q39 HT_.out ?_
               refine pu_ 28 55 spec_SetRight.q40 HT_.out ?_
               refine pu_ 32 59 spec_SetRight.q41 HT_.out ?_
               refine tk10_ 26 53 spec_SetRight.q42 HT_.out HW_.out hHeld ?_
               refine pu_ 29 56 spec_SetRight.q43 HT_.out ?_
               refine pu_ 30 57 spec_SetRight.q44 HT_.out ?_
               refine tk10_ 31 58 spec_SetRight.q33 HT_.out HW_.out hHeld ?_
               refine tk10_ 33 60 spec_SetRight.q34 HT_.out HW_.out hHeld ?_
               refine o1_ 34 61 spec_SetRight.q35 HT_.out (fun K hK=>?_)
               refine goes_ Try.func82 (by kernel_rfl) rfl #[.agg #[.int .i64 ((rd_T91 l0_1 (ji64)).f0.f0),.int .i64 ((rd_T91 l0_1 (ji64)).f0.f1)],.agg #[.int .i64 ((rd_T91 l0_1 x3_2).f0.f0),.int .i64 ((rd_T91 l0_1 x3_2).f0.f1)]] (by rfl) rfl rfl (by (try simp only [List.map_toArray,List.map_cons,List.map_nil]);first | done | (simp only [hji64];rfl) | rfl | (simp only [List.length_drop,List.length_take];rfl)) ?_
               with_reducible refine (spec_l03Less.calls ((rd_T91 l0_1 (ji64)).f0.f0) ((rd_T91 l0_1 (ji64)).f0.f1) ((rd_T91 l0_1 x3_2).f0.f0) ((rd_T91 l0_1 x3_2).f0.f1) true _ A67.out).mono ?_
               rintro e w76 ⟨rfl,hb⟩
               refine ⟨_,rfl,?_⟩
               refine as3_ (blkB_ BK125.out hb) (blkB_ BK128.out hb) (below_step (z6_ HB.out GE125.out GE128.out) hb) ?_
               clear BK125 BK128 HB
               intro BK125 BK128 HB
               (try clear hb)
               refine hK.out _ _ (cj2_ BK125.out (cj4_ BK128.out ⟨((HB.out.cell (World.block_lt_of_cell? w _ hw132_0)).trans hw132_0),⟨((HB.out.cell (World.block_lt_of_cell? w _ hw132_1)).trans hw132_1),⟨((HB.out.cell (World.block_lt_of_cell? w _ hw132_2)).trans hw132_2),((HB.out.cell (World.block_lt_of_cell? w _ hw132_3)).trans hw132_3)⟩⟩⟩)) (fun hHeld=>?_)
               clear hK K
               refine nm_ 61 ?_
               refine pu_ 35 62 spec_SetRight.q36 HT_.out ?_
               refine pu_ 36 63 spec_SetRight.q37 HT_.out ?_
               refine pu_ 37 64 spec_SetRight.q38 HT_.out ?_
               refine done_ (done_of HT_.out (by kernel_rfl)) ?_
               try go_wp2
               go_roundg k2
               case measure=>have:=HJ1.out;have:=HK2.out;omega
               case rel=>exact ⟨(wrap64 (x3_2+1)),(z2_),H',⟨z22_ HJ1.out HK2.out⟩,⟨z3_ BK125.out⟩,⟨z6_ HB.out GE125.out GE128.out⟩⟩
              ·replace c68:=Bool.eq_false_iff.mpr c68
               subst c68
               have H1:(some false)=some r:=by rw [if_neg (show ¬ (false=true) by decide)] at H;exact H
               clear H
               have H:=H1
               clear H1
               obtain rfl:=Option.some.inj H
               have ⟨hcz77_0,hcz77_1,hfz77_0,hfz77_1⟩:=cz2_ BK125.out
               have p127:0≤(x3_2:Int):=of_decide_eq_true (z1_)
               have q127:x3_2<(l0_1.length:Int):=of_decide_eq_true (z1_)
               obtain ⟨ad127,e127,hx127_0,hx127_1,hx127_2,hx127_3⟩:=at_T91 HR0_1.out x3_2 p127 q127
               (try rw [← Nbq24.out] at hx127_2)
               cases e127
               replace hx127_0:=(HB.out.cell (World.block_lt_of_cell? w _ hx127_0)).trans hx127_0
               replace hx127_1:=(HB.out.cell (World.block_lt_of_cell? w _ hx127_1)).trans hx127_1
               replace hx127_2:=(HB.out.cell (World.block_lt_of_cell? w _ hx127_2)).trans hx127_2
               replace hx127_3:=(HB.out.cell (World.block_lt_of_cell? w _ hx127_3)).trans hx127_3
               replace p127:=eq_true p127
               replace q127:=eq_true q127
               try go_wp2_with (first | ((with_reducible refine gd_ 4 ?_);(try (refine gate_guard (by rfl) ?_;dsimp only));refine be_ 4 #[.int .i64 0,.int .i64 0,.bool false,.string (⟨#[]⟩:ByteArray)] 91 ?_;intro gb128 hg w78 hbox hb;refine as7_ (blkB_ BK125.out hb) (below_step (z4_ HB.out GE125.out) hb) (hbox) ((z11_ HB.out GE125.out:w.heap.size≤gb128)) ((z11_ HB.out GE125.out:w.heap.size≤gb128)) (neL_ BK125.out hg) (neG_ BK125.out hg) ?_;clear BK125 HB;intro BK125 HB BK128 GW128 GE128 NB125_128 NB128_125;clear hb hbox hg;have hnb79:=NB128_125.out;have hnc79:=NB125_128.out;have ⟨hcz80_0,hcz80_1,hcz80_2,hcz80_3,hfz80_0,hfz80_1,hfz80_2,hfz80_3⟩:=cz4_ BK128.out))
               have n0_:Aside0 (((((w78.setCell ⟨gb128,0,none⟩ (.int .i64 ((rd_T91 l0_1 x3_2).f0.f0))).setCell ⟨gb128,1,none⟩ (.int .i64 ((rd_T91 l0_1 x3_2).f0.f1))).setCell ⟨gb128,2,none⟩ (.bool false)).setCell ⟨gb128,3,none⟩ (.string ((rd_T91 l0_1 x3_2).f2))).heap[gb125]? = some (.cells #[.slice A0_0 l0_0.length c0_0,.slice (some ad127) l0_1.length c0_1] 40 (0,0))):=⟨z26_ NB125_128.out BK125.out⟩
               have n1_:Aside0 (((((w78.setCell ⟨gb128,0,none⟩ (.int .i64 ((rd_T91 l0_1 x3_2).f0.f0))).setCell ⟨gb128,1,none⟩ (.int .i64 ((rd_T91 l0_1 x3_2).f0.f1))).setCell ⟨gb128,2,none⟩ (.bool false)).setCell ⟨gb128,3,none⟩ (.string ((rd_T91 l0_1 x3_2).f2))).heap[gb128]? = some (.cells #[.int .i64 ((rd_T91 l0_1 x3_2).f0.f0),.int .i64 ((rd_T91 l0_1 x3_2).f0.f1),.bool false,.string ((rd_T91 l0_1 x3_2).f2)] 91 (0,0))):=⟨z27_ BK128.out⟩
               have n2_:Aside0 (Below w.heap.size w ((((w78.setCell ⟨gb128,0,none⟩ (.int .i64 ((rd_T91 l0_1 x3_2).f0.f0))).setCell ⟨gb128,1,none⟩ (.int .i64 ((rd_T91 l0_1 x3_2).f0.f1))).setCell ⟨gb128,2,none⟩ (.bool false)).setCell ⟨gb128,3,none⟩ (.string ((rd_T91 l0_1 x3_2).f2)))):=⟨z6_ HB.out GE125.out GE128.out⟩
               (try clear BK125)
               (try clear BK128)
               (try clear HB)
               generalize ((((w78.setCell ⟨gb128,0,none⟩ (.int .i64 ((rd_T91 l0_1 x3_2).f0.f0))).setCell ⟨gb128,1,none⟩ (.int .i64 ((rd_T91 l0_1 x3_2).f0.f1))).setCell ⟨gb128,2,none⟩ (.bool false)).setCell ⟨gb128,3,none⟩ (.string ((rd_T91 l0_1 x3_2).f2)))=w81 at n0_ n1_ n2_ ⊢
               have BK125:=n0_
               have BK128:=n1_
               have HB:=n2_
               clear n0_ n1_ n2_
               refine as3_ (blk_drew BK125.out) (blk_drew BK128.out) (below_drew1 HB.out) ?_
               clear BK125 BK128 HB
               intro BK125 BK128 HB
               have p132:0≤((ji64):Int):=of_decide_eq_true (z1_)
               have q132:(ji64)<(l0_1.length:Int):=of_decide_eq_true (z1_)
               obtain ⟨ad132,e132,hx132_0,hx132_1,hx132_2,hx132_3⟩:=at_T91 HR0_1.out (ji64) p132 q132
               have hw132_3:=hx132_3
               have hw132_2:=hx132_2
               have hw132_1:=hx132_1
               have hw132_0:=hx132_0
               (try rw [← Nbq24.out] at hx132_2)
               obtain rfl:ad127=ad132:=(by injection e132)
               replace hx132_0:=(HB.out.cell (World.block_lt_of_cell? w _ hx132_0)).trans hx132_0
               replace hx132_1:=(HB.out.cell (World.block_lt_of_cell? w _ hx132_1)).trans hx132_1
               replace hx132_2:=(HB.out.cell (World.block_lt_of_cell? w _ hx132_2)).trans hx132_2
               replace hx132_3:=(HB.out.cell (World.block_lt_of_cell? w _ hx132_3)).trans hx132_3
               replace p132:=eq_true p132
               replace q132:=eq_true q132
               refine start_ (n:=38) (S:=fun w'=>w'.cell? ⟨gb125,0,none⟩=some (.slice A0_0 l0_0.length c0_0)∧w'.cell? ⟨gb125,1,none⟩=some (.slice (some ad127) l0_1.length c0_1)∧w'.cell? ⟨gb128,0,none⟩=some (.int .i64 ((rd_T91 l0_1 x3_2).f0.f0))∧w'.cell? ⟨gb128,1,none⟩=some (.int .i64 ((rd_T91 l0_1 x3_2).f0.f1))∧w'.cell? ⟨gb128,2,none⟩=some (.bool false)∧w'.cell? ⟨gb128,3,none⟩=some (.string ((rd_T91 l0_1 x3_2).f2))∧w'.cell? (ad127.add (((ji64)).toNat*4))=some (.int .i64 ((rd_T91 l0_1 (ji64)).f0.f0))∧w'.cell? ⟨(ad127.add (((ji64)).toNat*4)).block,(ad127.add (((ji64)).toNat*4)).off+1,none⟩=some (.int .i64 ((rd_T91 l0_1 (ji64)).f0.f1))∧w'.cell? ⟨(ad127.add (((ji64)).toNat*4)).block,(ad127.add (((ji64)).toNat*4)).off+2,none⟩=some (.bool ((rd_T91 l0_1 (ji64)).f1))∧w'.cell? ⟨(ad127.add (((ji64)).toNat*4)).block,(ad127.add (((ji64)).toNat*4)).off+3,none⟩=some (.string ((rd_T91 l0_1 (ji64)).f2))) (ds:=[]) spec_SetRight.q0 (by kernel_rfl) rfl rfl (cj2_ BK125.out (cj4_ BK128.out ⟨((HB.out.cell (World.block_lt_of_cell? w _ hw132_0)).trans hw132_0),⟨((HB.out.cell (World.block_lt_of_cell? w _ hw132_1)).trans hw132_1),⟨((HB.out.cell (World.block_lt_of_cell? w _ hw132_2)).trans hw132_2),((HB.out.cell (World.block_lt_of_cell? w _ hw132_3)).trans hw132_3)⟩⟩⟩)) (fun hHeld=>?_);refine with_tabW spec_SetRight.tab7 spec_SetRight.bits7 (fun HT_ HW_=>?_)
               generalize w81.drew=w82 at BK125 BK128 HB hx132_0 hx132_1 hx132_2 hx132_3 hHeld ⊢
               refine pu_ 0 27 spec_SetRight.q1 HT_.out ?_
               refine pu_ 2 29 spec_SetRight.q2 HT_.out ?_
               refine tk10_ 1 28 spec_SetRight.q3 HT_.out HW_.out hHeld ?_
               refine tk10_ 3 30 spec_SetRight.q4 HT_.out HW_.out hHeld ?_
               refine o1_ 4 31 spec_SetRight.q5 HT_.out (fun K hK=>?_)
               refine gs_ Try.func72 #[.slice A0_0 l0_0.length c0_0,.agg #[.int .i64 ((rd_T91 l0_1 x3_2).f0.f0),.int .i64 ((rd_T91 l0_1 x3_2).f0.f1)]] ?_
               with_reducible refine (spec_SeenHas.calls k2 _ _ l0_0 ((rd_T91 l0_1 x3_2).f0.f0) ((rd_T91 l0_1 x3_2).f0.f1) true _ ?s1 ?s2 A14.out).mono ?_
               (case s1=>repeat (first | exact (Kd.C_below HR0_0.out HB.out) | (with_reducible refine Kd.C_alloc ?_ _) | (with_reducible refine Kd.C_drewN ?_ _) | (with_reducible refine Kd.C_drew ?_)))
               (case s2=>exact HC0_0.out)
               rintro e w83 ⟨rfl,hb⟩
               refine ⟨_,rfl,?_⟩
               refine as3_ (blkB_ BK125.out hb) (blkB_ BK128.out hb) (below_step (z6_ HB.out GE125.out GE128.out) hb) ?_
               clear BK125 BK128 HB
               intro BK125 BK128 HB
               (try clear hb)
               refine hK.out _ _ (cj2_ BK125.out (cj4_ BK128.out ⟨((HB.out.cell (World.block_lt_of_cell? w _ hw132_0)).trans hw132_0),⟨((HB.out.cell (World.block_lt_of_cell? w _ hw132_1)).trans hw132_1),⟨((HB.out.cell (World.block_lt_of_cell? w _ hw132_2)).trans hw132_2),((HB.out.cell (World.block_lt_of_cell? w _ hw132_3)).trans hw132_3)⟩⟩⟩)) (fun hHeld=>?_)
               clear hK K
               refine nm_ 31 ?_
               refine pu_ 5 32 spec_SetRight.q6 HT_.out ?_
               refine pu_ 6 33 spec_SetRight.q7 HT_.out ?_
               refine pu_ 7 34 spec_SetRight.q8 HT_.out ?_
               refine tk10_ 8 35 spec_SetRight.q9 HT_.out HW_.out hHeld ?_
               refine pu_ 9 36 spec_SetRight.q10 HT_.out ?_
               refine pu_ 10 37 spec_SetRight.q11 HT_.out ?_
               refine pu_ 11 38 spec_SetRight.q12 HT_.out ?_
               refine pu_ 12 39 spec_SetRight.q13 HT_.out ?_
               refine pu_ 13 40 spec_SetRight.q14 HT_.out ?_
               refine tk10_ 14 41 spec_SetRight.q15 HT_.out HW_.out hHeld ?_
               refine pu_ 15 42 spec_SetRight.q16 HT_.out ?_
               refine pn_ 16 43 spec_SetRight.q17 HT_.out ?_
               refine pn_ 17 44 spec_SetRight.q18 HT_.out ?_
               refine pn_ 18 45 spec_SetRight.q19 HT_.out ?_
               refine pu_ 19 46 spec_SetRight.q20 HT_.out ?_
               refine pu_ 20 47 spec_SetRight.q21 HT_.out ?_
               refine pu_ 21 48 spec_SetRight.q22 HT_.out ?_
               refine pu_ 22 49 spec_SetRight.q23 HT_.out ?_
               refine pu_ 23 50 spec_SetRight.q24 HT_.out ?_
               refine pu_ 24 51 spec_SetRight.q25 HT_.out ?_
               refine pu_ 25 52 spec_SetRight.q26 HT_.out ?_
               refine pu_ 27 54 spec_SetRight.q39 HT_.out ?_
               refine pu_ 28 55 spec_SetRight.q40 HT_.out ?_
               refine pu_ 32 59 spec_SetRight.q41 HT_.out ?_
               refine tk10_ 26 53 spec_SetRight.q42 HT_.out HW_.out hHeld ?_
               refine pu_ 29 56 spec_SetRight.q43 HT_.out ?_
               refine pu_ 30 57 spec_SetRight.q44 HT_.out ?_
               refine tk10_ 31 58 spec_SetRight.q33 HT_.out HW_.out hHeld ?_
               refine tk10_ 33 60 spec_SetRight.q34 HT_.out HW_.out hHeld ?_
               refine o1_ 34 61 spec_SetRight.q35 HT_.out (fun K hK=>?_)
               refine goes_ Try.func82 (by kernel_rfl) rfl #[.agg #[.int .i64 ((rd_T91 l0_1 (ji64)).f0.f0),.int .i64 ((rd_T91 l0_1 (ji64)).f0.f1)],.agg #[.int .i64 ((rd_T91 l0_1 x3_2).f0.f0),.int .i64 ((rd_T91 l0_1 x3_2).f0.f1)]] (by rfl) rfl rfl (by (try simp only [List.map_toArray,List.map_cons,List.map_nil]);first | done | (simp only [hji64];rfl) | rfl | (simp only [List.length_drop,List.length_take];rfl)) ?_
               with_reducible refine (spec_l03Less.calls ((rd_T91 l0_1 (ji64)).f0.f0) ((rd_T91 l0_1 (ji64)).f0.f1) ((rd_T91 l0_1 x3_2).f0.f0) ((rd_T91 l0_1 x3_2).f0.f1) false _ A67.out).mono ?_
               rintro e w84 ⟨rfl,hb⟩
               refine ⟨_,rfl,?_⟩
               refine as3_ (blkB_ BK125.out hb) (blkB_ BK128.out hb) (below_step (z6_ HB.out GE125.out GE128.out) hb) ?_
               clear BK125 BK128 HB
               intro BK125 BK128 HB
               (try clear hb)
               refine hK.out _ _ (cj2_ BK125.out (cj4_ BK128.out ⟨((HB.out.cell (World.block_lt_of_cell? w _ hw132_0)).trans hw132_0),⟨((HB.out.cell (World.block_lt_of_cell? w _ hw132_1)).trans hw132_1),⟨((HB.out.cell (World.block_lt_of_cell? w _ hw132_2)).trans hw132_2),((HB.out.cell (World.block_lt_of_cell? w _ hw132_3)).trans hw132_3)⟩⟩⟩)) (fun hHeld=>?_)
               clear hK K
               refine nm_ 61 ?_
               refine pu_ 35 62 spec_SetRight.q36 HT_.out ?_
               refine pu_ 36 63 spec_SetRight.q37 HT_.out ?_
               refine pu_ 37 64 spec_SetRight.q38 HT_.out ?_
               refine done_ (done_of HT_.out (by kernel_rfl)) ?_
               try go_wp2
               go_ret
               exact ⟨by first | rfl | (simp [errW_none,errW_some] <;> rfl) | (simp only [← hji64];first | rfl | (simp [errW_none,errW_some] <;> rfl)) | (simp [*,errW_none,errW_some] <;> rfl),z6_ HB.out GE125.out GE128.out⟩
             ·rw [if_neg c66] at H
              exact absurd H (by simp)
            ·rw [if_neg c65] at H
             exact absurd H (by simp)
           ·rw [if_neg c63] at H
            have c63b0:decide (0<x3_2)=false:=decide_eq_false c63
            clear c63
            have H':=Aside0.mk H
            clear H
            have ⟨hcz85_0,hcz85_1,hfz85_0,hfz85_1⟩:=cz2_ BK125.out
            have p127:0≤(x3_2:Int):=of_decide_eq_true (z1_)
            have q127:x3_2<(l0_1.length:Int):=of_decide_eq_true (z1_)
            obtain ⟨ad127,e127,hx127_0,hx127_1,hx127_2,hx127_3⟩:=at_T91 HR0_1.out x3_2 p127 q127
            (try rw [← Nbq24.out] at hx127_2)
            cases e127
            replace hx127_0:=(HB.out.cell (World.block_lt_of_cell? w _ hx127_0)).trans hx127_0
            replace hx127_1:=(HB.out.cell (World.block_lt_of_cell? w _ hx127_1)).trans hx127_1
            replace hx127_2:=(HB.out.cell (World.block_lt_of_cell? w _ hx127_2)).trans hx127_2
            replace hx127_3:=(HB.out.cell (World.block_lt_of_cell? w _ hx127_3)).trans hx127_3
            replace p127:=eq_true p127
            replace q127:=eq_true q127
            try go_wp2_with (first | ((with_reducible refine gd_ 4 ?_);(try (refine gate_guard (by rfl) ?_;dsimp only));refine be_ 4 #[.int .i64 0,.int .i64 0,.bool false,.string (⟨#[]⟩:ByteArray)] 91 ?_;intro gb128 hg w86 hbox hb;refine as7_ (blkB_ BK125.out hb) (below_step (z4_ HB.out GE125.out) hb) (hbox) ((z11_ HB.out GE125.out:w.heap.size≤gb128)) ((z11_ HB.out GE125.out:w.heap.size≤gb128)) (neL_ BK125.out hg) (neG_ BK125.out hg) ?_;clear BK125 HB;intro BK125 HB BK128 GW128 GE128 NB125_128 NB128_125;clear hb hbox hg;have hnb87:=NB128_125.out;have hnc87:=NB125_128.out;have ⟨hcz88_0,hcz88_1,hcz88_2,hcz88_3,hfz88_0,hfz88_1,hfz88_2,hfz88_3⟩:=cz4_ BK128.out))
            have n0_:Aside0 (((((w86.setCell ⟨gb128,0,none⟩ (.int .i64 ((rd_T91 l0_1 x3_2).f0.f0))).setCell ⟨gb128,1,none⟩ (.int .i64 ((rd_T91 l0_1 x3_2).f0.f1))).setCell ⟨gb128,2,none⟩ (.bool false)).setCell ⟨gb128,3,none⟩ (.string ((rd_T91 l0_1 x3_2).f2))).heap[gb125]? = some (.cells #[.slice A0_0 l0_0.length c0_0,.slice (some ad127) l0_1.length c0_1] 40 (0,0))):=⟨z26_ NB125_128.out BK125.out⟩
            have n1_:Aside0 (((((w86.setCell ⟨gb128,0,none⟩ (.int .i64 ((rd_T91 l0_1 x3_2).f0.f0))).setCell ⟨gb128,1,none⟩ (.int .i64 ((rd_T91 l0_1 x3_2).f0.f1))).setCell ⟨gb128,2,none⟩ (.bool false)).setCell ⟨gb128,3,none⟩ (.string ((rd_T91 l0_1 x3_2).f2))).heap[gb128]? = some (.cells #[.int .i64 ((rd_T91 l0_1 x3_2).f0.f0),.int .i64 ((rd_T91 l0_1 x3_2).f0.f1),.bool false,.string ((rd_T91 l0_1 x3_2).f2)] 91 (0,0))):=⟨z27_ BK128.out⟩
            have n2_:Aside0 (Below w.heap.size w ((((w86.setCell ⟨gb128,0,none⟩ (.int .i64 ((rd_T91 l0_1 x3_2).f0.f0))).setCell ⟨gb128,1,none⟩ (.int .i64 ((rd_T91 l0_1 x3_2).f0.f1))).setCell ⟨gb128,2,none⟩ (.bool false)).setCell ⟨gb128,3,none⟩ (.string ((rd_T91 l0_1 x3_2).f2)))):=⟨z6_ HB.out GE125.out GE128.out⟩
            (try clear BK125)
            (try clear BK128)
            (try clear HB)
            generalize ((((w86.setCell ⟨gb128,0,none⟩ (.int .i64 ((rd_T91 l0_1 x3_2).f0.f0))).setCell ⟨gb128,1,none⟩ (.int .i64 ((rd_T91 l0_1 x3_2).f0.f1))).setCell ⟨gb128,2,none⟩ (.bool false)).setCell ⟨gb128,3,none⟩ (.string ((rd_T91 l0_1 x3_2).f2)))=w89 at n0_ n1_ n2_ ⊢
            have BK125:=n0_
            have BK128:=n1_
            have HB:=n2_
            clear n0_ n1_ n2_
            refine as3_ (blk_drew BK125.out) (blk_drew BK128.out) (below_drew1 HB.out) ?_
            clear BK125 BK128 HB
            intro BK125 BK128 HB
            refine start_ (n:=38) (S:=fun w'=>w'.cell? ⟨gb125,0,none⟩=some (.slice A0_0 l0_0.length c0_0)∧w'.cell? ⟨gb125,1,none⟩=some (.slice (some ad127) l0_1.length c0_1)∧w'.cell? ⟨gb128,0,none⟩=some (.int .i64 ((rd_T91 l0_1 x3_2).f0.f0))∧w'.cell? ⟨gb128,1,none⟩=some (.int .i64 ((rd_T91 l0_1 x3_2).f0.f1))∧w'.cell? ⟨gb128,2,none⟩=some (.bool false)∧w'.cell? ⟨gb128,3,none⟩=some (.string ((rd_T91 l0_1 x3_2).f2))) (ds:=[]) spec_SetRight.q0 (by kernel_rfl) rfl rfl (cj2_ BK125.out (cc4_ BK128.out)) (fun hHeld=>?_);refine with_tabW spec_SetRight.tab7 spec_SetRight.bits7 (fun HT_ HW_=>?_)
            generalize w89.drew=w90 at BK125 BK128 HB hHeld ⊢
            refine pu_ 0 27 spec_SetRight.q1 HT_.out ?_
            refine pu_ 2 29 spec_SetRight.q2 HT_.out ?_
            refine tk6_ 1 28 spec_SetRight.q3 HT_.out HW_.out hHeld ?_
            refine tk6_ 3 30 spec_SetRight.q4 HT_.out HW_.out hHeld ?_
            refine o1_ 4 31 spec_SetRight.q5 HT_.out (fun K hK=>?_)
            refine gs_ Try.func72 #[.slice A0_0 l0_0.length c0_0,.agg #[.int .i64 ((rd_T91 l0_1 x3_2).f0.f0),.int .i64 ((rd_T91 l0_1 x3_2).f0.f1)]] ?_
            with_reducible refine (spec_SeenHas.calls k2 _ _ l0_0 ((rd_T91 l0_1 x3_2).f0.f0) ((rd_T91 l0_1 x3_2).f0.f1) true _ ?s1 ?s2 A14.out).mono ?_
            (case s1=>repeat (first | exact (Kd.C_below HR0_0.out HB.out) | (with_reducible refine Kd.C_alloc ?_ _) | (with_reducible refine Kd.C_drewN ?_ _) | (with_reducible refine Kd.C_drew ?_)))
            (case s2=>exact HC0_0.out)
            rintro e w91 ⟨rfl,hb⟩
            refine ⟨_,rfl,?_⟩
            refine as3_ (blkB_ BK125.out hb) (blkB_ BK128.out hb) (below_step (z6_ HB.out GE125.out GE128.out) hb) ?_
            clear BK125 BK128 HB
            intro BK125 BK128 HB
            (try clear hb)
            refine hK.out _ _ (cj2_ BK125.out (cc4_ BK128.out)) (fun hHeld=>?_)
            clear hK K
            refine nm_ 31 ?_
            refine pu_ 5 32 spec_SetRight.q6 HT_.out ?_
            refine pu_ 6 33 spec_SetRight.q7 HT_.out ?_
            refine pu_ 7 34 spec_SetRight.q8 HT_.out ?_
            refine tk6_ 8 35 spec_SetRight.q9 HT_.out HW_.out hHeld ?_
            refine pu_ 9 36 spec_SetRight.q10 HT_.out ?_
            refine pu_ 10 37 spec_SetRight.q11 HT_.out ?_
            refine pu_ 11 38 spec_SetRight.q12 HT_.out ?_
            refine pu_ 12 39 spec_SetRight.q13 HT_.out ?_
            refine pu_ 13 40 spec_SetRight.q14 HT_.out ?_
            refine tk6_ 14 41 spec_SetRight.q15 HT_.out HW_.out hHeld ?_
            refine pu_ 15 42 spec_SetRight.q16 HT_.out ?_
            refine pn_ 16 43 spec_SetRight.q17 HT_.out ?_
            refine pn_ 17 44 spec_SetRight.q18 HT_.out ?_
            refine pn_ 18 45 spec_SetRight.q19 HT_.out ?_
            refine pu_ 19 46 spec_SetRight.q20 HT_.out ?_
            refine pu_ 20 47 spec_SetRight.q21 HT_.out ?_
            refine pu_ 21 48 spec_SetRight.q22 HT_.out ?_
            refine pu_ 22 49 spec_SetRight.q23 HT_.out ?_
            refine pu_ 23 50 spec_SetRight.q24 HT_.out ?_
            refine pu_ 24 51 spec_SetRight.q25 HT_.out ?_
            refine pn_ 25 52 spec_SetRight.q26 HT_.out ?_
            refine pn_ 26 53 spec_SetRight.q27 HT_.out ?_
            refine pn_ 27 54 spec_SetRight.q28 HT_.out ?_
            refine pn_ 28 55 spec_SetRight.q29 HT_.out ?_
            refine pn_ 29 56 spec_SetRight.q30 HT_.out ?_
            refine pn_ 30 57 spec_SetRight.q31 HT_.out ?_
            refine pn_ 31 58 spec_SetRight.q32 HT_.out ?_
            refine pn_ 32 59 spec_SetRight.q33 HT_.out ?_
            refine pn_ 33 60 spec_SetRight.q34 HT_.out ?_
            refine pn_ 34 61 spec_SetRight.q35 HT_.out ?_
            refine pn_ 35 62 spec_SetRight.q36 HT_.out ?_
            refine pu_ 36 63 spec_SetRight.q37 HT_.out ?_
            refine pu_ 37 64 spec_SetRight.q38 HT_.out ?_
            refine done_ (done_of HT_.out (by kernel_rfl)) ?_
            try go_wp2
            go_roundg k2
            case measure=>have:=HJ1.out;have:=HK2.out;omega
            case rel=>exact ⟨(wrap64 (x3_2+1)),(z2_),H',⟨z22_ HJ1.out HK2.out⟩,⟨z3_ BK125.out⟩,⟨z6_ HB.out GE125.out GE128.out⟩⟩
        ·replace c15:=Bool.eq_false_iff.mpr c15
         subst c15
         have H1:(some false)=some r:=by rw [if_neg (show ¬ (false=true) by decide)] at H;exact H
         clear H
         have H:=H1
         clear H1
         obtain rfl:=Option.some.inj H
         have ⟨hcz92_0,hcz92_1,hfz92_0,hfz92_1⟩:=cz2_ BK125.out
         have p127:0≤(x3_2:Int):=of_decide_eq_true (z1_)
         have q127:x3_2<(l0_1.length:Int):=of_decide_eq_true (z1_)
         obtain ⟨ad127,e127,hx127_0,hx127_1,hx127_2,hx127_3⟩:=at_T91 HR0_1.out x3_2 p127 q127
         cases e127
         replace hx127_0:=(HB.out.cell (World.block_lt_of_cell? w _ hx127_0)).trans hx127_0
         replace hx127_1:=(HB.out.cell (World.block_lt_of_cell? w _ hx127_1)).trans hx127_1
         replace hx127_2:=(HB.out.cell (World.block_lt_of_cell? w _ hx127_2)).trans hx127_2
         replace hx127_3:=(HB.out.cell (World.block_lt_of_cell? w _ hx127_3)).trans hx127_3
         replace p127:=eq_true p127
         replace q127:=eq_true q127
         try go_wp2_with (first | ((with_reducible refine gd_ 4 ?_);(try (refine gate_guard (by rfl) ?_;dsimp only));refine be_ 4 #[.int .i64 0,.int .i64 0,.bool false,.string (⟨#[]⟩:ByteArray)] 91 ?_;intro gb128 hg w93 hbox hb;refine as7_ (blkB_ BK125.out hb) (below_step (z4_ HB.out GE125.out) hb) (hbox) ((z11_ HB.out GE125.out:w.heap.size≤gb128)) ((z11_ HB.out GE125.out:w.heap.size≤gb128)) (neL_ BK125.out hg) (neG_ BK125.out hg) ?_;clear BK125 HB;intro BK125 HB BK128 GW128 GE128 NB125_128 NB128_125;clear hb hbox hg;have hnb94:=NB128_125.out;have hnc94:=NB125_128.out;have ⟨hcz95_0,hcz95_1,hcz95_2,hcz95_3,hfz95_0,hfz95_1,hfz95_2,hfz95_3⟩:=cz4_ BK128.out))
         have n0_:Aside0 (((((w93.setCell ⟨gb128,0,none⟩ (.int .i64 ((rd_T91 l0_1 x3_2).f0.f0))).setCell ⟨gb128,1,none⟩ (.int .i64 ((rd_T91 l0_1 x3_2).f0.f1))).setCell ⟨gb128,2,none⟩ (.bool ((rd_T91 l0_1 x3_2).f1))).setCell ⟨gb128,3,none⟩ (.string ((rd_T91 l0_1 x3_2).f2))).heap[gb125]? = some (.cells #[.slice A0_0 l0_0.length c0_0,.slice (some ad127) l0_1.length c0_1] 40 (0,0))):=⟨z26_ NB125_128.out BK125.out⟩
         have n1_:Aside0 (((((w93.setCell ⟨gb128,0,none⟩ (.int .i64 ((rd_T91 l0_1 x3_2).f0.f0))).setCell ⟨gb128,1,none⟩ (.int .i64 ((rd_T91 l0_1 x3_2).f0.f1))).setCell ⟨gb128,2,none⟩ (.bool ((rd_T91 l0_1 x3_2).f1))).setCell ⟨gb128,3,none⟩ (.string ((rd_T91 l0_1 x3_2).f2))).heap[gb128]? = some (.cells #[.int .i64 ((rd_T91 l0_1 x3_2).f0.f0),.int .i64 ((rd_T91 l0_1 x3_2).f0.f1),.bool ((rd_T91 l0_1 x3_2).f1),.string ((rd_T91 l0_1 x3_2).f2)] 91 (0,0))):=⟨z27_ BK128.out⟩
         have n2_:Aside0 (Below w.heap.size w ((((w93.setCell ⟨gb128,0,none⟩ (.int .i64 ((rd_T91 l0_1 x3_2).f0.f0))).setCell ⟨gb128,1,none⟩ (.int .i64 ((rd_T91 l0_1 x3_2).f0.f1))).setCell ⟨gb128,2,none⟩ (.bool ((rd_T91 l0_1 x3_2).f1))).setCell ⟨gb128,3,none⟩ (.string ((rd_T91 l0_1 x3_2).f2)))):=⟨z6_ HB.out GE125.out GE128.out⟩
         (try clear BK125)
         (try clear BK128)
         (try clear HB)
         generalize ((((w93.setCell ⟨gb128,0,none⟩ (.int .i64 ((rd_T91 l0_1 x3_2).f0.f0))).setCell ⟨gb128,1,none⟩ (.int .i64 ((rd_T91 l0_1 x3_2).f0.f1))).setCell ⟨gb128,2,none⟩ (.bool ((rd_T91 l0_1 x3_2).f1))).setCell ⟨gb128,3,none⟩ (.string ((rd_T91 l0_1 x3_2).f2)))=w96 at n0_ n1_ n2_ ⊢
         have BK125:=n0_
         have BK128:=n1_
         have HB:=n2_
         clear n0_ n1_ n2_
         refine as3_ (blk_drew BK125.out) (blk_drew BK128.out) (below_drew1 HB.out) ?_
         clear BK125 BK128 HB
         intro BK125 BK128 HB
         refine start_ (n:=38) (S:=fun w'=>w'.cell? ⟨gb125,0,none⟩=some (.slice A0_0 l0_0.length c0_0)∧w'.cell? ⟨gb125,1,none⟩=some (.slice (some ad127) l0_1.length c0_1)∧w'.cell? ⟨gb128,0,none⟩=some (.int .i64 ((rd_T91 l0_1 x3_2).f0.f0))∧w'.cell? ⟨gb128,1,none⟩=some (.int .i64 ((rd_T91 l0_1 x3_2).f0.f1))∧w'.cell? ⟨gb128,2,none⟩=some (.bool ((rd_T91 l0_1 x3_2).f1))∧w'.cell? ⟨gb128,3,none⟩=some (.string ((rd_T91 l0_1 x3_2).f2))) (ds:=[]) spec_SetRight.q0 (by kernel_rfl) rfl rfl (cj2_ BK125.out (cc4_ BK128.out)) (fun hHeld=>?_);refine with_tabW spec_SetRight.tab7 spec_SetRight.bits7 (fun HT_ HW_=>?_)
         generalize w96.drew=w97 at BK125 BK128 HB hHeld ⊢
         refine pu_ 0 27 spec_SetRight.q1 HT_.out ?_
         refine pu_ 2 29 spec_SetRight.q2 HT_.out ?_
         refine tk6_ 1 28 spec_SetRight.q3 HT_.out HW_.out hHeld ?_
         refine tk6_ 3 30 spec_SetRight.q4 HT_.out HW_.out hHeld ?_
         refine o1_ 4 31 spec_SetRight.q5 HT_.out (fun K hK=>?_)
         refine gs_ Try.func72 #[.slice A0_0 l0_0.length c0_0,.agg #[.int .i64 ((rd_T91 l0_1 x3_2).f0.f0),.int .i64 ((rd_T91 l0_1 x3_2).f0.f1)]] ?_
         with_reducible refine (spec_SeenHas.calls k2 _ _ l0_0 ((rd_T91 l0_1 x3_2).f0.f0) ((rd_T91 l0_1 x3_2).f0.f1) false _ ?s1 ?s2 A14.out).mono ?_
         (case s1=>repeat (first | exact (Kd.C_below HR0_0.out HB.out) | (with_reducible refine Kd.C_alloc ?_ _) | (with_reducible refine Kd.C_drewN ?_ _) | (with_reducible refine Kd.C_drew ?_)))
         (case s2=>exact HC0_0.out)
         rintro e w98 ⟨rfl,hb⟩
         refine ⟨_,rfl,?_⟩
         refine as3_ (blkB_ BK125.out hb) (blkB_ BK128.out hb) (below_step (z6_ HB.out GE125.out GE128.out) hb) ?_
         clear BK125 BK128 HB
         intro BK125 BK128 HB
         (try clear hb)
         refine hK.out _ _ (cj2_ BK125.out (cc4_ BK128.out)) (fun hHeld=>?_)
         clear hK K
         refine nm_ 31 ?_
         refine pu_ 5 32 spec_SetRight.q6 HT_.out ?_
         refine pu_ 6 33 spec_SetRight.q7 HT_.out ?_
         refine pn_ 7 34 spec_SetRight.q8 HT_.out ?_
         refine pn_ 8 35 spec_SetRight.q9 HT_.out ?_
         refine pn_ 9 36 spec_SetRight.q10 HT_.out ?_
         refine pn_ 10 37 spec_SetRight.q11 HT_.out ?_
         refine pu_ 11 38 spec_SetRight.q12 HT_.out ?_
         refine pu_ 12 39 spec_SetRight.q13 HT_.out ?_
         refine pn_ 13 40 spec_SetRight.q14 HT_.out ?_
         refine pn_ 14 41 spec_SetRight.q15 HT_.out ?_
         refine pn_ 15 42 spec_SetRight.q16 HT_.out ?_
         refine pn_ 16 43 spec_SetRight.q17 HT_.out ?_
         refine pn_ 17 44 spec_SetRight.q18 HT_.out ?_
         refine pn_ 18 45 spec_SetRight.q19 HT_.out ?_
         refine pn_ 19 46 spec_SetRight.q20 HT_.out ?_
         refine pu_ 20 47 spec_SetRight.q21 HT_.out ?_
         refine pu_ 21 48 spec_SetRight.q22 HT_.out ?_
         refine pn_ 22 49 spec_SetRight.q23 HT_.out ?_
         refine pn_ 23 50 spec_SetRight.q24 HT_.out ?_
         refine pn_ 24 51 spec_SetRight.q25 HT_.out ?_
         refine pn_ 25 52 spec_SetRight.q26 HT_.out ?_
         refine pn_ 26 53 spec_SetRight.q27 HT_.out ?_
         refine pn_ 27 54 spec_SetRight.q28 HT_.out ?_
         refine pn_ 28 55 spec_SetRight.q29 HT_.out ?_
         refine pn_ 29 56 spec_SetRight.q30 HT_.out ?_
         refine pn_ 30 57 spec_SetRight.q31 HT_.out ?_
         refine pn_ 31 58 spec_SetRight.q32 HT_.out ?_
         refine pn_ 32 59 spec_SetRight.q33 HT_.out ?_
         refine pn_ 33 60 spec_SetRight.q34 HT_.out ?_
         refine pn_ 34 61 spec_SetRight.q35 HT_.out ?_
         refine pn_ 35 62 spec_SetRight.q36 HT_.out ?_
         refine pn_ 36 63 spec_SetRight.q37 HT_.out ?_
         refine pu_ 37 64 spec_SetRight.q38 HT_.out ?_
         refine done_ (done_of HT_.out (by kernel_rfl)) ?_
         try go_wp2
         go_ret
         exact ⟨z8_,z6_ HB.out GE125.out GE128.out⟩
       ·rw [if_neg c13] at H
        exact absurd H (by simp)
      ·rw [if_neg c12] at H
       have c12b0:decide (x3_2<(l0_1.length:Int))=false:=decide_eq_false c12
       clear c12
       obtain rfl:=Option.some.inj H
       have ⟨hcz99_0,hcz99_1,hfz99_0,hfz99_1⟩:=cz2_ BK125.out
       go_wp2
       go_ret
       exact ⟨z8_,z4_ HB.out GE125.out⟩

end Go.Proofs.Ytphbgcfpcadabaa.P
