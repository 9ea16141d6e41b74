/- For every client and key the program's ClientSeen and the reference's return the same marks; the client stays as it was, and what is returned shares nothing with it nor with another answer. No condition. (Part 1 of 2: written by programs of this workplace and by hand, merged.) -/
import Derived.Test.YtlglglbjckpnbaaProg
import Derived.Below
import Derived.Deep.Draws
import Derived.Deep.AppendLies
import Derived.Maps.AppendAt
import Derived.OwnWalk
import Derived.Laws.BytesArg
import Derived.Laws.MakeOwn
import Derived.Laws.OwnMore
import Derived.Deep.OwnRows
import Derived.Tactics
import Derived.Lib.ConvBytes
import Derived.Laws.Slices
import Derived.WalkKit
import Derived.KernelRfl
import Derived.RowKit3
import Derived.Deep.LoopGhost
import Derived.Deep.QuietTactic
import Derived.BigQuiet
import Derived.WideLaws
import Derived.Deep.DeepCutAuto
import Derived.Deep.CutBlock
import Derived.Deep.RegionHeld3
import Derived.Laws.Rows
import Derived.Lib.AppendStr
import Derived.ArgAppend
import Derived.Laws.IdiomCopy
import Derived.OrdersHeld
import Derived.Laws.BitsLemmas
import Derived.RowKit
import Derived.Lib.Bytealg
import Derived.Lib.Walk
import Derived.Test.YtlglglbjckpnbaaMFnExactClientSeenWWords
import Derived.Test.YtlglglbjckpnbaaMFnExactClientSeenWLast
import Derived.Test.YtlglglbjckpnbaaMFnExactClientSeenWTab
import Derived.Test.YtlglglbjckpnbaaMFnExactClientSeenWApart
import Derived.Test.YtlglglbjckpnbaaMFnExactClientSeenWFoot
import Derived.Test.YtlglglbjckpnbaaMFnExactClientSeenWKept
import Derived.Test.YtlglglbjckpnbaaMFnExactClientSeenWShare
import Derived.Test.YtlglglbjckpnbaaMFnExactClientSeenWN
import Derived.Laws.StructEq
import Derived.Test.YtlglglbjckpnbaaMFnExactClientSeenWRepsOne
import Derived.Test.YtlglglbjckpnbaaMFnExactClientSeenWGuard
import Derived.Test.YtlglglbjckpnbaaMFnExactClientSeenWMore
import Derived.ChangeArms
import Derived.ChangeSlices
import Derived.WideShapes
import Derived.Laws.Cover1
set_option linter.unusedVariables false
set_option linter.unusedSimpArgs false
set_option maxHeartbeats 8000000
set_option maxRecDepth 100000

namespace Go.Proofs.Ytlglglbjckpnbaa.P
open Go.RowKit Go.Proofs.YtlglglbjckpnbaaW.PrintWords Go.Proofs.YtlglglbjckpnbaaW.PrintLast Go.Proofs.YtlglglbjckpnbaaW.PrintMore
attribute [local go_sem] max2_int min2_int max_two min_two max_three min_three max_four min_four   -- for this text's walks alone
set_option linter.unusedVariables false
set_option linter.unusedSimpArgs false

theorem sa_ {α:Type _} (l:List α) (i:Nat) (a:α):l.toArray.setIfInBounds i a=(l.set i a).toArray:=List.setIfInBounds_toArray ..
theorem s0_ {α:Type _} (x:α) (l:List α) (a:α):(x :: l).set 0 a=a :: l:=List.set_cons_zero ..
theorem ss_ {α:Type _} (x:α) (l:List α) (n:Nat) (a:α):(x :: l).set (n+1) a=x :: l.set n a:=List.set_cons_succ ..
section
variable {P:Program} {ops:Array Oper} {Q:Exit→Act→World→Prop}
end



def errW:Option Int→Value
  | none=>.nilIface
  | some c=>.iface 0 (.int .i64 c)
theorem errW_none:errW none = .nilIface:=rfl
theorem errW_some (c:Int):errW (some c) = .iface 0 (.int .i64 c):=rfl

theorem info30:(Try.prog.info? 30).map (fun i=>(i.zero,i.size,i.bytes))=some (some (.agg #[(.int .i64 0),(.int .i64 0)]),2,16):=by kernel_rfl
theorem info111:(Try.prog.info? 111).map (fun i=>(i.zero,i.size,i.bytes))=some (some (.agg #[(.string ⟨#[]⟩),(.slice none 0 0)]),2,40):=by kernel_rfl
-- the values' own types
/-! #### struct type 30 -/
structure S30 where
  f0:Int
  f1:Int
def z30:S30:=⟨(0:Int),(0:Int)⟩
def k30:Kd S30:=Kd.iso (Kd.pair (Kd.int .i64) (Kd.int .i64)) (fun x:S30=>(x.f0,x.f1))
theorem k30_open {w:World} {x:S30} {cs:List Value} (h:k30.K w x cs):cs=[.int .i64 x.f0,.int .i64 x.f1]:=by
  obtain ⟨_,_,rfl,rfl,rfl⟩:=h
  exact rfl
theorem k30_openM {w:World} {base:Nat} {ok:Nat→Prop} {x:S30} {cs:List Value} (h:k30.M w base ok x cs):cs=[.int .i64 x.f0,.int .i64 x.f1]:=by
  obtain ⟨_,_,rfl,rfl,rfl⟩:=h
  exact rfl
theorem k30_mkM (w:World) (base:Nat) (ok:Nat→Prop) (x:S30)  : k30.M w base ok x [.int .i64 x.f0,.int .i64 x.f1]:=⟨[.int .i64 x.f0],[.int .i64 x.f1],rfl,rfl,rfl⟩
def rd_T30 (xs:List S30) (i:Int):S30:=xs.getD i.toNat z30
theorem at_T30 {w:World} {A:Option Addr} {n:Nat} {xs:List S30} (h:Kd.C k30 w A n xs) (i:Int) (h0:0≤i) (h1:i<n):∃ ad , A=some ad∧w.cell? (ad.add (i.toNat*2))=some (.int .i64 (rd_T30 xs i).f0)∧w.cell? ⟨(ad.add (i.toNat*2)).block,(ad.add (i.toNat*2)).off+1,none⟩=some (.int .i64 (rd_T30 xs i).f1):=by
  obtain ⟨ad,c,e,_,hK,hc0⟩:=Kd.C_get h z30 i h0 h1
  have hc:∀ j u,c[j]? = some u→w.cell? (ad.add (i.toNat*2+j))=some u:=hc0
  obtain rfl:=k30_open hK
  exact ⟨ad,e,hc 0 _ rfl,by rw [← add_field _ _ 1 (by omega)];exact hc 1 _ rfl⟩

/-! #### struct type 92 -/
structure S92 where
  f0:Int
  f1:Int
def z92:S92:=⟨(0:Int),(0:Int)⟩
def k92:Kd S92:=Kd.iso (Kd.pair (Kd.int .i64) (Kd.int .i64)) (fun x:S92=>(x.f0,x.f1))
theorem k92_open {w:World} {x:S92} {cs:List Value} (h:k92.K w x cs):cs=[.int .i64 x.f0,.int .i64 x.f1]:=by
  obtain ⟨_,_,rfl,rfl,rfl⟩:=h
  exact rfl
def rd_T92 (xs:List S92) (i:Int):S92:=xs.getD i.toNat z92
theorem at_T92 {w:World} {A:Option Addr} {n:Nat} {xs:List S92} (h:Kd.C k92 w A n xs) (i:Int) (h0:0≤i) (h1:i<n):∃ ad , A=some ad∧w.cell? (ad.add (i.toNat*2))=some (.int .i64 (rd_T92 xs i).f0)∧w.cell? ⟨(ad.add (i.toNat*2)).block,(ad.add (i.toNat*2)).off+1,none⟩=some (.int .i64 (rd_T92 xs i).f1):=by
  obtain ⟨ad,c,e,_,hK,hc0⟩:=Kd.C_get h z92 i h0 h1
  have hc:∀ j u,c[j]? = some u→w.cell? (ad.add (i.toNat*2+j))=some u:=hc0
  obtain rfl:=k92_open hK
  exact ⟨ad,e,hc 0 _ rfl,by rw [← add_field _ _ 1 (by omega)];exact hc 1 _ rfl⟩

/-! #### struct type 134 -/
structure S134 where
  f0:ByteArray
  f1:(List S92)
def z134:S134:=⟨(⟨#[]⟩:ByteArray),([]:List S92)⟩
def k134:Kd S134:=Kd.iso (Kd.pair Kd.string (Kd.slice 92 k92)) (fun x:S134=>(x.f0,x.f1))
theorem k134_open {w:World} {x:S134} {cs:List Value} (h:k134.K w x cs):∃ A1 c1,cs=[.string x.f0,.slice A1 x.f1.length c1]∧x.f1.length≤c1∧k92.C w A1 x.f1.length x.f1:=by
  obtain ⟨_,_,rfl,rfl,⟨A1,c1,rfl,l1,g1⟩⟩:=h
  exact ⟨A1,c1,rfl,l1,g1⟩
def rd_T134 (xs:List S134) (i:Int):S134:=xs.getD i.toNat z134
theorem at_T134 {w:World} {A:Option Addr} {n:Nat} {xs:List S134} (h:Kd.C k134 w A n xs) (i:Int) (h0:0≤i) (h1:i<n):∃ ad A1 c1,A=some ad∧w.cell? (ad.add (i.toNat*2))=some (.string (rd_T134 xs i).f0)∧w.cell? ⟨(ad.add (i.toNat*2)).block,(ad.add (i.toNat*2)).off+1,none⟩=some (.slice A1 (rd_T134 xs i).f1.length c1)∧(rd_T134 xs i).f1.length≤c1∧k92.C w A1 (rd_T134 xs i).f1.length (rd_T134 xs i).f1:=by
  obtain ⟨ad,c,e,_,hK,hc0⟩:=Kd.C_get h z134 i h0 h1
  have hc:∀ j u,c[j]? = some u→w.cell? (ad.add (i.toNat*2+j))=some u:=hc0
  obtain ⟨A1,c1,rfl,l1,g1⟩:=k134_open hK
  exact ⟨ad,A1,c1,e,hc 0 _ rfl,by rw [← add_field _ _ 1 (by omega)];exact hc 1 _ rfl,l1,g1⟩

/-! #### struct type 111 -/
structure S111 where
  f0:ByteArray
  f1:(List S30)
def z111:S111:=⟨(⟨#[]⟩:ByteArray),([]:List S30)⟩
def k111:Kd S111:=Kd.iso (Kd.pair Kd.string (Kd.slice 30 k30)) (fun x:S111=>(x.f0,x.f1))
theorem k111_open {w:World} {x:S111} {cs:List Value} (h:k111.K w x cs):∃ A1 c1,cs=[.string x.f0,.slice A1 x.f1.length c1]∧x.f1.length≤c1∧k30.C w A1 x.f1.length x.f1:=by
  obtain ⟨_,_,rfl,rfl,⟨A1,c1,rfl,l1,g1⟩⟩:=h
  exact ⟨A1,c1,rfl,l1,g1⟩
theorem k111_openM {w:World} {base:Nat} {ok:Nat→Prop} {x:S111} {cs:List Value} (h:k111.M w base ok x cs):∃ v1,cs=[.string x.f0,v1]∧k30.R 30 w base ok v1 x.f1:=by
  obtain ⟨_,_,rfl,rfl,⟨v1,rfl,g1⟩⟩:=h
  exact ⟨v1,rfl,g1⟩
theorem k111_mkM (w:World) (base:Nat) (ok:Nat→Prop) (x:S111) {v1:Value} (g1:k30.R 30 w base ok v1 x.f1):k111.M w base ok x [.string x.f0,v1]:=⟨[.string x.f0],[v1],rfl,rfl,⟨v1,rfl,g1⟩⟩
def rd_T111 (xs:List S111) (i:Int):S111:=xs.getD i.toNat z111
theorem at_T111 {w:World} {A:Option Addr} {n:Nat} {xs:List S111} (h:Kd.C k111 w A n xs) (i:Int) (h0:0≤i) (h1:i<n):∃ ad A1 c1,A=some ad∧w.cell? (ad.add (i.toNat*2))=some (.string (rd_T111 xs i).f0)∧w.cell? ⟨(ad.add (i.toNat*2)).block,(ad.add (i.toNat*2)).off+1,none⟩=some (.slice A1 (rd_T111 xs i).f1.length c1)∧(rd_T111 xs i).f1.length≤c1∧k30.C w A1 (rd_T111 xs i).f1.length (rd_T111 xs i).f1:=by
  obtain ⟨ad,c,e,_,hK,hc0⟩:=Kd.C_get h z111 i h0 h1
  have hc:∀ j u,c[j]? = some u→w.cell? (ad.add (i.toNat*2+j))=some u:=hc0
  obtain ⟨A1,c1,rfl,l1,g1⟩:=k111_open hK
  exact ⟨ad,A1,c1,e,hc 0 _ rfl,by rw [← add_field _ _ 1 (by omega)];exact hc 1 _ rfl,l1,g1⟩

/-! #### struct type 42 -/
structure S42 where
  f0:(List S134)
def k42:Kd S42:=Kd.iso (Kd.slice 134 k134) (fun x:S42=>x.f0)
theorem k42_open {w:World} {x:S42} {cs:List Value} (h:k42.K w x cs):∃ A0 c0,cs=[.slice A0 x.f0.length c0]∧x.f0.length≤c0∧k134.C w A0 x.f0.length x.f0:=by
  obtain ⟨A0,c0,rfl,l0,g0⟩:=h
  exact ⟨A0,c0,rfl,l0,g0⟩
end Go.Proofs.Ytlglglbjckpnbaa.P

namespace Go.Proofs.Ytlglglbjckpnbaa.P
open Go.RowKit Go.Proofs.YtlglglbjckpnbaaW.PrintWords Go.Proofs.YtlglglbjckpnbaaW.PrintLast Go.Proofs.YtlglglbjckpnbaaW.PrintMore
abbrev I:=true
abbrev O:=false
theorem mO {p:Prop} (h:p:=by repeat' first | (with_reducible exact LeO.refl _) | (with_reducible exact LeO.none _) | (with_reducible refine LeO.ite ?_ ?_) | (with_reducible refine LeO.bind ?_ (fun _=>?_)) | (with_reducible apply_assumption) | apply_assumption | exact LeO.none _ | refine LeO.ite ?_ ?_ | refine LeO.bind ?_ (fun _=>?_)):p:=h
theorem nO {q p:Prop} (h:q) (f:¬q:=by simp):p:=absurd h f
theorem aM {p:Prop} (h:p):Aside0 p:=⟨h⟩
theorem sI {α:Type _} {a b:α} (h:some a=some b):a=b:=Option.some.inj h
theorem bS {α β:Type _} {x:Option α} {f:α→Option β} {b:β} (h:x.bind f=some b):∃ a,x=some a∧f a=some b:=Option.bind_eq_some_iff.mp h
theorem dT {p:Prop} [Decidable p] (h:decide p=true):p:=of_decide_eq_true h
theorem dE {p:Prop} [Decidable p] (h:p):decide p=true:=decide_eq_true h
theorem dF {p:Prop} [Decidable p] (h:¬p):decide p=false:=decide_eq_false h
section
variable {P:Program} {ops:Array Oper} {Q:Exit→Act→World→Prop} {md:Region.Mode} {S:World→Prop} {ds:List Nat}
theorem pu_ {T:Bool × List (List Nat × List Nat)} (i:Nat) (N:Tmp) {oi:Oper} {v:Value} {fuel:Nat} {l:Array Bool} {a a':Act} {w:World} (l':Array Bool) (hT:rtab md ops=T) (h:wpAnyLast P md ops Q S ds fuel l' a' w) (hi:ops[i]? = some oi:=by exact rfl) (hN:oi.dst=some N:=by exact rfl) (hc:anyT T l.toList l'.toList i=true:=by kernel_rfl) (hQ:∀ c a w,Q (.panic c) (a.put oi.dst v) w→Q (.panic c) a w:=by exact fun _ _ _ h=>h) (hw:Region.wanted oi (yielded ops a.tmps)=true:=by rfl) (hy:∀ w',(execOp a.eval oi).run P w' = .ok (.value v) w':=by (intro w');go_simp;(with_reducible rfl)) (ha:a.put (some N) v=a':=by (simp only [Act.put,sa_,s0_,ss_,i64_w,i32_w]);exact rfl):wpAnyLast P md ops Q S ds (fuel+1) l a w:=pure_ l' hi hN (any_of hT hc) hQ (Or.inl ⟨hw,hy⟩) ha h
theorem pn_ {T:Bool × List (List Nat × List Nat)} (i:Nat) (N:Tmp) {oi:Oper} {v:Value} {fuel:Nat} {l:Array Bool} {a a':Act} {w:World} (l':Array Bool) (hT:rtab md ops=T) (h:wpAnyLast P md ops Q S ds fuel l' a' w) (hi:ops[i]? = some oi:=by exact rfl) (hN:oi.dst=some N:=by exact rfl) (hc:anyT T l.toList l'.toList i=true:=by kernel_rfl) (hQ:∀ c a w,Q (.panic c) (a.put oi.dst v) w→Q (.panic c) a w:=by exact fun _ _ _ h=>h) (hw:Region.wanted oi (yielded ops a.tmps)=false:=by rfl) (hy:v=undef:=by rfl) (ha:a.put (some N) v=a':=by (simp only [Act.put,sa_,s0_,ss_,i64_w,i32_w]);exact rfl):wpAnyLast P md ops Q S ds (fuel+1) l a w:=pure_ l' hi hN (any_of hT hc) hQ (Or.inr ⟨hw,hy⟩) ha h
theorem tk2_ {T:Bool × List (List Nat × List Nat)} (i:Nat) (N:Tmp) {oi:Oper} {v:Value} {fuel:Nat} {l:Array Bool} {a a':Act} {w:World} (l':Array Bool) {B:List Nat} (hT:rtab md ops=T) (hB:waitsOk T.2 B=true) (hS:S w) (h:wpAnyLast P md ops Q S ds fuel l' a' w) (hi:ops[i]? = some oi:=by exact rfl) (hN:oi.dst=some N:=by exact rfl) (hc:takeW T B ds l.toList l'.toList i=true:=by kernel_rfl) (hQ:∀ c a w,Q (.panic c) (a.put oi.dst v) w→Q (.panic c) a w:=by exact fun _ _ _ h=>h) (hw:Region.wanted oi (yielded ops a.tmps)=true:=by rfl) (hy:∀ w',S w'→(execOp a.eval oi).run P w' = .ok (.value v) w':=by (rintro w' ⟨s0,s1⟩);go_simp;(with_reducible rfl)) (ha:a.put (some N) v=a':=by (simp only [Act.put,sa_,s0_,ss_,i64_w,i32_w]);exact rfl):wpAnyLast P md ops Q S ds (fuel+1) l a w:=take_ l' hi hN (take_ofW hT hB hc) hQ (Or.inl ⟨hw,hy⟩) hS ha h
theorem tk4_ {T:Bool × List (List Nat × List Nat)} (i:Nat) (N:Tmp) {oi:Oper} {v:Value} {fuel:Nat} {l:Array Bool} {a a':Act} {w:World} (l':Array Bool) {B:List Nat} (hT:rtab md ops=T) (hB:waitsOk T.2 B=true) (hS:S w) (h:wpAnyLast P md ops Q S ds fuel l' a' w) (hi:ops[i]? = some oi:=by exact rfl) (hN:oi.dst=some N:=by exact rfl) (hc:takeW T B ds l.toList l'.toList i=true:=by kernel_rfl) (hQ:∀ c a w,Q (.panic c) (a.put oi.dst v) w→Q (.panic c) a w:=by exact fun _ _ _ h=>h) (hw:Region.wanted oi (yielded ops a.tmps)=true:=by rfl) (hy:∀ w',S w'→(execOp a.eval oi).run P w' = .ok (.value v) w':=by (rintro w' ⟨s0,s1,s2,s3⟩);go_simp;(with_reducible rfl)) (ha:a.put (some N) v=a':=by (simp only [Act.put,sa_,s0_,ss_,i64_w,i32_w]);exact rfl):wpAnyLast P md ops Q S ds (fuel+1) l a w:=take_ l' hi hN (take_ofW hT hB hc) hQ (Or.inl ⟨hw,hy⟩) hS ha h
theorem tk5_ {T:Bool × List (List Nat × List Nat)} (i:Nat) (N:Tmp) {oi:Oper} {v:Value} {fuel:Nat} {l:Array Bool} {a a':Act} {w:World} (l':Array Bool) {B:List Nat} (hT:rtab md ops=T) (hB:waitsOk T.2 B=true) (hS:S w) (h:wpAnyLast P md ops Q S ds fuel l' a' w) (hi:ops[i]? = some oi:=by exact rfl) (hN:oi.dst=some N:=by exact rfl) (hc:takeW T B ds l.toList l'.toList i=true:=by kernel_rfl) (hQ:∀ c a w,Q (.panic c) (a.put oi.dst v) w→Q (.panic c) a w:=by exact fun _ _ _ h=>h) (hw:Region.wanted oi (yielded ops a.tmps)=true:=by rfl) (hy:∀ w',S w'→(execOp a.eval oi).run P w' = .ok (.value v) w':=by (rintro w' ⟨s0,s1,s2,s3,s4⟩);go_simp;(with_reducible rfl)) (ha:a.put (some N) v=a':=by (simp only [Act.put,sa_,s0_,ss_,i64_w,i32_w]);exact rfl):wpAnyLast P md ops Q S ds (fuel+1) l a w:=take_ l' hi hN (take_ofW hT hB hc) hQ (Or.inl ⟨hw,hy⟩) hS ha h
theorem tk6_ {T:Bool × List (List Nat × List Nat)} (i:Nat) (N:Tmp) {oi:Oper} {v:Value} {fuel:Nat} {l:Array Bool} {a a':Act} {w:World} (l':Array Bool) {B:List Nat} (hT:rtab md ops=T) (hB:waitsOk T.2 B=true) (hS:S w) (h:wpAnyLast P md ops Q S ds fuel l' a' w) (hi:ops[i]? = some oi:=by exact rfl) (hN:oi.dst=some N:=by exact rfl) (hc:takeW T B ds l.toList l'.toList i=true:=by kernel_rfl) (hQ:∀ c a w,Q (.panic c) (a.put oi.dst v) w→Q (.panic c) a w:=by exact fun _ _ _ h=>h) (hw:Region.wanted oi (yielded ops a.tmps)=true:=by rfl) (hy:∀ w',S w'→(execOp a.eval oi).run P w' = .ok (.value v) w':=by (rintro w' ⟨s0,s1,s2,s3,s4,s5⟩);go_simp;(with_reducible rfl)) (ha:a.put (some N) v=a':=by (simp only [Act.put,sa_,s0_,ss_,i64_w,i32_w]);exact rfl):wpAnyLast P md ops Q S ds (fuel+1) l a w:=take_ l' hi hN (take_ofW hT hB hc) hQ (Or.inl ⟨hw,hy⟩) hS ha h
theorem o1_ {T:Bool × List (List Nat × List Nat)} (i:Nat) (N:Tmp) {oi:Oper} {fuel:Nat} {l:Array Bool} {a:Act} {w:World} (l':Array Bool) (hT:rtab md ops=T) (h:∀ K:Act→World→Prop,Shut (∀ a' w',S w'→(S w'→wpAnyLast P md ops Q S ds fuel l' a' w')→K a' w')→if Region.wanted oi (yielded ops a.tmps)=true then Oper.wp P oi a w K Q else K (a.put (some N) undef) w) (hi:ops[i]? = some oi:=by exact rfl) (hN:oi.dst=some N:=by exact rfl) (hc:(readyT T.2 l.toList == [i] && l.toList.set i true == l'.toList)=true:=by kernel_rfl) (hd:i ∉ ds:=by decide):wpAnyLast P md ops Q S ds (fuel+1) l a w:=one_ l' hi hN (one_of hT hc) hd h
theorem nm_ (N:Tmp) {fuel:Nat} {l:Array Bool} {a a':Act} {v:Value} {w:World} (h:wpAnyLast P md ops Q S ds fuel l a' w) (ha:Act.put a (some N) v=a':=by simp only [Act.put,sa_,s0_,ss_,i64_w,i32_w];rfl):wpAnyLast P md ops Q S ds fuel l (Act.put a (some N) v) w:=norm_ ha h
end
section
variable {P:Program} {ops:Array Oper} {rest:List Oper} {o:Oper} {a:Act} {Q:Exit→Act→World→Prop} {W:World}
theorem gd_ (N:Tmp) (h:wpList P ops Q (o :: rest) a W) (hN:o.dst=some N:=by with_reducible rfl):wpList P ops Q (o :: rest) a W:=h
theorem gc_ (f:FuncId) {ars:Array Operand} {ts:Array TypeId} (h:wpList P ops Q (o :: rest) a W) (ho:o.op = .call { callee:=.value (.func f),args:=ars,argTypes:=ts }:=by with_reducible rfl):wpList P ops Q (o :: rest) a W:=h
theorem be_ (N:Tmp) (cs:Array Value) (t:TypeId) (h:∀ g,g=W.heap.size→∀ w1,w1.heap[g]? = some (.cells cs t (0,0))→Below W.heap.size W w1→wpList P ops Q rest (a.put o.dst (.pointer (some ⟨g,0,none⟩))) w1) (hd:o.dst=some N:=by rfl) (hgd:o.guard=none:=by rfl) (hrun:(execOp a.eval o).run P W = .ok (.value (.pointer (some ⟨W.heap.size,0,none⟩))) (W.alloc (.cells cs t (0,0))):=by first | (go_simp;done) | (go_simp;rfl)):wpList P ops Q (o :: rest) a W:=box_event hgd hd hrun h
theorem gl_ (N:Option Tmp) {f:FuncId} {fn:Func} {ars:Array Operand} {ts:Array TypeId} (hf:P.funcs[f]? = some fn) (args:Array Value) (h:Calls P f args W fun e w'=>∃ v,e = .returned v∧wpList P ops Q rest (a.put N v) w') (hd:o.dst=N:=by exact rfl) (hg:o.guard=none:=by exact rfl) (hname:(fn.name == "runtime.NumGoroutine")=false:=by kernel_rfl) (hb:fn.body.isSome=true:=by exact rfl) (hop:o.op = .call { callee:=.value (.func f),args:=ars,argTypes:=ts }:=by exact rfl) (hargs:ars.map a.eval=args:=by (try simp only [List.map_toArray,List.map_cons,List.map_nil]);first | done | rfl | (simp only [List.length_drop,List.length_take];rfl)):wpList P ops Q (o :: rest) a W:=goesL_ N hd hg hf hname hb args hop hargs h
theorem gs_ {N:Option Tmp} {K:Act→World→Prop} {f:FuncId} {fn:Func} {ars:Array Operand} {ts:Array TypeId} (hf:P.funcs[f]? = some fn) (args:Array Value) (h:Calls P f args W fun e w'=>∃ v,e = .returned v∧K (a.put N v) w') (hname:(fn.name == "runtime.NumGoroutine")=false:=by kernel_rfl) (hb:fn.body.isSome=true:=by exact rfl) (hw:Region.wanted o (yielded ops a.tmps)=true:=by rfl) (hN:o.dst=N:=by exact rfl) (hop:o.op = .call { callee:=.value (.func f),args:=ars,argTypes:=ts }:=by exact rfl) (hargs:ars.map a.eval=args:=by (try simp only [List.map_toArray,List.map_cons,List.map_nil]);first | done | rfl | (simp only [List.length_drop,List.length_take];rfl)):if Region.wanted o (yielded ops a.tmps)=true then Oper.wp P o a W K Q else K (a.put N undef) W:=goes_ hf hname hb args hw hN hop hargs h
end
theorem cc2_ {w:World} {g:Nat} {t:TypeId} {v0 v1:Value} (h:w.heap[g]? = some (.cells #[v0,v1] t (0,0))):w.cell? ⟨g,0,none⟩=some v0∧w.cell? ⟨g,1,none⟩=some v1:=⟨blk_cell h 0,blk_cell h 1⟩
theorem cj2_ {p:Prop} {w:World} {g:Nat} {t:TypeId} {v0 v1:Value} (h:w.heap[g]? = some (.cells #[v0,v1] t (0,0))) (r:p):w.cell? ⟨g,0,none⟩=some v0∧w.cell? ⟨g,1,none⟩=some v1∧p:=⟨blk_cell h 0,blk_cell h 1,r⟩
theorem blkB_ {W0 W W':World} {g:Nat} {o:Obj} (h:W0.heap[g]? = some o) (hb:Below W.heap.size W W') (f:W0.heap[g]? = some o→W.heap[g]? = some o:=by intro h_;(with_reducible repeat (first | refine blk_drewN ?_ _ | refine blk_drew ?_ | refine blk_alloc ?_ _));exact h_):W'.heap[g]? = some o:=blk_below (f h) hb
theorem neL_ {W0 W:World} {g b:Nat} {o:Obj} (h:W0.heap[b]? = some o) (hg:g=W.heap.size) (f:W0.heap[b]? = some o→W.heap[b]? = some o:=by intro h_;(with_reducible repeat (first | refine blk_drewN ?_ _ | refine blk_drew ?_ | refine blk_alloc ?_ _));exact h_):b≠g:=by rw [hg];exact Nat.ne_of_lt (blk_lt (f h))
theorem neG_ {W0 W:World} {g b:Nat} {o:Obj} (h:W0.heap[b]? = some o) (hg:g=W.heap.size) (f:W0.heap[b]? = some o→W.heap[b]? = some o:=by intro h_;(with_reducible repeat (first | refine blk_drewN ?_ _ | refine blk_drew ?_ | refine blk_alloc ?_ _));exact h_):g≠b:=by rw [hg];exact Nat.ne_of_gt (blk_lt (f h))
theorem cz1_ {w:World} {g:Nat} {t:TypeId} {v0:Value} (h:w.heap[g]? = some (.cells #[v0] t (0,0))):w.cell? ⟨g,0,none⟩=some v0∧w.frozen? ⟨g,0,none⟩=false:=⟨blk_cell h 0,blk_frozen h 0⟩
theorem cz2_ {w:World} {g:Nat} {t:TypeId} {v0 v1:Value} (h:w.heap[g]? = some (.cells #[v0,v1] t (0,0))):w.cell? ⟨g,0,none⟩=some v0∧w.cell? ⟨g,1,none⟩=some v1∧w.frozen? ⟨g,0,none⟩=false∧w.frozen? ⟨g,1,none⟩=false:=⟨blk_cell h 0,blk_cell h 1,blk_frozen h 0,blk_frozen h 1⟩
theorem put2_ {w:World} {g:Nat} {t:TypeId} {v0 v1 z0 z1:Value} (h:w.heap[g]? = some (.cells #[z0,z1] t (0,0))):((w.setCell ⟨g,0,none⟩ v0).setCell ⟨g,1,none⟩ v1).heap[g]? = some (.cells #[v0,v1] t (0,0)):=(blk_put (cs':=#[v0,v1]) (blk_put (cs':=#[v0,z1]) h 0 v0 rfl) 1 v1 rfl)
theorem rf2_ {α:Type} {d:Kd α} {e:TypeId} {w:World} {base g:Nat} {ok:Nat→Prop} {v:Value} {xs:List α} {v0 v1:Value} (h:d.R e w base ok v xs) (f:∀ k,ok k→k≠g):d.R e ((w.setCell ⟨g,0,none⟩ v0).setCell ⟨g,1,none⟩ v1) base ok v xs:=(Kd.R_far (p:=⟨g,1,none⟩) (Kd.R_far (p:=⟨g,0,none⟩) h f v0) f v1)
theorem z0_ {p:Prop} (f:p:=by first | (with_reducible assumption) | assumption):p:=f
theorem z1_ {p:Prop} (f:p:=by first | rfl | (simp;done) | (simp [*];done) | (simp [bne];done)):p:=f
theorem z2_ {a0 p:Prop} (h0:a0) (f:a0→p:=by intro h0_;repeat (first | (with_reducible first | exact h0_ | apply below_alloc | apply pw_below_drewN | apply below_drew1) | exact h0_)):p:=f h0
theorem z3_ {a0 a1 p:Prop} (h0:a0) (h1:a1) (f:a0→a1→p:=by intro h0_ h1_;repeat (first | (with_reducible first | exact h0_ | apply below_alloc | apply pw_below_drewN | apply below_drew1 | refine below_set ?_ h1_) | exact h0_)):p:=f h0 h1
theorem z4_ {p:Prop} (f:p:=by repeat (first | exact Drawn0.refl _ | apply Drawn0.step)):p:=f
theorem z5_ {a0 a1 a2 p:Prop} (h0:a0) (h1:a1) (h2:a2) (f:a0→a1→a2→p:=by intro h0_ h1_ h2_;repeat (first | (with_reducible first | exact h0_ | apply below_alloc | apply pw_below_drewN | apply below_drew1 | refine below_set ?_ h1_ | refine below_set ?_ h2_) | exact h0_)):p:=f h0 h1 h2
theorem z6_ {a0 p:Prop} (h0:a0) (f:a0→p:=by intro h0_;rw [hg];exact (below_size (by repeat (first | (with_reducible first | exact h0_ | apply below_alloc | apply pw_below_drewN | apply below_drew1) | exact h0_)))):p:=f h0
theorem z7_ {p:Prop} (f:p:=by first | rfl | (simp [errW_none,errW_some] <;> rfl) | (simp [*,errW_none,errW_some] <;> rfl)):p:=f
theorem z8_ {a0 p:Prop} (h0:a0) (f:a0→p:=by intro h0_;(with_reducible repeat (first | apply Kd.R_alloc | apply Kd.R_drewN | apply Kd.R_drew));exact h0_):p:=f h0
theorem z9_ {a0 p:Prop} (h0:a0) (f:a0→p:=by intro h0_;(with_reducible repeat (first | apply Kd.S_alloc | apply Kd.S_drewN | apply Kd.S_drew));exact h0_):p:=f h0
theorem z10_ {a0 p:Prop} (h0:a0) (f:a0→p:=by intro h0_;(with_reducible repeat (first | refine blk_drewN ?_ _ | refine blk_drew ?_ | refine blk_alloc ?_ _));exact h0_):p:=f h0
theorem z11_ {a0 a1 p:Prop} (h0:a0) (h1:a1) (f:a0→a1→p:=by intro h0_ h1_;have:=h0_;have:=h1_;omega):p:=f h0 h1
theorem z12_ {a0 a1 p:Prop} (h0:a0) (h1:a1) (f:a0→a1→p:=by intro h0_ h1_;rw [hg];exact (below_size (by repeat (first | (with_reducible first | exact h0_ | apply below_alloc | apply pw_below_drewN | apply below_drew1 | refine below_set ?_ h1_) | exact h0_)))):p:=f h0 h1
theorem z13_ {a0 p:Prop} (h0:a0) (f:a0→p:=by intro h0_;(with_reducible repeat (first | refine blk_drewN ?_ _ | refine blk_drew ?_ | refine blk_alloc ?_ _));apply put2_;(with_reducible repeat (first | refine blk_drewN ?_ _ | refine blk_drew ?_ | refine blk_alloc ?_ _));exact h0_):p:=f h0
theorem z14_ {a0 p:Prop} (h0:a0) (f:a0→p:=by intro h0_;have:=h0_;first | omega | exact Nat.le_refl _):p:=f h0
theorem z15_ {a0 a1 p:Prop} (h0:a0) (h1:a1) (f:a0→a1→p:=by intro h0_ h1_;(with_reducible repeat (first | refine blk_drewN ?_ _ | refine blk_drew ?_ | refine blk_alloc ?_ _));refine blk_far ?_ h0_ _;(with_reducible repeat (first | refine blk_drewN ?_ _ | refine blk_drew ?_ | refine blk_alloc ?_ _));refine blk_far ?_ h0_ _;(with_reducible repeat (first | refine blk_drewN ?_ _ | refine blk_drew ?_ | refine blk_alloc ?_ _));exact h1_):p:=f h0 h1
theorem z16_ {a0 a1 a2 a3 p:Prop} (h0:a0) (h1:a1) (h2:a2) (h3:a3) (f:a0→a1→a2→a3→p:=by intro h0_ h1_ h2_ h3_;repeat (first | (with_reducible first | exact h0_ | apply below_alloc | apply pw_below_drewN | apply below_drew1 | refine below_set ?_ h1_ | refine below_set ?_ h2_ | refine below_set ?_ h3_) | exact h0_)):p:=f h0 h1 h2 h3
theorem z17_ {p:Prop} (f:p:=by (try simp only [List.map_toArray,List.map_cons,List.map_nil]);first | done | rfl):p:=f
theorem z18_ {a0 a1 a2 p:Prop} (h0:a0) (h1:a1) (h2:a2) (f:a0→a1→a2→p:=by intro h0_ h1_ h2_;rw [hg];exact (below_size (by repeat (first | (with_reducible first | exact h0_ | apply below_alloc | apply pw_below_drewN | apply below_drew1 | refine below_set ?_ h1_ | refine below_set ?_ h2_) | exact h0_)))):p:=f h0 h1 h2
theorem z19_ {a0 p:Prop} (h0:a0) (f:a0→p:=by intro h0_;repeat (first | (with_reducible first | exact h0_ | apply Kept.alloc | apply Kept.drewN | apply Kept.drew) | exact h0_)):p:=f h0
theorem z20_ {a0 p:Prop} (h0:a0) (f:a0→p:=by intro h0_;have h_:(x5_1:Int)<((x0_1.length:Int):Int):=dT (by first | (with_reducible assumption) | assumption);first | exact h_ | (have e_:=(Kd.R_reads' h0_).1;omega) | simpa using h_):p:=f h0
theorem z21_ {a0 a1 p:Prop} (h0:a0) (h1:a1) (f:a0→a1→p:=by intro h0_ h1_;(with_reducible repeat (first | refine blk_drewN ?_ _ | refine blk_drew ?_ | refine blk_alloc ?_ _));refine blk_far ?_ h0_ _;(with_reducible repeat (first | refine blk_drewN ?_ _ | refine blk_drew ?_ | refine blk_alloc ?_ _));exact h1_):p:=f h0 h1
theorem z22_ {p:Prop} (f:p:=by have:(0:Int)<(a0.size:Int):=dT (by first | (with_reducible assumption) | assumption);omega):p:=f
theorem z23_ {p:Prop} (f:p:=by first | exact Kd.R_nil _ _ _ _ _ | exact Kd.N_nil _ _ _ _ _ | exact Kd.V_nil _ _ _ _ _ | exact Kd.Q_nil _ _ _ _ _ | exact Kd.S_nil _ _ _ _ _):p:=f
theorem z24_ {a0 a1 p:Prop} (h0:a0) (h1:a1) (f:a0→a1→p:=by intro h0_ h1_;(with_reducible repeat (first | apply Kd.S_alloc | apply Kd.S_drewN | apply Kd.S_drew));exact (Kd.S_mono (Kd.S_far (p:=⟨gb816,0,none⟩) (Kd.S_types h0_ h1_ (by decide)) (fun _ hk=>hk.2) (.slice Ao44 t813.length co44)) (fun _ h_=>h_.1))):p:=f h0 h1
end Go.Proofs.Ytlglglbjckpnbaa.P

namespace Go.Proofs.Ytlglglbjckpnbaa.Open
open Go.RowKit Go.Proofs.YtlglglbjckpnbaaW.PrintWords

def Opens {α:Type} (P:Program) (t:TypeId) (d:Kd α) (wf:α→Prop):Prop :=
  ∀ {H:Type} {enc:TypeId × Value→H} {W:World} {base:Nat} {spare:Nat→Bool} {held:Bool} {fuel:Nat} {cs:List Value} {x:DataW H × List MemPlace},
    DataW.trod enc P W base spare held fuel t cs=some x→∃ a:α,d.K W a cs∧wf a
section
variable {P:Program} {t e:TypeId} {α β:Type} {d:Kd α} {d':Kd β} {wf:α→Prop} {wf':β→Prop}
theorem opens_int {k:IntKind} (ht:P.underlying t=some (.int k)):Opens P t (Kd.int k) (fun n=>(Lit.int k n).wf=true):=by
  intro H enc W base spare held fuel cs x h
  obtain ⟨n,rfl,_,hw⟩:=DataW.trod_int ht h
  exact ⟨n,rfl,hw⟩
theorem opens_string (ht:P.underlying t=some .string):Opens P t Kd.string (fun s=>s.size≤maxLen):=by
  intro H enc W base spare held fuel cs x h
  obtain ⟨n,rfl,_,hw⟩:=DataW.trod_string ht h
  exact ⟨n,rfl,hw⟩
theorem add_add_ (a:Addr) (i j:Nat):(a.add i).add j=a.add (i+j):=by
  by_cases hi:i=0 <;> by_cases hj:j=0 <;> simp [Addr.add,hi,hj,Nat.add_assoc]
theorem cells_get {W:World} {base n:Nat} {a:Addr} {c:List Value} (h:W.cells? base a n=some c):c.length=n∧∀ i u,c[i]? = some u→W.cell? (a.add i)=some u:=by
  unfold World.cells? at h
  split at h
  · have hl:c.length=n:=by simpa using mapM_some_length h
    refine ⟨hl,fun i u hu=>?_⟩
    have hi:i<n:=by rw [← hl];exact (List.getElem?_eq_some_iff.1 hu).1
    have:=mapM_some_get h i i (by simp [hi])
    rw [this,hu]
  · cases h
theorem opens_slice (ht:P.underlying t=some (.slice e)) (hs:P.cellsOf e=d.sz) (he:Opens P e d wf):Opens P t (Kd.slice e d) (fun l=>l.length≤maxLen∧∀ x ∈ l,wf x):=by
  intro H enc W base spare held fuel cs x h
  rcases DataW.trod_slice ht h with ⟨rfl,_⟩ | ⟨a,len,cap,elems,rest,n,_,rfl,rfl,hb,hl,hm,hlen,hel,_,_⟩
  · exact ⟨[],⟨none,0,rfl,Nat.le_refl _,Kd.C_nil _ _⟩,by simp [maxLen],by simp⟩
  have each:∀ i:Fin len,∃ y:α,∃ c:List Value,c.length=d.sz∧d.K W y c∧wf y∧∀ j u,c[j]? = some u→W.cell? (a.add (i.1*d.sz+j))=some u:=by
    intro i
    have h1:=hel i.1 i.2
    have h2:elems[i.1]? = some (elems[i.1]'(by rw [hlen];exact i.2)):=List.getElem?_eq_getElem _
    rw [h2,Option.bind_eq_some_iff] at h1
    obtain ⟨c,hc,hy⟩:=h1
    obtain ⟨y,hk,hw⟩:=he hy
    obtain ⟨_,hc2⟩:=cells_get hc
    refine ⟨y,c,d.K_len hk,hk,hw,fun j u hu=>?_⟩
    have:=hc2 j u hu
    rwa [add_add_,hs] at this
  have L:(List.ofFn fun i:Fin len=>(each i).choose).length=len:=List.length_ofFn
  have G:∀ j p,(List.ofFn fun i:Fin len=>(each i).choose)[j]? = some p→∃ h:j<len,p=(each ⟨j,h⟩).choose:=by
    intro j p hp
    have hj:j<len:=by rw [← L];exact (List.getElem?_eq_some_iff.1 hp).1
    refine ⟨hj,?_⟩
    rw [List.getElem?_ofFn] at hp
    simp only [hj,dite_true,Option.some.injEq] at hp
    exact hp.symm
  refine ⟨List.ofFn fun i:Fin len=>(each i).choose,⟨some a,cap,by rw [L],by rw [L];exact hl,rfl,by rw [L];exact Nat.le_trans hl hm,fun _=>⟨a,rfl,fun j p hp=>?_⟩⟩,by rw [L];exact Nat.le_trans hl hm,fun p hp=>?_⟩
  · obtain ⟨hj,rfl⟩:=G j p hp
    obtain ⟨c,h1,h2,_,h4⟩:=(each ⟨j,hj⟩).choose_spec
    exact ⟨c,h1,h2,h4⟩
  · obtain ⟨j,hj0⟩:=List.getElem?_of_mem hp
    obtain ⟨hj,rfl⟩:=G j p hj0
    exact (each ⟨j,hj⟩).choose_spec.choose_spec.2.2.1
/-- The fields from one on. -/
def OpensF {α:Type} (P:Program) (fs:List Field) (off:Nat) (d:Kd α) (wf:α→Prop):Prop :=
  ∀ {H:Type} {enc:TypeId × Value→H} {W:World} {base:Nat} {spare:Nat→Bool} {held:Bool} {n:Nat} {cs:List Value},
    (∀ (i:Nat) (f:Field),fs[i]? = some f→∃ y,DataW.trod enc P W base spare held n f.type ((cs.drop f.offset).take (P.cellsOf f.type))=some y)→cs.length=off+d.sz→∃ a:α,d.K W a (cs.drop off)∧wf a
theorem opensF_one {f:Field} {off:Nat} (ho:f.offset=off) (hs:P.cellsOf f.type=d.sz) (he:Opens P f.type d wf):OpensF P [f] off d wf:=by
  intro H enc W base spare held n cs h hl
  obtain ⟨y,hy⟩:=h 0 f rfl
  rw [ho,hs,List.take_of_length_le (by rw [List.length_drop];omega)] at hy
  exact he hy
theorem opensF_cons {f:Field} {fs:List Field} {off:Nat} (ho:f.offset=off) (hs:P.cellsOf f.type=d.sz) (he:Opens P f.type d wf) (hf:OpensF P fs (off+d.sz) d' wf') :
    OpensF P (f :: fs) off (Kd.pair d d') (fun x=>wf x.1∧wf' x.2):=by
  intro H enc W base spare held n cs h hl
  have hl':cs.length=off+(d.sz+d'.sz):=hl
  obtain ⟨y,hy⟩:=h 0 f rfl
  rw [ho,hs] at hy
  obtain ⟨a,ha,hw⟩:=he hy
  obtain ⟨b,hb,hw'⟩:=hf (cs:=cs) (fun i g hg=>h (i+1) g hg) (by omega)
  refine ⟨(a,b),⟨(cs.drop off).take d.sz,cs.drop (off+d.sz),?_,ha,hb⟩,hw,hw'⟩
  rw [← List.drop_drop,List.take_append_drop]
theorem opens_struct {fs:Array Field} (ht:P.underlying t=some (.struct fs)) (hc:P.cellsOf t=d.sz) (hf:OpensF P fs.toList 0 d wf):Opens P t d wf:=by
  intro H enc W base spare held fuel cs x h
  obtain ⟨xs,n,_,_,hl,hx,hall⟩:=DataW.trod_struct ht h
  have:=hf (H:=H) (enc:=enc) (W:=W) (base:=base) (spare:=spare) (held:=held) (n:=n) (cs:=cs) (fun i f hi=>by
    have h1:=hall i f (by simpa using hi)
    have hi2:i<xs.length:=by
      rw [hx]
      have:=(List.getElem?_eq_some_iff.1 hi).1
      simpa using this
    exact ⟨xs[i],by rw [h1];exact List.getElem?_eq_getElem hi2⟩) (by rw [hl,hc];omega)
  simpa using this
theorem opens_iso {f:β→α} {g:α→β} (hg:∀ y,f (g y)=y) (h:Opens P t d wf):Opens P t (Kd.iso d f) (fun x=>wf (f x)):=by
  intro H enc W base spare held fuel cs x hx
  obtain ⟨a,ha,hw⟩:=h hx
  exact ⟨g a,by show d.K W (f (g a)) cs;rw [hg];exact ha,by show wf (f (g a));rw [hg];exact hw⟩
end
end Go.Proofs.Ytlglglbjckpnbaa.Open

namespace Go.Proofs.Ytlglglbjckpnbaa.RO
open Go.RowKit Go.Proofs.Ytlglglbjckpnbaa.Open Go.Proofs.Ytlglglbjckpnbaa.P Go.Proofs.YtlglglbjckpnbaaW.PrintWords
set_option linter.unusedVariables false

def wfT92 (x:S92):Prop:=(Lit.int .i64 x.f0).wf=true∧(Lit.int .i64 x.f1).wf=true
theorem op_T92:Opens Try.prog 92 k92 wfT92:=opens_iso (f:=fun x:S92=>(x.f0,x.f1)) (g:=fun p_=>(⟨p_.1,p_.2⟩:S92)) (fun _=>rfl) (opens_struct Try.underlying92 (by kernel_rfl) (opensF_cons rfl (by kernel_rfl) (opens_int Try.underlying2) (opensF_one rfl (by kernel_rfl) (opens_int Try.underlying2))))
def wfT134 (x:S134):Prop:=x.f0.size≤maxLen∧(x.f1.length≤maxLen∧∀ y_ ∈ x.f1,wfT92 y_)
theorem op_T134:Opens Try.prog 134 k134 wfT134:=opens_iso (f:=fun x:S134=>(x.f0,x.f1)) (g:=fun p_=>(⟨p_.1,p_.2⟩:S134)) (fun _=>rfl) (opens_struct Try.underlying134 (by kernel_rfl) (opensF_cons rfl (by kernel_rfl) (opens_string Try.underlying9) (opensF_one rfl (by kernel_rfl) (opens_slice Try.underlying54 (by kernel_rfl) op_T92))))
def wfT42 (x:S42):Prop:=(x.f0.length≤maxLen∧∀ y_ ∈ x.f0,wfT134 y_)
theorem op_T42:Opens Try.prog 42 k42 wfT42:=opens_iso (f:=fun x:S42=>x.f0) (g:=fun p_=>(⟨p_⟩:S42)) (fun _=>rfl) (opens_struct Try.underlying42 (by kernel_rfl) (opensF_one rfl (by kernel_rfl) (opens_slice Try.underlying40 (by kernel_rfl) op_T134)))
end Go.Proofs.Ytlglglbjckpnbaa.RO

namespace Go.Proofs.Ytlglglbjckpnbaa.P
open Go.RowKit Go.Proofs.YtlglglbjckpnbaaW.PrintWords Go.Proofs.YtlglglbjckpnbaaW.PrintLast Go.Proofs.YtlglglbjckpnbaaW.PrintMore
attribute [local go_sem] max2_int min2_int max_two min_two max_three min_three max_four min_four   -- for this text's walks alone
set_option linter.unusedVariables false
set_option linter.unusedSimpArgs false

/-! ### Y36: function 23 -/
def Y36.f (l0:List (S92)) (a1:Int):Option (Int):=if (wrap64 (a1-(l0.length:Int)))<0 then (some (-1)) else (some (wrap64 (a1-(l0.length:Int))))
theorem Y36.calls (A0:Option Addr) (c0:Nat) (l0:List (S92)) (a1:Int) (r:Int) (w:World) (hr0:Kd.C k92 w A0 l0.length l0) (hc0:l0.length≤c0) (h:Y36.f l0 a1=some r) :
  Calls Try.prog 23 #[.slice A0 l0.length c0,.int .i64 a1] w fun e w'=>e = .returned (.int .i64 r)∧Drawn0 w w':=by
 have HR0:=aM hr0
 have HC0:=aM hc0
 clear hr0 hc0
 have H:(if (wrap64 (a1-(l0.length:Int)))<0 then (some (-1)) else (some (wrap64 (a1-(l0.length:Int)))))=some r:=h
 clear h
 by_cases c3:(wrap64 (a1-(l0.length:Int)))<0
 ·rw [if_pos c3] at H
  have c3b0:decide ((wrap64 (a1-(l0.length:Int)))<0)=true:=dE c3
  clear c3
  obtain rfl:=sI H
  go_enter Try.func23,Try.ntmps23
  go_wp2
  go_ret
  exact ⟨z1_,z4_⟩
 ·rw [if_neg c3] at H
  have c3b0:decide ((wrap64 (a1-(l0.length:Int)))<0)=false:=dF c3
  clear c3
  obtain rfl:=sI H
  go_enter Try.func23,Try.ntmps23
  go_wp2
  go_ret
  exact ⟨z1_,z4_⟩


/-! ### Y41: function 97 -/
def Y41.f (a0_0:ByteArray) (l0_1:List (S92)) (a1:Int):Option (Int):=if (wrap64 (a1-(a0_0.size:Int)))<0 then (some (-1)) else ((Y36.f l0_1 (wrap64 (a1-(a0_0.size:Int)))).bind fun t696=>(if t696<0 then (some (-1)) else (some t696)))
theorem Y41.calls (a0_0:ByteArray) (A0_1:Option Addr) (c0_1:Nat) (l0_1:List (S92)) (a1:Int) (r:Int) (w:World) (hr0_1:Kd.C k92 w A0_1 l0_1.length l0_1) (hc0_1:l0_1.length≤c0_1) (h:Y41.f a0_0 l0_1 a1=some r) :
  Calls Try.prog 97 #[.agg #[.string a0_0,.slice A0_1 l0_1.length c0_1],.int .i64 a1] w fun e w'=>e = .returned (.int .i64 r)∧Below w.heap.size w w':=by
 have hu134:=Try.underlying134
 have HR0_1:=aM hr0_1
 have HC0_1:=aM hc0_1
 clear hr0_1 hc0_1
 have HB:=aM (Below.refl w.heap.size w)
 have H:(if (wrap64 (a1-(a0_0.size:Int)))<0 then (some (-1)) else ((Y36.f l0_1 (wrap64 (a1-(a0_0.size:Int)))).bind fun t696=>(if t696<0 then (some (-1)) else (some t696))))=some r:=h
 clear h
 by_cases c3:(wrap64 (a1-(a0_0.size:Int)))<0
 ·rw [if_pos c3] at H
  have c3b0:decide ((wrap64 (a1-(a0_0.size:Int)))<0)=true:=dE c3
  clear c3
  obtain rfl:=sI H
  go_enter Try.func97,Try.ntmps97
  go_wp2_with (first | ((with_reducible refine gd_ 2 ?_);refine be_ 2 #[.string a0_0,.slice A0_1 l0_1.length c0_1] 134 ?_;intro gb695 hg w4 hbox hb;have n0_:=aM (below_step (z2_ HB.out) hb);have n1_:=aM (hbox);have n2_:=aM ((z6_ HB.out:w.heap.size≤gb695));have n3_:=aM ((z6_ HB.out:w.heap.size≤gb695));clear HB;have HB:=n0_;have BK695:=n1_;have GW695:=n2_;have GE695:=n3_;clear n0_ n1_ n2_ n3_;clear hb hbox hg;have ⟨hcz5_0,hcz5_1,hfz5_0,hfz5_1⟩:=cz2_ BK695.out))
  go_ret
  exact ⟨z7_,z3_ HB.out GE695.out⟩
 ·rw [if_neg c3] at H
  have c3b0:decide ((wrap64 (a1-(a0_0.size:Int)))<0)=false:=dF c3
  clear c3
  replace H:=bS H
  obtain ⟨t696,A60,H⟩:=H
  replace H:(if t696<0 then (some (-1)) else (some t696))=some r:=H
  have A6:=aM A60
  clear A60
  by_cases c7:t696<0
  ·rw [if_pos c7] at H
   have c7b0:decide (t696<0)=true:=dE c7
   clear c7
   obtain rfl:=sI H
   go_enter Try.func97,Try.ntmps97
   go_wp2_with (first | ((with_reducible refine gd_ 2 ?_);refine be_ 2 #[.string a0_0,.slice A0_1 l0_1.length c0_1] 134 ?_;intro gb695 hg w8 hbox hb;have n0_:=aM (below_step (z2_ HB.out) hb);have n1_:=aM (hbox);have n2_:=aM ((z6_ HB.out:w.heap.size≤gb695));have n3_:=aM ((z6_ HB.out:w.heap.size≤gb695));clear HB;have HB:=n0_;have BK695:=n1_;have GW695:=n2_;have GE695:=n3_;clear n0_ n1_ n2_ n3_;clear hb hbox hg;have ⟨hcz9_0,hcz9_1,hfz9_0,hfz9_1⟩:=cz2_ BK695.out) | ((with_reducible refine gc_ 23 ?_);refine gl_ (some 15) Try.func23 #[.slice A0_1 l0_1.length c0_1,.int .i64 (wrap64 (a1-(a0_0.size:Int)))] ?_;(with_reducible refine (Y36.calls _ _ l0_1 (wrap64 (a1-(a0_0.size:Int))) t696 _ ?s1 ?s2 A6.out).mono ?_);(case s1=>repeat (first | exact (Kd.C_below HR0_1.out HB.out) | (with_reducible refine Kd.C_alloc ?_ _) | (with_reducible refine Kd.C_drewN ?_ _) | (with_reducible refine Kd.C_drew ?_)));(case s2=>exact HC0_1.out);rintro e w' ⟨rfl,⟨nd,rfl⟩⟩;refine ⟨_,rfl,?_⟩))
   go_ret
   exact ⟨z7_,z3_ HB.out GE695.out⟩
  ·rw [if_neg c7] at H
   have c7b0:decide (t696<0)=false:=dF c7
   clear c7
   obtain rfl:=sI H
   go_enter Try.func97,Try.ntmps97
   go_wp2_with (first | ((with_reducible refine gd_ 2 ?_);refine be_ 2 #[.string a0_0,.slice A0_1 l0_1.length c0_1] 134 ?_;intro gb695 hg w10 hbox hb;have n0_:=aM (below_step (z2_ HB.out) hb);have n1_:=aM (hbox);have n2_:=aM ((z6_ HB.out:w.heap.size≤gb695));have n3_:=aM ((z6_ HB.out:w.heap.size≤gb695));clear HB;have HB:=n0_;have BK695:=n1_;have GW695:=n2_;have GE695:=n3_;clear n0_ n1_ n2_ n3_;clear hb hbox hg;have ⟨hcz11_0,hcz11_1,hfz11_0,hfz11_1⟩:=cz2_ BK695.out) | ((with_reducible refine gc_ 23 ?_);refine gl_ (some 15) Try.func23 #[.slice A0_1 l0_1.length c0_1,.int .i64 (wrap64 (a1-(a0_0.size:Int)))] ?_;(with_reducible refine (Y36.calls _ _ l0_1 (wrap64 (a1-(a0_0.size:Int))) t696 _ ?s1 ?s2 A6.out).mono ?_);(case s1=>repeat (first | exact (Kd.C_below HR0_1.out HB.out) | (with_reducible refine Kd.C_alloc ?_ _) | (with_reducible refine Kd.C_drewN ?_ _) | (with_reducible refine Kd.C_drew ?_)));(case s2=>exact HC0_1.out);rintro e w' ⟨rfl,⟨nd,rfl⟩⟩;refine ⟨_,rfl,?_⟩))
   go_ret
   exact ⟨z7_,z3_ HB.out GE695.out⟩


/-! ### Y18: function 48 -/
def Y18.l0:Nat→List (S134)→Int→Int→Option (Int)
 | 0,_,_,_=>none
 | k+1,x0,x1,x5=>if x5<(x0.length:Int) then (if 0≤x5 then ((Y41.f ((rd_T134 x0 x5).f0) ((rd_T134 x0 x5).f1) x1).bind fun t698=>(if t698<0 then (some (-1)) else (Y18.l0 k x0 t698 (wrap64 (x5+1))))) else (none)) else (some x1)
def Y18.f (k:Nat) (l0:List (S134)) (a1:Int):Option (Int):=if (wrap64 (a1-(l0.length:Int)))<0 then (some (-1)) else (Y18.l0 k l0 (wrap64 (a1-(l0.length:Int))) 0)
theorem Y18.mono_l:∀ k,(∀ y0 y1 y2,LeO (Y18.l0 k y0 y1 y2) (Y18.l0 (k+1) y0 y1 y2))
 | 0=>by intros <;> exact LeO.none _
 | k+1=>by
  have ih0:=Y18.mono_l k
  ·intros
   unfold Y18.l0
   exact mO
theorem Y18.mono:∀ a0 a1 k,LeO (Y18.f k a0 a1) (Y18.f (k+1) a0 a1):=by
 intro a0 a1 k
 have ih0:=Y18.mono_l k
 unfold Y18.f
 exact mO
theorem Y18.calls (k:Nat) (A0:Option Addr) (c0:Nat) (l0:List (S134)) (a1:Int) (r:Int) (w:World) (hr0:Kd.C k134 w A0 l0.length l0) (hc0:l0.length≤c0) (h:Y18.f k l0 a1=some r) :
  Calls Try.prog 48 #[.slice A0 l0.length c0,.int .i64 a1] w fun e w'=>e = .returned (.int .i64 r)∧Below w.heap.size w w':=by
 have hu134:=Try.underlying134
 have HR0:=aM hr0
 have HC0:=aM hc0
 clear hr0 hc0
 have HB:=aM (Below.refl w.heap.size w)
 have H:(if (wrap64 (a1-(l0.length:Int)))<0 then (some (-1)) else (Y18.l0 k l0 (wrap64 (a1-(l0.length:Int))) 0))=some r:=h
 clear h
 by_cases c3:(wrap64 (a1-(l0.length:Int)))<0
 ·rw [if_pos c3] at H
  have c3b0:decide ((wrap64 (a1-(l0.length:Int)))<0)=true:=dE c3
  clear c3
  obtain rfl:=sI H
  go_enter Try.func48,Try.ntmps48
  go_wp2
  go_ret
  exact ⟨z7_,z2_ HB.out⟩
 ·rw [if_neg c3] at H
  have c3b0:decide ((wrap64 (a1-(l0.length:Int)))<0)=false:=dF c3
  clear c3
  have H':=aM H
  clear H
  go_enter Try.func48,Try.ntmps48
  go_wp2
  go_loopg [1,5] k (fun kq v1 v5 w'=>∃ (x1_1:Int) (x5_1:Int),v1 = .int .i64 x1_1∧v5 = .int .i64 x5_1∧Aside0 (Y18.l0 kq l0 x1_1 x5_1=some r)∧Aside0 (kq≤k)∧Aside0 (Below w.heap.size w w'))
  case atStart=>exact ⟨(wrap64 (a1-(l0.length:Int))),(0),(z1_),(z1_),H',⟨Nat.le_refl _⟩,⟨z2_ HB.out⟩⟩
  case round =>
   clear H'
   try clear p2
   try clear c3
   try clear c3b0
   obtain ⟨x1_1,x5_1,rfl,rfl,HA,HK1,HB⟩:=hrel
   cases gk with
   | zero=>exact absurd HA.out (by simp [Y18.l0])
   | succ k1 =>
    have H:=HA.out
    clear HA
    simp only [Y18.l0] at H
    by_cases c4:x5_1<(l0.length:Int)
    ·rw [if_pos c4] at H
     have c4b0:decide (x5_1<(l0.length:Int))=true:=dE c4
     clear c4
     by_cases c5:0≤x5_1
     ·rw [if_pos c5] at H
      have c5b0:decide (0≤x5_1)=true:=dE c5
      clear c5
      replace H:=bS H
      obtain ⟨t698,A60,H⟩:=H
      replace H:(if t698<0 then (some (-1)) else (Y18.l0 k1 l0 t698 (wrap64 (x5_1+1))))=some r:=H
      have A6:=aM A60
      clear A60
      by_cases c7:t698<0
      ·rw [if_pos c7] at H
       have c7b0:decide (t698<0)=true:=dE c7
       clear c7
       obtain rfl:=sI H
       have p697:0≤(x5_1:Int):=dT (z0_)
       have q697:x5_1<(l0.length:Int):=dT (z0_)
       obtain ⟨ad697,A697_1,c697_1,e697,hx697_0,hx697_1,hl697_1,hi697_1⟩:=at_T134 HR0.out x5_1 p697 q697
       cases e697
       replace hx697_0:=(HB.out.cell (World.block_lt_of_cell? w _ hx697_0)).trans hx697_0
       replace hx697_1:=(HB.out.cell (World.block_lt_of_cell? w _ hx697_1)).trans hx697_1
       have HR697_1:=aM hi697_1
       have HC697_1:=aM hl697_1
       clear hi697_1 hl697_1
       replace p697:=eq_true p697
       replace q697:=eq_true q697
       go_wp2_with (first | ((with_reducible refine gc_ 97 ?_);refine gl_ (some 23) Try.func97 #[.agg #[.string ((rd_T134 l0 x5_1).f0),.slice A697_1 ((rd_T134 l0 x5_1).f1).length c697_1],.int .i64 x1_1] ?_;(with_reducible refine (Y41.calls ((rd_T134 l0 x5_1).f0) _ _ ((rd_T134 l0 x5_1).f1) x1_1 t698 _ ?s1 ?s2 A6.out).mono ?_);(case s1=>repeat (first | exact (Kd.C_below HR697_1.out HB.out) | (with_reducible refine Kd.C_alloc ?_ _) | (with_reducible refine Kd.C_drewN ?_ _) | (with_reducible refine Kd.C_drew ?_)));(case s2=>exact HC697_1.out);rintro e w8 ⟨rfl,hb⟩;refine ⟨_,rfl,?_⟩;have n0_:=aM (below_step (z2_ HB.out) hb);clear HB;have HB:=n0_;clear n0_;(try clear hb)))
       go_ret
       exact ⟨z7_,z2_ HB.out⟩
      ·rw [if_neg c7] at H
       have c7b0:decide (t698<0)=false:=dF c7
       clear c7
       have H':=aM H
       clear H
       have p697:0≤(x5_1:Int):=dT (z0_)
       have q697:x5_1<(l0.length:Int):=dT (z0_)
       obtain ⟨ad697,A697_1,c697_1,e697,hx697_0,hx697_1,hl697_1,hi697_1⟩:=at_T134 HR0.out x5_1 p697 q697
       cases e697
       replace hx697_0:=(HB.out.cell (World.block_lt_of_cell? w _ hx697_0)).trans hx697_0
       replace hx697_1:=(HB.out.cell (World.block_lt_of_cell? w _ hx697_1)).trans hx697_1
       have HR697_1:=aM hi697_1
       have HC697_1:=aM hl697_1
       clear hi697_1 hl697_1
       replace p697:=eq_true p697
       replace q697:=eq_true q697
       go_wp2_with (first | ((with_reducible refine gc_ 97 ?_);refine gl_ (some 23) Try.func97 #[.agg #[.string ((rd_T134 l0 x5_1).f0),.slice A697_1 ((rd_T134 l0 x5_1).f1).length c697_1],.int .i64 x1_1] ?_;(with_reducible refine (Y41.calls ((rd_T134 l0 x5_1).f0) _ _ ((rd_T134 l0 x5_1).f1) x1_1 t698 _ ?s1 ?s2 A6.out).mono ?_);(case s1=>repeat (first | exact (Kd.C_below HR697_1.out HB.out) | (with_reducible refine Kd.C_alloc ?_ _) | (with_reducible refine Kd.C_drewN ?_ _) | (with_reducible refine Kd.C_drew ?_)));(case s2=>exact HC697_1.out);rintro e w9 ⟨rfl,hb⟩;refine ⟨_,rfl,?_⟩;have n0_:=aM (below_step (z2_ HB.out) hb);clear HB;have HB:=n0_;clear n0_;(try clear hb)))
       go_roundg k1
       case measure=>have:=HK1.out;omega
       case rel=>exact ⟨(t698),(wrap64 (x5_1+1)),(z1_),(z1_),H',⟨by have:=HK1.out;omega⟩,⟨z2_ HB.out⟩⟩
     ·rw [if_neg c5] at H
      exact nO H
    ·rw [if_neg c4] at H
     have c4b0:decide (x5_1<(l0.length:Int))=false:=dF c4
     clear c4
     obtain rfl:=sI H
     go_wp2
     go_ret
     exact ⟨z7_,z2_ HB.out⟩


/-! ### Y29: function 13 -/
def Y29.f (k:Nat) (l0_0:List (S134)) (a1:Int):Option (Int):=(Y18.f k l0_0 a1).bind fun t700=>(if t700<0 then (some (-1)) else (some t700))
theorem Y29.mono:∀ a0 a1 k,LeO (Y29.f k a0 a1) (Y29.f (k+1) a0 a1):=by
 intro a0 a1 k
 have m0:=@Y18.mono
 unfold Y29.f
 exact mO
theorem Y29.calls (k:Nat) (A0_0:Option Addr) (c0_0:Nat) (l0_0:List (S134)) (a1:Int) (r:Int) (w:World) (hr0_0:Kd.C k134 w A0_0 l0_0.length l0_0) (hc0_0:l0_0.length≤c0_0) (h:Y29.f k l0_0 a1=some r) :
  Calls Try.prog 13 #[.agg #[.slice A0_0 l0_0.length c0_0],.int .i64 a1] w fun e w'=>e = .returned (.int .i64 r)∧Below w.heap.size w w':=by
 have hu42:=Try.underlying42
 have HR0_0:=aM hr0_0
 have HC0_0:=aM hc0_0
 clear hr0_0 hc0_0
 have HB:=aM (Below.refl w.heap.size w)
 have H:((Y18.f k l0_0 a1).bind fun t700=>(if t700<0 then (some (-1)) else (some t700)))=some r:=h
 clear h
 replace H:=bS H
 obtain ⟨t700,A30,H⟩:=H
 replace H:(if t700<0 then (some (-1)) else (some t700))=some r:=H
 have A3:=aM A30
 clear A30
 by_cases c4:t700<0
 ·rw [if_pos c4] at H
  have c4b0:decide (t700<0)=true:=dE c4
  clear c4
  obtain rfl:=sI H
  go_enter Try.func13,Try.ntmps13
  go_wp2_with (first | ((with_reducible refine gd_ 2 ?_);refine be_ 2 #[.slice A0_0 l0_0.length c0_0] 42 ?_;intro gb699 hg w5 hbox hb;have n0_:=aM (below_step (z2_ HB.out) hb);have n1_:=aM (hbox);have n2_:=aM ((z6_ HB.out:w.heap.size≤gb699));have n3_:=aM ((z6_ HB.out:w.heap.size≤gb699));clear HB;have HB:=n0_;have BK699:=n1_;have GW699:=n2_;have GE699:=n3_;clear n0_ n1_ n2_ n3_;clear hb hbox hg;have ⟨hcz6_0,hfz6_0⟩:=cz1_ BK699.out) | ((with_reducible refine gc_ 48 ?_);refine gl_ (some 8) Try.func48 #[.slice A0_0 l0_0.length c0_0,.int .i64 a1] ?_;(with_reducible refine (Y18.calls k _ _ l0_0 a1 t700 _ ?s1 ?s2 A3.out).mono ?_);(case s1=>repeat (first | exact (Kd.C_below HR0_0.out HB.out) | (with_reducible refine Kd.C_alloc ?_ _) | (with_reducible refine Kd.C_drewN ?_ _) | (with_reducible refine Kd.C_drew ?_)));(case s2=>exact HC0_0.out);rintro e w7 ⟨rfl,hb⟩;refine ⟨_,rfl,?_⟩;have n0_:=aM (blkB_ BK699.out hb);have n1_:=aM (below_step (z3_ HB.out GE699.out) hb);clear BK699;clear HB;have BK699:=n0_;have HB:=n1_;clear n0_ n1_;(try clear hb)))
  go_ret
  exact ⟨z7_,z3_ HB.out GE699.out⟩
 ·rw [if_neg c4] at H
  have c4b0:decide (t700<0)=false:=dF c4
  clear c4
  obtain rfl:=sI H
  go_enter Try.func13,Try.ntmps13
  go_wp2_with (first | ((with_reducible refine gd_ 2 ?_);refine be_ 2 #[.slice A0_0 l0_0.length c0_0] 42 ?_;intro gb699 hg w8 hbox hb;have n0_:=aM (below_step (z2_ HB.out) hb);have n1_:=aM (hbox);have n2_:=aM ((z6_ HB.out:w.heap.size≤gb699));have n3_:=aM ((z6_ HB.out:w.heap.size≤gb699));clear HB;have HB:=n0_;have BK699:=n1_;have GW699:=n2_;have GE699:=n3_;clear n0_ n1_ n2_ n3_;clear hb hbox hg;have ⟨hcz9_0,hfz9_0⟩:=cz1_ BK699.out) | ((with_reducible refine gc_ 48 ?_);refine gl_ (some 8) Try.func48 #[.slice A0_0 l0_0.length c0_0,.int .i64 a1] ?_;(with_reducible refine (Y18.calls k _ _ l0_0 a1 t700 _ ?s1 ?s2 A3.out).mono ?_);(case s1=>repeat (first | exact (Kd.C_below HR0_0.out HB.out) | (with_reducible refine Kd.C_alloc ?_ _) | (with_reducible refine Kd.C_drewN ?_ _) | (with_reducible refine Kd.C_drew ?_)));(case s2=>exact HC0_0.out);rintro e w10 ⟨rfl,hb⟩;refine ⟨_,rfl,?_⟩;have n0_:=aM (blkB_ BK699.out hb);have n1_:=aM (below_step (z3_ HB.out GE699.out) hb);clear BK699;clear HB;have BK699:=n0_;have HB:=n1_;clear n0_ n1_;(try clear hb)))
  go_ret
  exact ⟨z7_,z3_ HB.out GE699.out⟩


/-! ### Y34: function 125 -/
def Y34.f (a0:Int) (a1:Int) (a2:Int):Option (Bool):=if a0≥a1 then (some (decide (a0≤a2))) else (some false)
theorem Y34.calls (a0:Int) (a1:Int) (a2:Int) (r:Bool) (w:World) (h:Y34.f a0 a1 a2=some r) :
  Calls Try.prog 125 #[.int .i64 a0,.int .i64 a1,.int .i64 a2] w fun e w'=>e = .returned (.bool r)∧Drawn0 w w':=by
 have H:(if a0≥a1 then (some (decide (a0≤a2))) else (some false))=some r:=h
 clear h
 by_cases c4:a0≥a1
 ·rw [if_pos c4] at H
  have c4b0:decide (a1≤a0)=true:=dE c4
  clear c4
  obtain rfl:=sI H
  go_enter Try.func125,Try.ntmps125
  go_wp2
  go_ret
  exact ⟨z1_,z4_⟩
 ·rw [if_neg c4] at H
  have c4b0:decide (a1≤a0)=false:=dF c4
  clear c4
  obtain rfl:=sI H
  go_enter Try.func125,Try.ntmps125
  go_wp2
  go_ret
  exact ⟨z1_,z4_⟩


/-! ### Y37: function 115 -/
def Y37.f (a0:Int):Option (Bool):=(Y34.f a0 1 5).bind fun t103=>(some t103)
theorem Y37.calls (a0:Int) (r:Bool) (w:World) (h:Y37.f a0=some r) :
  Calls Try.prog 115 #[.int .i64 a0] w fun e w'=>e = .returned (.bool r)∧Drawn0 w w':=by
 have H:((Y34.f a0 1 5).bind fun t103=>(some t103))=some r:=h
 clear h
 replace H:=bS H
 obtain ⟨t103,A20,H⟩:=H
 replace H:(some t103)=some r:=H
 have A2:=aM A20
 clear A20
 obtain rfl:=sI H
 go_enter Try.func115,Try.ntmps115
 go_wp2_with (first | ((with_reducible refine gc_ 125 ?_);refine gl_ (some 4) Try.func125 #[.int .i64 a0,.int .i64 1,.int .i64 5] ?_;(with_reducible refine (Y34.calls a0 1 5 t103 _ A2.out).mono ?_);rintro e w' ⟨rfl,⟨nd,rfl⟩⟩;refine ⟨_,rfl,?_⟩))
 go_ret
 exact ⟨z1_,z4_⟩


/-! ### Y35: function 103 -/
def Y35.f (a0_0:Int) (a0_1:Int):Option (Bool):=(Y37.f a0_0).bind fun t105=>(if t105=true then ((Y34.f a0_1 1 1000000).bind fun t106=>(some t106)) else (some false))
theorem Y35.calls (a0_0:Int) (a0_1:Int) (r:Bool) (w:World) (h:Y35.f a0_0 a0_1=some r) :
  Calls Try.prog 103 #[.agg #[.int .i64 a0_0,.int .i64 a0_1]] w fun e w'=>e = .returned (.bool r)∧Below w.heap.size w w':=by
 have hu30:=Try.underlying30
 have HB:=aM (Below.refl w.heap.size w)
 have H:((Y37.f a0_0).bind fun t105=>(if t105=true then ((Y34.f a0_1 1 1000000).bind fun t106=>(some t106)) else (some false)))=some r:=h
 clear h
 replace H:=bS H
 obtain ⟨t105,A20,H⟩:=H
 replace H:(if t105=true then ((Y34.f a0_1 1 1000000).bind fun t106=>(some t106)) else (some false))=some r:=H
 have A2:=aM A20
 clear A20
 by_cases c3:t105=true
 ·subst c3
  have H1:((Y34.f a0_1 1 1000000).bind fun t106=>(some t106))=some r:=by rw [if_pos rfl] at H;exact H
  clear H
  have H:=H1
  clear H1
  replace H:=bS H
  obtain ⟨t106,A40,H⟩:=H
  replace H:(some t106)=some r:=H
  have A4:=aM A40
  clear A40
  obtain rfl:=sI H
  go_enter Try.func103,Try.ntmps103
  go_wp2_with (first | ((with_reducible refine gd_ 1 ?_);refine be_ 1 #[.int .i64 a0_0,.int .i64 a0_1] 30 ?_;intro gb104 hg w5 hbox hb;have n0_:=aM (below_step (z2_ HB.out) hb);have n1_:=aM (hbox);have n2_:=aM ((z6_ HB.out:w.heap.size≤gb104));have n3_:=aM ((z6_ HB.out:w.heap.size≤gb104));clear HB;have HB:=n0_;have BK104:=n1_;have GW104:=n2_;have GE104:=n3_;clear n0_ n1_ n2_ n3_;clear hb hbox hg;have ⟨hcz6_0,hcz6_1,hfz6_0,hfz6_1⟩:=cz2_ BK104.out) | ((with_reducible refine gc_ 115 ?_);refine gl_ (some 5) Try.func115 #[.int .i64 a0_0] ?_;(with_reducible refine (Y37.calls a0_0 true _ A2.out).mono ?_);rintro e w' ⟨rfl,⟨nd,rfl⟩⟩;refine ⟨_,rfl,?_⟩) | (go_at_call 125;(with_reducible refine (Y34.calls a0_1 1 1000000 t106 _ A4.out).mono ?_);rintro e w' ⟨rfl,⟨nd,rfl⟩⟩))
  go_ret
  exact ⟨z7_,z3_ HB.out GE104.out⟩
 ·replace c3:=Bool.eq_false_iff.mpr c3
  subst c3
  have H1:(some false)=some r:=by rw [if_neg (show ¬ (false=true) by decide)] at H;exact H
  clear H
  have H:=H1
  clear H1
  obtain rfl:=sI H
  go_enter Try.func103,Try.ntmps103
  go_wp2_with (first | ((with_reducible refine gd_ 1 ?_);refine be_ 1 #[.int .i64 a0_0,.int .i64 a0_1] 30 ?_;intro gb104 hg w7 hbox hb;have n0_:=aM (below_step (z2_ HB.out) hb);have n1_:=aM (hbox);have n2_:=aM ((z6_ HB.out:w.heap.size≤gb104));have n3_:=aM ((z6_ HB.out:w.heap.size≤gb104));clear HB;have HB:=n0_;have BK104:=n1_;have GW104:=n2_;have GE104:=n3_;clear n0_ n1_ n2_ n3_;clear hb hbox hg;have ⟨hcz8_0,hcz8_1,hfz8_0,hfz8_1⟩:=cz2_ BK104.out) | ((with_reducible refine gc_ 115 ?_);refine gl_ (some 5) Try.func115 #[.int .i64 a0_0] ?_;(with_reducible refine (Y37.calls a0_0 false _ A2.out).mono ?_);rintro e w' ⟨rfl,⟨nd,rfl⟩⟩;refine ⟨_,rfl,?_⟩))
  go_ret
  exact ⟨z7_,z3_ HB.out GE104.out⟩


/-! ### Y2: function 61 -/
mutual
def Y2.l0:Nat→List (S30)→Int→Option (Bool)
 | 0,_,_=>none
 | k+1,x0,x3=>if x3<(x0.length:Int) then (Y2.j1 k x0 x3 (decide (x3≤5))) else (Y2.j1 k x0 x3 false)
def Y2.j1:Nat→List (S30)→Int→Bool→Option (Bool)
 | 0,_,_,_=>none
 | k+1,x0,x3,x11=>if x11=true then (if 0≤x3 then (if x3<(x0.length:Int) then ((Y35.f ((rd_T30 x0 x3).f0) ((rd_T30 x0 x3).f1)).bind fun t108=>(if t108=true then (if x3>0 then (if 0≤(wrap64 (x3-1)) then (if (wrap64 (x3-1))<(x0.length:Int) then (if ((rd_T30 x0 (wrap64 (x3-1))).f0)≥((rd_T30 x0 x3).f0) then (some false) else (Y2.l0 k x0 (wrap64 (x3+1)))) else (none)) else (none)) else (Y2.l0 k x0 (wrap64 (x3+1)))) else (some false))) else (none)) else (none)) else (some (decide ((x0.length:Int)≤5)))
end
def Y2.f (k:Nat) (l0:List (S30)):Option (Bool):=Y2.l0 k l0 0
theorem Y2.mono_l:∀ k,(∀ y0 y1,LeO (Y2.l0 k y0 y1) (Y2.l0 (k+1) y0 y1))∧(∀ y0 y1 y2,LeO (Y2.j1 k y0 y1 y2) (Y2.j1 (k+1) y0 y1 y2))
 | 0=>by refine ⟨?_,?_⟩ <;> intros <;> exact LeO.none _
 | k+1=>by
  obtain ⟨ih0,ih1⟩:=Y2.mono_l k
  refine ⟨?_,?_⟩
  ·intros
   unfold Y2.l0
   exact mO
  ·intros
   unfold Y2.j1
   exact mO
theorem Y2.mono:∀ a0 k,LeO (Y2.f k a0) (Y2.f (k+1) a0):=by
 intro a0 k
 obtain ⟨ih0,ih1⟩:=Y2.mono_l k
 unfold Y2.f
 exact mO
def Y2.T4:Bool × List (List Nat × List Nat):=(true,[([],[]),([],[]),([0,1],[0,1]),([2],[2]),([3],[3]),([4],[4]),([5,4],[5]),([6],[6]),([7,6],[6,7]),([8,6,6],[6,8]),([9],[9]),([9],[9]),([11,9],[9,11]),([10,12,9],[9,10,12]),([13,9],[9,13]),([14,9],[9,14]),([9],[9]),([9],[9]),([16,17,9],[9,16,17]),([18,9],[9,18]),([19,9],[9,19]),([15,20,9],[9,15,20]),([9,21,6],[6,9,21]),([6,22],[6,22])])
def Y2.B4:List Nat:=[0,0,3,7,15,31,63,127,255,511,1023,1023,3071,8191,16383,32767,1023,1023,197631,459775,984063,2097151,4194303,8388607]
theorem Y2.tab4:rtab .any (opsOf Try.f61 4)=Y2.T4:=by kernel_rfl
theorem Y2.bits4:waitsOk Y2.T4.2 Y2.B4=true:=by kernel_rfl
abbrev Y2.q0:Array Bool:=#[O,O,O,O,O,O,O,O,O,O,O,O,O,O,O,O,O,O,O,O,O,O,O,O]
abbrev Y2.q1:Array Bool:=#[I,O,O,O,O,O,O,O,O,O,O,O,O,O,O,O,O,O,O,O,O,O,O,O]
abbrev Y2.q2:Array Bool:=#[I,I,O,O,O,O,O,O,O,O,O,O,O,O,O,O,O,O,O,O,O,O,O,O]
abbrev Y2.q3:Array Bool:=#[I,I,I,O,O,O,O,O,O,O,O,O,O,O,O,O,O,O,O,O,O,O,O,O]
abbrev Y2.q4:Array Bool:=#[I,I,I,I,O,O,O,O,O,O,O,O,O,O,O,O,O,O,O,O,O,O,O,O]
abbrev Y2.q5:Array Bool:=#[I,I,I,I,I,O,O,O,O,O,O,O,O,O,O,O,O,O,O,O,O,O,O,O]
abbrev Y2.q6:Array Bool:=#[I,I,I,I,I,I,O,O,O,O,O,O,O,O,O,O,O,O,O,O,O,O,O,O]
abbrev Y2.q7:Array Bool:=#[I,I,I,I,I,I,I,O,O,O,O,O,O,O,O,O,O,O,O,O,O,O,O,O]
abbrev Y2.q8:Array Bool:=#[I,I,I,I,I,I,I,I,O,O,O,O,O,O,O,O,O,O,O,O,O,O,O,O]
abbrev Y2.q9:Array Bool:=#[I,I,I,I,I,I,I,I,I,O,O,O,O,O,O,O,O,O,O,O,O,O,O,O]
abbrev Y2.q10:Array Bool:=#[I,I,I,I,I,I,I,I,I,I,O,O,O,O,O,O,O,O,O,O,O,O,O,O]
abbrev Y2.q11:Array Bool:=#[I,I,I,I,I,I,I,I,I,I,I,O,O,O,O,O,O,O,O,O,O,O,O,O]
abbrev Y2.q12:Array Bool:=#[I,I,I,I,I,I,I,I,I,I,I,I,O,O,O,O,O,O,O,O,O,O,O,O]
abbrev Y2.q13:Array Bool:=#[I,I,I,I,I,I,I,I,I,I,I,I,I,O,O,O,O,O,O,O,O,O,O,O]
abbrev Y2.q14:Array Bool:=#[I,I,I,I,I,I,I,I,I,I,I,I,I,I,O,O,O,O,O,O,O,O,O,O]
abbrev Y2.q15:Array Bool:=#[I,I,I,I,I,I,I,I,I,I,I,I,I,I,I,O,O,O,O,O,O,O,O,O]
abbrev Y2.q16:Array Bool:=#[I,I,I,I,I,I,I,I,I,I,I,I,I,I,I,O,I,O,O,O,O,O,O,O]
abbrev Y2.q17:Array Bool:=#[I,I,I,I,I,I,I,I,I,I,I,I,I,I,I,O,I,I,O,O,O,O,O,O]
abbrev Y2.q18:Array Bool:=#[I,I,I,I,I,I,I,I,I,I,I,I,I,I,I,O,I,I,I,O,O,O,O,O]
abbrev Y2.q19:Array Bool:=#[I,I,I,I,I,I,I,I,I,I,I,I,I,I,I,O,I,I,I,I,O,O,O,O]
abbrev Y2.q20:Array Bool:=#[I,I,I,I,I,I,I,I,I,I,I,I,I,I,I,I,I,I,I,I,O,O,O,O]
abbrev Y2.q21:Array Bool:=#[I,I,I,I,I,I,I,I,I,I,I,I,I,I,I,I,I,I,I,I,I,O,O,O]
abbrev Y2.q22:Array Bool:=#[I,I,I,I,I,I,I,I,I,I,I,I,I,I,I,I,I,I,I,I,I,I,O,O]
abbrev Y2.q23:Array Bool:=#[I,I,I,I,I,I,I,I,I,I,I,I,I,I,I,I,I,I,I,I,I,I,I,O]
abbrev Y2.q24:Array Bool:=#[I,I,I,I,I,I,I,I,I,I,I,I,I,I,I,I,I,I,I,I,I,I,I,I]
abbrev Y2.q25:Array Bool:=#[I,I,I,I,I,I,I,I,I,I,I,I,I,I,I,I,O,O,O,O,O,O,O,O]
abbrev Y2.q26:Array Bool:=#[I,I,I,I,I,I,I,I,I,I,I,I,I,I,I,I,I,O,O,O,O,O,O,O]
abbrev Y2.q27:Array Bool:=#[I,I,I,I,I,I,I,I,I,I,I,I,I,I,I,I,I,I,O,O,O,O,O,O]
abbrev Y2.q28:Array Bool:=#[I,I,I,I,I,I,I,I,I,I,I,I,I,I,I,I,I,I,I,O,O,O,O,O]
theorem Y2.calls (k:Nat) (A0:Option Addr) (c0:Nat) (l0:List (S30)) (r:Bool) (w:World) (hr0:Kd.C k30 w A0 l0.length l0) (hc0:l0.length≤c0) (h:Y2.f k l0=some r) :
  Calls Try.prog 61 #[.slice A0 l0.length c0] w fun e w'=>e = .returned (.bool r)∧Below w.heap.size w w':=by
 have hu30:=Try.underlying30
 have HR0:=aM hr0
 have HC0:=aM hc0
 clear hr0 hc0
 have HB:=aM (Below.refl w.heap.size w)
 have H:(Y2.l0 k l0 0)=some r:=h
 clear h
 have H':=aM H
 clear H
 go_enter Try.func61,Try.ntmps61
 go_wp2
 go_loopg [3] k (fun kq v3 w'=>∃ (x3_1:Int),v3 = .int .i64 x3_1∧Aside0 (Y2.l0 kq l0 x3_1=some r)∧Aside0 (kq≤k)∧Aside0 (Below w.heap.size w w'))
 case atStart=>exact ⟨(0),(z1_),H',⟨Nat.le_refl _⟩,⟨z2_ HB.out⟩⟩
 case round =>
  clear H'
  obtain ⟨x3_1,rfl,HA,HK1,HB⟩:=hrel
  cases gk with
  | zero=>exact absurd HA.out (by simp [Y2.l0])
  | succ k1 =>
   have H:=HA.out
   clear HA
   simp only [Y2.l0] at H
   have HC2:=aM H
   clear H
   go_upto_region 2 with (fail)
   go_cut [11] (fun v11 wc=>∃ (kq:Nat) (x11_1:Bool),v11 = .bool x11_1∧Aside0 (Y2.j1 kq l0 x3_1 x11_1=some r)∧Aside0 (kq≤k1)∧Aside0 (Below w.heap.size w wc))
   case first =>
    have H:=HC2.out
    clear HC2
    by_cases c3:x3_1<(l0.length:Int)
    ·rw [if_pos c3] at H
     have c3b0:decide (x3_1<(l0.length:Int))=true:=dE c3
     clear c3
     (first | rw [c3b0] | (simp only [i64_w,i32_w];rw [c3b0]) | skip)
     have H':=aM H
     clear H
     go_wp2
     go_meet
     case rel=>exact ⟨_,(decide (x3_1≤5)),(z1_),H',⟨z14_ HK1.out⟩,⟨z2_ HB.out⟩⟩
    ·rw [if_neg c3] at H
     have c3b0:decide (x3_1<(l0.length:Int))=false:=dF c3
     clear c3
     (first | rw [c3b0] | (simp only [i64_w,i32_w];rw [c3b0]) | skip)
     have H':=aM H
     clear H
     go_wp2
     go_meet
     case rel=>exact ⟨_,(false),(z1_),H',⟨z14_ HK1.out⟩,⟨z2_ HB.out⟩⟩
   case rest =>
    clear HC2
    try clear p2
    try clear c3
    try clear c3b0
    obtain ⟨kq,x11_1,rfl,HA,HJ1,HB⟩:=hcut
    cases kq with
    | zero=>exact absurd HA.out (by simp [Y2.j1])
    | succ kj1 =>
     have H:=HA.out
     clear HA
     simp only [Y2.j1] at H
     by_cases c4:x11_1=true
     ·subst c4
      have H1:(if 0≤x3_1 then (if x3_1<(l0.length:Int) then ((Y35.f ((rd_T30 l0 x3_1).f0) ((rd_T30 l0 x3_1).f1)).bind fun t108=>(if t108=true then (if x3_1>0 then (if 0≤(wrap64 (x3_1-1)) then (if (wrap64 (x3_1-1))<(l0.length:Int) then (if ((rd_T30 l0 (wrap64 (x3_1-1))).f0)≥((rd_T30 l0 x3_1).f0) then (some false) else (Y2.l0 kj1 l0 (wrap64 (x3_1+1)))) else (none)) else (none)) else (Y2.l0 kj1 l0 (wrap64 (x3_1+1)))) else (some false))) else (none)) else (none))=some r:=by rw [if_pos rfl] at H;exact H
      clear H
      have H:=H1
      clear H1
      by_cases c5:0≤x3_1
      ·rw [if_pos c5] at H
       have c5b0:decide (0≤x3_1)=true:=dE c5
       clear c5
       by_cases c6:x3_1<(l0.length:Int)
       ·rw [if_pos c6] at H
        have c6b0:decide (x3_1<(l0.length:Int))=true:=dE c6
        clear c6
        replace H:=bS H
        obtain ⟨t108,A70,H⟩:=H
        replace H:(if t108=true then (if x3_1>0 then (if 0≤(wrap64 (x3_1-1)) then (if (wrap64 (x3_1-1))<(l0.length:Int) then (if ((rd_T30 l0 (wrap64 (x3_1-1))).f0)≥((rd_T30 l0 x3_1).f0) then (some false) else (Y2.l0 kj1 l0 (wrap64 (x3_1+1)))) else (none)) else (none)) else (Y2.l0 kj1 l0 (wrap64 (x3_1+1)))) else (some false))=some r:=H
        have A7:=aM A70
        clear A70
        by_cases c8:t108=true
        ·subst c8
         have H1:(if x3_1>0 then (if 0≤(wrap64 (x3_1-1)) then (if (wrap64 (x3_1-1))<(l0.length:Int) then (if ((rd_T30 l0 (wrap64 (x3_1-1))).f0)≥((rd_T30 l0 x3_1).f0) then (some false) else (Y2.l0 kj1 l0 (wrap64 (x3_1+1)))) else (none)) else (none)) else (Y2.l0 kj1 l0 (wrap64 (x3_1+1))))=some r:=by rw [if_pos rfl] at H;exact H
         clear H
         have H:=H1
         clear H1
         by_cases c9:x3_1>0
         ·rw [if_pos c9] at H
          have c9b0:decide (0<x3_1)=true:=dE c9
          clear c9
          obtain ⟨ji10,hji10⟩:∃ j_:Int,(wrap64 (x3_1-1))=j_:=⟨_,rfl⟩
          replace H:(if 0≤(ji10) then (if (ji10)<(l0.length:Int) then (if ((rd_T30 l0 (ji10)).f0)≥((rd_T30 l0 x3_1).f0) then (some false) else (Y2.l0 kj1 l0 (wrap64 (x3_1+1)))) else (none)) else (none))=some r:=by first | (rw [hji10] at H;exact H) | (simp only [hji10] at H ⊢;exact H)
          (try rw [hji10] at A7)
          have hji10w:(IntKind.i64.wrap (x3_1-1))=ji10:=(i64_w _).trans hji10
          by_cases c11:0≤(ji10)
          ·rw [if_pos c11] at H
           have c11b0:decide (0≤(ji10))=true:=dE c11
           clear c11
           by_cases c12:(ji10)<(l0.length:Int)
           ·rw [if_pos c12] at H
            have c12b0:decide ((ji10)<(l0.length:Int))=true:=dE c12
            clear c12
            by_cases c13:((rd_T30 l0 (ji10)).f0)≥((rd_T30 l0 x3_1).f0)
            ·rw [if_pos c13] at H
             have c13b0:decide (((rd_T30 l0 x3_1).f0)≤((rd_T30 l0 (ji10)).f0))=true:=dE c13
             clear c13
             obtain rfl:=sI H
             try go_wp2
             have n0_:=aM (below_drew1 HB.out)
             clear HB
             have HB:=n0_
             clear n0_
             have p107:0≤(x3_1:Int):=dT (z0_)
             have q107:x3_1<(l0.length:Int):=dT (z0_)
             obtain ⟨ad107,e107,hx107_0,hx107_1⟩:=at_T30 HR0.out x3_1 p107 q107
             have hw107_1:=hx107_1
             have hw107_0:=hx107_0
             cases e107
             replace hx107_0:=(HB.out.cell (World.block_lt_of_cell? w _ hx107_0)).trans hx107_0
             replace hx107_1:=(HB.out.cell (World.block_lt_of_cell? w _ hx107_1)).trans hx107_1
             replace p107:=eq_true p107
             replace q107:=eq_true q107
             have p109:0≤((ji10):Int):=dT (z0_)
             have q109:(ji10)<(l0.length:Int):=dT (z0_)
             obtain ⟨ad109,e109,hx109_0,hx109_1⟩:=at_T30 HR0.out (ji10) p109 q109
             have hw109_1:=hx109_1
             have hw109_0:=hx109_0
             obtain rfl:ad107=ad109:=(by injection e109)
             replace hx109_0:=(HB.out.cell (World.block_lt_of_cell? w _ hx109_0)).trans hx109_0
             replace hx109_1:=(HB.out.cell (World.block_lt_of_cell? w _ hx109_1)).trans hx109_1
             replace p109:=eq_true p109
             replace q109:=eq_true q109
             have p110:0≤(x3_1:Int):=dT (z0_)
             have q110:x3_1<(l0.length:Int):=dT (z0_)
             obtain ⟨ad110,e110,hx110_0,hx110_1⟩:=at_T30 HR0.out x3_1 p110 q110
             have hw110_1:=hx110_1
             have hw110_0:=hx110_0
             obtain rfl:ad107=ad110:=(by injection e110)
             replace hx110_0:=(HB.out.cell (World.block_lt_of_cell? w _ hx110_0)).trans hx110_0
             replace hx110_1:=(HB.out.cell (World.block_lt_of_cell? w _ hx110_1)).trans hx110_1
             replace p110:=eq_true p110
             replace q110:=eq_true q110
             refine start_ (n:=24) (S:=fun w'=>w'.cell? (ad107.add ((x3_1).toNat*2))=some (.int .i64 ((rd_T30 l0 x3_1).f0))∧w'.cell? ⟨(ad107.add ((x3_1).toNat*2)).block,(ad107.add ((x3_1).toNat*2)).off+1,none⟩=some (.int .i64 ((rd_T30 l0 x3_1).f1))∧w'.cell? (ad107.add (((ji10)).toNat*2))=some (.int .i64 ((rd_T30 l0 (ji10)).f0))∧w'.cell? ⟨(ad107.add (((ji10)).toNat*2)).block,(ad107.add (((ji10)).toNat*2)).off+1,none⟩=some (.int .i64 ((rd_T30 l0 (ji10)).f1))∧w'.cell? (ad107.add ((x3_1).toNat*2))=some (.int .i64 ((rd_T30 l0 x3_1).f0))∧w'.cell? ⟨(ad107.add ((x3_1).toNat*2)).block,(ad107.add ((x3_1).toNat*2)).off+1,none⟩=some (.int .i64 ((rd_T30 l0 x3_1).f1))) (ds:=[]) Y2.q0 (by kernel_rfl) rfl rfl ⟨((HB.out.cell (World.block_lt_of_cell? w _ hw107_0)).trans hw107_0),((HB.out.cell (World.block_lt_of_cell? w _ hw107_1)).trans hw107_1),((HB.out.cell (World.block_lt_of_cell? w _ hw109_0)).trans hw109_0),((HB.out.cell (World.block_lt_of_cell? w _ hw109_1)).trans hw109_1),((HB.out.cell (World.block_lt_of_cell? w _ hw110_0)).trans hw110_0),((HB.out.cell (World.block_lt_of_cell? w _ hw110_1)).trans hw110_1)⟩ (fun hHeld=>?_);refine with_tabW Y2.tab4 Y2.bits4 (fun HT_ HW_=>?_)
             generalize wc.drew=w14 at HB hx107_0 hx107_1 hx109_0 hx109_1 hx110_0 hx110_1 hHeld ⊢
             refine pu_ 0 14 Y2.q1 HT_.out ?_
             refine pu_ 1 15 Y2.q2 HT_.out ?_
             refine pu_ 2 16 Y2.q3 HT_.out ?_
             refine tk6_ 3 17 Y2.q4 HT_.out HW_.out hHeld ?_
             refine o1_ 4 18 Y2.q5 HT_.out (fun K hK=>?_)
             refine gs_ Try.func103 #[.agg #[.int .i64 ((rd_T30 l0 x3_1).f0),.int .i64 ((rd_T30 l0 x3_1).f1)]] ?_
             with_reducible refine (Y35.calls ((rd_T30 l0 x3_1).f0) ((rd_T30 l0 x3_1).f1) true _ A7.out).mono ?_
             rintro e w15 ⟨rfl,hb⟩
             refine ⟨_,rfl,?_⟩
             have n0_:=aM (below_step (z2_ HB.out) hb)
             clear HB
             have HB:=n0_
             clear n0_
             (try clear hb)
             refine hK.out _ _ ⟨((HB.out.cell (World.block_lt_of_cell? w _ hw107_0)).trans hw107_0),((HB.out.cell (World.block_lt_of_cell? w _ hw107_1)).trans hw107_1),((HB.out.cell (World.block_lt_of_cell? w _ hw109_0)).trans hw109_0),((HB.out.cell (World.block_lt_of_cell? w _ hw109_1)).trans hw109_1),((HB.out.cell (World.block_lt_of_cell? w _ hw110_0)).trans hw110_0),((HB.out.cell (World.block_lt_of_cell? w _ hw110_1)).trans hw110_1)⟩ (fun hHeld=>?_)
             clear hK K
             refine nm_ 18 ?_
             refine pu_ 5 19 Y2.q6 HT_.out ?_
             refine pu_ 6 20 Y2.q7 HT_.out ?_
             refine pu_ 7 21 Y2.q8 HT_.out ?_
             refine pu_ 8 22 Y2.q9 HT_.out ?_
             refine pu_ 9 23 Y2.q10 HT_.out ?_
             refine pu_ 10 24 Y2.q11 HT_.out ?_
             refine pu_ 11 25 Y2.q12 HT_.out ?_
             refine pu_ 12 26 Y2.q13 HT_.out ?_
             refine pu_ 13 27 Y2.q14 HT_.out ?_
             refine pu_ 14 28 Y2.q15 HT_.out ?_
             refine pu_ 16 30 Y2.q16 HT_.out ?_
             refine pu_ 17 31 Y2.q17 HT_.out ?_
             refine pu_ 18 32 Y2.q18 HT_.out ?_
             refine pu_ 19 33 Y2.q19 HT_.out ?_
             refine tk6_ 15 29 Y2.q20 HT_.out HW_.out hHeld ?_
             refine tk6_ 20 34 Y2.q21 HT_.out HW_.out hHeld ?_
             refine pu_ 21 35 Y2.q22 HT_.out ?_
             refine pu_ 22 36 Y2.q23 HT_.out ?_
             refine pu_ 23 37 Y2.q24 HT_.out ?_
             refine done_ (done_of HT_.out (by kernel_rfl)) ?_
             try go_wp2
             go_ret
             exact ⟨by first | rfl | (simp [errW_none,errW_some] <;> rfl) | (simp only [← hji10];first | rfl | (simp [errW_none,errW_some] <;> rfl)) | (simp [*,errW_none,errW_some] <;> rfl),z2_ HB.out⟩
            ·rw [if_neg c13] at H
             have c13b0:decide (((rd_T30 l0 x3_1).f0)≤((rd_T30 l0 (ji10)).f0))=false:=dF c13
             clear c13
             have H':=aM H
             clear H
             try go_wp2
             have n0_:=aM (below_drew1 HB.out)
             clear HB
             have HB:=n0_
             clear n0_
             have p107:0≤(x3_1:Int):=dT (z0_)
             have q107:x3_1<(l0.length:Int):=dT (z0_)
             obtain ⟨ad107,e107,hx107_0,hx107_1⟩:=at_T30 HR0.out x3_1 p107 q107
             have hw107_1:=hx107_1
             have hw107_0:=hx107_0
             cases e107
             replace hx107_0:=(HB.out.cell (World.block_lt_of_cell? w _ hx107_0)).trans hx107_0
             replace hx107_1:=(HB.out.cell (World.block_lt_of_cell? w _ hx107_1)).trans hx107_1
             replace p107:=eq_true p107
             replace q107:=eq_true q107
             have p109:0≤((ji10):Int):=dT (z0_)
             have q109:(ji10)<(l0.length:Int):=dT (z0_)
             obtain ⟨ad109,e109,hx109_0,hx109_1⟩:=at_T30 HR0.out (ji10) p109 q109
             have hw109_1:=hx109_1
             have hw109_0:=hx109_0
             obtain rfl:ad107=ad109:=(by injection e109)
             replace hx109_0:=(HB.out.cell (World.block_lt_of_cell? w _ hx109_0)).trans hx109_0
             replace hx109_1:=(HB.out.cell (World.block_lt_of_cell? w _ hx109_1)).trans hx109_1
             replace p109:=eq_true p109
             replace q109:=eq_true q109
             have p110:0≤(x3_1:Int):=dT (z0_)
             have q110:x3_1<(l0.length:Int):=dT (z0_)
             obtain ⟨ad110,e110,hx110_0,hx110_1⟩:=at_T30 HR0.out x3_1 p110 q110
             have hw110_1:=hx110_1
             have hw110_0:=hx110_0
             obtain rfl:ad107=ad110:=(by injection e110)
             replace hx110_0:=(HB.out.cell (World.block_lt_of_cell? w _ hx110_0)).trans hx110_0
             replace hx110_1:=(HB.out.cell (World.block_lt_of_cell? w _ hx110_1)).trans hx110_1
             replace p110:=eq_true p110
             replace q110:=eq_true q110
             refine start_ (n:=24) (S:=fun w'=>w'.cell? (ad107.add ((x3_1).toNat*2))=some (.int .i64 ((rd_T30 l0 x3_1).f0))∧w'.cell? ⟨(ad107.add ((x3_1).toNat*2)).block,(ad107.add ((x3_1).toNat*2)).off+1,none⟩=some (.int .i64 ((rd_T30 l0 x3_1).f1))∧w'.cell? (ad107.add (((ji10)).toNat*2))=some (.int .i64 ((rd_T30 l0 (ji10)).f0))∧w'.cell? ⟨(ad107.add (((ji10)).toNat*2)).block,(ad107.add (((ji10)).toNat*2)).off+1,none⟩=some (.int .i64 ((rd_T30 l0 (ji10)).f1))∧w'.cell? (ad107.add ((x3_1).toNat*2))=some (.int .i64 ((rd_T30 l0 x3_1).f0))∧w'.cell? ⟨(ad107.add ((x3_1).toNat*2)).block,(ad107.add ((x3_1).toNat*2)).off+1,none⟩=some (.int .i64 ((rd_T30 l0 x3_1).f1))) (ds:=[]) Y2.q0 (by kernel_rfl) rfl rfl ⟨((HB.out.cell (World.block_lt_of_cell? w _ hw107_0)).trans hw107_0),((HB.out.cell (World.block_lt_of_cell? w _ hw107_1)).trans hw107_1),((HB.out.cell (World.block_lt_of_cell? w _ hw109_0)).trans hw109_0),((HB.out.cell (World.block_lt_of_cell? w _ hw109_1)).trans hw109_1),((HB.out.cell (World.block_lt_of_cell? w _ hw110_0)).trans hw110_0),((HB.out.cell (World.block_lt_of_cell? w _ hw110_1)).trans hw110_1)⟩ (fun hHeld=>?_);refine with_tabW Y2.tab4 Y2.bits4 (fun HT_ HW_=>?_)
             generalize wc.drew=w16 at HB hx107_0 hx107_1 hx109_0 hx109_1 hx110_0 hx110_1 hHeld ⊢
             refine pu_ 0 14 Y2.q1 HT_.out ?_
             refine pu_ 1 15 Y2.q2 HT_.out ?_
             refine pu_ 2 16 Y2.q3 HT_.out ?_
             refine tk6_ 3 17 Y2.q4 HT_.out HW_.out hHeld ?_
             refine o1_ 4 18 Y2.q5 HT_.out (fun K hK=>?_)
             refine gs_ Try.func103 #[.agg #[.int .i64 ((rd_T30 l0 x3_1).f0),.int .i64 ((rd_T30 l0 x3_1).f1)]] ?_
             with_reducible refine (Y35.calls ((rd_T30 l0 x3_1).f0) ((rd_T30 l0 x3_1).f1) true _ A7.out).mono ?_
             rintro e w17 ⟨rfl,hb⟩
             refine ⟨_,rfl,?_⟩
             have n0_:=aM (below_step (z2_ HB.out) hb)
             clear HB
             have HB:=n0_
             clear n0_
             (try clear hb)
             refine hK.out _ _ ⟨((HB.out.cell (World.block_lt_of_cell? w _ hw107_0)).trans hw107_0),((HB.out.cell (World.block_lt_of_cell? w _ hw107_1)).trans hw107_1),((HB.out.cell (World.block_lt_of_cell? w _ hw109_0)).trans hw109_0),((HB.out.cell (World.block_lt_of_cell? w _ hw109_1)).trans hw109_1),((HB.out.cell (World.block_lt_of_cell? w _ hw110_0)).trans hw110_0),((HB.out.cell (World.block_lt_of_cell? w _ hw110_1)).trans hw110_1)⟩ (fun hHeld=>?_)
             clear hK K
             refine nm_ 18 ?_
             refine pu_ 5 19 Y2.q6 HT_.out ?_
             refine pu_ 6 20 Y2.q7 HT_.out ?_
             refine pu_ 7 21 Y2.q8 HT_.out ?_
             refine pu_ 8 22 Y2.q9 HT_.out ?_
             refine pu_ 9 23 Y2.q10 HT_.out ?_
             refine pu_ 10 24 Y2.q11 HT_.out ?_
             refine pu_ 11 25 Y2.q12 HT_.out ?_
             refine pu_ 12 26 Y2.q13 HT_.out ?_
             refine pu_ 13 27 Y2.q14 HT_.out ?_
             refine pu_ 14 28 Y2.q15 HT_.out ?_
             refine pu_ 16 30 Y2.q16 HT_.out ?_
             refine pu_ 17 31 Y2.q17 HT_.out ?_
             refine pu_ 18 32 Y2.q18 HT_.out ?_
             refine pu_ 19 33 Y2.q19 HT_.out ?_
             refine tk6_ 15 29 Y2.q20 HT_.out HW_.out hHeld ?_
             refine tk6_ 20 34 Y2.q21 HT_.out HW_.out hHeld ?_
             refine pu_ 21 35 Y2.q22 HT_.out ?_
             refine pu_ 22 36 Y2.q23 HT_.out ?_
             refine pu_ 23 37 Y2.q24 HT_.out ?_
             refine done_ (done_of HT_.out (by kernel_rfl)) ?_
             try go_wp2
             go_roundg kj1
             case measure=>have:=HK1.out;have:=HJ1.out;omega
             case rel=>exact ⟨(wrap64 (x3_1+1)),(z1_),H',⟨z11_ HK1.out HJ1.out⟩,⟨z2_ HB.out⟩⟩
           ·rw [if_neg c12] at H
            exact nO H
          ·rw [if_neg c11] at H
           exact nO H
         ·rw [if_neg c9] at H
          have c9b0:decide (0<x3_1)=false:=dF c9
          clear c9
          have H':=aM H
          clear H
          try go_wp2
          have n0_:=aM (below_drew1 HB.out)
          clear HB
          have HB:=n0_
          clear n0_
          have p107:0≤(x3_1:Int):=dT (z0_)
          have q107:x3_1<(l0.length:Int):=dT (z0_)
          obtain ⟨ad107,e107,hx107_0,hx107_1⟩:=at_T30 HR0.out x3_1 p107 q107
          have hw107_1:=hx107_1
          have hw107_0:=hx107_0
          cases e107
          replace hx107_0:=(HB.out.cell (World.block_lt_of_cell? w _ hx107_0)).trans hx107_0
          replace hx107_1:=(HB.out.cell (World.block_lt_of_cell? w _ hx107_1)).trans hx107_1
          replace p107:=eq_true p107
          replace q107:=eq_true q107
          refine start_ (n:=24) (S:=fun w'=>w'.cell? (ad107.add ((x3_1).toNat*2))=some (.int .i64 ((rd_T30 l0 x3_1).f0))∧w'.cell? ⟨(ad107.add ((x3_1).toNat*2)).block,(ad107.add ((x3_1).toNat*2)).off+1,none⟩=some (.int .i64 ((rd_T30 l0 x3_1).f1))) (ds:=[]) Y2.q0 (by kernel_rfl) rfl rfl ⟨((HB.out.cell (World.block_lt_of_cell? w _ hw107_0)).trans hw107_0),((HB.out.cell (World.block_lt_of_cell? w _ hw107_1)).trans hw107_1)⟩ (fun hHeld=>?_);refine with_tabW Y2.tab4 Y2.bits4 (fun HT_ HW_=>?_)
          generalize wc.drew=w18 at HB hx107_0 hx107_1 hHeld ⊢
          refine pu_ 0 14 Y2.q1 HT_.out ?_
          refine pu_ 1 15 Y2.q2 HT_.out ?_
          refine pu_ 2 16 Y2.q3 HT_.out ?_
          refine tk2_ 3 17 Y2.q4 HT_.out HW_.out hHeld ?_
          refine o1_ 4 18 Y2.q5 HT_.out (fun K hK=>?_)
          refine gs_ Try.func103 #[.agg #[.int .i64 ((rd_T30 l0 x3_1).f0),.int .i64 ((rd_T30 l0 x3_1).f1)]] ?_
          with_reducible refine (Y35.calls ((rd_T30 l0 x3_1).f0) ((rd_T30 l0 x3_1).f1) true _ A7.out).mono ?_
          rintro e w19 ⟨rfl,hb⟩
          refine ⟨_,rfl,?_⟩
          have n0_:=aM (below_step (z2_ HB.out) hb)
          clear HB
          have HB:=n0_
          clear n0_
          (try clear hb)
          refine hK.out _ _ ⟨((HB.out.cell (World.block_lt_of_cell? w _ hw107_0)).trans hw107_0),((HB.out.cell (World.block_lt_of_cell? w _ hw107_1)).trans hw107_1)⟩ (fun hHeld=>?_)
          clear hK K
          refine nm_ 18 ?_
          refine pu_ 5 19 Y2.q6 HT_.out ?_
          refine pu_ 6 20 Y2.q7 HT_.out ?_
          refine pu_ 7 21 Y2.q8 HT_.out ?_
          refine pu_ 8 22 Y2.q9 HT_.out ?_
          refine pu_ 9 23 Y2.q10 HT_.out ?_
          refine pn_ 10 24 Y2.q11 HT_.out ?_
          refine pn_ 11 25 Y2.q12 HT_.out ?_
          refine pn_ 12 26 Y2.q13 HT_.out ?_
          refine pn_ 13 27 Y2.q14 HT_.out ?_
          refine pn_ 14 28 Y2.q15 HT_.out ?_
          refine pn_ 15 29 Y2.q25 HT_.out ?_
          refine pn_ 16 30 Y2.q26 HT_.out ?_
          refine pn_ 17 31 Y2.q27 HT_.out ?_
          refine pn_ 18 32 Y2.q28 HT_.out ?_
          refine pn_ 19 33 Y2.q20 HT_.out ?_
          refine pn_ 20 34 Y2.q21 HT_.out ?_
          refine pn_ 21 35 Y2.q22 HT_.out ?_
          refine pu_ 22 36 Y2.q23 HT_.out ?_
          refine pu_ 23 37 Y2.q24 HT_.out ?_
          refine done_ (done_of HT_.out (by kernel_rfl)) ?_
          try go_wp2
          go_roundg kj1
          case measure=>have:=HK1.out;have:=HJ1.out;omega
          case rel=>exact ⟨(wrap64 (x3_1+1)),(z1_),H',⟨z11_ HK1.out HJ1.out⟩,⟨z2_ HB.out⟩⟩
        ·replace c8:=Bool.eq_false_iff.mpr c8
         subst c8
         have H1:(some false)=some r:=by rw [if_neg (show ¬ (false=true) by decide)] at H;exact H
         clear H
         have H:=H1
         clear H1
         obtain rfl:=sI H
         try go_wp2
         have n0_:=aM (below_drew1 HB.out)
         clear HB
         have HB:=n0_
         clear n0_
         have p107:0≤(x3_1:Int):=dT (z0_)
         have q107:x3_1<(l0.length:Int):=dT (z0_)
         obtain ⟨ad107,e107,hx107_0,hx107_1⟩:=at_T30 HR0.out x3_1 p107 q107
         have hw107_1:=hx107_1
         have hw107_0:=hx107_0
         cases e107
         replace hx107_0:=(HB.out.cell (World.block_lt_of_cell? w _ hx107_0)).trans hx107_0
         replace hx107_1:=(HB.out.cell (World.block_lt_of_cell? w _ hx107_1)).trans hx107_1
         replace p107:=eq_true p107
         replace q107:=eq_true q107
         refine start_ (n:=24) (S:=fun w'=>w'.cell? (ad107.add ((x3_1).toNat*2))=some (.int .i64 ((rd_T30 l0 x3_1).f0))∧w'.cell? ⟨(ad107.add ((x3_1).toNat*2)).block,(ad107.add ((x3_1).toNat*2)).off+1,none⟩=some (.int .i64 ((rd_T30 l0 x3_1).f1))) (ds:=[]) Y2.q0 (by kernel_rfl) rfl rfl ⟨((HB.out.cell (World.block_lt_of_cell? w _ hw107_0)).trans hw107_0),((HB.out.cell (World.block_lt_of_cell? w _ hw107_1)).trans hw107_1)⟩ (fun hHeld=>?_);refine with_tabW Y2.tab4 Y2.bits4 (fun HT_ HW_=>?_)
         generalize wc.drew=w20 at HB hx107_0 hx107_1 hHeld ⊢
         refine pu_ 0 14 Y2.q1 HT_.out ?_
         refine pu_ 1 15 Y2.q2 HT_.out ?_
         refine pu_ 2 16 Y2.q3 HT_.out ?_
         refine tk2_ 3 17 Y2.q4 HT_.out HW_.out hHeld ?_
         refine o1_ 4 18 Y2.q5 HT_.out (fun K hK=>?_)
         refine gs_ Try.func103 #[.agg #[.int .i64 ((rd_T30 l0 x3_1).f0),.int .i64 ((rd_T30 l0 x3_1).f1)]] ?_
         with_reducible refine (Y35.calls ((rd_T30 l0 x3_1).f0) ((rd_T30 l0 x3_1).f1) false _ A7.out).mono ?_
         rintro e w21 ⟨rfl,hb⟩
         refine ⟨_,rfl,?_⟩
         have n0_:=aM (below_step (z2_ HB.out) hb)
         clear HB
         have HB:=n0_
         clear n0_
         (try clear hb)
         refine hK.out _ _ ⟨((HB.out.cell (World.block_lt_of_cell? w _ hw107_0)).trans hw107_0),((HB.out.cell (World.block_lt_of_cell? w _ hw107_1)).trans hw107_1)⟩ (fun hHeld=>?_)
         clear hK K
         refine nm_ 18 ?_
         refine pu_ 5 19 Y2.q6 HT_.out ?_
         refine pu_ 6 20 Y2.q7 HT_.out ?_
         refine pn_ 7 21 Y2.q8 HT_.out ?_
         refine pn_ 8 22 Y2.q9 HT_.out ?_
         refine pn_ 9 23 Y2.q10 HT_.out ?_
         refine pn_ 10 24 Y2.q11 HT_.out ?_
         refine pn_ 11 25 Y2.q12 HT_.out ?_
         refine pn_ 12 26 Y2.q13 HT_.out ?_
         refine pn_ 13 27 Y2.q14 HT_.out ?_
         refine pn_ 14 28 Y2.q15 HT_.out ?_
         refine pn_ 15 29 Y2.q25 HT_.out ?_
         refine pn_ 16 30 Y2.q26 HT_.out ?_
         refine pn_ 17 31 Y2.q27 HT_.out ?_
         refine pn_ 18 32 Y2.q28 HT_.out ?_
         refine pn_ 19 33 Y2.q20 HT_.out ?_
         refine pn_ 20 34 Y2.q21 HT_.out ?_
         refine pn_ 21 35 Y2.q22 HT_.out ?_
         refine pn_ 22 36 Y2.q23 HT_.out ?_
         refine pu_ 23 37 Y2.q24 HT_.out ?_
         refine done_ (done_of HT_.out (by kernel_rfl)) ?_
         try go_wp2
         go_ret
         exact ⟨z7_,z2_ HB.out⟩
       ·rw [if_neg c6] at H
        exact nO H
      ·rw [if_neg c5] at H
       exact nO H
     ·replace c4:=Bool.eq_false_iff.mpr c4
      subst c4
      have H1:(some (decide ((l0.length:Int)≤5)))=some r:=by rw [if_neg (show ¬ (false=true) by decide)] at H;exact H
      clear H
      have H:=H1
      clear H1
      obtain rfl:=sI H
      go_wp2
      go_ret
      exact ⟨z7_,z2_ HB.out⟩


/-! ### Y10: function 60 -/
mutual
def Y10.j0:Nat→ByteArray→Bool→Option (Bool)
 | 0,_,_=>none
 | k+1,x0,x12=>if x12=true then (some false) else (Y10.l0 k x0 0)
def Y10.l0:Nat→ByteArray→Int→Option (Bool)
 | 0,_,_=>none
 | k+1,x0,x3=>if x3<(x0.size:Int) then (if 0≤x3 then (if (bt x0 x3)≥97 then (if ((bt x0 x3)≤122) then (Y10.l0 k x0 (wrap64 (x3+1))) else (if x3=0 then (some false) else (if (bt x0 x3)≥48 then (if ((bt x0 x3)≤57) then (Y10.l0 k x0 (wrap64 (x3+1))) else (if (bt x0 x3)=95 then (Y10.l0 k x0 (wrap64 (x3+1))) else (some false))) else (if (bt x0 x3)=95 then (Y10.l0 k x0 (wrap64 (x3+1))) else (some false))))) else (if x3=0 then (some false) else (if (bt x0 x3)≥48 then (if ((bt x0 x3)≤57) then (Y10.l0 k x0 (wrap64 (x3+1))) else (if (bt x0 x3)=95 then (Y10.l0 k x0 (wrap64 (x3+1))) else (some false))) else (if (bt x0 x3)=95 then (Y10.l0 k x0 (wrap64 (x3+1))) else (some false))))) else (none)) else (some true)
end
def Y10.f (k:Nat) (a0:ByteArray):Option (Bool):=if (a0.size:Int)<1 then (Y10.j0 k a0 true) else (Y10.j0 k a0 (decide ((a0.size:Int)>20)))
theorem Y10.mono_l:∀ k,(∀ y0 y1,LeO (Y10.j0 k y0 y1) (Y10.j0 (k+1) y0 y1))∧(∀ y0 y1,LeO (Y10.l0 k y0 y1) (Y10.l0 (k+1) y0 y1))
 | 0=>by refine ⟨?_,?_⟩ <;> intros <;> exact LeO.none _
 | k+1=>by
  obtain ⟨ih0,ih1⟩:=Y10.mono_l k
  refine ⟨?_,?_⟩
  ·intros
   unfold Y10.j0
   exact mO
  ·intros
   unfold Y10.l0
   exact mO
theorem Y10.mono:∀ a0 k,LeO (Y10.f k a0) (Y10.f (k+1) a0):=by
 intro a0 k
 obtain ⟨ih0,ih1⟩:=Y10.mono_l k
 unfold Y10.f
 exact mO
theorem Y10.calls (k:Nat) (a0:ByteArray) (r:Bool) (w:World) (h:Y10.f k a0=some r) :
  Calls Try.prog 60 #[.string a0] w fun e w'=>e = .returned (.bool r)∧Drawn0 w w':=by
 have H:(if (a0.size:Int)<1 then (Y10.j0 k a0 true) else (Y10.j0 k a0 (decide ((a0.size:Int)>20))))=some r:=h
 clear h
 have HC2:=aM H
 clear H
 go_enter Try.func60,Try.ntmps60
 go_upto_region 1 with (fail)
 go_cut [12] (fun v12 wc=>∃ (kq:Nat) (x12_1:Bool),v12 = .bool x12_1∧Aside0 (Y10.j0 kq a0 x12_1=some r)∧Aside0 (kq≤k)∧Drawn0 w wc)
 case first =>
  have H:=HC2.out
  clear HC2
  by_cases c3:(a0.size:Int)<1
  ·rw [if_pos c3] at H
   have c3b0:decide ((a0.size:Int)<1)=true:=dE c3
   have c3b1:decide (a0.size<1)=true:=dE (by omega)
   clear c3
   (first | rw [c3b0] | (simp only [i64_w,i32_w];rw [c3b0]) | skip)
   have H':=aM H
   clear H
   go_wp2
   go_meet
   case rel=>exact ⟨_,(true),(z1_),H',⟨by first | omega | exact Nat.le_refl _⟩,z4_⟩
  ·rw [if_neg c3] at H
   have c3b0:decide ((a0.size:Int)<1)=false:=dF c3
   have c3b1:decide (a0.size<1)=false:=dF (by omega)
   clear c3
   (first | rw [c3b0] | (simp only [i64_w,i32_w];rw [c3b0]) | skip)
   have H':=aM H
   clear H
   go_wp2
   go_meet
   case rel=>exact ⟨_,(decide ((a0.size:Int)>20)),(z1_),H',⟨by first | omega | exact Nat.le_refl _⟩,z4_⟩
 case rest =>
  clear HC2
  try clear p2
  try clear c3
  try clear c3b0
  try clear c3b1
  obtain ⟨kq,x12_1,rfl,HA,HJ1,⟨mc1,rfl⟩⟩:=hcut
  cases kq with
  | zero=>exact absurd HA.out (by simp [Y10.j0])
  | succ kj1 =>
   have H:=HA.out
   clear HA
   simp only [Y10.j0] at H
   by_cases c4:x12_1=true
   ·subst c4
    have H1:(some false)=some r:=by rw [if_pos rfl] at H;exact H
    clear H
    have H:=H1
    clear H1
    obtain rfl:=sI H
    go_wp2
    go_ret
    exact ⟨z1_,z4_⟩
   ·replace c4:=Bool.eq_false_iff.mpr c4
    subst c4
    have H1:(Y10.l0 kj1 a0 0)=some r:=by rw [if_neg (show ¬ (false=true) by decide)] at H;exact H
    clear H
    have H:=H1
    clear H1
    have H':=aM H
    clear H
    go_wp2
    go_loopg [3] kj1 (fun kq v3 w'=>∃ (x3_2:Int),v3 = .int .i64 x3_2∧Aside0 (Y10.l0 kq a0 x3_2=some r)∧Aside0 (kq≤kj1)∧Drawn0 w w')
    case atStart=>exact ⟨(0),(z1_),H',⟨Nat.le_refl _⟩,z4_⟩
    case round =>
     clear H'
     try clear c1
     try clear p2
     try clear c3
     try clear c3b0
     try clear c3b1
     try clear c4
     try clear p2
     obtain ⟨x3_2,rfl,HA,HK2,⟨m2,rfl⟩⟩:=hrel
     cases gk with
     | zero=>exact absurd HA.out (by simp [Y10.l0])
     | succ k2 =>
      have H:=HA.out
      clear HA
      simp only [Y10.l0] at H
      by_cases c5:x3_2<(a0.size:Int)
      ·rw [if_pos c5] at H
       have c5b0:decide (x3_2<(a0.size:Int))=true:=dE c5
       clear c5
       by_cases c6:0≤x3_2
       ·rw [if_pos c6] at H
        have c6b0:decide (0≤x3_2)=true:=dE c6
        clear c6
        by_cases c8:(bt a0 x3_2)≥97
        ·rw [if_pos c8] at H
         have c8b0:decide (97≤(bt a0 x3_2))=true:=dE c8
         clear c8
         by_cases c9:((bt a0 x3_2)≤122)
         ·rw [if_pos c9] at H
          have c9b0:decide ((bt a0 x3_2)≤122)=true:=dE c9
          clear c9
          have H':=aM H
          clear H
          have p7:0≤(x3_2:Int):=dT (z0_)
          have q7:x3_2<(a0.size:Int):=dT (z0_)
          have hx7:=bt_at a0 x3_2
          replace p7:=eq_true p7
          replace q7:=eq_true q7
          go_wp2
          go_roundg k2
          case measure=>have:=HJ1.out;have:=HK2.out;omega
          case rel=>exact ⟨(wrap64 (x3_2+1)),(z1_),H',⟨z11_ HJ1.out HK2.out⟩,z4_⟩
         ·rw [if_neg c9] at H
          have c9b0:decide ((bt a0 x3_2)≤122)=false:=dF c9
          clear c9
          by_cases c10:x3_2=0
          ·rw [if_pos c10] at H
           have c10b0:(x3_2 == 0)=true:=beq_iff_eq.mpr c10
           have c10b1:(x3_2 != 0)=false:=bne_eq_false_iff_eq.mpr c10
           clear c10
           obtain rfl:=sI H
           have p7:0≤(x3_2:Int):=dT (z0_)
           have q7:x3_2<(a0.size:Int):=dT (z0_)
           have hx7:=bt_at a0 x3_2
           replace p7:=eq_true p7
           replace q7:=eq_true q7
           go_wp2
           go_ret
           exact ⟨z1_,z4_⟩
          ·rw [if_neg c10] at H
           have c10b0:(x3_2 == 0)=false:=beq_eq_false_iff_ne.mpr c10
           have c10b1:(x3_2 != 0)=true:=bne_iff_ne.mpr c10
           by_cases c11:(bt a0 x3_2)≥48
           ·rw [if_pos c11] at H
            have c11b0:decide (48≤(bt a0 x3_2))=true:=dE c11
            clear c11
            by_cases c12:((bt a0 x3_2)≤57)
            ·rw [if_pos c12] at H
             have c12b0:decide ((bt a0 x3_2)≤57)=true:=dE c12
             clear c12
             have H':=aM H
             clear H
             have p7:0≤(x3_2:Int):=dT (z0_)
             have q7:x3_2<(a0.size:Int):=dT (z0_)
             have hx7:=bt_at a0 x3_2
             replace p7:=eq_true p7
             replace q7:=eq_true q7
             go_wp2
             go_roundg k2
             case measure=>have:=HJ1.out;have:=HK2.out;omega
             case rel=>exact ⟨(wrap64 (x3_2+1)),(z1_),H',⟨z11_ HJ1.out HK2.out⟩,z4_⟩
            ·rw [if_neg c12] at H
             have c12b0:decide ((bt a0 x3_2)≤57)=false:=dF c12
             clear c12
             by_cases c13:(bt a0 x3_2)=95
             ·rw [if_pos c13] at H
              have c13b0:((bt a0 x3_2) == 95)=true:=beq_iff_eq.mpr c13
              have c13b1:((bt a0 x3_2) != 95)=false:=bne_eq_false_iff_eq.mpr c13
              clear c13
              have H':=aM H
              clear H
              have p7:0≤(x3_2:Int):=dT (z0_)
              have q7:x3_2<(a0.size:Int):=dT (z0_)
              have hx7:=bt_at a0 x3_2
              replace p7:=eq_true p7
              replace q7:=eq_true q7
              go_wp2
              go_roundg k2
              case measure=>have:=HJ1.out;have:=HK2.out;omega
              case rel=>exact ⟨(wrap64 (x3_2+1)),(z1_),H',⟨z11_ HJ1.out HK2.out⟩,z4_⟩
             ·rw [if_neg c13] at H
              have c13b0:((bt a0 x3_2) == 95)=false:=beq_eq_false_iff_ne.mpr c13
              have c13b1:((bt a0 x3_2) != 95)=true:=bne_iff_ne.mpr c13
              obtain rfl:=sI H
              have p7:0≤(x3_2:Int):=dT (z0_)
              have q7:x3_2<(a0.size:Int):=dT (z0_)
              have hx7:=bt_at a0 x3_2
              replace p7:=eq_true p7
              replace q7:=eq_true q7
              go_wp2
              go_ret
              exact ⟨z1_,z4_⟩
           ·rw [if_neg c11] at H
            have c11b0:decide (48≤(bt a0 x3_2))=false:=dF c11
            clear c11
            by_cases c14:(bt a0 x3_2)=95
            ·rw [if_pos c14] at H
             have c14b0:((bt a0 x3_2) == 95)=true:=beq_iff_eq.mpr c14
             have c14b1:((bt a0 x3_2) != 95)=false:=bne_eq_false_iff_eq.mpr c14
             clear c14
             have H':=aM H
             clear H
             have p7:0≤(x3_2:Int):=dT (z0_)
             have q7:x3_2<(a0.size:Int):=dT (z0_)
             have hx7:=bt_at a0 x3_2
             replace p7:=eq_true p7
             replace q7:=eq_true q7
             go_wp2
             go_roundg k2
             case measure=>have:=HJ1.out;have:=HK2.out;omega
             case rel=>exact ⟨(wrap64 (x3_2+1)),(z1_),H',⟨z11_ HJ1.out HK2.out⟩,z4_⟩
            ·rw [if_neg c14] at H
             have c14b0:((bt a0 x3_2) == 95)=false:=beq_eq_false_iff_ne.mpr c14
             have c14b1:((bt a0 x3_2) != 95)=true:=bne_iff_ne.mpr c14
             obtain rfl:=sI H
             have p7:0≤(x3_2:Int):=dT (z0_)
             have q7:x3_2<(a0.size:Int):=dT (z0_)
             have hx7:=bt_at a0 x3_2
             replace p7:=eq_true p7
             replace q7:=eq_true q7
             go_wp2
             go_ret
             exact ⟨z1_,z4_⟩
        ·rw [if_neg c8] at H
         have c8b0:decide (97≤(bt a0 x3_2))=false:=dF c8
         clear c8
         by_cases c15:x3_2=0
         ·rw [if_pos c15] at H
          have c15b0:(x3_2 == 0)=true:=beq_iff_eq.mpr c15
          have c15b1:(x3_2 != 0)=false:=bne_eq_false_iff_eq.mpr c15
          clear c15
          obtain rfl:=sI H
          have p7:0≤(x3_2:Int):=dT (z0_)
          have q7:x3_2<(a0.size:Int):=dT (z0_)
          have hx7:=bt_at a0 x3_2
          replace p7:=eq_true p7
          replace q7:=eq_true q7
          go_wp2
          go_ret
          exact ⟨z1_,z4_⟩
         ·rw [if_neg c15] at H
          have c15b0:(x3_2 == 0)=false:=beq_eq_false_iff_ne.mpr c15
          have c15b1:(x3_2 != 0)=true:=bne_iff_ne.mpr c15
          by_cases c16:(bt a0 x3_2)≥48
          ·rw [if_pos c16] at H
           have c16b0:decide (48≤(bt a0 x3_2))=true:=dE c16
           clear c16
           by_cases c17:((bt a0 x3_2)≤57)
           ·rw [if_pos c17] at H
            have c17b0:decide ((bt a0 x3_2)≤57)=true:=dE c17
            clear c17
            have H':=aM H
            clear H
            have p7:0≤(x3_2:Int):=dT (z0_)
            have q7:x3_2<(a0.size:Int):=dT (z0_)
            have hx7:=bt_at a0 x3_2
            replace p7:=eq_true p7
            replace q7:=eq_true q7
            go_wp2
            go_roundg k2
            case measure=>have:=HJ1.out;have:=HK2.out;omega
            case rel=>exact ⟨(wrap64 (x3_2+1)),(z1_),H',⟨z11_ HJ1.out HK2.out⟩,z4_⟩
           ·rw [if_neg c17] at H
            have c17b0:decide ((bt a0 x3_2)≤57)=false:=dF c17
            clear c17
            by_cases c18:(bt a0 x3_2)=95
            ·rw [if_pos c18] at H
             have c18b0:((bt a0 x3_2) == 95)=true:=beq_iff_eq.mpr c18
             have c18b1:((bt a0 x3_2) != 95)=false:=bne_eq_false_iff_eq.mpr c18
             clear c18
             have H':=aM H
             clear H
             have p7:0≤(x3_2:Int):=dT (z0_)
             have q7:x3_2<(a0.size:Int):=dT (z0_)
             have hx7:=bt_at a0 x3_2
             replace p7:=eq_true p7
             replace q7:=eq_true q7
             go_wp2
             go_roundg k2
             case measure=>have:=HJ1.out;have:=HK2.out;omega
             case rel=>exact ⟨(wrap64 (x3_2+1)),(z1_),H',⟨z11_ HJ1.out HK2.out⟩,z4_⟩
            ·rw [if_neg c18] at H
             have c18b0:((bt a0 x3_2) == 95)=false:=beq_eq_false_iff_ne.mpr c18
             have c18b1:((bt a0 x3_2) != 95)=true:=bne_iff_ne.mpr c18
             obtain rfl:=sI H
             have p7:0≤(x3_2:Int):=dT (z0_)
             have q7:x3_2<(a0.size:Int):=dT (z0_)
             have hx7:=bt_at a0 x3_2
             replace p7:=eq_true p7
             replace q7:=eq_true q7
             go_wp2
             go_ret
             exact ⟨z1_,z4_⟩
          ·rw [if_neg c16] at H
           have c16b0:decide (48≤(bt a0 x3_2))=false:=dF c16
           clear c16
           by_cases c19:(bt a0 x3_2)=95
           ·rw [if_pos c19] at H
            have c19b0:((bt a0 x3_2) == 95)=true:=beq_iff_eq.mpr c19
            have c19b1:((bt a0 x3_2) != 95)=false:=bne_eq_false_iff_eq.mpr c19
            clear c19
            have H':=aM H
            clear H
            have p7:0≤(x3_2:Int):=dT (z0_)
            have q7:x3_2<(a0.size:Int):=dT (z0_)
            have hx7:=bt_at a0 x3_2
            replace p7:=eq_true p7
            replace q7:=eq_true q7
            go_wp2
            go_roundg k2
            case measure=>have:=HJ1.out;have:=HK2.out;omega
            case rel=>exact ⟨(wrap64 (x3_2+1)),(z1_),H',⟨z11_ HJ1.out HK2.out⟩,z4_⟩
           ·rw [if_neg c19] at H
            have c19b0:((bt a0 x3_2) == 95)=false:=beq_eq_false_iff_ne.mpr c19
            have c19b1:((bt a0 x3_2) != 95)=true:=bne_iff_ne.mpr c19
            obtain rfl:=sI H
            have p7:0≤(x3_2:Int):=dT (z0_)
            have q7:x3_2<(a0.size:Int):=dT (z0_)
            have hx7:=bt_at a0 x3_2
            replace p7:=eq_true p7
            replace q7:=eq_true q7
            go_wp2
            go_ret
            exact ⟨z1_,z4_⟩
       ·rw [if_neg c6] at H
        exact nO H
      ·rw [if_neg c5] at H
       have c5b0:decide (x3_2<(a0.size:Int))=false:=dF c5
       clear c5
       obtain rfl:=sI H
       go_wp2
       go_ret
       exact ⟨z1_,z4_⟩


/-! ### Y1: function 49 -/
mutual
def Y1.l0:Nat→Int→List (S111)→Option (Bool)
 | 0,_,_=>none
 | k+1,x3,x702000=>if x3<(x702000.length:Int) then (if 0≤x3 then ((Y10.f k ((rd_T111 x702000 x3).f0)).bind fun t704=>(if t704=true then ((Y2.f k ((rd_T111 x702000 x3).f1)).bind fun t705=>(if t705=true then (if (((rd_T111 x702000 x3).f1).length:Int)=0 then (Y1.j1 k x3 true x702000) else (if x3>0 then (if 0≤(wrap64 (x3-1)) then (if (wrap64 (x3-1))<(x702000.length:Int) then (Y1.j1 k x3 (!(Op.bytesLess (((rd_T111 x702000 (wrap64 (x3-1))).f0).toList) (((rd_T111 x702000 x3).f0).toList))) x702000) else (none)) else (none)) else (Y1.j1 k x3 false x702000))) else (Y1.j1 k x3 true x702000))) else (Y1.j1 k x3 true x702000))) else (none)) else (some true)
def Y1.j1:Nat→Int→Bool→List (S111)→Option (Bool)
 | 0,_,_,_=>none
 | k+1,x3,x52,x702000=>if x52=true then (some false) else (Y1.l0 k (wrap64 (x3+1)) x702000)
end
def Y1.f (k:Nat) (l0_0:List (S111)):Option (Bool):=if (l0_0.length:Int)>6 then (some false) else (Y1.l0 k 0 l0_0)
theorem Y1.mono_l:∀ k,(∀ y0 y1,LeO (Y1.l0 k y0 y1) (Y1.l0 (k+1) y0 y1))∧(∀ y0 y1 y2,LeO (Y1.j1 k y0 y1 y2) (Y1.j1 (k+1) y0 y1 y2))
 | 0=>by refine ⟨?_,?_⟩ <;> intros <;> exact LeO.none _
 | k+1=>by
  obtain ⟨ih0,ih1⟩:=Y1.mono_l k
  have m0:=@Y10.mono
  have m1:=@Y2.mono
  refine ⟨?_,?_⟩
  ·intros
   unfold Y1.l0
   exact mO
  ·intros
   unfold Y1.j1
   exact mO
theorem Y1.mono:∀ a0 k,LeO (Y1.f k a0) (Y1.f (k+1) a0):=by
 intro a0 k
 have m0:=@Y10.mono
 have m1:=@Y2.mono
 obtain ⟨ih0,ih1⟩:=Y1.mono_l k
 unfold Y1.f
 exact mO
def Y1.T7:Bool × List (List Nat × List Nat):=(true,[([],[]),([0],[0]),([1],[1]),([2],[2]),([3,2],[3]),([4],[4]),([5,4],[4,5]),([6,4,4],[4,6]),([7,4],[4,7]),([4,8],[4,8]),([9,7],[9]),([10],[10]),([11,10],[10,11]),([12,10],[10,12]),([13,10],[10,13]),([10,14],[10,14]),([15,10],[15]),([16],[16]),([17,16],[16,17]),([18,16,16],[16,18]),([19],[19]),([20,19],[19,20]),([19],[19]),([22,19],[19,22]),([21,23,19],[19,21,23]),([24,19],[19,24]),([25,19],[19,25]),([19],[19]),([27,19],[19,27]),([26,28,19],[19,26,28]),([19,29,16],[16,19,29]),([16,30],[16,30])])
def Y1.B7:List Nat:=[0,1,3,7,15,31,63,127,255,511,1023,2047,4095,8191,16383,32767,65535,131071,262143,524287,1048575,2097151,1048575,5242879,16777215,33554431,67108863,1048575,135266303,536870911,1073741823,2147483647]
theorem Y1.tab7:rtab .any (opsOf Try.f49 7)=Y1.T7:=by kernel_rfl
theorem Y1.bits7:waitsOk Y1.T7.2 Y1.B7=true:=by kernel_rfl
abbrev Y1.q0:Array Bool:=#[O,O,O,O,O,O,O,O,O,O,O,O,O,O,O,O,O,O,O,O,O,O,O,O,O,O,O,O,O,O,O,O]
abbrev Y1.q1:Array Bool:=#[I,O,O,O,O,O,O,O,O,O,O,O,O,O,O,O,O,O,O,O,O,O,O,O,O,O,O,O,O,O,O,O]
abbrev Y1.q2:Array Bool:=#[I,I,O,O,O,O,O,O,O,O,O,O,O,O,O,O,O,O,O,O,O,O,O,O,O,O,O,O,O,O,O,O]
abbrev Y1.q3:Array Bool:=#[I,I,I,O,O,O,O,O,O,O,O,O,O,O,O,O,O,O,O,O,O,O,O,O,O,O,O,O,O,O,O,O]
abbrev Y1.q4:Array Bool:=#[I,I,I,I,O,O,O,O,O,O,O,O,O,O,O,O,O,O,O,O,O,O,O,O,O,O,O,O,O,O,O,O]
abbrev Y1.q5:Array Bool:=#[I,I,I,I,I,O,O,O,O,O,O,O,O,O,O,O,O,O,O,O,O,O,O,O,O,O,O,O,O,O,O,O]
abbrev Y1.q6:Array Bool:=#[I,I,I,I,I,I,O,O,O,O,O,O,O,O,O,O,O,O,O,O,O,O,O,O,O,O,O,O,O,O,O,O]
abbrev Y1.q7:Array Bool:=#[I,I,I,I,I,I,I,O,O,O,O,O,O,O,O,O,O,O,O,O,O,O,O,O,O,O,O,O,O,O,O,O]
abbrev Y1.q8:Array Bool:=#[I,I,I,I,I,I,I,I,O,O,O,O,O,O,O,O,O,O,O,O,O,O,O,O,O,O,O,O,O,O,O,O]
abbrev Y1.q9:Array Bool:=#[I,I,I,I,I,I,I,I,I,O,O,O,O,O,O,O,O,O,O,O,O,O,O,O,O,O,O,O,O,O,O,O]
abbrev Y1.q10:Array Bool:=#[I,I,I,I,I,I,I,I,I,I,O,O,O,O,O,O,O,O,O,O,O,O,O,O,O,O,O,O,O,O,O,O]
abbrev Y1.q11:Array Bool:=#[I,I,I,I,I,I,I,I,I,I,I,O,O,O,O,O,O,O,O,O,O,O,O,O,O,O,O,O,O,O,O,O]
abbrev Y1.q12:Array Bool:=#[I,I,I,I,I,I,I,I,I,I,I,I,O,O,O,O,O,O,O,O,O,O,O,O,O,O,O,O,O,O,O,O]
abbrev Y1.q13:Array Bool:=#[I,I,I,I,I,I,I,I,I,I,I,I,I,O,O,O,O,O,O,O,O,O,O,O,O,O,O,O,O,O,O,O]
abbrev Y1.q14:Array Bool:=#[I,I,I,I,I,I,I,I,I,I,I,I,I,I,O,O,O,O,O,O,O,O,O,O,O,O,O,O,O,O,O,O]
abbrev Y1.q15:Array Bool:=#[I,I,I,I,I,I,I,I,I,I,I,I,I,I,I,O,O,O,O,O,O,O,O,O,O,O,O,O,O,O,O,O]
abbrev Y1.q16:Array Bool:=#[I,I,I,I,I,I,I,I,I,I,I,I,I,I,I,I,O,O,O,O,O,O,O,O,O,O,O,O,O,O,O,O]
abbrev Y1.q17:Array Bool:=#[I,I,I,I,I,I,I,I,I,I,I,I,I,I,I,I,I,O,O,O,O,O,O,O,O,O,O,O,O,O,O,O]
abbrev Y1.q18:Array Bool:=#[I,I,I,I,I,I,I,I,I,I,I,I,I,I,I,I,I,I,O,O,O,O,O,O,O,O,O,O,O,O,O,O]
abbrev Y1.q19:Array Bool:=#[I,I,I,I,I,I,I,I,I,I,I,I,I,I,I,I,I,I,I,O,O,O,O,O,O,O,O,O,O,O,O,O]
abbrev Y1.q20:Array Bool:=#[I,I,I,I,I,I,I,I,I,I,I,I,I,I,I,I,I,I,I,I,O,O,O,O,O,O,O,O,O,O,O,O]
abbrev Y1.q21:Array Bool:=#[I,I,I,I,I,I,I,I,I,I,I,I,I,I,I,I,I,I,I,I,I,O,O,O,O,O,O,O,O,O,O,O]
abbrev Y1.q22:Array Bool:=#[I,I,I,I,I,I,I,I,I,I,I,I,I,I,I,I,I,I,I,I,I,I,O,O,O,O,O,O,O,O,O,O]
abbrev Y1.q23:Array Bool:=#[I,I,I,I,I,I,I,I,I,I,I,I,I,I,I,I,I,I,I,I,I,I,I,O,O,O,O,O,O,O,O,O]
abbrev Y1.q24:Array Bool:=#[I,I,I,I,I,I,I,I,I,I,I,I,I,I,I,I,I,I,I,I,I,I,I,I,O,O,O,O,O,O,O,O]
abbrev Y1.q25:Array Bool:=#[I,I,I,I,I,I,I,I,I,I,I,I,I,I,I,I,I,I,I,I,I,I,I,I,I,O,O,O,O,O,O,O]
abbrev Y1.q26:Array Bool:=#[I,I,I,I,I,I,I,I,I,I,I,I,I,I,I,I,I,I,I,I,I,I,I,I,I,I,O,O,O,O,O,O]
abbrev Y1.q27:Array Bool:=#[I,I,I,I,I,I,I,I,I,I,I,I,I,I,I,I,I,I,I,I,I,I,I,I,I,I,I,O,O,O,O,O]
abbrev Y1.q28:Array Bool:=#[I,I,I,I,I,I,I,I,I,I,I,I,I,I,I,I,I,I,I,I,I,I,I,I,I,I,I,I,O,O,O,O]
abbrev Y1.q29:Array Bool:=#[I,I,I,I,I,I,I,I,I,I,I,I,I,I,I,I,I,I,I,I,I,I,I,I,I,I,I,I,I,O,O,O]
abbrev Y1.q30:Array Bool:=#[I,I,I,I,I,I,I,I,I,I,I,I,I,I,I,I,I,I,I,I,I,I,I,I,I,I,I,I,I,I,O,O]
abbrev Y1.q31:Array Bool:=#[I,I,I,I,I,I,I,I,I,I,I,I,I,I,I,I,I,I,I,I,I,I,I,I,I,I,I,I,I,I,I,O]
abbrev Y1.q32:Array Bool:=#[I,I,I,I,I,I,I,I,I,I,I,I,I,I,I,I,I,I,I,I,I,I,I,I,I,I,I,I,I,I,I,I]
theorem Y1.calls (k:Nat) (A0_0:Option Addr) (c0_0:Nat) (l0_0:List (S111)) (r:Bool) (w:World) (hr0_0:Kd.C k111 w A0_0 l0_0.length l0_0) (hc0_0:l0_0.length≤c0_0) (h:Y1.f k l0_0=some r) :
  Calls Try.prog 49 #[.agg #[.slice A0_0 l0_0.length c0_0]] w fun e w'=>e = .returned (.bool r)∧Below w.heap.size w w':=by
 have hu47:=Try.underlying47
 have hu111:=Try.underlying111
 have HR0_0:=aM hr0_0
 have HC0_0:=aM hc0_0
 clear hr0_0 hc0_0
 have HB:=aM (Below.refl w.heap.size w)
 have H:(if (l0_0.length:Int)>6 then (some false) else (Y1.l0 k 0 l0_0))=some r:=h
 clear h
 by_cases c2:(l0_0.length:Int)>6
 ·rw [if_pos c2] at H
  have c2b0:decide (6<(l0_0.length:Int))=true:=dE c2
  have c2b1:decide (6<l0_0.length)=true:=dE (by omega)
  clear c2
  obtain rfl:=sI H
  go_enter Try.func49,Try.ntmps49
  go_wp2_with (first | ((with_reducible refine gd_ 1 ?_);(try (refine gate_guard (by rfl) ?_;dsimp only));refine be_ 1 #[.slice A0_0 l0_0.length c0_0] 47 ?_;intro gb701 hg w3 hbox hb;have n0_:=aM (below_step (z2_ HB.out) hb);have n1_:=aM (hbox);have n2_:=aM ((z6_ HB.out:w.heap.size≤gb701));have n3_:=aM ((z6_ HB.out:w.heap.size≤gb701));clear HB;have HB:=n0_;have BK701:=n1_;have GW701:=n2_;have GE701:=n3_;clear n0_ n1_ n2_ n3_;clear hb hbox hg;have ⟨hcz4_0,hfz4_0⟩:=cz1_ BK701.out))
  go_ret
  exact ⟨z7_,z3_ HB.out GE701.out⟩
 ·rw [if_neg c2] at H
  have c2b0:decide (6<(l0_0.length:Int))=false:=dF c2
  have c2b1:decide (6<l0_0.length)=false:=dF (by omega)
  clear c2
  have H':=aM H
  clear H
  go_enter Try.func49,Try.ntmps49
  go_wp2_with (first | ((with_reducible refine gd_ 1 ?_);(try (refine gate_guard (by rfl) ?_;dsimp only));refine be_ 1 #[.slice A0_0 l0_0.length c0_0] 47 ?_;intro gb701 hg w5 hbox hb;have n0_:=aM (below_step (z2_ HB.out) hb);have n1_:=aM (hbox);have n2_:=aM ((z6_ HB.out:w.heap.size≤gb701));have n3_:=aM ((z6_ HB.out:w.heap.size≤gb701));clear HB;have HB:=n0_;have BK701:=n1_;have GW701:=n2_;have GE701:=n3_;clear n0_ n1_ n2_ n3_;clear hb hbox hg;have ⟨hcz6_0,hfz6_0⟩:=cz1_ BK701.out))
  go_loopg [3] k (fun kq v3 w'=>∃ (x3_1:Int),v3 = .int .i64 x3_1∧Aside0 (Y1.l0 kq x3_1 l0_0=some r)∧Aside0 (kq≤k)∧Aside0 (w'.heap[gb701]? = some (.cells #[(.slice A0_0 l0_0.length c0_0)] 47 (0,0)))∧Aside0 (Below w.heap.size w w'))
  case atStart=>exact ⟨(0),(z1_),H',⟨Nat.le_refl _⟩,⟨z10_ BK701.out⟩,⟨z3_ HB.out GE701.out⟩⟩
  case round =>
   clear H'
   try clear c2
   try clear c2b0
   try clear c2b1
   try clear p2
   try clear c4
   try clear hcz4_0
   try clear hcz6_0
   try clear hfz4_0
   try clear hfz6_0
   obtain ⟨x3_1,rfl,HA,HK1,BK701,HB⟩:=hrel
   cases gk with
   | zero=>exact absurd HA.out (by simp [Y1.l0])
   | succ k1 =>
    have H:=HA.out
    clear HA
    simp only [Y1.l0] at H
    by_cases c7:x3_1<(l0_0.length:Int)
    ·rw [if_pos c7] at H
     have c7b0:decide (x3_1<(l0_0.length:Int))=true:=dE c7
     clear c7
     by_cases c8:0≤x3_1
     ·rw [if_pos c8] at H
      have c8b0:decide (0≤x3_1)=true:=dE c8
      clear c8
      have HC9:=aM H
      clear H
      have ⟨hcz10_0,hfz10_0⟩:=cz1_ BK701.out
      have p702:0≤(x3_1:Int):=dT (z0_)
      have q702:x3_1<(l0_0.length:Int):=dT (z0_)
      obtain ⟨ad702,A702_1,c702_1,e702,hx702_0,hx702_1,hl702_1,hi702_1⟩:=at_T111 HR0_0.out x3_1 p702 q702
      cases e702
      replace hx702_0:=(HB.out.cell (World.block_lt_of_cell? w _ hx702_0)).trans hx702_0
      replace hx702_1:=(HB.out.cell (World.block_lt_of_cell? w _ hx702_1)).trans hx702_1
      have HR702_1:=aM hi702_1
      have HC702_1:=aM hl702_1
      clear hi702_1 hl702_1
      replace p702:=eq_true p702
      replace q702:=eq_true q702
      go_upto_region 7 with (first | ((with_reducible refine gd_ 4 ?_);(try (refine gate_guard (by rfl) ?_;dsimp only));refine be_ 4 #[.string (⟨#[]⟩:ByteArray),.slice none 0 0] 111 ?_;intro gb703 hg w11 hbox hb;have n0_:=aM (blkB_ BK701.out hb);have n1_:=aM (below_step (z3_ HB.out GE701.out) hb);have n2_:=aM (hbox);have n3_:=aM ((z12_ HB.out GE701.out:w.heap.size≤gb703));have n4_:=aM ((z12_ HB.out GE701.out:w.heap.size≤gb703));have n5_:=aM (neL_ BK701.out hg);have n6_:=aM (neG_ BK701.out hg);clear BK701;clear HB;have BK701:=n0_;have HB:=n1_;have BK703:=n2_;have GW703:=n3_;have GE703:=n4_;have NB701_703:=n5_;have NB703_701:=n6_;clear n0_ n1_ n2_ n3_ n4_ n5_ n6_;clear hb hbox hg;have hnb12:=NB703_701.out;have hnc12:=NB701_703.out;have ⟨hcz13_0,hcz13_1,hfz13_0,hfz13_1⟩:=cz2_ BK703.out))
      (try simp only [Act.put,sa_,s0_,ss_])
      go_cut [52] (fun v52 wc=>∃ (kq:Nat) (x52_8:Bool),v52 = .bool x52_8∧Aside0 (Y1.j1 kq x3_1 x52_8 l0_0=some r)∧Aside0 (kq≤k1)∧Aside0 (wc.heap[gb701]? = some (.cells #[(.slice (some ad702) l0_0.length c0_0)] 47 (0,0)))∧Aside0 (wc.heap[gb703]? = some (.cells #[.string ((rd_T111 l0_0 x3_1).f0),(.slice A702_1 ((rd_T111 l0_0 x3_1).f1).length c702_1)] 111 (0,0)))∧Aside0 (Below w.heap.size w wc))
      case first =>
       have H:=HC9.out
       clear HC9
       replace H:=bS H
       obtain ⟨t704,A140,H⟩:=H
       replace H:(if t704=true then ((Y2.f k1 ((rd_T111 l0_0 x3_1).f1)).bind fun t705=>(if t705=true then (if (((rd_T111 l0_0 x3_1).f1).length:Int)=0 then (Y1.j1 k1 x3_1 true l0_0) else (if x3_1>0 then (if 0≤(wrap64 (x3_1-1)) then (if (wrap64 (x3_1-1))<(l0_0.length:Int) then (Y1.j1 k1 x3_1 (!(Op.bytesLess (((rd_T111 l0_0 (wrap64 (x3_1-1))).f0).toList) (((rd_T111 l0_0 x3_1).f0).toList))) l0_0) else (none)) else (none)) else (Y1.j1 k1 x3_1 false l0_0))) else (Y1.j1 k1 x3_1 true l0_0))) else (Y1.j1 k1 x3_1 true l0_0))=some r:=H
       have A14:=aM A140
       clear A140
       by_cases c15:t704=true
       ·subst c15
        have H1:((Y2.f k1 ((rd_T111 l0_0 x3_1).f1)).bind fun t705=>(if t705=true then (if (((rd_T111 l0_0 x3_1).f1).length:Int)=0 then (Y1.j1 k1 x3_1 true l0_0) else (if x3_1>0 then (if 0≤(wrap64 (x3_1-1)) then (if (wrap64 (x3_1-1))<(l0_0.length:Int) then (Y1.j1 k1 x3_1 (!(Op.bytesLess (((rd_T111 l0_0 (wrap64 (x3_1-1))).f0).toList) (((rd_T111 l0_0 x3_1).f0).toList))) l0_0) else (none)) else (none)) else (Y1.j1 k1 x3_1 false l0_0))) else (Y1.j1 k1 x3_1 true l0_0)))=some r:=by rw [if_pos rfl] at H;exact H
        clear H
        have H:=H1
        clear H1
        replace H:=bS H
        obtain ⟨t705,A160,H⟩:=H
        replace H:(if t705=true then (if (((rd_T111 l0_0 x3_1).f1).length:Int)=0 then (Y1.j1 k1 x3_1 true l0_0) else (if x3_1>0 then (if 0≤(wrap64 (x3_1-1)) then (if (wrap64 (x3_1-1))<(l0_0.length:Int) then (Y1.j1 k1 x3_1 (!(Op.bytesLess (((rd_T111 l0_0 (wrap64 (x3_1-1))).f0).toList) (((rd_T111 l0_0 x3_1).f0).toList))) l0_0) else (none)) else (none)) else (Y1.j1 k1 x3_1 false l0_0))) else (Y1.j1 k1 x3_1 true l0_0))=some r:=H
        have A16:=aM A160
        clear A160
        by_cases c17:t705=true
        ·subst c17
         have H1:(if (((rd_T111 l0_0 x3_1).f1).length:Int)=0 then (Y1.j1 k1 x3_1 true l0_0) else (if x3_1>0 then (if 0≤(wrap64 (x3_1-1)) then (if (wrap64 (x3_1-1))<(l0_0.length:Int) then (Y1.j1 k1 x3_1 (!(Op.bytesLess (((rd_T111 l0_0 (wrap64 (x3_1-1))).f0).toList) (((rd_T111 l0_0 x3_1).f0).toList))) l0_0) else (none)) else (none)) else (Y1.j1 k1 x3_1 false l0_0)))=some r:=by rw [if_pos rfl] at H;exact H
         clear H
         have H:=H1
         clear H1
         by_cases c18:(((rd_T111 l0_0 x3_1).f1).length:Int)=0
         ·rw [if_pos c18] at H
          have c18b0:((((rd_T111 l0_0 x3_1).f1).length:Int) == 0)=true:=beq_iff_eq.mpr c18
          have c18b1:((((rd_T111 l0_0 x3_1).f1).length:Int) != 0)=false:=bne_eq_false_iff_eq.mpr c18
          clear c18
          (first | rw [c18b0] | (simp only [i64_w,i32_w];rw [c18b0]) | skip)
          have H':=aM H
          clear H
          try go_wp2
          have n0_:Aside0 (((w11.setCell ⟨gb703,0,none⟩ (.string ((rd_T111 l0_0 x3_1).f0))).setCell ⟨gb703,1,none⟩ (.slice A702_1 ((rd_T111 l0_0 x3_1).f1).length c702_1)).heap[gb701]? = some (.cells #[.slice (some ad702) l0_0.length c0_0] 47 (0,0))):=⟨z15_ NB701_703.out BK701.out⟩
          have n1_:Aside0 (((w11.setCell ⟨gb703,0,none⟩ (.string ((rd_T111 l0_0 x3_1).f0))).setCell ⟨gb703,1,none⟩ (.slice A702_1 ((rd_T111 l0_0 x3_1).f1).length c702_1)).heap[gb703]? = some (.cells #[.string ((rd_T111 l0_0 x3_1).f0),.slice A702_1 ((rd_T111 l0_0 x3_1).f1).length c702_1] 111 (0,0))):=⟨z13_ BK703.out⟩
          have n2_:Aside0 (Below w.heap.size w ((w11.setCell ⟨gb703,0,none⟩ (.string ((rd_T111 l0_0 x3_1).f0))).setCell ⟨gb703,1,none⟩ (.slice A702_1 ((rd_T111 l0_0 x3_1).f1).length c702_1))):=⟨z5_ HB.out GE701.out GE703.out⟩
          (try clear BK701)
          (try clear BK703)
          (try clear HB)
          generalize ((w11.setCell ⟨gb703,0,none⟩ (.string ((rd_T111 l0_0 x3_1).f0))).setCell ⟨gb703,1,none⟩ (.slice A702_1 ((rd_T111 l0_0 x3_1).f1).length c702_1))=w19 at n0_ n1_ n2_ ⊢
          have BK701:=n0_
          have BK703:=n1_
          have HB:=n2_
          clear n0_ n1_ n2_
          have n0_:=aM (blk_drew BK701.out)
          have n1_:=aM (blk_drew BK703.out)
          have n2_:=aM (below_drew1 HB.out)
          clear BK701
          clear BK703
          clear HB
          have BK701:=n0_
          have BK703:=n1_
          have HB:=n2_
          clear n0_ n1_ n2_
          refine start_ (n:=32) (S:=fun w'=>w'.cell? ⟨gb703,0,none⟩=some (.string ((rd_T111 l0_0 x3_1).f0))∧w'.cell? ⟨gb703,1,none⟩=some (.slice A702_1 ((rd_T111 l0_0 x3_1).f1).length c702_1)) (ds:=[]) Y1.q0 (by kernel_rfl) rfl rfl (cc2_ BK703.out) (fun hHeld=>?_);refine with_tabW Y1.tab7 Y1.bits7 (fun HT_ HW_=>?_)
          generalize w19.drew=w20 at BK701 BK703 HB hHeld ⊢
          refine pu_ 0 21 Y1.q1 HT_.out ?_
          refine tk2_ 1 22 Y1.q2 HT_.out HW_.out hHeld ?_
          refine o1_ 2 23 Y1.q3 HT_.out (fun K hK=>?_)
          refine gs_ Try.func60 #[.string ((rd_T111 l0_0 x3_1).f0)] ?_
          with_reducible refine (Y10.calls k1 ((rd_T111 l0_0 x3_1).f0) true _ A14.out).mono ?_
          rintro e w' ⟨rfl,⟨nd,rfl⟩⟩
          refine ⟨_,rfl,?_⟩
          refine hK.out _ _ (cc2_ BK703.out) (fun hHeld=>?_)
          clear hK K
          refine nm_ 23 ?_
          refine pu_ 3 24 Y1.q4 HT_.out ?_
          refine pu_ 4 25 Y1.q5 HT_.out ?_
          refine pu_ 5 26 Y1.q6 HT_.out ?_
          refine tk2_ 6 27 Y1.q7 HT_.out HW_.out hHeld ?_
          refine o1_ 7 28 Y1.q8 HT_.out (fun K hK=>?_)
          refine gs_ Try.func61 #[.slice A702_1 ((rd_T111 l0_0 x3_1).f1).length c702_1] ?_
          with_reducible refine (Y2.calls k1 _ _ ((rd_T111 l0_0 x3_1).f1) true _ ?s1 ?s2 A16.out).mono ?_
          (case s1=>repeat (first | exact (Kd.C_below HR702_1.out (z5_ HB.out GE701.out GE703.out)) | (with_reducible refine Kd.C_alloc ?_ _) | (with_reducible refine Kd.C_drewN ?_ _) | (with_reducible refine Kd.C_drew ?_)))
          (case s2=>exact HC702_1.out)
          rintro e w21 ⟨rfl,hb⟩
          refine ⟨_,rfl,?_⟩
          have n0_:=aM (blkB_ BK701.out hb)
          have n1_:=aM (blkB_ BK703.out hb)
          have n2_:=aM (below_step (z5_ HB.out GE701.out GE703.out) hb)
          clear BK701
          clear BK703
          clear HB
          have BK701:=n0_
          have BK703:=n1_
          have HB:=n2_
          clear n0_ n1_ n2_
          (try clear hb)
          refine hK.out _ _ (cc2_ BK703.out) (fun hHeld=>?_)
          clear hK K
          refine nm_ 28 ?_
          refine pu_ 8 29 Y1.q9 HT_.out ?_
          refine pu_ 9 30 Y1.q10 HT_.out ?_
          refine pu_ 10 31 Y1.q11 HT_.out ?_
          refine pu_ 11 32 Y1.q12 HT_.out ?_
          refine tk2_ 12 33 Y1.q13 HT_.out HW_.out hHeld ?_
          refine pu_ 13 34 Y1.q14 HT_.out ?_
          refine pu_ 14 35 Y1.q15 HT_.out ?_
          refine pu_ 15 36 Y1.q16 HT_.out ?_
          refine pu_ 16 37 Y1.q17 HT_.out ?_
          refine pn_ 17 38 Y1.q18 HT_.out ?_
          refine pn_ 18 39 Y1.q19 HT_.out ?_
          refine pn_ 19 40 Y1.q20 HT_.out ?_
          refine pn_ 20 41 Y1.q21 HT_.out ?_
          refine pn_ 21 42 Y1.q22 HT_.out ?_
          refine pn_ 22 43 Y1.q23 HT_.out ?_
          refine pn_ 23 44 Y1.q24 HT_.out ?_
          refine pn_ 24 45 Y1.q25 HT_.out ?_
          refine pn_ 25 46 Y1.q26 HT_.out ?_
          refine pn_ 26 47 Y1.q27 HT_.out ?_
          refine pn_ 27 48 Y1.q28 HT_.out ?_
          refine pn_ 28 49 Y1.q29 HT_.out ?_
          refine pn_ 29 50 Y1.q30 HT_.out ?_
          refine pn_ 30 51 Y1.q31 HT_.out ?_
          refine pu_ 31 52 Y1.q32 HT_.out ?_
          refine done_ (done_of HT_.out (by kernel_rfl)) ?_
          try go_wp2
          go_meet
          case rel=>exact ⟨_,(true),(z1_),H',⟨z14_ HK1.out⟩,⟨z10_ BK701.out⟩,⟨z10_ BK703.out⟩,⟨z5_ HB.out GE701.out GE703.out⟩⟩
         ·rw [if_neg c18] at H
          have c18b0:((((rd_T111 l0_0 x3_1).f1).length:Int) == 0)=false:=beq_eq_false_iff_ne.mpr c18
          have c18b1:((((rd_T111 l0_0 x3_1).f1).length:Int) != 0)=true:=bne_iff_ne.mpr c18
          have c18b2:¬ (((rd_T111 l0_0 x3_1).f1)=[]):=fun h_=>c18 (by rw [h_];rfl)
          (first | rw [c18b0] | (simp only [i64_w,i32_w];rw [c18b0]) | skip)
          by_cases c22:x3_1>0
          ·rw [if_pos c22] at H
           have c22b0:decide (0<x3_1)=true:=dE c22
           clear c22
           obtain ⟨ji23,hji23⟩:∃ j_:Int,(wrap64 (x3_1-1))=j_:=⟨_,rfl⟩
           replace H:(if 0≤(ji23) then (if (ji23)<(l0_0.length:Int) then (Y1.j1 k1 x3_1 (!(Op.bytesLess (((rd_T111 l0_0 (ji23)).f0).toList) (((rd_T111 l0_0 x3_1).f0).toList))) l0_0) else (none)) else (none))=some r:=by first | (rw [hji23] at H;exact H) | (simp only [hji23] at H ⊢;exact H)
           (try rw [hji23] at A14)
           (try rw [hji23] at A16)
           have hji23w:(IntKind.i64.wrap (x3_1-1))=ji23:=(i64_w _).trans hji23
           by_cases c24:0≤(ji23)
           ·rw [if_pos c24] at H
            have c24b0:decide (0≤(ji23))=true:=dE c24
            clear c24
            by_cases c25:(ji23)<(l0_0.length:Int)
            ·rw [if_pos c25] at H
             have c25b0:decide ((ji23)<(l0_0.length:Int))=true:=dE c25
             clear c25
             have H':=aM H
             clear H
             try go_wp2
             have n0_:Aside0 (((w11.setCell ⟨gb703,0,none⟩ (.string ((rd_T111 l0_0 x3_1).f0))).setCell ⟨gb703,1,none⟩ (.slice A702_1 ((rd_T111 l0_0 x3_1).f1).length c702_1)).heap[gb701]? = some (.cells #[.slice (some ad702) l0_0.length c0_0] 47 (0,0))):=⟨z15_ NB701_703.out BK701.out⟩
             have n1_:Aside0 (((w11.setCell ⟨gb703,0,none⟩ (.string ((rd_T111 l0_0 x3_1).f0))).setCell ⟨gb703,1,none⟩ (.slice A702_1 ((rd_T111 l0_0 x3_1).f1).length c702_1)).heap[gb703]? = some (.cells #[.string ((rd_T111 l0_0 x3_1).f0),.slice A702_1 ((rd_T111 l0_0 x3_1).f1).length c702_1] 111 (0,0))):=⟨z13_ BK703.out⟩
             have n2_:Aside0 (Below w.heap.size w ((w11.setCell ⟨gb703,0,none⟩ (.string ((rd_T111 l0_0 x3_1).f0))).setCell ⟨gb703,1,none⟩ (.slice A702_1 ((rd_T111 l0_0 x3_1).f1).length c702_1))):=⟨z5_ HB.out GE701.out GE703.out⟩
             (try clear BK701)
             (try clear BK703)
             (try clear HB)
             generalize ((w11.setCell ⟨gb703,0,none⟩ (.string ((rd_T111 l0_0 x3_1).f0))).setCell ⟨gb703,1,none⟩ (.slice A702_1 ((rd_T111 l0_0 x3_1).f1).length c702_1))=w26 at n0_ n1_ n2_ ⊢
             have BK701:=n0_
             have BK703:=n1_
             have HB:=n2_
             clear n0_ n1_ n2_
             have n0_:=aM (blk_drew BK701.out)
             have n1_:=aM (blk_drew BK703.out)
             have n2_:=aM (below_drew1 HB.out)
             clear BK701
             clear BK703
             clear HB
             have BK701:=n0_
             have BK703:=n1_
             have HB:=n2_
             clear n0_ n1_ n2_
             have p706:0≤((ji23):Int):=dT (z0_)
             have q706:(ji23)<(l0_0.length:Int):=dT (z0_)
             obtain ⟨ad706,A706_1,c706_1,e706,hx706_0,hx706_1,hl706_1,hi706_1⟩:=at_T111 HR0_0.out (ji23) p706 q706
             have hw706_1:=hx706_1
             have hw706_0:=hx706_0
             obtain rfl:ad702=ad706:=(by injection e706)
             replace hx706_0:=(HB.out.cell (World.block_lt_of_cell? w _ hx706_0)).trans hx706_0
             replace hx706_1:=(HB.out.cell (World.block_lt_of_cell? w _ hx706_1)).trans hx706_1
             have HR706_1:=aM hi706_1
             have HC706_1:=aM hl706_1
             clear hi706_1 hl706_1
             replace p706:=eq_true p706
             replace q706:=eq_true q706
             refine start_ (n:=32) (S:=fun w'=>w'.cell? ⟨gb703,0,none⟩=some (.string ((rd_T111 l0_0 x3_1).f0))∧w'.cell? ⟨gb703,1,none⟩=some (.slice A702_1 ((rd_T111 l0_0 x3_1).f1).length c702_1)∧w'.cell? ⟨gb701,0,none⟩=some (.slice (some ad702) l0_0.length c0_0)∧w'.cell? (ad702.add (((ji23)).toNat*2))=some (.string ((rd_T111 l0_0 (ji23)).f0))∧w'.cell? ⟨(ad702.add (((ji23)).toNat*2)).block,(ad702.add (((ji23)).toNat*2)).off+1,none⟩=some (.slice A706_1 ((rd_T111 l0_0 (ji23)).f1).length c706_1)) (ds:=[]) Y1.q0 (by kernel_rfl) rfl rfl (cj2_ BK703.out ⟨(blk_cell BK701.out 0).trans rfl,⟨((HB.out.cell (World.block_lt_of_cell? w _ hw706_0)).trans hw706_0),((HB.out.cell (World.block_lt_of_cell? w _ hw706_1)).trans hw706_1)⟩⟩) (fun hHeld=>?_);refine with_tabW Y1.tab7 Y1.bits7 (fun HT_ HW_=>?_)
             generalize w26.drew=w27 at BK701 BK703 HB HR706_1 hx706_0 hx706_1 hHeld ⊢
             refine pu_ 0 21 Y1.q1 HT_.out ?_
             refine tk5_ 1 22 Y1.q2 HT_.out HW_.out hHeld ?_
             refine o1_ 2 23 Y1.q3 HT_.out (fun K hK=>?_)
             refine gs_ Try.func60 #[.string ((rd_T111 l0_0 x3_1).f0)] ?_
             with_reducible refine (Y10.calls k1 ((rd_T111 l0_0 x3_1).f0) true _ A14.out).mono ?_
             rintro e w' ⟨rfl,⟨nd,rfl⟩⟩
             refine ⟨_,rfl,?_⟩
             refine hK.out _ _ (cj2_ BK703.out ⟨(blk_cell BK701.out 0).trans rfl,⟨((HB.out.cell (World.block_lt_of_cell? w _ hw706_0)).trans hw706_0),((HB.out.cell (World.block_lt_of_cell? w _ hw706_1)).trans hw706_1)⟩⟩) (fun hHeld=>?_)
             clear hK K
             refine nm_ 23 ?_
             refine pu_ 3 24 Y1.q4 HT_.out ?_
             refine pu_ 4 25 Y1.q5 HT_.out ?_
             refine pu_ 5 26 Y1.q6 HT_.out ?_
             refine tk5_ 6 27 Y1.q7 HT_.out HW_.out hHeld ?_
             refine o1_ 7 28 Y1.q8 HT_.out (fun K hK=>?_)
             refine gs_ Try.func61 #[.slice A702_1 ((rd_T111 l0_0 x3_1).f1).length c702_1] ?_
             with_reducible refine (Y2.calls k1 _ _ ((rd_T111 l0_0 x3_1).f1) true _ ?s1 ?s2 A16.out).mono ?_
             (case s1=>repeat (first | exact (Kd.C_below HR702_1.out (z5_ HB.out GE701.out GE703.out)) | (with_reducible refine Kd.C_alloc ?_ _) | (with_reducible refine Kd.C_drewN ?_ _) | (with_reducible refine Kd.C_drew ?_)))
             (case s2=>exact HC702_1.out)
             rintro e w28 ⟨rfl,hb⟩
             refine ⟨_,rfl,?_⟩
             have n0_:=aM (blkB_ BK701.out hb)
             have n1_:=aM (blkB_ BK703.out hb)
             have n2_:=aM (below_step (z5_ HB.out GE701.out GE703.out) hb)
             clear BK701
             clear BK703
             clear HB
             have BK701:=n0_
             have BK703:=n1_
             have HB:=n2_
             clear n0_ n1_ n2_
             (try clear hb)
             refine hK.out _ _ (cj2_ BK703.out ⟨(blk_cell BK701.out 0).trans rfl,⟨((HB.out.cell (World.block_lt_of_cell? w _ hw706_0)).trans hw706_0),((HB.out.cell (World.block_lt_of_cell? w _ hw706_1)).trans hw706_1)⟩⟩) (fun hHeld=>?_)
             clear hK K
             refine nm_ 28 ?_
             refine pu_ 8 29 Y1.q9 HT_.out ?_
             refine pu_ 9 30 Y1.q10 HT_.out ?_
             refine pu_ 10 31 Y1.q11 HT_.out ?_
             refine pu_ 11 32 Y1.q12 HT_.out ?_
             refine tk5_ 12 33 Y1.q13 HT_.out HW_.out hHeld ?_
             refine pu_ 13 34 Y1.q14 HT_.out ?_
             refine pu_ 14 35 Y1.q15 HT_.out ?_
             refine pu_ 15 36 Y1.q16 HT_.out ?_
             refine pu_ 16 37 Y1.q17 HT_.out ?_
             refine pu_ 17 38 Y1.q18 HT_.out ?_
             refine pu_ 18 39 Y1.q19 HT_.out ?_
             refine pu_ 19 40 Y1.q20 HT_.out ?_
             refine pu_ 20 41 Y1.q21 HT_.out ?_
             refine pu_ 22 43 #[I,I,I,I,I,I,I,I,I,I,I,I,I,I,I,I,I,I,I,I,I,O,I,O,O,O,O,O,O,O,O,O] HT_.out ?_
             refine pu_ 23 44 #[I,I,I,I,I,I,I,I,I,I,I,I,I,I,I,I,I,I,I,I,I,O,I,I,O,O,O,O,O,O,O,O] HT_.out ?_
             refine pu_ 27 48 #[I,I,I,I,I,I,I,I,I,I,I,I,I,I,I,I,I,I,I,I,I,O,I,I,O,O,O,I,O,O,O,O] HT_.out ?_
             refine tk5_ 21 42 #[I,I,I,I,I,I,I,I,I,I,I,I,I,I,I,I,I,I,I,I,I,I,I,I,O,O,O,I,O,O,O,O] HT_.out HW_.out hHeld ?_
             refine pu_ 24 45 #[I,I,I,I,I,I,I,I,I,I,I,I,I,I,I,I,I,I,I,I,I,I,I,I,I,O,O,I,O,O,O,O] HT_.out ?_
             refine pu_ 25 46 #[I,I,I,I,I,I,I,I,I,I,I,I,I,I,I,I,I,I,I,I,I,I,I,I,I,I,O,I,O,O,O,O] HT_.out ?_
             refine tk5_ 26 47 Y1.q28 HT_.out HW_.out hHeld ?_
             refine tk5_ 28 49 Y1.q29 HT_.out HW_.out hHeld ?_
             refine pu_ 29 50 Y1.q30 HT_.out ?_
             refine pu_ 30 51 Y1.q31 HT_.out ?_
             refine pu_ 31 52 Y1.q32 HT_.out ?_
             refine done_ (done_of HT_.out (by kernel_rfl)) ?_
             try go_wp2
             go_meet
             case rel=>exact ⟨_,(!(Op.bytesLess (((rd_T111 l0_0 (ji23)).f0).toList) (((rd_T111 l0_0 x3_1).f0).toList))),(by first | rfl | (simp;done) | (simp only [← hji23] <;> (first | rfl | simp)) | (simp [*];done)),H',⟨z14_ HK1.out⟩,⟨z10_ BK701.out⟩,⟨z10_ BK703.out⟩,⟨z5_ HB.out GE701.out GE703.out⟩⟩
            ·rw [if_neg c25] at H
             exact nO H
           ·rw [if_neg c24] at H
            exact nO H
          ·rw [if_neg c22] at H
           have c22b0:decide (0<x3_1)=false:=dF c22
           clear c22
           have H':=aM H
           clear H
           try go_wp2
           have n0_:Aside0 (((w11.setCell ⟨gb703,0,none⟩ (.string ((rd_T111 l0_0 x3_1).f0))).setCell ⟨gb703,1,none⟩ (.slice A702_1 ((rd_T111 l0_0 x3_1).f1).length c702_1)).heap[gb701]? = some (.cells #[.slice (some ad702) l0_0.length c0_0] 47 (0,0))):=⟨z15_ NB701_703.out BK701.out⟩
           have n1_:Aside0 (((w11.setCell ⟨gb703,0,none⟩ (.string ((rd_T111 l0_0 x3_1).f0))).setCell ⟨gb703,1,none⟩ (.slice A702_1 ((rd_T111 l0_0 x3_1).f1).length c702_1)).heap[gb703]? = some (.cells #[.string ((rd_T111 l0_0 x3_1).f0),.slice A702_1 ((rd_T111 l0_0 x3_1).f1).length c702_1] 111 (0,0))):=⟨z13_ BK703.out⟩
           have n2_:Aside0 (Below w.heap.size w ((w11.setCell ⟨gb703,0,none⟩ (.string ((rd_T111 l0_0 x3_1).f0))).setCell ⟨gb703,1,none⟩ (.slice A702_1 ((rd_T111 l0_0 x3_1).f1).length c702_1))):=⟨z5_ HB.out GE701.out GE703.out⟩
           (try clear BK701)
           (try clear BK703)
           (try clear HB)
           generalize ((w11.setCell ⟨gb703,0,none⟩ (.string ((rd_T111 l0_0 x3_1).f0))).setCell ⟨gb703,1,none⟩ (.slice A702_1 ((rd_T111 l0_0 x3_1).f1).length c702_1))=w29 at n0_ n1_ n2_ ⊢
           have BK701:=n0_
           have BK703:=n1_
           have HB:=n2_
           clear n0_ n1_ n2_
           have n0_:=aM (blk_drew BK701.out)
           have n1_:=aM (blk_drew BK703.out)
           have n2_:=aM (below_drew1 HB.out)
           clear BK701
           clear BK703
           clear HB
           have BK701:=n0_
           have BK703:=n1_
           have HB:=n2_
           clear n0_ n1_ n2_
           refine start_ (n:=32) (S:=fun w'=>w'.cell? ⟨gb703,0,none⟩=some (.string ((rd_T111 l0_0 x3_1).f0))∧w'.cell? ⟨gb703,1,none⟩=some (.slice A702_1 ((rd_T111 l0_0 x3_1).f1).length c702_1)) (ds:=[]) Y1.q0 (by kernel_rfl) rfl rfl (cc2_ BK703.out) (fun hHeld=>?_);refine with_tabW Y1.tab7 Y1.bits7 (fun HT_ HW_=>?_)
           generalize w29.drew=w30 at BK701 BK703 HB hHeld ⊢
           refine pu_ 0 21 Y1.q1 HT_.out ?_
           refine tk2_ 1 22 Y1.q2 HT_.out HW_.out hHeld ?_
           refine o1_ 2 23 Y1.q3 HT_.out (fun K hK=>?_)
           refine gs_ Try.func60 #[.string ((rd_T111 l0_0 x3_1).f0)] ?_
           with_reducible refine (Y10.calls k1 ((rd_T111 l0_0 x3_1).f0) true _ A14.out).mono ?_
           rintro e w' ⟨rfl,⟨nd,rfl⟩⟩
           refine ⟨_,rfl,?_⟩
           refine hK.out _ _ (cc2_ BK703.out) (fun hHeld=>?_)
           clear hK K
           refine nm_ 23 ?_
           refine pu_ 3 24 Y1.q4 HT_.out ?_
           refine pu_ 4 25 Y1.q5 HT_.out ?_
           refine pu_ 5 26 Y1.q6 HT_.out ?_
           refine tk2_ 6 27 Y1.q7 HT_.out HW_.out hHeld ?_
           refine o1_ 7 28 Y1.q8 HT_.out (fun K hK=>?_)
           refine gs_ Try.func61 #[.slice A702_1 ((rd_T111 l0_0 x3_1).f1).length c702_1] ?_
           with_reducible refine (Y2.calls k1 _ _ ((rd_T111 l0_0 x3_1).f1) true _ ?s1 ?s2 A16.out).mono ?_
           (case s1=>repeat (first | exact (Kd.C_below HR702_1.out (z5_ HB.out GE701.out GE703.out)) | (with_reducible refine Kd.C_alloc ?_ _) | (with_reducible refine Kd.C_drewN ?_ _) | (with_reducible refine Kd.C_drew ?_)))
           (case s2=>exact HC702_1.out)
           rintro e w31 ⟨rfl,hb⟩
           refine ⟨_,rfl,?_⟩
           have n0_:=aM (blkB_ BK701.out hb)
           have n1_:=aM (blkB_ BK703.out hb)
           have n2_:=aM (below_step (z5_ HB.out GE701.out GE703.out) hb)
           clear BK701
           clear BK703
           clear HB
           have BK701:=n0_
           have BK703:=n1_
           have HB:=n2_
           clear n0_ n1_ n2_
           (try clear hb)
           refine hK.out _ _ (cc2_ BK703.out) (fun hHeld=>?_)
           clear hK K
           refine nm_ 28 ?_
           refine pu_ 8 29 Y1.q9 HT_.out ?_
           refine pu_ 9 30 Y1.q10 HT_.out ?_
           refine pu_ 10 31 Y1.q11 HT_.out ?_
           refine pu_ 11 32 Y1.q12 HT_.out ?_
           refine tk2_ 12 33 Y1.q13 HT_.out HW_.out hHeld ?_
           refine pu_ 13 34 Y1.q14 HT_.out ?_
           refine pu_ 14 35 Y1.q15 HT_.out ?_
           refine pu_ 15 36 Y1.q16 HT_.out ?_
           refine pu_ 16 37 Y1.q17 HT_.out ?_
           refine pu_ 17 38 Y1.q18 HT_.out ?_
           refine pu_ 18 39 Y1.q19 HT_.out ?_
           refine pu_ 19 40 Y1.q20 HT_.out ?_
           refine pn_ 20 41 Y1.q21 HT_.out ?_
           refine pn_ 21 42 Y1.q22 HT_.out ?_
           refine pn_ 22 43 Y1.q23 HT_.out ?_
           refine pn_ 23 44 Y1.q24 HT_.out ?_
           refine pn_ 24 45 Y1.q25 HT_.out ?_
           refine pn_ 25 46 Y1.q26 HT_.out ?_
           refine pn_ 26 47 Y1.q27 HT_.out ?_
           refine pn_ 27 48 Y1.q28 HT_.out ?_
           refine pn_ 28 49 Y1.q29 HT_.out ?_
           refine pn_ 29 50 Y1.q30 HT_.out ?_
           refine pu_ 30 51 Y1.q31 HT_.out ?_
           refine pu_ 31 52 Y1.q32 HT_.out ?_
           refine done_ (done_of HT_.out (by kernel_rfl)) ?_
           try go_wp2
           go_meet
           case rel=>exact ⟨_,(false),(z1_),H',⟨z14_ HK1.out⟩,⟨z10_ BK701.out⟩,⟨z10_ BK703.out⟩,⟨z5_ HB.out GE701.out GE703.out⟩⟩
        ·replace c17:=Bool.eq_false_iff.mpr c17
         subst c17
         have H1:(Y1.j1 k1 x3_1 true l0_0)=some r:=by rw [if_neg (show ¬ (false=true) by decide)] at H;exact H
         clear H
         have H:=H1
         clear H1
         have H':=aM H
         clear H
         try go_wp2
         have n0_:Aside0 (((w11.setCell ⟨gb703,0,none⟩ (.string ((rd_T111 l0_0 x3_1).f0))).setCell ⟨gb703,1,none⟩ (.slice A702_1 ((rd_T111 l0_0 x3_1).f1).length c702_1)).heap[gb701]? = some (.cells #[.slice (some ad702) l0_0.length c0_0] 47 (0,0))):=⟨z15_ NB701_703.out BK701.out⟩
         have n1_:Aside0 (((w11.setCell ⟨gb703,0,none⟩ (.string ((rd_T111 l0_0 x3_1).f0))).setCell ⟨gb703,1,none⟩ (.slice A702_1 ((rd_T111 l0_0 x3_1).f1).length c702_1)).heap[gb703]? = some (.cells #[.string ((rd_T111 l0_0 x3_1).f0),.slice A702_1 ((rd_T111 l0_0 x3_1).f1).length c702_1] 111 (0,0))):=⟨z13_ BK703.out⟩
         have n2_:Aside0 (Below w.heap.size w ((w11.setCell ⟨gb703,0,none⟩ (.string ((rd_T111 l0_0 x3_1).f0))).setCell ⟨gb703,1,none⟩ (.slice A702_1 ((rd_T111 l0_0 x3_1).f1).length c702_1))):=⟨z5_ HB.out GE701.out GE703.out⟩
         (try clear BK701)
         (try clear BK703)
         (try clear HB)
         generalize ((w11.setCell ⟨gb703,0,none⟩ (.string ((rd_T111 l0_0 x3_1).f0))).setCell ⟨gb703,1,none⟩ (.slice A702_1 ((rd_T111 l0_0 x3_1).f1).length c702_1))=w32 at n0_ n1_ n2_ ⊢
         have BK701:=n0_
         have BK703:=n1_
         have HB:=n2_
         clear n0_ n1_ n2_
         have n0_:=aM (blk_drew BK701.out)
         have n1_:=aM (blk_drew BK703.out)
         have n2_:=aM (below_drew1 HB.out)
         clear BK701
         clear BK703
         clear HB
         have BK701:=n0_
         have BK703:=n1_
         have HB:=n2_
         clear n0_ n1_ n2_
         refine start_ (n:=32) (S:=fun w'=>w'.cell? ⟨gb703,0,none⟩=some (.string ((rd_T111 l0_0 x3_1).f0))∧w'.cell? ⟨gb703,1,none⟩=some (.slice A702_1 ((rd_T111 l0_0 x3_1).f1).length c702_1)) (ds:=[]) Y1.q0 (by kernel_rfl) rfl rfl (cc2_ BK703.out) (fun hHeld=>?_);refine with_tabW Y1.tab7 Y1.bits7 (fun HT_ HW_=>?_)
         generalize w32.drew=w33 at BK701 BK703 HB hHeld ⊢
         refine pu_ 0 21 Y1.q1 HT_.out ?_
         refine tk2_ 1 22 Y1.q2 HT_.out HW_.out hHeld ?_
         refine o1_ 2 23 Y1.q3 HT_.out (fun K hK=>?_)
         refine gs_ Try.func60 #[.string ((rd_T111 l0_0 x3_1).f0)] ?_
         with_reducible refine (Y10.calls k1 ((rd_T111 l0_0 x3_1).f0) true _ A14.out).mono ?_
         rintro e w' ⟨rfl,⟨nd,rfl⟩⟩
         refine ⟨_,rfl,?_⟩
         refine hK.out _ _ (cc2_ BK703.out) (fun hHeld=>?_)
         clear hK K
         refine nm_ 23 ?_
         refine pu_ 3 24 Y1.q4 HT_.out ?_
         refine pu_ 4 25 Y1.q5 HT_.out ?_
         refine pu_ 5 26 Y1.q6 HT_.out ?_
         refine tk2_ 6 27 Y1.q7 HT_.out HW_.out hHeld ?_
         refine o1_ 7 28 Y1.q8 HT_.out (fun K hK=>?_)
         refine gs_ Try.func61 #[.slice A702_1 ((rd_T111 l0_0 x3_1).f1).length c702_1] ?_
         with_reducible refine (Y2.calls k1 _ _ ((rd_T111 l0_0 x3_1).f1) false _ ?s1 ?s2 A16.out).mono ?_
         (case s1=>repeat (first | exact (Kd.C_below HR702_1.out (z5_ HB.out GE701.out GE703.out)) | (with_reducible refine Kd.C_alloc ?_ _) | (with_reducible refine Kd.C_drewN ?_ _) | (with_reducible refine Kd.C_drew ?_)))
         (case s2=>exact HC702_1.out)
         rintro e w34 ⟨rfl,hb⟩
         refine ⟨_,rfl,?_⟩
         have n0_:=aM (blkB_ BK701.out hb)
         have n1_:=aM (blkB_ BK703.out hb)
         have n2_:=aM (below_step (z5_ HB.out GE701.out GE703.out) hb)
         clear BK701
         clear BK703
         clear HB
         have BK701:=n0_
         have BK703:=n1_
         have HB:=n2_
         clear n0_ n1_ n2_
         (try clear hb)
         refine hK.out _ _ (cc2_ BK703.out) (fun hHeld=>?_)
         clear hK K
         refine nm_ 28 ?_
         refine pu_ 8 29 Y1.q9 HT_.out ?_
         refine pu_ 9 30 Y1.q10 HT_.out ?_
         refine pu_ 10 31 Y1.q11 HT_.out ?_
         refine pn_ 11 32 Y1.q12 HT_.out ?_
         refine pn_ 12 33 Y1.q13 HT_.out ?_
         refine pn_ 13 34 Y1.q14 HT_.out ?_
         refine pn_ 14 35 Y1.q15 HT_.out ?_
         refine pu_ 15 36 Y1.q16 HT_.out ?_
         refine pu_ 16 37 Y1.q17 HT_.out ?_
         refine pn_ 17 38 Y1.q18 HT_.out ?_
         refine pn_ 18 39 Y1.q19 HT_.out ?_
         refine pn_ 19 40 Y1.q20 HT_.out ?_
         refine pn_ 20 41 Y1.q21 HT_.out ?_
         refine pn_ 21 42 Y1.q22 HT_.out ?_
         refine pn_ 22 43 Y1.q23 HT_.out ?_
         refine pn_ 23 44 Y1.q24 HT_.out ?_
         refine pn_ 24 45 Y1.q25 HT_.out ?_
         refine pn_ 25 46 Y1.q26 HT_.out ?_
         refine pn_ 26 47 Y1.q27 HT_.out ?_
         refine pn_ 27 48 Y1.q28 HT_.out ?_
         refine pn_ 28 49 Y1.q29 HT_.out ?_
         refine pn_ 29 50 Y1.q30 HT_.out ?_
         refine pn_ 30 51 Y1.q31 HT_.out ?_
         refine pu_ 31 52 Y1.q32 HT_.out ?_
         refine done_ (done_of HT_.out (by kernel_rfl)) ?_
         try go_wp2
         go_meet
         case rel=>exact ⟨_,(true),(z1_),H',⟨z14_ HK1.out⟩,⟨z10_ BK701.out⟩,⟨z10_ BK703.out⟩,⟨z5_ HB.out GE701.out GE703.out⟩⟩
       ·replace c15:=Bool.eq_false_iff.mpr c15
        subst c15
        have H1:(Y1.j1 k1 x3_1 true l0_0)=some r:=by rw [if_neg (show ¬ (false=true) by decide)] at H;exact H
        clear H
        have H:=H1
        clear H1
        have H':=aM H
        clear H
        try go_wp2
        have n0_:Aside0 (((w11.setCell ⟨gb703,0,none⟩ (.string ((rd_T111 l0_0 x3_1).f0))).setCell ⟨gb703,1,none⟩ (.slice A702_1 ((rd_T111 l0_0 x3_1).f1).length c702_1)).heap[gb701]? = some (.cells #[.slice (some ad702) l0_0.length c0_0] 47 (0,0))):=⟨z15_ NB701_703.out BK701.out⟩
        have n1_:Aside0 (((w11.setCell ⟨gb703,0,none⟩ (.string ((rd_T111 l0_0 x3_1).f0))).setCell ⟨gb703,1,none⟩ (.slice A702_1 ((rd_T111 l0_0 x3_1).f1).length c702_1)).heap[gb703]? = some (.cells #[.string ((rd_T111 l0_0 x3_1).f0),.slice A702_1 ((rd_T111 l0_0 x3_1).f1).length c702_1] 111 (0,0))):=⟨z13_ BK703.out⟩
        have n2_:Aside0 (Below w.heap.size w ((w11.setCell ⟨gb703,0,none⟩ (.string ((rd_T111 l0_0 x3_1).f0))).setCell ⟨gb703,1,none⟩ (.slice A702_1 ((rd_T111 l0_0 x3_1).f1).length c702_1))):=⟨z5_ HB.out GE701.out GE703.out⟩
        (try clear BK701)
        (try clear BK703)
        (try clear HB)
        generalize ((w11.setCell ⟨gb703,0,none⟩ (.string ((rd_T111 l0_0 x3_1).f0))).setCell ⟨gb703,1,none⟩ (.slice A702_1 ((rd_T111 l0_0 x3_1).f1).length c702_1))=w35 at n0_ n1_ n2_ ⊢
        have BK701:=n0_
        have BK703:=n1_
        have HB:=n2_
        clear n0_ n1_ n2_
        have n0_:=aM (blk_drew BK701.out)
        have n1_:=aM (blk_drew BK703.out)
        have n2_:=aM (below_drew1 HB.out)
        clear BK701
        clear BK703
        clear HB
        have BK701:=n0_
        have BK703:=n1_
        have HB:=n2_
        clear n0_ n1_ n2_
        refine start_ (n:=32) (S:=fun w'=>w'.cell? ⟨gb703,0,none⟩=some (.string ((rd_T111 l0_0 x3_1).f0))∧w'.cell? ⟨gb703,1,none⟩=some (.slice A702_1 ((rd_T111 l0_0 x3_1).f1).length c702_1)) (ds:=[]) Y1.q0 (by kernel_rfl) rfl rfl (cc2_ BK703.out) (fun hHeld=>?_);refine with_tabW Y1.tab7 Y1.bits7 (fun HT_ HW_=>?_)
        generalize w35.drew=w36 at BK701 BK703 HB hHeld ⊢
        refine pu_ 0 21 Y1.q1 HT_.out ?_
        refine tk2_ 1 22 Y1.q2 HT_.out HW_.out hHeld ?_
        refine o1_ 2 23 Y1.q3 HT_.out (fun K hK=>?_)
        refine gs_ Try.func60 #[.string ((rd_T111 l0_0 x3_1).f0)] ?_
        with_reducible refine (Y10.calls k1 ((rd_T111 l0_0 x3_1).f0) false _ A14.out).mono ?_
        rintro e w' ⟨rfl,⟨nd,rfl⟩⟩
        refine ⟨_,rfl,?_⟩
        refine hK.out _ _ (cc2_ BK703.out) (fun hHeld=>?_)
        clear hK K
        refine nm_ 23 ?_
        refine pu_ 3 24 Y1.q4 HT_.out ?_
        refine pu_ 4 25 Y1.q5 HT_.out ?_
        refine pn_ 5 26 Y1.q6 HT_.out ?_
        refine pn_ 6 27 Y1.q7 HT_.out ?_
        refine pn_ 7 28 Y1.q8 HT_.out ?_
        refine pn_ 8 29 Y1.q9 HT_.out ?_
        refine pu_ 9 30 Y1.q10 HT_.out ?_
        refine pu_ 10 31 Y1.q11 HT_.out ?_
        refine pn_ 11 32 Y1.q12 HT_.out ?_
        refine pn_ 12 33 Y1.q13 HT_.out ?_
        refine pn_ 13 34 Y1.q14 HT_.out ?_
        refine pn_ 14 35 Y1.q15 HT_.out ?_
        refine pu_ 15 36 Y1.q16 HT_.out ?_
        refine pu_ 16 37 Y1.q17 HT_.out ?_
        refine pn_ 17 38 Y1.q18 HT_.out ?_
        refine pn_ 18 39 Y1.q19 HT_.out ?_
        refine pn_ 19 40 Y1.q20 HT_.out ?_
        refine pn_ 20 41 Y1.q21 HT_.out ?_
        refine pn_ 21 42 Y1.q22 HT_.out ?_
        refine pn_ 22 43 Y1.q23 HT_.out ?_
        refine pn_ 23 44 Y1.q24 HT_.out ?_
        refine pn_ 24 45 Y1.q25 HT_.out ?_
        refine pn_ 25 46 Y1.q26 HT_.out ?_
        refine pn_ 26 47 Y1.q27 HT_.out ?_
        refine pn_ 27 48 Y1.q28 HT_.out ?_
        refine pn_ 28 49 Y1.q29 HT_.out ?_
        refine pn_ 29 50 Y1.q30 HT_.out ?_
        refine pn_ 30 51 Y1.q31 HT_.out ?_
        refine pu_ 31 52 Y1.q32 HT_.out ?_
        refine done_ (done_of HT_.out (by kernel_rfl)) ?_
        try go_wp2
        go_meet
        case rel=>exact ⟨_,(true),(z1_),H',⟨z14_ HK1.out⟩,⟨z10_ BK701.out⟩,⟨z10_ BK703.out⟩,⟨z5_ HB.out GE701.out GE703.out⟩⟩
      case rest =>
       clear HC9
       try clear c1
       try clear p2
       try clear c6
       try clear c7
       try clear c15
       try clear c17
       obtain ⟨kq,x52_8,rfl,HA,HJ8,BK701,BK703,HB⟩:=hcut
       cases kq with
       | zero=>exact absurd HA.out (by simp [Y1.j1])
       | succ kj8 =>
        have H:=HA.out
        clear HA
        simp only [Y1.j1] at H
        by_cases c37:x52_8=true
        ·subst c37
         have H1:(some false)=some r:=by rw [if_pos rfl] at H;exact H
         clear H
         have H:=H1
         clear H1
         obtain rfl:=sI H
         go_wp2
         go_ret
         exact ⟨z7_,z5_ HB.out GE701.out GE703.out⟩
        ·replace c37:=Bool.eq_false_iff.mpr c37
         subst c37
         have H1:(Y1.l0 kj8 (wrap64 (x3_1+1)) l0_0)=some r:=by rw [if_neg (show ¬ (false=true) by decide)] at H;exact H
         clear H
         have H:=H1
         clear H1
         have H':=aM H
         clear H
         go_wp2
         go_roundg kj8
         case measure=>have:=HK1.out;have:=HJ8.out;omega
         case rel=>exact ⟨(wrap64 (x3_1+1)),(z1_),H',⟨z11_ HK1.out HJ8.out⟩,⟨z10_ BK701.out⟩,⟨z5_ HB.out GE701.out GE703.out⟩⟩
     ·rw [if_neg c8] at H
      exact nO H
    ·rw [if_neg c7] at H
     have c7b0:decide (x3_1<(l0_0.length:Int))=false:=dF c7
     clear c7
     obtain rfl:=sI H
     have ⟨hcz38_0,hfz38_0⟩:=cz1_ BK701.out
     go_wp2
     go_ret
     exact ⟨z7_,z3_ HB.out GE701.out⟩


/-! ### Y21: function 50 -/
def Y21.l0:Nat→ByteArray→Int→List (S111)→Option ((List (S30)))
 | 0,_,_,_=>none
 | k+1,x1,x5,x708000=>if x5<(x708000.length:Int) then (if 0≤x5 then (if ((rd_T111 x708000 x5).f0).toList=x1.toList then ((some (([]:List (S30)):List (S30))).bind fun y712=>(if y712.length+((rd_T111 x708000 x5).f1).length<8796093022208 then (some (y712 ++ ((rd_T111 x708000 x5).f1))) else (none))) else (Y21.l0 k x1 (wrap64 (x5+1)) x708000)) else (none)) else (some (([]:List (S30))))
def Y21.f (k:Nat) (l0_0:List (S111)) (a1:ByteArray):Option ((List (S30))):=Y21.l0 k a1 0 l0_0
theorem Y21.mono_l:∀ k,(∀ y0 y1 y2,LeO (Y21.l0 k y0 y1 y2) (Y21.l0 (k+1) y0 y1 y2))
 | 0=>by intros <;> exact LeO.none _
 | k+1=>by
  have ih0:=Y21.mono_l k
  ·intros
   unfold Y21.l0
   exact mO
theorem Y21.mono:∀ a0 a1 k,LeO (Y21.f k a0 a1) (Y21.f (k+1) a0 a1):=by
 intro a0 a1 k
 have ih0:=Y21.mono_l k
 unfold Y21.f
 exact mO
theorem Y21.calls (k:Nat) (A0_0:Option Addr) (c0_0:Nat) (l0_0:List (S111)) (a1:ByteArray) (r:List (S30)) (w:World) (hr0_0:Kd.C k111 w A0_0 l0_0.length l0_0) (hc0_0:l0_0.length≤c0_0) (h:Y21.f k l0_0 a1=some r) :
  Calls Try.prog 50 #[.agg #[.slice A0_0 l0_0.length c0_0],.string a1] w fun e w'=>∃ v0_:Value,e = .returned (v0_)∧Kd.R k30 30 w' w.heap.size (fun _=>True) v0_ r∧Below w.heap.size w w':=by
 have hu47:=Try.underlying47
 have HR0_0:=aM hr0_0
 have HC0_0:=aM hc0_0
 clear hr0_0 hc0_0
 have HB:=aM (Below.refl w.heap.size w)
 have H:(Y21.l0 k a1 0 l0_0)=some r:=h
 clear h
 have H':=aM H
 clear H
 go_enter Try.func50,Try.ntmps50
 go_wp2_with (first | ((with_reducible refine gd_ 2 ?_);refine be_ 2 #[.slice A0_0 l0_0.length c0_0] 47 ?_;intro gb707 hg w3 hbox hb;have n0_:=aM (below_step (z2_ HB.out) hb);have n1_:=aM (hbox);have n2_:=aM ((z6_ HB.out:w.heap.size≤gb707));have n3_:=aM ((z6_ HB.out:w.heap.size≤gb707));clear HB;have HB:=n0_;have BK707:=n1_;have GW707:=n2_;have GE707:=n3_;clear n0_ n1_ n2_ n3_;clear hb hbox hg))
 go_loopg [5] k (fun kq v5 w'=>∃ (x5_1:Int),v5 = .int .i64 x5_1∧Aside0 (Y21.l0 kq a1 x5_1 l0_0=some r)∧Aside0 (kq≤k)∧Aside0 (w'.heap[gb707]? = some (.cells #[(.slice A0_0 l0_0.length c0_0)] 47 (0,0)))∧Aside0 (Below w.heap.size w w'))
 case atStart=>exact ⟨(0),(z1_),H',⟨Nat.le_refl _⟩,⟨z10_ BK707.out⟩,⟨z3_ HB.out GE707.out⟩⟩
 case round =>
  clear H'
  try clear p2
  obtain ⟨x5_1,rfl,HA,HK1,BK707,HB⟩:=hrel
  cases gk with
  | zero=>exact absurd HA.out (by simp [Y21.l0])
  | succ k1 =>
   have H:=HA.out
   clear HA
   simp only [Y21.l0] at H
   by_cases c4:x5_1<(l0_0.length:Int)
   ·rw [if_pos c4] at H
    have c4b0:decide (x5_1<(l0_0.length:Int))=true:=dE c4
    clear c4
    by_cases c5:0≤x5_1
    ·rw [if_pos c5] at H
     have c5b0:decide (0≤x5_1)=true:=dE c5
     clear c5
     by_cases c6:((rd_T111 l0_0 x5_1).f0).toList=a1.toList
     ·rw [if_pos c6] at H
      have c6b0:(((rd_T111 l0_0 x5_1).f0).toList == a1.toList)=true:=beq_iff_eq.mpr c6
      have c6b1:(((rd_T111 l0_0 x5_1).f0).toList != a1.toList)=false:=bne_eq_false_iff_eq.mpr c6
      clear c6
      obtain ⟨y712,hy712⟩:∃ y_:List (S30),y_=(([]:List (S30))):=⟨_,rfl⟩
      replace H:(if y712.length+((rd_T111 l0_0 x5_1).f1).length<8796093022208 then (some (y712 ++ ((rd_T111 l0_0 x5_1).f1))) else (none))=some r:=by first | (rw [hy712];with_reducible exact H) | (have H2_:=(Option.bind_some _ _).symm.trans H;rw [hy712];with_reducible exact H2_) | (have H2_:=(Option.bind_some _ _).symm.trans H;with_reducible exact H2_) | with_reducible exact H | (rw [hy712];exact H) | exact H
      have Ny712:=aM hy712
      clear hy712
      by_cases c7:y712.length+((rd_T111 l0_0 x5_1).f1).length<8796093022208
      ·rw [if_pos c7] at H
       have LMc7:=aM c7
       clear c7
       obtain ⟨y716,hy716⟩:∃ y_:List (S30),y_=(y712 ++ ((rd_T111 l0_0 x5_1).f1)):=⟨_,rfl⟩
       replace H:(some y716)=some r:=by first | (rw [hy716];with_reducible exact H) | (have H2_:=(Option.bind_some _ _).symm.trans H;rw [hy716];with_reducible exact H2_) | (have H2_:=(Option.bind_some _ _).symm.trans H;with_reducible exact H2_) | with_reducible exact H | (rw [hy716];exact H) | exact H
       have Ny716:=aM hy716
       clear hy716
       obtain rfl:=sI H
       have ⟨hcz8_0,hfz8_0⟩:=cz1_ BK707.out
       have p711:0≤(x5_1:Int):=dT (z0_)
       have q711:x5_1<(l0_0.length:Int):=dT (z0_)
       obtain ⟨ad711,A711_1,c711_1,e711,hx711_0,hx711_1,hl711_1,hi711_1⟩:=at_T111 HR0_0.out x5_1 p711 q711
       cases e711
       replace hx711_0:=(HB.out.cell (World.block_lt_of_cell? w _ hx711_0)).trans hx711_0
       replace hx711_1:=(HB.out.cell (World.block_lt_of_cell? w _ hx711_1)).trans hx711_1
       have HR711_1:=aM hi711_1
       have HC711_1:=aM hl711_1
       clear hi711_1 hl711_1
       replace p711:=eq_true p711
       replace q711:=eq_true q711
       go_wp2_with (first | ((with_reducible refine gd_ 21 ?_);refine Kd.R_lit k30 _ 30 ?hg (N:=21) ?hd (xs:=([]:List (S30))) (inner:=[]) (ok:=fun _=>True) (okp:=fun _=>True) ?hr ?hp (fun _ hk=>hk) trivial (Below.refl _ _) (Nat.le_refl _) (by simp) ?_;(case hd=>rfl);(case hg=>rfl);(case hr=>first | (go_simp;done) | (go_simp;rfl));(case hp=>exact (Reps.none _ _));intro v713 w9 ho10 hb hg_ hnew_;clear hg_ hnew_;(first | rw [← Ny712.out] at ho10 | (simp only [Int.reduceToNat] at ho10;rw [← Ny712.out] at ho10));have n0_:=aM (Kd.R_lower ho10 (below_size (z3_ HB.out GE707.out)));have n1_:=aM (blkB_ BK707.out hb);have n2_:=aM (below_step (z3_ HB.out GE707.out) hb);clear BK707;clear HB;have HO714:=n0_;have BK707:=n1_;have HB:=n2_;clear n0_ n1_ n2_;clear hb ho10;have ⟨hcz11_0,hfz11_0⟩:=cz1_ BK707.out;have p715:0≤(x5_1:Int):=dT (z0_);have q715:x5_1<(l0_0.length:Int):=dT (z0_);obtain ⟨ad715,A715_1,c715_1,e715,hx715_0,hx715_1,hl715_1,hi715_1⟩:=at_T111 HR0_0.out x5_1 p715 q715;obtain rfl:ad711=ad715:=(by injection e715);replace hx715_0:=(HB.out.cell (World.block_lt_of_cell? w _ hx715_0)).trans hx715_0;replace hx715_1:=(HB.out.cell (World.block_lt_of_cell? w _ hx715_1)).trans hx715_1;have HR715_1:=aM hi715_1;have HC715_1:=aM hl715_1;clear hi715_1 hl715_1;replace p715:=eq_true p715;replace q715:=eq_true q715) | ((with_reducible refine gate_builtin (b:=.append) (xs:=#[.tmp 21,.tmp 27]) rfl ?_);at_builtin;refine Kd.R_append_rows k30 (w0:=w) w.heap.size rfl (.tmp 21) (.tmp 27) 23 30 (.agg #[(.int .i64 0),(.int .i64 0)]) 16 rfl Try.underlying23 info30 rfl (by decide) (by omega) v713 y712 ((rd_T111 l0_0 x5_1).f1) _ _ _ (fun _=>True) (fun _=>False) rfl rfl ?aO ?aR (fun _ _ h=>h) (fun _ h=>h.elim) ?aF ?aB ?aS ?aL ?_;(case aR=>repeat (first | exact (Kd.C_below HR715_1.out HB.out) | (with_reducible refine Kd.C_alloc ?_ _) | (with_reducible refine Kd.C_drewN ?_ _) | (with_reducible refine Kd.C_drew ?_)));(case aB=>exact (z3_ HB.out GE707.out));(case aF=>exact (fun _ _=>trivial));(case aO=>exact (z8_ HO714.out));(case aS=>exact (below_size (z3_ HB.out GE707.out)));(case aL=>have:=LMc7.out;omega);intro v717 w12 ho hb hg hat;rw [← Ny716.out] at ho;have n0_:=aM (blk_grown (g:=gb707) (o:=.cells #[.slice (some ad711) l0_0.length c0_0] 47 (0,0)) (z10_ BK707.out) hg (Kd.R_ne HO714.out BK707.out (by decide)));have n1_:=aM (hb);have n2_:=aM (ho);clear BK707;clear HB;clear HO714;have BK707:=n0_;have HB:=n1_;have HO718:=n2_;clear n0_ n1_ n2_;clear ho hb hg hat))
       go_ret
       exact ⟨_,z7_,z8_ HO718.out,z3_ HB.out GE707.out⟩
      ·rw [if_neg c7] at H
       exact nO H
     ·rw [if_neg c6] at H
      have c6b0:(((rd_T111 l0_0 x5_1).f0).toList == a1.toList)=false:=beq_eq_false_iff_ne.mpr c6
      have c6b1:(((rd_T111 l0_0 x5_1).f0).toList != a1.toList)=true:=bne_iff_ne.mpr c6
      have H':=aM H
      clear H
      have ⟨hcz13_0,hfz13_0⟩:=cz1_ BK707.out
      have p711:0≤(x5_1:Int):=dT (z0_)
      have q711:x5_1<(l0_0.length:Int):=dT (z0_)
      obtain ⟨ad711,A711_1,c711_1,e711,hx711_0,hx711_1,hl711_1,hi711_1⟩:=at_T111 HR0_0.out x5_1 p711 q711
      cases e711
      replace hx711_0:=(HB.out.cell (World.block_lt_of_cell? w _ hx711_0)).trans hx711_0
      replace hx711_1:=(HB.out.cell (World.block_lt_of_cell? w _ hx711_1)).trans hx711_1
      have HR711_1:=aM hi711_1
      have HC711_1:=aM hl711_1
      clear hi711_1 hl711_1
      replace p711:=eq_true p711
      replace q711:=eq_true q711
      go_wp2
      go_roundg k1
      case measure=>have:=HK1.out;omega
      case rel=>exact ⟨(wrap64 (x5_1+1)),(z1_),H',⟨by have:=HK1.out;omega⟩,⟨z10_ BK707.out⟩,⟨z3_ HB.out GE707.out⟩⟩
    ·rw [if_neg c5] at H
     exact nO H
   ·rw [if_neg c4] at H
    have c4b0:decide (x5_1<(l0_0.length:Int))=false:=dF c4
    clear c4
    obtain ⟨y708,hy708⟩:∃ y_:List (S30),y_=(([]:List (S30))):=⟨_,rfl⟩
    replace H:(some y708)=some r:=by first | (rw [hy708];with_reducible exact H) | (have H2_:=(Option.bind_some _ _).symm.trans H;rw [hy708];with_reducible exact H2_) | (have H2_:=(Option.bind_some _ _).symm.trans H;with_reducible exact H2_) | with_reducible exact H | (rw [hy708];exact H) | exact H
    have Ny708:=aM hy708
    clear hy708
    obtain rfl:=sI H
    have ⟨hcz14_0,hfz14_0⟩:=cz1_ BK707.out
    go_wp2_with (first | ((with_reducible refine gd_ 29 ?_);refine Kd.R_lit k30 _ 30 ?hg (N:=29) ?hd (xs:=([]:List (S30))) (inner:=[]) (ok:=fun _=>True) (okp:=fun _=>True) ?hr ?hp (fun _ hk=>hk) trivial (Below.refl _ _) (Nat.le_refl _) (by simp) ?_;(case hd=>rfl);(case hg=>rfl);(case hr=>first | (go_simp;done) | (go_simp;rfl));(case hp=>exact (Reps.none _ _));intro v709 w15 ho16 hb hg_ hnew_;clear hg_ hnew_;(first | rw [← Ny708.out] at ho16 | (simp only [Int.reduceToNat] at ho16;rw [← Ny708.out] at ho16));have n0_:=aM (Kd.R_lower ho16 (below_size (z3_ HB.out GE707.out)));have n1_:=aM (blkB_ BK707.out hb);have n2_:=aM (below_step (z3_ HB.out GE707.out) hb);clear BK707;clear HB;have HO710:=n0_;have BK707:=n1_;have HB:=n2_;clear n0_ n1_ n2_;clear hb ho16))
    go_ret
    exact ⟨_,z7_,z8_ HO710.out,z3_ HB.out GE707.out⟩


/-! ### Y14: function 14 -/
def Y14.j0:Nat→ByteArray→Bool→List (S111)→Option ((List (S30)))
 | 0,_,_,_=>none
 | k+1,x1,x12,x720000=>if x12=true then (some (([]:List (S30)))) else ((Y21.f k x720000 x1).bind fun t724=>(some t724))
def Y14.f (k:Nat) (l0_0:List (S111)) (a1:ByteArray):Option ((List (S30))):=if (a1.size:Int)>8000 then (Y14.j0 k a1 true l0_0) else ((Y1.f k l0_0).bind fun t720=>(Y14.j0 k a1 (!t720) l0_0))
theorem Y14.mono_l:∀ k,(∀ y0 y1 y2,LeO (Y14.j0 k y0 y1 y2) (Y14.j0 (k+1) y0 y1 y2))
 | 0=>by intros <;> exact LeO.none _
 | k+1=>by
  have ih0:=Y14.mono_l k
  have m0:=@Y1.mono
  have m1:=@Y21.mono
  ·intros
   unfold Y14.j0
   exact mO
theorem Y14.mono:∀ a0 a1 k,LeO (Y14.f k a0 a1) (Y14.f (k+1) a0 a1):=by
 intro a0 a1 k
 have m0:=@Y1.mono
 have m1:=@Y21.mono
 have ih0:=Y14.mono_l k
 unfold Y14.f
 exact mO
theorem Y14.calls (k:Nat) (A0_0:Option Addr) (c0_0:Nat) (l0_0:List (S111)) (a1:ByteArray) (r:List (S30)) (w:World) (hr0_0:Kd.C k111 w A0_0 l0_0.length l0_0) (hc0_0:l0_0.length≤c0_0) (h:Y14.f k l0_0 a1=some r) :
  Calls Try.prog 14 #[.agg #[.slice A0_0 l0_0.length c0_0],.string a1] w fun e w'=>∃ v0_:Value,e = .returned (v0_)∧Kd.R k30 30 w' w.heap.size (fun _=>True) v0_ r∧Below w.heap.size w w':=by
 have hu47:=Try.underlying47
 have HR0_0:=aM hr0_0
 have HC0_0:=aM hc0_0
 clear hr0_0 hc0_0
 have HB:=aM (Below.refl w.heap.size w)
 have H:(if (a1.size:Int)>8000 then (Y14.j0 k a1 true l0_0) else ((Y1.f k l0_0).bind fun t720=>(Y14.j0 k a1 (!t720) l0_0)))=some r:=h
 clear h
 have HC3:=aM H
 clear H
 go_enter Try.func14,Try.ntmps14
 go_upto_region 1 with (first | ((with_reducible refine gd_ 2 ?_);refine be_ 2 #[.slice A0_0 l0_0.length c0_0] 47 ?_;intro gb719 hg w4 hbox hb;have n0_:=aM (below_step (z2_ HB.out) hb);have n1_:=aM (hbox);have n2_:=aM ((z6_ HB.out:w.heap.size≤gb719));have n3_:=aM ((z6_ HB.out:w.heap.size≤gb719));clear HB;have HB:=n0_;have BK719:=n1_;have GW719:=n2_;have GE719:=n3_;clear n0_ n1_ n2_ n3_;clear hb hbox hg))
 (try simp only [Act.put,sa_,s0_,ss_])
 go_cut [12] (fun v12 wc=>∃ (kq:Nat) (x12_2:Bool),v12 = .bool x12_2∧Aside0 (Y14.j0 kq a1 x12_2 l0_0=some r)∧Aside0 (kq≤k)∧Aside0 (wc.heap[gb719]? = some (.cells #[(.slice A0_0 l0_0.length c0_0)] 47 (0,0)))∧Aside0 (Below w.heap.size w wc))
 case first =>
  have H:=HC3.out
  clear HC3
  by_cases c5:(a1.size:Int)>8000
  ·rw [if_pos c5] at H
   have c5b0:decide (8000<(a1.size:Int))=true:=dE c5
   have c5b1:decide (8000<a1.size)=true:=dE (by omega)
   clear c5
   (first | rw [c5b0] | (simp only [i64_w,i32_w];rw [c5b0]) | skip)
   have H':=aM H
   clear H
   go_wp2
   go_meet
   case rel=>exact ⟨_,(true),(z1_),H',⟨by first | omega | exact Nat.le_refl _⟩,⟨z10_ BK719.out⟩,⟨z3_ HB.out GE719.out⟩⟩
  ·rw [if_neg c5] at H
   have c5b0:decide (8000<(a1.size:Int))=false:=dF c5
   have c5b1:decide (8000<a1.size)=false:=dF (by omega)
   clear c5
   (first | rw [c5b0] | (simp only [i64_w,i32_w];rw [c5b0]) | skip)
   replace H:=bS H
   obtain ⟨t720,A60,H⟩:=H
   replace H:(Y14.j0 k a1 (!t720) l0_0)=some r:=H
   have A6:=aM A60
   clear A60
   have H':=aM H
   clear H
   have ⟨hcz7_0,hfz7_0⟩:=cz1_ BK719.out
   go_wp2_with (first | (go_at_call 49;(with_reducible refine (Y1.calls k _ _ l0_0 t720 _ ?s1 ?s2 A6.out).mono ?_);(case s1=>repeat (first | exact (Kd.C_below HR0_0.out HB.out) | (with_reducible refine Kd.C_alloc ?_ _) | (with_reducible refine Kd.C_drewN ?_ _) | (with_reducible refine Kd.C_drew ?_)));(case s2=>exact HC0_0.out);rintro e w8 ⟨rfl,hb⟩;have n0_:=aM (blkB_ BK719.out hb);have n1_:=aM (below_step (z3_ HB.out GE719.out) hb);clear BK719;clear HB;have BK719:=n0_;have HB:=n1_;clear n0_ n1_;(try clear hb)))
   go_meet
   case rel=>exact ⟨_,(!t720),(z1_),H',⟨by first | omega | exact Nat.le_refl _⟩,⟨z10_ BK719.out⟩,⟨z3_ HB.out GE719.out⟩⟩
 case rest =>
  clear HC3
  try clear c1
  try clear p2
  try clear c5
  try clear c5b0
  try clear c5b1
  try clear hcz7_0
  try clear hfz7_0
  obtain ⟨kq,x12_2,rfl,HA,HJ2,BK719,HB⟩:=hcut
  cases kq with
  | zero=>exact absurd HA.out (by simp [Y14.j0])
  | succ kj2 =>
   have H:=HA.out
   clear HA
   simp only [Y14.j0] at H
   by_cases c9:x12_2=true
   ·subst c9
    have H1:(some (([]:List (S30))))=some r:=by rw [if_pos rfl] at H;exact H
    clear H
    have H:=H1
    clear H1
    obtain ⟨y721,hy721⟩:∃ y_:List (S30),y_=(([]:List (S30))):=⟨_,rfl⟩
    replace H:(some y721)=some r:=by first | (rw [hy721];with_reducible exact H) | (have H2_:=(Option.bind_some _ _).symm.trans H;rw [hy721];with_reducible exact H2_) | (have H2_:=(Option.bind_some _ _).symm.trans H;with_reducible exact H2_) | with_reducible exact H | (rw [hy721];exact H) | exact H
    have Ny721:=aM hy721
    clear hy721
    obtain rfl:=sI H
    go_wp2_with (first | ((with_reducible refine gd_ 13 ?_);refine Kd.R_lit k30 _ 30 ?hg (N:=13) ?hd (xs:=([]:List (S30))) (inner:=[]) (ok:=fun _=>True) (okp:=fun _=>True) ?hr ?hp (fun _ hk=>hk) trivial (Below.refl _ _) (Nat.le_refl _) (by simp) ?_;(case hd=>rfl);(case hg=>rfl);(case hr=>first | (go_simp;done) | (go_simp;rfl));(case hp=>exact (Reps.none _ _));intro v722 w10 ho11 hb hg_ hnew_;clear hg_ hnew_;(first | rw [← Ny721.out] at ho11 | (simp only [Int.reduceToNat] at ho11;rw [← Ny721.out] at ho11));have n0_:=aM (Kd.R_lower ho11 (below_size (z3_ HB.out GE719.out)));have n1_:=aM (blkB_ BK719.out hb);have n2_:=aM (below_step (z3_ HB.out GE719.out) hb);clear BK719;clear HB;have HO723:=n0_;have BK719:=n1_;have HB:=n2_;clear n0_ n1_ n2_;clear hb ho11))
    go_ret
    exact ⟨_,z7_,z8_ HO723.out,z3_ HB.out GE719.out⟩
   ·replace c9:=Bool.eq_false_iff.mpr c9
    subst c9
    have H1:((Y21.f kj2 l0_0 a1).bind fun t724=>(some t724))=some r:=by rw [if_neg (show ¬ (false=true) by decide)] at H;exact H
    clear H
    have H:=H1
    clear H1
    replace H:=bS H
    obtain ⟨t724,A120,H⟩:=H
    replace H:(some t724)=some r:=H
    have A12:=aM A120
    clear A120
    obtain rfl:=sI H
    have ⟨hcz13_0,hfz13_0⟩:=cz1_ BK719.out
    go_wp2_with (first | ((with_reducible refine gc_ 50 ?_);refine gl_ (some 16) Try.func50 #[.agg #[.slice A0_0 l0_0.length c0_0],.string a1] ?_;(with_reducible refine (Y21.calls kj2 _ _ l0_0 a1 t724 _ ?s1 ?s2 A12.out).mono ?_);(case s1=>repeat (first | exact (Kd.C_below HR0_0.out HB.out) | (with_reducible refine Kd.C_alloc ?_ _) | (with_reducible refine Kd.C_drewN ?_ _) | (with_reducible refine Kd.C_drew ?_)));(case s2=>exact HC0_0.out);rintro e w14 ⟨v725,rfl,ho0,hb⟩;refine ⟨_,rfl,?_⟩;have n0_:=aM (Kd.R_lower ho0 (below_size (z3_ HB.out GE719.out)));have n1_:=aM (blkB_ BK719.out hb);have n2_:=aM (below_step (z3_ HB.out GE719.out) hb);clear BK719;clear HB;have HO726:=n0_;have BK719:=n1_;have HB:=n2_;clear n0_ n1_ n2_;(try clear hb);(try clear ho0)))
    go_ret
    exact ⟨_,z7_,z8_ HO726.out,z3_ HB.out GE719.out⟩


/-! ### Y45: function 66 -/
def Y45.f (a0_0:Int) (a0_1:Int):Option (Int × Int):=some (a0_0,a0_1)
theorem Y45.calls (a0_0:Int) (a0_1:Int) (r1:Int) (r2:Int) (w:World) (h:Y45.f a0_0 a0_1=some (r1,r2)) :
  Calls Try.prog 66 #[.agg #[.int .i64 a0_0,.int .i64 a0_1]] w fun e w'=>e = .returned (.agg #[.int .i64 r1,.int .i64 r2])∧Below w.heap.size w w':=by
 have hu92:=Try.underlying92
 have hu30:=Try.underlying30
 have HB:=aM (Below.refl w.heap.size w)
 have H:(some (a0_0,a0_1))=some (r1,r2):=h
 clear h
 simp only [Option.some.injEq,Prod.mk.injEq] at H
 obtain ⟨rfl,rfl⟩:=H
 go_enter Try.func66,Try.ntmps66
 go_wp2_with (first | ((with_reducible refine gd_ 1 ?_);refine be_ 1 #[.int .i64 a0_0,.int .i64 a0_1] 92 ?_;intro gb727 hg w2 hbox hb;have n0_:=aM (below_step (z2_ HB.out) hb);have n1_:=aM (hbox);have n2_:=aM ((z6_ HB.out:w.heap.size≤gb727));have n3_:=aM ((z6_ HB.out:w.heap.size≤gb727));clear HB;have HB:=n0_;have BK727:=n1_;have GW727:=n2_;have GE727:=n3_;clear n0_ n1_ n2_ n3_;clear hb hbox hg) | ((with_reducible refine gd_ 2 ?_);refine be_ 2 #[.int .i64 0,.int .i64 0] 30 ?_;intro gb728 hg w3 hbox hb;have n0_:=aM (blkB_ BK727.out hb);have n1_:=aM (below_step (z3_ HB.out GE727.out) hb);have n2_:=aM (hbox);have n3_:=aM ((z12_ HB.out GE727.out:w.heap.size≤gb728));have n4_:=aM ((z12_ HB.out GE727.out:w.heap.size≤gb728));have n5_:=aM (neL_ BK727.out hg);have n6_:=aM (neG_ BK727.out hg);clear BK727;clear HB;have BK727:=n0_;have HB:=n1_;have BK728:=n2_;have GW728:=n3_;have GE728:=n4_;have NB727_728:=n5_;have NB728_727:=n6_;clear n0_ n1_ n2_ n3_ n4_ n5_ n6_;clear hb hbox hg) | ((with_reducible refine gd_ 3 ?_);refine be_ 3 #[.int .i64 0,.int .i64 0] 30 ?_;intro gb729 hg w4 hbox hb;have n0_:=aM (blkB_ BK727.out hb);have n1_:=aM (blkB_ BK728.out hb);have n2_:=aM (below_step (z5_ HB.out GE727.out GE728.out) hb);have n3_:=aM (hbox);have n4_:=aM ((z18_ HB.out GE727.out GE728.out:w.heap.size≤gb729));have n5_:=aM ((z18_ HB.out GE727.out GE728.out:w.heap.size≤gb729));have n6_:=aM (neL_ BK727.out hg);have n7_:=aM (neG_ BK727.out hg);have n8_:=aM (neL_ BK728.out hg);have n9_:=aM (neG_ BK728.out hg);clear BK727;clear BK728;clear HB;have BK727:=n0_;have BK728:=n1_;have HB:=n2_;have BK729:=n3_;have GW729:=n4_;have GE729:=n5_;have NB727_729:=n6_;have NB729_727:=n7_;have NB728_729:=n8_;have NB729_728:=n9_;clear n0_ n1_ n2_ n3_ n4_ n5_ n6_ n7_ n8_ n9_;clear hb hbox hg;have hnb5:=NB727_728.out;have hnc5:=NB728_727.out;have hnb6:=NB727_729.out;have hnc6:=NB729_727.out;have ⟨hcz7_0,hcz7_1,hfz7_0,hfz7_1⟩:=cz2_ BK727.out;have hnb8:=NB729_728.out;have hnc8:=NB728_729.out;have ⟨hcz9_0,hcz9_1,hfz9_0,hfz9_1⟩:=cz2_ BK729.out;have ⟨hcz10_0,hcz10_1,hfz10_0,hfz10_1⟩:=cz2_ BK728.out))
 refine bodyPost_ret (results_cell_row rfl _ _ gb728 30 #[.int .i64 a0_0,.int .i64 a0_1] (0,0) _ rfl (by (with_reducible repeat (first | refine blk_drewN ?_ _ | refine blk_drew ?_ | refine blk_alloc ?_ _));apply put2_;(with_reducible repeat (first | refine blk_drewN ?_ _ | refine blk_drew ?_ | refine blk_alloc ?_ _));refine blk_far ?_ NB728_729.out _;(with_reducible repeat (first | refine blk_drewN ?_ _ | refine blk_drew ?_ | refine blk_alloc ?_ _));refine blk_far ?_ NB728_729.out _;(with_reducible repeat (first | refine blk_drewN ?_ _ | refine blk_drew ?_ | refine blk_alloc ?_ _));exact BK728.out) Try.underlying30 rfl (by kernel_rfl)) rfl ?_
 exact ⟨z7_,z16_ HB.out GE727.out GE728.out GE729.out⟩


/-! ### Y19: function 26 -/
def Y19.l0:Nat→List (S92)→List (S30)→Int→Option ((List (S30)))
 | 0,_,_,_=>none
 | k+1,x0,x3,x4=>if x4<(x0.length:Int) then (if 0≤x4 then ((Y45.f ((rd_T92 x0 x4).f0) ((rd_T92 x0 x4).f1)).bind fun bt734=>(if x4<(x3.length:Int) then (Y19.l0 k x0 (x3.set (x4:Int).toNat (⟨bt734.1,bt734.2⟩:S30)) (wrap64 (x4+1))) else (none))) else (none)) else (some x3)
def Y19.f (k:Nat) (l0:List (S92)):Option ((List (S30))):=if 0≤(l0.length:Int) then (if ((l0.length:Int):Int).toNat≤17592186044416 then (Y19.l0 k l0 (List.replicate ((l0.length:Int):Int).toNat z30) 0) else (none)) else (none)
theorem Y19.mono_l:∀ k,(∀ y0 y1 y2,LeO (Y19.l0 k y0 y1 y2) (Y19.l0 (k+1) y0 y1 y2))
 | 0=>by intros <;> exact LeO.none _
 | k+1=>by
  have ih0:=Y19.mono_l k
  ·intros
   unfold Y19.l0
   exact mO
theorem Y19.mono:∀ a0 k,LeO (Y19.f k a0) (Y19.f (k+1) a0):=by
 intro a0 k
 have ih0:=Y19.mono_l k
 unfold Y19.f
 exact mO
theorem Y19.calls (k:Nat) (A0:Option Addr) (c0:Nat) (l0:List (S92)) (r:List (S30)) (w:World) (hr0:Kd.C k92 w A0 l0.length l0) (hc0:l0.length≤c0) (h:Y19.f k l0=some r) :
  Calls Try.prog 26 #[.slice A0 l0.length c0] w fun e w'=>∃ v0_:Value,e = .returned (v0_)∧Kd.R k30 30 w' w.heap.size (fun _=>True) v0_ r∧Below w.heap.size w w':=by
 have hu92:=Try.underlying92
 have hu30:=Try.underlying30
 have HR0:=aM hr0
 have HC0:=aM hc0
 clear hr0 hc0
 have HB:=aM (Below.refl w.heap.size w)
 have H:(if 0≤(l0.length:Int) then (if ((l0.length:Int):Int).toNat≤17592186044416 then (Y19.l0 k l0 (List.replicate ((l0.length:Int):Int).toNat z30) 0) else (none)) else (none))=some r:=h
 clear h
 by_cases c2:0≤(l0.length:Int)
 ·rw [if_pos c2] at H
  have c2b0:=eq_true c2
  have c2b1:decide (0≤(l0.length:Int))=true:=dE c2
  clear c2
  by_cases c3:((l0.length:Int):Int).toNat≤17592186044416
  ·rw [if_pos c3] at H
   have c3b0:=eq_true c3
   have c3b1:decide (((l0.length:Int):Int).toNat≤17592186044416)=true:=dE c3
   clear c3
   obtain ⟨y730,hy730⟩:∃ y_:List (S30),y_=(List.replicate ((l0.length:Int):Int).toNat z30):=⟨_,rfl⟩
   replace H:(Y19.l0 k l0 y730 0)=some r:=by first | (rw [hy730];with_reducible exact H) | (have H2_:=(Option.bind_some _ _).symm.trans H;rw [hy730];with_reducible exact H2_) | (have H2_:=(Option.bind_some _ _).symm.trans H;with_reducible exact H2_) | with_reducible exact H | (rw [hy730];exact H) | exact H
   have Ny730:=aM hy730
   clear hy730
   have H':=aM H
   clear H
   go_enter Try.func26,Try.ntmps26
   go_wp2_with (first | ((with_reducible refine gd_ 7 ?_);refine Kd.R_make k30 _ 30 rfl (N:=7) rfl 23 _ _ rfl (l0.length:Int) rfl rfl Try.underlying23 (.agg #[(.int .i64 0),(.int .i64 0)]) 16 info30 rfl (by decide) (by omega) z30 (ok:=fun _=>True) (okp:=fun _=>True) (k30_mkM _ _ _ z30 ) (fun _ hk=>hk) trivial (dT (z0_)) (Nat.le_trans (Nat.mul_le_mul_right _ (dT (z0_):(l0.length:Int).toNat≤17592186044416)) (by omega)) (Below.refl _ _) (Nat.le_refl _) ?_;intro v731 w4 ho5 hb hg_ hnew_;clear hg_ hnew_;(first | rw [← Ny730.out] at ho5 | (simp only [Int.reduceToNat] at ho5;rw [← Ny730.out] at ho5));have n0_:=aM (Kd.R_lower ho5 (below_size (z2_ HB.out)));have n1_:=aM (below_step (z2_ HB.out) hb);clear HB;have HO732:=n0_;have HB:=n1_;clear n0_ n1_;clear hb ho5))
   go_loopg [4] k (fun kq v4 w'=>∃ (x3_1:List (S30)) (x4_1:Int),v4 = .int .i64 x4_1∧Aside0 (Y19.l0 kq l0 x3_1 x4_1=some r)∧Aside0 (kq≤k)∧Aside0 (Kd.R k30 30 w' w.heap.size (fun _=>True) v731 x3_1)∧Aside0 (Below w.heap.size w w'))
   case atStart=>exact ⟨(y730),(0),(z1_),H',⟨Nat.le_refl _⟩,⟨z8_ HO732.out⟩,⟨z2_ HB.out⟩⟩
   case round =>
    clear H'
    try clear c2
    try clear c2b0
    try clear c2b1
    try clear p2
    try clear c3
    try clear c3b0
    try clear c3b1
    obtain ⟨x3_1,x4_1,rfl,HA,HK1,HO_3,HB⟩:=hrel
    cases gk with
    | zero=>exact absurd HA.out (by simp [Y19.l0])
    | succ k1 =>
     have H:=HA.out
     clear HA
     simp only [Y19.l0] at H
     by_cases c6:x4_1<(l0.length:Int)
     ·rw [if_pos c6] at H
      have c6b0:decide (x4_1<(l0.length:Int))=true:=dE c6
      clear c6
      by_cases c7:0≤x4_1
      ·rw [if_pos c7] at H
       have c7b0:decide (0≤x4_1)=true:=dE c7
       clear c7
       replace H:=bS H
       obtain ⟨⟨t734,t735⟩,A80,H⟩:=H
       replace H:(if x4_1<(x3_1.length:Int) then (Y19.l0 k1 l0 (x3_1.set (x4_1:Int).toNat (⟨t734,t735⟩:S30)) (wrap64 (x4_1+1))) else (none))=some r:=H
       have A8:=aM A80
       clear A80
       by_cases c9:x4_1<(x3_1.length:Int)
       ·rw [if_pos c9] at H
        have c9b0:decide (x4_1<(x3_1.length:Int))=true:=dE c9
        clear c9
        obtain ⟨y736,hy736⟩:∃ y_:List (S30),y_=(x3_1.set (x4_1:Int).toNat (⟨t734,t735⟩:S30)):=⟨_,rfl⟩
        replace H:(Y19.l0 k1 l0 y736 (wrap64 (x4_1+1)))=some r:=by first | (rw [hy736];with_reducible exact H) | (have H2_:=(Option.bind_some _ _).symm.trans H;rw [hy736];with_reducible exact H2_) | (have H2_:=(Option.bind_some _ _).symm.trans H;with_reducible exact H2_) | with_reducible exact H | (rw [hy736];exact H) | exact H
        have Ny736:=aM hy736
        clear hy736
        have H':=aM H
        clear H
        have p733:0≤(x4_1:Int):=dT (z0_)
        have q733:x4_1<(l0.length:Int):=dT (z0_)
        obtain ⟨ad733,e733,hx733_0,hx733_1⟩:=at_T92 HR0.out x4_1 p733 q733
        cases e733
        replace hx733_0:=(HB.out.cell (World.block_lt_of_cell? w _ hx733_0)).trans hx733_0
        replace hx733_1:=(HB.out.cell (World.block_lt_of_cell? w _ hx733_1)).trans hx733_1
        replace p733:=eq_true p733
        replace q733:=eq_true q733
        go_wp2_with (first | ((with_reducible refine gc_ 66 ?_);refine gl_ (some 20) Try.func66 #[.agg #[.int .i64 ((rd_T92 l0 x4_1).f0),.int .i64 ((rd_T92 l0 x4_1).f1)]] ?_;(with_reducible refine (Y45.calls ((rd_T92 l0 x4_1).f0) ((rd_T92 l0 x4_1).f1) t734 t735 _ A8.out).mono ?_);rintro e w11 ⟨rfl,hb⟩;refine ⟨_,rfl,?_⟩;have n0_:=aM (Kd.R_below (z8_ HO_3.out) hb);have n1_:=aM (below_step (z2_ HB.out) hb);clear HO_3;clear HB;have HO_3:=n0_;have HB:=n1_;clear n0_ n1_;(try clear hb);have p10:0≤(x4_1:Int):=dT (z0_);have q10:(x4_1:Int)<((x3_1.length:Int):Int):=dT (z0_);obtain ⟨go10,co10,eo10,gb10,gl10,cl10,HG10⟩:=Kd.R_form HO_3.out (by omega);(first | cases eo10 | (injection eo10 with ea_ en_ ec_;(first | subst ea_ | (injection ea_ with ea_;subst ea_));subst ec_;clear en_));have GB10:=aM gb10;have GG10:=aM HG10;clear gb10 gl10 HG10;obtain ⟨ce10,hcl10,hM10,hcc10,hfr10⟩:=Kd.R_elem HO_3.out z30 (x4_1:Int) p10 q10;obtain rfl:=k30_openM hM10;have hx10_0:w11.cell? ⟨go10,(x4_1:Int).toNat*2,none⟩=some (.int .i64 ((rd_T30 x3_1 x4_1).f0)):=hcc10 0 _ rfl;have hx10_1:w11.cell? ⟨go10,(x4_1:Int).toNat*2+1,none⟩=some (.int .i64 ((rd_T30 x3_1 x4_1).f1)):=hcc10 1 _ rfl;have hf10_0:w11.frozen? ⟨go10,(x4_1:Int).toNat*2,none⟩=false:=hfr10 0;have hf10_1:w11.frozen? ⟨go10,(x4_1:Int).toNat*2+1,none⟩=false:=hfr10 1;clear hcl10 hcc10 hfr10 hM10;replace p10:=eq_true p10;replace q10:=eq_true q10;have HX12:=aM (show Kd.R k30 30 w11 w.heap.size (fun _=>True) (.slice (some ⟨go10,0,none⟩) x3_1.length co10) x3_1 from (z8_ HO_3.out));obtain ⟨ce12,hcl12,hM12,hcc12,hfr12⟩:=Kd.R_elem HX12.out z30 (x4_1:Int) (dT (z0_)) (by have h_:(x4_1:Int)<((x3_1.length:Int):Int):=dT (by first | (with_reducible assumption) | assumption);first | exact h_ | (have e_:=(Kd.R_reads' HO_3.out).1;omega) | simpa using h_);obtain rfl:=k30_openM hM12;have HP12:=Kd.R_seg HX12.out (x4_1:Int) (dT (z0_)) (by have h_:(x4_1:Int)<((x3_1.length:Int):Int):=dT (by first | (with_reducible assumption) | assumption);first | exact h_ | (have e_:=(Kd.R_reads' HO_3.out).1;omega) | simpa using h_) (seg:=[.int .i64 t734,.int .i64 t735]) (j:=0) hcl12 hcc12 (show 2≤2 from by decide) (x':=(⟨t734,t735⟩:S30)) (k30_mkM _ _ _ (⟨t734,t735⟩:S30) ) (fun _ hk=>hk);have hx12_0:=hcc12 0 _ rfl;(try simp only [show (k30).sz=2 from rfl,Nat.mul_one,Nat.add_zero] at hx12_0);have hf12_0:=hfr12 0;(try simp only [show (k30).sz=2 from rfl,Nat.mul_one,Nat.add_zero] at hf12_0);have hx12_1:=hcc12 1 _ rfl;(try simp only [show (k30).sz=2 from rfl,Nat.mul_one,Nat.add_zero] at hx12_1);have hf12_1:=hfr12 1;(try simp only [show (k30).sz=2 from rfl,Nat.mul_one,Nat.add_zero] at hf12_1);clear hcl12 hcc12 hfr12 hM12) | ((with_reducible refine gate_store (t:=30) (p:=21) rfl ?_);refine store_event (t:=30) (p:=21) (v:=?vo_w13) (w1:=((w11.setCell ⟨go10,(x4_1:Int).toNat*2,none⟩ (.int .i64 t734)).setCell ⟨go10,(x4_1:Int).toNat*2+1,none⟩ (.int .i64 t735))) ?hg ?ho ?hn ?hr ?_;(case ho=>rfl);(case hg=>rfl);(case hn=>rfl);(case hr=>first | (go_simp;done) | (go_simp;rfl));intro w13 hw;have hg:w11.grownBy w13 (some go10):=(by rw [hw];exact HP12.2);have hp_:Kd.R k30 30 w13 w.heap.size (fun _=>True) (.slice (some ⟨go10,0,none⟩) x3_1.length co10) y736:=(by rw [hw,Ny736.out];exact HP12.1);clear HP12;have n0_:=aM (hp_);have n1_:=aM ((by rw [hw];exact below_set (below_set (HB.out) GB10.out) GB10.out:Below w.heap.size w w13));clear HO_3;clear HB;have HO_3:=n0_;have HB:=n1_;clear n0_ n1_;clear hg hw hp_))
        go_roundg k1
        case measure=>have:=HK1.out;omega
        case rel=>exact ⟨(y736),(wrap64 (x4_1+1)),(z1_),H',⟨by have:=HK1.out;omega⟩,⟨z8_ HO_3.out⟩,⟨z2_ HB.out⟩⟩
       ·rw [if_neg c9] at H
        exact nO H
      ·rw [if_neg c7] at H
       exact nO H
     ·rw [if_neg c6] at H
      have c6b0:decide (x4_1<(l0.length:Int))=false:=dF c6
      clear c6
      obtain rfl:=sI H
      go_wp2
      go_ret
      exact ⟨_,z7_,z8_ HO_3.out,z2_ HB.out⟩
  ·rw [if_neg c3] at H
   exact nO H
 ·rw [if_neg c2] at H
  exact nO H


/-! ### Y32: function 98 -/
def Y32.f (k:Nat) (a0_0:ByteArray) (l0_1:List (S92)):Option (ByteArray × (List (S30))):=(Y19.f k l0_1).bind fun t740=>(some (a0_0,t740))
theorem Y32.mono:∀ a0 a1 k,LeO (Y32.f k a0 a1) (Y32.f (k+1) a0 a1):=by
 intro a0 a1 k
 have m0:=@Y19.mono
 unfold Y32.f
 exact mO
theorem Y32.calls (k:Nat) (a0_0:ByteArray) (A0_1:Option Addr) (c0_1:Nat) (l0_1:List (S92)) (r1:ByteArray) (r2:List (S30)) (w:World) (hr0_1:Kd.C k92 w A0_1 l0_1.length l0_1) (hc0_1:l0_1.length≤c0_1) (h:Y32.f k a0_0 l0_1=some (r1,r2)) :
  Calls Try.prog 98 #[.agg #[.string a0_0,.slice A0_1 l0_1.length c0_1]] w fun e w'=>∃ v1_:Value,e = .returned (.agg #[.string r1,v1_])∧Kd.R k30 30 w' w.heap.size (fun _=>True) v1_ r2∧Below w.heap.size w w':=by
 have hu134:=Try.underlying134
 have hu111:=Try.underlying111
 have HR0_1:=aM hr0_1
 have HC0_1:=aM hc0_1
 clear hr0_1 hc0_1
 have HB:=aM (Below.refl w.heap.size w)
 have H:((Y19.f k l0_1).bind fun t740=>(some (a0_0,t740)))=some (r1,r2):=h
 clear h
 replace H:=bS H
 obtain ⟨t740,A20,H⟩:=H
 replace H:(some (a0_0,t740))=some (r1,r2):=H
 have A2:=aM A20
 clear A20
 simp only [Option.some.injEq,Prod.mk.injEq] at H
 obtain ⟨rfl,rfl⟩:=H
 go_enter Try.func98,Try.ntmps98
 go_wp2_with (first | ((with_reducible refine gd_ 1 ?_);refine be_ 1 #[.string a0_0,.slice A0_1 l0_1.length c0_1] 134 ?_;intro gb737 hg w3 hbox hb;have n0_:=aM (below_step (z2_ HB.out) hb);have n1_:=aM (hbox);have n2_:=aM ((z6_ HB.out:w.heap.size≤gb737));have n3_:=aM ((z6_ HB.out:w.heap.size≤gb737));clear HB;have HB:=n0_;have BK737:=n1_;have GW737:=n2_;have GE737:=n3_;clear n0_ n1_ n2_ n3_;clear hb hbox hg) | ((with_reducible refine gd_ 2 ?_);refine be_ 2 #[.string (⟨#[]⟩:ByteArray),.slice none 0 0] 111 ?_;intro gb738 hg w4 hbox hb;have n0_:=aM (blkB_ BK737.out hb);have n1_:=aM (below_step (z3_ HB.out GE737.out) hb);have n2_:=aM (hbox);have n3_:=aM ((z12_ HB.out GE737.out:w.heap.size≤gb738));have n4_:=aM ((z12_ HB.out GE737.out:w.heap.size≤gb738));have n5_:=aM (neL_ BK737.out hg);have n6_:=aM (neG_ BK737.out hg);clear BK737;clear HB;have BK737:=n0_;have HB:=n1_;have BK738:=n2_;have GW738:=n3_;have GE738:=n4_;have NB737_738:=n5_;have NB738_737:=n6_;clear n0_ n1_ n2_ n3_ n4_ n5_ n6_;clear hb hbox hg) | ((with_reducible refine gd_ 3 ?_);refine be_ 3 #[.string (⟨#[]⟩:ByteArray),.slice none 0 0] 111 ?_;intro gb739 hg w5 hbox hb;have n0_:=aM (blkB_ BK737.out hb);have n1_:=aM (blkB_ BK738.out hb);have n2_:=aM (below_step (z5_ HB.out GE737.out GE738.out) hb);have n3_:=aM (hbox);have n4_:=aM ((z18_ HB.out GE737.out GE738.out:w.heap.size≤gb739));have n5_:=aM ((z18_ HB.out GE737.out GE738.out:w.heap.size≤gb739));have n6_:=aM (neL_ BK737.out hg);have n7_:=aM (neG_ BK737.out hg);have n8_:=aM (neL_ BK738.out hg);have n9_:=aM (neG_ BK738.out hg);clear BK737;clear BK738;clear HB;have BK737:=n0_;have BK738:=n1_;have HB:=n2_;have BK739:=n3_;have GW739:=n4_;have GE739:=n5_;have NB737_739:=n6_;have NB739_737:=n7_;have NB738_739:=n8_;have NB739_738:=n9_;clear n0_ n1_ n2_ n3_ n4_ n5_ n6_ n7_ n8_ n9_;clear hb hbox hg;have hnb6:=NB737_738.out;have hnc6:=NB738_737.out;have hnb7:=NB737_739.out;have hnc7:=NB739_737.out;have ⟨hcz8_0,hcz8_1,hfz8_0,hfz8_1⟩:=cz2_ BK737.out;have hnb9:=NB739_738.out;have hnc9:=NB738_739.out;have ⟨hcz10_0,hcz10_1,hfz10_0,hfz10_1⟩:=cz2_ BK739.out) | ((with_reducible refine gc_ 26 ?_);refine gl_ (some 9) Try.func26 #[.slice A0_1 l0_1.length c0_1] ?_;(with_reducible refine (Y19.calls k _ _ l0_1 t740 _ ?s1 ?s2 A2.out).mono ?_);(case s1=>exact Kd.C_below HR0_1.out (z16_ HB.out GE737.out GE738.out GE739.out));(case s2=>exact HC0_1.out);rintro e w11 ⟨v741,rfl,ho0,hb⟩;refine ⟨_,rfl,?_⟩;have n0_:=aM (Kd.R_lower ho0 (below_size (z16_ HB.out GE737.out GE738.out GE739.out)));have n1_:=aM (blk_below (g:=gb737) (o:=.cells #[.string a0_0,.slice A0_1 l0_1.length c0_1] 134 (0,0)) (z21_ NB737_739.out BK737.out) hb);have n2_:=aM (blk_below (g:=gb738) (o:=.cells #[.string (⟨#[]⟩:ByteArray),.slice none 0 0] 111 (0,0)) (z21_ NB738_739.out BK738.out) hb);have n3_:=aM (blk_below (g:=gb739) (o:=.cells #[.string a0_0,.slice none 0 0] 111 (0,0)) (by (with_reducible repeat (first | refine blk_drewN ?_ _ | refine blk_drew ?_ | refine blk_alloc ?_ _));refine blk_put (cs:=#[.string (⟨#[]⟩:ByteArray),.slice none 0 0]) ?_ 0 _ rfl;(with_reducible repeat (first | refine blk_drewN ?_ _ | refine blk_drew ?_ | refine blk_alloc ?_ _));exact BK739.out) hb);have n4_:=aM (below_step (z16_ HB.out GE737.out GE738.out GE739.out) hb);clear BK737;clear BK738;clear BK739;clear HB;have HO742:=n0_;have BK737:=n1_;have BK738:=n2_;have BK739:=n3_;have HB:=n4_;clear n0_ n1_ n2_ n3_ n4_;(try clear hb);(try clear ho0);obtain ⟨Ao12,co12,eo12⟩:=Kd.R_slice HO742.out;subst eo12;have ⟨hcz13_0,hcz13_1,hfz13_0,hfz13_1⟩:=cz2_ BK739.out;have ⟨hcz14_0,hcz14_1,hfz14_0,hfz14_1⟩:=cz2_ BK738.out))
 refine bodyPost_ret (results_cell_row rfl _ _ gb738 111 #[.string a0_0,.slice Ao12 t740.length co12] (0,0) _ rfl (by (with_reducible repeat (first | refine blk_drewN ?_ _ | refine blk_drew ?_ | refine blk_alloc ?_ _));apply put2_;(with_reducible repeat (first | refine blk_drewN ?_ _ | refine blk_drew ?_ | refine blk_alloc ?_ _));refine blk_far ?_ NB738_739.out _;(with_reducible repeat (first | refine blk_drewN ?_ _ | refine blk_drew ?_ | refine blk_alloc ?_ _));exact BK738.out) Try.underlying111 rfl (by kernel_rfl)) rfl ?_
 exact ⟨_,z7_,by (with_reducible repeat (first | apply Kd.R_alloc | apply Kd.R_drewN | apply Kd.R_drew));exact Kd.R_mono (rf2_ (Kd.R_far (p:=⟨gb739,1,none⟩) (Kd.R_types (Kd.R_types HO742.out BK739.out (by decide)) BK738.out (by decide)) (fun _ hk=>hk.1.2) (.slice Ao12 t740.length co12)) (fun _ hk=>hk.2)) (fun _ hk=>trivial),z16_ HB.out GE737.out GE738.out GE739.out⟩


/-! ### Y17: function 51 -/
def Y17.l0:Nat→List (S134)→List (S111)→Int→Option ((List (S111)))
 | 0,_,_,_=>none
 | k+1,x0,x3,x4=>if x4<(x0.length:Int) then (if 0≤x4 then ((Y32.f k ((rd_T134 x0 x4).f0) ((rd_T134 x0 x4).f1)).bind fun bt747=>(if x4<(x3.length:Int) then (Y17.l0 k x0 (x3.set (x4:Int).toNat (⟨bt747.1,bt747.2⟩:S111)) (wrap64 (x4+1))) else (none))) else (none)) else (some x3)
def Y17.f (k:Nat) (l0:List (S134)):Option ((List (S111))):=if 0≤(l0.length:Int) then (if ((l0.length:Int):Int).toNat≤7036874417766 then (Y17.l0 k l0 (List.replicate ((l0.length:Int):Int).toNat z111) 0) else (none)) else (none)
theorem Y17.mono_l:∀ k,(∀ y0 y1 y2,LeO (Y17.l0 k y0 y1 y2) (Y17.l0 (k+1) y0 y1 y2))
 | 0=>by intros <;> exact LeO.none _
 | k+1=>by
  have ih0:=Y17.mono_l k
  have m0:=@Y32.mono
  ·intros
   unfold Y17.l0
   exact mO
theorem Y17.mono:∀ a0 k,LeO (Y17.f k a0) (Y17.f (k+1) a0):=by
 intro a0 k
 have m0:=@Y32.mono
 have ih0:=Y17.mono_l k
 unfold Y17.f
 exact mO
theorem Y17.calls (k:Nat) (A0:Option Addr) (c0:Nat) (l0:List (S134)) (r:List (S111)) (w:World) (hr0:Kd.C k134 w A0 l0.length l0) (hc0:l0.length≤c0) (h:Y17.f k l0=some r) :
  Calls Try.prog 51 #[.slice A0 l0.length c0] w fun e w'=>∃ v0_:Value,e = .returned (v0_)∧Kd.S k111 111 w' w.heap.size (fun _=>True) v0_ r∧Below w.heap.size w w':=by
 have hu134:=Try.underlying134
 have hu111:=Try.underlying111
 have HR0:=aM hr0
 have HC0:=aM hc0
 clear hr0 hc0
 have HB:=aM (Below.refl w.heap.size w)
 have H:(if 0≤(l0.length:Int) then (if ((l0.length:Int):Int).toNat≤7036874417766 then (Y17.l0 k l0 (List.replicate ((l0.length:Int):Int).toNat z111) 0) else (none)) else (none))=some r:=h
 clear h
 by_cases c2:0≤(l0.length:Int)
 ·rw [if_pos c2] at H
  have c2b0:=eq_true c2
  have c2b1:decide (0≤(l0.length:Int))=true:=dE c2
  clear c2
  by_cases c3:((l0.length:Int):Int).toNat≤7036874417766
  ·rw [if_pos c3] at H
   have c3b0:=eq_true c3
   have c3b1:decide (((l0.length:Int):Int).toNat≤7036874417766)=true:=dE c3
   clear c3
   obtain ⟨y743,hy743⟩:∃ y_:List (S111),y_=(List.replicate ((l0.length:Int):Int).toNat z111):=⟨_,rfl⟩
   replace H:(Y17.l0 k l0 y743 0)=some r:=by first | (rw [hy743];with_reducible exact H) | (have H2_:=(Option.bind_some _ _).symm.trans H;rw [hy743];with_reducible exact H2_) | (have H2_:=(Option.bind_some _ _).symm.trans H;with_reducible exact H2_) | with_reducible exact H | (rw [hy743];exact H) | exact H
   have Ny743:=aM hy743
   clear hy743
   have H':=aM H
   clear H
   go_enter Try.func51,Try.ntmps51
   go_wp2_with (first | ((with_reducible refine gd_ 7 ?_);refine Kd.S_make k111 _ 111 rfl (N:=7) rfl 45 _ _ rfl (l0.length:Int) rfl rfl Try.underlying45 (.agg #[(.string ⟨#[]⟩),(.slice none 0 0)]) 40 info111 rfl (by decide) (by omega) z111 (ok:=fun _=>True) (okp:=fun _=>True) (k111_mkM _ _ _ z111 (Kd.R_nil _ _ _ _ _)) (fun _ hk=>hk) trivial (dT (z0_)) (Nat.le_trans (Nat.mul_le_mul_right _ (dT (z0_):(l0.length:Int).toNat≤7036874417766)) (by omega)) (Below.refl _ _) (Nat.le_refl _) ?_;intro v744 w4 ho5 hb hg_ hnew_;clear hg_ hnew_;(first | rw [← Ny743.out] at ho5 | (simp only [Int.reduceToNat] at ho5;rw [← Ny743.out] at ho5));have n0_:=aM (Kd.S_lower ho5 (below_size (z2_ HB.out)));have n1_:=aM (below_step (z2_ HB.out) hb);clear HB;have HO745:=n0_;have HB:=n1_;clear n0_ n1_;clear hb ho5))
   go_loopg [4] k (fun kq v4 w'=>∃ (x3_1:List (S111)) (x4_1:Int),v4 = .int .i64 x4_1∧Aside0 (Y17.l0 kq l0 x3_1 x4_1=some r)∧Aside0 (kq≤k)∧Aside0 (Kd.S k111 111 w' w.heap.size (fun _=>True) v744 x3_1)∧Aside0 (Below w.heap.size w w'))
   case atStart=>exact ⟨(y743),(0),(z1_),H',⟨Nat.le_refl _⟩,⟨z9_ HO745.out⟩,⟨z2_ HB.out⟩⟩
   case round =>
    clear H'
    try clear c2
    try clear c2b0
    try clear c2b1
    try clear p2
    try clear c3
    try clear c3b0
    try clear c3b1
    try clear c5
    obtain ⟨x3_1,x4_1,rfl,HA,HK1,HO_3,HB⟩:=hrel
    cases gk with
    | zero=>exact absurd HA.out (by simp [Y17.l0])
    | succ k1 =>
     have H:=HA.out
     clear HA
     simp only [Y17.l0] at H
     by_cases c6:x4_1<(l0.length:Int)
     ·rw [if_pos c6] at H
      have c6b0:decide (x4_1<(l0.length:Int))=true:=dE c6
      clear c6
      by_cases c7:0≤x4_1
      ·rw [if_pos c7] at H
       have c7b0:decide (0≤x4_1)=true:=dE c7
       clear c7
       replace H:=bS H
       obtain ⟨⟨t747,t748⟩,A80,H⟩:=H
       replace H:(if x4_1<(x3_1.length:Int) then (Y17.l0 k1 l0 (x3_1.set (x4_1:Int).toNat (⟨t747,t748⟩:S111)) (wrap64 (x4_1+1))) else (none))=some r:=H
       have A8:=aM A80
       clear A80
       by_cases c9:x4_1<(x3_1.length:Int)
       ·rw [if_pos c9] at H
        have c9b0:decide (x4_1<(x3_1.length:Int))=true:=dE c9
        clear c9
        obtain ⟨y751,hy751⟩:∃ y_:List (S111),y_=(x3_1.set (x4_1:Int).toNat (⟨t747,t748⟩:S111)):=⟨_,rfl⟩
        replace H:(Y17.l0 k1 l0 y751 (wrap64 (x4_1+1)))=some r:=by first | (rw [hy751];with_reducible exact H) | (have H2_:=(Option.bind_some _ _).symm.trans H;rw [hy751];with_reducible exact H2_) | (have H2_:=(Option.bind_some _ _).symm.trans H;with_reducible exact H2_) | with_reducible exact H | (rw [hy751];exact H) | exact H
        have Ny751:=aM hy751
        clear hy751
        have H':=aM H
        clear H
        have p746:0≤(x4_1:Int):=dT (z0_)
        have q746:x4_1<(l0.length:Int):=dT (z0_)
        obtain ⟨ad746,A746_1,c746_1,e746,hx746_0,hx746_1,hl746_1,hi746_1⟩:=at_T134 HR0.out x4_1 p746 q746
        cases e746
        replace hx746_0:=(HB.out.cell (World.block_lt_of_cell? w _ hx746_0)).trans hx746_0
        replace hx746_1:=(HB.out.cell (World.block_lt_of_cell? w _ hx746_1)).trans hx746_1
        have HR746_1:=aM hi746_1
        have HC746_1:=aM hl746_1
        clear hi746_1 hl746_1
        replace p746:=eq_true p746
        replace q746:=eq_true q746
        go_wp2_with (first | ((with_reducible refine gc_ 98 ?_);refine gl_ (some 20) Try.func98 #[.agg #[.string ((rd_T134 l0 x4_1).f0),.slice A746_1 ((rd_T134 l0 x4_1).f1).length c746_1]] ?_;(with_reducible refine (Y32.calls k1 ((rd_T134 l0 x4_1).f0) _ _ ((rd_T134 l0 x4_1).f1) t747 t748 _ ?s1 ?s2 A8.out).mono ?_);(case s1=>repeat (first | exact (Kd.C_below HR746_1.out HB.out) | (with_reducible refine Kd.C_alloc ?_ _) | (with_reducible refine Kd.C_drewN ?_ _) | (with_reducible refine Kd.C_drew ?_)));(case s2=>exact HC746_1.out);rintro e w11 ⟨v749,rfl,ho0,hb⟩;refine ⟨_,rfl,?_⟩;have n0_:=aM (Kd.S_elder' (z9_ HO_3.out) (Kd.R_base ho0) hb);have n1_:=aM (Kd.R_lower ho0 (below_size (z2_ HB.out)));have n2_:=aM (below_step (z2_ HB.out) hb);clear HO_3;clear HB;have HO_3:=n0_;have HO750:=n1_;have HB:=n2_;clear n0_ n1_ n2_;(try clear hb);(try clear ho0);have p10:0≤(x4_1:Int):=dT (z0_);have q10:(x4_1:Int)<((x3_1.length:Int):Int):=dT (z0_);obtain ⟨go10,co10,eo10,gb10,gl10,cl10,HG10⟩:=Kd.S_form HO_3.out (by omega);(first | cases eo10 | (injection eo10 with ea_ en_ ec_;(first | subst ea_ | (injection ea_ with ea_;subst ea_));subst ec_;clear en_));have GB10:=aM gb10;have GG10:=aM HG10;clear gb10 gl10 HG10;obtain ⟨_,ce10,hcl10,hM10,hcc10,hfr10,_,_⟩:=Kd.S_elem HO_3.out z111 (x4_1:Int) p10 q10;obtain ⟨ve10_1,rfl,ge10_1⟩:=k111_openM hM10;have hx10_0:w11.cell? ⟨go10,(x4_1:Int).toNat*2,none⟩=some (.string ((rd_T111 x3_1 x4_1).f0)):=hcc10 0 _ rfl;have hx10_1:w11.cell? ⟨go10,(x4_1:Int).toNat*2+1,none⟩=some (ve10_1):=hcc10 1 _ rfl;have hf10_0:w11.frozen? ⟨go10,(x4_1:Int).toNat*2,none⟩=false:=hfr10 0;have hf10_1:w11.frozen? ⟨go10,(x4_1:Int).toNat*2+1,none⟩=false:=hfr10 1;clear hcl10 hcc10 hfr10 hM10;replace p10:=eq_true p10;replace q10:=eq_true q10;obtain ⟨Ao12,co12,eo12⟩:=Kd.R_slice HO750.out;subst eo12;have n_:=aM (Kd.S_mono (ok':=(fun k_=>some k_≠(.slice Ao12 t748.length co12:Value).ownBlock)) HO_3.out (fun k_ hk=>hk.2));clear HO_3;have HO_3:=n_;clear n_;have HX13:=aM (show Kd.S k111 111 w11 w.heap.size (fun k_=>((fun _=>True)) k_∧¬ ((fun k_=>some k_=(.slice Ao12 t748.length co12:Value).ownBlock)) k_) (.slice (some ⟨go10,0,none⟩) x3_1.length co10) x3_1 from (by (with_reducible repeat (first | apply Kd.S_alloc | apply Kd.S_drewN | apply Kd.S_drew));exact Kd.S_mono HO_3.out (fun k_ hk=>⟨trivial,fun e_=>hk e_⟩)));obtain ⟨oki13,ce13,hcl13,hM13,hcc13,hfr13,hoki13,hH13⟩:=Kd.S_elem HX13.out z111 (x4_1:Int) (dT (z0_)) (by have h_:(x4_1:Int)<((x3_1.length:Int):Int):=dT (by first | (with_reducible assumption) | assumption);first | exact h_ | (have e_:=(Kd.S_reads' HO_3.out).1;omega) | simpa using h_);obtain ⟨ve13_1,rfl,ge13_1⟩:=k111_openM hM13;have HP13:=Kd.S_seg hH13 (dT (z0_)) (by have h_:(x4_1:Int)<((x3_1.length:Int):Int):=dT (by first | (with_reducible assumption) | assumption);first | exact h_ | (have e_:=(Kd.S_reads' HO_3.out).1;omega) | simpa using h_) (seg:=[.string t747,.slice Ao12 t748.length co12]) (j:=0) (show 2≤2 from by decide) (x':=(⟨t747,t748⟩:S111)) (k111_mkM _ _ _ (⟨t747,t748⟩:S111) (Kd.R_mono (Kd.R_tight rfl (Kd.R_mono (ok':=fun k_=>((fun _=>True)) k_∧k_≠go10) (Kd.R_apart' (HO750.out) (Kd.S_typed HO_3.out) (by decide)) (fun k_ hk=>⟨trivial,fun e_=>(hk.2) (by rw [e_];rfl)⟩))) (fun _ h_=>Or.inr (h_)))) (fun _ hk=>hk) (fun k_ hk_=>((Kd.R_mono (ok':=fun k_=>((fun _=>True)) k_∧k_≠go10) (Kd.R_apart' (HO750.out) (Kd.S_typed HO_3.out) (by decide)) (fun k_ hk=>⟨trivial,fun e_=>(hk.2) (by rw [e_];rfl)⟩))).1 k_ hk_.symm);have hx13_0:=hcc13 0 _ rfl;(try simp only [show (k111).sz=2 from rfl,Nat.mul_one,Nat.add_zero] at hx13_0);have hf13_0:=hfr13 0;(try simp only [show (k111).sz=2 from rfl,Nat.mul_one,Nat.add_zero] at hf13_0);have hx13_1:=hcc13 1 _ rfl;(try simp only [show (k111).sz=2 from rfl,Nat.mul_one,Nat.add_zero] at hx13_1);have hf13_1:=hfr13 1;(try simp only [show (k111).sz=2 from rfl,Nat.mul_one,Nat.add_zero] at hf13_1);clear hcl13 hcc13 hfr13 hM13 hoki13 hH13) | ((with_reducible refine gate_store (t:=111) (p:=21) rfl ?_);refine store_event (t:=111) (p:=21) (v:=?vo_w14) (w1:=((w11.setCell ⟨go10,(x4_1:Int).toNat*2,none⟩ (.string t747)).setCell ⟨go10,(x4_1:Int).toNat*2+1,none⟩ (.slice Ao12 t748.length co12))) ?hg ?ho ?hn ?hr ?_;(case ho=>rfl);(case hg=>rfl);(case hn=>rfl);(case hr=>first | (go_simp;done) | (go_simp;rfl));intro w14 hw;have hg:w11.grownBy w14 (some go10):=(by rw [hw];exact HP13.2);have hp_:Kd.S k111 111 w14 w.heap.size (fun _=>True) (.slice (some ⟨go10,0,none⟩) x3_1.length co10) y751:=(by rw [hw,Ny751.out];exact HP13.1);clear HP13;have n0_:=aM (hp_);have n1_:=aM ((by rw [hw];exact below_set (below_set (HB.out) GB10.out) GB10.out:Below w.heap.size w w14));clear HO_3;clear HB;clear HO750;have HO_3:=n0_;have HB:=n1_;clear n0_ n1_;clear hg hw hp_))
        go_roundg k1
        case measure=>have:=HK1.out;omega
        case rel=>exact ⟨(y751),(wrap64 (x4_1+1)),(z1_),H',⟨by have:=HK1.out;omega⟩,⟨z9_ HO_3.out⟩,⟨z2_ HB.out⟩⟩
       ·rw [if_neg c9] at H
        exact nO H
      ·rw [if_neg c7] at H
       exact nO H
     ·rw [if_neg c6] at H
      have c6b0:decide (x4_1<(l0.length:Int))=false:=dF c6
      clear c6
      obtain rfl:=sI H
      go_wp2
      go_ret
      exact ⟨_,z7_,z9_ HO_3.out,z2_ HB.out⟩
  ·rw [if_neg c3] at H
   exact nO H
 ·rw [if_neg c2] at H
  exact nO H


/-! ### Y12: function 15 -/
def Y12.f (k:Nat) (l0_0:List (S134)):Option ((List (S111))):=(Y17.f k l0_0).bind fun t755=>(some t755)
theorem Y12.mono:∀ a0 k,LeO (Y12.f k a0) (Y12.f (k+1) a0):=by
 intro a0 k
 have m0:=@Y17.mono
 unfold Y12.f
 exact mO
theorem Y12.calls (k:Nat) (A0_0:Option Addr) (c0_0:Nat) (l0_0:List (S134)) (r:List (S111)) (w:World) (hr0_0:Kd.C k134 w A0_0 l0_0.length l0_0) (hc0_0:l0_0.length≤c0_0) (h:Y12.f k l0_0=some r) :
  Calls Try.prog 15 #[.agg #[.slice A0_0 l0_0.length c0_0]] w fun e w'=>∃ v0_:Value,e = .returned (.agg #[v0_])∧Kd.S k111 111 w' w.heap.size (fun _=>True) v0_ r∧Below w.heap.size w w':=by
 have hu42:=Try.underlying42
 have hu47:=Try.underlying47
 have HR0_0:=aM hr0_0
 have HC0_0:=aM hc0_0
 clear hr0_0 hc0_0
 have HB:=aM (Below.refl w.heap.size w)
 have H:((Y17.f k l0_0).bind fun t755=>(some t755))=some r:=h
 clear h
 replace H:=bS H
 obtain ⟨t755,A20,H⟩:=H
 replace H:(some t755)=some r:=H
 have A2:=aM A20
 clear A20
 obtain rfl:=sI H
 go_enter Try.func15,Try.ntmps15
 go_wp2_with (first | ((with_reducible refine gd_ 1 ?_);refine be_ 1 #[.slice A0_0 l0_0.length c0_0] 42 ?_;intro gb752 hg w3 hbox hb;have n0_:=aM (below_step (z2_ HB.out) hb);have n1_:=aM (hbox);have n2_:=aM ((z6_ HB.out:w.heap.size≤gb752));have n3_:=aM ((z6_ HB.out:w.heap.size≤gb752));clear HB;have HB:=n0_;have BK752:=n1_;have GW752:=n2_;have GE752:=n3_;clear n0_ n1_ n2_ n3_;clear hb hbox hg) | ((with_reducible refine gd_ 2 ?_);refine be_ 2 #[.slice none 0 0] 47 ?_;intro gb753 hg w4 hbox hb;have n0_:=aM (blkB_ BK752.out hb);have n1_:=aM (below_step (z3_ HB.out GE752.out) hb);have n2_:=aM (hbox);have n3_:=aM ((z12_ HB.out GE752.out:w.heap.size≤gb753));have n4_:=aM ((z12_ HB.out GE752.out:w.heap.size≤gb753));have n5_:=aM (neL_ BK752.out hg);have n6_:=aM (neG_ BK752.out hg);clear BK752;clear HB;have BK752:=n0_;have HB:=n1_;have BK753:=n2_;have GW753:=n3_;have GE753:=n4_;have NB752_753:=n5_;have NB753_752:=n6_;clear n0_ n1_ n2_ n3_ n4_ n5_ n6_;clear hb hbox hg) | ((with_reducible refine gd_ 3 ?_);refine be_ 3 #[.slice none 0 0] 47 ?_;intro gb754 hg w5 hbox hb;have n0_:=aM (blkB_ BK752.out hb);have n1_:=aM (blkB_ BK753.out hb);have n2_:=aM (below_step (z5_ HB.out GE752.out GE753.out) hb);have n3_:=aM (hbox);have n4_:=aM ((z18_ HB.out GE752.out GE753.out:w.heap.size≤gb754));have n5_:=aM ((z18_ HB.out GE752.out GE753.out:w.heap.size≤gb754));have n6_:=aM (neL_ BK752.out hg);have n7_:=aM (neG_ BK752.out hg);have n8_:=aM (neL_ BK753.out hg);have n9_:=aM (neG_ BK753.out hg);clear BK752;clear BK753;clear HB;have BK752:=n0_;have BK753:=n1_;have HB:=n2_;have BK754:=n3_;have GW754:=n4_;have GE754:=n5_;have NB752_754:=n6_;have NB754_752:=n7_;have NB753_754:=n8_;have NB754_753:=n9_;clear n0_ n1_ n2_ n3_ n4_ n5_ n6_ n7_ n8_ n9_;clear hb hbox hg;have hnb6:=NB752_753.out;have hnc6:=NB753_752.out;have hnb7:=NB752_754.out;have hnc7:=NB754_752.out;have ⟨hcz8_0,hfz8_0⟩:=cz1_ BK752.out) | ((with_reducible refine gc_ 51 ?_);refine gl_ (some 6) Try.func51 #[.slice A0_0 l0_0.length c0_0] ?_;(with_reducible refine (Y17.calls k _ _ l0_0 t755 _ ?s1 ?s2 A2.out).mono ?_);(case s1=>repeat (first | exact (Kd.C_below HR0_0.out HB.out) | (with_reducible refine Kd.C_alloc ?_ _) | (with_reducible refine Kd.C_drewN ?_ _) | (with_reducible refine Kd.C_drew ?_)));(case s2=>exact HC0_0.out);rintro e w9 ⟨v756,rfl,ho0,hb⟩;refine ⟨_,rfl,?_⟩;have n0_:=aM (Kd.S_lower ho0 (below_size (z16_ HB.out GE752.out GE753.out GE754.out)));have n1_:=aM (blkB_ BK752.out hb);have n2_:=aM (blkB_ BK753.out hb);have n3_:=aM (blkB_ BK754.out hb);have n4_:=aM (below_step (z16_ HB.out GE752.out GE753.out GE754.out) hb);clear BK752;clear BK753;clear BK754;clear HB;have HO757:=n0_;have BK752:=n1_;have BK753:=n2_;have BK754:=n3_;have HB:=n4_;clear n0_ n1_ n2_ n3_ n4_;(try clear hb);(try clear ho0);obtain ⟨Ao10,co10,eo10⟩:=Kd.S_slice HO757.out;subst eo10;have hnb11:=NB754_753.out;have hnc11:=NB753_754.out;have ⟨hcz12_0,hfz12_0⟩:=cz1_ BK754.out;have ⟨hcz13_0,hfz13_0⟩:=cz1_ BK753.out))
 refine bodyPost_ret (results_cell_row rfl _ _ gb753 47 #[.slice Ao10 t755.length co10] (0,0) _ rfl (by (with_reducible repeat (first | refine blk_drewN ?_ _ | refine blk_drew ?_ | refine blk_alloc ?_ _));refine blk_put (cs:=#[.slice none 0 0]) ?_ 0 _ rfl;(with_reducible repeat (first | refine blk_drewN ?_ _ | refine blk_drew ?_ | refine blk_alloc ?_ _));refine blk_far ?_ NB753_754.out _;(with_reducible repeat (first | refine blk_drewN ?_ _ | refine blk_drew ?_ | refine blk_alloc ?_ _));exact BK753.out) Try.underlying47 rfl (by kernel_rfl)) rfl ?_
 exact ⟨_,z7_,by (with_reducible repeat (first | apply Kd.S_alloc | apply Kd.S_drewN | apply Kd.S_drew));exact Kd.S_mono (Kd.S_far (p:=⟨gb753,0,none⟩) (Kd.S_far (p:=⟨gb754,0,none⟩) (Kd.S_types (Kd.S_types HO757.out BK754.out (by decide)) BK753.out (by decide)) (fun _ hk=>hk.1.2) (.slice Ao10 t755.length co10)) (fun _ hk=>hk.2) (.slice Ao10 t755.length co10)) (fun _ hk=>trivial),z16_ HB.out GE752.out GE753.out GE754.out⟩


/-! ### Y38: function 100 -/
def Y38.f (a0:ByteArray):Option (Bool):=some (decide ((a0.size:Int)>8000))
theorem Y38.calls (a0:ByteArray) (r:Bool) (w:World) (h:Y38.f a0=some r) :
  Calls Try.prog 100 #[.string a0] w fun e w'=>e = .returned (.bool r)∧Drawn0 w w':=by
 have H:(some (decide ((a0.size:Int)>8000)))=some r:=h
 clear h
 obtain rfl:=sI H
 go_enter Try.func100,Try.ntmps100
 go_wp2
 go_ret
 exact ⟨z1_,z4_⟩


/-! ### Y5: function 121 -/
def Y5.l0:Nat→List ByteArray→Int→Int→Option (Int)
 | 0,_,_,_=>none
 | k+1,x0,x7,x8=>if x8<x7 then (if 0≤x8 then (if x8<(x0.length:Int) then ((Y38.f (rdOf ByteArray.empty x0 x8)).bind fun t767=>(if t767=true then (some x8) else (Y5.l0 k x0 x7 (wrap64 (x8+1))))) else (none)) else (none)) else (some (-1))
def Y5.f (k:Nat) (l0:List ByteArray)  : Option (Int):=Y5.l0 k l0 (l0.length:Int) 0
theorem Y5.mono_l:∀ k,(∀ y0 y1 y2,LeO (Y5.l0 k y0 y1 y2) (Y5.l0 (k+1) y0 y1 y2))
 | 0=>by intros <;> exact LeO.none _
 | k+1=>by
  have ih0:=Y5.mono_l k
  ·intros
   unfold Y5.l0
   exact mO
theorem Y5.mono:∀ a0 k,LeO (Y5.f k a0) (Y5.f (k+1) a0):=by
 intro a0 k
 have ih0:=Y5.mono_l k
 unfold Y5.f
 exact mO
theorem Y5.calls (k:Nat) (A0:Option Addr) (c0:Nat) (l0:List ByteArray)  (r:Int) (w:World) (hr0:Kd.C Kd.string w A0 l0.length l0) (hc0:l0.length≤c0) (h:Y5.f k l0=some r) :
  Calls Try.prog 121 #[.slice A0 l0.length c0,.func (.func 100) #[] #[]] w fun e w'=>e = .returned (.int .i64 r)∧Drawn0 w w':=by
 have HR0:=aM hr0
 have HC0:=aM hc0
 clear hr0 hc0
 have H:(Y5.l0 k l0 (l0.length:Int) 0)=some r:=h
 clear h
 have H':=aM H
 clear H
 go_enter Try.func121,Try.ntmps121
 go_wp2
 go_loopg [8] k (fun kq v8 w'=>∃ (x8_1:Int),v8 = .int .i64 x8_1∧Aside0 (Y5.l0 kq l0 (l0.length:Int) x8_1=some r)∧Aside0 (kq≤k)∧Drawn0 w w')
 case atStart=>exact ⟨(0),(z1_),H',⟨Nat.le_refl _⟩,z4_⟩
 case round =>
  clear H'
  try clear p2
  obtain ⟨x8_1,rfl,HA,HK1,⟨m1,rfl⟩⟩:=hrel
  cases gk with
  | zero=>exact absurd HA.out (by simp [Y5.l0])
  | succ k1 =>
   have H:=HA.out
   clear HA
   simp only [Y5.l0] at H
   by_cases c3:x8_1<(l0.length:Int)
   ·rw [if_pos c3] at H
    have c3b0:decide (x8_1<(l0.length:Int))=true:=dE c3
    clear c3
    by_cases c4:0≤x8_1
    ·rw [if_pos c4] at H
     have c4b0:decide (0≤x8_1)=true:=dE c4
     clear c4
     by_cases c5:x8_1<(l0.length:Int)
     ·rw [if_pos c5] at H
      have c5b0:decide (x8_1<(l0.length:Int))=true:=dE c5
      clear c5
      replace H:=bS H
      obtain ⟨t767,A60,H⟩:=H
      replace H:(if t767=true then (some x8_1) else (Y5.l0 k1 l0 (l0.length:Int) (wrap64 (x8_1+1))))=some r:=H
      have A6:=aM A60
      clear A60
      by_cases c7:t767=true
      ·subst c7
       have H1:(some x8_1)=some r:=by rw [if_pos rfl] at H;exact H
       clear H
       have H:=H1
       clear H1
       obtain rfl:=sI H
       have p766:0≤(x8_1:Int):=dT (z0_)
       have q766:x8_1<(l0.length:Int):=dT (z0_)
       obtain ⟨ad766,e766,hx766_0⟩:=Kd.at_string HR0.out x8_1 p766 q766
       cases e766
       replace p766:=eq_true p766
       replace q766:=eq_true q766
       go_wp2_with (first | (go_at_call 100;(with_reducible refine (Y38.calls (rdOf ByteArray.empty l0 x8_1) true _ A6.out).mono ?_);rintro e w' ⟨rfl,⟨nd,rfl⟩⟩))
       go_ret
       exact ⟨z1_,z4_⟩
      ·replace c7:=Bool.eq_false_iff.mpr c7
       subst c7
       have H1:(Y5.l0 k1 l0 (l0.length:Int) (wrap64 (x8_1+1)))=some r:=by rw [if_neg (show ¬ (false=true) by decide)] at H;exact H
       clear H
       have H:=H1
       clear H1
       have H':=aM H
       clear H
       have p766:0≤(x8_1:Int):=dT (z0_)
       have q766:x8_1<(l0.length:Int):=dT (z0_)
       obtain ⟨ad766,e766,hx766_0⟩:=Kd.at_string HR0.out x8_1 p766 q766
       cases e766
       replace p766:=eq_true p766
       replace q766:=eq_true q766
       go_wp2_with (first | (go_at_call 100;(with_reducible refine (Y38.calls (rdOf ByteArray.empty l0 x8_1) false _ A6.out).mono ?_);rintro e w' ⟨rfl,⟨nd,rfl⟩⟩))
       go_roundg k1
       case measure=>have:=HK1.out;omega
       case rel=>exact ⟨(wrap64 (x8_1+1)),(z1_),H',⟨by have:=HK1.out;omega⟩,z4_⟩
     ·rw [if_neg c5] at H
      exact nO H
    ·rw [if_neg c4] at H
     exact nO H
   ·rw [if_neg c3] at H
    have c3b0:decide (x8_1<(l0.length:Int))=false:=dF c3
    clear c3
    obtain rfl:=sI H
    go_wp2
    go_ret
    exact ⟨z1_,z4_⟩


/-! ### Y13: function 99 -/
def Y13.f (k:Nat) (l0:List ByteArray)  : Option (Bool):=(Y5.f k l0).bind fun t768=>(some (decide (t768≥0)))
theorem Y13.mono:∀ a0 k,LeO (Y13.f k a0) (Y13.f (k+1) a0):=by
 intro a0 k
 have m0:=@Y5.mono
 unfold Y13.f
 exact mO
theorem Y13.calls (k:Nat) (A0:Option Addr) (c0:Nat) (l0:List ByteArray)  (r:Bool) (w:World) (hr0:Kd.C Kd.string w A0 l0.length l0) (hc0:l0.length≤c0) (h:Y13.f k l0=some r) :
  Calls Try.prog 99 #[.slice A0 l0.length c0,.func (.func 100) #[] #[]] w fun e w'=>e = .returned (.bool r)∧Drawn0 w w':=by
 have HR0:=aM hr0
 have HC0:=aM hc0
 clear hr0 hc0
 have H:((Y5.f k l0).bind fun t768=>(some (decide (t768≥0))))=some r:=h
 clear h
 replace H:=bS H
 obtain ⟨t768,A30,H⟩:=H
 replace H:(some (decide (t768≥0)))=some r:=H
 have A3:=aM A30
 clear A30
 obtain rfl:=sI H
 go_enter Try.func99,Try.ntmps99
 go_wp2_with (first | ((with_reducible refine gc_ 121 ?_);refine gl_ (some 7) Try.func121 #[.slice A0 l0.length c0,.func (.func 100) #[] #[]] ?_;(with_reducible refine (Y5.calls k _ _ l0  t768 _ ?s1 ?s2 A3.out).mono ?_);(case s1=>repeat (first | exact HR0.out | (with_reducible refine Kd.C_alloc ?_ _) | (with_reducible refine Kd.C_drewN ?_ _) | (with_reducible refine Kd.C_drew ?_)));(case s2=>exact HC0.out);rintro e w' ⟨rfl,⟨nd,rfl⟩⟩;refine ⟨_,rfl,?_⟩))
 go_ret
 exact ⟨z1_,z4_⟩


/-! ### Y30: function 52 -/
def Y30.f (k:Nat) (l0:List ByteArray):Option (Bool):=(Y13.f k l0).bind fun t769=>(some t769)
theorem Y30.mono:∀ a0 k,LeO (Y30.f k a0) (Y30.f (k+1) a0):=by
 intro a0 k
 have m0:=@Y13.mono
 unfold Y30.f
 exact mO
theorem Y30.calls (k:Nat) (A0:Option Addr) (c0:Nat) (l0:List ByteArray) (r:Bool) (w:World) (hr0:Kd.C Kd.string w A0 l0.length l0) (hc0:l0.length≤c0) (h:Y30.f k l0=some r) :
  Calls Try.prog 52 #[.slice A0 l0.length c0] w fun e w'=>e = .returned (.bool r)∧Drawn0 w w':=by
 have HR0:=aM hr0
 have HC0:=aM hc0
 clear hr0 hc0
 have H:((Y13.f k l0).bind fun t769=>(some t769))=some r:=h
 clear h
 replace H:=bS H
 obtain ⟨t769,A20,H⟩:=H
 replace H:(some t769)=some r:=H
 have A2:=aM A20
 clear A20
 obtain rfl:=sI H
 go_enter Try.func52,Try.ntmps52
 go_wp2_with (first | ((with_reducible refine gc_ 99 ?_);refine gl_ (some 4) Try.func99 #[.slice A0 l0.length c0,.func (.func 100) #[] #[]] ?_;(with_reducible refine (Y13.calls k _ _ l0  t769 _ ?s1 ?s2 A2.out).mono ?_);(case s1=>repeat (first | exact HR0.out | (with_reducible refine Kd.C_alloc ?_ _) | (with_reducible refine Kd.C_drewN ?_ _) | (with_reducible refine Kd.C_drew ?_)));(case s2=>exact HC0.out);rintro e w' ⟨rfl,⟨nd,rfl⟩⟩;refine ⟨_,rfl,?_⟩))
 go_ret
 exact ⟨z1_,z4_⟩


/-! ### Y27: function 105 -/
def Y27.f (a0:Int) (a1:Int) (a2:Int):Option (Bool):=if a1≤a0 then (some (decide (a0≤a2))) else (some false)
theorem Y27.calls (a0:Int) (a1:Int) (a2:Int) (r:Bool) (w:World) (h:Y27.f a0 a1 a2=some r) :
  Calls Try.prog 105 #[.int .i64 a0,.int .i64 a1,.int .i64 a2] w fun e w'=>e = .returned (.bool r)∧Drawn0 w w':=by
 have H:(if a1≤a0 then (some (decide (a0≤a2))) else (some false))=some r:=h
 clear h
 by_cases c4:a1≤a0
 ·rw [if_pos c4] at H
  have c4b0:decide (a1≤a0)=true:=dE c4
  clear c4
  obtain rfl:=sI H
  go_enter Try.func105,Try.ntmps105
  go_wp2
  go_ret
  exact ⟨z1_,z4_⟩
 ·rw [if_neg c4] at H
  have c4b0:decide (a1≤a0)=false:=dF c4
  clear c4
  obtain rfl:=sI H
  go_enter Try.func105,Try.ntmps105
  go_wp2
  go_ret
  exact ⟨z1_,z4_⟩


/-! ### Y39: function 117 -/
def Y39.f (a0:Int):Option (Bool):=(Y27.f a0 1 5).bind fun t604=>(some t604)
theorem Y39.calls (a0:Int) (r:Bool) (w:World) (h:Y39.f a0=some r) :
  Calls Try.prog 117 #[.int .i64 a0] w fun e w'=>e = .returned (.bool r)∧Drawn0 w w':=by
 have H:((Y27.f a0 1 5).bind fun t604=>(some t604))=some r:=h
 clear h
 replace H:=bS H
 obtain ⟨t604,A20,H⟩:=H
 replace H:(some t604)=some r:=H
 have A2:=aM A20
 clear A20
 obtain rfl:=sI H
 go_enter Try.func117,Try.ntmps117
 go_wp2_with (first | ((with_reducible refine gc_ 105 ?_);refine gl_ (some 4) Try.func105 #[.int .i64 a0,.int .i64 1,.int .i64 5] ?_;(with_reducible refine (Y27.calls a0 1 5 t604 _ A2.out).mono ?_);rintro e w' ⟨rfl,⟨nd,rfl⟩⟩;refine ⟨_,rfl,?_⟩))
 go_ret
 exact ⟨z1_,z4_⟩


/-! ### Y40: function 87 -/
def Y40.f (a0_0:Int) (a0_1:Int):Option (Bool):=(Y39.f a0_0).bind fun t606=>(if t606=true then ((Y27.f a0_1 1 1000000).bind fun t607=>(some t607)) else (some false))
theorem Y40.calls (a0_0:Int) (a0_1:Int) (r:Bool) (w:World) (h:Y40.f a0_0 a0_1=some r) :
  Calls Try.prog 87 #[.agg #[.int .i64 a0_0,.int .i64 a0_1]] w fun e w'=>e = .returned (.bool r)∧Below w.heap.size w w':=by
 have hu30:=Try.underlying30
 have HB:=aM (Below.refl w.heap.size w)
 have H:((Y39.f a0_0).bind fun t606=>(if t606=true then ((Y27.f a0_1 1 1000000).bind fun t607=>(some t607)) else (some false)))=some r:=h
 clear h
 replace H:=bS H
 obtain ⟨t606,A20,H⟩:=H
 replace H:(if t606=true then ((Y27.f a0_1 1 1000000).bind fun t607=>(some t607)) else (some false))=some r:=H
 have A2:=aM A20
 clear A20
 by_cases c3:t606=true
 ·subst c3
  have H1:((Y27.f a0_1 1 1000000).bind fun t607=>(some t607))=some r:=by rw [if_pos rfl] at H;exact H
  clear H
  have H:=H1
  clear H1
  replace H:=bS H
  obtain ⟨t607,A40,H⟩:=H
  replace H:(some t607)=some r:=H
  have A4:=aM A40
  clear A40
  obtain rfl:=sI H
  go_enter Try.func87,Try.ntmps87
  go_wp2_with (first | ((with_reducible refine gd_ 1 ?_);refine be_ 1 #[.int .i64 a0_0,.int .i64 a0_1] 30 ?_;intro gb605 hg w5 hbox hb;have n0_:=aM (below_step (z2_ HB.out) hb);have n1_:=aM (hbox);have n2_:=aM ((z6_ HB.out:w.heap.size≤gb605));have n3_:=aM ((z6_ HB.out:w.heap.size≤gb605));clear HB;have HB:=n0_;have BK605:=n1_;have GW605:=n2_;have GE605:=n3_;clear n0_ n1_ n2_ n3_;clear hb hbox hg;have ⟨hcz6_0,hcz6_1,hfz6_0,hfz6_1⟩:=cz2_ BK605.out) | ((with_reducible refine gc_ 117 ?_);refine gl_ (some 5) Try.func117 #[.int .i64 a0_0] ?_;(with_reducible refine (Y39.calls a0_0 true _ A2.out).mono ?_);rintro e w' ⟨rfl,⟨nd,rfl⟩⟩;refine ⟨_,rfl,?_⟩) | (go_at_call 105;(with_reducible refine (Y27.calls a0_1 1 1000000 t607 _ A4.out).mono ?_);rintro e w' ⟨rfl,⟨nd,rfl⟩⟩))
  go_ret
  exact ⟨z7_,z3_ HB.out GE605.out⟩
 ·replace c3:=Bool.eq_false_iff.mpr c3
  subst c3
  have H1:(some false)=some r:=by rw [if_neg (show ¬ (false=true) by decide)] at H;exact H
  clear H
  have H:=H1
  clear H1
  obtain rfl:=sI H
  go_enter Try.func87,Try.ntmps87
  go_wp2_with (first | ((with_reducible refine gd_ 1 ?_);refine be_ 1 #[.int .i64 a0_0,.int .i64 a0_1] 30 ?_;intro gb605 hg w7 hbox hb;have n0_:=aM (below_step (z2_ HB.out) hb);have n1_:=aM (hbox);have n2_:=aM ((z6_ HB.out:w.heap.size≤gb605));have n3_:=aM ((z6_ HB.out:w.heap.size≤gb605));clear HB;have HB:=n0_;have BK605:=n1_;have GW605:=n2_;have GE605:=n3_;clear n0_ n1_ n2_ n3_;clear hb hbox hg;have ⟨hcz8_0,hcz8_1,hfz8_0,hfz8_1⟩:=cz2_ BK605.out) | ((with_reducible refine gc_ 117 ?_);refine gl_ (some 5) Try.func117 #[.int .i64 a0_0] ?_;(with_reducible refine (Y39.calls a0_0 false _ A2.out).mono ?_);rintro e w' ⟨rfl,⟨nd,rfl⟩⟩;refine ⟨_,rfl,?_⟩))
  go_ret
  exact ⟨z7_,z3_ HB.out GE605.out⟩


/-! ### Y4: function 69 -/
def Y4.l0:Nat→List (S30)→List (S30)→Int→Int→Option (Bool)
 | 0,_,_,_,_=>none
 | k+1,x0,x5,x6,x7=>if x7<x6 then (if 0≤x7 then (if x7<(x5.length:Int) then ((Y40.f ((rd_T30 x5 x7).f0) ((rd_T30 x5 x7).f1)).bind fun t610=>(if t610=true then (if x7>0 then (if 0≤(wrap64 (x7-1)) then (if (wrap64 (x7-1))<(x0.length:Int) then (if ((rd_T30 x0 (wrap64 (x7-1))).f0)≥((rd_T30 x5 x7).f0) then (some false) else (Y4.l0 k x0 x5 x6 (wrap64 (x7+1)))) else (none)) else (none)) else (Y4.l0 k x0 x5 x6 (wrap64 (x7+1)))) else (some false))) else (none)) else (none)) else (some true)
def Y4.f (k:Nat) (l0:List (S30)):Option (Bool):=Y4.l0 k l0 l0 (l0.length:Int) 0
theorem Y4.mono_l:∀ k,(∀ y0 y1 y2 y3,LeO (Y4.l0 k y0 y1 y2 y3) (Y4.l0 (k+1) y0 y1 y2 y3))
 | 0=>by intros <;> exact LeO.none _
 | k+1=>by
  have ih0:=Y4.mono_l k
  ·intros
   unfold Y4.l0
   exact mO
theorem Y4.mono:∀ a0 k,LeO (Y4.f k a0) (Y4.f (k+1) a0):=by
 intro a0 k
 have ih0:=Y4.mono_l k
 unfold Y4.f
 exact mO
def Y4.T4:Bool × List (List Nat × List Nat):=(true,[([],[]),([0],[0]),([1],[1]),([2,1],[2]),([3],[3]),([4,3],[3,4]),([5,3,3],[3,5]),([6],[6]),([6],[6]),([8,6],[6,8]),([7,9,6],[6,7,9]),([10,6],[6,10]),([11,6],[6,11]),([6],[6]),([13,6],[6,13]),([12,14,6],[6,12,14]),([6,15,3],[3,6,15]),([3,16],[3,16])])
def Y4.B4:List Nat:=[0,1,3,7,15,31,63,127,127,383,1023,2047,4095,127,8319,32767,65535,131071]
theorem Y4.tab4:rtab .any (opsOf Try.f69 4)=Y4.T4:=by kernel_rfl
theorem Y4.bits4:waitsOk Y4.T4.2 Y4.B4=true:=by kernel_rfl
abbrev Y4.q0:Array Bool:=#[O,O,O,O,O,O,O,O,O,O,O,O,O,O,O,O,O,O]
abbrev Y4.q1:Array Bool:=#[I,O,O,O,O,O,O,O,O,O,O,O,O,O,O,O,O,O]
abbrev Y4.q2:Array Bool:=#[I,I,O,O,O,O,O,O,O,O,O,O,O,O,O,O,O,O]
abbrev Y4.q3:Array Bool:=#[I,I,I,O,O,O,O,O,O,O,O,O,O,O,O,O,O,O]
abbrev Y4.q4:Array Bool:=#[I,I,I,I,O,O,O,O,O,O,O,O,O,O,O,O,O,O]
abbrev Y4.q5:Array Bool:=#[I,I,I,I,I,O,O,O,O,O,O,O,O,O,O,O,O,O]
abbrev Y4.q6:Array Bool:=#[I,I,I,I,I,I,O,O,O,O,O,O,O,O,O,O,O,O]
abbrev Y4.q7:Array Bool:=#[I,I,I,I,I,I,I,O,O,O,O,O,O,O,O,O,O,O]
abbrev Y4.q8:Array Bool:=#[I,I,I,I,I,I,I,I,O,O,O,O,O,O,O,O,O,O]
abbrev Y4.q9:Array Bool:=#[I,I,I,I,I,I,I,I,I,O,O,O,O,O,O,O,O,O]
abbrev Y4.q10:Array Bool:=#[I,I,I,I,I,I,I,I,I,I,O,O,O,O,O,O,O,O]
abbrev Y4.q11:Array Bool:=#[I,I,I,I,I,I,I,I,I,I,I,O,O,O,O,O,O,O]
abbrev Y4.q12:Array Bool:=#[I,I,I,I,I,I,I,I,I,I,I,I,O,O,O,O,O,O]
abbrev Y4.q13:Array Bool:=#[I,I,I,I,I,I,I,I,I,I,I,I,O,I,O,O,O,O]
abbrev Y4.q14:Array Bool:=#[I,I,I,I,I,I,I,I,I,I,I,I,I,I,O,O,O,O]
abbrev Y4.q15:Array Bool:=#[I,I,I,I,I,I,I,I,I,I,I,I,I,I,I,O,O,O]
abbrev Y4.q16:Array Bool:=#[I,I,I,I,I,I,I,I,I,I,I,I,I,I,I,I,O,O]
abbrev Y4.q17:Array Bool:=#[I,I,I,I,I,I,I,I,I,I,I,I,I,I,I,I,I,O]
abbrev Y4.q18:Array Bool:=#[I,I,I,I,I,I,I,I,I,I,I,I,I,I,I,I,I,I]
abbrev Y4.q19:Array Bool:=#[I,I,I,I,I,I,I,I,I,I,I,I,I,O,O,O,O,O]
theorem Y4.calls (k:Nat) (A0:Option Addr) (c0:Nat) (l0:List (S30)) (r:Bool) (w:World) (hr0:Kd.C k30 w A0 l0.length l0) (hc0:l0.length≤c0) (h:Y4.f k l0=some r) :
  Calls Try.prog 69 #[.slice A0 l0.length c0] w fun e w'=>e = .returned (.bool r)∧Below w.heap.size w w':=by
 have hu30:=Try.underlying30
 have HR0:=aM hr0
 have HC0:=aM hc0
 clear hr0 hc0
 have HB:=aM (Below.refl w.heap.size w)
 have H:(Y4.l0 k l0 l0 (l0.length:Int) 0)=some r:=h
 clear h
 have H':=aM H
 clear H
 go_enter Try.func69,Try.ntmps69
 go_wp2
 go_loopg [7] k (fun kq v7 w'=>∃ (x7_1:Int),v7 = .int .i64 x7_1∧Aside0 (Y4.l0 kq l0 l0 (l0.length:Int) x7_1=some r)∧Aside0 (kq≤k)∧Aside0 (Below w.heap.size w w'))
 case atStart=>exact ⟨(0),(z1_),H',⟨Nat.le_refl _⟩,⟨z2_ HB.out⟩⟩
 case round =>
  clear H'
  obtain ⟨x7_1,rfl,HA,HK1,HB⟩:=hrel
  cases gk with
  | zero=>exact absurd HA.out (by simp [Y4.l0])
  | succ k1 =>
   have H:=HA.out
   clear HA
   simp only [Y4.l0] at H
   by_cases c2:x7_1<(l0.length:Int)
   ·rw [if_pos c2] at H
    have c2b0:decide (x7_1<(l0.length:Int))=true:=dE c2
    clear c2
    by_cases c3:0≤x7_1
    ·rw [if_pos c3] at H
     have c3b0:decide (0≤x7_1)=true:=dE c3
     clear c3
     by_cases c4:x7_1<(l0.length:Int)
     ·rw [if_pos c4] at H
      have c4b0:decide (x7_1<(l0.length:Int))=true:=dE c4
      clear c4
      replace H:=bS H
      obtain ⟨t610,A50,H⟩:=H
      replace H:(if t610=true then (if x7_1>0 then (if 0≤(wrap64 (x7_1-1)) then (if (wrap64 (x7_1-1))<(l0.length:Int) then (if ((rd_T30 l0 (wrap64 (x7_1-1))).f0)≥((rd_T30 l0 x7_1).f0) then (some false) else (Y4.l0 k1 l0 l0 (l0.length:Int) (wrap64 (x7_1+1)))) else (none)) else (none)) else (Y4.l0 k1 l0 l0 (l0.length:Int) (wrap64 (x7_1+1)))) else (some false))=some r:=H
      have A5:=aM A50
      clear A50
      by_cases c6:t610=true
      ·subst c6
       have H1:(if x7_1>0 then (if 0≤(wrap64 (x7_1-1)) then (if (wrap64 (x7_1-1))<(l0.length:Int) then (if ((rd_T30 l0 (wrap64 (x7_1-1))).f0)≥((rd_T30 l0 x7_1).f0) then (some false) else (Y4.l0 k1 l0 l0 (l0.length:Int) (wrap64 (x7_1+1)))) else (none)) else (none)) else (Y4.l0 k1 l0 l0 (l0.length:Int) (wrap64 (x7_1+1))))=some r:=by rw [if_pos rfl] at H;exact H
       clear H
       have H:=H1
       clear H1
       by_cases c7:x7_1>0
       ·rw [if_pos c7] at H
        have c7b0:decide (0<x7_1)=true:=dE c7
        clear c7
        obtain ⟨ji8,hji8⟩:∃ j_:Int,(wrap64 (x7_1-1))=j_:=⟨_,rfl⟩
        replace H:(if 0≤(ji8) then (if (ji8)<(l0.length:Int) then (if ((rd_T30 l0 (ji8)).f0)≥((rd_T30 l0 x7_1).f0) then (some false) else (Y4.l0 k1 l0 l0 (l0.length:Int) (wrap64 (x7_1+1)))) else (none)) else (none))=some r:=by first | (rw [hji8] at H;exact H) | (simp only [hji8] at H ⊢;exact H)
        (try rw [hji8] at A5)
        have hji8w:(IntKind.i64.wrap (x7_1-1))=ji8:=(i64_w _).trans hji8
        by_cases c9:0≤(ji8)
        ·rw [if_pos c9] at H
         have c9b0:decide (0≤(ji8))=true:=dE c9
         clear c9
         by_cases c10:(ji8)<(l0.length:Int)
         ·rw [if_pos c10] at H
          have c10b0:decide ((ji8)<(l0.length:Int))=true:=dE c10
          clear c10
          by_cases c11:((rd_T30 l0 (ji8)).f0)≥((rd_T30 l0 x7_1).f0)
          ·rw [if_pos c11] at H
           have c11b0:decide (((rd_T30 l0 x7_1).f0)≤((rd_T30 l0 (ji8)).f0))=true:=dE c11
           clear c11
           obtain rfl:=sI H
           have p608:0≤(x7_1:Int):=dT (z0_)
           have q608:x7_1<(l0.length:Int):=dT (z0_)
           obtain ⟨ad608,e608,hx608_0,hx608_1⟩:=at_T30 HR0.out x7_1 p608 q608
           cases e608
           replace hx608_0:=(HB.out.cell (World.block_lt_of_cell? w _ hx608_0)).trans hx608_0
           replace hx608_1:=(HB.out.cell (World.block_lt_of_cell? w _ hx608_1)).trans hx608_1
           replace p608:=eq_true p608
           replace q608:=eq_true q608
           try go_wp2_with (first | ((with_reducible refine gd_ 4 ?_);refine be_ 4 #[.int .i64 0,.int .i64 0] 30 ?_;intro gb609 hg w12 hbox hb;have n0_:=aM (below_step (z2_ HB.out) hb);have n1_:=aM (hbox);have n2_:=aM ((z6_ HB.out:w.heap.size≤gb609));have n3_:=aM ((z6_ HB.out:w.heap.size≤gb609));clear HB;have HB:=n0_;have BK609:=n1_;have GW609:=n2_;have GE609:=n3_;clear n0_ n1_ n2_ n3_;clear hb hbox hg;have ⟨hcz13_0,hcz13_1,hfz13_0,hfz13_1⟩:=cz2_ BK609.out))
           have n0_:Aside0 (((w12.setCell ⟨gb609,0,none⟩ (.int .i64 ((rd_T30 l0 x7_1).f0))).setCell ⟨gb609,1,none⟩ (.int .i64 ((rd_T30 l0 x7_1).f1))).heap[gb609]? = some (.cells #[.int .i64 ((rd_T30 l0 x7_1).f0),.int .i64 ((rd_T30 l0 x7_1).f1)] 30 (0,0))):=⟨z13_ BK609.out⟩
           have n1_:Aside0 (Below w.heap.size w ((w12.setCell ⟨gb609,0,none⟩ (.int .i64 ((rd_T30 l0 x7_1).f0))).setCell ⟨gb609,1,none⟩ (.int .i64 ((rd_T30 l0 x7_1).f1)))):=⟨z3_ HB.out GE609.out⟩
           (try clear BK609)
           (try clear HB)
           generalize ((w12.setCell ⟨gb609,0,none⟩ (.int .i64 ((rd_T30 l0 x7_1).f0))).setCell ⟨gb609,1,none⟩ (.int .i64 ((rd_T30 l0 x7_1).f1)))=w14 at n0_ n1_ ⊢
           have BK609:=n0_
           have HB:=n1_
           clear n0_ n1_
           have n0_:=aM (blk_drew BK609.out)
           have n1_:=aM (below_drew1 HB.out)
           clear BK609
           clear HB
           have BK609:=n0_
           have HB:=n1_
           clear n0_ n1_
           have p611:0≤((ji8):Int):=dT (z0_)
           have q611:(ji8)<(l0.length:Int):=dT (z0_)
           obtain ⟨ad611,e611,hx611_0,hx611_1⟩:=at_T30 HR0.out (ji8) p611 q611
           have hw611_1:=hx611_1
           have hw611_0:=hx611_0
           obtain rfl:ad608=ad611:=(by injection e611)
           replace hx611_0:=(HB.out.cell (World.block_lt_of_cell? w _ hx611_0)).trans hx611_0
           replace hx611_1:=(HB.out.cell (World.block_lt_of_cell? w _ hx611_1)).trans hx611_1
           replace p611:=eq_true p611
           replace q611:=eq_true q611
           refine start_ (n:=18) (S:=fun w'=>w'.cell? ⟨gb609,0,none⟩=some (.int .i64 ((rd_T30 l0 x7_1).f0))∧w'.cell? ⟨gb609,1,none⟩=some (.int .i64 ((rd_T30 l0 x7_1).f1))∧w'.cell? (ad608.add (((ji8)).toNat*2))=some (.int .i64 ((rd_T30 l0 (ji8)).f0))∧w'.cell? ⟨(ad608.add (((ji8)).toNat*2)).block,(ad608.add (((ji8)).toNat*2)).off+1,none⟩=some (.int .i64 ((rd_T30 l0 (ji8)).f1))) (ds:=[]) Y4.q0 (by kernel_rfl) rfl rfl (cj2_ BK609.out ⟨((HB.out.cell (World.block_lt_of_cell? w _ hw611_0)).trans hw611_0),((HB.out.cell (World.block_lt_of_cell? w _ hw611_1)).trans hw611_1)⟩) (fun hHeld=>?_);refine with_tabW Y4.tab4 Y4.bits4 (fun HT_ HW_=>?_)
           generalize w14.drew=w15 at BK609 HB hx611_0 hx611_1 hHeld ⊢
           refine tk4_ 0 12 Y4.q1 HT_.out HW_.out hHeld ?_
           refine o1_ 1 13 Y4.q2 HT_.out (fun K hK=>?_)
           refine gs_ Try.func87 #[.agg #[.int .i64 ((rd_T30 l0 x7_1).f0),.int .i64 ((rd_T30 l0 x7_1).f1)]] ?_
           with_reducible refine (Y40.calls ((rd_T30 l0 x7_1).f0) ((rd_T30 l0 x7_1).f1) true _ A5.out).mono ?_
           rintro e w16 ⟨rfl,hb⟩
           refine ⟨_,rfl,?_⟩
           have n0_:=aM (blkB_ BK609.out hb)
           have n1_:=aM (below_step (z3_ HB.out GE609.out) hb)
           clear BK609
           clear HB
           have BK609:=n0_
           have HB:=n1_
           clear n0_ n1_
           (try clear hb)
           refine hK.out _ _ (cj2_ BK609.out ⟨((HB.out.cell (World.block_lt_of_cell? w _ hw611_0)).trans hw611_0),((HB.out.cell (World.block_lt_of_cell? w _ hw611_1)).trans hw611_1)⟩) (fun hHeld=>?_)
           clear hK K
           refine nm_ 13 ?_
           refine pu_ 2 14 Y4.q3 HT_.out ?_
           refine pu_ 3 15 Y4.q4 HT_.out ?_
           refine pu_ 4 16 Y4.q5 HT_.out ?_
           refine pu_ 5 17 Y4.q6 HT_.out ?_
           refine pu_ 6 18 Y4.q7 HT_.out ?_
           refine pu_ 7 19 Y4.q8 HT_.out ?_
           refine pu_ 8 20 Y4.q9 HT_.out ?_
           refine pu_ 9 21 Y4.q10 HT_.out ?_
           refine pu_ 10 22 Y4.q11 HT_.out ?_
           refine pu_ 11 23 Y4.q12 HT_.out ?_
           refine pu_ 13 25 Y4.q13 HT_.out ?_
           refine tk4_ 12 24 Y4.q14 HT_.out HW_.out hHeld ?_
           refine tk4_ 14 26 Y4.q15 HT_.out HW_.out hHeld ?_
           refine pu_ 15 27 Y4.q16 HT_.out ?_
           refine pu_ 16 28 Y4.q17 HT_.out ?_
           refine pu_ 17 29 Y4.q18 HT_.out ?_
           refine done_ (done_of HT_.out (by kernel_rfl)) ?_
           try go_wp2
           go_ret
           exact ⟨by first | rfl | (simp [errW_none,errW_some] <;> rfl) | (simp only [← hji8];first | rfl | (simp [errW_none,errW_some] <;> rfl)) | (simp [*,errW_none,errW_some] <;> rfl),z3_ HB.out GE609.out⟩
          ·rw [if_neg c11] at H
           have c11b0:decide (((rd_T30 l0 x7_1).f0)≤((rd_T30 l0 (ji8)).f0))=false:=dF c11
           clear c11
           have H':=aM H
           clear H
           have p608:0≤(x7_1:Int):=dT (z0_)
           have q608:x7_1<(l0.length:Int):=dT (z0_)
           obtain ⟨ad608,e608,hx608_0,hx608_1⟩:=at_T30 HR0.out x7_1 p608 q608
           cases e608
           replace hx608_0:=(HB.out.cell (World.block_lt_of_cell? w _ hx608_0)).trans hx608_0
           replace hx608_1:=(HB.out.cell (World.block_lt_of_cell? w _ hx608_1)).trans hx608_1
           replace p608:=eq_true p608
           replace q608:=eq_true q608
           try go_wp2_with (first | ((with_reducible refine gd_ 4 ?_);refine be_ 4 #[.int .i64 0,.int .i64 0] 30 ?_;intro gb609 hg w17 hbox hb;have n0_:=aM (below_step (z2_ HB.out) hb);have n1_:=aM (hbox);have n2_:=aM ((z6_ HB.out:w.heap.size≤gb609));have n3_:=aM ((z6_ HB.out:w.heap.size≤gb609));clear HB;have HB:=n0_;have BK609:=n1_;have GW609:=n2_;have GE609:=n3_;clear n0_ n1_ n2_ n3_;clear hb hbox hg;have ⟨hcz18_0,hcz18_1,hfz18_0,hfz18_1⟩:=cz2_ BK609.out))
           have n0_:Aside0 (((w17.setCell ⟨gb609,0,none⟩ (.int .i64 ((rd_T30 l0 x7_1).f0))).setCell ⟨gb609,1,none⟩ (.int .i64 ((rd_T30 l0 x7_1).f1))).heap[gb609]? = some (.cells #[.int .i64 ((rd_T30 l0 x7_1).f0),.int .i64 ((rd_T30 l0 x7_1).f1)] 30 (0,0))):=⟨z13_ BK609.out⟩
           have n1_:Aside0 (Below w.heap.size w ((w17.setCell ⟨gb609,0,none⟩ (.int .i64 ((rd_T30 l0 x7_1).f0))).setCell ⟨gb609,1,none⟩ (.int .i64 ((rd_T30 l0 x7_1).f1)))):=⟨z3_ HB.out GE609.out⟩
           (try clear BK609)
           (try clear HB)
           generalize ((w17.setCell ⟨gb609,0,none⟩ (.int .i64 ((rd_T30 l0 x7_1).f0))).setCell ⟨gb609,1,none⟩ (.int .i64 ((rd_T30 l0 x7_1).f1)))=w19 at n0_ n1_ ⊢
           have BK609:=n0_
           have HB:=n1_
           clear n0_ n1_
           have n0_:=aM (blk_drew BK609.out)
           have n1_:=aM (below_drew1 HB.out)
           clear BK609
           clear HB
           have BK609:=n0_
           have HB:=n1_
           clear n0_ n1_
           have p611:0≤((ji8):Int):=dT (z0_)
           have q611:(ji8)<(l0.length:Int):=dT (z0_)
           obtain ⟨ad611,e611,hx611_0,hx611_1⟩:=at_T30 HR0.out (ji8) p611 q611
           have hw611_1:=hx611_1
           have hw611_0:=hx611_0
           obtain rfl:ad608=ad611:=(by injection e611)
           replace hx611_0:=(HB.out.cell (World.block_lt_of_cell? w _ hx611_0)).trans hx611_0
           replace hx611_1:=(HB.out.cell (World.block_lt_of_cell? w _ hx611_1)).trans hx611_1
           replace p611:=eq_true p611
           replace q611:=eq_true q611
           refine start_ (n:=18) (S:=fun w'=>w'.cell? ⟨gb609,0,none⟩=some (.int .i64 ((rd_T30 l0 x7_1).f0))∧w'.cell? ⟨gb609,1,none⟩=some (.int .i64 ((rd_T30 l0 x7_1).f1))∧w'.cell? (ad608.add (((ji8)).toNat*2))=some (.int .i64 ((rd_T30 l0 (ji8)).f0))∧w'.cell? ⟨(ad608.add (((ji8)).toNat*2)).block,(ad608.add (((ji8)).toNat*2)).off+1,none⟩=some (.int .i64 ((rd_T30 l0 (ji8)).f1))) (ds:=[]) Y4.q0 (by kernel_rfl) rfl rfl (cj2_ BK609.out ⟨((HB.out.cell (World.block_lt_of_cell? w _ hw611_0)).trans hw611_0),((HB.out.cell (World.block_lt_of_cell? w _ hw611_1)).trans hw611_1)⟩) (fun hHeld=>?_);refine with_tabW Y4.tab4 Y4.bits4 (fun HT_ HW_=>?_)
           generalize w19.drew=w20 at BK609 HB hx611_0 hx611_1 hHeld ⊢
           refine tk4_ 0 12 Y4.q1 HT_.out HW_.out hHeld ?_
           refine o1_ 1 13 Y4.q2 HT_.out (fun K hK=>?_)
           refine gs_ Try.func87 #[.agg #[.int .i64 ((rd_T30 l0 x7_1).f0),.int .i64 ((rd_T30 l0 x7_1).f1)]] ?_
           with_reducible refine (Y40.calls ((rd_T30 l0 x7_1).f0) ((rd_T30 l0 x7_1).f1) true _ A5.out).mono ?_
           rintro e w21 ⟨rfl,hb⟩
           refine ⟨_,rfl,?_⟩
           have n0_:=aM (blkB_ BK609.out hb)
           have n1_:=aM (below_step (z3_ HB.out GE609.out) hb)
           clear BK609
           clear HB
           have BK609:=n0_
           have HB:=n1_
           clear n0_ n1_
           (try clear hb)
           refine hK.out _ _ (cj2_ BK609.out ⟨((HB.out.cell (World.block_lt_of_cell? w _ hw611_0)).trans hw611_0),((HB.out.cell (World.block_lt_of_cell? w _ hw611_1)).trans hw611_1)⟩) (fun hHeld=>?_)
           clear hK K
           refine nm_ 13 ?_
           refine pu_ 2 14 Y4.q3 HT_.out ?_
           refine pu_ 3 15 Y4.q4 HT_.out ?_
           refine pu_ 4 16 Y4.q5 HT_.out ?_
           refine pu_ 5 17 Y4.q6 HT_.out ?_
           refine pu_ 6 18 Y4.q7 HT_.out ?_
           refine pu_ 7 19 Y4.q8 HT_.out ?_
           refine pu_ 8 20 Y4.q9 HT_.out ?_
           refine pu_ 9 21 Y4.q10 HT_.out ?_
           refine pu_ 10 22 Y4.q11 HT_.out ?_
           refine pu_ 11 23 Y4.q12 HT_.out ?_
           refine pu_ 13 25 Y4.q13 HT_.out ?_
           refine tk4_ 12 24 Y4.q14 HT_.out HW_.out hHeld ?_
           refine tk4_ 14 26 Y4.q15 HT_.out HW_.out hHeld ?_
           refine pu_ 15 27 Y4.q16 HT_.out ?_
           refine pu_ 16 28 Y4.q17 HT_.out ?_
           refine pu_ 17 29 Y4.q18 HT_.out ?_
           refine done_ (done_of HT_.out (by kernel_rfl)) ?_
           try go_wp2
           go_roundg k1
           case measure=>have:=HK1.out;omega
           case rel=>exact ⟨(wrap64 (x7_1+1)),(z1_),H',⟨by have:=HK1.out;omega⟩,⟨z3_ HB.out GE609.out⟩⟩
         ·rw [if_neg c10] at H
          exact nO H
        ·rw [if_neg c9] at H
         exact nO H
       ·rw [if_neg c7] at H
        have c7b0:decide (0<x7_1)=false:=dF c7
        clear c7
        have H':=aM H
        clear H
        have p608:0≤(x7_1:Int):=dT (z0_)
        have q608:x7_1<(l0.length:Int):=dT (z0_)
        obtain ⟨ad608,e608,hx608_0,hx608_1⟩:=at_T30 HR0.out x7_1 p608 q608
        cases e608
        replace hx608_0:=(HB.out.cell (World.block_lt_of_cell? w _ hx608_0)).trans hx608_0
        replace hx608_1:=(HB.out.cell (World.block_lt_of_cell? w _ hx608_1)).trans hx608_1
        replace p608:=eq_true p608
        replace q608:=eq_true q608
        try go_wp2_with (first | ((with_reducible refine gd_ 4 ?_);refine be_ 4 #[.int .i64 0,.int .i64 0] 30 ?_;intro gb609 hg w22 hbox hb;have n0_:=aM (below_step (z2_ HB.out) hb);have n1_:=aM (hbox);have n2_:=aM ((z6_ HB.out:w.heap.size≤gb609));have n3_:=aM ((z6_ HB.out:w.heap.size≤gb609));clear HB;have HB:=n0_;have BK609:=n1_;have GW609:=n2_;have GE609:=n3_;clear n0_ n1_ n2_ n3_;clear hb hbox hg;have ⟨hcz23_0,hcz23_1,hfz23_0,hfz23_1⟩:=cz2_ BK609.out))
        have n0_:Aside0 (((w22.setCell ⟨gb609,0,none⟩ (.int .i64 ((rd_T30 l0 x7_1).f0))).setCell ⟨gb609,1,none⟩ (.int .i64 ((rd_T30 l0 x7_1).f1))).heap[gb609]? = some (.cells #[.int .i64 ((rd_T30 l0 x7_1).f0),.int .i64 ((rd_T30 l0 x7_1).f1)] 30 (0,0))):=⟨z13_ BK609.out⟩
        have n1_:Aside0 (Below w.heap.size w ((w22.setCell ⟨gb609,0,none⟩ (.int .i64 ((rd_T30 l0 x7_1).f0))).setCell ⟨gb609,1,none⟩ (.int .i64 ((rd_T30 l0 x7_1).f1)))):=⟨z3_ HB.out GE609.out⟩
        (try clear BK609)
        (try clear HB)
        generalize ((w22.setCell ⟨gb609,0,none⟩ (.int .i64 ((rd_T30 l0 x7_1).f0))).setCell ⟨gb609,1,none⟩ (.int .i64 ((rd_T30 l0 x7_1).f1)))=w24 at n0_ n1_ ⊢
        have BK609:=n0_
        have HB:=n1_
        clear n0_ n1_
        have n0_:=aM (blk_drew BK609.out)
        have n1_:=aM (below_drew1 HB.out)
        clear BK609
        clear HB
        have BK609:=n0_
        have HB:=n1_
        clear n0_ n1_
        refine start_ (n:=18) (S:=fun w'=>w'.cell? ⟨gb609,0,none⟩=some (.int .i64 ((rd_T30 l0 x7_1).f0))∧w'.cell? ⟨gb609,1,none⟩=some (.int .i64 ((rd_T30 l0 x7_1).f1))) (ds:=[]) Y4.q0 (by kernel_rfl) rfl rfl (cc2_ BK609.out) (fun hHeld=>?_);refine with_tabW Y4.tab4 Y4.bits4 (fun HT_ HW_=>?_)
        generalize w24.drew=w25 at BK609 HB hHeld ⊢
        refine tk2_ 0 12 Y4.q1 HT_.out HW_.out hHeld ?_
        refine o1_ 1 13 Y4.q2 HT_.out (fun K hK=>?_)
        refine gs_ Try.func87 #[.agg #[.int .i64 ((rd_T30 l0 x7_1).f0),.int .i64 ((rd_T30 l0 x7_1).f1)]] ?_
        with_reducible refine (Y40.calls ((rd_T30 l0 x7_1).f0) ((rd_T30 l0 x7_1).f1) true _ A5.out).mono ?_
        rintro e w26 ⟨rfl,hb⟩
        refine ⟨_,rfl,?_⟩
        have n0_:=aM (blkB_ BK609.out hb)
        have n1_:=aM (below_step (z3_ HB.out GE609.out) hb)
        clear BK609
        clear HB
        have BK609:=n0_
        have HB:=n1_
        clear n0_ n1_
        (try clear hb)
        refine hK.out _ _ (cc2_ BK609.out) (fun hHeld=>?_)
        clear hK K
        refine nm_ 13 ?_
        refine pu_ 2 14 Y4.q3 HT_.out ?_
        refine pu_ 3 15 Y4.q4 HT_.out ?_
        refine pu_ 4 16 Y4.q5 HT_.out ?_
        refine pu_ 5 17 Y4.q6 HT_.out ?_
        refine pu_ 6 18 Y4.q7 HT_.out ?_
        refine pn_ 7 19 Y4.q8 HT_.out ?_
        refine pn_ 8 20 Y4.q9 HT_.out ?_
        refine pn_ 9 21 Y4.q10 HT_.out ?_
        refine pn_ 10 22 Y4.q11 HT_.out ?_
        refine pn_ 11 23 Y4.q12 HT_.out ?_
        refine pn_ 12 24 Y4.q19 HT_.out ?_
        refine pn_ 13 25 Y4.q14 HT_.out ?_
        refine pn_ 14 26 Y4.q15 HT_.out ?_
        refine pn_ 15 27 Y4.q16 HT_.out ?_
        refine pu_ 16 28 Y4.q17 HT_.out ?_
        refine pu_ 17 29 Y4.q18 HT_.out ?_
        refine done_ (done_of HT_.out (by kernel_rfl)) ?_
        try go_wp2
        go_roundg k1
        case measure=>have:=HK1.out;omega
        case rel=>exact ⟨(wrap64 (x7_1+1)),(z1_),H',⟨by have:=HK1.out;omega⟩,⟨z3_ HB.out GE609.out⟩⟩
      ·replace c6:=Bool.eq_false_iff.mpr c6
       subst c6
       have H1:(some false)=some r:=by rw [if_neg (show ¬ (false=true) by decide)] at H;exact H
       clear H
       have H:=H1
       clear H1
       obtain rfl:=sI H
       have p608:0≤(x7_1:Int):=dT (z0_)
       have q608:x7_1<(l0.length:Int):=dT (z0_)
       obtain ⟨ad608,e608,hx608_0,hx608_1⟩:=at_T30 HR0.out x7_1 p608 q608
       cases e608
       replace hx608_0:=(HB.out.cell (World.block_lt_of_cell? w _ hx608_0)).trans hx608_0
       replace hx608_1:=(HB.out.cell (World.block_lt_of_cell? w _ hx608_1)).trans hx608_1
       replace p608:=eq_true p608
       replace q608:=eq_true q608
       try go_wp2_with (first | ((with_reducible refine gd_ 4 ?_);refine be_ 4 #[.int .i64 0,.int .i64 0] 30 ?_;intro gb609 hg w27 hbox hb;have n0_:=aM (below_step (z2_ HB.out) hb);have n1_:=aM (hbox);have n2_:=aM ((z6_ HB.out:w.heap.size≤gb609));have n3_:=aM ((z6_ HB.out:w.heap.size≤gb609));clear HB;have HB:=n0_;have BK609:=n1_;have GW609:=n2_;have GE609:=n3_;clear n0_ n1_ n2_ n3_;clear hb hbox hg;have ⟨hcz28_0,hcz28_1,hfz28_0,hfz28_1⟩:=cz2_ BK609.out))
       have n0_:Aside0 (((w27.setCell ⟨gb609,0,none⟩ (.int .i64 ((rd_T30 l0 x7_1).f0))).setCell ⟨gb609,1,none⟩ (.int .i64 ((rd_T30 l0 x7_1).f1))).heap[gb609]? = some (.cells #[.int .i64 ((rd_T30 l0 x7_1).f0),.int .i64 ((rd_T30 l0 x7_1).f1)] 30 (0,0))):=⟨z13_ BK609.out⟩
       have n1_:Aside0 (Below w.heap.size w ((w27.setCell ⟨gb609,0,none⟩ (.int .i64 ((rd_T30 l0 x7_1).f0))).setCell ⟨gb609,1,none⟩ (.int .i64 ((rd_T30 l0 x7_1).f1)))):=⟨z3_ HB.out GE609.out⟩
       (try clear BK609)
       (try clear HB)
       generalize ((w27.setCell ⟨gb609,0,none⟩ (.int .i64 ((rd_T30 l0 x7_1).f0))).setCell ⟨gb609,1,none⟩ (.int .i64 ((rd_T30 l0 x7_1).f1)))=w29 at n0_ n1_ ⊢
       have BK609:=n0_
       have HB:=n1_
       clear n0_ n1_
       have n0_:=aM (blk_drew BK609.out)
       have n1_:=aM (below_drew1 HB.out)
       clear BK609
       clear HB
       have BK609:=n0_
       have HB:=n1_
       clear n0_ n1_
       refine start_ (n:=18) (S:=fun w'=>w'.cell? ⟨gb609,0,none⟩=some (.int .i64 ((rd_T30 l0 x7_1).f0))∧w'.cell? ⟨gb609,1,none⟩=some (.int .i64 ((rd_T30 l0 x7_1).f1))) (ds:=[]) Y4.q0 (by kernel_rfl) rfl rfl (cc2_ BK609.out) (fun hHeld=>?_);refine with_tabW Y4.tab4 Y4.bits4 (fun HT_ HW_=>?_)
       generalize w29.drew=w30 at BK609 HB hHeld ⊢
       refine tk2_ 0 12 Y4.q1 HT_.out HW_.out hHeld ?_
       refine o1_ 1 13 Y4.q2 HT_.out (fun K hK=>?_)
       refine gs_ Try.func87 #[.agg #[.int .i64 ((rd_T30 l0 x7_1).f0),.int .i64 ((rd_T30 l0 x7_1).f1)]] ?_
       with_reducible refine (Y40.calls ((rd_T30 l0 x7_1).f0) ((rd_T30 l0 x7_1).f1) false _ A5.out).mono ?_
       rintro e w31 ⟨rfl,hb⟩
       refine ⟨_,rfl,?_⟩
       have n0_:=aM (blkB_ BK609.out hb)
       have n1_:=aM (below_step (z3_ HB.out GE609.out) hb)
       clear BK609
       clear HB
       have BK609:=n0_
       have HB:=n1_
       clear n0_ n1_
       (try clear hb)
       refine hK.out _ _ (cc2_ BK609.out) (fun hHeld=>?_)
       clear hK K
       refine nm_ 13 ?_
       refine pu_ 2 14 Y4.q3 HT_.out ?_
       refine pu_ 3 15 Y4.q4 HT_.out ?_
       refine pn_ 4 16 Y4.q5 HT_.out ?_
       refine pn_ 5 17 Y4.q6 HT_.out ?_
       refine pn_ 6 18 Y4.q7 HT_.out ?_
       refine pn_ 7 19 Y4.q8 HT_.out ?_
       refine pn_ 8 20 Y4.q9 HT_.out ?_
       refine pn_ 9 21 Y4.q10 HT_.out ?_
       refine pn_ 10 22 Y4.q11 HT_.out ?_
       refine pn_ 11 23 Y4.q12 HT_.out ?_
       refine pn_ 12 24 Y4.q19 HT_.out ?_
       refine pn_ 13 25 Y4.q14 HT_.out ?_
       refine pn_ 14 26 Y4.q15 HT_.out ?_
       refine pn_ 15 27 Y4.q16 HT_.out ?_
       refine pn_ 16 28 Y4.q17 HT_.out ?_
       refine pu_ 17 29 Y4.q18 HT_.out ?_
       refine done_ (done_of HT_.out (by kernel_rfl)) ?_
       try go_wp2
       go_ret
       exact ⟨z7_,z3_ HB.out GE609.out⟩
     ·rw [if_neg c4] at H
      exact nO H
    ·rw [if_neg c3] at H
     exact nO H
   ·rw [if_neg c2] at H
    have c2b0:decide (x7_1<(l0.length:Int))=false:=dF c2
    clear c2
    obtain rfl:=sI H
    go_wp2
    go_ret
    exact ⟨z7_,z2_ HB.out⟩


/-! ### Y42: function 106 -/
def Y42.f (a0:ByteArray):Option (Int):=some (a0.size:Int)
theorem Y42.calls (a0:ByteArray) (r:Int) (w:World) (h:Y42.f a0=some r) :
  Calls Try.prog 106 #[.string a0] w fun e w'=>e = .returned (.int .i64 r)∧Drawn0 w w':=by
 have H:(some (a0.size:Int))=some r:=h
 clear h
 obtain rfl:=sI H
 go_enter Try.func106,Try.ntmps106
 go_wp2
 go_ret
 exact ⟨z1_,z4_⟩


/-! ### Y7: function 68 -/
mutual
def Y7.j0:Nat→ByteArray→Bool→Option (Bool)
 | 0,_,_=>none
 | k+1,x0,x18=>if x18=true then (some false) else (Y7.l0 k x0 (x0.size:Int) 0)
def Y7.l0:Nat→ByteArray→Int→Int→Option (Bool)
 | 0,_,_,_=>none
 | k+1,x0,x20,x21=>if x21<x20 then (if 0≤x21 then (if x21<(x0.size:Int) then (if (bt x0 x21)≥97 then (if (bt x0 x21)≤122 then (Y7.l0 k x0 x20 (wrap64 (x21+1))) else (if (bt x0 x21)≥48 then (if (bt x0 x21)≤57 then (Y7.l0 k x0 x20 (wrap64 (x21+1))) else (if ((bt x0 x21)=95) then (Y7.l0 k x0 x20 (wrap64 (x21+1))) else (some false))) else (if ((bt x0 x21)=95) then (Y7.l0 k x0 x20 (wrap64 (x21+1))) else (some false)))) else (if (bt x0 x21)≥48 then (if (bt x0 x21)≤57 then (Y7.l0 k x0 x20 (wrap64 (x21+1))) else (if ((bt x0 x21)=95) then (Y7.l0 k x0 x20 (wrap64 (x21+1))) else (some false))) else (if ((bt x0 x21)=95) then (Y7.l0 k x0 x20 (wrap64 (x21+1))) else (some false)))) else (none)) else (none)) else (some true)
end
def Y7.f (k:Nat) (a0:ByteArray):Option (Bool):=(Y42.f a0).bind fun t770=>((Y27.f t770 1 20).bind fun t771=>(if t771=true then (if 0<(a0.size:Int) then (if (bt a0 0)<97 then (Y7.j0 k a0 true) else (Y7.j0 k a0 (decide ((bt a0 0)>122)))) else (none)) else (Y7.j0 k a0 true)))
theorem Y7.mono_l:∀ k,(∀ y0 y1,LeO (Y7.j0 k y0 y1) (Y7.j0 (k+1) y0 y1))∧(∀ y0 y1 y2,LeO (Y7.l0 k y0 y1 y2) (Y7.l0 (k+1) y0 y1 y2))
 | 0=>by refine ⟨?_,?_⟩ <;> intros <;> exact LeO.none _
 | k+1=>by
  obtain ⟨ih0,ih1⟩:=Y7.mono_l k
  refine ⟨?_,?_⟩
  ·intros
   unfold Y7.j0
   exact mO
  ·intros
   unfold Y7.l0
   exact mO
theorem Y7.mono:∀ a0 k,LeO (Y7.f k a0) (Y7.f (k+1) a0):=by
 intro a0 k
 obtain ⟨ih0,ih1⟩:=Y7.mono_l k
 unfold Y7.f
 exact mO
theorem Y7.calls (k:Nat) (a0:ByteArray) (r:Bool) (w:World) (h:Y7.f k a0=some r) :
  Calls Try.prog 68 #[.string a0] w fun e w'=>e = .returned (.bool r)∧Drawn0 w w':=by
 have H:((Y42.f a0).bind fun t770=>((Y27.f t770 1 20).bind fun t771=>(if t771=true then (if 0<(a0.size:Int) then (if (bt a0 0)<97 then (Y7.j0 k a0 true) else (Y7.j0 k a0 (decide ((bt a0 0)>122)))) else (none)) else (Y7.j0 k a0 true))))=some r:=h
 clear h
 have HC2:=aM H
 clear H
 go_enter Try.func68,Try.ntmps68
 go_upto_region 1 with (fail)
 go_cut [18] (fun v18 wc=>∃ (kq:Nat) (x18_1:Bool),v18 = .bool x18_1∧Aside0 (Y7.j0 kq a0 x18_1=some r)∧Aside0 (kq≤k)∧Drawn0 w wc)
 case first =>
  have H:=HC2.out
  clear HC2
  replace H:=bS H
  obtain ⟨t770,A30,H⟩:=H
  replace H:((Y27.f t770 1 20).bind fun t771=>(if t771=true then (if 0<(a0.size:Int) then (if (bt a0 0)<97 then (Y7.j0 k a0 true) else (Y7.j0 k a0 (decide ((bt a0 0)>122)))) else (none)) else (Y7.j0 k a0 true)))=some r:=H
  have A3:=aM A30
  clear A30
  replace H:=bS H
  obtain ⟨t771,A40,H⟩:=H
  replace H:(if t771=true then (if 0<(a0.size:Int) then (if (bt a0 0)<97 then (Y7.j0 k a0 true) else (Y7.j0 k a0 (decide ((bt a0 0)>122)))) else (none)) else (Y7.j0 k a0 true))=some r:=H
  have A4:=aM A40
  clear A40
  by_cases c5:t771=true
  ·subst c5
   have H1:(if 0<(a0.size:Int) then (if (bt a0 0)<97 then (Y7.j0 k a0 true) else (Y7.j0 k a0 (decide ((bt a0 0)>122)))) else (none))=some r:=by rw [if_pos rfl] at H;exact H
   clear H
   have H:=H1
   clear H1
   by_cases c6:0<(a0.size:Int)
   ·rw [if_pos c6] at H
    have c6b0:decide (0<(a0.size:Int))=true:=dE c6
    have c6b1:decide (0<a0.size)=true:=dE (by omega)
    clear c6
    (first | rw [c6b0] | (simp only [i64_w,i32_w];rw [c6b0]) | skip)
    by_cases c8:(bt a0 0)<97
    ·rw [if_pos c8] at H
     have c8b0:decide ((bt a0 0)<97)=true:=dE c8
     clear c8
     have H':=aM H
     clear H
     go_wp2_with (first | ((with_reducible refine gc_ 106 ?_);refine gl_ (some 6) Try.func106 #[.string a0] ?_;(with_reducible refine (Y42.calls a0 t770 _ A3.out).mono ?_);rintro e w' ⟨rfl,⟨nd,rfl⟩⟩;refine ⟨_,rfl,?_⟩) | ((with_reducible refine gc_ 105 ?_);refine gl_ (some 7) Try.func105 #[.int .i64 t770,.int .i64 1,.int .i64 20] ?_;(with_reducible refine (Y27.calls t770 1 20 true _ A4.out).mono ?_);rintro e w' ⟨rfl,⟨nd,rfl⟩⟩;refine ⟨_,rfl,?_⟩;have p7:0≤(0:Int):=(by omega);have q7:0<a0.size:=(z22_);have hx7:∀ h:0<a0.size,((a0[0]'h).toNat:Int)=bt a0 0:=bt_at a0 0;clear p7;have qi7:(0<(a0.size:Int))=True:=eq_true (dT (z0_));replace q7:=eq_true q7))
     go_meet
     case rel=>exact ⟨_,(true),(z1_),H',⟨by first | omega | exact Nat.le_refl _⟩,z4_⟩
    ·rw [if_neg c8] at H
     have c8b0:decide ((bt a0 0)<97)=false:=dF c8
     clear c8
     have H':=aM H
     clear H
     go_wp2_with (first | ((with_reducible refine gc_ 106 ?_);refine gl_ (some 6) Try.func106 #[.string a0] ?_;(with_reducible refine (Y42.calls a0 t770 _ A3.out).mono ?_);rintro e w' ⟨rfl,⟨nd,rfl⟩⟩;refine ⟨_,rfl,?_⟩) | ((with_reducible refine gc_ 105 ?_);refine gl_ (some 7) Try.func105 #[.int .i64 t770,.int .i64 1,.int .i64 20] ?_;(with_reducible refine (Y27.calls t770 1 20 true _ A4.out).mono ?_);rintro e w' ⟨rfl,⟨nd,rfl⟩⟩;refine ⟨_,rfl,?_⟩;have p7:0≤(0:Int):=(by omega);have q7:0<a0.size:=(z22_);have hx7:∀ h:0<a0.size,((a0[0]'h).toNat:Int)=bt a0 0:=bt_at a0 0;clear p7;have qi7:(0<(a0.size:Int))=True:=eq_true (dT (z0_));replace q7:=eq_true q7;have p9:0≤(0:Int):=(by omega);have q9:0<a0.size:=(z22_);have hx9:∀ h:0<a0.size,((a0[0]'h).toNat:Int)=bt a0 0:=bt_at a0 0;clear p9;have qi9:(0<(a0.size:Int))=True:=eq_true (dT (z0_));replace q9:=eq_true q9))
     go_meet
     case rel=>exact ⟨_,(decide ((bt a0 0)>122)),(z1_),H',⟨by first | omega | exact Nat.le_refl _⟩,z4_⟩
   ·rw [if_neg c6] at H
    exact nO H
  ·replace c5:=Bool.eq_false_iff.mpr c5
   subst c5
   have H1:(Y7.j0 k a0 true)=some r:=by rw [if_neg (show ¬ (false=true) by decide)] at H;exact H
   clear H
   have H:=H1
   clear H1
   have H':=aM H
   clear H
   go_wp2_with (first | ((with_reducible refine gc_ 106 ?_);refine gl_ (some 6) Try.func106 #[.string a0] ?_;(with_reducible refine (Y42.calls a0 t770 _ A3.out).mono ?_);rintro e w' ⟨rfl,⟨nd,rfl⟩⟩;refine ⟨_,rfl,?_⟩) | ((with_reducible refine gc_ 105 ?_);refine gl_ (some 7) Try.func105 #[.int .i64 t770,.int .i64 1,.int .i64 20] ?_;(with_reducible refine (Y27.calls t770 1 20 false _ A4.out).mono ?_);rintro e w' ⟨rfl,⟨nd,rfl⟩⟩;refine ⟨_,rfl,?_⟩))
   go_meet
   case rel=>exact ⟨_,(true),(z1_),H',⟨by first | omega | exact Nat.le_refl _⟩,z4_⟩
 case rest =>
  clear HC2
  try clear c1
  try clear p2
  try clear c5
  try clear c6
  try clear c6b0
  try clear c6b1
  try clear p7
  try clear q7
  try clear hx7
  try clear qi7
  try clear c8
  try clear c8b0
  try clear p9
  try clear q9
  try clear hx9
  try clear qi9
  try clear p7
  try clear p9
  try clear q7
  try clear q9
  obtain ⟨kq,x18_1,rfl,HA,HJ1,⟨mc1,rfl⟩⟩:=hcut
  cases kq with
  | zero=>exact absurd HA.out (by simp [Y7.j0])
  | succ kj1 =>
   have H:=HA.out
   clear HA
   simp only [Y7.j0] at H
   by_cases c10:x18_1=true
   ·subst c10
    have H1:(some false)=some r:=by rw [if_pos rfl] at H;exact H
    clear H
    have H:=H1
    clear H1
    obtain rfl:=sI H
    go_wp2
    go_ret
    exact ⟨z1_,z4_⟩
   ·replace c10:=Bool.eq_false_iff.mpr c10
    subst c10
    have H1:(Y7.l0 kj1 a0 (a0.size:Int) 0)=some r:=by rw [if_neg (show ¬ (false=true) by decide)] at H;exact H
    clear H
    have H:=H1
    clear H1
    have H':=aM H
    clear H
    go_wp2
    go_loopg [21] kj1 (fun kq v21 w'=>∃ (x21_2:Int),v21 = .int .i64 x21_2∧Aside0 (Y7.l0 kq a0 (a0.size:Int) x21_2=some r)∧Aside0 (kq≤kj1)∧Drawn0 w w')
    case atStart=>exact ⟨(0),(z1_),H',⟨Nat.le_refl _⟩,z4_⟩
    case round =>
     clear H'
     try clear c1
     try clear p2
     try clear c5
     try clear c6
     try clear c6b0
     try clear c6b1
     try clear p7
     try clear q7
     try clear hx7
     try clear qi7
     try clear c8
     try clear c8b0
     try clear p9
     try clear q9
     try clear hx9
     try clear qi9
     try clear c10
     try clear p2
     try clear p7
     try clear p9
     try clear q7
     try clear q9
     obtain ⟨x21_2,rfl,HA,HK2,⟨m2,rfl⟩⟩:=hrel
     cases gk with
     | zero=>exact absurd HA.out (by simp [Y7.l0])
     | succ k2 =>
      have H:=HA.out
      clear HA
      simp only [Y7.l0] at H
      by_cases c11:x21_2<(a0.size:Int)
      ·rw [if_pos c11] at H
       have c11b0:decide (x21_2<(a0.size:Int))=true:=dE c11
       clear c11
       by_cases c12:0≤x21_2
       ·rw [if_pos c12] at H
        have c12b0:decide (0≤x21_2)=true:=dE c12
        clear c12
        by_cases c13:x21_2<(a0.size:Int)
        ·rw [if_pos c13] at H
         have c13b0:decide (x21_2<(a0.size:Int))=true:=dE c13
         clear c13
         by_cases c15:(bt a0 x21_2)≥97
         ·rw [if_pos c15] at H
          have c15b0:decide (97≤(bt a0 x21_2))=true:=dE c15
          clear c15
          by_cases c16:(bt a0 x21_2)≤122
          ·rw [if_pos c16] at H
           have c16b0:decide ((bt a0 x21_2)≤122)=true:=dE c16
           clear c16
           have H':=aM H
           clear H
           have p14:0≤(x21_2:Int):=dT (z0_)
           have q14:x21_2<(a0.size:Int):=dT (z0_)
           have hx14:=bt_at a0 x21_2
           replace p14:=eq_true p14
           replace q14:=eq_true q14
           go_wp2
           go_roundg k2
           case measure=>have:=HJ1.out;have:=HK2.out;omega
           case rel=>exact ⟨(wrap64 (x21_2+1)),(z1_),H',⟨z11_ HJ1.out HK2.out⟩,z4_⟩
          ·rw [if_neg c16] at H
           have c16b0:decide ((bt a0 x21_2)≤122)=false:=dF c16
           clear c16
           by_cases c17:(bt a0 x21_2)≥48
           ·rw [if_pos c17] at H
            have c17b0:decide (48≤(bt a0 x21_2))=true:=dE c17
            clear c17
            by_cases c18:(bt a0 x21_2)≤57
            ·rw [if_pos c18] at H
             have c18b0:decide ((bt a0 x21_2)≤57)=true:=dE c18
             clear c18
             have H':=aM H
             clear H
             have p14:0≤(x21_2:Int):=dT (z0_)
             have q14:x21_2<(a0.size:Int):=dT (z0_)
             have hx14:=bt_at a0 x21_2
             replace p14:=eq_true p14
             replace q14:=eq_true q14
             go_wp2
             go_roundg k2
             case measure=>have:=HJ1.out;have:=HK2.out;omega
             case rel=>exact ⟨(wrap64 (x21_2+1)),(z1_),H',⟨z11_ HJ1.out HK2.out⟩,z4_⟩
            ·rw [if_neg c18] at H
             have c18b0:decide ((bt a0 x21_2)≤57)=false:=dF c18
             clear c18
             by_cases c19:((bt a0 x21_2)=95)
             ·rw [if_pos c19] at H
              have c19b0:((bt a0 x21_2) == 95)=true:=beq_iff_eq.mpr c19
              have c19b1:((bt a0 x21_2) != 95)=false:=bne_eq_false_iff_eq.mpr c19
              clear c19
              have H':=aM H
              clear H
              have p14:0≤(x21_2:Int):=dT (z0_)
              have q14:x21_2<(a0.size:Int):=dT (z0_)
              have hx14:=bt_at a0 x21_2
              replace p14:=eq_true p14
              replace q14:=eq_true q14
              go_wp2
              go_roundg k2
              case measure=>have:=HJ1.out;have:=HK2.out;omega
              case rel=>exact ⟨(wrap64 (x21_2+1)),(z1_),H',⟨z11_ HJ1.out HK2.out⟩,z4_⟩
             ·rw [if_neg c19] at H
              have c19b0:((bt a0 x21_2) == 95)=false:=beq_eq_false_iff_ne.mpr c19
              have c19b1:((bt a0 x21_2) != 95)=true:=bne_iff_ne.mpr c19
              obtain rfl:=sI H
              have p14:0≤(x21_2:Int):=dT (z0_)
              have q14:x21_2<(a0.size:Int):=dT (z0_)
              have hx14:=bt_at a0 x21_2
              replace p14:=eq_true p14
              replace q14:=eq_true q14
              go_wp2
              go_ret
              exact ⟨z1_,z4_⟩
           ·rw [if_neg c17] at H
            have c17b0:decide (48≤(bt a0 x21_2))=false:=dF c17
            clear c17
            by_cases c20:((bt a0 x21_2)=95)
            ·rw [if_pos c20] at H
             have c20b0:((bt a0 x21_2) == 95)=true:=beq_iff_eq.mpr c20
             have c20b1:((bt a0 x21_2) != 95)=false:=bne_eq_false_iff_eq.mpr c20
             clear c20
             have H':=aM H
             clear H
             have p14:0≤(x21_2:Int):=dT (z0_)
             have q14:x21_2<(a0.size:Int):=dT (z0_)
             have hx14:=bt_at a0 x21_2
             replace p14:=eq_true p14
             replace q14:=eq_true q14
             go_wp2
             go_roundg k2
             case measure=>have:=HJ1.out;have:=HK2.out;omega
             case rel=>exact ⟨(wrap64 (x21_2+1)),(z1_),H',⟨z11_ HJ1.out HK2.out⟩,z4_⟩
            ·rw [if_neg c20] at H
             have c20b0:((bt a0 x21_2) == 95)=false:=beq_eq_false_iff_ne.mpr c20
             have c20b1:((bt a0 x21_2) != 95)=true:=bne_iff_ne.mpr c20
             obtain rfl:=sI H
             have p14:0≤(x21_2:Int):=dT (z0_)
             have q14:x21_2<(a0.size:Int):=dT (z0_)
             have hx14:=bt_at a0 x21_2
             replace p14:=eq_true p14
             replace q14:=eq_true q14
             go_wp2
             go_ret
             exact ⟨z1_,z4_⟩
         ·rw [if_neg c15] at H
          have c15b0:decide (97≤(bt a0 x21_2))=false:=dF c15
          clear c15
          by_cases c21:(bt a0 x21_2)≥48
          ·rw [if_pos c21] at H
           have c21b0:decide (48≤(bt a0 x21_2))=true:=dE c21
           clear c21
           by_cases c22:(bt a0 x21_2)≤57
           ·rw [if_pos c22] at H
            have c22b0:decide ((bt a0 x21_2)≤57)=true:=dE c22
            clear c22
            have H':=aM H
            clear H
            have p14:0≤(x21_2:Int):=dT (z0_)
            have q14:x21_2<(a0.size:Int):=dT (z0_)
            have hx14:=bt_at a0 x21_2
            replace p14:=eq_true p14
            replace q14:=eq_true q14
            go_wp2
            go_roundg k2
            case measure=>have:=HJ1.out;have:=HK2.out;omega
            case rel=>exact ⟨(wrap64 (x21_2+1)),(z1_),H',⟨z11_ HJ1.out HK2.out⟩,z4_⟩
           ·rw [if_neg c22] at H
            have c22b0:decide ((bt a0 x21_2)≤57)=false:=dF c22
            clear c22
            by_cases c23:((bt a0 x21_2)=95)
            ·rw [if_pos c23] at H
             have c23b0:((bt a0 x21_2) == 95)=true:=beq_iff_eq.mpr c23
             have c23b1:((bt a0 x21_2) != 95)=false:=bne_eq_false_iff_eq.mpr c23
             clear c23
             have H':=aM H
             clear H
             have p14:0≤(x21_2:Int):=dT (z0_)
             have q14:x21_2<(a0.size:Int):=dT (z0_)
             have hx14:=bt_at a0 x21_2
             replace p14:=eq_true p14
             replace q14:=eq_true q14
             go_wp2
             go_roundg k2
             case measure=>have:=HJ1.out;have:=HK2.out;omega
             case rel=>exact ⟨(wrap64 (x21_2+1)),(z1_),H',⟨z11_ HJ1.out HK2.out⟩,z4_⟩
            ·rw [if_neg c23] at H
             have c23b0:((bt a0 x21_2) == 95)=false:=beq_eq_false_iff_ne.mpr c23
             have c23b1:((bt a0 x21_2) != 95)=true:=bne_iff_ne.mpr c23
             obtain rfl:=sI H
             have p14:0≤(x21_2:Int):=dT (z0_)
             have q14:x21_2<(a0.size:Int):=dT (z0_)
             have hx14:=bt_at a0 x21_2
             replace p14:=eq_true p14
             replace q14:=eq_true q14
             go_wp2
             go_ret
             exact ⟨z1_,z4_⟩
          ·rw [if_neg c21] at H
           have c21b0:decide (48≤(bt a0 x21_2))=false:=dF c21
           clear c21
           by_cases c24:((bt a0 x21_2)=95)
           ·rw [if_pos c24] at H
            have c24b0:((bt a0 x21_2) == 95)=true:=beq_iff_eq.mpr c24
            have c24b1:((bt a0 x21_2) != 95)=false:=bne_eq_false_iff_eq.mpr c24
            clear c24
            have H':=aM H
            clear H
            have p14:0≤(x21_2:Int):=dT (z0_)
            have q14:x21_2<(a0.size:Int):=dT (z0_)
            have hx14:=bt_at a0 x21_2
            replace p14:=eq_true p14
            replace q14:=eq_true q14
            go_wp2
            go_roundg k2
            case measure=>have:=HJ1.out;have:=HK2.out;omega
            case rel=>exact ⟨(wrap64 (x21_2+1)),(z1_),H',⟨z11_ HJ1.out HK2.out⟩,z4_⟩
           ·rw [if_neg c24] at H
            have c24b0:((bt a0 x21_2) == 95)=false:=beq_eq_false_iff_ne.mpr c24
            have c24b1:((bt a0 x21_2) != 95)=true:=bne_iff_ne.mpr c24
            obtain rfl:=sI H
            have p14:0≤(x21_2:Int):=dT (z0_)
            have q14:x21_2<(a0.size:Int):=dT (z0_)
            have hx14:=bt_at a0 x21_2
            replace p14:=eq_true p14
            replace q14:=eq_true q14
            go_wp2
            go_ret
            exact ⟨z1_,z4_⟩
        ·rw [if_neg c13] at H
         exact nO H
       ·rw [if_neg c12] at H
        exact nO H
      ·rw [if_neg c11] at H
       have c11b0:decide (x21_2<(a0.size:Int))=false:=dF c11
       clear c11
       obtain rfl:=sI H
       go_wp2
       go_ret
       exact ⟨z1_,z4_⟩

end Go.Proofs.Ytlglglbjckpnbaa.P
