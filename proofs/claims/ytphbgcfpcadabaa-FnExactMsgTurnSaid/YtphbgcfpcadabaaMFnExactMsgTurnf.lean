/- For all messages, kinds and sets the program's MsgTurn and the reference's return the same, of its own memory, and leave what they are given. No condition. (Part 6 of 6: written by programs of this workplace and by hand, merged.) -/
import Derived.Test.YtphbgcfpcadabaaMFnExactMsgTurne
import Derived.Test.YtphbgcfpcadabaaMFnExactMsgTurna
import Derived.Test.YtphbgcfpcadabaaMFnExactMsgTurnb
import Derived.Test.YtphbgcfpcadabaaMFnExactMsgTurnc
import Derived.Test.YtphbgcfpcadabaaMFnExactMsgTurnd
import Derived.Test.YtphbgcfpcadabaaRows
import Derived.WalkKit
import Derived.ProofKit
import Derived.OpenShut
import Derived.ShutString
import Derived.ChangeOld
import Derived.Below
import Derived.SizedLaws
set_option linter.unusedVariables false
set_option linter.unusedSimpArgs false

namespace Go.Proofs.Ytphbgcfpcadabaa.Q
open Go.RowKit Go.Proofs.Ytphbgcfpcadabaa.P Go.Proofs.YtphbgcfpcadabaaW.PrintWords Go.Proofs.YtphbgcfpcadabaaW.PrintMore

abbrev Mark:=S56
def isWithin (n low high:Int):Bool:=decide (low≤n) && decide (n≤high)
def isNode (n:Int):Bool:=isWithin n 1 5
def isDot (a b:Int):Bool:=isNode a && isWithin b 1 1000000
theorem l02Is_is (n a b:Int):spec_l02Is.f n a b=some (isWithin n a b):=by
  unfold spec_l02Is.f isWithin
  split
  · rename_i h;simp [show a≤n from h]
  · rename_i h;simp [show ¬ a≤n from h]
theorem l02Node_is (n:Int):spec_l02Node.f n=some (isNode n):=by simp [spec_l02Node.f,l02Is_is,isNode]
theorem l02Dot_is (a b:Int):spec_l02Dot.f a b=some (isDot a b):=by
  simp only [spec_l02Dot.f,l02Node_is,l02Is_is,isDot,Option.bind_some]
  cases isNode a <;> simp
theorem within_is (n a b:Int):impl_within.f n a b=some (isWithin n a b):=by
  unfold impl_within.f isWithin
  split
  · rename_i h;simp [show a≤n from h]
  · rename_i h;simp [show ¬ a≤n from h]
theorem isNode_is (n:Int):impl_isNode.f n=some (isNode n):=by simp [impl_isNode.f,within_is,isNode]
theorem isDot_is (a b:Int):impl_isDot.f a b=some (isDot a b):=by
  simp only [impl_isDot.f,isNode_is,within_is,isDot,Option.bind_some]
  cases isNode a <;> simp
/-- Dots whose nodes rise from above p. -/
def okFrom:Int→List Mark→Bool
  | _,[]=>true
  | p,m :: r=>isDot m.f0 m.f1 && (decide (p<m.f0) && okFrom m.f0 r)
def seenOk (v:List Mark):Bool:=okFrom 0 v
theorem isDot_iff (a b:Int):isDot a b=true ↔ (1≤a∧a≤5)∧1≤b∧b≤1000000:=by simp [isDot,isNode,isWithin]
/-- The node ahead of place i. -/
def prevAt (l:List Mark) (i:Nat):Int:=if i=0 then 0 else (l.getD (i-1) z56).f0
theorem prevAt_succ {l:List Mark} {i:Nat} {m:Mark} (h:l.getD i z56=m):prevAt l (i+1)=m.f0:=by
  simp only [prevAt,Nat.add_sub_cancel,h]
  simp
theorem impl_seenRight_l0 (l:List Mark) (hl:l.length≤4611686018427387904):∀ (s:List Mark) (i:Nat),l.drop i=s→i≤l.length→0≤prevAt l i →
    Ev (fun k=>impl_seenRight.l0 k l l (l.length:Int) (i:Int)) (okFrom (prevAt l i) s)
  | [],i,h,hi,hp=>by
    have:=dropNil' h hi
    refine Ev.step (f:=fun _=>some true) (fun k=>?_) (Ev.now _)
    simp only [impl_seenRight.l0]
    rw [if_neg (by omega)]
  | m :: s,i,h,hi,hp=>by
    obtain ⟨h1,h2,h3⟩:=dropCons h z56
    have hr:rd_T56 l (i:Int)=m:=by simpa [rd_T56] using h2
    have ih:=fun hq=>impl_seenRight_l0 l hl s (i+1) h3 (by omega) hq
    rw [prevAt_succ h2] at ih
    by_cases hd:isDot m.f0 m.f1=true
    · have hd':=(isDot_iff _ _).1 hd
      by_cases hlt:prevAt l i<m.f0
      · have ih:=ih (by omega)
        refine Ev.step (fun k=>?_) (show Ev _ (okFrom (prevAt l i) (m :: s)) from by simp only [okFrom,hd,hlt,decide_true,Bool.true_and];exact ih)
        simp only [impl_seenRight.l0,hr,isDot_is,Option.bind_some]
        rw [if_pos (by omega),if_pos (by omega),if_pos (by omega),if_pos hd,w64 (x:=(i:Int)+1) (by omega) (by omega)]
        by_cases hi0:i=0
        · subst hi0
          rw [if_neg (by omega)];rfl
        · have hq:rd_T56 l ((i:Int)-1)=l.getD (i-1) z56:=by
            simp only [rd_T56];congr 1;omega
          rw [w64 (x:=(i:Int)-1) (by omega) (by omega),if_pos (by omega),if_pos (by omega),if_pos (by omega),hq,if_neg (by simp only [prevAt,if_neg hi0] at hlt;omega)]
          rfl
      · refine Ev.step (f:=fun _=>some false) (fun k=>?_) (show Ev _ (okFrom (prevAt l i) (m :: s)) from by simp only [okFrom,hd,hlt,decide_false,Bool.false_and,Bool.and_false];exact Ev.now _)
        have hi0:i≠0:=by
          intro e;subst e
          simp [prevAt] at hlt;omega
        have hq:rd_T56 l ((i:Int)-1)=l.getD (i-1) z56:=by
          simp only [rd_T56];congr 1;omega
        simp only [impl_seenRight.l0,hr,isDot_is,Option.bind_some]
        rw [if_pos (by omega),if_pos (by omega),if_pos (by omega),if_pos hd,w64 (x:=(i:Int)-1) (by omega) (by omega),if_pos (by omega),if_pos (by omega),if_pos (by omega),hq,
          if_pos (by simp only [prevAt,if_neg hi0] at hlt;omega)]
    · refine Ev.step (f:=fun _=>some false) (fun k=>?_) (show Ev _ (okFrom (prevAt l i) (m :: s)) from by simp only [okFrom,Bool.eq_false_iff.mpr hd,Bool.false_and];exact Ev.now _)
      simp only [impl_seenRight.l0,hr,isDot_is,Option.bind_some]
      rw [if_pos (by omega),if_pos (by omega),if_pos (by omega),if_neg hd]
theorem impl_seenRight_ev (l:List Mark) (hl:l.length≤4611686018427387904):Ev (fun k=>impl_seenRight.f k l) (seenOk l) :=
  impl_seenRight_l0 l hl l 0 rfl (by omega) (by simp [prevAt])
theorem spec_SeenRight_l0 (l:List Mark) (hl:l.length≤4611686018427387904):∀ (s:List Mark) (i:Nat),l.drop i=s→i≤l.length→(i:Int)≤prevAt l i→prevAt l i≤5 →
    Ev (fun k=>spec_SeenRight.l0 k l (i:Int)) (okFrom (prevAt l i) s)
  | [],i,h,hi,hp,hp5=>by
    have:=dropNil' h hi
    refine Ev.step (f:=fun k=>spec_SeenRight.j1 k l (i:Int) false) (fun k=>?_) (Ev.step (f:=fun _=>some true) (fun k=>?_) (Ev.now _))
    · simp only [spec_SeenRight.l0]
      rw [if_neg (by omega)]
    · simp only [spec_SeenRight.j1]
      rw [if_neg (by simp)]
      congr 1
      simp;omega
  | m :: s,i,h,hi,hp,hp5=>by
    obtain ⟨h1,h2,h3⟩:=dropCons h z56
    have hr:rd_T56 l (i:Int)=m:=by simpa [rd_T56] using h2
    have ih:=fun hq=>spec_SeenRight_l0 l hl s (i+1) h3 (by omega) hq
    rw [prevAt_succ h2] at ih
    have hj:decide ((i:Int)≤5)=true:=by simp;omega
    have hl0:∀ k,spec_SeenRight.l0 (k+1) l (i:Int)=spec_SeenRight.j1 k l (i:Int) true:=fun k=>by
      simp only [spec_SeenRight.l0]
      rw [if_pos (by omega),hj]
    by_cases hd:isDot m.f0 m.f1=true
    · have hd':=(isDot_iff _ _).1 hd
      by_cases hlt:prevAt l i<m.f0
      · have ih:=ih (by omega) (by omega)
        refine Ev.step hl0 (Ev.step (fun k=>?_) (show Ev _ (okFrom (prevAt l i) (m :: s)) from by simp only [okFrom,hd,hlt,decide_true,Bool.true_and];exact ih))
        simp only [spec_SeenRight.j1,hr,l02Dot_is,Option.bind_some]
        rw [if_pos trivial,if_pos (by omega),if_pos (by omega),if_pos hd,w64 (x:=(i:Int)+1) (by omega) (by omega)]
        by_cases hi0:i=0
        · subst hi0
          rw [if_neg (by omega)];rfl
        · have hq:rd_T56 l ((i:Int)-1)=l.getD (i-1) z56:=by
            simp only [rd_T56];congr 1;omega
          rw [w64 (x:=(i:Int)-1) (by omega) (by omega),if_pos (by omega),if_pos (by omega),if_pos (by omega),hq,if_neg (by simp only [prevAt,if_neg hi0] at hlt;omega)]
          rfl
      · refine Ev.step hl0 (Ev.step (f:=fun _=>some false) (fun k=>?_) (show Ev _ (okFrom (prevAt l i) (m :: s)) from by simp only [okFrom,hd,hlt,decide_false,Bool.false_and,Bool.and_false];exact Ev.now _))
        have hi0:i≠0:=by
          intro e;subst e
          simp [prevAt] at hlt;omega
        have hq:rd_T56 l ((i:Int)-1)=l.getD (i-1) z56:=by
          simp only [rd_T56];congr 1;omega
        simp only [spec_SeenRight.j1,hr,l02Dot_is,Option.bind_some]
        rw [if_pos trivial,if_pos (by omega),if_pos (by omega),if_pos hd,w64 (x:=(i:Int)-1) (by omega) (by omega),if_pos (by omega),if_pos (by omega),if_pos (by omega),hq,
          if_pos (by simp only [prevAt,if_neg hi0] at hlt;omega)]
    · refine Ev.step hl0 (Ev.step (f:=fun _=>some false) (fun k=>?_) (show Ev _ (okFrom (prevAt l i) (m :: s)) from by simp only [okFrom,Bool.eq_false_iff.mpr hd,Bool.false_and];exact Ev.now _))
      simp only [spec_SeenRight.j1,hr,l02Dot_is,Option.bind_some]
      rw [if_pos trivial,if_pos (by omega),if_pos (by omega),if_neg hd]
theorem spec_SeenRight_ev (l:List Mark) (hl:l.length≤4611686018427387904):Ev (fun k=>spec_SeenRight.f k l) (seenOk l) :=
  spec_SeenRight_l0 l hl l 0 rfl (by omega) (by simp [prevAt]) (by simp [prevAt])
end Go.Proofs.Ytphbgcfpcadabaa.Q

namespace Go.Proofs.Ytphbgcfpcadabaa.Q
open Go.RowKit Go.Proofs.Ytphbgcfpcadabaa.P Go.Proofs.YtphbgcfpcadabaaW.PrintWords Go.Proofs.YtphbgcfpcadabaaW.PrintMore

abbrev LMark:=S100
def toMark (m:LMark):Mark:=⟨m.f0,m.f1⟩
theorem szMarkS_is (l:List LMark) (n:Int) (h0:0≤n) (h1:n≤1048576) (hl:l.length≤9223372036854775807) :
    laws_szMarkS.f l n=some (if n<(l.length:Int) then -1 else n-(l.length:Int)):=by
  unfold laws_szMarkS.f
  rw [w64 (by omega) (by omega)]
  split
  · rw [if_pos (by omega)]
  · rw [if_neg (by omega)]
theorem toMarkS_l0 (l:List LMark) (hl:l.length≤1048576):∀ (s:List LMark) (i:Nat),l.drop i=s→i≤l.length→∀ (acc:List Mark),acc.length=l.length→acc.take i=(l.take i).map toMark →
    Ev (fun k=>laws_toMarkS.l0 k l acc (i:Int)) (l.map toMark)
  | [],i,h,hi,acc,ha,hc=>by
    have:=dropNil' h hi
    refine Ev.step (f:=fun _=>some (l.map toMark)) (fun k=>?_) (Ev.now _)
    simp only [laws_toMarkS.l0]
    rw [if_neg (by omega)]
    rw [← this,List.take_of_length_le (by omega),List.take_length] at hc
    rw [hc]
  | m :: s,i,h,hi,acc,ha,hc=>by
    obtain ⟨h1,h2,h3⟩:=dropCons h z100
    have hr:rd_T100 l (i:Int)=m:=by simpa [rd_T100] using h2
    have hm:l[i]'h1=m:=by
      rw [List.getD_eq_getElem?_getD,List.getElem?_eq_getElem h1] at h2;exact h2
    refine Ev.step (fun k=>?_) (toMarkS_l0 l hl s (i+1) h3 (by omega) (acc.set i (toMark m)) (by simpa using ha) (by
      rw [List.take_succ_eq_append_getElem (by simp;omega),List.take_succ_eq_append_getElem h1,List.map_append,List.take_set_of_le (by omega),hc]
      simp [hm]))
    simp only [laws_toMarkS.l0,laws_toMark.f,hr,Option.bind_some,Int.toNat_natCast]
    rw [if_pos (by omega),if_pos (by omega),if_pos (by omega),w64 (by omega) (by omega)]
    rfl
theorem toMarkS_ev (l:List LMark) (hl:l.length≤1048576):Ev (fun k=>laws_toMarkS.f k l) (l.map toMark):=by
  unfold laws_toMarkS.f
  refine evPos (by omega) (evPos (by omega) ?_)
  exact toMarkS_l0 l hl l 0 rfl (by omega) _ (by simp) (by simp)
theorem eqMark_refl (a b:Int):laws_eqMark.f a b a b=some true:=by simp [laws_eqMark.f]
theorem eqMarkS_l0 (l:List Mark) (hl:l.length≤4611686018427387904):∀ (s:List Mark) (i:Nat),l.drop i=s→i≤l.length →
    Ev (fun k=>laws_eqMarkS.l0 k l l (i:Int)) true
  | [],i,h,hi=>by
    have:=dropNil' h hi
    refine Ev.step (f:=fun _=>some true) (fun k=>?_) (Ev.now _)
    simp only [laws_eqMarkS.l0]
    rw [if_neg (by omega)]
  | m :: s,i,h,hi=>by
    obtain ⟨h1,h2,h3⟩:=dropCons h z56
    refine Ev.step (fun k=>?_) (eqMarkS_l0 l hl s (i+1) h3 (by omega))
    simp only [laws_eqMarkS.l0,eqMark_refl,Option.bind_some]
    rw [if_pos (by omega),if_pos (by omega),if_pos (by omega),if_pos trivial,w64 (by omega) (by omega)]
    rfl
theorem eqMarkS_ev (l:List Mark) (hl:l.length≤4611686018427387904):Ev (fun k=>laws_eqMarkS.f k l l) true:=by
  unfold laws_eqMarkS.f
  exact evPos rfl (eqMarkS_l0 l hl l 0 rfl (by omega))
end Go.Proofs.Ytphbgcfpcadabaa.Q

namespace Go.Proofs.Ytphbgcfpcadabaa.P
open Go.RowKit Go.Proofs.YtphbgcfpcadabaaW.PrintWords Go.Proofs.YtphbgcfpcadabaaW.PrintLast Go.Proofs.YtphbgcfpcadabaaW.PrintMore
attribute [local go_sem] max2_int min2_int max_two min_two max_three min_three max_four min_four   -- for this text's walks alone
set_option linter.unusedVariables false
set_option linter.unusedSimpArgs false

/-! ### impl_isLong_1: function 104 -/
def impl_isLong_1.f (a0:ByteArray):Option (Bool):=some (decide ((a0.size:Int)>8000))

/-! ### slices_IndexFunc_string_string_impl_isLong_1: function 112 -/
def slices_IndexFunc_string_string_impl_isLong_1.l0:Nat→List ByteArray→Int→Int→Option (Int)
 | 0,_,_,_=>none
 | k+1,x0,x7,x8=>if x8<x7 then (if 0≤x8 then (if x8<(x0.length:Int) then ((impl_isLong_1.f (rdOf ByteArray.empty x0 x8)).bind fun t826=>(if t826=true then (some x8) else (slices_IndexFunc_string_string_impl_isLong_1.l0 k x0 x7 (wrap64 (x8+1))))) else (none)) else (none)) else (some (-1))
def slices_IndexFunc_string_string_impl_isLong_1.f (k:Nat) (l0:List ByteArray)  : Option (Int):=slices_IndexFunc_string_string_impl_isLong_1.l0 k l0 (l0.length:Int) 0
theorem slices_IndexFunc_string_string_impl_isLong_1.mono_l:∀ k,(∀ y0 y1 y2,LeO (slices_IndexFunc_string_string_impl_isLong_1.l0 k y0 y1 y2) (slices_IndexFunc_string_string_impl_isLong_1.l0 (k+1) y0 y1 y2))
 | 0=>fun _ _ _ r h=>by simp [slices_IndexFunc_string_string_impl_isLong_1.l0] at h
 | k+1=>by
  have ih0:=slices_IndexFunc_string_string_impl_isLong_1.mono_l k
  ·intro y0 y1 y2
   unfold slices_IndexFunc_string_string_impl_isLong_1.l0
   repeat' first
   | (with_reducible exact ih0 _ _ _)
   | (with_reducible exact LeO.refl _)
   | (with_reducible exact LeO.none _)
   | (with_reducible refine LeO.ite ?_ ?_)
   | (with_reducible refine LeO.bind ?_ (fun _=>?_))
   | exact ih0 _ _ _
   | exact LeO.none _
   | refine LeO.ite ?_ ?_
   | refine LeO.bind ?_ (fun _=>?_)
theorem slices_IndexFunc_string_string_impl_isLong_1.mono:∀ a0 k,LeO (slices_IndexFunc_string_string_impl_isLong_1.f k a0) (slices_IndexFunc_string_string_impl_isLong_1.f (k+1) a0):=by
 intro a0 k
 have ih0:=slices_IndexFunc_string_string_impl_isLong_1.mono_l k
 unfold slices_IndexFunc_string_string_impl_isLong_1.f
 repeat' first
   | (with_reducible exact ih0 _ _ _)
   | (with_reducible exact LeO.refl _)
   | (with_reducible exact LeO.none _)
   | (with_reducible refine LeO.ite ?_ ?_)
   | (with_reducible refine LeO.bind ?_ (fun _=>?_))
   | exact ih0 _ _ _
   | exact LeO.none _
   | refine LeO.ite ?_ ?_
   | refine LeO.bind ?_ (fun _=>?_)

/-! ### slices_ContainsFunc_string_string_impl_isLong_1: function 103 -/
def slices_ContainsFunc_string_string_impl_isLong_1.f (k:Nat) (l0:List ByteArray)  : Option (Bool):=(slices_IndexFunc_string_string_impl_isLong_1.f k l0).bind fun t827=>(some (decide (t827≥0)))
theorem slices_ContainsFunc_string_string_impl_isLong_1.mono:∀ a0 k,LeO (slices_ContainsFunc_string_string_impl_isLong_1.f k a0) (slices_ContainsFunc_string_string_impl_isLong_1.f (k+1) a0):=by
 intro a0 k
 unfold slices_ContainsFunc_string_string_impl_isLong_1.f
 repeat' first
   | (with_reducible exact slices_IndexFunc_string_string_impl_isLong_1.mono _ _)
   | (with_reducible exact LeO.refl _)
   | (with_reducible exact LeO.none _)
   | (with_reducible refine LeO.ite ?_ ?_)
   | (with_reducible refine LeO.bind ?_ (fun _=>?_))
   | exact slices_IndexFunc_string_string_impl_isLong_1.mono _ _
   | exact LeO.none _
   | refine LeO.ite ?_ ?_
   | refine LeO.bind ?_ (fun _=>?_)

/-! ### impl_isLong: function 76 -/
def impl_isLong.f (k:Nat) (l0:List ByteArray):Option (Bool):=(slices_ContainsFunc_string_string_impl_isLong_1.f k l0).bind fun t828=>(some t828)
theorem impl_isLong.mono:∀ a0 k,LeO (impl_isLong.f k a0) (impl_isLong.f (k+1) a0):=by
 intro a0 k
 unfold impl_isLong.f
 repeat' first
   | (with_reducible exact slices_ContainsFunc_string_string_impl_isLong_1.mono _ _)
   | (with_reducible exact LeO.refl _)
   | (with_reducible exact LeO.none _)
   | (with_reducible refine LeO.ite ?_ ?_)
   | (with_reducible refine LeO.bind ?_ (fun _=>?_))
   | exact slices_ContainsFunc_string_string_impl_isLong_1.mono _ _
   | exact LeO.none _
   | refine LeO.ite ?_ ?_
   | refine LeO.bind ?_ (fun _=>?_)

/-! ### spec_l01Max: function 102 -/
def spec_l01Max.f (a0:Int) (a1:Int):Option (Int):=if a0>a1 then (some a0) else (some a1)

/-! ### spec_l02Join: function 70 -/
def spec_l02Join.l0:Nat→List (S56)→List (S56)→List (S56)→Int→Option ((List (S56)))
 | 0,_,_,_,_=>none
 | k+1,x0,x1,x5,x6=>if x6≤5 then ((spec_l02Of.f k x0 x6).bind fun t515=>((spec_l02Of.f k x1 x6).bind fun t516=>((spec_l01Max.f t515 t516).bind fun t517=>(if t517>0 then (if x5.length<8796093022208 then (spec_l02Join.l0 k x0 x1 (x5 ++ [(⟨x6,t517⟩:S56)]) (wrap64 (x6+1))) else (none)) else (spec_l02Join.l0 k x0 x1 x5 (wrap64 (x6+1))))))) else (some x5)
def spec_l02Join.f (k:Nat) (l0:List (S56)) (l1:List (S56)):Option ((List (S56))):=spec_l02Join.l0 k l0 l1 (([]:List (S56))) 1
theorem spec_l02Join.mono_l:∀ k,(∀ y0 y1 y2 y3,LeO (spec_l02Join.l0 k y0 y1 y2 y3) (spec_l02Join.l0 (k+1) y0 y1 y2 y3))
 | 0=>fun _ _ _ _ r h=>by simp [spec_l02Join.l0] at h
 | k+1=>by
  have ih0:=spec_l02Join.mono_l k
  ·intro y0 y1 y2 y3
   unfold spec_l02Join.l0
   repeat' first
   | (with_reducible exact ih0 _ _ _ _)
   | (with_reducible exact spec_l02Of.mono _ _ _)
   | (with_reducible exact LeO.refl _)
   | (with_reducible exact LeO.none _)
   | (with_reducible refine LeO.ite ?_ ?_)
   | (with_reducible refine LeO.bind ?_ (fun _=>?_))
   | exact ih0 _ _ _ _
   | exact spec_l02Of.mono _ _ _
   | exact LeO.none _
   | refine LeO.ite ?_ ?_
   | refine LeO.bind ?_ (fun _=>?_)
theorem spec_l02Join.mono:∀ a0 a1 k,LeO (spec_l02Join.f k a0 a1) (spec_l02Join.f (k+1) a0 a1):=by
 intro a0 a1 k
 have ih0:=spec_l02Join.mono_l k
 unfold spec_l02Join.f
 repeat' first
   | (with_reducible exact ih0 _ _ _ _)
   | (with_reducible exact spec_l02Of.mono _ _ _)
   | (with_reducible exact LeO.refl _)
   | (with_reducible exact LeO.none _)
   | (with_reducible refine LeO.ite ?_ ?_)
   | (with_reducible refine LeO.bind ?_ (fun _=>?_))
   | exact ih0 _ _ _ _
   | exact spec_l02Of.mono _ _ _
   | exact LeO.none _
   | refine LeO.ite ?_ ?_
   | refine LeO.bind ?_ (fun _=>?_)

/-! ### impl_seenJoin: function 62 -/
def impl_seenJoin.l0:Nat→List (S56)→List (S56)→List (S56)→Int→Option ((List (S56)))
 | 0,_,_,_,_=>none
 | k+1,x0,x1,x5,x6=>if x6≤5 then ((impl_seenOf.f k x0 x6).bind fun t601=>((impl_seenOf.f k x1 x6).bind fun t602=>(if (mx t601 t602)>0 then (if x5.length<8796093022208 then (impl_seenJoin.l0 k x0 x1 (x5 ++ [(⟨x6,mx t601 t602⟩:S56)]) (wrap64 (x6+1))) else (none)) else (impl_seenJoin.l0 k x0 x1 x5 (wrap64 (x6+1)))))) else (some x5)
def impl_seenJoin.f (k:Nat) (l0:List (S56)) (l1:List (S56)):Option ((List (S56))):=impl_seenJoin.l0 k l0 l1 ([]:List (S56)) 1
theorem impl_seenJoin.mono_l:∀ k,(∀ y0 y1 y2 y3,LeO (impl_seenJoin.l0 k y0 y1 y2 y3) (impl_seenJoin.l0 (k+1) y0 y1 y2 y3))
 | 0=>fun _ _ _ _ r h=>by simp [impl_seenJoin.l0] at h
 | k+1=>by
  have ih0:=impl_seenJoin.mono_l k
  ·intro y0 y1 y2 y3
   unfold impl_seenJoin.l0
   repeat' first
   | (with_reducible exact ih0 _ _ _ _)
   | (with_reducible exact impl_seenOf.mono _ _ _)
   | (with_reducible exact LeO.refl _)
   | (with_reducible exact LeO.none _)
   | (with_reducible refine LeO.ite ?_ ?_)
   | (with_reducible refine LeO.bind ?_ (fun _=>?_))
   | exact ih0 _ _ _ _
   | exact impl_seenOf.mono _ _ _
   | exact LeO.none _
   | refine LeO.ite ?_ ?_
   | refine LeO.bind ?_ (fun _=>?_)
theorem impl_seenJoin.mono:∀ a0 a1 k,LeO (impl_seenJoin.f k a0 a1) (impl_seenJoin.f (k+1) a0 a1):=by
 intro a0 a1 k
 have ih0:=impl_seenJoin.mono_l k
 unfold impl_seenJoin.f
 repeat' first
   | (with_reducible exact ih0 _ _ _ _)
   | (with_reducible exact impl_seenOf.mono _ _ _)
   | (with_reducible exact LeO.refl _)
   | (with_reducible exact LeO.none _)
   | (with_reducible refine LeO.ite ?_ ?_)
   | (with_reducible refine LeO.bind ?_ (fun _=>?_))
   | exact ih0 _ _ _ _
   | exact impl_seenOf.mono _ _ _
   | exact LeO.none _
   | refine LeO.ite ?_ ?_
   | refine LeO.bind ?_ (fun _=>?_)
end Go.Proofs.Ytphbgcfpcadabaa.P

namespace Go.Proofs.Ytphbgcfpcadabaa.Q
open Go.RowKit Go.Proofs.Ytphbgcfpcadabaa.P Go.Proofs.YtphbgcfpcadabaaW.PrintWords Go.Proofs.YtphbgcfpcadabaaW.PrintMore

def seenOf:List Mark→Int→Int
  | [],_=>0
  | m :: r,n=>if m.f0=n then m.f1 else seenOf r n
theorem l02Of_l0 (l:List Mark) (n:Int) (hl:l.length≤4611686018427387904):∀ (s:List Mark) (i:Nat),l.drop i=s→i≤l.length→Ev (fun k=>spec_l02Of.l0 k l n (i:Int)) (seenOf s n)
  | [],i,h,hi=>by
    have:=dropNil' h hi
    refine Ev.step (f:=fun _=>some 0) (fun k=>?_) (Ev.now _)
    simp only [spec_l02Of.l0]
    rw [if_neg (by omega)]
  | m :: s,i,h,hi=>by
    obtain ⟨h1,h2,h3⟩:=dropCons h z56
    have hr:rd_T56 l (i:Int)=m:=by simpa [rd_T56] using h2
    refine Ev.step (f:=fun k=>if m.f0=n then some m.f1 else spec_l02Of.l0 k l n ((i+1:Nat):Int)) (fun k=>?_) ?_
    · simp only [spec_l02Of.l0,hr]
      rw [if_pos (by omega),if_pos (by omega),w64 (by omega) (by omega)]
      rfl
    · simp only [seenOf]
      refine evIte (fun h=>?_) (fun h=>?_)
      · rw [if_pos h];exact Ev.now _
      · rw [if_neg h];exact l02Of_l0 l n hl s (i+1) h3 (by omega)
theorem l02Of_ev (l:List Mark) (n:Int) (hl:l.length≤4611686018427387904):Ev (fun k=>spec_l02Of.f k l n) (seenOf l n):=l02Of_l0 l n hl l 0 rfl (by omega)
theorem seenOf_l0 (l:List Mark) (n:Int) (hl:l.length≤4611686018427387904):∀ (s:List Mark) (i:Nat),l.drop i=s→i≤l.length→Ev (fun k=>impl_seenOf.l0 k n l (l.length:Int) (i:Int)) (seenOf s n)
  | [],i,h,hi=>by
    have:=dropNil' h hi
    refine Ev.step (f:=fun _=>some 0) (fun k=>?_) (Ev.now _)
    simp only [impl_seenOf.l0]
    rw [if_neg (by omega)]
  | m :: s,i,h,hi=>by
    obtain ⟨h1,h2,h3⟩:=dropCons h z56
    have hr:rd_T56 l (i:Int)=m:=by simpa [rd_T56] using h2
    refine Ev.step (f:=fun k=>if m.f0=n then some m.f1 else impl_seenOf.l0 k n l (l.length:Int) ((i+1:Nat):Int)) (fun k=>?_) ?_
    · simp only [impl_seenOf.l0,hr]
      rw [if_pos (by omega),if_pos (by omega),if_pos (by omega),w64 (by omega) (by omega)]
      rfl
    · simp only [seenOf]
      refine evIte (fun h=>?_) (fun h=>?_)
      · rw [if_pos h];exact Ev.now _
      · rw [if_neg h];exact seenOf_l0 l n hl s (i+1) h3 (by omega)
theorem seenOf_ev (l:List Mark) (n:Int) (hl:l.length≤4611686018427387904):Ev (fun k=>impl_seenOf.f k l n) (seenOf l n):=seenOf_l0 l n hl l 0 rfl (by omega)
def seenHas (l:List Mark) (a b:Int):Bool:=decide (b≤seenOf l a)
def seenHasOut (l:List Mark) (a b:Int):Bool:=seenOk l && (isDot a b && seenHas l a b)
theorem seenHas_ev (l:List Mark) (a b:Int) (hl:l.length≤4611686018427387904):Ev (fun k=>impl_seenHas.f k l a b) (seenHas l a b):=Ev.bind (seenOf_ev l a hl) (Ev.now _)
theorem spec_SeenHas_ev (l:List Mark) (a b:Int) (hl:l.length≤4611686018427387904):Ev (fun k=>spec_SeenHas.f k l a b) (seenHasOut l a b):=by
  unfold spec_SeenHas.f seenHasOut
  refine Ev.bind (spec_SeenRight_ev l hl) ?_
  cases seenOk l with
  | false=>exact evNeg (by simp) (Ev.now _)
  | true =>
    refine evPos rfl (evBind1 (l02Dot_is a b) ?_)
    cases isDot a b with
    | false=>exact evNeg (by simp) (Ev.now _)
    | true=>exact evPos rfl (Ev.bind (l02Of_ev l a hl) (Ev.now _))
end Go.Proofs.Ytphbgcfpcadabaa.Q

namespace Go.Proofs.Ytphbgcfpcadabaa.Q
open Go.RowKit Go.Proofs.Ytphbgcfpcadabaa.P Go.Proofs.YtphbgcfpcadabaaW.PrintWords Go.Proofs.YtphbgcfpcadabaaW.PrintMore

abbrev Sib:=S91
def dotLess (a b c d:Int):Bool:=decide (a<c) || (decide (a=c) && decide (b<d))
def dataOk (t:ByteArray) (gone:Bool):Bool:=decide (t.size≤16) && (!gone || decide (t.toList=[]))
def sibOk (v:List Mark) (x:Sib):Bool:=isDot x.f0.f0 x.f0.f1 && (seenHas v x.f0.f0 x.f0.f1 && dataOk x.f2 x.f1)
def sibsFrom (v:List Mark):Option Sib→List Sib→Bool
  | _,[]=>true
  | none,x :: r=>sibOk v x && sibsFrom v (some x) r
  | some y,x :: r=>sibOk v x && (dotLess y.f0.f0 y.f0.f1 x.f0.f0 x.f0.f1 && sibsFrom v (some x) r)
def setOk (v:List Mark) (s:List Sib):Bool:=seenOk v && (decide (s.length≤8) && sibsFrom v none s)
/-- The sibling ahead of place i. -/
def prevSib (l:List Sib) (i:Nat):Option Sib:=if i=0 then none else some (l.getD (i-1) z91)
theorem prevSib_succ {l:List Sib} {i:Nat} {x:Sib} (h:l.getD i z91=x):prevSib l (i+1)=some x:=by
  simp only [prevSib,Nat.add_sub_cancel,h]
  simp
theorem l03Less_is (a b c d:Int):spec_l03Less.f a b c d=some (dotLess a b c d):=by
  unfold spec_l03Less.f dotLess
  by_cases h:a<c
  · rw [if_pos h];simp [h]
  · rw [if_neg h]
    by_cases h2:a=c
    · rw [if_pos h2];simp [h2]
    · rw [if_neg h2];simp [h,h2]
def cmpI (a b:Int):Int:=if a<b then -1 else if a>b then 1 else 0
theorem Compare_is (a b:Int):cmp_Compare_int64.f a b=some (cmpI a b):=by
  simp only [cmp_Compare_int64.f,cmp_isNaN_int64.f,cmpI]
  by_cases h:a<b
  · simp [h]
  · by_cases h2:a>b
    · simp [h,h2]
    · simp [h,h2]
theorem Or_ev (x y:Int):Ev (fun k=>cmp_Or_int.f k [x,y]) (if x=0 then y else x):=by
  unfold cmp_Or_int.f
  have hx:rd [x,y] 0=x:=rfl
  have hy:rd [x,y] 1=y:=rfl
  have hl:(([x,y]:List Int).length:Int)=2:=rfl
  rw [hl]
  refine Ev.step (f:=fun k=>if x=0 then cmp_Or_int.l0 k 0 [x,y] 2 1 else some x) (fun k=>?_) ?_
  · simp only [cmp_Or_int.l0,hx,hl]
    rw [if_pos (by omega),if_pos (by omega),if_pos (by omega),w64 (by omega) (by omega)]
    rfl
  · refine evIte (fun h=>?_) (fun h=>?_)
    · rw [if_pos h]
      refine Ev.step (f:=fun k=>if y=0 then cmp_Or_int.l0 k 0 [x,y] 2 2 else some y) (fun k=>?_) ?_
      · simp only [cmp_Or_int.l0,hy,hl]
        rw [if_pos (by omega),if_pos (by omega),if_pos (by omega),w64 (by omega) (by omega)]
        rfl
      · refine evIte (fun h=>?_) (fun h=>Ev.now _)
        refine Ev.step (f:=fun _=>some y) (fun k=>?_) (Ev.now _)
        simp only [cmp_Or_int.l0]
        rw [if_neg (by omega),h]
    · rw [if_neg h];exact Ev.now _
def cmpDots (a b c d:Int):Int:=if cmpI a c=0 then cmpI b d else cmpI a c
theorem compareDots_ev (a b c d:Int):Ev (fun k=>impl_compareDots.f k a b c d) (cmpDots a b c d):=by
  unfold impl_compareDots.f
  exact evBind1 (Compare_is a c) (evBind1 (Compare_is b d) (Ev.bind (Or_ev _ _) (Ev.now _)))
theorem cmpDots_ge (a b c d:Int):decide (cmpDots a b c d≥0)=!dotLess a b c d:=by
  unfold cmpDots cmpI dotLess
  by_cases h1:a<c
  · simp [h1]
  · by_cases h2:a>c
    · have:¬ a=c:=by omega
      simp [h1,h2,this]
    · have:a=c:=by omega
      subst this
      by_cases h3:b<d
      · simp [h3]
      · by_cases h4:b>d
        · simp [h3,h4]
        · simp [h3,h4]
theorem isData_is (t:ByteArray) (g:Bool):impl_isData.f t g=some (dataOk t g):=by
  unfold impl_isData.f dataOk
  by_cases h:(t.size:Int)≤16
  · have h':t.size≤16:=by omega
    rw [if_pos h]
    cases g with
    | true =>
      by_cases e:t.toList=[]
      · simp [h',e]
      · simp [h',e]
    | false=>simp [h']
  · have h':¬ t.size≤16:=by omega
    rw [if_neg h];simp [h']
theorem impl_SetRight_l0 (v:List Mark) (hv:v.length≤4611686018427387904) (l:List Sib) (hl:l.length≤1048576):∀ (s:List Sib) (i:Nat),l.drop i=s→i≤l.length →
    Ev (fun k=>impl_SetRight.l0 k l (l.length:Int) (i:Int) v l) (sibsFrom v (prevSib l i) s)
  | [],i,h,hi=>by
    have:=dropNil' h hi
    refine Ev.step (f:=fun _=>some true) (fun k=>?_) (by simp only [sibsFrom];exact Ev.now _)
    simp only [impl_SetRight.l0]
    rw [if_neg (by omega)]
  | x :: s,i,h,hi=>by
    obtain ⟨h1,h2,h3⟩:=dropCons h z91
    have hr:rd_T91 l (i:Int)=x:=by simpa [rd_T91] using h2
    have ih:=impl_SetRight_l0 v hv l hl s (i+1) h3 (by omega)
    rw [prevSib_succ h2] at ih
    have hj:∀ b:Bool,Ev (fun k=>impl_SetRight.j2 k l (l.length:Int) (i:Int) b v l) (!b && sibsFrom v (some x) s):=fun b=>by
      cases b with
      | true=>exact Ev.step (f:=fun _=>some false) (fun k=>by simp [impl_SetRight.j2]) (Ev.now _)
      | false=>exact Ev.step (fun k=>by simp only [impl_SetRight.j2];rw [if_neg (by simp),w64 (x:=(i:Int)+1) (by omega) (by omega)]) (by simpa using ih)
    have main:∀ (p:Bool) (g:Nat→Option Bool),Ev g (p && sibsFrom v (some x) s)→Ev (fun k=>(impl_isDot.f x.f0.f0 x.f0.f1).bind fun t=>if t=true then ((impl_seenHas.f k v x.f0.f0 x.f0.f1).bind fun t=>if t=true then ((impl_isData.f x.f2 x.f1).bind fun t=>if t=true then g k else impl_SetRight.j2 k l (l.length:Int) (i:Int) true v l) else impl_SetRight.j2 k l (l.length:Int) (i:Int) true v l) else impl_SetRight.j2 k l (l.length:Int) (i:Int) true v l) (sibOk v x && (p && sibsFrom v (some x) s)):=by
      intro p g hg
      unfold sibOk
      refine evBind1 (isDot_is _ _) ?_
      cases isDot x.f0.f0 x.f0.f1 with
      | false=>exact evNeg (by simp) (by simpa using hj true)
      | true =>
        refine evPos rfl (Ev.bind (seenHas_ev v _ _ hv) ?_)
        cases seenHas v x.f0.f0 x.f0.f1 with
        | false=>exact evNeg (by simp) (by simpa using hj true)
        | true =>
          refine evPos rfl (evBind1 (isData_is _ _) ?_)
          cases dataOk x.f2 x.f1 with
          | false=>exact evNeg (by simp) (by simpa using hj true)
          | true=>exact evPos rfl (by simpa using hg)
    by_cases hi0:i=0
    · have hp:prevSib l i=none:=by simp [prevSib,hi0]
      rw [hp]
      have h0:¬ ((i:Int)>0):=by omega
      refine Ev.step (fun k=>?_) (show Ev _ (sibsFrom v none (x :: s)) from by
        have:=main true _ (by simpa using hj false)
        simpa [sibsFrom] using this)
      simp only [impl_SetRight.l0,hr,if_neg h0]
      rw [if_pos (by omega),if_pos (by omega),if_pos (by omega)]
    · have hp:prevSib l i=some (l.getD (i-1) z91):=by simp [prevSib,hi0]
      rw [hp]
      generalize hy:l.getD (i-1) z91=y
      have hq:rd_T91 l ((i:Int)-1)=y:=by
        rw [← hy];simp only [rd_T91];congr 1;omega
      have h0:(i:Int)>0:=by omega
      have hw:wrap64 ((i:Int)-1)=(i:Int)-1:=w64 (by omega) (by omega)
      have hA:(0:Int)≤(i:Int)-1:=by omega
      have hB:(i:Int)-1<(l.length:Int):=by omega
      refine Ev.step (fun k=>?_) (show Ev _ (sibsFrom v (some y) (x :: s)) from by
        have:=main (dotLess y.f0.f0 y.f0.f1 x.f0.f0 x.f0.f1) (fun k=>(impl_compareDots.f k y.f0.f0 y.f0.f1 x.f0.f0 x.f0.f1).bind fun t=>impl_SetRight.j2 k l (l.length:Int) (i:Int) (decide (t≥0)) v l)
          (Ev.bind (compareDots_ev _ _ _ _) (by
            have:=hj (decide (cmpDots y.f0.f0 y.f0.f1 x.f0.f0 x.f0.f1≥0))
            rw [cmpDots_ge] at this ⊢
            simpa using this))
        simpa [sibsFrom] using this)
      simp only [impl_SetRight.l0,hr,if_pos h0,hw,if_pos hA,if_pos hB,hq]
      rw [if_pos (by omega),if_pos (by omega),if_pos (by omega)]
theorem impl_SetRight_ev (v:List Mark) (l:List Sib) (hv:v.length≤4611686018427387904) (hl:l.length≤1048576):Ev (fun k=>impl_SetRight.f k v l) (setOk v l):=by
  unfold impl_SetRight.f setOk
  refine Ev.bind (impl_seenRight_ev v hv) ?_
  cases seenOk v with
  | false=>exact evNeg (by simp) (Ev.step (f:=fun _=>some false) (fun k=>by simp [impl_SetRight.j0]) (Ev.now _))
  | true =>
    refine evPos rfl ?_
    by_cases h:l.length≤8
    · have hd:decide ((l.length:Int)>8)=false:=by simp;omega
      rw [hd]
      refine Ev.step (fun k=>by simp only [impl_SetRight.j0];rw [if_neg (by simp)]) ?_
      simpa [h,prevSib] using impl_SetRight_l0 v hv l hl l 0 rfl (by omega)
    · have hd:decide ((l.length:Int)>8)=true:=by simp;omega
      rw [hd]
      exact Ev.step (f:=fun _=>some false) (fun k=>by simp [impl_SetRight.j0]) (by simp [h];exact Ev.now _)
theorem spec_SetRight_l0 (v:List Mark) (hv:v.length≤4611686018427387904) (hk:seenOk v=true) (l:List Sib) (hl:l.length≤1048576):∀ (s:List Sib) (i:Nat),l.drop i=s→i≤l.length →
    Ev (fun k=>spec_SetRight.l0 k (i:Int) v l) (sibsFrom v (prevSib l i) s)
  | [],i,h,hi=>by
    have:=dropNil' h hi
    refine Ev.step (f:=fun _=>some true) (fun k=>?_) (by simp only [sibsFrom];exact Ev.now _)
    simp only [spec_SetRight.l0]
    rw [if_neg (by omega)]
  | x :: s,i,h,hi=>by
    obtain ⟨h1,h2,h3⟩:=dropCons h z91
    have hr:rd_T91 l (i:Int)=x:=by simpa [rd_T91] using h2
    have ih:=spec_SetRight_l0 v hv hk l hl s (i+1) h3 (by omega)
    rw [prevSib_succ h2] at ih
    have hj:∀ b:Bool,Ev (fun k=>if b=true then spec_SetRight.l0 k ((i:Int)+1) v l else some false) (b && sibsFrom v (some x) s):=fun b=>by
      cases b with
      | false=>exact evNeg (by simp) (Ev.now _)
      | true=>exact evPos rfl (by simpa using ih)
    have hi1:wrap64 ((i:Int)+1)=(i:Int)+1:=w64 (by omega) (by omega)
    have main:∀ (p:Bool) (g:Nat→Option Bool),Ev g (p && sibsFrom v (some x) s)→Ev (fun k=>(spec_SeenHas.f k v x.f0.f0 x.f0.f1).bind fun t=>if t=true then (if (x.f2.size:Int)>16 then some false else (if x.f1=true then (if x.f2.toList=([]:List UInt8) then g k else some false) else g k)) else some false) (sibOk v x && (p && sibsFrom v (some x) s)):=by
      intro p g hg
      have e:seenHasOut v x.f0.f0 x.f0.f1=(isDot x.f0.f0 x.f0.f1 && seenHas v x.f0.f0 x.f0.f1):=by simp [seenHasOut,hk]
      unfold sibOk
      rw [← Bool.and_assoc (isDot _ _),← e]
      refine Ev.bind (spec_SeenHas_ev v _ _ hv) ?_
      cases seenHasOut v x.f0.f0 x.f0.f1 with
      | false=>exact evNeg (by simp) (Ev.now _)
      | true =>
        refine evPos rfl ?_
        unfold dataOk
        by_cases hs:(x.f2.size:Int)>16
        · have hs':¬ x.f2.size≤16:=by omega
          exact evPos hs (by simpa [hs'] using Ev.now false)
        · have hs':x.f2.size≤16:=by omega
          refine evNeg hs ?_
          cases hg1:x.f1 with
          | false=>exact evNeg (by simp) (by simpa [hs'] using hg)
          | true =>
            refine evPos rfl ?_
            by_cases he:x.f2.toList=[]
            · exact evPos he (by simpa [hs',he] using hg)
            · exact evNeg he (by simpa [hs',he] using Ev.now false)
    by_cases hi0:i=0
    · have hp:prevSib l i=none:=by simp [prevSib,hi0]
      rw [hp]
      have h0:¬ ((i:Int)>0):=by omega
      refine Ev.step (fun k=>?_) (show Ev _ (sibsFrom v none (x :: s)) from by
        have:=main true (fun k=>spec_SetRight.l0 k ((i:Int)+1) v l) (by simpa using ih)
        simpa [sibsFrom] using this)
      simp only [spec_SetRight.l0,hr,if_neg h0,hi1]
      rw [if_pos (by omega),if_pos (by omega)]
    · have hp:prevSib l i=some (l.getD (i-1) z91):=by simp [prevSib,hi0]
      rw [hp]
      generalize hy:l.getD (i-1) z91=y
      have hq:rd_T91 l ((i:Int)-1)=y:=by
        rw [← hy];simp only [rd_T91];congr 1;omega
      have h0:(i:Int)>0:=by omega
      have hw:wrap64 ((i:Int)-1)=(i:Int)-1:=w64 (by omega) (by omega)
      have hA:(0:Int)≤(i:Int)-1:=by omega
      have hB:(i:Int)-1<(l.length:Int):=by omega
      refine Ev.step (fun k=>?_) (show Ev _ (sibsFrom v (some y) (x :: s)) from by
        have:=main (dotLess y.f0.f0 y.f0.f1 x.f0.f0 x.f0.f1) (fun k=>(spec_l03Less.f y.f0.f0 y.f0.f1 x.f0.f0 x.f0.f1).bind fun t=>if t=true then spec_SetRight.l0 k ((i:Int)+1) v l else some false)
          (evBind1 (l03Less_is _ _ _ _) (hj (dotLess y.f0.f0 y.f0.f1 x.f0.f0 x.f0.f1)))
        simpa [sibsFrom] using this)
      simp only [spec_SetRight.l0,hr,hi1,if_pos h0,hw,if_pos hA,if_pos hB,hq]
      rw [if_pos (by omega),if_pos (by omega)]
theorem spec_SetRight_ev (v:List Mark) (l:List Sib) (hv:v.length≤4611686018427387904) (hl:l.length≤1048576):Ev (fun k=>spec_SetRight.f k v l) (setOk v l):=by
  unfold spec_SetRight.f setOk
  refine Ev.bind (spec_SeenRight_ev v hv) ?_
  cases hk:seenOk v with
  | false=>exact evNeg (by simp) (Ev.step (f:=fun _=>some false) (fun k=>by simp [spec_SetRight.j0]) (Ev.now _))
  | true =>
    refine evPos rfl ?_
    by_cases h:l.length≤8
    · have hd:decide ((l.length:Int)>8)=false:=by simp;omega
      rw [hd]
      refine Ev.step (fun k=>by simp only [spec_SetRight.j0];rw [if_neg (by simp)]) ?_
      simpa [h,prevSib] using spec_SetRight_l0 v hv hk l hl l 0 rfl (by omega)
    · have hd:decide ((l.length:Int)>8)=true:=by simp;omega
      rw [hd]
      exact Ev.step (f:=fun _=>some false) (fun k=>by simp [spec_SetRight.j0]) (by simp [h];exact Ev.now _)
end Go.Proofs.Ytphbgcfpcadabaa.Q

namespace Go.Proofs.Ytphbgcfpcadabaa.Q
open Go.RowKit Go.Proofs.Ytphbgcfpcadabaa.P Go.Proofs.YtphbgcfpcadabaaW.PrintWords Go.Proofs.YtphbgcfpcadabaaW.PrintMore

abbrev LSib:=S107
def toSib (x:LSib):Sib:=⟨toMark x.f0,x.f1,x.f2⟩
theorem szSib_is (a b:Int) (c:Bool) (t:ByteArray) (n:Int) (h0:0≤n) (h1:n≤1048576) (ht:t.size≤9223372036854775807) :
    laws_szSib.f a b c t n=some (if n<(t.size:Int) then -1 else n-(t.size:Int)):=by
  unfold laws_szSib.f
  rw [w64 (by omega) (by omega)]
  split
  · rw [if_pos (by omega)]
  · rw [if_neg (by omega)]
theorem szSibS_l0 (l:List LSib) (hl:l.length≤1048576) (hx:∀ x ∈ l,x.f2.size≤9223372036854775807):∀ (s:List LSib) (i:Nat),l.drop i=s→i≤l.length→∀ n:Int,0≤n→n≤1048576 →
    ∃ r,Ev (fun k=>laws_szSibS.l0 k l n (i:Int)) r∧r≤n∧(0≤r→∀ x ∈ s,(x.f2.size:Int)≤n)
  | [],i,h,hi,n,h0,h1=>by
    have:=dropNil' h hi
    refine ⟨n,Ev.step (f:=fun _=>some n) (fun k=>?_) (Ev.now _),by omega,by simp⟩
    simp only [laws_szSibS.l0]
    rw [if_neg (by omega)]
  | m :: s,i,h,hi,n,h0,h1=>by
    obtain ⟨g1,g2,g3⟩:=dropCons h z107
    have hr:rd_T107 l (i:Int)=m:=by simpa [rd_T107] using g2
    have hm:m ∈ l:=List.mem_of_mem_drop (by rw [h];exact List.mem_cons_self)
    have e:=szSib_is m.f0.f0 m.f0.f1 m.f1 m.f2 n h0 h1 (hx m hm)
    by_cases hn:n<(m.f2.size:Int)
    · rw [if_pos hn] at e
      refine ⟨-1,Ev.step (f:=fun _=>some (-1)) (fun k=>?_) (Ev.now _),by omega,by omega⟩
      simp only [laws_szSibS.l0,hr,e,Option.bind_some]
      rw [if_pos (by omega),if_pos (by omega),if_pos (by omega)]
    · rw [if_neg hn] at e
      obtain ⟨r,e1,e2,e3⟩:=szSibS_l0 l hl hx s (i+1) g3 (by omega) (n-(m.f2.size:Int)) (by omega) (by omega)
      refine ⟨r,Ev.step (fun k=>?_) e1,by omega,fun hr0 x hxm=>?_⟩
      · simp only [laws_szSibS.l0,hr,e,Option.bind_some]
        rw [if_pos (by omega),if_pos (by omega),if_neg (by omega),w64 (by omega) (by omega)]
        rfl
      · rcases List.mem_cons.1 hxm with rfl | hxm
        · omega
        · have:=e3 hr0 x hxm;omega
theorem szSibS_ev (l:List LSib) (hl:l.length≤9223372036854775807) (hx:∀ x ∈ l,x.f2.size≤9223372036854775807) (n:Int) (h0:0≤n) (h1:n≤1048576) :
    ∃ r,Ev (fun k=>laws_szSibS.f k l n) r∧r≤n∧(0≤r→(l.length:Int)≤n∧∀ x ∈ l,(x.f2.size:Int)≤n):=by
  unfold laws_szSibS.f
  rw [w64 (by omega) (by omega)]
  by_cases h:n-(l.length:Int)<0
  · exact ⟨-1,evPos h (Ev.now _),by omega,by omega⟩
  · obtain ⟨r,e1,e2,e3⟩:=szSibS_l0 l (by omega) hx l 0 rfl (by omega) (n-(l.length:Int)) (by omega) (by omega)
    exact ⟨r,evNeg h e1,by omega,fun h0=>⟨by omega,fun x hx=>by have:=e3 h0 x hx;omega⟩⟩
theorem szSet_ev (v:List LMark) (l:List LSib) (hv:v.length≤9223372036854775807) (hl:l.length≤9223372036854775807) (hx:∀ x ∈ l,x.f2.size≤9223372036854775807) (n:Int) (h0:0≤n) (h1:n≤1048576) :
    ∃ r,Ev (fun k=>laws_szSet.f k v l n) r∧r≤n∧(0≤r→v.length≤1048576∧l.length≤1048576∧∀ x ∈ l,x.f2.size≤1048576):=by
  unfold laws_szSet.f
  rw [szMarkS_is v n h0 h1 hv]
  simp only [Option.bind_some]
  by_cases h:n<(v.length:Int)
  · rw [if_pos h]
    exact ⟨-1,evPos (by omega) (Ev.now _),by omega,by omega⟩
  · rw [if_neg h]
    obtain ⟨r,e1,e2,e3⟩:=szSibS_ev l hl hx (n-(v.length:Int)) (by omega) (by omega)
    by_cases hr:r<0
    · exact ⟨-1,evNeg (by omega) (Ev.bind e1 (evPos hr (Ev.now _))),by omega,by omega⟩
    · refine ⟨r,evNeg (by omega) (Ev.bind e1 (evNeg hr (Ev.now _))),by omega,fun h0=>?_⟩
      obtain ⟨g1,g2⟩:=e3 h0
      exact ⟨by omega,by omega,fun x hx=>by have:=g2 x hx;omega⟩
theorem toSibS_l0 (l:List LSib) (hl:l.length≤1048576):∀ (s:List LSib) (i:Nat),l.drop i=s→i≤l.length→∀ (acc:List Sib),acc.length=l.length→acc.take i=(l.take i).map toSib →
    Ev (fun k=>laws_toSibS.l0 k l acc (i:Int)) (l.map toSib)
  | [],i,h,hi,acc,ha,hc=>by
    have:=dropNil' h hi
    refine Ev.step (f:=fun _=>some (l.map toSib)) (fun k=>?_) (Ev.now _)
    simp only [laws_toSibS.l0]
    rw [if_neg (by omega)]
    rw [← this,List.take_of_length_le (by omega),List.take_length] at hc
    rw [hc]
  | m :: s,i,h,hi,acc,ha,hc=>by
    obtain ⟨h1,h2,h3⟩:=dropCons h z107
    have hr:rd_T107 l (i:Int)=m:=by simpa [rd_T107] using h2
    have hm:l[i]'h1=m:=by
      rw [List.getD_eq_getElem?_getD,List.getElem?_eq_getElem h1] at h2;exact h2
    refine Ev.step (fun k=>?_) (toSibS_l0 l hl s (i+1) h3 (by omega) (acc.set i (toSib m)) (by simpa using ha) (by
      rw [List.take_succ_eq_append_getElem (by simp;omega),List.take_succ_eq_append_getElem h1,List.map_append,List.take_set_of_le (by omega),hc]
      simp [hm]))
    simp only [laws_toSibS.l0,laws_toSib.f,laws_toMark.f,hr,Option.bind_some,Int.toNat_natCast]
    rw [if_pos (by omega),if_pos (by omega),if_pos (by omega),w64 (by omega) (by omega)]
    rfl
theorem toSibS_ev (l:List LSib) (hl:l.length≤1048576):Ev (fun k=>laws_toSibS.f k l) (l.map toSib):=by
  unfold laws_toSibS.f
  refine evPos (by omega) (evPos (by omega) ?_)
  exact toSibS_l0 l hl l 0 rfl (by omega) _ (by simp) (by simp)
theorem toSet_ev (v:List LMark) (l:List LSib) (hv:v.length≤1048576) (hl:l.length≤1048576):Ev (fun k=>laws_toSet.f k v l) (v.map toMark,l.map toSib) :=
  Ev.bind (toMarkS_ev v hv) (Ev.bind (toSibS_ev l hl) (Ev.now _))
theorem eqSib_refl (a b:Int) (c:Bool) (t:ByteArray):laws_eqSib.f a b c t a b c t=some true:=by simp [laws_eqSib.f,eqMark_refl]
theorem eqSibS_l0 (l:List Sib) (hl:l.length≤4611686018427387904):∀ (s:List Sib) (i:Nat),l.drop i=s→i≤l.length →
    Ev (fun k=>laws_eqSibS.l0 k l l (i:Int)) true
  | [],i,h,hi=>by
    have:=dropNil' h hi
    refine Ev.step (f:=fun _=>some true) (fun k=>?_) (Ev.now _)
    simp only [laws_eqSibS.l0]
    rw [if_neg (by omega)]
  | m :: s,i,h,hi=>by
    obtain ⟨h1,h2,h3⟩:=dropCons h z91
    refine Ev.step (fun k=>?_) (eqSibS_l0 l hl s (i+1) h3 (by omega))
    simp only [laws_eqSibS.l0,eqSib_refl,Option.bind_some]
    rw [if_pos (by omega),if_pos (by omega),if_pos (by omega),if_pos trivial,w64 (by omega) (by omega)]
    rfl
theorem eqSibS_ev (l:List Sib) (hl:l.length≤4611686018427387904):Ev (fun k=>laws_eqSibS.f k l l) true:=by
  unfold laws_eqSibS.f
  exact evPos rfl (eqSibS_l0 l hl l 0 rfl (by omega))
theorem eqSet_ev (v:List Mark) (l:List Sib) (hv:v.length≤4611686018427387904) (hl:l.length≤4611686018427387904):Ev (fun k=>laws_eqSet.f k v l v l) true :=
  Ev.bind (eqMarkS_ev v hv) (evPos rfl (Ev.bind (eqSibS_ev l hl) (evPos rfl (Ev.now _))))
end Go.Proofs.Ytphbgcfpcadabaa.Q

namespace Go.Proofs.Ytphbgcfpcadabaa.P
open Go.RowKit Go.Proofs.YtphbgcfpcadabaaW.PrintWords Go.Proofs.YtphbgcfpcadabaaW.PrintLast Go.Proofs.YtphbgcfpcadabaaW.PrintMore
attribute [local go_sem] max2_int min2_int max_two min_two max_three min_three max_four min_four   -- for this text's walks alone
set_option linter.unusedVariables false
set_option linter.unusedSimpArgs false

theorem eqA56 (d:Nat) (w:World) (x0 y0:Int) (x1 y1:Int) :
  (Op.equalIn (d+2) 56 (.agg #[.int .i64 x0,.int .i64 x1]) (.agg #[.int .i64 y0,.int .i64 y1])).run Try.prog w = .ok (x0 == y0 && (x1 == y1)) w:=by
 refine eqA_of Try.underlying56 (by kernel_rfl) ?_
 refine eqf_cons (by rfl) (by go_simp;rfl) (by go_simp;rfl) (by go_simp) ?_
 exact eqf_last (by rfl) (by go_simp;rfl) (by go_simp;rfl) (by go_simp)

attribute [local go_sem high] eqA56
/-! ### spec_l03At: function 93 -/
def spec_l03At.l0:Nat→List (S91)→Int→Int→Int→Option (Int)
 | 0,_,_,_,_=>none
 | k+1,x0,x5,x545000,x545001=>if x5<(x0.length:Int) then (if 0≤x5 then (if (((rd_T91 x0 x5).f0.f0) == x545000 && (((rd_T91 x0 x5).f0.f1) == x545001))=true then (some x5) else (spec_l03At.l0 k x0 (wrap64 (x5+1)) x545000 x545001)) else (none)) else (some (-1))
def spec_l03At.f (k:Nat) (l0:List (S91)) (a1_0:Int) (a1_1:Int):Option (Int):=spec_l03At.l0 k l0 0 a1_0 a1_1
theorem spec_l03At.mono_l:∀ k,(∀ y0 y1 y2 y3,LeO (spec_l03At.l0 k y0 y1 y2 y3) (spec_l03At.l0 (k+1) y0 y1 y2 y3))
 | 0=>fun _ _ _ _ r h=>by simp [spec_l03At.l0] at h
 | k+1=>by
  have ih0:=spec_l03At.mono_l k
  ·intro y0 y1 y2 y3
   unfold spec_l03At.l0
   repeat' first
   | (with_reducible exact ih0 _ _ _ _)
   | (with_reducible exact LeO.refl _)
   | (with_reducible exact LeO.none _)
   | (with_reducible refine LeO.ite ?_ ?_)
   | (with_reducible refine LeO.bind ?_ (fun _=>?_))
   | exact ih0 _ _ _ _
   | exact LeO.none _
   | refine LeO.ite ?_ ?_
   | refine LeO.bind ?_ (fun _=>?_)
theorem spec_l03At.mono:∀ a0 a1 a2 k,LeO (spec_l03At.f k a0 a1 a2) (spec_l03At.f (k+1) a0 a1 a2):=by
 intro a0 a1 a2 k
 have ih0:=spec_l03At.mono_l k
 unfold spec_l03At.f
 repeat' first
   | (with_reducible exact ih0 _ _ _ _)
   | (with_reducible exact LeO.refl _)
   | (with_reducible exact LeO.none _)
   | (with_reducible refine LeO.ite ?_ ?_)
   | (with_reducible refine LeO.bind ?_ (fun _=>?_))
   | exact ih0 _ _ _ _
   | exact LeO.none _
   | refine LeO.ite ?_ ?_
   | refine LeO.bind ?_ (fun _=>?_)

attribute [local go_sem high] eqA56
/-! ### impl_Set_sib_1_cap: function 96 -/
def impl_Set_sib_1_cap.f (a0_0:Int) (a0_1:Int) (a0_2:Bool) (a0_3:ByteArray) (a1_0:Int) (a1_1:Int):Option (Bool):=some (a0_0 == a1_0 && (a0_1 == a1_1))

/-! ### slices_IndexFunc_impl_Sib_impl_Sib_impl_Set_sib_1: function 95 -/
def slices_IndexFunc_impl_Sib_impl_Sib_impl_Set_sib_1.l0:Nat→List (S91)→Int→Int→Int→Int→Option (Int)
 | 0,_,_,_,_,_=>none
 | k+1,x0,x7,x8,x62000,x62001=>if x8<x7 then (if 0≤x8 then (if x8<(x0.length:Int) then ((impl_Set_sib_1_cap.f ((rd_T91 x0 x8).f0.f0) ((rd_T91 x0 x8).f0.f1) ((rd_T91 x0 x8).f1) ((rd_T91 x0 x8).f2) x62000 x62001).bind fun t608=>(if t608=true then (some x8) else (slices_IndexFunc_impl_Sib_impl_Sib_impl_Set_sib_1.l0 k x0 x7 (wrap64 (x8+1)) x62000 x62001))) else (none)) else (none)) else (some (-1))
def slices_IndexFunc_impl_Sib_impl_Sib_impl_Set_sib_1.f (k:Nat) (l0:List (S91)) (a1_0:Int) (a1_1:Int):Option (Int):=slices_IndexFunc_impl_Sib_impl_Sib_impl_Set_sib_1.l0 k l0 (l0.length:Int) 0 a1_0 a1_1
theorem slices_IndexFunc_impl_Sib_impl_Sib_impl_Set_sib_1.mono_l:∀ k,(∀ y0 y1 y2 y3 y4,LeO (slices_IndexFunc_impl_Sib_impl_Sib_impl_Set_sib_1.l0 k y0 y1 y2 y3 y4) (slices_IndexFunc_impl_Sib_impl_Sib_impl_Set_sib_1.l0 (k+1) y0 y1 y2 y3 y4))
 | 0=>fun _ _ _ _ _ r h=>by simp [slices_IndexFunc_impl_Sib_impl_Sib_impl_Set_sib_1.l0] at h
 | k+1=>by
  have ih0:=slices_IndexFunc_impl_Sib_impl_Sib_impl_Set_sib_1.mono_l k
  ·intro y0 y1 y2 y3 y4
   unfold slices_IndexFunc_impl_Sib_impl_Sib_impl_Set_sib_1.l0
   repeat' first
   | (with_reducible exact ih0 _ _ _ _ _)
   | (with_reducible exact LeO.refl _)
   | (with_reducible exact LeO.none _)
   | (with_reducible refine LeO.ite ?_ ?_)
   | (with_reducible refine LeO.bind ?_ (fun _=>?_))
   | exact ih0 _ _ _ _ _
   | exact LeO.none _
   | refine LeO.ite ?_ ?_
   | refine LeO.bind ?_ (fun _=>?_)
theorem slices_IndexFunc_impl_Sib_impl_Sib_impl_Set_sib_1.mono:∀ a0 a1 a2 k,LeO (slices_IndexFunc_impl_Sib_impl_Sib_impl_Set_sib_1.f k a0 a1 a2) (slices_IndexFunc_impl_Sib_impl_Sib_impl_Set_sib_1.f (k+1) a0 a1 a2):=by
 intro a0 a1 a2 k
 have ih0:=slices_IndexFunc_impl_Sib_impl_Sib_impl_Set_sib_1.mono_l k
 unfold slices_IndexFunc_impl_Sib_impl_Sib_impl_Set_sib_1.f
 repeat' first
   | (with_reducible exact ih0 _ _ _ _ _)
   | (with_reducible exact LeO.refl _)
   | (with_reducible exact LeO.none _)
   | (with_reducible refine LeO.ite ?_ ?_)
   | (with_reducible refine LeO.bind ?_ (fun _=>?_))
   | exact ih0 _ _ _ _ _
   | exact LeO.none _
   | refine LeO.ite ?_ ?_
   | refine LeO.bind ?_ (fun _=>?_)

/-! ### impl_Set_sib: function 63 -/
def impl_Set_sib.f (k:Nat) (l0_0:List (S56)) (l0_1:List (S91)) (a1_0:Int) (a1_1:Int):Option (Int):=(slices_IndexFunc_impl_Sib_impl_Sib_impl_Set_sib_1.f k l0_1 a1_0 a1_1).bind fun t611=>(some t611)
theorem impl_Set_sib.mono:∀ a0 a1 a2 a3 k,LeO (impl_Set_sib.f k a0 a1 a2 a3) (impl_Set_sib.f (k+1) a0 a1 a2 a3):=by
 intro a0 a1 a2 a3 k
 unfold impl_Set_sib.f
 repeat' first
   | (with_reducible exact slices_IndexFunc_impl_Sib_impl_Sib_impl_Set_sib_1.mono _ _ _ _)
   | (with_reducible exact LeO.refl _)
   | (with_reducible exact LeO.none _)
   | (with_reducible refine LeO.ite ?_ ?_)
   | (with_reducible refine LeO.bind ?_ (fun _=>?_))
   | exact slices_IndexFunc_impl_Sib_impl_Sib_impl_Set_sib_1.mono _ _ _ _
   | exact LeO.none _
   | refine LeO.ite ?_ ?_
   | refine LeO.bind ?_ (fun _=>?_)
end Go.Proofs.Ytphbgcfpcadabaa.P

namespace Go.Proofs.Ytphbgcfpcadabaa.Q
open Go.RowKit Go.Proofs.Ytphbgcfpcadabaa.P Go.Proofs.YtphbgcfpcadabaaW.PrintWords Go.Proofs.YtphbgcfpcadabaaW.PrintMore

theorem setOk_iff (v:List Mark) (l:List Sib):setOk v l=true ↔ seenOk v=true∧l.length≤8∧sibsFrom v none l=true:=by
  simp [setOk]
end Go.Proofs.Ytphbgcfpcadabaa.Q

namespace Go.Proofs.Ytphbgcfpcadabaa.Q
open Go.RowKit Go.Proofs.Ytphbgcfpcadabaa.P Go.Proofs.YtphbgcfpcadabaaW.PrintWords Go.Proofs.YtphbgcfpcadabaaW.PrintMore

def lowCh (c:Int):Bool:=decide (97≤c) && decide (c≤122)
def nameCh (c:Int):Bool:=lowCh c || (decide (48≤c) && decide (c≤57)) || decide (c=95)
def nameList:List Int→Bool
  | []=>false
  | c :: r=>lowCh c && r.all nameCh
def nameOk (s:ByteArray):Bool:=decide (s.size≤20) && nameList (bytesOf s)
theorem bt_of {s:ByteArray} {i:Nat} {c:Int} (h:(bytesOf s).getD i 0=c):bt s (i:Int)=c:=by
  rw [← rd_bytesOf];simpa [rd] using h
theorem spec_name_round (s:ByteArray) (k i:Nat) (hi:i<s.size) (h1:1≤i) (hs:s.size≤1048576) :
    spec_NameRight.l0 (k+1) s (i:Int)=if nameCh (bt s i) then spec_NameRight.l0 k s ((i+1:Nat):Int) else some false:=by
  simp only [spec_NameRight.l0]
  rw [if_pos (by omega),if_pos (by omega),w64 (by omega) (by omega)]
  have h0:¬ ((i:Int)=0):=by omega
  simp only [if_neg h0,nameCh,lowCh]
  generalize bt s i=c
  by_cases h1:97≤c <;> by_cases h2:c≤122 <;> by_cases h3:48≤c <;> by_cases h4:c≤57 <;> by_cases h5:c=95 <;> first | (exfalso;omega) | simp [ge_iff_le,h1,h2,h3,h4,h5]
theorem spec_name_first (s:ByteArray) (k:Nat) (hi:0<s.size) (hs:s.size≤1048576) :
    spec_NameRight.l0 (k+1) s 0=if lowCh (bt s 0) then spec_NameRight.l0 k s 1 else some false:=by
  simp only [spec_NameRight.l0]
  rw [if_pos (by omega),if_pos (by omega),w64 (by omega) (by omega)]
  simp only [if_true,lowCh,Int.zero_add]
  generalize bt s 0=c
  by_cases h1:97≤c <;> by_cases h2:c≤122 <;> first | (exfalso;omega) | simp [ge_iff_le,h1,h2]
theorem spec_name_l0 (s:ByteArray) (hs:s.size≤1048576):∀ (r:List Int) (i:Nat),(bytesOf s).drop i=r→i≤s.size→1≤i→Ev (fun k=>spec_NameRight.l0 k s (i:Int)) (r.all nameCh)
  | [],i,h,hi,h1=>by
    have:=dropNil h
    rw [bytesOf_length] at this
    refine Ev.step (f:=fun _=>some true) (fun k=>?_) (Ev.now _)
    simp only [spec_NameRight.l0]
    rw [if_neg (by omega)]
  | c :: r,i,h,hi,h1=>by
    obtain ⟨g1,g2,g3⟩:=dropCons h 0
    rw [bytesOf_length] at g1
    have hb:=bt_of g2
    refine Ev.step (fun k=>spec_name_round s k i g1 h1 hs) ?_
    rw [hb]
    refine evIte (fun hc=>?_) (fun hc=>?_)
    · simp only [List.all_cons,hc,Bool.true_and];exact spec_name_l0 s hs r (i+1) g3 (by omega) (by omega)
    · simp only [List.all_cons,Bool.eq_false_iff.mpr hc,Bool.false_and];exact Ev.now _
theorem spec_NameRight_ev (s:ByteArray) (hs:s.size≤1048576):Ev (fun k=>spec_NameRight.f k s) (nameOk s):=by
  have hl:=bytesOf_length s
  unfold spec_NameRight.f nameOk
  refine evIte (fun h=>?_) (fun h=>?_)
  · refine Ev.step (f:=fun _=>some false) (fun k=>by simp only [spec_NameRight.j0];rw [if_pos trivial]) ?_
    have:bytesOf s=[]:=by rw [← List.length_eq_zero_iff,hl];omega
    simp only [this,nameList,Bool.and_false]
    exact Ev.now _
  · by_cases h20:(s.size:Int)>20
    · refine Ev.step (f:=fun _=>some false) (fun k=>by simp only [spec_NameRight.j0];rw [if_pos (by simpa using h20)]) ?_
      have:¬ s.size≤20:=by omega
      simp only [this,decide_false,Bool.false_and]
      exact Ev.now _
    · refine Ev.step (fun k=>by simp only [spec_NameRight.j0];rw [if_neg (by simpa using h20)]) ?_
      have h20':s.size≤20:=by omega
      simp only [h20',decide_true,Bool.true_and]
      cases hb:bytesOf s with
      | nil=>rw [hb] at hl;simp at hl;omega
      | cons c r =>
        have hc:bt s ((0:Nat):Int)=c:=bt_of (by rw [hb];rfl)
        refine Ev.step (fun k=>spec_name_first s k (by omega) hs) ?_
        rw [show (0:Int)=((0:Nat):Int) from rfl,hc]
        refine evIte (fun h1=>?_) (fun h1=>?_)
        · simp only [nameList,h1,Bool.true_and]
          exact spec_name_l0 s hs r 1 (by rw [hb];rfl) (by omega) (by omega)
        · simp only [nameList,Bool.eq_false_iff.mpr h1,Bool.false_and];exact Ev.now _
theorem impl_name_round (s:ByteArray) (k i:Nat) (hi:i<s.size) (hs:s.size≤140737488351232) :
    impl_NameRight.l0 (k+1) s (s.size:Int) (i:Int)=if nameCh (bt s i) then impl_NameRight.l0 k s (s.size:Int) ((i+1:Nat):Int) else some false:=by
  simp only [impl_NameRight.l0]
  rw [if_pos (by omega),if_pos (by omega),if_pos (by omega),w64 (by omega) (by omega)]
  simp only [nameCh,lowCh]
  generalize bt s i=c
  by_cases h1:97≤c <;> by_cases h2:c≤122 <;> by_cases h3:48≤c <;> by_cases h4:c≤57 <;> by_cases h5:c=95 <;> first | (exfalso;omega) | simp [ge_iff_le,h1,h2,h3,h4,h5]
theorem impl_name_l0 (s:ByteArray) (hs:s.size≤140737488351232):∀ (r:List Int) (i:Nat),(bytesOf s).drop i=r→i≤s.size→Ev (fun k=>impl_NameRight.l0 k s (s.size:Int) (i:Int)) (r.all nameCh)
  | [],i,h,hi=>by
    have:=dropNil h
    rw [bytesOf_length] at this
    refine Ev.step (f:=fun _=>some true) (fun k=>?_) (Ev.now _)
    simp only [impl_NameRight.l0]
    rw [if_neg (by omega)]
  | c :: r,i,h,hi=>by
    obtain ⟨g1,g2,g3⟩:=dropCons h 0
    rw [bytesOf_length] at g1
    have hb:=bt_of g2
    refine Ev.step (fun k=>impl_name_round s k i g1 hs) ?_
    rw [hb]
    refine evIte (fun hc=>?_) (fun hc=>?_)
    · simp only [List.all_cons,hc,Bool.true_and];exact impl_name_l0 s hs r (i+1) g3 (by omega)
    · simp only [List.all_cons,Bool.eq_false_iff.mpr hc,Bool.false_and];exact Ev.now _
theorem low_name {c:Int} (h:lowCh c=true):nameCh c=true:=by simp [nameCh,h]
theorem impl_NameRight_ev (s:ByteArray) (hs:s.size≤140737488351232):Ev (fun k=>impl_NameRight.f k s) (nameOk s):=by
  have hl:=bytesOf_length s
  unfold impl_NameRight.f nameOk impl_size.f
  refine evBind1 rfl (evBind1 (within_is _ _ _) ?_)
  refine evIte (fun h=>?_) (fun h=>?_)
  · have hw:1≤(s.size:Int)∧(s.size:Int)≤20:=by simpa [isWithin] using h
    refine evPos (by omega) ?_
    have h20':s.size≤20:=by omega
    simp only [h20',decide_true,Bool.true_and]
    cases hb:bytesOf s with
    | nil=>rw [hb] at hl;simp at hl;omega
    | cons c r =>
      have hc:bt s ((0:Nat):Int)=c:=bt_of (by rw [hb];rfl)
      have hc':bt s 0=c:=hc
      rw [hc']
      refine evIte (fun h1=>?_) (fun h1=>?_)
      · refine Ev.step (f:=fun _=>some false) (fun k=>by simp only [impl_NameRight.j0];rw [if_pos trivial]) ?_
        have:lowCh c=false:=by simp [lowCh];omega
        simp only [nameList,this,Bool.false_and];exact Ev.now _
      · by_cases h2:c>122
        · refine Ev.step (f:=fun _=>some false) (fun k=>by simp only [impl_NameRight.j0];rw [if_pos (by simpa using h2)]) ?_
          have:lowCh c=false:=by simp [lowCh];omega
          simp only [nameList,this,Bool.false_and];exact Ev.now _
        · refine Ev.step (fun k=>by simp only [impl_NameRight.j0];rw [if_neg (by simpa using h2)]) ?_
          have hlow:lowCh c=true:=by simp [lowCh];omega
          simp only [nameList,hlow,Bool.true_and]
          have:=impl_name_l0 s hs (c :: r) 0 (by rw [hb];rfl) (by omega)
          simpa [low_name hlow] using this
  · refine Ev.step (f:=fun _=>some false) (fun k=>by simp only [impl_NameRight.j0];rw [if_pos trivial]) ?_
    have hw:isWithin (s.size:Int) 1 20=false:=by simpa using h
    have:(decide (s.size≤20) && nameList (bytesOf s))=false:=by
      by_cases h20:s.size≤20
      · have:bytesOf s=[]:=by
          rw [← List.length_eq_zero_iff,hl]
          simp [isWithin] at hw;omega
        simp [this,nameList]
      · simp [h20]
    rw [this]
    exact Ev.now _
end Go.Proofs.Ytphbgcfpcadabaa.Q

namespace Go.Proofs.Ytphbgcfpcadabaa.Q
open Go.RowKit Go.Proofs.Ytphbgcfpcadabaa.P Go.Proofs.YtphbgcfpcadabaaW.PrintWords Go.Proofs.YtphbgcfpcadabaaW.PrintMore

theorem l02Time_is (n:Int):spec_l02Time.f n=some (isWithin n 0 1000000):=by simp [spec_l02Time.f,l02Is_is]
/-- What a kind asks for. -/
def msgKind (kd rq:Int) (v:List Mark) (l:List Sib):Bool :=
  if kd=1 then (if rq>0 then ((v.length:Int) == 0) else false) else if kd=2 then decide (rq>0) else if kd=3 then decide ((v.length:Int)>0) else if (v.length:Int)>0 then ((l.length:Int) == 0) else false
def msgOk (kd fr tu rq:Int) (key:ByteArray) (fo:Int) (v:List Mark) (l:List Sib):Bool :=
  isWithin kd 1 4 && (isNode fr && (isNode tu && (isNode fo && (isWithin rq 0 1000000 && (nameOk key && (setOk v l && msgKind kd rq v l))))))
theorem spec_MsgRight_ev (kd fr tu rq:Int) (key:ByteArray) (fo:Int) (v:List Mark) (l:List Sib) (hk:key.size≤1048576) (hv:v.length≤1048576) (hl:l.length≤1048576) :
    Ev (fun k=>spec_MsgRight.f k kd fr tu rq key fo v l) (msgOk kd fr tu rq key fo v l):=by
  have jF:Ev (fun k=>spec_MsgRight.j0 k true kd fr tu rq key fo v l) false:=Ev.step (f:=fun _=>some false) (fun k=>by simp [spec_MsgRight.j0]) (Ev.now _)
  have jT:Ev (fun k=>spec_MsgRight.j0 k false kd fr tu rq key fo v l) (msgKind kd rq v l):=by
    refine Ev.step (f:=fun _=>some (msgKind kd rq v l)) (fun k=>?_) (Ev.now _)
    simp only [spec_MsgRight.j0,msgKind]
    rw [if_neg (by simp)]
    by_cases h1:kd=1
    · rw [if_pos h1,if_pos h1];split <;> rfl
    · rw [if_neg h1,if_neg h1]
      by_cases h2:kd=2
      · rw [if_pos h2,if_pos h2]
      · rw [if_neg h2,if_neg h2]
        by_cases h3:kd=3
        · rw [if_pos h3,if_pos h3]
        · rw [if_neg h3,if_neg h3];split <;> rfl
  unfold spec_MsgRight.f msgOk
  refine evBind1 (l02Is_is _ _ _) ?_
  cases isWithin kd 1 4 with
  | false=>exact evNeg (by simp) jF
  | true =>
    refine evPos rfl (evBind1 (l02Node_is _) ?_)
    cases isNode fr with
    | false=>exact evNeg (by simp) jF
    | true =>
      refine evPos rfl (evBind1 (l02Node_is _) ?_)
      cases isNode tu with
      | false=>exact evNeg (by simp) jF
      | true =>
        refine evPos rfl (evBind1 (l02Node_is _) ?_)
        cases isNode fo with
        | false=>exact evNeg (by simp) jF
        | true =>
          refine evPos rfl (evBind1 (l02Time_is _) ?_)
          cases isWithin rq 0 1000000 with
          | false=>exact evNeg (by simp) jF
          | true =>
            refine evPos rfl (Ev.bind (spec_NameRight_ev key hk) ?_)
            cases nameOk key with
            | false=>exact evNeg (by simp) jF
            | true =>
              refine evPos rfl (Ev.bind (spec_SetRight_ev v l (by omega) hl) ?_)
              cases setOk v l with
              | false=>exact jF
              | true=>exact jT
def msgJ2 (b:Bool) (kd:Int) (l:List Sib):Bool:=if b=true then false else if kd=1 then ((l.length:Int) == 0) else if kd=4 then ((l.length:Int) == 0) else true
def msgJ1 (c:Bool) (kd rq:Int) (v:List Mark) (l:List Sib):Bool :=
  if c=true then (if (v.length:Int)=0 then msgJ2 true kd l else if kd=1 then msgJ2 (decide ((v.length:Int)>0)) kd l else msgJ2 false kd l)
  else (if rq=0 then msgJ2 true kd l else if kd=1 then msgJ2 (decide ((v.length:Int)>0)) kd l else msgJ2 false kd l)
theorem msgKind_is {kd rq:Int} {v:List Mark} {l:List Sib} (h1:1≤kd) (h2:kd≤4) (hr:0≤rq) (he:v.length=0→l.length=0):(if kd=3 then msgJ1 true kd rq v l else msgJ1 (kd == 4) kd rq v l)=msgKind kd rq v l:=by
  unfold msgKind msgJ1 msgJ2
  have ha:(0:Int)≤(v.length:Int):=by omega
  have he':(v.length:Int)=0→(l.length:Int)=0:=by omega
  clear he
  generalize (v.length:Int)=a at ha he' ⊢
  generalize (l.length:Int)=b at he' ⊢
  rcases (show kd=1∨kd=2∨kd=3∨kd=4 by omega) with rfl | rfl | rfl | rfl <;> by_cases hq:rq=0 <;> by_cases hv:a=0 <;>
    first
    | (have hb:=he' hv
       have hq':rq>0:=by omega
       simp [hq,hq',hv,hb];done)
    | (have hb:=he' hv
       simp [hq,hv,hb];done)
    | (have hp:0<a:=by omega
       have hq':rq>0:=by omega
       simp [hq,hq',hv,hp];done)
    | (have hp:0<a:=by omega
       simp [hq,hv,hp];done)
theorem setOk_empty {v:List Mark} {l:List Sib} (h:setOk v l=true) (hv:v.length=0):l.length=0:=by
  cases l with
  | nil=>rfl
  | cons x r =>
    have:=(setOk_iff v (x :: r)).1 h
    obtain ⟨_,_,h3⟩:=this
    have hv':v=[]:=List.length_eq_zero_iff.1 hv
    subst hv'
    simp only [sibsFrom,sibOk,Bool.and_eq_true] at h3
    have h4:=(isDot_iff _ _).1 h3.1.1
    have h5:x.f0.f1≤0:=of_decide_eq_true (p:=x.f0.f1≤seenOf [] x.f0.f0) h3.1.2.1
    omega
theorem msg_j2 (b:Bool) (kd fr tu rq:Int) (key:ByteArray) (fo:Int) (v:List Mark) (l:List Sib):Ev (fun k=>impl_MsgRight.j2 k b kd fr tu rq key fo v l) (msgJ2 b kd l):=by
  refine Ev.step (f:=fun _=>some (msgJ2 b kd l)) (fun k=>?_) (Ev.now _)
  simp only [impl_MsgRight.j2,msgJ2]
  cases b with
  | true=>rfl
  | false =>
    by_cases h1:kd=1
    · simp [h1]
    · by_cases h4:kd=4
      · simp [h4]
      · simp [h1,h4]
theorem msg_j1 (c:Bool) (kd fr tu rq:Int) (key:ByteArray) (fo:Int) (v:List Mark) (l:List Sib):Ev (fun k=>impl_MsgRight.j1 k c kd fr tu rq key fo v l) (msgJ1 c kd rq v l):=by
  refine Ev.step (fun k=>by rw [impl_MsgRight.j1]) ?_
  unfold msgJ1
  refine evIte (fun h=>?_) (fun h=>?_)
  · rw [if_pos h]
    refine evIte (fun h=>?_) (fun h=>?_)
    · rw [if_pos h];exact msg_j2 _ _ _ _ _ _ _ _ _
    · rw [if_neg h]
      refine evIte (fun h=>?_) (fun h=>?_)
      · rw [if_pos h];exact msg_j2 _ _ _ _ _ _ _ _ _
      · rw [if_neg h];exact msg_j2 _ _ _ _ _ _ _ _ _
  · rw [if_neg h]
    refine evIte (fun h=>?_) (fun h=>?_)
    · rw [if_pos h];exact msg_j2 _ _ _ _ _ _ _ _ _
    · rw [if_neg h]
      refine evIte (fun h=>?_) (fun h=>?_)
      · rw [if_pos h];exact msg_j2 _ _ _ _ _ _ _ _ _
      · rw [if_neg h];exact msg_j2 _ _ _ _ _ _ _ _ _
theorem impl_MsgRight_ev (kd fr tu rq:Int) (key:ByteArray) (fo:Int) (v:List Mark) (l:List Sib) (hk:key.size≤1048576) (hv:v.length≤1048576) (hl:l.length≤1048576) :
    Ev (fun k=>impl_MsgRight.f k kd fr tu rq key fo v l) (msgOk kd fr tu rq key fo v l):=by
  have jF:Ev (fun k=>impl_MsgRight.j0 k true kd fr tu rq key fo v l) false:=Ev.step (f:=fun _=>some false) (fun k=>by simp [impl_MsgRight.j0]) (Ev.now _)
  unfold impl_MsgRight.f msgOk
  refine evBind1 (within_is _ _ _) ?_
  cases h1:isWithin kd 1 4 with
  | false=>exact evNeg (by simp) jF
  | true =>
    refine evPos rfl (evBind1 (isNode_is _) ?_)
    cases isNode fr with
    | false=>exact evNeg (by simp) jF
    | true =>
      refine evPos rfl (evBind1 (isNode_is _) ?_)
      cases isNode tu with
      | false=>exact evNeg (by simp) jF
      | true =>
        refine evPos rfl (evBind1 (isNode_is _) ?_)
        cases isNode fo with
        | false=>exact evNeg (by simp) jF
        | true =>
          refine evPos rfl (evBind1 (within_is _ _ _) ?_)
          cases h2:isWithin rq 0 1000000 with
          | false=>exact evNeg (by simp) jF
          | true =>
            refine evPos rfl (Ev.bind (impl_NameRight_ev key (by omega)) ?_)
            cases nameOk key with
            | false=>exact evNeg (by simp) jF
            | true =>
              refine evPos rfl (Ev.bind (impl_SetRight_ev v l (by omega) hl) ?_)
              cases h3:setOk v l with
              | false=>exact jF
              | true =>
                simp only [isWithin,Bool.and_eq_true,decide_eq_true_eq] at h1 h2
                simp only [Bool.true_and,Bool.not_true]
                rw [← msgKind_is h1.1 h1.2 h2.1 (setOk_empty h3)]
                refine Ev.step (fun k=>by rw [impl_MsgRight.j0]) (evNeg (by simp) (evIte (fun h=>?_) (fun h=>?_)))
                · rw [if_pos h];exact msg_j1 _ _ _ _ _ _ _ _ _
                · rw [if_neg h];exact msg_j1 _ _ _ _ _ _ _ _ _
theorem toMsg_ev (kd fr tu rq:Int) (key:ByteArray) (fo:Int) (v:List LMark) (l:List LSib) (hv:v.length≤1048576) (hl:l.length≤1048576) :
    Ev (fun k=>laws_toMsg.f k kd fr tu rq key fo v l) (kd,fr,tu,rq,key,fo,v.map toMark,l.map toSib):=Ev.bind (toSet_ev v l hv hl) (Ev.now _)
theorem eqMsg_ev (kd fr tu rq:Int) (key:ByteArray) (fo:Int) (v:List Mark) (l:List Sib) (hv:v.length≤1048576) (hl:l.length≤1048576) :
    Ev (fun k=>laws_eqMsg.f k kd fr tu rq key fo v l kd fr tu rq key fo v l) true :=
  evPos rfl (evPos rfl (evPos rfl (evPos rfl (evPos rfl (evPos rfl (Ev.bind (eqSet_ev v l (by omega) (by omega)) (evPos rfl (Ev.now _))))))))
end Go.Proofs.Ytphbgcfpcadabaa.Q

namespace Go.Proofs.Ytphbgcfpcadabaa.Q
open Go.RowKit Go.Proofs.Ytphbgcfpcadabaa.P Go.Proofs.YtphbgcfpcadabaaW.PrintWords Go.Proofs.YtphbgcfpcadabaaW.PrintMore

theorem getD_mid {α:Type} (pre:List α) (m:α) (s:List α) (d:α):(pre ++ m :: s).getD pre.length d=m:=by
  rw [List.getD_eq_getElem?_getD,List.getElem?_append_right (Nat.le_refl _),Nat.sub_self];rfl
theorem set_mid {α:Type} (pre:List α) (m x:α) (s:List α):(pre ++ m :: s).set pre.length x=pre ++ x :: s:=by
  rw [List.set_append_right _ _ (Nat.le_refl _),Nat.sub_self];rfl
def markL:Int→List Mark→List Mark
  | _,[]=>[]
  | n,_ :: r=>⟨n,n+1⟩ :: markL (n+2) r
theorem markMarkS_l0 (N:Int) (hN:N≤1152921504606846976):∀ (s pre:List Mark) (n:Int),0≤n→n+2*(s.length:Int)≤N→(pre.length:Int)+s.length≤N →
    Ev (fun k=>laws_markMarkS.l0 k (pre ++ s) n (pre.length:Int)) (n+2*(s.length:Int),pre ++ markL n s)
  | [],pre,n,h0,h1,h2=>by
    refine Ev.step (f:=fun _=>some (n,pre)) (fun k=>?_) (by simp [markL];exact Ev.now _)
    simp only [laws_markMarkS.l0,List.append_nil]
    rw [if_neg (by omega)]
  | m :: s,pre,n,h0,h1,h2=>by
    simp only [List.length_cons] at h1 h2
    have ih:=markMarkS_l0 N hN s (pre ++ [⟨n,n+1⟩]) (n+2) (by omega) (by omega) (by simp;omega)
    simp only [List.length_append,List.length_cons,List.length_nil,List.append_assoc,List.cons_append,List.nil_append] at ih
    refine Ev.step (fun k=>?_) (show Ev _ (n+2*((m :: s).length:Int),pre ++ markL n (m :: s)) from by
      simp only [markL,List.length_cons]
      rw [show n+2*((s.length+1:Nat):Int)=n+2+2*(s.length:Int) from by omega]
      exact ih)
    simp only [laws_markMarkS.l0,Option.bind_some,Int.toNat_natCast,rd_T56,set_mid,getD_mid]
    rw [if_pos (by simp;omega),if_pos (by omega),w64 (x:=n+1) (by omega) (by omega),w64 (x:=n+1+1) (by omega) (by omega),w64 (x:=(pre.length:Int)+1) (by omega) (by omega),show n+1+1=n+2 from by omega]
    rfl
theorem markMarkS_ev (s:List Mark) (n:Int) (h0:0≤n) (h1:n+2*(s.length:Int)≤1152921504606846976):Ev (fun k=>laws_markMarkS.f k s n) (n+2*(s.length:Int),markL n s) :=
  markMarkS_l0 1152921504606846976 (Int.le_refl _) s [] n h0 h1 (by simp;omega)
theorem heldMarkS_l0 (N:Int) (hN:N≤1152921504606846976):∀ (s pre:List Mark) (n:Int),0≤n→n+2*(s.length:Int)≤N→(pre.length:Int)+s.length≤N →
    Ev (fun k=>laws_heldMarkS.l0 k (pre ++ markL n s) n (pre.length:Int)) (n+2*(s.length:Int))
  | [],pre,n,h0,h1,h2=>by
    refine Ev.step (f:=fun _=>some n) (fun k=>?_) (by simp;exact Ev.now _)
    simp only [laws_heldMarkS.l0,markL,List.append_nil]
    rw [if_neg (by omega)]
  | m :: s,pre,n,h0,h1,h2=>by
    simp only [List.length_cons] at h1 h2
    have ih:=heldMarkS_l0 N hN s (pre ++ [⟨n,n+1⟩]) (n+2) (by omega) (by omega) (by simp;omega)
    simp only [List.length_append,List.length_cons,List.length_nil,List.append_assoc,List.cons_append,List.nil_append] at ih
    refine Ev.step (fun k=>?_) (show Ev _ (n+2*((m :: s).length:Int)) from by
      simp only [List.length_cons]
      rw [show n+2*((s.length+1:Nat):Int)=n+2+2*(s.length:Int) from by omega]
      exact ih)
    have hr:rd_T56 (pre ++ markL n (m :: s)) (pre.length:Int)=⟨n,n+1⟩:=by simp only [rd_T56,Int.toNat_natCast,markL,getD_mid]
    simp only [laws_heldMarkS.l0,hr]
    rw [if_pos (by simp [markL];omega),if_pos (by omega),w64 (x:=n+1) (by omega) (by omega),if_pos trivial,if_pos rfl,w64 (x:=n+1+1) (by omega) (by omega),w64 (x:=(pre.length:Int)+1) (by omega) (by omega),show n+1+1=n+2 from by omega]
    rfl
theorem heldMarkS_ev (s:List Mark) (n:Int) (h0:0≤n) (h1:n+2*(s.length:Int)≤1152921504606846976):Ev (fun k=>laws_heldMarkS.f k (markL n s) n) (n+2*(s.length:Int)) :=
  heldMarkS_l0 1152921504606846976 (Int.le_refl _) s [] n h0 h1 (by simp;omega)
end Go.Proofs.Ytphbgcfpcadabaa.Q

namespace Go.Proofs.Ytphbgcfpcadabaa.Q
open Go.RowKit Go.Proofs.Ytphbgcfpcadabaa.P Go.Proofs.YtphbgcfpcadabaaW.PrintWords Go.Proofs.YtphbgcfpcadabaaW.PrintMore

theorem markText_l0:∀ (m:Nat) (n:Int),n.toNat≤m→0≤n→∀ t:ByteArray,(t.size:Int)+n+1≤9223372036854775807→∃ r,Ev (fun k=>laws_markText.l0 k n t) r
  | 0,n,hm,h0,t,ht=>by
    refine ⟨(⟨#[109]⟩:ByteArray) ++ t,Ev.step (f:=fun _=>some ((⟨#[109]⟩:ByteArray) ++ t)) (fun k=>?_) (Ev.now _)⟩
    simp only [laws_markText.l0]
    rw [if_neg (by omega),if_pos (by omega)]
  | m+1,n,hm,h0,t,ht=>by
    by_cases hn:n>0
    · have hs:(strOfNums [(wrap64 (48+(Int.tmod n 10))) % 256]).size=1:=rfl
      have e:Int.tdiv n 10=n / 10:=Int.tdiv_eq_ediv_of_nonneg h0
      obtain ⟨r,hr⟩:=markText_l0 m (n / 10) (by omega) (by omega) (strOfNums [(wrap64 (48+(Int.tmod n 10))) % 256] ++ t) (by rw [ByteArray.size_append,hs];omega)
      refine ⟨r,Ev.step (fun k=>?_) hr⟩
      simp only [laws_markText.l0,Option.bind_some]
      rw [if_pos hn,if_pos (by rw [hs];omega),e,w64 (x:=n / 10) (by omega) (by omega)]
    · refine ⟨(⟨#[109]⟩:ByteArray) ++ t,Ev.step (f:=fun _=>some ((⟨#[109]⟩:ByteArray) ++ t)) (fun k=>?_) (Ev.now _)⟩
      simp only [laws_markText.l0]
      rw [if_neg hn,if_pos (by omega)]
theorem markText_is (n:Int) (h1:n≤1152921504606846976):∃ r,Ev (fun k=>laws_markText.f k n) r:=by
  unfold laws_markText.f
  by_cases h:n≤0
  · exact ⟨_,evPos h (Ev.now _)⟩
  · obtain ⟨r,hr⟩:=markText_l0 n.toNat n (by omega) (by omega) ⟨#[]⟩ (by show (0:Int)+n+1≤_;omega)
    exact ⟨r,evNeg h hr⟩
open Classical in
noncomputable def markT (n:Int):ByteArray:=if h:∃ r,Ev (fun k=>laws_markText.f k n) r then h.choose else ⟨#[]⟩
theorem markT_ev (n:Int) (h1:n≤1152921504606846976):Ev (fun k=>laws_markText.f k n) (markT n):=by
  have h:=markText_is n h1
  unfold markT
  rw [dif_pos h]
  exact h.choose_spec
noncomputable def markSL:Int→List Sib→List Sib
  | _,[]=>[]
  | n,_ :: r=>⟨⟨n,n+1⟩,(Int.tmod (n+2) 3) == 0,markT (n+3)⟩ :: markSL (n+4) r
theorem markSibS_l0 (N:Int) (hN:N≤1152921504606846976):∀ (s pre:List Sib) (n:Int),0≤n→n+4*(s.length:Int)≤N→(pre.length:Int)+s.length≤N →
    Ev (fun k=>laws_markSibS.l0 k (pre ++ s) n (pre.length:Int)) (n+4*(s.length:Int),pre ++ markSL n s)
  | [],pre,n,h0,h1,h2=>by
    refine Ev.step (f:=fun _=>some (n,pre)) (fun k=>?_) (by simp [markSL];exact Ev.now _)
    simp only [laws_markSibS.l0,List.append_nil]
    rw [if_neg (by omega)]
  | x :: s,pre,n,h0,h1,h2=>by
    simp only [List.length_cons] at h1 h2
    have ih:=markSibS_l0 N hN s (pre ++ [⟨⟨n,n+1⟩,(Int.tmod (n+2) 3) == 0,markT (n+3)⟩]) (n+4) (by omega) (by omega) (by simp;omega)
    simp only [List.length_append,List.length_cons,List.length_nil,List.append_assoc,List.cons_append,List.nil_append] at ih
    have w1:wrap64 (n+1)=n+1:=w64 (by omega) (by omega)
    have w2:wrap64 (n+1+1)=n+2:=by rw [w64 (by omega) (by omega)];omega
    have w3:wrap64 (n+2+1)=n+3:=by rw [w64 (by omega) (by omega)];omega
    have w4:wrap64 (n+3+1)=n+4:=by rw [w64 (by omega) (by omega)];omega
    refine Ev.step (f:=fun k=>(laws_markText.f k (n+3)).bind fun t=>laws_markSibS.l0 k (pre ++ ⟨⟨n,n+1⟩,(Int.tmod (n+2) 3) == 0,t⟩ :: s) (n+4) ((pre.length+(0+1):Nat):Int)) (fun k=>?_) (show Ev _ (n+4*((x :: s).length:Int),pre ++ markSL n (x :: s)) from by
      simp only [markSL,List.length_cons]
      rw [show n+4*((s.length+1:Nat):Int)=n+4+4*(s.length:Int) from by omega]
      exact Ev.bind (markT_ev (n+3) (by omega)) ih)
    simp only [laws_markSibS.l0,Option.bind_some,Int.toNat_natCast,rd_T91,set_mid,getD_mid,w1,w2,w3,w4]
    rw [if_pos (by simp;omega),if_pos (by omega),w64 (x:=(pre.length:Int)+1) (by omega) (by omega)]
    rfl
theorem markSibS_ev (s:List Sib) (n:Int) (h0:0≤n) (h1:n+4*(s.length:Int)≤1152921504606846976):Ev (fun k=>laws_markSibS.f k s n) (n+4*(s.length:Int),markSL n s) :=
  markSibS_l0 1152921504606846976 (Int.le_refl _) s [] n h0 h1 (by simp;omega)
theorem markSet_ev (v:List Mark) (l:List Sib) (n:Int) (h0:0≤n) (h1:n+2*(v.length:Int)+4*(l.length:Int)≤1152921504606846976) :
    Ev (fun k=>laws_markSet.f k v l n) (n+2*(v.length:Int)+4*(l.length:Int),markL n v,markSL (n+2*(v.length:Int)) l) :=
  Ev.bind (markMarkS_ev v n h0 (by omega)) (Ev.bind (markSibS_ev l _ (by omega) h1) (Ev.now _))
end Go.Proofs.Ytphbgcfpcadabaa.Q

namespace Go.Proofs.Ytphbgcfpcadabaa.P
open Go.RowKit Go.Proofs.YtphbgcfpcadabaaW.PrintWords Go.Proofs.YtphbgcfpcadabaaW.PrintLast Go.Proofs.YtphbgcfpcadabaaW.PrintMore
attribute [local go_sem] max2_int min2_int max_two min_two max_three min_three max_four min_four   -- for this text's walks alone
set_option linter.unusedVariables false
set_option linter.unusedSimpArgs false

/-! ### laws_eqSetOut: function 26 -/
def laws_eqSetOut.f (k:Nat) (l0_0:List (S56)) (l0_1:List (S91)) (a0_2:Int) (a0_3:Int) (a0_4:Int) (l1_0:List (S56)) (l1_1:List (S91)) (a1_2:Int) (a1_3:Int) (a1_4:Int):Option (Bool):=(laws_eqSet.f k l0_0 l0_1 l1_0 l1_1).bind fun t655=>(if t655=true then ((laws_eqMark.f a0_2 a0_3 a1_2 a1_3).bind fun t656=>(if t656=true then (if a0_4=a1_4 then (some true) else (none)) else (none))) else (none))
theorem laws_eqSetOut.mono:∀ a0 a1 a2 a3 a4 a5 a6 a7 a8 a9 k,LeO (laws_eqSetOut.f k a0 a1 a2 a3 a4 a5 a6 a7 a8 a9) (laws_eqSetOut.f (k+1) a0 a1 a2 a3 a4 a5 a6 a7 a8 a9):=by
 intro a0 a1 a2 a3 a4 a5 a6 a7 a8 a9 k
 unfold laws_eqSetOut.f
 repeat' first
   | (with_reducible exact laws_eqSet.mono _ _ _ _ _)
   | (with_reducible exact LeO.refl _)
   | (with_reducible exact LeO.none _)
   | (with_reducible refine LeO.ite ?_ ?_)
   | (with_reducible refine LeO.bind ?_ (fun _=>?_))
   | exact laws_eqSet.mono _ _ _ _ _
   | exact LeO.none _
   | refine LeO.ite ?_ ?_
   | refine LeO.bind ?_ (fun _=>?_)

/-! ### laws_markSetOut: function 27 -/
def laws_markSetOut.f (k:Nat) (l0_0:List (S56)) (l0_1:List (S91)) (a0_2:Int) (a0_3:Int) (a0_4:Int) (a1:Int):Option (Int × (List (S56)) × (List (S91))):=(laws_markSet.f k l0_0 l0_1 a1).bind fun bt658=>(some (bt658.1,bt658.2.1,bt658.2.2))
theorem laws_markSetOut.mono:∀ a0 a1 a2 a3 a4 a5 k,LeO (laws_markSetOut.f k a0 a1 a2 a3 a4 a5) (laws_markSetOut.f (k+1) a0 a1 a2 a3 a4 a5):=by
 intro a0 a1 a2 a3 a4 a5 k
 unfold laws_markSetOut.f
 repeat' first
   | (with_reducible exact laws_markSet.mono _ _ _ _)
   | (with_reducible exact LeO.refl _)
   | (with_reducible exact LeO.none _)
   | (with_reducible refine LeO.ite ?_ ?_)
   | (with_reducible refine LeO.bind ?_ (fun _=>?_))
   | exact laws_markSet.mono _ _ _ _
   | exact LeO.none _
   | refine LeO.ite ?_ ?_
   | refine LeO.bind ?_ (fun _=>?_)

/-! ### laws_heldSetOut: function 28 -/
def laws_heldSetOut.f (k:Nat) (l0_0:List (S56)) (l0_1:List (S91)) (a0_2:Int) (a0_3:Int) (a0_4:Int) (a1:Int):Option (Int):=(laws_heldSet.f k l0_0 l0_1 a1).bind fun t662=>(if t662<0 then (none) else (some t662))
theorem laws_heldSetOut.mono:∀ a0 a1 a2 a3 a4 a5 k,LeO (laws_heldSetOut.f k a0 a1 a2 a3 a4 a5) (laws_heldSetOut.f (k+1) a0 a1 a2 a3 a4 a5):=by
 intro a0 a1 a2 a3 a4 a5 k
 unfold laws_heldSetOut.f
 repeat' first
   | (with_reducible exact laws_heldSet.mono _ _ _ _)
   | (with_reducible exact LeO.refl _)
   | (with_reducible exact LeO.none _)
   | (with_reducible refine LeO.ite ?_ ?_)
   | (with_reducible refine LeO.bind ?_ (fun _=>?_))
   | exact laws_heldSet.mono _ _ _ _
   | exact LeO.none _
   | refine LeO.ite ?_ ?_
   | refine LeO.bind ?_ (fun _=>?_)
end Go.Proofs.Ytphbgcfpcadabaa.P

namespace Go.Proofs.Ytphbgcfpcadabaa.Q
open Go.RowKit Go.Proofs.Ytphbgcfpcadabaa.P Go.Proofs.YtphbgcfpcadabaaW.PrintWords Go.Proofs.YtphbgcfpcadabaaW.PrintMore

theorem heldSibS_l0 (N:Int) (hN:N≤1152921504606846976):∀ (s pre:List Sib) (n:Int),0≤n→n+4*(s.length:Int)≤N→(pre.length:Int)+s.length≤N →
    Ev (fun k=>laws_heldSibS.l0 k (pre ++ markSL n s) n (pre.length:Int)) (n+4*(s.length:Int))
  | [],pre,n,h0,h1,h2=>by
    refine Ev.step (f:=fun _=>some n) (fun k=>?_) (by simp;exact Ev.now _)
    simp only [laws_heldSibS.l0,markSL,List.append_nil]
    rw [if_neg (by omega)]
  | x :: s,pre,n,h0,h1,h2=>by
    simp only [List.length_cons] at h1 h2
    have ih:=heldSibS_l0 N hN s (pre ++ [⟨⟨n,n+1⟩,(Int.tmod (n+2) 3) == 0,markT (n+3)⟩]) (n+4) (by omega) (by omega) (by simp;omega)
    simp only [List.length_append,List.length_cons,List.length_nil,List.append_assoc,List.cons_append,List.nil_append] at ih
    have hr:rd_T91 (pre ++ markSL n (x :: s)) (pre.length:Int)=⟨⟨n,n+1⟩,(Int.tmod (n+2) 3) == 0,markT (n+3)⟩:=by simp only [rd_T91,Int.toNat_natCast,markSL,getD_mid]
    have w1:wrap64 (n+1)=n+1:=w64 (by omega) (by omega)
    have w2:wrap64 (n+1+1)=n+2:=by rw [w64 (by omega) (by omega)];omega
    have w3:wrap64 (n+2+1)=n+3:=by rw [w64 (by omega) (by omega)];omega
    have w4:wrap64 (n+3+1)=n+4:=by rw [w64 (by omega) (by omega)];omega
    refine Ev.step (f:=fun k=>(laws_markText.f k (n+3)).bind fun t=>if (markT (n+3)).toList=t.toList then laws_heldSibS.l0 k (pre ++ markSL n (x :: s)) (n+4) ((pre.length+(0+1):Nat):Int) else none) (fun k=>?_) (show Ev _ (n+4*((x :: s).length:Int)) from by
      simp only [List.length_cons]
      rw [show n+4*((s.length+1:Nat):Int)=n+4+4*(s.length:Int) from by omega]
      exact Ev.bind (markT_ev (n+3) (by omega)) (evPos rfl ih))
    simp only [laws_heldSibS.l0,hr,w1,w2,w3,w4]
    rw [if_pos (by simp [markSL];omega),if_pos (by omega),if_pos trivial,if_pos trivial,if_neg (by simp),w64 (x:=(pre.length:Int)+1) (by omega) (by omega)]
    rfl
theorem heldSibS_ev (s:List Sib) (n:Int) (h0:0≤n) (h1:n+4*(s.length:Int)≤1152921504606846976):Ev (fun k=>laws_heldSibS.f k (markSL n s) n) (n+4*(s.length:Int)) :=
  heldSibS_l0 1152921504606846976 (Int.le_refl _) s [] n h0 h1 (by simp;omega)
theorem heldSet_ev (v:List Mark) (l:List Sib) (n:Int) (h0:0≤n) (h1:n+2*(v.length:Int)+4*(l.length:Int)≤1152921504606846976) :
    Ev (fun k=>laws_heldSet.f k (markL n v) (markSL (n+2*(v.length:Int)) l) n) (n+2*(v.length:Int)+4*(l.length:Int)) :=
  Ev.bind (heldMarkS_ev v n h0 (by omega)) (evNeg (by omega) (Ev.bind (heldSibS_ev l _ (by omega) h1) (evNeg (by omega) (Ev.now _))))
end Go.Proofs.Ytphbgcfpcadabaa.Q

namespace Go.Proofs.Ytphbgcfpcadabaa.Q
open Go.RowKit Go.Proofs.Ytphbgcfpcadabaa.P Go.Proofs.YtphbgcfpcadabaaW.PrintWords Go.Proofs.YtphbgcfpcadabaaW.PrintMore

theorem szMsg_small (kd fr tu rq:Int) (key:ByteArray) (fo:Int) (v:List LMark) (l:List LSib) (hk:key.size≤9223372036854775807) (hv:v.length≤9223372036854775807) (hl:l.length≤9223372036854775807) (hx:∀ x ∈ l,x.f2.size≤9223372036854775807) :
    ∃ r,Ev (fun k=>laws_szMsg.f k kd fr tu rq key fo v l 1048576) r∧r≤1048576∧(¬ r<0→key.size≤1048576∧v.length≤1048576∧l.length≤1048576):=by
  unfold laws_szMsg.f
  rw [w64 (by omega) (by omega)]
  by_cases h:1048576-(key.size:Int)<0
  · exact ⟨-1,evPos h (Ev.now _),by omega,by omega⟩
  · obtain ⟨r,e1,e2,e3⟩:=szSet_ev v l hv hl hx (1048576-(key.size:Int)) (by omega) (by omega)
    by_cases hr:r<0
    · exact ⟨-1,evNeg h (Ev.bind e1 (evPos hr (Ev.now _))),by omega,by omega⟩
    · refine ⟨r,evNeg h (Ev.bind e1 (evNeg hr (Ev.now _))),by omega,fun h0=>?_⟩
      obtain ⟨g1,g2,_⟩:=e3 (by omega)
      exact ⟨by omega,g1,g2⟩
def msgTurn (kd fr tu rq:Int) (key:ByteArray) (fo:Int) (v:List Mark) (l:List Sib) (kind:Int) (sv:List Mark) (sl:List Sib):Int × Int × Int × Int × ByteArray × Int × List Mark × List Sib × Int :=
  if (msgOk kd fr tu rq key fo v l && (setOk sv sl && msgOk kind tu fr rq key fo sv sl))=true then (kind,tu,fr,rq,key,fo,sv,sl,0) else (0,0,0,0,(⟨#[]⟩:ByteArray),0,[],[],1)
theorem msgTurn_length (kd fr tu rq:Int) (key:ByteArray) (fo:Int) (v:List Mark) (l:List Sib) (kind:Int) (sv:List Mark) (sl:List Sib) (hv:sv.length≤1048576) (hl:sl.length≤1048576) :
    (msgTurn kd fr tu rq key fo v l kind sv sl).2.2.2.2.2.2.1.length≤1048576∧(msgTurn kd fr tu rq key fo v l kind sv sl).2.2.2.2.2.2.2.1.length≤1048576:=by
  unfold msgTurn
  split
  · exact ⟨hv,hl⟩
  · simp
theorem l03Copy_is (v:List Mark) (l:List Sib) (hv:v.length≤1048576) (hl:l.length≤1048576):spec_l03Copy.f v l=some (v,l):=by
  simp only [spec_l03Copy.f,Option.bind_some,List.length_nil,List.nil_append]
  rw [if_pos (by omega),if_pos (by omega)]
theorem spec_MsgTurn_ev (kd fr tu rq:Int) (key:ByteArray) (fo:Int) (v:List Mark) (l:List Sib) (kind:Int) (sv:List Mark) (sl:List Sib) (hk:key.size≤1048576) (hv:v.length≤1048576) (hl:l.length≤1048576) (hv2:sv.length≤1048576) (hl2:sl.length≤1048576) :
    Ev (fun k=>spec_MsgTurn.f k kd fr tu rq key fo v l kind sv sl) (msgTurn kd fr tu rq key fo v l kind sv sl):=by
  unfold spec_MsgTurn.f msgTurn
  have jT:Ev (fun k=>spec_MsgTurn.j0 k kind true kd fr tu rq key fo v l sv sl) (0,0,0,0,(⟨#[]⟩:ByteArray),0,[],[],1):=Ev.step (f:=fun _=>some (0,0,0,0,(⟨#[]⟩:ByteArray),0,[],[],1)) (fun k=>by simp [spec_MsgTurn.j0]) (Ev.now _)
  refine Ev.bind (spec_MsgRight_ev kd fr tu rq key fo v l hk hv hl) ?_
  cases msgOk kd fr tu rq key fo v l with
  | false=>exact evNeg (by simp) jT
  | true =>
    refine evPos rfl (Ev.bind (spec_SetRight_ev sv sl (by omega) hl2) ?_)
    cases setOk sv sl with
    | false=>exact jT
    | true =>
      refine Ev.step (fun k=>by simp only [spec_MsgTurn.j0,spec_l08Turn.f,l03Copy_is sv sl hv2 hl2,Option.bind_some];rw [if_neg (by simp)]) (Ev.bind (spec_MsgRight_ev kind tu fr rq key fo sv sl hk hv2 hl2) ?_)
      cases msgOk kind tu fr rq key fo sv sl with
      | false=>exact evNeg (by simp) (Ev.now _)
      | true=>exact evPos rfl (Ev.now _)
theorem own_is (v:List Mark) (l:List Sib) (hv:v.length≤1048576) (hl:l.length≤1048576):impl_Set_own.f v l=some (v,l):=by
  simp only [impl_Set_own.f,slices_Clone_impl_Mark_impl_Mark.f,slices_Clone_impl_Sib_impl_Sib.f,Option.bind_some,List.length_nil,List.nil_append]
  rw [if_pos (by omega),if_pos (by omega)]
  rfl
theorem impl_MsgTurn_ev (kd fr tu rq:Int) (key:ByteArray) (fo:Int) (v:List Mark) (l:List Sib) (kind:Int) (sv:List Mark) (sl:List Sib) (hk:key.size≤1048576) (hv:v.length≤1048576) (hl:l.length≤1048576) (hv2:sv.length≤1048576) (hl2:sl.length≤1048576) :
    Ev (fun k=>impl_MsgTurn.f k kd fr tu rq key fo v l kind sv sl) (msgTurn kd fr tu rq key fo v l kind sv sl):=by
  unfold impl_MsgTurn.f impl_turned.f msgTurn
  rw [own_is sv sl hv2 hl2]
  refine evBind1 rfl ?_
  have jT:Ev (fun k=>impl_MsgTurn.j0 k true kind tu fr rq key fo sv sl) (0,0,0,0,(⟨#[]⟩:ByteArray),0,[],[],1):=Ev.step (f:=fun _=>some (0,0,0,0,(⟨#[]⟩:ByteArray),0,[],[],1)) (fun k=>by simp [impl_MsgTurn.j0]) (Ev.now _)
  refine Ev.bind (impl_MsgRight_ev kd fr tu rq key fo v l hk hv hl) ?_
  cases msgOk kd fr tu rq key fo v l with
  | false=>exact evNeg (by simp) jT
  | true =>
    refine evPos rfl (Ev.bind (impl_SetRight_ev sv sl (by omega) hl2) ?_)
    cases setOk sv sl with
    | false=>exact evNeg (by simp) jT
    | true =>
      refine evPos rfl (Ev.bind (impl_MsgRight_ev kind tu fr rq key fo sv sl hk hv2 hl2) ?_)
      cases msgOk kind tu fr rq key fo sv sl with
      | false=>exact jT
      | true=>exact Ev.step (f:=fun _=>some (kind,tu,fr,rq,key,fo,sv,sl,0)) (fun k=>by simp [impl_MsgTurn.j0]) (Ev.now _)
theorem eqMsgOut_ev (kd fr tu rq:Int) (key:ByteArray) (fo:Int) (v:List Mark) (l:List Sib) (c:Int) (hv:v.length≤1048576) (hl:l.length≤1048576) :
    Ev (fun k=>laws_eqMsgOut.f k kd fr tu rq key fo v l c kd fr tu rq key fo v l c) true :=
  Ev.bind (eqMsg_ev kd fr tu rq key fo v l hv hl) (evPos rfl (evPos rfl (Ev.now _)))
theorem markMsg_ev (kd fr tu rq:Int) (key:ByteArray) (fo:Int) (v:List Mark) (l:List Sib) (n:Int) (h0:0≤n) (h1:n+2*(v.length:Int)+4*(l.length:Int)≤1152921504606846976) :
    Ev (fun k=>laws_markMsg.f k kd fr tu rq key fo v l n) (n+2*(v.length:Int)+4*(l.length:Int),markL n v,markSL (n+2*(v.length:Int)) l) :=
  Ev.bind (markSet_ev v l n h0 h1) (Ev.now _)
theorem markMsgOut_ev (kd fr tu rq:Int) (key:ByteArray) (fo:Int) (v:List Mark) (l:List Sib) (c n:Int) (h0:0≤n) (h1:n+2*(v.length:Int)+4*(l.length:Int)≤1152921504606846976) :
    Ev (fun k=>laws_markMsgOut.f k kd fr tu rq key fo v l c n) (n+2*(v.length:Int)+4*(l.length:Int),markL n v,markSL (n+2*(v.length:Int)) l) :=
  Ev.bind (markMsg_ev kd fr tu rq key fo v l n h0 h1) (Ev.now _)
theorem heldMsg_ev (kd fr tu rq:Int) (key:ByteArray) (fo:Int) (v:List Mark) (l:List Sib) (n:Int) (h0:0≤n) (h1:n+2*(v.length:Int)+4*(l.length:Int)≤1152921504606846976) :
    Ev (fun k=>laws_heldMsg.f k kd fr tu rq key fo (markL n v) (markSL (n+2*(v.length:Int)) l) n) (n+2*(v.length:Int)+4*(l.length:Int)) :=
  Ev.bind (heldSet_ev v l n h0 h1) (evNeg (by omega) (Ev.now _))
theorem heldMsgOut_ev (kd fr tu rq:Int) (key:ByteArray) (fo:Int) (v:List Mark) (l:List Sib) (c n:Int) (h0:0≤n) (h1:n+2*(v.length:Int)+4*(l.length:Int)≤1152921504606846976) :
    Ev (fun k=>laws_heldMsgOut.f k kd fr tu rq key fo (markL n v) (markSL (n+2*(v.length:Int)) l) c n) (n+2*(v.length:Int)+4*(l.length:Int)) :=
  Ev.bind (heldMsg_ev kd fr tu rq key fo v l n h0 h1) (evNeg (by omega) (Ev.now _))
end Go.Proofs.Ytphbgcfpcadabaa.Q

namespace Go.Proofs.Ytphbgcfpcadabaa.Q
open Go.RowKit Go.Proofs.Ytphbgcfpcadabaa.P Go.Proofs.YtphbgcfpcadabaaW.PrintWords Go.Proofs.YtphbgcfpcadabaaW.PrintMore
theorem szSet_more {x:S32} (hw:Go.Proofs.Ytphbgcfpcadabaa.RO.wfT32 x) (n:Int) (h0:0≤n) (h1:n≤1048576):∃ r,Ev (fun k=>laws_szSet.f k x.f0 x.f1 n) r∧r≤1048576∧(¬ r<0→x.f0.length≤1048576∧x.f1.length≤1048576∧∀ y ∈ x.f1,y.f2.size≤1048576):=by
  obtain ⟨r,e1,e2,e3⟩:=szSet_ev x.f0 x.f1 hw.1.1 hw.2.1 (fun y hy=>(hw.2.2 y hy).2.2) n h0 h1
  exact ⟨r,e1,by omega,fun h=>e3 (by omega)⟩
end Go.Proofs.Ytphbgcfpcadabaa.Q

namespace Go.Proofs.Ytphbgcfpcadabaa.Pure
open Go.RowKit Go.Proofs.Ytphbgcfpcadabaa.P Go.Proofs.Ytphbgcfpcadabaa.Q Go.Proofs.YtphbgcfpcadabaaW.PrintWords Go.Proofs.YtphbgcfpcadabaaW.PrintMore
theorem FnExactMsgTurn:laws_FnExactMsgTurn.Pure:=by
  intro x kind b hx hkind hb
  obtain ⟨_,_,_,_,hk,_,hs⟩:=hx
  obtain ⟨r,e,hr1,hr⟩:=szMsg_small x.f0 x.f1 x.f2 x.f3 x.f4 x.f5 x.f6.f0 x.f6.f1 hk hs.1.1 hs.2.1 (fun y hy=>(hs.2.2 y hy).2.2)
  refine Ev.rounds ?_
  unfold laws_FnExactMsgTurn.f
  refine Ev.bind e (evIte (fun _=>Ev.now _) (fun h=>?_))
  obtain ⟨g0,g1,g2⟩:=hr h
  obtain ⟨n2,e2,hm1,hm2⟩:=szSet_more hb r (by omega) hr1
  refine Ev.bind e2 (evIte (fun _=>Ev.now _) (fun h02=>?_))
  obtain ⟨vb1,lb1,lx2⟩:=hm2 h02
  have ta:=toMsg_ev x.f0 x.f1 x.f2 x.f3 x.f4 x.f5 x.f6.f0 x.f6.f1 g1 g2
  have tb:=toSet_ev b.f0 b.f1 vb1 lb1
  have ga:(x.f6.f0.map toMark).length≤1048576:=by simpa using g1
  have ga2:(x.f6.f1.map toSib).length≤1048576:=by simpa using g2
  have gb:(b.f0.map toMark).length≤1048576:=by simpa using vb1
  have gb2:(b.f1.map toSib).length≤1048576:=by simpa using lb1
  generalize x.f6.f0.map toMark=va at ta ga
  generalize x.f6.f1.map toSib=la at ta ga2
  generalize b.f0.map toMark=vb at tb gb
  generalize b.f1.map toSib=lb at tb gb2
  generalize x.f0=x0 at *
  generalize x.f1=x1 at *
  generalize x.f2=x2 at *
  generalize x.f3=x3 at *
  generalize x.f4=x4 at *
  generalize x.f5=x5 at *
  have s1:=spec_MsgTurn_ev x0 x1 x2 x3 x4 x5 va la kind vb lb g0 ga ga2 gb gb2
  have s2:=impl_MsgTurn_ev x0 x1 x2 x3 x4 x5 va la kind vb lb g0 ga ga2 gb gb2
  have hj:=msgTurn_length x0 x1 x2 x3 x4 x5 va la kind vb lb gb gb2
  generalize msgTurn x0 x1 x2 x3 x4 x5 va la kind vb lb=r at s1 s2 hj
  obtain ⟨r1,r2,r3,r4,r5,r6,v,l,c⟩:=r
  simp only at hj s1 s2
  have eo:=eqMsgOut_ev r1 r2 r3 r4 r5 r6 v l c hj.1 hj.2
  refine Ev.bind ta (Ev.bind tb (Ev.bind s1 (Ev.bind ta (Ev.bind tb (Ev.bind s2 (Ev.bind eo (evPos rfl ?_)))))))
  refine Ev.bind ta (Ev.bind (eqMsg_ev x0 x1 x2 x3 x4 x5 va la ga ga2) (evPos rfl (Ev.bind tb (Ev.bind (eqSet_ev vb lb (by omega) (by omega)) (evPos rfl ?_)))))
  refine Ev.bind (markMsg_ev x0 x1 x2 x3 x4 x5 va la 1 (by omega) (by omega)) (Ev.bind (markSet_ev vb lb _ (by omega) (by omega)) (evNeg (by omega) (Ev.bind eo ?_)))
  refine Ev.step (fun k=>by simp only [laws_FnExactMsgTurn.j0];rw [if_neg (by simp)]) ?_
  have ho:=heldMsgOut_ev r1 r2 r3 r4 r5 r6 v l c 1 (by omega) (by omega)
  refine Ev.bind (markMsgOut_ev r1 r2 r3 r4 r5 r6 v l c 1 (by omega) (by omega)) (Ev.bind ho (evNeg (by omega) (evPos rfl ?_)))
  refine Ev.bind ta (Ev.bind tb (Ev.bind s2 (Ev.bind eo (evPos rfl ?_))))
  exact Ev.bind ho (evNeg (by omega) (evPos rfl (Ev.now _)))
end Go.Proofs.Ytphbgcfpcadabaa.Pure

namespace Go.Proofs.Ytphbgcfpcadabaa.fnExactMsgTurn
open Go.ChangeShapes Go.WideShapes Go.ChangeAt Go.RowKit Go.Proofs.Ytphbgcfpcadabaa.P Go.Proofs.Ytphbgcfpcadabaa.RO Go.Proofs.Ytphbgcfpcadabaa.Open Go.Proofs.YtphbgcfpcadabaaW.PrintWords
open Go.ChangeMaps (open_string shut_string)
set_option linter.unusedVariables false
theorem own:ownKnob Try.prog.godebug=none:=by kernel_rfl
theorem laidOut:laidOutB Try.prog=true:=by kernel_rfl
set_option maxRecDepth 100000 in
theorem lifted (os:Os) (started:os.Started) (H:Type) (enc:TypeId × Value→H) :
    ReturnsInHanded {} Try.checked os 4 .any (Rows.fnExactMsgTurnSpec.pre6 enc Try.prog Try.f4 Rows.fnExactMsgTurnRow.domain false) (Rows.fnExactMsgTurnSpec.post enc Try.prog Try.f4 false true false false):=by
  refine returnsInHanded_of_change_sized (C:=Try.checked) own started (by kernel_rfl) Try.func4
    (ChangeSpec.witness6 (enc:=enc) (C:=Try.checked) false ⟨#[],#[.agg #[.int .i64 0,.int .i64 0,.int .i64 0,.int .i64 0,.string ByteArray.empty,.int .i64 0,.slice none 0 0,.slice none 0 0],.int .i64 0,.agg #[.slice none 0 0,.slice none 0 0]],[]⟩ 8 (by kernel_rfl) (by kernel_rfl) (by kernel_rfl) (by kernel_rfl)) ?_
  intro W base args ds gs before hval0 hW hcnd hsz0 _
  have hsz:(DataW.weightsEach Try.prog (Try.f4.params.toList ++ Rows.fnExactMsgTurnSpec.plain.varTypes Try.prog) (ds ++ gs)).all (· ≤ reachBytes)=true:=hsz0
  have hval:∀ (j:Nat) t v,Try.f4.params[j]? = some t→args[j]? = some v→Value.okWide Try.prog W .any base t v:=hval0
  have hW':=hW
  obtain ⟨p,q,hA0,hV,rfl,hfz,hnd⟩:=hW
  have hA:DataW.TrodAll enc Try.prog W 0 (fun _=>true) true Try.f4.params.toList args.toList ds p:=hA0
  rw [Try.params4] at hA hval hsz
  obtain ⟨v0,vs0,d0,ds0,p0,q0,hargs,rfl,rfl,h0,r0⟩:=trodAll_cons hA
  obtain ⟨v1,vs1,d1,ds1,p1,q1,rfl,rfl,rfl,h1,r1⟩:=trodAll_cons r0
  obtain ⟨v2,vs2,d2,ds2,p2,q2,rfl,rfl,rfl,h2,r2⟩:=trodAll_cons r1
  obtain ⟨rfl,rfl,rfl⟩:=trodAll_nil r2
  obtain rfl:args=#[v0,v1,v2]:=by cases args;simp_all
  obtain ⟨rfl,rfl⟩:=trodVars_none hV
  have k0:=h0
  have lt0:∀ x ∈ p0,x.block<W.heap.size:=by obtain ⟨m,hm⟩:=k0;exact DataW.trod_lt m _ _ _ hm
  obtain ⟨cs0,rfl,_⟩:=okWide_struct Try.underlying34 (hval 0 34 v0 rfl rfl)
  obtain ⟨fuel0,hf0⟩:=h0
  obtain ⟨x0,hk0,w0⟩:=op_T34 hf0
  obtain ⟨A0_6,c0_6,A0_7,c0_7,hcs0,hl0_6,hr0_6,hl0_7,hr0_7⟩:=k34_open hk0
  obtain rfl:cs0=#[.int .i64 x0.f0,.int .i64 x0.f1,.int .i64 x0.f2,.int .i64 x0.f3,.string x0.f4,.int .i64 x0.f5,.slice A0_6 x0.f6.f0.length c0_6,.slice A0_7 x0.f6.f1.length c0_7]:=Array.toList_inj.1 hcs0
  obtain ⟨x1,rfl,rfl,rfl,w1⟩:=open_int Try.underlying2 (hval 1 2 v1 rfl rfl) h1
  have k2:=h2
  have lt2:∀ x ∈ p2,x.block<W.heap.size:=by obtain ⟨m,hm⟩:=k2;exact DataW.trod_lt m _ _ _ hm
  obtain ⟨cs2,rfl,_⟩:=okWide_struct Try.underlying32 (hval 2 32 v2 rfl rfl)
  obtain ⟨fuel2,hf2⟩:=h2
  obtain ⟨x2,hk2,w2⟩:=op_T32 hf2
  obtain ⟨A2_0,c2_0,A2_1,c2_1,hcs2,hl2_0,hr2_0,hl2_1,hr2_1⟩:=k32_open hk2
  obtain rfl:cs2=#[.slice A2_0 x2.f0.length c2_0,.slice A2_1 x2.f1.length c2_1]:=Array.toList_inj.1 hcs2
  clear hA0 hval0 hsz0 hsz
  obtain ⟨k,hp⟩:=Pure.FnExactMsgTurn x0 x1 x2 w0 w1 w2
  refine (P.laws_FnExactMsgTurn.calls k x0.f0 x0.f1 x0.f2 x0.f3 x0.f4 x0.f5 _ _ x0.f6.f0 _ _ x0.f6.f1 x1 _ _ x2.f0 _ _ x2.f1 true W hr0_6 hl0_6 hr0_7 hl0_7 hr2_0 hl2_0 hr2_1 hl2_1 hp).mono fun e W' ⟨he,bel0⟩=>?_
  have bel:Below W.heap.size W W':=bel0
  subst he
  exact ⟨_,rfl,_,_,_,[],_,[],hW',trodAll_mk1 (shut_bool Try.underlying4 _),(trodAll_cons_mk (Below.trod laidOut (by kernel_rfl) (of_decide_eq_true (by kernel_rfl)) k0 bel lt0) (trodAll_cons_mk (shut_int Try.underlying2 w1) (trodAll_cons_mk (Below.trod laidOut (by kernel_rfl) (of_decide_eq_true (by kernel_rfl)) k2 bel lt2) trodAll_mk0))),rfl,bel.frame _,fun h=>by cases h⟩
theorem over:Rows.fnExactMsgTurnRow.holds Try.pinned (OpenSpec.ofChange Rows.fnExactMsgTurnSpec) :=
  OpenClaim.holds_of_wide 4 Try.f4 rfl rfl rfl rfl rfl rfl rfl ⟨rfl,rfl,rfl,rfl,rfl⟩ rfl rfl rfl rfl rfl (by kernel_rfl) Try.func4 (by kernel_rfl)
    (of_decide_eq_true (by kernel_rfl)) (by unfold Func.isWrapper;first | (rw [if_pos (by decide +kernel)];kernel_rfl) | (rw [if_neg (by decide +kernel)];exact ⟨rfl,rfl⟩))
    (fun os started H enc _=>lifted os started H enc)
theorem proved:Rows.FnExactMsgTurnSaid:=over
#print axioms proved
end Go.Proofs.Ytphbgcfpcadabaa.fnExactMsgTurn
namespace Go.Proofs.Ytphbgcfpcadabaa
/-- The row, under a short name, for the claim. -/
theorem fnExactMsgTurn_holds:Rows.FnExactMsgTurnSaid:=fnExactMsgTurn.proved
end Go.Proofs.Ytphbgcfpcadabaa
