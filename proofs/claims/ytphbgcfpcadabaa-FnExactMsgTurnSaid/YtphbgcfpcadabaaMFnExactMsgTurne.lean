/- For all messages, kinds and sets the program's MsgTurn and the reference's return the same, of its own memory, and leave what they are given. No condition. (Part 5 of 6: written by programs of this workplace and by hand, merged.) -/
import Derived.Test.YtphbgcfpcadabaaMFnExactMsgTurna
import Derived.Test.YtphbgcfpcadabaaMFnExactMsgTurnb
import Derived.Test.YtphbgcfpcadabaaMFnExactMsgTurnc
import Derived.Test.YtphbgcfpcadabaaMFnExactMsgTurnd
import Derived.Test.YtphbgcfpcadabaaMFnExactMsgTurnWWords
import Derived.Test.YtphbgcfpcadabaaMFnExactMsgTurnWMore
import Derived.Laws.BitsLemmas
set_option linter.unusedVariables false
set_option linter.unusedSimpArgs false

namespace Go.Proofs.Ytphbgcfpcadabaa.P
open Go.RowKit Go.Proofs.YtphbgcfpcadabaaW.PrintWords Go.Proofs.YtphbgcfpcadabaaW.PrintLast Go.Proofs.YtphbgcfpcadabaaW.PrintMore
attribute [local go_sem] max2_int min2_int max_two min_two max_three min_three max_four min_four   -- for this text's walks alone
set_option linter.unusedVariables false
set_option linter.unusedSimpArgs false

/-! ### laws_FnExactMsgTurn: function 4 -/
def laws_FnExactMsgTurn.j0:Nat→Int→Bool→Int→Int→Int→Int→ByteArray→Int→List (S100)→List (S107)→List (S100)→List (S107)→Int→Int→Int→Int→ByteArray→Int→List (S56)→List (S91)→Int→Int→Int→Int→Int→ByteArray→Int→List (S56)→List (S91)→Int→Option (Bool)
 | 0,_,_,_,_,_,_,_,_,_,_,_,_,_,_,_,_,_,_,_,_,_,_,_,_,_,_,_,_,_,_=>none
 | k+1,x1,x67,x376000,x376001,x376002,x376003,x376004,x376005,x376006,x376007,x377000,x377001,x411000,x411001,x411002,x411003,x411004,x411005,x411006,x411007,x411008,x445000,x445001,x445002,x445003,x445004,x445005,x445006,x445007,x445008=>if x67=true then (none) else ((laws_markMsgOut.f k x445000 x445001 x445002 x445003 x445004 x445005 x445006 x445007 x445008 1).bind fun bt473=>((laws_heldMsgOut.f k x445000 x445001 x445002 x445003 x445004 x445005 bt473.2.1 bt473.2.2 x445008 1).bind fun t476=>(if t476<0 then (none) else (if t476=bt473.1 then ((laws_toMsg.f k x376000 x376001 x376002 x376003 x376004 x376005 x376006 x376007).bind fun bt477=>((laws_toSet.f k x377000 x377001).bind fun bt489=>((impl_MsgTurn.f k bt477.1 bt477.2.1 bt477.2.2.1 bt477.2.2.2.1 bt477.2.2.2.2.1 bt477.2.2.2.2.2.1 bt477.2.2.2.2.2.2.1 bt477.2.2.2.2.2.2.2 x1 bt489.1 bt489.2).bind fun bt495=>((laws_eqMsgOut.f k bt495.1 bt495.2.1 bt495.2.2.1 bt495.2.2.2.1 bt495.2.2.2.2.1 bt495.2.2.2.2.2.1 bt495.2.2.2.2.2.2.1 bt495.2.2.2.2.2.2.2.1 bt495.2.2.2.2.2.2.2.2 x411000 x411001 x411002 x411003 x411004 x411005 x411006 x411007 x411008).bind fun t509=>(if t509=true then ((laws_heldMsgOut.f k x445000 x445001 x445002 x445003 x445004 x445005 bt473.2.1 bt473.2.2 x445008 1).bind fun t510=>(if t510<0 then (none) else (if t510=bt473.1 then (some true) else (none)))) else (none)))))) else (none)))))
def laws_FnExactMsgTurn.f (k:Nat) (a0_0:Int) (a0_1:Int) (a0_2:Int) (a0_3:Int) (a0_4:ByteArray) (a0_5:Int) (l0_6:List (S100)) (l0_7:List (S107)) (a1:Int) (l2_0:List (S100)) (l2_1:List (S107)):Option (Bool):=(laws_szMsg.f k a0_0 a0_1 a0_2 a0_3 a0_4 a0_5 l0_6 l0_7 1048576).bind fun t377=>(if t377<0 then (some true) else ((laws_szSet.f k l2_0 l2_1 t377).bind fun t378=>(if t378<0 then (some true) else ((laws_toMsg.f k a0_0 a0_1 a0_2 a0_3 a0_4 a0_5 l0_6 l0_7).bind fun bt379=>((laws_toSet.f k l2_0 l2_1).bind fun bt391=>((spec_MsgTurn.f k bt379.1 bt379.2.1 bt379.2.2.1 bt379.2.2.2.1 bt379.2.2.2.2.1 bt379.2.2.2.2.2.1 bt379.2.2.2.2.2.2.1 bt379.2.2.2.2.2.2.2 a1 bt391.1 bt391.2).bind fun bt397=>((laws_toMsg.f k a0_0 a0_1 a0_2 a0_3 a0_4 a0_5 l0_6 l0_7).bind fun bt411=>((laws_toSet.f k l2_0 l2_1).bind fun bt424=>((impl_MsgTurn.f k bt411.1 bt411.2.1 bt411.2.2.1 bt411.2.2.2.1 bt411.2.2.2.2.1 bt411.2.2.2.2.2.1 bt411.2.2.2.2.2.2.1 bt411.2.2.2.2.2.2.2 a1 bt424.1 bt424.2).bind fun bt431=>((laws_eqMsgOut.f k bt431.1 bt431.2.1 bt431.2.2.1 bt431.2.2.2.1 bt431.2.2.2.2.1 bt431.2.2.2.2.2.1 bt431.2.2.2.2.2.2.1 bt431.2.2.2.2.2.2.2.1 bt431.2.2.2.2.2.2.2.2 bt397.1 bt397.2.1 bt397.2.2.1 bt397.2.2.2.1 bt397.2.2.2.2.1 bt397.2.2.2.2.2.1 bt397.2.2.2.2.2.2.1 bt397.2.2.2.2.2.2.2.1 bt397.2.2.2.2.2.2.2.2).bind fun t445=>(if t445=true then ((laws_toMsg.f k a0_0 a0_1 a0_2 a0_3 a0_4 a0_5 l0_6 l0_7).bind fun bt446=>((laws_eqMsg.f k bt411.1 bt411.2.1 bt411.2.2.1 bt411.2.2.2.1 bt411.2.2.2.2.1 bt411.2.2.2.2.2.1 bt411.2.2.2.2.2.2.1 bt411.2.2.2.2.2.2.2 bt446.1 bt446.2.1 bt446.2.2.1 bt446.2.2.2.1 bt446.2.2.2.2.1 bt446.2.2.2.2.2.1 bt446.2.2.2.2.2.2.1 bt446.2.2.2.2.2.2.2).bind fun t458=>(if t458=true then ((laws_toSet.f k l2_0 l2_1).bind fun bt459=>((laws_eqSet.f k bt424.1 bt424.2 bt459.1 bt459.2).bind fun t465=>(if t465=true then ((laws_markMsg.f k bt411.1 bt411.2.1 bt411.2.2.1 bt411.2.2.2.1 bt411.2.2.2.2.1 bt411.2.2.2.2.2.1 bt411.2.2.2.2.2.2.1 bt411.2.2.2.2.2.2.2 1).bind fun bt466=>((laws_markSet.f k bt424.1 bt424.2 bt466.1).bind fun bt469=>(if bt469.1<0 then (laws_FnExactMsgTurn.j0 k a1 true a0_0 a0_1 a0_2 a0_3 a0_4 a0_5 l0_6 l0_7 l2_0 l2_1 bt397.1 bt397.2.1 bt397.2.2.1 bt397.2.2.2.1 bt397.2.2.2.2.1 bt397.2.2.2.2.2.1 bt397.2.2.2.2.2.2.1 bt397.2.2.2.2.2.2.2.1 bt397.2.2.2.2.2.2.2.2 bt431.1 bt431.2.1 bt431.2.2.1 bt431.2.2.2.1 bt431.2.2.2.2.1 bt431.2.2.2.2.2.1 bt431.2.2.2.2.2.2.1 bt431.2.2.2.2.2.2.2.1 bt431.2.2.2.2.2.2.2.2) else ((laws_eqMsgOut.f k bt431.1 bt431.2.1 bt431.2.2.1 bt431.2.2.2.1 bt431.2.2.2.2.1 bt431.2.2.2.2.2.1 bt431.2.2.2.2.2.2.1 bt431.2.2.2.2.2.2.2.1 bt431.2.2.2.2.2.2.2.2 bt397.1 bt397.2.1 bt397.2.2.1 bt397.2.2.2.1 bt397.2.2.2.2.1 bt397.2.2.2.2.2.1 bt397.2.2.2.2.2.2.1 bt397.2.2.2.2.2.2.2.1 bt397.2.2.2.2.2.2.2.2).bind fun t472=>(laws_FnExactMsgTurn.j0 k a1 (!t472) a0_0 a0_1 a0_2 a0_3 a0_4 a0_5 l0_6 l0_7 l2_0 l2_1 bt397.1 bt397.2.1 bt397.2.2.1 bt397.2.2.2.1 bt397.2.2.2.2.1 bt397.2.2.2.2.2.1 bt397.2.2.2.2.2.2.1 bt397.2.2.2.2.2.2.2.1 bt397.2.2.2.2.2.2.2.2 bt431.1 bt431.2.1 bt431.2.2.1 bt431.2.2.2.1 bt431.2.2.2.2.1 bt431.2.2.2.2.2.1 bt431.2.2.2.2.2.2.1 bt431.2.2.2.2.2.2.2.1 bt431.2.2.2.2.2.2.2.2))))) else (none)))) else (none)))) else (none))))))))))))
theorem laws_FnExactMsgTurn.mono_l:∀ k,(∀ y0 y1 y2 y3 y4 y5 y6 y7 y8 y9 y10 y11 y12 y13 y14 y15 y16 y17 y18 y19 y20 y21 y22 y23 y24 y25 y26 y27 y28 y29,LeO (laws_FnExactMsgTurn.j0 k y0 y1 y2 y3 y4 y5 y6 y7 y8 y9 y10 y11 y12 y13 y14 y15 y16 y17 y18 y19 y20 y21 y22 y23 y24 y25 y26 y27 y28 y29) (laws_FnExactMsgTurn.j0 (k+1) y0 y1 y2 y3 y4 y5 y6 y7 y8 y9 y10 y11 y12 y13 y14 y15 y16 y17 y18 y19 y20 y21 y22 y23 y24 y25 y26 y27 y28 y29))
 | 0=>fun _ _ _ _ _ _ _ _ _ _ _ _ _ _ _ _ _ _ _ _ _ _ _ _ _ _ _ _ _ _ r h=>by simp [laws_FnExactMsgTurn.j0] at h
 | k+1=>by
  have ih0:=laws_FnExactMsgTurn.mono_l k
  ·intro y0 y1 y2 y3 y4 y5 y6 y7 y8 y9 y10 y11 y12 y13 y14 y15 y16 y17 y18 y19 y20 y21 y22 y23 y24 y25 y26 y27 y28 y29
   unfold laws_FnExactMsgTurn.j0
   repeat' first
   | (with_reducible exact ih0 _ _ _ _ _ _ _ _ _ _ _ _ _ _ _ _ _ _ _ _ _ _ _ _ _ _ _ _ _ _)
   | (with_reducible exact impl_MsgTurn.mono _ _ _ _ _ _ _ _ _ _ _ _)
   | (with_reducible exact laws_eqMsg.mono _ _ _ _ _ _ _ _ _ _ _ _ _ _ _ _ _)
   | (with_reducible exact laws_eqMsgOut.mono _ _ _ _ _ _ _ _ _ _ _ _ _ _ _ _ _ _ _)
   | (with_reducible exact laws_eqSet.mono _ _ _ _ _)
   | (with_reducible exact laws_heldMsgOut.mono _ _ _ _ _ _ _ _ _ _ _)
   | (with_reducible exact laws_markMsg.mono _ _ _ _ _ _ _ _ _ _)
   | (with_reducible exact laws_markMsgOut.mono _ _ _ _ _ _ _ _ _ _ _)
   | (with_reducible exact laws_markSet.mono _ _ _ _)
   | (with_reducible exact laws_szMsg.mono _ _ _ _ _ _ _ _ _ _)
   | (with_reducible exact laws_szSet.mono _ _ _ _)
   | (with_reducible exact laws_toMsg.mono _ _ _ _ _ _ _ _ _)
   | (with_reducible exact laws_toSet.mono _ _ _)
   | (with_reducible exact spec_MsgTurn.mono _ _ _ _ _ _ _ _ _ _ _ _)
   | (with_reducible exact LeO.refl _)
   | (with_reducible exact LeO.none _)
   | (with_reducible refine LeO.ite ?_ ?_)
   | (with_reducible refine LeO.bind ?_ (fun _=>?_))
   | exact ih0 _ _ _ _ _ _ _ _ _ _ _ _ _ _ _ _ _ _ _ _ _ _ _ _ _ _ _ _ _ _
   | exact impl_MsgTurn.mono _ _ _ _ _ _ _ _ _ _ _ _
   | exact laws_eqMsg.mono _ _ _ _ _ _ _ _ _ _ _ _ _ _ _ _ _
   | exact laws_eqMsgOut.mono _ _ _ _ _ _ _ _ _ _ _ _ _ _ _ _ _ _ _
   | exact laws_eqSet.mono _ _ _ _ _
   | exact laws_heldMsgOut.mono _ _ _ _ _ _ _ _ _ _ _
   | exact laws_markMsg.mono _ _ _ _ _ _ _ _ _ _
   | exact laws_markMsgOut.mono _ _ _ _ _ _ _ _ _ _ _
   | exact laws_markSet.mono _ _ _ _
   | exact laws_szMsg.mono _ _ _ _ _ _ _ _ _ _
   | exact laws_szSet.mono _ _ _ _
   | exact laws_toMsg.mono _ _ _ _ _ _ _ _ _
   | exact laws_toSet.mono _ _ _
   | exact spec_MsgTurn.mono _ _ _ _ _ _ _ _ _ _ _ _
   | exact LeO.none _
   | refine LeO.ite ?_ ?_
   | refine LeO.bind ?_ (fun _=>?_)
theorem laws_FnExactMsgTurn.mono:∀ a0 a1 a2 a3 a4 a5 a6 a7 a8 a9 a10 k,LeO (laws_FnExactMsgTurn.f k a0 a1 a2 a3 a4 a5 a6 a7 a8 a9 a10) (laws_FnExactMsgTurn.f (k+1) a0 a1 a2 a3 a4 a5 a6 a7 a8 a9 a10):=by
 intro a0 a1 a2 a3 a4 a5 a6 a7 a8 a9 a10 k
 have ih0:=laws_FnExactMsgTurn.mono_l k
 unfold laws_FnExactMsgTurn.f
 repeat' first
   | (with_reducible exact ih0 _ _ _ _ _ _ _ _ _ _ _ _ _ _ _ _ _ _ _ _ _ _ _ _ _ _ _ _ _ _)
   | (with_reducible exact impl_MsgTurn.mono _ _ _ _ _ _ _ _ _ _ _ _)
   | (with_reducible exact laws_eqMsg.mono _ _ _ _ _ _ _ _ _ _ _ _ _ _ _ _ _)
   | (with_reducible exact laws_eqMsgOut.mono _ _ _ _ _ _ _ _ _ _ _ _ _ _ _ _ _ _ _)
   | (with_reducible exact laws_eqSet.mono _ _ _ _ _)
   | (with_reducible exact laws_heldMsgOut.mono _ _ _ _ _ _ _ _ _ _ _)
   | (with_reducible exact laws_markMsg.mono _ _ _ _ _ _ _ _ _ _)
   | (with_reducible exact laws_markMsgOut.mono _ _ _ _ _ _ _ _ _ _ _)
   | (with_reducible exact laws_markSet.mono _ _ _ _)
   | (with_reducible exact laws_szMsg.mono _ _ _ _ _ _ _ _ _ _)
   | (with_reducible exact laws_szSet.mono _ _ _ _)
   | (with_reducible exact laws_toMsg.mono _ _ _ _ _ _ _ _ _)
   | (with_reducible exact laws_toSet.mono _ _ _)
   | (with_reducible exact spec_MsgTurn.mono _ _ _ _ _ _ _ _ _ _ _ _)
   | (with_reducible exact LeO.refl _)
   | (with_reducible exact LeO.none _)
   | (with_reducible refine LeO.ite ?_ ?_)
   | (with_reducible refine LeO.bind ?_ (fun _=>?_))
   | exact ih0 _ _ _ _ _ _ _ _ _ _ _ _ _ _ _ _ _ _ _ _ _ _ _ _ _ _ _ _ _ _
   | exact impl_MsgTurn.mono _ _ _ _ _ _ _ _ _ _ _ _
   | exact laws_eqMsg.mono _ _ _ _ _ _ _ _ _ _ _ _ _ _ _ _ _
   | exact laws_eqMsgOut.mono _ _ _ _ _ _ _ _ _ _ _ _ _ _ _ _ _ _ _
   | exact laws_eqSet.mono _ _ _ _ _
   | exact laws_heldMsgOut.mono _ _ _ _ _ _ _ _ _ _ _
   | exact laws_markMsg.mono _ _ _ _ _ _ _ _ _ _
   | exact laws_markMsgOut.mono _ _ _ _ _ _ _ _ _ _ _
   | exact laws_markSet.mono _ _ _ _
   | exact laws_szMsg.mono _ _ _ _ _ _ _ _ _ _
   | exact laws_szSet.mono _ _ _ _
   | exact laws_toMsg.mono _ _ _ _ _ _ _ _ _
   | exact laws_toSet.mono _ _ _
   | exact spec_MsgTurn.mono _ _ _ _ _ _ _ _ _ _ _ _
   | exact LeO.none _
   | refine LeO.ite ?_ ?_
   | refine LeO.bind ?_ (fun _=>?_)
def laws_FnExactMsgTurn.T8:Bool × List (List Nat × List Nat):=(true,[([],[]),([0],[0]),([],[]),([],[]),([3,1],[3]),([1,2,4,4],[1,2,4]),([],[]),([6,5,5,0,1,2,3,4,5,6],[5,6])])
def laws_FnExactMsgTurn.B8:List Nat:=[0,1,0,0,11,31,0,127]
theorem laws_FnExactMsgTurn.tab8:rtab .any (opsOf Try.f4 8)=laws_FnExactMsgTurn.T8:=by kernel_rfl
theorem laws_FnExactMsgTurn.bits8:waitsOk laws_FnExactMsgTurn.T8.2 laws_FnExactMsgTurn.B8=true:=by kernel_rfl
def laws_FnExactMsgTurn.T31:Bool × List (List Nat × List Nat):=(true,[([],[]),([0],[0]),([],[]),([],[]),([3,1],[3]),([1,2,4,4],[1,2,4]),([],[]),([6,5,5,0,1,2,3,4,5,6],[5,6])])
def laws_FnExactMsgTurn.B31:List Nat:=[0,1,0,0,11,31,0,127]
theorem laws_FnExactMsgTurn.tab31:rtab .any (opsOf Try.f4 31)=laws_FnExactMsgTurn.T31:=by kernel_rfl
theorem laws_FnExactMsgTurn.bits31:waitsOk laws_FnExactMsgTurn.T31.2 laws_FnExactMsgTurn.B31=true:=by kernel_rfl
set_option maxHeartbeats 8000000 in
set_option maxRecDepth 100000 in
theorem laws_FnExactMsgTurn.calls (k:Nat) (a0_0:Int) (a0_1:Int) (a0_2:Int) (a0_3:Int) (a0_4:ByteArray) (a0_5:Int) (A0_6:Option Addr) (c0_6:Nat) (l0_6:List (S100)) (A0_7:Option Addr) (c0_7:Nat) (l0_7:List (S107)) (a1:Int) (A2_0:Option Addr) (c2_0:Nat) (l2_0:List (S100)) (A2_1:Option Addr) (c2_1:Nat) (l2_1:List (S107)) (r:Bool) (w:World) (hr0_6:Kd.C k100 w A0_6 l0_6.length l0_6) (hc0_6:l0_6.length≤c0_6) (hr0_7:Kd.C k107 w A0_7 l0_7.length l0_7) (hc0_7:l0_7.length≤c0_7) (hr2_0:Kd.C k100 w A2_0 l2_0.length l2_0) (hc2_0:l2_0.length≤c2_0) (hr2_1:Kd.C k107 w A2_1 l2_1.length l2_1) (hc2_1:l2_1.length≤c2_1) (h:laws_FnExactMsgTurn.f k a0_0 a0_1 a0_2 a0_3 a0_4 a0_5 l0_6 l0_7 a1 l2_0 l2_1=some r) :
  Calls Try.prog 4 #[.agg #[.int .i64 a0_0,.int .i64 a0_1,.int .i64 a0_2,.int .i64 a0_3,.string a0_4,.int .i64 a0_5,.slice A0_6 l0_6.length c0_6,.slice A0_7 l0_7.length c0_7],.int .i64 a1,.agg #[.slice A2_0 l2_0.length c2_0,.slice A2_1 l2_1.length c2_1]] w fun e w'=>e = .returned (.bool r)∧Below w.heap.size w w':=by
 have hu34:=Try.underlying34
 have hu32:=Try.underlying32
 have hu44:=Try.underlying44
 have hu42:=Try.underlying42
 have hu40:=Try.underlying40
 have HR0_6:=Aside0.mk hr0_6
 have HC0_6:=Aside0.mk hc0_6
 clear hr0_6 hc0_6
 have HR0_7:=Aside0.mk hr0_7
 have HC0_7:=Aside0.mk hc0_7
 clear hr0_7 hc0_7
 have HR2_0:=Aside0.mk hr2_0
 have HC2_0:=Aside0.mk hc2_0
 clear hr2_0 hc2_0
 have HR2_1:=Aside0.mk hr2_1
 have HC2_1:=Aside0.mk hc2_1
 clear hr2_1 hc2_1
 have HB:=Aside0.mk (Below.refl w.heap.size w)
 have H:((laws_szMsg.f k a0_0 a0_1 a0_2 a0_3 a0_4 a0_5 l0_6 l0_7 1048576).bind fun t377=>(if t377<0 then (some true) else ((laws_szSet.f k l2_0 l2_1 t377).bind fun t378=>(if t378<0 then (some true) else ((laws_toMsg.f k a0_0 a0_1 a0_2 a0_3 a0_4 a0_5 l0_6 l0_7).bind fun bt379=>((laws_toSet.f k l2_0 l2_1).bind fun bt391=>((spec_MsgTurn.f k bt379.1 bt379.2.1 bt379.2.2.1 bt379.2.2.2.1 bt379.2.2.2.2.1 bt379.2.2.2.2.2.1 bt379.2.2.2.2.2.2.1 bt379.2.2.2.2.2.2.2 a1 bt391.1 bt391.2).bind fun bt397=>((laws_toMsg.f k a0_0 a0_1 a0_2 a0_3 a0_4 a0_5 l0_6 l0_7).bind fun bt411=>((laws_toSet.f k l2_0 l2_1).bind fun bt424=>((impl_MsgTurn.f k bt411.1 bt411.2.1 bt411.2.2.1 bt411.2.2.2.1 bt411.2.2.2.2.1 bt411.2.2.2.2.2.1 bt411.2.2.2.2.2.2.1 bt411.2.2.2.2.2.2.2 a1 bt424.1 bt424.2).bind fun bt431=>((laws_eqMsgOut.f k bt431.1 bt431.2.1 bt431.2.2.1 bt431.2.2.2.1 bt431.2.2.2.2.1 bt431.2.2.2.2.2.1 bt431.2.2.2.2.2.2.1 bt431.2.2.2.2.2.2.2.1 bt431.2.2.2.2.2.2.2.2 bt397.1 bt397.2.1 bt397.2.2.1 bt397.2.2.2.1 bt397.2.2.2.2.1 bt397.2.2.2.2.2.1 bt397.2.2.2.2.2.2.1 bt397.2.2.2.2.2.2.2.1 bt397.2.2.2.2.2.2.2.2).bind fun t445=>(if t445=true then ((laws_toMsg.f k a0_0 a0_1 a0_2 a0_3 a0_4 a0_5 l0_6 l0_7).bind fun bt446=>((laws_eqMsg.f k bt411.1 bt411.2.1 bt411.2.2.1 bt411.2.2.2.1 bt411.2.2.2.2.1 bt411.2.2.2.2.2.1 bt411.2.2.2.2.2.2.1 bt411.2.2.2.2.2.2.2 bt446.1 bt446.2.1 bt446.2.2.1 bt446.2.2.2.1 bt446.2.2.2.2.1 bt446.2.2.2.2.2.1 bt446.2.2.2.2.2.2.1 bt446.2.2.2.2.2.2.2).bind fun t458=>(if t458=true then ((laws_toSet.f k l2_0 l2_1).bind fun bt459=>((laws_eqSet.f k bt424.1 bt424.2 bt459.1 bt459.2).bind fun t465=>(if t465=true then ((laws_markMsg.f k bt411.1 bt411.2.1 bt411.2.2.1 bt411.2.2.2.1 bt411.2.2.2.2.1 bt411.2.2.2.2.2.1 bt411.2.2.2.2.2.2.1 bt411.2.2.2.2.2.2.2 1).bind fun bt466=>((laws_markSet.f k bt424.1 bt424.2 bt466.1).bind fun bt469=>(if bt469.1<0 then (laws_FnExactMsgTurn.j0 k a1 true a0_0 a0_1 a0_2 a0_3 a0_4 a0_5 l0_6 l0_7 l2_0 l2_1 bt397.1 bt397.2.1 bt397.2.2.1 bt397.2.2.2.1 bt397.2.2.2.2.1 bt397.2.2.2.2.2.1 bt397.2.2.2.2.2.2.1 bt397.2.2.2.2.2.2.2.1 bt397.2.2.2.2.2.2.2.2 bt431.1 bt431.2.1 bt431.2.2.1 bt431.2.2.2.1 bt431.2.2.2.2.1 bt431.2.2.2.2.2.1 bt431.2.2.2.2.2.2.1 bt431.2.2.2.2.2.2.2.1 bt431.2.2.2.2.2.2.2.2) else ((laws_eqMsgOut.f k bt431.1 bt431.2.1 bt431.2.2.1 bt431.2.2.2.1 bt431.2.2.2.2.1 bt431.2.2.2.2.2.1 bt431.2.2.2.2.2.2.1 bt431.2.2.2.2.2.2.2.1 bt431.2.2.2.2.2.2.2.2 bt397.1 bt397.2.1 bt397.2.2.1 bt397.2.2.2.1 bt397.2.2.2.2.1 bt397.2.2.2.2.2.1 bt397.2.2.2.2.2.2.1 bt397.2.2.2.2.2.2.2.1 bt397.2.2.2.2.2.2.2.2).bind fun t472=>(laws_FnExactMsgTurn.j0 k a1 (!t472) a0_0 a0_1 a0_2 a0_3 a0_4 a0_5 l0_6 l0_7 l2_0 l2_1 bt397.1 bt397.2.1 bt397.2.2.1 bt397.2.2.2.1 bt397.2.2.2.2.1 bt397.2.2.2.2.2.1 bt397.2.2.2.2.2.2.1 bt397.2.2.2.2.2.2.2.1 bt397.2.2.2.2.2.2.2.2 bt431.1 bt431.2.1 bt431.2.2.1 bt431.2.2.2.1 bt431.2.2.2.2.1 bt431.2.2.2.2.2.1 bt431.2.2.2.2.2.2.1 bt431.2.2.2.2.2.2.2.1 bt431.2.2.2.2.2.2.2.2))))) else (none)))) else (none)))) else (none)))))))))))))=some r:=h
 clear h
 replace H:=Option.bind_eq_some_iff.mp H
 obtain ⟨t377,A40,H⟩:=H
 replace H:(if t377<0 then (some true) else ((laws_szSet.f k l2_0 l2_1 t377).bind fun t378=>(if t378<0 then (some true) else ((laws_toMsg.f k a0_0 a0_1 a0_2 a0_3 a0_4 a0_5 l0_6 l0_7).bind fun bt379=>((laws_toSet.f k l2_0 l2_1).bind fun bt391=>((spec_MsgTurn.f k bt379.1 bt379.2.1 bt379.2.2.1 bt379.2.2.2.1 bt379.2.2.2.2.1 bt379.2.2.2.2.2.1 bt379.2.2.2.2.2.2.1 bt379.2.2.2.2.2.2.2 a1 bt391.1 bt391.2).bind fun bt397=>((laws_toMsg.f k a0_0 a0_1 a0_2 a0_3 a0_4 a0_5 l0_6 l0_7).bind fun bt411=>((laws_toSet.f k l2_0 l2_1).bind fun bt424=>((impl_MsgTurn.f k bt411.1 bt411.2.1 bt411.2.2.1 bt411.2.2.2.1 bt411.2.2.2.2.1 bt411.2.2.2.2.2.1 bt411.2.2.2.2.2.2.1 bt411.2.2.2.2.2.2.2 a1 bt424.1 bt424.2).bind fun bt431=>((laws_eqMsgOut.f k bt431.1 bt431.2.1 bt431.2.2.1 bt431.2.2.2.1 bt431.2.2.2.2.1 bt431.2.2.2.2.2.1 bt431.2.2.2.2.2.2.1 bt431.2.2.2.2.2.2.2.1 bt431.2.2.2.2.2.2.2.2 bt397.1 bt397.2.1 bt397.2.2.1 bt397.2.2.2.1 bt397.2.2.2.2.1 bt397.2.2.2.2.2.1 bt397.2.2.2.2.2.2.1 bt397.2.2.2.2.2.2.2.1 bt397.2.2.2.2.2.2.2.2).bind fun t445=>(if t445=true then ((laws_toMsg.f k a0_0 a0_1 a0_2 a0_3 a0_4 a0_5 l0_6 l0_7).bind fun bt446=>((laws_eqMsg.f k bt411.1 bt411.2.1 bt411.2.2.1 bt411.2.2.2.1 bt411.2.2.2.2.1 bt411.2.2.2.2.2.1 bt411.2.2.2.2.2.2.1 bt411.2.2.2.2.2.2.2 bt446.1 bt446.2.1 bt446.2.2.1 bt446.2.2.2.1 bt446.2.2.2.2.1 bt446.2.2.2.2.2.1 bt446.2.2.2.2.2.2.1 bt446.2.2.2.2.2.2.2).bind fun t458=>(if t458=true then ((laws_toSet.f k l2_0 l2_1).bind fun bt459=>((laws_eqSet.f k bt424.1 bt424.2 bt459.1 bt459.2).bind fun t465=>(if t465=true then ((laws_markMsg.f k bt411.1 bt411.2.1 bt411.2.2.1 bt411.2.2.2.1 bt411.2.2.2.2.1 bt411.2.2.2.2.2.1 bt411.2.2.2.2.2.2.1 bt411.2.2.2.2.2.2.2 1).bind fun bt466=>((laws_markSet.f k bt424.1 bt424.2 bt466.1).bind fun bt469=>(if bt469.1<0 then (laws_FnExactMsgTurn.j0 k a1 true a0_0 a0_1 a0_2 a0_3 a0_4 a0_5 l0_6 l0_7 l2_0 l2_1 bt397.1 bt397.2.1 bt397.2.2.1 bt397.2.2.2.1 bt397.2.2.2.2.1 bt397.2.2.2.2.2.1 bt397.2.2.2.2.2.2.1 bt397.2.2.2.2.2.2.2.1 bt397.2.2.2.2.2.2.2.2 bt431.1 bt431.2.1 bt431.2.2.1 bt431.2.2.2.1 bt431.2.2.2.2.1 bt431.2.2.2.2.2.1 bt431.2.2.2.2.2.2.1 bt431.2.2.2.2.2.2.2.1 bt431.2.2.2.2.2.2.2.2) else ((laws_eqMsgOut.f k bt431.1 bt431.2.1 bt431.2.2.1 bt431.2.2.2.1 bt431.2.2.2.2.1 bt431.2.2.2.2.2.1 bt431.2.2.2.2.2.2.1 bt431.2.2.2.2.2.2.2.1 bt431.2.2.2.2.2.2.2.2 bt397.1 bt397.2.1 bt397.2.2.1 bt397.2.2.2.1 bt397.2.2.2.2.1 bt397.2.2.2.2.2.1 bt397.2.2.2.2.2.2.1 bt397.2.2.2.2.2.2.2.1 bt397.2.2.2.2.2.2.2.2).bind fun t472=>(laws_FnExactMsgTurn.j0 k a1 (!t472) a0_0 a0_1 a0_2 a0_3 a0_4 a0_5 l0_6 l0_7 l2_0 l2_1 bt397.1 bt397.2.1 bt397.2.2.1 bt397.2.2.2.1 bt397.2.2.2.2.1 bt397.2.2.2.2.2.1 bt397.2.2.2.2.2.2.1 bt397.2.2.2.2.2.2.2.1 bt397.2.2.2.2.2.2.2.2 bt431.1 bt431.2.1 bt431.2.2.1 bt431.2.2.2.1 bt431.2.2.2.2.1 bt431.2.2.2.2.2.1 bt431.2.2.2.2.2.2.1 bt431.2.2.2.2.2.2.2.1 bt431.2.2.2.2.2.2.2.2))))) else (none)))) else (none)))) else (none))))))))))))=some r:=H
 have A4:=Aside0.mk A40
 clear A40
 by_cases c5:t377<0
 ·rw [if_pos c5] at H
  have c5b0:decide (t377<0)=true:=decide_eq_true c5
  clear c5
  obtain rfl:=Option.some.inj H
  go_enter Try.func4,Try.ntmps4
  go_wp2_with (first | ((with_reducible refine gd_ 3 ?_);refine be_ 3 #[.int .i64 a0_0,.int .i64 a0_1,.int .i64 a0_2,.int .i64 a0_3,.string a0_4,.int .i64 a0_5,.slice A0_6 l0_6.length c0_6,.slice A0_7 l0_7.length c0_7] 34 ?_;intro gb375 hg w6 hbox hb;refine as4_ (below_step (z5_ HB.out) hb) (hbox) ((z7_ HB.out:w.heap.size≤gb375)) ((z7_ HB.out:w.heap.size≤gb375)) ?_;clear HB;intro HB BK375 GW375 GE375;clear hb hbox hg) | ((with_reducible refine gd_ 5 ?_);refine be_ 5 #[.slice A2_0 l2_0.length c2_0,.slice A2_1 l2_1.length c2_1] 32 ?_;intro gb376 hg w7 hbox hb;refine as7_ (blkB_ BK375.out hb) (below_step (z4_ HB.out GE375.out) hb) (hbox) ((z11_ HB.out GE375.out:w.heap.size≤gb376)) ((z11_ HB.out GE375.out:w.heap.size≤gb376)) (neL_ BK375.out hg) (neG_ BK375.out hg) ?_;clear BK375 HB;intro BK375 HB BK376 GW376 GE376 NB375_376 NB376_375;clear hb hbox hg;have hnb8:=NB375_376.out;have hnc8:=NB376_375.out;have ⟨hcz9_0,hcz9_1,hcz9_2,hcz9_3,hcz9_4,hcz9_5,hcz9_6,hcz9_7,hfz9_0,hfz9_1,hfz9_2,hfz9_3,hfz9_4,hfz9_5,hfz9_6,hfz9_7⟩:=cz8_ BK375.out) | ((with_reducible refine gc_ 11 ?_);refine gl_ (some 18) Try.func11 #[.agg #[.int .i64 a0_0,.int .i64 a0_1,.int .i64 a0_2,.int .i64 a0_3,.string a0_4,.int .i64 a0_5,.slice A0_6 l0_6.length c0_6,.slice A0_7 l0_7.length c0_7],.int .i64 1048576] ?_;(with_reducible refine (laws_szMsg.calls k a0_0 a0_1 a0_2 a0_3 a0_4 a0_5 _ _ l0_6 _ _ l0_7 1048576 t377 _ ?s1 ?s2 ?s3 ?s4 A4.out).mono ?_);(case s1=>repeat (first | exact (Kd.C_below HR0_6.out HB.out) | (with_reducible refine Kd.C_alloc ?_ _) | (with_reducible refine Kd.C_drewN ?_ _) | (with_reducible refine Kd.C_drew ?_)));(case s2=>exact HC0_6.out);(case s3=>repeat (first | exact (Kd.C_below HR0_7.out HB.out) | (with_reducible refine Kd.C_alloc ?_ _) | (with_reducible refine Kd.C_drewN ?_ _) | (with_reducible refine Kd.C_drew ?_)));(case s4=>exact HC0_7.out);rintro e w10 ⟨rfl,hb⟩;refine ⟨_,rfl,?_⟩;refine as3_ (blkB_ BK375.out hb) (blkB_ BK376.out hb) (below_step (z6_ HB.out GE375.out GE376.out) hb) ?_;clear BK375 BK376 HB;intro BK375 BK376 HB;(try clear hb)))
  go_ret
  exact ⟨z8_,z6_ HB.out GE375.out GE376.out⟩
 ·rw [if_neg c5] at H
  have c5b0:decide (t377<0)=false:=decide_eq_false c5
  clear c5
  replace H:=Option.bind_eq_some_iff.mp H
  obtain ⟨t378,A110,H⟩:=H
  replace H:(if t378<0 then (some true) else ((laws_toMsg.f k a0_0 a0_1 a0_2 a0_3 a0_4 a0_5 l0_6 l0_7).bind fun bt379=>((laws_toSet.f k l2_0 l2_1).bind fun bt391=>((spec_MsgTurn.f k bt379.1 bt379.2.1 bt379.2.2.1 bt379.2.2.2.1 bt379.2.2.2.2.1 bt379.2.2.2.2.2.1 bt379.2.2.2.2.2.2.1 bt379.2.2.2.2.2.2.2 a1 bt391.1 bt391.2).bind fun bt397=>((laws_toMsg.f k a0_0 a0_1 a0_2 a0_3 a0_4 a0_5 l0_6 l0_7).bind fun bt411=>((laws_toSet.f k l2_0 l2_1).bind fun bt424=>((impl_MsgTurn.f k bt411.1 bt411.2.1 bt411.2.2.1 bt411.2.2.2.1 bt411.2.2.2.2.1 bt411.2.2.2.2.2.1 bt411.2.2.2.2.2.2.1 bt411.2.2.2.2.2.2.2 a1 bt424.1 bt424.2).bind fun bt431=>((laws_eqMsgOut.f k bt431.1 bt431.2.1 bt431.2.2.1 bt431.2.2.2.1 bt431.2.2.2.2.1 bt431.2.2.2.2.2.1 bt431.2.2.2.2.2.2.1 bt431.2.2.2.2.2.2.2.1 bt431.2.2.2.2.2.2.2.2 bt397.1 bt397.2.1 bt397.2.2.1 bt397.2.2.2.1 bt397.2.2.2.2.1 bt397.2.2.2.2.2.1 bt397.2.2.2.2.2.2.1 bt397.2.2.2.2.2.2.2.1 bt397.2.2.2.2.2.2.2.2).bind fun t445=>(if t445=true then ((laws_toMsg.f k a0_0 a0_1 a0_2 a0_3 a0_4 a0_5 l0_6 l0_7).bind fun bt446=>((laws_eqMsg.f k bt411.1 bt411.2.1 bt411.2.2.1 bt411.2.2.2.1 bt411.2.2.2.2.1 bt411.2.2.2.2.2.1 bt411.2.2.2.2.2.2.1 bt411.2.2.2.2.2.2.2 bt446.1 bt446.2.1 bt446.2.2.1 bt446.2.2.2.1 bt446.2.2.2.2.1 bt446.2.2.2.2.2.1 bt446.2.2.2.2.2.2.1 bt446.2.2.2.2.2.2.2).bind fun t458=>(if t458=true then ((laws_toSet.f k l2_0 l2_1).bind fun bt459=>((laws_eqSet.f k bt424.1 bt424.2 bt459.1 bt459.2).bind fun t465=>(if t465=true then ((laws_markMsg.f k bt411.1 bt411.2.1 bt411.2.2.1 bt411.2.2.2.1 bt411.2.2.2.2.1 bt411.2.2.2.2.2.1 bt411.2.2.2.2.2.2.1 bt411.2.2.2.2.2.2.2 1).bind fun bt466=>((laws_markSet.f k bt424.1 bt424.2 bt466.1).bind fun bt469=>(if bt469.1<0 then (laws_FnExactMsgTurn.j0 k a1 true a0_0 a0_1 a0_2 a0_3 a0_4 a0_5 l0_6 l0_7 l2_0 l2_1 bt397.1 bt397.2.1 bt397.2.2.1 bt397.2.2.2.1 bt397.2.2.2.2.1 bt397.2.2.2.2.2.1 bt397.2.2.2.2.2.2.1 bt397.2.2.2.2.2.2.2.1 bt397.2.2.2.2.2.2.2.2 bt431.1 bt431.2.1 bt431.2.2.1 bt431.2.2.2.1 bt431.2.2.2.2.1 bt431.2.2.2.2.2.1 bt431.2.2.2.2.2.2.1 bt431.2.2.2.2.2.2.2.1 bt431.2.2.2.2.2.2.2.2) else ((laws_eqMsgOut.f k bt431.1 bt431.2.1 bt431.2.2.1 bt431.2.2.2.1 bt431.2.2.2.2.1 bt431.2.2.2.2.2.1 bt431.2.2.2.2.2.2.1 bt431.2.2.2.2.2.2.2.1 bt431.2.2.2.2.2.2.2.2 bt397.1 bt397.2.1 bt397.2.2.1 bt397.2.2.2.1 bt397.2.2.2.2.1 bt397.2.2.2.2.2.1 bt397.2.2.2.2.2.2.1 bt397.2.2.2.2.2.2.2.1 bt397.2.2.2.2.2.2.2.2).bind fun t472=>(laws_FnExactMsgTurn.j0 k a1 (!t472) a0_0 a0_1 a0_2 a0_3 a0_4 a0_5 l0_6 l0_7 l2_0 l2_1 bt397.1 bt397.2.1 bt397.2.2.1 bt397.2.2.2.1 bt397.2.2.2.2.1 bt397.2.2.2.2.2.1 bt397.2.2.2.2.2.2.1 bt397.2.2.2.2.2.2.2.1 bt397.2.2.2.2.2.2.2.2 bt431.1 bt431.2.1 bt431.2.2.1 bt431.2.2.2.1 bt431.2.2.2.2.1 bt431.2.2.2.2.2.1 bt431.2.2.2.2.2.2.1 bt431.2.2.2.2.2.2.2.1 bt431.2.2.2.2.2.2.2.2))))) else (none)))) else (none)))) else (none))))))))))=some r:=H
  have A11:=Aside0.mk A110
  clear A110
  by_cases c12:t378<0
  ·rw [if_pos c12] at H
   have c12b0:decide (t378<0)=true:=decide_eq_true c12
   clear c12
   obtain rfl:=Option.some.inj H
   go_enter Try.func4,Try.ntmps4
   go_wp2_with (first | ((with_reducible refine gd_ 3 ?_);refine be_ 3 #[.int .i64 a0_0,.int .i64 a0_1,.int .i64 a0_2,.int .i64 a0_3,.string a0_4,.int .i64 a0_5,.slice A0_6 l0_6.length c0_6,.slice A0_7 l0_7.length c0_7] 34 ?_;intro gb375 hg w13 hbox hb;refine as4_ (below_step (z5_ HB.out) hb) (hbox) ((z7_ HB.out:w.heap.size≤gb375)) ((z7_ HB.out:w.heap.size≤gb375)) ?_;clear HB;intro HB BK375 GW375 GE375;clear hb hbox hg) | ((with_reducible refine gd_ 5 ?_);refine be_ 5 #[.slice A2_0 l2_0.length c2_0,.slice A2_1 l2_1.length c2_1] 32 ?_;intro gb376 hg w14 hbox hb;refine as7_ (blkB_ BK375.out hb) (below_step (z4_ HB.out GE375.out) hb) (hbox) ((z11_ HB.out GE375.out:w.heap.size≤gb376)) ((z11_ HB.out GE375.out:w.heap.size≤gb376)) (neL_ BK375.out hg) (neG_ BK375.out hg) ?_;clear BK375 HB;intro BK375 HB BK376 GW376 GE376 NB375_376 NB376_375;clear hb hbox hg;have hnb15:=NB375_376.out;have hnc15:=NB376_375.out;have ⟨hcz16_0,hcz16_1,hcz16_2,hcz16_3,hcz16_4,hcz16_5,hcz16_6,hcz16_7,hfz16_0,hfz16_1,hfz16_2,hfz16_3,hfz16_4,hfz16_5,hfz16_6,hfz16_7⟩:=cz8_ BK375.out) | ((with_reducible refine gc_ 11 ?_);refine gl_ (some 18) Try.func11 #[.agg #[.int .i64 a0_0,.int .i64 a0_1,.int .i64 a0_2,.int .i64 a0_3,.string a0_4,.int .i64 a0_5,.slice A0_6 l0_6.length c0_6,.slice A0_7 l0_7.length c0_7],.int .i64 1048576] ?_;(with_reducible refine (laws_szMsg.calls k a0_0 a0_1 a0_2 a0_3 a0_4 a0_5 _ _ l0_6 _ _ l0_7 1048576 t377 _ ?s1 ?s2 ?s3 ?s4 A4.out).mono ?_);(case s1=>repeat (first | exact (Kd.C_below HR0_6.out HB.out) | (with_reducible refine Kd.C_alloc ?_ _) | (with_reducible refine Kd.C_drewN ?_ _) | (with_reducible refine Kd.C_drew ?_)));(case s2=>exact HC0_6.out);(case s3=>repeat (first | exact (Kd.C_below HR0_7.out HB.out) | (with_reducible refine Kd.C_alloc ?_ _) | (with_reducible refine Kd.C_drewN ?_ _) | (with_reducible refine Kd.C_drew ?_)));(case s4=>exact HC0_7.out);rintro e w17 ⟨rfl,hb⟩;refine ⟨_,rfl,?_⟩;refine as3_ (blkB_ BK375.out hb) (blkB_ BK376.out hb) (below_step (z6_ HB.out GE375.out GE376.out) hb) ?_;clear BK375 BK376 HB;intro BK375 BK376 HB;(try clear hb);have ⟨hcz18_0,hcz18_1,hfz18_0,hfz18_1⟩:=cz2_ BK376.out) | ((with_reducible refine gc_ 12 ?_);refine gl_ (some 23) Try.func12 #[.agg #[.slice A2_0 l2_0.length c2_0,.slice A2_1 l2_1.length c2_1],.int .i64 t377] ?_;(with_reducible refine (laws_szSet.calls k _ _ l2_0 _ _ l2_1 t377 t378 _ ?s1 ?s2 ?s3 ?s4 A11.out).mono ?_);(case s1=>repeat (first | exact (Kd.C_below HR2_0.out HB.out) | (with_reducible refine Kd.C_alloc ?_ _) | (with_reducible refine Kd.C_drewN ?_ _) | (with_reducible refine Kd.C_drew ?_)));(case s2=>exact HC2_0.out);(case s3=>repeat (first | exact (Kd.C_below HR2_1.out HB.out) | (with_reducible refine Kd.C_alloc ?_ _) | (with_reducible refine Kd.C_drewN ?_ _) | (with_reducible refine Kd.C_drew ?_)));(case s4=>exact HC2_1.out);rintro e w19 ⟨rfl,hb⟩;refine ⟨_,rfl,?_⟩;refine as3_ (blkB_ BK375.out hb) (blkB_ BK376.out hb) (below_step (z6_ HB.out GE375.out GE376.out) hb) ?_;clear BK375 BK376 HB;intro BK375 BK376 HB;(try clear hb)))
   go_ret
   exact ⟨z8_,z6_ HB.out GE375.out GE376.out⟩
  ·rw [if_neg c12] at H
   have c12b0:decide (t378<0)=false:=decide_eq_false c12
   clear c12
   replace H:=Option.bind_eq_some_iff.mp H
   obtain ⟨⟨t379,t380,t381,t382,t383,t384,t385,t388⟩,A200,H⟩:=H
   replace H:((laws_toSet.f k l2_0 l2_1).bind fun bt391=>((spec_MsgTurn.f k t379 t380 t381 t382 t383 t384 t385 t388 a1 bt391.1 bt391.2).bind fun bt397=>((laws_toMsg.f k a0_0 a0_1 a0_2 a0_3 a0_4 a0_5 l0_6 l0_7).bind fun bt411=>((laws_toSet.f k l2_0 l2_1).bind fun bt424=>((impl_MsgTurn.f k bt411.1 bt411.2.1 bt411.2.2.1 bt411.2.2.2.1 bt411.2.2.2.2.1 bt411.2.2.2.2.2.1 bt411.2.2.2.2.2.2.1 bt411.2.2.2.2.2.2.2 a1 bt424.1 bt424.2).bind fun bt431=>((laws_eqMsgOut.f k bt431.1 bt431.2.1 bt431.2.2.1 bt431.2.2.2.1 bt431.2.2.2.2.1 bt431.2.2.2.2.2.1 bt431.2.2.2.2.2.2.1 bt431.2.2.2.2.2.2.2.1 bt431.2.2.2.2.2.2.2.2 bt397.1 bt397.2.1 bt397.2.2.1 bt397.2.2.2.1 bt397.2.2.2.2.1 bt397.2.2.2.2.2.1 bt397.2.2.2.2.2.2.1 bt397.2.2.2.2.2.2.2.1 bt397.2.2.2.2.2.2.2.2).bind fun t445=>(if t445=true then ((laws_toMsg.f k a0_0 a0_1 a0_2 a0_3 a0_4 a0_5 l0_6 l0_7).bind fun bt446=>((laws_eqMsg.f k bt411.1 bt411.2.1 bt411.2.2.1 bt411.2.2.2.1 bt411.2.2.2.2.1 bt411.2.2.2.2.2.1 bt411.2.2.2.2.2.2.1 bt411.2.2.2.2.2.2.2 bt446.1 bt446.2.1 bt446.2.2.1 bt446.2.2.2.1 bt446.2.2.2.2.1 bt446.2.2.2.2.2.1 bt446.2.2.2.2.2.2.1 bt446.2.2.2.2.2.2.2).bind fun t458=>(if t458=true then ((laws_toSet.f k l2_0 l2_1).bind fun bt459=>((laws_eqSet.f k bt424.1 bt424.2 bt459.1 bt459.2).bind fun t465=>(if t465=true then ((laws_markMsg.f k bt411.1 bt411.2.1 bt411.2.2.1 bt411.2.2.2.1 bt411.2.2.2.2.1 bt411.2.2.2.2.2.1 bt411.2.2.2.2.2.2.1 bt411.2.2.2.2.2.2.2 1).bind fun bt466=>((laws_markSet.f k bt424.1 bt424.2 bt466.1).bind fun bt469=>(if bt469.1<0 then (laws_FnExactMsgTurn.j0 k a1 true a0_0 a0_1 a0_2 a0_3 a0_4 a0_5 l0_6 l0_7 l2_0 l2_1 bt397.1 bt397.2.1 bt397.2.2.1 bt397.2.2.2.1 bt397.2.2.2.2.1 bt397.2.2.2.2.2.1 bt397.2.2.2.2.2.2.1 bt397.2.2.2.2.2.2.2.1 bt397.2.2.2.2.2.2.2.2 bt431.1 bt431.2.1 bt431.2.2.1 bt431.2.2.2.1 bt431.2.2.2.2.1 bt431.2.2.2.2.2.1 bt431.2.2.2.2.2.2.1 bt431.2.2.2.2.2.2.2.1 bt431.2.2.2.2.2.2.2.2) else ((laws_eqMsgOut.f k bt431.1 bt431.2.1 bt431.2.2.1 bt431.2.2.2.1 bt431.2.2.2.2.1 bt431.2.2.2.2.2.1 bt431.2.2.2.2.2.2.1 bt431.2.2.2.2.2.2.2.1 bt431.2.2.2.2.2.2.2.2 bt397.1 bt397.2.1 bt397.2.2.1 bt397.2.2.2.1 bt397.2.2.2.2.1 bt397.2.2.2.2.2.1 bt397.2.2.2.2.2.2.1 bt397.2.2.2.2.2.2.2.1 bt397.2.2.2.2.2.2.2.2).bind fun t472=>(laws_FnExactMsgTurn.j0 k a1 (!t472) a0_0 a0_1 a0_2 a0_3 a0_4 a0_5 l0_6 l0_7 l2_0 l2_1 bt397.1 bt397.2.1 bt397.2.2.1 bt397.2.2.2.1 bt397.2.2.2.2.1 bt397.2.2.2.2.2.1 bt397.2.2.2.2.2.2.1 bt397.2.2.2.2.2.2.2.1 bt397.2.2.2.2.2.2.2.2 bt431.1 bt431.2.1 bt431.2.2.1 bt431.2.2.2.1 bt431.2.2.2.2.1 bt431.2.2.2.2.2.1 bt431.2.2.2.2.2.2.1 bt431.2.2.2.2.2.2.2.1 bt431.2.2.2.2.2.2.2.2))))) else (none)))) else (none)))) else (none))))))))=some r:=H
   have A20:=Aside0.mk A200
   clear A200
   replace H:=Option.bind_eq_some_iff.mp H
   obtain ⟨⟨t391,t394⟩,A210,H⟩:=H
   replace H:((spec_MsgTurn.f k t379 t380 t381 t382 t383 t384 t385 t388 a1 t391 t394).bind fun bt397=>((laws_toMsg.f k a0_0 a0_1 a0_2 a0_3 a0_4 a0_5 l0_6 l0_7).bind fun bt411=>((laws_toSet.f k l2_0 l2_1).bind fun bt424=>((impl_MsgTurn.f k bt411.1 bt411.2.1 bt411.2.2.1 bt411.2.2.2.1 bt411.2.2.2.2.1 bt411.2.2.2.2.2.1 bt411.2.2.2.2.2.2.1 bt411.2.2.2.2.2.2.2 a1 bt424.1 bt424.2).bind fun bt431=>((laws_eqMsgOut.f k bt431.1 bt431.2.1 bt431.2.2.1 bt431.2.2.2.1 bt431.2.2.2.2.1 bt431.2.2.2.2.2.1 bt431.2.2.2.2.2.2.1 bt431.2.2.2.2.2.2.2.1 bt431.2.2.2.2.2.2.2.2 bt397.1 bt397.2.1 bt397.2.2.1 bt397.2.2.2.1 bt397.2.2.2.2.1 bt397.2.2.2.2.2.1 bt397.2.2.2.2.2.2.1 bt397.2.2.2.2.2.2.2.1 bt397.2.2.2.2.2.2.2.2).bind fun t445=>(if t445=true then ((laws_toMsg.f k a0_0 a0_1 a0_2 a0_3 a0_4 a0_5 l0_6 l0_7).bind fun bt446=>((laws_eqMsg.f k bt411.1 bt411.2.1 bt411.2.2.1 bt411.2.2.2.1 bt411.2.2.2.2.1 bt411.2.2.2.2.2.1 bt411.2.2.2.2.2.2.1 bt411.2.2.2.2.2.2.2 bt446.1 bt446.2.1 bt446.2.2.1 bt446.2.2.2.1 bt446.2.2.2.2.1 bt446.2.2.2.2.2.1 bt446.2.2.2.2.2.2.1 bt446.2.2.2.2.2.2.2).bind fun t458=>(if t458=true then ((laws_toSet.f k l2_0 l2_1).bind fun bt459=>((laws_eqSet.f k bt424.1 bt424.2 bt459.1 bt459.2).bind fun t465=>(if t465=true then ((laws_markMsg.f k bt411.1 bt411.2.1 bt411.2.2.1 bt411.2.2.2.1 bt411.2.2.2.2.1 bt411.2.2.2.2.2.1 bt411.2.2.2.2.2.2.1 bt411.2.2.2.2.2.2.2 1).bind fun bt466=>((laws_markSet.f k bt424.1 bt424.2 bt466.1).bind fun bt469=>(if bt469.1<0 then (laws_FnExactMsgTurn.j0 k a1 true a0_0 a0_1 a0_2 a0_3 a0_4 a0_5 l0_6 l0_7 l2_0 l2_1 bt397.1 bt397.2.1 bt397.2.2.1 bt397.2.2.2.1 bt397.2.2.2.2.1 bt397.2.2.2.2.2.1 bt397.2.2.2.2.2.2.1 bt397.2.2.2.2.2.2.2.1 bt397.2.2.2.2.2.2.2.2 bt431.1 bt431.2.1 bt431.2.2.1 bt431.2.2.2.1 bt431.2.2.2.2.1 bt431.2.2.2.2.2.1 bt431.2.2.2.2.2.2.1 bt431.2.2.2.2.2.2.2.1 bt431.2.2.2.2.2.2.2.2) else ((laws_eqMsgOut.f k bt431.1 bt431.2.1 bt431.2.2.1 bt431.2.2.2.1 bt431.2.2.2.2.1 bt431.2.2.2.2.2.1 bt431.2.2.2.2.2.2.1 bt431.2.2.2.2.2.2.2.1 bt431.2.2.2.2.2.2.2.2 bt397.1 bt397.2.1 bt397.2.2.1 bt397.2.2.2.1 bt397.2.2.2.2.1 bt397.2.2.2.2.2.1 bt397.2.2.2.2.2.2.1 bt397.2.2.2.2.2.2.2.1 bt397.2.2.2.2.2.2.2.2).bind fun t472=>(laws_FnExactMsgTurn.j0 k a1 (!t472) a0_0 a0_1 a0_2 a0_3 a0_4 a0_5 l0_6 l0_7 l2_0 l2_1 bt397.1 bt397.2.1 bt397.2.2.1 bt397.2.2.2.1 bt397.2.2.2.2.1 bt397.2.2.2.2.2.1 bt397.2.2.2.2.2.2.1 bt397.2.2.2.2.2.2.2.1 bt397.2.2.2.2.2.2.2.2 bt431.1 bt431.2.1 bt431.2.2.1 bt431.2.2.2.1 bt431.2.2.2.2.1 bt431.2.2.2.2.2.1 bt431.2.2.2.2.2.2.1 bt431.2.2.2.2.2.2.2.1 bt431.2.2.2.2.2.2.2.2))))) else (none)))) else (none)))) else (none)))))))=some r:=H
   have A21:=Aside0.mk A210
   clear A210
   replace H:=Option.bind_eq_some_iff.mp H
   obtain ⟨⟨t397,t398,t399,t400,t401,t402,t403,t406,t409⟩,A220,H⟩:=H
   replace H:((laws_toMsg.f k a0_0 a0_1 a0_2 a0_3 a0_4 a0_5 l0_6 l0_7).bind fun bt411=>((laws_toSet.f k l2_0 l2_1).bind fun bt424=>((impl_MsgTurn.f k bt411.1 bt411.2.1 bt411.2.2.1 bt411.2.2.2.1 bt411.2.2.2.2.1 bt411.2.2.2.2.2.1 bt411.2.2.2.2.2.2.1 bt411.2.2.2.2.2.2.2 a1 bt424.1 bt424.2).bind fun bt431=>((laws_eqMsgOut.f k bt431.1 bt431.2.1 bt431.2.2.1 bt431.2.2.2.1 bt431.2.2.2.2.1 bt431.2.2.2.2.2.1 bt431.2.2.2.2.2.2.1 bt431.2.2.2.2.2.2.2.1 bt431.2.2.2.2.2.2.2.2 t397 t398 t399 t400 t401 t402 t403 t406 t409).bind fun t445=>(if t445=true then ((laws_toMsg.f k a0_0 a0_1 a0_2 a0_3 a0_4 a0_5 l0_6 l0_7).bind fun bt446=>((laws_eqMsg.f k bt411.1 bt411.2.1 bt411.2.2.1 bt411.2.2.2.1 bt411.2.2.2.2.1 bt411.2.2.2.2.2.1 bt411.2.2.2.2.2.2.1 bt411.2.2.2.2.2.2.2 bt446.1 bt446.2.1 bt446.2.2.1 bt446.2.2.2.1 bt446.2.2.2.2.1 bt446.2.2.2.2.2.1 bt446.2.2.2.2.2.2.1 bt446.2.2.2.2.2.2.2).bind fun t458=>(if t458=true then ((laws_toSet.f k l2_0 l2_1).bind fun bt459=>((laws_eqSet.f k bt424.1 bt424.2 bt459.1 bt459.2).bind fun t465=>(if t465=true then ((laws_markMsg.f k bt411.1 bt411.2.1 bt411.2.2.1 bt411.2.2.2.1 bt411.2.2.2.2.1 bt411.2.2.2.2.2.1 bt411.2.2.2.2.2.2.1 bt411.2.2.2.2.2.2.2 1).bind fun bt466=>((laws_markSet.f k bt424.1 bt424.2 bt466.1).bind fun bt469=>(if bt469.1<0 then (laws_FnExactMsgTurn.j0 k a1 true a0_0 a0_1 a0_2 a0_3 a0_4 a0_5 l0_6 l0_7 l2_0 l2_1 t397 t398 t399 t400 t401 t402 t403 t406 t409 bt431.1 bt431.2.1 bt431.2.2.1 bt431.2.2.2.1 bt431.2.2.2.2.1 bt431.2.2.2.2.2.1 bt431.2.2.2.2.2.2.1 bt431.2.2.2.2.2.2.2.1 bt431.2.2.2.2.2.2.2.2) else ((laws_eqMsgOut.f k bt431.1 bt431.2.1 bt431.2.2.1 bt431.2.2.2.1 bt431.2.2.2.2.1 bt431.2.2.2.2.2.1 bt431.2.2.2.2.2.2.1 bt431.2.2.2.2.2.2.2.1 bt431.2.2.2.2.2.2.2.2 t397 t398 t399 t400 t401 t402 t403 t406 t409).bind fun t472=>(laws_FnExactMsgTurn.j0 k a1 (!t472) a0_0 a0_1 a0_2 a0_3 a0_4 a0_5 l0_6 l0_7 l2_0 l2_1 t397 t398 t399 t400 t401 t402 t403 t406 t409 bt431.1 bt431.2.1 bt431.2.2.1 bt431.2.2.2.1 bt431.2.2.2.2.1 bt431.2.2.2.2.2.1 bt431.2.2.2.2.2.2.1 bt431.2.2.2.2.2.2.2.1 bt431.2.2.2.2.2.2.2.2))))) else (none)))) else (none)))) else (none))))))=some r:=H
   have A22:=Aside0.mk A220
   clear A220
   replace H:=Option.bind_eq_some_iff.mp H
   obtain ⟨⟨t411,t412,t413,t414,t415,t416,t417,t420⟩,A230,H⟩:=H
   replace H:((laws_toSet.f k l2_0 l2_1).bind fun bt424=>((impl_MsgTurn.f k t411 t412 t413 t414 t415 t416 t417 t420 a1 bt424.1 bt424.2).bind fun bt431=>((laws_eqMsgOut.f k bt431.1 bt431.2.1 bt431.2.2.1 bt431.2.2.2.1 bt431.2.2.2.2.1 bt431.2.2.2.2.2.1 bt431.2.2.2.2.2.2.1 bt431.2.2.2.2.2.2.2.1 bt431.2.2.2.2.2.2.2.2 t397 t398 t399 t400 t401 t402 t403 t406 t409).bind fun t445=>(if t445=true then ((laws_toMsg.f k a0_0 a0_1 a0_2 a0_3 a0_4 a0_5 l0_6 l0_7).bind fun bt446=>((laws_eqMsg.f k t411 t412 t413 t414 t415 t416 t417 t420 bt446.1 bt446.2.1 bt446.2.2.1 bt446.2.2.2.1 bt446.2.2.2.2.1 bt446.2.2.2.2.2.1 bt446.2.2.2.2.2.2.1 bt446.2.2.2.2.2.2.2).bind fun t458=>(if t458=true then ((laws_toSet.f k l2_0 l2_1).bind fun bt459=>((laws_eqSet.f k bt424.1 bt424.2 bt459.1 bt459.2).bind fun t465=>(if t465=true then ((laws_markMsg.f k t411 t412 t413 t414 t415 t416 t417 t420 1).bind fun bt466=>((laws_markSet.f k bt424.1 bt424.2 bt466.1).bind fun bt469=>(if bt469.1<0 then (laws_FnExactMsgTurn.j0 k a1 true a0_0 a0_1 a0_2 a0_3 a0_4 a0_5 l0_6 l0_7 l2_0 l2_1 t397 t398 t399 t400 t401 t402 t403 t406 t409 bt431.1 bt431.2.1 bt431.2.2.1 bt431.2.2.2.1 bt431.2.2.2.2.1 bt431.2.2.2.2.2.1 bt431.2.2.2.2.2.2.1 bt431.2.2.2.2.2.2.2.1 bt431.2.2.2.2.2.2.2.2) else ((laws_eqMsgOut.f k bt431.1 bt431.2.1 bt431.2.2.1 bt431.2.2.2.1 bt431.2.2.2.2.1 bt431.2.2.2.2.2.1 bt431.2.2.2.2.2.2.1 bt431.2.2.2.2.2.2.2.1 bt431.2.2.2.2.2.2.2.2 t397 t398 t399 t400 t401 t402 t403 t406 t409).bind fun t472=>(laws_FnExactMsgTurn.j0 k a1 (!t472) a0_0 a0_1 a0_2 a0_3 a0_4 a0_5 l0_6 l0_7 l2_0 l2_1 t397 t398 t399 t400 t401 t402 t403 t406 t409 bt431.1 bt431.2.1 bt431.2.2.1 bt431.2.2.2.1 bt431.2.2.2.2.1 bt431.2.2.2.2.2.1 bt431.2.2.2.2.2.2.1 bt431.2.2.2.2.2.2.2.1 bt431.2.2.2.2.2.2.2.2))))) else (none)))) else (none)))) else (none)))))=some r:=H
   have A23:=Aside0.mk A230
   clear A230
   replace H:=Option.bind_eq_some_iff.mp H
   obtain ⟨⟨t424,t427⟩,A240,H⟩:=H
   replace H:((impl_MsgTurn.f k t411 t412 t413 t414 t415 t416 t417 t420 a1 t424 t427).bind fun bt431=>((laws_eqMsgOut.f k bt431.1 bt431.2.1 bt431.2.2.1 bt431.2.2.2.1 bt431.2.2.2.2.1 bt431.2.2.2.2.2.1 bt431.2.2.2.2.2.2.1 bt431.2.2.2.2.2.2.2.1 bt431.2.2.2.2.2.2.2.2 t397 t398 t399 t400 t401 t402 t403 t406 t409).bind fun t445=>(if t445=true then ((laws_toMsg.f k a0_0 a0_1 a0_2 a0_3 a0_4 a0_5 l0_6 l0_7).bind fun bt446=>((laws_eqMsg.f k t411 t412 t413 t414 t415 t416 t417 t420 bt446.1 bt446.2.1 bt446.2.2.1 bt446.2.2.2.1 bt446.2.2.2.2.1 bt446.2.2.2.2.2.1 bt446.2.2.2.2.2.2.1 bt446.2.2.2.2.2.2.2).bind fun t458=>(if t458=true then ((laws_toSet.f k l2_0 l2_1).bind fun bt459=>((laws_eqSet.f k t424 t427 bt459.1 bt459.2).bind fun t465=>(if t465=true then ((laws_markMsg.f k t411 t412 t413 t414 t415 t416 t417 t420 1).bind fun bt466=>((laws_markSet.f k t424 t427 bt466.1).bind fun bt469=>(if bt469.1<0 then (laws_FnExactMsgTurn.j0 k a1 true a0_0 a0_1 a0_2 a0_3 a0_4 a0_5 l0_6 l0_7 l2_0 l2_1 t397 t398 t399 t400 t401 t402 t403 t406 t409 bt431.1 bt431.2.1 bt431.2.2.1 bt431.2.2.2.1 bt431.2.2.2.2.1 bt431.2.2.2.2.2.1 bt431.2.2.2.2.2.2.1 bt431.2.2.2.2.2.2.2.1 bt431.2.2.2.2.2.2.2.2) else ((laws_eqMsgOut.f k bt431.1 bt431.2.1 bt431.2.2.1 bt431.2.2.2.1 bt431.2.2.2.2.1 bt431.2.2.2.2.2.1 bt431.2.2.2.2.2.2.1 bt431.2.2.2.2.2.2.2.1 bt431.2.2.2.2.2.2.2.2 t397 t398 t399 t400 t401 t402 t403 t406 t409).bind fun t472=>(laws_FnExactMsgTurn.j0 k a1 (!t472) a0_0 a0_1 a0_2 a0_3 a0_4 a0_5 l0_6 l0_7 l2_0 l2_1 t397 t398 t399 t400 t401 t402 t403 t406 t409 bt431.1 bt431.2.1 bt431.2.2.1 bt431.2.2.2.1 bt431.2.2.2.2.1 bt431.2.2.2.2.2.1 bt431.2.2.2.2.2.2.1 bt431.2.2.2.2.2.2.2.1 bt431.2.2.2.2.2.2.2.2))))) else (none)))) else (none)))) else (none))))=some r:=H
   have A24:=Aside0.mk A240
   clear A240
   replace H:=Option.bind_eq_some_iff.mp H
   obtain ⟨⟨t431,t432,t433,t434,t435,t436,t437,t440,t443⟩,A250,H⟩:=H
   replace H:((laws_eqMsgOut.f k t431 t432 t433 t434 t435 t436 t437 t440 t443 t397 t398 t399 t400 t401 t402 t403 t406 t409).bind fun t445=>(if t445=true then ((laws_toMsg.f k a0_0 a0_1 a0_2 a0_3 a0_4 a0_5 l0_6 l0_7).bind fun bt446=>((laws_eqMsg.f k t411 t412 t413 t414 t415 t416 t417 t420 bt446.1 bt446.2.1 bt446.2.2.1 bt446.2.2.2.1 bt446.2.2.2.2.1 bt446.2.2.2.2.2.1 bt446.2.2.2.2.2.2.1 bt446.2.2.2.2.2.2.2).bind fun t458=>(if t458=true then ((laws_toSet.f k l2_0 l2_1).bind fun bt459=>((laws_eqSet.f k t424 t427 bt459.1 bt459.2).bind fun t465=>(if t465=true then ((laws_markMsg.f k t411 t412 t413 t414 t415 t416 t417 t420 1).bind fun bt466=>((laws_markSet.f k t424 t427 bt466.1).bind fun bt469=>(if bt469.1<0 then (laws_FnExactMsgTurn.j0 k a1 true a0_0 a0_1 a0_2 a0_3 a0_4 a0_5 l0_6 l0_7 l2_0 l2_1 t397 t398 t399 t400 t401 t402 t403 t406 t409 t431 t432 t433 t434 t435 t436 t437 t440 t443) else ((laws_eqMsgOut.f k t431 t432 t433 t434 t435 t436 t437 t440 t443 t397 t398 t399 t400 t401 t402 t403 t406 t409).bind fun t472=>(laws_FnExactMsgTurn.j0 k a1 (!t472) a0_0 a0_1 a0_2 a0_3 a0_4 a0_5 l0_6 l0_7 l2_0 l2_1 t397 t398 t399 t400 t401 t402 t403 t406 t409 t431 t432 t433 t434 t435 t436 t437 t440 t443))))) else (none)))) else (none)))) else (none)))=some r:=H
   have A25:=Aside0.mk A250
   clear A250
   replace H:=Option.bind_eq_some_iff.mp H
   obtain ⟨t445,A260,H⟩:=H
   replace H:(if t445=true then ((laws_toMsg.f k a0_0 a0_1 a0_2 a0_3 a0_4 a0_5 l0_6 l0_7).bind fun bt446=>((laws_eqMsg.f k t411 t412 t413 t414 t415 t416 t417 t420 bt446.1 bt446.2.1 bt446.2.2.1 bt446.2.2.2.1 bt446.2.2.2.2.1 bt446.2.2.2.2.2.1 bt446.2.2.2.2.2.2.1 bt446.2.2.2.2.2.2.2).bind fun t458=>(if t458=true then ((laws_toSet.f k l2_0 l2_1).bind fun bt459=>((laws_eqSet.f k t424 t427 bt459.1 bt459.2).bind fun t465=>(if t465=true then ((laws_markMsg.f k t411 t412 t413 t414 t415 t416 t417 t420 1).bind fun bt466=>((laws_markSet.f k t424 t427 bt466.1).bind fun bt469=>(if bt469.1<0 then (laws_FnExactMsgTurn.j0 k a1 true a0_0 a0_1 a0_2 a0_3 a0_4 a0_5 l0_6 l0_7 l2_0 l2_1 t397 t398 t399 t400 t401 t402 t403 t406 t409 t431 t432 t433 t434 t435 t436 t437 t440 t443) else ((laws_eqMsgOut.f k t431 t432 t433 t434 t435 t436 t437 t440 t443 t397 t398 t399 t400 t401 t402 t403 t406 t409).bind fun t472=>(laws_FnExactMsgTurn.j0 k a1 (!t472) a0_0 a0_1 a0_2 a0_3 a0_4 a0_5 l0_6 l0_7 l2_0 l2_1 t397 t398 t399 t400 t401 t402 t403 t406 t409 t431 t432 t433 t434 t435 t436 t437 t440 t443))))) else (none)))) else (none)))) else (none))=some r:=H
   have A26:=Aside0.mk A260
   clear A260
   by_cases c27:t445=true
   ·subst c27
    have H1:((laws_toMsg.f k a0_0 a0_1 a0_2 a0_3 a0_4 a0_5 l0_6 l0_7).bind fun bt446=>((laws_eqMsg.f k t411 t412 t413 t414 t415 t416 t417 t420 bt446.1 bt446.2.1 bt446.2.2.1 bt446.2.2.2.1 bt446.2.2.2.2.1 bt446.2.2.2.2.2.1 bt446.2.2.2.2.2.2.1 bt446.2.2.2.2.2.2.2).bind fun t458=>(if t458=true then ((laws_toSet.f k l2_0 l2_1).bind fun bt459=>((laws_eqSet.f k t424 t427 bt459.1 bt459.2).bind fun t465=>(if t465=true then ((laws_markMsg.f k t411 t412 t413 t414 t415 t416 t417 t420 1).bind fun bt466=>((laws_markSet.f k t424 t427 bt466.1).bind fun bt469=>(if bt469.1<0 then (laws_FnExactMsgTurn.j0 k a1 true a0_0 a0_1 a0_2 a0_3 a0_4 a0_5 l0_6 l0_7 l2_0 l2_1 t397 t398 t399 t400 t401 t402 t403 t406 t409 t431 t432 t433 t434 t435 t436 t437 t440 t443) else ((laws_eqMsgOut.f k t431 t432 t433 t434 t435 t436 t437 t440 t443 t397 t398 t399 t400 t401 t402 t403 t406 t409).bind fun t472=>(laws_FnExactMsgTurn.j0 k a1 (!t472) a0_0 a0_1 a0_2 a0_3 a0_4 a0_5 l0_6 l0_7 l2_0 l2_1 t397 t398 t399 t400 t401 t402 t403 t406 t409 t431 t432 t433 t434 t435 t436 t437 t440 t443))))) else (none)))) else (none))))=some r:=by rw [if_pos rfl] at H;exact H
    clear H
    have H:=H1
    clear H1
    replace H:=Option.bind_eq_some_iff.mp H
    obtain ⟨⟨t446,t447,t448,t449,t450,t451,t452,t455⟩,A280,H⟩:=H
    replace H:((laws_eqMsg.f k t411 t412 t413 t414 t415 t416 t417 t420 t446 t447 t448 t449 t450 t451 t452 t455).bind fun t458=>(if t458=true then ((laws_toSet.f k l2_0 l2_1).bind fun bt459=>((laws_eqSet.f k t424 t427 bt459.1 bt459.2).bind fun t465=>(if t465=true then ((laws_markMsg.f k t411 t412 t413 t414 t415 t416 t417 t420 1).bind fun bt466=>((laws_markSet.f k t424 t427 bt466.1).bind fun bt469=>(if bt469.1<0 then (laws_FnExactMsgTurn.j0 k a1 true a0_0 a0_1 a0_2 a0_3 a0_4 a0_5 l0_6 l0_7 l2_0 l2_1 t397 t398 t399 t400 t401 t402 t403 t406 t409 t431 t432 t433 t434 t435 t436 t437 t440 t443) else ((laws_eqMsgOut.f k t431 t432 t433 t434 t435 t436 t437 t440 t443 t397 t398 t399 t400 t401 t402 t403 t406 t409).bind fun t472=>(laws_FnExactMsgTurn.j0 k a1 (!t472) a0_0 a0_1 a0_2 a0_3 a0_4 a0_5 l0_6 l0_7 l2_0 l2_1 t397 t398 t399 t400 t401 t402 t403 t406 t409 t431 t432 t433 t434 t435 t436 t437 t440 t443))))) else (none)))) else (none)))=some r:=H
    have A28:=Aside0.mk A280
    clear A280
    replace H:=Option.bind_eq_some_iff.mp H
    obtain ⟨t458,A290,H⟩:=H
    replace H:(if t458=true then ((laws_toSet.f k l2_0 l2_1).bind fun bt459=>((laws_eqSet.f k t424 t427 bt459.1 bt459.2).bind fun t465=>(if t465=true then ((laws_markMsg.f k t411 t412 t413 t414 t415 t416 t417 t420 1).bind fun bt466=>((laws_markSet.f k t424 t427 bt466.1).bind fun bt469=>(if bt469.1<0 then (laws_FnExactMsgTurn.j0 k a1 true a0_0 a0_1 a0_2 a0_3 a0_4 a0_5 l0_6 l0_7 l2_0 l2_1 t397 t398 t399 t400 t401 t402 t403 t406 t409 t431 t432 t433 t434 t435 t436 t437 t440 t443) else ((laws_eqMsgOut.f k t431 t432 t433 t434 t435 t436 t437 t440 t443 t397 t398 t399 t400 t401 t402 t403 t406 t409).bind fun t472=>(laws_FnExactMsgTurn.j0 k a1 (!t472) a0_0 a0_1 a0_2 a0_3 a0_4 a0_5 l0_6 l0_7 l2_0 l2_1 t397 t398 t399 t400 t401 t402 t403 t406 t409 t431 t432 t433 t434 t435 t436 t437 t440 t443))))) else (none)))) else (none))=some r:=H
    have A29:=Aside0.mk A290
    clear A290
    by_cases c30:t458=true
    ·subst c30
     have H1:((laws_toSet.f k l2_0 l2_1).bind fun bt459=>((laws_eqSet.f k t424 t427 bt459.1 bt459.2).bind fun t465=>(if t465=true then ((laws_markMsg.f k t411 t412 t413 t414 t415 t416 t417 t420 1).bind fun bt466=>((laws_markSet.f k t424 t427 bt466.1).bind fun bt469=>(if bt469.1<0 then (laws_FnExactMsgTurn.j0 k a1 true a0_0 a0_1 a0_2 a0_3 a0_4 a0_5 l0_6 l0_7 l2_0 l2_1 t397 t398 t399 t400 t401 t402 t403 t406 t409 t431 t432 t433 t434 t435 t436 t437 t440 t443) else ((laws_eqMsgOut.f k t431 t432 t433 t434 t435 t436 t437 t440 t443 t397 t398 t399 t400 t401 t402 t403 t406 t409).bind fun t472=>(laws_FnExactMsgTurn.j0 k a1 (!t472) a0_0 a0_1 a0_2 a0_3 a0_4 a0_5 l0_6 l0_7 l2_0 l2_1 t397 t398 t399 t400 t401 t402 t403 t406 t409 t431 t432 t433 t434 t435 t436 t437 t440 t443))))) else (none))))=some r:=by rw [if_pos rfl] at H;exact H
     clear H
     have H:=H1
     clear H1
     replace H:=Option.bind_eq_some_iff.mp H
     obtain ⟨⟨t459,t462⟩,A310,H⟩:=H
     replace H:((laws_eqSet.f k t424 t427 t459 t462).bind fun t465=>(if t465=true then ((laws_markMsg.f k t411 t412 t413 t414 t415 t416 t417 t420 1).bind fun bt466=>((laws_markSet.f k t424 t427 bt466.1).bind fun bt469=>(if bt469.1<0 then (laws_FnExactMsgTurn.j0 k a1 true a0_0 a0_1 a0_2 a0_3 a0_4 a0_5 l0_6 l0_7 l2_0 l2_1 t397 t398 t399 t400 t401 t402 t403 t406 t409 t431 t432 t433 t434 t435 t436 t437 t440 t443) else ((laws_eqMsgOut.f k t431 t432 t433 t434 t435 t436 t437 t440 t443 t397 t398 t399 t400 t401 t402 t403 t406 t409).bind fun t472=>(laws_FnExactMsgTurn.j0 k a1 (!t472) a0_0 a0_1 a0_2 a0_3 a0_4 a0_5 l0_6 l0_7 l2_0 l2_1 t397 t398 t399 t400 t401 t402 t403 t406 t409 t431 t432 t433 t434 t435 t436 t437 t440 t443))))) else (none)))=some r:=H
     have A31:=Aside0.mk A310
     clear A310
     replace H:=Option.bind_eq_some_iff.mp H
     obtain ⟨t465,A320,H⟩:=H
     replace H:(if t465=true then ((laws_markMsg.f k t411 t412 t413 t414 t415 t416 t417 t420 1).bind fun bt466=>((laws_markSet.f k t424 t427 bt466.1).bind fun bt469=>(if bt469.1<0 then (laws_FnExactMsgTurn.j0 k a1 true a0_0 a0_1 a0_2 a0_3 a0_4 a0_5 l0_6 l0_7 l2_0 l2_1 t397 t398 t399 t400 t401 t402 t403 t406 t409 t431 t432 t433 t434 t435 t436 t437 t440 t443) else ((laws_eqMsgOut.f k t431 t432 t433 t434 t435 t436 t437 t440 t443 t397 t398 t399 t400 t401 t402 t403 t406 t409).bind fun t472=>(laws_FnExactMsgTurn.j0 k a1 (!t472) a0_0 a0_1 a0_2 a0_3 a0_4 a0_5 l0_6 l0_7 l2_0 l2_1 t397 t398 t399 t400 t401 t402 t403 t406 t409 t431 t432 t433 t434 t435 t436 t437 t440 t443))))) else (none))=some r:=H
     have A32:=Aside0.mk A320
     clear A320
     by_cases c33:t465=true
     ·subst c33
      have H1:((laws_markMsg.f k t411 t412 t413 t414 t415 t416 t417 t420 1).bind fun bt466=>((laws_markSet.f k t424 t427 bt466.1).bind fun bt469=>(if bt469.1<0 then (laws_FnExactMsgTurn.j0 k a1 true a0_0 a0_1 a0_2 a0_3 a0_4 a0_5 l0_6 l0_7 l2_0 l2_1 t397 t398 t399 t400 t401 t402 t403 t406 t409 t431 t432 t433 t434 t435 t436 t437 t440 t443) else ((laws_eqMsgOut.f k t431 t432 t433 t434 t435 t436 t437 t440 t443 t397 t398 t399 t400 t401 t402 t403 t406 t409).bind fun t472=>(laws_FnExactMsgTurn.j0 k a1 (!t472) a0_0 a0_1 a0_2 a0_3 a0_4 a0_5 l0_6 l0_7 l2_0 l2_1 t397 t398 t399 t400 t401 t402 t403 t406 t409 t431 t432 t433 t434 t435 t436 t437 t440 t443)))))=some r:=by rw [if_pos rfl] at H;exact H
      clear H
      have H:=H1
      clear H1
      replace H:=Option.bind_eq_some_iff.mp H
      obtain ⟨⟨t466,t467,t468⟩,A340,H⟩:=H
      replace H:((laws_markSet.f k t424 t427 t466).bind fun bt469=>(if bt469.1<0 then (laws_FnExactMsgTurn.j0 k a1 true a0_0 a0_1 a0_2 a0_3 a0_4 a0_5 l0_6 l0_7 l2_0 l2_1 t397 t398 t399 t400 t401 t402 t403 t406 t409 t431 t432 t433 t434 t435 t436 t437 t440 t443) else ((laws_eqMsgOut.f k t431 t432 t433 t434 t435 t436 t437 t440 t443 t397 t398 t399 t400 t401 t402 t403 t406 t409).bind fun t472=>(laws_FnExactMsgTurn.j0 k a1 (!t472) a0_0 a0_1 a0_2 a0_3 a0_4 a0_5 l0_6 l0_7 l2_0 l2_1 t397 t398 t399 t400 t401 t402 t403 t406 t409 t431 t432 t433 t434 t435 t436 t437 t440 t443))))=some r:=H
      have A34:=Aside0.mk A340
      clear A340
      replace H:=Option.bind_eq_some_iff.mp H
      obtain ⟨⟨t469,t470,t471⟩,A350,H⟩:=H
      replace H:(if t469<0 then (laws_FnExactMsgTurn.j0 k a1 true a0_0 a0_1 a0_2 a0_3 a0_4 a0_5 l0_6 l0_7 l2_0 l2_1 t397 t398 t399 t400 t401 t402 t403 t406 t409 t431 t432 t433 t434 t435 t436 t437 t440 t443) else ((laws_eqMsgOut.f k t431 t432 t433 t434 t435 t436 t437 t440 t443 t397 t398 t399 t400 t401 t402 t403 t406 t409).bind fun t472=>(laws_FnExactMsgTurn.j0 k a1 (!t472) a0_0 a0_1 a0_2 a0_3 a0_4 a0_5 l0_6 l0_7 l2_0 l2_1 t397 t398 t399 t400 t401 t402 t403 t406 t409 t431 t432 t433 t434 t435 t436 t437 t440 t443)))=some r:=H
      have A35:=Aside0.mk A350
      clear A350
      have HC36:=Aside0.mk H
      clear H
      go_enter Try.func4,Try.ntmps4
      try go_wp2_with (first | ((with_reducible refine gd_ 3 ?_);refine be_ 3 #[.int .i64 a0_0,.int .i64 a0_1,.int .i64 a0_2,.int .i64 a0_3,.string a0_4,.int .i64 a0_5,.slice A0_6 l0_6.length c0_6,.slice A0_7 l0_7.length c0_7] 34 ?_;intro gb375 hg w37 hbox hb;refine as4_ (below_step (z5_ HB.out) hb) (hbox) ((z7_ HB.out:w.heap.size≤gb375)) ((z7_ HB.out:w.heap.size≤gb375)) ?_;clear HB;intro HB BK375 GW375 GE375;clear hb hbox hg) | ((with_reducible refine gd_ 5 ?_);refine be_ 5 #[.slice A2_0 l2_0.length c2_0,.slice A2_1 l2_1.length c2_1] 32 ?_;intro gb376 hg w38 hbox hb;refine as7_ (blkB_ BK375.out hb) (below_step (z4_ HB.out GE375.out) hb) (hbox) ((z11_ HB.out GE375.out:w.heap.size≤gb376)) ((z11_ HB.out GE375.out:w.heap.size≤gb376)) (neL_ BK375.out hg) (neG_ BK375.out hg) ?_;clear BK375 HB;intro BK375 HB BK376 GW376 GE376 NB375_376 NB376_375;clear hb hbox hg;have hnb39:=NB375_376.out;have hnc39:=NB376_375.out;have ⟨hcz40_0,hcz40_1,hcz40_2,hcz40_3,hcz40_4,hcz40_5,hcz40_6,hcz40_7,hfz40_0,hfz40_1,hfz40_2,hfz40_3,hfz40_4,hfz40_5,hfz40_6,hfz40_7⟩:=cz8_ BK375.out) | ((with_reducible refine gc_ 11 ?_);refine gl_ (some 18) Try.func11 #[.agg #[.int .i64 a0_0,.int .i64 a0_1,.int .i64 a0_2,.int .i64 a0_3,.string a0_4,.int .i64 a0_5,.slice A0_6 l0_6.length c0_6,.slice A0_7 l0_7.length c0_7],.int .i64 1048576] ?_;(with_reducible refine (laws_szMsg.calls k a0_0 a0_1 a0_2 a0_3 a0_4 a0_5 _ _ l0_6 _ _ l0_7 1048576 t377 _ ?s1 ?s2 ?s3 ?s4 A4.out).mono ?_);(case s1=>repeat (first | exact (Kd.C_below HR0_6.out HB.out) | (with_reducible refine Kd.C_alloc ?_ _) | (with_reducible refine Kd.C_drewN ?_ _) | (with_reducible refine Kd.C_drew ?_)));(case s2=>exact HC0_6.out);(case s3=>repeat (first | exact (Kd.C_below HR0_7.out HB.out) | (with_reducible refine Kd.C_alloc ?_ _) | (with_reducible refine Kd.C_drewN ?_ _) | (with_reducible refine Kd.C_drew ?_)));(case s4=>exact HC0_7.out);rintro e w41 ⟨rfl,hb⟩;refine ⟨_,rfl,?_⟩;refine as3_ (blkB_ BK375.out hb) (blkB_ BK376.out hb) (below_step (z6_ HB.out GE375.out GE376.out) hb) ?_;clear BK375 BK376 HB;intro BK375 BK376 HB;(try clear hb);have ⟨hcz42_0,hcz42_1,hfz42_0,hfz42_1⟩:=cz2_ BK376.out) | ((with_reducible refine gc_ 12 ?_);refine gl_ (some 23) Try.func12 #[.agg #[.slice A2_0 l2_0.length c2_0,.slice A2_1 l2_1.length c2_1],.int .i64 t377] ?_;(with_reducible refine (laws_szSet.calls k _ _ l2_0 _ _ l2_1 t377 t378 _ ?s1 ?s2 ?s3 ?s4 A11.out).mono ?_);(case s1=>repeat (first | exact (Kd.C_below HR2_0.out HB.out) | (with_reducible refine Kd.C_alloc ?_ _) | (with_reducible refine Kd.C_drewN ?_ _) | (with_reducible refine Kd.C_drew ?_)));(case s2=>exact HC2_0.out);(case s3=>repeat (first | exact (Kd.C_below HR2_1.out HB.out) | (with_reducible refine Kd.C_alloc ?_ _) | (with_reducible refine Kd.C_drewN ?_ _) | (with_reducible refine Kd.C_drew ?_)));(case s4=>exact HC2_1.out);rintro e w43 ⟨rfl,hb⟩;refine ⟨_,rfl,?_⟩;refine as3_ (blkB_ BK375.out hb) (blkB_ BK376.out hb) (below_step (z6_ HB.out GE375.out GE376.out) hb) ?_;clear BK375 BK376 HB;intro BK375 BK376 HB;(try clear hb)))
      refine as3_ (blk_drew BK375.out) (blk_drew BK376.out) (below_drew1 HB.out) ?_
      clear BK375 BK376 HB
      intro BK375 BK376 HB
      refine start_ (n:=8) (S:=fun w'=>w'.cell? ⟨gb375,0,none⟩=some (.int .i64 a0_0)∧w'.cell? ⟨gb375,1,none⟩=some (.int .i64 a0_1)∧w'.cell? ⟨gb375,2,none⟩=some (.int .i64 a0_2)∧w'.cell? ⟨gb375,3,none⟩=some (.int .i64 a0_3)∧w'.cell? ⟨gb375,4,none⟩=some (.string a0_4)∧w'.cell? ⟨gb375,5,none⟩=some (.int .i64 a0_5)∧w'.cell? ⟨gb375,6,none⟩=some (.slice A0_6 l0_6.length c0_6)∧w'.cell? ⟨gb375,7,none⟩=some (.slice A0_7 l0_7.length c0_7)∧w'.cell? ⟨gb376,0,none⟩=some (.slice A2_0 l2_0.length c2_0)∧w'.cell? ⟨gb376,1,none⟩=some (.slice A2_1 l2_1.length c2_1)) (ds:=[]) #[O,O,O,O,O,O,O,O] (by kernel_rfl) rfl rfl (cj8_ BK375.out (cc2_ BK376.out)) (fun hHeld=>?_);refine with_tabW laws_FnExactMsgTurn.tab8 laws_FnExactMsgTurn.bits8 (fun HT_ HW_=>?_)
      generalize w43.drew=w44 at BK375 BK376 HB hHeld ⊢
      refine pu_ 2 28 #[O,O,I,O,O,O,O,O] HT_.out ?_
      refine tk10_ 0 26 #[I,O,I,O,O,O,O,O] HT_.out HW_.out hHeld ?_
      refine tk10_ 3 29 #[I,O,I,I,O,O,O,O] HT_.out HW_.out hHeld ?_
      refine join_ (σ:=Value × Value × Value × Value × Value × Value × Nat) 1 #[I,I,I,I,I,I,I,O] (fun s_=>[(27,.agg #[.int .i64 t379,.int .i64 t380,.int .i64 t381,.int .i64 t382,.string t383,.int .i64 t384,s_.1,s_.2.1]),(30,.agg #[s_.2.2.1,s_.2.2.2.1]),(31,.agg #[.int .i64 t397,.int .i64 t398,.int .i64 t399,.int .i64 t400,.string t401,.int .i64 t402,s_.2.2.2.2.1,s_.2.2.2.2.2.1,.int .i64 t409]),(8,.pointer (some ⟨s_.2.2.2.2.2.2,0,none⟩))]) (fun s_ w'=>(w'.cell? ⟨gb375,0,none⟩=some (.int .i64 a0_0)∧w'.cell? ⟨gb375,1,none⟩=some (.int .i64 a0_1)∧w'.cell? ⟨gb375,2,none⟩=some (.int .i64 a0_2)∧w'.cell? ⟨gb375,3,none⟩=some (.int .i64 a0_3)∧w'.cell? ⟨gb375,4,none⟩=some (.string a0_4)∧w'.cell? ⟨gb375,5,none⟩=some (.int .i64 a0_5)∧w'.cell? ⟨gb375,6,none⟩=some (.slice A0_6 l0_6.length c0_6)∧w'.cell? ⟨gb375,7,none⟩=some (.slice A0_7 l0_7.length c0_7)∧w'.cell? ⟨gb376,0,none⟩=some (.slice A2_0 l2_0.length c2_0)∧w'.cell? ⟨gb376,1,none⟩=some (.slice A2_1 l2_1.length c2_1))∧(Kd.R k56 56 w' w.heap.size (fun k_=>some k_≠(s_.2.2.1:Value).ownBlock∧some k_≠(s_.2.2.2.2.1:Value).ownBlock) s_.1 t385)∧(Kd.R k91 91 w' w.heap.size (fun k_=>some k_≠(s_.2.2.2.1:Value).ownBlock∧some k_≠(s_.2.2.2.2.2.1:Value).ownBlock) s_.2.1 t388)∧(Kd.R k56 56 w' w.heap.size (fun k_=>some k_≠(s_.1:Value).ownBlock∧some k_≠(s_.2.2.2.2.1:Value).ownBlock) s_.2.2.1 t391)∧(Kd.R k91 91 w' w.heap.size (fun k_=>some k_≠(s_.2.1:Value).ownBlock∧some k_≠(s_.2.2.2.2.2.1:Value).ownBlock) s_.2.2.2.1 t394)∧(Kd.R k56 56 w' w.heap.size (fun k_=>some k_≠(s_.1:Value).ownBlock∧some k_≠(s_.2.2.1:Value).ownBlock) s_.2.2.2.2.1 t403)∧(Kd.R k91 91 w' w.heap.size (fun k_=>some k_≠(s_.2.1:Value).ownBlock∧some k_≠(s_.2.2.2.1:Value).ownBlock) s_.2.2.2.2.2.1 t406)∧(w'.heap[gb375]? = some (.cells #[.int .i64 a0_0,.int .i64 a0_1,.int .i64 a0_2,.int .i64 a0_3,.string a0_4,.int .i64 a0_5,.slice A0_6 l0_6.length c0_6,.slice A0_7 l0_7.length c0_7] 34 (0,0)))∧(w'.heap[gb376]? = some (.cells #[.slice A2_0 l2_0.length c2_0,.slice A2_1 l2_1.length c2_1] 32 (0,0)))∧(w'.heap[s_.2.2.2.2.2.2]? = some (.cells #[.int .i64 0,.int .i64 0,.int .i64 0,.int .i64 0,.string (⟨#[]⟩:ByteArray),.int .i64 0,.slice none 0 0,.slice none 0 0,.int .i64 0] 44 (0,0)))∧(w.heap.size≤s_.2.2.2.2.2.2)∧(w.heap.size≤s_.2.2.2.2.2.2)∧(gb375≠s_.2.2.2.2.2.2)∧(s_.2.2.2.2.2.2≠gb375)∧(gb376≠s_.2.2.2.2.2.2)∧(s_.2.2.2.2.2.2≠gb376)∧(Below w.heap.size w w')) ?_ ?_
      rotate_left
      ·intro hCont
       refine o2_ 1 6 27 8 #[I,I,I,I,O,O,O,O] #[I,O,I,I,O,O,I,O] HT_.out (fun K hK=>?_) (fun K hK=>?_)
       ·skip
        refine gs_ Try.func14 #[.agg #[.int .i64 a0_0,.int .i64 a0_1,.int .i64 a0_2,.int .i64 a0_3,.string a0_4,.int .i64 a0_5,.slice A0_6 l0_6.length c0_6,.slice A0_7 l0_7.length c0_7]] ?_
        with_reducible refine (laws_toMsg.calls k a0_0 a0_1 a0_2 a0_3 a0_4 a0_5 _ _ l0_6 _ _ l0_7 t379 t380 t381 t382 t383 t384 t385 t388 _ ?s1 ?s2 ?s3 ?s4 A20.out).mono ?_
        (case s1=>repeat (first | exact (Kd.C_below HR0_6.out HB.out) | (with_reducible refine Kd.C_alloc ?_ _) | (with_reducible refine Kd.C_drewN ?_ _) | (with_reducible refine Kd.C_drew ?_)))
        (case s2=>exact HC0_6.out)
        (case s3=>repeat (first | exact (Kd.C_below HR0_7.out HB.out) | (with_reducible refine Kd.C_alloc ?_ _) | (with_reducible refine Kd.C_drewN ?_ _) | (with_reducible refine Kd.C_drew ?_)))
        (case s4=>exact HC0_7.out)
        rintro e w45 ⟨v386,v389,rfl,ho0,ho1,hb⟩
        refine ⟨_,rfl,?_⟩
        refine as5_ (Kd.R_lower ho0 (below_size (z6_ HB.out GE375.out GE376.out))) (Kd.R_lower ho1 (below_size (z6_ HB.out GE375.out GE376.out))) (blkB_ BK375.out hb) (blkB_ BK376.out hb) (below_step (z6_ HB.out GE375.out GE376.out) hb) ?_
        clear BK375 BK376 HB
        intro HO387 HO390 BK375 BK376 HB
        (try clear hb)
        (try clear ho0)
        (try clear ho1)
        refine hK.out _ _ (cj8_ BK375.out (cc2_ BK376.out)) (fun hHeld=>?_)
        clear hK K
        refine nm_ 27 ?_
        refine o2_ 4 6 30 8 #[I,I,I,I,I,O,O,O] #[I,I,I,I,O,O,I,O] HT_.out (fun K hK=>?_) (fun K hK=>?_)
        ·skip
         refine gs_ Try.func15 #[.agg #[.slice A2_0 l2_0.length c2_0,.slice A2_1 l2_1.length c2_1]] ?_
         with_reducible refine (laws_toSet.calls k _ _ l2_0 _ _ l2_1 t391 t394 _ ?s1 ?s2 ?s3 ?s4 A21.out).mono ?_
         (case s1=>repeat (first | exact (Kd.C_below HR2_0.out HB.out) | (with_reducible refine Kd.C_alloc ?_ _) | (with_reducible refine Kd.C_drewN ?_ _) | (with_reducible refine Kd.C_drew ?_)))
         (case s2=>exact HC2_0.out)
         (case s3=>repeat (first | exact (Kd.C_below HR2_1.out HB.out) | (with_reducible refine Kd.C_alloc ?_ _) | (with_reducible refine Kd.C_drewN ?_ _) | (with_reducible refine Kd.C_drew ?_)))
         (case s4=>exact HC2_1.out)
         rintro e w46 ⟨v392,v395,rfl,ho0,ho1,hb⟩
         refine ⟨_,rfl,?_⟩
         refine as7_ (Kd.R_elder' (z0_ HO387.out) (Kd.R_base ho0) hb) (Kd.R_elder' (z0_ HO390.out) (Kd.R_base ho1) hb) (Kd.R_lower (Kd.R_new' ho0 (Kd.R_lt (z0_ HO387.out))) (below_size (z6_ HB.out GE375.out GE376.out))) (Kd.R_lower (Kd.R_new' ho1 (Kd.R_lt (z0_ HO390.out))) (below_size (z6_ HB.out GE375.out GE376.out))) (blkB_ BK375.out hb) (blkB_ BK376.out hb) (below_step (z6_ HB.out GE375.out GE376.out) hb) ?_
         clear HO387 HO390 BK375 BK376 HB
         intro HO387 HO390 HO393 HO396 BK375 BK376 HB
         (try clear hb)
         (try clear ho0)
         (try clear ho1)
         obtain ⟨Ao47,co47,eo47⟩:=Kd.R_slice HO387.out
         (first | subst eo47 | (injection eo47 with f1_ f2_ f3_;have f4_:=f1_.symm;have f5_:=f3_.symm;clear f1_ f2_ f3_;subst f4_;subst f5_))
         obtain ⟨Ao48,co48,eo48⟩:=Kd.R_slice HO390.out
         (first | subst eo48 | (injection eo48 with f1_ f2_ f3_;have f4_:=f1_.symm;have f5_:=f3_.symm;clear f1_ f2_ f3_;subst f4_;subst f5_))
         obtain ⟨Ao49,co49,eo49⟩:=Kd.R_slice HO393.out
         (first | subst eo49 | (injection eo49 with f1_ f2_ f3_;have f4_:=f1_.symm;have f5_:=f3_.symm;clear f1_ f2_ f3_;subst f4_;subst f5_))
         obtain ⟨Ao50,co50,eo50⟩:=Kd.R_slice HO396.out
         (first | subst eo50 | (injection eo50 with f1_ f2_ f3_;have f4_:=f1_.symm;have f5_:=f3_.symm;clear f1_ f2_ f3_;subst f4_;subst f5_))
         refine hK.out _ _ (cj8_ BK375.out (cc2_ BK376.out)) (fun hHeld=>?_)
         clear hK K
         refine nm_ 30 ?_
         refine o2_ 5 6 31 8 #[I,I,I,I,I,I,O,O] #[I,I,I,I,I,O,I,O] HT_.out (fun K hK=>?_) (fun K hK=>?_)
         ·skip
          refine gs_ Try.func13 #[.agg #[.int .i64 t379,.int .i64 t380,.int .i64 t381,.int .i64 t382,.string t383,.int .i64 t384,.slice Ao47 t385.length co47,.slice Ao48 t388.length co48],.int .i64 a1,.agg #[.slice Ao49 t391.length co49,.slice Ao50 t394.length co50]] ?_
          with_reducible refine (spec_MsgTurn.calls k t379 t380 t381 t382 t383 t384 _ _ t385 _ _ t388 a1 _ _ t391 _ _ t394 t397 t398 t399 t400 t401 t402 t403 t406 t409 _ ?s1 ?s2 ?s3 ?s4 ?s5 ?s6 ?s7 ?s8 A22.out).mono ?_
          (case s1=>repeat (first | exact (Kd.R_reads' HO387.out).2.2 | (with_reducible refine Kd.C_alloc ?_ _) | (with_reducible refine Kd.C_drewN ?_ _) | (with_reducible refine Kd.C_drew ?_)))
          (case s2=>exact (Kd.R_reads' HO387.out).2.1)
          (case s3=>repeat (first | exact (Kd.R_reads' HO390.out).2.2 | (with_reducible refine Kd.C_alloc ?_ _) | (with_reducible refine Kd.C_drewN ?_ _) | (with_reducible refine Kd.C_drew ?_)))
          (case s4=>exact (Kd.R_reads' HO390.out).2.1)
          (case s5=>repeat (first | exact (Kd.R_reads' HO393.out).2.2 | (with_reducible refine Kd.C_alloc ?_ _) | (with_reducible refine Kd.C_drewN ?_ _) | (with_reducible refine Kd.C_drew ?_)))
          (case s6=>exact (Kd.R_reads' HO393.out).2.1)
          (case s7=>repeat (first | exact (Kd.R_reads' HO396.out).2.2 | (with_reducible refine Kd.C_alloc ?_ _) | (with_reducible refine Kd.C_drewN ?_ _) | (with_reducible refine Kd.C_drew ?_)))
          (case s8=>exact (Kd.R_reads' HO396.out).2.1)
          rintro e w51 ⟨v404,v407,rfl,ho0,ho1,hb⟩
          refine ⟨_,rfl,?_⟩
          refine as9_ (Kd.R_elder' (z0_ HO387.out) (Kd.R_base ho0) hb) (Kd.R_elder' (z0_ HO390.out) (Kd.R_base ho1) hb) (Kd.R_elder' (z0_ HO393.out) (Kd.R_base ho0) hb) (Kd.R_elder' (z0_ HO396.out) (Kd.R_base ho1) hb) (Kd.R_lower (Kd.R_new' (Kd.R_new' ho0 (Kd.R_lt (z0_ HO387.out))) (Kd.R_lt (z0_ HO393.out))) (below_size (z6_ HB.out GE375.out GE376.out))) (Kd.R_lower (Kd.R_new' (Kd.R_new' ho1 (Kd.R_lt (z0_ HO390.out))) (Kd.R_lt (z0_ HO396.out))) (below_size (z6_ HB.out GE375.out GE376.out))) (blkB_ BK375.out hb) (blkB_ BK376.out hb) (below_step (z6_ HB.out GE375.out GE376.out) hb) ?_
          clear HO387 HO390 HO393 HO396 BK375 BK376 HB
          intro HO387 HO390 HO393 HO396 HO405 HO408 BK375 BK376 HB
          (try clear hb)
          (try clear ho0)
          (try clear ho1)
          refine hK.out _ _ (cj8_ BK375.out (cc2_ BK376.out)) (fun hHeld=>?_)
          clear hK K
          refine nm_ 31 ?_
          refine o1_ 6 8 #[I,I,I,I,I,I,I,O] HT_.out (fun K hK=>?_)
          refine bs_ 8 #[.int .i64 0,.int .i64 0,.int .i64 0,.int .i64 0,.string (⟨#[]⟩:ByteArray),.int .i64 0,.slice none 0 0,.slice none 0 0,.int .i64 0] 44 ?_
          intro gb410 hg w52 hbox hb
          refine as16_ (Kd.R_below (z0_ HO387.out) hb) (Kd.R_below (z0_ HO390.out) hb) (Kd.R_below (z0_ HO393.out) hb) (Kd.R_below (z0_ HO396.out) hb) (Kd.R_below (z0_ HO405.out) hb) (Kd.R_below (z0_ HO408.out) hb) (blkB_ BK375.out hb) (blkB_ BK376.out hb) (below_step (z6_ HB.out GE375.out GE376.out) hb) (hbox) ((z18_ HB.out GE375.out GE376.out:w.heap.size≤gb410)) ((z18_ HB.out GE375.out GE376.out:w.heap.size≤gb410)) (neL_ BK375.out hg) (neG_ BK375.out hg) (neL_ BK376.out hg) (neG_ BK376.out hg) ?_
          clear HO387 HO390 HO393 HO396 HO405 HO408 BK375 BK376 HB
          intro HO387 HO390 HO393 HO396 HO405 HO408 BK375 BK376 HB BK410 GW410 GE410 NB375_410 NB410_375 NB376_410 NB410_376
          clear hb hbox hg
          refine hK.out _ _ (cj8_ BK375.out (cc2_ BK376.out)) (fun hHeld=>?_)
          clear hK K
          refine nm_ 8 ?_
          exact norm_ (z30_) (hCont (.slice Ao47 t385.length co47,.slice Ao48 t388.length co48,.slice Ao49 t391.length co49,.slice Ao50 t394.length co50,v404,v407,gb410) _ ⟨hHeld,(z19_ HO387.out),(z19_ HO390.out),(z19_ HO393.out),(z19_ HO396.out),(z19_ HO405.out),(z19_ HO408.out),(z3_ BK375.out),(z3_ BK376.out),(z3_ BK410.out),GW410.out,GE410.out,NB375_410.out,NB410_375.out,NB376_410.out,NB410_376.out,(z9_ HB.out GE375.out GE376.out GE410.out)⟩)
         ·skip
          refine bs_ 8 #[.int .i64 0,.int .i64 0,.int .i64 0,.int .i64 0,.string (⟨#[]⟩:ByteArray),.int .i64 0,.slice none 0 0,.slice none 0 0,.int .i64 0] 44 ?_
          intro gb410 hg w47 hbox hb
          refine as14_ (Kd.R_below (z0_ HO387.out) hb) (Kd.R_below (z0_ HO390.out) hb) (Kd.R_below (z0_ HO393.out) hb) (Kd.R_below (z0_ HO396.out) hb) (blkB_ BK375.out hb) (blkB_ BK376.out hb) (below_step (z6_ HB.out GE375.out GE376.out) hb) (hbox) ((z18_ HB.out GE375.out GE376.out:w.heap.size≤gb410)) ((z18_ HB.out GE375.out GE376.out:w.heap.size≤gb410)) (neL_ BK375.out hg) (neG_ BK375.out hg) (neL_ BK376.out hg) (neG_ BK376.out hg) ?_
          clear HO387 HO390 HO393 HO396 BK375 BK376 HB
          intro HO387 HO390 HO393 HO396 BK375 BK376 HB BK410 GW410 GE410 NB375_410 NB410_375 NB376_410 NB410_376
          clear hb hbox hg
          obtain ⟨Ao48,co48,eo48⟩:=Kd.R_slice HO387.out
          (first | subst eo48 | (injection eo48 with f1_ f2_ f3_;have f4_:=f1_.symm;have f5_:=f3_.symm;clear f1_ f2_ f3_;subst f4_;subst f5_))
          obtain ⟨Ao49,co49,eo49⟩:=Kd.R_slice HO390.out
          (first | subst eo49 | (injection eo49 with f1_ f2_ f3_;have f4_:=f1_.symm;have f5_:=f3_.symm;clear f1_ f2_ f3_;subst f4_;subst f5_))
          obtain ⟨Ao50,co50,eo50⟩:=Kd.R_slice HO393.out
          (first | subst eo50 | (injection eo50 with f1_ f2_ f3_;have f4_:=f1_.symm;have f5_:=f3_.symm;clear f1_ f2_ f3_;subst f4_;subst f5_))
          obtain ⟨Ao51,co51,eo51⟩:=Kd.R_slice HO396.out
          (first | subst eo51 | (injection eo51 with f1_ f2_ f3_;have f4_:=f1_.symm;have f5_:=f3_.symm;clear f1_ f2_ f3_;subst f4_;subst f5_))
          refine hK.out _ _ (cj8_ BK375.out (cc2_ BK376.out)) (fun hHeld=>?_)
          clear hK K
          refine nm_ 8 ?_
          refine o1_ 5 31 #[I,I,I,I,I,I,I,O] HT_.out (fun K hK=>?_)
          refine gs_ Try.func13 #[.agg #[.int .i64 t379,.int .i64 t380,.int .i64 t381,.int .i64 t382,.string t383,.int .i64 t384,.slice Ao48 t385.length co48,.slice Ao49 t388.length co49],.int .i64 a1,.agg #[.slice Ao50 t391.length co50,.slice Ao51 t394.length co51]] ?_
          with_reducible refine (spec_MsgTurn.calls k t379 t380 t381 t382 t383 t384 _ _ t385 _ _ t388 a1 _ _ t391 _ _ t394 t397 t398 t399 t400 t401 t402 t403 t406 t409 _ ?s1 ?s2 ?s3 ?s4 ?s5 ?s6 ?s7 ?s8 A22.out).mono ?_
          (case s1=>repeat (first | exact (Kd.R_reads' HO387.out).2.2 | (with_reducible refine Kd.C_alloc ?_ _) | (with_reducible refine Kd.C_drewN ?_ _) | (with_reducible refine Kd.C_drew ?_)))
          (case s2=>exact (Kd.R_reads' HO387.out).2.1)
          (case s3=>repeat (first | exact (Kd.R_reads' HO390.out).2.2 | (with_reducible refine Kd.C_alloc ?_ _) | (with_reducible refine Kd.C_drewN ?_ _) | (with_reducible refine Kd.C_drew ?_)))
          (case s4=>exact (Kd.R_reads' HO390.out).2.1)
          (case s5=>repeat (first | exact (Kd.R_reads' HO393.out).2.2 | (with_reducible refine Kd.C_alloc ?_ _) | (with_reducible refine Kd.C_drewN ?_ _) | (with_reducible refine Kd.C_drew ?_)))
          (case s6=>exact (Kd.R_reads' HO393.out).2.1)
          (case s7=>repeat (first | exact (Kd.R_reads' HO396.out).2.2 | (with_reducible refine Kd.C_alloc ?_ _) | (with_reducible refine Kd.C_drewN ?_ _) | (with_reducible refine Kd.C_drew ?_)))
          (case s8=>exact (Kd.R_reads' HO396.out).2.1)
          rintro e w52 ⟨v404,v407,rfl,ho0,ho1,hb⟩
          refine ⟨_,rfl,?_⟩
          refine as10_ (Kd.R_elder' (z0_ HO387.out) (Kd.R_base ho0) hb) (Kd.R_elder' (z0_ HO390.out) (Kd.R_base ho1) hb) (Kd.R_elder' (z0_ HO393.out) (Kd.R_base ho0) hb) (Kd.R_elder' (z0_ HO396.out) (Kd.R_base ho1) hb) (Kd.R_lower (Kd.R_new' (Kd.R_new' ho0 (Kd.R_lt (z0_ HO387.out))) (Kd.R_lt (z0_ HO393.out))) (below_size (z9_ HB.out GE375.out GE376.out GE410.out))) (Kd.R_lower (Kd.R_new' (Kd.R_new' ho1 (Kd.R_lt (z0_ HO390.out))) (Kd.R_lt (z0_ HO396.out))) (below_size (z9_ HB.out GE375.out GE376.out GE410.out))) (blkB_ BK375.out hb) (blkB_ BK376.out hb) (blkB_ BK410.out hb) (below_step (z9_ HB.out GE375.out GE376.out GE410.out) hb) ?_
          clear HO387 HO390 HO393 HO396 BK375 BK376 BK410 HB
          intro HO387 HO390 HO393 HO396 HO405 HO408 BK375 BK376 BK410 HB
          (try clear hb)
          (try clear ho0)
          (try clear ho1)
          refine hK.out _ _ (cj8_ BK375.out (cc2_ BK376.out)) (fun hHeld=>?_)
          clear hK K
          refine nm_ 31 ?_
          exact norm_ (z30_) (hCont (.slice Ao48 t385.length co48,.slice Ao49 t388.length co49,.slice Ao50 t391.length co50,.slice Ao51 t394.length co51,v404,v407,gb410) _ ⟨hHeld,(z19_ HO387.out),(z19_ HO390.out),(z19_ HO393.out),(z19_ HO396.out),(z19_ HO405.out),(z19_ HO408.out),(z3_ BK375.out),(z3_ BK376.out),(z3_ BK410.out),GW410.out,GE410.out,NB375_410.out,NB410_375.out,NB376_410.out,NB410_376.out,(z9_ HB.out GE375.out GE376.out GE410.out)⟩)
        ·skip
         refine bs_ 8 #[.int .i64 0,.int .i64 0,.int .i64 0,.int .i64 0,.string (⟨#[]⟩:ByteArray),.int .i64 0,.slice none 0 0,.slice none 0 0,.int .i64 0] 44 ?_
         intro gb410 hg w46 hbox hb
         refine as12_ (Kd.R_below (z0_ HO387.out) hb) (Kd.R_below (z0_ HO390.out) hb) (blkB_ BK375.out hb) (blkB_ BK376.out hb) (below_step (z6_ HB.out GE375.out GE376.out) hb) (hbox) ((z18_ HB.out GE375.out GE376.out:w.heap.size≤gb410)) ((z18_ HB.out GE375.out GE376.out:w.heap.size≤gb410)) (neL_ BK375.out hg) (neG_ BK375.out hg) (neL_ BK376.out hg) (neG_ BK376.out hg) ?_
         clear HO387 HO390 BK375 BK376 HB
         intro HO387 HO390 BK375 BK376 HB BK410 GW410 GE410 NB375_410 NB410_375 NB376_410 NB410_376
         clear hb hbox hg
         refine hK.out _ _ (cj8_ BK375.out (cc2_ BK376.out)) (fun hHeld=>?_)
         clear hK K
         refine nm_ 8 ?_
         refine o1_ 4 30 #[I,I,I,I,I,O,I,O] HT_.out (fun K hK=>?_)
         refine gs_ Try.func15 #[.agg #[.slice A2_0 l2_0.length c2_0,.slice A2_1 l2_1.length c2_1]] ?_
         with_reducible refine (laws_toSet.calls k _ _ l2_0 _ _ l2_1 t391 t394 _ ?s1 ?s2 ?s3 ?s4 A21.out).mono ?_
         (case s1=>repeat (first | exact (Kd.C_below HR2_0.out HB.out) | (with_reducible refine Kd.C_alloc ?_ _) | (with_reducible refine Kd.C_drewN ?_ _) | (with_reducible refine Kd.C_drew ?_)))
         (case s2=>exact HC2_0.out)
         (case s3=>repeat (first | exact (Kd.C_below HR2_1.out HB.out) | (with_reducible refine Kd.C_alloc ?_ _) | (with_reducible refine Kd.C_drewN ?_ _) | (with_reducible refine Kd.C_drew ?_)))
         (case s4=>exact HC2_1.out)
         rintro e w47 ⟨v392,v395,rfl,ho0,ho1,hb⟩
         refine ⟨_,rfl,?_⟩
         refine as8_ (Kd.R_elder' (z0_ HO387.out) (Kd.R_base ho0) hb) (Kd.R_elder' (z0_ HO390.out) (Kd.R_base ho1) hb) (Kd.R_lower (Kd.R_new' ho0 (Kd.R_lt (z0_ HO387.out))) (below_size (z9_ HB.out GE375.out GE376.out GE410.out))) (Kd.R_lower (Kd.R_new' ho1 (Kd.R_lt (z0_ HO390.out))) (below_size (z9_ HB.out GE375.out GE376.out GE410.out))) (blkB_ BK375.out hb) (blkB_ BK376.out hb) (blkB_ BK410.out hb) (below_step (z9_ HB.out GE375.out GE376.out GE410.out) hb) ?_
         clear HO387 HO390 BK375 BK376 BK410 HB
         intro HO387 HO390 HO393 HO396 BK375 BK376 BK410 HB
         (try clear hb)
         (try clear ho0)
         (try clear ho1)
         obtain ⟨Ao48,co48,eo48⟩:=Kd.R_slice HO387.out
         (first | subst eo48 | (injection eo48 with f1_ f2_ f3_;have f4_:=f1_.symm;have f5_:=f3_.symm;clear f1_ f2_ f3_;subst f4_;subst f5_))
         obtain ⟨Ao49,co49,eo49⟩:=Kd.R_slice HO390.out
         (first | subst eo49 | (injection eo49 with f1_ f2_ f3_;have f4_:=f1_.symm;have f5_:=f3_.symm;clear f1_ f2_ f3_;subst f4_;subst f5_))
         obtain ⟨Ao50,co50,eo50⟩:=Kd.R_slice HO393.out
         (first | subst eo50 | (injection eo50 with f1_ f2_ f3_;have f4_:=f1_.symm;have f5_:=f3_.symm;clear f1_ f2_ f3_;subst f4_;subst f5_))
         obtain ⟨Ao51,co51,eo51⟩:=Kd.R_slice HO396.out
         (first | subst eo51 | (injection eo51 with f1_ f2_ f3_;have f4_:=f1_.symm;have f5_:=f3_.symm;clear f1_ f2_ f3_;subst f4_;subst f5_))
         refine hK.out _ _ (cj8_ BK375.out (cc2_ BK376.out)) (fun hHeld=>?_)
         clear hK K
         refine nm_ 30 ?_
         refine o1_ 5 31 #[I,I,I,I,I,I,I,O] HT_.out (fun K hK=>?_)
         refine gs_ Try.func13 #[.agg #[.int .i64 t379,.int .i64 t380,.int .i64 t381,.int .i64 t382,.string t383,.int .i64 t384,.slice Ao48 t385.length co48,.slice Ao49 t388.length co49],.int .i64 a1,.agg #[.slice Ao50 t391.length co50,.slice Ao51 t394.length co51]] ?_
         with_reducible refine (spec_MsgTurn.calls k t379 t380 t381 t382 t383 t384 _ _ t385 _ _ t388 a1 _ _ t391 _ _ t394 t397 t398 t399 t400 t401 t402 t403 t406 t409 _ ?s1 ?s2 ?s3 ?s4 ?s5 ?s6 ?s7 ?s8 A22.out).mono ?_
         (case s1=>repeat (first | exact (Kd.R_reads' HO387.out).2.2 | (with_reducible refine Kd.C_alloc ?_ _) | (with_reducible refine Kd.C_drewN ?_ _) | (with_reducible refine Kd.C_drew ?_)))
         (case s2=>exact (Kd.R_reads' HO387.out).2.1)
         (case s3=>repeat (first | exact (Kd.R_reads' HO390.out).2.2 | (with_reducible refine Kd.C_alloc ?_ _) | (with_reducible refine Kd.C_drewN ?_ _) | (with_reducible refine Kd.C_drew ?_)))
         (case s4=>exact (Kd.R_reads' HO390.out).2.1)
         (case s5=>repeat (first | exact (Kd.R_reads' HO393.out).2.2 | (with_reducible refine Kd.C_alloc ?_ _) | (with_reducible refine Kd.C_drewN ?_ _) | (with_reducible refine Kd.C_drew ?_)))
         (case s6=>exact (Kd.R_reads' HO393.out).2.1)
         (case s7=>repeat (first | exact (Kd.R_reads' HO396.out).2.2 | (with_reducible refine Kd.C_alloc ?_ _) | (with_reducible refine Kd.C_drewN ?_ _) | (with_reducible refine Kd.C_drew ?_)))
         (case s8=>exact (Kd.R_reads' HO396.out).2.1)
         rintro e w52 ⟨v404,v407,rfl,ho0,ho1,hb⟩
         refine ⟨_,rfl,?_⟩
         refine as10_ (Kd.R_elder' (z0_ HO387.out) (Kd.R_base ho0) hb) (Kd.R_elder' (z0_ HO390.out) (Kd.R_base ho1) hb) (Kd.R_elder' (z0_ HO393.out) (Kd.R_base ho0) hb) (Kd.R_elder' (z0_ HO396.out) (Kd.R_base ho1) hb) (Kd.R_lower (Kd.R_new' (Kd.R_new' ho0 (Kd.R_lt (z0_ HO387.out))) (Kd.R_lt (z0_ HO393.out))) (below_size (z9_ HB.out GE375.out GE376.out GE410.out))) (Kd.R_lower (Kd.R_new' (Kd.R_new' ho1 (Kd.R_lt (z0_ HO390.out))) (Kd.R_lt (z0_ HO396.out))) (below_size (z9_ HB.out GE375.out GE376.out GE410.out))) (blkB_ BK375.out hb) (blkB_ BK376.out hb) (blkB_ BK410.out hb) (below_step (z9_ HB.out GE375.out GE376.out GE410.out) hb) ?_
         clear HO387 HO390 HO393 HO396 BK375 BK376 BK410 HB
         intro HO387 HO390 HO393 HO396 HO405 HO408 BK375 BK376 BK410 HB
         (try clear hb)
         (try clear ho0)
         (try clear ho1)
         refine hK.out _ _ (cj8_ BK375.out (cc2_ BK376.out)) (fun hHeld=>?_)
         clear hK K
         refine nm_ 31 ?_
         exact norm_ (z30_) (hCont (.slice Ao48 t385.length co48,.slice Ao49 t388.length co49,.slice Ao50 t391.length co50,.slice Ao51 t394.length co51,v404,v407,gb410) _ ⟨hHeld,(z19_ HO387.out),(z19_ HO390.out),(z19_ HO393.out),(z19_ HO396.out),(z19_ HO405.out),(z19_ HO408.out),(z3_ BK375.out),(z3_ BK376.out),(z3_ BK410.out),GW410.out,GE410.out,NB375_410.out,NB410_375.out,NB376_410.out,NB410_376.out,(z9_ HB.out GE375.out GE376.out GE410.out)⟩)
       ·skip
        refine bs_ 8 #[.int .i64 0,.int .i64 0,.int .i64 0,.int .i64 0,.string (⟨#[]⟩:ByteArray),.int .i64 0,.slice none 0 0,.slice none 0 0,.int .i64 0] 44 ?_
        intro gb410 hg w45 hbox hb
        refine as10_ (blkB_ BK375.out hb) (blkB_ BK376.out hb) (below_step (z6_ HB.out GE375.out GE376.out) hb) (hbox) ((z18_ HB.out GE375.out GE376.out:w.heap.size≤gb410)) ((z18_ HB.out GE375.out GE376.out:w.heap.size≤gb410)) (neL_ BK375.out hg) (neG_ BK375.out hg) (neL_ BK376.out hg) (neG_ BK376.out hg) ?_
        clear BK375 BK376 HB
        intro BK375 BK376 HB BK410 GW410 GE410 NB375_410 NB410_375 NB376_410 NB410_376
        clear hb hbox hg
        refine hK.out _ _ (cj8_ BK375.out (cc2_ BK376.out)) (fun hHeld=>?_)
        clear hK K
        refine nm_ 8 ?_
        refine o1_ 1 27 #[I,I,I,I,O,O,I,O] HT_.out (fun K hK=>?_)
        refine gs_ Try.func14 #[.agg #[.int .i64 a0_0,.int .i64 a0_1,.int .i64 a0_2,.int .i64 a0_3,.string a0_4,.int .i64 a0_5,.slice A0_6 l0_6.length c0_6,.slice A0_7 l0_7.length c0_7]] ?_
        with_reducible refine (laws_toMsg.calls k a0_0 a0_1 a0_2 a0_3 a0_4 a0_5 _ _ l0_6 _ _ l0_7 t379 t380 t381 t382 t383 t384 t385 t388 _ ?s1 ?s2 ?s3 ?s4 A20.out).mono ?_
        (case s1=>repeat (first | exact (Kd.C_below HR0_6.out HB.out) | (with_reducible refine Kd.C_alloc ?_ _) | (with_reducible refine Kd.C_drewN ?_ _) | (with_reducible refine Kd.C_drew ?_)))
        (case s2=>exact HC0_6.out)
        (case s3=>repeat (first | exact (Kd.C_below HR0_7.out HB.out) | (with_reducible refine Kd.C_alloc ?_ _) | (with_reducible refine Kd.C_drewN ?_ _) | (with_reducible refine Kd.C_drew ?_)))
        (case s4=>exact HC0_7.out)
        rintro e w46 ⟨v386,v389,rfl,ho0,ho1,hb⟩
        refine ⟨_,rfl,?_⟩
        refine as6_ (Kd.R_lower ho0 (below_size (z9_ HB.out GE375.out GE376.out GE410.out))) (Kd.R_lower ho1 (below_size (z9_ HB.out GE375.out GE376.out GE410.out))) (blkB_ BK375.out hb) (blkB_ BK376.out hb) (blkB_ BK410.out hb) (below_step (z9_ HB.out GE375.out GE376.out GE410.out) hb) ?_
        clear BK375 BK376 BK410 HB
        intro HO387 HO390 BK375 BK376 BK410 HB
        (try clear hb)
        (try clear ho0)
        (try clear ho1)
        refine hK.out _ _ (cj8_ BK375.out (cc2_ BK376.out)) (fun hHeld=>?_)
        clear hK K
        refine nm_ 27 ?_
        refine o1_ 4 30 #[I,I,I,I,I,O,I,O] HT_.out (fun K hK=>?_)
        refine gs_ Try.func15 #[.agg #[.slice A2_0 l2_0.length c2_0,.slice A2_1 l2_1.length c2_1]] ?_
        with_reducible refine (laws_toSet.calls k _ _ l2_0 _ _ l2_1 t391 t394 _ ?s1 ?s2 ?s3 ?s4 A21.out).mono ?_
        (case s1=>repeat (first | exact (Kd.C_below HR2_0.out HB.out) | (with_reducible refine Kd.C_alloc ?_ _) | (with_reducible refine Kd.C_drewN ?_ _) | (with_reducible refine Kd.C_drew ?_)))
        (case s2=>exact HC2_0.out)
        (case s3=>repeat (first | exact (Kd.C_below HR2_1.out HB.out) | (with_reducible refine Kd.C_alloc ?_ _) | (with_reducible refine Kd.C_drewN ?_ _) | (with_reducible refine Kd.C_drew ?_)))
        (case s4=>exact HC2_1.out)
        rintro e w47 ⟨v392,v395,rfl,ho0,ho1,hb⟩
        refine ⟨_,rfl,?_⟩
        refine as8_ (Kd.R_elder' (z0_ HO387.out) (Kd.R_base ho0) hb) (Kd.R_elder' (z0_ HO390.out) (Kd.R_base ho1) hb) (Kd.R_lower (Kd.R_new' ho0 (Kd.R_lt (z0_ HO387.out))) (below_size (z9_ HB.out GE375.out GE376.out GE410.out))) (Kd.R_lower (Kd.R_new' ho1 (Kd.R_lt (z0_ HO390.out))) (below_size (z9_ HB.out GE375.out GE376.out GE410.out))) (blkB_ BK375.out hb) (blkB_ BK376.out hb) (blkB_ BK410.out hb) (below_step (z9_ HB.out GE375.out GE376.out GE410.out) hb) ?_
        clear HO387 HO390 BK375 BK376 BK410 HB
        intro HO387 HO390 HO393 HO396 BK375 BK376 BK410 HB
        (try clear hb)
        (try clear ho0)
        (try clear ho1)
        obtain ⟨Ao48,co48,eo48⟩:=Kd.R_slice HO387.out
        (first | subst eo48 | (injection eo48 with f1_ f2_ f3_;have f4_:=f1_.symm;have f5_:=f3_.symm;clear f1_ f2_ f3_;subst f4_;subst f5_))
        obtain ⟨Ao49,co49,eo49⟩:=Kd.R_slice HO390.out
        (first | subst eo49 | (injection eo49 with f1_ f2_ f3_;have f4_:=f1_.symm;have f5_:=f3_.symm;clear f1_ f2_ f3_;subst f4_;subst f5_))
        obtain ⟨Ao50,co50,eo50⟩:=Kd.R_slice HO393.out
        (first | subst eo50 | (injection eo50 with f1_ f2_ f3_;have f4_:=f1_.symm;have f5_:=f3_.symm;clear f1_ f2_ f3_;subst f4_;subst f5_))
        obtain ⟨Ao51,co51,eo51⟩:=Kd.R_slice HO396.out
        (first | subst eo51 | (injection eo51 with f1_ f2_ f3_;have f4_:=f1_.symm;have f5_:=f3_.symm;clear f1_ f2_ f3_;subst f4_;subst f5_))
        refine hK.out _ _ (cj8_ BK375.out (cc2_ BK376.out)) (fun hHeld=>?_)
        clear hK K
        refine nm_ 30 ?_
        refine o1_ 5 31 #[I,I,I,I,I,I,I,O] HT_.out (fun K hK=>?_)
        refine gs_ Try.func13 #[.agg #[.int .i64 t379,.int .i64 t380,.int .i64 t381,.int .i64 t382,.string t383,.int .i64 t384,.slice Ao48 t385.length co48,.slice Ao49 t388.length co49],.int .i64 a1,.agg #[.slice Ao50 t391.length co50,.slice Ao51 t394.length co51]] ?_
        with_reducible refine (spec_MsgTurn.calls k t379 t380 t381 t382 t383 t384 _ _ t385 _ _ t388 a1 _ _ t391 _ _ t394 t397 t398 t399 t400 t401 t402 t403 t406 t409 _ ?s1 ?s2 ?s3 ?s4 ?s5 ?s6 ?s7 ?s8 A22.out).mono ?_
        (case s1=>repeat (first | exact (Kd.R_reads' HO387.out).2.2 | (with_reducible refine Kd.C_alloc ?_ _) | (with_reducible refine Kd.C_drewN ?_ _) | (with_reducible refine Kd.C_drew ?_)))
        (case s2=>exact (Kd.R_reads' HO387.out).2.1)
        (case s3=>repeat (first | exact (Kd.R_reads' HO390.out).2.2 | (with_reducible refine Kd.C_alloc ?_ _) | (with_reducible refine Kd.C_drewN ?_ _) | (with_reducible refine Kd.C_drew ?_)))
        (case s4=>exact (Kd.R_reads' HO390.out).2.1)
        (case s5=>repeat (first | exact (Kd.R_reads' HO393.out).2.2 | (with_reducible refine Kd.C_alloc ?_ _) | (with_reducible refine Kd.C_drewN ?_ _) | (with_reducible refine Kd.C_drew ?_)))
        (case s6=>exact (Kd.R_reads' HO393.out).2.1)
        (case s7=>repeat (first | exact (Kd.R_reads' HO396.out).2.2 | (with_reducible refine Kd.C_alloc ?_ _) | (with_reducible refine Kd.C_drewN ?_ _) | (with_reducible refine Kd.C_drew ?_)))
        (case s8=>exact (Kd.R_reads' HO396.out).2.1)
        rintro e w52 ⟨v404,v407,rfl,ho0,ho1,hb⟩
        refine ⟨_,rfl,?_⟩
        refine as10_ (Kd.R_elder' (z0_ HO387.out) (Kd.R_base ho0) hb) (Kd.R_elder' (z0_ HO390.out) (Kd.R_base ho1) hb) (Kd.R_elder' (z0_ HO393.out) (Kd.R_base ho0) hb) (Kd.R_elder' (z0_ HO396.out) (Kd.R_base ho1) hb) (Kd.R_lower (Kd.R_new' (Kd.R_new' ho0 (Kd.R_lt (z0_ HO387.out))) (Kd.R_lt (z0_ HO393.out))) (below_size (z9_ HB.out GE375.out GE376.out GE410.out))) (Kd.R_lower (Kd.R_new' (Kd.R_new' ho1 (Kd.R_lt (z0_ HO390.out))) (Kd.R_lt (z0_ HO396.out))) (below_size (z9_ HB.out GE375.out GE376.out GE410.out))) (blkB_ BK375.out hb) (blkB_ BK376.out hb) (blkB_ BK410.out hb) (below_step (z9_ HB.out GE375.out GE376.out GE410.out) hb) ?_
        clear HO387 HO390 HO393 HO396 BK375 BK376 BK410 HB
        intro HO387 HO390 HO393 HO396 HO405 HO408 BK375 BK376 BK410 HB
        (try clear hb)
        (try clear ho0)
        (try clear ho1)
        refine hK.out _ _ (cj8_ BK375.out (cc2_ BK376.out)) (fun hHeld=>?_)
        clear hK K
        refine nm_ 31 ?_
        exact norm_ (z30_) (hCont (.slice Ao48 t385.length co48,.slice Ao49 t388.length co49,.slice Ao50 t391.length co50,.slice Ao51 t394.length co51,v404,v407,gb410) _ ⟨hHeld,(z19_ HO387.out),(z19_ HO390.out),(z19_ HO393.out),(z19_ HO396.out),(z19_ HO405.out),(z19_ HO408.out),(z3_ BK375.out),(z3_ BK376.out),(z3_ BK410.out),GW410.out,GE410.out,NB375_410.out,NB410_375.out,NB376_410.out,NB410_376.out,(z9_ HB.out GE375.out GE376.out GE410.out)⟩)
      rintro ⟨v386,v389,v392,v395,v404,v407,gb410⟩ w53 ⟨hS_,h0_,h1_,h2_,h3_,h4_,h5_,h6_,h7_,h8_,h9_,h10_,h11_,h12_,h13_,h14_,h15_⟩
      have n0_:Aside0 (Kd.R k56 56 w53 w.heap.size (fun k_=>some k_≠(v392:Value).ownBlock∧some k_≠(v404:Value).ownBlock) v386 t385):=⟨h0_⟩
      have n1_:Aside0 (Kd.R k91 91 w53 w.heap.size (fun k_=>some k_≠(v395:Value).ownBlock∧some k_≠(v407:Value).ownBlock) v389 t388):=⟨h1_⟩
      have n2_:Aside0 (Kd.R k56 56 w53 w.heap.size (fun k_=>some k_≠(v386:Value).ownBlock∧some k_≠(v404:Value).ownBlock) v392 t391):=⟨h2_⟩
      have n3_:Aside0 (Kd.R k91 91 w53 w.heap.size (fun k_=>some k_≠(v389:Value).ownBlock∧some k_≠(v407:Value).ownBlock) v395 t394):=⟨h3_⟩
      have n4_:Aside0 (Kd.R k56 56 w53 w.heap.size (fun k_=>some k_≠(v386:Value).ownBlock∧some k_≠(v392:Value).ownBlock) v404 t403):=⟨h4_⟩
      have n5_:Aside0 (Kd.R k91 91 w53 w.heap.size (fun k_=>some k_≠(v389:Value).ownBlock∧some k_≠(v395:Value).ownBlock) v407 t406):=⟨h5_⟩
      have n6_:Aside0 (w53.heap[gb375]? = some (.cells #[.int .i64 a0_0,.int .i64 a0_1,.int .i64 a0_2,.int .i64 a0_3,.string a0_4,.int .i64 a0_5,.slice A0_6 l0_6.length c0_6,.slice A0_7 l0_7.length c0_7] 34 (0,0))):=⟨h6_⟩
      have n7_:Aside0 (w53.heap[gb376]? = some (.cells #[.slice A2_0 l2_0.length c2_0,.slice A2_1 l2_1.length c2_1] 32 (0,0))):=⟨h7_⟩
      have n8_:Aside0 (w53.heap[gb410]? = some (.cells #[.int .i64 0,.int .i64 0,.int .i64 0,.int .i64 0,.string (⟨#[]⟩:ByteArray),.int .i64 0,.slice none 0 0,.slice none 0 0,.int .i64 0] 44 (0,0))):=⟨h8_⟩
      have n9_:Aside0 (w.heap.size≤gb410):=⟨h9_⟩
      have n10_:Aside0 (w.heap.size≤gb410):=⟨h10_⟩
      have n11_:Aside0 (gb375≠gb410):=⟨h11_⟩
      have n12_:Aside0 (gb410≠gb375):=⟨h12_⟩
      have n13_:Aside0 (gb376≠gb410):=⟨h13_⟩
      have n14_:Aside0 (gb410≠gb376):=⟨h14_⟩
      have n15_:Aside0 (Below w.heap.size w w53):=⟨h15_⟩
      clear BK375
      clear BK376
      clear HB
      clear h0_ h1_ h2_ h3_ h4_ h5_ h6_ h7_ h8_ h9_ h10_ h11_ h12_ h13_ h14_ h15_
      have HO387:=n0_
      have HO390:=n1_
      have HO393:=n2_
      have HO396:=n3_
      have HO405:=n4_
      have HO408:=n5_
      have BK375:=n6_
      have BK376:=n7_
      have BK410:=n8_
      have GW410:=n9_
      have GE410:=n10_
      have NB375_410:=n11_
      have NB410_375:=n12_
      have NB376_410:=n13_
      have NB410_376:=n14_
      have HB:=n15_
      clear n0_ n1_ n2_ n3_ n4_ n5_ n6_ n7_ n8_ n9_ n10_ n11_ n12_ n13_ n14_ n15_
      have hHeld:w53.cell? ⟨gb375,0,none⟩=some (.int .i64 a0_0)∧w53.cell? ⟨gb375,1,none⟩=some (.int .i64 a0_1)∧w53.cell? ⟨gb375,2,none⟩=some (.int .i64 a0_2)∧w53.cell? ⟨gb375,3,none⟩=some (.int .i64 a0_3)∧w53.cell? ⟨gb375,4,none⟩=some (.string a0_4)∧w53.cell? ⟨gb375,5,none⟩=some (.int .i64 a0_5)∧w53.cell? ⟨gb375,6,none⟩=some (.slice A0_6 l0_6.length c0_6)∧w53.cell? ⟨gb375,7,none⟩=some (.slice A0_7 l0_7.length c0_7)∧w53.cell? ⟨gb376,0,none⟩=some (.slice A2_0 l2_0.length c2_0)∧w53.cell? ⟨gb376,1,none⟩=some (.slice A2_1 l2_1.length c2_1):=hS_
      obtain ⟨Ao60,co60,eo60⟩:=Kd.R_slice HO405.out
      (first | subst eo60 | (injection eo60 with f1_ f2_ f3_;have f4_:=f1_.symm;have f5_:=f3_.symm;clear f1_ f2_ f3_;subst f4_;subst f5_))
      obtain ⟨Ao62,co62,eo62⟩:=Kd.R_slice HO408.out
      (first | subst eo62 | (injection eo62 with f1_ f2_ f3_;have f4_:=f1_.symm;have f5_:=f3_.symm;clear f1_ f2_ f3_;subst f4_;subst f5_))
      refine norm_ (a':=?_) ?_ ?_
      rotate_left
      ·simp only [putAll,Act.put,List.setIfInBounds_toArray,List.set_cons_zero,List.set_cons_succ]
       rfl
      refine one_ (i:=7) (N:=none) #[I,I,I,I,I,I,I,I] rfl rfl (one_of HT_.out (by kernel_rfl)) (by decide) (fun K hK=>?_)
      have hs54:w53.cell? ⟨gb410,0,none⟩=some (.int .i64 0):=(blk_cell BK410.out 0).trans rfl
      have hfs54:=blk_frozen BK410.out 0
      have hns54_0:=NB375_410.out
      have hns54_1:=NB376_410.out
      have hms54_0:=NB410_375.out
      have hms54_1:=NB410_376.out
      have hs55:w53.cell? ⟨gb410,1,none⟩=some (.int .i64 0):=(blk_cell BK410.out 1).trans rfl
      have hfs55:=blk_frozen BK410.out 1
      have hns55_0:=NB375_410.out
      have hns55_1:=NB376_410.out
      have hms55_0:=NB410_375.out
      have hms55_1:=NB410_376.out
      have hs56:w53.cell? ⟨gb410,2,none⟩=some (.int .i64 0):=(blk_cell BK410.out 2).trans rfl
      have hfs56:=blk_frozen BK410.out 2
      have hns56_0:=NB375_410.out
      have hns56_1:=NB376_410.out
      have hms56_0:=NB410_375.out
      have hms56_1:=NB410_376.out
      have hs57:w53.cell? ⟨gb410,3,none⟩=some (.int .i64 0):=(blk_cell BK410.out 3).trans rfl
      have hfs57:=blk_frozen BK410.out 3
      have hns57_0:=NB375_410.out
      have hns57_1:=NB376_410.out
      have hms57_0:=NB410_375.out
      have hms57_1:=NB410_376.out
      have hs58:w53.cell? ⟨gb410,4,none⟩=some (.string (⟨#[]⟩:ByteArray)):=(blk_cell BK410.out 4).trans rfl
      have hfs58:=blk_frozen BK410.out 4
      have hns58_0:=NB375_410.out
      have hns58_1:=NB376_410.out
      have hms58_0:=NB410_375.out
      have hms58_1:=NB410_376.out
      have hs59:w53.cell? ⟨gb410,5,none⟩=some (.int .i64 0):=(blk_cell BK410.out 5).trans rfl
      have hfs59:=blk_frozen BK410.out 5
      have hns59_0:=NB375_410.out
      have hns59_1:=NB376_410.out
      have hms59_0:=NB410_375.out
      have hms59_1:=NB410_376.out
      have hs61:w53.cell? ⟨gb410,6,none⟩=some (.slice none 0 0):=(blk_cell BK410.out 6).trans rfl
      have hfs61:=blk_frozen BK410.out 6
      have hns61_0:=NB375_410.out
      have hns61_1:=NB376_410.out
      have hms61_0:=NB410_375.out
      have hms61_1:=NB410_376.out
      have hs63:w53.cell? ⟨gb410,7,none⟩=some (.slice none 0 0):=(blk_cell BK410.out 7).trans rfl
      have hfs63:=blk_frozen BK410.out 7
      have hns63_0:=NB375_410.out
      have hns63_1:=NB376_410.out
      have hms63_0:=NB410_375.out
      have hms63_1:=NB410_376.out
      have hs64:w53.cell? ⟨gb410,8,none⟩=some (.int .i64 0):=(blk_cell BK410.out 8).trans rfl
      have hfs64:=blk_frozen BK410.out 8
      have hns64_0:=NB375_410.out
      have hns64_1:=NB376_410.out
      have hms64_0:=NB410_375.out
      have hms64_1:=NB410_376.out
      refine skip_ (w1:=?_) (by rfl) rfl ?_ ?_
      rotate_left
      ·go_simp
       rfl
      refine hK.out _ _ ⟨((cell_far (p:=⟨gb410,_,none⟩) NB375_410.out _).trans (((cell_far (p:=⟨gb410,_,none⟩) NB375_410.out _).trans (((cell_far (p:=⟨gb410,_,none⟩) NB375_410.out _).trans (((cell_far (p:=⟨gb410,_,none⟩) NB375_410.out _).trans (((cell_far (p:=⟨gb410,_,none⟩) NB375_410.out _).trans (((cell_far (p:=⟨gb410,_,none⟩) NB375_410.out _).trans (((cell_far (p:=⟨gb410,_,none⟩) NB375_410.out _).trans (((cell_far (p:=⟨gb410,_,none⟩) NB375_410.out _).trans (((cell_far (p:=⟨gb410,_,none⟩) NB375_410.out _).trans (hHeld.1)))))))))))))))))),((cell_far (p:=⟨gb410,_,none⟩) NB375_410.out _).trans (((cell_far (p:=⟨gb410,_,none⟩) NB375_410.out _).trans (((cell_far (p:=⟨gb410,_,none⟩) NB375_410.out _).trans (((cell_far (p:=⟨gb410,_,none⟩) NB375_410.out _).trans (((cell_far (p:=⟨gb410,_,none⟩) NB375_410.out _).trans (((cell_far (p:=⟨gb410,_,none⟩) NB375_410.out _).trans (((cell_far (p:=⟨gb410,_,none⟩) NB375_410.out _).trans (((cell_far (p:=⟨gb410,_,none⟩) NB375_410.out _).trans (((cell_far (p:=⟨gb410,_,none⟩) NB375_410.out _).trans (hHeld.2.1)))))))))))))))))),((cell_far (p:=⟨gb410,_,none⟩) NB375_410.out _).trans (((cell_far (p:=⟨gb410,_,none⟩) NB375_410.out _).trans (((cell_far (p:=⟨gb410,_,none⟩) NB375_410.out _).trans (((cell_far (p:=⟨gb410,_,none⟩) NB375_410.out _).trans (((cell_far (p:=⟨gb410,_,none⟩) NB375_410.out _).trans (((cell_far (p:=⟨gb410,_,none⟩) NB375_410.out _).trans (((cell_far (p:=⟨gb410,_,none⟩) NB375_410.out _).trans (((cell_far (p:=⟨gb410,_,none⟩) NB375_410.out _).trans (((cell_far (p:=⟨gb410,_,none⟩) NB375_410.out _).trans (hHeld.2.2.1)))))))))))))))))),((cell_far (p:=⟨gb410,_,none⟩) NB375_410.out _).trans (((cell_far (p:=⟨gb410,_,none⟩) NB375_410.out _).trans (((cell_far (p:=⟨gb410,_,none⟩) NB375_410.out _).trans (((cell_far (p:=⟨gb410,_,none⟩) NB375_410.out _).trans (((cell_far (p:=⟨gb410,_,none⟩) NB375_410.out _).trans (((cell_far (p:=⟨gb410,_,none⟩) NB375_410.out _).trans (((cell_far (p:=⟨gb410,_,none⟩) NB375_410.out _).trans (((cell_far (p:=⟨gb410,_,none⟩) NB375_410.out _).trans (((cell_far (p:=⟨gb410,_,none⟩) NB375_410.out _).trans (hHeld.2.2.2.1)))))))))))))))))),((cell_far (p:=⟨gb410,_,none⟩) NB375_410.out _).trans (((cell_far (p:=⟨gb410,_,none⟩) NB375_410.out _).trans (((cell_far (p:=⟨gb410,_,none⟩) NB375_410.out _).trans (((cell_far (p:=⟨gb410,_,none⟩) NB375_410.out _).trans (((cell_far (p:=⟨gb410,_,none⟩) NB375_410.out _).trans (((cell_far (p:=⟨gb410,_,none⟩) NB375_410.out _).trans (((cell_far (p:=⟨gb410,_,none⟩) NB375_410.out _).trans (((cell_far (p:=⟨gb410,_,none⟩) NB375_410.out _).trans (((cell_far (p:=⟨gb410,_,none⟩) NB375_410.out _).trans (hHeld.2.2.2.2.1)))))))))))))))))),((cell_far (p:=⟨gb410,_,none⟩) NB375_410.out _).trans (((cell_far (p:=⟨gb410,_,none⟩) NB375_410.out _).trans (((cell_far (p:=⟨gb410,_,none⟩) NB375_410.out _).trans (((cell_far (p:=⟨gb410,_,none⟩) NB375_410.out _).trans (((cell_far (p:=⟨gb410,_,none⟩) NB375_410.out _).trans (((cell_far (p:=⟨gb410,_,none⟩) NB375_410.out _).trans (((cell_far (p:=⟨gb410,_,none⟩) NB375_410.out _).trans (((cell_far (p:=⟨gb410,_,none⟩) NB375_410.out _).trans (((cell_far (p:=⟨gb410,_,none⟩) NB375_410.out _).trans (hHeld.2.2.2.2.2.1)))))))))))))))))),((cell_far (p:=⟨gb410,_,none⟩) NB375_410.out _).trans (((cell_far (p:=⟨gb410,_,none⟩) NB375_410.out _).trans (((cell_far (p:=⟨gb410,_,none⟩) NB375_410.out _).trans (((cell_far (p:=⟨gb410,_,none⟩) NB375_410.out _).trans (((cell_far (p:=⟨gb410,_,none⟩) NB375_410.out _).trans (((cell_far (p:=⟨gb410,_,none⟩) NB375_410.out _).trans (((cell_far (p:=⟨gb410,_,none⟩) NB375_410.out _).trans (((cell_far (p:=⟨gb410,_,none⟩) NB375_410.out _).trans (((cell_far (p:=⟨gb410,_,none⟩) NB375_410.out _).trans (hHeld.2.2.2.2.2.2.1)))))))))))))))))),((cell_far (p:=⟨gb410,_,none⟩) NB375_410.out _).trans (((cell_far (p:=⟨gb410,_,none⟩) NB375_410.out _).trans (((cell_far (p:=⟨gb410,_,none⟩) NB375_410.out _).trans (((cell_far (p:=⟨gb410,_,none⟩) NB375_410.out _).trans (((cell_far (p:=⟨gb410,_,none⟩) NB375_410.out _).trans (((cell_far (p:=⟨gb410,_,none⟩) NB375_410.out _).trans (((cell_far (p:=⟨gb410,_,none⟩) NB375_410.out _).trans (((cell_far (p:=⟨gb410,_,none⟩) NB375_410.out _).trans (((cell_far (p:=⟨gb410,_,none⟩) NB375_410.out _).trans (hHeld.2.2.2.2.2.2.2.1)))))))))))))))))),((cell_far (p:=⟨gb410,_,none⟩) NB376_410.out _).trans (((cell_far (p:=⟨gb410,_,none⟩) NB376_410.out _).trans (((cell_far (p:=⟨gb410,_,none⟩) NB376_410.out _).trans (((cell_far (p:=⟨gb410,_,none⟩) NB376_410.out _).trans (((cell_far (p:=⟨gb410,_,none⟩) NB376_410.out _).trans (((cell_far (p:=⟨gb410,_,none⟩) NB376_410.out _).trans (((cell_far (p:=⟨gb410,_,none⟩) NB376_410.out _).trans (((cell_far (p:=⟨gb410,_,none⟩) NB376_410.out _).trans (((cell_far (p:=⟨gb410,_,none⟩) NB376_410.out _).trans (hHeld.2.2.2.2.2.2.2.2.1)))))))))))))))))),((cell_far (p:=⟨gb410,_,none⟩) NB376_410.out _).trans (((cell_far (p:=⟨gb410,_,none⟩) NB376_410.out _).trans (((cell_far (p:=⟨gb410,_,none⟩) NB376_410.out _).trans (((cell_far (p:=⟨gb410,_,none⟩) NB376_410.out _).trans (((cell_far (p:=⟨gb410,_,none⟩) NB376_410.out _).trans (((cell_far (p:=⟨gb410,_,none⟩) NB376_410.out _).trans (((cell_far (p:=⟨gb410,_,none⟩) NB376_410.out _).trans (((cell_far (p:=⟨gb410,_,none⟩) NB376_410.out _).trans (((cell_far (p:=⟨gb410,_,none⟩) NB376_410.out _).trans (hHeld.2.2.2.2.2.2.2.2.2))))))))))))))))))⟩ (fun hHeld=>?_)
      clear hK K
      refine done_ (done_of HT_.out (by kernel_rfl)) ?_
      have hnb65:=NB375_410.out
      have hnc65:=NB410_375.out
      have ⟨hcz66_0,hcz66_1,hcz66_2,hcz66_3,hcz66_4,hcz66_5,hcz66_6,hcz66_7,hfz66_0,hfz66_1,hfz66_2,hfz66_3,hfz66_4,hfz66_5,hfz66_6,hfz66_7⟩:=cz8_ BK375.out
      try go_wp2_with (first | ((with_reducible refine gc_ 14 ?_);refine gl_ (some 33) Try.func14 #[.agg #[.int .i64 a0_0,.int .i64 a0_1,.int .i64 a0_2,.int .i64 a0_3,.string a0_4,.int .i64 a0_5,.slice A0_6 l0_6.length c0_6,.slice A0_7 l0_7.length c0_7]] ?_;(with_reducible refine (laws_toMsg.calls k a0_0 a0_1 a0_2 a0_3 a0_4 a0_5 _ _ l0_6 _ _ l0_7 t411 t412 t413 t414 t415 t416 t417 t420 _ ?s1 ?s2 ?s3 ?s4 A23.out).mono ?_);(case s1=>exact Kd.C_below HR0_6.out (z9_ HB.out GE375.out GE376.out GE410.out));(case s2=>exact HC0_6.out);(case s3=>exact Kd.C_below HR0_7.out (z9_ HB.out GE375.out GE376.out GE410.out));(case s4=>exact HC0_7.out);rintro e w67 ⟨v418,v421,rfl,ho0,ho1,hb⟩;refine ⟨_,rfl,?_⟩;refine as12_ (Kd.R_elder' (z12_ HO387.out BK410.out) (Kd.R_base ho0) hb) (Kd.R_elder' (z12_ HO390.out BK410.out) (Kd.R_base ho1) hb) (Kd.R_elder' (z12_ HO393.out BK410.out) (Kd.R_base ho0) hb) (Kd.R_elder' (z12_ HO396.out BK410.out) (Kd.R_base ho1) hb) (Kd.R_elder' (z12_ HO405.out BK410.out) (Kd.R_base ho0) hb) (Kd.R_elder' (z12_ HO408.out BK410.out) (Kd.R_base ho1) hb) (Kd.R_lower (Kd.R_new' (Kd.R_new' (Kd.R_new' ho0 (Kd.R_lt (z12_ HO387.out BK410.out))) (Kd.R_lt (z12_ HO393.out BK410.out))) (Kd.R_lt (z12_ HO405.out BK410.out))) (below_size (z9_ HB.out GE375.out GE376.out GE410.out))) (Kd.R_lower (Kd.R_new' (Kd.R_new' (Kd.R_new' ho1 (Kd.R_lt (z12_ HO390.out BK410.out))) (Kd.R_lt (z12_ HO396.out BK410.out))) (Kd.R_lt (z12_ HO408.out BK410.out))) (below_size (z9_ HB.out GE375.out GE376.out GE410.out))) (blk_below (g:=gb375) (o:=.cells #[.int .i64 a0_0,.int .i64 a0_1,.int .i64 a0_2,.int .i64 a0_3,.string a0_4,.int .i64 a0_5,.slice A0_6 l0_6.length c0_6,.slice A0_7 l0_7.length c0_7] 34 (0,0)) (z28_ NB375_410.out BK375.out) hb) (blk_below (g:=gb376) (o:=.cells #[.slice A2_0 l2_0.length c2_0,.slice A2_1 l2_1.length c2_1] 32 (0,0)) (z28_ NB376_410.out BK376.out) hb) (blk_below (g:=gb410) (o:=.cells #[.int .i64 t397,.int .i64 t398,.int .i64 t399,.int .i64 t400,.string t401,.int .i64 t402,.slice Ao60 t403.length co60,.slice Ao62 t406.length co62,.int .i64 t409] 44 (0,0)) (z32_ BK410.out) hb) (below_step (z9_ HB.out GE375.out GE376.out GE410.out) hb) ?_;clear HO387 HO390 HO393 HO396 HO405 HO408 BK375 BK376 BK410 HB;intro HO387 HO390 HO393 HO396 HO405 HO408 HO419 HO422 BK375 BK376 BK410 HB;(try clear hb);(try clear hb2);(try clear hk);(try clear hi);(try clear ho0);(try clear ho1)) | ((with_reducible refine gd_ 9 ?_);refine be_ 9 #[.int .i64 0,.int .i64 0,.int .i64 0,.int .i64 0,.string (⟨#[]⟩:ByteArray),.int .i64 0,.slice none 0 0,.slice none 0 0] 42 ?_;intro gb423 hg w68 hbox hb;refine as21_ (Kd.R_below (z0_ HO387.out) hb) (Kd.R_below (z0_ HO390.out) hb) (Kd.R_below (z0_ HO393.out) hb) (Kd.R_below (z0_ HO396.out) hb) (Kd.R_below (z0_ HO405.out) hb) (Kd.R_below (z0_ HO408.out) hb) (Kd.R_below (z0_ HO419.out) hb) (Kd.R_below (z0_ HO422.out) hb) (blkB_ BK375.out hb) (blkB_ BK376.out hb) (blkB_ BK410.out hb) (below_step (z9_ HB.out GE375.out GE376.out GE410.out) hb) (hbox) ((z33_ HB.out GE375.out GE376.out GE410.out:w.heap.size≤gb423)) ((z33_ HB.out GE375.out GE376.out GE410.out:w.heap.size≤gb423)) (neL_ BK375.out hg) (neG_ BK375.out hg) (neL_ BK376.out hg) (neG_ BK376.out hg) (neL_ BK410.out hg) (neG_ BK410.out hg) ?_;clear HO387 HO390 HO393 HO396 HO405 HO408 HO419 HO422 BK375 BK376 BK410 HB;intro HO387 HO390 HO393 HO396 HO405 HO408 HO419 HO422 BK375 BK376 BK410 HB BK423 GW423 GE423 NB375_423 NB423_375 NB376_423 NB423_376 NB410_423 NB423_410;clear hb hbox hg;have hnb69:=NB423_375.out;have hnc69:=NB375_423.out;have hnb70:=NB423_376.out;have hnc70:=NB376_423.out;have hnb71:=NB423_410.out;have hnc71:=NB410_423.out;have ⟨hcz72_0,hcz72_1,hcz72_2,hcz72_3,hcz72_4,hcz72_5,hcz72_6,hcz72_7,hfz72_0,hfz72_1,hfz72_2,hfz72_3,hfz72_4,hfz72_5,hfz72_6,hfz72_7⟩:=cz8_ BK423.out;obtain ⟨Ao73,co73,eo73⟩:=Kd.R_slice HO419.out;subst eo73;obtain ⟨Ao74,co74,eo74⟩:=Kd.R_slice HO422.out;subst eo74;have hnb75:=NB376_410.out;have hnc75:=NB410_376.out;have ⟨hcz76_0,hcz76_1,hfz76_0,hfz76_1⟩:=cz2_ BK376.out) | ((with_reducible refine gc_ 15 ?_);refine gl_ (some 35) Try.func15 #[.agg #[.slice A2_0 l2_0.length c2_0,.slice A2_1 l2_1.length c2_1]] ?_;(with_reducible refine (laws_toSet.calls k _ _ l2_0 _ _ l2_1 t424 t427 _ ?s1 ?s2 ?s3 ?s4 A24.out).mono ?_);(case s1=>exact Kd.C_below HR2_0.out (z15_ HB.out GE375.out GE376.out GE410.out GE423.out));(case s2=>exact HC2_0.out);(case s3=>exact Kd.C_below HR2_1.out (z15_ HB.out GE375.out GE376.out GE410.out GE423.out));(case s4=>exact HC2_1.out);rintro e w77 ⟨v425,v428,rfl,ho0,ho1,hb⟩;refine ⟨_,rfl,?_⟩;refine as15_ (Kd.R_elder' (z14_ HO387.out BK423.out) (Kd.R_base ho0) hb) (Kd.R_elder' (z14_ HO390.out BK423.out) (Kd.R_base ho1) hb) (Kd.R_elder' (z14_ HO393.out BK423.out) (Kd.R_base ho0) hb) (Kd.R_elder' (z14_ HO396.out BK423.out) (Kd.R_base ho1) hb) (Kd.R_elder' (z14_ HO405.out BK423.out) (Kd.R_base ho0) hb) (Kd.R_elder' (z14_ HO408.out BK423.out) (Kd.R_base ho1) hb) (Kd.R_elder' (z14_ HO419.out BK423.out) (Kd.R_base ho0) hb) (Kd.R_elder' (z14_ HO422.out BK423.out) (Kd.R_base ho1) hb) (Kd.R_lower (Kd.R_new' (Kd.R_new' (Kd.R_new' (Kd.R_new' ho0 (Kd.R_lt (z14_ HO387.out BK423.out))) (Kd.R_lt (z14_ HO393.out BK423.out))) (Kd.R_lt (z14_ HO405.out BK423.out))) (Kd.R_lt (z14_ HO419.out BK423.out))) (below_size (z15_ HB.out GE375.out GE376.out GE410.out GE423.out))) (Kd.R_lower (Kd.R_new' (Kd.R_new' (Kd.R_new' (Kd.R_new' ho1 (Kd.R_lt (z14_ HO390.out BK423.out))) (Kd.R_lt (z14_ HO396.out BK423.out))) (Kd.R_lt (z14_ HO408.out BK423.out))) (Kd.R_lt (z14_ HO422.out BK423.out))) (below_size (z15_ HB.out GE375.out GE376.out GE410.out GE423.out))) (blk_below (g:=gb375) (o:=.cells #[.int .i64 a0_0,.int .i64 a0_1,.int .i64 a0_2,.int .i64 a0_3,.string a0_4,.int .i64 a0_5,.slice A0_6 l0_6.length c0_6,.slice A0_7 l0_7.length c0_7] 34 (0,0)) (z23_ NB375_423.out BK375.out) hb) (blk_below (g:=gb376) (o:=.cells #[.slice A2_0 l2_0.length c2_0,.slice A2_1 l2_1.length c2_1] 32 (0,0)) (z23_ NB376_423.out BK376.out) hb) (blk_below (g:=gb410) (o:=.cells #[.int .i64 t397,.int .i64 t398,.int .i64 t399,.int .i64 t400,.string t401,.int .i64 t402,.slice Ao60 t403.length co60,.slice Ao62 t406.length co62,.int .i64 t409] 44 (0,0)) (z23_ NB410_423.out BK410.out) hb) (blk_below (g:=gb423) (o:=.cells #[.int .i64 t411,.int .i64 t412,.int .i64 t413,.int .i64 t414,.string t415,.int .i64 t416,.slice Ao73 t417.length co73,.slice Ao74 t420.length co74] 42 (0,0)) (z36_ BK423.out) hb) (below_step (z15_ HB.out GE375.out GE376.out GE410.out GE423.out) hb) ?_;clear HO387 HO390 HO393 HO396 HO405 HO408 HO419 HO422 BK375 BK376 BK410 BK423 HB;intro HO387 HO390 HO393 HO396 HO405 HO408 HO419 HO422 HO426 HO429 BK375 BK376 BK410 BK423 HB;(try clear hb);(try clear hb2);(try clear hk);(try clear hi);(try clear ho0);(try clear ho1)) | ((with_reducible refine gd_ 10 ?_);refine be_ 10 #[.slice none 0 0,.slice none 0 0] 40 ?_;intro gb430 hg w78 hbox hb;refine as26_ (Kd.R_below (z0_ HO387.out) hb) (Kd.R_below (z0_ HO390.out) hb) (Kd.R_below (z0_ HO393.out) hb) (Kd.R_below (z0_ HO396.out) hb) (Kd.R_below (z0_ HO405.out) hb) (Kd.R_below (z0_ HO408.out) hb) (Kd.R_below (z0_ HO419.out) hb) (Kd.R_below (z0_ HO422.out) hb) (Kd.R_below (z0_ HO426.out) hb) (Kd.R_below (z0_ HO429.out) hb) (blkB_ BK375.out hb) (blkB_ BK376.out hb) (blkB_ BK410.out hb) (blkB_ BK423.out hb) (below_step (z15_ HB.out GE375.out GE376.out GE410.out GE423.out) hb) (hbox) ((by rw [hg];exact (below_size (by repeat (first | (with_reducible first | exact HB.out | apply below_alloc | apply pw_below_drewN | apply below_drew1 | refine below_set ?_ GE375.out | refine below_set ?_ GE376.out | refine below_set ?_ GE410.out | refine below_set ?_ GE423.out) | exact HB.out))):w.heap.size≤gb430)) ((by rw [hg];exact (below_size (by repeat (first | (with_reducible first | exact HB.out | apply below_alloc | apply pw_below_drewN | apply below_drew1 | refine below_set ?_ GE375.out | refine below_set ?_ GE376.out | refine below_set ?_ GE410.out | refine below_set ?_ GE423.out) | exact HB.out))):w.heap.size≤gb430)) (neL_ BK375.out hg) (neG_ BK375.out hg) (neL_ BK376.out hg) (neG_ BK376.out hg) (neL_ BK410.out hg) (neG_ BK410.out hg) (neL_ BK423.out hg) (neG_ BK423.out hg) ?_;clear HO387 HO390 HO393 HO396 HO405 HO408 HO419 HO422 HO426 HO429 BK375 BK376 BK410 BK423 HB;intro HO387 HO390 HO393 HO396 HO405 HO408 HO419 HO422 HO426 HO429 BK375 BK376 BK410 BK423 HB BK430 GW430 GE430 NB375_430 NB430_375 NB376_430 NB430_376 NB410_430 NB430_410 NB423_430 NB430_423;clear hb hbox hg;obtain ⟨Ao79,co79,eo79⟩:=Kd.R_slice HO426.out;subst eo79;have hnb80:=NB430_375.out;have hnc80:=NB375_430.out;have hnb81:=NB430_376.out;have hnc81:=NB376_430.out;have hnb82:=NB430_410.out;have hnc82:=NB410_430.out;have hnb83:=NB430_423.out;have hnc83:=NB423_430.out;have ⟨hcz84_0,hcz84_1,hfz84_0,hfz84_1⟩:=cz2_ BK430.out;obtain ⟨Ao85,co85,eo85⟩:=Kd.R_slice HO429.out;subst eo85;have ⟨hcz86_0,hcz86_1,hcz86_2,hcz86_3,hcz86_4,hcz86_5,hcz86_6,hcz86_7,hfz86_0,hfz86_1,hfz86_2,hfz86_3,hfz86_4,hfz86_5,hfz86_6,hfz86_7⟩:=cz8_ BK423.out) | ((with_reducible refine gc_ 16 ?_);refine gl_ (some 39) Try.func16 #[.agg #[.int .i64 t411,.int .i64 t412,.int .i64 t413,.int .i64 t414,.string t415,.int .i64 t416,.slice Ao73 t417.length co73,.slice Ao74 t420.length co74],.int .i64 a1,.agg #[.slice Ao79 t424.length co79,.slice Ao85 t427.length co85]] ?_;(with_reducible refine (impl_MsgTurn.calls k t411 t412 t413 t414 t415 t416 _ _ t417 _ _ t420 a1 _ _ t424 _ _ t427 t431 t432 t433 t434 t435 t436 t437 t440 t443 _ ?s1 ?s2 ?s3 ?s4 ?s5 ?s6 ?s7 ?s8 A25.out).mono ?_);(case s1=>refine (Kd.R_reads' (e:=56) (base:=w.heap.size) (ok:=fun k_=>((((True∧some k_≠(v386:Value).ownBlock)∧some k_≠(v392:Value).ownBlock)∧some k_≠(.slice Ao60 t403.length co60:Value).ownBlock)∧some k_≠(.slice Ao79 t424.length co79:Value).ownBlock)) (n:=t417.length) (c:=co73) ?_).2.2;exact (z20_ HO419.out BK430.out));(case s2=>exact (Kd.R_reads' HO419.out).2.1);(case s3=>refine (Kd.R_reads' (e:=91) (base:=w.heap.size) (ok:=fun k_=>((((True∧some k_≠(v389:Value).ownBlock)∧some k_≠(v395:Value).ownBlock)∧some k_≠(.slice Ao62 t406.length co62:Value).ownBlock)∧some k_≠(.slice Ao85 t427.length co85:Value).ownBlock)) (n:=t420.length) (c:=co74) ?_).2.2;exact (z20_ HO422.out BK430.out));(case s4=>exact (Kd.R_reads' HO422.out).2.1);(case s5=>refine (Kd.R_reads' (e:=56) (base:=w.heap.size) (ok:=fun k_=>((((True∧some k_≠(v386:Value).ownBlock)∧some k_≠(v392:Value).ownBlock)∧some k_≠(.slice Ao60 t403.length co60:Value).ownBlock)∧some k_≠(.slice Ao73 t417.length co73:Value).ownBlock)) (n:=t424.length) (c:=co79) ?_).2.2;exact (z20_ HO426.out BK430.out));(case s6=>exact (Kd.R_reads' HO426.out).2.1);(case s7=>refine (Kd.R_reads' (e:=91) (base:=w.heap.size) (ok:=fun k_=>((((True∧some k_≠(v389:Value).ownBlock)∧some k_≠(v395:Value).ownBlock)∧some k_≠(.slice Ao62 t406.length co62:Value).ownBlock)∧some k_≠(.slice Ao74 t420.length co74:Value).ownBlock)) (n:=t427.length) (c:=co85) ?_).2.2;exact (z20_ HO429.out BK430.out));(case s8=>exact (Kd.R_reads' HO429.out).2.1);rintro e w87 ⟨v438,v441,rfl,ho0,ho1,hb⟩;refine ⟨_,rfl,?_⟩;refine as18_ (Kd.R_elder' (z20_ HO387.out BK430.out) (Kd.R_base ho0) hb) (Kd.R_elder' (z20_ HO390.out BK430.out) (Kd.R_base ho1) hb) (Kd.R_elder' (z20_ HO393.out BK430.out) (Kd.R_base ho0) hb) (Kd.R_elder' (z20_ HO396.out BK430.out) (Kd.R_base ho1) hb) (Kd.R_elder' (z20_ HO405.out BK430.out) (Kd.R_base ho0) hb) (Kd.R_elder' (z20_ HO408.out BK430.out) (Kd.R_base ho1) hb) (Kd.R_elder' (z20_ HO419.out BK430.out) (Kd.R_base ho0) hb) (Kd.R_elder' (z20_ HO422.out BK430.out) (Kd.R_base ho1) hb) (Kd.R_elder' (z20_ HO426.out BK430.out) (Kd.R_base ho0) hb) (Kd.R_elder' (z20_ HO429.out BK430.out) (Kd.R_base ho1) hb) (Kd.R_lower (Kd.R_new' (Kd.R_new' (Kd.R_new' (Kd.R_new' (Kd.R_new' ho0 (Kd.R_lt (z20_ HO387.out BK430.out))) (Kd.R_lt (z20_ HO393.out BK430.out))) (Kd.R_lt (z20_ HO405.out BK430.out))) (Kd.R_lt (z20_ HO419.out BK430.out))) (Kd.R_lt (z20_ HO426.out BK430.out))) (below_size (z42_ HB.out GE375.out GE376.out GE410.out GE423.out GE430.out))) (Kd.R_lower (Kd.R_new' (Kd.R_new' (Kd.R_new' (Kd.R_new' (Kd.R_new' ho1 (Kd.R_lt (z20_ HO390.out BK430.out))) (Kd.R_lt (z20_ HO396.out BK430.out))) (Kd.R_lt (z20_ HO408.out BK430.out))) (Kd.R_lt (z20_ HO422.out BK430.out))) (Kd.R_lt (z20_ HO429.out BK430.out))) (below_size (z42_ HB.out GE375.out GE376.out GE410.out GE423.out GE430.out))) (blk_below (g:=gb375) (o:=.cells #[.int .i64 a0_0,.int .i64 a0_1,.int .i64 a0_2,.int .i64 a0_3,.string a0_4,.int .i64 a0_5,.slice A0_6 l0_6.length c0_6,.slice A0_7 l0_7.length c0_7] 34 (0,0)) (z43_ NB375_430.out BK375.out) hb) (blk_below (g:=gb376) (o:=.cells #[.slice A2_0 l2_0.length c2_0,.slice A2_1 l2_1.length c2_1] 32 (0,0)) (z43_ NB376_430.out BK376.out) hb) (blk_below (g:=gb410) (o:=.cells #[.int .i64 t397,.int .i64 t398,.int .i64 t399,.int .i64 t400,.string t401,.int .i64 t402,.slice Ao60 t403.length co60,.slice Ao62 t406.length co62,.int .i64 t409] 44 (0,0)) (z43_ NB410_430.out BK410.out) hb) (blk_below (g:=gb423) (o:=.cells #[.int .i64 t411,.int .i64 t412,.int .i64 t413,.int .i64 t414,.string t415,.int .i64 t416,.slice Ao73 t417.length co73,.slice Ao74 t420.length co74] 42 (0,0)) (z43_ NB423_430.out BK423.out) hb) (blk_below (g:=gb430) (o:=.cells #[.slice Ao79 t424.length co79,.slice Ao85 t427.length co85] 40 (0,0)) (z35_ BK430.out) hb) (below_step (z42_ HB.out GE375.out GE376.out GE410.out GE423.out GE430.out) hb) ?_;clear HO387 HO390 HO393 HO396 HO405 HO408 HO419 HO422 HO426 HO429 BK375 BK376 BK410 BK423 BK430 HB;intro HO387 HO390 HO393 HO396 HO405 HO408 HO419 HO422 HO426 HO429 HO439 HO442 BK375 BK376 BK410 BK423 BK430 HB;(try clear hb);(try clear hb2);(try clear hk);(try clear hi);(try clear ho0);(try clear ho1)) | ((with_reducible refine gd_ 11 ?_);refine be_ 11 #[.int .i64 0,.int .i64 0,.int .i64 0,.int .i64 0,.string (⟨#[]⟩:ByteArray),.int .i64 0,.slice none 0 0,.slice none 0 0,.int .i64 0] 44 ?_;intro gb444 hg w88 hbox hb;refine as31_ (Kd.R_below (z0_ HO387.out) hb) (Kd.R_below (z0_ HO390.out) hb) (Kd.R_below (z0_ HO393.out) hb) (Kd.R_below (z0_ HO396.out) hb) (Kd.R_below (z0_ HO405.out) hb) (Kd.R_below (z0_ HO408.out) hb) (Kd.R_below (z0_ HO419.out) hb) (Kd.R_below (z0_ HO422.out) hb) (Kd.R_below (z0_ HO426.out) hb) (Kd.R_below (z0_ HO429.out) hb) (Kd.R_below (z0_ HO439.out) hb) (Kd.R_below (z0_ HO442.out) hb) (blkB_ BK375.out hb) (blkB_ BK376.out hb) (blkB_ BK410.out hb) (blkB_ BK423.out hb) (blkB_ BK430.out hb) (below_step (z42_ HB.out GE375.out GE376.out GE410.out GE423.out GE430.out) hb) (hbox) ((by rw [hg];exact (below_size (by repeat (first | (with_reducible first | exact HB.out | apply below_alloc | apply pw_below_drewN | apply below_drew1 | refine below_set ?_ GE375.out | refine below_set ?_ GE376.out | refine below_set ?_ GE410.out | refine below_set ?_ GE423.out | refine below_set ?_ GE430.out) | exact HB.out))):w.heap.size≤gb444)) ((by rw [hg];exact (below_size (by repeat (first | (with_reducible first | exact HB.out | apply below_alloc | apply pw_below_drewN | apply below_drew1 | refine below_set ?_ GE375.out | refine below_set ?_ GE376.out | refine below_set ?_ GE410.out | refine below_set ?_ GE423.out | refine below_set ?_ GE430.out) | exact HB.out))):w.heap.size≤gb444)) (neL_ BK375.out hg) (neG_ BK375.out hg) (neL_ BK376.out hg) (neG_ BK376.out hg) (neL_ BK410.out hg) (neG_ BK410.out hg) (neL_ BK423.out hg) (neG_ BK423.out hg) (neL_ BK430.out hg) (neG_ BK430.out hg) ?_;clear HO387 HO390 HO393 HO396 HO405 HO408 HO419 HO422 HO426 HO429 HO439 HO442 BK375 BK376 BK410 BK423 BK430 HB;intro HO387 HO390 HO393 HO396 HO405 HO408 HO419 HO422 HO426 HO429 HO439 HO442 BK375 BK376 BK410 BK423 BK430 HB BK444 GW444 GE444 NB375_444 NB444_375 NB376_444 NB444_376 NB410_444 NB444_410 NB423_444 NB444_423 NB430_444 NB444_430;clear hb hbox hg;have hnb89:=NB444_375.out;have hnc89:=NB375_444.out;have hnb90:=NB444_376.out;have hnc90:=NB376_444.out;have hnb91:=NB444_410.out;have hnc91:=NB410_444.out;have hnb92:=NB444_423.out;have hnc92:=NB423_444.out;have hnb93:=NB444_430.out;have hnc93:=NB430_444.out;have ⟨hcz94_0,hcz94_1,hcz94_2,hcz94_3,hcz94_4,hcz94_5,hcz94_6,hcz94_7,hcz94_8,hfz94_0,hfz94_1,hfz94_2,hfz94_3,hfz94_4,hfz94_5,hfz94_6,hfz94_7,hfz94_8⟩:=cz9_ BK444.out;obtain ⟨Ao95,co95,eo95⟩:=Kd.R_slice HO439.out;subst eo95;obtain ⟨Ao96,co96,eo96⟩:=Kd.R_slice HO442.out;subst eo96;have ⟨hcz97_0,hcz97_1,hcz97_2,hcz97_3,hcz97_4,hcz97_5,hcz97_6,hcz97_7,hcz97_8,hfz97_0,hfz97_1,hfz97_2,hfz97_3,hfz97_4,hfz97_5,hfz97_6,hfz97_7,hfz97_8⟩:=cz9_ BK410.out) | ((with_reducible refine gc_ 17 ?_);refine gl_ (some 42) Try.func17 #[.agg #[.int .i64 t431,.int .i64 t432,.int .i64 t433,.int .i64 t434,.string t435,.int .i64 t436,.slice Ao95 t437.length co95,.slice Ao96 t440.length co96,.int .i64 t443],.agg #[.int .i64 t397,.int .i64 t398,.int .i64 t399,.int .i64 t400,.string t401,.int .i64 t402,.slice Ao60 t403.length co60,.slice Ao62 t406.length co62,.int .i64 t409]] ?_;(with_reducible refine (laws_eqMsgOut.calls k t431 t432 t433 t434 t435 t436 _ _ t437 _ _ t440 t443 t397 t398 t399 t400 t401 t402 _ _ t403 _ _ t406 t409 true _ ?s1 ?s2 ?s3 ?s4 ?s5 ?s6 ?s7 ?s8 A26.out).mono ?_);(case s1=>refine (Kd.R_reads' (e:=56) (base:=w.heap.size) (ok:=fun k_=>(((((True∧some k_≠(v386:Value).ownBlock)∧some k_≠(v392:Value).ownBlock)∧some k_≠(.slice Ao60 t403.length co60:Value).ownBlock)∧some k_≠(.slice Ao73 t417.length co73:Value).ownBlock)∧some k_≠(.slice Ao79 t424.length co79:Value).ownBlock)) (n:=t437.length) (c:=co95) ?_).2.2;exact (z12_ HO439.out BK444.out));(case s2=>exact (Kd.R_reads' HO439.out).2.1);(case s3=>refine (Kd.R_reads' (e:=91) (base:=w.heap.size) (ok:=fun k_=>(((((True∧some k_≠(v389:Value).ownBlock)∧some k_≠(v395:Value).ownBlock)∧some k_≠(.slice Ao62 t406.length co62:Value).ownBlock)∧some k_≠(.slice Ao74 t420.length co74:Value).ownBlock)∧some k_≠(.slice Ao85 t427.length co85:Value).ownBlock)) (n:=t440.length) (c:=co96) ?_).2.2;exact (z12_ HO442.out BK444.out));(case s4=>exact (Kd.R_reads' HO442.out).2.1);(case s5=>refine (Kd.R_reads' (e:=56) (base:=w.heap.size) (ok:=fun k_=>((((some k_≠(v386:Value).ownBlock∧some k_≠(v392:Value).ownBlock)∧some k_≠(.slice Ao73 t417.length co73:Value).ownBlock)∧some k_≠(.slice Ao79 t424.length co79:Value).ownBlock)∧some k_≠(.slice Ao95 t437.length co95:Value).ownBlock)) (n:=t403.length) (c:=co60) ?_).2.2;exact (z12_ HO405.out BK444.out));(case s6=>exact (Kd.R_reads' HO405.out).2.1);(case s7=>refine (Kd.R_reads' (e:=91) (base:=w.heap.size) (ok:=fun k_=>((((some k_≠(v389:Value).ownBlock∧some k_≠(v395:Value).ownBlock)∧some k_≠(.slice Ao74 t420.length co74:Value).ownBlock)∧some k_≠(.slice Ao85 t427.length co85:Value).ownBlock)∧some k_≠(.slice Ao96 t440.length co96:Value).ownBlock)) (n:=t406.length) (c:=co62) ?_).2.2;exact (z12_ HO408.out BK444.out));(case s8=>exact (Kd.R_reads' HO408.out).2.1);rintro e w98 ⟨rfl,hb⟩;refine ⟨_,rfl,?_⟩;refine as19_ (Kd.R_below (z12_ HO387.out BK444.out) hb) (Kd.R_below (z12_ HO390.out BK444.out) hb) (Kd.R_below (z12_ HO393.out BK444.out) hb) (Kd.R_below (z12_ HO396.out BK444.out) hb) (Kd.R_below (z12_ HO405.out BK444.out) hb) (Kd.R_below (z12_ HO408.out BK444.out) hb) (Kd.R_below (z12_ HO419.out BK444.out) hb) (Kd.R_below (z12_ HO422.out BK444.out) hb) (Kd.R_below (z12_ HO426.out BK444.out) hb) (Kd.R_below (z12_ HO429.out BK444.out) hb) (Kd.R_below (z12_ HO439.out BK444.out) hb) (Kd.R_below (z12_ HO442.out BK444.out) hb) (blk_below (g:=gb375) (o:=.cells #[.int .i64 a0_0,.int .i64 a0_1,.int .i64 a0_2,.int .i64 a0_3,.string a0_4,.int .i64 a0_5,.slice A0_6 l0_6.length c0_6,.slice A0_7 l0_7.length c0_7] 34 (0,0)) (z28_ NB375_444.out BK375.out) hb) (blk_below (g:=gb376) (o:=.cells #[.slice A2_0 l2_0.length c2_0,.slice A2_1 l2_1.length c2_1] 32 (0,0)) (z28_ NB376_444.out BK376.out) hb) (blk_below (g:=gb410) (o:=.cells #[.int .i64 t397,.int .i64 t398,.int .i64 t399,.int .i64 t400,.string t401,.int .i64 t402,.slice Ao60 t403.length co60,.slice Ao62 t406.length co62,.int .i64 t409] 44 (0,0)) (z28_ NB410_444.out BK410.out) hb) (blk_below (g:=gb423) (o:=.cells #[.int .i64 t411,.int .i64 t412,.int .i64 t413,.int .i64 t414,.string t415,.int .i64 t416,.slice Ao73 t417.length co73,.slice Ao74 t420.length co74] 42 (0,0)) (z28_ NB423_444.out BK423.out) hb) (blk_below (g:=gb430) (o:=.cells #[.slice Ao79 t424.length co79,.slice Ao85 t427.length co85] 40 (0,0)) (z28_ NB430_444.out BK430.out) hb) (blk_below (g:=gb444) (o:=.cells #[.int .i64 t431,.int .i64 t432,.int .i64 t433,.int .i64 t434,.string t435,.int .i64 t436,.slice Ao95 t437.length co95,.slice Ao96 t440.length co96,.int .i64 t443] 44 (0,0)) (z32_ BK444.out) hb) (below_step (z16_ HB.out GE375.out GE376.out GE410.out GE423.out GE430.out GE444.out) hb) ?_;clear HO387 HO390 HO393 HO396 HO405 HO408 HO419 HO422 HO426 HO429 HO439 HO442 BK375 BK376 BK410 BK423 BK430 BK444 HB;intro HO387 HO390 HO393 HO396 HO405 HO408 HO419 HO422 HO426 HO429 HO439 HO442 BK375 BK376 BK410 BK423 BK430 BK444 HB;(try clear hb);(try clear hb2);(try clear hk);(try clear hi)))
      refine as19_ (Kd.R_drew HO387.out) (Kd.R_drew HO390.out) (Kd.R_drew HO393.out) (Kd.R_drew HO396.out) (Kd.R_drew HO405.out) (Kd.R_drew HO408.out) (Kd.R_drew HO419.out) (Kd.R_drew HO422.out) (Kd.R_drew HO426.out) (Kd.R_drew HO429.out) (Kd.R_drew HO439.out) (Kd.R_drew HO442.out) (blk_drew BK375.out) (blk_drew BK376.out) (blk_drew BK410.out) (blk_drew BK423.out) (blk_drew BK430.out) (blk_drew BK444.out) (below_drew1 HB.out) ?_
      clear HO387 HO390 HO393 HO396 HO405 HO408 HO419 HO422 HO426 HO429 HO439 HO442 BK375 BK376 BK410 BK423 BK430 BK444 HB
      intro HO387 HO390 HO393 HO396 HO405 HO408 HO419 HO422 HO426 HO429 HO439 HO442 BK375 BK376 BK410 BK423 BK430 BK444 HB
      refine start_ (n:=5) (S:=fun w'=>w'.cell? ⟨gb423,0,none⟩=some (.int .i64 t411)∧w'.cell? ⟨gb423,1,none⟩=some (.int .i64 t412)∧w'.cell? ⟨gb423,2,none⟩=some (.int .i64 t413)∧w'.cell? ⟨gb423,3,none⟩=some (.int .i64 t414)∧w'.cell? ⟨gb423,4,none⟩=some (.string t415)∧w'.cell? ⟨gb423,5,none⟩=some (.int .i64 t416)∧w'.cell? ⟨gb423,6,none⟩=some (.slice Ao73 t417.length co73)∧w'.cell? ⟨gb423,7,none⟩=some (.slice Ao74 t420.length co74)∧w'.cell? ⟨gb375,0,none⟩=some (.int .i64 a0_0)∧w'.cell? ⟨gb375,1,none⟩=some (.int .i64 a0_1)∧w'.cell? ⟨gb375,2,none⟩=some (.int .i64 a0_2)∧w'.cell? ⟨gb375,3,none⟩=some (.int .i64 a0_3)∧w'.cell? ⟨gb375,4,none⟩=some (.string a0_4)∧w'.cell? ⟨gb375,5,none⟩=some (.int .i64 a0_5)∧w'.cell? ⟨gb375,6,none⟩=some (.slice A0_6 l0_6.length c0_6)∧w'.cell? ⟨gb375,7,none⟩=some (.slice A0_7 l0_7.length c0_7)) (ds:=[]) #[O,O,O,O,O] (by kernel_rfl) rfl rfl (cj8_ BK423.out (cc8_ BK375.out)) (fun hHeld=>?_)
      generalize w98.drew=w99 at HO387 HO390 HO393 HO396 HO405 HO408 HO419 HO422 HO426 HO429 HO439 HO442 BK375 BK376 BK410 BK423 BK430 BK444 HB hHeld ⊢
      refine take_ (i:=0) (N:=some 44) (v:=?_) (a':=?_) #[I,O,O,O,O] rfl rfl (by kernel_rfl) (fun _ _ _ h=>h) (Or.inl ⟨by rfl,?_⟩) hHeld ?_ ?_
      rotate_left
      ·rintro w' ⟨s0,s1,s2,s3,s4,s5,s6,s7,s8,s9,s10,s11,s12,s13,s14,s15⟩
       go_simp
       with_reducible rfl
      rotate_left
      ·simp only [Act.put,sa_,s0_,ss_,i64_w,i32_w]
       rfl
      refine take_ (i:=1) (N:=some 45) (v:=?_) (a':=?_) #[I,I,O,O,O] rfl rfl (by kernel_rfl) (fun _ _ _ h=>h) (Or.inl ⟨by rfl,?_⟩) hHeld ?_ ?_
      rotate_left
      ·rintro w' ⟨s0,s1,s2,s3,s4,s5,s6,s7,s8,s9,s10,s11,s12,s13,s14,s15⟩
       go_simp
       with_reducible rfl
      rotate_left
      ·simp only [Act.put,sa_,s0_,ss_,i64_w,i32_w]
       rfl
      refine one_ (i:=2) (N:=some 46) #[I,I,I,O,O] rfl rfl (by kernel_rfl) (by decide) (fun K hK=>?_)
      refine gs_ Try.func14 #[.agg #[.int .i64 a0_0,.int .i64 a0_1,.int .i64 a0_2,.int .i64 a0_3,.string a0_4,.int .i64 a0_5,.slice A0_6 l0_6.length c0_6,.slice A0_7 l0_7.length c0_7]] ?_
      with_reducible refine (laws_toMsg.calls k a0_0 a0_1 a0_2 a0_3 a0_4 a0_5 _ _ l0_6 _ _ l0_7 t446 t447 t448 t449 t450 t451 t452 t455 _ ?s1 ?s2 ?s3 ?s4 A28.out).mono ?_
      (case s1=>repeat (first | exact (Kd.C_below HR0_6.out HB.out) | (with_reducible refine Kd.C_alloc ?_ _) | (with_reducible refine Kd.C_drewN ?_ _) | (with_reducible refine Kd.C_drew ?_)))
      (case s2=>exact HC0_6.out)
      (case s3=>repeat (first | exact (Kd.C_below HR0_7.out HB.out) | (with_reducible refine Kd.C_alloc ?_ _) | (with_reducible refine Kd.C_drewN ?_ _) | (with_reducible refine Kd.C_drew ?_)))
      (case s4=>exact HC0_7.out)
      rintro e w100 ⟨v453,v456,rfl,ho0,ho1,hb⟩
      refine ⟨_,rfl,?_⟩
      refine as21_ (Kd.R_elder' (z0_ HO387.out) (Kd.R_base ho0) hb) (Kd.R_elder' (z0_ HO390.out) (Kd.R_base ho1) hb) (Kd.R_elder' (z0_ HO393.out) (Kd.R_base ho0) hb) (Kd.R_elder' (z0_ HO396.out) (Kd.R_base ho1) hb) (Kd.R_elder' (z0_ HO405.out) (Kd.R_base ho0) hb) (Kd.R_elder' (z0_ HO408.out) (Kd.R_base ho1) hb) (Kd.R_elder' (z0_ HO419.out) (Kd.R_base ho0) hb) (Kd.R_elder' (z0_ HO422.out) (Kd.R_base ho1) hb) (Kd.R_elder' (z0_ HO426.out) (Kd.R_base ho0) hb) (Kd.R_elder' (z0_ HO429.out) (Kd.R_base ho1) hb) (Kd.R_elder' (z0_ HO439.out) (Kd.R_base ho0) hb) (Kd.R_elder' (z0_ HO442.out) (Kd.R_base ho1) hb) (Kd.R_lower (Kd.R_new' (Kd.R_new' (Kd.R_new' (Kd.R_new' (Kd.R_new' (Kd.R_new' ho0 (Kd.R_lt (z0_ HO387.out))) (Kd.R_lt (z0_ HO393.out))) (Kd.R_lt (z0_ HO405.out))) (Kd.R_lt (z0_ HO419.out))) (Kd.R_lt (z0_ HO426.out))) (Kd.R_lt (z0_ HO439.out))) (below_size (z16_ HB.out GE375.out GE376.out GE410.out GE423.out GE430.out GE444.out))) (Kd.R_lower (Kd.R_new' (Kd.R_new' (Kd.R_new' (Kd.R_new' (Kd.R_new' (Kd.R_new' ho1 (Kd.R_lt (z0_ HO390.out))) (Kd.R_lt (z0_ HO396.out))) (Kd.R_lt (z0_ HO408.out))) (Kd.R_lt (z0_ HO422.out))) (Kd.R_lt (z0_ HO429.out))) (Kd.R_lt (z0_ HO442.out))) (below_size (z16_ HB.out GE375.out GE376.out GE410.out GE423.out GE430.out GE444.out))) (blkB_ BK375.out hb) (blkB_ BK376.out hb) (blkB_ BK410.out hb) (blkB_ BK423.out hb) (blkB_ BK430.out hb) (blkB_ BK444.out hb) (below_step (z16_ HB.out GE375.out GE376.out GE410.out GE423.out GE430.out GE444.out) hb) ?_
      clear HO387 HO390 HO393 HO396 HO405 HO408 HO419 HO422 HO426 HO429 HO439 HO442 BK375 BK376 BK410 BK423 BK430 BK444 HB
      intro HO387 HO390 HO393 HO396 HO405 HO408 HO419 HO422 HO426 HO429 HO439 HO442 HO454 HO457 BK375 BK376 BK410 BK423 BK430 BK444 HB
      (try clear hb)
      (try clear hb2)
      (try clear hk)
      (try clear hi)
      (try clear ho0)
      (try clear ho1)
      obtain ⟨Ao101,co101,eo101⟩:=Kd.R_slice HO454.out
      (first | subst eo101 | (injection eo101 with f1_ f2_ f3_;have f4_:=f1_.symm;have f5_:=f3_.symm;clear f1_ f2_ f3_;subst f4_;subst f5_))
      obtain ⟨Ao102,co102,eo102⟩:=Kd.R_slice HO457.out
      (first | subst eo102 | (injection eo102 with f1_ f2_ f3_;have f4_:=f1_.symm;have f5_:=f3_.symm;clear f1_ f2_ f3_;subst f4_;subst f5_))
      refine hK.out _ _ (cj8_ BK423.out (cc8_ BK375.out)) (fun hHeld=>?_)
      clear hK K
      refine nm_ 46 ?_
      refine one_ (i:=3) (N:=some 47) #[I,I,I,I,O] rfl rfl (by kernel_rfl) (by decide) (fun K hK=>?_)
      refine gs_ Try.func18 #[.agg #[.int .i64 t411,.int .i64 t412,.int .i64 t413,.int .i64 t414,.string t415,.int .i64 t416,.slice Ao73 t417.length co73,.slice Ao74 t420.length co74],.agg #[.int .i64 t446,.int .i64 t447,.int .i64 t448,.int .i64 t449,.string t450,.int .i64 t451,.slice Ao101 t452.length co101,.slice Ao102 t455.length co102]] ?_
      with_reducible refine (laws_eqMsg.calls k t411 t412 t413 t414 t415 t416 _ _ t417 _ _ t420 t446 t447 t448 t449 t450 t451 _ _ t452 _ _ t455 true _ ?s1 ?s2 ?s3 ?s4 ?s5 ?s6 ?s7 ?s8 A29.out).mono ?_
      (case s1=>repeat (first | exact (Kd.R_reads' HO419.out).2.2 | (with_reducible refine Kd.C_alloc ?_ _) | (with_reducible refine Kd.C_drewN ?_ _) | (with_reducible refine Kd.C_drew ?_)))
      (case s2=>exact (Kd.R_reads' HO419.out).2.1)
      (case s3=>repeat (first | exact (Kd.R_reads' HO422.out).2.2 | (with_reducible refine Kd.C_alloc ?_ _) | (with_reducible refine Kd.C_drewN ?_ _) | (with_reducible refine Kd.C_drew ?_)))
      (case s4=>exact (Kd.R_reads' HO422.out).2.1)
      (case s5=>repeat (first | exact (Kd.R_reads' HO454.out).2.2 | (with_reducible refine Kd.C_alloc ?_ _) | (with_reducible refine Kd.C_drewN ?_ _) | (with_reducible refine Kd.C_drew ?_)))
      (case s6=>exact (Kd.R_reads' HO454.out).2.1)
      (case s7=>repeat (first | exact (Kd.R_reads' HO457.out).2.2 | (with_reducible refine Kd.C_alloc ?_ _) | (with_reducible refine Kd.C_drewN ?_ _) | (with_reducible refine Kd.C_drew ?_)))
      (case s8=>exact (Kd.R_reads' HO457.out).2.1)
      rintro e w103 ⟨rfl,hb⟩
      refine ⟨_,rfl,?_⟩
      refine as21_ (Kd.R_below (z0_ HO387.out) hb) (Kd.R_below (z0_ HO390.out) hb) (Kd.R_below (z0_ HO393.out) hb) (Kd.R_below (z0_ HO396.out) hb) (Kd.R_below (z0_ HO405.out) hb) (Kd.R_below (z0_ HO408.out) hb) (Kd.R_below (z0_ HO419.out) hb) (Kd.R_below (z0_ HO422.out) hb) (Kd.R_below (z0_ HO426.out) hb) (Kd.R_below (z0_ HO429.out) hb) (Kd.R_below (z0_ HO439.out) hb) (Kd.R_below (z0_ HO442.out) hb) (Kd.R_below (z0_ HO454.out) hb) (Kd.R_below (z0_ HO457.out) hb) (blkB_ BK375.out hb) (blkB_ BK376.out hb) (blkB_ BK410.out hb) (blkB_ BK423.out hb) (blkB_ BK430.out hb) (blkB_ BK444.out hb) (below_step (z16_ HB.out GE375.out GE376.out GE410.out GE423.out GE430.out GE444.out) hb) ?_
      clear HO387 HO390 HO393 HO396 HO405 HO408 HO419 HO422 HO426 HO429 HO439 HO442 HO454 HO457 BK375 BK376 BK410 BK423 BK430 BK444 HB
      intro HO387 HO390 HO393 HO396 HO405 HO408 HO419 HO422 HO426 HO429 HO439 HO442 HO454 HO457 BK375 BK376 BK410 BK423 BK430 BK444 HB
      (try clear hb)
      refine hK.out _ _ (cj8_ BK423.out (cc8_ BK375.out)) (fun hHeld=>?_)
      clear hK K
      refine nm_ 47 ?_
      refine pure_ (i:=4) (N:=some 48) (v:=?_) (a':=?_) #[I,I,I,I,I] rfl rfl (by kernel_rfl) (fun _ _ _ h=>h) (Or.inl ⟨by rfl,?_⟩) ?_ ?_
      rotate_left
      ·intro w'
       go_simp
       with_reducible rfl
      rotate_left
      ·simp only [Act.put,sa_,s0_,ss_,i64_w,i32_w]
       rfl
      refine done_ (by kernel_rfl) ?_
      try go_wp2
      refine as21_ (Kd.R_drew HO387.out) (Kd.R_drew HO390.out) (Kd.R_drew HO393.out) (Kd.R_drew HO396.out) (Kd.R_drew HO405.out) (Kd.R_drew HO408.out) (Kd.R_drew HO419.out) (Kd.R_drew HO422.out) (Kd.R_drew HO426.out) (Kd.R_drew HO429.out) (Kd.R_drew HO439.out) (Kd.R_drew HO442.out) (Kd.R_drew HO454.out) (Kd.R_drew HO457.out) (blk_drew BK375.out) (blk_drew BK376.out) (blk_drew BK410.out) (blk_drew BK423.out) (blk_drew BK430.out) (blk_drew BK444.out) (below_drew1 HB.out) ?_
      clear HO387 HO390 HO393 HO396 HO405 HO408 HO419 HO422 HO426 HO429 HO439 HO442 HO454 HO457 BK375 BK376 BK410 BK423 BK430 BK444 HB
      intro HO387 HO390 HO393 HO396 HO405 HO408 HO419 HO422 HO426 HO429 HO439 HO442 HO454 HO457 BK375 BK376 BK410 BK423 BK430 BK444 HB
      refine start_ (n:=5) (S:=fun w'=>w'.cell? ⟨gb430,0,none⟩=some (.slice Ao79 t424.length co79)∧w'.cell? ⟨gb430,1,none⟩=some (.slice Ao85 t427.length co85)∧w'.cell? ⟨gb376,0,none⟩=some (.slice A2_0 l2_0.length c2_0)∧w'.cell? ⟨gb376,1,none⟩=some (.slice A2_1 l2_1.length c2_1)) (ds:=[]) #[O,O,O,O,O] (by kernel_rfl) rfl rfl (cj2_ BK430.out (cc2_ BK376.out)) (fun hHeld=>?_)
      generalize w103.drew=w104 at HO387 HO390 HO393 HO396 HO405 HO408 HO419 HO422 HO426 HO429 HO439 HO442 HO454 HO457 BK375 BK376 BK410 BK423 BK430 BK444 HB hHeld ⊢
      refine take_ (i:=0) (N:=some 49) (v:=?_) (a':=?_) #[I,O,O,O,O] rfl rfl (by kernel_rfl) (fun _ _ _ h=>h) (Or.inl ⟨by rfl,?_⟩) hHeld ?_ ?_
      rotate_left
      ·rintro w' ⟨s0,s1,s2,s3⟩
       go_simp
       with_reducible rfl
      rotate_left
      ·simp only [Act.put,sa_,s0_,ss_,i64_w,i32_w]
       rfl
      refine take_ (i:=1) (N:=some 50) (v:=?_) (a':=?_) #[I,I,O,O,O] rfl rfl (by kernel_rfl) (fun _ _ _ h=>h) (Or.inl ⟨by rfl,?_⟩) hHeld ?_ ?_
      rotate_left
      ·rintro w' ⟨s0,s1,s2,s3⟩
       go_simp
       with_reducible rfl
      rotate_left
      ·simp only [Act.put,sa_,s0_,ss_,i64_w,i32_w]
       rfl
      refine one_ (i:=2) (N:=some 51) #[I,I,I,O,O] rfl rfl (by kernel_rfl) (by decide) (fun K hK=>?_)
      refine gs_ Try.func15 #[.agg #[.slice A2_0 l2_0.length c2_0,.slice A2_1 l2_1.length c2_1]] ?_
      with_reducible refine (laws_toSet.calls k _ _ l2_0 _ _ l2_1 t459 t462 _ ?s1 ?s2 ?s3 ?s4 A31.out).mono ?_
      (case s1=>repeat (first | exact (Kd.C_below HR2_0.out HB.out) | (with_reducible refine Kd.C_alloc ?_ _) | (with_reducible refine Kd.C_drewN ?_ _) | (with_reducible refine Kd.C_drew ?_)))
      (case s2=>exact HC2_0.out)
      (case s3=>repeat (first | exact (Kd.C_below HR2_1.out HB.out) | (with_reducible refine Kd.C_alloc ?_ _) | (with_reducible refine Kd.C_drewN ?_ _) | (with_reducible refine Kd.C_drew ?_)))
      (case s4=>exact HC2_1.out)
      rintro e w105 ⟨v460,v463,rfl,ho0,ho1,hb⟩
      refine ⟨_,rfl,?_⟩
      refine as23_ (Kd.R_elder' (z0_ HO387.out) (Kd.R_base ho0) hb) (Kd.R_elder' (z0_ HO390.out) (Kd.R_base ho1) hb) (Kd.R_elder' (z0_ HO393.out) (Kd.R_base ho0) hb) (Kd.R_elder' (z0_ HO396.out) (Kd.R_base ho1) hb) (Kd.R_elder' (z0_ HO405.out) (Kd.R_base ho0) hb) (Kd.R_elder' (z0_ HO408.out) (Kd.R_base ho1) hb) (Kd.R_elder' (z0_ HO419.out) (Kd.R_base ho0) hb) (Kd.R_elder' (z0_ HO422.out) (Kd.R_base ho1) hb) (Kd.R_elder' (z0_ HO426.out) (Kd.R_base ho0) hb) (Kd.R_elder' (z0_ HO429.out) (Kd.R_base ho1) hb) (Kd.R_elder' (z0_ HO439.out) (Kd.R_base ho0) hb) (Kd.R_elder' (z0_ HO442.out) (Kd.R_base ho1) hb) (Kd.R_elder' (z0_ HO454.out) (Kd.R_base ho0) hb) (Kd.R_elder' (z0_ HO457.out) (Kd.R_base ho1) hb) (Kd.R_lower (Kd.R_new' (Kd.R_new' (Kd.R_new' (Kd.R_new' (Kd.R_new' (Kd.R_new' (Kd.R_new' ho0 (Kd.R_lt (z0_ HO387.out))) (Kd.R_lt (z0_ HO393.out))) (Kd.R_lt (z0_ HO405.out))) (Kd.R_lt (z0_ HO419.out))) (Kd.R_lt (z0_ HO426.out))) (Kd.R_lt (z0_ HO439.out))) (Kd.R_lt (z0_ HO454.out))) (below_size (z16_ HB.out GE375.out GE376.out GE410.out GE423.out GE430.out GE444.out))) (Kd.R_lower (Kd.R_new' (Kd.R_new' (Kd.R_new' (Kd.R_new' (Kd.R_new' (Kd.R_new' (Kd.R_new' ho1 (Kd.R_lt (z0_ HO390.out))) (Kd.R_lt (z0_ HO396.out))) (Kd.R_lt (z0_ HO408.out))) (Kd.R_lt (z0_ HO422.out))) (Kd.R_lt (z0_ HO429.out))) (Kd.R_lt (z0_ HO442.out))) (Kd.R_lt (z0_ HO457.out))) (below_size (z16_ HB.out GE375.out GE376.out GE410.out GE423.out GE430.out GE444.out))) (blkB_ BK375.out hb) (blkB_ BK376.out hb) (blkB_ BK410.out hb) (blkB_ BK423.out hb) (blkB_ BK430.out hb) (blkB_ BK444.out hb) (below_step (z16_ HB.out GE375.out GE376.out GE410.out GE423.out GE430.out GE444.out) hb) ?_
      clear HO387 HO390 HO393 HO396 HO405 HO408 HO419 HO422 HO426 HO429 HO439 HO442 HO454 HO457 BK375 BK376 BK410 BK423 BK430 BK444 HB
      intro HO387 HO390 HO393 HO396 HO405 HO408 HO419 HO422 HO426 HO429 HO439 HO442 HO454 HO457 HO461 HO464 BK375 BK376 BK410 BK423 BK430 BK444 HB
      (try clear hb)
      (try clear hb2)
      (try clear hk)
      (try clear hi)
      (try clear ho0)
      (try clear ho1)
      obtain ⟨Ao106,co106,eo106⟩:=Kd.R_slice HO461.out
      (first | subst eo106 | (injection eo106 with f1_ f2_ f3_;have f4_:=f1_.symm;have f5_:=f3_.symm;clear f1_ f2_ f3_;subst f4_;subst f5_))
      obtain ⟨Ao107,co107,eo107⟩:=Kd.R_slice HO464.out
      (first | subst eo107 | (injection eo107 with f1_ f2_ f3_;have f4_:=f1_.symm;have f5_:=f3_.symm;clear f1_ f2_ f3_;subst f4_;subst f5_))
      refine hK.out _ _ (cj2_ BK430.out (cc2_ BK376.out)) (fun hHeld=>?_)
      clear hK K
      refine nm_ 51 ?_
      refine one_ (i:=3) (N:=some 52) #[I,I,I,I,O] rfl rfl (by kernel_rfl) (by decide) (fun K hK=>?_)
      refine gs_ Try.func19 #[.agg #[.slice Ao79 t424.length co79,.slice Ao85 t427.length co85],.agg #[.slice Ao106 t459.length co106,.slice Ao107 t462.length co107]] ?_
      with_reducible refine (laws_eqSet.calls k _ _ t424 _ _ t427 _ _ t459 _ _ t462 true _ ?s1 ?s2 ?s3 ?s4 ?s5 ?s6 ?s7 ?s8 A32.out).mono ?_
      (case s1=>repeat (first | exact (Kd.R_reads' HO426.out).2.2 | (with_reducible refine Kd.C_alloc ?_ _) | (with_reducible refine Kd.C_drewN ?_ _) | (with_reducible refine Kd.C_drew ?_)))
      (case s2=>exact (Kd.R_reads' HO426.out).2.1)
      (case s3=>repeat (first | exact (Kd.R_reads' HO429.out).2.2 | (with_reducible refine Kd.C_alloc ?_ _) | (with_reducible refine Kd.C_drewN ?_ _) | (with_reducible refine Kd.C_drew ?_)))
      (case s4=>exact (Kd.R_reads' HO429.out).2.1)
      (case s5=>repeat (first | exact (Kd.R_reads' HO461.out).2.2 | (with_reducible refine Kd.C_alloc ?_ _) | (with_reducible refine Kd.C_drewN ?_ _) | (with_reducible refine Kd.C_drew ?_)))
      (case s6=>exact (Kd.R_reads' HO461.out).2.1)
      (case s7=>repeat (first | exact (Kd.R_reads' HO464.out).2.2 | (with_reducible refine Kd.C_alloc ?_ _) | (with_reducible refine Kd.C_drewN ?_ _) | (with_reducible refine Kd.C_drew ?_)))
      (case s8=>exact (Kd.R_reads' HO464.out).2.1)
      rintro e w108 ⟨rfl,hb⟩
      refine ⟨_,rfl,?_⟩
      refine as23_ (Kd.R_below (z0_ HO387.out) hb) (Kd.R_below (z0_ HO390.out) hb) (Kd.R_below (z0_ HO393.out) hb) (Kd.R_below (z0_ HO396.out) hb) (Kd.R_below (z0_ HO405.out) hb) (Kd.R_below (z0_ HO408.out) hb) (Kd.R_below (z0_ HO419.out) hb) (Kd.R_below (z0_ HO422.out) hb) (Kd.R_below (z0_ HO426.out) hb) (Kd.R_below (z0_ HO429.out) hb) (Kd.R_below (z0_ HO439.out) hb) (Kd.R_below (z0_ HO442.out) hb) (Kd.R_below (z0_ HO454.out) hb) (Kd.R_below (z0_ HO457.out) hb) (Kd.R_below (z0_ HO461.out) hb) (Kd.R_below (z0_ HO464.out) hb) (blkB_ BK375.out hb) (blkB_ BK376.out hb) (blkB_ BK410.out hb) (blkB_ BK423.out hb) (blkB_ BK430.out hb) (blkB_ BK444.out hb) (below_step (z16_ HB.out GE375.out GE376.out GE410.out GE423.out GE430.out GE444.out) hb) ?_
      clear HO387 HO390 HO393 HO396 HO405 HO408 HO419 HO422 HO426 HO429 HO439 HO442 HO454 HO457 HO461 HO464 BK375 BK376 BK410 BK423 BK430 BK444 HB
      intro HO387 HO390 HO393 HO396 HO405 HO408 HO419 HO422 HO426 HO429 HO439 HO442 HO454 HO457 HO461 HO464 BK375 BK376 BK410 BK423 BK430 BK444 HB
      (try clear hb)
      refine hK.out _ _ (cj2_ BK430.out (cc2_ BK376.out)) (fun hHeld=>?_)
      clear hK K
      refine nm_ 52 ?_
      refine pure_ (i:=4) (N:=some 53) (v:=?_) (a':=?_) #[I,I,I,I,I] rfl rfl (by kernel_rfl) (fun _ _ _ h=>h) (Or.inl ⟨by rfl,?_⟩) ?_ ?_
      rotate_left
      ·intro w'
       go_simp
       with_reducible rfl
      rotate_left
      ·simp only [Act.put,sa_,s0_,ss_,i64_w,i32_w]
       rfl
      refine done_ (by kernel_rfl) ?_
      have ⟨hcz109_0,hcz109_1,hcz109_2,hcz109_3,hcz109_4,hcz109_5,hcz109_6,hcz109_7,hfz109_0,hfz109_1,hfz109_2,hfz109_3,hfz109_4,hfz109_5,hfz109_6,hfz109_7⟩:=cz8_ BK423.out
      go_upto_region 21 with (first | ((with_reducible refine gc_ 20 ?_);refine gl_ (some 56) Try.func20 #[.agg #[.int .i64 t411,.int .i64 t412,.int .i64 t413,.int .i64 t414,.string t415,.int .i64 t416,.slice Ao73 t417.length co73,.slice Ao74 t420.length co74],.int .i64 1] ?_;(with_reducible refine (laws_markMsg.calls k t411 t412 t413 t414 t415 t416 (fun k_=>some k_=(.slice Ao73 t417.length co73:Value).ownBlock) (.slice Ao73 t417.length co73) t417 (fun k_=>some k_=(.slice Ao74 t420.length co74:Value).ownBlock) (.slice Ao74 t420.length co74) t420 1 t466 t467 t468 w _ ?s1 ?s2 ?s3 A34.out).mono ?_);(case s1=>repeat (first | (with_reducible first | exact HB.out | apply below_alloc | apply pw_below_drewN | apply below_drew1 | refine below_set ?_ GE375.out | refine below_set ?_ GE376.out | refine below_set ?_ GE410.out | refine below_set ?_ GE423.out | refine below_set ?_ GE430.out | refine below_set ?_ GE444.out) | exact HB.out));(case s2=>exact Kd.R_tight rfl HO419.out);(case s3=>exact Kd.R_tight rfl HO422.out);rintro e w110 ⟨rfl,hy0,hy1,hb,hkp⟩;refine ⟨_,rfl,?_⟩;refine as23_ (blk_kept (z3_ BK375.out) hkp (fun hs_=>Or.elim hs_ (fun e_=>(fun e_=>(Kd.R_ne HO419.out BK375.out (by decide)) e_) e_) (fun e_=>(fun e_=>(Kd.R_ne HO422.out BK375.out (by decide)) e_) e_))) (blk_kept (z3_ BK376.out) hkp (fun hs_=>Or.elim hs_ (fun e_=>(fun e_=>(Kd.R_ne HO419.out BK376.out (by decide)) e_) e_) (fun e_=>(fun e_=>(Kd.R_ne HO422.out BK376.out (by decide)) e_) e_))) (Kd.R_mono (ok':=fun k_=>some k_≠(v392:Value).ownBlock∧some k_≠(.slice Ao60 t403.length co60:Value).ownBlock∧some k_≠(.slice Ao73 t417.length co73:Value).ownBlock∧some k_≠(.slice Ao79 t424.length co79:Value).ownBlock∧some k_≠(.slice Ao95 t437.length co95:Value).ownBlock∧some k_≠(.slice Ao101 t452.length co101:Value).ownBlock∧some k_≠(.slice Ao106 t459.length co106:Value).ownBlock) (Kd.R_keptB ((Kd.R_apart' HO387.out (Kd.R_typed HO422.out) (by decide))) hkp (fun k_ hk_ hs_=>Or.elim hs_ (fun e_=>(hk_.1.1.1.1.1.2) e_) (fun e_=>(hk_.2) e_))) (fun k_ hk_=>⟨hk_.1.1.1.1.1.1.1.1,hk_.1.1.1.1.1.1.1.2,hk_.1.1.1.1.1.1.2,hk_.1.1.1.1.1.2,hk_.1.1.1.1.2,hk_.1.1.1.2,hk_.1.1.2⟩)) (Kd.R_mono (ok':=fun k_=>some k_≠(v395:Value).ownBlock∧some k_≠(.slice Ao62 t406.length co62:Value).ownBlock∧some k_≠(.slice Ao74 t420.length co74:Value).ownBlock∧some k_≠(.slice Ao85 t427.length co85:Value).ownBlock∧some k_≠(.slice Ao96 t440.length co96:Value).ownBlock∧some k_≠(.slice Ao102 t455.length co102:Value).ownBlock∧some k_≠(.slice Ao107 t462.length co107:Value).ownBlock) (Kd.R_keptB ((Kd.R_apart' HO390.out (Kd.R_typed HO419.out) (by decide))) hkp (fun k_ hk_ hs_=>Or.elim hs_ (fun e_=>(hk_.2) e_) (fun e_=>(hk_.1.1.1.1.1.2) e_))) (fun k_ hk_=>⟨hk_.1.1.1.1.1.1.1.1,hk_.1.1.1.1.1.1.1.2,hk_.1.1.1.1.1.1.2,hk_.1.1.1.1.1.2,hk_.1.1.1.1.2,hk_.1.1.1.2,hk_.1.1.2⟩)) (Kd.R_mono (ok':=fun k_=>some k_≠(v386:Value).ownBlock∧some k_≠(.slice Ao60 t403.length co60:Value).ownBlock∧some k_≠(.slice Ao73 t417.length co73:Value).ownBlock∧some k_≠(.slice Ao79 t424.length co79:Value).ownBlock∧some k_≠(.slice Ao95 t437.length co95:Value).ownBlock∧some k_≠(.slice Ao101 t452.length co101:Value).ownBlock∧some k_≠(.slice Ao106 t459.length co106:Value).ownBlock) (Kd.R_keptB ((Kd.R_apart' HO393.out (Kd.R_typed HO422.out) (by decide))) hkp (fun k_ hk_ hs_=>Or.elim hs_ (fun e_=>(hk_.1.1.1.1.1.2) e_) (fun e_=>(hk_.2) e_))) (fun k_ hk_=>⟨hk_.1.1.1.1.1.1.1.1,hk_.1.1.1.1.1.1.1.2,hk_.1.1.1.1.1.1.2,hk_.1.1.1.1.1.2,hk_.1.1.1.1.2,hk_.1.1.1.2,hk_.1.1.2⟩)) (Kd.R_mono (ok':=fun k_=>some k_≠(v389:Value).ownBlock∧some k_≠(.slice Ao62 t406.length co62:Value).ownBlock∧some k_≠(.slice Ao74 t420.length co74:Value).ownBlock∧some k_≠(.slice Ao85 t427.length co85:Value).ownBlock∧some k_≠(.slice Ao96 t440.length co96:Value).ownBlock∧some k_≠(.slice Ao102 t455.length co102:Value).ownBlock∧some k_≠(.slice Ao107 t462.length co107:Value).ownBlock) (Kd.R_keptB ((Kd.R_apart' HO396.out (Kd.R_typed HO419.out) (by decide))) hkp (fun k_ hk_ hs_=>Or.elim hs_ (fun e_=>(hk_.2) e_) (fun e_=>(hk_.1.1.1.1.1.2) e_))) (fun k_ hk_=>⟨hk_.1.1.1.1.1.1.1.1,hk_.1.1.1.1.1.1.1.2,hk_.1.1.1.1.1.1.2,hk_.1.1.1.1.1.2,hk_.1.1.1.1.2,hk_.1.1.1.2,hk_.1.1.2⟩)) (Kd.R_mono (ok':=fun k_=>some k_≠(v386:Value).ownBlock∧some k_≠(v392:Value).ownBlock∧some k_≠(.slice Ao73 t417.length co73:Value).ownBlock∧some k_≠(.slice Ao79 t424.length co79:Value).ownBlock∧some k_≠(.slice Ao95 t437.length co95:Value).ownBlock∧some k_≠(.slice Ao101 t452.length co101:Value).ownBlock∧some k_≠(.slice Ao106 t459.length co106:Value).ownBlock) (Kd.R_keptB ((Kd.R_apart' HO405.out (Kd.R_typed HO422.out) (by decide))) hkp (fun k_ hk_ hs_=>Or.elim hs_ (fun e_=>(hk_.1.1.1.1.1.2) e_) (fun e_=>(hk_.2) e_))) (fun k_ hk_=>⟨hk_.1.1.1.1.1.1.1.1,hk_.1.1.1.1.1.1.1.2,hk_.1.1.1.1.1.1.2,hk_.1.1.1.1.1.2,hk_.1.1.1.1.2,hk_.1.1.1.2,hk_.1.1.2⟩)) (Kd.R_mono (ok':=fun k_=>some k_≠(v389:Value).ownBlock∧some k_≠(v395:Value).ownBlock∧some k_≠(.slice Ao74 t420.length co74:Value).ownBlock∧some k_≠(.slice Ao85 t427.length co85:Value).ownBlock∧some k_≠(.slice Ao96 t440.length co96:Value).ownBlock∧some k_≠(.slice Ao102 t455.length co102:Value).ownBlock∧some k_≠(.slice Ao107 t462.length co107:Value).ownBlock) (Kd.R_keptB ((Kd.R_apart' HO408.out (Kd.R_typed HO419.out) (by decide))) hkp (fun k_ hk_ hs_=>Or.elim hs_ (fun e_=>(hk_.2) e_) (fun e_=>(hk_.1.1.1.1.1.2) e_))) (fun k_ hk_=>⟨hk_.1.1.1.1.1.1.1.1,hk_.1.1.1.1.1.1.1.2,hk_.1.1.1.1.1.1.2,hk_.1.1.1.1.1.2,hk_.1.1.1.1.2,hk_.1.1.1.2,hk_.1.1.2⟩)) (blk_kept (z3_ BK410.out) hkp (fun hs_=>Or.elim hs_ (fun e_=>(fun e_=>(Kd.R_ne HO419.out BK410.out (by decide)) e_) e_) (fun e_=>(fun e_=>(Kd.R_ne HO422.out BK410.out (by decide)) e_) e_))) (Kd.R_reok rfl hy0 (fun k_ e_=>HO419.out.1 k_ e_)) (Kd.R_reok rfl hy1 (fun k_ e_=>HO422.out.1 k_ e_)) (blk_kept (z3_ BK423.out) hkp (fun hs_=>Or.elim hs_ (fun e_=>(fun e_=>(Kd.R_ne HO419.out BK423.out (by decide)) e_) e_) (fun e_=>(fun e_=>(Kd.R_ne HO422.out BK423.out (by decide)) e_) e_))) (Kd.R_mono (ok':=fun k_=>some k_≠(v386:Value).ownBlock∧some k_≠(v392:Value).ownBlock∧some k_≠(.slice Ao60 t403.length co60:Value).ownBlock∧some k_≠(.slice Ao73 t417.length co73:Value).ownBlock∧some k_≠(.slice Ao95 t437.length co95:Value).ownBlock∧some k_≠(.slice Ao101 t452.length co101:Value).ownBlock∧some k_≠(.slice Ao106 t459.length co106:Value).ownBlock) (Kd.R_keptB ((Kd.R_apart' HO426.out (Kd.R_typed HO422.out) (by decide))) hkp (fun k_ hk_ hs_=>Or.elim hs_ (fun e_=>(hk_.1.1.1.1.2) e_) (fun e_=>(hk_.2) e_))) (fun k_ hk_=>⟨hk_.1.1.1.1.1.1.1.1.2,hk_.1.1.1.1.1.1.1.2,hk_.1.1.1.1.1.1.2,hk_.1.1.1.1.1.2,hk_.1.1.1.1.2,hk_.1.1.1.2,hk_.1.1.2⟩)) (Kd.R_mono (ok':=fun k_=>some k_≠(v389:Value).ownBlock∧some k_≠(v395:Value).ownBlock∧some k_≠(.slice Ao62 t406.length co62:Value).ownBlock∧some k_≠(.slice Ao74 t420.length co74:Value).ownBlock∧some k_≠(.slice Ao96 t440.length co96:Value).ownBlock∧some k_≠(.slice Ao102 t455.length co102:Value).ownBlock∧some k_≠(.slice Ao107 t462.length co107:Value).ownBlock) (Kd.R_keptB ((Kd.R_apart' HO429.out (Kd.R_typed HO419.out) (by decide))) hkp (fun k_ hk_ hs_=>Or.elim hs_ (fun e_=>(hk_.2) e_) (fun e_=>(hk_.1.1.1.1.2) e_))) (fun k_ hk_=>⟨hk_.1.1.1.1.1.1.1.1.2,hk_.1.1.1.1.1.1.1.2,hk_.1.1.1.1.1.1.2,hk_.1.1.1.1.1.2,hk_.1.1.1.1.2,hk_.1.1.1.2,hk_.1.1.2⟩)) (blk_kept (z3_ BK430.out) hkp (fun hs_=>Or.elim hs_ (fun e_=>(fun e_=>(Kd.R_ne HO419.out BK430.out (by decide)) e_) e_) (fun e_=>(fun e_=>(Kd.R_ne HO422.out BK430.out (by decide)) e_) e_))) (Kd.R_mono (ok':=fun k_=>some k_≠(v386:Value).ownBlock∧some k_≠(v392:Value).ownBlock∧some k_≠(.slice Ao60 t403.length co60:Value).ownBlock∧some k_≠(.slice Ao73 t417.length co73:Value).ownBlock∧some k_≠(.slice Ao79 t424.length co79:Value).ownBlock∧some k_≠(.slice Ao101 t452.length co101:Value).ownBlock∧some k_≠(.slice Ao106 t459.length co106:Value).ownBlock) (Kd.R_keptB ((Kd.R_apart' HO439.out (Kd.R_typed HO422.out) (by decide))) hkp (fun k_ hk_ hs_=>Or.elim hs_ (fun e_=>(hk_.1.1.1.1.2) e_) (fun e_=>(hk_.2) e_))) (fun k_ hk_=>⟨hk_.1.1.1.1.1.1.1.1.2,hk_.1.1.1.1.1.1.1.2,hk_.1.1.1.1.1.1.2,hk_.1.1.1.1.1.2,hk_.1.1.1.1.2,hk_.1.1.1.2,hk_.1.1.2⟩)) (Kd.R_mono (ok':=fun k_=>some k_≠(v389:Value).ownBlock∧some k_≠(v395:Value).ownBlock∧some k_≠(.slice Ao62 t406.length co62:Value).ownBlock∧some k_≠(.slice Ao74 t420.length co74:Value).ownBlock∧some k_≠(.slice Ao85 t427.length co85:Value).ownBlock∧some k_≠(.slice Ao102 t455.length co102:Value).ownBlock∧some k_≠(.slice Ao107 t462.length co107:Value).ownBlock) (Kd.R_keptB ((Kd.R_apart' HO442.out (Kd.R_typed HO419.out) (by decide))) hkp (fun k_ hk_ hs_=>Or.elim hs_ (fun e_=>(hk_.2) e_) (fun e_=>(hk_.1.1.1.1.2) e_))) (fun k_ hk_=>⟨hk_.1.1.1.1.1.1.1.1.2,hk_.1.1.1.1.1.1.1.2,hk_.1.1.1.1.1.1.2,hk_.1.1.1.1.1.2,hk_.1.1.1.1.2,hk_.1.1.1.2,hk_.1.1.2⟩)) (blk_kept (z3_ BK444.out) hkp (fun hs_=>Or.elim hs_ (fun e_=>(fun e_=>(Kd.R_ne HO419.out BK444.out (by decide)) e_) e_) (fun e_=>(fun e_=>(Kd.R_ne HO422.out BK444.out (by decide)) e_) e_))) (Kd.R_mono (ok':=fun k_=>some k_≠(v386:Value).ownBlock∧some k_≠(v392:Value).ownBlock∧some k_≠(.slice Ao60 t403.length co60:Value).ownBlock∧some k_≠(.slice Ao73 t417.length co73:Value).ownBlock∧some k_≠(.slice Ao79 t424.length co79:Value).ownBlock∧some k_≠(.slice Ao95 t437.length co95:Value).ownBlock∧some k_≠(.slice Ao106 t459.length co106:Value).ownBlock) (Kd.R_keptB ((Kd.R_apart' HO454.out (Kd.R_typed HO422.out) (by decide))) hkp (fun k_ hk_ hs_=>Or.elim hs_ (fun e_=>(hk_.1.1.1.1.2) e_) (fun e_=>(hk_.2) e_))) (fun k_ hk_=>⟨hk_.1.1.1.1.1.1.1.1.2,hk_.1.1.1.1.1.1.1.2,hk_.1.1.1.1.1.1.2,hk_.1.1.1.1.1.2,hk_.1.1.1.1.2,hk_.1.1.1.2,hk_.1.1.2⟩)) (Kd.R_mono (ok':=fun k_=>some k_≠(v389:Value).ownBlock∧some k_≠(v395:Value).ownBlock∧some k_≠(.slice Ao62 t406.length co62:Value).ownBlock∧some k_≠(.slice Ao74 t420.length co74:Value).ownBlock∧some k_≠(.slice Ao85 t427.length co85:Value).ownBlock∧some k_≠(.slice Ao96 t440.length co96:Value).ownBlock∧some k_≠(.slice Ao107 t462.length co107:Value).ownBlock) (Kd.R_keptB ((Kd.R_apart' HO457.out (Kd.R_typed HO419.out) (by decide))) hkp (fun k_ hk_ hs_=>Or.elim hs_ (fun e_=>(hk_.2) e_) (fun e_=>(hk_.1.1.1.1.2) e_))) (fun k_ hk_=>⟨hk_.1.1.1.1.1.1.1.1.2,hk_.1.1.1.1.1.1.1.2,hk_.1.1.1.1.1.1.2,hk_.1.1.1.1.1.2,hk_.1.1.1.1.2,hk_.1.1.1.2,hk_.1.1.2⟩)) (Kd.R_mono (ok':=fun k_=>some k_≠(v386:Value).ownBlock∧some k_≠(v392:Value).ownBlock∧some k_≠(.slice Ao60 t403.length co60:Value).ownBlock∧some k_≠(.slice Ao73 t417.length co73:Value).ownBlock∧some k_≠(.slice Ao79 t424.length co79:Value).ownBlock∧some k_≠(.slice Ao95 t437.length co95:Value).ownBlock∧some k_≠(.slice Ao101 t452.length co101:Value).ownBlock) (Kd.R_keptB ((Kd.R_apart' HO461.out (Kd.R_typed HO422.out) (by decide))) hkp (fun k_ hk_ hs_=>Or.elim hs_ (fun e_=>(hk_.1.1.1.1.2) e_) (fun e_=>(hk_.2) e_))) (fun k_ hk_=>⟨hk_.1.1.1.1.1.1.1.1.2,hk_.1.1.1.1.1.1.1.2,hk_.1.1.1.1.1.1.2,hk_.1.1.1.1.1.2,hk_.1.1.1.1.2,hk_.1.1.1.2,hk_.1.1.2⟩)) (Kd.R_mono (ok':=fun k_=>some k_≠(v389:Value).ownBlock∧some k_≠(v395:Value).ownBlock∧some k_≠(.slice Ao62 t406.length co62:Value).ownBlock∧some k_≠(.slice Ao74 t420.length co74:Value).ownBlock∧some k_≠(.slice Ao85 t427.length co85:Value).ownBlock∧some k_≠(.slice Ao96 t440.length co96:Value).ownBlock∧some k_≠(.slice Ao102 t455.length co102:Value).ownBlock) (Kd.R_keptB ((Kd.R_apart' HO464.out (Kd.R_typed HO419.out) (by decide))) hkp (fun k_ hk_ hs_=>Or.elim hs_ (fun e_=>(hk_.2) e_) (fun e_=>(hk_.1.1.1.1.2) e_))) (fun k_ hk_=>⟨hk_.1.1.1.1.1.1.1.1.2,hk_.1.1.1.1.1.1.1.2,hk_.1.1.1.1.1.1.2,hk_.1.1.1.1.1.2,hk_.1.1.1.1.2,hk_.1.1.1.2,hk_.1.1.2⟩)) (hb) ?_;clear BK375 BK376 HO387 HO390 HO393 HO396 HO405 HO408 BK410 HO419 HO422 BK423 HO426 HO429 BK430 HO439 HO442 BK444 HO454 HO457 HO461 HO464 HB;intro BK375 BK376 HO387 HO390 HO393 HO396 HO405 HO408 BK410 HO419 HO422 BK423 HO426 HO429 BK430 HO439 HO442 BK444 HO454 HO457 HO461 HO464 HB;(try clear hb);(try clear hkp);(try clear hy0);(try clear hy1);have ⟨hcz111_0,hcz111_1,hfz111_0,hfz111_1⟩:=cz2_ BK430.out) | ((with_reducible refine gc_ 21 ?_);refine gl_ (some 59) Try.func21 #[.agg #[.slice Ao79 t424.length co79,.slice Ao85 t427.length co85],.int .i64 t466] ?_;(with_reducible refine (laws_markSet.calls k (fun k_=>some k_=(.slice Ao79 t424.length co79:Value).ownBlock) (.slice Ao79 t424.length co79) t424 (fun k_=>some k_=(.slice Ao85 t427.length co85:Value).ownBlock) (.slice Ao85 t427.length co85) t427 t466 t469 t470 t471 w _ ?s1 ?s2 ?s3 A35.out).mono ?_);(case s1=>repeat (first | (with_reducible first | exact HB.out | apply below_alloc | apply pw_below_drewN | apply below_drew1 | refine below_set ?_ GE375.out | refine below_set ?_ GE376.out | refine below_set ?_ GE410.out | refine below_set ?_ GE423.out | refine below_set ?_ GE430.out | refine below_set ?_ GE444.out) | exact HB.out));(case s2=>exact Kd.R_tight rfl HO426.out);(case s3=>exact Kd.R_tight rfl HO429.out);rintro e w112 ⟨rfl,hy0,hy1,hb,hkp⟩;refine ⟨_,rfl,?_⟩;refine as23_ (blk_kept (z3_ BK375.out) hkp (fun hs_=>Or.elim hs_ (fun e_=>(fun e_=>(Kd.R_ne HO426.out BK375.out (by decide)) e_) e_) (fun e_=>(fun e_=>(Kd.R_ne HO429.out BK375.out (by decide)) e_) e_))) (blk_kept (z3_ BK376.out) hkp (fun hs_=>Or.elim hs_ (fun e_=>(fun e_=>(Kd.R_ne HO426.out BK376.out (by decide)) e_) e_) (fun e_=>(fun e_=>(Kd.R_ne HO429.out BK376.out (by decide)) e_) e_))) (Kd.R_mono (ok':=fun k_=>some k_≠(v392:Value).ownBlock∧some k_≠(.slice Ao60 t403.length co60:Value).ownBlock∧some k_≠(.slice Ao73 t417.length co73:Value).ownBlock∧some k_≠(.slice Ao79 t424.length co79:Value).ownBlock∧some k_≠(.slice Ao95 t437.length co95:Value).ownBlock∧some k_≠(.slice Ao101 t452.length co101:Value).ownBlock∧some k_≠(.slice Ao106 t459.length co106:Value).ownBlock) (Kd.R_keptB ((Kd.R_apart' HO387.out (Kd.R_typed HO429.out) (by decide))) hkp (fun k_ hk_ hs_=>Or.elim hs_ (fun e_=>(hk_.1.2.2.2.1) e_) (fun e_=>(hk_.2) e_))) (fun k_ hk_=>⟨hk_.1.1.1,hk_.1.1.2.1,hk_.1.1.2.2.1,hk_.1.1.2.2.2.1,hk_.1.1.2.2.2.2.1,hk_.1.1.2.2.2.2.2.1,hk_.1.1.2.2.2.2.2.2⟩)) (Kd.R_mono (ok':=fun k_=>some k_≠(v395:Value).ownBlock∧some k_≠(.slice Ao62 t406.length co62:Value).ownBlock∧some k_≠(.slice Ao74 t420.length co74:Value).ownBlock∧some k_≠(.slice Ao85 t427.length co85:Value).ownBlock∧some k_≠(.slice Ao96 t440.length co96:Value).ownBlock∧some k_≠(.slice Ao102 t455.length co102:Value).ownBlock∧some k_≠(.slice Ao107 t462.length co107:Value).ownBlock) (Kd.R_keptB ((Kd.R_apart' HO390.out (Kd.R_typed HO426.out) (by decide))) hkp (fun k_ hk_ hs_=>Or.elim hs_ (fun e_=>(hk_.2) e_) (fun e_=>(hk_.1.2.2.2.1) e_))) (fun k_ hk_=>⟨hk_.1.1.1,hk_.1.1.2.1,hk_.1.1.2.2.1,hk_.1.1.2.2.2.1,hk_.1.1.2.2.2.2.1,hk_.1.1.2.2.2.2.2.1,hk_.1.1.2.2.2.2.2.2⟩)) (Kd.R_mono (ok':=fun k_=>some k_≠(v386:Value).ownBlock∧some k_≠(.slice Ao60 t403.length co60:Value).ownBlock∧some k_≠(.slice Ao73 t417.length co73:Value).ownBlock∧some k_≠(.slice Ao79 t424.length co79:Value).ownBlock∧some k_≠(.slice Ao95 t437.length co95:Value).ownBlock∧some k_≠(.slice Ao101 t452.length co101:Value).ownBlock∧some k_≠(.slice Ao106 t459.length co106:Value).ownBlock) (Kd.R_keptB ((Kd.R_apart' HO393.out (Kd.R_typed HO429.out) (by decide))) hkp (fun k_ hk_ hs_=>Or.elim hs_ (fun e_=>(hk_.1.2.2.2.1) e_) (fun e_=>(hk_.2) e_))) (fun k_ hk_=>⟨hk_.1.1.1,hk_.1.1.2.1,hk_.1.1.2.2.1,hk_.1.1.2.2.2.1,hk_.1.1.2.2.2.2.1,hk_.1.1.2.2.2.2.2.1,hk_.1.1.2.2.2.2.2.2⟩)) (Kd.R_mono (ok':=fun k_=>some k_≠(v389:Value).ownBlock∧some k_≠(.slice Ao62 t406.length co62:Value).ownBlock∧some k_≠(.slice Ao74 t420.length co74:Value).ownBlock∧some k_≠(.slice Ao85 t427.length co85:Value).ownBlock∧some k_≠(.slice Ao96 t440.length co96:Value).ownBlock∧some k_≠(.slice Ao102 t455.length co102:Value).ownBlock∧some k_≠(.slice Ao107 t462.length co107:Value).ownBlock) (Kd.R_keptB ((Kd.R_apart' HO396.out (Kd.R_typed HO426.out) (by decide))) hkp (fun k_ hk_ hs_=>Or.elim hs_ (fun e_=>(hk_.2) e_) (fun e_=>(hk_.1.2.2.2.1) e_))) (fun k_ hk_=>⟨hk_.1.1.1,hk_.1.1.2.1,hk_.1.1.2.2.1,hk_.1.1.2.2.2.1,hk_.1.1.2.2.2.2.1,hk_.1.1.2.2.2.2.2.1,hk_.1.1.2.2.2.2.2.2⟩)) (Kd.R_mono (ok':=fun k_=>some k_≠(v386:Value).ownBlock∧some k_≠(v392:Value).ownBlock∧some k_≠(.slice Ao73 t417.length co73:Value).ownBlock∧some k_≠(.slice Ao79 t424.length co79:Value).ownBlock∧some k_≠(.slice Ao95 t437.length co95:Value).ownBlock∧some k_≠(.slice Ao101 t452.length co101:Value).ownBlock∧some k_≠(.slice Ao106 t459.length co106:Value).ownBlock) (Kd.R_keptB ((Kd.R_apart' HO405.out (Kd.R_typed HO429.out) (by decide))) hkp (fun k_ hk_ hs_=>Or.elim hs_ (fun e_=>(hk_.1.2.2.2.1) e_) (fun e_=>(hk_.2) e_))) (fun k_ hk_=>⟨hk_.1.1.1,hk_.1.1.2.1,hk_.1.1.2.2.1,hk_.1.1.2.2.2.1,hk_.1.1.2.2.2.2.1,hk_.1.1.2.2.2.2.2.1,hk_.1.1.2.2.2.2.2.2⟩)) (Kd.R_mono (ok':=fun k_=>some k_≠(v389:Value).ownBlock∧some k_≠(v395:Value).ownBlock∧some k_≠(.slice Ao74 t420.length co74:Value).ownBlock∧some k_≠(.slice Ao85 t427.length co85:Value).ownBlock∧some k_≠(.slice Ao96 t440.length co96:Value).ownBlock∧some k_≠(.slice Ao102 t455.length co102:Value).ownBlock∧some k_≠(.slice Ao107 t462.length co107:Value).ownBlock) (Kd.R_keptB ((Kd.R_apart' HO408.out (Kd.R_typed HO426.out) (by decide))) hkp (fun k_ hk_ hs_=>Or.elim hs_ (fun e_=>(hk_.2) e_) (fun e_=>(hk_.1.2.2.2.1) e_))) (fun k_ hk_=>⟨hk_.1.1.1,hk_.1.1.2.1,hk_.1.1.2.2.1,hk_.1.1.2.2.2.1,hk_.1.1.2.2.2.2.1,hk_.1.1.2.2.2.2.2.1,hk_.1.1.2.2.2.2.2.2⟩)) (blk_kept (z3_ BK410.out) hkp (fun hs_=>Or.elim hs_ (fun e_=>(fun e_=>(Kd.R_ne HO426.out BK410.out (by decide)) e_) e_) (fun e_=>(fun e_=>(Kd.R_ne HO429.out BK410.out (by decide)) e_) e_))) (Kd.R_mono (ok':=fun k_=>some k_≠(v386:Value).ownBlock∧some k_≠(v392:Value).ownBlock∧some k_≠(.slice Ao60 t403.length co60:Value).ownBlock∧some k_≠(.slice Ao79 t424.length co79:Value).ownBlock∧some k_≠(.slice Ao95 t437.length co95:Value).ownBlock∧some k_≠(.slice Ao101 t452.length co101:Value).ownBlock∧some k_≠(.slice Ao106 t459.length co106:Value).ownBlock) (Kd.R_keptB ((Kd.R_apart' HO419.out (Kd.R_typed HO429.out) (by decide))) hkp (fun k_ hk_ hs_=>Or.elim hs_ (fun e_=>(hk_.1.1.1.1.2) e_) (fun e_=>(hk_.2) e_))) (fun k_ hk_=>⟨hk_.1.1.1.1.1.1.1.1.2,hk_.1.1.1.1.1.1.1.2,hk_.1.1.1.1.1.1.2,hk_.1.1.1.1.1.2,hk_.1.1.1.1.2,hk_.1.1.1.2,hk_.1.1.2⟩)) (Kd.R_mono (ok':=fun k_=>some k_≠(v389:Value).ownBlock∧some k_≠(v395:Value).ownBlock∧some k_≠(.slice Ao62 t406.length co62:Value).ownBlock∧some k_≠(.slice Ao85 t427.length co85:Value).ownBlock∧some k_≠(.slice Ao96 t440.length co96:Value).ownBlock∧some k_≠(.slice Ao102 t455.length co102:Value).ownBlock∧some k_≠(.slice Ao107 t462.length co107:Value).ownBlock) (Kd.R_keptB ((Kd.R_apart' HO422.out (Kd.R_typed HO426.out) (by decide))) hkp (fun k_ hk_ hs_=>Or.elim hs_ (fun e_=>(hk_.2) e_) (fun e_=>(hk_.1.1.1.1.2) e_))) (fun k_ hk_=>⟨hk_.1.1.1.1.1.1.1.1.2,hk_.1.1.1.1.1.1.1.2,hk_.1.1.1.1.1.1.2,hk_.1.1.1.1.1.2,hk_.1.1.1.1.2,hk_.1.1.1.2,hk_.1.1.2⟩)) (blk_kept (z3_ BK423.out) hkp (fun hs_=>Or.elim hs_ (fun e_=>(fun e_=>(Kd.R_ne HO426.out BK423.out (by decide)) e_) e_) (fun e_=>(fun e_=>(Kd.R_ne HO429.out BK423.out (by decide)) e_) e_))) (Kd.R_reok rfl hy0 (fun k_ e_=>HO426.out.1 k_ e_)) (Kd.R_reok rfl hy1 (fun k_ e_=>HO429.out.1 k_ e_)) (blk_kept (z3_ BK430.out) hkp (fun hs_=>Or.elim hs_ (fun e_=>(fun e_=>(Kd.R_ne HO426.out BK430.out (by decide)) e_) e_) (fun e_=>(fun e_=>(Kd.R_ne HO429.out BK430.out (by decide)) e_) e_))) (Kd.R_mono (ok':=fun k_=>some k_≠(v386:Value).ownBlock∧some k_≠(v392:Value).ownBlock∧some k_≠(.slice Ao60 t403.length co60:Value).ownBlock∧some k_≠(.slice Ao73 t417.length co73:Value).ownBlock∧some k_≠(.slice Ao79 t424.length co79:Value).ownBlock∧some k_≠(.slice Ao101 t452.length co101:Value).ownBlock∧some k_≠(.slice Ao106 t459.length co106:Value).ownBlock) (Kd.R_keptB ((Kd.R_apart' HO439.out (Kd.R_typed HO429.out) (by decide))) hkp (fun k_ hk_ hs_=>Or.elim hs_ (fun e_=>(hk_.1.2.2.2.2.1) e_) (fun e_=>(hk_.2) e_))) (fun k_ hk_=>⟨hk_.1.1.1,hk_.1.1.2.1,hk_.1.1.2.2.1,hk_.1.1.2.2.2.1,hk_.1.1.2.2.2.2.1,hk_.1.1.2.2.2.2.2.1,hk_.1.1.2.2.2.2.2.2⟩)) (Kd.R_mono (ok':=fun k_=>some k_≠(v389:Value).ownBlock∧some k_≠(v395:Value).ownBlock∧some k_≠(.slice Ao62 t406.length co62:Value).ownBlock∧some k_≠(.slice Ao74 t420.length co74:Value).ownBlock∧some k_≠(.slice Ao85 t427.length co85:Value).ownBlock∧some k_≠(.slice Ao102 t455.length co102:Value).ownBlock∧some k_≠(.slice Ao107 t462.length co107:Value).ownBlock) (Kd.R_keptB ((Kd.R_apart' HO442.out (Kd.R_typed HO426.out) (by decide))) hkp (fun k_ hk_ hs_=>Or.elim hs_ (fun e_=>(hk_.2) e_) (fun e_=>(hk_.1.2.2.2.2.1) e_))) (fun k_ hk_=>⟨hk_.1.1.1,hk_.1.1.2.1,hk_.1.1.2.2.1,hk_.1.1.2.2.2.1,hk_.1.1.2.2.2.2.1,hk_.1.1.2.2.2.2.2.1,hk_.1.1.2.2.2.2.2.2⟩)) (blk_kept (z3_ BK444.out) hkp (fun hs_=>Or.elim hs_ (fun e_=>(fun e_=>(Kd.R_ne HO426.out BK444.out (by decide)) e_) e_) (fun e_=>(fun e_=>(Kd.R_ne HO429.out BK444.out (by decide)) e_) e_))) (Kd.R_mono (ok':=fun k_=>some k_≠(v386:Value).ownBlock∧some k_≠(v392:Value).ownBlock∧some k_≠(.slice Ao60 t403.length co60:Value).ownBlock∧some k_≠(.slice Ao73 t417.length co73:Value).ownBlock∧some k_≠(.slice Ao79 t424.length co79:Value).ownBlock∧some k_≠(.slice Ao95 t437.length co95:Value).ownBlock∧some k_≠(.slice Ao106 t459.length co106:Value).ownBlock) (Kd.R_keptB ((Kd.R_apart' HO454.out (Kd.R_typed HO429.out) (by decide))) hkp (fun k_ hk_ hs_=>Or.elim hs_ (fun e_=>(hk_.1.2.2.2.2.1) e_) (fun e_=>(hk_.2) e_))) (fun k_ hk_=>⟨hk_.1.1.1,hk_.1.1.2.1,hk_.1.1.2.2.1,hk_.1.1.2.2.2.1,hk_.1.1.2.2.2.2.1,hk_.1.1.2.2.2.2.2.1,hk_.1.1.2.2.2.2.2.2⟩)) (Kd.R_mono (ok':=fun k_=>some k_≠(v389:Value).ownBlock∧some k_≠(v395:Value).ownBlock∧some k_≠(.slice Ao62 t406.length co62:Value).ownBlock∧some k_≠(.slice Ao74 t420.length co74:Value).ownBlock∧some k_≠(.slice Ao85 t427.length co85:Value).ownBlock∧some k_≠(.slice Ao96 t440.length co96:Value).ownBlock∧some k_≠(.slice Ao107 t462.length co107:Value).ownBlock) (Kd.R_keptB ((Kd.R_apart' HO457.out (Kd.R_typed HO426.out) (by decide))) hkp (fun k_ hk_ hs_=>Or.elim hs_ (fun e_=>(hk_.2) e_) (fun e_=>(hk_.1.2.2.2.2.1) e_))) (fun k_ hk_=>⟨hk_.1.1.1,hk_.1.1.2.1,hk_.1.1.2.2.1,hk_.1.1.2.2.2.1,hk_.1.1.2.2.2.2.1,hk_.1.1.2.2.2.2.2.1,hk_.1.1.2.2.2.2.2.2⟩)) (Kd.R_mono (ok':=fun k_=>some k_≠(v386:Value).ownBlock∧some k_≠(v392:Value).ownBlock∧some k_≠(.slice Ao60 t403.length co60:Value).ownBlock∧some k_≠(.slice Ao73 t417.length co73:Value).ownBlock∧some k_≠(.slice Ao79 t424.length co79:Value).ownBlock∧some k_≠(.slice Ao95 t437.length co95:Value).ownBlock∧some k_≠(.slice Ao101 t452.length co101:Value).ownBlock) (Kd.R_keptB ((Kd.R_apart' HO461.out (Kd.R_typed HO429.out) (by decide))) hkp (fun k_ hk_ hs_=>Or.elim hs_ (fun e_=>(hk_.1.2.2.2.2.1) e_) (fun e_=>(hk_.2) e_))) (fun k_ hk_=>⟨hk_.1.1.1,hk_.1.1.2.1,hk_.1.1.2.2.1,hk_.1.1.2.2.2.1,hk_.1.1.2.2.2.2.1,hk_.1.1.2.2.2.2.2.1,hk_.1.1.2.2.2.2.2.2⟩)) (Kd.R_mono (ok':=fun k_=>some k_≠(v389:Value).ownBlock∧some k_≠(v395:Value).ownBlock∧some k_≠(.slice Ao62 t406.length co62:Value).ownBlock∧some k_≠(.slice Ao74 t420.length co74:Value).ownBlock∧some k_≠(.slice Ao85 t427.length co85:Value).ownBlock∧some k_≠(.slice Ao96 t440.length co96:Value).ownBlock∧some k_≠(.slice Ao102 t455.length co102:Value).ownBlock) (Kd.R_keptB ((Kd.R_apart' HO464.out (Kd.R_typed HO426.out) (by decide))) hkp (fun k_ hk_ hs_=>Or.elim hs_ (fun e_=>(hk_.2) e_) (fun e_=>(hk_.1.2.2.2.2.1) e_))) (fun k_ hk_=>⟨hk_.1.1.1,hk_.1.1.2.1,hk_.1.1.2.2.1,hk_.1.1.2.2.2.1,hk_.1.1.2.2.2.2.1,hk_.1.1.2.2.2.2.2.1,hk_.1.1.2.2.2.2.2.2⟩)) (hb) ?_;clear BK375 BK376 HO387 HO390 HO393 HO396 HO405 HO408 BK410 HO419 HO422 BK423 HO426 HO429 BK430 HO439 HO442 BK444 HO454 HO457 HO461 HO464 HB;intro BK375 BK376 HO387 HO390 HO393 HO396 HO405 HO408 BK410 HO419 HO422 BK423 HO426 HO429 BK430 HO439 HO442 BK444 HO454 HO457 HO461 HO464 HB;(try clear hb);(try clear hkp);(try clear hy0);(try clear hy1)))
      (try simp only [Act.put,sa_,s0_,ss_])
      go_cut [67] (fun v67 wc=>∃ (kq:Nat) (x67_35:Bool),v67 = .bool x67_35∧Aside0 (laws_FnExactMsgTurn.j0 kq a1 x67_35 a0_0 a0_1 a0_2 a0_3 a0_4 a0_5 l0_6 l0_7 l2_0 l2_1 t397 t398 t399 t400 t401 t402 t403 t406 t409 t431 t432 t433 t434 t435 t436 t437 t440 t443=some r)∧Aside0 (kq≤k)∧Aside0 (Kd.R k56 56 wc w.heap.size (fun k_=>some k_≠((.slice Ao73 t417.length co73):Value).ownBlock∧some k_≠((.slice Ao79 t424.length co79):Value).ownBlock∧some k_≠((.slice Ao95 t437.length co95):Value).ownBlock) (.slice Ao60 t403.length co60) t403)∧Aside0 (Kd.R k91 91 wc w.heap.size (fun k_=>some k_≠((.slice Ao74 t420.length co74):Value).ownBlock∧some k_≠((.slice Ao85 t427.length co85):Value).ownBlock∧some k_≠((.slice Ao96 t440.length co96):Value).ownBlock) (.slice Ao62 t406.length co62) t406)∧Aside0 (Kd.R k56 56 wc w.heap.size (fun k_=>some k_≠((.slice Ao60 t403.length co60):Value).ownBlock∧some k_≠((.slice Ao79 t424.length co79):Value).ownBlock∧some k_≠((.slice Ao95 t437.length co95):Value).ownBlock) (.slice Ao73 t417.length co73) t467)∧Aside0 (Kd.R k91 91 wc w.heap.size (fun k_=>some k_≠((.slice Ao62 t406.length co62):Value).ownBlock∧some k_≠((.slice Ao85 t427.length co85):Value).ownBlock∧some k_≠((.slice Ao96 t440.length co96):Value).ownBlock) (.slice Ao74 t420.length co74) t468)∧Aside0 (Kd.R k56 56 wc w.heap.size (fun k_=>some k_≠((.slice Ao60 t403.length co60):Value).ownBlock∧some k_≠((.slice Ao73 t417.length co73):Value).ownBlock∧some k_≠((.slice Ao95 t437.length co95):Value).ownBlock) (.slice Ao79 t424.length co79) t470)∧Aside0 (Kd.R k91 91 wc w.heap.size (fun k_=>some k_≠((.slice Ao62 t406.length co62):Value).ownBlock∧some k_≠((.slice Ao74 t420.length co74):Value).ownBlock∧some k_≠((.slice Ao96 t440.length co96):Value).ownBlock) (.slice Ao85 t427.length co85) t471)∧Aside0 (Kd.R k56 56 wc w.heap.size (fun k_=>some k_≠((.slice Ao60 t403.length co60):Value).ownBlock∧some k_≠((.slice Ao73 t417.length co73):Value).ownBlock∧some k_≠((.slice Ao79 t424.length co79):Value).ownBlock) (.slice Ao95 t437.length co95) t437)∧Aside0 (Kd.R k91 91 wc w.heap.size (fun k_=>some k_≠((.slice Ao62 t406.length co62):Value).ownBlock∧some k_≠((.slice Ao74 t420.length co74):Value).ownBlock∧some k_≠((.slice Ao85 t427.length co85):Value).ownBlock) (.slice Ao96 t440.length co96) t440)∧Aside0 (wc.heap[gb375]? = some (.cells #[.int .i64 a0_0,.int .i64 a0_1,.int .i64 a0_2,.int .i64 a0_3,.string a0_4,.int .i64 a0_5,(.slice A0_6 l0_6.length c0_6),(.slice A0_7 l0_7.length c0_7)] 34 (0,0)))∧Aside0 (wc.heap[gb376]? = some (.cells #[(.slice A2_0 l2_0.length c2_0),(.slice A2_1 l2_1.length c2_1)] 32 (0,0)))∧Aside0 (wc.heap[gb410]? = some (.cells #[.int .i64 t397,.int .i64 t398,.int .i64 t399,.int .i64 t400,.string t401,.int .i64 t402,(.slice Ao60 t403.length co60),(.slice Ao62 t406.length co62),.int .i64 t409] 44 (0,0)))∧Aside0 (wc.heap[gb423]? = some (.cells #[.int .i64 t411,.int .i64 t412,.int .i64 t413,.int .i64 t414,.string t415,.int .i64 t416,(.slice Ao73 t417.length co73),(.slice Ao74 t420.length co74)] 42 (0,0)))∧Aside0 (wc.heap[gb430]? = some (.cells #[(.slice Ao79 t424.length co79),(.slice Ao85 t427.length co85)] 40 (0,0)))∧Aside0 (wc.heap[gb444]? = some (.cells #[.int .i64 t431,.int .i64 t432,.int .i64 t433,.int .i64 t434,.string t435,.int .i64 t436,(.slice Ao95 t437.length co95),(.slice Ao96 t440.length co96),.int .i64 t443] 44 (0,0)))∧Aside0 (Below w.heap.size w wc))
      case first =>
       have H:=HC36.out
       clear HC36
       by_cases c113:t469<0
       ·rw [if_pos c113] at H
        have c113b0:decide (t469<0)=true:=decide_eq_true c113
        clear c113
        (first | rw [c113b0] | (simp only [i64_w,i32_w];rw [c113b0]) | skip)
        have H':=Aside0.mk H
        clear H
        go_wp2
        go_meet
        case rel=>exact ⟨_,(true),(z2_),H',⟨by first | omega | exact Nat.le_refl _⟩,⟨z25_ HO405.out⟩,⟨z25_ HO408.out⟩,⟨z25_ HO419.out⟩,⟨z25_ HO422.out⟩,⟨z25_ HO426.out⟩,⟨z25_ HO429.out⟩,⟨z25_ HO439.out⟩,⟨z25_ HO442.out⟩,⟨z3_ BK375.out⟩,⟨z3_ BK376.out⟩,⟨z3_ BK410.out⟩,⟨z3_ BK423.out⟩,⟨z3_ BK430.out⟩,⟨z3_ BK444.out⟩,⟨z16_ HB.out GE375.out GE376.out GE410.out GE423.out GE430.out GE444.out⟩⟩
       ·rw [if_neg c113] at H
        have c113b0:decide (t469<0)=false:=decide_eq_false c113
        clear c113
        (first | rw [c113b0] | (simp only [i64_w,i32_w];rw [c113b0]) | skip)
        replace H:=Option.bind_eq_some_iff.mp H
        obtain ⟨t472,A1140,H⟩:=H
        replace H:(laws_FnExactMsgTurn.j0 k a1 (!t472) a0_0 a0_1 a0_2 a0_3 a0_4 a0_5 l0_6 l0_7 l2_0 l2_1 t397 t398 t399 t400 t401 t402 t403 t406 t409 t431 t432 t433 t434 t435 t436 t437 t440 t443)=some r:=H
        have A114:=Aside0.mk A1140
        clear A1140
        have H':=Aside0.mk H
        clear H
        have hnb115:=NB444_375.out
        have hnc115:=NB375_444.out
        have hnb116:=NB444_376.out
        have hnc116:=NB376_444.out
        have hnb117:=NB444_410.out
        have hnc117:=NB410_444.out
        have hnb118:=NB444_423.out
        have hnc118:=NB423_444.out
        have hnb119:=NB444_430.out
        have hnc119:=NB430_444.out
        have ⟨hcz120_0,hcz120_1,hcz120_2,hcz120_3,hcz120_4,hcz120_5,hcz120_6,hcz120_7,hcz120_8,hfz120_0,hfz120_1,hfz120_2,hfz120_3,hfz120_4,hfz120_5,hfz120_6,hfz120_7,hfz120_8⟩:=cz9_ BK444.out
        have hnb121:=NB410_375.out
        have hnc121:=NB375_410.out
        have hnb122:=NB410_376.out
        have hnc122:=NB376_410.out
        have hnb123:=NB410_423.out
        have hnc123:=NB423_410.out
        have hnb124:=NB410_430.out
        have hnc124:=NB430_410.out
        have ⟨hcz125_0,hcz125_1,hcz125_2,hcz125_3,hcz125_4,hcz125_5,hcz125_6,hcz125_7,hcz125_8,hfz125_0,hfz125_1,hfz125_2,hfz125_3,hfz125_4,hfz125_5,hfz125_6,hfz125_7,hfz125_8⟩:=cz9_ BK410.out
        go_wp2_with (first | (go_at_call 17;(with_reducible refine (laws_eqMsgOut.calls k t431 t432 t433 t434 t435 t436 _ _ t437 _ _ t440 t443 t397 t398 t399 t400 t401 t402 _ _ t403 _ _ t406 t409 t472 _ ?s1 ?s2 ?s3 ?s4 ?s5 ?s6 ?s7 ?s8 A114.out).mono ?_);(case s1=>repeat (first | exact (Kd.R_reads' HO439.out).2.2 | (with_reducible refine Kd.C_alloc ?_ _) | (with_reducible refine Kd.C_drewN ?_ _) | (with_reducible refine Kd.C_drew ?_)));(case s2=>exact (Kd.R_reads' HO439.out).2.1);(case s3=>repeat (first | exact (Kd.R_reads' HO442.out).2.2 | (with_reducible refine Kd.C_alloc ?_ _) | (with_reducible refine Kd.C_drewN ?_ _) | (with_reducible refine Kd.C_drew ?_)));(case s4=>exact (Kd.R_reads' HO442.out).2.1);(case s5=>repeat (first | exact (Kd.R_reads' HO405.out).2.2 | (with_reducible refine Kd.C_alloc ?_ _) | (with_reducible refine Kd.C_drewN ?_ _) | (with_reducible refine Kd.C_drew ?_)));(case s6=>exact (Kd.R_reads' HO405.out).2.1);(case s7=>repeat (first | exact (Kd.R_reads' HO408.out).2.2 | (with_reducible refine Kd.C_alloc ?_ _) | (with_reducible refine Kd.C_drewN ?_ _) | (with_reducible refine Kd.C_drew ?_)));(case s8=>exact (Kd.R_reads' HO408.out).2.1);rintro e w126 ⟨rfl,hb⟩;refine as23_ (Kd.R_below (z0_ HO387.out) hb) (Kd.R_below (z0_ HO390.out) hb) (Kd.R_below (z0_ HO393.out) hb) (Kd.R_below (z0_ HO396.out) hb) (Kd.R_below (z0_ HO405.out) hb) (Kd.R_below (z0_ HO408.out) hb) (Kd.R_below (z0_ HO419.out) hb) (Kd.R_below (z0_ HO422.out) hb) (Kd.R_below (z0_ HO426.out) hb) (Kd.R_below (z0_ HO429.out) hb) (Kd.R_below (z0_ HO439.out) hb) (Kd.R_below (z0_ HO442.out) hb) (Kd.R_below (z0_ HO454.out) hb) (Kd.R_below (z0_ HO457.out) hb) (Kd.R_below (z0_ HO461.out) hb) (Kd.R_below (z0_ HO464.out) hb) (blkB_ BK375.out hb) (blkB_ BK376.out hb) (blkB_ BK410.out hb) (blkB_ BK423.out hb) (blkB_ BK430.out hb) (blkB_ BK444.out hb) (below_step (z16_ HB.out GE375.out GE376.out GE410.out GE423.out GE430.out GE444.out) hb) ?_;clear HO387 HO390 HO393 HO396 HO405 HO408 HO419 HO422 HO426 HO429 HO439 HO442 HO454 HO457 HO461 HO464 BK375 BK376 BK410 BK423 BK430 BK444 HB;intro HO387 HO390 HO393 HO396 HO405 HO408 HO419 HO422 HO426 HO429 HO439 HO442 HO454 HO457 HO461 HO464 BK375 BK376 BK410 BK423 BK430 BK444 HB;(try clear hb)))
        go_meet
        case rel=>exact ⟨_,(!t472),(z2_),H',⟨by first | omega | exact Nat.le_refl _⟩,⟨z25_ HO405.out⟩,⟨z25_ HO408.out⟩,⟨z25_ HO419.out⟩,⟨z25_ HO422.out⟩,⟨z25_ HO426.out⟩,⟨z25_ HO429.out⟩,⟨z25_ HO439.out⟩,⟨z25_ HO442.out⟩,⟨z3_ BK375.out⟩,⟨z3_ BK376.out⟩,⟨z3_ BK410.out⟩,⟨z3_ BK423.out⟩,⟨z3_ BK430.out⟩,⟨z3_ BK444.out⟩,⟨z16_ HB.out GE375.out GE376.out GE410.out GE423.out GE430.out GE444.out⟩⟩
      case rest =>
       clear HC36
       try clear c1
       try clear c2
       try clear p2
       try clear c11
       try clear c12
       try clear c14
       try clear c15
       try clear c18
       try clear c19
       try clear c20
       try clear c21
       try clear c113
       try clear c113b0
       try clear c115
       try clear c116
       try clear c117
       try clear c118
       try clear c119
       try clear c121
       try clear c122
       try clear c123
       try clear c124
       try clear hcz109_0
       try clear hcz109_1
       try clear hcz109_2
       try clear hcz109_3
       try clear hcz109_4
       try clear hcz109_5
       try clear hcz109_6
       try clear hcz109_7
       try clear hcz111_0
       try clear hcz111_1
       try clear hcz120_0
       try clear hcz120_1
       try clear hcz120_2
       try clear hcz120_3
       try clear hcz120_4
       try clear hcz120_5
       try clear hcz120_6
       try clear hcz120_7
       try clear hcz120_8
       try clear hcz125_0
       try clear hcz125_1
       try clear hcz125_2
       try clear hcz125_3
       try clear hcz125_4
       try clear hcz125_5
       try clear hcz125_6
       try clear hcz125_7
       try clear hcz125_8
       try clear hfz109_0
       try clear hfz109_1
       try clear hfz109_2
       try clear hfz109_3
       try clear hfz109_4
       try clear hfz109_5
       try clear hfz109_6
       try clear hfz109_7
       try clear hfz111_0
       try clear hfz111_1
       try clear hfz120_0
       try clear hfz120_1
       try clear hfz120_2
       try clear hfz120_3
       try clear hfz120_4
       try clear hfz120_5
       try clear hfz120_6
       try clear hfz120_7
       try clear hfz120_8
       try clear hfz125_0
       try clear hfz125_1
       try clear hfz125_2
       try clear hfz125_3
       try clear hfz125_4
       try clear hfz125_5
       try clear hfz125_6
       try clear hfz125_7
       try clear hfz125_8
       obtain ⟨kq,x67_35,rfl,HA,HJ35,HO_411006,HO_411007,HO_424006,HO_424007,HO_431000,HO_431001,HO_445006,HO_445007,BK375,BK376,BK410,BK423,BK430,BK444,HB⟩:=hcut
       have hl424006_35:=(Kd.R_reads' HO_424006.out).1
       rw [hl424006_35] at HO_424006
       (try simp only [hl424006_35])
       (try simp only [hl424006_35] at BK375)
       (try simp only [hl424006_35] at BK376)
       (try simp only [hl424006_35] at BK410)
       (try simp only [hl424006_35] at BK423)
       (try simp only [hl424006_35] at BK430)
       (try simp only [hl424006_35] at BK444)
       (try simp only [hl424006_35] at HO_411006)
       (try simp only [hl424006_35] at HO_411007)
       (try simp only [hl424006_35] at HO_424007)
       (try simp only [hl424006_35] at HO_431000)
       (try simp only [hl424006_35] at HO_431001)
       (try simp only [hl424006_35] at HO_445006)
       (try simp only [hl424006_35] at HO_445007)
       have hl424007_35:=(Kd.R_reads' HO_424007.out).1
       rw [hl424007_35] at HO_424007
       (try simp only [hl424007_35])
       (try simp only [hl424007_35] at BK375)
       (try simp only [hl424007_35] at BK376)
       (try simp only [hl424007_35] at BK410)
       (try simp only [hl424007_35] at BK423)
       (try simp only [hl424007_35] at BK430)
       (try simp only [hl424007_35] at BK444)
       (try simp only [hl424007_35] at HO_411006)
       (try simp only [hl424007_35] at HO_411007)
       (try simp only [hl424007_35] at HO_424006)
       (try simp only [hl424007_35] at HO_431000)
       (try simp only [hl424007_35] at HO_431001)
       (try simp only [hl424007_35] at HO_445006)
       (try simp only [hl424007_35] at HO_445007)
       have hl431000_35:=(Kd.R_reads' HO_431000.out).1
       rw [hl431000_35] at HO_431000
       (try simp only [hl431000_35])
       (try simp only [hl431000_35] at BK375)
       (try simp only [hl431000_35] at BK376)
       (try simp only [hl431000_35] at BK410)
       (try simp only [hl431000_35] at BK423)
       (try simp only [hl431000_35] at BK430)
       (try simp only [hl431000_35] at BK444)
       (try simp only [hl431000_35] at HO_411006)
       (try simp only [hl431000_35] at HO_411007)
       (try simp only [hl431000_35] at HO_424006)
       (try simp only [hl431000_35] at HO_424007)
       (try simp only [hl431000_35] at HO_431001)
       (try simp only [hl431000_35] at HO_445006)
       (try simp only [hl431000_35] at HO_445007)
       have hl431001_35:=(Kd.R_reads' HO_431001.out).1
       rw [hl431001_35] at HO_431001
       (try simp only [hl431001_35])
       (try simp only [hl431001_35] at BK375)
       (try simp only [hl431001_35] at BK376)
       (try simp only [hl431001_35] at BK410)
       (try simp only [hl431001_35] at BK423)
       (try simp only [hl431001_35] at BK430)
       (try simp only [hl431001_35] at BK444)
       (try simp only [hl431001_35] at HO_411006)
       (try simp only [hl431001_35] at HO_411007)
       (try simp only [hl431001_35] at HO_424006)
       (try simp only [hl431001_35] at HO_424007)
       (try simp only [hl431001_35] at HO_431000)
       (try simp only [hl431001_35] at HO_445006)
       (try simp only [hl431001_35] at HO_445007)
       cases kq with
       | zero=>exact absurd HA.out (by simp [laws_FnExactMsgTurn.j0])
       | succ kj35 =>
        have H:=HA.out
        clear HA
        simp only [laws_FnExactMsgTurn.j0] at H
        by_cases c127:x67_35=true
        ·subst c127
         have H1:(none)=some r:=by rw [if_pos rfl] at H;exact H
         clear H
         have H:=H1
         clear H1
         exact absurd H (by simp)
        ·replace c127:=Bool.eq_false_iff.mpr c127
         subst c127
         have H1:((laws_markMsgOut.f kj35 t431 t432 t433 t434 t435 t436 t437 t440 t443 1).bind fun bt473=>((laws_heldMsgOut.f kj35 t431 t432 t433 t434 t435 t436 bt473.2.1 bt473.2.2 t443 1).bind fun t476=>(if t476<0 then (none) else (if t476=bt473.1 then ((laws_toMsg.f kj35 a0_0 a0_1 a0_2 a0_3 a0_4 a0_5 l0_6 l0_7).bind fun bt477=>((laws_toSet.f kj35 l2_0 l2_1).bind fun bt489=>((impl_MsgTurn.f kj35 bt477.1 bt477.2.1 bt477.2.2.1 bt477.2.2.2.1 bt477.2.2.2.2.1 bt477.2.2.2.2.2.1 bt477.2.2.2.2.2.2.1 bt477.2.2.2.2.2.2.2 a1 bt489.1 bt489.2).bind fun bt495=>((laws_eqMsgOut.f kj35 bt495.1 bt495.2.1 bt495.2.2.1 bt495.2.2.2.1 bt495.2.2.2.2.1 bt495.2.2.2.2.2.1 bt495.2.2.2.2.2.2.1 bt495.2.2.2.2.2.2.2.1 bt495.2.2.2.2.2.2.2.2 t397 t398 t399 t400 t401 t402 t403 t406 t409).bind fun t509=>(if t509=true then ((laws_heldMsgOut.f kj35 t431 t432 t433 t434 t435 t436 bt473.2.1 bt473.2.2 t443 1).bind fun t510=>(if t510<0 then (none) else (if t510=bt473.1 then (some true) else (none)))) else (none)))))) else (none)))))=some r:=by rw [if_neg (show ¬ (false=true) by decide)] at H;exact H
         clear H
         have H:=H1
         clear H1
         replace H:=Option.bind_eq_some_iff.mp H
         obtain ⟨⟨t473,t474,t475⟩,A1280,H⟩:=H
         replace H:((laws_heldMsgOut.f kj35 t431 t432 t433 t434 t435 t436 t474 t475 t443 1).bind fun t476=>(if t476<0 then (none) else (if t476=t473 then ((laws_toMsg.f kj35 a0_0 a0_1 a0_2 a0_3 a0_4 a0_5 l0_6 l0_7).bind fun bt477=>((laws_toSet.f kj35 l2_0 l2_1).bind fun bt489=>((impl_MsgTurn.f kj35 bt477.1 bt477.2.1 bt477.2.2.1 bt477.2.2.2.1 bt477.2.2.2.2.1 bt477.2.2.2.2.2.1 bt477.2.2.2.2.2.2.1 bt477.2.2.2.2.2.2.2 a1 bt489.1 bt489.2).bind fun bt495=>((laws_eqMsgOut.f kj35 bt495.1 bt495.2.1 bt495.2.2.1 bt495.2.2.2.1 bt495.2.2.2.2.1 bt495.2.2.2.2.2.1 bt495.2.2.2.2.2.2.1 bt495.2.2.2.2.2.2.2.1 bt495.2.2.2.2.2.2.2.2 t397 t398 t399 t400 t401 t402 t403 t406 t409).bind fun t509=>(if t509=true then ((laws_heldMsgOut.f kj35 t431 t432 t433 t434 t435 t436 t474 t475 t443 1).bind fun t510=>(if t510<0 then (none) else (if t510=t473 then (some true) else (none)))) else (none)))))) else (none))))=some r:=H
         have A128:=Aside0.mk A1280
         clear A1280
         replace H:=Option.bind_eq_some_iff.mp H
         obtain ⟨t476,A1290,H⟩:=H
         replace H:(if t476<0 then (none) else (if t476=t473 then ((laws_toMsg.f kj35 a0_0 a0_1 a0_2 a0_3 a0_4 a0_5 l0_6 l0_7).bind fun bt477=>((laws_toSet.f kj35 l2_0 l2_1).bind fun bt489=>((impl_MsgTurn.f kj35 bt477.1 bt477.2.1 bt477.2.2.1 bt477.2.2.2.1 bt477.2.2.2.2.1 bt477.2.2.2.2.2.1 bt477.2.2.2.2.2.2.1 bt477.2.2.2.2.2.2.2 a1 bt489.1 bt489.2).bind fun bt495=>((laws_eqMsgOut.f kj35 bt495.1 bt495.2.1 bt495.2.2.1 bt495.2.2.2.1 bt495.2.2.2.2.1 bt495.2.2.2.2.2.1 bt495.2.2.2.2.2.2.1 bt495.2.2.2.2.2.2.2.1 bt495.2.2.2.2.2.2.2.2 t397 t398 t399 t400 t401 t402 t403 t406 t409).bind fun t509=>(if t509=true then ((laws_heldMsgOut.f kj35 t431 t432 t433 t434 t435 t436 t474 t475 t443 1).bind fun t510=>(if t510<0 then (none) else (if t510=t473 then (some true) else (none)))) else (none)))))) else (none)))=some r:=H
         have A129:=Aside0.mk A1290
         clear A1290
         by_cases c130:t476<0
         ·rw [if_pos c130] at H
          exact absurd H (by simp)
         ·rw [if_neg c130] at H
          have c130b0:decide (t476<0)=false:=decide_eq_false c130
          clear c130
          by_cases c131:t476=t473
          ·rw [if_pos c131] at H
           have c131b0:(t476 == t473)=true:=beq_iff_eq.mpr c131
           have c131b1:(t476 != t473)=false:=bne_eq_false_iff_eq.mpr c131
           clear c131
           replace H:=Option.bind_eq_some_iff.mp H
           obtain ⟨⟨t477,t478,t479,t480,t481,t482,t483,t486⟩,A1320,H⟩:=H
           replace H:((laws_toSet.f kj35 l2_0 l2_1).bind fun bt489=>((impl_MsgTurn.f kj35 t477 t478 t479 t480 t481 t482 t483 t486 a1 bt489.1 bt489.2).bind fun bt495=>((laws_eqMsgOut.f kj35 bt495.1 bt495.2.1 bt495.2.2.1 bt495.2.2.2.1 bt495.2.2.2.2.1 bt495.2.2.2.2.2.1 bt495.2.2.2.2.2.2.1 bt495.2.2.2.2.2.2.2.1 bt495.2.2.2.2.2.2.2.2 t397 t398 t399 t400 t401 t402 t403 t406 t409).bind fun t509=>(if t509=true then ((laws_heldMsgOut.f kj35 t431 t432 t433 t434 t435 t436 t474 t475 t443 1).bind fun t510=>(if t510<0 then (none) else (if t510=t473 then (some true) else (none)))) else (none)))))=some r:=H
           have A132:=Aside0.mk A1320
           clear A1320
           replace H:=Option.bind_eq_some_iff.mp H
           obtain ⟨⟨t489,t492⟩,A1330,H⟩:=H
           replace H:((impl_MsgTurn.f kj35 t477 t478 t479 t480 t481 t482 t483 t486 a1 t489 t492).bind fun bt495=>((laws_eqMsgOut.f kj35 bt495.1 bt495.2.1 bt495.2.2.1 bt495.2.2.2.1 bt495.2.2.2.2.1 bt495.2.2.2.2.2.1 bt495.2.2.2.2.2.2.1 bt495.2.2.2.2.2.2.2.1 bt495.2.2.2.2.2.2.2.2 t397 t398 t399 t400 t401 t402 t403 t406 t409).bind fun t509=>(if t509=true then ((laws_heldMsgOut.f kj35 t431 t432 t433 t434 t435 t436 t474 t475 t443 1).bind fun t510=>(if t510<0 then (none) else (if t510=t473 then (some true) else (none)))) else (none))))=some r:=H
           have A133:=Aside0.mk A1330
           clear A1330
           replace H:=Option.bind_eq_some_iff.mp H
           obtain ⟨⟨t495,t496,t497,t498,t499,t500,t501,t504,t507⟩,A1340,H⟩:=H
           replace H:((laws_eqMsgOut.f kj35 t495 t496 t497 t498 t499 t500 t501 t504 t507 t397 t398 t399 t400 t401 t402 t403 t406 t409).bind fun t509=>(if t509=true then ((laws_heldMsgOut.f kj35 t431 t432 t433 t434 t435 t436 t474 t475 t443 1).bind fun t510=>(if t510<0 then (none) else (if t510=t473 then (some true) else (none)))) else (none)))=some r:=H
           have A134:=Aside0.mk A1340
           clear A1340
           replace H:=Option.bind_eq_some_iff.mp H
           obtain ⟨t509,A1350,H⟩:=H
           replace H:(if t509=true then ((laws_heldMsgOut.f kj35 t431 t432 t433 t434 t435 t436 t474 t475 t443 1).bind fun t510=>(if t510<0 then (none) else (if t510=t473 then (some true) else (none)))) else (none))=some r:=H
           have A135:=Aside0.mk A1350
           clear A1350
           by_cases c136:t509=true
           ·subst c136
            have H1:((laws_heldMsgOut.f kj35 t431 t432 t433 t434 t435 t436 t474 t475 t443 1).bind fun t510=>(if t510<0 then (none) else (if t510=t473 then (some true) else (none))))=some r:=by rw [if_pos rfl] at H;exact H
            clear H
            have H:=H1
            clear H1
            replace H:=Option.bind_eq_some_iff.mp H
            obtain ⟨t510,A1370,H⟩:=H
            replace H:(if t510<0 then (none) else (if t510=t473 then (some true) else (none)))=some r:=H
            have A137:=Aside0.mk A1370
            clear A1370
            by_cases c138:t510<0
            ·rw [if_pos c138] at H
             exact absurd H (by simp)
            ·rw [if_neg c138] at H
             have c138b0:decide (t510<0)=false:=decide_eq_false c138
             clear c138
             by_cases c139:t510=t473
             ·rw [if_pos c139] at H
              have c139b0:(t510 == t473)=true:=beq_iff_eq.mpr c139
              have c139b1:(t510 != t473)=false:=bne_eq_false_iff_eq.mpr c139
              clear c139
              obtain rfl:=Option.some.inj H
              have hnb140:=NB444_375.out
              have hnc140:=NB375_444.out
              have hnb141:=NB444_376.out
              have hnc141:=NB376_444.out
              have hnb142:=NB444_410.out
              have hnc142:=NB410_444.out
              have hnb143:=NB444_423.out
              have hnc143:=NB423_444.out
              have hnb144:=NB444_430.out
              have hnc144:=NB430_444.out
              have ⟨hcz145_0,hcz145_1,hcz145_2,hcz145_3,hcz145_4,hcz145_5,hcz145_6,hcz145_7,hcz145_8,hfz145_0,hfz145_1,hfz145_2,hfz145_3,hfz145_4,hfz145_5,hfz145_6,hfz145_7,hfz145_8⟩:=cz9_ BK444.out
              try go_wp2_with (first | ((with_reducible refine gc_ 22 ?_);refine gl_ (some 70) Try.func22 #[.agg #[.int .i64 t431,.int .i64 t432,.int .i64 t433,.int .i64 t434,.string t435,.int .i64 t436,.slice Ao95 t437.length co95,.slice Ao96 t440.length co96,.int .i64 t443],.int .i64 1] ?_;(with_reducible refine (laws_markMsgOut.calls kj35 t431 t432 t433 t434 t435 t436 (fun k_=>some k_=(.slice Ao95 t437.length co95:Value).ownBlock) (.slice Ao95 t437.length co95) t437 (fun k_=>some k_=(.slice Ao96 t440.length co96:Value).ownBlock) (.slice Ao96 t440.length co96) t440 t443 1 t473 t474 t475 w _ ?s1 ?s2 ?s3 A128.out).mono ?_);(case s1=>repeat (first | (with_reducible first | exact HB.out | apply below_alloc | apply pw_below_drewN | apply below_drew1 | refine below_set ?_ GE375.out | refine below_set ?_ GE376.out | refine below_set ?_ GE410.out | refine below_set ?_ GE423.out | refine below_set ?_ GE430.out | refine below_set ?_ GE444.out) | exact HB.out));(case s2=>exact Kd.R_tight rfl HO_445006.out);(case s3=>exact Kd.R_tight rfl HO_445007.out);rintro e w146 ⟨rfl,hy0,hy1,hb,hkp⟩;refine ⟨_,rfl,?_⟩;refine as15_ (Kd.R_mono (ok':=fun k_=>some k_≠(.slice Ao73 t467.length co73:Value).ownBlock∧some k_≠(.slice Ao79 t470.length co79:Value).ownBlock∧some k_≠(.slice Ao95 t437.length co95:Value).ownBlock) (Kd.R_keptB ((Kd.R_apart' HO_411006.out (Kd.R_typed HO_445007.out) (by decide))) hkp (fun k_ hk_ hs_=>Or.elim hs_ (fun e_=>(hk_.1.2.2) e_) (fun e_=>(hk_.2) e_))) (fun k_ hk_=>⟨hk_.1.1.1,hk_.1.1.2.1,hk_.1.1.2.2⟩)) (Kd.R_mono (ok':=fun k_=>some k_≠(.slice Ao74 t468.length co74:Value).ownBlock∧some k_≠(.slice Ao85 t471.length co85:Value).ownBlock∧some k_≠(.slice Ao96 t440.length co96:Value).ownBlock) (Kd.R_keptB ((Kd.R_apart' HO_411007.out (Kd.R_typed HO_445006.out) (by decide))) hkp (fun k_ hk_ hs_=>Or.elim hs_ (fun e_=>(hk_.2) e_) (fun e_=>(hk_.1.2.2) e_))) (fun k_ hk_=>⟨hk_.1.1.1,hk_.1.1.2.1,hk_.1.1.2.2⟩)) (Kd.R_mono (ok':=fun k_=>some k_≠(.slice Ao60 t403.length co60:Value).ownBlock∧some k_≠(.slice Ao79 t470.length co79:Value).ownBlock∧some k_≠(.slice Ao95 t437.length co95:Value).ownBlock) (Kd.R_keptB ((Kd.R_apart' HO_424006.out (Kd.R_typed HO_445007.out) (by decide))) hkp (fun k_ hk_ hs_=>Or.elim hs_ (fun e_=>(hk_.1.2.2) e_) (fun e_=>(hk_.2) e_))) (fun k_ hk_=>⟨hk_.1.1.1,hk_.1.1.2.1,hk_.1.1.2.2⟩)) (Kd.R_mono (ok':=fun k_=>some k_≠(.slice Ao62 t406.length co62:Value).ownBlock∧some k_≠(.slice Ao85 t471.length co85:Value).ownBlock∧some k_≠(.slice Ao96 t440.length co96:Value).ownBlock) (Kd.R_keptB ((Kd.R_apart' HO_424007.out (Kd.R_typed HO_445006.out) (by decide))) hkp (fun k_ hk_ hs_=>Or.elim hs_ (fun e_=>(hk_.2) e_) (fun e_=>(hk_.1.2.2) e_))) (fun k_ hk_=>⟨hk_.1.1.1,hk_.1.1.2.1,hk_.1.1.2.2⟩)) (Kd.R_mono (ok':=fun k_=>some k_≠(.slice Ao60 t403.length co60:Value).ownBlock∧some k_≠(.slice Ao73 t467.length co73:Value).ownBlock∧some k_≠(.slice Ao95 t437.length co95:Value).ownBlock) (Kd.R_keptB ((Kd.R_apart' HO_431000.out (Kd.R_typed HO_445007.out) (by decide))) hkp (fun k_ hk_ hs_=>Or.elim hs_ (fun e_=>(hk_.1.2.2) e_) (fun e_=>(hk_.2) e_))) (fun k_ hk_=>⟨hk_.1.1.1,hk_.1.1.2.1,hk_.1.1.2.2⟩)) (Kd.R_mono (ok':=fun k_=>some k_≠(.slice Ao62 t406.length co62:Value).ownBlock∧some k_≠(.slice Ao74 t468.length co74:Value).ownBlock∧some k_≠(.slice Ao96 t440.length co96:Value).ownBlock) (Kd.R_keptB ((Kd.R_apart' HO_431001.out (Kd.R_typed HO_445006.out) (by decide))) hkp (fun k_ hk_ hs_=>Or.elim hs_ (fun e_=>(hk_.2) e_) (fun e_=>(hk_.1.2.2) e_))) (fun k_ hk_=>⟨hk_.1.1.1,hk_.1.1.2.1,hk_.1.1.2.2⟩)) (Kd.R_reok rfl hy0 (fun k_ e_=>HO_445006.out.1 k_ e_)) (Kd.R_reok rfl hy1 (fun k_ e_=>HO_445007.out.1 k_ e_)) (blk_kept (z3_ BK375.out) hkp (fun hs_=>Or.elim hs_ (fun e_=>(fun e_=>(Kd.R_ne HO_445006.out BK375.out (by decide)) e_) e_) (fun e_=>(fun e_=>(Kd.R_ne HO_445007.out BK375.out (by decide)) e_) e_))) (blk_kept (z3_ BK376.out) hkp (fun hs_=>Or.elim hs_ (fun e_=>(fun e_=>(Kd.R_ne HO_445006.out BK376.out (by decide)) e_) e_) (fun e_=>(fun e_=>(Kd.R_ne HO_445007.out BK376.out (by decide)) e_) e_))) (blk_kept (z3_ BK410.out) hkp (fun hs_=>Or.elim hs_ (fun e_=>(fun e_=>(Kd.R_ne HO_445006.out BK410.out (by decide)) e_) e_) (fun e_=>(fun e_=>(Kd.R_ne HO_445007.out BK410.out (by decide)) e_) e_))) (blk_kept (z3_ BK423.out) hkp (fun hs_=>Or.elim hs_ (fun e_=>(fun e_=>(Kd.R_ne HO_445006.out BK423.out (by decide)) e_) e_) (fun e_=>(fun e_=>(Kd.R_ne HO_445007.out BK423.out (by decide)) e_) e_))) (blk_kept (z3_ BK430.out) hkp (fun hs_=>Or.elim hs_ (fun e_=>(fun e_=>(Kd.R_ne HO_445006.out BK430.out (by decide)) e_) e_) (fun e_=>(fun e_=>(Kd.R_ne HO_445007.out BK430.out (by decide)) e_) e_))) (blk_kept (z3_ BK444.out) hkp (fun hs_=>Or.elim hs_ (fun e_=>(fun e_=>(Kd.R_ne HO_445006.out BK444.out (by decide)) e_) e_) (fun e_=>(fun e_=>(Kd.R_ne HO_445007.out BK444.out (by decide)) e_) e_))) (hb) ?_;clear HO_411006 HO_411007 HO_424006 HO_424007 HO_431000 HO_431001 HO_445006 HO_445007 BK375 BK376 BK410 BK423 BK430 BK444 HB;intro HO_411006 HO_411007 HO_424006 HO_424007 HO_431000 HO_431001 HO_445006 HO_445007 BK375 BK376 BK410 BK423 BK430 BK444 HB;(try clear hb);(try clear hkp);(try clear hy0);(try clear hy1);have ⟨hcz147_0,hcz147_1,hcz147_2,hcz147_3,hcz147_4,hcz147_5,hcz147_6,hcz147_7,hcz147_8,hfz147_0,hfz147_1,hfz147_2,hfz147_3,hfz147_4,hfz147_5,hfz147_6,hfz147_7,hfz147_8⟩:=cz9_ BK444.out) | ((with_reducible refine gc_ 23 ?_);refine goesL_ (some 73) rfl rfl Try.func23 (by kernel_rfl) rfl #[.agg #[.int .i64 t431,.int .i64 t432,.int .i64 t433,.int .i64 t434,.string t435,.int .i64 t436,.slice Ao95 t474.length co95,.slice Ao96 t475.length co96,.int .i64 t443],.int .i64 1] rfl (by (try simp only [List.map_toArray,List.map_cons,List.map_nil]);first | done | (rw [show t474.length=t437.length from (Kd.R_reads' HO_445006.out).1.symm,show t475.length=t440.length from (Kd.R_reads' HO_445007.out).1.symm] <;> rfl) | rfl | (simp only [List.length_drop,List.length_take];rfl)) ?_;(with_reducible refine (laws_heldMsgOut.calls kj35 t431 t432 t433 t434 t435 t436 _ _ t474 _ _ t475 t443 1 t476 _ ?s1 ?s2 ?s3 ?s4 A129.out).mono ?_);(case s1=>repeat (first | exact (Kd.R_reads' HO_445006.out).2.2 | (with_reducible refine Kd.C_alloc ?_ _) | (with_reducible refine Kd.C_drewN ?_ _) | (with_reducible refine Kd.C_drew ?_)));(case s2=>rw [show t474.length=t437.length from (Kd.R_reads' HO_445006.out).1.symm];exact (Kd.R_reads' HO_445006.out).2.1);(case s3=>repeat (first | exact (Kd.R_reads' HO_445007.out).2.2 | (with_reducible refine Kd.C_alloc ?_ _) | (with_reducible refine Kd.C_drewN ?_ _) | (with_reducible refine Kd.C_drew ?_)));(case s4=>rw [show t475.length=t440.length from (Kd.R_reads' HO_445007.out).1.symm];exact (Kd.R_reads' HO_445007.out).2.1);rintro e w148 ⟨rfl,hb⟩;refine ⟨_,rfl,?_⟩;refine as15_ (Kd.R_below (z0_ HO_411006.out) hb) (Kd.R_below (z0_ HO_411007.out) hb) (Kd.R_below (z0_ HO_424006.out) hb) (Kd.R_below (z0_ HO_424007.out) hb) (Kd.R_below (z0_ HO_431000.out) hb) (Kd.R_below (z0_ HO_431001.out) hb) (Kd.R_below (z0_ HO_445006.out) hb) (Kd.R_below (z0_ HO_445007.out) hb) (blkB_ BK375.out hb) (blkB_ BK376.out hb) (blkB_ BK410.out hb) (blkB_ BK423.out hb) (blkB_ BK430.out hb) (blkB_ BK444.out hb) (below_step (z16_ HB.out GE375.out GE376.out GE410.out GE423.out GE430.out GE444.out) hb) ?_;clear HO_411006 HO_411007 HO_424006 HO_424007 HO_431000 HO_431001 HO_445006 HO_445007 BK375 BK376 BK410 BK423 BK430 BK444 HB;intro HO_411006 HO_411007 HO_424006 HO_424007 HO_431000 HO_431001 HO_445006 HO_445007 BK375 BK376 BK410 BK423 BK430 BK444 HB;(try clear hb)))
              refine as15_ (Kd.R_drew HO_411006.out) (Kd.R_drew HO_411007.out) (Kd.R_drew HO_424006.out) (Kd.R_drew HO_424007.out) (Kd.R_drew HO_431000.out) (Kd.R_drew HO_431001.out) (Kd.R_drew HO_445006.out) (Kd.R_drew HO_445007.out) (blk_drew BK375.out) (blk_drew BK376.out) (blk_drew BK410.out) (blk_drew BK423.out) (blk_drew BK430.out) (blk_drew BK444.out) (below_drew1 HB.out) ?_
              clear HO_411006 HO_411007 HO_424006 HO_424007 HO_431000 HO_431001 HO_445006 HO_445007 BK375 BK376 BK410 BK423 BK430 BK444 HB
              intro HO_411006 HO_411007 HO_424006 HO_424007 HO_431000 HO_431001 HO_445006 HO_445007 BK375 BK376 BK410 BK423 BK430 BK444 HB
              refine start_ (n:=8) (S:=fun w'=>w'.cell? ⟨gb375,0,none⟩=some (.int .i64 a0_0)∧w'.cell? ⟨gb375,1,none⟩=some (.int .i64 a0_1)∧w'.cell? ⟨gb375,2,none⟩=some (.int .i64 a0_2)∧w'.cell? ⟨gb375,3,none⟩=some (.int .i64 a0_3)∧w'.cell? ⟨gb375,4,none⟩=some (.string a0_4)∧w'.cell? ⟨gb375,5,none⟩=some (.int .i64 a0_5)∧w'.cell? ⟨gb375,6,none⟩=some (.slice A0_6 l0_6.length c0_6)∧w'.cell? ⟨gb375,7,none⟩=some (.slice A0_7 l0_7.length c0_7)∧w'.cell? ⟨gb376,0,none⟩=some (.slice A2_0 l2_0.length c2_0)∧w'.cell? ⟨gb376,1,none⟩=some (.slice A2_1 l2_1.length c2_1)) (ds:=[]) #[O,O,O,O,O,O,O,O] (by kernel_rfl) rfl rfl (cj8_ BK375.out (cc2_ BK376.out)) (fun hHeld=>?_);refine with_tabW laws_FnExactMsgTurn.tab31 laws_FnExactMsgTurn.bits31 (fun HT_ HW_=>?_)
              generalize w148.drew=w149 at HO_411006 HO_411007 HO_424006 HO_424007 HO_431000 HO_431001 HO_445006 HO_445007 BK375 BK376 BK410 BK423 BK430 BK444 HB hHeld ⊢
              refine pu_ 2 81 #[O,O,I,O,O,O,O,O] HT_.out ?_
              refine tk10_ 0 79 #[I,O,I,O,O,O,O,O] HT_.out HW_.out hHeld ?_
              refine tk10_ 3 82 #[I,O,I,I,O,O,O,O] HT_.out HW_.out hHeld ?_
              refine join_ (σ:=Value × Value × Value × Value × Value × Value × Nat) 1 #[I,I,I,I,I,I,I,O] (fun s_=>[(80,.agg #[.int .i64 t477,.int .i64 t478,.int .i64 t479,.int .i64 t480,.string t481,.int .i64 t482,s_.1,s_.2.1]),(83,.agg #[s_.2.2.1,s_.2.2.2.1]),(84,.agg #[.int .i64 t495,.int .i64 t496,.int .i64 t497,.int .i64 t498,.string t499,.int .i64 t500,s_.2.2.2.2.1,s_.2.2.2.2.2.1,.int .i64 t507]),(15,.pointer (some ⟨s_.2.2.2.2.2.2,0,none⟩))]) (fun s_ w'=>(w'.cell? ⟨gb375,0,none⟩=some (.int .i64 a0_0)∧w'.cell? ⟨gb375,1,none⟩=some (.int .i64 a0_1)∧w'.cell? ⟨gb375,2,none⟩=some (.int .i64 a0_2)∧w'.cell? ⟨gb375,3,none⟩=some (.int .i64 a0_3)∧w'.cell? ⟨gb375,4,none⟩=some (.string a0_4)∧w'.cell? ⟨gb375,5,none⟩=some (.int .i64 a0_5)∧w'.cell? ⟨gb375,6,none⟩=some (.slice A0_6 l0_6.length c0_6)∧w'.cell? ⟨gb375,7,none⟩=some (.slice A0_7 l0_7.length c0_7)∧w'.cell? ⟨gb376,0,none⟩=some (.slice A2_0 l2_0.length c2_0)∧w'.cell? ⟨gb376,1,none⟩=some (.slice A2_1 l2_1.length c2_1))∧(Kd.R k56 56 w' w.heap.size (fun k_=>some k_≠(s_.2.2.1:Value).ownBlock∧some k_≠(s_.2.2.2.2.1:Value).ownBlock∧some k_≠(.slice Ao60 t403.length co60:Value).ownBlock∧some k_≠(.slice Ao73 t467.length co73:Value).ownBlock∧some k_≠(.slice Ao79 t470.length co79:Value).ownBlock∧some k_≠(.slice Ao95 t437.length co95:Value).ownBlock) s_.1 t483)∧(Kd.R k91 91 w' w.heap.size (fun k_=>some k_≠(s_.2.2.2.1:Value).ownBlock∧some k_≠(s_.2.2.2.2.2.1:Value).ownBlock∧some k_≠(.slice Ao62 t406.length co62:Value).ownBlock∧some k_≠(.slice Ao74 t468.length co74:Value).ownBlock∧some k_≠(.slice Ao85 t471.length co85:Value).ownBlock∧some k_≠(.slice Ao96 t440.length co96:Value).ownBlock) s_.2.1 t486)∧(Kd.R k56 56 w' w.heap.size (fun k_=>some k_≠(s_.1:Value).ownBlock∧some k_≠(s_.2.2.2.2.1:Value).ownBlock∧some k_≠(.slice Ao60 t403.length co60:Value).ownBlock∧some k_≠(.slice Ao73 t467.length co73:Value).ownBlock∧some k_≠(.slice Ao79 t470.length co79:Value).ownBlock∧some k_≠(.slice Ao95 t437.length co95:Value).ownBlock) s_.2.2.1 t489)∧(Kd.R k91 91 w' w.heap.size (fun k_=>some k_≠(s_.2.1:Value).ownBlock∧some k_≠(s_.2.2.2.2.2.1:Value).ownBlock∧some k_≠(.slice Ao62 t406.length co62:Value).ownBlock∧some k_≠(.slice Ao74 t468.length co74:Value).ownBlock∧some k_≠(.slice Ao85 t471.length co85:Value).ownBlock∧some k_≠(.slice Ao96 t440.length co96:Value).ownBlock) s_.2.2.2.1 t492)∧(Kd.R k56 56 w' w.heap.size (fun k_=>some k_≠(s_.1:Value).ownBlock∧some k_≠(s_.2.2.1:Value).ownBlock∧some k_≠(.slice Ao60 t403.length co60:Value).ownBlock∧some k_≠(.slice Ao73 t467.length co73:Value).ownBlock∧some k_≠(.slice Ao79 t470.length co79:Value).ownBlock∧some k_≠(.slice Ao95 t437.length co95:Value).ownBlock) s_.2.2.2.2.1 t501)∧(Kd.R k91 91 w' w.heap.size (fun k_=>some k_≠(s_.2.1:Value).ownBlock∧some k_≠(s_.2.2.2.1:Value).ownBlock∧some k_≠(.slice Ao62 t406.length co62:Value).ownBlock∧some k_≠(.slice Ao74 t468.length co74:Value).ownBlock∧some k_≠(.slice Ao85 t471.length co85:Value).ownBlock∧some k_≠(.slice Ao96 t440.length co96:Value).ownBlock) s_.2.2.2.2.2.1 t504)∧(Kd.R k56 56 w' w.heap.size (fun k_=>some k_≠(s_.1:Value).ownBlock∧some k_≠(s_.2.2.1:Value).ownBlock∧some k_≠(s_.2.2.2.2.1:Value).ownBlock∧some k_≠(.slice Ao73 t467.length co73:Value).ownBlock∧some k_≠(.slice Ao79 t470.length co79:Value).ownBlock∧some k_≠(.slice Ao95 t437.length co95:Value).ownBlock) (.slice Ao60 t403.length co60) t403)∧(Kd.R k91 91 w' w.heap.size (fun k_=>some k_≠(s_.2.1:Value).ownBlock∧some k_≠(s_.2.2.2.1:Value).ownBlock∧some k_≠(s_.2.2.2.2.2.1:Value).ownBlock∧some k_≠(.slice Ao74 t468.length co74:Value).ownBlock∧some k_≠(.slice Ao85 t471.length co85:Value).ownBlock∧some k_≠(.slice Ao96 t440.length co96:Value).ownBlock) (.slice Ao62 t406.length co62) t406)∧(Kd.R k56 56 w' w.heap.size (fun k_=>some k_≠(s_.1:Value).ownBlock∧some k_≠(s_.2.2.1:Value).ownBlock∧some k_≠(s_.2.2.2.2.1:Value).ownBlock∧some k_≠(.slice Ao60 t403.length co60:Value).ownBlock∧some k_≠(.slice Ao79 t470.length co79:Value).ownBlock∧some k_≠(.slice Ao95 t437.length co95:Value).ownBlock) (.slice Ao73 t467.length co73) t467)∧(Kd.R k91 91 w' w.heap.size (fun k_=>some k_≠(s_.2.1:Value).ownBlock∧some k_≠(s_.2.2.2.1:Value).ownBlock∧some k_≠(s_.2.2.2.2.2.1:Value).ownBlock∧some k_≠(.slice Ao62 t406.length co62:Value).ownBlock∧some k_≠(.slice Ao85 t471.length co85:Value).ownBlock∧some k_≠(.slice Ao96 t440.length co96:Value).ownBlock) (.slice Ao74 t468.length co74) t468)∧(Kd.R k56 56 w' w.heap.size (fun k_=>some k_≠(s_.1:Value).ownBlock∧some k_≠(s_.2.2.1:Value).ownBlock∧some k_≠(s_.2.2.2.2.1:Value).ownBlock∧some k_≠(.slice Ao60 t403.length co60:Value).ownBlock∧some k_≠(.slice Ao73 t467.length co73:Value).ownBlock∧some k_≠(.slice Ao95 t437.length co95:Value).ownBlock) (.slice Ao79 t470.length co79) t470)∧(Kd.R k91 91 w' w.heap.size (fun k_=>some k_≠(s_.2.1:Value).ownBlock∧some k_≠(s_.2.2.2.1:Value).ownBlock∧some k_≠(s_.2.2.2.2.2.1:Value).ownBlock∧some k_≠(.slice Ao62 t406.length co62:Value).ownBlock∧some k_≠(.slice Ao74 t468.length co74:Value).ownBlock∧some k_≠(.slice Ao96 t440.length co96:Value).ownBlock) (.slice Ao85 t471.length co85) t471)∧(Kd.R k56 56 w' w.heap.size (fun k_=>some k_≠(s_.1:Value).ownBlock∧some k_≠(s_.2.2.1:Value).ownBlock∧some k_≠(s_.2.2.2.2.1:Value).ownBlock∧some k_≠(.slice Ao60 t403.length co60:Value).ownBlock∧some k_≠(.slice Ao73 t467.length co73:Value).ownBlock∧some k_≠(.slice Ao79 t470.length co79:Value).ownBlock) (.slice Ao95 t437.length co95) t474)∧(Kd.R k91 91 w' w.heap.size (fun k_=>some k_≠(s_.2.1:Value).ownBlock∧some k_≠(s_.2.2.2.1:Value).ownBlock∧some k_≠(s_.2.2.2.2.2.1:Value).ownBlock∧some k_≠(.slice Ao62 t406.length co62:Value).ownBlock∧some k_≠(.slice Ao74 t468.length co74:Value).ownBlock∧some k_≠(.slice Ao85 t471.length co85:Value).ownBlock) (.slice Ao96 t440.length co96) t475)∧(w'.heap[gb375]? = some (.cells #[.int .i64 a0_0,.int .i64 a0_1,.int .i64 a0_2,.int .i64 a0_3,.string a0_4,.int .i64 a0_5,.slice A0_6 l0_6.length c0_6,.slice A0_7 l0_7.length c0_7] 34 (0,0)))∧(w'.heap[gb376]? = some (.cells #[.slice A2_0 l2_0.length c2_0,.slice A2_1 l2_1.length c2_1] 32 (0,0)))∧(w'.heap[gb410]? = some (.cells #[.int .i64 t397,.int .i64 t398,.int .i64 t399,.int .i64 t400,.string t401,.int .i64 t402,.slice Ao60 t403.length co60,.slice Ao62 t406.length co62,.int .i64 t409] 44 (0,0)))∧(w'.heap[gb423]? = some (.cells #[.int .i64 t411,.int .i64 t412,.int .i64 t413,.int .i64 t414,.string t415,.int .i64 t416,.slice Ao73 t467.length co73,.slice Ao74 t468.length co74] 42 (0,0)))∧(w'.heap[gb430]? = some (.cells #[.slice Ao79 t470.length co79,.slice Ao85 t471.length co85] 40 (0,0)))∧(w'.heap[gb444]? = some (.cells #[.int .i64 t431,.int .i64 t432,.int .i64 t433,.int .i64 t434,.string t435,.int .i64 t436,.slice Ao95 t437.length co95,.slice Ao96 t440.length co96,.int .i64 t443] 44 (0,0)))∧(w'.heap[s_.2.2.2.2.2.2]? = some (.cells #[.int .i64 0,.int .i64 0,.int .i64 0,.int .i64 0,.string (⟨#[]⟩:ByteArray),.int .i64 0,.slice none 0 0,.slice none 0 0,.int .i64 0] 44 (0,0)))∧(w.heap.size≤s_.2.2.2.2.2.2)∧(w.heap.size≤s_.2.2.2.2.2.2)∧(gb375≠s_.2.2.2.2.2.2)∧(s_.2.2.2.2.2.2≠gb375)∧(gb376≠s_.2.2.2.2.2.2)∧(s_.2.2.2.2.2.2≠gb376)∧(gb410≠s_.2.2.2.2.2.2)∧(s_.2.2.2.2.2.2≠gb410)∧(gb423≠s_.2.2.2.2.2.2)∧(s_.2.2.2.2.2.2≠gb423)∧(gb430≠s_.2.2.2.2.2.2)∧(s_.2.2.2.2.2.2≠gb430)∧(gb444≠s_.2.2.2.2.2.2)∧(s_.2.2.2.2.2.2≠gb444)∧(Below w.heap.size w w')) ?_ ?_
              rotate_left
              ·intro hCont
               refine o2_ 1 6 80 15 #[I,I,I,I,O,O,O,O] #[I,O,I,I,O,O,I,O] HT_.out (fun K hK=>?_) (fun K hK=>?_)
               ·skip
                refine gs_ Try.func14 #[.agg #[.int .i64 a0_0,.int .i64 a0_1,.int .i64 a0_2,.int .i64 a0_3,.string a0_4,.int .i64 a0_5,.slice A0_6 l0_6.length c0_6,.slice A0_7 l0_7.length c0_7]] ?_
                with_reducible refine (laws_toMsg.calls kj35 a0_0 a0_1 a0_2 a0_3 a0_4 a0_5 _ _ l0_6 _ _ l0_7 t477 t478 t479 t480 t481 t482 t483 t486 _ ?s1 ?s2 ?s3 ?s4 A132.out).mono ?_
                (case s1=>repeat (first | exact (Kd.C_below HR0_6.out HB.out) | (with_reducible refine Kd.C_alloc ?_ _) | (with_reducible refine Kd.C_drewN ?_ _) | (with_reducible refine Kd.C_drew ?_)))
                (case s2=>exact HC0_6.out)
                (case s3=>repeat (first | exact (Kd.C_below HR0_7.out HB.out) | (with_reducible refine Kd.C_alloc ?_ _) | (with_reducible refine Kd.C_drewN ?_ _) | (with_reducible refine Kd.C_drew ?_)))
                (case s4=>exact HC0_7.out)
                rintro e w150 ⟨v484,v487,rfl,ho0,ho1,hb⟩
                refine ⟨_,rfl,?_⟩
                refine as17_ (Kd.R_elder' (z0_ HO_411006.out) (Kd.R_base ho0) hb) (Kd.R_elder' (z0_ HO_411007.out) (Kd.R_base ho1) hb) (Kd.R_elder' (z0_ HO_424006.out) (Kd.R_base ho0) hb) (Kd.R_elder' (z0_ HO_424007.out) (Kd.R_base ho1) hb) (Kd.R_elder' (z0_ HO_431000.out) (Kd.R_base ho0) hb) (Kd.R_elder' (z0_ HO_431001.out) (Kd.R_base ho1) hb) (Kd.R_elder' (z0_ HO_445006.out) (Kd.R_base ho0) hb) (Kd.R_elder' (z0_ HO_445007.out) (Kd.R_base ho1) hb) (Kd.R_lower (Kd.R_new' (Kd.R_new' (Kd.R_new' (Kd.R_new' ho0 (Kd.R_lt (z0_ HO_411006.out))) (Kd.R_lt (z0_ HO_424006.out))) (Kd.R_lt (z0_ HO_431000.out))) (Kd.R_lt (z0_ HO_445006.out))) (below_size (z16_ HB.out GE375.out GE376.out GE410.out GE423.out GE430.out GE444.out))) (Kd.R_lower (Kd.R_new' (Kd.R_new' (Kd.R_new' (Kd.R_new' ho1 (Kd.R_lt (z0_ HO_411007.out))) (Kd.R_lt (z0_ HO_424007.out))) (Kd.R_lt (z0_ HO_431001.out))) (Kd.R_lt (z0_ HO_445007.out))) (below_size (z16_ HB.out GE375.out GE376.out GE410.out GE423.out GE430.out GE444.out))) (blkB_ BK375.out hb) (blkB_ BK376.out hb) (blkB_ BK410.out hb) (blkB_ BK423.out hb) (blkB_ BK430.out hb) (blkB_ BK444.out hb) (below_step (z16_ HB.out GE375.out GE376.out GE410.out GE423.out GE430.out GE444.out) hb) ?_
                clear HO_411006 HO_411007 HO_424006 HO_424007 HO_431000 HO_431001 HO_445006 HO_445007 BK375 BK376 BK410 BK423 BK430 BK444 HB
                intro HO_411006 HO_411007 HO_424006 HO_424007 HO_431000 HO_431001 HO_445006 HO_445007 HO485 HO488 BK375 BK376 BK410 BK423 BK430 BK444 HB
                (try clear hb)
                (try clear hb2)
                (try clear hk)
                (try clear hi)
                (try clear ho0)
                (try clear ho1)
                refine hK.out _ _ (cj8_ BK375.out (cc2_ BK376.out)) (fun hHeld=>?_)
                clear hK K
                refine nm_ 80 ?_
                refine o2_ 4 6 83 15 #[I,I,I,I,I,O,O,O] #[I,I,I,I,O,O,I,O] HT_.out (fun K hK=>?_) (fun K hK=>?_)
                ·skip
                 refine gs_ Try.func15 #[.agg #[.slice A2_0 l2_0.length c2_0,.slice A2_1 l2_1.length c2_1]] ?_
                 with_reducible refine (laws_toSet.calls kj35 _ _ l2_0 _ _ l2_1 t489 t492 _ ?s1 ?s2 ?s3 ?s4 A133.out).mono ?_
                 (case s1=>repeat (first | exact (Kd.C_below HR2_0.out HB.out) | (with_reducible refine Kd.C_alloc ?_ _) | (with_reducible refine Kd.C_drewN ?_ _) | (with_reducible refine Kd.C_drew ?_)))
                 (case s2=>exact HC2_0.out)
                 (case s3=>repeat (first | exact (Kd.C_below HR2_1.out HB.out) | (with_reducible refine Kd.C_alloc ?_ _) | (with_reducible refine Kd.C_drewN ?_ _) | (with_reducible refine Kd.C_drew ?_)))
                 (case s4=>exact HC2_1.out)
                 rintro e w151 ⟨v490,v493,rfl,ho0,ho1,hb⟩
                 refine ⟨_,rfl,?_⟩
                 refine as19_ (Kd.R_elder' (z0_ HO_411006.out) (Kd.R_base ho0) hb) (Kd.R_elder' (z0_ HO_411007.out) (Kd.R_base ho1) hb) (Kd.R_elder' (z0_ HO_424006.out) (Kd.R_base ho0) hb) (Kd.R_elder' (z0_ HO_424007.out) (Kd.R_base ho1) hb) (Kd.R_elder' (z0_ HO_431000.out) (Kd.R_base ho0) hb) (Kd.R_elder' (z0_ HO_431001.out) (Kd.R_base ho1) hb) (Kd.R_elder' (z0_ HO_445006.out) (Kd.R_base ho0) hb) (Kd.R_elder' (z0_ HO_445007.out) (Kd.R_base ho1) hb) (Kd.R_elder' (z0_ HO485.out) (Kd.R_base ho0) hb) (Kd.R_elder' (z0_ HO488.out) (Kd.R_base ho1) hb) (Kd.R_lower (Kd.R_new' (Kd.R_new' (Kd.R_new' (Kd.R_new' (Kd.R_new' ho0 (Kd.R_lt (z0_ HO_411006.out))) (Kd.R_lt (z0_ HO_424006.out))) (Kd.R_lt (z0_ HO_431000.out))) (Kd.R_lt (z0_ HO_445006.out))) (Kd.R_lt (z0_ HO485.out))) (below_size (z16_ HB.out GE375.out GE376.out GE410.out GE423.out GE430.out GE444.out))) (Kd.R_lower (Kd.R_new' (Kd.R_new' (Kd.R_new' (Kd.R_new' (Kd.R_new' ho1 (Kd.R_lt (z0_ HO_411007.out))) (Kd.R_lt (z0_ HO_424007.out))) (Kd.R_lt (z0_ HO_431001.out))) (Kd.R_lt (z0_ HO_445007.out))) (Kd.R_lt (z0_ HO488.out))) (below_size (z16_ HB.out GE375.out GE376.out GE410.out GE423.out GE430.out GE444.out))) (blkB_ BK375.out hb) (blkB_ BK376.out hb) (blkB_ BK410.out hb) (blkB_ BK423.out hb) (blkB_ BK430.out hb) (blkB_ BK444.out hb) (below_step (z16_ HB.out GE375.out GE376.out GE410.out GE423.out GE430.out GE444.out) hb) ?_
                 clear HO_411006 HO_411007 HO_424006 HO_424007 HO_431000 HO_431001 HO_445006 HO_445007 HO485 HO488 BK375 BK376 BK410 BK423 BK430 BK444 HB
                 intro HO_411006 HO_411007 HO_424006 HO_424007 HO_431000 HO_431001 HO_445006 HO_445007 HO485 HO488 HO491 HO494 BK375 BK376 BK410 BK423 BK430 BK444 HB
                 (try clear hb)
                 (try clear hb2)
                 (try clear hk)
                 (try clear hi)
                 (try clear ho0)
                 (try clear ho1)
                 obtain ⟨Ao152,co152,eo152⟩:=Kd.R_slice HO485.out
                 (first | subst eo152 | (injection eo152 with f1_ f2_ f3_;have f4_:=f1_.symm;have f5_:=f3_.symm;clear f1_ f2_ f3_;subst f4_;subst f5_))
                 obtain ⟨Ao153,co153,eo153⟩:=Kd.R_slice HO488.out
                 (first | subst eo153 | (injection eo153 with f1_ f2_ f3_;have f4_:=f1_.symm;have f5_:=f3_.symm;clear f1_ f2_ f3_;subst f4_;subst f5_))
                 obtain ⟨Ao154,co154,eo154⟩:=Kd.R_slice HO491.out
                 (first | subst eo154 | (injection eo154 with f1_ f2_ f3_;have f4_:=f1_.symm;have f5_:=f3_.symm;clear f1_ f2_ f3_;subst f4_;subst f5_))
                 obtain ⟨Ao155,co155,eo155⟩:=Kd.R_slice HO494.out
                 (first | subst eo155 | (injection eo155 with f1_ f2_ f3_;have f4_:=f1_.symm;have f5_:=f3_.symm;clear f1_ f2_ f3_;subst f4_;subst f5_))
                 refine hK.out _ _ (cj8_ BK375.out (cc2_ BK376.out)) (fun hHeld=>?_)
                 clear hK K
                 refine nm_ 83 ?_
                 refine o2_ 5 6 84 15 #[I,I,I,I,I,I,O,O] #[I,I,I,I,I,O,I,O] HT_.out (fun K hK=>?_) (fun K hK=>?_)
                 ·skip
                  refine gs_ Try.func16 #[.agg #[.int .i64 t477,.int .i64 t478,.int .i64 t479,.int .i64 t480,.string t481,.int .i64 t482,.slice Ao152 t483.length co152,.slice Ao153 t486.length co153],.int .i64 a1,.agg #[.slice Ao154 t489.length co154,.slice Ao155 t492.length co155]] ?_
                  with_reducible refine (impl_MsgTurn.calls kj35 t477 t478 t479 t480 t481 t482 _ _ t483 _ _ t486 a1 _ _ t489 _ _ t492 t495 t496 t497 t498 t499 t500 t501 t504 t507 _ ?s1 ?s2 ?s3 ?s4 ?s5 ?s6 ?s7 ?s8 A134.out).mono ?_
                  (case s1=>repeat (first | exact (Kd.R_reads' HO485.out).2.2 | (with_reducible refine Kd.C_alloc ?_ _) | (with_reducible refine Kd.C_drewN ?_ _) | (with_reducible refine Kd.C_drew ?_)))
                  (case s2=>exact (Kd.R_reads' HO485.out).2.1)
                  (case s3=>repeat (first | exact (Kd.R_reads' HO488.out).2.2 | (with_reducible refine Kd.C_alloc ?_ _) | (with_reducible refine Kd.C_drewN ?_ _) | (with_reducible refine Kd.C_drew ?_)))
                  (case s4=>exact (Kd.R_reads' HO488.out).2.1)
                  (case s5=>repeat (first | exact (Kd.R_reads' HO491.out).2.2 | (with_reducible refine Kd.C_alloc ?_ _) | (with_reducible refine Kd.C_drewN ?_ _) | (with_reducible refine Kd.C_drew ?_)))
                  (case s6=>exact (Kd.R_reads' HO491.out).2.1)
                  (case s7=>repeat (first | exact (Kd.R_reads' HO494.out).2.2 | (with_reducible refine Kd.C_alloc ?_ _) | (with_reducible refine Kd.C_drewN ?_ _) | (with_reducible refine Kd.C_drew ?_)))
                  (case s8=>exact (Kd.R_reads' HO494.out).2.1)
                  rintro e w156 ⟨v502,v505,rfl,ho0,ho1,hb⟩
                  refine ⟨_,rfl,?_⟩
                  refine as21_ (Kd.R_elder' (z0_ HO_411006.out) (Kd.R_base ho0) hb) (Kd.R_elder' (z0_ HO_411007.out) (Kd.R_base ho1) hb) (Kd.R_elder' (z0_ HO_424006.out) (Kd.R_base ho0) hb) (Kd.R_elder' (z0_ HO_424007.out) (Kd.R_base ho1) hb) (Kd.R_elder' (z0_ HO_431000.out) (Kd.R_base ho0) hb) (Kd.R_elder' (z0_ HO_431001.out) (Kd.R_base ho1) hb) (Kd.R_elder' (z0_ HO_445006.out) (Kd.R_base ho0) hb) (Kd.R_elder' (z0_ HO_445007.out) (Kd.R_base ho1) hb) (Kd.R_elder' (z0_ HO485.out) (Kd.R_base ho0) hb) (Kd.R_elder' (z0_ HO488.out) (Kd.R_base ho1) hb) (Kd.R_elder' (z0_ HO491.out) (Kd.R_base ho0) hb) (Kd.R_elder' (z0_ HO494.out) (Kd.R_base ho1) hb) (Kd.R_lower (Kd.R_new' (Kd.R_new' (Kd.R_new' (Kd.R_new' (Kd.R_new' (Kd.R_new' ho0 (Kd.R_lt (z0_ HO_411006.out))) (Kd.R_lt (z0_ HO_424006.out))) (Kd.R_lt (z0_ HO_431000.out))) (Kd.R_lt (z0_ HO_445006.out))) (Kd.R_lt (z0_ HO485.out))) (Kd.R_lt (z0_ HO491.out))) (below_size (z16_ HB.out GE375.out GE376.out GE410.out GE423.out GE430.out GE444.out))) (Kd.R_lower (Kd.R_new' (Kd.R_new' (Kd.R_new' (Kd.R_new' (Kd.R_new' (Kd.R_new' ho1 (Kd.R_lt (z0_ HO_411007.out))) (Kd.R_lt (z0_ HO_424007.out))) (Kd.R_lt (z0_ HO_431001.out))) (Kd.R_lt (z0_ HO_445007.out))) (Kd.R_lt (z0_ HO488.out))) (Kd.R_lt (z0_ HO494.out))) (below_size (z16_ HB.out GE375.out GE376.out GE410.out GE423.out GE430.out GE444.out))) (blkB_ BK375.out hb) (blkB_ BK376.out hb) (blkB_ BK410.out hb) (blkB_ BK423.out hb) (blkB_ BK430.out hb) (blkB_ BK444.out hb) (below_step (z16_ HB.out GE375.out GE376.out GE410.out GE423.out GE430.out GE444.out) hb) ?_
                  clear HO_411006 HO_411007 HO_424006 HO_424007 HO_431000 HO_431001 HO_445006 HO_445007 HO485 HO488 HO491 HO494 BK375 BK376 BK410 BK423 BK430 BK444 HB
                  intro HO_411006 HO_411007 HO_424006 HO_424007 HO_431000 HO_431001 HO_445006 HO_445007 HO485 HO488 HO491 HO494 HO503 HO506 BK375 BK376 BK410 BK423 BK430 BK444 HB
                  (try clear hb)
                  (try clear hb2)
                  (try clear hk)
                  (try clear hi)
                  (try clear ho0)
                  (try clear ho1)
                  refine hK.out _ _ (cj8_ BK375.out (cc2_ BK376.out)) (fun hHeld=>?_)
                  clear hK K
                  refine nm_ 84 ?_
                  refine o1_ 6 15 #[I,I,I,I,I,I,I,O] HT_.out (fun K hK=>?_)
                  refine bs_ 15 #[.int .i64 0,.int .i64 0,.int .i64 0,.int .i64 0,.string (⟨#[]⟩:ByteArray),.int .i64 0,.slice none 0 0,.slice none 0 0,.int .i64 0] 44 ?_
                  intro gb508 hg w157 hbox hb
                  refine as36_ (Kd.R_below (z0_ HO_411006.out) hb) (Kd.R_below (z0_ HO_411007.out) hb) (Kd.R_below (z0_ HO_424006.out) hb) (Kd.R_below (z0_ HO_424007.out) hb) (Kd.R_below (z0_ HO_431000.out) hb) (Kd.R_below (z0_ HO_431001.out) hb) (Kd.R_below (z0_ HO_445006.out) hb) (Kd.R_below (z0_ HO_445007.out) hb) (Kd.R_below (z0_ HO485.out) hb) (Kd.R_below (z0_ HO488.out) hb) (Kd.R_below (z0_ HO491.out) hb) (Kd.R_below (z0_ HO494.out) hb) (Kd.R_below (z0_ HO503.out) hb) (Kd.R_below (z0_ HO506.out) hb) (blkB_ BK375.out hb) (blkB_ BK376.out hb) (blkB_ BK410.out hb) (blkB_ BK423.out hb) (blkB_ BK430.out hb) (blkB_ BK444.out hb) (below_step (z16_ HB.out GE375.out GE376.out GE410.out GE423.out GE430.out GE444.out) hb) (hbox) ((z34_ HB.out GE375.out GE376.out GE410.out GE423.out GE430.out GE444.out:w.heap.size≤gb508)) ((z34_ HB.out GE375.out GE376.out GE410.out GE423.out GE430.out GE444.out:w.heap.size≤gb508)) (neL_ BK375.out hg) (neG_ BK375.out hg) (neL_ BK376.out hg) (neG_ BK376.out hg) (neL_ BK410.out hg) (neG_ BK410.out hg) (neL_ BK423.out hg) (neG_ BK423.out hg) (neL_ BK430.out hg) (neG_ BK430.out hg) (neL_ BK444.out hg) (neG_ BK444.out hg) ?_
                  clear HO_411006 HO_411007 HO_424006 HO_424007 HO_431000 HO_431001 HO_445006 HO_445007 HO485 HO488 HO491 HO494 HO503 HO506 BK375 BK376 BK410 BK423 BK430 BK444 HB
                  intro HO_411006 HO_411007 HO_424006 HO_424007 HO_431000 HO_431001 HO_445006 HO_445007 HO485 HO488 HO491 HO494 HO503 HO506 BK375 BK376 BK410 BK423 BK430 BK444 HB BK508 GW508 GE508 NB375_508 NB508_375 NB376_508 NB508_376 NB410_508 NB508_410 NB423_508 NB508_423 NB430_508 NB508_430 NB444_508 NB508_444
                  clear hb hbox hg
                  refine hK.out _ _ (cj8_ BK375.out (cc2_ BK376.out)) (fun hHeld=>?_)
                  clear hK K
                  refine nm_ 15 ?_
                  exact norm_ (z30_) (hCont (.slice Ao152 t483.length co152,.slice Ao153 t486.length co153,.slice Ao154 t489.length co154,.slice Ao155 t492.length co155,v502,v505,gb508) _ ⟨hHeld,(z21_ HO485.out),(z21_ HO488.out),(z21_ HO491.out),(z21_ HO494.out),(z21_ HO503.out),(z21_ HO506.out),(z13_ HO_411006.out),(z13_ HO_411007.out),(z13_ HO_424006.out),(z13_ HO_424007.out),(z13_ HO_431000.out),(z13_ HO_431001.out),(z13_ HO_445006.out),(z13_ HO_445007.out),(z3_ BK375.out),(z3_ BK376.out),(z3_ BK410.out),(z3_ BK423.out),(z3_ BK430.out),(z3_ BK444.out),(z3_ BK508.out),GW508.out,GE508.out,NB375_508.out,NB508_375.out,NB376_508.out,NB508_376.out,NB410_508.out,NB508_410.out,NB423_508.out,NB508_423.out,NB430_508.out,NB508_430.out,NB444_508.out,NB508_444.out,(z17_ HB.out GE375.out GE376.out GE410.out GE423.out GE430.out GE444.out GE508.out)⟩)
                 ·skip
                  refine bs_ 15 #[.int .i64 0,.int .i64 0,.int .i64 0,.int .i64 0,.string (⟨#[]⟩:ByteArray),.int .i64 0,.slice none 0 0,.slice none 0 0,.int .i64 0] 44 ?_
                  intro gb508 hg w152 hbox hb
                  refine as34_ (Kd.R_below (z0_ HO_411006.out) hb) (Kd.R_below (z0_ HO_411007.out) hb) (Kd.R_below (z0_ HO_424006.out) hb) (Kd.R_below (z0_ HO_424007.out) hb) (Kd.R_below (z0_ HO_431000.out) hb) (Kd.R_below (z0_ HO_431001.out) hb) (Kd.R_below (z0_ HO_445006.out) hb) (Kd.R_below (z0_ HO_445007.out) hb) (Kd.R_below (z0_ HO485.out) hb) (Kd.R_below (z0_ HO488.out) hb) (Kd.R_below (z0_ HO491.out) hb) (Kd.R_below (z0_ HO494.out) hb) (blkB_ BK375.out hb) (blkB_ BK376.out hb) (blkB_ BK410.out hb) (blkB_ BK423.out hb) (blkB_ BK430.out hb) (blkB_ BK444.out hb) (below_step (z16_ HB.out GE375.out GE376.out GE410.out GE423.out GE430.out GE444.out) hb) (hbox) ((z34_ HB.out GE375.out GE376.out GE410.out GE423.out GE430.out GE444.out:w.heap.size≤gb508)) ((z34_ HB.out GE375.out GE376.out GE410.out GE423.out GE430.out GE444.out:w.heap.size≤gb508)) (neL_ BK375.out hg) (neG_ BK375.out hg) (neL_ BK376.out hg) (neG_ BK376.out hg) (neL_ BK410.out hg) (neG_ BK410.out hg) (neL_ BK423.out hg) (neG_ BK423.out hg) (neL_ BK430.out hg) (neG_ BK430.out hg) (neL_ BK444.out hg) (neG_ BK444.out hg) ?_
                  clear HO_411006 HO_411007 HO_424006 HO_424007 HO_431000 HO_431001 HO_445006 HO_445007 HO485 HO488 HO491 HO494 BK375 BK376 BK410 BK423 BK430 BK444 HB
                  intro HO_411006 HO_411007 HO_424006 HO_424007 HO_431000 HO_431001 HO_445006 HO_445007 HO485 HO488 HO491 HO494 BK375 BK376 BK410 BK423 BK430 BK444 HB BK508 GW508 GE508 NB375_508 NB508_375 NB376_508 NB508_376 NB410_508 NB508_410 NB423_508 NB508_423 NB430_508 NB508_430 NB444_508 NB508_444
                  clear hb hbox hg
                  obtain ⟨Ao153,co153,eo153⟩:=Kd.R_slice HO485.out
                  (first | subst eo153 | (injection eo153 with f1_ f2_ f3_;have f4_:=f1_.symm;have f5_:=f3_.symm;clear f1_ f2_ f3_;subst f4_;subst f5_))
                  obtain ⟨Ao154,co154,eo154⟩:=Kd.R_slice HO488.out
                  (first | subst eo154 | (injection eo154 with f1_ f2_ f3_;have f4_:=f1_.symm;have f5_:=f3_.symm;clear f1_ f2_ f3_;subst f4_;subst f5_))
                  obtain ⟨Ao155,co155,eo155⟩:=Kd.R_slice HO491.out
                  (first | subst eo155 | (injection eo155 with f1_ f2_ f3_;have f4_:=f1_.symm;have f5_:=f3_.symm;clear f1_ f2_ f3_;subst f4_;subst f5_))
                  obtain ⟨Ao156,co156,eo156⟩:=Kd.R_slice HO494.out
                  (first | subst eo156 | (injection eo156 with f1_ f2_ f3_;have f4_:=f1_.symm;have f5_:=f3_.symm;clear f1_ f2_ f3_;subst f4_;subst f5_))
                  refine hK.out _ _ (cj8_ BK375.out (cc2_ BK376.out)) (fun hHeld=>?_)
                  clear hK K
                  refine nm_ 15 ?_
                  refine o1_ 5 84 #[I,I,I,I,I,I,I,O] HT_.out (fun K hK=>?_)
                  refine gs_ Try.func16 #[.agg #[.int .i64 t477,.int .i64 t478,.int .i64 t479,.int .i64 t480,.string t481,.int .i64 t482,.slice Ao153 t483.length co153,.slice Ao154 t486.length co154],.int .i64 a1,.agg #[.slice Ao155 t489.length co155,.slice Ao156 t492.length co156]] ?_
                  with_reducible refine (impl_MsgTurn.calls kj35 t477 t478 t479 t480 t481 t482 _ _ t483 _ _ t486 a1 _ _ t489 _ _ t492 t495 t496 t497 t498 t499 t500 t501 t504 t507 _ ?s1 ?s2 ?s3 ?s4 ?s5 ?s6 ?s7 ?s8 A134.out).mono ?_
                  (case s1=>repeat (first | exact (Kd.R_reads' HO485.out).2.2 | (with_reducible refine Kd.C_alloc ?_ _) | (with_reducible refine Kd.C_drewN ?_ _) | (with_reducible refine Kd.C_drew ?_)))
                  (case s2=>exact (Kd.R_reads' HO485.out).2.1)
                  (case s3=>repeat (first | exact (Kd.R_reads' HO488.out).2.2 | (with_reducible refine Kd.C_alloc ?_ _) | (with_reducible refine Kd.C_drewN ?_ _) | (with_reducible refine Kd.C_drew ?_)))
                  (case s4=>exact (Kd.R_reads' HO488.out).2.1)
                  (case s5=>repeat (first | exact (Kd.R_reads' HO491.out).2.2 | (with_reducible refine Kd.C_alloc ?_ _) | (with_reducible refine Kd.C_drewN ?_ _) | (with_reducible refine Kd.C_drew ?_)))
                  (case s6=>exact (Kd.R_reads' HO491.out).2.1)
                  (case s7=>repeat (first | exact (Kd.R_reads' HO494.out).2.2 | (with_reducible refine Kd.C_alloc ?_ _) | (with_reducible refine Kd.C_drewN ?_ _) | (with_reducible refine Kd.C_drew ?_)))
                  (case s8=>exact (Kd.R_reads' HO494.out).2.1)
                  rintro e w157 ⟨v502,v505,rfl,ho0,ho1,hb⟩
                  refine ⟨_,rfl,?_⟩
                  refine as22_ (Kd.R_elder' (z0_ HO_411006.out) (Kd.R_base ho0) hb) (Kd.R_elder' (z0_ HO_411007.out) (Kd.R_base ho1) hb) (Kd.R_elder' (z0_ HO_424006.out) (Kd.R_base ho0) hb) (Kd.R_elder' (z0_ HO_424007.out) (Kd.R_base ho1) hb) (Kd.R_elder' (z0_ HO_431000.out) (Kd.R_base ho0) hb) (Kd.R_elder' (z0_ HO_431001.out) (Kd.R_base ho1) hb) (Kd.R_elder' (z0_ HO_445006.out) (Kd.R_base ho0) hb) (Kd.R_elder' (z0_ HO_445007.out) (Kd.R_base ho1) hb) (Kd.R_elder' (z0_ HO485.out) (Kd.R_base ho0) hb) (Kd.R_elder' (z0_ HO488.out) (Kd.R_base ho1) hb) (Kd.R_elder' (z0_ HO491.out) (Kd.R_base ho0) hb) (Kd.R_elder' (z0_ HO494.out) (Kd.R_base ho1) hb) (Kd.R_lower (Kd.R_new' (Kd.R_new' (Kd.R_new' (Kd.R_new' (Kd.R_new' (Kd.R_new' ho0 (Kd.R_lt (z0_ HO_411006.out))) (Kd.R_lt (z0_ HO_424006.out))) (Kd.R_lt (z0_ HO_431000.out))) (Kd.R_lt (z0_ HO_445006.out))) (Kd.R_lt (z0_ HO485.out))) (Kd.R_lt (z0_ HO491.out))) (below_size (z17_ HB.out GE375.out GE376.out GE410.out GE423.out GE430.out GE444.out GE508.out))) (Kd.R_lower (Kd.R_new' (Kd.R_new' (Kd.R_new' (Kd.R_new' (Kd.R_new' (Kd.R_new' ho1 (Kd.R_lt (z0_ HO_411007.out))) (Kd.R_lt (z0_ HO_424007.out))) (Kd.R_lt (z0_ HO_431001.out))) (Kd.R_lt (z0_ HO_445007.out))) (Kd.R_lt (z0_ HO488.out))) (Kd.R_lt (z0_ HO494.out))) (below_size (z17_ HB.out GE375.out GE376.out GE410.out GE423.out GE430.out GE444.out GE508.out))) (blkB_ BK375.out hb) (blkB_ BK376.out hb) (blkB_ BK410.out hb) (blkB_ BK423.out hb) (blkB_ BK430.out hb) (blkB_ BK444.out hb) (blkB_ BK508.out hb) (below_step (z17_ HB.out GE375.out GE376.out GE410.out GE423.out GE430.out GE444.out GE508.out) hb) ?_
                  clear HO_411006 HO_411007 HO_424006 HO_424007 HO_431000 HO_431001 HO_445006 HO_445007 HO485 HO488 HO491 HO494 BK375 BK376 BK410 BK423 BK430 BK444 BK508 HB
                  intro HO_411006 HO_411007 HO_424006 HO_424007 HO_431000 HO_431001 HO_445006 HO_445007 HO485 HO488 HO491 HO494 HO503 HO506 BK375 BK376 BK410 BK423 BK430 BK444 BK508 HB
                  (try clear hb)
                  (try clear hb2)
                  (try clear hk)
                  (try clear hi)
                  (try clear ho0)
                  (try clear ho1)
                  refine hK.out _ _ (cj8_ BK375.out (cc2_ BK376.out)) (fun hHeld=>?_)
                  clear hK K
                  refine nm_ 84 ?_
                  exact norm_ (z30_) (hCont (.slice Ao153 t483.length co153,.slice Ao154 t486.length co154,.slice Ao155 t489.length co155,.slice Ao156 t492.length co156,v502,v505,gb508) _ ⟨hHeld,(z21_ HO485.out),(z21_ HO488.out),(z21_ HO491.out),(z21_ HO494.out),(z21_ HO503.out),(z21_ HO506.out),(z13_ HO_411006.out),(z13_ HO_411007.out),(z13_ HO_424006.out),(z13_ HO_424007.out),(z13_ HO_431000.out),(z13_ HO_431001.out),(z13_ HO_445006.out),(z13_ HO_445007.out),(z3_ BK375.out),(z3_ BK376.out),(z3_ BK410.out),(z3_ BK423.out),(z3_ BK430.out),(z3_ BK444.out),(z3_ BK508.out),GW508.out,GE508.out,NB375_508.out,NB508_375.out,NB376_508.out,NB508_376.out,NB410_508.out,NB508_410.out,NB423_508.out,NB508_423.out,NB430_508.out,NB508_430.out,NB444_508.out,NB508_444.out,(z17_ HB.out GE375.out GE376.out GE410.out GE423.out GE430.out GE444.out GE508.out)⟩)
                ·skip
                 refine bs_ 15 #[.int .i64 0,.int .i64 0,.int .i64 0,.int .i64 0,.string (⟨#[]⟩:ByteArray),.int .i64 0,.slice none 0 0,.slice none 0 0,.int .i64 0] 44 ?_
                 intro gb508 hg w151 hbox hb
                 refine as32_ (Kd.R_below (z0_ HO_411006.out) hb) (Kd.R_below (z0_ HO_411007.out) hb) (Kd.R_below (z0_ HO_424006.out) hb) (Kd.R_below (z0_ HO_424007.out) hb) (Kd.R_below (z0_ HO_431000.out) hb) (Kd.R_below (z0_ HO_431001.out) hb) (Kd.R_below (z0_ HO_445006.out) hb) (Kd.R_below (z0_ HO_445007.out) hb) (Kd.R_below (z0_ HO485.out) hb) (Kd.R_below (z0_ HO488.out) hb) (blkB_ BK375.out hb) (blkB_ BK376.out hb) (blkB_ BK410.out hb) (blkB_ BK423.out hb) (blkB_ BK430.out hb) (blkB_ BK444.out hb) (below_step (z16_ HB.out GE375.out GE376.out GE410.out GE423.out GE430.out GE444.out) hb) (hbox) ((z34_ HB.out GE375.out GE376.out GE410.out GE423.out GE430.out GE444.out:w.heap.size≤gb508)) ((z34_ HB.out GE375.out GE376.out GE410.out GE423.out GE430.out GE444.out:w.heap.size≤gb508)) (neL_ BK375.out hg) (neG_ BK375.out hg) (neL_ BK376.out hg) (neG_ BK376.out hg) (neL_ BK410.out hg) (neG_ BK410.out hg) (neL_ BK423.out hg) (neG_ BK423.out hg) (neL_ BK430.out hg) (neG_ BK430.out hg) (neL_ BK444.out hg) (neG_ BK444.out hg) ?_
                 clear HO_411006 HO_411007 HO_424006 HO_424007 HO_431000 HO_431001 HO_445006 HO_445007 HO485 HO488 BK375 BK376 BK410 BK423 BK430 BK444 HB
                 intro HO_411006 HO_411007 HO_424006 HO_424007 HO_431000 HO_431001 HO_445006 HO_445007 HO485 HO488 BK375 BK376 BK410 BK423 BK430 BK444 HB BK508 GW508 GE508 NB375_508 NB508_375 NB376_508 NB508_376 NB410_508 NB508_410 NB423_508 NB508_423 NB430_508 NB508_430 NB444_508 NB508_444
                 clear hb hbox hg
                 refine hK.out _ _ (cj8_ BK375.out (cc2_ BK376.out)) (fun hHeld=>?_)
                 clear hK K
                 refine nm_ 15 ?_
                 refine o1_ 4 83 #[I,I,I,I,I,O,I,O] HT_.out (fun K hK=>?_)
                 refine gs_ Try.func15 #[.agg #[.slice A2_0 l2_0.length c2_0,.slice A2_1 l2_1.length c2_1]] ?_
                 with_reducible refine (laws_toSet.calls kj35 _ _ l2_0 _ _ l2_1 t489 t492 _ ?s1 ?s2 ?s3 ?s4 A133.out).mono ?_
                 (case s1=>repeat (first | exact (Kd.C_below HR2_0.out HB.out) | (with_reducible refine Kd.C_alloc ?_ _) | (with_reducible refine Kd.C_drewN ?_ _) | (with_reducible refine Kd.C_drew ?_)))
                 (case s2=>exact HC2_0.out)
                 (case s3=>repeat (first | exact (Kd.C_below HR2_1.out HB.out) | (with_reducible refine Kd.C_alloc ?_ _) | (with_reducible refine Kd.C_drewN ?_ _) | (with_reducible refine Kd.C_drew ?_)))
                 (case s4=>exact HC2_1.out)
                 rintro e w152 ⟨v490,v493,rfl,ho0,ho1,hb⟩
                 refine ⟨_,rfl,?_⟩
                 refine as20_ (Kd.R_elder' (z0_ HO_411006.out) (Kd.R_base ho0) hb) (Kd.R_elder' (z0_ HO_411007.out) (Kd.R_base ho1) hb) (Kd.R_elder' (z0_ HO_424006.out) (Kd.R_base ho0) hb) (Kd.R_elder' (z0_ HO_424007.out) (Kd.R_base ho1) hb) (Kd.R_elder' (z0_ HO_431000.out) (Kd.R_base ho0) hb) (Kd.R_elder' (z0_ HO_431001.out) (Kd.R_base ho1) hb) (Kd.R_elder' (z0_ HO_445006.out) (Kd.R_base ho0) hb) (Kd.R_elder' (z0_ HO_445007.out) (Kd.R_base ho1) hb) (Kd.R_elder' (z0_ HO485.out) (Kd.R_base ho0) hb) (Kd.R_elder' (z0_ HO488.out) (Kd.R_base ho1) hb) (Kd.R_lower (Kd.R_new' (Kd.R_new' (Kd.R_new' (Kd.R_new' (Kd.R_new' ho0 (Kd.R_lt (z0_ HO_411006.out))) (Kd.R_lt (z0_ HO_424006.out))) (Kd.R_lt (z0_ HO_431000.out))) (Kd.R_lt (z0_ HO_445006.out))) (Kd.R_lt (z0_ HO485.out))) (below_size (z17_ HB.out GE375.out GE376.out GE410.out GE423.out GE430.out GE444.out GE508.out))) (Kd.R_lower (Kd.R_new' (Kd.R_new' (Kd.R_new' (Kd.R_new' (Kd.R_new' ho1 (Kd.R_lt (z0_ HO_411007.out))) (Kd.R_lt (z0_ HO_424007.out))) (Kd.R_lt (z0_ HO_431001.out))) (Kd.R_lt (z0_ HO_445007.out))) (Kd.R_lt (z0_ HO488.out))) (below_size (z17_ HB.out GE375.out GE376.out GE410.out GE423.out GE430.out GE444.out GE508.out))) (blkB_ BK375.out hb) (blkB_ BK376.out hb) (blkB_ BK410.out hb) (blkB_ BK423.out hb) (blkB_ BK430.out hb) (blkB_ BK444.out hb) (blkB_ BK508.out hb) (below_step (z17_ HB.out GE375.out GE376.out GE410.out GE423.out GE430.out GE444.out GE508.out) hb) ?_
                 clear HO_411006 HO_411007 HO_424006 HO_424007 HO_431000 HO_431001 HO_445006 HO_445007 HO485 HO488 BK375 BK376 BK410 BK423 BK430 BK444 BK508 HB
                 intro HO_411006 HO_411007 HO_424006 HO_424007 HO_431000 HO_431001 HO_445006 HO_445007 HO485 HO488 HO491 HO494 BK375 BK376 BK410 BK423 BK430 BK444 BK508 HB
                 (try clear hb)
                 (try clear hb2)
                 (try clear hk)
                 (try clear hi)
                 (try clear ho0)
                 (try clear ho1)
                 obtain ⟨Ao153,co153,eo153⟩:=Kd.R_slice HO485.out
                 (first | subst eo153 | (injection eo153 with f1_ f2_ f3_;have f4_:=f1_.symm;have f5_:=f3_.symm;clear f1_ f2_ f3_;subst f4_;subst f5_))
                 obtain ⟨Ao154,co154,eo154⟩:=Kd.R_slice HO488.out
                 (first | subst eo154 | (injection eo154 with f1_ f2_ f3_;have f4_:=f1_.symm;have f5_:=f3_.symm;clear f1_ f2_ f3_;subst f4_;subst f5_))
                 obtain ⟨Ao155,co155,eo155⟩:=Kd.R_slice HO491.out
                 (first | subst eo155 | (injection eo155 with f1_ f2_ f3_;have f4_:=f1_.symm;have f5_:=f3_.symm;clear f1_ f2_ f3_;subst f4_;subst f5_))
                 obtain ⟨Ao156,co156,eo156⟩:=Kd.R_slice HO494.out
                 (first | subst eo156 | (injection eo156 with f1_ f2_ f3_;have f4_:=f1_.symm;have f5_:=f3_.symm;clear f1_ f2_ f3_;subst f4_;subst f5_))
                 refine hK.out _ _ (cj8_ BK375.out (cc2_ BK376.out)) (fun hHeld=>?_)
                 clear hK K
                 refine nm_ 83 ?_
                 refine o1_ 5 84 #[I,I,I,I,I,I,I,O] HT_.out (fun K hK=>?_)
                 refine gs_ Try.func16 #[.agg #[.int .i64 t477,.int .i64 t478,.int .i64 t479,.int .i64 t480,.string t481,.int .i64 t482,.slice Ao153 t483.length co153,.slice Ao154 t486.length co154],.int .i64 a1,.agg #[.slice Ao155 t489.length co155,.slice Ao156 t492.length co156]] ?_
                 with_reducible refine (impl_MsgTurn.calls kj35 t477 t478 t479 t480 t481 t482 _ _ t483 _ _ t486 a1 _ _ t489 _ _ t492 t495 t496 t497 t498 t499 t500 t501 t504 t507 _ ?s1 ?s2 ?s3 ?s4 ?s5 ?s6 ?s7 ?s8 A134.out).mono ?_
                 (case s1=>repeat (first | exact (Kd.R_reads' HO485.out).2.2 | (with_reducible refine Kd.C_alloc ?_ _) | (with_reducible refine Kd.C_drewN ?_ _) | (with_reducible refine Kd.C_drew ?_)))
                 (case s2=>exact (Kd.R_reads' HO485.out).2.1)
                 (case s3=>repeat (first | exact (Kd.R_reads' HO488.out).2.2 | (with_reducible refine Kd.C_alloc ?_ _) | (with_reducible refine Kd.C_drewN ?_ _) | (with_reducible refine Kd.C_drew ?_)))
                 (case s4=>exact (Kd.R_reads' HO488.out).2.1)
                 (case s5=>repeat (first | exact (Kd.R_reads' HO491.out).2.2 | (with_reducible refine Kd.C_alloc ?_ _) | (with_reducible refine Kd.C_drewN ?_ _) | (with_reducible refine Kd.C_drew ?_)))
                 (case s6=>exact (Kd.R_reads' HO491.out).2.1)
                 (case s7=>repeat (first | exact (Kd.R_reads' HO494.out).2.2 | (with_reducible refine Kd.C_alloc ?_ _) | (with_reducible refine Kd.C_drewN ?_ _) | (with_reducible refine Kd.C_drew ?_)))
                 (case s8=>exact (Kd.R_reads' HO494.out).2.1)
                 rintro e w157 ⟨v502,v505,rfl,ho0,ho1,hb⟩
                 refine ⟨_,rfl,?_⟩
                 refine as22_ (Kd.R_elder' (z0_ HO_411006.out) (Kd.R_base ho0) hb) (Kd.R_elder' (z0_ HO_411007.out) (Kd.R_base ho1) hb) (Kd.R_elder' (z0_ HO_424006.out) (Kd.R_base ho0) hb) (Kd.R_elder' (z0_ HO_424007.out) (Kd.R_base ho1) hb) (Kd.R_elder' (z0_ HO_431000.out) (Kd.R_base ho0) hb) (Kd.R_elder' (z0_ HO_431001.out) (Kd.R_base ho1) hb) (Kd.R_elder' (z0_ HO_445006.out) (Kd.R_base ho0) hb) (Kd.R_elder' (z0_ HO_445007.out) (Kd.R_base ho1) hb) (Kd.R_elder' (z0_ HO485.out) (Kd.R_base ho0) hb) (Kd.R_elder' (z0_ HO488.out) (Kd.R_base ho1) hb) (Kd.R_elder' (z0_ HO491.out) (Kd.R_base ho0) hb) (Kd.R_elder' (z0_ HO494.out) (Kd.R_base ho1) hb) (Kd.R_lower (Kd.R_new' (Kd.R_new' (Kd.R_new' (Kd.R_new' (Kd.R_new' (Kd.R_new' ho0 (Kd.R_lt (z0_ HO_411006.out))) (Kd.R_lt (z0_ HO_424006.out))) (Kd.R_lt (z0_ HO_431000.out))) (Kd.R_lt (z0_ HO_445006.out))) (Kd.R_lt (z0_ HO485.out))) (Kd.R_lt (z0_ HO491.out))) (below_size (z17_ HB.out GE375.out GE376.out GE410.out GE423.out GE430.out GE444.out GE508.out))) (Kd.R_lower (Kd.R_new' (Kd.R_new' (Kd.R_new' (Kd.R_new' (Kd.R_new' (Kd.R_new' ho1 (Kd.R_lt (z0_ HO_411007.out))) (Kd.R_lt (z0_ HO_424007.out))) (Kd.R_lt (z0_ HO_431001.out))) (Kd.R_lt (z0_ HO_445007.out))) (Kd.R_lt (z0_ HO488.out))) (Kd.R_lt (z0_ HO494.out))) (below_size (z17_ HB.out GE375.out GE376.out GE410.out GE423.out GE430.out GE444.out GE508.out))) (blkB_ BK375.out hb) (blkB_ BK376.out hb) (blkB_ BK410.out hb) (blkB_ BK423.out hb) (blkB_ BK430.out hb) (blkB_ BK444.out hb) (blkB_ BK508.out hb) (below_step (z17_ HB.out GE375.out GE376.out GE410.out GE423.out GE430.out GE444.out GE508.out) hb) ?_
                 clear HO_411006 HO_411007 HO_424006 HO_424007 HO_431000 HO_431001 HO_445006 HO_445007 HO485 HO488 HO491 HO494 BK375 BK376 BK410 BK423 BK430 BK444 BK508 HB
                 intro HO_411006 HO_411007 HO_424006 HO_424007 HO_431000 HO_431001 HO_445006 HO_445007 HO485 HO488 HO491 HO494 HO503 HO506 BK375 BK376 BK410 BK423 BK430 BK444 BK508 HB
                 (try clear hb)
                 (try clear hb2)
                 (try clear hk)
                 (try clear hi)
                 (try clear ho0)
                 (try clear ho1)
                 refine hK.out _ _ (cj8_ BK375.out (cc2_ BK376.out)) (fun hHeld=>?_)
                 clear hK K
                 refine nm_ 84 ?_
                 exact norm_ (z30_) (hCont (.slice Ao153 t483.length co153,.slice Ao154 t486.length co154,.slice Ao155 t489.length co155,.slice Ao156 t492.length co156,v502,v505,gb508) _ ⟨hHeld,(z21_ HO485.out),(z21_ HO488.out),(z21_ HO491.out),(z21_ HO494.out),(z21_ HO503.out),(z21_ HO506.out),(z13_ HO_411006.out),(z13_ HO_411007.out),(z13_ HO_424006.out),(z13_ HO_424007.out),(z13_ HO_431000.out),(z13_ HO_431001.out),(z13_ HO_445006.out),(z13_ HO_445007.out),(z3_ BK375.out),(z3_ BK376.out),(z3_ BK410.out),(z3_ BK423.out),(z3_ BK430.out),(z3_ BK444.out),(z3_ BK508.out),GW508.out,GE508.out,NB375_508.out,NB508_375.out,NB376_508.out,NB508_376.out,NB410_508.out,NB508_410.out,NB423_508.out,NB508_423.out,NB430_508.out,NB508_430.out,NB444_508.out,NB508_444.out,(z17_ HB.out GE375.out GE376.out GE410.out GE423.out GE430.out GE444.out GE508.out)⟩)
               ·skip
                refine bs_ 15 #[.int .i64 0,.int .i64 0,.int .i64 0,.int .i64 0,.string (⟨#[]⟩:ByteArray),.int .i64 0,.slice none 0 0,.slice none 0 0,.int .i64 0] 44 ?_
                intro gb508 hg w150 hbox hb
                refine as30_ (Kd.R_below (z0_ HO_411006.out) hb) (Kd.R_below (z0_ HO_411007.out) hb) (Kd.R_below (z0_ HO_424006.out) hb) (Kd.R_below (z0_ HO_424007.out) hb) (Kd.R_below (z0_ HO_431000.out) hb) (Kd.R_below (z0_ HO_431001.out) hb) (Kd.R_below (z0_ HO_445006.out) hb) (Kd.R_below (z0_ HO_445007.out) hb) (blkB_ BK375.out hb) (blkB_ BK376.out hb) (blkB_ BK410.out hb) (blkB_ BK423.out hb) (blkB_ BK430.out hb) (blkB_ BK444.out hb) (below_step (z16_ HB.out GE375.out GE376.out GE410.out GE423.out GE430.out GE444.out) hb) (hbox) ((z34_ HB.out GE375.out GE376.out GE410.out GE423.out GE430.out GE444.out:w.heap.size≤gb508)) ((z34_ HB.out GE375.out GE376.out GE410.out GE423.out GE430.out GE444.out:w.heap.size≤gb508)) (neL_ BK375.out hg) (neG_ BK375.out hg) (neL_ BK376.out hg) (neG_ BK376.out hg) (neL_ BK410.out hg) (neG_ BK410.out hg) (neL_ BK423.out hg) (neG_ BK423.out hg) (neL_ BK430.out hg) (neG_ BK430.out hg) (neL_ BK444.out hg) (neG_ BK444.out hg) ?_
                clear HO_411006 HO_411007 HO_424006 HO_424007 HO_431000 HO_431001 HO_445006 HO_445007 BK375 BK376 BK410 BK423 BK430 BK444 HB
                intro HO_411006 HO_411007 HO_424006 HO_424007 HO_431000 HO_431001 HO_445006 HO_445007 BK375 BK376 BK410 BK423 BK430 BK444 HB BK508 GW508 GE508 NB375_508 NB508_375 NB376_508 NB508_376 NB410_508 NB508_410 NB423_508 NB508_423 NB430_508 NB508_430 NB444_508 NB508_444
                clear hb hbox hg
                refine hK.out _ _ (cj8_ BK375.out (cc2_ BK376.out)) (fun hHeld=>?_)
                clear hK K
                refine nm_ 15 ?_
                refine o1_ 1 80 #[I,I,I,I,O,O,I,O] HT_.out (fun K hK=>?_)
                refine gs_ Try.func14 #[.agg #[.int .i64 a0_0,.int .i64 a0_1,.int .i64 a0_2,.int .i64 a0_3,.string a0_4,.int .i64 a0_5,.slice A0_6 l0_6.length c0_6,.slice A0_7 l0_7.length c0_7]] ?_
                with_reducible refine (laws_toMsg.calls kj35 a0_0 a0_1 a0_2 a0_3 a0_4 a0_5 _ _ l0_6 _ _ l0_7 t477 t478 t479 t480 t481 t482 t483 t486 _ ?s1 ?s2 ?s3 ?s4 A132.out).mono ?_
                (case s1=>repeat (first | exact (Kd.C_below HR0_6.out HB.out) | (with_reducible refine Kd.C_alloc ?_ _) | (with_reducible refine Kd.C_drewN ?_ _) | (with_reducible refine Kd.C_drew ?_)))
                (case s2=>exact HC0_6.out)
                (case s3=>repeat (first | exact (Kd.C_below HR0_7.out HB.out) | (with_reducible refine Kd.C_alloc ?_ _) | (with_reducible refine Kd.C_drewN ?_ _) | (with_reducible refine Kd.C_drew ?_)))
                (case s4=>exact HC0_7.out)
                rintro e w151 ⟨v484,v487,rfl,ho0,ho1,hb⟩
                refine ⟨_,rfl,?_⟩
                refine as18_ (Kd.R_elder' (z0_ HO_411006.out) (Kd.R_base ho0) hb) (Kd.R_elder' (z0_ HO_411007.out) (Kd.R_base ho1) hb) (Kd.R_elder' (z0_ HO_424006.out) (Kd.R_base ho0) hb) (Kd.R_elder' (z0_ HO_424007.out) (Kd.R_base ho1) hb) (Kd.R_elder' (z0_ HO_431000.out) (Kd.R_base ho0) hb) (Kd.R_elder' (z0_ HO_431001.out) (Kd.R_base ho1) hb) (Kd.R_elder' (z0_ HO_445006.out) (Kd.R_base ho0) hb) (Kd.R_elder' (z0_ HO_445007.out) (Kd.R_base ho1) hb) (Kd.R_lower (Kd.R_new' (Kd.R_new' (Kd.R_new' (Kd.R_new' ho0 (Kd.R_lt (z0_ HO_411006.out))) (Kd.R_lt (z0_ HO_424006.out))) (Kd.R_lt (z0_ HO_431000.out))) (Kd.R_lt (z0_ HO_445006.out))) (below_size (z17_ HB.out GE375.out GE376.out GE410.out GE423.out GE430.out GE444.out GE508.out))) (Kd.R_lower (Kd.R_new' (Kd.R_new' (Kd.R_new' (Kd.R_new' ho1 (Kd.R_lt (z0_ HO_411007.out))) (Kd.R_lt (z0_ HO_424007.out))) (Kd.R_lt (z0_ HO_431001.out))) (Kd.R_lt (z0_ HO_445007.out))) (below_size (z17_ HB.out GE375.out GE376.out GE410.out GE423.out GE430.out GE444.out GE508.out))) (blkB_ BK375.out hb) (blkB_ BK376.out hb) (blkB_ BK410.out hb) (blkB_ BK423.out hb) (blkB_ BK430.out hb) (blkB_ BK444.out hb) (blkB_ BK508.out hb) (below_step (z17_ HB.out GE375.out GE376.out GE410.out GE423.out GE430.out GE444.out GE508.out) hb) ?_
                clear HO_411006 HO_411007 HO_424006 HO_424007 HO_431000 HO_431001 HO_445006 HO_445007 BK375 BK376 BK410 BK423 BK430 BK444 BK508 HB
                intro HO_411006 HO_411007 HO_424006 HO_424007 HO_431000 HO_431001 HO_445006 HO_445007 HO485 HO488 BK375 BK376 BK410 BK423 BK430 BK444 BK508 HB
                (try clear hb)
                (try clear hb2)
                (try clear hk)
                (try clear hi)
                (try clear ho0)
                (try clear ho1)
                refine hK.out _ _ (cj8_ BK375.out (cc2_ BK376.out)) (fun hHeld=>?_)
                clear hK K
                refine nm_ 80 ?_
                refine o1_ 4 83 #[I,I,I,I,I,O,I,O] HT_.out (fun K hK=>?_)
                refine gs_ Try.func15 #[.agg #[.slice A2_0 l2_0.length c2_0,.slice A2_1 l2_1.length c2_1]] ?_
                with_reducible refine (laws_toSet.calls kj35 _ _ l2_0 _ _ l2_1 t489 t492 _ ?s1 ?s2 ?s3 ?s4 A133.out).mono ?_
                (case s1=>repeat (first | exact (Kd.C_below HR2_0.out HB.out) | (with_reducible refine Kd.C_alloc ?_ _) | (with_reducible refine Kd.C_drewN ?_ _) | (with_reducible refine Kd.C_drew ?_)))
                (case s2=>exact HC2_0.out)
                (case s3=>repeat (first | exact (Kd.C_below HR2_1.out HB.out) | (with_reducible refine Kd.C_alloc ?_ _) | (with_reducible refine Kd.C_drewN ?_ _) | (with_reducible refine Kd.C_drew ?_)))
                (case s4=>exact HC2_1.out)
                rintro e w152 ⟨v490,v493,rfl,ho0,ho1,hb⟩
                refine ⟨_,rfl,?_⟩
                refine as20_ (Kd.R_elder' (z0_ HO_411006.out) (Kd.R_base ho0) hb) (Kd.R_elder' (z0_ HO_411007.out) (Kd.R_base ho1) hb) (Kd.R_elder' (z0_ HO_424006.out) (Kd.R_base ho0) hb) (Kd.R_elder' (z0_ HO_424007.out) (Kd.R_base ho1) hb) (Kd.R_elder' (z0_ HO_431000.out) (Kd.R_base ho0) hb) (Kd.R_elder' (z0_ HO_431001.out) (Kd.R_base ho1) hb) (Kd.R_elder' (z0_ HO_445006.out) (Kd.R_base ho0) hb) (Kd.R_elder' (z0_ HO_445007.out) (Kd.R_base ho1) hb) (Kd.R_elder' (z0_ HO485.out) (Kd.R_base ho0) hb) (Kd.R_elder' (z0_ HO488.out) (Kd.R_base ho1) hb) (Kd.R_lower (Kd.R_new' (Kd.R_new' (Kd.R_new' (Kd.R_new' (Kd.R_new' ho0 (Kd.R_lt (z0_ HO_411006.out))) (Kd.R_lt (z0_ HO_424006.out))) (Kd.R_lt (z0_ HO_431000.out))) (Kd.R_lt (z0_ HO_445006.out))) (Kd.R_lt (z0_ HO485.out))) (below_size (z17_ HB.out GE375.out GE376.out GE410.out GE423.out GE430.out GE444.out GE508.out))) (Kd.R_lower (Kd.R_new' (Kd.R_new' (Kd.R_new' (Kd.R_new' (Kd.R_new' ho1 (Kd.R_lt (z0_ HO_411007.out))) (Kd.R_lt (z0_ HO_424007.out))) (Kd.R_lt (z0_ HO_431001.out))) (Kd.R_lt (z0_ HO_445007.out))) (Kd.R_lt (z0_ HO488.out))) (below_size (z17_ HB.out GE375.out GE376.out GE410.out GE423.out GE430.out GE444.out GE508.out))) (blkB_ BK375.out hb) (blkB_ BK376.out hb) (blkB_ BK410.out hb) (blkB_ BK423.out hb) (blkB_ BK430.out hb) (blkB_ BK444.out hb) (blkB_ BK508.out hb) (below_step (z17_ HB.out GE375.out GE376.out GE410.out GE423.out GE430.out GE444.out GE508.out) hb) ?_
                clear HO_411006 HO_411007 HO_424006 HO_424007 HO_431000 HO_431001 HO_445006 HO_445007 HO485 HO488 BK375 BK376 BK410 BK423 BK430 BK444 BK508 HB
                intro HO_411006 HO_411007 HO_424006 HO_424007 HO_431000 HO_431001 HO_445006 HO_445007 HO485 HO488 HO491 HO494 BK375 BK376 BK410 BK423 BK430 BK444 BK508 HB
                (try clear hb)
                (try clear hb2)
                (try clear hk)
                (try clear hi)
                (try clear ho0)
                (try clear ho1)
                obtain ⟨Ao153,co153,eo153⟩:=Kd.R_slice HO485.out
                (first | subst eo153 | (injection eo153 with f1_ f2_ f3_;have f4_:=f1_.symm;have f5_:=f3_.symm;clear f1_ f2_ f3_;subst f4_;subst f5_))
                obtain ⟨Ao154,co154,eo154⟩:=Kd.R_slice HO488.out
                (first | subst eo154 | (injection eo154 with f1_ f2_ f3_;have f4_:=f1_.symm;have f5_:=f3_.symm;clear f1_ f2_ f3_;subst f4_;subst f5_))
                obtain ⟨Ao155,co155,eo155⟩:=Kd.R_slice HO491.out
                (first | subst eo155 | (injection eo155 with f1_ f2_ f3_;have f4_:=f1_.symm;have f5_:=f3_.symm;clear f1_ f2_ f3_;subst f4_;subst f5_))
                obtain ⟨Ao156,co156,eo156⟩:=Kd.R_slice HO494.out
                (first | subst eo156 | (injection eo156 with f1_ f2_ f3_;have f4_:=f1_.symm;have f5_:=f3_.symm;clear f1_ f2_ f3_;subst f4_;subst f5_))
                refine hK.out _ _ (cj8_ BK375.out (cc2_ BK376.out)) (fun hHeld=>?_)
                clear hK K
                refine nm_ 83 ?_
                refine o1_ 5 84 #[I,I,I,I,I,I,I,O] HT_.out (fun K hK=>?_)
                refine gs_ Try.func16 #[.agg #[.int .i64 t477,.int .i64 t478,.int .i64 t479,.int .i64 t480,.string t481,.int .i64 t482,.slice Ao153 t483.length co153,.slice Ao154 t486.length co154],.int .i64 a1,.agg #[.slice Ao155 t489.length co155,.slice Ao156 t492.length co156]] ?_
                with_reducible refine (impl_MsgTurn.calls kj35 t477 t478 t479 t480 t481 t482 _ _ t483 _ _ t486 a1 _ _ t489 _ _ t492 t495 t496 t497 t498 t499 t500 t501 t504 t507 _ ?s1 ?s2 ?s3 ?s4 ?s5 ?s6 ?s7 ?s8 A134.out).mono ?_
                (case s1=>repeat (first | exact (Kd.R_reads' HO485.out).2.2 | (with_reducible refine Kd.C_alloc ?_ _) | (with_reducible refine Kd.C_drewN ?_ _) | (with_reducible refine Kd.C_drew ?_)))
                (case s2=>exact (Kd.R_reads' HO485.out).2.1)
                (case s3=>repeat (first | exact (Kd.R_reads' HO488.out).2.2 | (with_reducible refine Kd.C_alloc ?_ _) | (with_reducible refine Kd.C_drewN ?_ _) | (with_reducible refine Kd.C_drew ?_)))
                (case s4=>exact (Kd.R_reads' HO488.out).2.1)
                (case s5=>repeat (first | exact (Kd.R_reads' HO491.out).2.2 | (with_reducible refine Kd.C_alloc ?_ _) | (with_reducible refine Kd.C_drewN ?_ _) | (with_reducible refine Kd.C_drew ?_)))
                (case s6=>exact (Kd.R_reads' HO491.out).2.1)
                (case s7=>repeat (first | exact (Kd.R_reads' HO494.out).2.2 | (with_reducible refine Kd.C_alloc ?_ _) | (with_reducible refine Kd.C_drewN ?_ _) | (with_reducible refine Kd.C_drew ?_)))
                (case s8=>exact (Kd.R_reads' HO494.out).2.1)
                rintro e w157 ⟨v502,v505,rfl,ho0,ho1,hb⟩
                refine ⟨_,rfl,?_⟩
                refine as22_ (Kd.R_elder' (z0_ HO_411006.out) (Kd.R_base ho0) hb) (Kd.R_elder' (z0_ HO_411007.out) (Kd.R_base ho1) hb) (Kd.R_elder' (z0_ HO_424006.out) (Kd.R_base ho0) hb) (Kd.R_elder' (z0_ HO_424007.out) (Kd.R_base ho1) hb) (Kd.R_elder' (z0_ HO_431000.out) (Kd.R_base ho0) hb) (Kd.R_elder' (z0_ HO_431001.out) (Kd.R_base ho1) hb) (Kd.R_elder' (z0_ HO_445006.out) (Kd.R_base ho0) hb) (Kd.R_elder' (z0_ HO_445007.out) (Kd.R_base ho1) hb) (Kd.R_elder' (z0_ HO485.out) (Kd.R_base ho0) hb) (Kd.R_elder' (z0_ HO488.out) (Kd.R_base ho1) hb) (Kd.R_elder' (z0_ HO491.out) (Kd.R_base ho0) hb) (Kd.R_elder' (z0_ HO494.out) (Kd.R_base ho1) hb) (Kd.R_lower (Kd.R_new' (Kd.R_new' (Kd.R_new' (Kd.R_new' (Kd.R_new' (Kd.R_new' ho0 (Kd.R_lt (z0_ HO_411006.out))) (Kd.R_lt (z0_ HO_424006.out))) (Kd.R_lt (z0_ HO_431000.out))) (Kd.R_lt (z0_ HO_445006.out))) (Kd.R_lt (z0_ HO485.out))) (Kd.R_lt (z0_ HO491.out))) (below_size (z17_ HB.out GE375.out GE376.out GE410.out GE423.out GE430.out GE444.out GE508.out))) (Kd.R_lower (Kd.R_new' (Kd.R_new' (Kd.R_new' (Kd.R_new' (Kd.R_new' (Kd.R_new' ho1 (Kd.R_lt (z0_ HO_411007.out))) (Kd.R_lt (z0_ HO_424007.out))) (Kd.R_lt (z0_ HO_431001.out))) (Kd.R_lt (z0_ HO_445007.out))) (Kd.R_lt (z0_ HO488.out))) (Kd.R_lt (z0_ HO494.out))) (below_size (z17_ HB.out GE375.out GE376.out GE410.out GE423.out GE430.out GE444.out GE508.out))) (blkB_ BK375.out hb) (blkB_ BK376.out hb) (blkB_ BK410.out hb) (blkB_ BK423.out hb) (blkB_ BK430.out hb) (blkB_ BK444.out hb) (blkB_ BK508.out hb) (below_step (z17_ HB.out GE375.out GE376.out GE410.out GE423.out GE430.out GE444.out GE508.out) hb) ?_
                clear HO_411006 HO_411007 HO_424006 HO_424007 HO_431000 HO_431001 HO_445006 HO_445007 HO485 HO488 HO491 HO494 BK375 BK376 BK410 BK423 BK430 BK444 BK508 HB
                intro HO_411006 HO_411007 HO_424006 HO_424007 HO_431000 HO_431001 HO_445006 HO_445007 HO485 HO488 HO491 HO494 HO503 HO506 BK375 BK376 BK410 BK423 BK430 BK444 BK508 HB
                (try clear hb)
                (try clear hb2)
                (try clear hk)
                (try clear hi)
                (try clear ho0)
                (try clear ho1)
                refine hK.out _ _ (cj8_ BK375.out (cc2_ BK376.out)) (fun hHeld=>?_)
                clear hK K
                refine nm_ 84 ?_
                exact norm_ (z30_) (hCont (.slice Ao153 t483.length co153,.slice Ao154 t486.length co154,.slice Ao155 t489.length co155,.slice Ao156 t492.length co156,v502,v505,gb508) _ ⟨hHeld,(z21_ HO485.out),(z21_ HO488.out),(z21_ HO491.out),(z21_ HO494.out),(z21_ HO503.out),(z21_ HO506.out),(z13_ HO_411006.out),(z13_ HO_411007.out),(z13_ HO_424006.out),(z13_ HO_424007.out),(z13_ HO_431000.out),(z13_ HO_431001.out),(z13_ HO_445006.out),(z13_ HO_445007.out),(z3_ BK375.out),(z3_ BK376.out),(z3_ BK410.out),(z3_ BK423.out),(z3_ BK430.out),(z3_ BK444.out),(z3_ BK508.out),GW508.out,GE508.out,NB375_508.out,NB508_375.out,NB376_508.out,NB508_376.out,NB410_508.out,NB508_410.out,NB423_508.out,NB508_423.out,NB430_508.out,NB508_430.out,NB444_508.out,NB508_444.out,(z17_ HB.out GE375.out GE376.out GE410.out GE423.out GE430.out GE444.out GE508.out)⟩)
              rintro ⟨v484,v487,v490,v493,v502,v505,gb508⟩ w158 ⟨hS_,h0_,h1_,h2_,h3_,h4_,h5_,h6_,h7_,h8_,h9_,h10_,h11_,h12_,h13_,h14_,h15_,h16_,h17_,h18_,h19_,h20_,h21_,h22_,h23_,h24_,h25_,h26_,h27_,h28_,h29_,h30_,h31_,h32_,h33_,h34_,h35_⟩
              have n0_:Aside0 (Kd.R k56 56 w158 w.heap.size (fun k_=>some k_≠(v490:Value).ownBlock∧some k_≠(v502:Value).ownBlock∧some k_≠(.slice Ao60 t403.length co60:Value).ownBlock∧some k_≠(.slice Ao73 t467.length co73:Value).ownBlock∧some k_≠(.slice Ao79 t470.length co79:Value).ownBlock∧some k_≠(.slice Ao95 t437.length co95:Value).ownBlock) v484 t483):=⟨h0_⟩
              have n1_:Aside0 (Kd.R k91 91 w158 w.heap.size (fun k_=>some k_≠(v493:Value).ownBlock∧some k_≠(v505:Value).ownBlock∧some k_≠(.slice Ao62 t406.length co62:Value).ownBlock∧some k_≠(.slice Ao74 t468.length co74:Value).ownBlock∧some k_≠(.slice Ao85 t471.length co85:Value).ownBlock∧some k_≠(.slice Ao96 t440.length co96:Value).ownBlock) v487 t486):=⟨h1_⟩
              have n2_:Aside0 (Kd.R k56 56 w158 w.heap.size (fun k_=>some k_≠(v484:Value).ownBlock∧some k_≠(v502:Value).ownBlock∧some k_≠(.slice Ao60 t403.length co60:Value).ownBlock∧some k_≠(.slice Ao73 t467.length co73:Value).ownBlock∧some k_≠(.slice Ao79 t470.length co79:Value).ownBlock∧some k_≠(.slice Ao95 t437.length co95:Value).ownBlock) v490 t489):=⟨h2_⟩
              have n3_:Aside0 (Kd.R k91 91 w158 w.heap.size (fun k_=>some k_≠(v487:Value).ownBlock∧some k_≠(v505:Value).ownBlock∧some k_≠(.slice Ao62 t406.length co62:Value).ownBlock∧some k_≠(.slice Ao74 t468.length co74:Value).ownBlock∧some k_≠(.slice Ao85 t471.length co85:Value).ownBlock∧some k_≠(.slice Ao96 t440.length co96:Value).ownBlock) v493 t492):=⟨h3_⟩
              have n4_:Aside0 (Kd.R k56 56 w158 w.heap.size (fun k_=>some k_≠(v484:Value).ownBlock∧some k_≠(v490:Value).ownBlock∧some k_≠(.slice Ao60 t403.length co60:Value).ownBlock∧some k_≠(.slice Ao73 t467.length co73:Value).ownBlock∧some k_≠(.slice Ao79 t470.length co79:Value).ownBlock∧some k_≠(.slice Ao95 t437.length co95:Value).ownBlock) v502 t501):=⟨h4_⟩
              have n5_:Aside0 (Kd.R k91 91 w158 w.heap.size (fun k_=>some k_≠(v487:Value).ownBlock∧some k_≠(v493:Value).ownBlock∧some k_≠(.slice Ao62 t406.length co62:Value).ownBlock∧some k_≠(.slice Ao74 t468.length co74:Value).ownBlock∧some k_≠(.slice Ao85 t471.length co85:Value).ownBlock∧some k_≠(.slice Ao96 t440.length co96:Value).ownBlock) v505 t504):=⟨h5_⟩
              have n6_:Aside0 (Kd.R k56 56 w158 w.heap.size (fun k_=>some k_≠(v484:Value).ownBlock∧some k_≠(v490:Value).ownBlock∧some k_≠(v502:Value).ownBlock∧some k_≠(.slice Ao73 t467.length co73:Value).ownBlock∧some k_≠(.slice Ao79 t470.length co79:Value).ownBlock∧some k_≠(.slice Ao95 t437.length co95:Value).ownBlock) (.slice Ao60 t403.length co60) t403):=⟨h6_⟩
              have n7_:Aside0 (Kd.R k91 91 w158 w.heap.size (fun k_=>some k_≠(v487:Value).ownBlock∧some k_≠(v493:Value).ownBlock∧some k_≠(v505:Value).ownBlock∧some k_≠(.slice Ao74 t468.length co74:Value).ownBlock∧some k_≠(.slice Ao85 t471.length co85:Value).ownBlock∧some k_≠(.slice Ao96 t440.length co96:Value).ownBlock) (.slice Ao62 t406.length co62) t406):=⟨h7_⟩
              have n8_:Aside0 (Kd.R k56 56 w158 w.heap.size (fun k_=>some k_≠(v484:Value).ownBlock∧some k_≠(v490:Value).ownBlock∧some k_≠(v502:Value).ownBlock∧some k_≠(.slice Ao60 t403.length co60:Value).ownBlock∧some k_≠(.slice Ao79 t470.length co79:Value).ownBlock∧some k_≠(.slice Ao95 t437.length co95:Value).ownBlock) (.slice Ao73 t467.length co73) t467):=⟨h8_⟩
              have n9_:Aside0 (Kd.R k91 91 w158 w.heap.size (fun k_=>some k_≠(v487:Value).ownBlock∧some k_≠(v493:Value).ownBlock∧some k_≠(v505:Value).ownBlock∧some k_≠(.slice Ao62 t406.length co62:Value).ownBlock∧some k_≠(.slice Ao85 t471.length co85:Value).ownBlock∧some k_≠(.slice Ao96 t440.length co96:Value).ownBlock) (.slice Ao74 t468.length co74) t468):=⟨h9_⟩
              have n10_:Aside0 (Kd.R k56 56 w158 w.heap.size (fun k_=>some k_≠(v484:Value).ownBlock∧some k_≠(v490:Value).ownBlock∧some k_≠(v502:Value).ownBlock∧some k_≠(.slice Ao60 t403.length co60:Value).ownBlock∧some k_≠(.slice Ao73 t467.length co73:Value).ownBlock∧some k_≠(.slice Ao95 t437.length co95:Value).ownBlock) (.slice Ao79 t470.length co79) t470):=⟨h10_⟩
              have n11_:Aside0 (Kd.R k91 91 w158 w.heap.size (fun k_=>some k_≠(v487:Value).ownBlock∧some k_≠(v493:Value).ownBlock∧some k_≠(v505:Value).ownBlock∧some k_≠(.slice Ao62 t406.length co62:Value).ownBlock∧some k_≠(.slice Ao74 t468.length co74:Value).ownBlock∧some k_≠(.slice Ao96 t440.length co96:Value).ownBlock) (.slice Ao85 t471.length co85) t471):=⟨h11_⟩
              have n12_:Aside0 (Kd.R k56 56 w158 w.heap.size (fun k_=>some k_≠(v484:Value).ownBlock∧some k_≠(v490:Value).ownBlock∧some k_≠(v502:Value).ownBlock∧some k_≠(.slice Ao60 t403.length co60:Value).ownBlock∧some k_≠(.slice Ao73 t467.length co73:Value).ownBlock∧some k_≠(.slice Ao79 t470.length co79:Value).ownBlock) (.slice Ao95 t437.length co95) t474):=⟨h12_⟩
              have n13_:Aside0 (Kd.R k91 91 w158 w.heap.size (fun k_=>some k_≠(v487:Value).ownBlock∧some k_≠(v493:Value).ownBlock∧some k_≠(v505:Value).ownBlock∧some k_≠(.slice Ao62 t406.length co62:Value).ownBlock∧some k_≠(.slice Ao74 t468.length co74:Value).ownBlock∧some k_≠(.slice Ao85 t471.length co85:Value).ownBlock) (.slice Ao96 t440.length co96) t475):=⟨h13_⟩
              have n14_:Aside0 (w158.heap[gb375]? = some (.cells #[.int .i64 a0_0,.int .i64 a0_1,.int .i64 a0_2,.int .i64 a0_3,.string a0_4,.int .i64 a0_5,.slice A0_6 l0_6.length c0_6,.slice A0_7 l0_7.length c0_7] 34 (0,0))):=⟨h14_⟩
              have n15_:Aside0 (w158.heap[gb376]? = some (.cells #[.slice A2_0 l2_0.length c2_0,.slice A2_1 l2_1.length c2_1] 32 (0,0))):=⟨h15_⟩
              have n16_:Aside0 (w158.heap[gb410]? = some (.cells #[.int .i64 t397,.int .i64 t398,.int .i64 t399,.int .i64 t400,.string t401,.int .i64 t402,.slice Ao60 t403.length co60,.slice Ao62 t406.length co62,.int .i64 t409] 44 (0,0))):=⟨h16_⟩
              have n17_:Aside0 (w158.heap[gb423]? = some (.cells #[.int .i64 t411,.int .i64 t412,.int .i64 t413,.int .i64 t414,.string t415,.int .i64 t416,.slice Ao73 t467.length co73,.slice Ao74 t468.length co74] 42 (0,0))):=⟨h17_⟩
              have n18_:Aside0 (w158.heap[gb430]? = some (.cells #[.slice Ao79 t470.length co79,.slice Ao85 t471.length co85] 40 (0,0))):=⟨h18_⟩
              have n19_:Aside0 (w158.heap[gb444]? = some (.cells #[.int .i64 t431,.int .i64 t432,.int .i64 t433,.int .i64 t434,.string t435,.int .i64 t436,.slice Ao95 t437.length co95,.slice Ao96 t440.length co96,.int .i64 t443] 44 (0,0))):=⟨h19_⟩
              have n20_:Aside0 (w158.heap[gb508]? = some (.cells #[.int .i64 0,.int .i64 0,.int .i64 0,.int .i64 0,.string (⟨#[]⟩:ByteArray),.int .i64 0,.slice none 0 0,.slice none 0 0,.int .i64 0] 44 (0,0))):=⟨h20_⟩
              have n21_:Aside0 (w.heap.size≤gb508):=⟨h21_⟩
              have n22_:Aside0 (w.heap.size≤gb508):=⟨h22_⟩
              have n23_:Aside0 (gb375≠gb508):=⟨h23_⟩
              have n24_:Aside0 (gb508≠gb375):=⟨h24_⟩
              have n25_:Aside0 (gb376≠gb508):=⟨h25_⟩
              have n26_:Aside0 (gb508≠gb376):=⟨h26_⟩
              have n27_:Aside0 (gb410≠gb508):=⟨h27_⟩
              have n28_:Aside0 (gb508≠gb410):=⟨h28_⟩
              have n29_:Aside0 (gb423≠gb508):=⟨h29_⟩
              have n30_:Aside0 (gb508≠gb423):=⟨h30_⟩
              have n31_:Aside0 (gb430≠gb508):=⟨h31_⟩
              have n32_:Aside0 (gb508≠gb430):=⟨h32_⟩
              have n33_:Aside0 (gb444≠gb508):=⟨h33_⟩
              have n34_:Aside0 (gb508≠gb444):=⟨h34_⟩
              have n35_:Aside0 (Below w.heap.size w w158):=⟨h35_⟩
              clear HO_411006
              clear HO_411007
              clear HO_424006
              clear HO_424007
              clear HO_431000
              clear HO_431001
              clear HO_445006
              clear HO_445007
              clear BK375
              clear BK376
              clear BK410
              clear BK423
              clear BK430
              clear BK444
              clear HB
              clear h0_ h1_ h2_ h3_ h4_ h5_ h6_ h7_ h8_ h9_ h10_ h11_ h12_ h13_ h14_ h15_ h16_ h17_ h18_ h19_ h20_ h21_ h22_ h23_ h24_ h25_ h26_ h27_ h28_ h29_ h30_ h31_ h32_ h33_ h34_ h35_
              have HO485:=n0_
              have HO488:=n1_
              have HO491:=n2_
              have HO494:=n3_
              have HO503:=n4_
              have HO506:=n5_
              have HO_411006:=n6_
              have HO_411007:=n7_
              have HO_424006:=n8_
              have HO_424007:=n9_
              have HO_431000:=n10_
              have HO_431001:=n11_
              have HO_445006:=n12_
              have HO_445007:=n13_
              have BK375:=n14_
              have BK376:=n15_
              have BK410:=n16_
              have BK423:=n17_
              have BK430:=n18_
              have BK444:=n19_
              have BK508:=n20_
              have GW508:=n21_
              have GE508:=n22_
              have NB375_508:=n23_
              have NB508_375:=n24_
              have NB376_508:=n25_
              have NB508_376:=n26_
              have NB410_508:=n27_
              have NB508_410:=n28_
              have NB423_508:=n29_
              have NB508_423:=n30_
              have NB430_508:=n31_
              have NB508_430:=n32_
              have NB444_508:=n33_
              have NB508_444:=n34_
              have HB:=n35_
              clear n0_ n1_ n2_ n3_ n4_ n5_ n6_ n7_ n8_ n9_ n10_ n11_ n12_ n13_ n14_ n15_ n16_ n17_ n18_ n19_ n20_ n21_ n22_ n23_ n24_ n25_ n26_ n27_ n28_ n29_ n30_ n31_ n32_ n33_ n34_ n35_
              have hHeld:w158.cell? ⟨gb375,0,none⟩=some (.int .i64 a0_0)∧w158.cell? ⟨gb375,1,none⟩=some (.int .i64 a0_1)∧w158.cell? ⟨gb375,2,none⟩=some (.int .i64 a0_2)∧w158.cell? ⟨gb375,3,none⟩=some (.int .i64 a0_3)∧w158.cell? ⟨gb375,4,none⟩=some (.string a0_4)∧w158.cell? ⟨gb375,5,none⟩=some (.int .i64 a0_5)∧w158.cell? ⟨gb375,6,none⟩=some (.slice A0_6 l0_6.length c0_6)∧w158.cell? ⟨gb375,7,none⟩=some (.slice A0_7 l0_7.length c0_7)∧w158.cell? ⟨gb376,0,none⟩=some (.slice A2_0 l2_0.length c2_0)∧w158.cell? ⟨gb376,1,none⟩=some (.slice A2_1 l2_1.length c2_1):=hS_
              obtain ⟨Ao165,co165,eo165⟩:=Kd.R_slice HO503.out
              (first | subst eo165 | (injection eo165 with f1_ f2_ f3_;have f4_:=f1_.symm;have f5_:=f3_.symm;clear f1_ f2_ f3_;subst f4_;subst f5_))
              obtain ⟨Ao167,co167,eo167⟩:=Kd.R_slice HO506.out
              (first | subst eo167 | (injection eo167 with f1_ f2_ f3_;have f4_:=f1_.symm;have f5_:=f3_.symm;clear f1_ f2_ f3_;subst f4_;subst f5_))
              refine norm_ (a':=?_) ?_ ?_
              rotate_left
              ·simp only [putAll,Act.put,List.setIfInBounds_toArray,List.set_cons_zero,List.set_cons_succ]
               rfl
              refine one_ (i:=7) (N:=none) #[I,I,I,I,I,I,I,I] rfl rfl (one_of HT_.out (by kernel_rfl)) (by decide) (fun K hK=>?_)
              have hs159:w158.cell? ⟨gb508,0,none⟩=some (.int .i64 0):=(blk_cell BK508.out 0).trans rfl
              have hfs159:=blk_frozen BK508.out 0
              have hns159_0:=NB375_508.out
              have hns159_1:=NB376_508.out
              have hns159_2:=NB410_508.out
              have hns159_3:=NB423_508.out
              have hns159_4:=NB430_508.out
              have hns159_5:=NB444_508.out
              have hms159_0:=NB508_375.out
              have hms159_1:=NB508_376.out
              have hms159_2:=NB508_410.out
              have hms159_3:=NB508_423.out
              have hms159_4:=NB508_430.out
              have hms159_5:=NB508_444.out
              have hs160:w158.cell? ⟨gb508,1,none⟩=some (.int .i64 0):=(blk_cell BK508.out 1).trans rfl
              have hfs160:=blk_frozen BK508.out 1
              have hns160_0:=NB375_508.out
              have hns160_1:=NB376_508.out
              have hns160_2:=NB410_508.out
              have hns160_3:=NB423_508.out
              have hns160_4:=NB430_508.out
              have hns160_5:=NB444_508.out
              have hms160_0:=NB508_375.out
              have hms160_1:=NB508_376.out
              have hms160_2:=NB508_410.out
              have hms160_3:=NB508_423.out
              have hms160_4:=NB508_430.out
              have hms160_5:=NB508_444.out
              have hs161:w158.cell? ⟨gb508,2,none⟩=some (.int .i64 0):=(blk_cell BK508.out 2).trans rfl
              have hfs161:=blk_frozen BK508.out 2
              have hns161_0:=NB375_508.out
              have hns161_1:=NB376_508.out
              have hns161_2:=NB410_508.out
              have hns161_3:=NB423_508.out
              have hns161_4:=NB430_508.out
              have hns161_5:=NB444_508.out
              have hms161_0:=NB508_375.out
              have hms161_1:=NB508_376.out
              have hms161_2:=NB508_410.out
              have hms161_3:=NB508_423.out
              have hms161_4:=NB508_430.out
              have hms161_5:=NB508_444.out
              have hs162:w158.cell? ⟨gb508,3,none⟩=some (.int .i64 0):=(blk_cell BK508.out 3).trans rfl
              have hfs162:=blk_frozen BK508.out 3
              have hns162_0:=NB375_508.out
              have hns162_1:=NB376_508.out
              have hns162_2:=NB410_508.out
              have hns162_3:=NB423_508.out
              have hns162_4:=NB430_508.out
              have hns162_5:=NB444_508.out
              have hms162_0:=NB508_375.out
              have hms162_1:=NB508_376.out
              have hms162_2:=NB508_410.out
              have hms162_3:=NB508_423.out
              have hms162_4:=NB508_430.out
              have hms162_5:=NB508_444.out
              have hs163:w158.cell? ⟨gb508,4,none⟩=some (.string (⟨#[]⟩:ByteArray)):=(blk_cell BK508.out 4).trans rfl
              have hfs163:=blk_frozen BK508.out 4
              have hns163_0:=NB375_508.out
              have hns163_1:=NB376_508.out
              have hns163_2:=NB410_508.out
              have hns163_3:=NB423_508.out
              have hns163_4:=NB430_508.out
              have hns163_5:=NB444_508.out
              have hms163_0:=NB508_375.out
              have hms163_1:=NB508_376.out
              have hms163_2:=NB508_410.out
              have hms163_3:=NB508_423.out
              have hms163_4:=NB508_430.out
              have hms163_5:=NB508_444.out
              have hs164:w158.cell? ⟨gb508,5,none⟩=some (.int .i64 0):=(blk_cell BK508.out 5).trans rfl
              have hfs164:=blk_frozen BK508.out 5
              have hns164_0:=NB375_508.out
              have hns164_1:=NB376_508.out
              have hns164_2:=NB410_508.out
              have hns164_3:=NB423_508.out
              have hns164_4:=NB430_508.out
              have hns164_5:=NB444_508.out
              have hms164_0:=NB508_375.out
              have hms164_1:=NB508_376.out
              have hms164_2:=NB508_410.out
              have hms164_3:=NB508_423.out
              have hms164_4:=NB508_430.out
              have hms164_5:=NB508_444.out
              have hs166:w158.cell? ⟨gb508,6,none⟩=some (.slice none 0 0):=(blk_cell BK508.out 6).trans rfl
              have hfs166:=blk_frozen BK508.out 6
              have hns166_0:=NB375_508.out
              have hns166_1:=NB376_508.out
              have hns166_2:=NB410_508.out
              have hns166_3:=NB423_508.out
              have hns166_4:=NB430_508.out
              have hns166_5:=NB444_508.out
              have hms166_0:=NB508_375.out
              have hms166_1:=NB508_376.out
              have hms166_2:=NB508_410.out
              have hms166_3:=NB508_423.out
              have hms166_4:=NB508_430.out
              have hms166_5:=NB508_444.out
              have hs168:w158.cell? ⟨gb508,7,none⟩=some (.slice none 0 0):=(blk_cell BK508.out 7).trans rfl
              have hfs168:=blk_frozen BK508.out 7
              have hns168_0:=NB375_508.out
              have hns168_1:=NB376_508.out
              have hns168_2:=NB410_508.out
              have hns168_3:=NB423_508.out
              have hns168_4:=NB430_508.out
              have hns168_5:=NB444_508.out
              have hms168_0:=NB508_375.out
              have hms168_1:=NB508_376.out
              have hms168_2:=NB508_410.out
              have hms168_3:=NB508_423.out
              have hms168_4:=NB508_430.out
              have hms168_5:=NB508_444.out
              have hs169:w158.cell? ⟨gb508,8,none⟩=some (.int .i64 0):=(blk_cell BK508.out 8).trans rfl
              have hfs169:=blk_frozen BK508.out 8
              have hns169_0:=NB375_508.out
              have hns169_1:=NB376_508.out
              have hns169_2:=NB410_508.out
              have hns169_3:=NB423_508.out
              have hns169_4:=NB430_508.out
              have hns169_5:=NB444_508.out
              have hms169_0:=NB508_375.out
              have hms169_1:=NB508_376.out
              have hms169_2:=NB508_410.out
              have hms169_3:=NB508_423.out
              have hms169_4:=NB508_430.out
              have hms169_5:=NB508_444.out
              refine skip_ (w1:=?_) (by rfl) rfl ?_ ?_
              rotate_left
              ·go_simp
               rfl
              refine hK.out _ _ ⟨((cell_far (p:=⟨gb508,_,none⟩) NB375_508.out _).trans (((cell_far (p:=⟨gb508,_,none⟩) NB375_508.out _).trans (((cell_far (p:=⟨gb508,_,none⟩) NB375_508.out _).trans (((cell_far (p:=⟨gb508,_,none⟩) NB375_508.out _).trans (((cell_far (p:=⟨gb508,_,none⟩) NB375_508.out _).trans (((cell_far (p:=⟨gb508,_,none⟩) NB375_508.out _).trans (((cell_far (p:=⟨gb508,_,none⟩) NB375_508.out _).trans (((cell_far (p:=⟨gb508,_,none⟩) NB375_508.out _).trans (((cell_far (p:=⟨gb508,_,none⟩) NB375_508.out _).trans (hHeld.1)))))))))))))))))),((cell_far (p:=⟨gb508,_,none⟩) NB375_508.out _).trans (((cell_far (p:=⟨gb508,_,none⟩) NB375_508.out _).trans (((cell_far (p:=⟨gb508,_,none⟩) NB375_508.out _).trans (((cell_far (p:=⟨gb508,_,none⟩) NB375_508.out _).trans (((cell_far (p:=⟨gb508,_,none⟩) NB375_508.out _).trans (((cell_far (p:=⟨gb508,_,none⟩) NB375_508.out _).trans (((cell_far (p:=⟨gb508,_,none⟩) NB375_508.out _).trans (((cell_far (p:=⟨gb508,_,none⟩) NB375_508.out _).trans (((cell_far (p:=⟨gb508,_,none⟩) NB375_508.out _).trans (hHeld.2.1)))))))))))))))))),((cell_far (p:=⟨gb508,_,none⟩) NB375_508.out _).trans (((cell_far (p:=⟨gb508,_,none⟩) NB375_508.out _).trans (((cell_far (p:=⟨gb508,_,none⟩) NB375_508.out _).trans (((cell_far (p:=⟨gb508,_,none⟩) NB375_508.out _).trans (((cell_far (p:=⟨gb508,_,none⟩) NB375_508.out _).trans (((cell_far (p:=⟨gb508,_,none⟩) NB375_508.out _).trans (((cell_far (p:=⟨gb508,_,none⟩) NB375_508.out _).trans (((cell_far (p:=⟨gb508,_,none⟩) NB375_508.out _).trans (((cell_far (p:=⟨gb508,_,none⟩) NB375_508.out _).trans (hHeld.2.2.1)))))))))))))))))),((cell_far (p:=⟨gb508,_,none⟩) NB375_508.out _).trans (((cell_far (p:=⟨gb508,_,none⟩) NB375_508.out _).trans (((cell_far (p:=⟨gb508,_,none⟩) NB375_508.out _).trans (((cell_far (p:=⟨gb508,_,none⟩) NB375_508.out _).trans (((cell_far (p:=⟨gb508,_,none⟩) NB375_508.out _).trans (((cell_far (p:=⟨gb508,_,none⟩) NB375_508.out _).trans (((cell_far (p:=⟨gb508,_,none⟩) NB375_508.out _).trans (((cell_far (p:=⟨gb508,_,none⟩) NB375_508.out _).trans (((cell_far (p:=⟨gb508,_,none⟩) NB375_508.out _).trans (hHeld.2.2.2.1)))))))))))))))))),((cell_far (p:=⟨gb508,_,none⟩) NB375_508.out _).trans (((cell_far (p:=⟨gb508,_,none⟩) NB375_508.out _).trans (((cell_far (p:=⟨gb508,_,none⟩) NB375_508.out _).trans (((cell_far (p:=⟨gb508,_,none⟩) NB375_508.out _).trans (((cell_far (p:=⟨gb508,_,none⟩) NB375_508.out _).trans (((cell_far (p:=⟨gb508,_,none⟩) NB375_508.out _).trans (((cell_far (p:=⟨gb508,_,none⟩) NB375_508.out _).trans (((cell_far (p:=⟨gb508,_,none⟩) NB375_508.out _).trans (((cell_far (p:=⟨gb508,_,none⟩) NB375_508.out _).trans (hHeld.2.2.2.2.1)))))))))))))))))),((cell_far (p:=⟨gb508,_,none⟩) NB375_508.out _).trans (((cell_far (p:=⟨gb508,_,none⟩) NB375_508.out _).trans (((cell_far (p:=⟨gb508,_,none⟩) NB375_508.out _).trans (((cell_far (p:=⟨gb508,_,none⟩) NB375_508.out _).trans (((cell_far (p:=⟨gb508,_,none⟩) NB375_508.out _).trans (((cell_far (p:=⟨gb508,_,none⟩) NB375_508.out _).trans (((cell_far (p:=⟨gb508,_,none⟩) NB375_508.out _).trans (((cell_far (p:=⟨gb508,_,none⟩) NB375_508.out _).trans (((cell_far (p:=⟨gb508,_,none⟩) NB375_508.out _).trans (hHeld.2.2.2.2.2.1)))))))))))))))))),((cell_far (p:=⟨gb508,_,none⟩) NB375_508.out _).trans (((cell_far (p:=⟨gb508,_,none⟩) NB375_508.out _).trans (((cell_far (p:=⟨gb508,_,none⟩) NB375_508.out _).trans (((cell_far (p:=⟨gb508,_,none⟩) NB375_508.out _).trans (((cell_far (p:=⟨gb508,_,none⟩) NB375_508.out _).trans (((cell_far (p:=⟨gb508,_,none⟩) NB375_508.out _).trans (((cell_far (p:=⟨gb508,_,none⟩) NB375_508.out _).trans (((cell_far (p:=⟨gb508,_,none⟩) NB375_508.out _).trans (((cell_far (p:=⟨gb508,_,none⟩) NB375_508.out _).trans (hHeld.2.2.2.2.2.2.1)))))))))))))))))),((cell_far (p:=⟨gb508,_,none⟩) NB375_508.out _).trans (((cell_far (p:=⟨gb508,_,none⟩) NB375_508.out _).trans (((cell_far (p:=⟨gb508,_,none⟩) NB375_508.out _).trans (((cell_far (p:=⟨gb508,_,none⟩) NB375_508.out _).trans (((cell_far (p:=⟨gb508,_,none⟩) NB375_508.out _).trans (((cell_far (p:=⟨gb508,_,none⟩) NB375_508.out _).trans (((cell_far (p:=⟨gb508,_,none⟩) NB375_508.out _).trans (((cell_far (p:=⟨gb508,_,none⟩) NB375_508.out _).trans (((cell_far (p:=⟨gb508,_,none⟩) NB375_508.out _).trans (hHeld.2.2.2.2.2.2.2.1)))))))))))))))))),((cell_far (p:=⟨gb508,_,none⟩) NB376_508.out _).trans (((cell_far (p:=⟨gb508,_,none⟩) NB376_508.out _).trans (((cell_far (p:=⟨gb508,_,none⟩) NB376_508.out _).trans (((cell_far (p:=⟨gb508,_,none⟩) NB376_508.out _).trans (((cell_far (p:=⟨gb508,_,none⟩) NB376_508.out _).trans (((cell_far (p:=⟨gb508,_,none⟩) NB376_508.out _).trans (((cell_far (p:=⟨gb508,_,none⟩) NB376_508.out _).trans (((cell_far (p:=⟨gb508,_,none⟩) NB376_508.out _).trans (((cell_far (p:=⟨gb508,_,none⟩) NB376_508.out _).trans (hHeld.2.2.2.2.2.2.2.2.1)))))))))))))))))),((cell_far (p:=⟨gb508,_,none⟩) NB376_508.out _).trans (((cell_far (p:=⟨gb508,_,none⟩) NB376_508.out _).trans (((cell_far (p:=⟨gb508,_,none⟩) NB376_508.out _).trans (((cell_far (p:=⟨gb508,_,none⟩) NB376_508.out _).trans (((cell_far (p:=⟨gb508,_,none⟩) NB376_508.out _).trans (((cell_far (p:=⟨gb508,_,none⟩) NB376_508.out _).trans (((cell_far (p:=⟨gb508,_,none⟩) NB376_508.out _).trans (((cell_far (p:=⟨gb508,_,none⟩) NB376_508.out _).trans (((cell_far (p:=⟨gb508,_,none⟩) NB376_508.out _).trans (hHeld.2.2.2.2.2.2.2.2.2))))))))))))))))))⟩ (fun hHeld=>?_)
              clear hK K
              refine done_ (done_of HT_.out (by kernel_rfl)) ?_
              have hnb170:=NB508_375.out
              have hnc170:=NB375_508.out
              have hnb171:=NB508_376.out
              have hnc171:=NB376_508.out
              have hnb172:=NB508_410.out
              have hnc172:=NB410_508.out
              have hnb173:=NB508_423.out
              have hnc173:=NB423_508.out
              have hnb174:=NB508_430.out
              have hnc174:=NB430_508.out
              have hnb175:=NB508_444.out
              have hnc175:=NB444_508.out
              have ⟨hcz176_0,hcz176_1,hcz176_2,hcz176_3,hcz176_4,hcz176_5,hcz176_6,hcz176_7,hcz176_8,hfz176_0,hfz176_1,hfz176_2,hfz176_3,hfz176_4,hfz176_5,hfz176_6,hfz176_7,hfz176_8⟩:=cz9_ BK508.out
              have hnb177:=NB410_375.out
              have hnc177:=NB375_410.out
              have hnb178:=NB410_376.out
              have hnc178:=NB376_410.out
              have hnb179:=NB410_423.out
              have hnc179:=NB423_410.out
              have hnb180:=NB410_430.out
              have hnc180:=NB430_410.out
              have ⟨hcz181_0,hcz181_1,hcz181_2,hcz181_3,hcz181_4,hcz181_5,hcz181_6,hcz181_7,hcz181_8,hfz181_0,hfz181_1,hfz181_2,hfz181_3,hfz181_4,hfz181_5,hfz181_6,hfz181_7,hfz181_8⟩:=cz9_ BK410.out
              try go_wp2_with (first | ((with_reducible refine gc_ 17 ?_);refine gl_ (some 87) Try.func17 #[.agg #[.int .i64 t495,.int .i64 t496,.int .i64 t497,.int .i64 t498,.string t499,.int .i64 t500,.slice Ao165 t501.length co165,.slice Ao167 t504.length co167,.int .i64 t507],.agg #[.int .i64 t397,.int .i64 t398,.int .i64 t399,.int .i64 t400,.string t401,.int .i64 t402,.slice Ao60 t403.length co60,.slice Ao62 t406.length co62,.int .i64 t409]] ?_;(with_reducible refine (laws_eqMsgOut.calls kj35 t495 t496 t497 t498 t499 t500 _ _ t501 _ _ t504 t507 t397 t398 t399 t400 t401 t402 _ _ t403 _ _ t406 t409 true _ ?s1 ?s2 ?s3 ?s4 ?s5 ?s6 ?s7 ?s8 A135.out).mono ?_);(case s1=>refine (Kd.R_reads' (e:=56) (base:=w.heap.size) (ok:=fun k_=>(some k_≠(v484:Value).ownBlock∧(some k_≠(v490:Value).ownBlock∧(some k_≠(.slice Ao60 t403.length co60:Value).ownBlock∧(some k_≠(.slice Ao73 t467.length co73:Value).ownBlock∧(some k_≠(.slice Ao79 t470.length co79:Value).ownBlock∧some k_≠(.slice Ao95 t437.length co95:Value).ownBlock)))))) (n:=t501.length) (c:=co165) ?_).2.2;exact (z12_ HO503.out BK508.out));(case s2=>exact (Kd.R_reads' HO503.out).2.1);(case s3=>refine (Kd.R_reads' (e:=91) (base:=w.heap.size) (ok:=fun k_=>(some k_≠(v487:Value).ownBlock∧(some k_≠(v493:Value).ownBlock∧(some k_≠(.slice Ao62 t406.length co62:Value).ownBlock∧(some k_≠(.slice Ao74 t468.length co74:Value).ownBlock∧(some k_≠(.slice Ao85 t471.length co85:Value).ownBlock∧some k_≠(.slice Ao96 t440.length co96:Value).ownBlock)))))) (n:=t504.length) (c:=co167) ?_).2.2;exact (z12_ HO506.out BK508.out));(case s4=>exact (Kd.R_reads' HO506.out).2.1);(case s5=>refine (Kd.R_reads' (e:=56) (base:=w.heap.size) (ok:=fun k_=>(some k_≠(v484:Value).ownBlock∧(some k_≠(v490:Value).ownBlock∧(some k_≠(.slice Ao165 t501.length co165:Value).ownBlock∧(some k_≠(.slice Ao73 t467.length co73:Value).ownBlock∧(some k_≠(.slice Ao79 t470.length co79:Value).ownBlock∧some k_≠(.slice Ao95 t437.length co95:Value).ownBlock)))))) (n:=t403.length) (c:=co60) ?_).2.2;exact (z12_ HO_411006.out BK508.out));(case s6=>exact (Kd.R_reads' HO_411006.out).2.1);(case s7=>refine (Kd.R_reads' (e:=91) (base:=w.heap.size) (ok:=fun k_=>(some k_≠(v487:Value).ownBlock∧(some k_≠(v493:Value).ownBlock∧(some k_≠(.slice Ao167 t504.length co167:Value).ownBlock∧(some k_≠(.slice Ao74 t468.length co74:Value).ownBlock∧(some k_≠(.slice Ao85 t471.length co85:Value).ownBlock∧some k_≠(.slice Ao96 t440.length co96:Value).ownBlock)))))) (n:=t406.length) (c:=co62) ?_).2.2;exact (z12_ HO_411007.out BK508.out));(case s8=>exact (Kd.R_reads' HO_411007.out).2.1);rintro e w182 ⟨rfl,hb⟩;refine ⟨_,rfl,?_⟩;refine as22_ (Kd.R_below (z12_ HO_411006.out BK508.out) hb) (Kd.R_below (z12_ HO_411007.out BK508.out) hb) (Kd.R_below (z12_ HO_424006.out BK508.out) hb) (Kd.R_below (z12_ HO_424007.out BK508.out) hb) (Kd.R_below (z12_ HO_431000.out BK508.out) hb) (Kd.R_below (z12_ HO_431001.out BK508.out) hb) (Kd.R_below (z12_ HO_445006.out BK508.out) hb) (Kd.R_below (z12_ HO_445007.out BK508.out) hb) (Kd.R_below (z12_ HO485.out BK508.out) hb) (Kd.R_below (z12_ HO488.out BK508.out) hb) (Kd.R_below (z12_ HO491.out BK508.out) hb) (Kd.R_below (z12_ HO494.out BK508.out) hb) (Kd.R_below (z12_ HO503.out BK508.out) hb) (Kd.R_below (z12_ HO506.out BK508.out) hb) (blk_below (g:=gb375) (o:=.cells #[.int .i64 a0_0,.int .i64 a0_1,.int .i64 a0_2,.int .i64 a0_3,.string a0_4,.int .i64 a0_5,.slice A0_6 l0_6.length c0_6,.slice A0_7 l0_7.length c0_7] 34 (0,0)) (z28_ NB375_508.out BK375.out) hb) (blk_below (g:=gb376) (o:=.cells #[.slice A2_0 l2_0.length c2_0,.slice A2_1 l2_1.length c2_1] 32 (0,0)) (z28_ NB376_508.out BK376.out) hb) (blk_below (g:=gb410) (o:=.cells #[.int .i64 t397,.int .i64 t398,.int .i64 t399,.int .i64 t400,.string t401,.int .i64 t402,.slice Ao60 t403.length co60,.slice Ao62 t406.length co62,.int .i64 t409] 44 (0,0)) (z28_ NB410_508.out BK410.out) hb) (blk_below (g:=gb423) (o:=.cells #[.int .i64 t411,.int .i64 t412,.int .i64 t413,.int .i64 t414,.string t415,.int .i64 t416,.slice Ao73 t467.length co73,.slice Ao74 t468.length co74] 42 (0,0)) (z28_ NB423_508.out BK423.out) hb) (blk_below (g:=gb430) (o:=.cells #[.slice Ao79 t470.length co79,.slice Ao85 t471.length co85] 40 (0,0)) (z28_ NB430_508.out BK430.out) hb) (blk_below (g:=gb444) (o:=.cells #[.int .i64 t431,.int .i64 t432,.int .i64 t433,.int .i64 t434,.string t435,.int .i64 t436,.slice Ao95 t437.length co95,.slice Ao96 t440.length co96,.int .i64 t443] 44 (0,0)) (z28_ NB444_508.out BK444.out) hb) (blk_below (g:=gb508) (o:=.cells #[.int .i64 t495,.int .i64 t496,.int .i64 t497,.int .i64 t498,.string t499,.int .i64 t500,.slice Ao165 t501.length co165,.slice Ao167 t504.length co167,.int .i64 t507] 44 (0,0)) (z32_ BK508.out) hb) (below_step (z17_ HB.out GE375.out GE376.out GE410.out GE423.out GE430.out GE444.out GE508.out) hb) ?_;clear HO_411006 HO_411007 HO_424006 HO_424007 HO_431000 HO_431001 HO_445006 HO_445007 HO485 HO488 HO491 HO494 HO503 HO506 BK375 BK376 BK410 BK423 BK430 BK444 BK508 HB;intro HO_411006 HO_411007 HO_424006 HO_424007 HO_431000 HO_431001 HO_445006 HO_445007 HO485 HO488 HO491 HO494 HO503 HO506 BK375 BK376 BK410 BK423 BK430 BK444 BK508 HB;(try clear hb);(try clear hb2);(try clear hk);(try clear hi);have ⟨hcz183_0,hcz183_1,hcz183_2,hcz183_3,hcz183_4,hcz183_5,hcz183_6,hcz183_7,hcz183_8,hfz183_0,hfz183_1,hfz183_2,hfz183_3,hfz183_4,hfz183_5,hfz183_6,hfz183_7,hfz183_8⟩:=cz9_ BK444.out) | ((with_reducible refine gc_ 23 ?_);refine goesL_ (some 91) rfl rfl Try.func23 (by kernel_rfl) rfl #[.agg #[.int .i64 t431,.int .i64 t432,.int .i64 t433,.int .i64 t434,.string t435,.int .i64 t436,.slice Ao95 t474.length co95,.slice Ao96 t475.length co96,.int .i64 t443],.int .i64 1] rfl (by (try simp only [List.map_toArray,List.map_cons,List.map_nil]);first | done | (rw [show t474.length=t437.length from (Kd.R_reads' HO_445006.out).1.symm,show t475.length=t440.length from (Kd.R_reads' HO_445007.out).1.symm] <;> rfl) | rfl | (simp only [List.length_drop,List.length_take];rfl)) ?_;(with_reducible refine (laws_heldMsgOut.calls kj35 t431 t432 t433 t434 t435 t436 _ _ t474 _ _ t475 t443 1 t510 _ ?s1 ?s2 ?s3 ?s4 A137.out).mono ?_);(case s1=>repeat (first | exact (Kd.R_reads' HO_445006.out).2.2 | (with_reducible refine Kd.C_alloc ?_ _) | (with_reducible refine Kd.C_drewN ?_ _) | (with_reducible refine Kd.C_drew ?_)));(case s2=>rw [show t474.length=t437.length from (Kd.R_reads' HO_445006.out).1.symm];exact (Kd.R_reads' HO_445006.out).2.1);(case s3=>repeat (first | exact (Kd.R_reads' HO_445007.out).2.2 | (with_reducible refine Kd.C_alloc ?_ _) | (with_reducible refine Kd.C_drewN ?_ _) | (with_reducible refine Kd.C_drew ?_)));(case s4=>rw [show t475.length=t440.length from (Kd.R_reads' HO_445007.out).1.symm];exact (Kd.R_reads' HO_445007.out).2.1);rintro e w184 ⟨rfl,hb⟩;refine ⟨_,rfl,?_⟩;refine as22_ (Kd.R_below (z0_ HO_411006.out) hb) (Kd.R_below (z0_ HO_411007.out) hb) (Kd.R_below (z0_ HO_424006.out) hb) (Kd.R_below (z0_ HO_424007.out) hb) (Kd.R_below (z0_ HO_431000.out) hb) (Kd.R_below (z0_ HO_431001.out) hb) (Kd.R_below (z0_ HO_445006.out) hb) (Kd.R_below (z0_ HO_445007.out) hb) (Kd.R_below (z0_ HO485.out) hb) (Kd.R_below (z0_ HO488.out) hb) (Kd.R_below (z0_ HO491.out) hb) (Kd.R_below (z0_ HO494.out) hb) (Kd.R_below (z0_ HO503.out) hb) (Kd.R_below (z0_ HO506.out) hb) (blkB_ BK375.out hb) (blkB_ BK376.out hb) (blkB_ BK410.out hb) (blkB_ BK423.out hb) (blkB_ BK430.out hb) (blkB_ BK444.out hb) (blkB_ BK508.out hb) (below_step (z17_ HB.out GE375.out GE376.out GE410.out GE423.out GE430.out GE444.out GE508.out) hb) ?_;clear HO_411006 HO_411007 HO_424006 HO_424007 HO_431000 HO_431001 HO_445006 HO_445007 HO485 HO488 HO491 HO494 HO503 HO506 BK375 BK376 BK410 BK423 BK430 BK444 BK508 HB;intro HO_411006 HO_411007 HO_424006 HO_424007 HO_431000 HO_431001 HO_445006 HO_445007 HO485 HO488 HO491 HO494 HO503 HO506 BK375 BK376 BK410 BK423 BK430 BK444 BK508 HB;(try clear hb)))
              go_ret
              exact ⟨z8_,z17_ HB.out GE375.out GE376.out GE410.out GE423.out GE430.out GE444.out GE508.out⟩
             ·rw [if_neg c139] at H
              exact absurd H (by simp)
           ·replace c136:=Bool.eq_false_iff.mpr c136
            subst c136
            have H1:(none)=some r:=by rw [if_neg (show ¬ (false=true) by decide)] at H;exact H
            clear H
            have H:=H1
            clear H1
            exact absurd H (by simp)
          ·rw [if_neg c131] at H
           exact absurd H (by simp)
     ·replace c33:=Bool.eq_false_iff.mpr c33
      subst c33
      have H1:(none)=some r:=by rw [if_neg (show ¬ (false=true) by decide)] at H;exact H
      clear H
      have H:=H1
      clear H1
      exact absurd H (by simp)
    ·replace c30:=Bool.eq_false_iff.mpr c30
     subst c30
     have H1:(none)=some r:=by rw [if_neg (show ¬ (false=true) by decide)] at H;exact H
     clear H
     have H:=H1
     clear H1
     exact absurd H (by simp)
   ·replace c27:=Bool.eq_false_iff.mpr c27
    subst c27
    have H1:(none)=some r:=by rw [if_neg (show ¬ (false=true) by decide)] at H;exact H
    clear H
    have H:=H1
    clear H1
    exact absurd H (by simp)

end Go.Proofs.Ytphbgcfpcadabaa.P

namespace Go.Proofs.Ytphbgcfpcadabaa.P
open Go.RowKit Go.Proofs.Ytphbgcfpcadabaa.RO
def laws_FnExactMsgTurn.Pure:Prop:=∀ (x0:S34) (x1:Int) (x2:S32),wfT34 x0→(Lit.int .i64 x1).wf=true→wfT32 x2→∃ k,laws_FnExactMsgTurn.f k x0.f0 x0.f1 x0.f2 x0.f3 x0.f4 x0.f5 x0.f6.f0 x0.f6.f1 x1 x2.f0 x2.f1=some true
end Go.Proofs.Ytphbgcfpcadabaa.P

namespace Go.Proofs.Ytphbgcfpcadabaa.Q
open Go.RowKit Go.Proofs.YtphbgcfpcadabaaW.PrintWords Go.Proofs.YtphbgcfpcadabaaW.PrintMore

theorem w64 {x:Int} (h0 : -9223372036854775808≤x) (h1:x≤9223372036854775807):wrap64 x=x:=by unfold wrap64;omega
theorem evIte {α:Type} {c:Prop} [Decidable c] {f g:Nat→Option α} {r:α} (h:c→Ev f r) (h':¬ c→Ev g r):Ev (fun k=>if c then f k else g k) r:=by
  by_cases hc:c
  · simp only [if_pos hc];exact h hc
  · simp only [if_neg hc];exact h' hc
theorem evPos {α:Type} {c:Prop} [Decidable c] {f g:Nat→Option α} {r:α} (hc:c) (h:Ev f r):Ev (fun k=>if c then f k else g k) r:=by
  simp only [if_pos hc];exact h
theorem evNeg {α:Type} {c:Prop} [Decidable c] {f g:Nat→Option α} {r:α} (hc:¬ c) (h:Ev g r):Ev (fun k=>if c then f k else g k) r:=by
  simp only [if_neg hc];exact h
theorem evBind1 {α β:Type} {g:Option α} {f:Nat→α→Option β} {a:α} {r:β} (h:g=some a) (k:Ev (fun n=>f n a) r):Ev (fun n=>g.bind (f n)) r:=by
  subst h;exact k
theorem dropCons {α:Type} {l:List α} {i:Nat} {a:α} {s:List α} (h:l.drop i=a :: s) (d:α):i<l.length∧l.getD i d=a∧l.drop (i+1)=s:=by
  have hl:i<l.length:=by
    have:=congrArg List.length h
    simp at this;omega
  rw [List.drop_eq_getElem_cons hl] at h
  injection h with h1 h2
  exact ⟨hl,by rw [List.getD_eq_getElem?_getD,List.getElem?_eq_getElem hl];exact h1,h2⟩
theorem dropNil {α:Type} {l:List α} {i:Nat} (h:l.drop i=[]):l.length≤i:=by
  have:=congrArg List.length h
  simp at this;omega
theorem dropNil' {α:Type} {l:List α} {i:Nat} (h:l.drop i=[]) (hi:i≤l.length):l.length=i:=by
  have:=dropNil h;omega
end Go.Proofs.Ytphbgcfpcadabaa.Q

namespace Go.Proofs.Ytphbgcfpcadabaa.P
open Go.RowKit Go.Proofs.YtphbgcfpcadabaaW.PrintWords Go.Proofs.YtphbgcfpcadabaaW.PrintLast Go.Proofs.YtphbgcfpcadabaaW.PrintMore
attribute [local go_sem] max2_int min2_int max_two min_two max_three min_three max_four min_four   -- for this text's walks alone
set_option linter.unusedVariables false
set_option linter.unusedSimpArgs false

/-! ### impl_isMany_impl_Mark: function 75 -/
def impl_isMany_impl_Mark.f (l0:List (S56)):Option (Bool):=some (decide ((l0.length:Int)>400))
end Go.Proofs.Ytphbgcfpcadabaa.P
