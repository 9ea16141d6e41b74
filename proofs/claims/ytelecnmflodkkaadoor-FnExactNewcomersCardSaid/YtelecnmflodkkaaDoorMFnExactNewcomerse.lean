/- For all pairs of rings, keys and numbers the program's Newcomers and the reference's return the same, of memory of its own, and the rings stay as they were. No condition. (Part 5 of 5: written by programs of this workplace and by hand, merged.) -/
import Derived.Test.YtelecnmflodkkaaDoorMFnExactNewcomersa
import Derived.Test.YtelecnmflodkkaaDoorMFnExactNewcomersc
import Derived.Test.YtelecnmflodkkaaDoorMFnExactNewcomersd
import Derived.Test.YtelecnmflodkkaaDoorMFnExactNewcomersWWords
import Derived.Test.YtelecnmflodkkaaDoorMFnExactNewcomersWMore
import Derived.Laws.BitsLemmas
import Derived.Test.YtelecnmflodkkaaDoorRows
import Derived.Test.YtelecnmflodkkaaDoorTie
import Derived.Test.YtelecnmflodkkaaDoorCards
import Derived.WalkKit
import Derived.ProofKit
import Derived.OpenShut
import Derived.ShutString
import Derived.ChangeOld
import Derived.Below
import Derived.SizedLaws
import Derived.LaidMore
import Derived.Lay
import Derived.LaidOnce
import Derived.SevenTiedAt
import Derived.LaidLaws
import Derived.ChangeSame
import Derived.ChangeVars
import Derived.JoinedOf
set_option linter.unusedVariables false
set_option linter.unusedSimpArgs false

namespace Go.Proofs.YtelecnmflodkkaaDoor.P
open Go.RowKit Go.Proofs.YtelecnmflodkkaaDoorW.PrintWords Go.Proofs.YtelecnmflodkkaaDoorW.PrintLast Go.Proofs.YtelecnmflodkkaaDoorW.PrintMore
attribute [local go_sem] max2_int min2_int max_two min_two max_three min_three max_four min_four   -- for this text's walks alone
set_option linter.unusedVariables false
set_option linter.unusedSimpArgs false

/-! ### laws_FnExactNewcomers: function 5 -/
def laws_FnExactNewcomers.j0:Nat→ByteArray→Int→List Int→List Int→Bool→Int→List (S116)→Int→List (S116)→Option (Bool)
 | 0,_,_,_,_,_,_,_,_,_=>none
 | k+1,x2,x3,x10,x13,x74,x638000,x638001,x639000,x639001=>if x74=true then (none) else ((laws_markInt64S.f k x13 1).bind fun bt681=>((laws_heldInt64S.f k bt681.2 1).bind fun t683=>(if t683<0 then (none) else (if t683=bt681.1 then ((laws_toRing.f k x638000 x638001).bind fun bt684=>((laws_toRing.f k x639000 x639001).bind fun bt688=>((impl_Newcomers.f k bt684.1 bt684.2 bt688.1 bt688.2 x2 x3).bind fun t692=>((laws_eqInt64S.f k t692 x10).bind fun t695=>(if t695=true then ((laws_heldInt64S.f k bt681.2 1).bind fun t696=>(if t696<0 then (none) else (if t696=bt681.1 then (some true) else (none)))) else (none)))))) else (none)))))
def laws_FnExactNewcomers.f (k:Nat) (a0_0:Int) (l0_1:List (S116)) (a1_0:Int) (l1_1:List (S116)) (a2:ByteArray) (a3:Int):Option (Bool):=if (a2.size:Int)>1048576 then (some true) else ((laws_szRing.f a0_0 l0_1 1048576).bind fun t639=>(if t639<0 then (some true) else ((laws_szRing.f a1_0 l1_1 t639).bind fun t640=>(if t640<0 then (some true) else ((laws_toRing.f k a0_0 l0_1).bind fun bt641=>((laws_toRing.f k a1_0 l1_1).bind fun bt645=>((spec_Newcomers.f k bt641.1 bt641.2 bt645.1 bt645.2 a2 a3).bind fun t649=>((laws_toRing.f k a0_0 l0_1).bind fun bt652=>((laws_toRing.f k a1_0 l1_1).bind fun bt657=>((impl_Newcomers.f k bt652.1 bt652.2 bt657.1 bt657.2 a2 a3).bind fun t662=>((laws_eqInt64S.f k t662 t649).bind fun t665=>(if t665=true then ((laws_toRing.f k a0_0 l0_1).bind fun bt666=>((laws_eqRing.f k bt652.1 bt652.2 bt666.1 bt666.2).bind fun t670=>(if t670=true then ((laws_toRing.f k a1_0 l1_1).bind fun bt671=>((laws_eqRing.f k bt657.1 bt657.2 bt671.1 bt671.2).bind fun t675=>(if t675=true then ((laws_markRing.f k bt652.1 bt652.2 1).bind fun bt676=>((laws_markRing.f k bt657.1 bt657.2 bt676.1).bind fun bt678=>(if bt678.1<0 then (laws_FnExactNewcomers.j0 k a2 a3 t649 t662 true a0_0 l0_1 a1_0 l1_1) else ((laws_eqInt64S.f k t662 t649).bind fun t680=>(laws_FnExactNewcomers.j0 k a2 a3 t649 t662 (!t680) a0_0 l0_1 a1_0 l1_1))))) else (none)))) else (none)))) else (none)))))))))))))
theorem laws_FnExactNewcomers.mono_l:∀ k,(∀ y0 y1 y2 y3 y4 y5 y6 y7 y8,LeO (laws_FnExactNewcomers.j0 k y0 y1 y2 y3 y4 y5 y6 y7 y8) (laws_FnExactNewcomers.j0 (k+1) y0 y1 y2 y3 y4 y5 y6 y7 y8))
 | 0=>fun _ _ _ _ _ _ _ _ _ r h=>by simp [laws_FnExactNewcomers.j0] at h
 | k+1=>by
  have ih0:=laws_FnExactNewcomers.mono_l k
  ·intro y0 y1 y2 y3 y4 y5 y6 y7 y8
   unfold laws_FnExactNewcomers.j0
   repeat' first
   | (with_reducible exact ih0 _ _ _ _ _ _ _ _ _)
   | (with_reducible exact impl_Newcomers.mono _ _ _ _ _ _ _)
   | (with_reducible exact laws_eqInt64S.mono _ _ _)
   | (with_reducible exact laws_eqRing.mono _ _ _ _ _)
   | (with_reducible exact laws_heldInt64S.mono _ _ _)
   | (with_reducible exact laws_markInt64S.mono _ _ _)
   | (with_reducible exact laws_markRing.mono _ _ _ _)
   | (with_reducible exact laws_toRing.mono _ _ _)
   | (with_reducible exact spec_Newcomers.mono _ _ _ _ _ _ _)
   | (with_reducible exact LeO.refl _)
   | (with_reducible exact LeO.none _)
   | (with_reducible refine LeO.ite ?_ ?_)
   | (with_reducible refine LeO.bind ?_ (fun _=>?_))
   | exact ih0 _ _ _ _ _ _ _ _ _
   | exact impl_Newcomers.mono _ _ _ _ _ _ _
   | exact laws_eqInt64S.mono _ _ _
   | exact laws_eqRing.mono _ _ _ _ _
   | exact laws_heldInt64S.mono _ _ _
   | exact laws_markInt64S.mono _ _ _
   | exact laws_markRing.mono _ _ _ _
   | exact laws_toRing.mono _ _ _
   | exact spec_Newcomers.mono _ _ _ _ _ _ _
   | exact LeO.none _
   | refine LeO.ite ?_ ?_
   | refine LeO.bind ?_ (fun _=>?_)
theorem laws_FnExactNewcomers.mono:∀ a0 a1 a2 a3 a4 a5 k,LeO (laws_FnExactNewcomers.f k a0 a1 a2 a3 a4 a5) (laws_FnExactNewcomers.f (k+1) a0 a1 a2 a3 a4 a5):=by
 intro a0 a1 a2 a3 a4 a5 k
 have ih0:=laws_FnExactNewcomers.mono_l k
 unfold laws_FnExactNewcomers.f
 repeat' first
   | (with_reducible exact ih0 _ _ _ _ _ _ _ _ _)
   | (with_reducible exact impl_Newcomers.mono _ _ _ _ _ _ _)
   | (with_reducible exact laws_eqInt64S.mono _ _ _)
   | (with_reducible exact laws_eqRing.mono _ _ _ _ _)
   | (with_reducible exact laws_heldInt64S.mono _ _ _)
   | (with_reducible exact laws_markInt64S.mono _ _ _)
   | (with_reducible exact laws_markRing.mono _ _ _ _)
   | (with_reducible exact laws_toRing.mono _ _ _)
   | (with_reducible exact spec_Newcomers.mono _ _ _ _ _ _ _)
   | (with_reducible exact LeO.refl _)
   | (with_reducible exact LeO.none _)
   | (with_reducible refine LeO.ite ?_ ?_)
   | (with_reducible refine LeO.bind ?_ (fun _=>?_))
   | exact ih0 _ _ _ _ _ _ _ _ _
   | exact impl_Newcomers.mono _ _ _ _ _ _ _
   | exact laws_eqInt64S.mono _ _ _
   | exact laws_eqRing.mono _ _ _ _ _
   | exact laws_heldInt64S.mono _ _ _
   | exact laws_markInt64S.mono _ _ _
   | exact laws_markRing.mono _ _ _ _
   | exact laws_toRing.mono _ _ _
   | exact spec_Newcomers.mono _ _ _ _ _ _ _
   | exact LeO.none _
   | refine LeO.ite ?_ ?_
   | refine LeO.bind ?_ (fun _=>?_)
def laws_FnExactNewcomers.T10:Bool × List (List Nat × List Nat):=(true,[([],[]),([0],[0]),([],[]),([2,1],[2]),([],[]),([],[]),([1,3,4,5,3],[1,3,4,5]),([6,6,0,1,2,3,4,5,6],[6])])
def laws_FnExactNewcomers.B10:List Nat:=[0,1,0,7,0,0,63,127]
theorem laws_FnExactNewcomers.tab10:rtab .any (opsOf Tryd.f5 10)=laws_FnExactNewcomers.T10:=by kernel_rfl
theorem laws_FnExactNewcomers.bits10:waitsOk laws_FnExactNewcomers.T10.2 laws_FnExactNewcomers.B10=true:=by kernel_rfl
def laws_FnExactNewcomers.T33:Bool × List (List Nat × List Nat):=(true,[([],[]),([0],[0]),([],[]),([2,1],[2]),([],[]),([],[]),([1,3,4,5,3],[1,3,4,5]),([6,6,0,1,2,3,4,5,6],[6])])
def laws_FnExactNewcomers.B33:List Nat:=[0,1,0,7,0,0,63,127]
theorem laws_FnExactNewcomers.tab33:rtab .any (opsOf Tryd.f5 33)=laws_FnExactNewcomers.T33:=by kernel_rfl
theorem laws_FnExactNewcomers.bits33:waitsOk laws_FnExactNewcomers.T33.2 laws_FnExactNewcomers.B33=true:=by kernel_rfl
set_option maxHeartbeats 8000000 in
set_option maxRecDepth 100000 in
theorem laws_FnExactNewcomers.calls (k:Nat) (a0_0:Int) (A0_1:Option Addr) (c0_1:Nat) (l0_1:List (S116)) (a1_0:Int) (A1_1:Option Addr) (c1_1:Nat) (l1_1:List (S116)) (a2:ByteArray) (a3:Int) (r:Bool) (w:World) (hr0_1:Kd.C k116 w A0_1 l0_1.length l0_1) (hc0_1:l0_1.length≤c0_1) (hr1_1:Kd.C k116 w A1_1 l1_1.length l1_1) (hc1_1:l1_1.length≤c1_1) (h:laws_FnExactNewcomers.f k a0_0 l0_1 a1_0 l1_1 a2 a3=some r) :
  Calls Tryd.prog 5 #[.agg #[.int .i64 a0_0,.slice A0_1 l0_1.length c0_1],.agg #[.int .i64 a1_0,.slice A1_1 l1_1.length c1_1],.string a2,.int .i64 a3] w fun e w'=>e = .returned (.bool r)∧Below w.heap.size w w':=by
 have hu44:=Tryd.underlying44
 have hu24:=Tryd.underlying24
 have HR0_1:=Aside0.mk hr0_1
 have HC0_1:=Aside0.mk hc0_1
 clear hr0_1 hc0_1
 have HR1_1:=Aside0.mk hr1_1
 have HC1_1:=Aside0.mk hc1_1
 clear hr1_1 hc1_1
 have HB:=Aside0.mk (Below.refl w.heap.size w)
 have H:(if (a2.size:Int)>1048576 then (some true) else ((laws_szRing.f a0_0 l0_1 1048576).bind fun t639=>(if t639<0 then (some true) else ((laws_szRing.f a1_0 l1_1 t639).bind fun t640=>(if t640<0 then (some true) else ((laws_toRing.f k a0_0 l0_1).bind fun bt641=>((laws_toRing.f k a1_0 l1_1).bind fun bt645=>((spec_Newcomers.f k bt641.1 bt641.2 bt645.1 bt645.2 a2 a3).bind fun t649=>((laws_toRing.f k a0_0 l0_1).bind fun bt652=>((laws_toRing.f k a1_0 l1_1).bind fun bt657=>((impl_Newcomers.f k bt652.1 bt652.2 bt657.1 bt657.2 a2 a3).bind fun t662=>((laws_eqInt64S.f k t662 t649).bind fun t665=>(if t665=true then ((laws_toRing.f k a0_0 l0_1).bind fun bt666=>((laws_eqRing.f k bt652.1 bt652.2 bt666.1 bt666.2).bind fun t670=>(if t670=true then ((laws_toRing.f k a1_0 l1_1).bind fun bt671=>((laws_eqRing.f k bt657.1 bt657.2 bt671.1 bt671.2).bind fun t675=>(if t675=true then ((laws_markRing.f k bt652.1 bt652.2 1).bind fun bt676=>((laws_markRing.f k bt657.1 bt657.2 bt676.1).bind fun bt678=>(if bt678.1<0 then (laws_FnExactNewcomers.j0 k a2 a3 t649 t662 true a0_0 l0_1 a1_0 l1_1) else ((laws_eqInt64S.f k t662 t649).bind fun t680=>(laws_FnExactNewcomers.j0 k a2 a3 t649 t662 (!t680) a0_0 l0_1 a1_0 l1_1))))) else (none)))) else (none)))) else (none))))))))))))))=some r:=h
 clear h
 by_cases c5:(a2.size:Int)>1048576
 ·rw [if_pos c5] at H
  have c5b0:decide (1048576<(a2.size:Int))=true:=decide_eq_true c5
  have c5b1:decide (1048576<a2.size)=true:=decide_eq_true (by omega)
  clear c5
  obtain rfl:=Option.some.inj H
  go_enter Tryd.func5,Tryd.ntmps5
  go_wp2_with (first | ((with_reducible refine gd_ 4 ?_);refine be_ 4 #[.int .i64 a0_0,.slice A0_1 l0_1.length c0_1] 44 ?_;intro gb637 hg w6 hbox hb;refine as4_ (below_step (z4_ HB.out) hb) (hbox) ((z8_ HB.out:w.heap.size≤gb637)) ((z8_ HB.out:w.heap.size≤gb637)) ?_;clear HB;intro HB BK637 GW637 GE637;clear hb hbox hg) | ((with_reducible refine gd_ 5 ?_);refine be_ 5 #[.int .i64 a1_0,.slice A1_1 l1_1.length c1_1] 44 ?_;intro gb638 hg w7 hbox hb;refine as7_ (blkB_ BK637.out hb) (below_step (z7_ HB.out GE637.out) hb) (hbox) ((z11_ HB.out GE637.out:w.heap.size≤gb638)) ((z11_ HB.out GE637.out:w.heap.size≤gb638)) (neL_ BK637.out hg) (neG_ BK637.out hg) ?_;clear BK637 HB;intro BK637 HB BK638 GW638 GE638 NB637_638 NB638_637;clear hb hbox hg))
  go_ret
  exact ⟨z10_,z5_ HB.out GE637.out GE638.out⟩
 ·rw [if_neg c5] at H
  have c5b0:decide (1048576<(a2.size:Int))=false:=decide_eq_false c5
  have c5b1:decide (1048576<a2.size)=false:=decide_eq_false (by omega)
  clear c5
  replace H:=Option.bind_eq_some_iff.mp H
  obtain ⟨t639,A80,H⟩:=H
  replace H:(if t639<0 then (some true) else ((laws_szRing.f a1_0 l1_1 t639).bind fun t640=>(if t640<0 then (some true) else ((laws_toRing.f k a0_0 l0_1).bind fun bt641=>((laws_toRing.f k a1_0 l1_1).bind fun bt645=>((spec_Newcomers.f k bt641.1 bt641.2 bt645.1 bt645.2 a2 a3).bind fun t649=>((laws_toRing.f k a0_0 l0_1).bind fun bt652=>((laws_toRing.f k a1_0 l1_1).bind fun bt657=>((impl_Newcomers.f k bt652.1 bt652.2 bt657.1 bt657.2 a2 a3).bind fun t662=>((laws_eqInt64S.f k t662 t649).bind fun t665=>(if t665=true then ((laws_toRing.f k a0_0 l0_1).bind fun bt666=>((laws_eqRing.f k bt652.1 bt652.2 bt666.1 bt666.2).bind fun t670=>(if t670=true then ((laws_toRing.f k a1_0 l1_1).bind fun bt671=>((laws_eqRing.f k bt657.1 bt657.2 bt671.1 bt671.2).bind fun t675=>(if t675=true then ((laws_markRing.f k bt652.1 bt652.2 1).bind fun bt676=>((laws_markRing.f k bt657.1 bt657.2 bt676.1).bind fun bt678=>(if bt678.1<0 then (laws_FnExactNewcomers.j0 k a2 a3 t649 t662 true a0_0 l0_1 a1_0 l1_1) else ((laws_eqInt64S.f k t662 t649).bind fun t680=>(laws_FnExactNewcomers.j0 k a2 a3 t649 t662 (!t680) a0_0 l0_1 a1_0 l1_1))))) else (none)))) else (none)))) else (none))))))))))))=some r:=H
  have A8:=Aside0.mk A80
  clear A80
  by_cases c9:t639<0
  ·rw [if_pos c9] at H
   have c9b0:decide (t639<0)=true:=decide_eq_true c9
   clear c9
   obtain rfl:=Option.some.inj H
   go_enter Tryd.func5,Tryd.ntmps5
   go_wp2_with (first | ((with_reducible refine gd_ 4 ?_);refine be_ 4 #[.int .i64 a0_0,.slice A0_1 l0_1.length c0_1] 44 ?_;intro gb637 hg w10 hbox hb;refine as4_ (below_step (z4_ HB.out) hb) (hbox) ((z8_ HB.out:w.heap.size≤gb637)) ((z8_ HB.out:w.heap.size≤gb637)) ?_;clear HB;intro HB BK637 GW637 GE637;clear hb hbox hg) | ((with_reducible refine gd_ 5 ?_);refine be_ 5 #[.int .i64 a1_0,.slice A1_1 l1_1.length c1_1] 44 ?_;intro gb638 hg w11 hbox hb;refine as7_ (blkB_ BK637.out hb) (below_step (z7_ HB.out GE637.out) hb) (hbox) ((z11_ HB.out GE637.out:w.heap.size≤gb638)) ((z11_ HB.out GE637.out:w.heap.size≤gb638)) (neL_ BK637.out hg) (neG_ BK637.out hg) ?_;clear BK637 HB;intro BK637 HB BK638 GW638 GE638 NB637_638 NB638_637;clear hb hbox hg;have hnb12:=NB637_638.out;have hnc12:=NB638_637.out;have ⟨hcz13_0,hcz13_1,hfz13_0,hfz13_1⟩:=cz2_ BK637.out) | ((with_reducible refine gc_ 23 ?_);refine gl_ (some 23) Tryd.func23 #[.agg #[.int .i64 a0_0,.slice A0_1 l0_1.length c0_1],.int .i64 1048576] ?_;(with_reducible refine (laws_szRing.calls a0_0 _ _ l0_1 1048576 t639 _ ?s1 ?s2 A8.out).mono ?_);(case s1=>repeat (first | exact (Kd.C_below HR0_1.out HB.out) | (with_reducible refine Kd.C_alloc ?_ _) | (with_reducible refine Kd.C_drewN ?_ _) | (with_reducible refine Kd.C_drew ?_)));(case s2=>exact HC0_1.out);rintro e w14 ⟨rfl,hb⟩;refine ⟨_,rfl,?_⟩;refine as3_ (blkB_ BK637.out hb) (blkB_ BK638.out hb) (below_step (z5_ HB.out GE637.out GE638.out) hb) ?_;clear BK637 BK638 HB;intro BK637 BK638 HB;(try clear hb)))
   go_ret
   exact ⟨z10_,z5_ HB.out GE637.out GE638.out⟩
  ·rw [if_neg c9] at H
   have c9b0:decide (t639<0)=false:=decide_eq_false c9
   clear c9
   replace H:=Option.bind_eq_some_iff.mp H
   obtain ⟨t640,A150,H⟩:=H
   replace H:(if t640<0 then (some true) else ((laws_toRing.f k a0_0 l0_1).bind fun bt641=>((laws_toRing.f k a1_0 l1_1).bind fun bt645=>((spec_Newcomers.f k bt641.1 bt641.2 bt645.1 bt645.2 a2 a3).bind fun t649=>((laws_toRing.f k a0_0 l0_1).bind fun bt652=>((laws_toRing.f k a1_0 l1_1).bind fun bt657=>((impl_Newcomers.f k bt652.1 bt652.2 bt657.1 bt657.2 a2 a3).bind fun t662=>((laws_eqInt64S.f k t662 t649).bind fun t665=>(if t665=true then ((laws_toRing.f k a0_0 l0_1).bind fun bt666=>((laws_eqRing.f k bt652.1 bt652.2 bt666.1 bt666.2).bind fun t670=>(if t670=true then ((laws_toRing.f k a1_0 l1_1).bind fun bt671=>((laws_eqRing.f k bt657.1 bt657.2 bt671.1 bt671.2).bind fun t675=>(if t675=true then ((laws_markRing.f k bt652.1 bt652.2 1).bind fun bt676=>((laws_markRing.f k bt657.1 bt657.2 bt676.1).bind fun bt678=>(if bt678.1<0 then (laws_FnExactNewcomers.j0 k a2 a3 t649 t662 true a0_0 l0_1 a1_0 l1_1) else ((laws_eqInt64S.f k t662 t649).bind fun t680=>(laws_FnExactNewcomers.j0 k a2 a3 t649 t662 (!t680) a0_0 l0_1 a1_0 l1_1))))) else (none)))) else (none)))) else (none))))))))))=some r:=H
   have A15:=Aside0.mk A150
   clear A150
   by_cases c16:t640<0
   ·rw [if_pos c16] at H
    have c16b0:decide (t640<0)=true:=decide_eq_true c16
    clear c16
    obtain rfl:=Option.some.inj H
    go_enter Tryd.func5,Tryd.ntmps5
    go_wp2_with (first | ((with_reducible refine gd_ 4 ?_);refine be_ 4 #[.int .i64 a0_0,.slice A0_1 l0_1.length c0_1] 44 ?_;intro gb637 hg w17 hbox hb;refine as4_ (below_step (z4_ HB.out) hb) (hbox) ((z8_ HB.out:w.heap.size≤gb637)) ((z8_ HB.out:w.heap.size≤gb637)) ?_;clear HB;intro HB BK637 GW637 GE637;clear hb hbox hg) | ((with_reducible refine gd_ 5 ?_);refine be_ 5 #[.int .i64 a1_0,.slice A1_1 l1_1.length c1_1] 44 ?_;intro gb638 hg w18 hbox hb;refine as7_ (blkB_ BK637.out hb) (below_step (z7_ HB.out GE637.out) hb) (hbox) ((z11_ HB.out GE637.out:w.heap.size≤gb638)) ((z11_ HB.out GE637.out:w.heap.size≤gb638)) (neL_ BK637.out hg) (neG_ BK637.out hg) ?_;clear BK637 HB;intro BK637 HB BK638 GW638 GE638 NB637_638 NB638_637;clear hb hbox hg;have hnb19:=NB637_638.out;have hnc19:=NB638_637.out;have ⟨hcz20_0,hcz20_1,hfz20_0,hfz20_1⟩:=cz2_ BK637.out) | ((with_reducible refine gc_ 23 ?_);refine gl_ (some 23) Tryd.func23 #[.agg #[.int .i64 a0_0,.slice A0_1 l0_1.length c0_1],.int .i64 1048576] ?_;(with_reducible refine (laws_szRing.calls a0_0 _ _ l0_1 1048576 t639 _ ?s1 ?s2 A8.out).mono ?_);(case s1=>repeat (first | exact (Kd.C_below HR0_1.out HB.out) | (with_reducible refine Kd.C_alloc ?_ _) | (with_reducible refine Kd.C_drewN ?_ _) | (with_reducible refine Kd.C_drew ?_)));(case s2=>exact HC0_1.out);rintro e w21 ⟨rfl,hb⟩;refine ⟨_,rfl,?_⟩;refine as3_ (blkB_ BK637.out hb) (blkB_ BK638.out hb) (below_step (z5_ HB.out GE637.out GE638.out) hb) ?_;clear BK637 BK638 HB;intro BK637 BK638 HB;(try clear hb);have ⟨hcz22_0,hcz22_1,hfz22_0,hfz22_1⟩:=cz2_ BK638.out) | ((with_reducible refine gc_ 23 ?_);refine gl_ (some 28) Tryd.func23 #[.agg #[.int .i64 a1_0,.slice A1_1 l1_1.length c1_1],.int .i64 t639] ?_;(with_reducible refine (laws_szRing.calls a1_0 _ _ l1_1 t639 t640 _ ?s1 ?s2 A15.out).mono ?_);(case s1=>repeat (first | exact (Kd.C_below HR1_1.out HB.out) | (with_reducible refine Kd.C_alloc ?_ _) | (with_reducible refine Kd.C_drewN ?_ _) | (with_reducible refine Kd.C_drew ?_)));(case s2=>exact HC1_1.out);rintro e w23 ⟨rfl,hb⟩;refine ⟨_,rfl,?_⟩;refine as3_ (blkB_ BK637.out hb) (blkB_ BK638.out hb) (below_step (z5_ HB.out GE637.out GE638.out) hb) ?_;clear BK637 BK638 HB;intro BK637 BK638 HB;(try clear hb)))
    go_ret
    exact ⟨z10_,z5_ HB.out GE637.out GE638.out⟩
   ·rw [if_neg c16] at H
    have c16b0:decide (t640<0)=false:=decide_eq_false c16
    clear c16
    replace H:=Option.bind_eq_some_iff.mp H
    obtain ⟨⟨t641,t642⟩,A240,H⟩:=H
    replace H:((laws_toRing.f k a1_0 l1_1).bind fun bt645=>((spec_Newcomers.f k t641 t642 bt645.1 bt645.2 a2 a3).bind fun t649=>((laws_toRing.f k a0_0 l0_1).bind fun bt652=>((laws_toRing.f k a1_0 l1_1).bind fun bt657=>((impl_Newcomers.f k bt652.1 bt652.2 bt657.1 bt657.2 a2 a3).bind fun t662=>((laws_eqInt64S.f k t662 t649).bind fun t665=>(if t665=true then ((laws_toRing.f k a0_0 l0_1).bind fun bt666=>((laws_eqRing.f k bt652.1 bt652.2 bt666.1 bt666.2).bind fun t670=>(if t670=true then ((laws_toRing.f k a1_0 l1_1).bind fun bt671=>((laws_eqRing.f k bt657.1 bt657.2 bt671.1 bt671.2).bind fun t675=>(if t675=true then ((laws_markRing.f k bt652.1 bt652.2 1).bind fun bt676=>((laws_markRing.f k bt657.1 bt657.2 bt676.1).bind fun bt678=>(if bt678.1<0 then (laws_FnExactNewcomers.j0 k a2 a3 t649 t662 true a0_0 l0_1 a1_0 l1_1) else ((laws_eqInt64S.f k t662 t649).bind fun t680=>(laws_FnExactNewcomers.j0 k a2 a3 t649 t662 (!t680) a0_0 l0_1 a1_0 l1_1))))) else (none)))) else (none)))) else (none))))))))=some r:=H
    have A24:=Aside0.mk A240
    clear A240
    replace H:=Option.bind_eq_some_iff.mp H
    obtain ⟨⟨t645,t646⟩,A250,H⟩:=H
    replace H:((spec_Newcomers.f k t641 t642 t645 t646 a2 a3).bind fun t649=>((laws_toRing.f k a0_0 l0_1).bind fun bt652=>((laws_toRing.f k a1_0 l1_1).bind fun bt657=>((impl_Newcomers.f k bt652.1 bt652.2 bt657.1 bt657.2 a2 a3).bind fun t662=>((laws_eqInt64S.f k t662 t649).bind fun t665=>(if t665=true then ((laws_toRing.f k a0_0 l0_1).bind fun bt666=>((laws_eqRing.f k bt652.1 bt652.2 bt666.1 bt666.2).bind fun t670=>(if t670=true then ((laws_toRing.f k a1_0 l1_1).bind fun bt671=>((laws_eqRing.f k bt657.1 bt657.2 bt671.1 bt671.2).bind fun t675=>(if t675=true then ((laws_markRing.f k bt652.1 bt652.2 1).bind fun bt676=>((laws_markRing.f k bt657.1 bt657.2 bt676.1).bind fun bt678=>(if bt678.1<0 then (laws_FnExactNewcomers.j0 k a2 a3 t649 t662 true a0_0 l0_1 a1_0 l1_1) else ((laws_eqInt64S.f k t662 t649).bind fun t680=>(laws_FnExactNewcomers.j0 k a2 a3 t649 t662 (!t680) a0_0 l0_1 a1_0 l1_1))))) else (none)))) else (none)))) else (none)))))))=some r:=H
    have A25:=Aside0.mk A250
    clear A250
    replace H:=Option.bind_eq_some_iff.mp H
    obtain ⟨t649,A260,H⟩:=H
    replace H:((laws_toRing.f k a0_0 l0_1).bind fun bt652=>((laws_toRing.f k a1_0 l1_1).bind fun bt657=>((impl_Newcomers.f k bt652.1 bt652.2 bt657.1 bt657.2 a2 a3).bind fun t662=>((laws_eqInt64S.f k t662 t649).bind fun t665=>(if t665=true then ((laws_toRing.f k a0_0 l0_1).bind fun bt666=>((laws_eqRing.f k bt652.1 bt652.2 bt666.1 bt666.2).bind fun t670=>(if t670=true then ((laws_toRing.f k a1_0 l1_1).bind fun bt671=>((laws_eqRing.f k bt657.1 bt657.2 bt671.1 bt671.2).bind fun t675=>(if t675=true then ((laws_markRing.f k bt652.1 bt652.2 1).bind fun bt676=>((laws_markRing.f k bt657.1 bt657.2 bt676.1).bind fun bt678=>(if bt678.1<0 then (laws_FnExactNewcomers.j0 k a2 a3 t649 t662 true a0_0 l0_1 a1_0 l1_1) else ((laws_eqInt64S.f k t662 t649).bind fun t680=>(laws_FnExactNewcomers.j0 k a2 a3 t649 t662 (!t680) a0_0 l0_1 a1_0 l1_1))))) else (none)))) else (none)))) else (none))))))=some r:=H
    have A26:=Aside0.mk A260
    clear A260
    replace H:=Option.bind_eq_some_iff.mp H
    obtain ⟨⟨t652,t653⟩,A270,H⟩:=H
    replace H:((laws_toRing.f k a1_0 l1_1).bind fun bt657=>((impl_Newcomers.f k t652 t653 bt657.1 bt657.2 a2 a3).bind fun t662=>((laws_eqInt64S.f k t662 t649).bind fun t665=>(if t665=true then ((laws_toRing.f k a0_0 l0_1).bind fun bt666=>((laws_eqRing.f k t652 t653 bt666.1 bt666.2).bind fun t670=>(if t670=true then ((laws_toRing.f k a1_0 l1_1).bind fun bt671=>((laws_eqRing.f k bt657.1 bt657.2 bt671.1 bt671.2).bind fun t675=>(if t675=true then ((laws_markRing.f k t652 t653 1).bind fun bt676=>((laws_markRing.f k bt657.1 bt657.2 bt676.1).bind fun bt678=>(if bt678.1<0 then (laws_FnExactNewcomers.j0 k a2 a3 t649 t662 true a0_0 l0_1 a1_0 l1_1) else ((laws_eqInt64S.f k t662 t649).bind fun t680=>(laws_FnExactNewcomers.j0 k a2 a3 t649 t662 (!t680) a0_0 l0_1 a1_0 l1_1))))) else (none)))) else (none)))) else (none)))))=some r:=H
    have A27:=Aside0.mk A270
    clear A270
    replace H:=Option.bind_eq_some_iff.mp H
    obtain ⟨⟨t657,t658⟩,A280,H⟩:=H
    replace H:((impl_Newcomers.f k t652 t653 t657 t658 a2 a3).bind fun t662=>((laws_eqInt64S.f k t662 t649).bind fun t665=>(if t665=true then ((laws_toRing.f k a0_0 l0_1).bind fun bt666=>((laws_eqRing.f k t652 t653 bt666.1 bt666.2).bind fun t670=>(if t670=true then ((laws_toRing.f k a1_0 l1_1).bind fun bt671=>((laws_eqRing.f k t657 t658 bt671.1 bt671.2).bind fun t675=>(if t675=true then ((laws_markRing.f k t652 t653 1).bind fun bt676=>((laws_markRing.f k t657 t658 bt676.1).bind fun bt678=>(if bt678.1<0 then (laws_FnExactNewcomers.j0 k a2 a3 t649 t662 true a0_0 l0_1 a1_0 l1_1) else ((laws_eqInt64S.f k t662 t649).bind fun t680=>(laws_FnExactNewcomers.j0 k a2 a3 t649 t662 (!t680) a0_0 l0_1 a1_0 l1_1))))) else (none)))) else (none)))) else (none))))=some r:=H
    have A28:=Aside0.mk A280
    clear A280
    replace H:=Option.bind_eq_some_iff.mp H
    obtain ⟨t662,A290,H⟩:=H
    replace H:((laws_eqInt64S.f k t662 t649).bind fun t665=>(if t665=true then ((laws_toRing.f k a0_0 l0_1).bind fun bt666=>((laws_eqRing.f k t652 t653 bt666.1 bt666.2).bind fun t670=>(if t670=true then ((laws_toRing.f k a1_0 l1_1).bind fun bt671=>((laws_eqRing.f k t657 t658 bt671.1 bt671.2).bind fun t675=>(if t675=true then ((laws_markRing.f k t652 t653 1).bind fun bt676=>((laws_markRing.f k t657 t658 bt676.1).bind fun bt678=>(if bt678.1<0 then (laws_FnExactNewcomers.j0 k a2 a3 t649 t662 true a0_0 l0_1 a1_0 l1_1) else ((laws_eqInt64S.f k t662 t649).bind fun t680=>(laws_FnExactNewcomers.j0 k a2 a3 t649 t662 (!t680) a0_0 l0_1 a1_0 l1_1))))) else (none)))) else (none)))) else (none)))=some r:=H
    have A29:=Aside0.mk A290
    clear A290
    replace H:=Option.bind_eq_some_iff.mp H
    obtain ⟨t665,A300,H⟩:=H
    replace H:(if t665=true then ((laws_toRing.f k a0_0 l0_1).bind fun bt666=>((laws_eqRing.f k t652 t653 bt666.1 bt666.2).bind fun t670=>(if t670=true then ((laws_toRing.f k a1_0 l1_1).bind fun bt671=>((laws_eqRing.f k t657 t658 bt671.1 bt671.2).bind fun t675=>(if t675=true then ((laws_markRing.f k t652 t653 1).bind fun bt676=>((laws_markRing.f k t657 t658 bt676.1).bind fun bt678=>(if bt678.1<0 then (laws_FnExactNewcomers.j0 k a2 a3 t649 t662 true a0_0 l0_1 a1_0 l1_1) else ((laws_eqInt64S.f k t662 t649).bind fun t680=>(laws_FnExactNewcomers.j0 k a2 a3 t649 t662 (!t680) a0_0 l0_1 a1_0 l1_1))))) else (none)))) else (none)))) else (none))=some r:=H
    have A30:=Aside0.mk A300
    clear A300
    by_cases c31:t665=true
    ·subst c31
     have H1:((laws_toRing.f k a0_0 l0_1).bind fun bt666=>((laws_eqRing.f k t652 t653 bt666.1 bt666.2).bind fun t670=>(if t670=true then ((laws_toRing.f k a1_0 l1_1).bind fun bt671=>((laws_eqRing.f k t657 t658 bt671.1 bt671.2).bind fun t675=>(if t675=true then ((laws_markRing.f k t652 t653 1).bind fun bt676=>((laws_markRing.f k t657 t658 bt676.1).bind fun bt678=>(if bt678.1<0 then (laws_FnExactNewcomers.j0 k a2 a3 t649 t662 true a0_0 l0_1 a1_0 l1_1) else ((laws_eqInt64S.f k t662 t649).bind fun t680=>(laws_FnExactNewcomers.j0 k a2 a3 t649 t662 (!t680) a0_0 l0_1 a1_0 l1_1))))) else (none)))) else (none))))=some r:=by rw [if_pos rfl] at H;exact H
     clear H
     have H:=H1
     clear H1
     replace H:=Option.bind_eq_some_iff.mp H
     obtain ⟨⟨t666,t667⟩,A320,H⟩:=H
     replace H:((laws_eqRing.f k t652 t653 t666 t667).bind fun t670=>(if t670=true then ((laws_toRing.f k a1_0 l1_1).bind fun bt671=>((laws_eqRing.f k t657 t658 bt671.1 bt671.2).bind fun t675=>(if t675=true then ((laws_markRing.f k t652 t653 1).bind fun bt676=>((laws_markRing.f k t657 t658 bt676.1).bind fun bt678=>(if bt678.1<0 then (laws_FnExactNewcomers.j0 k a2 a3 t649 t662 true a0_0 l0_1 a1_0 l1_1) else ((laws_eqInt64S.f k t662 t649).bind fun t680=>(laws_FnExactNewcomers.j0 k a2 a3 t649 t662 (!t680) a0_0 l0_1 a1_0 l1_1))))) else (none)))) else (none)))=some r:=H
     have A32:=Aside0.mk A320
     clear A320
     replace H:=Option.bind_eq_some_iff.mp H
     obtain ⟨t670,A330,H⟩:=H
     replace H:(if t670=true then ((laws_toRing.f k a1_0 l1_1).bind fun bt671=>((laws_eqRing.f k t657 t658 bt671.1 bt671.2).bind fun t675=>(if t675=true then ((laws_markRing.f k t652 t653 1).bind fun bt676=>((laws_markRing.f k t657 t658 bt676.1).bind fun bt678=>(if bt678.1<0 then (laws_FnExactNewcomers.j0 k a2 a3 t649 t662 true a0_0 l0_1 a1_0 l1_1) else ((laws_eqInt64S.f k t662 t649).bind fun t680=>(laws_FnExactNewcomers.j0 k a2 a3 t649 t662 (!t680) a0_0 l0_1 a1_0 l1_1))))) else (none)))) else (none))=some r:=H
     have A33:=Aside0.mk A330
     clear A330
     by_cases c34:t670=true
     ·subst c34
      have H1:((laws_toRing.f k a1_0 l1_1).bind fun bt671=>((laws_eqRing.f k t657 t658 bt671.1 bt671.2).bind fun t675=>(if t675=true then ((laws_markRing.f k t652 t653 1).bind fun bt676=>((laws_markRing.f k t657 t658 bt676.1).bind fun bt678=>(if bt678.1<0 then (laws_FnExactNewcomers.j0 k a2 a3 t649 t662 true a0_0 l0_1 a1_0 l1_1) else ((laws_eqInt64S.f k t662 t649).bind fun t680=>(laws_FnExactNewcomers.j0 k a2 a3 t649 t662 (!t680) a0_0 l0_1 a1_0 l1_1))))) else (none))))=some r:=by rw [if_pos rfl] at H;exact H
      clear H
      have H:=H1
      clear H1
      replace H:=Option.bind_eq_some_iff.mp H
      obtain ⟨⟨t671,t672⟩,A350,H⟩:=H
      replace H:((laws_eqRing.f k t657 t658 t671 t672).bind fun t675=>(if t675=true then ((laws_markRing.f k t652 t653 1).bind fun bt676=>((laws_markRing.f k t657 t658 bt676.1).bind fun bt678=>(if bt678.1<0 then (laws_FnExactNewcomers.j0 k a2 a3 t649 t662 true a0_0 l0_1 a1_0 l1_1) else ((laws_eqInt64S.f k t662 t649).bind fun t680=>(laws_FnExactNewcomers.j0 k a2 a3 t649 t662 (!t680) a0_0 l0_1 a1_0 l1_1))))) else (none)))=some r:=H
      have A35:=Aside0.mk A350
      clear A350
      replace H:=Option.bind_eq_some_iff.mp H
      obtain ⟨t675,A360,H⟩:=H
      replace H:(if t675=true then ((laws_markRing.f k t652 t653 1).bind fun bt676=>((laws_markRing.f k t657 t658 bt676.1).bind fun bt678=>(if bt678.1<0 then (laws_FnExactNewcomers.j0 k a2 a3 t649 t662 true a0_0 l0_1 a1_0 l1_1) else ((laws_eqInt64S.f k t662 t649).bind fun t680=>(laws_FnExactNewcomers.j0 k a2 a3 t649 t662 (!t680) a0_0 l0_1 a1_0 l1_1))))) else (none))=some r:=H
      have A36:=Aside0.mk A360
      clear A360
      by_cases c37:t675=true
      ·subst c37
       have H1:((laws_markRing.f k t652 t653 1).bind fun bt676=>((laws_markRing.f k t657 t658 bt676.1).bind fun bt678=>(if bt678.1<0 then (laws_FnExactNewcomers.j0 k a2 a3 t649 t662 true a0_0 l0_1 a1_0 l1_1) else ((laws_eqInt64S.f k t662 t649).bind fun t680=>(laws_FnExactNewcomers.j0 k a2 a3 t649 t662 (!t680) a0_0 l0_1 a1_0 l1_1)))))=some r:=by rw [if_pos rfl] at H;exact H
       clear H
       have H:=H1
       clear H1
       replace H:=Option.bind_eq_some_iff.mp H
       obtain ⟨⟨t676,t677⟩,A380,H⟩:=H
       replace H:((laws_markRing.f k t657 t658 t676).bind fun bt678=>(if bt678.1<0 then (laws_FnExactNewcomers.j0 k a2 a3 t649 t662 true a0_0 l0_1 a1_0 l1_1) else ((laws_eqInt64S.f k t662 t649).bind fun t680=>(laws_FnExactNewcomers.j0 k a2 a3 t649 t662 (!t680) a0_0 l0_1 a1_0 l1_1))))=some r:=H
       have A38:=Aside0.mk A380
       clear A380
       replace H:=Option.bind_eq_some_iff.mp H
       obtain ⟨⟨t678,t679⟩,A390,H⟩:=H
       replace H:(if t678<0 then (laws_FnExactNewcomers.j0 k a2 a3 t649 t662 true a0_0 l0_1 a1_0 l1_1) else ((laws_eqInt64S.f k t662 t649).bind fun t680=>(laws_FnExactNewcomers.j0 k a2 a3 t649 t662 (!t680) a0_0 l0_1 a1_0 l1_1)))=some r:=H
       have A39:=Aside0.mk A390
       clear A390
       have HC40:=Aside0.mk H
       clear H
       go_enter Tryd.func5,Tryd.ntmps5
       try go_wp2_with (first | ((with_reducible refine gd_ 4 ?_);refine be_ 4 #[.int .i64 a0_0,.slice A0_1 l0_1.length c0_1] 44 ?_;intro gb637 hg w41 hbox hb;refine as4_ (below_step (z4_ HB.out) hb) (hbox) ((z8_ HB.out:w.heap.size≤gb637)) ((z8_ HB.out:w.heap.size≤gb637)) ?_;clear HB;intro HB BK637 GW637 GE637;clear hb hbox hg) | ((with_reducible refine gd_ 5 ?_);refine be_ 5 #[.int .i64 a1_0,.slice A1_1 l1_1.length c1_1] 44 ?_;intro gb638 hg w42 hbox hb;refine as7_ (blkB_ BK637.out hb) (below_step (z7_ HB.out GE637.out) hb) (hbox) ((z11_ HB.out GE637.out:w.heap.size≤gb638)) ((z11_ HB.out GE637.out:w.heap.size≤gb638)) (neL_ BK637.out hg) (neG_ BK637.out hg) ?_;clear BK637 HB;intro BK637 HB BK638 GW638 GE638 NB637_638 NB638_637;clear hb hbox hg;have hnb43:=NB637_638.out;have hnc43:=NB638_637.out;have ⟨hcz44_0,hcz44_1,hfz44_0,hfz44_1⟩:=cz2_ BK637.out) | ((with_reducible refine gc_ 23 ?_);refine gl_ (some 23) Tryd.func23 #[.agg #[.int .i64 a0_0,.slice A0_1 l0_1.length c0_1],.int .i64 1048576] ?_;(with_reducible refine (laws_szRing.calls a0_0 _ _ l0_1 1048576 t639 _ ?s1 ?s2 A8.out).mono ?_);(case s1=>repeat (first | exact (Kd.C_below HR0_1.out HB.out) | (with_reducible refine Kd.C_alloc ?_ _) | (with_reducible refine Kd.C_drewN ?_ _) | (with_reducible refine Kd.C_drew ?_)));(case s2=>exact HC0_1.out);rintro e w45 ⟨rfl,hb⟩;refine ⟨_,rfl,?_⟩;refine as3_ (blkB_ BK637.out hb) (blkB_ BK638.out hb) (below_step (z5_ HB.out GE637.out GE638.out) hb) ?_;clear BK637 BK638 HB;intro BK637 BK638 HB;(try clear hb);have ⟨hcz46_0,hcz46_1,hfz46_0,hfz46_1⟩:=cz2_ BK638.out) | ((with_reducible refine gc_ 23 ?_);refine gl_ (some 28) Tryd.func23 #[.agg #[.int .i64 a1_0,.slice A1_1 l1_1.length c1_1],.int .i64 t639] ?_;(with_reducible refine (laws_szRing.calls a1_0 _ _ l1_1 t639 t640 _ ?s1 ?s2 A15.out).mono ?_);(case s1=>repeat (first | exact (Kd.C_below HR1_1.out HB.out) | (with_reducible refine Kd.C_alloc ?_ _) | (with_reducible refine Kd.C_drewN ?_ _) | (with_reducible refine Kd.C_drew ?_)));(case s2=>exact HC1_1.out);rintro e w47 ⟨rfl,hb⟩;refine ⟨_,rfl,?_⟩;refine as3_ (blkB_ BK637.out hb) (blkB_ BK638.out hb) (below_step (z5_ HB.out GE637.out GE638.out) hb) ?_;clear BK637 BK638 HB;intro BK637 BK638 HB;(try clear hb)))
       refine as3_ (blk_drew BK637.out) (blk_drew BK638.out) (below_drew1 HB.out) ?_
       clear BK637 BK638 HB
       intro BK637 BK638 HB
       refine start_ (n:=8) (S:=fun w'=>w'.cell? ⟨gb637,0,none⟩=some (.int .i64 a0_0)∧w'.cell? ⟨gb637,1,none⟩=some (.slice A0_1 l0_1.length c0_1)∧w'.cell? ⟨gb638,0,none⟩=some (.int .i64 a1_0)∧w'.cell? ⟨gb638,1,none⟩=some (.slice A1_1 l1_1.length c1_1)) (ds:=[]) #[O,O,O,O,O,O,O,O] (by kernel_rfl) rfl rfl (cj2_ BK637.out (cc2_ BK638.out)) (fun hHeld=>?_);refine with_tabW laws_FnExactNewcomers.tab10 laws_FnExactNewcomers.bits10 (fun HT_ HW_=>?_)
       generalize w47.drew=w48 at BK637 BK638 HB hHeld ⊢
       refine pu_ 4 35 #[O,O,O,O,I,O,O,O] HT_.out ?_
       refine pu_ 5 36 #[O,O,O,O,I,I,O,O] HT_.out ?_
       refine tk4_ 0 31 #[I,O,O,O,I,I,O,O] HT_.out HW_.out hHeld ?_
       refine tk4_ 2 33 #[I,O,I,O,I,I,O,O] HT_.out HW_.out hHeld ?_
       refine o1_ 1 32 #[I,I,I,O,I,I,O,O] HT_.out (fun K hK=>?_)
       refine gs_ Tryd.func24 #[.agg #[.int .i64 a0_0,.slice A0_1 l0_1.length c0_1]] ?_
       with_reducible refine (laws_toRing.calls k a0_0 _ _ l0_1 t641 t642 _ ?s1 ?s2 A24.out).mono ?_
       (case s1=>repeat (first | exact (Kd.C_below HR0_1.out HB.out) | (with_reducible refine Kd.C_alloc ?_ _) | (with_reducible refine Kd.C_drewN ?_ _) | (with_reducible refine Kd.C_drew ?_)))
       (case s2=>exact HC0_1.out)
       rintro e w49 ⟨v643,rfl,ho0,hb⟩
       refine ⟨_,rfl,?_⟩
       refine as4_ (Kd.R_lower ho0 (below_size (z5_ HB.out GE637.out GE638.out))) (blkB_ BK637.out hb) (blkB_ BK638.out hb) (below_step (z5_ HB.out GE637.out GE638.out) hb) ?_
       clear BK637 BK638 HB
       intro HO644 BK637 BK638 HB
       (try clear hb)
       (try clear ho0)
       refine hK.out _ _ (cj2_ BK637.out (cc2_ BK638.out)) (fun hHeld=>?_)
       clear hK K
       refine nm_ 32 ?_
       refine o1_ 3 34 #[I,I,I,I,I,I,O,O] HT_.out (fun K hK=>?_)
       refine gs_ Tryd.func24 #[.agg #[.int .i64 a1_0,.slice A1_1 l1_1.length c1_1]] ?_
       with_reducible refine (laws_toRing.calls k a1_0 _ _ l1_1 t645 t646 _ ?s1 ?s2 A25.out).mono ?_
       (case s1=>repeat (first | exact (Kd.C_below HR1_1.out HB.out) | (with_reducible refine Kd.C_alloc ?_ _) | (with_reducible refine Kd.C_drewN ?_ _) | (with_reducible refine Kd.C_drew ?_)))
       (case s2=>exact HC1_1.out)
       rintro e w50 ⟨v647,rfl,ho0,hb⟩
       refine ⟨_,rfl,?_⟩
       refine as5_ (Kd.R_elder' (z1_ HO644.out) (Kd.R_base ho0) hb) (Kd.R_lower (Kd.R_new' ho0 (Kd.R_lt (z1_ HO644.out))) (below_size (z5_ HB.out GE637.out GE638.out))) (blkB_ BK637.out hb) (blkB_ BK638.out hb) (below_step (z5_ HB.out GE637.out GE638.out) hb) ?_
       clear HO644 BK637 BK638 HB
       intro HO644 HO648 BK637 BK638 HB
       (try clear hb)
       (try clear ho0)
       obtain ⟨Ao51,co51,eo51⟩:=Kd.R_slice HO644.out
       (first | subst eo51 | (injection eo51 with f1_ f2_ f3_;have f4_:=f1_.symm;have f5_:=f3_.symm;clear f1_ f2_ f3_;subst f4_;subst f5_))
       obtain ⟨Ao52,co52,eo52⟩:=Kd.R_slice HO648.out
       (first | subst eo52 | (injection eo52 with f1_ f2_ f3_;have f4_:=f1_.symm;have f5_:=f3_.symm;clear f1_ f2_ f3_;subst f4_;subst f5_))
       refine hK.out _ _ (cj2_ BK637.out (cc2_ BK638.out)) (fun hHeld=>?_)
       clear hK K
       refine nm_ 34 ?_
       refine o1_ 6 37 #[I,I,I,I,I,I,I,O] HT_.out (fun K hK=>?_)
       refine gs_ Tryd.func20 #[.agg #[.int .i64 t641,.slice Ao51 t642.length co51],.agg #[.int .i64 t645,.slice Ao52 t646.length co52],.string a2,.int .i64 a3] ?_
       with_reducible refine (spec_Newcomers.calls k t641 _ _ t642 t645 _ _ t646 a2 a3 t649 _ ?s1 ?s2 ?s3 ?s4 A26.out).mono ?_
       (case s1=>repeat (first | exact (Kd.R_reads' HO644.out).2.2 | (with_reducible refine Kd.C_alloc ?_ _) | (with_reducible refine Kd.C_drewN ?_ _) | (with_reducible refine Kd.C_drew ?_)))
       (case s2=>exact (Kd.R_reads' HO644.out).2.1)
       (case s3=>repeat (first | exact (Kd.R_reads' HO648.out).2.2 | (with_reducible refine Kd.C_alloc ?_ _) | (with_reducible refine Kd.C_drewN ?_ _) | (with_reducible refine Kd.C_drew ?_)))
       (case s4=>exact (Kd.R_reads' HO648.out).2.1)
       rintro e w53 ⟨v650,rfl,ho0,hb⟩
       refine ⟨_,rfl,?_⟩
       refine as6_ (Kd.R_below (z1_ HO644.out) hb) (Kd.R_below (z1_ HO648.out) hb) (Kd.R_lower ho0 (below_size (z5_ HB.out GE637.out GE638.out))) (blkB_ BK637.out hb) (blkB_ BK638.out hb) (below_step (z5_ HB.out GE637.out GE638.out) hb) ?_
       clear HO644 HO648 BK637 BK638 HB
       intro HO644 HO648 HO651 BK637 BK638 HB
       (try clear hb)
       (try clear ho0)
       refine hK.out _ _ (cj2_ BK637.out (cc2_ BK638.out)) (fun hHeld=>?_)
       clear hK K
       refine nm_ 37 ?_
       refine pu_ 7 10 #[I,I,I,I,I,I,I,I] HT_.out ?_
       refine done_ (done_of HT_.out (by kernel_rfl)) ?_
       have ⟨hcz54_0,hcz54_1,hfz54_0,hfz54_1⟩:=cz2_ BK637.out
       try go_wp2_with (first | ((with_reducible refine gc_ 24 ?_);refine gl_ (some 39) Tryd.func24 #[.agg #[.int .i64 a0_0,.slice A0_1 l0_1.length c0_1]] ?_;(with_reducible refine (laws_toRing.calls k a0_0 _ _ l0_1 t652 t653 _ ?s1 ?s2 A27.out).mono ?_);(case s1=>repeat (first | exact (Kd.C_below HR0_1.out HB.out) | (with_reducible refine Kd.C_alloc ?_ _) | (with_reducible refine Kd.C_drewN ?_ _) | (with_reducible refine Kd.C_drew ?_)));(case s2=>exact HC0_1.out);rintro e w55 ⟨v654,rfl,ho0,hb⟩;refine ⟨_,rfl,?_⟩;refine as7_ (Kd.R_elder' (z1_ HO644.out) (Kd.R_base ho0) hb) (Kd.R_elder' (z1_ HO648.out) (Kd.R_base ho0) hb) (Kd.R_below (z1_ HO651.out) hb) (Kd.R_lower (Kd.R_new' (Kd.R_new' ho0 (Kd.R_lt (z1_ HO644.out))) (Kd.R_lt (z1_ HO648.out))) (below_size (z5_ HB.out GE637.out GE638.out))) (blkB_ BK637.out hb) (blkB_ BK638.out hb) (below_step (z5_ HB.out GE637.out GE638.out) hb) ?_;clear HO644 HO648 HO651 BK637 BK638 HB;intro HO644 HO648 HO651 HO655 BK637 BK638 HB;(try clear hb);(try clear ho0)) | ((with_reducible refine gd_ 11 ?_);refine be_ 11 #[.int .i64 0,.slice none 0 0] 24 ?_;intro gb656 hg w56 hbox hb;refine as14_ (Kd.R_below (z1_ HO644.out) hb) (Kd.R_below (z1_ HO648.out) hb) (Kd.R_below (z1_ HO651.out) hb) (Kd.R_below (z1_ HO655.out) hb) (blkB_ BK637.out hb) (blkB_ BK638.out hb) (below_step (z5_ HB.out GE637.out GE638.out) hb) (hbox) ((z18_ HB.out GE637.out GE638.out:w.heap.size≤gb656)) ((z18_ HB.out GE637.out GE638.out:w.heap.size≤gb656)) (neL_ BK637.out hg) (neG_ BK637.out hg) (neL_ BK638.out hg) (neG_ BK638.out hg) ?_;clear HO644 HO648 HO651 HO655 BK637 BK638 HB;intro HO644 HO648 HO651 HO655 BK637 BK638 HB BK656 GW656 GE656 NB637_656 NB656_637 NB638_656 NB656_638;clear hb hbox hg;have hnb57:=NB656_637.out;have hnc57:=NB637_656.out;have hnb58:=NB656_638.out;have hnc58:=NB638_656.out;have ⟨hcz59_0,hcz59_1,hfz59_0,hfz59_1⟩:=cz2_ BK656.out;obtain ⟨Ao60,co60,eo60⟩:=Kd.R_slice HO655.out;subst eo60;have ⟨hcz61_0,hcz61_1,hfz61_0,hfz61_1⟩:=cz2_ BK638.out) | ((with_reducible refine gc_ 24 ?_);refine gl_ (some 41) Tryd.func24 #[.agg #[.int .i64 a1_0,.slice A1_1 l1_1.length c1_1]] ?_;(with_reducible refine (laws_toRing.calls k a1_0 _ _ l1_1 t657 t658 _ ?s1 ?s2 A28.out).mono ?_);(case s1=>exact Kd.C_below HR1_1.out (z12_ HB.out GE637.out GE638.out GE656.out));(case s2=>exact HC1_1.out);rintro e w62 ⟨v659,rfl,ho0,hb⟩;refine ⟨_,rfl,?_⟩;refine as9_ (Kd.R_elder' (z16_ HO644.out BK656.out) (Kd.R_base ho0) hb) (Kd.R_elder' (z16_ HO648.out BK656.out) (Kd.R_base ho0) hb) (Kd.R_below (z16_ HO651.out BK656.out) hb) (Kd.R_elder' (z16_ HO655.out BK656.out) (Kd.R_base ho0) hb) (Kd.R_lower (Kd.R_new' (Kd.R_new' (Kd.R_new' ho0 (Kd.R_lt (z16_ HO644.out BK656.out))) (Kd.R_lt (z16_ HO648.out BK656.out))) (Kd.R_lt (z16_ HO655.out BK656.out))) (below_size (z12_ HB.out GE637.out GE638.out GE656.out))) (blk_below (g:=gb637) (o:=.cells #[.int .i64 a0_0,.slice A0_1 l0_1.length c0_1] 44 (0,0)) (z20_ NB637_656.out BK637.out) hb) (blk_below (g:=gb638) (o:=.cells #[.int .i64 a1_0,.slice A1_1 l1_1.length c1_1] 44 (0,0)) (z20_ NB638_656.out BK638.out) hb) (blk_below (g:=gb656) (o:=.cells #[.int .i64 t652,.slice Ao60 t653.length co60] 24 (0,0)) (z27_ BK656.out) hb) (below_step (z12_ HB.out GE637.out GE638.out GE656.out) hb) ?_;clear HO644 HO648 HO651 HO655 BK637 BK638 BK656 HB;intro HO644 HO648 HO651 HO655 HO660 BK637 BK638 BK656 HB;(try clear hb);(try clear hk);(try clear ho0)) | ((with_reducible refine gd_ 12 ?_);refine be_ 12 #[.int .i64 0,.slice none 0 0] 24 ?_;intro gb661 hg w63 hbox hb;refine as18_ (Kd.R_below (z1_ HO644.out) hb) (Kd.R_below (z1_ HO648.out) hb) (Kd.R_below (z1_ HO651.out) hb) (Kd.R_below (z1_ HO655.out) hb) (Kd.R_below (z1_ HO660.out) hb) (blkB_ BK637.out hb) (blkB_ BK638.out hb) (blkB_ BK656.out hb) (below_step (z12_ HB.out GE637.out GE638.out GE656.out) hb) (hbox) ((by rw [hg];exact (below_size (by repeat (first | (with_reducible first | exact HB.out | apply below_alloc | apply pw_below_drewN | apply below_drew1 | refine below_set ?_ GE637.out | refine below_set ?_ GE638.out | refine below_set ?_ GE656.out) | exact HB.out))):w.heap.size≤gb661)) ((by rw [hg];exact (below_size (by repeat (first | (with_reducible first | exact HB.out | apply below_alloc | apply pw_below_drewN | apply below_drew1 | refine below_set ?_ GE637.out | refine below_set ?_ GE638.out | refine below_set ?_ GE656.out) | exact HB.out))):w.heap.size≤gb661)) (neL_ BK637.out hg) (neG_ BK637.out hg) (neL_ BK638.out hg) (neG_ BK638.out hg) (neL_ BK656.out hg) (neG_ BK656.out hg) ?_;clear HO644 HO648 HO651 HO655 HO660 BK637 BK638 BK656 HB;intro HO644 HO648 HO651 HO655 HO660 BK637 BK638 BK656 HB BK661 GW661 GE661 NB637_661 NB661_637 NB638_661 NB661_638 NB656_661 NB661_656;clear hb hbox hg;have hnb64:=NB661_637.out;have hnc64:=NB637_661.out;have hnb65:=NB661_638.out;have hnc65:=NB638_661.out;have hnb66:=NB661_656.out;have hnc66:=NB656_661.out;have ⟨hcz67_0,hcz67_1,hfz67_0,hfz67_1⟩:=cz2_ BK661.out;obtain ⟨Ao68,co68,eo68⟩:=Kd.R_slice HO660.out;subst eo68;have ⟨hcz69_0,hcz69_1,hfz69_0,hfz69_1⟩:=cz2_ BK656.out) | ((with_reducible refine gc_ 19 ?_);refine gl_ (some 46) Tryd.func19 #[.agg #[.int .i64 t652,.slice Ao60 t653.length co60],.agg #[.int .i64 t657,.slice Ao68 t658.length co68],.string a2,.int .i64 a3] ?_;(with_reducible refine (impl_Newcomers.calls k t652 _ _ t653 t657 _ _ t658 a2 a3 t662 _ ?s1 ?s2 ?s3 ?s4 A29.out).mono ?_);(case s1=>refine (Kd.R_reads' (e:=77) (base:=w.heap.size) (ok:=fun k_=>(((True∧some k_≠(.slice Ao51 t642.length co51:Value).ownBlock)∧some k_≠(.slice Ao52 t646.length co52:Value).ownBlock)∧some k_≠(.slice Ao68 t658.length co68:Value).ownBlock)) (n:=t653.length) (c:=co60) ?_).2.2;exact (z16_ HO655.out BK661.out));(case s2=>exact (Kd.R_reads' HO655.out).2.1);(case s3=>refine (Kd.R_reads' (e:=77) (base:=w.heap.size) (ok:=fun k_=>(((True∧some k_≠(.slice Ao51 t642.length co51:Value).ownBlock)∧some k_≠(.slice Ao52 t646.length co52:Value).ownBlock)∧some k_≠(.slice Ao60 t653.length co60:Value).ownBlock)) (n:=t658.length) (c:=co68) ?_).2.2;exact (z16_ HO660.out BK661.out));(case s4=>exact (Kd.R_reads' HO660.out).2.1);rintro e w70 ⟨v663,rfl,ho0,hb⟩;refine ⟨_,rfl,?_⟩;refine as11_ (Kd.R_below (z16_ HO644.out BK661.out) hb) (Kd.R_below (z16_ HO648.out BK661.out) hb) (Kd.R_elder' (z16_ HO651.out BK661.out) (Kd.R_base ho0) hb) (Kd.R_below (z16_ HO655.out BK661.out) hb) (Kd.R_below (z16_ HO660.out BK661.out) hb) (Kd.R_lower (Kd.R_new' ho0 (Kd.R_lt (z16_ HO651.out BK661.out))) (below_size (z15_ HB.out GE637.out GE638.out GE656.out GE661.out))) (blk_below (g:=gb637) (o:=.cells #[.int .i64 a0_0,.slice A0_1 l0_1.length c0_1] 44 (0,0)) (z20_ NB637_661.out BK637.out) hb) (blk_below (g:=gb638) (o:=.cells #[.int .i64 a1_0,.slice A1_1 l1_1.length c1_1] 44 (0,0)) (z20_ NB638_661.out BK638.out) hb) (blk_below (g:=gb656) (o:=.cells #[.int .i64 t652,.slice Ao60 t653.length co60] 24 (0,0)) (z20_ NB656_661.out BK656.out) hb) (blk_below (g:=gb661) (o:=.cells #[.int .i64 t657,.slice Ao68 t658.length co68] 24 (0,0)) (z27_ BK661.out) hb) (below_step (z15_ HB.out GE637.out GE638.out GE656.out GE661.out) hb) ?_;clear HO644 HO648 HO651 HO655 HO660 BK637 BK638 BK656 BK661 HB;intro HO644 HO648 HO651 HO655 HO660 HO664 BK637 BK638 BK656 BK661 HB;(try clear hb);(try clear hk);(try clear ho0);obtain ⟨Ao71,co71,eo71⟩:=Kd.R_slice HO664.out;subst eo71;obtain ⟨Ao72,co72,eo72⟩:=Kd.R_slice HO651.out;subst eo72) | ((with_reducible refine gc_ 25 ?_);refine gl_ (some 49) Tryd.func25 #[.slice Ao71 t662.length co71,.slice Ao72 t649.length co72] ?_;(with_reducible refine (laws_eqInt64S.calls k _ _ t662 _ _ t649 true _ ?s1 ?s2 ?s3 ?s4 A30.out).mono ?_);(case s1=>repeat (first | exact (Kd.R_reads' HO664.out).2.2 | (with_reducible refine Kd.C_alloc ?_ _) | (with_reducible refine Kd.C_drewN ?_ _) | (with_reducible refine Kd.C_drew ?_)));(case s2=>exact (Kd.R_reads' HO664.out).2.1);(case s3=>repeat (first | exact (Kd.R_reads' HO651.out).2.2 | (with_reducible refine Kd.C_alloc ?_ _) | (with_reducible refine Kd.C_drewN ?_ _) | (with_reducible refine Kd.C_drew ?_)));(case s4=>exact (Kd.R_reads' HO651.out).2.1);rintro e w' ⟨rfl,⟨nd,rfl⟩⟩;refine ⟨_,rfl,?_⟩))
       (try (rw [drewN_self w70];generalize hq_:World.drewN w70 _=w70;have n0_:Aside0 (Kd.R k77 77 w70 w.heap.size (fun k_=>((True∧some k_≠(.slice Ao52 t646.length co52:Value).ownBlock)∧some k_≠(.slice Ao60 t653.length co60:Value).ownBlock)∧some k_≠(.slice Ao68 t658.length co68:Value).ownBlock) (.slice Ao51 t642.length co51) t642):=⟨z22_ HO644.out⟩;have n1_:Aside0 (Kd.R k77 77 w70 w.heap.size (fun k_=>((True∧some k_≠(.slice Ao51 t642.length co51:Value).ownBlock)∧some k_≠(.slice Ao60 t653.length co60:Value).ownBlock)∧some k_≠(.slice Ao68 t658.length co68:Value).ownBlock) (.slice Ao52 t646.length co52) t646):=⟨z22_ HO648.out⟩;have n2_:Aside0 (Kd.R (Kd.int .i64) 2 w70 w.heap.size (fun k_=>True∧some k_≠(.slice Ao71 t662.length co71:Value).ownBlock) (.slice Ao72 t649.length co72) t649):=⟨z22_ HO651.out⟩;have n3_:Aside0 (Kd.R k77 77 w70 w.heap.size (fun k_=>((True∧some k_≠(.slice Ao51 t642.length co51:Value).ownBlock)∧some k_≠(.slice Ao52 t646.length co52:Value).ownBlock)∧some k_≠(.slice Ao68 t658.length co68:Value).ownBlock) (.slice Ao60 t653.length co60) t653):=⟨z22_ HO655.out⟩;have n4_:Aside0 (Kd.R k77 77 w70 w.heap.size (fun k_=>((True∧some k_≠(.slice Ao51 t642.length co51:Value).ownBlock)∧some k_≠(.slice Ao52 t646.length co52:Value).ownBlock)∧some k_≠(.slice Ao60 t653.length co60:Value).ownBlock) (.slice Ao68 t658.length co68) t658):=⟨z22_ HO660.out⟩;have n5_:Aside0 (Kd.R (Kd.int .i64) 2 w70 w.heap.size (fun k_=>True∧some k_≠(.slice Ao72 t649.length co72:Value).ownBlock) (.slice Ao71 t662.length co71) t662):=⟨z22_ HO664.out⟩;have n6_:Aside0 (w70.heap[gb637]? = some (.cells #[.int .i64 a0_0,.slice A0_1 l0_1.length c0_1] 44 (0,0))):=⟨z21_ BK637.out⟩;have n7_:Aside0 (w70.heap[gb638]? = some (.cells #[.int .i64 a1_0,.slice A1_1 l1_1.length c1_1] 44 (0,0))):=⟨z21_ BK638.out⟩;have n8_:Aside0 (w70.heap[gb656]? = some (.cells #[.int .i64 t652,.slice Ao60 t653.length co60] 24 (0,0))):=⟨z21_ BK656.out⟩;have n9_:Aside0 (w70.heap[gb661]? = some (.cells #[.int .i64 t657,.slice Ao68 t658.length co68] 24 (0,0))):=⟨z21_ BK661.out⟩;have n10_:Aside0 (Below w.heap.size w w70):=⟨by rw [← hq_];exact (by repeat (first | (with_reducible first | exact HB.out | apply below_alloc | apply pw_below_drewN | apply below_drew1 | refine below_set ?_ GE637.out | refine below_set ?_ GE638.out | refine below_set ?_ GE656.out | refine below_set ?_ GE661.out) | exact HB.out))⟩;clear HO644 HO648 HO651 HO655 HO660 HO664 BK637 BK638 BK656 BK661 HB hq_;have HO644:=n0_;have HO648:=n1_;have HO651:=n2_;have HO655:=n3_;have HO660:=n4_;have HO664:=n5_;have BK637:=n6_;have BK638:=n7_;have BK656:=n8_;have BK661:=n9_;have HB:=n10_;clear n0_ n1_ n2_ n3_ n4_ n5_ n6_ n7_ n8_ n9_ n10_))
       refine as11_ (Kd.R_drew HO644.out) (Kd.R_drew HO648.out) (Kd.R_drew HO651.out) (Kd.R_drew HO655.out) (Kd.R_drew HO660.out) (Kd.R_drew HO664.out) (blk_drew BK637.out) (blk_drew BK638.out) (blk_drew BK656.out) (blk_drew BK661.out) (below_drew1 HB.out) ?_
       clear HO644 HO648 HO651 HO655 HO660 HO664 BK637 BK638 BK656 BK661 HB
       intro HO644 HO648 HO651 HO655 HO660 HO664 BK637 BK638 BK656 BK661 HB
       refine start_ (n:=5) (S:=fun w'=>w'.cell? ⟨gb656,0,none⟩=some (.int .i64 t652)∧w'.cell? ⟨gb656,1,none⟩=some (.slice Ao60 t653.length co60)∧w'.cell? ⟨gb637,0,none⟩=some (.int .i64 a0_0)∧w'.cell? ⟨gb637,1,none⟩=some (.slice A0_1 l0_1.length c0_1)) (ds:=[]) #[O,O,O,O,O] (by kernel_rfl) rfl rfl (cj2_ BK656.out (cc2_ BK637.out)) (fun hHeld=>?_)
       generalize w70.drew=w73 at HO644 HO648 HO651 HO655 HO660 HO664 BK637 BK638 BK656 BK661 HB hHeld ⊢
       refine take_ (i:=0) (N:=some 51) (v:=?_) (a':=?_) #[I,O,O,O,O] rfl rfl (by kernel_rfl) (fun _ _ _ h=>h) (Or.inl ⟨by rfl,?_⟩) hHeld ?_ ?_
       rotate_left
       ·rintro w' ⟨s0,s1,s2,s3⟩
        go_simp
        with_reducible rfl
       rotate_left
       ·simp only [Act.put,sa_,s0_,ss_,i64_w,i32_w]
        rfl
       refine take_ (i:=1) (N:=some 52) (v:=?_) (a':=?_) #[I,I,O,O,O] rfl rfl (by kernel_rfl) (fun _ _ _ h=>h) (Or.inl ⟨by rfl,?_⟩) hHeld ?_ ?_
       rotate_left
       ·rintro w' ⟨s0,s1,s2,s3⟩
        go_simp
        with_reducible rfl
       rotate_left
       ·simp only [Act.put,sa_,s0_,ss_,i64_w,i32_w]
        rfl
       refine one_ (i:=2) (N:=some 53) #[I,I,I,O,O] rfl rfl (by kernel_rfl) (by decide) (fun K hK=>?_)
       refine gs_ Tryd.func24 #[.agg #[.int .i64 a0_0,.slice A0_1 l0_1.length c0_1]] ?_
       with_reducible refine (laws_toRing.calls k a0_0 _ _ l0_1 t666 t667 _ ?s1 ?s2 A32.out).mono ?_
       (case s1=>repeat (first | exact (Kd.C_below HR0_1.out HB.out) | (with_reducible refine Kd.C_alloc ?_ _) | (with_reducible refine Kd.C_drewN ?_ _) | (with_reducible refine Kd.C_drew ?_)))
       (case s2=>exact HC0_1.out)
       rintro e w74 ⟨v668,rfl,ho0,hb⟩
       refine ⟨_,rfl,?_⟩
       refine as12_ (Kd.R_elder' (z1_ HO644.out) (Kd.R_base ho0) hb) (Kd.R_elder' (z1_ HO648.out) (Kd.R_base ho0) hb) (Kd.R_below (z1_ HO651.out) hb) (Kd.R_elder' (z1_ HO655.out) (Kd.R_base ho0) hb) (Kd.R_elder' (z1_ HO660.out) (Kd.R_base ho0) hb) (Kd.R_below (z1_ HO664.out) hb) (Kd.R_lower (Kd.R_new' (Kd.R_new' (Kd.R_new' (Kd.R_new' ho0 (Kd.R_lt (z1_ HO644.out))) (Kd.R_lt (z1_ HO648.out))) (Kd.R_lt (z1_ HO655.out))) (Kd.R_lt (z1_ HO660.out))) (below_size (z15_ HB.out GE637.out GE638.out GE656.out GE661.out))) (blkB_ BK637.out hb) (blkB_ BK638.out hb) (blkB_ BK656.out hb) (blkB_ BK661.out hb) (below_step (z15_ HB.out GE637.out GE638.out GE656.out GE661.out) hb) ?_
       clear HO644 HO648 HO651 HO655 HO660 HO664 BK637 BK638 BK656 BK661 HB
       intro HO644 HO648 HO651 HO655 HO660 HO664 HO669 BK637 BK638 BK656 BK661 HB
       (try clear hb)
       (try clear ho0)
       obtain ⟨Ao75,co75,eo75⟩:=Kd.R_slice HO669.out
       (first | subst eo75 | (injection eo75 with f1_ f2_ f3_;have f4_:=f1_.symm;have f5_:=f3_.symm;clear f1_ f2_ f3_;subst f4_;subst f5_))
       refine hK.out _ _ (cj2_ BK656.out (cc2_ BK637.out)) (fun hHeld=>?_)
       clear hK K
       refine nm_ 53 ?_
       refine one_ (i:=3) (N:=some 54) #[I,I,I,I,O] rfl rfl (by kernel_rfl) (by decide) (fun K hK=>?_)
       refine gs_ Tryd.func26 #[.agg #[.int .i64 t652,.slice Ao60 t653.length co60],.agg #[.int .i64 t666,.slice Ao75 t667.length co75]] ?_
       with_reducible refine (laws_eqRing.calls k t652 _ _ t653 t666 _ _ t667 true _ ?s1 ?s2 ?s3 ?s4 A33.out).mono ?_
       (case s1=>repeat (first | exact (Kd.R_reads' HO655.out).2.2 | (with_reducible refine Kd.C_alloc ?_ _) | (with_reducible refine Kd.C_drewN ?_ _) | (with_reducible refine Kd.C_drew ?_)))
       (case s2=>exact (Kd.R_reads' HO655.out).2.1)
       (case s3=>repeat (first | exact (Kd.R_reads' HO669.out).2.2 | (with_reducible refine Kd.C_alloc ?_ _) | (with_reducible refine Kd.C_drewN ?_ _) | (with_reducible refine Kd.C_drew ?_)))
       (case s4=>exact (Kd.R_reads' HO669.out).2.1)
       rintro e w76 ⟨rfl,hb⟩
       refine ⟨_,rfl,?_⟩
       refine as12_ (Kd.R_below (z1_ HO644.out) hb) (Kd.R_below (z1_ HO648.out) hb) (Kd.R_below (z1_ HO651.out) hb) (Kd.R_below (z1_ HO655.out) hb) (Kd.R_below (z1_ HO660.out) hb) (Kd.R_below (z1_ HO664.out) hb) (Kd.R_below (z1_ HO669.out) hb) (blkB_ BK637.out hb) (blkB_ BK638.out hb) (blkB_ BK656.out hb) (blkB_ BK661.out hb) (below_step (z15_ HB.out GE637.out GE638.out GE656.out GE661.out) hb) ?_
       clear HO644 HO648 HO651 HO655 HO660 HO664 HO669 BK637 BK638 BK656 BK661 HB
       intro HO644 HO648 HO651 HO655 HO660 HO664 HO669 BK637 BK638 BK656 BK661 HB
       (try clear hb)
       refine hK.out _ _ (cj2_ BK656.out (cc2_ BK637.out)) (fun hHeld=>?_)
       clear hK K
       refine nm_ 54 ?_
       refine pure_ (i:=4) (N:=some 55) (v:=?_) (a':=?_) #[I,I,I,I,I] rfl rfl (by kernel_rfl) (fun _ _ _ h=>h) (Or.inl ⟨by rfl,?_⟩) ?_ ?_
       rotate_left
       ·intro w'
        go_simp
        with_reducible rfl
       rotate_left
       ·simp only [Act.put,sa_,s0_,ss_,i64_w,i32_w]
        rfl
       refine done_ (by kernel_rfl) ?_
       try go_wp2
       refine as12_ (Kd.R_drew HO644.out) (Kd.R_drew HO648.out) (Kd.R_drew HO651.out) (Kd.R_drew HO655.out) (Kd.R_drew HO660.out) (Kd.R_drew HO664.out) (Kd.R_drew HO669.out) (blk_drew BK637.out) (blk_drew BK638.out) (blk_drew BK656.out) (blk_drew BK661.out) (below_drew1 HB.out) ?_
       clear HO644 HO648 HO651 HO655 HO660 HO664 HO669 BK637 BK638 BK656 BK661 HB
       intro HO644 HO648 HO651 HO655 HO660 HO664 HO669 BK637 BK638 BK656 BK661 HB
       refine start_ (n:=5) (S:=fun w'=>w'.cell? ⟨gb661,0,none⟩=some (.int .i64 t657)∧w'.cell? ⟨gb661,1,none⟩=some (.slice Ao68 t658.length co68)∧w'.cell? ⟨gb638,0,none⟩=some (.int .i64 a1_0)∧w'.cell? ⟨gb638,1,none⟩=some (.slice A1_1 l1_1.length c1_1)) (ds:=[]) #[O,O,O,O,O] (by kernel_rfl) rfl rfl (cj2_ BK661.out (cc2_ BK638.out)) (fun hHeld=>?_)
       generalize w76.drew=w77 at HO644 HO648 HO651 HO655 HO660 HO664 HO669 BK637 BK638 BK656 BK661 HB hHeld ⊢
       refine take_ (i:=0) (N:=some 56) (v:=?_) (a':=?_) #[I,O,O,O,O] rfl rfl (by kernel_rfl) (fun _ _ _ h=>h) (Or.inl ⟨by rfl,?_⟩) hHeld ?_ ?_
       rotate_left
       ·rintro w' ⟨s0,s1,s2,s3⟩
        go_simp
        with_reducible rfl
       rotate_left
       ·simp only [Act.put,sa_,s0_,ss_,i64_w,i32_w]
        rfl
       refine take_ (i:=1) (N:=some 57) (v:=?_) (a':=?_) #[I,I,O,O,O] rfl rfl (by kernel_rfl) (fun _ _ _ h=>h) (Or.inl ⟨by rfl,?_⟩) hHeld ?_ ?_
       rotate_left
       ·rintro w' ⟨s0,s1,s2,s3⟩
        go_simp
        with_reducible rfl
       rotate_left
       ·simp only [Act.put,sa_,s0_,ss_,i64_w,i32_w]
        rfl
       refine one_ (i:=2) (N:=some 58) #[I,I,I,O,O] rfl rfl (by kernel_rfl) (by decide) (fun K hK=>?_)
       refine gs_ Tryd.func24 #[.agg #[.int .i64 a1_0,.slice A1_1 l1_1.length c1_1]] ?_
       with_reducible refine (laws_toRing.calls k a1_0 _ _ l1_1 t671 t672 _ ?s1 ?s2 A35.out).mono ?_
       (case s1=>repeat (first | exact (Kd.C_below HR1_1.out HB.out) | (with_reducible refine Kd.C_alloc ?_ _) | (with_reducible refine Kd.C_drewN ?_ _) | (with_reducible refine Kd.C_drew ?_)))
       (case s2=>exact HC1_1.out)
       rintro e w78 ⟨v673,rfl,ho0,hb⟩
       refine ⟨_,rfl,?_⟩
       refine as13_ (Kd.R_elder' (z1_ HO644.out) (Kd.R_base ho0) hb) (Kd.R_elder' (z1_ HO648.out) (Kd.R_base ho0) hb) (Kd.R_below (z1_ HO651.out) hb) (Kd.R_elder' (z1_ HO655.out) (Kd.R_base ho0) hb) (Kd.R_elder' (z1_ HO660.out) (Kd.R_base ho0) hb) (Kd.R_below (z1_ HO664.out) hb) (Kd.R_elder' (z1_ HO669.out) (Kd.R_base ho0) hb) (Kd.R_lower (Kd.R_new' (Kd.R_new' (Kd.R_new' (Kd.R_new' (Kd.R_new' ho0 (Kd.R_lt (z1_ HO644.out))) (Kd.R_lt (z1_ HO648.out))) (Kd.R_lt (z1_ HO655.out))) (Kd.R_lt (z1_ HO660.out))) (Kd.R_lt (z1_ HO669.out))) (below_size (z15_ HB.out GE637.out GE638.out GE656.out GE661.out))) (blkB_ BK637.out hb) (blkB_ BK638.out hb) (blkB_ BK656.out hb) (blkB_ BK661.out hb) (below_step (z15_ HB.out GE637.out GE638.out GE656.out GE661.out) hb) ?_
       clear HO644 HO648 HO651 HO655 HO660 HO664 HO669 BK637 BK638 BK656 BK661 HB
       intro HO644 HO648 HO651 HO655 HO660 HO664 HO669 HO674 BK637 BK638 BK656 BK661 HB
       (try clear hb)
       (try clear ho0)
       obtain ⟨Ao79,co79,eo79⟩:=Kd.R_slice HO674.out
       (first | subst eo79 | (injection eo79 with f1_ f2_ f3_;have f4_:=f1_.symm;have f5_:=f3_.symm;clear f1_ f2_ f3_;subst f4_;subst f5_))
       refine hK.out _ _ (cj2_ BK661.out (cc2_ BK638.out)) (fun hHeld=>?_)
       clear hK K
       refine nm_ 58 ?_
       refine one_ (i:=3) (N:=some 59) #[I,I,I,I,O] rfl rfl (by kernel_rfl) (by decide) (fun K hK=>?_)
       refine gs_ Tryd.func26 #[.agg #[.int .i64 t657,.slice Ao68 t658.length co68],.agg #[.int .i64 t671,.slice Ao79 t672.length co79]] ?_
       with_reducible refine (laws_eqRing.calls k t657 _ _ t658 t671 _ _ t672 true _ ?s1 ?s2 ?s3 ?s4 A36.out).mono ?_
       (case s1=>repeat (first | exact (Kd.R_reads' HO660.out).2.2 | (with_reducible refine Kd.C_alloc ?_ _) | (with_reducible refine Kd.C_drewN ?_ _) | (with_reducible refine Kd.C_drew ?_)))
       (case s2=>exact (Kd.R_reads' HO660.out).2.1)
       (case s3=>repeat (first | exact (Kd.R_reads' HO674.out).2.2 | (with_reducible refine Kd.C_alloc ?_ _) | (with_reducible refine Kd.C_drewN ?_ _) | (with_reducible refine Kd.C_drew ?_)))
       (case s4=>exact (Kd.R_reads' HO674.out).2.1)
       rintro e w80 ⟨rfl,hb⟩
       refine ⟨_,rfl,?_⟩
       refine as13_ (Kd.R_below (z1_ HO644.out) hb) (Kd.R_below (z1_ HO648.out) hb) (Kd.R_below (z1_ HO651.out) hb) (Kd.R_below (z1_ HO655.out) hb) (Kd.R_below (z1_ HO660.out) hb) (Kd.R_below (z1_ HO664.out) hb) (Kd.R_below (z1_ HO669.out) hb) (Kd.R_below (z1_ HO674.out) hb) (blkB_ BK637.out hb) (blkB_ BK638.out hb) (blkB_ BK656.out hb) (blkB_ BK661.out hb) (below_step (z15_ HB.out GE637.out GE638.out GE656.out GE661.out) hb) ?_
       clear HO644 HO648 HO651 HO655 HO660 HO664 HO669 HO674 BK637 BK638 BK656 BK661 HB
       intro HO644 HO648 HO651 HO655 HO660 HO664 HO669 HO674 BK637 BK638 BK656 BK661 HB
       (try clear hb)
       refine hK.out _ _ (cj2_ BK661.out (cc2_ BK638.out)) (fun hHeld=>?_)
       clear hK K
       refine nm_ 59 ?_
       refine pure_ (i:=4) (N:=some 60) (v:=?_) (a':=?_) #[I,I,I,I,I] rfl rfl (by kernel_rfl) (fun _ _ _ h=>h) (Or.inl ⟨by rfl,?_⟩) ?_ ?_
       rotate_left
       ·intro w'
        go_simp
        with_reducible rfl
       rotate_left
       ·simp only [Act.put,sa_,s0_,ss_,i64_w,i32_w]
        rfl
       refine done_ (by kernel_rfl) ?_
       have ⟨hcz81_0,hcz81_1,hfz81_0,hfz81_1⟩:=cz2_ BK656.out
       go_upto_region 23 with (first | ((with_reducible refine gc_ 27 ?_);refine gl_ (some 63) Tryd.func27 #[.agg #[.int .i64 t652,.slice Ao60 t653.length co60],.int .i64 1] ?_;(with_reducible refine (laws_markRing.calls k t652 (fun k_=>some k_=(.slice Ao60 t653.length co60:Value).ownBlock) (.slice Ao60 t653.length co60) t653 1 t676 t677 w _ ?s1 ?s2 A38.out).mono ?_);(case s1=>repeat (first | (with_reducible first | exact HB.out | apply below_alloc | apply pw_below_drewN | apply below_drew1 | refine below_set ?_ GE637.out | refine below_set ?_ GE638.out | refine below_set ?_ GE656.out | refine below_set ?_ GE661.out) | exact HB.out));(case s2=>exact Kd.R_tight rfl HO655.out);rintro e w82 ⟨rfl,hy0,hb,hkp⟩;refine ⟨_,rfl,?_⟩;refine as13_ (blk_kept (z3_ BK637.out) hkp (fun hs_=>(fun e_=>(Kd.R_ne HO655.out BK637.out (by decide)) e_) hs_)) (blk_kept (z3_ BK638.out) hkp (fun hs_=>(fun e_=>(Kd.R_ne HO655.out BK638.out (by decide)) e_) hs_)) (Kd.R_mono (ok':=fun k_=>some k_≠(.slice Ao52 t646.length co52:Value).ownBlock∧some k_≠(.slice Ao60 t653.length co60:Value).ownBlock∧some k_≠(.slice Ao68 t658.length co68:Value).ownBlock∧some k_≠(.slice Ao75 t667.length co75:Value).ownBlock∧some k_≠(.slice Ao79 t672.length co79:Value).ownBlock) (Kd.R_keptB (HO644.out) hkp (fun k_ hk_ hs_=>(hk_.1.1.1.2) hs_)) (fun k_ hk_=>⟨hk_.1.1.1.1.1.2,hk_.1.1.1.1.2,hk_.1.1.1.2,hk_.1.1.2,hk_.1.2⟩)) (Kd.R_mono (ok':=fun k_=>some k_≠(.slice Ao51 t642.length co51:Value).ownBlock∧some k_≠(.slice Ao60 t653.length co60:Value).ownBlock∧some k_≠(.slice Ao68 t658.length co68:Value).ownBlock∧some k_≠(.slice Ao75 t667.length co75:Value).ownBlock∧some k_≠(.slice Ao79 t672.length co79:Value).ownBlock) (Kd.R_keptB (HO648.out) hkp (fun k_ hk_ hs_=>(hk_.1.1.1.2) hs_)) (fun k_ hk_=>⟨hk_.1.1.1.1.1.2,hk_.1.1.1.1.2,hk_.1.1.1.2,hk_.1.1.2,hk_.1.2⟩)) (Kd.R_mono (ok':=fun k_=>some k_≠(.slice Ao71 t662.length co71:Value).ownBlock) (Kd.R_keptB ((Kd.R_apart' HO651.out (Kd.R_typed HO655.out) (by decide))) hkp (fun k_ hk_ hs_=>(hk_.2) hs_)) (fun k_ hk_=>hk_.1.1.2)) (Kd.R_reok rfl hy0 (fun k_ e_=>HO655.out.1 k_ e_)) (blk_kept (z3_ BK656.out) hkp (fun hs_=>(fun e_=>(Kd.R_ne HO655.out BK656.out (by decide)) e_) hs_)) (Kd.R_mono (ok':=fun k_=>some k_≠(.slice Ao51 t642.length co51:Value).ownBlock∧some k_≠(.slice Ao52 t646.length co52:Value).ownBlock∧some k_≠(.slice Ao60 t653.length co60:Value).ownBlock∧some k_≠(.slice Ao75 t667.length co75:Value).ownBlock∧some k_≠(.slice Ao79 t672.length co79:Value).ownBlock) (Kd.R_keptB (HO660.out) hkp (fun k_ hk_ hs_=>(hk_.1.1.2) hs_)) (fun k_ hk_=>⟨hk_.1.1.1.1.1.2,hk_.1.1.1.1.2,hk_.1.1.1.2,hk_.1.1.2,hk_.1.2⟩)) (blk_kept (z3_ BK661.out) hkp (fun hs_=>(fun e_=>(Kd.R_ne HO655.out BK661.out (by decide)) e_) hs_)) (Kd.R_mono (ok':=fun k_=>some k_≠(.slice Ao72 t649.length co72:Value).ownBlock) (Kd.R_keptB ((Kd.R_apart' HO664.out (Kd.R_typed HO655.out) (by decide))) hkp (fun k_ hk_ hs_=>(hk_.2) hs_)) (fun k_ hk_=>hk_.1.1.2)) (Kd.R_mono (ok':=fun k_=>some k_≠(.slice Ao51 t642.length co51:Value).ownBlock∧some k_≠(.slice Ao52 t646.length co52:Value).ownBlock∧some k_≠(.slice Ao60 t653.length co60:Value).ownBlock∧some k_≠(.slice Ao68 t658.length co68:Value).ownBlock∧some k_≠(.slice Ao79 t672.length co79:Value).ownBlock) (Kd.R_keptB (HO669.out) hkp (fun k_ hk_ hs_=>(hk_.1.1.2) hs_)) (fun k_ hk_=>⟨hk_.1.1.1.1.1.2,hk_.1.1.1.1.2,hk_.1.1.1.2,hk_.1.1.2,hk_.1.2⟩)) (Kd.R_mono (ok':=fun k_=>some k_≠(.slice Ao51 t642.length co51:Value).ownBlock∧some k_≠(.slice Ao52 t646.length co52:Value).ownBlock∧some k_≠(.slice Ao60 t653.length co60:Value).ownBlock∧some k_≠(.slice Ao68 t658.length co68:Value).ownBlock∧some k_≠(.slice Ao75 t667.length co75:Value).ownBlock) (Kd.R_keptB (HO674.out) hkp (fun k_ hk_ hs_=>(hk_.1.1.2) hs_)) (fun k_ hk_=>⟨hk_.1.1.1.1.1.2,hk_.1.1.1.1.2,hk_.1.1.1.2,hk_.1.1.2,hk_.1.2⟩)) (hb) ?_;clear BK637 BK638 HO644 HO648 HO651 HO655 BK656 HO660 BK661 HO664 HO669 HO674 HB;intro BK637 BK638 HO644 HO648 HO651 HO655 BK656 HO660 BK661 HO664 HO669 HO674 HB;(try clear hb);(try clear hkp);(try clear hy0);have ⟨hcz83_0,hcz83_1,hfz83_0,hfz83_1⟩:=cz2_ BK661.out) | ((with_reducible refine gc_ 27 ?_);refine gl_ (some 66) Tryd.func27 #[.agg #[.int .i64 t657,.slice Ao68 t658.length co68],.int .i64 t676] ?_;(with_reducible refine (laws_markRing.calls k t657 (fun k_=>some k_=(.slice Ao68 t658.length co68:Value).ownBlock) (.slice Ao68 t658.length co68) t658 t676 t678 t679 w _ ?s1 ?s2 A39.out).mono ?_);(case s1=>repeat (first | (with_reducible first | exact HB.out | apply below_alloc | apply pw_below_drewN | apply below_drew1 | refine below_set ?_ GE637.out | refine below_set ?_ GE638.out | refine below_set ?_ GE656.out | refine below_set ?_ GE661.out) | exact HB.out));(case s2=>exact Kd.R_tight rfl HO660.out);rintro e w84 ⟨rfl,hy0,hb,hkp⟩;refine ⟨_,rfl,?_⟩;refine as13_ (blk_kept (z3_ BK637.out) hkp (fun hs_=>(fun e_=>(Kd.R_ne HO660.out BK637.out (by decide)) e_) hs_)) (blk_kept (z3_ BK638.out) hkp (fun hs_=>(fun e_=>(Kd.R_ne HO660.out BK638.out (by decide)) e_) hs_)) (Kd.R_mono (ok':=fun k_=>some k_≠(.slice Ao52 t646.length co52:Value).ownBlock∧some k_≠(.slice Ao60 t653.length co60:Value).ownBlock∧some k_≠(.slice Ao68 t658.length co68:Value).ownBlock∧some k_≠(.slice Ao75 t667.length co75:Value).ownBlock∧some k_≠(.slice Ao79 t672.length co79:Value).ownBlock) (Kd.R_keptB (HO644.out) hkp (fun k_ hk_ hs_=>(hk_.2.2.1) hs_)) (fun k_ hk_=>⟨hk_.1.1,hk_.1.2.1,hk_.1.2.2.1,hk_.1.2.2.2.1,hk_.1.2.2.2.2⟩)) (Kd.R_mono (ok':=fun k_=>some k_≠(.slice Ao51 t642.length co51:Value).ownBlock∧some k_≠(.slice Ao60 t653.length co60:Value).ownBlock∧some k_≠(.slice Ao68 t658.length co68:Value).ownBlock∧some k_≠(.slice Ao75 t667.length co75:Value).ownBlock∧some k_≠(.slice Ao79 t672.length co79:Value).ownBlock) (Kd.R_keptB (HO648.out) hkp (fun k_ hk_ hs_=>(hk_.2.2.1) hs_)) (fun k_ hk_=>⟨hk_.1.1,hk_.1.2.1,hk_.1.2.2.1,hk_.1.2.2.2.1,hk_.1.2.2.2.2⟩)) (Kd.R_mono (ok':=fun k_=>some k_≠(.slice Ao71 t662.length co71:Value).ownBlock) (Kd.R_keptB ((Kd.R_apart' HO651.out (Kd.R_typed HO660.out) (by decide))) hkp (fun k_ hk_ hs_=>(hk_.2) hs_)) (fun k_ hk_=>hk_.1.1)) (Kd.R_mono (ok':=fun k_=>some k_≠(.slice Ao51 t642.length co51:Value).ownBlock∧some k_≠(.slice Ao52 t646.length co52:Value).ownBlock∧some k_≠(.slice Ao68 t658.length co68:Value).ownBlock∧some k_≠(.slice Ao75 t667.length co75:Value).ownBlock∧some k_≠(.slice Ao79 t672.length co79:Value).ownBlock) (Kd.R_keptB (HO655.out) hkp (fun k_ hk_ hs_=>(hk_.1.1.2) hs_)) (fun k_ hk_=>⟨hk_.1.1.1.1.1.2,hk_.1.1.1.1.2,hk_.1.1.1.2,hk_.1.1.2,hk_.1.2⟩)) (blk_kept (z3_ BK656.out) hkp (fun hs_=>(fun e_=>(Kd.R_ne HO660.out BK656.out (by decide)) e_) hs_)) (Kd.R_reok rfl hy0 (fun k_ e_=>HO660.out.1 k_ e_)) (blk_kept (z3_ BK661.out) hkp (fun hs_=>(fun e_=>(Kd.R_ne HO660.out BK661.out (by decide)) e_) hs_)) (Kd.R_mono (ok':=fun k_=>some k_≠(.slice Ao72 t649.length co72:Value).ownBlock) (Kd.R_keptB ((Kd.R_apart' HO664.out (Kd.R_typed HO660.out) (by decide))) hkp (fun k_ hk_ hs_=>(hk_.2) hs_)) (fun k_ hk_=>hk_.1.1)) (Kd.R_mono (ok':=fun k_=>some k_≠(.slice Ao51 t642.length co51:Value).ownBlock∧some k_≠(.slice Ao52 t646.length co52:Value).ownBlock∧some k_≠(.slice Ao60 t653.length co60:Value).ownBlock∧some k_≠(.slice Ao68 t658.length co68:Value).ownBlock∧some k_≠(.slice Ao79 t672.length co79:Value).ownBlock) (Kd.R_keptB (HO669.out) hkp (fun k_ hk_ hs_=>(hk_.2.2.2.1) hs_)) (fun k_ hk_=>⟨hk_.1.1,hk_.1.2.1,hk_.1.2.2.1,hk_.1.2.2.2.1,hk_.1.2.2.2.2⟩)) (Kd.R_mono (ok':=fun k_=>some k_≠(.slice Ao51 t642.length co51:Value).ownBlock∧some k_≠(.slice Ao52 t646.length co52:Value).ownBlock∧some k_≠(.slice Ao60 t653.length co60:Value).ownBlock∧some k_≠(.slice Ao68 t658.length co68:Value).ownBlock∧some k_≠(.slice Ao75 t667.length co75:Value).ownBlock) (Kd.R_keptB (HO674.out) hkp (fun k_ hk_ hs_=>(hk_.2.2.2.1) hs_)) (fun k_ hk_=>⟨hk_.1.1,hk_.1.2.1,hk_.1.2.2.1,hk_.1.2.2.2.1,hk_.1.2.2.2.2⟩)) (hb) ?_;clear BK637 BK638 HO644 HO648 HO651 HO655 BK656 HO660 BK661 HO664 HO669 HO674 HB;intro BK637 BK638 HO644 HO648 HO651 HO655 BK656 HO660 BK661 HO664 HO669 HO674 HB;(try clear hb);(try clear hkp);(try clear hy0)))
       (try simp only [Act.put,sa_,s0_,ss_])
       go_cut [74] (fun v74 wc=>∃ (kq:Nat) (x74_39:Bool),v74 = .bool x74_39∧Aside0 (laws_FnExactNewcomers.j0 kq a2 a3 t649 t662 x74_39 a0_0 l0_1 a1_0 l1_1=some r)∧Aside0 (kq≤k)∧Aside0 (Kd.R (Kd.int .i64) 2 wc w.heap.size (fun k_=>some k_≠((.slice Ao71 t662.length co71):Value).ownBlock) (.slice Ao72 t649.length co72) t649)∧Aside0 (Kd.R (Kd.int .i64) 2 wc w.heap.size (fun k_=>some k_≠((.slice Ao72 t649.length co72):Value).ownBlock) (.slice Ao71 t662.length co71) t662)∧Aside0 (Kd.R k77 77 wc w.heap.size (fun k_=>some k_≠((.slice Ao68 t658.length co68):Value).ownBlock) (.slice Ao60 t653.length co60) t677)∧Aside0 (Kd.R k77 77 wc w.heap.size (fun k_=>some k_≠((.slice Ao60 t653.length co60):Value).ownBlock) (.slice Ao68 t658.length co68) t679)∧Aside0 (wc.heap[gb637]? = some (.cells #[.int .i64 a0_0,(.slice A0_1 l0_1.length c0_1)] 44 (0,0)))∧Aside0 (wc.heap[gb638]? = some (.cells #[.int .i64 a1_0,(.slice A1_1 l1_1.length c1_1)] 44 (0,0)))∧Aside0 (wc.heap[gb656]? = some (.cells #[.int .i64 t652,(.slice Ao60 t653.length co60)] 24 (0,0)))∧Aside0 (wc.heap[gb661]? = some (.cells #[.int .i64 t657,(.slice Ao68 t658.length co68)] 24 (0,0)))∧Aside0 (Below w.heap.size w wc))
       case first =>
        have H:=HC40.out
        clear HC40
        by_cases c85:t678<0
        ·rw [if_pos c85] at H
         have c85b0:decide (t678<0)=true:=decide_eq_true c85
         clear c85
         (first | rw [c85b0] | (simp only [i64_w,i32_w];rw [c85b0]) | skip)
         have H':=Aside0.mk H
         clear H
         go_wp2
         go_meet
         case rel=>exact ⟨_,(true),(z2_),H',⟨by first | omega | exact Nat.le_refl _⟩,⟨z1_ HO651.out⟩,⟨z1_ HO664.out⟩,⟨z39_ HO655.out⟩,⟨z39_ HO660.out⟩,⟨z3_ BK637.out⟩,⟨z3_ BK638.out⟩,⟨z3_ BK656.out⟩,⟨z3_ BK661.out⟩,⟨z15_ HB.out GE637.out GE638.out GE656.out GE661.out⟩⟩
        ·rw [if_neg c85] at H
         have c85b0:decide (t678<0)=false:=decide_eq_false c85
         clear c85
         (first | rw [c85b0] | (simp only [i64_w,i32_w];rw [c85b0]) | skip)
         replace H:=Option.bind_eq_some_iff.mp H
         obtain ⟨t680,A860,H⟩:=H
         replace H:(laws_FnExactNewcomers.j0 k a2 a3 t649 t662 (!t680) a0_0 l0_1 a1_0 l1_1)=some r:=H
         have A86:=Aside0.mk A860
         clear A860
         have H':=Aside0.mk H
         clear H
         go_wp2_with (first | (go_at_call 25;(with_reducible refine (laws_eqInt64S.calls k _ _ t662 _ _ t649 t680 _ ?s1 ?s2 ?s3 ?s4 A86.out).mono ?_);(case s1=>repeat (first | exact (Kd.R_reads' HO664.out).2.2 | (with_reducible refine Kd.C_alloc ?_ _) | (with_reducible refine Kd.C_drewN ?_ _) | (with_reducible refine Kd.C_drew ?_)));(case s2=>exact (Kd.R_reads' HO664.out).2.1);(case s3=>repeat (first | exact (Kd.R_reads' HO651.out).2.2 | (with_reducible refine Kd.C_alloc ?_ _) | (with_reducible refine Kd.C_drewN ?_ _) | (with_reducible refine Kd.C_drew ?_)));(case s4=>exact (Kd.R_reads' HO651.out).2.1);rintro e w' ⟨rfl,⟨nd,rfl⟩⟩))
         go_meet
         case rel=>exact ⟨_,(!t680),(z2_),H',⟨by first | omega | exact Nat.le_refl _⟩,⟨z1_ HO651.out⟩,⟨z1_ HO664.out⟩,⟨z39_ HO655.out⟩,⟨z39_ HO660.out⟩,⟨z3_ BK637.out⟩,⟨z3_ BK638.out⟩,⟨z3_ BK656.out⟩,⟨z3_ BK661.out⟩,⟨z15_ HB.out GE637.out GE638.out GE656.out GE661.out⟩⟩
       case rest =>
        clear HC40
        try clear c1
        try clear c2
        try clear p2
        try clear c3
        try clear c4
        try clear c5
        try clear c6
        try clear c8
        try clear c19
        try clear c20
        try clear c23
        try clear c24
        try clear c25
        try clear c26
        try clear c27
        try clear c34
        try clear c37
        try clear c43
        try clear c57
        try clear c58
        try clear c64
        try clear c65
        try clear c66
        try clear c85
        try clear c85b0
        try clear hcz44_0
        try clear hcz44_1
        try clear hcz46_0
        try clear hcz46_1
        try clear hcz54_0
        try clear hcz54_1
        try clear hcz59_0
        try clear hcz59_1
        try clear hcz61_0
        try clear hcz61_1
        try clear hcz67_0
        try clear hcz67_1
        try clear hcz69_0
        try clear hcz69_1
        try clear hcz81_0
        try clear hcz81_1
        try clear hcz83_0
        try clear hcz83_1
        try clear hfz44_0
        try clear hfz44_1
        try clear hfz46_0
        try clear hfz46_1
        try clear hfz54_0
        try clear hfz54_1
        try clear hfz59_0
        try clear hfz59_1
        try clear hfz61_0
        try clear hfz61_1
        try clear hfz67_0
        try clear hfz67_1
        try clear hfz69_0
        try clear hfz69_1
        try clear hfz81_0
        try clear hfz81_1
        try clear hfz83_0
        try clear hfz83_1
        obtain ⟨kq,x74_39,rfl,HA,HJ39,HO_10,HO_13,HO_657001,HO_662001,BK637,BK638,BK656,BK661,HB⟩:=hcut
        have hl657001_39:=(Kd.R_reads' HO_657001.out).1
        rw [hl657001_39] at HO_657001
        (try simp only [hl657001_39])
        (try simp only [hl657001_39] at BK637)
        (try simp only [hl657001_39] at BK638)
        (try simp only [hl657001_39] at BK656)
        (try simp only [hl657001_39] at BK661)
        (try simp only [hl657001_39] at HO_10)
        (try simp only [hl657001_39] at HO_13)
        (try simp only [hl657001_39] at HO_662001)
        have hl662001_39:=(Kd.R_reads' HO_662001.out).1
        rw [hl662001_39] at HO_662001
        (try simp only [hl662001_39])
        (try simp only [hl662001_39] at BK637)
        (try simp only [hl662001_39] at BK638)
        (try simp only [hl662001_39] at BK656)
        (try simp only [hl662001_39] at BK661)
        (try simp only [hl662001_39] at HO_10)
        (try simp only [hl662001_39] at HO_13)
        (try simp only [hl662001_39] at HO_657001)
        cases kq with
        | zero=>exact absurd HA.out (by simp [laws_FnExactNewcomers.j0])
        | succ kj39 =>
         have H:=HA.out
         clear HA
         simp only [laws_FnExactNewcomers.j0] at H
         by_cases c87:x74_39=true
         ·subst c87
          have H1:(none)=some r:=by rw [if_pos rfl] at H;exact H
          clear H
          have H:=H1
          clear H1
          exact absurd H (by simp)
         ·replace c87:=Bool.eq_false_iff.mpr c87
          subst c87
          have H1:((laws_markInt64S.f kj39 t662 1).bind fun bt681=>((laws_heldInt64S.f kj39 bt681.2 1).bind fun t683=>(if t683<0 then (none) else (if t683=bt681.1 then ((laws_toRing.f kj39 a0_0 l0_1).bind fun bt684=>((laws_toRing.f kj39 a1_0 l1_1).bind fun bt688=>((impl_Newcomers.f kj39 bt684.1 bt684.2 bt688.1 bt688.2 a2 a3).bind fun t692=>((laws_eqInt64S.f kj39 t692 t649).bind fun t695=>(if t695=true then ((laws_heldInt64S.f kj39 bt681.2 1).bind fun t696=>(if t696<0 then (none) else (if t696=bt681.1 then (some true) else (none)))) else (none)))))) else (none)))))=some r:=by rw [if_neg (show ¬ (false=true) by decide)] at H;exact H
          clear H
          have H:=H1
          clear H1
          replace H:=Option.bind_eq_some_iff.mp H
          obtain ⟨⟨t681,t682⟩,A880,H⟩:=H
          replace H:((laws_heldInt64S.f kj39 t682 1).bind fun t683=>(if t683<0 then (none) else (if t683=t681 then ((laws_toRing.f kj39 a0_0 l0_1).bind fun bt684=>((laws_toRing.f kj39 a1_0 l1_1).bind fun bt688=>((impl_Newcomers.f kj39 bt684.1 bt684.2 bt688.1 bt688.2 a2 a3).bind fun t692=>((laws_eqInt64S.f kj39 t692 t649).bind fun t695=>(if t695=true then ((laws_heldInt64S.f kj39 t682 1).bind fun t696=>(if t696<0 then (none) else (if t696=t681 then (some true) else (none)))) else (none)))))) else (none))))=some r:=H
          have A88:=Aside0.mk A880
          clear A880
          replace H:=Option.bind_eq_some_iff.mp H
          obtain ⟨t683,A890,H⟩:=H
          replace H:(if t683<0 then (none) else (if t683=t681 then ((laws_toRing.f kj39 a0_0 l0_1).bind fun bt684=>((laws_toRing.f kj39 a1_0 l1_1).bind fun bt688=>((impl_Newcomers.f kj39 bt684.1 bt684.2 bt688.1 bt688.2 a2 a3).bind fun t692=>((laws_eqInt64S.f kj39 t692 t649).bind fun t695=>(if t695=true then ((laws_heldInt64S.f kj39 t682 1).bind fun t696=>(if t696<0 then (none) else (if t696=t681 then (some true) else (none)))) else (none)))))) else (none)))=some r:=H
          have A89:=Aside0.mk A890
          clear A890
          by_cases c90:t683<0
          ·rw [if_pos c90] at H
           exact absurd H (by simp)
          ·rw [if_neg c90] at H
           have c90b0:decide (t683<0)=false:=decide_eq_false c90
           clear c90
           by_cases c91:t683=t681
           ·rw [if_pos c91] at H
            have c91b0:(t683 == t681)=true:=beq_iff_eq.mpr c91
            have c91b1:(t683 != t681)=false:=bne_eq_false_iff_eq.mpr c91
            clear c91
            replace H:=Option.bind_eq_some_iff.mp H
            obtain ⟨⟨t684,t685⟩,A920,H⟩:=H
            replace H:((laws_toRing.f kj39 a1_0 l1_1).bind fun bt688=>((impl_Newcomers.f kj39 t684 t685 bt688.1 bt688.2 a2 a3).bind fun t692=>((laws_eqInt64S.f kj39 t692 t649).bind fun t695=>(if t695=true then ((laws_heldInt64S.f kj39 t682 1).bind fun t696=>(if t696<0 then (none) else (if t696=t681 then (some true) else (none)))) else (none)))))=some r:=H
            have A92:=Aside0.mk A920
            clear A920
            replace H:=Option.bind_eq_some_iff.mp H
            obtain ⟨⟨t688,t689⟩,A930,H⟩:=H
            replace H:((impl_Newcomers.f kj39 t684 t685 t688 t689 a2 a3).bind fun t692=>((laws_eqInt64S.f kj39 t692 t649).bind fun t695=>(if t695=true then ((laws_heldInt64S.f kj39 t682 1).bind fun t696=>(if t696<0 then (none) else (if t696=t681 then (some true) else (none)))) else (none))))=some r:=H
            have A93:=Aside0.mk A930
            clear A930
            replace H:=Option.bind_eq_some_iff.mp H
            obtain ⟨t692,A940,H⟩:=H
            replace H:((laws_eqInt64S.f kj39 t692 t649).bind fun t695=>(if t695=true then ((laws_heldInt64S.f kj39 t682 1).bind fun t696=>(if t696<0 then (none) else (if t696=t681 then (some true) else (none)))) else (none)))=some r:=H
            have A94:=Aside0.mk A940
            clear A940
            replace H:=Option.bind_eq_some_iff.mp H
            obtain ⟨t695,A950,H⟩:=H
            replace H:(if t695=true then ((laws_heldInt64S.f kj39 t682 1).bind fun t696=>(if t696<0 then (none) else (if t696=t681 then (some true) else (none)))) else (none))=some r:=H
            have A95:=Aside0.mk A950
            clear A950
            by_cases c96:t695=true
            ·subst c96
             have H1:((laws_heldInt64S.f kj39 t682 1).bind fun t696=>(if t696<0 then (none) else (if t696=t681 then (some true) else (none))))=some r:=by rw [if_pos rfl] at H;exact H
             clear H
             have H:=H1
             clear H1
             replace H:=Option.bind_eq_some_iff.mp H
             obtain ⟨t696,A970,H⟩:=H
             replace H:(if t696<0 then (none) else (if t696=t681 then (some true) else (none)))=some r:=H
             have A97:=Aside0.mk A970
             clear A970
             by_cases c98:t696<0
             ·rw [if_pos c98] at H
              exact absurd H (by simp)
             ·rw [if_neg c98] at H
              have c98b0:decide (t696<0)=false:=decide_eq_false c98
              clear c98
              by_cases c99:t696=t681
              ·rw [if_pos c99] at H
               have c99b0:(t696 == t681)=true:=beq_iff_eq.mpr c99
               have c99b1:(t696 != t681)=false:=bne_eq_false_iff_eq.mpr c99
               clear c99
               obtain rfl:=Option.some.inj H
               try go_wp2_with (first | ((with_reducible refine gc_ 28 ?_);refine gl_ (some 77) Tryd.func28 #[.slice Ao71 t662.length co71,.int .i64 1] ?_;(with_reducible refine (laws_markInt64S.calls kj39 (fun k_=>some k_=(.slice Ao71 t662.length co71:Value).ownBlock) (.slice Ao71 t662.length co71) t662 1 t681 t682 w _ ?s1 ?s2 A88.out).mono ?_);(case s1=>repeat (first | (with_reducible first | exact HB.out | apply below_alloc | apply pw_below_drewN | apply below_drew1 | refine below_set ?_ GE637.out | refine below_set ?_ GE638.out | refine below_set ?_ GE656.out | refine below_set ?_ GE661.out) | exact HB.out));(case s2=>exact Kd.R_tight rfl HO_13.out);rintro e w100 ⟨rfl,hy0,hb,hkp⟩;refine ⟨_,rfl,?_⟩;refine as9_ (Kd.R_mono (ok':=fun k_=>some k_≠(.slice Ao71 t662.length co71:Value).ownBlock) (Kd.R_keptB (HO_10.out) hkp (fun k_ hk_ hs_=>(hk_) hs_)) (fun k_ hk_=>hk_.1)) (Kd.R_reok rfl hy0 (fun k_ e_=>HO_13.out.1 k_ e_)) (Kd.R_mono (ok':=fun k_=>some k_≠(.slice Ao68 t679.length co68:Value).ownBlock) (Kd.R_keptB ((Kd.R_apart' HO_657001.out (Kd.R_typed HO_13.out) (by decide))) hkp (fun k_ hk_ hs_=>(hk_.2) hs_)) (fun k_ hk_=>hk_.1.1)) (Kd.R_mono (ok':=fun k_=>some k_≠(.slice Ao60 t677.length co60:Value).ownBlock) (Kd.R_keptB ((Kd.R_apart' HO_662001.out (Kd.R_typed HO_13.out) (by decide))) hkp (fun k_ hk_ hs_=>(hk_.2) hs_)) (fun k_ hk_=>hk_.1.1)) (blk_kept (z3_ BK637.out) hkp (fun hs_=>(fun e_=>(Kd.R_ne HO_13.out BK637.out (by decide)) e_) hs_)) (blk_kept (z3_ BK638.out) hkp (fun hs_=>(fun e_=>(Kd.R_ne HO_13.out BK638.out (by decide)) e_) hs_)) (blk_kept (z3_ BK656.out) hkp (fun hs_=>(fun e_=>(Kd.R_ne HO_13.out BK656.out (by decide)) e_) hs_)) (blk_kept (z3_ BK661.out) hkp (fun hs_=>(fun e_=>(Kd.R_ne HO_13.out BK661.out (by decide)) e_) hs_)) (hb) ?_;clear HO_10 HO_13 HO_657001 HO_662001 BK637 BK638 BK656 BK661 HB;intro HO_10 HO_13 HO_657001 HO_662001 BK637 BK638 BK656 BK661 HB;(try clear hb);(try clear hkp);(try clear hy0)) | ((with_reducible refine gc_ 29 ?_);refine goesL_ (some 80) rfl rfl Tryd.func29 (by kernel_rfl) rfl #[.slice Ao71 t682.length co71,.int .i64 1] rfl (by (try simp only [List.map_toArray,List.map_cons,List.map_nil]);first | done | (rw [show t682.length=t662.length from (Kd.R_reads' HO_13.out).1.symm] <;> rfl) | rfl | (simp only [List.length_drop,List.length_take];rfl)) ?_;(with_reducible refine (laws_heldInt64S.calls kj39 _ _ t682 1 t683 _ ?s1 ?s2 A89.out).mono ?_);(case s1=>repeat (first | exact (Kd.R_reads' HO_13.out).2.2 | (with_reducible refine Kd.C_alloc ?_ _) | (with_reducible refine Kd.C_drewN ?_ _) | (with_reducible refine Kd.C_drew ?_)));(case s2=>rw [show t682.length=t662.length from (Kd.R_reads' HO_13.out).1.symm];exact (Kd.R_reads' HO_13.out).2.1);rintro e w' ⟨rfl,⟨nd,rfl⟩⟩;refine ⟨_,rfl,?_⟩))
               (try (rw [drewN_self w100];generalize hq_:World.drewN w100 _=w100;have n0_:Aside0 (Kd.R (Kd.int .i64) 2 w100 w.heap.size (fun k_=>some k_≠(.slice Ao71 t662.length co71:Value).ownBlock) (.slice Ao72 t649.length co72) t649):=⟨z22_ HO_10.out⟩;have n1_:Aside0 (Kd.R (Kd.int .i64) 2 w100 w.heap.size (fun k_=>some k_≠(.slice Ao72 t649.length co72:Value).ownBlock) (.slice Ao71 t662.length co71) t682):=⟨z22_ HO_13.out⟩;have n2_:Aside0 (Kd.R k77 77 w100 w.heap.size (fun k_=>some k_≠(.slice Ao68 t679.length co68:Value).ownBlock) (.slice Ao60 t677.length co60) t677):=⟨z22_ HO_657001.out⟩;have n3_:Aside0 (Kd.R k77 77 w100 w.heap.size (fun k_=>some k_≠(.slice Ao60 t677.length co60:Value).ownBlock) (.slice Ao68 t679.length co68) t679):=⟨z22_ HO_662001.out⟩;have n4_:Aside0 (w100.heap[gb637]? = some (.cells #[.int .i64 a0_0,.slice A0_1 l0_1.length c0_1] 44 (0,0))):=⟨z21_ BK637.out⟩;have n5_:Aside0 (w100.heap[gb638]? = some (.cells #[.int .i64 a1_0,.slice A1_1 l1_1.length c1_1] 44 (0,0))):=⟨z21_ BK638.out⟩;have n6_:Aside0 (w100.heap[gb656]? = some (.cells #[.int .i64 t652,.slice Ao60 t677.length co60] 24 (0,0))):=⟨z21_ BK656.out⟩;have n7_:Aside0 (w100.heap[gb661]? = some (.cells #[.int .i64 t657,.slice Ao68 t679.length co68] 24 (0,0))):=⟨z21_ BK661.out⟩;have n8_:Aside0 (Below w.heap.size w w100):=⟨by rw [← hq_];exact (by repeat (first | (with_reducible first | exact HB.out | apply below_alloc | apply pw_below_drewN | apply below_drew1 | refine below_set ?_ GE637.out | refine below_set ?_ GE638.out | refine below_set ?_ GE656.out | refine below_set ?_ GE661.out) | exact HB.out))⟩;clear HO_10 HO_13 HO_657001 HO_662001 BK637 BK638 BK656 BK661 HB hq_;have HO_10:=n0_;have HO_13:=n1_;have HO_657001:=n2_;have HO_662001:=n3_;have BK637:=n4_;have BK638:=n5_;have BK656:=n6_;have BK661:=n7_;have HB:=n8_;clear n0_ n1_ n2_ n3_ n4_ n5_ n6_ n7_ n8_))
               refine as9_ (Kd.R_drew HO_10.out) (Kd.R_drew HO_13.out) (Kd.R_drew HO_657001.out) (Kd.R_drew HO_662001.out) (blk_drew BK637.out) (blk_drew BK638.out) (blk_drew BK656.out) (blk_drew BK661.out) (below_drew1 HB.out) ?_
               clear HO_10 HO_13 HO_657001 HO_662001 BK637 BK638 BK656 BK661 HB
               intro HO_10 HO_13 HO_657001 HO_662001 BK637 BK638 BK656 BK661 HB
               refine start_ (n:=8) (S:=fun w'=>w'.cell? ⟨gb637,0,none⟩=some (.int .i64 a0_0)∧w'.cell? ⟨gb637,1,none⟩=some (.slice A0_1 l0_1.length c0_1)∧w'.cell? ⟨gb638,0,none⟩=some (.int .i64 a1_0)∧w'.cell? ⟨gb638,1,none⟩=some (.slice A1_1 l1_1.length c1_1)) (ds:=[]) #[O,O,O,O,O,O,O,O] (by kernel_rfl) rfl rfl (cj2_ BK637.out (cc2_ BK638.out)) (fun hHeld=>?_);refine with_tabW laws_FnExactNewcomers.tab33 laws_FnExactNewcomers.bits33 (fun HT_ HW_=>?_)
               generalize w100.drew=w101 at HO_10 HO_13 HO_657001 HO_662001 BK637 BK638 BK656 BK661 HB hHeld ⊢
               refine pu_ 4 90 #[O,O,O,O,I,O,O,O] HT_.out ?_
               refine pu_ 5 91 #[O,O,O,O,I,I,O,O] HT_.out ?_
               refine tk4_ 0 86 #[I,O,O,O,I,I,O,O] HT_.out HW_.out hHeld ?_
               refine tk4_ 2 88 #[I,O,I,O,I,I,O,O] HT_.out HW_.out hHeld ?_
               refine o1_ 1 87 #[I,I,I,O,I,I,O,O] HT_.out (fun K hK=>?_)
               refine gs_ Tryd.func24 #[.agg #[.int .i64 a0_0,.slice A0_1 l0_1.length c0_1]] ?_
               with_reducible refine (laws_toRing.calls kj39 a0_0 _ _ l0_1 t684 t685 _ ?s1 ?s2 A92.out).mono ?_
               (case s1=>repeat (first | exact (Kd.C_below HR0_1.out HB.out) | (with_reducible refine Kd.C_alloc ?_ _) | (with_reducible refine Kd.C_drewN ?_ _) | (with_reducible refine Kd.C_drew ?_)))
               (case s2=>exact HC0_1.out)
               rintro e w102 ⟨v686,rfl,ho0,hb⟩
               refine ⟨_,rfl,?_⟩
               refine as10_ (Kd.R_below (z1_ HO_10.out) hb) (Kd.R_below (z1_ HO_13.out) hb) (Kd.R_elder' (z1_ HO_657001.out) (Kd.R_base ho0) hb) (Kd.R_elder' (z1_ HO_662001.out) (Kd.R_base ho0) hb) (Kd.R_lower (Kd.R_new' (Kd.R_new' ho0 (Kd.R_lt (z1_ HO_657001.out))) (Kd.R_lt (z1_ HO_662001.out))) (below_size (z15_ HB.out GE637.out GE638.out GE656.out GE661.out))) (blkB_ BK637.out hb) (blkB_ BK638.out hb) (blkB_ BK656.out hb) (blkB_ BK661.out hb) (below_step (z15_ HB.out GE637.out GE638.out GE656.out GE661.out) hb) ?_
               clear HO_10 HO_13 HO_657001 HO_662001 BK637 BK638 BK656 BK661 HB
               intro HO_10 HO_13 HO_657001 HO_662001 HO687 BK637 BK638 BK656 BK661 HB
               (try clear hb)
               (try clear ho0)
               refine hK.out _ _ (cj2_ BK637.out (cc2_ BK638.out)) (fun hHeld=>?_)
               clear hK K
               refine nm_ 87 ?_
               refine o1_ 3 89 #[I,I,I,I,I,I,O,O] HT_.out (fun K hK=>?_)
               refine gs_ Tryd.func24 #[.agg #[.int .i64 a1_0,.slice A1_1 l1_1.length c1_1]] ?_
               with_reducible refine (laws_toRing.calls kj39 a1_0 _ _ l1_1 t688 t689 _ ?s1 ?s2 A93.out).mono ?_
               (case s1=>repeat (first | exact (Kd.C_below HR1_1.out HB.out) | (with_reducible refine Kd.C_alloc ?_ _) | (with_reducible refine Kd.C_drewN ?_ _) | (with_reducible refine Kd.C_drew ?_)))
               (case s2=>exact HC1_1.out)
               rintro e w103 ⟨v690,rfl,ho0,hb⟩
               refine ⟨_,rfl,?_⟩
               refine as11_ (Kd.R_below (z1_ HO_10.out) hb) (Kd.R_below (z1_ HO_13.out) hb) (Kd.R_elder' (z1_ HO_657001.out) (Kd.R_base ho0) hb) (Kd.R_elder' (z1_ HO_662001.out) (Kd.R_base ho0) hb) (Kd.R_elder' (z1_ HO687.out) (Kd.R_base ho0) hb) (Kd.R_lower (Kd.R_new' (Kd.R_new' (Kd.R_new' ho0 (Kd.R_lt (z1_ HO_657001.out))) (Kd.R_lt (z1_ HO_662001.out))) (Kd.R_lt (z1_ HO687.out))) (below_size (z15_ HB.out GE637.out GE638.out GE656.out GE661.out))) (blkB_ BK637.out hb) (blkB_ BK638.out hb) (blkB_ BK656.out hb) (blkB_ BK661.out hb) (below_step (z15_ HB.out GE637.out GE638.out GE656.out GE661.out) hb) ?_
               clear HO_10 HO_13 HO_657001 HO_662001 HO687 BK637 BK638 BK656 BK661 HB
               intro HO_10 HO_13 HO_657001 HO_662001 HO687 HO691 BK637 BK638 BK656 BK661 HB
               (try clear hb)
               (try clear ho0)
               obtain ⟨Ao104,co104,eo104⟩:=Kd.R_slice HO687.out
               (first | subst eo104 | (injection eo104 with f1_ f2_ f3_;have f4_:=f1_.symm;have f5_:=f3_.symm;clear f1_ f2_ f3_;subst f4_;subst f5_))
               obtain ⟨Ao105,co105,eo105⟩:=Kd.R_slice HO691.out
               (first | subst eo105 | (injection eo105 with f1_ f2_ f3_;have f4_:=f1_.symm;have f5_:=f3_.symm;clear f1_ f2_ f3_;subst f4_;subst f5_))
               refine hK.out _ _ (cj2_ BK637.out (cc2_ BK638.out)) (fun hHeld=>?_)
               clear hK K
               refine nm_ 89 ?_
               refine o1_ 6 92 #[I,I,I,I,I,I,I,O] HT_.out (fun K hK=>?_)
               refine gs_ Tryd.func19 #[.agg #[.int .i64 t684,.slice Ao104 t685.length co104],.agg #[.int .i64 t688,.slice Ao105 t689.length co105],.string a2,.int .i64 a3] ?_
               with_reducible refine (impl_Newcomers.calls kj39 t684 _ _ t685 t688 _ _ t689 a2 a3 t692 _ ?s1 ?s2 ?s3 ?s4 A94.out).mono ?_
               (case s1=>repeat (first | exact (Kd.R_reads' HO687.out).2.2 | (with_reducible refine Kd.C_alloc ?_ _) | (with_reducible refine Kd.C_drewN ?_ _) | (with_reducible refine Kd.C_drew ?_)))
               (case s2=>exact (Kd.R_reads' HO687.out).2.1)
               (case s3=>repeat (first | exact (Kd.R_reads' HO691.out).2.2 | (with_reducible refine Kd.C_alloc ?_ _) | (with_reducible refine Kd.C_drewN ?_ _) | (with_reducible refine Kd.C_drew ?_)))
               (case s4=>exact (Kd.R_reads' HO691.out).2.1)
               rintro e w106 ⟨v693,rfl,ho0,hb⟩
               refine ⟨_,rfl,?_⟩
               refine as12_ (Kd.R_elder' (z1_ HO_10.out) (Kd.R_base ho0) hb) (Kd.R_elder' (z1_ HO_13.out) (Kd.R_base ho0) hb) (Kd.R_below (z1_ HO_657001.out) hb) (Kd.R_below (z1_ HO_662001.out) hb) (Kd.R_below (z1_ HO687.out) hb) (Kd.R_below (z1_ HO691.out) hb) (Kd.R_lower (Kd.R_new' (Kd.R_new' ho0 (Kd.R_lt (z1_ HO_10.out))) (Kd.R_lt (z1_ HO_13.out))) (below_size (z15_ HB.out GE637.out GE638.out GE656.out GE661.out))) (blkB_ BK637.out hb) (blkB_ BK638.out hb) (blkB_ BK656.out hb) (blkB_ BK661.out hb) (below_step (z15_ HB.out GE637.out GE638.out GE656.out GE661.out) hb) ?_
               clear HO_10 HO_13 HO_657001 HO_662001 HO687 HO691 BK637 BK638 BK656 BK661 HB
               intro HO_10 HO_13 HO_657001 HO_662001 HO687 HO691 HO694 BK637 BK638 BK656 BK661 HB
               (try clear hb)
               (try clear ho0)
               refine hK.out _ _ (cj2_ BK637.out (cc2_ BK638.out)) (fun hHeld=>?_)
               clear hK K
               refine nm_ 92 ?_
               refine pu_ 7 17 #[I,I,I,I,I,I,I,I] HT_.out ?_
               refine done_ (done_of HT_.out (by kernel_rfl)) ?_
               obtain ⟨Ao107,co107,eo107⟩:=Kd.R_slice HO694.out
               subst eo107
               try go_wp2_with (first | ((with_reducible refine gc_ 25 ?_);refine gl_ (some 95) Tryd.func25 #[.slice Ao107 t692.length co107,.slice Ao72 t649.length co72] ?_;(with_reducible refine (laws_eqInt64S.calls kj39 _ _ t692 _ _ t649 true _ ?s1 ?s2 ?s3 ?s4 A95.out).mono ?_);(case s1=>repeat (first | exact (Kd.R_reads' HO694.out).2.2 | (with_reducible refine Kd.C_alloc ?_ _) | (with_reducible refine Kd.C_drewN ?_ _) | (with_reducible refine Kd.C_drew ?_)));(case s2=>exact (Kd.R_reads' HO694.out).2.1);(case s3=>repeat (first | exact (Kd.R_reads' HO_10.out).2.2 | (with_reducible refine Kd.C_alloc ?_ _) | (with_reducible refine Kd.C_drewN ?_ _) | (with_reducible refine Kd.C_drew ?_)));(case s4=>exact (Kd.R_reads' HO_10.out).2.1);rintro e w' ⟨rfl,⟨nd,rfl⟩⟩;refine ⟨_,rfl,?_⟩) | ((with_reducible refine gc_ 29 ?_);refine goesL_ (some 99) rfl rfl Tryd.func29 (by kernel_rfl) rfl #[.slice Ao71 t682.length co71,.int .i64 1] rfl (by (try simp only [List.map_toArray,List.map_cons,List.map_nil]);first | done | (rw [show t682.length=t662.length from (Kd.R_reads' HO_13.out).1.symm] <;> rfl) | rfl | (simp only [List.length_drop,List.length_take];rfl)) ?_;(with_reducible refine (laws_heldInt64S.calls kj39 _ _ t682 1 t696 _ ?s1 ?s2 A97.out).mono ?_);(case s1=>repeat (first | exact (Kd.R_reads' HO_13.out).2.2 | (with_reducible refine Kd.C_alloc ?_ _) | (with_reducible refine Kd.C_drewN ?_ _) | (with_reducible refine Kd.C_drew ?_)));(case s2=>rw [show t682.length=t662.length from (Kd.R_reads' HO_13.out).1.symm];exact (Kd.R_reads' HO_13.out).2.1);rintro e w' ⟨rfl,⟨nd,rfl⟩⟩;refine ⟨_,rfl,?_⟩))
               go_ret
               exact ⟨z10_,z15_ HB.out GE637.out GE638.out GE656.out GE661.out⟩
              ·rw [if_neg c99] at H
               exact absurd H (by simp)
            ·replace c96:=Bool.eq_false_iff.mpr c96
             subst c96
             have H1:(none)=some r:=by rw [if_neg (show ¬ (false=true) by decide)] at H;exact H
             clear H
             have H:=H1
             clear H1
             exact absurd H (by simp)
           ·rw [if_neg c91] at H
            exact absurd H (by simp)
      ·replace c37:=Bool.eq_false_iff.mpr c37
       subst c37
       have H1:(none)=some r:=by rw [if_neg (show ¬ (false=true) by decide)] at H;exact H
       clear H
       have H:=H1
       clear H1
       exact absurd H (by simp)
     ·replace c34:=Bool.eq_false_iff.mpr c34
      subst c34
      have H1:(none)=some r:=by rw [if_neg (show ¬ (false=true) by decide)] at H;exact H
      clear H
      have H:=H1
      clear H1
      exact absurd H (by simp)
    ·replace c31:=Bool.eq_false_iff.mpr c31
     subst c31
     have H1:(none)=some r:=by rw [if_neg (show ¬ (false=true) by decide)] at H;exact H
     clear H
     have H:=H1
     clear H1
     exact absurd H (by simp)

end Go.Proofs.YtelecnmflodkkaaDoor.P

namespace Go.Proofs.YtelecnmflodkkaaDoor.P
open Go.RowKit Go.Proofs.YtelecnmflodkkaaDoor.RO
def laws_FnExactNewcomers.Pure:Prop:=∀ (x0:S44) (x1:S44) (x2:ByteArray) (x3:Int),wfT44 x0→wfT44 x1→x2.size≤140737488351232→(Lit.int .i64 x3).wf=true→∃ k,laws_FnExactNewcomers.f k x0.f0 x0.f1 x1.f0 x1.f1 x2 x3=some true
end Go.Proofs.YtelecnmflodkkaaDoor.P

namespace Go.Proofs.YtelecnmflodkkaaDoor.Q
open Go.RowKit Go.Proofs.YtelecnmflodkkaaDoorW.PrintWords Go.Proofs.YtelecnmflodkkaaDoorW.PrintMore

theorem w64 {x:Int} (h0 : -9223372036854775808≤x) (h1:x≤9223372036854775807):wrap64 x=x:=by unfold wrap64;omega
theorem evIte {α:Type} {c:Prop} [Decidable c] {f g:Nat→Option α} {r:α} (h:c→Ev f r) (h':¬ c→Ev g r):Ev (fun k=>if c then f k else g k) r:=by
  by_cases hc:c
  · simp only [if_pos hc];exact h hc
  · simp only [if_neg hc];exact h' hc
theorem evPos {α:Type} {c:Prop} [Decidable c] {f g:Nat→Option α} {r:α} (hc:c) (h:Ev f r):Ev (fun k=>if c then f k else g k) r:=by
  simp only [if_pos hc];exact h
theorem evNeg {α:Type} {c:Prop} [Decidable c] {f g:Nat→Option α} {r:α} (hc:¬ c) (h:Ev g r):Ev (fun k=>if c then f k else g k) r:=by
  simp only [if_neg hc];exact h
theorem evBind1 {α β:Type} {g:Option α} {f:Nat→α→Option β} {a:α} {r:β} (h:g=some a) (k:Ev (fun n=>f n a) r):Ev (fun n=>g.bind (f n)) r:=by
  subst h;exact k
theorem dropCons {α:Type} {l:List α} {i:Nat} {a:α} {s:List α} (h:l.drop i=a :: s) (d:α):i<l.length∧l.getD i d=a∧l.drop (i+1)=s:=by
  have hl:i<l.length:=by
    have:=congrArg List.length h
    simp at this;omega
  rw [List.drop_eq_getElem_cons hl] at h
  injection h with h1 h2
  exact ⟨hl,by rw [List.getD_eq_getElem?_getD,List.getElem?_eq_getElem hl];exact h1,h2⟩
theorem dropNil {α:Type} {l:List α} {i:Nat} (h:l.drop i=[]):l.length≤i:=by
  have:=congrArg List.length h
  simp at this;omega
theorem dropNil' {α:Type} {l:List α} {i:Nat} (h:l.drop i=[]) (hi:i≤l.length):l.length=i:=by
  have:=dropNil h;omega
theorem wraps_i64 (n:Int) (h₀:0≤n) (h₁:n<2 ^ 63):IntKind.i64.wrap n=n:=by rw [IntKind.wrap_i64];omega
theorem getD_mid {α:Type} (pre:List α) (m:α) (s:List α) (d:α):(pre ++ m :: s).getD pre.length d=m:=by
  rw [List.getD_eq_getElem?_getD,List.getElem?_append_right (Nat.le_refl _),Nat.sub_self];rfl
theorem set_mid {α:Type} (pre:List α) (m x:α) (s:List α):(pre ++ m :: s).set pre.length x=pre ++ x :: s:=by
  rw [List.set_append_right _ _ (Nat.le_refl _),Nat.sub_self];rfl
end Go.Proofs.YtelecnmflodkkaaDoor.Q

namespace Go.Proofs.YtelecnmflodkkaaDoor.Q
open Go.RowKit Go.Proofs.YtelecnmflodkkaaDoor.P Go.Proofs.YtelecnmflodkkaaDoorW.PrintWords Go.Proofs.YtelecnmflodkkaaDoorW.PrintMore

def isWithin (n low high:Int):Bool:=decide (low≤n) && decide (n≤high)
def isNode (n:Int):Bool:=isWithin n 1 5
theorem l02Is_is (n a b:Int):spec_l02Is.f n a b=some (isWithin n a b):=by
  unfold spec_l02Is.f isWithin
  split
  · rename_i h;simp [show a≤n from h]
  · rename_i h;simp [show ¬ a≤n from h]
theorem l02Node_is (n:Int):spec_l02Node.f n=some (isNode n):=by simp [spec_l02Node.f,l02Is_is,isNode]
theorem within_is (n a b:Int):impl_within.f n a b=some (isWithin n a b):=by
  unfold impl_within.f isWithin
  split
  · rename_i h;simp [show a≤n from h]
  · rename_i h;simp [show ¬ a≤n from h]
theorem isNode_is (n:Int):impl_isNode.f n=some (isNode n):=by simp [impl_isNode.f,within_is,isNode]
theorem isNode_iff (n:Int):isNode n=true ↔ 1≤n∧n≤5:=by simp [isNode,isWithin]
end Go.Proofs.YtelecnmflodkkaaDoor.Q

namespace Go.Proofs.YtelecnmflodkkaaDoor.P
open Go.RowKit Go.Proofs.YtelecnmflodkkaaDoorW.PrintWords Go.Proofs.YtelecnmflodkkaaDoorW.PrintLast Go.Proofs.YtelecnmflodkkaaDoorW.PrintMore
attribute [local go_sem] max2_int min2_int max_two min_two max_three min_three max_four min_four   -- for this text's walks alone
set_option linter.unusedVariables false
set_option linter.unusedSimpArgs false

/-! ### laws_heldTokenS: function 81 -/
def laws_heldTokenS.l0:Nat→List (S77)→Int→Int→Option (Int)
 | 0,_,_,_=>none
 | k+1,x0,x1,x5=>if x5<(x0.length:Int) then (if 0≤x5 then (if ((rd_T77 x0 x5).f0)=x1 then (if ((rd_T77 x0 x5).f1)=(wrap64 (x1+1)) then (laws_heldTokenS.l0 k x0 (wrap64 ((wrap64 (x1+1))+1)) (wrap64 (x5+1))) else (none)) else (none)) else (none)) else (some x1)
def laws_heldTokenS.f (k:Nat) (l0:List (S77)) (a1:Int):Option (Int):=laws_heldTokenS.l0 k l0 a1 0
theorem laws_heldTokenS.mono_l:∀ k,(∀ y0 y1 y2,LeO (laws_heldTokenS.l0 k y0 y1 y2) (laws_heldTokenS.l0 (k+1) y0 y1 y2))
 | 0=>fun _ _ _ r h=>by simp [laws_heldTokenS.l0] at h
 | k+1=>by
  have ih0:=laws_heldTokenS.mono_l k
  ·intro y0 y1 y2
   unfold laws_heldTokenS.l0
   repeat' first
   | (with_reducible exact ih0 _ _ _)
   | (with_reducible exact LeO.refl _)
   | (with_reducible exact LeO.none _)
   | (with_reducible refine LeO.ite ?_ ?_)
   | (with_reducible refine LeO.bind ?_ (fun _=>?_))
   | exact ih0 _ _ _
   | exact LeO.none _
   | refine LeO.ite ?_ ?_
   | refine LeO.bind ?_ (fun _=>?_)
theorem laws_heldTokenS.mono:∀ a0 a1 k,LeO (laws_heldTokenS.f k a0 a1) (laws_heldTokenS.f (k+1) a0 a1):=by
 intro a0 a1 k
 have ih0:=laws_heldTokenS.mono_l k
 unfold laws_heldTokenS.f
 repeat' first
   | (with_reducible exact ih0 _ _ _)
   | (with_reducible exact LeO.refl _)
   | (with_reducible exact LeO.none _)
   | (with_reducible refine LeO.ite ?_ ?_)
   | (with_reducible refine LeO.bind ?_ (fun _=>?_))
   | exact ih0 _ _ _
   | exact LeO.none _
   | refine LeO.ite ?_ ?_
   | refine LeO.bind ?_ (fun _=>?_)

/-! ### laws_eqRingOut: function 10 -/
def laws_eqRingOut.f (k:Nat) (a0_0:Int) (l0_1:List (S77)) (a0_2:Int) (a1_0:Int) (l1_1:List (S77)) (a1_2:Int):Option (Bool):=(laws_eqRing.f k a0_0 l0_1 a1_0 l1_1).bind fun t265=>(if t265=true then (if a0_2=a1_2 then (some true) else (none)) else (none))
theorem laws_eqRingOut.mono:∀ a0 a1 a2 a3 a4 a5 k,LeO (laws_eqRingOut.f k a0 a1 a2 a3 a4 a5) (laws_eqRingOut.f (k+1) a0 a1 a2 a3 a4 a5):=by
 intro a0 a1 a2 a3 a4 a5 k
 unfold laws_eqRingOut.f
 repeat' first
   | (with_reducible exact laws_eqRing.mono _ _ _ _ _)
   | (with_reducible exact LeO.refl _)
   | (with_reducible exact LeO.none _)
   | (with_reducible refine LeO.ite ?_ ?_)
   | (with_reducible refine LeO.bind ?_ (fun _=>?_))
   | exact laws_eqRing.mono _ _ _ _ _
   | exact LeO.none _
   | refine LeO.ite ?_ ?_
   | refine LeO.bind ?_ (fun _=>?_)

/-! ### laws_heldRing: function 44 -/
def laws_heldRing.f (k:Nat) (a0_0:Int) (l0_1:List (S77)) (a1:Int):Option (Int):=(laws_heldTokenS.f k l0_1 a1).bind fun t277=>(if t277<0 then (none) else (some t277))
theorem laws_heldRing.mono:∀ a0 a1 a2 k,LeO (laws_heldRing.f k a0 a1 a2) (laws_heldRing.f (k+1) a0 a1 a2):=by
 intro a0 a1 a2 k
 unfold laws_heldRing.f
 repeat' first
   | (with_reducible exact laws_heldTokenS.mono _ _ _)
   | (with_reducible exact LeO.refl _)
   | (with_reducible exact LeO.none _)
   | (with_reducible refine LeO.ite ?_ ?_)
   | (with_reducible refine LeO.bind ?_ (fun _=>?_))
   | exact laws_heldTokenS.mono _ _ _
   | exact LeO.none _
   | refine LeO.ite ?_ ?_
   | refine LeO.bind ?_ (fun _=>?_)

/-! ### laws_markRingOut: function 11 -/
def laws_markRingOut.f (k:Nat) (a0_0:Int) (l0_1:List (S77)) (a0_2:Int) (a1:Int):Option (Int × (List (S77))):=(laws_markRing.f k a0_0 l0_1 a1).bind fun bt272=>(some (bt272.1,bt272.2))
theorem laws_markRingOut.mono:∀ a0 a1 a2 a3 k,LeO (laws_markRingOut.f k a0 a1 a2 a3) (laws_markRingOut.f (k+1) a0 a1 a2 a3):=by
 intro a0 a1 a2 a3 k
 unfold laws_markRingOut.f
 repeat' first
   | (with_reducible exact laws_markRing.mono _ _ _ _)
   | (with_reducible exact LeO.refl _)
   | (with_reducible exact LeO.none _)
   | (with_reducible refine LeO.ite ?_ ?_)
   | (with_reducible refine LeO.bind ?_ (fun _=>?_))
   | exact laws_markRing.mono _ _ _ _
   | exact LeO.none _
   | refine LeO.ite ?_ ?_
   | refine LeO.bind ?_ (fun _=>?_)

/-! ### laws_heldRingOut: function 12 -/
def laws_heldRingOut.f (k:Nat) (a0_0:Int) (l0_1:List (S77)) (a0_2:Int) (a1:Int):Option (Int):=(laws_heldRing.f k a0_0 l0_1 a1).bind fun t279=>(if t279<0 then (none) else (some t279))
theorem laws_heldRingOut.mono:∀ a0 a1 a2 a3 k,LeO (laws_heldRingOut.f k a0 a1 a2 a3) (laws_heldRingOut.f (k+1) a0 a1 a2 a3):=by
 intro a0 a1 a2 a3 k
 unfold laws_heldRingOut.f
 repeat' first
   | (with_reducible exact laws_heldRing.mono _ _ _ _)
   | (with_reducible exact LeO.refl _)
   | (with_reducible exact LeO.none _)
   | (with_reducible refine LeO.ite ?_ ?_)
   | (with_reducible refine LeO.bind ?_ (fun _=>?_))
   | exact laws_heldRing.mono _ _ _ _
   | exact LeO.none _
   | refine LeO.ite ?_ ?_
   | refine LeO.bind ?_ (fun _=>?_)
end Go.Proofs.YtelecnmflodkkaaDoor.P

namespace Go.Proofs.YtelecnmflodkkaaDoor.Q
open Go.RowKit Go.Proofs.YtelecnmflodkkaaDoor.P Go.Proofs.YtelecnmflodkkaaDoorW.PrintWords Go.Proofs.YtelecnmflodkkaaDoorW.PrintMore

abbrev Tok:=S77
abbrev LTok:=S116
def toTok (m:LTok):Tok:=⟨m.f0,m.f1⟩
theorem szTokenS_is (l:List LTok) (n:Int) (h0:0≤n) (h1:n≤1048576) (hl:l.length≤9223372036854775807) :
    laws_szTokenS.f l n=some (if n<(l.length:Int) then -1 else n-(l.length:Int)):=by
  unfold laws_szTokenS.f
  rw [w64 (by omega) (by omega)]
  split
  · rw [if_pos (by omega)]
  · rw [if_neg (by omega)]
theorem toTokenS_l0 (l:List LTok) (hl:l.length≤1048576):∀ (s:List LTok) (i:Nat),l.drop i=s→i≤l.length→∀ (acc:List Tok),acc.length=l.length→acc.take i=(l.take i).map toTok →
    Ev (fun k=>laws_toTokenS.l0 k l acc (i:Int)) (l.map toTok)
  | [],i,h,hi,acc,ha,hc=>by
    have:=dropNil' h hi
    refine Ev.step (f:=fun _=>some (l.map toTok)) (fun k=>?_) (Ev.now _)
    simp only [laws_toTokenS.l0]
    rw [if_neg (by omega)]
    rw [← this,List.take_of_length_le (by omega),List.take_length] at hc
    rw [hc]
  | m :: s,i,h,hi,acc,ha,hc=>by
    obtain ⟨h1,h2,h3⟩:=dropCons h z116
    have hr:rd_T116 l (i:Int)=m:=by simpa [rd_T116] using h2
    have hm:l[i]'h1=m:=by
      rw [List.getD_eq_getElem?_getD,List.getElem?_eq_getElem h1] at h2;exact h2
    refine Ev.step (fun k=>?_) (toTokenS_l0 l hl s (i+1) h3 (by omega) (acc.set i (toTok m)) (by simpa using ha) (by
      rw [List.take_succ_eq_append_getElem (by simp;omega),List.take_succ_eq_append_getElem h1,List.map_append,List.take_set_of_le (by omega),hc]
      simp [hm]))
    simp only [laws_toTokenS.l0,laws_toToken.f,hr,Option.bind_some,Int.toNat_natCast]
    rw [if_pos (by omega),if_pos (by omega),if_pos (by omega),w64 (by omega) (by omega)]
    rfl
theorem toTokenS_ev (l:List LTok) (hl:l.length≤1048576):Ev (fun k=>laws_toTokenS.f k l) (l.map toTok):=by
  unfold laws_toTokenS.f
  refine evPos (by omega) (evPos (by omega) ?_)
  exact toTokenS_l0 l hl l 0 rfl (by omega) _ (by simp) (by simp)
theorem eqToken_refl (a b:Int):laws_eqToken.f a b a b=some true:=by simp [laws_eqToken.f]
theorem eqTokenS_l0 (l:List Tok) (hl:l.length≤4611686018427387904):∀ (s:List Tok) (i:Nat),l.drop i=s→i≤l.length →
    Ev (fun k=>laws_eqTokenS.l0 k l l (i:Int)) true
  | [],i,h,hi=>by
    have:=dropNil' h hi
    refine Ev.step (f:=fun _=>some true) (fun k=>?_) (Ev.now _)
    simp only [laws_eqTokenS.l0]
    rw [if_neg (by omega)]
  | m :: s,i,h,hi=>by
    obtain ⟨h1,h2,h3⟩:=dropCons h z77
    refine Ev.step (fun k=>?_) (eqTokenS_l0 l hl s (i+1) h3 (by omega))
    simp only [laws_eqTokenS.l0,eqToken_refl,Option.bind_some]
    rw [if_pos (by omega),if_pos (by omega),if_pos (by omega),if_pos trivial,w64 (by omega) (by omega)]
    rfl
theorem eqTokenS_ev (l:List Tok) (hl:l.length≤4611686018427387904):Ev (fun k=>laws_eqTokenS.f k l l) true:=by
  unfold laws_eqTokenS.f
  exact evPos rfl (eqTokenS_l0 l hl l 0 rfl (by omega))
def tokL:Int→List Tok→List Tok
  | _,[]=>[]
  | n,_ :: r=>⟨n,n+1⟩ :: tokL (n+2) r
theorem markTokenS_l0 (N:Int) (hN:N≤1152921504606846976):∀ (s pre:List Tok) (n:Int),0≤n→n+2*(s.length:Int)≤N→(pre.length:Int)+s.length≤N →
    Ev (fun k=>laws_markTokenS.l0 k (pre ++ s) n (pre.length:Int)) (n+2*(s.length:Int),pre ++ tokL n s)
  | [],pre,n,h0,h1,h2=>by
    refine Ev.step (f:=fun _=>some (n,pre)) (fun k=>?_) (by simp [tokL];exact Ev.now _)
    simp only [laws_markTokenS.l0,List.append_nil]
    rw [if_neg (by omega)]
  | m :: s,pre,n,h0,h1,h2=>by
    simp only [List.length_cons] at h1 h2
    have ih:=markTokenS_l0 N hN s (pre ++ [⟨n,n+1⟩]) (n+2) (by omega) (by omega) (by simp;omega)
    simp only [List.length_append,List.length_cons,List.length_nil,List.append_assoc,List.cons_append,List.nil_append] at ih
    refine Ev.step (fun k=>?_) (show Ev _ (n+2*((m :: s).length:Int),pre ++ tokL n (m :: s)) from by
      simp only [tokL,List.length_cons]
      rw [show n+2*((s.length+1:Nat):Int)=n+2+2*(s.length:Int) from by omega]
      exact ih)
    simp only [laws_markTokenS.l0,Option.bind_some,Int.toNat_natCast,rd_T77,set_mid,getD_mid]
    rw [if_pos (by simp;omega),if_pos (by omega),w64 (x:=n+1) (by omega) (by omega),w64 (x:=n+1+1) (by omega) (by omega),w64 (x:=(pre.length:Int)+1) (by omega) (by omega),show n+1+1=n+2 from by omega]
    rfl
theorem markTokenS_ev (s:List Tok) (n:Int) (h0:0≤n) (h1:n+2*(s.length:Int)≤1152921504606846976):Ev (fun k=>laws_markTokenS.f k s n) (n+2*(s.length:Int),tokL n s) :=
  markTokenS_l0 1152921504606846976 (Int.le_refl _) s [] n h0 h1 (by simp;omega)
theorem eqRing_ev (n:Int) (l:List Tok) (hl:l.length≤4611686018427387904):Ev (fun k=>laws_eqRing.f k n l n l) true :=
  evPos rfl (Ev.bind (eqTokenS_ev l hl) (evPos rfl (Ev.now _)))
theorem markRing_ev (N:Int) (l:List Tok) (n:Int) (h0:0≤n) (h1:n+2*(l.length:Int)≤1152921504606846976):Ev (fun k=>laws_markRing.f k N l n) (n+2*(l.length:Int),tokL n l) :=
  Ev.bind (markTokenS_ev l n h0 h1) (Ev.now _)
theorem toRing_ev (n:Int) (l:List LTok) (hl:l.length≤1048576):Ev (fun k=>laws_toRing.f k n l) (n,l.map toTok):=Ev.bind (toTokenS_ev l hl) (Ev.now _)
end Go.Proofs.YtelecnmflodkkaaDoor.Q

namespace Go.Proofs.YtelecnmflodkkaaDoor.P
open Go.RowKit Go.Proofs.YtelecnmflodkkaaDoorW.PrintWords Go.Proofs.YtelecnmflodkkaaDoorW.PrintLast Go.Proofs.YtelecnmflodkkaaDoorW.PrintMore
attribute [local go_sem] max2_int min2_int max_two min_two max_three min_three max_four min_four   -- for this text's walks alone
set_option linter.unusedVariables false
set_option linter.unusedSimpArgs false

/-! ### impl_RingNew: function 9 -/
def impl_RingNew.j0:Nat→Int→Int→Bool→Option (Int × (List (S77)) × Int)
 | 0,_,_,_=>none
 | k+1,x0,x1,x12=>if x12=true then (some (0,([]:List (S77)),1)) else ((impl_ringNew.f k x0 x1).bind fun bt251=>(some (bt251.1,bt251.2,0)))
def impl_RingNew.f (k:Nat) (a0:Int) (a1:Int):Option (Int × (List (S77)) × Int):=(impl_isNode.f a0).bind fun t249=>(if t249=true then ((impl_within.f a1 1 8).bind fun t250=>(impl_RingNew.j0 k a0 a1 (!t250))) else (impl_RingNew.j0 k a0 a1 true))
theorem impl_RingNew.mono_l:∀ k,(∀ y0 y1 y2,LeO (impl_RingNew.j0 k y0 y1 y2) (impl_RingNew.j0 (k+1) y0 y1 y2))
 | 0=>fun _ _ _ r h=>by simp [impl_RingNew.j0] at h
 | k+1=>by
  have ih0:=impl_RingNew.mono_l k
  ·intro y0 y1 y2
   unfold impl_RingNew.j0
   repeat' first
   | (with_reducible exact ih0 _ _ _)
   | (with_reducible exact impl_ringNew.mono _ _ _)
   | (with_reducible exact LeO.refl _)
   | (with_reducible exact LeO.none _)
   | (with_reducible refine LeO.ite ?_ ?_)
   | (with_reducible refine LeO.bind ?_ (fun _=>?_))
   | exact ih0 _ _ _
   | exact impl_ringNew.mono _ _ _
   | exact LeO.none _
   | refine LeO.ite ?_ ?_
   | refine LeO.bind ?_ (fun _=>?_)
theorem impl_RingNew.mono:∀ a0 a1 k,LeO (impl_RingNew.f k a0 a1) (impl_RingNew.f (k+1) a0 a1):=by
 intro a0 a1 k
 have ih0:=impl_RingNew.mono_l k
 unfold impl_RingNew.f
 repeat' first
   | (with_reducible exact ih0 _ _ _)
   | (with_reducible exact impl_ringNew.mono _ _ _)
   | (with_reducible exact LeO.refl _)
   | (with_reducible exact LeO.none _)
   | (with_reducible refine LeO.ite ?_ ?_)
   | (with_reducible refine LeO.bind ?_ (fun _=>?_))
   | exact ih0 _ _ _
   | exact impl_ringNew.mono _ _ _
   | exact LeO.none _
   | refine LeO.ite ?_ ?_
   | refine LeO.bind ?_ (fun _=>?_)

/-! ### spec_RingNew: function 8 -/
def spec_RingNew.j0:Nat→Int→Int→Bool→Option (Int × (List (S77)) × Int)
 | 0,_,_,_=>none
 | k+1,x0,x1,x12=>if x12=true then (some (0,([]:List (S77)),1)) else ((spec_l04New.f k x0 x1).bind fun bt140=>(some (bt140.1,bt140.2,0)))
def spec_RingNew.f (k:Nat) (a0:Int) (a1:Int):Option (Int × (List (S77)) × Int):=(spec_l02Node.f a0).bind fun t138=>(if t138=true then ((spec_l02Is.f a1 1 8).bind fun t139=>(spec_RingNew.j0 k a0 a1 (!t139))) else (spec_RingNew.j0 k a0 a1 true))
theorem spec_RingNew.mono_l:∀ k,(∀ y0 y1 y2,LeO (spec_RingNew.j0 k y0 y1 y2) (spec_RingNew.j0 (k+1) y0 y1 y2))
 | 0=>fun _ _ _ r h=>by simp [spec_RingNew.j0] at h
 | k+1=>by
  have ih0:=spec_RingNew.mono_l k
  ·intro y0 y1 y2
   unfold spec_RingNew.j0
   repeat' first
   | (with_reducible exact ih0 _ _ _)
   | (with_reducible exact spec_l04New.mono _ _ _)
   | (with_reducible exact LeO.refl _)
   | (with_reducible exact LeO.none _)
   | (with_reducible refine LeO.ite ?_ ?_)
   | (with_reducible refine LeO.bind ?_ (fun _=>?_))
   | exact ih0 _ _ _
   | exact spec_l04New.mono _ _ _
   | exact LeO.none _
   | refine LeO.ite ?_ ?_
   | refine LeO.bind ?_ (fun _=>?_)
theorem spec_RingNew.mono:∀ a0 a1 k,LeO (spec_RingNew.f k a0 a1) (spec_RingNew.f (k+1) a0 a1):=by
 intro a0 a1 k
 have ih0:=spec_RingNew.mono_l k
 unfold spec_RingNew.f
 repeat' first
   | (with_reducible exact ih0 _ _ _)
   | (with_reducible exact spec_l04New.mono _ _ _)
   | (with_reducible exact LeO.refl _)
   | (with_reducible exact LeO.none _)
   | (with_reducible refine LeO.ite ?_ ?_)
   | (with_reducible refine LeO.bind ?_ (fun _=>?_))
   | exact ih0 _ _ _
   | exact spec_l04New.mono _ _ _
   | exact LeO.none _
   | refine LeO.ite ?_ ?_
   | refine LeO.bind ?_ (fun _=>?_)

/-! ### impl_RingMore: function 14 -/
def impl_RingMore.f (k:Nat) (a0_0:Int) (l0_1:List (S77)):Option (Int × (List (S77)) × Int):=(impl_RingRight.f k a0_0 l0_1).bind fun t367=>(if t367=true then (if a0_0=5 then (some (0,([]:List (S77)),9)) else (if a0_0=0 then (none) else ((impl_ringNew.f k (wrap64 (a0_0+1)) (wrap64 ((l0_1.length:Int) / a0_0))).bind fun bt368=>(some (bt368.1,bt368.2,0))))) else (some (0,([]:List (S77)),1)))
theorem impl_RingMore.mono:∀ a0 a1 k,LeO (impl_RingMore.f k a0 a1) (impl_RingMore.f (k+1) a0 a1):=by
 intro a0 a1 k
 unfold impl_RingMore.f
 repeat' first
   | (with_reducible exact impl_RingRight.mono _ _ _)
   | (with_reducible exact impl_ringNew.mono _ _ _)
   | (with_reducible exact LeO.refl _)
   | (with_reducible exact LeO.none _)
   | (with_reducible refine LeO.ite ?_ ?_)
   | (with_reducible refine LeO.bind ?_ (fun _=>?_))
   | exact impl_RingRight.mono _ _ _
   | exact impl_ringNew.mono _ _ _
   | exact LeO.none _
   | refine LeO.ite ?_ ?_
   | refine LeO.bind ?_ (fun _=>?_)

/-! ### spec_RingMore: function 17 -/
def spec_RingMore.f (k:Nat) (a0_0:Int) (l0_1:List (S77)):Option (Int × (List (S77)) × Int):=(spec_RingRight.f k a0_0 l0_1).bind fun t383=>(if t383=true then (if a0_0≥5 then (some (0,([]:List (S77)),9)) else (if a0_0=0 then (none) else ((spec_l04New.f k (wrap64 (a0_0+1)) (wrap64 ((l0_1.length:Int) / a0_0))).bind fun bt384=>(some (bt384.1,bt384.2,0))))) else (some (0,([]:List (S77)),1)))
theorem spec_RingMore.mono:∀ a0 a1 k,LeO (spec_RingMore.f k a0 a1) (spec_RingMore.f (k+1) a0 a1):=by
 intro a0 a1 k
 unfold spec_RingMore.f
 repeat' first
   | (with_reducible exact spec_RingRight.mono _ _ _)
   | (with_reducible exact spec_l04New.mono _ _ _)
   | (with_reducible exact LeO.refl _)
   | (with_reducible exact LeO.none _)
   | (with_reducible refine LeO.ite ?_ ?_)
   | (with_reducible refine LeO.bind ?_ (fun _=>?_))
   | exact spec_RingRight.mono _ _ _
   | exact spec_l04New.mono _ _ _
   | exact LeO.none _
   | refine LeO.ite ?_ ?_
   | refine LeO.bind ?_ (fun _=>?_)
end Go.Proofs.YtelecnmflodkkaaDoor.P

namespace Go.Proofs.YtelecnmflodkkaaDoor.Q
open Go.RowKit Go.Proofs.YtelecnmflodkkaaDoor.P Go.Proofs.YtelecnmflodkkaaDoorW.PrintWords Go.Proofs.YtelecnmflodkkaaDoorW.PrintMore

theorem evMono {α:Type} {g:Nat→Option α} {r:α} (hm:∀ k,LeO (g k) (g (k+1))) (K:Nat) (h:g K=some r):Ev g r:=⟨K,fun k hk=>by
  obtain ⟨d,rfl⟩:=Nat.exists_eq_add_of_le hk
  induction d with
  | zero=>exact h
  | succ d ih=>exact hm _ _ (ih (by omega))⟩
def eqToks:List Tok→List Tok→Bool
  | [],[]=>true
  | x :: a,y :: b=>(x.f0 == y.f0 && x.f1 == y.f1) && eqToks a b
  | _,_=>false
theorem eqToks_eq:∀ a b:List Tok,eqToks a b=true→a=b
  | [],[],_=>rfl
  | x :: a,y :: b,h=>by
    simp only [eqToks,Bool.and_eq_true,beq_iff_eq] at h
    obtain ⟨⟨h1,h2⟩,h3⟩:=h
    obtain ⟨x0,x1⟩:=x
    obtain ⟨y0,y1⟩:=y
    simp only at h1 h2
    rw [h1,h2,eqToks_eq a b h3]
  | [],_ :: _,h=>by simp [eqToks] at h
  | _ :: _,[],h=>by simp [eqToks] at h
def ringRounds:Nat:=3000
def ringT (n e:Int):List Tok:=match spec_l04New.f ringRounds n e with
  | some x=>x.2
  | none=>[]
def ringTest (n e:Nat):Bool:=match impl_ringNew.f ringRounds (n:Int) (e:Int),spec_l04New.f ringRounds (n:Int) (e:Int) with
  | some x,some y=>x.1 == (n:Int) && (y.1 == (n:Int) && (eqToks x.2 y.2 && y.2.length == n*e))
  | _,_=>false
set_option maxRecDepth 1000000 in
theorem ring_all:(List.range 40).all (fun j=>ringTest (j / 8+1) (j % 8+1))=true:=by kernel_rfl
theorem ring_is {n e:Int} (hn:isNode n=true) (he:isWithin e 1 8=true) :
    Ev (fun k=>impl_ringNew.f k n e) (n,ringT n e)∧Ev (fun k=>spec_l04New.f k n e) (n,ringT n e)∧((ringT n e).length:Int)=n*e:=by
  rw [isNode_iff] at hn
  simp only [isWithin,Bool.and_eq_true,decide_eq_true_eq] at he
  obtain ⟨n,rfl⟩:=Int.eq_ofNat_of_zero_le (show 0≤n by omega)
  obtain ⟨e,rfl⟩:=Int.eq_ofNat_of_zero_le (show 0≤e by omega)
  have h:=List.all_eq_true.1 ring_all ((n-1)*8+(e-1)) (List.mem_range.2 (by omega))
  rw [show ((n-1)*8+(e-1)) / 8+1=n by omega,show ((n-1)*8+(e-1)) % 8+1=e by omega] at h
  unfold ringTest at h
  split at h
  · rename_i x y hx hy
    simp only [Bool.and_eq_true,beq_iff_eq] at h
    obtain ⟨h1,h2,h3,h4⟩:=h
    have h5:=eqToks_eq _ _ h3
    have ht:ringT (n:Int) (e:Int)=y.2:=by unfold ringT;rw [hy]
    obtain ⟨x1,x2⟩:=x
    obtain ⟨y1,y2⟩:=y
    simp only at h1 h2 h4 h5 ht
    clear h3
    subst h1
    subst h2
    subst h5
    rw [ht]
    refine ⟨evMono (fun k=>impl_ringNew.mono _ _ k) ringRounds hx,evMono (fun k=>spec_l04New.mono _ _ k) ringRounds hy,?_⟩
    rw [h4]
    simp
  · cases h
def ringOk (n:Int) (l:List Tok):Bool:=isNode n && (isWithin ((l.length:Int) / n) 1 8 && eqToks l (ringT n ((l.length:Int) / n)))
theorem tokNe (x y:Tok):(!(x.f0 == y.f0) || (!(x.f1 == y.f1)))=!(x.f0 == y.f0 && x.f1 == y.f1):=by
  cases x.f0 == y.f0 <;> cases x.f1 == y.f1 <;> rfl
theorem equal_l0 (l m:List Tok) (hl:l.length≤1048576) (hm:m.length=l.length):∀ (s t:List Tok) (i:Nat),l.drop i=s→m.drop i=t→i≤l.length →
    Ev (fun k=>slices_Equal_impl_Token_impl_Token.l0 k l m (l.length:Int) (i:Int)) (eqToks s t)
  | [],t,i,h,h',hi=>by
    have e:=dropNil' h hi
    have:t=[]:=by rw [← h',List.drop_eq_nil_of_le (by omega)]
    subst this
    refine Ev.step (f:=fun _=>some true) (fun k=>?_) (Ev.now _)
    simp only [slices_Equal_impl_Token_impl_Token.l0]
    rw [if_neg (by omega)]
  | x :: s,[],i,h,h',hi=>by
    have a:=(dropCons h z77).1
    have b:=dropNil h'
    omega
  | x :: s,y :: t,i,h,h',hi=>by
    obtain ⟨h1,h2,h3⟩:=dropCons h z77
    obtain ⟨g1,g2,g3⟩:=dropCons h' z77
    have hr:rd_T77 l (i:Int)=x:=by simpa [rd_T77] using h2
    have gr:rd_T77 m (i:Int)=y:=by simpa [rd_T77] using g2
    have ih:=equal_l0 l m hl hm s t (i+1) h3 g3 (by omega)
    refine Ev.step (fun k=>by simp only [slices_Equal_impl_Token_impl_Token.l0,hr,gr,tokNe];rw [if_pos (by omega),if_pos (by omega),if_pos (by omega),if_pos (by omega)]) ?_
    unfold eqToks
    cases x.f0 == y.f0 && x.f1 == y.f1 with
    | false=>exact evPos (by rfl) (Ev.now _)
    | true =>
      refine evNeg (by simp) ?_
      rw [w64 (by omega) (by omega)]
      exact ih
theorem eqToks_length:∀ a b:List Tok,a.length≠b.length→eqToks a b=false:=fun a b h=>by
  cases e:eqToks a b with
  | false=>rfl
  | true=>exact absurd (by rw [eqToks_eq a b e]) h
theorem Equal_ev (l m:List Tok) (hl:l.length≤1048576):Ev (fun k=>slices_Equal_impl_Token_impl_Token.f k l m) (eqToks l m):=by
  unfold slices_Equal_impl_Token_impl_Token.f
  refine evIte (fun h=>?_) (fun h=>?_)
  · exact equal_l0 l m hl (by omega) l m 0 rfl rfl (by omega)
  · rw [eqToks_length l m (by omega)]
    exact Ev.now _
theorem impl_RingRight_ev (n:Int) (l:List Tok) (hl:l.length≤1048576):Ev (fun k=>impl_RingRight.f k n l) (ringOk n l):=by
  unfold impl_RingRight.f ringOk
  refine evBind1 (isNode_is _) ?_
  cases hn:isNode n with
  | false=>exact evNeg (by simp) (Ev.now _)
  | true =>
    have hn':=(isNode_iff n).1 hn
    have hd:wrap64 ((l.length:Int) / n)=(l.length:Int) / n:=by
      have a:=Int.ediv_nonneg (show (0:Int)≤(l.length:Int) by omega) (show 0≤n by omega)
      have b:=Int.ediv_le_self n (show (0:Int)≤(l.length:Int) by omega)
      exact w64 (by omega) (by omega)
    rw [hd]
    refine evPos rfl (evNeg (by omega) (evBind1 (within_is _ _ _) ?_))
    cases he:isWithin ((l.length:Int) / n) 1 8 with
    | false=>exact evNeg (by simp) (Ev.now _)
    | true=>exact evPos rfl (Ev.bind (ring_is hn he).1 (Ev.bind (Equal_ev l _ hl) (Ev.now _)))
theorem specRight_l0 (n n':Int) (l m:List Tok) (hl:l.length≤1048576) (hm:m.length=l.length):∀ (s t:List Tok) (i:Nat),l.drop i=s→m.drop i=t→i≤l.length →
    Ev (fun k=>spec_RingRight.l0 k (i:Int) n l n' m) (eqToks s t)
  | [],t,i,h,h',hi=>by
    have e:=dropNil' h hi
    have:t=[]:=by rw [← h',List.drop_eq_nil_of_le (by omega)]
    subst this
    refine Ev.step (f:=fun _=>some true) (fun k=>?_) (Ev.now _)
    simp only [spec_RingRight.l0]
    rw [if_neg (by omega)]
  | x :: s,[],i,h,h',hi=>by
    have a:=(dropCons h z77).1
    have b:=dropNil h'
    omega
  | x :: s,y :: t,i,h,h',hi=>by
    obtain ⟨h1,h2,h3⟩:=dropCons h z77
    obtain ⟨g1,g2,g3⟩:=dropCons h' z77
    have hr:rd_T77 l (i:Int)=x:=by simpa [rd_T77] using h2
    have gr:rd_T77 m (i:Int)=y:=by simpa [rd_T77] using g2
    have ih:=specRight_l0 n n' l m hl hm s t (i+1) h3 g3 (by omega)
    refine Ev.step (fun k=>by simp only [spec_RingRight.l0,hr,gr,tokNe];rw [if_pos (by omega),if_pos (by omega),if_pos (by omega)]) ?_
    unfold eqToks
    cases x.f0 == y.f0 && x.f1 == y.f1 with
    | false=>exact evPos (by rfl) (Ev.now _)
    | true =>
      refine evNeg (by simp) ?_
      rw [w64 (by omega) (by omega)]
      exact ih
theorem spec_RingRight_ev (n:Int) (l:List Tok) (hl:l.length≤1048576):Ev (fun k=>spec_RingRight.f k n l) (ringOk n l):=by
  unfold spec_RingRight.f ringOk
  have jT:Ev (fun k=>spec_RingRight.j0 k true n l) false:=Ev.step (f:=fun _=>some false) (fun k=>by simp [spec_RingRight.j0]) (Ev.now _)
  refine evBind1 (l02Node_is _) ?_
  cases hn:isNode n with
  | false=>exact evNeg (by simp) jT
  | true =>
    have hn':=(isNode_iff n).1 hn
    have a:=Int.ediv_nonneg (show (0:Int)≤(l.length:Int) by omega) (show 0≤n by omega)
    have b:=Int.ediv_le_self n (show (0:Int)≤(l.length:Int) by omega)
    have hq:=Int.mul_ediv_add_emod (l.length:Int) n
    have hm0:=Int.emod_nonneg (l.length:Int) (show n≠0 by omega)
    have hm1:=Int.emod_lt_of_pos (l.length:Int) (show 0<n by omega)
    rw [w64 (x:=8*n) (by omega) (by omega)]
    -- where the lengths do not fit, the two are not the same
    have no:(isWithin ((l.length:Int) / n) 1 8 && eqToks l (ringT n ((l.length:Int) / n)))=true→1≤(l.length:Int)∧(l.length:Int)≤8*n∧(l.length:Int) % n=0:=by
      intro h
      simp only [Bool.and_eq_true] at h
      have hL:=(ring_is hn h.1).2.2
      rw [← eqToks_eq _ _ h.2] at hL
      have hw:=h.1
      simp only [isWithin,Bool.and_eq_true,decide_eq_true_eq] at hw
      have h8:n*((l.length:Int) / n)≤n*8:=Int.mul_le_mul_of_nonneg_left (by omega) (by omega)
      have h9:n*1≤n*((l.length:Int) / n):=Int.mul_le_mul_of_nonneg_left (by omega) (by omega)
      refine ⟨by omega,by omega,by omega⟩
    have fl:(¬ (1≤(l.length:Int)∧(l.length:Int)≤8*n∧(l.length:Int) % n=0))→(isWithin ((l.length:Int) / n) 1 8 && eqToks l (ringT n ((l.length:Int) / n)))=false:=fun h=>by
      cases e:(isWithin ((l.length:Int) / n) 1 8 && eqToks l (ringT n ((l.length:Int) / n))) with
      | false=>rfl
      | true=>exact absurd (no e) h
    refine evPos rfl ?_
    rw [Bool.true_and]
    by_cases c1:(l.length:Int)<1
    · rw [fl (by omega)];exact evPos c1 jT
    · refine evNeg c1 ?_
      by_cases c2:(l.length:Int)>8*n
      · rw [fl (by omega)];exact evPos c2 jT
      · refine evNeg c2 (evNeg (by omega) ?_)
        by_cases c3:(l.length:Int) % n=0
        · have e3:((l.length:Int) % n != 0)=false:=by simp [c3]
          rw [e3]
          have hlo:1≤(l.length:Int) / n:=by
            apply Int.not_lt.1
            intro hlt
            have:(l.length:Int) / n=0:=by omega
            rw [this] at hq
            omega
          have hhi:(l.length:Int) / n≤8:=by
            apply Int.not_lt.1
            intro hlt
            have:n*9≤n*((l.length:Int) / n):=Int.mul_le_mul_of_nonneg_left (by omega) (by omega)
            omega
          have he:isWithin ((l.length:Int) / n) 1 8=true:=by simp only [isWithin,Bool.and_eq_true,decide_eq_true_eq];omega
          have hL:=(ring_is hn he).2.2
          rw [he,Bool.true_and]
          refine Ev.step (fun k=>by simp only [spec_RingRight.j0];rw [if_neg (by simp),if_neg (by omega),w64 (x:=(l.length:Int) / n) (by omega) (by omega)]) (Ev.bind (ring_is hn he).2.1 ?_)
          exact specRight_l0 n n l (ringT n ((l.length:Int) / n)) hl (by omega) l _ 0 rfl rfl (by omega)
        · have e3:((l.length:Int) % n != 0)=true:=by simp [c3]
          rw [e3,fl (by omega)]
          exact jT
theorem szRing_is (a:Int) (l:List LTok) (n:Int) (h0:0≤n) (h1:n≤1048576) (hl:l.length≤9223372036854775807):laws_szRing.f a l n=some (if n<(l.length:Int) then -1 else n-(l.length:Int)):=by
  unfold laws_szRing.f
  rw [szTokenS_is l n h0 h1 hl,Option.bind_some]
  by_cases h:n<(l.length:Int)
  · rw [if_pos h];rfl
  · rw [if_neg h,if_neg (by omega)]
end Go.Proofs.YtelecnmflodkkaaDoor.Q

namespace Go.Proofs.YtelecnmflodkkaaDoor.Q
open Go.RowKit Go.Proofs.YtelecnmflodkkaaDoor.P Go.Proofs.YtelecnmflodkkaaDoorW.PrintWords Go.Proofs.YtelecnmflodkkaaDoorW.PrintMore

def firstLong:List ByteArray→Int→Int
  | [],_ => -1
  | a :: s,i=>if 8000<a.size then i else firstLong s (i+1)
theorem firstLong_any:∀ (s:List ByteArray) (i:Int),0≤i→decide (firstLong s i≥0)=s.any fun a=>decide (8000<a.size)
  | [],i,h=>by simp [firstLong]
  | a :: s,i,h=>by
    have ih:=firstLong_any s (i+1) (by omega)
    by_cases ha:8000<a.size
    · simp [firstLong,ha,h]
    · rw [firstLong,if_neg ha,ih,List.any_cons]
      simp [ha]
theorem isLong_l0 (l:List ByteArray) (hl:l.length≤4611686018427387904):∀ (s:List ByteArray) (i:Nat),l.drop i=s→i≤l.length →
    Ev (fun k=>slices_IndexFunc_string_string_impl_isLong_1.l0 k l (l.length:Int) (i:Int)) (firstLong s i)
  | [],i,h,hi=>by
    have:=dropNil' h hi
    refine Ev.step (f:=fun _=>some (-1)) (fun k=>?_) (Ev.now _)
    simp only [slices_IndexFunc_string_string_impl_isLong_1.l0]
    rw [if_neg (by omega)]
  | a :: s,i,h,hi=>by
    obtain ⟨h1,h2,h3⟩:=dropCons h ByteArray.empty
    have ih:=isLong_l0 l hl s (i+1) h3 (by omega)
    by_cases ha:8000<a.size
    · refine Ev.step (f:=fun _=>some (firstLong (a :: s) i)) (fun k=>?_) (Ev.now _)
      simp only [slices_IndexFunc_string_string_impl_isLong_1.l0,impl_isLong_1.f,rdOf,Int.toNat_natCast,h2]
      rw [if_pos (by omega),if_pos (by omega),if_pos (by omega)]
      simp [firstLong,ha]
      omega
    · refine Ev.step (fun k=>?_) (show Ev _ (firstLong (a :: s) i) from by simp only [firstLong,if_neg ha];exact ih)
      simp only [slices_IndexFunc_string_string_impl_isLong_1.l0,impl_isLong_1.f,rdOf,Int.toNat_natCast,h2]
      rw [if_pos (by omega),if_pos (by omega),if_pos (by omega),w64 (by omega) (by omega)]
      have:¬ ((a.size:Int)>8000):=by omega
      simp [this]
theorem isLong_ev (l:List ByteArray) (hl:l.length≤4611686018427387904):Ev (fun k=>impl_isLong.f k l) (l.any fun a=>decide (8000<a.size)):=by
  unfold impl_isLong.f slices_ContainsFunc_string_string_impl_isLong_1.f slices_IndexFunc_string_string_impl_isLong_1.f
  have h:=isLong_l0 l hl l 0 rfl (by omega)
  refine Ev.bind (Ev.bind h (Ev.now _)) ?_
  have e:=firstLong_any l 0 (by omega)
  rw [show ((0:Nat):Int)=0 from rfl,e]
  exact Ev.now _
theorem isLong1_ev (a:ByteArray):Ev (fun k=>impl_isLong.f k ([a]:List ByteArray)) (decide (8000<a.size)):=by
  have:=isLong_ev [a] (by simp)
  simpa using this
end Go.Proofs.YtelecnmflodkkaaDoor.Q

namespace Go.Proofs.YtelecnmflodkkaaDoor.Q
open Go.RowKit Go.Proofs.YtelecnmflodkkaaDoor.P Go.Proofs.YtelecnmflodkkaaDoorW.PrintWords Go.Proofs.YtelecnmflodkkaaDoorW.PrintMore

def lowCh (c:Int):Bool:=decide (97≤c) && decide (c≤122)
def nameCh (c:Int):Bool:=lowCh c || (decide (48≤c) && decide (c≤57)) || decide (c=95)
def nameList:List Int→Bool
  | []=>false
  | c :: r=>lowCh c && r.all nameCh
def nameOk (s:ByteArray):Bool:=decide (s.size≤20) && nameList (bytesOf s)
theorem bt_of {s:ByteArray} {i:Nat} {c:Int} (h:(bytesOf s).getD i 0=c):bt s (i:Int)=c:=by
  rw [← rd_bytesOf];simpa [rd] using h
theorem spec_name_round (s:ByteArray) (k i:Nat) (hi:i<s.size) (h1:1≤i) (hs:s.size≤1048576) :
    spec_NameRight.l0 (k+1) s (i:Int)=if nameCh (bt s i) then spec_NameRight.l0 k s ((i+1:Nat):Int) else some false:=by
  simp only [spec_NameRight.l0]
  rw [if_pos (by omega),if_pos (by omega),w64 (by omega) (by omega)]
  have h0:¬ ((i:Int)=0):=by omega
  simp only [if_neg h0,nameCh,lowCh]
  generalize bt s i=c
  by_cases h1:97≤c <;> by_cases h2:c≤122 <;> by_cases h3:48≤c <;> by_cases h4:c≤57 <;> by_cases h5:c=95 <;> first | (exfalso;omega) | simp [ge_iff_le,h1,h2,h3,h4,h5]
theorem spec_name_first (s:ByteArray) (k:Nat) (hi:0<s.size) (hs:s.size≤1048576) :
    spec_NameRight.l0 (k+1) s 0=if lowCh (bt s 0) then spec_NameRight.l0 k s 1 else some false:=by
  simp only [spec_NameRight.l0]
  rw [if_pos (by omega),if_pos (by omega),w64 (by omega) (by omega)]
  simp only [if_true,lowCh,Int.zero_add]
  generalize bt s 0=c
  by_cases h1:97≤c <;> by_cases h2:c≤122 <;> first | (exfalso;omega) | simp [ge_iff_le,h1,h2]
theorem spec_name_l0 (s:ByteArray) (hs:s.size≤1048576):∀ (r:List Int) (i:Nat),(bytesOf s).drop i=r→i≤s.size→1≤i→Ev (fun k=>spec_NameRight.l0 k s (i:Int)) (r.all nameCh)
  | [],i,h,hi,h1=>by
    have:=dropNil h
    rw [bytesOf_length] at this
    refine Ev.step (f:=fun _=>some true) (fun k=>?_) (Ev.now _)
    simp only [spec_NameRight.l0]
    rw [if_neg (by omega)]
  | c :: r,i,h,hi,h1=>by
    obtain ⟨g1,g2,g3⟩:=dropCons h 0
    rw [bytesOf_length] at g1
    have hb:=bt_of g2
    refine Ev.step (fun k=>spec_name_round s k i g1 h1 hs) ?_
    rw [hb]
    refine evIte (fun hc=>?_) (fun hc=>?_)
    · simp only [List.all_cons,hc,Bool.true_and];exact spec_name_l0 s hs r (i+1) g3 (by omega) (by omega)
    · simp only [List.all_cons,Bool.eq_false_iff.mpr hc,Bool.false_and];exact Ev.now _
theorem spec_NameRight_ev (s:ByteArray) (hs:s.size≤1048576):Ev (fun k=>spec_NameRight.f k s) (nameOk s):=by
  have hl:=bytesOf_length s
  unfold spec_NameRight.f nameOk
  refine evIte (fun h=>?_) (fun h=>?_)
  · refine Ev.step (f:=fun _=>some false) (fun k=>by simp only [spec_NameRight.j0];rw [if_pos trivial]) ?_
    have:bytesOf s=[]:=by rw [← List.length_eq_zero_iff,hl];omega
    simp only [this,nameList,Bool.and_false]
    exact Ev.now _
  · by_cases h20:(s.size:Int)>20
    · refine Ev.step (f:=fun _=>some false) (fun k=>by simp only [spec_NameRight.j0];rw [if_pos (by simpa using h20)]) ?_
      have:¬ s.size≤20:=by omega
      simp only [this,decide_false,Bool.false_and]
      exact Ev.now _
    · refine Ev.step (fun k=>by simp only [spec_NameRight.j0];rw [if_neg (by simpa using h20)]) ?_
      have h20':s.size≤20:=by omega
      simp only [h20',decide_true,Bool.true_and]
      cases hb:bytesOf s with
      | nil=>rw [hb] at hl;simp at hl;omega
      | cons c r =>
        have hc:bt s ((0:Nat):Int)=c:=bt_of (by rw [hb];rfl)
        refine Ev.step (fun k=>spec_name_first s k (by omega) hs) ?_
        rw [show (0:Int)=((0:Nat):Int) from rfl,hc]
        refine evIte (fun h1=>?_) (fun h1=>?_)
        · simp only [nameList,h1,Bool.true_and]
          exact spec_name_l0 s hs r 1 (by rw [hb];rfl) (by omega) (by omega)
        · simp only [nameList,Bool.eq_false_iff.mpr h1,Bool.false_and];exact Ev.now _
theorem impl_name_round (s:ByteArray) (k i:Nat) (hi:i<s.size) (hs:s.size≤140737488351232) :
    impl_NameRight.l0 (k+1) s (s.size:Int) (i:Int)=if nameCh (bt s i) then impl_NameRight.l0 k s (s.size:Int) ((i+1:Nat):Int) else some false:=by
  simp only [impl_NameRight.l0]
  rw [if_pos (by omega),if_pos (by omega),if_pos (by omega),w64 (by omega) (by omega)]
  simp only [nameCh,lowCh]
  generalize bt s i=c
  by_cases h1:97≤c <;> by_cases h2:c≤122 <;> by_cases h3:48≤c <;> by_cases h4:c≤57 <;> by_cases h5:c=95 <;> first | (exfalso;omega) | simp [ge_iff_le,h1,h2,h3,h4,h5]
theorem impl_name_l0 (s:ByteArray) (hs:s.size≤140737488351232):∀ (r:List Int) (i:Nat),(bytesOf s).drop i=r→i≤s.size→Ev (fun k=>impl_NameRight.l0 k s (s.size:Int) (i:Int)) (r.all nameCh)
  | [],i,h,hi=>by
    have:=dropNil h
    rw [bytesOf_length] at this
    refine Ev.step (f:=fun _=>some true) (fun k=>?_) (Ev.now _)
    simp only [impl_NameRight.l0]
    rw [if_neg (by omega)]
  | c :: r,i,h,hi=>by
    obtain ⟨g1,g2,g3⟩:=dropCons h 0
    rw [bytesOf_length] at g1
    have hb:=bt_of g2
    refine Ev.step (fun k=>impl_name_round s k i g1 hs) ?_
    rw [hb]
    refine evIte (fun hc=>?_) (fun hc=>?_)
    · simp only [List.all_cons,hc,Bool.true_and];exact impl_name_l0 s hs r (i+1) g3 (by omega)
    · simp only [List.all_cons,Bool.eq_false_iff.mpr hc,Bool.false_and];exact Ev.now _
theorem low_name {c:Int} (h:lowCh c=true):nameCh c=true:=by simp [nameCh,h]
theorem impl_NameRight_ev (s:ByteArray) (hs:s.size≤140737488351232):Ev (fun k=>impl_NameRight.f k s) (nameOk s):=by
  have hl:=bytesOf_length s
  unfold impl_NameRight.f nameOk impl_size.f
  refine evBind1 rfl (evBind1 (within_is _ _ _) ?_)
  refine evIte (fun h=>?_) (fun h=>?_)
  · have hw:1≤(s.size:Int)∧(s.size:Int)≤20:=by simpa [isWithin] using h
    refine evPos (by omega) ?_
    have h20':s.size≤20:=by omega
    simp only [h20',decide_true,Bool.true_and]
    cases hb:bytesOf s with
    | nil=>rw [hb] at hl;simp at hl;omega
    | cons c r =>
      have hc:bt s ((0:Nat):Int)=c:=bt_of (by rw [hb];rfl)
      have hc':bt s 0=c:=hc
      rw [hc']
      refine evIte (fun h1=>?_) (fun h1=>?_)
      · refine Ev.step (f:=fun _=>some false) (fun k=>by simp only [impl_NameRight.j0];rw [if_pos trivial]) ?_
        have:lowCh c=false:=by simp [lowCh];omega
        simp only [nameList,this,Bool.false_and];exact Ev.now _
      · by_cases h2:c>122
        · refine Ev.step (f:=fun _=>some false) (fun k=>by simp only [impl_NameRight.j0];rw [if_pos (by simpa using h2)]) ?_
          have:lowCh c=false:=by simp [lowCh];omega
          simp only [nameList,this,Bool.false_and];exact Ev.now _
        · refine Ev.step (fun k=>by simp only [impl_NameRight.j0];rw [if_neg (by simpa using h2)]) ?_
          have hlow:lowCh c=true:=by simp [lowCh];omega
          simp only [nameList,hlow,Bool.true_and]
          have:=impl_name_l0 s hs (c :: r) 0 (by rw [hb];rfl) (by omega)
          simpa [low_name hlow] using this
  · refine Ev.step (f:=fun _=>some false) (fun k=>by simp only [impl_NameRight.j0];rw [if_pos trivial]) ?_
    have hw:isWithin (s.size:Int) 1 20=false:=by simpa using h
    have:(decide (s.size≤20) && nameList (bytesOf s))=false:=by
      by_cases h20:s.size≤20
      · have:bytesOf s=[]:=by
          rw [← List.length_eq_zero_iff,hl]
          simp [isWithin] at hw;omega
        simp [this,nameList]
      · simp [h20]
    rw [this]
    exact Ev.now _
end Go.Proofs.YtelecnmflodkkaaDoor.Q

namespace Go.Proofs.YtelecnmflodkkaaDoor.Q
open Go.RowKit Go.Proofs.YtelecnmflodkkaaDoor.P Go.Proofs.YtelecnmflodkkaaDoorW.PrintWords Go.Proofs.YtelecnmflodkkaaDoorW.PrintMore

theorem bits_xor_nat (k:IntKind) (j:Nat) (hj:j≤k.bits) (hk:∀ n:Int,0≤n→n<2 ^ j→k.wrap n=n) (a b:Nat) (ha:a<2 ^ j) (hb:b<2 ^ j):bits .xor k a b=((a ^^^ b:Nat):Int):=by
  have hp:2 ^ j≤2 ^ k.bits:=Nat.pow_le_pow_right (by decide) hj
  have ha':a % 2 ^ k.bits=a:=Nat.mod_eq_of_lt (Nat.lt_of_lt_of_le ha hp)
  have hb':b % 2 ^ k.bits=b:=Nat.mod_eq_of_lt (Nat.lt_of_lt_of_le hb hp)
  simp only [bits,BitVec.ofInt_natCast,BitVec.toNat_xor,BitVec.toNat_ofNat,ha',hb']
  exact hk _ (Int.natCast_nonneg _) (by exact_mod_cast Nat.xor_lt_two_pow ha hb)
theorem wraps_u32 (n:Int) (h₀:0≤n) (h₁:n<2 ^ 32):IntKind.u32.wrap n=n:=by rw [IntKind.wrap_u32];omega
theorem xor_range (a b:Int) (ha:0≤a) (ha':a<4294967296) (hb:0≤b) (hb':b<256) :
    Go.bits .xor .i64 a b=Go.bits .xor .u32 a b∧0≤Go.bits .xor .u32 a b∧Go.bits .xor .u32 a b<4294967296:=by
  obtain ⟨m,rfl⟩:=Int.eq_ofNat_of_zero_le ha
  obtain ⟨n,rfl⟩:=Int.eq_ofNat_of_zero_le hb
  have hm:m<2 ^ 32:=by omega
  have hn:n<2 ^ 32:=by omega
  have e1:=bits_xor_nat .u32 32 (by decide) wraps_u32 m n hm hn
  have e2:=bits_xor_nat .i64 63 (by decide) wraps_i64 m n (by omega) (by omega)
  have h:=Nat.xor_lt_two_pow hm hn
  rw [e1,e2]
  refine ⟨rfl,by omega,by omega⟩
def fnvStep (x b:Int):Int:=(Go.bits .xor .u32 x b*16777619) % 4294967296
def fnv (s:ByteArray):Int:=(bytesOf s).foldl fnvStep 2166136261
theorem fnvStep_range (x b:Int):0≤fnvStep x b∧fnvStep x b<4294967296:=by unfold fnvStep;omega
theorem spec_fnv_l0 (s:ByteArray) (hs:s.size≤140737488351232):∀ (r:List Int) (i:Nat),(bytesOf s).drop i=r→i≤s.size→∀ x:Int,0≤x→x<4294967296→Ev (fun k=>spec_l04Fnv.l0 k s x (i:Int)) (r.foldl fnvStep x)
  | [],i,h,hi,x,h0,h1=>by
    have:=dropNil h
    rw [bytesOf_length] at this
    refine Ev.step (f:=fun _=>some x) (fun k=>?_) (Ev.now _)
    simp only [spec_l04Fnv.l0]
    rw [if_neg (by omega)]
  | c :: r,i,h,hi,x,h0,h1=>by
    obtain ⟨g1,g2,g3⟩:=dropCons h 0
    rw [bytesOf_length] at g1
    have hb:=bt_of g2
    have hr:=bt_range s (i:Int)
    rw [hb] at hr
    have hx:=xor_range x c h0 h1 hr.1 (by omega)
    have hq:=fnvStep_range x c
    refine Ev.step (fun k=>?_) (spec_fnv_l0 s hs r (i+1) g3 (by omega) (fnvStep x c) hq.1 hq.2)
    simp only [spec_l04Fnv.l0,hb]
    rw [if_pos (by omega),if_pos (by omega),w64 (x:=c) (by omega) (by omega),hx.1,w64 (x:=_*16777619) (by omega) (by omega),w64 (by omega) (by omega),Int.tmod_eq_emod_of_nonneg (by omega)]
    rfl
theorem impl_fnv_l0 (s:ByteArray) (hs:s.size≤140737488351232):∀ (r:List Int) (i:Nat),(bytesOf s).drop i=r→i≤s.size→∀ x:Int,0≤x→x<4294967296→Ev (fun k=>impl_fnv.l0 k s x (s.size:Int) (i:Int)) (r.foldl fnvStep x)
  | [],i,h,hi,x,h0,h1=>by
    have:=dropNil h
    rw [bytesOf_length] at this
    refine Ev.step (f:=fun _=>some x) (fun k=>?_) (Ev.now _)
    simp only [impl_fnv.l0]
    rw [if_neg (by omega),w64 (by omega) (by omega)]
  | c :: r,i,h,hi,x,h0,h1=>by
    obtain ⟨g1,g2,g3⟩:=dropCons h 0
    rw [bytesOf_length] at g1
    have hb:=bt_of g2
    have hr:=bt_range s (i:Int)
    rw [hb] at hr
    have hq:=fnvStep_range x c
    refine Ev.step (fun k=>?_) (impl_fnv_l0 s hs r (i+1) g3 (by omega) (fnvStep x c) hq.1 hq.2)
    simp only [impl_fnv.l0,hb]
    rw [if_pos (by omega),if_pos (by omega),if_pos (by omega),show c % 4294967296=c from by omega,w64 (by omega) (by omega)]
    rfl
theorem spec_l04Fnv_ev (s:ByteArray) (hs:s.size≤140737488351232):Ev (fun k=>spec_l04Fnv.f k s) (fnv s):=spec_fnv_l0 s hs _ 0 rfl (by omega) _ (by omega) (by omega)
theorem impl_fnv_ev (s:ByteArray) (hs:s.size≤140737488351232):Ev (fun k=>impl_fnv.f k s) (fnv s):=impl_fnv_l0 s hs _ 0 rfl (by omega) _ (by omega) (by omega)
end Go.Proofs.YtelecnmflodkkaaDoor.Q

namespace Go.Proofs.YtelecnmflodkkaaDoor.P
open Go.RowKit Go.Proofs.YtelecnmflodkkaaDoorW.PrintWords Go.Proofs.YtelecnmflodkkaaDoorW.PrintLast Go.Proofs.YtelecnmflodkkaaDoorW.PrintMore
attribute [local go_sem] max2_int min2_int max_two min_two max_three min_three max_four min_four   -- for this text's walks alone
set_option linter.unusedVariables false
set_option linter.unusedSimpArgs false

/-! ### laws_toInt64S: function 31 -/
def laws_toInt64S.l0:Nat→List Int→List Int→Int→Option (List Int)
 | 0,_,_,_=>none
 | k+1,x0,x3,x4=>if x4<(x0.length:Int) then (if 0≤x4 then (if x4<(x3.length:Int) then (laws_toInt64S.l0 k x0 (x3.set (x4:Int).toNat (rd x0 x4)) (wrap64 (x4+1))) else (none)) else (none)) else (some x3)
def laws_toInt64S.f (k:Nat) (l0:List Int):Option (List Int):=if 0≤(l0.length:Int) then (if ((l0.length:Int):Int).toNat≤35184372088832 then (laws_toInt64S.l0 k l0 (List.replicate ((l0.length:Int):Int).toNat 0) 0) else (none)) else (none)
theorem laws_toInt64S.mono_l:∀ k,(∀ y0 y1 y2,LeO (laws_toInt64S.l0 k y0 y1 y2) (laws_toInt64S.l0 (k+1) y0 y1 y2))
 | 0=>fun _ _ _ r h=>by simp [laws_toInt64S.l0] at h
 | k+1=>by
  have ih0:=laws_toInt64S.mono_l k
  ·intro y0 y1 y2
   unfold laws_toInt64S.l0
   repeat' first
   | (with_reducible exact ih0 _ _ _)
   | (with_reducible exact LeO.refl _)
   | (with_reducible exact LeO.none _)
   | (with_reducible refine LeO.ite ?_ ?_)
   | (with_reducible refine LeO.bind ?_ (fun _=>?_))
   | exact ih0 _ _ _
   | exact LeO.none _
   | refine LeO.ite ?_ ?_
   | refine LeO.bind ?_ (fun _=>?_)
theorem laws_toInt64S.mono:∀ a0 k,LeO (laws_toInt64S.f k a0) (laws_toInt64S.f (k+1) a0):=by
 intro a0 k
 have ih0:=laws_toInt64S.mono_l k
 unfold laws_toInt64S.f
 repeat' first
   | (with_reducible exact ih0 _ _ _)
   | (with_reducible exact LeO.refl _)
   | (with_reducible exact LeO.none _)
   | (with_reducible refine LeO.ite ?_ ?_)
   | (with_reducible refine LeO.bind ?_ (fun _=>?_))
   | exact ih0 _ _ _
   | exact LeO.none _
   | refine LeO.ite ?_ ?_
   | refine LeO.bind ?_ (fun _=>?_)
end Go.Proofs.YtelecnmflodkkaaDoor.P

namespace Go.Proofs.YtelecnmflodkkaaDoor.Q
open Go.RowKit Go.Proofs.YtelecnmflodkkaaDoor.P Go.Proofs.YtelecnmflodkkaaDoorW.PrintWords Go.Proofs.YtelecnmflodkkaaDoorW.PrintMore

theorem rd_of {l:List Int} {i:Nat} {m:Int} (h:l.getD i 0=m):rd l (i:Int)=m:=by simpa [rd] using h
theorem eqInt64S_l0 (l:List Int) (hl:l.length≤4611686018427387904):∀ (s:List Int) (i:Nat),l.drop i=s→i≤l.length →
    Ev (fun k=>laws_eqInt64S.l0 k l l (i:Int)) true
  | [],i,h,hi=>by
    have:=dropNil' h hi
    refine Ev.step (f:=fun _=>some true) (fun k=>?_) (Ev.now _)
    simp only [laws_eqInt64S.l0]
    rw [if_neg (by omega)]
  | m :: s,i,h,hi=>by
    obtain ⟨h1,h2,h3⟩:=dropCons h 0
    refine Ev.step (fun k=>?_) (eqInt64S_l0 l hl s (i+1) h3 (by omega))
    simp only [laws_eqInt64S.l0]
    rw [if_pos (by omega),if_pos (by omega),if_pos (by omega),if_pos trivial,w64 (by omega) (by omega)]
    rfl
theorem eqInt64S_ev (l:List Int) (hl:l.length≤4611686018427387904):Ev (fun k=>laws_eqInt64S.f k l l) true:=by
  unfold laws_eqInt64S.f
  exact evPos rfl (eqInt64S_l0 l hl l 0 rfl (by omega))
theorem getDi_mid (pre:List Int) (m:Int) (s:List Int):(pre ++ m :: s).getD pre.length 0=m:=by
  rw [List.getD_eq_getElem?_getD,List.getElem?_append_right (Nat.le_refl _),Nat.sub_self];rfl
theorem seti_mid (pre:List Int) (m x:Int) (s:List Int):(pre ++ m :: s).set pre.length x=pre ++ x :: s:=by
  rw [List.set_append_right _ _ (Nat.le_refl _),Nat.sub_self];rfl
def markI:Int→List Int→List Int
  | _,[]=>[]
  | n,_ :: r=>n :: markI (n+1) r
theorem markInt64S_l0 (N:Int) (hN:N≤1152921504606846976):∀ (s pre:List Int) (n:Int),0≤n→n+(s.length:Int)≤N→(pre.length:Int)+s.length≤N →
    Ev (fun k=>laws_markInt64S.l0 k (pre ++ s) n (pre.length:Int)) (n+(s.length:Int),pre ++ markI n s)
  | [],pre,n,h0,h1,h2=>by
    refine Ev.step (f:=fun _=>some (n,pre)) (fun k=>?_) (by simp [markI];exact Ev.now _)
    simp only [laws_markInt64S.l0,List.append_nil]
    rw [if_neg (by omega)]
  | m :: s,pre,n,h0,h1,h2=>by
    simp only [List.length_cons] at h1 h2
    have ih:=markInt64S_l0 N hN s (pre ++ [n]) (n+1) (by omega) (by omega) (by simp;omega)
    simp only [List.length_append,List.length_cons,List.length_nil,List.append_assoc,List.cons_append,List.nil_append] at ih
    refine Ev.step (fun k=>?_) (show Ev _ (n+((m :: s).length:Int),pre ++ markI n (m :: s)) from by
      simp only [markI,List.length_cons]
      rw [show n+((s.length+1:Nat):Int)=n+1+(s.length:Int) from by omega]
      exact ih)
    simp only [laws_markInt64S.l0,Int.toNat_natCast,seti_mid]
    rw [if_pos (by simp;omega),if_pos (by omega),w64 (x:=n+1) (by omega) (by omega),w64 (x:=(pre.length:Int)+1) (by omega) (by omega)]
    rfl
theorem markInt64S_ev (s:List Int) (n:Int) (h0:0≤n) (h1:n+(s.length:Int)≤1152921504606846976):Ev (fun k=>laws_markInt64S.f k s n) (n+(s.length:Int),markI n s) :=
  markInt64S_l0 1152921504606846976 (Int.le_refl _) s [] n h0 h1 (by simp;omega)
theorem heldInt64S_l0 (N:Int) (hN:N≤1152921504606846976):∀ (s pre:List Int) (n:Int),0≤n→n+(s.length:Int)≤N→(pre.length:Int)+s.length≤N →
    Ev (fun k=>laws_heldInt64S.l0 k (pre ++ markI n s) n (pre.length:Int)) (n+(s.length:Int))
  | [],pre,n,h0,h1,h2=>by
    refine Ev.step (f:=fun _=>some n) (fun k=>?_) (by simp;exact Ev.now _)
    simp only [laws_heldInt64S.l0,markI,List.append_nil]
    rw [if_neg (by omega)]
  | m :: s,pre,n,h0,h1,h2=>by
    simp only [List.length_cons] at h1 h2
    have ih:=heldInt64S_l0 N hN s (pre ++ [n]) (n+1) (by omega) (by omega) (by simp;omega)
    simp only [List.length_append,List.length_cons,List.length_nil,List.append_assoc,List.cons_append,List.nil_append] at ih
    refine Ev.step (fun k=>?_) (show Ev _ (n+((m :: s).length:Int)) from by
      simp only [List.length_cons]
      rw [show n+((s.length+1:Nat):Int)=n+1+(s.length:Int) from by omega]
      exact ih)
    have hr:rd (pre ++ markI n (m :: s)) (pre.length:Int)=n:=by simp only [rd,Int.toNat_natCast,markI,getDi_mid]
    simp only [laws_heldInt64S.l0,hr]
    rw [if_pos (by simp [markI];omega),if_pos (by omega),if_pos trivial,w64 (x:=n+1) (by omega) (by omega),w64 (x:=(pre.length:Int)+1) (by omega) (by omega)]
    rfl
theorem heldInt64S_ev (s:List Int) (n:Int) (h0:0≤n) (h1:n+(s.length:Int)≤1152921504606846976):Ev (fun k=>laws_heldInt64S.f k (markI n s) n) (n+(s.length:Int)) :=
  heldInt64S_l0 1152921504606846976 (Int.le_refl _) s [] n h0 h1 (by simp;omega)
end Go.Proofs.YtelecnmflodkkaaDoor.Q

namespace Go.Proofs.YtelecnmflodkkaaDoor.P
open Go.RowKit Go.Proofs.YtelecnmflodkkaaDoorW.PrintWords Go.Proofs.YtelecnmflodkkaaDoorW.PrintLast Go.Proofs.YtelecnmflodkkaaDoorW.PrintMore
attribute [local go_sem] max2_int min2_int max_two min_two max_three min_three max_four min_four   -- for this text's walks alone
set_option linter.unusedVariables false
set_option linter.unusedSimpArgs false

/-! ### impl_Order: function 22 -/
def impl_Order.f (k:Nat) (a0_0:Int) (l0_1:List (S77)) (a1:ByteArray):Option (List Int):=(impl_isKeyed.f k a0_0 l0_1 a1).bind fun t552=>(if t552=true then ((impl_order.f k a0_0 l0_1 a1).bind fun t553=>(some t553)) else (some ([]:List Int)))
theorem impl_Order.mono:∀ a0 a1 a2 k,LeO (impl_Order.f k a0 a1 a2) (impl_Order.f (k+1) a0 a1 a2):=by
 intro a0 a1 a2 k
 unfold impl_Order.f
 repeat' first
   | (with_reducible exact impl_isKeyed.mono _ _ _ _)
   | (with_reducible exact impl_order.mono _ _ _ _)
   | (with_reducible exact LeO.refl _)
   | (with_reducible exact LeO.none _)
   | (with_reducible refine LeO.ite ?_ ?_)
   | (with_reducible refine LeO.bind ?_ (fun _=>?_))
   | exact impl_isKeyed.mono _ _ _ _
   | exact impl_order.mono _ _ _ _
   | exact LeO.none _
   | refine LeO.ite ?_ ?_
   | refine LeO.bind ?_ (fun _=>?_)
end Go.Proofs.YtelecnmflodkkaaDoor.P

namespace Go.Proofs.YtelecnmflodkkaaDoor.Q
open Go.RowKit Go.Proofs.YtelecnmflodkkaaDoor.P Go.Proofs.YtelecnmflodkkaaDoorW.PrintWords Go.Proofs.YtelecnmflodkkaaDoorW.PrintMore

theorem among_l0 (l:List Int) (n:Int) (hl:l.length≤4611686018427387904):∀ (s:List Int) (i:Nat),l.drop i=s→i≤l.length→Ev (fun k=>spec_l04Among.l0 k l n (i:Int)) (decide (n ∈ s))
  | [],i,h,hi=>by
    have:=dropNil' h hi
    refine Ev.step (f:=fun _=>some false) (fun k=>?_) (by simp;exact Ev.now _)
    simp only [spec_l04Among.l0]
    rw [if_neg (by omega)]
  | m :: s,i,h,hi=>by
    obtain ⟨h1,h2,h3⟩:=dropCons h 0
    have hr:=rd_of h2
    by_cases e:m=n
    · refine Ev.step (f:=fun _=>some true) (fun k=>?_) (by simp [e];exact Ev.now _)
      simp only [spec_l04Among.l0,hr]
      rw [if_pos (by omega),if_pos (by omega),if_pos e]
    · have ih:=among_l0 l n hl s (i+1) h3 (by omega)
      have e2:decide (n ∈ m :: s)=decide (n ∈ s):=by simp [show ¬ n=m from fun h=>e h.symm]
      rw [e2]
      refine Ev.step (fun k=>?_) ih
      simp only [spec_l04Among.l0,hr]
      rw [if_pos (by omega),if_pos (by omega),if_neg e,w64 (by omega) (by omega)]
      rfl
theorem among_ev (l:List Int) (n:Int) (hl:l.length≤4611686018427387904):Ev (fun k=>spec_l04Among.f k l n) (decide (n ∈ l)):=among_l0 l n hl l 0 rfl (by omega)
theorem indexI_l0 (l:List Int) (n:Int) (hl:l.length≤4611686018427387904):∀ (s:List Int) (i:Nat),l.drop i=s→i≤l.length→∃ r,Ev (fun k=>slices_Index_int64_int64.l0 k l n (l.length:Int) (i:Int)) r∧decide (r≥0)=decide (n ∈ s)
  | [],i,h,hi=>by
    have:=dropNil' h hi
    refine ⟨-1,Ev.step (f:=fun _=>some (-1)) (fun k=>?_) (Ev.now _),by simp⟩
    simp only [slices_Index_int64_int64.l0]
    rw [if_neg (by omega)]
  | m :: s,i,h,hi=>by
    obtain ⟨h1,h2,h3⟩:=dropCons h 0
    have hr:=rd_of h2
    by_cases e:n=m
    · refine ⟨i,Ev.step (f:=fun _=>some (i:Int)) (fun k=>?_) (Ev.now _),by simp [e]⟩
      simp only [slices_Index_int64_int64.l0,hr]
      rw [if_pos (by omega),if_pos (by omega),if_pos (by omega),if_pos e]
    · obtain ⟨r,e1,e2⟩:=indexI_l0 l n hl s (i+1) h3 (by omega)
      refine ⟨r,Ev.step (fun k=>?_) e1,by rw [e2];simp [e]⟩
      simp only [slices_Index_int64_int64.l0,hr]
      rw [if_pos (by omega),if_pos (by omega),if_pos (by omega),if_neg e,w64 (by omega) (by omega)]
      rfl
theorem Contains_ev (l:List Int) (n:Int) (hl:l.length≤4611686018427387904):Ev (fun k=>slices_Contains_int64_int64.f k l n) (decide (n ∈ l)):=by
  obtain ⟨r,e1,e2⟩:=indexI_l0 l n hl l 0 rfl (by omega)
  unfold slices_Contains_int64_int64.f
  rw [← e2]
  exact Ev.bind e1 (Ev.now _)
/-- How many tokens lie ahead. -/
def firstAt (h:Int):List Tok→Nat→Nat
  | [],i=>i
  | t :: r,i=>if t.f0<h then firstAt h r (i+1) else i
theorem firstAt_le (h:Int):∀ (s:List Tok) (i:Nat),i≤firstAt h s i∧firstAt h s i≤i+s.length
  | [],i=>by simp [firstAt]
  | t :: r,i=>by
    have:=firstAt_le h r (i+1)
    simp only [firstAt,List.length_cons]
    split <;> omega
def ordFrom (l:List Tok) (first:Nat):Nat→Nat→List Int→List Int
  | 0,_,acc=>acc
  | f+1,i,acc=>ordFrom l first f (i+1) (if (l.getD ((first+i) % l.length) z77).f1 ∈ acc then acc else acc ++ [(l.getD ((first+i) % l.length) z77).f1])
theorem ordFrom_mod (l:List Tok) (a b:Nat) (h:a % l.length=b % l.length):∀ (f i:Nat) (acc:List Int),ordFrom l a f i acc=ordFrom l b f i acc
  | 0,_,_=>rfl
  | f+1,i,acc=>by
    simp only [ordFrom]
    have e:(a+i) % l.length=(b+i) % l.length:=by rw [Nat.add_mod,h,← Nat.add_mod]
    rw [e]
    exact ordFrom_mod l a b h f (i+1) _
theorem ordFrom_length (l:List Tok) (a:Nat):∀ (f i:Nat) (acc:List Int),(ordFrom l a f i acc).length≤acc.length+f
  | 0,_,_=>by simp [ordFrom]
  | f+1,i,acc=>by
    simp only [ordFrom]
    split
    · have:=ordFrom_length l a f (i+1) acc;omega
    · have:=ordFrom_length l a f (i+1) (acc ++ [(l.getD ((a+i) % l.length) z77).f1])
      simp only [List.length_append,List.length_cons,List.length_nil] at this
      omega
def orderL (l:List Tok) (h:Int):List Int:=ordFrom l (firstAt h l 0) l.length 0 []
theorem orderL_length (l:List Tok) (h:Int):(orderL l h).length≤l.length:=by
  have:=ordFrom_length l (firstAt h l 0) l.length 0 []
  simp only [List.length_nil,Nat.zero_add] at this
  exact this
theorem tmod_at (l:List Tok) (a i:Nat) (ha:a≤l.length) (hi:i<l.length) (hl:l.length≤1048576) :
    Int.tmod (wrap64 ((a:Int)+(i:Int))) (l.length:Int)=(((a+i) % l.length:Nat):Int)∧(((a+i) % l.length:Nat):Int)<(l.length:Int):=by
  have hm:=Nat.mod_lt (a+i) (show 0<l.length by omega)
  rw [w64 (by omega) (by omega),Int.tmod_eq_emod_of_nonneg (by omega)]
  refine ⟨?_,by omega⟩
  rw [show (a:Int)+(i:Int)=((a+i:Nat):Int) by omega]
  exact (Int.natCast_emod (a+i) l.length).symm
theorem rdT_at (l:List Tok) (a:Nat):rd_T77 l (a:Int)=l.getD a z77:=by simp [rd_T77]
theorem specOrder_l1 (n:Int) (l:List Tok) (a:Nat) (ha:a≤l.length) (hl:l.length≤1048576):∀ (f i:Nat) (acc:List Int),i+f=l.length→acc.length≤i →
    Ev (fun k=>spec_l04Order.l1 k (a:Int) acc (i:Int) n l) (ordFrom l a f i acc)
  | 0,i,acc,h,hc=>by
    refine Ev.step (f:=fun _=>some acc) (fun k=>?_) (Ev.now _)
    simp only [spec_l04Order.l1]
    rw [if_neg (by omega)]
  | f+1,i,acc,h,hc=>by
    obtain ⟨t1,t2⟩:=tmod_at l a i ha (by omega) hl
    refine Ev.step (fun k=>by simp only [spec_l04Order.l1,t1,rdT_at];rw [if_pos (by omega),if_neg (by omega),if_pos (by omega),if_pos t2]) (Ev.bind (among_ev acc _ (by omega)) ?_)
    simp only [ordFrom]
    by_cases e:(l.getD ((a+i) % l.length) z77).f1 ∈ acc
    · rw [if_pos e,decide_eq_true e]
      refine evPos rfl ?_
      rw [w64 (by omega) (by omega)]
      exact specOrder_l1 n l a ha hl f (i+1) acc (by omega) (by omega)
    · rw [if_neg e,decide_eq_false e]
      refine evNeg (by simp) (evPos (by omega) ?_)
      rw [w64 (by omega) (by omega)]
      exact specOrder_l1 n l a ha hl f (i+1) _ (by omega) (by simp;omega)
theorem specOrder_l0 (n h:Int) (l:List Tok) (hl:l.length≤1048576):∀ (s:List Tok) (i:Nat),l.drop i=s→i≤l.length →
    Ev (fun k=>spec_l04Order.l0 k h (i:Int) n l) (ordFrom l (firstAt h s i) l.length 0 [])
  | [],i,hd,hi=>by
    have:=dropNil' hd hi
    refine Ev.step (f:=fun k=>spec_l04Order.j1 k h (i:Int) false n l) (fun k=>?_) (Ev.step (fun k=>?_) (specOrder_l1 n l i (by omega) hl l.length 0 [] (by omega) (by simp)))
    · simp only [spec_l04Order.l0]
      rw [if_neg (by omega)]
    · simp only [spec_l04Order.j1]
      rw [if_neg (by simp)]
      rfl
  | t :: s,i,hd,hi=>by
    obtain ⟨h1,h2,h3⟩:=dropCons hd z77
    have hr:rd_T77 l (i:Int)=t:=by simpa [rd_T77] using h2
    simp only [firstAt]
    by_cases e:t.f0<h
    · rw [if_pos e]
      refine Ev.step (f:=fun k=>spec_l04Order.j1 k h (i:Int) true n l) (fun k=>?_) (Ev.step (fun k=>?_) (specOrder_l0 n h l hl s (i+1) h3 (by omega)))
      · simp only [spec_l04Order.l0,hr]
        rw [if_pos (by omega),if_pos (by omega),decide_eq_true e]
      · simp only [spec_l04Order.j1]
        rw [if_pos trivial,w64 (by omega) (by omega)]
        rfl
    · rw [if_neg e]
      refine Ev.step (f:=fun k=>spec_l04Order.j1 k h (i:Int) false n l) (fun k=>?_) (Ev.step (fun k=>?_) (specOrder_l1 n l i hi hl l.length 0 [] (by omega) (by simp)))
      · simp only [spec_l04Order.l0,hr]
        rw [if_pos (by omega),if_pos (by omega),decide_eq_false e]
      · simp only [spec_l04Order.j1]
        rw [if_neg (by simp)]
        rfl
theorem l04Order_ev (n:Int) (l:List Tok) (key:ByteArray) (hl:l.length≤1048576) (hk:key.size≤1048576):Ev (fun k=>spec_l04Order.f k n l key) (orderL l (fnv key)) :=
  Ev.bind (spec_l04Fnv_ev key (by omega)) (specOrder_l0 n (fnv key) l hl l 0 rfl (by omega))
def atOr (n L:Nat):Int:=if n=L then -1 else (n:Int)
theorem atOr_eq {n L:Nat} (h:n=L):atOr n L = -1:=if_pos h
theorem atOr_ne {n L:Nat} (h:¬ n=L):atOr n L=(n:Int):=if_neg h
theorem indexT_l0 (l:List Tok) (h:Int) (hl:l.length≤1048576):∀ (s:List Tok) (i:Nat),l.drop i=s→i≤l.length →
    Ev (fun k=>slices_IndexFunc_impl_Token_impl_Token_impl_order_1.l0 k l (l.length:Int) (i:Int) h) (atOr (firstAt h s i) l.length)
  | [],i,hd,hi=>by
    have:=dropNil' hd hi
    simp only [firstAt]
    rw [atOr_eq (by omega)]
    refine Ev.step (f:=fun _=>some (-1)) (fun k=>?_) (Ev.now _)
    simp only [slices_IndexFunc_impl_Token_impl_Token_impl_order_1.l0]
    rw [if_neg (by omega)]
  | t :: s,i,hd,hi=>by
    obtain ⟨h1,h2,h3⟩:=dropCons hd z77
    have hr:rd_T77 l (i:Int)=t:=by simpa [rd_T77] using h2
    simp only [firstAt]
    by_cases e:t.f0<h
    · rw [if_pos e]
      refine Ev.step (fun k=>?_) (indexT_l0 l h hl s (i+1) h3 (by omega))
      simp only [slices_IndexFunc_impl_Token_impl_Token_impl_order_1.l0,hr,impl_order_1_cap.f,Option.bind_some]
      rw [if_pos (by omega),if_pos (by omega),if_pos (by omega),if_neg (by simp;omega),w64 (by omega) (by omega)]
      rfl
    · rw [if_neg e,atOr_ne (by omega)]
      refine Ev.step (f:=fun _=>some (i:Int)) (fun k=>?_) (Ev.now _)
      simp only [slices_IndexFunc_impl_Token_impl_Token_impl_order_1.l0,hr,impl_order_1_cap.f,Option.bind_some]
      rw [if_pos (by omega),if_pos (by omega),if_pos (by omega),if_pos (by simp;omega)]
theorem implOrder_l0 (n:Int) (l:List Tok) (a:Nat) (ha:a≤l.length) (hl:l.length≤1048576):∀ (f i:Nat) (acc:List Int),i+f=l.length→acc.length≤i →
    Ev (fun k=>impl_order.l0 k (a:Int) acc (l.length:Int) (i:Int) n l) (ordFrom l a f i acc)
  | 0,i,acc,h,hc=>by
    refine Ev.step (f:=fun _=>some acc) (fun k=>?_) (Ev.now _)
    simp only [impl_order.l0]
    rw [if_neg (by omega)]
  | f+1,i,acc,h,hc=>by
    obtain ⟨t1,t2⟩:=tmod_at l a i ha (by omega) hl
    refine Ev.step (fun k=>by simp only [impl_order.l0,t1,rdT_at];rw [if_pos (by omega),if_neg (by omega),if_pos (by omega),if_pos t2]) (Ev.bind (Contains_ev acc _ (by omega)) ?_)
    simp only [ordFrom]
    by_cases e:(l.getD ((a+i) % l.length) z77).f1 ∈ acc
    · rw [if_pos e,decide_eq_true e]
      refine evPos rfl ?_
      rw [w64 (by omega) (by omega)]
      exact implOrder_l0 n l a ha hl f (i+1) acc (by omega) (by omega)
    · rw [if_neg e,decide_eq_false e]
      refine evNeg (by simp) (evPos (by omega) ?_)
      rw [w64 (by omega) (by omega)]
      exact implOrder_l0 n l a ha hl f (i+1) _ (by omega) (by simp;omega)
theorem order_ev (n:Int) (l:List Tok) (key:ByteArray) (hl:l.length≤1048576) (hk:key.size≤1048576):Ev (fun k=>impl_order.f k n l key) (orderL l (fnv key)):=by
  refine Ev.bind (impl_fnv_ev key (by omega)) (Ev.bind (indexT_l0 l (fnv key) hl l 0 rfl (by omega)) ?_)
  have hf:=(firstAt_le (fnv key) l 0).2
  by_cases e:firstAt (fnv key) l 0=l.length
  · rw [atOr_eq e]
    refine evPos (by omega) (Ev.step (f:=fun k=>impl_order.l0 k 0 [] (l.length:Int) 0 n l) (fun k=>by simp only [impl_order.j0]) ?_)
    unfold orderL
    rw [ordFrom_mod l (firstAt (fnv key) l 0) 0 (by rw [e];simp)]
    exact implOrder_l0 n l 0 (by omega) hl l.length 0 [] (by omega) (by simp)
  · rw [atOr_ne e]
    refine evNeg (by omega) (Ev.step (f:=fun k=>impl_order.l0 k (firstAt (fnv key) l 0:Int) [] (l.length:Int) 0 n l) (fun k=>by simp only [impl_order.j0]) ?_)
    exact implOrder_l0 n l (firstAt (fnv key) l 0) (by omega) hl l.length 0 [] (by omega) (by simp)
def keyed (n:Int) (l:List Tok) (key:ByteArray):Bool:=ringOk n l && nameOk key
theorem nameOk_size {key:ByteArray} (h:nameOk key=true):key.size≤20:=by
  simp only [nameOk,Bool.and_eq_true,decide_eq_true_eq] at h
  exact h.1
theorem isKeyed_ev (n:Int) (l:List Tok) (key:ByteArray) (hl:l.length≤1048576) (hk:key.size≤1048576):Ev (fun k=>impl_isKeyed.f k n l key) (keyed n l key):=by
  unfold impl_isKeyed.f keyed
  refine Ev.bind (isLong1_ev key) ?_
  by_cases h:8000<key.size
  · have e:nameOk key=false:=by
      cases e:nameOk key with
      | false=>rfl
      | true=>have:=nameOk_size e;omega
    rw [e,Bool.and_false]
    exact evPos (by simpa using h) (Ev.now _)
  · refine evNeg (by simpa using h) (Ev.bind (impl_RingRight_ev n l hl) ?_)
    cases ringOk n l with
    | false=>exact evNeg (by simp) (Ev.now _)
    | true=>exact evPos rfl (Ev.bind (impl_NameRight_ev key (by omega)) (Ev.now _))
def ownersL (l:List Tok) (h:Int) (m:Nat):List Int:=(orderL l h).take (min m (orderL l h).length)
theorem l01Min_is (a b:Int):spec_l01Min.f a b=some (if a<b then a else b):=by
  unfold spec_l01Min.f
  split <;> rfl
theorem l04Owners_ev (n:Int) (l:List Tok) (key:ByteArray) (m:Nat) (hl:l.length≤1048576) (hk:key.size≤1048576):Ev (fun k=>spec_l04Owners.f k n l key (m:Int)) (ownersL l (fnv key) m):=by
  refine Ev.bind (l04Order_ev n l key hl hk) (evBind1 (l01Min_is _ _) ?_)
  have e:(if (m:Int)<((orderL l (fnv key)).length:Int) then (m:Int) else ((orderL l (fnv key)).length:Int))=((min m (orderL l (fnv key)).length:Nat):Int):=by split <;> omega
  rw [e]
  exact evPos (by omega) (evPos (by omega) (Ev.now _))
theorem owners_ev (n:Int) (l:List Tok) (key:ByteArray) (m:Nat) (hl:l.length≤1048576) (hk:key.size≤1048576):Ev (fun k=>impl_owners.f k n l key (m:Int)) (ownersL l (fnv key) m):=by
  refine Ev.bind (order_ev n l key hl hk) ?_
  have e:mn (m:Int) ((orderL l (fnv key)).length:Int)=((min m (orderL l (fnv key)).length:Nat):Int):=by unfold mn;split <;> omega
  rw [e]
  exact evPos (by omega) (evPos (by omega) (Ev.now _))
theorem ownersL_length (l:List Tok) (h:Int) (m:Nat):(ownersL l h m).length≤l.length:=by
  have:=orderL_length l h
  unfold ownersL
  rw [List.length_take]
  omega
def notIn (d:List Int) (x:Int):Bool:=!decide (x ∈ d)
theorem notIn_pos {d:List Int} {x:Int} (h:x ∉ d):notIn d x=true:=by simp [notIn,h]
theorem notIn_neg {d:List Int} {x:Int} (h:x ∈ d):¬ notIn d x=true:=by simp [notIn,h]
end Go.Proofs.YtelecnmflodkkaaDoor.Q

namespace Go.Proofs.YtelecnmflodkkaaDoor.Q
open Go.RowKit Go.Proofs.YtelecnmflodkkaaDoor.P Go.Proofs.YtelecnmflodkkaaDoorW.PrintWords Go.Proofs.YtelecnmflodkkaaDoorW.PrintMore

theorem capN_ev (d:List Int) (x:Int) (hd:d.length≤1048576):Ev (fun k=>impl_newcomers_1_cap.f k x d) (decide (x ∈ d)):=Ev.bind (Contains_ev d x (by omega)) (Ev.now _)
theorem indexN_l0 (l d:List Int) (hl:l.length≤1048576) (hd:d.length≤1048576):∀ (s:List Int) (i:Nat),l.drop i=s→i≤l.length →
    ∃ r,Ev (fun k=>slices_IndexFunc_int64_int64_impl_newcomers_1.l0 k l (l.length:Int) (i:Int) d) r∧((r = -1∧∀ x ∈ s,x ∉ d)∨∃ a b:List Int,∃ m:Int,s=a ++ m :: b∧r=((i+a.length:Nat):Int)∧(∀ x ∈ a,x ∉ d)∧m ∈ d)
  | [],i,h,hi=>by
    have:=dropNil' h hi
    refine ⟨-1,Ev.step (f:=fun _=>some (-1)) (fun k=>?_) (Ev.now _),.inl ⟨rfl,fun _ h=>by cases h⟩⟩
    simp only [slices_IndexFunc_int64_int64_impl_newcomers_1.l0]
    rw [if_neg (by omega)]
  | m :: s,i,h,hi=>by
    obtain ⟨h1,h2,h3⟩:=dropCons h 0
    have hr:=rd_of h2
    have st:∀ {R:Int},Ev (fun k=>if decide (m ∈ d)=true then some (i:Int) else slices_IndexFunc_int64_int64_impl_newcomers_1.l0 k l (l.length:Int) (wrap64 ((i:Int)+1)) d) R→Ev (fun k=>slices_IndexFunc_int64_int64_impl_newcomers_1.l0 k l (l.length:Int) (i:Int) d) R:=fun h =>
      Ev.step (fun k=>by simp only [slices_IndexFunc_int64_int64_impl_newcomers_1.l0,hr];rw [if_pos (by omega),if_pos (by omega),if_pos (by omega)]) (Ev.bind (capN_ev d m hd) h)
    by_cases hm:m ∈ d
    · exact ⟨i,st (evPos (decide_eq_true hm) (Ev.now _)),.inr ⟨[],s,m,rfl,by simp,(fun _ h=>by cases h),hm⟩⟩
    · obtain ⟨r,e1,e2⟩:=indexN_l0 l d hl hd s (i+1) h3 (by omega)
      refine ⟨r,st (evNeg (by simp [hm]) (by rw [w64 (by omega) (by omega)];exact e1)),?_⟩
      rcases e2 with ⟨rfl,e2⟩ | ⟨a,b,c,rfl,rfl,e3,e4⟩
      · refine .inl ⟨rfl,fun x hx=>?_⟩
        rcases List.mem_cons.1 hx with rfl | hx
        · exact hm
        · exact e2 x hx
      · refine .inr ⟨m :: a,b,c,rfl,by simp only [List.length_cons];omega,fun x hx=>?_,e4⟩
        rcases List.mem_cons.1 hx with rfl | hx
        · exact hm
        · exact e3 x hx
theorem deleteN_l0 (d:List Int) (hd:d.length≤1048576):∀ (s cur:List Int) (a j:Nat),cur.drop j=s→j≤cur.length→a≤j→cur.length≤1048576 →
    Ev (fun k=>slices_DeleteFunc_int64_int64_impl_newcomers_1.l0 k cur (a:Int) (j:Int) d) (cur.take a ++ s.filter (notIn d))
  | [],cur,a,j,h,hj,ha,hl=>by
    have:=dropNil' h hj
    refine Ev.step (f:=fun _=>some (cur.take a)) (fun k=>?_) (by simp only [List.filter_nil,List.append_nil];exact Ev.now _)
    simp only [slices_DeleteFunc_int64_int64_impl_newcomers_1.l0]
    rw [if_neg (by omega),if_pos (by omega),if_pos (by omega),Int.toNat_natCast]
  | m :: s,cur,a,j,h,hj,ha,hl=>by
    obtain ⟨h1,h2,h3⟩:=dropCons h 0
    have hr:=rd_of h2
    refine Ev.step (fun k=>by simp only [slices_DeleteFunc_int64_int64_impl_newcomers_1.l0,hr];rw [if_pos (by omega),if_pos (by omega)]) (Ev.bind (capN_ev d m hd) ?_)
    by_cases hm:m ∈ d
    · rw [List.filter_cons_of_neg (notIn_neg hm)]
      refine evPos (decide_eq_true hm) ?_
      rw [w64 (by omega) (by omega)]
      exact deleteN_l0 d hd s cur a (j+1) h3 (by omega) (by omega) hl
    · rw [List.filter_cons_of_pos (notIn_pos hm)]
      refine evNeg (by simp [hm]) (evPos (by omega) (evPos (by omega) ?_))
      rw [w64 (by omega) (by omega),w64 (by omega) (by omega),Int.toNat_natCast]
      have ih:=deleteN_l0 d hd s (cur.set a m) (a+1) (j+1) (by rw [List.drop_set_of_lt (by omega)];exact h3) (by rw [List.length_set];omega) (by omega) (by rw [List.length_set];exact hl)
      have e:(cur.set a m).take (a+1)=cur.take a ++ [m]:=by
        rw [List.take_succ_eq_append_getElem (by simp;omega),List.take_set_of_le (by omega)]
        simp
      rw [e,List.append_assoc,List.singleton_append] at ih
      exact ih
theorem DeleteFuncN_ev (l d:List Int) (hl:l.length≤1048576) (hd:d.length≤1048576):Ev (fun k=>slices_DeleteFunc_int64_int64_impl_newcomers_1.f k l d) (l.filter (notIn d)):=by
  obtain ⟨r,e1,e2⟩:=indexN_l0 l d hl hd l 0 rfl (by omega)
  refine Ev.bind e1 ?_
  rcases e2 with ⟨rfl,e2⟩ | ⟨a,b,m,rfl,rfl,e3,e4⟩
  · refine evPos rfl ?_
    rw [List.filter_eq_self.2 (fun x hx=>notIn_pos (e2 x hx))]
    exact Ev.now _
  · refine evNeg (by omega) ?_
    have ih:=deleteN_l0 d hd b (a ++ m :: b) a.length (a.length+1) (by simp) (by simp) (by omega) hl
    have ef:(a ++ m :: b).filter (notIn d)=(a ++ m :: b).take a.length ++ b.filter (notIn d):=by
      rw [List.filter_append,List.filter_cons_of_neg (notIn_neg e4),List.filter_eq_self.2 (fun x hx=>notIn_pos (e3 x hx))]
      simp
    simp only [List.length_append,List.length_cons] at hl
    rw [ef,Nat.zero_add,w64 (by omega) (by omega)]
    exact ih
def newL (l1 l2:List Tok) (h:Int) (m:Nat):List Int:=(ownersL l2 h m).filter (notIn (ownersL l1 h m))
theorem newL_length (l1 l2:List Tok) (h:Int) (m:Nat):(newL l1 l2 h m).length≤l2.length:=by
  have:=ownersL_length l2 h m
  have:=List.length_filter_le (notIn (ownersL l1 h m)) (ownersL l2 h m)
  unfold newL
  omega
def newOut (n1:Int) (l1:List Tok) (n2:Int) (l2:List Tok) (key:ByteArray) (m:Int):List Int:=if (keyed n1 l1 key && (ringOk n2 l2 && isNode m))=true then newL l1 l2 (fnv key) m.toNat else []
theorem newOut_length (n1:Int) (l1:List Tok) (n2:Int) (l2:List Tok) (key:ByteArray) (m:Int) (hl:l2.length≤1048576):(newOut n1 l1 n2 l2 key m).length≤1048576:=by
  unfold newOut
  split
  · have:=newL_length l1 l2 (fnv key) m.toNat;omega
  · simp
theorem newcomers_ev (n1:Int) (l1:List Tok) (n2:Int) (l2:List Tok) (key:ByteArray) (m:Nat) (h1:l1.length≤1048576) (h2:l2.length≤1048576) (hk:key.size≤1048576):Ev (fun k=>impl_newcomers.f k n1 l1 n2 l2 key (m:Int)) (newL l1 l2 (fnv key) m):=by
  have o1:=ownersL_length l1 (fnv key) m
  have o2:=ownersL_length l2 (fnv key) m
  refine Ev.bind (owners_ev n1 l1 key m h1 hk) (Ev.bind (owners_ev n2 l2 key m h2 hk) (evBind1 (a:=ownersL l2 (fnv key) m) ?_ ?_))
  · simp only [slices_Clone_int64_int64.f,Option.bind_some,List.length_nil,List.nil_append]
    rw [if_pos (by omega)]
  · exact DeleteFuncN_ev _ _ (by omega) (by omega)
theorem impl_Newcomers_ev (n1:Int) (l1:List Tok) (n2:Int) (l2:List Tok) (key:ByteArray) (m:Int) (h1:l1.length≤1048576) (h2:l2.length≤1048576) (hk:key.size≤1048576):Ev (fun k=>impl_Newcomers.f k n1 l1 n2 l2 key m) (newOut n1 l1 n2 l2 key m):=by
  unfold impl_Newcomers.f newOut
  have jT:Ev (fun k=>impl_Newcomers.j0 k key m true n1 l1 n2 l2) []:=Ev.step (f:=fun _=>some []) (fun k=>by simp [impl_Newcomers.j0]) (Ev.now _)
  refine Ev.bind (isKeyed_ev n1 l1 key h1 hk) ?_
  cases keyed n1 l1 key with
  | false=>exact evNeg (by simp) jT
  | true =>
    refine evPos rfl (Ev.bind (impl_RingRight_ev n2 l2 h2) ?_)
    cases ringOk n2 l2 with
    | false=>exact evNeg (by simp) jT
    | true =>
      refine evPos rfl (evBind1 (isNode_is _) ?_)
      cases hm:isNode m with
      | false=>exact jT
      | true =>
        have hm':=(isNode_iff m).1 hm
        obtain ⟨m,rfl⟩:=Int.eq_ofNat_of_zero_le (show 0≤m by omega)
        exact Ev.step (fun k=>by simp only [impl_Newcomers.j0];rw [if_neg (by simp)]) (Ev.bind (newcomers_ev n1 l1 n2 l2 key m h1 h2 hk) (Ev.now _))
theorem specNew_l0 (d own:List Int) (hd:d.length≤1048576) (hw:own.length≤1048576):∀ (s:List Int) (i:Nat) (out:List Int),own.drop i=s→i≤own.length→out.length≤i →
    Ev (fun k=>spec_Newcomers.l0 k out d own (i:Int)) (out ++ s.filter (notIn d))
  | [],i,out,h,hi,hc=>by
    have:=dropNil' h hi
    refine Ev.step (f:=fun _=>some out) (fun k=>?_) (by simp only [List.filter_nil,List.append_nil];exact Ev.now _)
    simp only [spec_Newcomers.l0]
    rw [if_neg (by omega)]
  | m :: s,i,out,h,hi,hc=>by
    obtain ⟨g1,g2,g3⟩:=dropCons h 0
    have hr:=rd_of g2
    refine Ev.step (fun k=>by simp only [spec_Newcomers.l0,hr];rw [if_pos (by omega),if_pos (by omega)]) (Ev.bind (among_ev d m (by omega)) ?_)
    by_cases hm:m ∈ d
    · rw [List.filter_cons_of_neg (notIn_neg hm)]
      refine evPos (decide_eq_true hm) ?_
      rw [w64 (by omega) (by omega)]
      exact specNew_l0 d own hd hw s (i+1) out g3 (by omega) (by omega)
    · rw [List.filter_cons_of_pos (notIn_pos hm)]
      refine evNeg (by simp [hm]) (evPos (by omega) ?_)
      rw [w64 (by omega) (by omega)]
      have ih:=specNew_l0 d own hd hw s (i+1) (out ++ [m]) g3 (by omega) (by simp;omega)
      rw [List.append_assoc,List.singleton_append] at ih
      exact ih
theorem spec_Newcomers_ev (n1:Int) (l1:List Tok) (n2:Int) (l2:List Tok) (key:ByteArray) (m:Int) (h1:l1.length≤1048576) (h2:l2.length≤1048576) (hk:key.size≤1048576):Ev (fun k=>spec_Newcomers.f k n1 l1 n2 l2 key m) (newOut n1 l1 n2 l2 key m):=by
  unfold spec_Newcomers.f newOut keyed
  have jT:Ev (fun k=>spec_Newcomers.j0 k key m [] true n1 l1 n2 l2) []:=Ev.step (f:=fun _=>some []) (fun k=>by simp [spec_Newcomers.j0]) (Ev.now _)
  refine evBind1 rfl (Ev.bind (spec_RingRight_ev n1 l1 h1) ?_)
  cases ringOk n1 l1 with
  | false=>exact evNeg (by simp) jT
  | true =>
    refine evPos rfl (Ev.bind (spec_RingRight_ev n2 l2 h2) ?_)
    cases ringOk n2 l2 with
    | false=>rw [Bool.false_and,Bool.and_false];exact evNeg (by simp) jT
    | true =>
      refine evPos rfl (Ev.bind (spec_NameRight_ev key hk) ?_)
      cases nameOk key with
      | false=>exact evNeg (by simp) jT
      | true =>
        refine evPos rfl (evBind1 (l02Node_is _) ?_)
        cases hm:isNode m with
        | false=>exact jT
        | true =>
          have hm':=(isNode_iff m).1 hm
          obtain ⟨m,rfl⟩:=Int.eq_ofNat_of_zero_le (show 0≤m by omega)
          have o1:=ownersL_length l1 (fnv key) m
          have o2:=ownersL_length l2 (fnv key) m
          refine Ev.step (fun k=>by simp only [spec_Newcomers.j0];rw [if_neg (by simp)]) (Ev.bind (l04Owners_ev n1 l1 key m h1 hk) (Ev.bind (l04Owners_ev n2 l2 key m h2 hk) ?_))
          exact specNew_l0 (ownersL l1 (fnv key) m) (ownersL l2 (fnv key) m) (by omega) (by omega) _ 0 [] rfl (by omega) (by simp)
end Go.Proofs.YtelecnmflodkkaaDoor.Q

namespace Go.Proofs.YtelecnmflodkkaaDoor.Pure
open Go.RowKit Go.Proofs.YtelecnmflodkkaaDoor.P Go.Proofs.YtelecnmflodkkaaDoor.Q Go.Proofs.YtelecnmflodkkaaDoorW.PrintWords Go.Proofs.YtelecnmflodkkaaDoorW.PrintMore
theorem FnExactNewcomers:laws_FnExactNewcomers.Pure:=by
  intro x y key m hx hy _ _
  have hl:x.f1.length≤9223372036854775807:=hx.2.1
  have hly:y.f1.length≤9223372036854775807:=hy.2.1
  refine Ev.rounds ?_
  unfold laws_FnExactNewcomers.f
  refine evIte (fun _=>Ev.now _) (fun hk0=>?_)
  have hk:key.size≤1048576:=by omega
  refine evBind1 (szRing_is x.f0 x.f1 _ (by omega) (by omega) hl) (evIte (fun _=>Ev.now _) (fun h=>?_))
  have hb:x.f1.length≤1048576∧(if (1048576:Int)<(x.f1.length:Int) then (-1:Int) else 1048576-(x.f1.length:Int))≤1048576:=by
    split at h
    · omega
    · rename_i h3
      rw [if_neg h3]
      omega
  generalize (if (1048576:Int)<(x.f1.length:Int) then (-1:Int) else 1048576-(x.f1.length:Int))=left at h hb ⊢
  refine evBind1 (szRing_is y.f0 y.f1 _ (by omega) (by omega) hly) (evIte (fun _=>Ev.now _) (fun h2=>?_))
  have hl':x.f1.length≤1048576:=hb.1
  have hly':y.f1.length≤1048576:=by
    split at h2 <;> omega
  have ta:=toRing_ev x.f0 x.f1 hl'
  have tb:=toRing_ev y.f0 y.f1 hly'
  have ga:(x.f1.map toTok).length≤1048576:=by simpa using hl'
  have gb:(y.f1.map toTok).length≤1048576:=by simpa using hly'
  generalize x.f1.map toTok=l at ta ga
  generalize x.f0=n at *
  generalize y.f1.map toTok=l2 at tb gb
  generalize y.f0=n2 at *
  have s1:=spec_Newcomers_ev n l n2 l2 key m ga gb hk
  have s2:=impl_Newcomers_ev n l n2 l2 key m ga gb hk
  have hj:=newOut_length n l n2 l2 key m gb
  generalize newOut n l n2 l2 key m=r at s1 s2 hj
  have eo:=eqInt64S_ev r (by omega)
  have ho:=heldInt64S_ev r 1 (by omega) (by omega)
  refine Ev.bind ta (Ev.bind tb (Ev.bind s1 (Ev.bind ta (Ev.bind tb (Ev.bind s2 (Ev.bind eo (evPos rfl ?_)))))))
  refine Ev.bind ta (Ev.bind (eqRing_ev n l (by omega)) (evPos rfl (Ev.bind tb (Ev.bind (eqRing_ev n2 l2 (by omega)) (evPos rfl ?_)))))
  refine Ev.bind (markRing_ev n l 1 (by omega) (by omega)) (Ev.bind (markRing_ev n2 l2 _ (by omega) (by omega)) (evNeg (by omega) (Ev.bind eo ?_)))
  refine Ev.step (fun k=>by simp only [laws_FnExactNewcomers.j0];rw [if_neg (by simp)]) ?_
  refine Ev.bind (markInt64S_ev r 1 (by omega) (by omega)) (Ev.bind ho (evNeg (by omega) (evPos rfl ?_)))
  exact Ev.bind ta (Ev.bind tb (Ev.bind s2 (Ev.bind eo (evPos rfl (Ev.bind ho (evNeg (by omega) (evPos rfl (Ev.now _))))))))
end Go.Proofs.YtelecnmflodkkaaDoor.Pure

namespace Go.Proofs.YtelecnmflodkkaaDoor.fnExactNewcomers
open Go.ChangeShapes Go.WideShapes Go.ChangeAt Go.RowKit Go.Proofs.YtelecnmflodkkaaDoor.P Go.Proofs.YtelecnmflodkkaaDoor.RO Go.Proofs.YtelecnmflodkkaaDoor.Open Go.Proofs.YtelecnmflodkkaaDoorW.PrintWords
open Go.ChangeMaps (open_string shut_string)
set_option linter.unusedVariables false
theorem own:ownKnob Tryd.prog.godebug=none:=by kernel_rfl
theorem laidOut:laidOutB Tryd.prog=true:=by kernel_rfl
set_option maxRecDepth 100000 in
theorem lifted (os:Os) (started:os.Started) (H:Type) (enc:TypeId × Value→H) :
    ReturnsInHanded {} Tryd.checked os 5 .any (fun w args=>(Rows.fnExactNewcomersSpec.pre enc Tryd.prog Tryd.f5 Rows.fnExactNewcomersRow.domain false w args∧laidMetH Tryd.prog Rows.fnExactNewcomersRow.laid w)∧sizedMet enc Tryd.prog Tryd.f5 (OpenSpec.ofChange Rows.fnExactNewcomersSpec) false w args) (Rows.fnExactNewcomersSpec.post enc Tryd.prog Tryd.f5 false true false false):=by
  refine returnsInHanded_of_change_and (C:=Tryd.checked) (X:=fun w _=>laidMetH Tryd.prog Rows.fnExactNewcomersRow.laid w) (fun _ _ _ hh h=>h.of_heap hh) own started (by kernel_rfl) Tryd.func5
    (ChangeSpec.witness_shaped (enc:=enc) (C:=Tryd.checked) (X:=fun w _=>laidMetH Tryd.prog Rows.fnExactNewcomersRow.laid w) false (World.laidAll Tryd.prog os Rows.fnExactNewcomersRow.laid) #[.agg #[.int .i64 0,.slice none 0 0],.agg #[.int .i64 0,.slice none 0 0],.string ByteArray.empty,.int .i64 0] 8 (World.laidAll_os _ _ _) (World.shaped_of_ZipB (by kernel_rfl) (by kernel_rfl)) (by kernel_rfl) (by kernel_rfl) (by kernel_rfl)
      (by rw [MakeChecks.laidMetH_plain _ _ _ (by kernel_rfl)];exact laidMet_laidAll _ (by kernel_rfl) (by kernel_rfl))) ?_
  intro W base args ds gs before hval0 hW hcnd hsz0 hL_ _
  have hsz:(DataW.weightsEach Tryd.prog (Tryd.f5.params.toList ++ Rows.fnExactNewcomersSpec.plain.varTypes Tryd.prog) (ds ++ gs)).all (· ≤ reachBytes)=true:=hsz0
  have hval:∀ (j:Nat) t v,Tryd.f5.params[j]? = some t→args[j]? = some v→Value.okWide Tryd.prog W .any base t v:=hval0
  have hW':=hW
  obtain ⟨p,q,hA0,hV,rfl,hfz,hnd⟩:=hW
  have hA:DataW.TrodAll enc Tryd.prog W 0 (fun _=>true) true Tryd.f5.params.toList args.toList ds p:=hA0
  rw [Tryd.params5] at hA hval hsz
  obtain ⟨v0,vs0,d0,ds0,p0,q0,hargs,rfl,rfl,h0,r0⟩:=trodAll_cons hA
  obtain ⟨v1,vs1,d1,ds1,p1,q1,rfl,rfl,rfl,h1,r1⟩:=trodAll_cons r0
  obtain ⟨v2,vs2,d2,ds2,p2,q2,rfl,rfl,rfl,h2,r2⟩:=trodAll_cons r1
  obtain ⟨v3,vs3,d3,ds3,p3,q3,rfl,rfl,rfl,h3,r3⟩:=trodAll_cons r2
  obtain ⟨rfl,rfl,rfl⟩:=trodAll_nil r3
  obtain rfl:args=#[v0,v1,v2,v3]:=by cases args;simp_all
  obtain ⟨rfl,rfl⟩:=trodVars_none hV
  have k0:=h0
  have lt0:∀ x ∈ p0,x.block<W.heap.size:=by obtain ⟨m,hm⟩:=k0;exact DataW.trod_lt m _ _ _ hm
  obtain ⟨cs0,rfl,_⟩:=okWide_struct Tryd.underlying44 (hval 0 44 v0 rfl rfl)
  obtain ⟨fuel0,hf0⟩:=h0
  obtain ⟨x0,hk0,w0⟩:=op_T44 hf0
  obtain ⟨A0_1,c0_1,hcs0,hl0_1,hr0_1⟩:=k44_open hk0
  obtain rfl:cs0=#[.int .i64 x0.f0,.slice A0_1 x0.f1.length c0_1]:=Array.toList_inj.1 hcs0
  have k1:=h1
  have lt1:∀ x ∈ p1,x.block<W.heap.size:=by obtain ⟨m,hm⟩:=k1;exact DataW.trod_lt m _ _ _ hm
  obtain ⟨cs1,rfl,_⟩:=okWide_struct Tryd.underlying44 (hval 1 44 v1 rfl rfl)
  obtain ⟨fuel1,hf1⟩:=h1
  obtain ⟨x1,hk1,w1⟩:=op_T44 hf1
  obtain ⟨A1_1,c1_1,hcs1,hl1_1,hr1_1⟩:=k44_open hk1
  obtain rfl:cs1=#[.int .i64 x1.f0,.slice A1_1 x1.f1.length c1_1]:=Array.toList_inj.1 hcs1
  obtain ⟨x2,rfl,rfl,rfl,y2⟩:=open_string Tryd.underlying9 (hval 2 9 v2 rfl rfl) h2
  have w2:x2.size≤140737488351232:=by
    have z:=sized_string hsz (j:=2) (t:=9) rfl rfl
    rw [Array.length_toList] at z
    exact z
  obtain ⟨x3,rfl,rfl,rfl,w3⟩:=open_int Tryd.underlying2 (hval 3 2 v3 rfl rfl) h3
  clear hA0 hval0 hsz0 hsz
  obtain ⟨k,hp⟩:=Pure.FnExactNewcomers x0 x1 x2 x3 w0 w1 w2 w3
  refine (P.laws_FnExactNewcomers.calls k x0.f0 _ _ x0.f1 x1.f0 _ _ x1.f1 x2 x3 true W hr0_1 hl0_1 hr1_1 hl1_1 hp).mono fun e W' ⟨he,bel0⟩=>?_
  have bel:Below W.heap.size W W':=bel0
  subst he
  exact ⟨_,rfl,_,_,_,[],_,[],hW',trodAll_mk1 (shut_bool Tryd.underlying4 _),(trodAll_cons_mk (Below.trod laidOut (by kernel_rfl) (of_decide_eq_true (by kernel_rfl)) k0 bel lt0) (trodAll_cons_mk (Below.trod laidOut (by kernel_rfl) (of_decide_eq_true (by kernel_rfl)) k1 bel lt1) (trodAll_cons_mk (shut_string Tryd.underlying9 y2) (trodAll_cons_mk (shut_int Tryd.underlying2 w3) trodAll_mk0)))),rfl,bel.frame _,fun h=>by cases h⟩
theorem over:Rows.fnExactNewcomersRow.holds Tryd.pinned (OpenSpec.ofChange Rows.fnExactNewcomersSpec) :=
  OpenClaim.holds_of_wide 5 Tryd.f5 rfl rfl rfl rfl rfl rfl rfl ⟨rfl,rfl,rfl,rfl,rfl⟩ rfl rfl rfl rfl rfl (by kernel_rfl) Tryd.func5 (by kernel_rfl)
    (of_decide_eq_true (by kernel_rfl)) (by unfold Func.isWrapper;first | (rw [if_pos (by decide +kernel)];kernel_rfl) | (rw [if_neg (by decide +kernel)];exact ⟨rfl,rfl⟩))
    (fun os started H enc _=>lifted os started H enc)
theorem proved:Rows.FnExactNewcomersSaid:=over
theorem card:Rows.FnExactNewcomersCardSaid :=
  Claim7.holds_tied_plain_at .later [] [.data,.data,.data] true (true, "04c657a4273198521dd21b683870fc34c9a056806fe1bb8915cf020c2ff00ca4") false proved (fun _ h=>by cases h) (by kernel_rfl) (fun _ h=>by cases h) fnExactNewcomers_row_tie rfl ⟨rfl,rfl⟩ (by kernel_rfl) rfl
    (fun f fn hf hfn=>by
      obtain rfl:f=5:=Option.some.inj ((show Tryd.prog.funcNamed Rows.fnExactNewcomersRow.func=some 5 by kernel_rfl).symm.trans hf) |>.symm
      obtain rfl:fn=Tryd.f5:=(Option.some.inj (Tryd.func5.symm.trans hfn)).symm
      exact ⟨by kernel_rfl,fun j t ht=>by
        rw [Tryd.params5] at ht
        have h_:t ∈ [44,44,9,2]:=by have:=Array.mem_of_getElem? ht;simpa using this
        have hs_:∀ x ∈ [44,44,9,2],Tryd.prog.wantsStandIn x=false:=by
          intro x hx
          simp only [List.mem_cons,List.not_mem_nil,or_false] at hx
          rcases hx with rfl | rfl | rfl | rfl <;> kernel_rfl
        exact hs_ t h_⟩)
    (by kernel_rfl)
#print axioms card
#print axioms proved
end Go.Proofs.YtelecnmflodkkaaDoor.fnExactNewcomers
namespace Go.Proofs.YtelecnmflodkkaaDoor
/-- The row, under a short name, for the claim. -/
theorem fnExactNewcomers_holds:Rows.FnExactNewcomersCardSaid:=fnExactNewcomers.card
end Go.Proofs.YtelecnmflodkkaaDoor
