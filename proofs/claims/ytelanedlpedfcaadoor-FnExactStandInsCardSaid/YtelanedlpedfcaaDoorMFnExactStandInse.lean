/- For all rings, keys, numbers and lists of nodes that are down the program's StandIns and the reference's return the same, of memory of its own, and leave what they are given. No condition. (Part 5 of 5: written by programs of this workplace and by hand, merged.) -/
import Derived.Test.YtelanedlpedfcaaDoorMFnExactStandInsa
import Derived.Test.YtelanedlpedfcaaDoorMFnExactStandInsb
import Derived.Test.YtelanedlpedfcaaDoorMFnExactStandInsd
import Derived.Test.YtelanedlpedfcaaDoorMFnExactStandInsWWords
import Derived.Test.YtelanedlpedfcaaDoorMFnExactStandInsWMore
import Derived.Laws.BitsLemmas
import Derived.Test.YtelanedlpedfcaaDoorRows
import Derived.Test.YtelanedlpedfcaaDoorTie
import Derived.Test.YtelanedlpedfcaaDoorCards
import Derived.WalkKit
import Derived.ProofKit
import Derived.OpenShut
import Derived.ShutString
import Derived.ChangeOld
import Derived.Below
import Derived.SizedLaws
import Derived.LaidMore
import Derived.Lay
import Derived.LaidOnce
import Derived.SevenTiedAt
import Derived.LaidLaws
import Derived.ChangeSame
import Derived.ChangeVars
import Derived.JoinedOf
set_option linter.unusedVariables false
set_option linter.unusedSimpArgs false

namespace Go.Proofs.YtelanedlpedfcaaDoor.P
open Go.RowKit Go.Proofs.YtelanedlpedfcaaDoorW.PrintWords Go.Proofs.YtelanedlpedfcaaDoorW.PrintLast Go.Proofs.YtelanedlpedfcaaDoorW.PrintMore
attribute [local go_sem] max2_int min2_int max_two min_two max_three min_three max_four min_four   -- for this text's walks alone
set_option linter.unusedVariables false
set_option linter.unusedSimpArgs false

/-! ### laws_FnExactStandIns: function 4 -/
def laws_FnExactStandIns.j0:Nat→ByteArray→Int→List Int→List Int→List Int→Bool→Int→List (S64)→Option (Bool)
 | 0,_,_,_,_,_,_,_,_=>none
 | k+1,x1,x2,x3,x10,x13,x72,x453000,x453001=>if x72=true then (none) else ((laws_markInt64S.f k x13 1).bind fun bt490=>((laws_heldInt64S.f k bt490.2 1).bind fun t492=>(if t492<0 then (none) else (if t492=bt490.1 then ((laws_toRing.f k x453000 x453001).bind fun bt493=>((laws_toInt64S.f k x3).bind fun t497=>((impl_StandIns.f k bt493.1 bt493.2 x1 x2 t497).bind fun t500=>((laws_eqInt64S.f k t500 x10).bind fun t503=>(if t503=true then ((laws_heldInt64S.f k bt490.2 1).bind fun t504=>(if t504<0 then (none) else (if t504=bt490.1 then (some true) else (none)))) else (none)))))) else (none)))))
def laws_FnExactStandIns.f (k:Nat) (a0_0:Int) (l0_1:List (S64)) (a1:ByteArray) (a2:Int) (l3:List Int):Option (Bool):=if (a1.size:Int)>1048576 then (some true) else (if (l3.length:Int)>1048576 then (some true) else ((laws_szRing.f a0_0 l0_1 1048576).bind fun t453=>(if t453<0 then (some true) else ((laws_toRing.f k a0_0 l0_1).bind fun bt454=>((laws_toInt64S.f k l3).bind fun t458=>((spec_StandIns.f k bt454.1 bt454.2 a1 a2 t458).bind fun t461=>((laws_toRing.f k a0_0 l0_1).bind fun bt464=>((laws_toInt64S.f k l3).bind fun t469=>((impl_StandIns.f k bt464.1 bt464.2 a1 a2 t469).bind fun t472=>((laws_eqInt64S.f k t472 t461).bind fun t475=>(if t475=true then ((laws_toRing.f k a0_0 l0_1).bind fun bt476=>((laws_eqRing.f k bt464.1 bt464.2 bt476.1 bt476.2).bind fun t480=>(if t480=true then ((laws_toInt64S.f k l3).bind fun t481=>((laws_eqInt64S.f k t469 t481).bind fun t484=>(if t484=true then ((laws_markRing.f k bt464.1 bt464.2 1).bind fun bt485=>((laws_markInt64S.f k t469 bt485.1).bind fun bt487=>(if bt487.1<0 then (laws_FnExactStandIns.j0 k a1 a2 l3 t461 t472 true a0_0 l0_1) else ((laws_eqInt64S.f k t472 t461).bind fun t489=>(laws_FnExactStandIns.j0 k a1 a2 l3 t461 t472 (!t489) a0_0 l0_1))))) else (none)))) else (none)))) else (none))))))))))))
theorem laws_FnExactStandIns.mono_l:∀ k,(∀ y0 y1 y2 y3 y4 y5 y6 y7,LeO (laws_FnExactStandIns.j0 k y0 y1 y2 y3 y4 y5 y6 y7) (laws_FnExactStandIns.j0 (k+1) y0 y1 y2 y3 y4 y5 y6 y7))
 | 0=>fun _ _ _ _ _ _ _ _ r h=>by simp [laws_FnExactStandIns.j0] at h
 | k+1=>by
  have ih0:=laws_FnExactStandIns.mono_l k
  ·intro y0 y1 y2 y3 y4 y5 y6 y7
   unfold laws_FnExactStandIns.j0
   repeat' first
   | (with_reducible exact ih0 _ _ _ _ _ _ _ _)
   | (with_reducible exact impl_StandIns.mono _ _ _ _ _ _)
   | (with_reducible exact laws_eqInt64S.mono _ _ _)
   | (with_reducible exact laws_eqRing.mono _ _ _ _ _)
   | (with_reducible exact laws_heldInt64S.mono _ _ _)
   | (with_reducible exact laws_markInt64S.mono _ _ _)
   | (with_reducible exact laws_markRing.mono _ _ _ _)
   | (with_reducible exact laws_toInt64S.mono _ _)
   | (with_reducible exact laws_toRing.mono _ _ _)
   | (with_reducible exact spec_StandIns.mono _ _ _ _ _ _)
   | (with_reducible exact LeO.refl _)
   | (with_reducible exact LeO.none _)
   | (with_reducible refine LeO.ite ?_ ?_)
   | (with_reducible refine LeO.bind ?_ (fun _=>?_))
   | exact ih0 _ _ _ _ _ _ _ _
   | exact impl_StandIns.mono _ _ _ _ _ _
   | exact laws_eqInt64S.mono _ _ _
   | exact laws_eqRing.mono _ _ _ _ _
   | exact laws_heldInt64S.mono _ _ _
   | exact laws_markInt64S.mono _ _ _
   | exact laws_markRing.mono _ _ _ _
   | exact laws_toInt64S.mono _ _
   | exact laws_toRing.mono _ _ _
   | exact spec_StandIns.mono _ _ _ _ _ _
   | exact LeO.none _
   | refine LeO.ite ?_ ?_
   | refine LeO.bind ?_ (fun _=>?_)
theorem laws_FnExactStandIns.mono:∀ a0 a1 a2 a3 a4 k,LeO (laws_FnExactStandIns.f k a0 a1 a2 a3 a4) (laws_FnExactStandIns.f (k+1) a0 a1 a2 a3 a4):=by
 intro a0 a1 a2 a3 a4 k
 have ih0:=laws_FnExactStandIns.mono_l k
 unfold laws_FnExactStandIns.f
 repeat' first
   | (with_reducible exact ih0 _ _ _ _ _ _ _ _)
   | (with_reducible exact impl_StandIns.mono _ _ _ _ _ _)
   | (with_reducible exact laws_eqInt64S.mono _ _ _)
   | (with_reducible exact laws_eqRing.mono _ _ _ _ _)
   | (with_reducible exact laws_heldInt64S.mono _ _ _)
   | (with_reducible exact laws_markInt64S.mono _ _ _)
   | (with_reducible exact laws_markRing.mono _ _ _ _)
   | (with_reducible exact laws_toInt64S.mono _ _)
   | (with_reducible exact laws_toRing.mono _ _ _)
   | (with_reducible exact spec_StandIns.mono _ _ _ _ _ _)
   | (with_reducible exact LeO.refl _)
   | (with_reducible exact LeO.none _)
   | (with_reducible refine LeO.ite ?_ ?_)
   | (with_reducible refine LeO.bind ?_ (fun _=>?_))
   | exact ih0 _ _ _ _ _ _ _ _
   | exact impl_StandIns.mono _ _ _ _ _ _
   | exact laws_eqInt64S.mono _ _ _
   | exact laws_eqRing.mono _ _ _ _ _
   | exact laws_heldInt64S.mono _ _ _
   | exact laws_markInt64S.mono _ _ _
   | exact laws_markRing.mono _ _ _ _
   | exact laws_toInt64S.mono _ _
   | exact laws_toRing.mono _ _ _
   | exact spec_StandIns.mono _ _ _ _ _ _
   | exact LeO.none _
   | refine LeO.ite ?_ ?_
   | refine LeO.bind ?_ (fun _=>?_)
set_option maxHeartbeats 8000000 in
set_option maxRecDepth 100000 in
theorem laws_FnExactStandIns.calls (k:Nat) (a0_0:Int) (A0_1:Option Addr) (c0_1:Nat) (l0_1:List (S64)) (a1:ByteArray) (a2:Int) (A3:Option Addr) (c3:Nat) (l3:List Int) (r:Bool) (w:World) (hr0_1:Kd.C k64 w A0_1 l0_1.length l0_1) (hc0_1:l0_1.length≤c0_1) (hr3:Kd.C (Kd.int .i64) w A3 l3.length l3) (hc3:l3.length≤c3) (h:laws_FnExactStandIns.f k a0_0 l0_1 a1 a2 l3=some r) :
  Calls Tryd.prog 4 #[.agg #[.int .i64 a0_0,.slice A0_1 l0_1.length c0_1],.string a1,.int .i64 a2,.slice A3 l3.length c3] w fun e w'=>e = .returned (.bool r)∧Below w.heap.size w w':=by
 have hu24:=Tryd.underlying24
 have hu30:=Tryd.underlying30
 have HR0_1:=Aside0.mk hr0_1
 have HC0_1:=Aside0.mk hc0_1
 clear hr0_1 hc0_1
 have HR3:=Aside0.mk hr3
 have HC3:=Aside0.mk hc3
 clear hr3 hc3
 have HB:=Aside0.mk (Below.refl w.heap.size w)
 have H:(if (a1.size:Int)>1048576 then (some true) else (if (l3.length:Int)>1048576 then (some true) else ((laws_szRing.f a0_0 l0_1 1048576).bind fun t453=>(if t453<0 then (some true) else ((laws_toRing.f k a0_0 l0_1).bind fun bt454=>((laws_toInt64S.f k l3).bind fun t458=>((spec_StandIns.f k bt454.1 bt454.2 a1 a2 t458).bind fun t461=>((laws_toRing.f k a0_0 l0_1).bind fun bt464=>((laws_toInt64S.f k l3).bind fun t469=>((impl_StandIns.f k bt464.1 bt464.2 a1 a2 t469).bind fun t472=>((laws_eqInt64S.f k t472 t461).bind fun t475=>(if t475=true then ((laws_toRing.f k a0_0 l0_1).bind fun bt476=>((laws_eqRing.f k bt464.1 bt464.2 bt476.1 bt476.2).bind fun t480=>(if t480=true then ((laws_toInt64S.f k l3).bind fun t481=>((laws_eqInt64S.f k t469 t481).bind fun t484=>(if t484=true then ((laws_markRing.f k bt464.1 bt464.2 1).bind fun bt485=>((laws_markInt64S.f k t469 bt485.1).bind fun bt487=>(if bt487.1<0 then (laws_FnExactStandIns.j0 k a1 a2 l3 t461 t472 true a0_0 l0_1) else ((laws_eqInt64S.f k t472 t461).bind fun t489=>(laws_FnExactStandIns.j0 k a1 a2 l3 t461 t472 (!t489) a0_0 l0_1))))) else (none)))) else (none)))) else (none)))))))))))))=some r:=h
 clear h
 by_cases c5:(a1.size:Int)>1048576
 ·rw [if_pos c5] at H
  have c5b0:decide (1048576<(a1.size:Int))=true:=decide_eq_true c5
  have c5b1:decide (1048576<a1.size)=true:=decide_eq_true (by omega)
  clear c5
  obtain rfl:=Option.some.inj H
  go_enter Tryd.func4,Tryd.ntmps4
  go_wp2_with (first | ((with_reducible refine gd_ 4 ?_);refine be_ 4 #[.int .i64 a0_0,.slice A0_1 l0_1.length c0_1] 24 ?_;intro gb452 hg w6 hbox hb;refine as4_ (below_step (z6_ HB.out) hb) (hbox) ((z8_ HB.out:w.heap.size≤gb452)) ((z8_ HB.out:w.heap.size≤gb452)) ?_;clear HB;intro HB BK452 GW452 GE452;clear hb hbox hg))
  go_ret
  exact ⟨z10_,z4_ HB.out GE452.out⟩
 ·rw [if_neg c5] at H
  have c5b0:decide (1048576<(a1.size:Int))=false:=decide_eq_false c5
  have c5b1:decide (1048576<a1.size)=false:=decide_eq_false (by omega)
  clear c5
  by_cases c7:(l3.length:Int)>1048576
  ·rw [if_pos c7] at H
   have c7b0:decide (1048576<(l3.length:Int))=true:=decide_eq_true c7
   have c7b1:decide (1048576<l3.length)=true:=decide_eq_true (by omega)
   clear c7
   obtain rfl:=Option.some.inj H
   go_enter Tryd.func4,Tryd.ntmps4
   go_wp2_with (first | ((with_reducible refine gd_ 4 ?_);refine be_ 4 #[.int .i64 a0_0,.slice A0_1 l0_1.length c0_1] 24 ?_;intro gb452 hg w8 hbox hb;refine as4_ (below_step (z6_ HB.out) hb) (hbox) ((z8_ HB.out:w.heap.size≤gb452)) ((z8_ HB.out:w.heap.size≤gb452)) ?_;clear HB;intro HB BK452 GW452 GE452;clear hb hbox hg))
   go_ret
   exact ⟨z10_,z4_ HB.out GE452.out⟩
  ·rw [if_neg c7] at H
   have c7b0:decide (1048576<(l3.length:Int))=false:=decide_eq_false c7
   have c7b1:decide (1048576<l3.length)=false:=decide_eq_false (by omega)
   clear c7
   replace H:=Option.bind_eq_some_iff.mp H
   obtain ⟨t453,A90,H⟩:=H
   replace H:(if t453<0 then (some true) else ((laws_toRing.f k a0_0 l0_1).bind fun bt454=>((laws_toInt64S.f k l3).bind fun t458=>((spec_StandIns.f k bt454.1 bt454.2 a1 a2 t458).bind fun t461=>((laws_toRing.f k a0_0 l0_1).bind fun bt464=>((laws_toInt64S.f k l3).bind fun t469=>((impl_StandIns.f k bt464.1 bt464.2 a1 a2 t469).bind fun t472=>((laws_eqInt64S.f k t472 t461).bind fun t475=>(if t475=true then ((laws_toRing.f k a0_0 l0_1).bind fun bt476=>((laws_eqRing.f k bt464.1 bt464.2 bt476.1 bt476.2).bind fun t480=>(if t480=true then ((laws_toInt64S.f k l3).bind fun t481=>((laws_eqInt64S.f k t469 t481).bind fun t484=>(if t484=true then ((laws_markRing.f k bt464.1 bt464.2 1).bind fun bt485=>((laws_markInt64S.f k t469 bt485.1).bind fun bt487=>(if bt487.1<0 then (laws_FnExactStandIns.j0 k a1 a2 l3 t461 t472 true a0_0 l0_1) else ((laws_eqInt64S.f k t472 t461).bind fun t489=>(laws_FnExactStandIns.j0 k a1 a2 l3 t461 t472 (!t489) a0_0 l0_1))))) else (none)))) else (none)))) else (none))))))))))=some r:=H
   have A9:=Aside0.mk A90
   clear A90
   by_cases c10:t453<0
   ·rw [if_pos c10] at H
    have c10b0:decide (t453<0)=true:=decide_eq_true c10
    clear c10
    obtain rfl:=Option.some.inj H
    go_enter Tryd.func4,Tryd.ntmps4
    go_wp2_with (first | ((with_reducible refine gd_ 4 ?_);refine be_ 4 #[.int .i64 a0_0,.slice A0_1 l0_1.length c0_1] 24 ?_;intro gb452 hg w11 hbox hb;refine as4_ (below_step (z6_ HB.out) hb) (hbox) ((z8_ HB.out:w.heap.size≤gb452)) ((z8_ HB.out:w.heap.size≤gb452)) ?_;clear HB;intro HB BK452 GW452 GE452;clear hb hbox hg;have ⟨hcz12_0,hcz12_1,hfz12_0,hfz12_1⟩:=cz2_ BK452.out) | ((with_reducible refine gc_ 5 ?_);refine gl_ (some 26) Tryd.func5 #[.agg #[.int .i64 a0_0,.slice A0_1 l0_1.length c0_1],.int .i64 1048576] ?_;(with_reducible refine (laws_szRing.calls a0_0 _ _ l0_1 1048576 t453 _ ?s1 ?s2 A9.out).mono ?_);(case s1=>repeat (first | exact (Kd.C_below HR0_1.out HB.out) | (with_reducible refine Kd.C_alloc ?_ _) | (with_reducible refine Kd.C_drewN ?_ _) | (with_reducible refine Kd.C_drew ?_)));(case s2=>exact HC0_1.out);rintro e w13 ⟨rfl,hb⟩;refine ⟨_,rfl,?_⟩;refine as2_ (blkB_ BK452.out hb) (below_step (z4_ HB.out GE452.out) hb) ?_;clear BK452 HB;intro BK452 HB;(try clear hb)))
    go_ret
    exact ⟨z10_,z4_ HB.out GE452.out⟩
   ·rw [if_neg c10] at H
    have c10b0:decide (t453<0)=false:=decide_eq_false c10
    clear c10
    replace H:=Option.bind_eq_some_iff.mp H
    obtain ⟨⟨t454,t455⟩,A140,H⟩:=H
    replace H:((laws_toInt64S.f k l3).bind fun t458=>((spec_StandIns.f k t454 t455 a1 a2 t458).bind fun t461=>((laws_toRing.f k a0_0 l0_1).bind fun bt464=>((laws_toInt64S.f k l3).bind fun t469=>((impl_StandIns.f k bt464.1 bt464.2 a1 a2 t469).bind fun t472=>((laws_eqInt64S.f k t472 t461).bind fun t475=>(if t475=true then ((laws_toRing.f k a0_0 l0_1).bind fun bt476=>((laws_eqRing.f k bt464.1 bt464.2 bt476.1 bt476.2).bind fun t480=>(if t480=true then ((laws_toInt64S.f k l3).bind fun t481=>((laws_eqInt64S.f k t469 t481).bind fun t484=>(if t484=true then ((laws_markRing.f k bt464.1 bt464.2 1).bind fun bt485=>((laws_markInt64S.f k t469 bt485.1).bind fun bt487=>(if bt487.1<0 then (laws_FnExactStandIns.j0 k a1 a2 l3 t461 t472 true a0_0 l0_1) else ((laws_eqInt64S.f k t472 t461).bind fun t489=>(laws_FnExactStandIns.j0 k a1 a2 l3 t461 t472 (!t489) a0_0 l0_1))))) else (none)))) else (none)))) else (none))))))))=some r:=H
    have A14:=Aside0.mk A140
    clear A140
    replace H:=Option.bind_eq_some_iff.mp H
    obtain ⟨t458,A150,H⟩:=H
    replace H:((spec_StandIns.f k t454 t455 a1 a2 t458).bind fun t461=>((laws_toRing.f k a0_0 l0_1).bind fun bt464=>((laws_toInt64S.f k l3).bind fun t469=>((impl_StandIns.f k bt464.1 bt464.2 a1 a2 t469).bind fun t472=>((laws_eqInt64S.f k t472 t461).bind fun t475=>(if t475=true then ((laws_toRing.f k a0_0 l0_1).bind fun bt476=>((laws_eqRing.f k bt464.1 bt464.2 bt476.1 bt476.2).bind fun t480=>(if t480=true then ((laws_toInt64S.f k l3).bind fun t481=>((laws_eqInt64S.f k t469 t481).bind fun t484=>(if t484=true then ((laws_markRing.f k bt464.1 bt464.2 1).bind fun bt485=>((laws_markInt64S.f k t469 bt485.1).bind fun bt487=>(if bt487.1<0 then (laws_FnExactStandIns.j0 k a1 a2 l3 t461 t472 true a0_0 l0_1) else ((laws_eqInt64S.f k t472 t461).bind fun t489=>(laws_FnExactStandIns.j0 k a1 a2 l3 t461 t472 (!t489) a0_0 l0_1))))) else (none)))) else (none)))) else (none)))))))=some r:=H
    have A15:=Aside0.mk A150
    clear A150
    replace H:=Option.bind_eq_some_iff.mp H
    obtain ⟨t461,A160,H⟩:=H
    replace H:((laws_toRing.f k a0_0 l0_1).bind fun bt464=>((laws_toInt64S.f k l3).bind fun t469=>((impl_StandIns.f k bt464.1 bt464.2 a1 a2 t469).bind fun t472=>((laws_eqInt64S.f k t472 t461).bind fun t475=>(if t475=true then ((laws_toRing.f k a0_0 l0_1).bind fun bt476=>((laws_eqRing.f k bt464.1 bt464.2 bt476.1 bt476.2).bind fun t480=>(if t480=true then ((laws_toInt64S.f k l3).bind fun t481=>((laws_eqInt64S.f k t469 t481).bind fun t484=>(if t484=true then ((laws_markRing.f k bt464.1 bt464.2 1).bind fun bt485=>((laws_markInt64S.f k t469 bt485.1).bind fun bt487=>(if bt487.1<0 then (laws_FnExactStandIns.j0 k a1 a2 l3 t461 t472 true a0_0 l0_1) else ((laws_eqInt64S.f k t472 t461).bind fun t489=>(laws_FnExactStandIns.j0 k a1 a2 l3 t461 t472 (!t489) a0_0 l0_1))))) else (none)))) else (none)))) else (none))))))=some r:=H
    have A16:=Aside0.mk A160
    clear A160
    replace H:=Option.bind_eq_some_iff.mp H
    obtain ⟨⟨t464,t465⟩,A170,H⟩:=H
    replace H:((laws_toInt64S.f k l3).bind fun t469=>((impl_StandIns.f k t464 t465 a1 a2 t469).bind fun t472=>((laws_eqInt64S.f k t472 t461).bind fun t475=>(if t475=true then ((laws_toRing.f k a0_0 l0_1).bind fun bt476=>((laws_eqRing.f k t464 t465 bt476.1 bt476.2).bind fun t480=>(if t480=true then ((laws_toInt64S.f k l3).bind fun t481=>((laws_eqInt64S.f k t469 t481).bind fun t484=>(if t484=true then ((laws_markRing.f k t464 t465 1).bind fun bt485=>((laws_markInt64S.f k t469 bt485.1).bind fun bt487=>(if bt487.1<0 then (laws_FnExactStandIns.j0 k a1 a2 l3 t461 t472 true a0_0 l0_1) else ((laws_eqInt64S.f k t472 t461).bind fun t489=>(laws_FnExactStandIns.j0 k a1 a2 l3 t461 t472 (!t489) a0_0 l0_1))))) else (none)))) else (none)))) else (none)))))=some r:=H
    have A17:=Aside0.mk A170
    clear A170
    replace H:=Option.bind_eq_some_iff.mp H
    obtain ⟨t469,A180,H⟩:=H
    replace H:((impl_StandIns.f k t464 t465 a1 a2 t469).bind fun t472=>((laws_eqInt64S.f k t472 t461).bind fun t475=>(if t475=true then ((laws_toRing.f k a0_0 l0_1).bind fun bt476=>((laws_eqRing.f k t464 t465 bt476.1 bt476.2).bind fun t480=>(if t480=true then ((laws_toInt64S.f k l3).bind fun t481=>((laws_eqInt64S.f k t469 t481).bind fun t484=>(if t484=true then ((laws_markRing.f k t464 t465 1).bind fun bt485=>((laws_markInt64S.f k t469 bt485.1).bind fun bt487=>(if bt487.1<0 then (laws_FnExactStandIns.j0 k a1 a2 l3 t461 t472 true a0_0 l0_1) else ((laws_eqInt64S.f k t472 t461).bind fun t489=>(laws_FnExactStandIns.j0 k a1 a2 l3 t461 t472 (!t489) a0_0 l0_1))))) else (none)))) else (none)))) else (none))))=some r:=H
    have A18:=Aside0.mk A180
    clear A180
    replace H:=Option.bind_eq_some_iff.mp H
    obtain ⟨t472,A190,H⟩:=H
    replace H:((laws_eqInt64S.f k t472 t461).bind fun t475=>(if t475=true then ((laws_toRing.f k a0_0 l0_1).bind fun bt476=>((laws_eqRing.f k t464 t465 bt476.1 bt476.2).bind fun t480=>(if t480=true then ((laws_toInt64S.f k l3).bind fun t481=>((laws_eqInt64S.f k t469 t481).bind fun t484=>(if t484=true then ((laws_markRing.f k t464 t465 1).bind fun bt485=>((laws_markInt64S.f k t469 bt485.1).bind fun bt487=>(if bt487.1<0 then (laws_FnExactStandIns.j0 k a1 a2 l3 t461 t472 true a0_0 l0_1) else ((laws_eqInt64S.f k t472 t461).bind fun t489=>(laws_FnExactStandIns.j0 k a1 a2 l3 t461 t472 (!t489) a0_0 l0_1))))) else (none)))) else (none)))) else (none)))=some r:=H
    have A19:=Aside0.mk A190
    clear A190
    replace H:=Option.bind_eq_some_iff.mp H
    obtain ⟨t475,A200,H⟩:=H
    replace H:(if t475=true then ((laws_toRing.f k a0_0 l0_1).bind fun bt476=>((laws_eqRing.f k t464 t465 bt476.1 bt476.2).bind fun t480=>(if t480=true then ((laws_toInt64S.f k l3).bind fun t481=>((laws_eqInt64S.f k t469 t481).bind fun t484=>(if t484=true then ((laws_markRing.f k t464 t465 1).bind fun bt485=>((laws_markInt64S.f k t469 bt485.1).bind fun bt487=>(if bt487.1<0 then (laws_FnExactStandIns.j0 k a1 a2 l3 t461 t472 true a0_0 l0_1) else ((laws_eqInt64S.f k t472 t461).bind fun t489=>(laws_FnExactStandIns.j0 k a1 a2 l3 t461 t472 (!t489) a0_0 l0_1))))) else (none)))) else (none)))) else (none))=some r:=H
    have A20:=Aside0.mk A200
    clear A200
    by_cases c21:t475=true
    ·subst c21
     have H1:((laws_toRing.f k a0_0 l0_1).bind fun bt476=>((laws_eqRing.f k t464 t465 bt476.1 bt476.2).bind fun t480=>(if t480=true then ((laws_toInt64S.f k l3).bind fun t481=>((laws_eqInt64S.f k t469 t481).bind fun t484=>(if t484=true then ((laws_markRing.f k t464 t465 1).bind fun bt485=>((laws_markInt64S.f k t469 bt485.1).bind fun bt487=>(if bt487.1<0 then (laws_FnExactStandIns.j0 k a1 a2 l3 t461 t472 true a0_0 l0_1) else ((laws_eqInt64S.f k t472 t461).bind fun t489=>(laws_FnExactStandIns.j0 k a1 a2 l3 t461 t472 (!t489) a0_0 l0_1))))) else (none)))) else (none))))=some r:=by rw [if_pos rfl] at H;exact H
     clear H
     have H:=H1
     clear H1
     replace H:=Option.bind_eq_some_iff.mp H
     obtain ⟨⟨t476,t477⟩,A220,H⟩:=H
     replace H:((laws_eqRing.f k t464 t465 t476 t477).bind fun t480=>(if t480=true then ((laws_toInt64S.f k l3).bind fun t481=>((laws_eqInt64S.f k t469 t481).bind fun t484=>(if t484=true then ((laws_markRing.f k t464 t465 1).bind fun bt485=>((laws_markInt64S.f k t469 bt485.1).bind fun bt487=>(if bt487.1<0 then (laws_FnExactStandIns.j0 k a1 a2 l3 t461 t472 true a0_0 l0_1) else ((laws_eqInt64S.f k t472 t461).bind fun t489=>(laws_FnExactStandIns.j0 k a1 a2 l3 t461 t472 (!t489) a0_0 l0_1))))) else (none)))) else (none)))=some r:=H
     have A22:=Aside0.mk A220
     clear A220
     replace H:=Option.bind_eq_some_iff.mp H
     obtain ⟨t480,A230,H⟩:=H
     replace H:(if t480=true then ((laws_toInt64S.f k l3).bind fun t481=>((laws_eqInt64S.f k t469 t481).bind fun t484=>(if t484=true then ((laws_markRing.f k t464 t465 1).bind fun bt485=>((laws_markInt64S.f k t469 bt485.1).bind fun bt487=>(if bt487.1<0 then (laws_FnExactStandIns.j0 k a1 a2 l3 t461 t472 true a0_0 l0_1) else ((laws_eqInt64S.f k t472 t461).bind fun t489=>(laws_FnExactStandIns.j0 k a1 a2 l3 t461 t472 (!t489) a0_0 l0_1))))) else (none)))) else (none))=some r:=H
     have A23:=Aside0.mk A230
     clear A230
     by_cases c24:t480=true
     ·subst c24
      have H1:((laws_toInt64S.f k l3).bind fun t481=>((laws_eqInt64S.f k t469 t481).bind fun t484=>(if t484=true then ((laws_markRing.f k t464 t465 1).bind fun bt485=>((laws_markInt64S.f k t469 bt485.1).bind fun bt487=>(if bt487.1<0 then (laws_FnExactStandIns.j0 k a1 a2 l3 t461 t472 true a0_0 l0_1) else ((laws_eqInt64S.f k t472 t461).bind fun t489=>(laws_FnExactStandIns.j0 k a1 a2 l3 t461 t472 (!t489) a0_0 l0_1))))) else (none))))=some r:=by rw [if_pos rfl] at H;exact H
      clear H
      have H:=H1
      clear H1
      replace H:=Option.bind_eq_some_iff.mp H
      obtain ⟨t481,A250,H⟩:=H
      replace H:((laws_eqInt64S.f k t469 t481).bind fun t484=>(if t484=true then ((laws_markRing.f k t464 t465 1).bind fun bt485=>((laws_markInt64S.f k t469 bt485.1).bind fun bt487=>(if bt487.1<0 then (laws_FnExactStandIns.j0 k a1 a2 l3 t461 t472 true a0_0 l0_1) else ((laws_eqInt64S.f k t472 t461).bind fun t489=>(laws_FnExactStandIns.j0 k a1 a2 l3 t461 t472 (!t489) a0_0 l0_1))))) else (none)))=some r:=H
      have A25:=Aside0.mk A250
      clear A250
      replace H:=Option.bind_eq_some_iff.mp H
      obtain ⟨t484,A260,H⟩:=H
      replace H:(if t484=true then ((laws_markRing.f k t464 t465 1).bind fun bt485=>((laws_markInt64S.f k t469 bt485.1).bind fun bt487=>(if bt487.1<0 then (laws_FnExactStandIns.j0 k a1 a2 l3 t461 t472 true a0_0 l0_1) else ((laws_eqInt64S.f k t472 t461).bind fun t489=>(laws_FnExactStandIns.j0 k a1 a2 l3 t461 t472 (!t489) a0_0 l0_1))))) else (none))=some r:=H
      have A26:=Aside0.mk A260
      clear A260
      by_cases c27:t484=true
      ·subst c27
       have H1:((laws_markRing.f k t464 t465 1).bind fun bt485=>((laws_markInt64S.f k t469 bt485.1).bind fun bt487=>(if bt487.1<0 then (laws_FnExactStandIns.j0 k a1 a2 l3 t461 t472 true a0_0 l0_1) else ((laws_eqInt64S.f k t472 t461).bind fun t489=>(laws_FnExactStandIns.j0 k a1 a2 l3 t461 t472 (!t489) a0_0 l0_1)))))=some r:=by rw [if_pos rfl] at H;exact H
       clear H
       have H:=H1
       clear H1
       replace H:=Option.bind_eq_some_iff.mp H
       obtain ⟨⟨t485,t486⟩,A280,H⟩:=H
       replace H:((laws_markInt64S.f k t469 t485).bind fun bt487=>(if bt487.1<0 then (laws_FnExactStandIns.j0 k a1 a2 l3 t461 t472 true a0_0 l0_1) else ((laws_eqInt64S.f k t472 t461).bind fun t489=>(laws_FnExactStandIns.j0 k a1 a2 l3 t461 t472 (!t489) a0_0 l0_1))))=some r:=H
       have A28:=Aside0.mk A280
       clear A280
       replace H:=Option.bind_eq_some_iff.mp H
       obtain ⟨⟨t487,t488⟩,A290,H⟩:=H
       replace H:(if t487<0 then (laws_FnExactStandIns.j0 k a1 a2 l3 t461 t472 true a0_0 l0_1) else ((laws_eqInt64S.f k t472 t461).bind fun t489=>(laws_FnExactStandIns.j0 k a1 a2 l3 t461 t472 (!t489) a0_0 l0_1)))=some r:=H
       have A29:=Aside0.mk A290
       clear A290
       have HC30:=Aside0.mk H
       clear H
       go_enter Tryd.func4,Tryd.ntmps4
       try go_wp2_with (first | ((with_reducible refine gd_ 4 ?_);refine be_ 4 #[.int .i64 a0_0,.slice A0_1 l0_1.length c0_1] 24 ?_;intro gb452 hg w31 hbox hb;refine as4_ (below_step (z6_ HB.out) hb) (hbox) ((z8_ HB.out:w.heap.size≤gb452)) ((z8_ HB.out:w.heap.size≤gb452)) ?_;clear HB;intro HB BK452 GW452 GE452;clear hb hbox hg;have ⟨hcz32_0,hcz32_1,hfz32_0,hfz32_1⟩:=cz2_ BK452.out) | ((with_reducible refine gc_ 5 ?_);refine gl_ (some 26) Tryd.func5 #[.agg #[.int .i64 a0_0,.slice A0_1 l0_1.length c0_1],.int .i64 1048576] ?_;(with_reducible refine (laws_szRing.calls a0_0 _ _ l0_1 1048576 t453 _ ?s1 ?s2 A9.out).mono ?_);(case s1=>repeat (first | exact (Kd.C_below HR0_1.out HB.out) | (with_reducible refine Kd.C_alloc ?_ _) | (with_reducible refine Kd.C_drewN ?_ _) | (with_reducible refine Kd.C_drew ?_)));(case s2=>exact HC0_1.out);rintro e w33 ⟨rfl,hb⟩;refine ⟨_,rfl,?_⟩;refine as2_ (blkB_ BK452.out hb) (below_step (z4_ HB.out GE452.out) hb) ?_;clear BK452 HB;intro BK452 HB;(try clear hb);have ⟨hcz34_0,hcz34_1,hfz34_0,hfz34_1⟩:=cz2_ BK452.out) | ((with_reducible refine gc_ 7 ?_);refine gl_ (some 30) Tryd.func7 #[.agg #[.int .i64 a0_0,.slice A0_1 l0_1.length c0_1]] ?_;(with_reducible refine (laws_toRing.calls k a0_0 _ _ l0_1 t454 t455 _ ?s1 ?s2 A14.out).mono ?_);(case s1=>repeat (first | exact (Kd.C_below HR0_1.out HB.out) | (with_reducible refine Kd.C_alloc ?_ _) | (with_reducible refine Kd.C_drewN ?_ _) | (with_reducible refine Kd.C_drew ?_)));(case s2=>exact HC0_1.out);rintro e w35 ⟨v456,rfl,ho0,hb⟩;refine ⟨_,rfl,?_⟩;refine as3_ (Kd.R_lower ho0 (below_size (z4_ HB.out GE452.out))) (blkB_ BK452.out hb) (below_step (z4_ HB.out GE452.out) hb) ?_;clear BK452 HB;intro HO457 BK452 HB;(try clear hb);(try clear ho0)) | ((with_reducible refine gc_ 15 ?_);refine gl_ (some 34) Tryd.func15 #[.slice A3 l3.length c3] ?_;(with_reducible refine (laws_toInt64S.calls k _ _ l3 t458 _ ?s1 ?s2 A15.out).mono ?_);(case s1=>repeat (first | exact (Kd.C_below HR3.out HB.out) | (with_reducible refine Kd.C_alloc ?_ _) | (with_reducible refine Kd.C_drewN ?_ _) | (with_reducible refine Kd.C_drew ?_)));(case s2=>exact HC3.out);rintro e w36 ⟨v459,rfl,ho0,hb⟩;refine ⟨_,rfl,?_⟩;refine as4_ (Kd.R_below (z2_ HO457.out) hb) (Kd.R_lower ho0 (below_size (z4_ HB.out GE452.out))) (blkB_ BK452.out hb) (below_step (z4_ HB.out GE452.out) hb) ?_;clear HO457 BK452 HB;intro HO457 HO460 BK452 HB;(try clear hb);(try clear ho0);obtain ⟨Ao37,co37,eo37⟩:=Kd.R_slice HO457.out;subst eo37;obtain ⟨Ao38,co38,eo38⟩:=Kd.R_slice HO460.out;subst eo38) | ((with_reducible refine gc_ 14 ?_);refine gl_ (some 35) Tryd.func14 #[.agg #[.int .i64 t454,.slice Ao37 t455.length co37],.string a1,.int .i64 a2,.slice Ao38 t458.length co38] ?_;(with_reducible refine (spec_StandIns.calls k t454 _ _ t455 a1 a2 _ _ t458 t461 _ ?s1 ?s2 ?s3 ?s4 A16.out).mono ?_);(case s1=>repeat (first | exact (Kd.R_reads' HO457.out).2.2 | (with_reducible refine Kd.C_alloc ?_ _) | (with_reducible refine Kd.C_drewN ?_ _) | (with_reducible refine Kd.C_drew ?_)));(case s2=>exact (Kd.R_reads' HO457.out).2.1);(case s3=>repeat (first | exact (Kd.R_reads' HO460.out).2.2 | (with_reducible refine Kd.C_alloc ?_ _) | (with_reducible refine Kd.C_drewN ?_ _) | (with_reducible refine Kd.C_drew ?_)));(case s4=>exact (Kd.R_reads' HO460.out).2.1);rintro e w39 ⟨v462,rfl,ho0,hb⟩;refine ⟨_,rfl,?_⟩;refine as5_ (Kd.R_below (z2_ HO457.out) hb) (Kd.R_elder' (z2_ HO460.out) (Kd.R_base ho0) hb) (Kd.R_lower (Kd.R_new' ho0 (Kd.R_lt (z2_ HO460.out))) (below_size (z4_ HB.out GE452.out))) (blkB_ BK452.out hb) (below_step (z4_ HB.out GE452.out) hb) ?_;clear HO457 HO460 BK452 HB;intro HO457 HO460 HO463 BK452 HB;(try clear hb);(try clear ho0);have ⟨hcz40_0,hcz40_1,hfz40_0,hfz40_1⟩:=cz2_ BK452.out) | ((with_reducible refine gc_ 7 ?_);refine gl_ (some 37) Tryd.func7 #[.agg #[.int .i64 a0_0,.slice A0_1 l0_1.length c0_1]] ?_;(with_reducible refine (laws_toRing.calls k a0_0 _ _ l0_1 t464 t465 _ ?s1 ?s2 A17.out).mono ?_);(case s1=>repeat (first | exact (Kd.C_below HR0_1.out HB.out) | (with_reducible refine Kd.C_alloc ?_ _) | (with_reducible refine Kd.C_drewN ?_ _) | (with_reducible refine Kd.C_drew ?_)));(case s2=>exact HC0_1.out);rintro e w41 ⟨v466,rfl,ho0,hb⟩;refine ⟨_,rfl,?_⟩;refine as6_ (Kd.R_elder' (z2_ HO457.out) (Kd.R_base ho0) hb) (Kd.R_below (z2_ HO460.out) hb) (Kd.R_below (z2_ HO463.out) hb) (Kd.R_lower (Kd.R_new' ho0 (Kd.R_lt (z2_ HO457.out))) (below_size (z4_ HB.out GE452.out))) (blkB_ BK452.out hb) (below_step (z4_ HB.out GE452.out) hb) ?_;clear HO457 HO460 HO463 BK452 HB;intro HO457 HO460 HO463 HO467 BK452 HB;(try clear hb);(try clear ho0)) | ((with_reducible refine gd_ 11 ?_);refine be_ 11 #[.int .i64 0,.slice none 0 0] 30 ?_;intro gb468 hg w42 hbox hb;refine as11_ (Kd.R_below (z2_ HO457.out) hb) (Kd.R_below (z2_ HO460.out) hb) (Kd.R_below (z2_ HO463.out) hb) (Kd.R_below (z2_ HO467.out) hb) (blkB_ BK452.out hb) (below_step (z4_ HB.out GE452.out) hb) (hbox) ((z12_ HB.out GE452.out:w.heap.size≤gb468)) ((z12_ HB.out GE452.out:w.heap.size≤gb468)) (neL_ BK452.out hg) (neG_ BK452.out hg) ?_;clear HO457 HO460 HO463 HO467 BK452 HB;intro HO457 HO460 HO463 HO467 BK452 HB BK468 GW468 GE468 NB452_468 NB468_452;clear hb hbox hg;have hnb43:=NB468_452.out;have hnc43:=NB452_468.out;have ⟨hcz44_0,hcz44_1,hfz44_0,hfz44_1⟩:=cz2_ BK468.out;obtain ⟨Ao45,co45,eo45⟩:=Kd.R_slice HO467.out;subst eo45) | ((with_reducible refine gc_ 15 ?_);refine gl_ (some 39) Tryd.func15 #[.slice A3 l3.length c3] ?_;(with_reducible refine (laws_toInt64S.calls k _ _ l3 t469 _ ?s1 ?s2 A18.out).mono ?_);(case s1=>exact Kd.C_below HR3.out (z7_ HB.out GE452.out GE468.out));(case s2=>exact HC3.out);rintro e w46 ⟨v470,rfl,ho0,hb⟩;refine ⟨_,rfl,?_⟩;refine as8_ (Kd.R_below (z27_ HO457.out BK468.out) hb) (Kd.R_elder' (z27_ HO460.out BK468.out) (Kd.R_base ho0) hb) (Kd.R_elder' (z27_ HO463.out BK468.out) (Kd.R_base ho0) hb) (Kd.R_below (z27_ HO467.out BK468.out) hb) (Kd.R_lower (Kd.R_new' (Kd.R_new' ho0 (Kd.R_lt (z27_ HO460.out BK468.out))) (Kd.R_lt (z27_ HO463.out BK468.out))) (below_size (z7_ HB.out GE452.out GE468.out))) (blk_below (g:=gb452) (o:=.cells #[.int .i64 a0_0,.slice A0_1 l0_1.length c0_1] 24 (0,0)) (z26_ NB452_468.out BK452.out) hb) (blk_below (g:=gb468) (o:=.cells #[.int .i64 t464,.slice Ao45 t465.length co45] 30 (0,0)) (z24_ BK468.out) hb) (below_step (z7_ HB.out GE452.out GE468.out) hb) ?_;clear HO457 HO460 HO463 HO467 BK452 BK468 HB;intro HO457 HO460 HO463 HO467 HO471 BK452 BK468 HB;(try clear hb);(try clear hk);(try clear ho0);have ⟨hcz47_0,hcz47_1,hfz47_0,hfz47_1⟩:=cz2_ BK468.out;obtain ⟨Ao48,co48,eo48⟩:=Kd.R_slice HO471.out;subst eo48) | ((with_reducible refine gc_ 16 ?_);refine gl_ (some 44) Tryd.func16 #[.agg #[.int .i64 t464,.slice Ao45 t465.length co45],.string a1,.int .i64 a2,.slice Ao48 t469.length co48] ?_;(with_reducible refine (impl_StandIns.calls k t464 _ _ t465 a1 a2 _ _ t469 t472 _ ?s1 ?s2 ?s3 ?s4 A19.out).mono ?_);(case s1=>repeat (first | exact (Kd.R_reads' HO467.out).2.2 | (with_reducible refine Kd.C_alloc ?_ _) | (with_reducible refine Kd.C_drewN ?_ _) | (with_reducible refine Kd.C_drew ?_)));(case s2=>exact (Kd.R_reads' HO467.out).2.1);(case s3=>repeat (first | exact (Kd.R_reads' HO471.out).2.2 | (with_reducible refine Kd.C_alloc ?_ _) | (with_reducible refine Kd.C_drewN ?_ _) | (with_reducible refine Kd.C_drew ?_)));(case s4=>exact (Kd.R_reads' HO471.out).2.1);rintro e w49 ⟨v473,rfl,ho0,hb⟩;refine ⟨_,rfl,?_⟩;refine as9_ (Kd.R_below (z2_ HO457.out) hb) (Kd.R_elder' (z2_ HO460.out) (Kd.R_base ho0) hb) (Kd.R_elder' (z2_ HO463.out) (Kd.R_base ho0) hb) (Kd.R_below (z2_ HO467.out) hb) (Kd.R_elder' (z2_ HO471.out) (Kd.R_base ho0) hb) (Kd.R_lower (Kd.R_new' (Kd.R_new' (Kd.R_new' ho0 (Kd.R_lt (z2_ HO460.out))) (Kd.R_lt (z2_ HO463.out))) (Kd.R_lt (z2_ HO471.out))) (below_size (z7_ HB.out GE452.out GE468.out))) (blkB_ BK452.out hb) (blkB_ BK468.out hb) (below_step (z7_ HB.out GE452.out GE468.out) hb) ?_;clear HO457 HO460 HO463 HO467 HO471 BK452 BK468 HB;intro HO457 HO460 HO463 HO467 HO471 HO474 BK452 BK468 HB;(try clear hb);(try clear ho0);obtain ⟨Ao50,co50,eo50⟩:=Kd.R_slice HO474.out;subst eo50;obtain ⟨Ao51,co51,eo51⟩:=Kd.R_slice HO463.out;subst eo51) | ((with_reducible refine gc_ 9 ?_);refine gl_ (some 47) Tryd.func9 #[.slice Ao50 t472.length co50,.slice Ao51 t461.length co51] ?_;(with_reducible refine (laws_eqInt64S.calls k _ _ t472 _ _ t461 true _ ?s1 ?s2 ?s3 ?s4 A20.out).mono ?_);(case s1=>repeat (first | exact (Kd.R_reads' HO474.out).2.2 | (with_reducible refine Kd.C_alloc ?_ _) | (with_reducible refine Kd.C_drewN ?_ _) | (with_reducible refine Kd.C_drew ?_)));(case s2=>exact (Kd.R_reads' HO474.out).2.1);(case s3=>repeat (first | exact (Kd.R_reads' HO463.out).2.2 | (with_reducible refine Kd.C_alloc ?_ _) | (with_reducible refine Kd.C_drewN ?_ _) | (with_reducible refine Kd.C_drew ?_)));(case s4=>exact (Kd.R_reads' HO463.out).2.1);rintro e w' ⟨rfl,⟨nd,rfl⟩⟩;refine ⟨_,rfl,?_⟩))
       (try (rw [drewN_self w49];generalize hq_:World.drewN w49 _=w49;have n0_:Aside0 (Kd.R k59 59 w49 w.heap.size (fun k_=>True∧some k_≠(.slice Ao45 t465.length co45:Value).ownBlock) (.slice Ao37 t455.length co37) t455):=⟨z33_ HO457.out⟩;have n1_:Aside0 (Kd.R (Kd.int .i64) 2 w49 w.heap.size (fun k_=>((True∧some k_≠(.slice Ao51 t461.length co51:Value).ownBlock)∧some k_≠(.slice Ao48 t469.length co48:Value).ownBlock)∧some k_≠(.slice Ao50 t472.length co50:Value).ownBlock) (.slice Ao38 t458.length co38) t458):=⟨z33_ HO460.out⟩;have n2_:Aside0 (Kd.R (Kd.int .i64) 2 w49 w.heap.size (fun k_=>((True∧some k_≠(.slice Ao38 t458.length co38:Value).ownBlock)∧some k_≠(.slice Ao48 t469.length co48:Value).ownBlock)∧some k_≠(.slice Ao50 t472.length co50:Value).ownBlock) (.slice Ao51 t461.length co51) t461):=⟨z33_ HO463.out⟩;have n3_:Aside0 (Kd.R k59 59 w49 w.heap.size (fun k_=>True∧some k_≠(.slice Ao37 t455.length co37:Value).ownBlock) (.slice Ao45 t465.length co45) t465):=⟨z33_ HO467.out⟩;have n4_:Aside0 (Kd.R (Kd.int .i64) 2 w49 w.heap.size (fun k_=>((True∧some k_≠(.slice Ao38 t458.length co38:Value).ownBlock)∧some k_≠(.slice Ao51 t461.length co51:Value).ownBlock)∧some k_≠(.slice Ao50 t472.length co50:Value).ownBlock) (.slice Ao48 t469.length co48) t469):=⟨z33_ HO471.out⟩;have n5_:Aside0 (Kd.R (Kd.int .i64) 2 w49 w.heap.size (fun k_=>((True∧some k_≠(.slice Ao38 t458.length co38:Value).ownBlock)∧some k_≠(.slice Ao51 t461.length co51:Value).ownBlock)∧some k_≠(.slice Ao48 t469.length co48:Value).ownBlock) (.slice Ao50 t472.length co50) t472):=⟨z33_ HO474.out⟩;have n6_:Aside0 (w49.heap[gb452]? = some (.cells #[.int .i64 a0_0,.slice A0_1 l0_1.length c0_1] 24 (0,0))):=⟨z41_ BK452.out⟩;have n7_:Aside0 (w49.heap[gb468]? = some (.cells #[.int .i64 t464,.slice Ao45 t465.length co45] 30 (0,0))):=⟨z41_ BK468.out⟩;have n8_:Aside0 (Below w.heap.size w w49):=⟨by rw [← hq_];exact (by repeat (first | (with_reducible first | exact HB.out | apply below_alloc | apply pw_below_drewN | apply below_drew1 | refine below_set ?_ GE452.out | refine below_set ?_ GE468.out) | exact HB.out))⟩;clear HO457 HO460 HO463 HO467 HO471 HO474 BK452 BK468 HB hq_;have HO457:=n0_;have HO460:=n1_;have HO463:=n2_;have HO467:=n3_;have HO471:=n4_;have HO474:=n5_;have BK452:=n6_;have BK468:=n7_;have HB:=n8_;clear n0_ n1_ n2_ n3_ n4_ n5_ n6_ n7_ n8_))
       refine as9_ (Kd.R_drew HO457.out) (Kd.R_drew HO460.out) (Kd.R_drew HO463.out) (Kd.R_drew HO467.out) (Kd.R_drew HO471.out) (Kd.R_drew HO474.out) (blk_drew BK452.out) (blk_drew BK468.out) (below_drew1 HB.out) ?_
       clear HO457 HO460 HO463 HO467 HO471 HO474 BK452 BK468 HB
       intro HO457 HO460 HO463 HO467 HO471 HO474 BK452 BK468 HB
       refine start_ (n:=5) (S:=fun w'=>w'.cell? ⟨gb468,0,none⟩=some (.int .i64 t464)∧w'.cell? ⟨gb468,1,none⟩=some (.slice Ao45 t465.length co45)∧w'.cell? ⟨gb452,0,none⟩=some (.int .i64 a0_0)∧w'.cell? ⟨gb452,1,none⟩=some (.slice A0_1 l0_1.length c0_1)) (ds:=[]) #[O,O,O,O,O] (by kernel_rfl) rfl rfl (cj2_ BK468.out (cc2_ BK452.out)) (fun hHeld=>?_)
       generalize w49.drew=w52 at HO457 HO460 HO463 HO467 HO471 HO474 BK452 BK468 HB hHeld ⊢
       refine take_ (i:=0) (N:=some 49) (v:=?_) (a':=?_) #[I,O,O,O,O] rfl rfl (by kernel_rfl) (fun _ _ _ h=>h) (Or.inl ⟨by rfl,?_⟩) hHeld ?_ ?_
       rotate_left
       ·rintro w' ⟨s0,s1,s2,s3⟩
        go_simp
        with_reducible rfl
       rotate_left
       ·simp only [Act.put,sa_,s0_,ss_,i64_w,i32_w]
        rfl
       refine take_ (i:=1) (N:=some 50) (v:=?_) (a':=?_) #[I,I,O,O,O] rfl rfl (by kernel_rfl) (fun _ _ _ h=>h) (Or.inl ⟨by rfl,?_⟩) hHeld ?_ ?_
       rotate_left
       ·rintro w' ⟨s0,s1,s2,s3⟩
        go_simp
        with_reducible rfl
       rotate_left
       ·simp only [Act.put,sa_,s0_,ss_,i64_w,i32_w]
        rfl
       refine one_ (i:=2) (N:=some 51) #[I,I,I,O,O] rfl rfl (by kernel_rfl) (by decide) (fun K hK=>?_)
       refine gs_ Tryd.func7 #[.agg #[.int .i64 a0_0,.slice A0_1 l0_1.length c0_1]] ?_
       with_reducible refine (laws_toRing.calls k a0_0 _ _ l0_1 t476 t477 _ ?s1 ?s2 A22.out).mono ?_
       (case s1=>repeat (first | exact (Kd.C_below HR0_1.out HB.out) | (with_reducible refine Kd.C_alloc ?_ _) | (with_reducible refine Kd.C_drewN ?_ _) | (with_reducible refine Kd.C_drew ?_)))
       (case s2=>exact HC0_1.out)
       rintro e w53 ⟨v478,rfl,ho0,hb⟩
       refine ⟨_,rfl,?_⟩
       refine as10_ (Kd.R_elder' (z2_ HO457.out) (Kd.R_base ho0) hb) (Kd.R_below (z2_ HO460.out) hb) (Kd.R_below (z2_ HO463.out) hb) (Kd.R_elder' (z2_ HO467.out) (Kd.R_base ho0) hb) (Kd.R_below (z2_ HO471.out) hb) (Kd.R_below (z2_ HO474.out) hb) (Kd.R_lower (Kd.R_new' (Kd.R_new' ho0 (Kd.R_lt (z2_ HO457.out))) (Kd.R_lt (z2_ HO467.out))) (below_size (z7_ HB.out GE452.out GE468.out))) (blkB_ BK452.out hb) (blkB_ BK468.out hb) (below_step (z7_ HB.out GE452.out GE468.out) hb) ?_
       clear HO457 HO460 HO463 HO467 HO471 HO474 BK452 BK468 HB
       intro HO457 HO460 HO463 HO467 HO471 HO474 HO479 BK452 BK468 HB
       (try clear hb)
       (try clear ho0)
       obtain ⟨Ao54,co54,eo54⟩:=Kd.R_slice HO479.out
       (first | subst eo54 | (injection eo54 with f1_ f2_ f3_;have f4_:=f1_.symm;have f5_:=f3_.symm;clear f1_ f2_ f3_;subst f4_;subst f5_))
       refine hK.out _ _ (cj2_ BK468.out (cc2_ BK452.out)) (fun hHeld=>?_)
       clear hK K
       refine nm_ 51 ?_
       refine one_ (i:=3) (N:=some 52) #[I,I,I,I,O] rfl rfl (by kernel_rfl) (by decide) (fun K hK=>?_)
       refine gs_ Tryd.func10 #[.agg #[.int .i64 t464,.slice Ao45 t465.length co45],.agg #[.int .i64 t476,.slice Ao54 t477.length co54]] ?_
       with_reducible refine (laws_eqRing.calls k t464 _ _ t465 t476 _ _ t477 true _ ?s1 ?s2 ?s3 ?s4 A23.out).mono ?_
       (case s1=>repeat (first | exact (Kd.R_reads' HO467.out).2.2 | (with_reducible refine Kd.C_alloc ?_ _) | (with_reducible refine Kd.C_drewN ?_ _) | (with_reducible refine Kd.C_drew ?_)))
       (case s2=>exact (Kd.R_reads' HO467.out).2.1)
       (case s3=>repeat (first | exact (Kd.R_reads' HO479.out).2.2 | (with_reducible refine Kd.C_alloc ?_ _) | (with_reducible refine Kd.C_drewN ?_ _) | (with_reducible refine Kd.C_drew ?_)))
       (case s4=>exact (Kd.R_reads' HO479.out).2.1)
       rintro e w55 ⟨rfl,hb⟩
       refine ⟨_,rfl,?_⟩
       refine as10_ (Kd.R_below (z2_ HO457.out) hb) (Kd.R_below (z2_ HO460.out) hb) (Kd.R_below (z2_ HO463.out) hb) (Kd.R_below (z2_ HO467.out) hb) (Kd.R_below (z2_ HO471.out) hb) (Kd.R_below (z2_ HO474.out) hb) (Kd.R_below (z2_ HO479.out) hb) (blkB_ BK452.out hb) (blkB_ BK468.out hb) (below_step (z7_ HB.out GE452.out GE468.out) hb) ?_
       clear HO457 HO460 HO463 HO467 HO471 HO474 HO479 BK452 BK468 HB
       intro HO457 HO460 HO463 HO467 HO471 HO474 HO479 BK452 BK468 HB
       (try clear hb)
       refine hK.out _ _ (cj2_ BK468.out (cc2_ BK452.out)) (fun hHeld=>?_)
       clear hK K
       refine nm_ 52 ?_
       refine pure_ (i:=4) (N:=some 53) (v:=?_) (a':=?_) #[I,I,I,I,I] rfl rfl (by kernel_rfl) (fun _ _ _ h=>h) (Or.inl ⟨by rfl,?_⟩) ?_ ?_
       rotate_left
       ·intro w'
        go_simp
        with_reducible rfl
       rotate_left
       ·simp only [Act.put,sa_,s0_,ss_,i64_w,i32_w]
        rfl
       refine done_ (by kernel_rfl) ?_
       go_upto_region 22 with (first | ((with_reducible refine gc_ 15 ?_);refine gl_ (some 56) Tryd.func15 #[.slice A3 l3.length c3] ?_;(with_reducible refine (laws_toInt64S.calls k _ _ l3 t481 _ ?s1 ?s2 A25.out).mono ?_);(case s1=>repeat (first | exact (Kd.C_below HR3.out HB.out) | (with_reducible refine Kd.C_alloc ?_ _) | (with_reducible refine Kd.C_drewN ?_ _) | (with_reducible refine Kd.C_drew ?_)));(case s2=>exact HC3.out);rintro e w56 ⟨v482,rfl,ho0,hb⟩;refine ⟨_,rfl,?_⟩;refine as11_ (Kd.R_below (z2_ HO457.out) hb) (Kd.R_elder' (z2_ HO460.out) (Kd.R_base ho0) hb) (Kd.R_elder' (z2_ HO463.out) (Kd.R_base ho0) hb) (Kd.R_below (z2_ HO467.out) hb) (Kd.R_elder' (z2_ HO471.out) (Kd.R_base ho0) hb) (Kd.R_elder' (z2_ HO474.out) (Kd.R_base ho0) hb) (Kd.R_below (z2_ HO479.out) hb) (Kd.R_lower (Kd.R_new' (Kd.R_new' (Kd.R_new' (Kd.R_new' ho0 (Kd.R_lt (z2_ HO460.out))) (Kd.R_lt (z2_ HO463.out))) (Kd.R_lt (z2_ HO471.out))) (Kd.R_lt (z2_ HO474.out))) (below_size (z7_ HB.out GE452.out GE468.out))) (blkB_ BK452.out hb) (blkB_ BK468.out hb) (below_step (z7_ HB.out GE452.out GE468.out) hb) ?_;clear HO457 HO460 HO463 HO467 HO471 HO474 HO479 BK452 BK468 HB;intro HO457 HO460 HO463 HO467 HO471 HO474 HO479 HO483 BK452 BK468 HB;(try clear hb);(try clear ho0);obtain ⟨Ao57,co57,eo57⟩:=Kd.R_slice HO483.out;subst eo57) | ((with_reducible refine gc_ 9 ?_);refine gl_ (some 57) Tryd.func9 #[.slice Ao48 t469.length co48,.slice Ao57 t481.length co57] ?_;(with_reducible refine (laws_eqInt64S.calls k _ _ t469 _ _ t481 true _ ?s1 ?s2 ?s3 ?s4 A26.out).mono ?_);(case s1=>repeat (first | exact (Kd.R_reads' HO471.out).2.2 | (with_reducible refine Kd.C_alloc ?_ _) | (with_reducible refine Kd.C_drewN ?_ _) | (with_reducible refine Kd.C_drew ?_)));(case s2=>exact (Kd.R_reads' HO471.out).2.1);(case s3=>repeat (first | exact (Kd.R_reads' HO483.out).2.2 | (with_reducible refine Kd.C_alloc ?_ _) | (with_reducible refine Kd.C_drewN ?_ _) | (with_reducible refine Kd.C_drew ?_)));(case s4=>exact (Kd.R_reads' HO483.out).2.1);rintro e w' ⟨rfl,⟨nd,rfl⟩⟩;refine ⟨_,rfl,?_⟩;have ⟨hcz58_0,hcz58_1,hfz58_0,hfz58_1⟩:=cz2_ BK468.out) | ((with_reducible refine gc_ 11 ?_);refine gl_ (some 61) Tryd.func11 #[.agg #[.int .i64 t464,.slice Ao45 t465.length co45],.int .i64 1] ?_;(with_reducible refine (laws_markRing.calls k t464 (fun k_=>some k_=(.slice Ao45 t465.length co45:Value).ownBlock) (.slice Ao45 t465.length co45) t465 1 t485 t486 w _ ?s1 ?s2 A28.out).mono ?_);(case s1=>repeat (first | (with_reducible first | exact HB.out | apply below_alloc | apply pw_below_drewN | apply below_drew1 | refine below_set ?_ GE452.out | refine below_set ?_ GE468.out) | exact HB.out));(case s2=>exact Kd.R_tight rfl HO467.out);rintro e w59 ⟨rfl,hy0,hb,hkp⟩;refine ⟨_,rfl,?_⟩;refine as11_ (blk_kept (z3_ BK452.out) hkp (fun hs_=>(fun e_=>(Kd.R_ne HO467.out BK452.out (by decide)) e_) hs_)) (Kd.R_mono (ok':=fun k_=>some k_≠(.slice Ao45 t465.length co45:Value).ownBlock∧some k_≠(.slice Ao54 t477.length co54:Value).ownBlock) (Kd.R_keptB (HO457.out) hkp (fun k_ hk_ hs_=>(hk_.1.2) hs_)) (fun k_ hk_=>⟨hk_.1.1.2,hk_.1.2⟩)) (Kd.R_mono (ok':=fun k_=>some k_≠(.slice Ao51 t461.length co51:Value).ownBlock∧some k_≠(.slice Ao48 t469.length co48:Value).ownBlock∧some k_≠(.slice Ao50 t472.length co50:Value).ownBlock∧some k_≠(.slice Ao57 t481.length co57:Value).ownBlock) (Kd.R_keptB ((Kd.R_apart' HO460.out (Kd.R_typed HO467.out) (by decide))) hkp (fun k_ hk_ hs_=>(hk_.2) hs_)) (fun k_ hk_=>⟨hk_.1.1.1.1.1.2,hk_.1.1.1.1.2,hk_.1.1.1.2,hk_.1.1.2⟩)) (Kd.R_mono (ok':=fun k_=>some k_≠(.slice Ao38 t458.length co38:Value).ownBlock∧some k_≠(.slice Ao48 t469.length co48:Value).ownBlock∧some k_≠(.slice Ao50 t472.length co50:Value).ownBlock∧some k_≠(.slice Ao57 t481.length co57:Value).ownBlock) (Kd.R_keptB ((Kd.R_apart' HO463.out (Kd.R_typed HO467.out) (by decide))) hkp (fun k_ hk_ hs_=>(hk_.2) hs_)) (fun k_ hk_=>⟨hk_.1.1.1.1.1.2,hk_.1.1.1.1.2,hk_.1.1.1.2,hk_.1.1.2⟩)) (Kd.R_reok rfl hy0 (fun k_ e_=>HO467.out.1 k_ e_)) (blk_kept (z3_ BK468.out) hkp (fun hs_=>(fun e_=>(Kd.R_ne HO467.out BK468.out (by decide)) e_) hs_)) (Kd.R_mono (ok':=fun k_=>some k_≠(.slice Ao38 t458.length co38:Value).ownBlock∧some k_≠(.slice Ao51 t461.length co51:Value).ownBlock∧some k_≠(.slice Ao50 t472.length co50:Value).ownBlock∧some k_≠(.slice Ao57 t481.length co57:Value).ownBlock) (Kd.R_keptB ((Kd.R_apart' HO471.out (Kd.R_typed HO467.out) (by decide))) hkp (fun k_ hk_ hs_=>(hk_.2) hs_)) (fun k_ hk_=>⟨hk_.1.1.1.1.1.2,hk_.1.1.1.1.2,hk_.1.1.1.2,hk_.1.1.2⟩)) (Kd.R_mono (ok':=fun k_=>some k_≠(.slice Ao38 t458.length co38:Value).ownBlock∧some k_≠(.slice Ao51 t461.length co51:Value).ownBlock∧some k_≠(.slice Ao48 t469.length co48:Value).ownBlock∧some k_≠(.slice Ao57 t481.length co57:Value).ownBlock) (Kd.R_keptB ((Kd.R_apart' HO474.out (Kd.R_typed HO467.out) (by decide))) hkp (fun k_ hk_ hs_=>(hk_.2) hs_)) (fun k_ hk_=>⟨hk_.1.1.1.1.1.2,hk_.1.1.1.1.2,hk_.1.1.1.2,hk_.1.1.2⟩)) (Kd.R_mono (ok':=fun k_=>some k_≠(.slice Ao37 t455.length co37:Value).ownBlock∧some k_≠(.slice Ao45 t465.length co45:Value).ownBlock) (Kd.R_keptB (HO479.out) hkp (fun k_ hk_ hs_=>(hk_.2) hs_)) (fun k_ hk_=>⟨hk_.1.1.2,hk_.1.2⟩)) (Kd.R_mono (ok':=fun k_=>some k_≠(.slice Ao38 t458.length co38:Value).ownBlock∧some k_≠(.slice Ao51 t461.length co51:Value).ownBlock∧some k_≠(.slice Ao48 t469.length co48:Value).ownBlock∧some k_≠(.slice Ao50 t472.length co50:Value).ownBlock) (Kd.R_keptB ((Kd.R_apart' HO483.out (Kd.R_typed HO467.out) (by decide))) hkp (fun k_ hk_ hs_=>(hk_.2) hs_)) (fun k_ hk_=>⟨hk_.1.1.1.1.1.2,hk_.1.1.1.1.2,hk_.1.1.1.2,hk_.1.1.2⟩)) (hb) ?_;clear BK452 HO457 HO460 HO463 HO467 BK468 HO471 HO474 HO479 HO483 HB;intro BK452 HO457 HO460 HO463 HO467 BK468 HO471 HO474 HO479 HO483 HB;(try clear hb);(try clear hkp);(try clear hy0)) | ((with_reducible refine gc_ 12 ?_);refine gl_ (some 64) Tryd.func12 #[.slice Ao48 t469.length co48,.int .i64 t485] ?_;(with_reducible refine (laws_markInt64S.calls k (fun k_=>some k_=(.slice Ao48 t469.length co48:Value).ownBlock) (.slice Ao48 t469.length co48) t469 t485 t487 t488 w _ ?s1 ?s2 A29.out).mono ?_);(case s1=>repeat (first | (with_reducible first | exact HB.out | apply below_alloc | apply pw_below_drewN | apply below_drew1 | refine below_set ?_ GE452.out | refine below_set ?_ GE468.out) | exact HB.out));(case s2=>exact Kd.R_tight rfl HO471.out);rintro e w60 ⟨rfl,hy0,hb,hkp⟩;refine ⟨_,rfl,?_⟩;refine as11_ (blk_kept (z3_ BK452.out) hkp (fun hs_=>(fun e_=>(Kd.R_ne HO471.out BK452.out (by decide)) e_) hs_)) (Kd.R_mono (ok':=fun k_=>some k_≠(.slice Ao45 t465.length co45:Value).ownBlock∧some k_≠(.slice Ao54 t477.length co54:Value).ownBlock) (Kd.R_keptB ((Kd.R_apart' HO457.out (Kd.R_typed HO471.out) (by decide))) hkp (fun k_ hk_ hs_=>(hk_.2) hs_)) (fun k_ hk_=>⟨hk_.1.1.1,hk_.1.1.2⟩)) (Kd.R_mono (ok':=fun k_=>some k_≠(.slice Ao51 t461.length co51:Value).ownBlock∧some k_≠(.slice Ao48 t469.length co48:Value).ownBlock∧some k_≠(.slice Ao50 t472.length co50:Value).ownBlock∧some k_≠(.slice Ao57 t481.length co57:Value).ownBlock) (Kd.R_keptB (HO460.out) hkp (fun k_ hk_ hs_=>(hk_.2.1) hs_)) (fun k_ hk_=>⟨hk_.1.1,hk_.1.2.1,hk_.1.2.2.1,hk_.1.2.2.2⟩)) (Kd.R_mono (ok':=fun k_=>some k_≠(.slice Ao38 t458.length co38:Value).ownBlock∧some k_≠(.slice Ao48 t469.length co48:Value).ownBlock∧some k_≠(.slice Ao50 t472.length co50:Value).ownBlock∧some k_≠(.slice Ao57 t481.length co57:Value).ownBlock) (Kd.R_keptB (HO463.out) hkp (fun k_ hk_ hs_=>(hk_.2.1) hs_)) (fun k_ hk_=>⟨hk_.1.1,hk_.1.2.1,hk_.1.2.2.1,hk_.1.2.2.2⟩)) (Kd.R_mono (ok':=fun k_=>some k_≠(.slice Ao37 t455.length co37:Value).ownBlock∧some k_≠(.slice Ao54 t477.length co54:Value).ownBlock) (Kd.R_keptB ((Kd.R_apart' HO467.out (Kd.R_typed HO471.out) (by decide))) hkp (fun k_ hk_ hs_=>(hk_.2) hs_)) (fun k_ hk_=>⟨hk_.1.1.1.2,hk_.1.1.2⟩)) (blk_kept (z3_ BK468.out) hkp (fun hs_=>(fun e_=>(Kd.R_ne HO471.out BK468.out (by decide)) e_) hs_)) (Kd.R_reok rfl hy0 (fun k_ e_=>HO471.out.1 k_ e_)) (Kd.R_mono (ok':=fun k_=>some k_≠(.slice Ao38 t458.length co38:Value).ownBlock∧some k_≠(.slice Ao51 t461.length co51:Value).ownBlock∧some k_≠(.slice Ao48 t469.length co48:Value).ownBlock∧some k_≠(.slice Ao57 t481.length co57:Value).ownBlock) (Kd.R_keptB (HO474.out) hkp (fun k_ hk_ hs_=>(hk_.2.2.1) hs_)) (fun k_ hk_=>⟨hk_.1.1,hk_.1.2.1,hk_.1.2.2.1,hk_.1.2.2.2⟩)) (Kd.R_mono (ok':=fun k_=>some k_≠(.slice Ao37 t455.length co37:Value).ownBlock∧some k_≠(.slice Ao45 t465.length co45:Value).ownBlock) (Kd.R_keptB ((Kd.R_apart' HO479.out (Kd.R_typed HO471.out) (by decide))) hkp (fun k_ hk_ hs_=>(hk_.2) hs_)) (fun k_ hk_=>⟨hk_.1.1.1,hk_.1.1.2⟩)) (Kd.R_mono (ok':=fun k_=>some k_≠(.slice Ao38 t458.length co38:Value).ownBlock∧some k_≠(.slice Ao51 t461.length co51:Value).ownBlock∧some k_≠(.slice Ao48 t469.length co48:Value).ownBlock∧some k_≠(.slice Ao50 t472.length co50:Value).ownBlock) (Kd.R_keptB (HO483.out) hkp (fun k_ hk_ hs_=>(hk_.2.2.1) hs_)) (fun k_ hk_=>⟨hk_.1.1,hk_.1.2.1,hk_.1.2.2.1,hk_.1.2.2.2⟩)) (hb) ?_;clear BK452 HO457 HO460 HO463 HO467 BK468 HO471 HO474 HO479 HO483 HB;intro BK452 HO457 HO460 HO463 HO467 BK468 HO471 HO474 HO479 HO483 HB;(try clear hb);(try clear hkp);(try clear hy0)))
       (try simp only [Act.put,sa_,s0_,ss_])
       go_cut [72] (fun v72 wc=>∃ (kq:Nat) (x72_29:Bool),v72 = .bool x72_29∧Aside0 (laws_FnExactStandIns.j0 kq a1 a2 l3 t461 t472 x72_29 a0_0 l0_1=some r)∧Aside0 (kq≤k)∧Aside0 (Kd.R (Kd.int .i64) 2 wc w.heap.size (fun k_=>some k_≠((.slice Ao50 t472.length co50):Value).ownBlock) (.slice Ao51 t461.length co51) t461)∧Aside0 (Kd.R (Kd.int .i64) 2 wc w.heap.size (fun k_=>some k_≠((.slice Ao51 t461.length co51):Value).ownBlock) (.slice Ao50 t472.length co50) t472)∧Aside0 (Kd.R k59 59 wc w.heap.size (fun _=>True) (.slice Ao45 t465.length co45) t486)∧Aside0 (wc.heap[gb452]? = some (.cells #[.int .i64 a0_0,(.slice A0_1 l0_1.length c0_1)] 24 (0,0)))∧Aside0 (wc.heap[gb468]? = some (.cells #[.int .i64 t464,(.slice Ao45 t465.length co45)] 30 (0,0)))∧Aside0 (Below w.heap.size w wc))
       case first =>
        have H:=HC30.out
        clear HC30
        by_cases c61:t487<0
        ·rw [if_pos c61] at H
         have c61b0:decide (t487<0)=true:=decide_eq_true c61
         clear c61
         (first | rw [c61b0] | (simp only [i64_w,i32_w];rw [c61b0]) | skip)
         have H':=Aside0.mk H
         clear H
         go_wp2
         go_meet
         case rel=>exact ⟨_,(true),(z1_),H',⟨by first | omega | exact Nat.le_refl _⟩,⟨by (with_reducible repeat (first | apply Kd.R_alloc | apply Kd.R_drewN | apply Kd.R_drew));exact Kd.R_mono HO463.out (fun _ hk=>hk.2.2.1)⟩,⟨by (with_reducible repeat (first | apply Kd.R_alloc | apply Kd.R_drewN | apply Kd.R_drew));exact Kd.R_mono HO474.out (fun _ hk=>hk.2.1)⟩,⟨z34_ HO467.out⟩,⟨z3_ BK452.out⟩,⟨z3_ BK468.out⟩,⟨z7_ HB.out GE452.out GE468.out⟩⟩
        ·rw [if_neg c61] at H
         have c61b0:decide (t487<0)=false:=decide_eq_false c61
         clear c61
         (first | rw [c61b0] | (simp only [i64_w,i32_w];rw [c61b0]) | skip)
         replace H:=Option.bind_eq_some_iff.mp H
         obtain ⟨t489,A620,H⟩:=H
         replace H:(laws_FnExactStandIns.j0 k a1 a2 l3 t461 t472 (!t489) a0_0 l0_1)=some r:=H
         have A62:=Aside0.mk A620
         clear A620
         have H':=Aside0.mk H
         clear H
         go_wp2_with (first | (go_at_call 9;(with_reducible refine (laws_eqInt64S.calls k _ _ t472 _ _ t461 t489 _ ?s1 ?s2 ?s3 ?s4 A62.out).mono ?_);(case s1=>repeat (first | exact (Kd.R_reads' HO474.out).2.2 | (with_reducible refine Kd.C_alloc ?_ _) | (with_reducible refine Kd.C_drewN ?_ _) | (with_reducible refine Kd.C_drew ?_)));(case s2=>exact (Kd.R_reads' HO474.out).2.1);(case s3=>repeat (first | exact (Kd.R_reads' HO463.out).2.2 | (with_reducible refine Kd.C_alloc ?_ _) | (with_reducible refine Kd.C_drewN ?_ _) | (with_reducible refine Kd.C_drew ?_)));(case s4=>exact (Kd.R_reads' HO463.out).2.1);rintro e w' ⟨rfl,⟨nd,rfl⟩⟩))
         go_meet
         case rel=>exact ⟨_,(!t489),(z1_),H',⟨by first | omega | exact Nat.le_refl _⟩,⟨by (with_reducible repeat (first | apply Kd.R_alloc | apply Kd.R_drewN | apply Kd.R_drew));exact Kd.R_mono HO463.out (fun _ hk=>hk.2.2.1)⟩,⟨by (with_reducible repeat (first | apply Kd.R_alloc | apply Kd.R_drewN | apply Kd.R_drew));exact Kd.R_mono HO474.out (fun _ hk=>hk.2.1)⟩,⟨z34_ HO467.out⟩,⟨z3_ BK452.out⟩,⟨z3_ BK468.out⟩,⟨z7_ HB.out GE452.out GE468.out⟩⟩
       case rest =>
        clear HC30
        try clear c1
        try clear c2
        try clear p2
        try clear c3
        try clear c4
        try clear c5
        try clear c5b0
        try clear c5b1
        try clear c6
        try clear c7
        try clear c7b0
        try clear c7b1
        try clear c9
        try clear c10
        try clear c10b0
        try clear c11
        try clear c12
        try clear c14
        try clear c15
        try clear c16
        try clear c21
        try clear c24
        try clear c27
        try clear c43
        try clear c61
        try clear c61b0
        try clear hcz12_0
        try clear hcz12_1
        try clear hcz32_0
        try clear hcz32_1
        try clear hcz34_0
        try clear hcz34_1
        try clear hcz40_0
        try clear hcz40_1
        try clear hcz44_0
        try clear hcz44_1
        try clear hcz47_0
        try clear hcz47_1
        try clear hcz58_0
        try clear hcz58_1
        try clear hfz12_0
        try clear hfz12_1
        try clear hfz32_0
        try clear hfz32_1
        try clear hfz34_0
        try clear hfz34_1
        try clear hfz40_0
        try clear hfz40_1
        try clear hfz44_0
        try clear hfz44_1
        try clear hfz47_0
        try clear hfz47_1
        try clear hfz58_0
        try clear hfz58_1
        obtain ⟨kq,x72_29,rfl,HA,HJ29,HO_10,HO_13,HO_469001,BK452,BK468,HB⟩:=hcut
        have hl469001_29:=(Kd.R_reads' HO_469001.out).1
        rw [hl469001_29] at HO_469001
        (try simp only [hl469001_29])
        (try simp only [hl469001_29] at BK452)
        (try simp only [hl469001_29] at BK468)
        (try simp only [hl469001_29] at HO_10)
        (try simp only [hl469001_29] at HO_13)
        cases kq with
        | zero=>exact absurd HA.out (by simp [laws_FnExactStandIns.j0])
        | succ kj29 =>
         have H:=HA.out
         clear HA
         simp only [laws_FnExactStandIns.j0] at H
         by_cases c63:x72_29=true
         ·subst c63
          have H1:(none)=some r:=by rw [if_pos rfl] at H;exact H
          clear H
          have H:=H1
          clear H1
          exact absurd H (by simp)
         ·replace c63:=Bool.eq_false_iff.mpr c63
          subst c63
          have H1:((laws_markInt64S.f kj29 t472 1).bind fun bt490=>((laws_heldInt64S.f kj29 bt490.2 1).bind fun t492=>(if t492<0 then (none) else (if t492=bt490.1 then ((laws_toRing.f kj29 a0_0 l0_1).bind fun bt493=>((laws_toInt64S.f kj29 l3).bind fun t497=>((impl_StandIns.f kj29 bt493.1 bt493.2 a1 a2 t497).bind fun t500=>((laws_eqInt64S.f kj29 t500 t461).bind fun t503=>(if t503=true then ((laws_heldInt64S.f kj29 bt490.2 1).bind fun t504=>(if t504<0 then (none) else (if t504=bt490.1 then (some true) else (none)))) else (none)))))) else (none)))))=some r:=by rw [if_neg (show ¬ (false=true) by decide)] at H;exact H
          clear H
          have H:=H1
          clear H1
          replace H:=Option.bind_eq_some_iff.mp H
          obtain ⟨⟨t490,t491⟩,A640,H⟩:=H
          replace H:((laws_heldInt64S.f kj29 t491 1).bind fun t492=>(if t492<0 then (none) else (if t492=t490 then ((laws_toRing.f kj29 a0_0 l0_1).bind fun bt493=>((laws_toInt64S.f kj29 l3).bind fun t497=>((impl_StandIns.f kj29 bt493.1 bt493.2 a1 a2 t497).bind fun t500=>((laws_eqInt64S.f kj29 t500 t461).bind fun t503=>(if t503=true then ((laws_heldInt64S.f kj29 t491 1).bind fun t504=>(if t504<0 then (none) else (if t504=t490 then (some true) else (none)))) else (none)))))) else (none))))=some r:=H
          have A64:=Aside0.mk A640
          clear A640
          replace H:=Option.bind_eq_some_iff.mp H
          obtain ⟨t492,A650,H⟩:=H
          replace H:(if t492<0 then (none) else (if t492=t490 then ((laws_toRing.f kj29 a0_0 l0_1).bind fun bt493=>((laws_toInt64S.f kj29 l3).bind fun t497=>((impl_StandIns.f kj29 bt493.1 bt493.2 a1 a2 t497).bind fun t500=>((laws_eqInt64S.f kj29 t500 t461).bind fun t503=>(if t503=true then ((laws_heldInt64S.f kj29 t491 1).bind fun t504=>(if t504<0 then (none) else (if t504=t490 then (some true) else (none)))) else (none)))))) else (none)))=some r:=H
          have A65:=Aside0.mk A650
          clear A650
          by_cases c66:t492<0
          ·rw [if_pos c66] at H
           exact absurd H (by simp)
          ·rw [if_neg c66] at H
           have c66b0:decide (t492<0)=false:=decide_eq_false c66
           clear c66
           by_cases c67:t492=t490
           ·rw [if_pos c67] at H
            have c67b0:(t492 == t490)=true:=beq_iff_eq.mpr c67
            have c67b1:(t492 != t490)=false:=bne_eq_false_iff_eq.mpr c67
            clear c67
            replace H:=Option.bind_eq_some_iff.mp H
            obtain ⟨⟨t493,t494⟩,A680,H⟩:=H
            replace H:((laws_toInt64S.f kj29 l3).bind fun t497=>((impl_StandIns.f kj29 t493 t494 a1 a2 t497).bind fun t500=>((laws_eqInt64S.f kj29 t500 t461).bind fun t503=>(if t503=true then ((laws_heldInt64S.f kj29 t491 1).bind fun t504=>(if t504<0 then (none) else (if t504=t490 then (some true) else (none)))) else (none)))))=some r:=H
            have A68:=Aside0.mk A680
            clear A680
            replace H:=Option.bind_eq_some_iff.mp H
            obtain ⟨t497,A690,H⟩:=H
            replace H:((impl_StandIns.f kj29 t493 t494 a1 a2 t497).bind fun t500=>((laws_eqInt64S.f kj29 t500 t461).bind fun t503=>(if t503=true then ((laws_heldInt64S.f kj29 t491 1).bind fun t504=>(if t504<0 then (none) else (if t504=t490 then (some true) else (none)))) else (none))))=some r:=H
            have A69:=Aside0.mk A690
            clear A690
            replace H:=Option.bind_eq_some_iff.mp H
            obtain ⟨t500,A700,H⟩:=H
            replace H:((laws_eqInt64S.f kj29 t500 t461).bind fun t503=>(if t503=true then ((laws_heldInt64S.f kj29 t491 1).bind fun t504=>(if t504<0 then (none) else (if t504=t490 then (some true) else (none)))) else (none)))=some r:=H
            have A70:=Aside0.mk A700
            clear A700
            replace H:=Option.bind_eq_some_iff.mp H
            obtain ⟨t503,A710,H⟩:=H
            replace H:(if t503=true then ((laws_heldInt64S.f kj29 t491 1).bind fun t504=>(if t504<0 then (none) else (if t504=t490 then (some true) else (none)))) else (none))=some r:=H
            have A71:=Aside0.mk A710
            clear A710
            by_cases c72:t503=true
            ·subst c72
             have H1:((laws_heldInt64S.f kj29 t491 1).bind fun t504=>(if t504<0 then (none) else (if t504=t490 then (some true) else (none))))=some r:=by rw [if_pos rfl] at H;exact H
             clear H
             have H:=H1
             clear H1
             replace H:=Option.bind_eq_some_iff.mp H
             obtain ⟨t504,A730,H⟩:=H
             replace H:(if t504<0 then (none) else (if t504=t490 then (some true) else (none)))=some r:=H
             have A73:=Aside0.mk A730
             clear A730
             by_cases c74:t504<0
             ·rw [if_pos c74] at H
              exact absurd H (by simp)
             ·rw [if_neg c74] at H
              have c74b0:decide (t504<0)=false:=decide_eq_false c74
              clear c74
              by_cases c75:t504=t490
              ·rw [if_pos c75] at H
               have c75b0:(t504 == t490)=true:=beq_iff_eq.mpr c75
               have c75b1:(t504 != t490)=false:=bne_eq_false_iff_eq.mpr c75
               clear c75
               obtain rfl:=Option.some.inj H
               go_wp2_with (first | ((with_reducible refine gc_ 12 ?_);refine gl_ (some 75) Tryd.func12 #[.slice Ao50 t472.length co50,.int .i64 1] ?_;(with_reducible refine (laws_markInt64S.calls kj29 (fun k_=>some k_=(.slice Ao50 t472.length co50:Value).ownBlock) (.slice Ao50 t472.length co50) t472 1 t490 t491 w _ ?s1 ?s2 A64.out).mono ?_);(case s1=>repeat (first | (with_reducible first | exact HB.out | apply below_alloc | apply pw_below_drewN | apply below_drew1 | refine below_set ?_ GE452.out | refine below_set ?_ GE468.out) | exact HB.out));(case s2=>exact Kd.R_tight rfl HO_13.out);rintro e w76 ⟨rfl,hy0,hb,hkp⟩;refine ⟨_,rfl,?_⟩;refine as6_ (Kd.R_mono (ok':=fun k_=>some k_≠(.slice Ao50 t472.length co50:Value).ownBlock) (Kd.R_keptB (HO_10.out) hkp (fun k_ hk_ hs_=>(hk_) hs_)) (fun k_ hk_=>hk_.1)) (Kd.R_reok rfl hy0 (fun k_ e_=>HO_13.out.1 k_ e_)) (Kd.R_mono (ok':=fun k_=>True) (Kd.R_keptB ((Kd.R_apart' HO_469001.out (Kd.R_typed HO_13.out) (by decide))) hkp (fun k_ hk_ hs_=>(hk_.2) hs_)) (fun k_ hk_=>trivial)) (blk_kept (z3_ BK452.out) hkp (fun hs_=>(fun e_=>(Kd.R_ne HO_13.out BK452.out (by decide)) e_) hs_)) (blk_kept (z3_ BK468.out) hkp (fun hs_=>(fun e_=>(Kd.R_ne HO_13.out BK468.out (by decide)) e_) hs_)) (hb) ?_;clear HO_10 HO_13 HO_469001 BK452 BK468 HB;intro HO_10 HO_13 HO_469001 BK452 BK468 HB;(try clear hb);(try clear hkp);(try clear hy0)) | ((with_reducible refine gc_ 13 ?_);refine goesL_ (some 78) rfl rfl Tryd.func13 (by kernel_rfl) rfl #[.slice Ao50 t491.length co50,.int .i64 1] rfl (by (try simp only [List.map_toArray,List.map_cons,List.map_nil]);first | done | (rw [show t491.length=t472.length from (Kd.R_reads' HO_13.out).1.symm] <;> rfl) | rfl | (simp only [List.length_drop,List.length_take];rfl)) ?_;(with_reducible refine (laws_heldInt64S.calls kj29 _ _ t491 1 t492 _ ?s1 ?s2 A65.out).mono ?_);(case s1=>repeat (first | exact (Kd.R_reads' HO_13.out).2.2 | (with_reducible refine Kd.C_alloc ?_ _) | (with_reducible refine Kd.C_drewN ?_ _) | (with_reducible refine Kd.C_drew ?_)));(case s2=>rw [show t491.length=t472.length from (Kd.R_reads' HO_13.out).1.symm];exact (Kd.R_reads' HO_13.out).2.1);rintro e w' ⟨rfl,⟨nd,rfl⟩⟩;refine ⟨_,rfl,?_⟩;have hnb77:=NB452_468.out;have hnc77:=NB468_452.out;have ⟨hcz78_0,hcz78_1,hfz78_0,hfz78_1⟩:=cz2_ BK452.out) | ((with_reducible refine gc_ 7 ?_);refine gl_ (some 85) Tryd.func7 #[.agg #[.int .i64 a0_0,.slice A0_1 l0_1.length c0_1]] ?_;(with_reducible refine (laws_toRing.calls kj29 a0_0 _ _ l0_1 t493 t494 _ ?s1 ?s2 A68.out).mono ?_);(case s1=>repeat (first | exact (Kd.C_below HR0_1.out (z7_ HB.out GE452.out GE468.out)) | (with_reducible refine Kd.C_alloc ?_ _) | (with_reducible refine Kd.C_drewN ?_ _) | (with_reducible refine Kd.C_drew ?_)));(case s2=>exact HC0_1.out);rintro e w79 ⟨v495,rfl,ho0,hb⟩;refine ⟨_,rfl,?_⟩;refine as7_ (Kd.R_below (z2_ HO_10.out) hb) (Kd.R_below (z2_ HO_13.out) hb) (Kd.R_elder' (z2_ HO_469001.out) (Kd.R_base ho0) hb) (Kd.R_lower (Kd.R_new' ho0 (Kd.R_lt (z2_ HO_469001.out))) (below_size (z7_ HB.out GE452.out GE468.out))) (blkB_ BK452.out hb) (blkB_ BK468.out hb) (below_step (z7_ HB.out GE452.out GE468.out) hb) ?_;clear HO_10 HO_13 HO_469001 BK452 BK468 HB;intro HO_10 HO_13 HO_469001 HO496 BK452 BK468 HB;(try clear hb);(try clear ho0)) | ((with_reducible refine gc_ 15 ?_);refine gl_ (some 89) Tryd.func15 #[.slice A3 l3.length c3] ?_;(with_reducible refine (laws_toInt64S.calls kj29 _ _ l3 t497 _ ?s1 ?s2 A69.out).mono ?_);(case s1=>repeat (first | exact (Kd.C_below HR3.out HB.out) | (with_reducible refine Kd.C_alloc ?_ _) | (with_reducible refine Kd.C_drewN ?_ _) | (with_reducible refine Kd.C_drew ?_)));(case s2=>exact HC3.out);rintro e w80 ⟨v498,rfl,ho0,hb⟩;refine ⟨_,rfl,?_⟩;refine as8_ (Kd.R_elder' (z2_ HO_10.out) (Kd.R_base ho0) hb) (Kd.R_elder' (z2_ HO_13.out) (Kd.R_base ho0) hb) (Kd.R_below (z2_ HO_469001.out) hb) (Kd.R_below (z2_ HO496.out) hb) (Kd.R_lower (Kd.R_new' (Kd.R_new' ho0 (Kd.R_lt (z2_ HO_10.out))) (Kd.R_lt (z2_ HO_13.out))) (below_size (z7_ HB.out GE452.out GE468.out))) (blkB_ BK452.out hb) (blkB_ BK468.out hb) (below_step (z7_ HB.out GE452.out GE468.out) hb) ?_;clear HO_10 HO_13 HO_469001 HO496 BK452 BK468 HB;intro HO_10 HO_13 HO_469001 HO496 HO499 BK452 BK468 HB;(try clear hb);(try clear ho0);obtain ⟨Ao81,co81,eo81⟩:=Kd.R_slice HO496.out;subst eo81;obtain ⟨Ao82,co82,eo82⟩:=Kd.R_slice HO499.out;subst eo82) | ((with_reducible refine gc_ 16 ?_);refine gl_ (some 90) Tryd.func16 #[.agg #[.int .i64 t493,.slice Ao81 t494.length co81],.string a1,.int .i64 a2,.slice Ao82 t497.length co82] ?_;(with_reducible refine (impl_StandIns.calls kj29 t493 _ _ t494 a1 a2 _ _ t497 t500 _ ?s1 ?s2 ?s3 ?s4 A70.out).mono ?_);(case s1=>repeat (first | exact (Kd.R_reads' HO496.out).2.2 | (with_reducible refine Kd.C_alloc ?_ _) | (with_reducible refine Kd.C_drewN ?_ _) | (with_reducible refine Kd.C_drew ?_)));(case s2=>exact (Kd.R_reads' HO496.out).2.1);(case s3=>repeat (first | exact (Kd.R_reads' HO499.out).2.2 | (with_reducible refine Kd.C_alloc ?_ _) | (with_reducible refine Kd.C_drewN ?_ _) | (with_reducible refine Kd.C_drew ?_)));(case s4=>exact (Kd.R_reads' HO499.out).2.1);rintro e w83 ⟨v501,rfl,ho0,hb⟩;refine ⟨_,rfl,?_⟩;refine as9_ (Kd.R_elder' (z2_ HO_10.out) (Kd.R_base ho0) hb) (Kd.R_elder' (z2_ HO_13.out) (Kd.R_base ho0) hb) (Kd.R_below (z2_ HO_469001.out) hb) (Kd.R_below (z2_ HO496.out) hb) (Kd.R_elder' (z2_ HO499.out) (Kd.R_base ho0) hb) (Kd.R_lower (Kd.R_new' (Kd.R_new' (Kd.R_new' ho0 (Kd.R_lt (z2_ HO_10.out))) (Kd.R_lt (z2_ HO_13.out))) (Kd.R_lt (z2_ HO499.out))) (below_size (z7_ HB.out GE452.out GE468.out))) (blkB_ BK452.out hb) (blkB_ BK468.out hb) (below_step (z7_ HB.out GE452.out GE468.out) hb) ?_;clear HO_10 HO_13 HO_469001 HO496 HO499 BK452 BK468 HB;intro HO_10 HO_13 HO_469001 HO496 HO499 HO502 BK452 BK468 HB;(try clear hb);(try clear ho0);obtain ⟨Ao84,co84,eo84⟩:=Kd.R_slice HO502.out;subst eo84) | ((with_reducible refine gc_ 9 ?_);refine gl_ (some 93) Tryd.func9 #[.slice Ao84 t500.length co84,.slice Ao51 t461.length co51] ?_;(with_reducible refine (laws_eqInt64S.calls kj29 _ _ t500 _ _ t461 true _ ?s1 ?s2 ?s3 ?s4 A71.out).mono ?_);(case s1=>repeat (first | exact (Kd.R_reads' HO502.out).2.2 | (with_reducible refine Kd.C_alloc ?_ _) | (with_reducible refine Kd.C_drewN ?_ _) | (with_reducible refine Kd.C_drew ?_)));(case s2=>exact (Kd.R_reads' HO502.out).2.1);(case s3=>repeat (first | exact (Kd.R_reads' HO_10.out).2.2 | (with_reducible refine Kd.C_alloc ?_ _) | (with_reducible refine Kd.C_drewN ?_ _) | (with_reducible refine Kd.C_drew ?_)));(case s4=>exact (Kd.R_reads' HO_10.out).2.1);rintro e w' ⟨rfl,⟨nd,rfl⟩⟩;refine ⟨_,rfl,?_⟩) | ((with_reducible refine gc_ 13 ?_);refine goesL_ (some 97) rfl rfl Tryd.func13 (by kernel_rfl) rfl #[.slice Ao50 t491.length co50,.int .i64 1] rfl (by (try simp only [List.map_toArray,List.map_cons,List.map_nil]);first | done | (rw [show t491.length=t472.length from (Kd.R_reads' HO_13.out).1.symm] <;> rfl) | rfl | (simp only [List.length_drop,List.length_take];rfl)) ?_;(with_reducible refine (laws_heldInt64S.calls kj29 _ _ t491 1 t504 _ ?s1 ?s2 A73.out).mono ?_);(case s1=>repeat (first | exact (Kd.R_reads' HO_13.out).2.2 | (with_reducible refine Kd.C_alloc ?_ _) | (with_reducible refine Kd.C_drewN ?_ _) | (with_reducible refine Kd.C_drew ?_)));(case s2=>rw [show t491.length=t472.length from (Kd.R_reads' HO_13.out).1.symm];exact (Kd.R_reads' HO_13.out).2.1);rintro e w' ⟨rfl,⟨nd,rfl⟩⟩;refine ⟨_,rfl,?_⟩))
               go_ret
               exact ⟨z10_,z7_ HB.out GE452.out GE468.out⟩
              ·rw [if_neg c75] at H
               exact absurd H (by simp)
            ·replace c72:=Bool.eq_false_iff.mpr c72
             subst c72
             have H1:(none)=some r:=by rw [if_neg (show ¬ (false=true) by decide)] at H;exact H
             clear H
             have H:=H1
             clear H1
             exact absurd H (by simp)
           ·rw [if_neg c67] at H
            exact absurd H (by simp)
      ·replace c27:=Bool.eq_false_iff.mpr c27
       subst c27
       have H1:(none)=some r:=by rw [if_neg (show ¬ (false=true) by decide)] at H;exact H
       clear H
       have H:=H1
       clear H1
       exact absurd H (by simp)
     ·replace c24:=Bool.eq_false_iff.mpr c24
      subst c24
      have H1:(none)=some r:=by rw [if_neg (show ¬ (false=true) by decide)] at H;exact H
      clear H
      have H:=H1
      clear H1
      exact absurd H (by simp)
    ·replace c21:=Bool.eq_false_iff.mpr c21
     subst c21
     have H1:(none)=some r:=by rw [if_neg (show ¬ (false=true) by decide)] at H;exact H
     clear H
     have H:=H1
     clear H1
     exact absurd H (by simp)

end Go.Proofs.YtelanedlpedfcaaDoor.P

namespace Go.Proofs.YtelanedlpedfcaaDoor.P
open Go.RowKit Go.Proofs.YtelanedlpedfcaaDoor.RO
def laws_FnExactStandIns.Pure:Prop:=∀ (x0:S24) (x1:ByteArray) (x2:Int) (x3:List Int),wfT24 x0→x1.size≤140737488351232→(Lit.int .i64 x2).wf=true→(x3.length≤maxLen∧∀ y_ ∈ x3,(Lit.int .i64 y_).wf=true)→∃ k,laws_FnExactStandIns.f k x0.f0 x0.f1 x1 x2 x3=some true
end Go.Proofs.YtelanedlpedfcaaDoor.P

namespace Go.Proofs.YtelanedlpedfcaaDoor.Q
open Go.RowKit Go.Proofs.YtelanedlpedfcaaDoorW.PrintWords Go.Proofs.YtelanedlpedfcaaDoorW.PrintMore

theorem w64 {x:Int} (h0 : -9223372036854775808≤x) (h1:x≤9223372036854775807):wrap64 x=x:=by unfold wrap64;omega
theorem evIte {α:Type} {c:Prop} [Decidable c] {f g:Nat→Option α} {r:α} (h:c→Ev f r) (h':¬ c→Ev g r):Ev (fun k=>if c then f k else g k) r:=by
  by_cases hc:c
  · simp only [if_pos hc];exact h hc
  · simp only [if_neg hc];exact h' hc
theorem evPos {α:Type} {c:Prop} [Decidable c] {f g:Nat→Option α} {r:α} (hc:c) (h:Ev f r):Ev (fun k=>if c then f k else g k) r:=by
  simp only [if_pos hc];exact h
theorem evNeg {α:Type} {c:Prop} [Decidable c] {f g:Nat→Option α} {r:α} (hc:¬ c) (h:Ev g r):Ev (fun k=>if c then f k else g k) r:=by
  simp only [if_neg hc];exact h
theorem evBind1 {α β:Type} {g:Option α} {f:Nat→α→Option β} {a:α} {r:β} (h:g=some a) (k:Ev (fun n=>f n a) r):Ev (fun n=>g.bind (f n)) r:=by
  subst h;exact k
theorem dropCons {α:Type} {l:List α} {i:Nat} {a:α} {s:List α} (h:l.drop i=a :: s) (d:α):i<l.length∧l.getD i d=a∧l.drop (i+1)=s:=by
  have hl:i<l.length:=by
    have:=congrArg List.length h
    simp at this;omega
  rw [List.drop_eq_getElem_cons hl] at h
  injection h with h1 h2
  exact ⟨hl,by rw [List.getD_eq_getElem?_getD,List.getElem?_eq_getElem hl];exact h1,h2⟩
theorem dropNil {α:Type} {l:List α} {i:Nat} (h:l.drop i=[]):l.length≤i:=by
  have:=congrArg List.length h
  simp at this;omega
theorem dropNil' {α:Type} {l:List α} {i:Nat} (h:l.drop i=[]) (hi:i≤l.length):l.length=i:=by
  have:=dropNil h;omega
theorem wraps_i64 (n:Int) (h₀:0≤n) (h₁:n<2 ^ 63):IntKind.i64.wrap n=n:=by rw [IntKind.wrap_i64];omega
theorem getD_mid {α:Type} (pre:List α) (m:α) (s:List α) (d:α):(pre ++ m :: s).getD pre.length d=m:=by
  rw [List.getD_eq_getElem?_getD,List.getElem?_append_right (Nat.le_refl _),Nat.sub_self];rfl
theorem set_mid {α:Type} (pre:List α) (m x:α) (s:List α):(pre ++ m :: s).set pre.length x=pre ++ x :: s:=by
  rw [List.set_append_right _ _ (Nat.le_refl _),Nat.sub_self];rfl
end Go.Proofs.YtelanedlpedfcaaDoor.Q

namespace Go.Proofs.YtelanedlpedfcaaDoor.Q
open Go.RowKit Go.Proofs.YtelanedlpedfcaaDoor.P Go.Proofs.YtelanedlpedfcaaDoorW.PrintWords Go.Proofs.YtelanedlpedfcaaDoorW.PrintMore

def isWithin (n low high:Int):Bool:=decide (low≤n) && decide (n≤high)
def isNode (n:Int):Bool:=isWithin n 1 5
theorem l02Is_is (n a b:Int):spec_l02Is.f n a b=some (isWithin n a b):=by
  unfold spec_l02Is.f isWithin
  split
  · rename_i h;simp [show a≤n from h]
  · rename_i h;simp [show ¬ a≤n from h]
theorem l02Node_is (n:Int):spec_l02Node.f n=some (isNode n):=by simp [spec_l02Node.f,l02Is_is,isNode]
theorem within_is (n a b:Int):impl_within.f n a b=some (isWithin n a b):=by
  unfold impl_within.f isWithin
  split
  · rename_i h;simp [show a≤n from h]
  · rename_i h;simp [show ¬ a≤n from h]
theorem isNode_is (n:Int):impl_isNode.f n=some (isNode n):=by simp [impl_isNode.f,within_is,isNode]
theorem isNode_iff (n:Int):isNode n=true ↔ 1≤n∧n≤5:=by simp [isNode,isWithin]
end Go.Proofs.YtelanedlpedfcaaDoor.Q

namespace Go.Proofs.YtelanedlpedfcaaDoor.Q
open Go.RowKit Go.Proofs.YtelanedlpedfcaaDoor.P Go.Proofs.YtelanedlpedfcaaDoorW.PrintWords Go.Proofs.YtelanedlpedfcaaDoorW.PrintMore

abbrev Tok:=S59
abbrev LTok:=S64
def toTok (m:LTok):Tok:=⟨m.f0,m.f1⟩
theorem szTokenS_is (l:List LTok) (n:Int) (h0:0≤n) (h1:n≤1048576) (hl:l.length≤9223372036854775807) :
    laws_szTokenS.f l n=some (if n<(l.length:Int) then -1 else n-(l.length:Int)):=by
  unfold laws_szTokenS.f
  rw [w64 (by omega) (by omega)]
  split
  · rw [if_pos (by omega)]
  · rw [if_neg (by omega)]
theorem toTokenS_l0 (l:List LTok) (hl:l.length≤1048576):∀ (s:List LTok) (i:Nat),l.drop i=s→i≤l.length→∀ (acc:List Tok),acc.length=l.length→acc.take i=(l.take i).map toTok →
    Ev (fun k=>laws_toTokenS.l0 k l acc (i:Int)) (l.map toTok)
  | [],i,h,hi,acc,ha,hc=>by
    have:=dropNil' h hi
    refine Ev.step (f:=fun _=>some (l.map toTok)) (fun k=>?_) (Ev.now _)
    simp only [laws_toTokenS.l0]
    rw [if_neg (by omega)]
    rw [← this,List.take_of_length_le (by omega),List.take_length] at hc
    rw [hc]
  | m :: s,i,h,hi,acc,ha,hc=>by
    obtain ⟨h1,h2,h3⟩:=dropCons h z64
    have hr:rd_T64 l (i:Int)=m:=by simpa [rd_T64] using h2
    have hm:l[i]'h1=m:=by
      rw [List.getD_eq_getElem?_getD,List.getElem?_eq_getElem h1] at h2;exact h2
    refine Ev.step (fun k=>?_) (toTokenS_l0 l hl s (i+1) h3 (by omega) (acc.set i (toTok m)) (by simpa using ha) (by
      rw [List.take_succ_eq_append_getElem (by simp;omega),List.take_succ_eq_append_getElem h1,List.map_append,List.take_set_of_le (by omega),hc]
      simp [hm]))
    simp only [laws_toTokenS.l0,laws_toToken.f,hr,Option.bind_some,Int.toNat_natCast]
    rw [if_pos (by omega),if_pos (by omega),if_pos (by omega),w64 (by omega) (by omega)]
    rfl
theorem toTokenS_ev (l:List LTok) (hl:l.length≤1048576):Ev (fun k=>laws_toTokenS.f k l) (l.map toTok):=by
  unfold laws_toTokenS.f
  refine evPos (by omega) (evPos (by omega) ?_)
  exact toTokenS_l0 l hl l 0 rfl (by omega) _ (by simp) (by simp)
theorem eqToken_refl (a b:Int):laws_eqToken.f a b a b=some true:=by simp [laws_eqToken.f]
theorem eqTokenS_l0 (l:List Tok) (hl:l.length≤4611686018427387904):∀ (s:List Tok) (i:Nat),l.drop i=s→i≤l.length →
    Ev (fun k=>laws_eqTokenS.l0 k l l (i:Int)) true
  | [],i,h,hi=>by
    have:=dropNil' h hi
    refine Ev.step (f:=fun _=>some true) (fun k=>?_) (Ev.now _)
    simp only [laws_eqTokenS.l0]
    rw [if_neg (by omega)]
  | m :: s,i,h,hi=>by
    obtain ⟨h1,h2,h3⟩:=dropCons h z59
    refine Ev.step (fun k=>?_) (eqTokenS_l0 l hl s (i+1) h3 (by omega))
    simp only [laws_eqTokenS.l0,eqToken_refl,Option.bind_some]
    rw [if_pos (by omega),if_pos (by omega),if_pos (by omega),if_pos trivial,w64 (by omega) (by omega)]
    rfl
theorem eqTokenS_ev (l:List Tok) (hl:l.length≤4611686018427387904):Ev (fun k=>laws_eqTokenS.f k l l) true:=by
  unfold laws_eqTokenS.f
  exact evPos rfl (eqTokenS_l0 l hl l 0 rfl (by omega))
def tokL:Int→List Tok→List Tok
  | _,[]=>[]
  | n,_ :: r=>⟨n,n+1⟩ :: tokL (n+2) r
theorem markTokenS_l0 (N:Int) (hN:N≤1152921504606846976):∀ (s pre:List Tok) (n:Int),0≤n→n+2*(s.length:Int)≤N→(pre.length:Int)+s.length≤N →
    Ev (fun k=>laws_markTokenS.l0 k (pre ++ s) n (pre.length:Int)) (n+2*(s.length:Int),pre ++ tokL n s)
  | [],pre,n,h0,h1,h2=>by
    refine Ev.step (f:=fun _=>some (n,pre)) (fun k=>?_) (by simp [tokL];exact Ev.now _)
    simp only [laws_markTokenS.l0,List.append_nil]
    rw [if_neg (by omega)]
  | m :: s,pre,n,h0,h1,h2=>by
    simp only [List.length_cons] at h1 h2
    have ih:=markTokenS_l0 N hN s (pre ++ [⟨n,n+1⟩]) (n+2) (by omega) (by omega) (by simp;omega)
    simp only [List.length_append,List.length_cons,List.length_nil,List.append_assoc,List.cons_append,List.nil_append] at ih
    refine Ev.step (fun k=>?_) (show Ev _ (n+2*((m :: s).length:Int),pre ++ tokL n (m :: s)) from by
      simp only [tokL,List.length_cons]
      rw [show n+2*((s.length+1:Nat):Int)=n+2+2*(s.length:Int) from by omega]
      exact ih)
    simp only [laws_markTokenS.l0,Option.bind_some,Int.toNat_natCast,rd_T59,set_mid,getD_mid]
    rw [if_pos (by simp;omega),if_pos (by omega),w64 (x:=n+1) (by omega) (by omega),w64 (x:=n+1+1) (by omega) (by omega),w64 (x:=(pre.length:Int)+1) (by omega) (by omega),show n+1+1=n+2 from by omega]
    rfl
theorem markTokenS_ev (s:List Tok) (n:Int) (h0:0≤n) (h1:n+2*(s.length:Int)≤1152921504606846976):Ev (fun k=>laws_markTokenS.f k s n) (n+2*(s.length:Int),tokL n s) :=
  markTokenS_l0 1152921504606846976 (Int.le_refl _) s [] n h0 h1 (by simp;omega)
theorem eqRing_ev (n:Int) (l:List Tok) (hl:l.length≤4611686018427387904):Ev (fun k=>laws_eqRing.f k n l n l) true :=
  evPos rfl (Ev.bind (eqTokenS_ev l hl) (evPos rfl (Ev.now _)))
theorem markRing_ev (N:Int) (l:List Tok) (n:Int) (h0:0≤n) (h1:n+2*(l.length:Int)≤1152921504606846976):Ev (fun k=>laws_markRing.f k N l n) (n+2*(l.length:Int),tokL n l) :=
  Ev.bind (markTokenS_ev l n h0 h1) (Ev.now _)
theorem toRing_ev (n:Int) (l:List LTok) (hl:l.length≤1048576):Ev (fun k=>laws_toRing.f k n l) (n,l.map toTok):=Ev.bind (toTokenS_ev l hl) (Ev.now _)
end Go.Proofs.YtelanedlpedfcaaDoor.Q

namespace Go.Proofs.YtelanedlpedfcaaDoor.Q
open Go.RowKit Go.Proofs.YtelanedlpedfcaaDoor.P Go.Proofs.YtelanedlpedfcaaDoorW.PrintWords Go.Proofs.YtelanedlpedfcaaDoorW.PrintMore

theorem evMono {α:Type} {g:Nat→Option α} {r:α} (hm:∀ k,LeO (g k) (g (k+1))) (K:Nat) (h:g K=some r):Ev g r:=⟨K,fun k hk=>by
  obtain ⟨d,rfl⟩:=Nat.exists_eq_add_of_le hk
  induction d with
  | zero=>exact h
  | succ d ih=>exact hm _ _ (ih (by omega))⟩
def eqToks:List Tok→List Tok→Bool
  | [],[]=>true
  | x :: a,y :: b=>(x.f0 == y.f0 && x.f1 == y.f1) && eqToks a b
  | _,_=>false
theorem eqToks_eq:∀ a b:List Tok,eqToks a b=true→a=b
  | [],[],_=>rfl
  | x :: a,y :: b,h=>by
    simp only [eqToks,Bool.and_eq_true,beq_iff_eq] at h
    obtain ⟨⟨h1,h2⟩,h3⟩:=h
    obtain ⟨x0,x1⟩:=x
    obtain ⟨y0,y1⟩:=y
    simp only at h1 h2
    rw [h1,h2,eqToks_eq a b h3]
  | [],_ :: _,h=>by simp [eqToks] at h
  | _ :: _,[],h=>by simp [eqToks] at h
def ringRounds:Nat:=3000
def ringT (n e:Int):List Tok:=match spec_l04New.f ringRounds n e with
  | some x=>x.2
  | none=>[]
def ringTest (n e:Nat):Bool:=match impl_ringNew.f ringRounds (n:Int) (e:Int),spec_l04New.f ringRounds (n:Int) (e:Int) with
  | some x,some y=>x.1 == (n:Int) && (y.1 == (n:Int) && (eqToks x.2 y.2 && y.2.length == n*e))
  | _,_=>false
set_option maxRecDepth 1000000 in
theorem ring_all:(List.range 40).all (fun j=>ringTest (j / 8+1) (j % 8+1))=true:=by kernel_rfl
theorem ring_is {n e:Int} (hn:isNode n=true) (he:isWithin e 1 8=true) :
    Ev (fun k=>impl_ringNew.f k n e) (n,ringT n e)∧Ev (fun k=>spec_l04New.f k n e) (n,ringT n e)∧((ringT n e).length:Int)=n*e:=by
  rw [isNode_iff] at hn
  simp only [isWithin,Bool.and_eq_true,decide_eq_true_eq] at he
  obtain ⟨n,rfl⟩:=Int.eq_ofNat_of_zero_le (show 0≤n by omega)
  obtain ⟨e,rfl⟩:=Int.eq_ofNat_of_zero_le (show 0≤e by omega)
  have h:=List.all_eq_true.1 ring_all ((n-1)*8+(e-1)) (List.mem_range.2 (by omega))
  rw [show ((n-1)*8+(e-1)) / 8+1=n by omega,show ((n-1)*8+(e-1)) % 8+1=e by omega] at h
  unfold ringTest at h
  split at h
  · rename_i x y hx hy
    simp only [Bool.and_eq_true,beq_iff_eq] at h
    obtain ⟨h1,h2,h3,h4⟩:=h
    have h5:=eqToks_eq _ _ h3
    have ht:ringT (n:Int) (e:Int)=y.2:=by unfold ringT;rw [hy]
    obtain ⟨x1,x2⟩:=x
    obtain ⟨y1,y2⟩:=y
    simp only at h1 h2 h4 h5 ht
    clear h3
    subst h1
    subst h2
    subst h5
    rw [ht]
    refine ⟨evMono (fun k=>impl_ringNew.mono _ _ k) ringRounds hx,evMono (fun k=>spec_l04New.mono _ _ k) ringRounds hy,?_⟩
    rw [h4]
    simp
  · cases h
def ringOk (n:Int) (l:List Tok):Bool:=isNode n && (isWithin ((l.length:Int) / n) 1 8 && eqToks l (ringT n ((l.length:Int) / n)))
theorem tokNe (x y:Tok):(!(x.f0 == y.f0) || (!(x.f1 == y.f1)))=!(x.f0 == y.f0 && x.f1 == y.f1):=by
  cases x.f0 == y.f0 <;> cases x.f1 == y.f1 <;> rfl
theorem equal_l0 (l m:List Tok) (hl:l.length≤1048576) (hm:m.length=l.length):∀ (s t:List Tok) (i:Nat),l.drop i=s→m.drop i=t→i≤l.length →
    Ev (fun k=>slices_Equal_impl_Token_impl_Token.l0 k l m (l.length:Int) (i:Int)) (eqToks s t)
  | [],t,i,h,h',hi=>by
    have e:=dropNil' h hi
    have:t=[]:=by rw [← h',List.drop_eq_nil_of_le (by omega)]
    subst this
    refine Ev.step (f:=fun _=>some true) (fun k=>?_) (Ev.now _)
    simp only [slices_Equal_impl_Token_impl_Token.l0]
    rw [if_neg (by omega)]
  | x :: s,[],i,h,h',hi=>by
    have a:=(dropCons h z59).1
    have b:=dropNil h'
    omega
  | x :: s,y :: t,i,h,h',hi=>by
    obtain ⟨h1,h2,h3⟩:=dropCons h z59
    obtain ⟨g1,g2,g3⟩:=dropCons h' z59
    have hr:rd_T59 l (i:Int)=x:=by simpa [rd_T59] using h2
    have gr:rd_T59 m (i:Int)=y:=by simpa [rd_T59] using g2
    have ih:=equal_l0 l m hl hm s t (i+1) h3 g3 (by omega)
    refine Ev.step (fun k=>by simp only [slices_Equal_impl_Token_impl_Token.l0,hr,gr,tokNe];rw [if_pos (by omega),if_pos (by omega),if_pos (by omega),if_pos (by omega)]) ?_
    unfold eqToks
    cases x.f0 == y.f0 && x.f1 == y.f1 with
    | false=>exact evPos (by rfl) (Ev.now _)
    | true =>
      refine evNeg (by simp) ?_
      rw [w64 (by omega) (by omega)]
      exact ih
theorem eqToks_length:∀ a b:List Tok,a.length≠b.length→eqToks a b=false:=fun a b h=>by
  cases e:eqToks a b with
  | false=>rfl
  | true=>exact absurd (by rw [eqToks_eq a b e]) h
theorem Equal_ev (l m:List Tok) (hl:l.length≤1048576):Ev (fun k=>slices_Equal_impl_Token_impl_Token.f k l m) (eqToks l m):=by
  unfold slices_Equal_impl_Token_impl_Token.f
  refine evIte (fun h=>?_) (fun h=>?_)
  · exact equal_l0 l m hl (by omega) l m 0 rfl rfl (by omega)
  · rw [eqToks_length l m (by omega)]
    exact Ev.now _
theorem impl_RingRight_ev (n:Int) (l:List Tok) (hl:l.length≤1048576):Ev (fun k=>impl_RingRight.f k n l) (ringOk n l):=by
  unfold impl_RingRight.f ringOk
  refine evBind1 (isNode_is _) ?_
  cases hn:isNode n with
  | false=>exact evNeg (by simp) (Ev.now _)
  | true =>
    have hn':=(isNode_iff n).1 hn
    have hd:wrap64 ((l.length:Int) / n)=(l.length:Int) / n:=by
      have a:=Int.ediv_nonneg (show (0:Int)≤(l.length:Int) by omega) (show 0≤n by omega)
      have b:=Int.ediv_le_self n (show (0:Int)≤(l.length:Int) by omega)
      exact w64 (by omega) (by omega)
    rw [hd]
    refine evPos rfl (evNeg (by omega) (evBind1 (within_is _ _ _) ?_))
    cases he:isWithin ((l.length:Int) / n) 1 8 with
    | false=>exact evNeg (by simp) (Ev.now _)
    | true=>exact evPos rfl (Ev.bind (ring_is hn he).1 (Ev.bind (Equal_ev l _ hl) (Ev.now _)))
theorem specRight_l0 (n n':Int) (l m:List Tok) (hl:l.length≤1048576) (hm:m.length=l.length):∀ (s t:List Tok) (i:Nat),l.drop i=s→m.drop i=t→i≤l.length →
    Ev (fun k=>spec_RingRight.l0 k (i:Int) n l n' m) (eqToks s t)
  | [],t,i,h,h',hi=>by
    have e:=dropNil' h hi
    have:t=[]:=by rw [← h',List.drop_eq_nil_of_le (by omega)]
    subst this
    refine Ev.step (f:=fun _=>some true) (fun k=>?_) (Ev.now _)
    simp only [spec_RingRight.l0]
    rw [if_neg (by omega)]
  | x :: s,[],i,h,h',hi=>by
    have a:=(dropCons h z59).1
    have b:=dropNil h'
    omega
  | x :: s,y :: t,i,h,h',hi=>by
    obtain ⟨h1,h2,h3⟩:=dropCons h z59
    obtain ⟨g1,g2,g3⟩:=dropCons h' z59
    have hr:rd_T59 l (i:Int)=x:=by simpa [rd_T59] using h2
    have gr:rd_T59 m (i:Int)=y:=by simpa [rd_T59] using g2
    have ih:=specRight_l0 n n' l m hl hm s t (i+1) h3 g3 (by omega)
    refine Ev.step (fun k=>by simp only [spec_RingRight.l0,hr,gr,tokNe];rw [if_pos (by omega),if_pos (by omega),if_pos (by omega)]) ?_
    unfold eqToks
    cases x.f0 == y.f0 && x.f1 == y.f1 with
    | false=>exact evPos (by rfl) (Ev.now _)
    | true =>
      refine evNeg (by simp) ?_
      rw [w64 (by omega) (by omega)]
      exact ih
theorem spec_RingRight_ev (n:Int) (l:List Tok) (hl:l.length≤1048576):Ev (fun k=>spec_RingRight.f k n l) (ringOk n l):=by
  unfold spec_RingRight.f ringOk
  have jT:Ev (fun k=>spec_RingRight.j0 k true n l) false:=Ev.step (f:=fun _=>some false) (fun k=>by simp [spec_RingRight.j0]) (Ev.now _)
  refine evBind1 (l02Node_is _) ?_
  cases hn:isNode n with
  | false=>exact evNeg (by simp) jT
  | true =>
    have hn':=(isNode_iff n).1 hn
    have a:=Int.ediv_nonneg (show (0:Int)≤(l.length:Int) by omega) (show 0≤n by omega)
    have b:=Int.ediv_le_self n (show (0:Int)≤(l.length:Int) by omega)
    have hq:=Int.mul_ediv_add_emod (l.length:Int) n
    have hm0:=Int.emod_nonneg (l.length:Int) (show n≠0 by omega)
    have hm1:=Int.emod_lt_of_pos (l.length:Int) (show 0<n by omega)
    rw [w64 (x:=8*n) (by omega) (by omega)]
    -- where the lengths do not fit, the two are not the same
    have no:(isWithin ((l.length:Int) / n) 1 8 && eqToks l (ringT n ((l.length:Int) / n)))=true→1≤(l.length:Int)∧(l.length:Int)≤8*n∧(l.length:Int) % n=0:=by
      intro h
      simp only [Bool.and_eq_true] at h
      have hL:=(ring_is hn h.1).2.2
      rw [← eqToks_eq _ _ h.2] at hL
      have hw:=h.1
      simp only [isWithin,Bool.and_eq_true,decide_eq_true_eq] at hw
      have h8:n*((l.length:Int) / n)≤n*8:=Int.mul_le_mul_of_nonneg_left (by omega) (by omega)
      have h9:n*1≤n*((l.length:Int) / n):=Int.mul_le_mul_of_nonneg_left (by omega) (by omega)
      refine ⟨by omega,by omega,by omega⟩
    have fl:(¬ (1≤(l.length:Int)∧(l.length:Int)≤8*n∧(l.length:Int) % n=0))→(isWithin ((l.length:Int) / n) 1 8 && eqToks l (ringT n ((l.length:Int) / n)))=false:=fun h=>by
      cases e:(isWithin ((l.length:Int) / n) 1 8 && eqToks l (ringT n ((l.length:Int) / n))) with
      | false=>rfl
      | true=>exact absurd (no e) h
    refine evPos rfl ?_
    rw [Bool.true_and]
    by_cases c1:(l.length:Int)<1
    · rw [fl (by omega)];exact evPos c1 jT
    · refine evNeg c1 ?_
      by_cases c2:(l.length:Int)>8*n
      · rw [fl (by omega)];exact evPos c2 jT
      · refine evNeg c2 (evNeg (by omega) ?_)
        by_cases c3:(l.length:Int) % n=0
        · have e3:((l.length:Int) % n != 0)=false:=by simp [c3]
          rw [e3]
          have hlo:1≤(l.length:Int) / n:=by
            apply Int.not_lt.1
            intro hlt
            have:(l.length:Int) / n=0:=by omega
            rw [this] at hq
            omega
          have hhi:(l.length:Int) / n≤8:=by
            apply Int.not_lt.1
            intro hlt
            have:n*9≤n*((l.length:Int) / n):=Int.mul_le_mul_of_nonneg_left (by omega) (by omega)
            omega
          have he:isWithin ((l.length:Int) / n) 1 8=true:=by simp only [isWithin,Bool.and_eq_true,decide_eq_true_eq];omega
          have hL:=(ring_is hn he).2.2
          rw [he,Bool.true_and]
          refine Ev.step (fun k=>by simp only [spec_RingRight.j0];rw [if_neg (by simp),if_neg (by omega),w64 (x:=(l.length:Int) / n) (by omega) (by omega)]) (Ev.bind (ring_is hn he).2.1 ?_)
          exact specRight_l0 n n l (ringT n ((l.length:Int) / n)) hl (by omega) l _ 0 rfl rfl (by omega)
        · have e3:((l.length:Int) % n != 0)=true:=by simp [c3]
          rw [e3,fl (by omega)]
          exact jT
theorem szRing_is (a:Int) (l:List LTok) (n:Int) (h0:0≤n) (h1:n≤1048576) (hl:l.length≤9223372036854775807):laws_szRing.f a l n=some (if n<(l.length:Int) then -1 else n-(l.length:Int)):=by
  unfold laws_szRing.f
  rw [szTokenS_is l n h0 h1 hl,Option.bind_some]
  by_cases h:n<(l.length:Int)
  · rw [if_pos h];rfl
  · rw [if_neg h,if_neg (by omega)]
end Go.Proofs.YtelanedlpedfcaaDoor.Q

namespace Go.Proofs.YtelanedlpedfcaaDoor.Q
open Go.RowKit Go.Proofs.YtelanedlpedfcaaDoor.P Go.Proofs.YtelanedlpedfcaaDoorW.PrintWords Go.Proofs.YtelanedlpedfcaaDoorW.PrintMore

def firstLong:List ByteArray→Int→Int
  | [],_ => -1
  | a :: s,i=>if 8000<a.size then i else firstLong s (i+1)
theorem firstLong_any:∀ (s:List ByteArray) (i:Int),0≤i→decide (firstLong s i≥0)=s.any fun a=>decide (8000<a.size)
  | [],i,h=>by simp [firstLong]
  | a :: s,i,h=>by
    have ih:=firstLong_any s (i+1) (by omega)
    by_cases ha:8000<a.size
    · simp [firstLong,ha,h]
    · rw [firstLong,if_neg ha,ih,List.any_cons]
      simp [ha]
theorem isLong_l0 (l:List ByteArray) (hl:l.length≤4611686018427387904):∀ (s:List ByteArray) (i:Nat),l.drop i=s→i≤l.length →
    Ev (fun k=>slices_IndexFunc_string_string_impl_isLong_1.l0 k l (l.length:Int) (i:Int)) (firstLong s i)
  | [],i,h,hi=>by
    have:=dropNil' h hi
    refine Ev.step (f:=fun _=>some (-1)) (fun k=>?_) (Ev.now _)
    simp only [slices_IndexFunc_string_string_impl_isLong_1.l0]
    rw [if_neg (by omega)]
  | a :: s,i,h,hi=>by
    obtain ⟨h1,h2,h3⟩:=dropCons h ByteArray.empty
    have ih:=isLong_l0 l hl s (i+1) h3 (by omega)
    by_cases ha:8000<a.size
    · refine Ev.step (f:=fun _=>some (firstLong (a :: s) i)) (fun k=>?_) (Ev.now _)
      simp only [slices_IndexFunc_string_string_impl_isLong_1.l0,impl_isLong_1.f,rdOf,Int.toNat_natCast,h2]
      rw [if_pos (by omega),if_pos (by omega),if_pos (by omega)]
      simp [firstLong,ha]
      omega
    · refine Ev.step (fun k=>?_) (show Ev _ (firstLong (a :: s) i) from by simp only [firstLong,if_neg ha];exact ih)
      simp only [slices_IndexFunc_string_string_impl_isLong_1.l0,impl_isLong_1.f,rdOf,Int.toNat_natCast,h2]
      rw [if_pos (by omega),if_pos (by omega),if_pos (by omega),w64 (by omega) (by omega)]
      have:¬ ((a.size:Int)>8000):=by omega
      simp [this]
theorem isLong_ev (l:List ByteArray) (hl:l.length≤4611686018427387904):Ev (fun k=>impl_isLong.f k l) (l.any fun a=>decide (8000<a.size)):=by
  unfold impl_isLong.f slices_ContainsFunc_string_string_impl_isLong_1.f slices_IndexFunc_string_string_impl_isLong_1.f
  have h:=isLong_l0 l hl l 0 rfl (by omega)
  refine Ev.bind (Ev.bind h (Ev.now _)) ?_
  have e:=firstLong_any l 0 (by omega)
  rw [show ((0:Nat):Int)=0 from rfl,e]
  exact Ev.now _
theorem isLong1_ev (a:ByteArray):Ev (fun k=>impl_isLong.f k ([a]:List ByteArray)) (decide (8000<a.size)):=by
  have:=isLong_ev [a] (by simp)
  simpa using this
end Go.Proofs.YtelanedlpedfcaaDoor.Q

namespace Go.Proofs.YtelanedlpedfcaaDoor.Q
open Go.RowKit Go.Proofs.YtelanedlpedfcaaDoor.P Go.Proofs.YtelanedlpedfcaaDoorW.PrintWords Go.Proofs.YtelanedlpedfcaaDoorW.PrintMore

def lowCh (c:Int):Bool:=decide (97≤c) && decide (c≤122)
def nameCh (c:Int):Bool:=lowCh c || (decide (48≤c) && decide (c≤57)) || decide (c=95)
def nameList:List Int→Bool
  | []=>false
  | c :: r=>lowCh c && r.all nameCh
def nameOk (s:ByteArray):Bool:=decide (s.size≤20) && nameList (bytesOf s)
theorem bt_of {s:ByteArray} {i:Nat} {c:Int} (h:(bytesOf s).getD i 0=c):bt s (i:Int)=c:=by
  rw [← rd_bytesOf];simpa [rd] using h
theorem spec_name_round (s:ByteArray) (k i:Nat) (hi:i<s.size) (h1:1≤i) (hs:s.size≤1048576) :
    spec_NameRight.l0 (k+1) s (i:Int)=if nameCh (bt s i) then spec_NameRight.l0 k s ((i+1:Nat):Int) else some false:=by
  simp only [spec_NameRight.l0]
  rw [if_pos (by omega),if_pos (by omega),w64 (by omega) (by omega)]
  have h0:¬ ((i:Int)=0):=by omega
  simp only [if_neg h0,nameCh,lowCh]
  generalize bt s i=c
  by_cases h1:97≤c <;> by_cases h2:c≤122 <;> by_cases h3:48≤c <;> by_cases h4:c≤57 <;> by_cases h5:c=95 <;> first | (exfalso;omega) | simp [ge_iff_le,h1,h2,h3,h4,h5]
theorem spec_name_first (s:ByteArray) (k:Nat) (hi:0<s.size) (hs:s.size≤1048576) :
    spec_NameRight.l0 (k+1) s 0=if lowCh (bt s 0) then spec_NameRight.l0 k s 1 else some false:=by
  simp only [spec_NameRight.l0]
  rw [if_pos (by omega),if_pos (by omega),w64 (by omega) (by omega)]
  simp only [if_true,lowCh,Int.zero_add]
  generalize bt s 0=c
  by_cases h1:97≤c <;> by_cases h2:c≤122 <;> first | (exfalso;omega) | simp [ge_iff_le,h1,h2]
theorem spec_name_l0 (s:ByteArray) (hs:s.size≤1048576):∀ (r:List Int) (i:Nat),(bytesOf s).drop i=r→i≤s.size→1≤i→Ev (fun k=>spec_NameRight.l0 k s (i:Int)) (r.all nameCh)
  | [],i,h,hi,h1=>by
    have:=dropNil h
    rw [bytesOf_length] at this
    refine Ev.step (f:=fun _=>some true) (fun k=>?_) (Ev.now _)
    simp only [spec_NameRight.l0]
    rw [if_neg (by omega)]
  | c :: r,i,h,hi,h1=>by
    obtain ⟨g1,g2,g3⟩:=dropCons h 0
    rw [bytesOf_length] at g1
    have hb:=bt_of g2
    refine Ev.step (fun k=>spec_name_round s k i g1 h1 hs) ?_
    rw [hb]
    refine evIte (fun hc=>?_) (fun hc=>?_)
    · simp only [List.all_cons,hc,Bool.true_and];exact spec_name_l0 s hs r (i+1) g3 (by omega) (by omega)
    · simp only [List.all_cons,Bool.eq_false_iff.mpr hc,Bool.false_and];exact Ev.now _
theorem spec_NameRight_ev (s:ByteArray) (hs:s.size≤1048576):Ev (fun k=>spec_NameRight.f k s) (nameOk s):=by
  have hl:=bytesOf_length s
  unfold spec_NameRight.f nameOk
  refine evIte (fun h=>?_) (fun h=>?_)
  · refine Ev.step (f:=fun _=>some false) (fun k=>by simp only [spec_NameRight.j0];rw [if_pos trivial]) ?_
    have:bytesOf s=[]:=by rw [← List.length_eq_zero_iff,hl];omega
    simp only [this,nameList,Bool.and_false]
    exact Ev.now _
  · by_cases h20:(s.size:Int)>20
    · refine Ev.step (f:=fun _=>some false) (fun k=>by simp only [spec_NameRight.j0];rw [if_pos (by simpa using h20)]) ?_
      have:¬ s.size≤20:=by omega
      simp only [this,decide_false,Bool.false_and]
      exact Ev.now _
    · refine Ev.step (fun k=>by simp only [spec_NameRight.j0];rw [if_neg (by simpa using h20)]) ?_
      have h20':s.size≤20:=by omega
      simp only [h20',decide_true,Bool.true_and]
      cases hb:bytesOf s with
      | nil=>rw [hb] at hl;simp at hl;omega
      | cons c r =>
        have hc:bt s ((0:Nat):Int)=c:=bt_of (by rw [hb];rfl)
        refine Ev.step (fun k=>spec_name_first s k (by omega) hs) ?_
        rw [show (0:Int)=((0:Nat):Int) from rfl,hc]
        refine evIte (fun h1=>?_) (fun h1=>?_)
        · simp only [nameList,h1,Bool.true_and]
          exact spec_name_l0 s hs r 1 (by rw [hb];rfl) (by omega) (by omega)
        · simp only [nameList,Bool.eq_false_iff.mpr h1,Bool.false_and];exact Ev.now _
theorem impl_name_round (s:ByteArray) (k i:Nat) (hi:i<s.size) (hs:s.size≤140737488351232) :
    impl_NameRight.l0 (k+1) s (s.size:Int) (i:Int)=if nameCh (bt s i) then impl_NameRight.l0 k s (s.size:Int) ((i+1:Nat):Int) else some false:=by
  simp only [impl_NameRight.l0]
  rw [if_pos (by omega),if_pos (by omega),if_pos (by omega),w64 (by omega) (by omega)]
  simp only [nameCh,lowCh]
  generalize bt s i=c
  by_cases h1:97≤c <;> by_cases h2:c≤122 <;> by_cases h3:48≤c <;> by_cases h4:c≤57 <;> by_cases h5:c=95 <;> first | (exfalso;omega) | simp [ge_iff_le,h1,h2,h3,h4,h5]
theorem impl_name_l0 (s:ByteArray) (hs:s.size≤140737488351232):∀ (r:List Int) (i:Nat),(bytesOf s).drop i=r→i≤s.size→Ev (fun k=>impl_NameRight.l0 k s (s.size:Int) (i:Int)) (r.all nameCh)
  | [],i,h,hi=>by
    have:=dropNil h
    rw [bytesOf_length] at this
    refine Ev.step (f:=fun _=>some true) (fun k=>?_) (Ev.now _)
    simp only [impl_NameRight.l0]
    rw [if_neg (by omega)]
  | c :: r,i,h,hi=>by
    obtain ⟨g1,g2,g3⟩:=dropCons h 0
    rw [bytesOf_length] at g1
    have hb:=bt_of g2
    refine Ev.step (fun k=>impl_name_round s k i g1 hs) ?_
    rw [hb]
    refine evIte (fun hc=>?_) (fun hc=>?_)
    · simp only [List.all_cons,hc,Bool.true_and];exact impl_name_l0 s hs r (i+1) g3 (by omega)
    · simp only [List.all_cons,Bool.eq_false_iff.mpr hc,Bool.false_and];exact Ev.now _
theorem low_name {c:Int} (h:lowCh c=true):nameCh c=true:=by simp [nameCh,h]
theorem impl_NameRight_ev (s:ByteArray) (hs:s.size≤140737488351232):Ev (fun k=>impl_NameRight.f k s) (nameOk s):=by
  have hl:=bytesOf_length s
  unfold impl_NameRight.f nameOk impl_size.f
  refine evBind1 rfl (evBind1 (within_is _ _ _) ?_)
  refine evIte (fun h=>?_) (fun h=>?_)
  · have hw:1≤(s.size:Int)∧(s.size:Int)≤20:=by simpa [isWithin] using h
    refine evPos (by omega) ?_
    have h20':s.size≤20:=by omega
    simp only [h20',decide_true,Bool.true_and]
    cases hb:bytesOf s with
    | nil=>rw [hb] at hl;simp at hl;omega
    | cons c r =>
      have hc:bt s ((0:Nat):Int)=c:=bt_of (by rw [hb];rfl)
      have hc':bt s 0=c:=hc
      rw [hc']
      refine evIte (fun h1=>?_) (fun h1=>?_)
      · refine Ev.step (f:=fun _=>some false) (fun k=>by simp only [impl_NameRight.j0];rw [if_pos trivial]) ?_
        have:lowCh c=false:=by simp [lowCh];omega
        simp only [nameList,this,Bool.false_and];exact Ev.now _
      · by_cases h2:c>122
        · refine Ev.step (f:=fun _=>some false) (fun k=>by simp only [impl_NameRight.j0];rw [if_pos (by simpa using h2)]) ?_
          have:lowCh c=false:=by simp [lowCh];omega
          simp only [nameList,this,Bool.false_and];exact Ev.now _
        · refine Ev.step (fun k=>by simp only [impl_NameRight.j0];rw [if_neg (by simpa using h2)]) ?_
          have hlow:lowCh c=true:=by simp [lowCh];omega
          simp only [nameList,hlow,Bool.true_and]
          have:=impl_name_l0 s hs (c :: r) 0 (by rw [hb];rfl) (by omega)
          simpa [low_name hlow] using this
  · refine Ev.step (f:=fun _=>some false) (fun k=>by simp only [impl_NameRight.j0];rw [if_pos trivial]) ?_
    have hw:isWithin (s.size:Int) 1 20=false:=by simpa using h
    have:(decide (s.size≤20) && nameList (bytesOf s))=false:=by
      by_cases h20:s.size≤20
      · have:bytesOf s=[]:=by
          rw [← List.length_eq_zero_iff,hl]
          simp [isWithin] at hw;omega
        simp [this,nameList]
      · simp [h20]
    rw [this]
    exact Ev.now _
end Go.Proofs.YtelanedlpedfcaaDoor.Q

namespace Go.Proofs.YtelanedlpedfcaaDoor.Q
open Go.RowKit Go.Proofs.YtelanedlpedfcaaDoor.P Go.Proofs.YtelanedlpedfcaaDoorW.PrintWords Go.Proofs.YtelanedlpedfcaaDoorW.PrintMore

theorem bits_xor_nat (k:IntKind) (j:Nat) (hj:j≤k.bits) (hk:∀ n:Int,0≤n→n<2 ^ j→k.wrap n=n) (a b:Nat) (ha:a<2 ^ j) (hb:b<2 ^ j):bits .xor k a b=((a ^^^ b:Nat):Int):=by
  have hp:2 ^ j≤2 ^ k.bits:=Nat.pow_le_pow_right (by decide) hj
  have ha':a % 2 ^ k.bits=a:=Nat.mod_eq_of_lt (Nat.lt_of_lt_of_le ha hp)
  have hb':b % 2 ^ k.bits=b:=Nat.mod_eq_of_lt (Nat.lt_of_lt_of_le hb hp)
  simp only [bits,BitVec.ofInt_natCast,BitVec.toNat_xor,BitVec.toNat_ofNat,ha',hb']
  exact hk _ (Int.natCast_nonneg _) (by exact_mod_cast Nat.xor_lt_two_pow ha hb)
theorem wraps_u32 (n:Int) (h₀:0≤n) (h₁:n<2 ^ 32):IntKind.u32.wrap n=n:=by rw [IntKind.wrap_u32];omega
theorem xor_range (a b:Int) (ha:0≤a) (ha':a<4294967296) (hb:0≤b) (hb':b<256) :
    Go.bits .xor .i64 a b=Go.bits .xor .u32 a b∧0≤Go.bits .xor .u32 a b∧Go.bits .xor .u32 a b<4294967296:=by
  obtain ⟨m,rfl⟩:=Int.eq_ofNat_of_zero_le ha
  obtain ⟨n,rfl⟩:=Int.eq_ofNat_of_zero_le hb
  have hm:m<2 ^ 32:=by omega
  have hn:n<2 ^ 32:=by omega
  have e1:=bits_xor_nat .u32 32 (by decide) wraps_u32 m n hm hn
  have e2:=bits_xor_nat .i64 63 (by decide) wraps_i64 m n (by omega) (by omega)
  have h:=Nat.xor_lt_two_pow hm hn
  rw [e1,e2]
  refine ⟨rfl,by omega,by omega⟩
def fnvStep (x b:Int):Int:=(Go.bits .xor .u32 x b*16777619) % 4294967296
def fnv (s:ByteArray):Int:=(bytesOf s).foldl fnvStep 2166136261
theorem fnvStep_range (x b:Int):0≤fnvStep x b∧fnvStep x b<4294967296:=by unfold fnvStep;omega
theorem spec_fnv_l0 (s:ByteArray) (hs:s.size≤140737488351232):∀ (r:List Int) (i:Nat),(bytesOf s).drop i=r→i≤s.size→∀ x:Int,0≤x→x<4294967296→Ev (fun k=>spec_l04Fnv.l0 k s x (i:Int)) (r.foldl fnvStep x)
  | [],i,h,hi,x,h0,h1=>by
    have:=dropNil h
    rw [bytesOf_length] at this
    refine Ev.step (f:=fun _=>some x) (fun k=>?_) (Ev.now _)
    simp only [spec_l04Fnv.l0]
    rw [if_neg (by omega)]
  | c :: r,i,h,hi,x,h0,h1=>by
    obtain ⟨g1,g2,g3⟩:=dropCons h 0
    rw [bytesOf_length] at g1
    have hb:=bt_of g2
    have hr:=bt_range s (i:Int)
    rw [hb] at hr
    have hx:=xor_range x c h0 h1 hr.1 (by omega)
    have hq:=fnvStep_range x c
    refine Ev.step (fun k=>?_) (spec_fnv_l0 s hs r (i+1) g3 (by omega) (fnvStep x c) hq.1 hq.2)
    simp only [spec_l04Fnv.l0,hb]
    rw [if_pos (by omega),if_pos (by omega),w64 (x:=c) (by omega) (by omega),hx.1,w64 (x:=_*16777619) (by omega) (by omega),w64 (by omega) (by omega),Int.tmod_eq_emod_of_nonneg (by omega)]
    rfl
theorem impl_fnv_l0 (s:ByteArray) (hs:s.size≤140737488351232):∀ (r:List Int) (i:Nat),(bytesOf s).drop i=r→i≤s.size→∀ x:Int,0≤x→x<4294967296→Ev (fun k=>impl_fnv.l0 k s x (s.size:Int) (i:Int)) (r.foldl fnvStep x)
  | [],i,h,hi,x,h0,h1=>by
    have:=dropNil h
    rw [bytesOf_length] at this
    refine Ev.step (f:=fun _=>some x) (fun k=>?_) (Ev.now _)
    simp only [impl_fnv.l0]
    rw [if_neg (by omega),w64 (by omega) (by omega)]
  | c :: r,i,h,hi,x,h0,h1=>by
    obtain ⟨g1,g2,g3⟩:=dropCons h 0
    rw [bytesOf_length] at g1
    have hb:=bt_of g2
    have hr:=bt_range s (i:Int)
    rw [hb] at hr
    have hq:=fnvStep_range x c
    refine Ev.step (fun k=>?_) (impl_fnv_l0 s hs r (i+1) g3 (by omega) (fnvStep x c) hq.1 hq.2)
    simp only [impl_fnv.l0,hb]
    rw [if_pos (by omega),if_pos (by omega),if_pos (by omega),show c % 4294967296=c from by omega,w64 (by omega) (by omega)]
    rfl
theorem spec_l04Fnv_ev (s:ByteArray) (hs:s.size≤140737488351232):Ev (fun k=>spec_l04Fnv.f k s) (fnv s):=spec_fnv_l0 s hs _ 0 rfl (by omega) _ (by omega) (by omega)
theorem impl_fnv_ev (s:ByteArray) (hs:s.size≤140737488351232):Ev (fun k=>impl_fnv.f k s) (fnv s):=impl_fnv_l0 s hs _ 0 rfl (by omega) _ (by omega) (by omega)
end Go.Proofs.YtelanedlpedfcaaDoor.Q

namespace Go.Proofs.YtelanedlpedfcaaDoor.Q
open Go.RowKit Go.Proofs.YtelanedlpedfcaaDoor.P Go.Proofs.YtelanedlpedfcaaDoorW.PrintWords Go.Proofs.YtelanedlpedfcaaDoorW.PrintMore

theorem rd_of {l:List Int} {i:Nat} {m:Int} (h:l.getD i 0=m):rd l (i:Int)=m:=by simpa [rd] using h
theorem toInt64S_l0 (l:List Int) (hl:l.length≤1048576):∀ (s:List Int) (i:Nat),l.drop i=s→i≤l.length→∀ (acc:List Int),acc.length=l.length→acc.take i=l.take i →
    Ev (fun k=>laws_toInt64S.l0 k l acc (i:Int)) l
  | [],i,h,hi,acc,ha,hc=>by
    have:=dropNil' h hi
    refine Ev.step (f:=fun _=>some l) (fun k=>?_) (Ev.now _)
    simp only [laws_toInt64S.l0]
    rw [if_neg (by omega)]
    rw [← this,List.take_of_length_le (by omega),List.take_length] at hc
    rw [hc]
  | m :: s,i,h,hi,acc,ha,hc=>by
    obtain ⟨h1,h2,h3⟩:=dropCons h 0
    have hr:=rd_of h2
    have hm:l[i]'h1=m:=by
      rw [List.getD_eq_getElem?_getD,List.getElem?_eq_getElem h1] at h2;exact h2
    refine Ev.step (fun k=>?_) (toInt64S_l0 l hl s (i+1) h3 (by omega) (acc.set i m) (by simpa using ha) (by
      rw [List.take_succ_eq_append_getElem (by simp;omega),List.take_succ_eq_append_getElem h1,List.take_set_of_le (by omega),hc]
      simp [hm]))
    simp only [laws_toInt64S.l0,hr,Int.toNat_natCast]
    rw [if_pos (by omega),if_pos (by omega),if_pos (by omega),w64 (by omega) (by omega)]
    rfl
theorem toInt64S_ev (l:List Int) (hl:l.length≤1048576):Ev (fun k=>laws_toInt64S.f k l) l:=by
  unfold laws_toInt64S.f
  refine evPos (by omega) (evPos (by omega) ?_)
  exact toInt64S_l0 l hl l 0 rfl (by omega) _ (by simp) (by simp)
theorem eqInt64S_l0 (l:List Int) (hl:l.length≤4611686018427387904):∀ (s:List Int) (i:Nat),l.drop i=s→i≤l.length →
    Ev (fun k=>laws_eqInt64S.l0 k l l (i:Int)) true
  | [],i,h,hi=>by
    have:=dropNil' h hi
    refine Ev.step (f:=fun _=>some true) (fun k=>?_) (Ev.now _)
    simp only [laws_eqInt64S.l0]
    rw [if_neg (by omega)]
  | m :: s,i,h,hi=>by
    obtain ⟨h1,h2,h3⟩:=dropCons h 0
    refine Ev.step (fun k=>?_) (eqInt64S_l0 l hl s (i+1) h3 (by omega))
    simp only [laws_eqInt64S.l0]
    rw [if_pos (by omega),if_pos (by omega),if_pos (by omega),if_pos trivial,w64 (by omega) (by omega)]
    rfl
theorem eqInt64S_ev (l:List Int) (hl:l.length≤4611686018427387904):Ev (fun k=>laws_eqInt64S.f k l l) true:=by
  unfold laws_eqInt64S.f
  exact evPos rfl (eqInt64S_l0 l hl l 0 rfl (by omega))
theorem getDi_mid (pre:List Int) (m:Int) (s:List Int):(pre ++ m :: s).getD pre.length 0=m:=by
  rw [List.getD_eq_getElem?_getD,List.getElem?_append_right (Nat.le_refl _),Nat.sub_self];rfl
theorem seti_mid (pre:List Int) (m x:Int) (s:List Int):(pre ++ m :: s).set pre.length x=pre ++ x :: s:=by
  rw [List.set_append_right _ _ (Nat.le_refl _),Nat.sub_self];rfl
def markI:Int→List Int→List Int
  | _,[]=>[]
  | n,_ :: r=>n :: markI (n+1) r
theorem markInt64S_l0 (N:Int) (hN:N≤1152921504606846976):∀ (s pre:List Int) (n:Int),0≤n→n+(s.length:Int)≤N→(pre.length:Int)+s.length≤N →
    Ev (fun k=>laws_markInt64S.l0 k (pre ++ s) n (pre.length:Int)) (n+(s.length:Int),pre ++ markI n s)
  | [],pre,n,h0,h1,h2=>by
    refine Ev.step (f:=fun _=>some (n,pre)) (fun k=>?_) (by simp [markI];exact Ev.now _)
    simp only [laws_markInt64S.l0,List.append_nil]
    rw [if_neg (by omega)]
  | m :: s,pre,n,h0,h1,h2=>by
    simp only [List.length_cons] at h1 h2
    have ih:=markInt64S_l0 N hN s (pre ++ [n]) (n+1) (by omega) (by omega) (by simp;omega)
    simp only [List.length_append,List.length_cons,List.length_nil,List.append_assoc,List.cons_append,List.nil_append] at ih
    refine Ev.step (fun k=>?_) (show Ev _ (n+((m :: s).length:Int),pre ++ markI n (m :: s)) from by
      simp only [markI,List.length_cons]
      rw [show n+((s.length+1:Nat):Int)=n+1+(s.length:Int) from by omega]
      exact ih)
    simp only [laws_markInt64S.l0,Int.toNat_natCast,seti_mid]
    rw [if_pos (by simp;omega),if_pos (by omega),w64 (x:=n+1) (by omega) (by omega),w64 (x:=(pre.length:Int)+1) (by omega) (by omega)]
    rfl
theorem markInt64S_ev (s:List Int) (n:Int) (h0:0≤n) (h1:n+(s.length:Int)≤1152921504606846976):Ev (fun k=>laws_markInt64S.f k s n) (n+(s.length:Int),markI n s) :=
  markInt64S_l0 1152921504606846976 (Int.le_refl _) s [] n h0 h1 (by simp;omega)
theorem heldInt64S_l0 (N:Int) (hN:N≤1152921504606846976):∀ (s pre:List Int) (n:Int),0≤n→n+(s.length:Int)≤N→(pre.length:Int)+s.length≤N →
    Ev (fun k=>laws_heldInt64S.l0 k (pre ++ markI n s) n (pre.length:Int)) (n+(s.length:Int))
  | [],pre,n,h0,h1,h2=>by
    refine Ev.step (f:=fun _=>some n) (fun k=>?_) (by simp;exact Ev.now _)
    simp only [laws_heldInt64S.l0,markI,List.append_nil]
    rw [if_neg (by omega)]
  | m :: s,pre,n,h0,h1,h2=>by
    simp only [List.length_cons] at h1 h2
    have ih:=heldInt64S_l0 N hN s (pre ++ [n]) (n+1) (by omega) (by omega) (by simp;omega)
    simp only [List.length_append,List.length_cons,List.length_nil,List.append_assoc,List.cons_append,List.nil_append] at ih
    refine Ev.step (fun k=>?_) (show Ev _ (n+((m :: s).length:Int)) from by
      simp only [List.length_cons]
      rw [show n+((s.length+1:Nat):Int)=n+1+(s.length:Int) from by omega]
      exact ih)
    have hr:rd (pre ++ markI n (m :: s)) (pre.length:Int)=n:=by simp only [rd,Int.toNat_natCast,markI,getDi_mid]
    simp only [laws_heldInt64S.l0,hr]
    rw [if_pos (by simp [markI];omega),if_pos (by omega),if_pos trivial,w64 (x:=n+1) (by omega) (by omega),w64 (x:=(pre.length:Int)+1) (by omega) (by omega)]
    rfl
theorem heldInt64S_ev (s:List Int) (n:Int) (h0:0≤n) (h1:n+(s.length:Int)≤1152921504606846976):Ev (fun k=>laws_heldInt64S.f k (markI n s) n) (n+(s.length:Int)) :=
  heldInt64S_l0 1152921504606846976 (Int.le_refl _) s [] n h0 h1 (by simp;omega)
end Go.Proofs.YtelanedlpedfcaaDoor.Q

namespace Go.Proofs.YtelanedlpedfcaaDoor.Q
open Go.RowKit Go.Proofs.YtelanedlpedfcaaDoor.P Go.Proofs.YtelanedlpedfcaaDoorW.PrintWords Go.Proofs.YtelanedlpedfcaaDoorW.PrintMore

theorem among_l0 (l:List Int) (n:Int) (hl:l.length≤4611686018427387904):∀ (s:List Int) (i:Nat),l.drop i=s→i≤l.length→Ev (fun k=>spec_l04Among.l0 k l n (i:Int)) (decide (n ∈ s))
  | [],i,h,hi=>by
    have:=dropNil' h hi
    refine Ev.step (f:=fun _=>some false) (fun k=>?_) (by simp;exact Ev.now _)
    simp only [spec_l04Among.l0]
    rw [if_neg (by omega)]
  | m :: s,i,h,hi=>by
    obtain ⟨h1,h2,h3⟩:=dropCons h 0
    have hr:=rd_of h2
    by_cases e:m=n
    · refine Ev.step (f:=fun _=>some true) (fun k=>?_) (by simp [e];exact Ev.now _)
      simp only [spec_l04Among.l0,hr]
      rw [if_pos (by omega),if_pos (by omega),if_pos e]
    · have ih:=among_l0 l n hl s (i+1) h3 (by omega)
      have e2:decide (n ∈ m :: s)=decide (n ∈ s):=by simp [show ¬ n=m from fun h=>e h.symm]
      rw [e2]
      refine Ev.step (fun k=>?_) ih
      simp only [spec_l04Among.l0,hr]
      rw [if_pos (by omega),if_pos (by omega),if_neg e,w64 (by omega) (by omega)]
      rfl
theorem among_ev (l:List Int) (n:Int) (hl:l.length≤4611686018427387904):Ev (fun k=>spec_l04Among.f k l n) (decide (n ∈ l)):=among_l0 l n hl l 0 rfl (by omega)
theorem indexI_l0 (l:List Int) (n:Int) (hl:l.length≤4611686018427387904):∀ (s:List Int) (i:Nat),l.drop i=s→i≤l.length→∃ r,Ev (fun k=>slices_Index_int64_int64.l0 k l n (l.length:Int) (i:Int)) r∧decide (r≥0)=decide (n ∈ s)
  | [],i,h,hi=>by
    have:=dropNil' h hi
    refine ⟨-1,Ev.step (f:=fun _=>some (-1)) (fun k=>?_) (Ev.now _),by simp⟩
    simp only [slices_Index_int64_int64.l0]
    rw [if_neg (by omega)]
  | m :: s,i,h,hi=>by
    obtain ⟨h1,h2,h3⟩:=dropCons h 0
    have hr:=rd_of h2
    by_cases e:n=m
    · refine ⟨i,Ev.step (f:=fun _=>some (i:Int)) (fun k=>?_) (Ev.now _),by simp [e]⟩
      simp only [slices_Index_int64_int64.l0,hr]
      rw [if_pos (by omega),if_pos (by omega),if_pos (by omega),if_pos e]
    · obtain ⟨r,e1,e2⟩:=indexI_l0 l n hl s (i+1) h3 (by omega)
      refine ⟨r,Ev.step (fun k=>?_) e1,by rw [e2];simp [e]⟩
      simp only [slices_Index_int64_int64.l0,hr]
      rw [if_pos (by omega),if_pos (by omega),if_pos (by omega),if_neg e,w64 (by omega) (by omega)]
      rfl
theorem Contains_ev (l:List Int) (n:Int) (hl:l.length≤4611686018427387904):Ev (fun k=>slices_Contains_int64_int64.f k l n) (decide (n ∈ l)):=by
  obtain ⟨r,e1,e2⟩:=indexI_l0 l n hl l 0 rfl (by omega)
  unfold slices_Contains_int64_int64.f
  rw [← e2]
  exact Ev.bind e1 (Ev.now _)
/-- How many tokens lie ahead. -/
def firstAt (h:Int):List Tok→Nat→Nat
  | [],i=>i
  | t :: r,i=>if t.f0<h then firstAt h r (i+1) else i
theorem firstAt_le (h:Int):∀ (s:List Tok) (i:Nat),i≤firstAt h s i∧firstAt h s i≤i+s.length
  | [],i=>by simp [firstAt]
  | t :: r,i=>by
    have:=firstAt_le h r (i+1)
    simp only [firstAt,List.length_cons]
    split <;> omega
def ordFrom (l:List Tok) (first:Nat):Nat→Nat→List Int→List Int
  | 0,_,acc=>acc
  | f+1,i,acc=>ordFrom l first f (i+1) (if (l.getD ((first+i) % l.length) z59).f1 ∈ acc then acc else acc ++ [(l.getD ((first+i) % l.length) z59).f1])
theorem ordFrom_mod (l:List Tok) (a b:Nat) (h:a % l.length=b % l.length):∀ (f i:Nat) (acc:List Int),ordFrom l a f i acc=ordFrom l b f i acc
  | 0,_,_=>rfl
  | f+1,i,acc=>by
    simp only [ordFrom]
    have e:(a+i) % l.length=(b+i) % l.length:=by rw [Nat.add_mod,h,← Nat.add_mod]
    rw [e]
    exact ordFrom_mod l a b h f (i+1) _
theorem ordFrom_length (l:List Tok) (a:Nat):∀ (f i:Nat) (acc:List Int),(ordFrom l a f i acc).length≤acc.length+f
  | 0,_,_=>by simp [ordFrom]
  | f+1,i,acc=>by
    simp only [ordFrom]
    split
    · have:=ordFrom_length l a f (i+1) acc;omega
    · have:=ordFrom_length l a f (i+1) (acc ++ [(l.getD ((a+i) % l.length) z59).f1])
      simp only [List.length_append,List.length_cons,List.length_nil] at this
      omega
def orderL (l:List Tok) (h:Int):List Int:=ordFrom l (firstAt h l 0) l.length 0 []
theorem orderL_length (l:List Tok) (h:Int):(orderL l h).length≤l.length:=by
  have:=ordFrom_length l (firstAt h l 0) l.length 0 []
  simp only [List.length_nil,Nat.zero_add] at this
  exact this
theorem tmod_at (l:List Tok) (a i:Nat) (ha:a≤l.length) (hi:i<l.length) (hl:l.length≤1048576) :
    Int.tmod (wrap64 ((a:Int)+(i:Int))) (l.length:Int)=(((a+i) % l.length:Nat):Int)∧(((a+i) % l.length:Nat):Int)<(l.length:Int):=by
  have hm:=Nat.mod_lt (a+i) (show 0<l.length by omega)
  rw [w64 (by omega) (by omega),Int.tmod_eq_emod_of_nonneg (by omega)]
  refine ⟨?_,by omega⟩
  rw [show (a:Int)+(i:Int)=((a+i:Nat):Int) by omega]
  exact (Int.natCast_emod (a+i) l.length).symm
theorem rdT_at (l:List Tok) (a:Nat):rd_T59 l (a:Int)=l.getD a z59:=by simp [rd_T59]
theorem specOrder_l1 (n:Int) (l:List Tok) (a:Nat) (ha:a≤l.length) (hl:l.length≤1048576):∀ (f i:Nat) (acc:List Int),i+f=l.length→acc.length≤i →
    Ev (fun k=>spec_l04Order.l1 k (a:Int) acc (i:Int) n l) (ordFrom l a f i acc)
  | 0,i,acc,h,hc=>by
    refine Ev.step (f:=fun _=>some acc) (fun k=>?_) (Ev.now _)
    simp only [spec_l04Order.l1]
    rw [if_neg (by omega)]
  | f+1,i,acc,h,hc=>by
    obtain ⟨t1,t2⟩:=tmod_at l a i ha (by omega) hl
    refine Ev.step (fun k=>by simp only [spec_l04Order.l1,t1,rdT_at];rw [if_pos (by omega),if_neg (by omega),if_pos (by omega),if_pos t2]) (Ev.bind (among_ev acc _ (by omega)) ?_)
    simp only [ordFrom]
    by_cases e:(l.getD ((a+i) % l.length) z59).f1 ∈ acc
    · rw [if_pos e,decide_eq_true e]
      refine evPos rfl ?_
      rw [w64 (by omega) (by omega)]
      exact specOrder_l1 n l a ha hl f (i+1) acc (by omega) (by omega)
    · rw [if_neg e,decide_eq_false e]
      refine evNeg (by simp) (evPos (by omega) ?_)
      rw [w64 (by omega) (by omega)]
      exact specOrder_l1 n l a ha hl f (i+1) _ (by omega) (by simp;omega)
theorem specOrder_l0 (n h:Int) (l:List Tok) (hl:l.length≤1048576):∀ (s:List Tok) (i:Nat),l.drop i=s→i≤l.length →
    Ev (fun k=>spec_l04Order.l0 k h (i:Int) n l) (ordFrom l (firstAt h s i) l.length 0 [])
  | [],i,hd,hi=>by
    have:=dropNil' hd hi
    refine Ev.step (f:=fun k=>spec_l04Order.j1 k h (i:Int) false n l) (fun k=>?_) (Ev.step (fun k=>?_) (specOrder_l1 n l i (by omega) hl l.length 0 [] (by omega) (by simp)))
    · simp only [spec_l04Order.l0]
      rw [if_neg (by omega)]
    · simp only [spec_l04Order.j1]
      rw [if_neg (by simp)]
      rfl
  | t :: s,i,hd,hi=>by
    obtain ⟨h1,h2,h3⟩:=dropCons hd z59
    have hr:rd_T59 l (i:Int)=t:=by simpa [rd_T59] using h2
    simp only [firstAt]
    by_cases e:t.f0<h
    · rw [if_pos e]
      refine Ev.step (f:=fun k=>spec_l04Order.j1 k h (i:Int) true n l) (fun k=>?_) (Ev.step (fun k=>?_) (specOrder_l0 n h l hl s (i+1) h3 (by omega)))
      · simp only [spec_l04Order.l0,hr]
        rw [if_pos (by omega),if_pos (by omega),decide_eq_true e]
      · simp only [spec_l04Order.j1]
        rw [if_pos trivial,w64 (by omega) (by omega)]
        rfl
    · rw [if_neg e]
      refine Ev.step (f:=fun k=>spec_l04Order.j1 k h (i:Int) false n l) (fun k=>?_) (Ev.step (fun k=>?_) (specOrder_l1 n l i hi hl l.length 0 [] (by omega) (by simp)))
      · simp only [spec_l04Order.l0,hr]
        rw [if_pos (by omega),if_pos (by omega),decide_eq_false e]
      · simp only [spec_l04Order.j1]
        rw [if_neg (by simp)]
        rfl
theorem l04Order_ev (n:Int) (l:List Tok) (key:ByteArray) (hl:l.length≤1048576) (hk:key.size≤1048576):Ev (fun k=>spec_l04Order.f k n l key) (orderL l (fnv key)) :=
  Ev.bind (spec_l04Fnv_ev key (by omega)) (specOrder_l0 n (fnv key) l hl l 0 rfl (by omega))
def atOr (n L:Nat):Int:=if n=L then -1 else (n:Int)
theorem atOr_eq {n L:Nat} (h:n=L):atOr n L = -1:=if_pos h
theorem atOr_ne {n L:Nat} (h:¬ n=L):atOr n L=(n:Int):=if_neg h
theorem indexT_l0 (l:List Tok) (h:Int) (hl:l.length≤1048576):∀ (s:List Tok) (i:Nat),l.drop i=s→i≤l.length →
    Ev (fun k=>slices_IndexFunc_impl_Token_impl_Token_impl_order_1.l0 k l (l.length:Int) (i:Int) h) (atOr (firstAt h s i) l.length)
  | [],i,hd,hi=>by
    have:=dropNil' hd hi
    simp only [firstAt]
    rw [atOr_eq (by omega)]
    refine Ev.step (f:=fun _=>some (-1)) (fun k=>?_) (Ev.now _)
    simp only [slices_IndexFunc_impl_Token_impl_Token_impl_order_1.l0]
    rw [if_neg (by omega)]
  | t :: s,i,hd,hi=>by
    obtain ⟨h1,h2,h3⟩:=dropCons hd z59
    have hr:rd_T59 l (i:Int)=t:=by simpa [rd_T59] using h2
    simp only [firstAt]
    by_cases e:t.f0<h
    · rw [if_pos e]
      refine Ev.step (fun k=>?_) (indexT_l0 l h hl s (i+1) h3 (by omega))
      simp only [slices_IndexFunc_impl_Token_impl_Token_impl_order_1.l0,hr,impl_order_1_cap.f,Option.bind_some]
      rw [if_pos (by omega),if_pos (by omega),if_pos (by omega),if_neg (by simp;omega),w64 (by omega) (by omega)]
      rfl
    · rw [if_neg e,atOr_ne (by omega)]
      refine Ev.step (f:=fun _=>some (i:Int)) (fun k=>?_) (Ev.now _)
      simp only [slices_IndexFunc_impl_Token_impl_Token_impl_order_1.l0,hr,impl_order_1_cap.f,Option.bind_some]
      rw [if_pos (by omega),if_pos (by omega),if_pos (by omega),if_pos (by simp;omega)]
theorem implOrder_l0 (n:Int) (l:List Tok) (a:Nat) (ha:a≤l.length) (hl:l.length≤1048576):∀ (f i:Nat) (acc:List Int),i+f=l.length→acc.length≤i →
    Ev (fun k=>impl_order.l0 k (a:Int) acc (l.length:Int) (i:Int) n l) (ordFrom l a f i acc)
  | 0,i,acc,h,hc=>by
    refine Ev.step (f:=fun _=>some acc) (fun k=>?_) (Ev.now _)
    simp only [impl_order.l0]
    rw [if_neg (by omega)]
  | f+1,i,acc,h,hc=>by
    obtain ⟨t1,t2⟩:=tmod_at l a i ha (by omega) hl
    refine Ev.step (fun k=>by simp only [impl_order.l0,t1,rdT_at];rw [if_pos (by omega),if_neg (by omega),if_pos (by omega),if_pos t2]) (Ev.bind (Contains_ev acc _ (by omega)) ?_)
    simp only [ordFrom]
    by_cases e:(l.getD ((a+i) % l.length) z59).f1 ∈ acc
    · rw [if_pos e,decide_eq_true e]
      refine evPos rfl ?_
      rw [w64 (by omega) (by omega)]
      exact implOrder_l0 n l a ha hl f (i+1) acc (by omega) (by omega)
    · rw [if_neg e,decide_eq_false e]
      refine evNeg (by simp) (evPos (by omega) ?_)
      rw [w64 (by omega) (by omega)]
      exact implOrder_l0 n l a ha hl f (i+1) _ (by omega) (by simp;omega)
theorem order_ev (n:Int) (l:List Tok) (key:ByteArray) (hl:l.length≤1048576) (hk:key.size≤1048576):Ev (fun k=>impl_order.f k n l key) (orderL l (fnv key)):=by
  refine Ev.bind (impl_fnv_ev key (by omega)) (Ev.bind (indexT_l0 l (fnv key) hl l 0 rfl (by omega)) ?_)
  have hf:=(firstAt_le (fnv key) l 0).2
  by_cases e:firstAt (fnv key) l 0=l.length
  · rw [atOr_eq e]
    refine evPos (by omega) (Ev.step (f:=fun k=>impl_order.l0 k 0 [] (l.length:Int) 0 n l) (fun k=>by simp only [impl_order.j0]) ?_)
    unfold orderL
    rw [ordFrom_mod l (firstAt (fnv key) l 0) 0 (by rw [e];simp)]
    exact implOrder_l0 n l 0 (by omega) hl l.length 0 [] (by omega) (by simp)
  · rw [atOr_ne e]
    refine evNeg (by omega) (Ev.step (f:=fun k=>impl_order.l0 k (firstAt (fnv key) l 0:Int) [] (l.length:Int) 0 n l) (fun k=>by simp only [impl_order.j0]) ?_)
    exact implOrder_l0 n l (firstAt (fnv key) l 0) (by omega) hl l.length 0 [] (by omega) (by simp)
def keyed (n:Int) (l:List Tok) (key:ByteArray):Bool:=ringOk n l && nameOk key
theorem nameOk_size {key:ByteArray} (h:nameOk key=true):key.size≤20:=by
  simp only [nameOk,Bool.and_eq_true,decide_eq_true_eq] at h
  exact h.1
theorem isKeyed_ev (n:Int) (l:List Tok) (key:ByteArray) (hl:l.length≤1048576) (hk:key.size≤1048576):Ev (fun k=>impl_isKeyed.f k n l key) (keyed n l key):=by
  unfold impl_isKeyed.f keyed
  refine Ev.bind (isLong1_ev key) ?_
  by_cases h:8000<key.size
  · have e:nameOk key=false:=by
      cases e:nameOk key with
      | false=>rfl
      | true=>have:=nameOk_size e;omega
    rw [e,Bool.and_false]
    exact evPos (by simpa using h) (Ev.now _)
  · refine evNeg (by simpa using h) (Ev.bind (impl_RingRight_ev n l hl) ?_)
    cases ringOk n l with
    | false=>exact evNeg (by simp) (Ev.now _)
    | true=>exact evPos rfl (Ev.bind (impl_NameRight_ev key (by omega)) (Ev.now _))
def ownersL (l:List Tok) (h:Int) (m:Nat):List Int:=(orderL l h).take (min m (orderL l h).length)
theorem l01Min_is (a b:Int):spec_l01Min.f a b=some (if a<b then a else b):=by
  unfold spec_l01Min.f
  split <;> rfl
theorem l04Owners_ev (n:Int) (l:List Tok) (key:ByteArray) (m:Nat) (hl:l.length≤1048576) (hk:key.size≤1048576):Ev (fun k=>spec_l04Owners.f k n l key (m:Int)) (ownersL l (fnv key) m):=by
  refine Ev.bind (l04Order_ev n l key hl hk) (evBind1 (l01Min_is _ _) ?_)
  have e:(if (m:Int)<((orderL l (fnv key)).length:Int) then (m:Int) else ((orderL l (fnv key)).length:Int))=((min m (orderL l (fnv key)).length:Nat):Int):=by split <;> omega
  rw [e]
  exact evPos (by omega) (evPos (by omega) (Ev.now _))
theorem ownersL_length (l:List Tok) (h:Int) (m:Nat):(ownersL l h m).length≤l.length:=by
  have:=orderL_length l h
  unfold ownersL
  rw [List.length_take]
  omega
end Go.Proofs.YtelanedlpedfcaaDoor.Q

namespace Go.Proofs.YtelanedlpedfcaaDoor.Q
open Go.RowKit Go.Proofs.YtelanedlpedfcaaDoor.P Go.Proofs.YtelanedlpedfcaaDoorW.PrintWords Go.Proofs.YtelanedlpedfcaaDoorW.PrintMore

def risesFrom:Int→List Int→Bool
  | _,[]=>true
  | p,n :: r=>isNode n && (decide (p<n) && risesFrom n r)
theorem rises_length:∀ (s:List Int) (p:Int),p≤5→risesFrom p s=true→(s.length:Int)≤5-p
  | [],p,h,_=>by simp;omega
  | n :: r,p,h,hs=>by
    simp only [risesFrom,Bool.and_eq_true,decide_eq_true_eq] at hs
    have:=rises_length r n ((isNode_iff n).1 hs.1).2 hs.2.2
    simp only [List.length_cons]
    omega
def prevI (l:List Int) (i:Nat):Int:=if i=0 then 0 else l.getD (i-1) 0
theorem prevI_succ {l:List Int} {i:Nat} {m:Int} (h:l.getD i 0=m):prevI l (i+1)=m:=by
  unfold prevI
  rw [if_neg (by omega),Nat.add_sub_cancel]
  exact h
theorem down_l0 (l:List Int) (hl:l.length≤1048576):∀ (s:List Int) (i:Nat),l.drop i=s→i≤l.length→Ev (fun k=>spec_l04Down.l0 k l (i:Int)) (risesFrom (prevI l i) s)
  | [],i,h,hi=>by
    have:=dropNil' h hi
    refine Ev.step (f:=fun _=>some true) (fun k=>?_) (by simp only [risesFrom];exact Ev.now _)
    simp only [spec_l04Down.l0]
    rw [if_neg (by omega)]
  | m :: s,i,h,hi=>by
    obtain ⟨h1,h2,h3⟩:=dropCons h 0
    have hr:=rd_of h2
    have ih:=down_l0 l hl s (i+1) h3 (by omega)
    rw [prevI_succ h2] at ih
    refine Ev.step (fun k=>by simp only [spec_l04Down.l0,hr];rw [if_pos (by omega),if_pos (by omega)]) (evBind1 (l02Node_is m) ?_)
    have jT:Ev (fun k=>spec_l04Down.j1 k l (i:Int) true) false:=Ev.step (f:=fun _=>some false) (fun k=>by simp [spec_l04Down.j1]) (Ev.now _)
    have jF:Ev (fun k=>spec_l04Down.j1 k l (i:Int) false) (risesFrom m s):=Ev.step (f:=fun k=>spec_l04Down.l0 k l ((i+1:Nat):Int)) (fun k=>by simp only [spec_l04Down.j1];rw [if_neg (by simp),w64 (by omega) (by omega)];rfl) ih
    simp only [risesFrom]
    cases hn:isNode m with
    | false=>exact evNeg (by simp) jT
    | true =>
      have hm:=(isNode_iff m).1 hn
      refine evPos rfl ?_
      by_cases h0:i=0
      · have e:prevI l i=0:=if_pos h0
        rw [e,decide_eq_true (show (0:Int)<m by omega)]
        exact evNeg (by omega) jF
      · have e:prevI l i=l.getD (i-1) 0:=if_neg h0
        have hp:rd l ((i:Int)-1)=prevI l i:=by
          rw [e,show (i:Int)-1=((i-1:Nat):Int) by omega]
          simp [rd]
        rw [w64 (by omega) (by omega),hp]
        refine evPos (by omega) (evPos (by omega) (evPos (by omega) ?_))
        by_cases hlt:prevI l i<m
        · rw [decide_eq_true hlt,decide_eq_false (show ¬ prevI l i≥m by omega)]
          exact jF
        · rw [decide_eq_false hlt,decide_eq_true (show prevI l i≥m by omega)]
          exact jT
theorem down_ev (l:List Int) (hl:l.length≤1048576):Ev (fun k=>spec_l04Down.f k l) (risesFrom 0 l):=down_l0 l hl l 0 rfl (by omega)
theorem rising_l0 (l:List Int) (hl:l.length≤1048576):∀ (s:List Int) (i:Nat),l.drop i=s→i≤l.length→Ev (fun k=>impl_isRising.l0 k l 5 l (l.length:Int) (i:Int)) (risesFrom (prevI l i) s)
  | [],i,h,hi=>by
    have:=dropNil' h hi
    refine Ev.step (f:=fun _=>some true) (fun k=>?_) (by simp only [risesFrom];exact Ev.now _)
    simp only [impl_isRising.l0]
    rw [if_neg (by omega)]
  | m :: s,i,h,hi=>by
    obtain ⟨h1,h2,h3⟩:=dropCons h 0
    have hr:=rd_of h2
    have ih:=rising_l0 l hl s (i+1) h3 (by omega)
    rw [prevI_succ h2] at ih
    refine Ev.step (fun k=>by simp only [impl_isRising.l0,hr];rw [if_pos (by omega),if_pos (by omega),if_pos (by omega)]) (evBind1 (within_is m 1 5) ?_)
    have jT:Ev (fun k=>impl_isRising.j1 k l 5 l (l.length:Int) (i:Int) true) false:=Ev.step (f:=fun _=>some false) (fun k=>by simp [impl_isRising.j1]) (Ev.now _)
    have jF:Ev (fun k=>impl_isRising.j1 k l 5 l (l.length:Int) (i:Int) false) (risesFrom m s):=Ev.step (f:=fun k=>impl_isRising.l0 k l 5 l (l.length:Int) ((i+1:Nat):Int)) (fun k=>by simp only [impl_isRising.j1];rw [if_neg (by simp),w64 (by omega) (by omega)];rfl) ih
    simp only [risesFrom]
    show Ev (fun k=>if isNode m=true then _ else _) _
    cases hn:isNode m with
    | false=>exact evNeg (by simp) jT
    | true =>
      have hm:=(isNode_iff m).1 hn
      refine evPos rfl ?_
      by_cases h0:i=0
      · have e:prevI l i=0:=if_pos h0
        rw [e,decide_eq_true (show (0:Int)<m by omega)]
        exact evNeg (by omega) jF
      · have e:prevI l i=l.getD (i-1) 0:=if_neg h0
        have hp:rd l ((i:Int)-1)=prevI l i:=by
          rw [e,show (i:Int)-1=((i-1:Nat):Int) by omega]
          simp [rd]
        rw [w64 (by omega) (by omega),hp]
        refine evPos (by omega) (evPos (by omega) (evPos (by omega) ?_))
        by_cases hlt:prevI l i<m
        · rw [decide_eq_true hlt,decide_eq_false (show ¬ prevI l i≥m by omega)]
          exact jF
        · rw [decide_eq_false hlt,decide_eq_true (show prevI l i≥m by omega)]
          exact jT
theorem rising_ev (l:List Int) (hl:l.length≤1048576):Ev (fun k=>impl_isRising.f k l 5) (risesFrom 0 l):=rising_l0 l hl l 0 rfl (by omega)
def notIn (d:List Int) (x:Int):Bool:=!decide (x ∈ d)
theorem notIn_pos {d:List Int} {x:Int} (h:x ∉ d):notIn d x=true:=by simp [notIn,h]
theorem notIn_neg {d:List Int} {x:Int} (h:x ∈ d):¬ notIn d x=true:=by simp [notIn,h]
theorem cap_ev (d:List Int) (x:Int) (hd:d.length≤1048576):Ev (fun k=>impl_places_1_cap.f k x d) (decide (x ∈ d)):=Ev.bind (Contains_ev d x (by omega)) (Ev.now _)
theorem indexP_l0 (l d:List Int) (hl:l.length≤1048576) (hd:d.length≤1048576):∀ (s:List Int) (i:Nat),l.drop i=s→i≤l.length →
    ∃ r,Ev (fun k=>slices_IndexFunc_int64_int64_impl_places_1.l0 k l (l.length:Int) (i:Int) d) r∧((r = -1∧∀ x ∈ s,x ∉ d)∨∃ a b:List Int,∃ m:Int,s=a ++ m :: b∧r=((i+a.length:Nat):Int)∧(∀ x ∈ a,x ∉ d)∧m ∈ d)
  | [],i,h,hi=>by
    have:=dropNil' h hi
    refine ⟨-1,Ev.step (f:=fun _=>some (-1)) (fun k=>?_) (Ev.now _),.inl ⟨rfl,fun _ h=>by cases h⟩⟩
    simp only [slices_IndexFunc_int64_int64_impl_places_1.l0]
    rw [if_neg (by omega)]
  | m :: s,i,h,hi=>by
    obtain ⟨h1,h2,h3⟩:=dropCons h 0
    have hr:=rd_of h2
    have st:∀ {R:Int},Ev (fun k=>if decide (m ∈ d)=true then some (i:Int) else slices_IndexFunc_int64_int64_impl_places_1.l0 k l (l.length:Int) (wrap64 ((i:Int)+1)) d) R→Ev (fun k=>slices_IndexFunc_int64_int64_impl_places_1.l0 k l (l.length:Int) (i:Int) d) R:=fun h =>
      Ev.step (fun k=>by simp only [slices_IndexFunc_int64_int64_impl_places_1.l0,hr];rw [if_pos (by omega),if_pos (by omega),if_pos (by omega)]) (Ev.bind (cap_ev d m hd) h)
    by_cases hm:m ∈ d
    · exact ⟨i,st (evPos (decide_eq_true hm) (Ev.now _)),.inr ⟨[],s,m,rfl,by simp,(fun _ h=>by cases h),hm⟩⟩
    · obtain ⟨r,e1,e2⟩:=indexP_l0 l d hl hd s (i+1) h3 (by omega)
      refine ⟨r,st (evNeg (by simp [hm]) (by rw [w64 (by omega) (by omega)];exact e1)),?_⟩
      rcases e2 with ⟨rfl,e2⟩ | ⟨a,b,c,rfl,rfl,e3,e4⟩
      · refine .inl ⟨rfl,fun x hx=>?_⟩
        rcases List.mem_cons.1 hx with rfl | hx
        · exact hm
        · exact e2 x hx
      · refine .inr ⟨m :: a,b,c,rfl,by simp only [List.length_cons];omega,fun x hx=>?_,e4⟩
        rcases List.mem_cons.1 hx with rfl | hx
        · exact hm
        · exact e3 x hx
theorem delete_l0 (d:List Int) (hd:d.length≤1048576):∀ (s cur:List Int) (a j:Nat),cur.drop j=s→j≤cur.length→a≤j→cur.length≤1048576 →
    Ev (fun k=>slices_DeleteFunc_int64_int64_impl_places_1.l0 k cur (a:Int) (j:Int) d) (cur.take a ++ s.filter (notIn d))
  | [],cur,a,j,h,hj,ha,hl=>by
    have:=dropNil' h hj
    refine Ev.step (f:=fun _=>some (cur.take a)) (fun k=>?_) (by simp only [List.filter_nil,List.append_nil];exact Ev.now _)
    simp only [slices_DeleteFunc_int64_int64_impl_places_1.l0]
    rw [if_neg (by omega),if_pos (by omega),if_pos (by omega),Int.toNat_natCast]
  | m :: s,cur,a,j,h,hj,ha,hl=>by
    obtain ⟨h1,h2,h3⟩:=dropCons h 0
    have hr:=rd_of h2
    refine Ev.step (fun k=>by simp only [slices_DeleteFunc_int64_int64_impl_places_1.l0,hr];rw [if_pos (by omega),if_pos (by omega)]) (Ev.bind (cap_ev d m hd) ?_)
    by_cases hm:m ∈ d
    · rw [List.filter_cons_of_neg (notIn_neg hm)]
      refine evPos (decide_eq_true hm) ?_
      rw [w64 (by omega) (by omega)]
      exact delete_l0 d hd s cur a (j+1) h3 (by omega) (by omega) hl
    · rw [List.filter_cons_of_pos (notIn_pos hm)]
      refine evNeg (by simp [hm]) (evPos (by omega) (evPos (by omega) ?_))
      rw [w64 (by omega) (by omega),w64 (by omega) (by omega),Int.toNat_natCast]
      have ih:=delete_l0 d hd s (cur.set a m) (a+1) (j+1) (by rw [List.drop_set_of_lt (by omega)];exact h3) (by rw [List.length_set];omega) (by omega) (by rw [List.length_set];exact hl)
      have e:(cur.set a m).take (a+1)=cur.take a ++ [m]:=by
        rw [List.take_succ_eq_append_getElem (by simp;omega),List.take_set_of_le (by omega)]
        simp
      rw [e,List.append_assoc,List.singleton_append] at ih
      exact ih
theorem DeleteFunc_ev (l d:List Int) (hl:l.length≤1048576) (hd:d.length≤1048576):Ev (fun k=>slices_DeleteFunc_int64_int64_impl_places_1.f k l d) (l.filter (notIn d)):=by
  obtain ⟨r,e1,e2⟩:=indexP_l0 l d hl hd l 0 rfl (by omega)
  refine Ev.bind e1 ?_
  rcases e2 with ⟨rfl,e2⟩ | ⟨a,b,m,rfl,rfl,e3,e4⟩
  · refine evPos rfl ?_
    rw [List.filter_eq_self.2 (fun x hx=>notIn_pos (e2 x hx))]
    exact Ev.now _
  · refine evNeg (by omega) ?_
    have ih:=delete_l0 d hd b (a ++ m :: b) a.length (a.length+1) (by simp) (by simp) (by omega) hl
    have ef:(a ++ m :: b).filter (notIn d)=(a ++ m :: b).take a.length ++ b.filter (notIn d):=by
      rw [List.filter_append,List.filter_cons_of_neg (notIn_neg e4),List.filter_eq_self.2 (fun x hx=>notIn_pos (e3 x hx))]
      simp
    simp only [List.length_append,List.length_cons] at hl
    rw [ef,Nat.zero_add,w64 (by omega) (by omega)]
    exact ih
def standL (d:List Int):List Int→List Int→List Int
  | [],_=>[]
  | o :: r,q=>if o ∈ d then (match q with
      | []=>standL d r []
      | x :: q'=>x :: standL d r q') else o :: standL d r q
theorem standL_length (d:List Int):∀ s q:List Int,(standL d s q).length≤s.length
  | [],_=>by simp [standL]
  | o :: r,q=>by
    simp only [standL]
    split
    · cases q with
      | nil=>have:=standL_length d r [];simp only [List.length_cons];omega
      | cons x q'=>have:=standL_length d r q';simp only [List.length_cons];omega
    · have:=standL_length d r q;simp only [List.length_cons];omega
abbrev Pl:=S56
def placeS (d:List Int):List Int→List Int→List Pl
  | [],_=>[]
  | o :: r,q=>if o ∈ d then (match q with
      | []=>placeS d r []
      | x :: q'=>⟨x,o⟩ :: placeS d r q') else ⟨o,o⟩ :: placeS d r q
theorem placeS_length (d:List Int):∀ s q:List Int,(placeS d s q).length≤s.length
  | [],_=>by simp [placeS]
  | o :: r,q=>by
    simp only [placeS]
    split
    · cases q with
      | nil=>have:=placeS_length d r [];simp only [List.length_cons];omega
      | cons x q'=>have:=placeS_length d r q';simp only [List.length_cons];omega
    · have:=placeS_length d r q;simp only [List.length_cons];omega
theorem placeS_map (d:List Int):∀ s q:List Int,(placeS d s q).map (fun x=>x.f0)=standL d s q
  | [],_=>rfl
  | o :: r,q=>by
    simp only [placeS,standL]
    split
    · cases q with
      | nil=>exact placeS_map d r []
      | cons x q'=>simp only [List.map_cons,placeS_map d r q']
    · simp only [List.map_cons,placeS_map d r q]
theorem places_l0 (own d:List Int) (ho:own.length≤1048576) (hd:d.length≤1048576):∀ (s:List Int) (i:Nat) (q:List Int) (out:List Pl),own.drop i=s→i≤own.length→q.length≤1048576→out.length≤i →
    Ev (fun k=>impl_places.l0 k q out own (own.length:Int) (i:Int) d) (out ++ placeS d s q)
  | [],i,q,out,h,hi,hq,hc=>by
    have:=dropNil' h hi
    refine Ev.step (f:=fun _=>some out) (fun k=>?_) (by simp only [placeS,List.append_nil];exact Ev.now _)
    simp only [impl_places.l0]
    rw [if_neg (by omega)]
  | o :: s,i,q,out,h,hi,hq,hc=>by
    obtain ⟨h1,h2,h3⟩:=dropCons h 0
    have hr:=rd_of h2
    refine Ev.step (fun k=>by simp only [impl_places.l0,hr];rw [if_pos (by omega),if_pos (by omega),if_pos (by omega)]) (Ev.bind (Contains_ev d o (by omega)) ?_)
    simp only [placeS]
    by_cases hm:o ∈ d
    · rw [if_pos hm]
      refine evPos (decide_eq_true hm) ?_
      cases q with
      | nil =>
        refine evNeg (by simp) ?_
        rw [w64 (by omega) (by omega)]
        exact places_l0 own d ho hd s (i+1) [] out h3 (by omega) (by simp) (by omega)
      | cons x q' =>
        simp only [List.length_cons] at hq ⊢
        refine evPos (by omega) (evPos (by omega) (evPos (by omega) (evPos (by omega) ?_)))
        rw [w64 (by omega) (by omega)]
        have ih:=places_l0 own d ho hd s (i+1) q' (out ++ [⟨x,o⟩]) h3 (by omega) (by omega) (by simp;omega)
        rw [List.append_assoc,List.singleton_append] at ih
        exact ih
    · rw [if_neg hm]
      refine evNeg (by simp [hm]) (evPos (by omega) ?_)
      rw [w64 (by omega) (by omega)]
      have ih:=places_l0 own d ho hd s (i+1) q (out ++ [⟨o,o⟩]) h3 (by omega) hq (by simp;omega)
      rw [List.append_assoc,List.singleton_append] at ih
      exact ih
def standAt (l:List Tok) (h:Int) (m:Nat) (d:List Int):List Int:=standL d (ownersL l h m) (((orderL l h).drop (ownersL l h m).length).filter (notIn d))
theorem places_ev (n:Int) (l:List Tok) (key:ByteArray) (m:Nat) (d:List Int) (hl:l.length≤1048576) (hk:key.size≤1048576) (hd:d.length≤1048576) :
    Ev (fun k=>impl_places.f k n l key (m:Int) d) (placeS d (ownersL l (fnv key) m) (((orderL l (fnv key)).drop (ownersL l (fnv key) m).length).filter (notIn d))):=by
  have hol:=orderL_length l (fnv key)
  have hwl:=ownersL_length l (fnv key) m
  refine Ev.bind (order_ev n l key hl hk) ?_
  have e:mn (m:Int) ((orderL l (fnv key)).length:Int)=((min m (orderL l (fnv key)).length:Nat):Int):=by unfold mn;split <;> omega
  rw [e,Int.toNat_natCast]
  refine evPos (by omega) (evPos (by omega) (evBind1 (a:=ownersL l (fnv key) m) rfl ?_))
  have hwo:(ownersL l (fnv key) m).length≤(orderL l (fnv key)).length:=by
    unfold ownersL
    rw [List.length_take]
    omega
  rw [Int.toNat_natCast]
  refine evPos (by omega) (evPos (by omega) (evBind1 (a:=(orderL l (fnv key)).drop (ownersL l (fnv key) m).length) ?_ ?_))
  · simp only [slices_Clone_int64_int64.f,Option.bind_some,List.length_nil,List.nil_append]
    rw [if_pos (by rw [List.length_drop];omega)]
  · refine Ev.bind (DeleteFunc_ev _ d (by rw [List.length_drop];omega) hd) ?_
    have hf:=List.length_filter_le (notIn d) ((orderL l (fnv key)).drop (ownersL l (fnv key) m).length)
    rw [List.length_drop] at hf
    exact places_l0 (ownersL l (fnv key) m) d (by omega) hd _ 0 _ [] rfl (by omega) (by omega) (by simp)
theorem stand_l0 (ps:List Pl) (hp:ps.length≤1048576):∀ (s:List Pl) (i:Nat) (acc:List Int),ps.drop i=s→i≤ps.length→acc.length≤i→Ev (fun k=>impl_StandIns.l0 k acc ps (ps.length:Int) (i:Int)) (acc ++ s.map (fun x=>x.f0))
  | [],i,acc,h,hi,hc=>by
    have:=dropNil' h hi
    refine Ev.step (f:=fun _=>some acc) (fun k=>?_) (by simp only [List.map_nil,List.append_nil];exact Ev.now _)
    simp only [impl_StandIns.l0]
    rw [if_neg (by omega)]
  | x :: s,i,acc,h,hi,hc=>by
    obtain ⟨h1,h2,h3⟩:=dropCons h z56
    have hr:rd_T56 ps (i:Int)=x:=by simpa [rd_T56] using h2
    have ih:=stand_l0 ps hp s (i+1) (acc ++ [x.f0]) h3 (by omega) (by simp;omega)
    rw [List.append_assoc,List.singleton_append] at ih
    refine Ev.step (fun k=>?_) ih
    simp only [impl_StandIns.l0,hr]
    rw [if_pos (by omega),if_pos (by omega),if_pos (by omega),if_pos (by omega),w64 (by omega) (by omega)]
    rfl
def standOut (n:Int) (l:List Tok) (key:ByteArray) (m:Int) (d:List Int):List Int:=if (keyed n l key && (isNode m && risesFrom 0 d))=true then standAt l (fnv key) m.toNat d else []
theorem standOut_length (n:Int) (l:List Tok) (key:ByteArray) (m:Int) (d:List Int) (hl:l.length≤1048576):(standOut n l key m d).length≤1048576:=by
  unfold standOut
  split
  · have a:=standL_length d (ownersL l (fnv key) m.toNat) (((orderL l (fnv key)).drop (ownersL l (fnv key) m.toNat).length).filter (notIn d))
    have b:=ownersL_length l (fnv key) m.toNat
    unfold standAt
    omega
  · simp
theorem impl_StandIns_ev (n:Int) (l:List Tok) (key:ByteArray) (m:Int) (d:List Int) (hl:l.length≤1048576) (hk:key.size≤1048576) (hd:d.length≤1048576):Ev (fun k=>impl_StandIns.f k n l key m d) (standOut n l key m d):=by
  unfold impl_StandIns.f standOut
  have jT:Ev (fun k=>impl_StandIns.j0 k key m d true n l) []:=Ev.step (f:=fun _=>some []) (fun k=>by simp [impl_StandIns.j0]) (Ev.now _)
  refine evBind1 rfl ?_
  by_cases h4:(d.length:Int)>400
  · have e:risesFrom 0 d=false:=by
      cases e:risesFrom 0 d with
      | false=>rfl
      | true=>have:=rises_length d 0 (by omega) e;omega
    rw [e,Bool.and_false,Bool.and_false]
    exact evPos (decide_eq_true h4) jT
  · refine evNeg (by simp;omega) (Ev.bind (isKeyed_ev n l key hl hk) ?_)
    cases keyed n l key with
    | false=>exact evNeg (by simp) jT
    | true =>
      refine evPos rfl (evBind1 (isNode_is _) ?_)
      cases hm:isNode m with
      | false=>exact evNeg (by simp) jT
      | true =>
        refine evPos rfl (Ev.bind (rising_ev d hd) ?_)
        cases risesFrom 0 d with
        | false=>exact jT
        | true =>
          have hm':=(isNode_iff m).1 hm
          obtain ⟨m,rfl⟩:=Int.eq_ofNat_of_zero_le (show 0≤m by omega)
          have hp:=placeS_length d (ownersL l (fnv key) m) (((orderL l (fnv key)).drop (ownersL l (fnv key) m).length).filter (notIn d))
          have hw:=ownersL_length l (fnv key) m
          refine Ev.step (fun k=>by simp only [impl_StandIns.j0];rw [if_neg (by simp)]) (Ev.bind (places_ev n l key m d hl hk hd) ?_)
          have ih:=stand_l0 _ (show (placeS d (ownersL l (fnv key) m) (((orderL l (fnv key)).drop (ownersL l (fnv key) m).length).filter (notIn d))).length≤1048576 by omega) _ 0 [] rfl (by omega) (by simp)
          rw [List.nil_append,List.drop_zero,placeS_map] at ih
          exact ih
theorem list_l1 (d order own:List Int) (hd:d.length≤1048576) (ho:order.length≤1048576) (hw:own.length≤1048576) (o:Int) (i:Nat) (hi:i<own.length) (hr:rd own (i:Int)=o) {R:List Int × List Int}:∀ (n next:Nat) (who of:List Int) (x:Int),next+n=order.length+1→who.length≤i→of.length≤i →
    (x ∉ d→Ev (fun k=>spec_l04List.l0 k d order own (next:Int) (who ++ [x]) (of ++ [o]) ((i+1:Nat):Int)) R) →
    (x ∈ d→∀ y q,(order.drop next).filter (notIn d)=y :: q→∀ nx:Nat,nx≤order.length+1→(order.drop nx).filter (notIn d)=q→Ev (fun k=>spec_l04List.l0 k d order own (nx:Int) (who ++ [y]) (of ++ [o]) ((i+1:Nat):Int)) R) →
    (x ∈ d→(order.drop next).filter (notIn d)=[]→∀ nx:Nat,nx≤order.length+1→(order.drop nx).filter (notIn d)=[]→Ev (fun k=>spec_l04List.l0 k d order own (nx:Int) who of ((i+1:Nat):Int)) R) →
    Ev (fun k=>spec_l04List.l1 k d order own (next:Int) who of (i:Int) x) R:=by
  have put:∀ (next:Nat) (who of:List Int) (x:Int),who.length≤i→of.length≤i→x ∉ d→Ev (fun k=>spec_l04List.l0 k d order own (next:Int) (who ++ [x]) (of ++ [o]) ((i+1:Nat):Int)) R→Ev (fun k=>spec_l04List.l1 k d order own (next:Int) who of (i:Int) x) R:=fun next who of x h1 h2 hx h=>by
    refine Ev.step (fun k=>by rw [spec_l04List.l1]) (Ev.bind (among_ev d x (by omega)) ?_)
    refine evNeg (by simp [hx]) ?_
    refine Ev.step (fun k=>by simp only [spec_l04List.j2];rw [if_neg (by simp)]) (Ev.bind (among_ev d x (by omega)) ?_)
    refine evNeg (by simp [hx]) (evPos (by omega) (evPos (by omega) (evPos (by omega) (evPos (by omega) ?_))))
    rw [hr,w64 (by omega) (by omega)]
    exact h
  intro n
  induction n with
  | zero =>
    intro next who of x hn h1 h2 ha hb hc
    by_cases hx:x ∈ d
    · have e:(order.drop next).filter (notIn d)=[]:=by rw [List.drop_eq_nil_of_le (by omega)];rfl
      refine Ev.step (fun k=>by rw [spec_l04List.l1]) (Ev.bind (among_ev d x (by omega)) ?_)
      refine evPos (decide_eq_true hx) ?_
      rw [decide_eq_false (show ¬ (next:Int)≤(order.length:Int) by omega)]
      refine Ev.step (fun k=>by simp only [spec_l04List.j2];rw [if_neg (by simp)]) (Ev.bind (among_ev d x (by omega)) ?_)
      refine evPos (decide_eq_true hx) ?_
      rw [w64 (by omega) (by omega)]
      exact hc hx e next (by omega) e
    · exact put next who of x h1 h2 hx (ha hx)
  | succ n ih =>
    intro next who of x hn h1 h2 ha hb hc
    by_cases hx:x ∈ d
    · refine Ev.step (fun k=>by rw [spec_l04List.l1]) (Ev.bind (among_ev d x (by omega)) ?_)
      refine evPos (decide_eq_true hx) ?_
      rw [decide_eq_true (show (next:Int)≤(order.length:Int) by omega)]
      by_cases hlt:next<order.length
      · refine Ev.step (fun k=>by simp only [spec_l04List.j2];rw [if_pos trivial,if_pos (by omega),if_pos (by omega),w64 (by omega) (by omega)];first | done | rfl) (ih (next+1) who of (rd order (next:Int)) (by omega) h1 h2 ?_ ?_ ?_)
        · intro hy
          have e:(order.drop next).filter (notIn d)=rd order (next:Int) :: (order.drop (next+1)).filter (notIn d):=by
            rw [List.drop_eq_getElem_cons hlt,show order[next]=rd order (next:Int) by simp [rd,List.getD_eq_getElem?_getD,List.getElem?_eq_getElem hlt],List.filter_cons_of_pos (notIn_pos hy)]
          exact hb hx _ _ e (next+1) (by omega) rfl
        · intro hy y q hq nx h3 h4
          have e:(order.drop next).filter (notIn d)=(order.drop (next+1)).filter (notIn d):=by
            rw [List.drop_eq_getElem_cons hlt,show order[next]=rd order (next:Int) by simp [rd,List.getD_eq_getElem?_getD,List.getElem?_eq_getElem hlt],List.filter_cons_of_neg (notIn_neg hy)]
          exact hb hx y q (e.trans hq) nx h3 h4
        · intro hy hq nx h3 h4
          have e:(order.drop next).filter (notIn d)=(order.drop (next+1)).filter (notIn d):=by
            rw [List.drop_eq_getElem_cons hlt,show order[next]=rd order (next:Int) by simp [rd,List.getD_eq_getElem?_getD,List.getElem?_eq_getElem hlt],List.filter_cons_of_neg (notIn_neg hy)]
          exact hc hx (e.trans hq) nx h3 h4
      · have e0:(order.drop next).filter (notIn d)=[]:=by rw [List.drop_eq_nil_of_le (by omega)];rfl
        refine Ev.step (fun k=>by simp only [spec_l04List.j2];rw [if_pos trivial,if_neg (by omega),w64 (by omega) (by omega)];first | done | rfl) (ih (next+1) who of x (by omega) h1 h2 (fun h=>absurd hx h) ?_ ?_)
        · intro _ y q hq
          rw [List.drop_eq_nil_of_le (by omega)] at hq
          cases hq
        · intro _ _ nx h3 h4
          exact hc hx e0 nx h3 h4
    · exact put next who of x h1 h2 hx (ha hx)
def standO (d:List Int):List Int→List Int→List Int
  | [],_=>[]
  | o :: r,q=>if o ∈ d then (match q with
      | []=>standO d r []
      | _ :: q'=>o :: standO d r q') else o :: standO d r q
theorem list_l0 (d order own:List Int) (hd:d.length≤1048576) (ho:order.length≤1048576) (hw:own.length≤1048576):∀ (s:List Int) (i next:Nat) (who of q:List Int),own.drop i=s→i≤own.length→next≤order.length+1→who.length≤i→of.length≤i→(order.drop next).filter (notIn d)=q →
    Ev (fun k=>spec_l04List.l0 k d order own (next:Int) who of (i:Int)) (who ++ standL d s q,of ++ standO d s q)
  | [],i,next,who,of,q,h,hi,hn,h1,h2,_=>by
    have:=dropNil' h hi
    refine Ev.step (f:=fun _=>some (who,of)) (fun k=>?_) (by simp only [standL,standO,List.append_nil];exact Ev.now _)
    simp only [spec_l04List.l0]
    rw [if_neg (by omega)]
  | o :: s,i,next,who,of,q,h,hi,hn,h1,h2,hq=>by
    obtain ⟨g1,g2,g3⟩:=dropCons h 0
    have hr:=rd_of g2
    have st:∀ {R:List Int × List Int},Ev (fun k=>spec_l04List.l1 k d order own (next:Int) who of (i:Int) o) R→Ev (fun k=>spec_l04List.l0 k d order own (next:Int) who of (i:Int)) R:=fun h =>
      Ev.step (fun k=>by simp only [spec_l04List.l0,hr];rw [if_pos (by omega),if_pos (by omega)]) h
    simp only [standL,standO]
    by_cases hx:o ∈ d
    · rw [if_pos hx,if_pos hx]
      cases q with
      | nil =>
        refine st (list_l1 d order own hd ho hw o i g1 hr (order.length+1-next) next who of o (by omega) h1 h2 (fun h=>absurd hx h) (fun _ y q e=>?_) (fun _ _ nx h3 h4=>?_))
        · rw [hq] at e;cases e
        · exact list_l0 d order own hd ho hw s (i+1) nx who of [] g3 (by omega) h3 (by omega) (by omega) h4
      | cons y q =>
        refine st (list_l1 d order own hd ho hw o i g1 hr (order.length+1-next) next who of o (by omega) h1 h2 (fun h=>absurd hx h) (fun _ y2 q2 e nx h3 h4=>?_) (fun _ e=>?_))
        · rw [hq] at e
          injection e with e1 e2
          subst e1
          subst e2
          have:=list_l0 d order own hd ho hw s (i+1) nx (who ++ [y]) (of ++ [o]) q g3 (by omega) h3 (by simp;omega) (by simp;omega) h4
          rw [List.append_assoc,List.singleton_append,List.append_assoc,List.singleton_append] at this
          exact this
        · rw [hq] at e;cases e
    · rw [if_neg hx,if_neg hx]
      have:=list_l0 d order own hd ho hw s (i+1) next (who ++ [o]) (of ++ [o]) q g3 (by omega) hn (by simp;omega) (by simp;omega) hq
      rw [List.append_assoc,List.singleton_append,List.append_assoc,List.singleton_append] at this
      exact st (list_l1 d order own hd ho hw o i g1 hr (order.length+1-next) next who of o (by omega) h1 h2 (fun _=>this) (fun h=>absurd h hx) (fun h=>absurd h hx))
theorem l04List_ev (n:Int) (l:List Tok) (key:ByteArray) (m:Nat) (d:List Int) (hl:l.length≤1048576) (hk:key.size≤1048576) (hd:d.length≤1048576) :
    Ev (fun k=>spec_l04List.f k n l key (m:Int) d) (standAt l (fnv key) m d,standO d (ownersL l (fnv key) m) (((orderL l (fnv key)).drop (ownersL l (fnv key) m).length).filter (notIn d))):=by
  have hol:=orderL_length l (fnv key)
  have hwl:=ownersL_length l (fnv key) m
  have hwo:(ownersL l (fnv key) m).length≤(orderL l (fnv key)).length:=by
    unfold ownersL
    rw [List.length_take]
    omega
  refine Ev.bind (l04Order_ev n l key hl hk) (Ev.bind (l04Owners_ev n l key m hl hk) ?_)
  have:=list_l0 d (orderL l (fnv key)) (ownersL l (fnv key) m) hd (by omega) (by omega) (ownersL l (fnv key) m) 0 (ownersL l (fnv key) m).length [] [] _ rfl (by omega) (by omega) (by simp) (by simp) rfl
  rw [List.nil_append,List.nil_append] at this
  exact this
theorem spec_StandIns_ev (n:Int) (l:List Tok) (key:ByteArray) (m:Int) (d:List Int) (hl:l.length≤1048576) (hk:key.size≤1048576) (hd:d.length≤1048576):Ev (fun k=>spec_StandIns.f k n l key m d) (standOut n l key m d):=by
  unfold spec_StandIns.f standOut keyed
  have jT:Ev (fun k=>spec_StandIns.j0 k key m d true n l) []:=Ev.step (f:=fun _=>some []) (fun k=>by simp [spec_StandIns.j0]) (Ev.now _)
  refine Ev.bind (spec_RingRight_ev n l hl) ?_
  cases ringOk n l with
  | false=>exact evNeg (by simp) jT
  | true =>
    refine evPos rfl (Ev.bind (spec_NameRight_ev key hk) ?_)
    cases nameOk key with
    | false=>exact evNeg (by simp) jT
    | true =>
      refine evPos rfl (evBind1 (l02Node_is _) ?_)
      cases hm:isNode m with
      | false=>exact evNeg (by simp) jT
      | true =>
        refine evPos rfl (Ev.bind (down_ev d hd) ?_)
        cases risesFrom 0 d with
        | false=>exact jT
        | true =>
          have hm':=(isNode_iff m).1 hm
          obtain ⟨m,rfl⟩:=Int.eq_ofNat_of_zero_le (show 0≤m by omega)
          exact Ev.step (fun k=>by simp only [spec_StandIns.j0];rw [if_neg (by simp)]) (Ev.bind (l04List_ev n l key m d hl hk hd) (Ev.now _))
end Go.Proofs.YtelanedlpedfcaaDoor.Q

namespace Go.Proofs.YtelanedlpedfcaaDoor.Pure
open Go.RowKit Go.Proofs.YtelanedlpedfcaaDoor.P Go.Proofs.YtelanedlpedfcaaDoor.Q Go.Proofs.YtelanedlpedfcaaDoorW.PrintWords Go.Proofs.YtelanedlpedfcaaDoorW.PrintMore
theorem FnExactStandIns:laws_FnExactStandIns.Pure:=by
  intro x key m d hx _ _ hdl
  have hl:x.f1.length≤9223372036854775807:=hx.2.1
  refine Ev.rounds ?_
  unfold laws_FnExactStandIns.f
  refine evIte (fun _=>Ev.now _) (fun hk0=>evIte (fun _=>Ev.now _) (fun hd0=>?_))
  have hk:key.size≤1048576:=by omega
  have hd:d.length≤1048576:=by omega
  refine evBind1 (szRing_is x.f0 x.f1 _ (by omega) (by omega) hl) (evIte (fun _=>Ev.now _) (fun h=>?_))
  have hl':x.f1.length≤1048576:=by
    split at h <;> omega
  have ta:=toRing_ev x.f0 x.f1 hl'
  have td:=toInt64S_ev d hd
  have ga:(x.f1.map toTok).length≤1048576:=by simpa using hl'
  generalize x.f1.map toTok=l at ta ga
  generalize x.f0=n at *
  have s1:=spec_StandIns_ev n l key m d ga hk hd
  have s2:=impl_StandIns_ev n l key m d ga hk hd
  have hj:=standOut_length n l key m d ga
  generalize standOut n l key m d=r at s1 s2 hj
  have eo:=eqInt64S_ev r (by omega)
  have ho:=heldInt64S_ev r 1 (by omega) (by omega)
  refine Ev.bind ta (Ev.bind td (Ev.bind s1 (Ev.bind ta (Ev.bind td (Ev.bind s2 (Ev.bind eo (evPos rfl ?_)))))))
  refine Ev.bind ta (Ev.bind (eqRing_ev n l (by omega)) (evPos rfl (Ev.bind td (Ev.bind (eqInt64S_ev d (by omega)) (evPos rfl ?_)))))
  refine Ev.bind (markRing_ev n l 1 (by omega) (by omega)) (Ev.bind (markInt64S_ev d _ (by omega) (by omega)) (evNeg (by omega) (Ev.bind eo ?_)))
  refine Ev.step (fun k=>by simp only [laws_FnExactStandIns.j0];rw [if_neg (by simp)]) ?_
  refine Ev.bind (markInt64S_ev r 1 (by omega) (by omega)) (Ev.bind ho (evNeg (by omega) (evPos rfl ?_)))
  exact Ev.bind ta (Ev.bind td (Ev.bind s2 (Ev.bind eo (evPos rfl (Ev.bind ho (evNeg (by omega) (evPos rfl (Ev.now _))))))))
end Go.Proofs.YtelanedlpedfcaaDoor.Pure

namespace Go.Proofs.YtelanedlpedfcaaDoor.fnExactStandIns
open Go.ChangeShapes Go.WideShapes Go.ChangeAt Go.RowKit Go.Proofs.YtelanedlpedfcaaDoor.P Go.Proofs.YtelanedlpedfcaaDoor.RO Go.Proofs.YtelanedlpedfcaaDoor.Open Go.Proofs.YtelanedlpedfcaaDoorW.PrintWords
open Go.ChangeMaps (open_string shut_string)
set_option linter.unusedVariables false
theorem own:ownKnob Tryd.prog.godebug=none:=by kernel_rfl
theorem laidOut:laidOutB Tryd.prog=true:=by kernel_rfl
set_option maxRecDepth 100000 in
theorem lifted (os:Os) (started:os.Started) (H:Type) (enc:TypeId × Value→H) :
    ReturnsInHanded {} Tryd.checked os 4 .any (fun w args=>(Rows.fnExactStandInsSpec.pre enc Tryd.prog Tryd.f4 Rows.fnExactStandInsRow.domain false w args∧laidMetH Tryd.prog Rows.fnExactStandInsRow.laid w)∧sizedMet enc Tryd.prog Tryd.f4 (OpenSpec.ofChange Rows.fnExactStandInsSpec) false w args) (Rows.fnExactStandInsSpec.post enc Tryd.prog Tryd.f4 false true false false):=by
  refine returnsInHanded_of_change_and (C:=Tryd.checked) (X:=fun w _=>laidMetH Tryd.prog Rows.fnExactStandInsRow.laid w) (fun _ _ _ hh h=>h.of_heap hh) own started (by kernel_rfl) Tryd.func4
    (ChangeSpec.witness_shaped (enc:=enc) (C:=Tryd.checked) (X:=fun w _=>laidMetH Tryd.prog Rows.fnExactStandInsRow.laid w) false (World.laidAll Tryd.prog os Rows.fnExactStandInsRow.laid) #[.agg #[.int .i64 0,.slice none 0 0],.string ByteArray.empty,.int .i64 0,.slice none 0 0] 8 (World.laidAll_os _ _ _) (World.shaped_of_ZipB (by kernel_rfl) (by kernel_rfl)) (by kernel_rfl) (by kernel_rfl) (by kernel_rfl)
      (by rw [MakeChecks.laidMetH_plain _ _ _ (by kernel_rfl)];exact laidMet_laidAll _ (by kernel_rfl) (by kernel_rfl))) ?_
  intro W base args ds gs before hval0 hW hcnd hsz0 hL_ _
  have hsz:(DataW.weightsEach Tryd.prog (Tryd.f4.params.toList ++ Rows.fnExactStandInsSpec.plain.varTypes Tryd.prog) (ds ++ gs)).all (· ≤ reachBytes)=true:=hsz0
  have hval:∀ (j:Nat) t v,Tryd.f4.params[j]? = some t→args[j]? = some v→Value.okWide Tryd.prog W .any base t v:=hval0
  have hW':=hW
  obtain ⟨p,q,hA0,hV,rfl,hfz,hnd⟩:=hW
  have hA:DataW.TrodAll enc Tryd.prog W 0 (fun _=>true) true Tryd.f4.params.toList args.toList ds p:=hA0
  rw [Tryd.params4] at hA hval hsz
  obtain ⟨v0,vs0,d0,ds0,p0,q0,hargs,rfl,rfl,h0,r0⟩:=trodAll_cons hA
  obtain ⟨v1,vs1,d1,ds1,p1,q1,rfl,rfl,rfl,h1,r1⟩:=trodAll_cons r0
  obtain ⟨v2,vs2,d2,ds2,p2,q2,rfl,rfl,rfl,h2,r2⟩:=trodAll_cons r1
  obtain ⟨v3,vs3,d3,ds3,p3,q3,rfl,rfl,rfl,h3,r3⟩:=trodAll_cons r2
  obtain ⟨rfl,rfl,rfl⟩:=trodAll_nil r3
  obtain rfl:args=#[v0,v1,v2,v3]:=by cases args;simp_all
  obtain ⟨rfl,rfl⟩:=trodVars_none hV
  have k0:=h0
  have lt0:∀ x ∈ p0,x.block<W.heap.size:=by obtain ⟨m,hm⟩:=k0;exact DataW.trod_lt m _ _ _ hm
  obtain ⟨cs0,rfl,_⟩:=okWide_struct Tryd.underlying24 (hval 0 24 v0 rfl rfl)
  obtain ⟨fuel0,hf0⟩:=h0
  obtain ⟨x0,hk0,w0⟩:=op_T24 hf0
  obtain ⟨A0_1,c0_1,hcs0,hl0_1,hr0_1⟩:=k24_open hk0
  obtain rfl:cs0=#[.int .i64 x0.f0,.slice A0_1 x0.f1.length c0_1]:=Array.toList_inj.1 hcs0
  obtain ⟨x1,rfl,rfl,rfl,y1⟩:=open_string Tryd.underlying9 (hval 1 9 v1 rfl rfl) h1
  have w1:x1.size≤140737488351232:=by
    have z:=sized_string hsz (j:=1) (t:=9) rfl rfl
    rw [Array.length_toList] at z
    exact z
  obtain ⟨x2,rfl,rfl,rfl,w2⟩:=open_int Tryd.underlying2 (hval 2 2 v2 rfl rfl) h2
  have k3:=h3
  have lt3:∀ x ∈ p3,x.block<W.heap.size:=by obtain ⟨m,hm⟩:=k3;exact DataW.trod_lt m _ _ _ hm
  obtain ⟨a3,len3,cap3,rfl⟩:=okWide_slice Tryd.underlying26 (hval 3 26 v3 rfl rfl)
  obtain ⟨fuel3,hf3⟩:=h3
  obtain ⟨x3,hk3,w3⟩:=(opens_slice Tryd.underlying26 (by kernel_rfl) (opens_int Tryd.underlying2)) hf3
  obtain ⟨A3,c3,hcs3,hl3,hr3⟩:=hk3
  simp only [Value.cells] at hcs3
  injection hcs3 with hcs3 _
  injection hcs3 with e1_3 e2_3 e3_3
  subst e1_3 e2_3 e3_3
  clear hA0 hval0 hsz0 hsz
  obtain ⟨k,hp⟩:=Pure.FnExactStandIns x0 x1 x2 x3 w0 w1 w2 w3
  refine (P.laws_FnExactStandIns.calls k x0.f0 _ _ x0.f1 x1 x2 _ _ x3 true W hr0_1 hl0_1 hr3 hl3 hp).mono fun e W' ⟨he,bel0⟩=>?_
  have bel:Below W.heap.size W W':=bel0
  subst he
  exact ⟨_,rfl,_,_,_,[],_,[],hW',trodAll_mk1 (shut_bool Tryd.underlying4 _),(trodAll_cons_mk (Below.trod laidOut (by kernel_rfl) (of_decide_eq_true (by kernel_rfl)) k0 bel lt0) (trodAll_cons_mk (shut_string Tryd.underlying9 y1) (trodAll_cons_mk (shut_int Tryd.underlying2 w2) (trodAll_cons_mk (Below.trod laidOut (by kernel_rfl) (of_decide_eq_true (by kernel_rfl)) k3 bel lt3) trodAll_mk0)))),rfl,bel.frame _,fun h=>by cases h⟩
theorem over:Rows.fnExactStandInsRow.holds Tryd.pinned (OpenSpec.ofChange Rows.fnExactStandInsSpec) :=
  OpenClaim.holds_of_wide 4 Tryd.f4 rfl rfl rfl rfl rfl rfl rfl ⟨rfl,rfl,rfl,rfl,rfl⟩ rfl rfl rfl rfl rfl (by kernel_rfl) Tryd.func4 (by kernel_rfl)
    (of_decide_eq_true (by kernel_rfl)) (by unfold Func.isWrapper;first | (rw [if_pos (by decide +kernel)];kernel_rfl) | (rw [if_neg (by decide +kernel)];exact ⟨rfl,rfl⟩))
    (fun os started H enc _=>lifted os started H enc)
theorem proved:Rows.FnExactStandInsSaid:=over
theorem card:Rows.FnExactStandInsCardSaid :=
  Claim7.holds_tied_plain_at .later [] [.data,.data,.data] true (true, "a9abe269dae01b3a329e467ae548f08c51b159d510e2a1f1595eed80b4f39ae3") false proved (fun _ h=>by cases h) (by kernel_rfl) (fun _ h=>by cases h) fnExactStandIns_row_tie rfl ⟨rfl,rfl⟩ (by kernel_rfl) rfl
    (fun f fn hf hfn=>by
      obtain rfl:f=4:=Option.some.inj ((show Tryd.prog.funcNamed Rows.fnExactStandInsRow.func=some 4 by kernel_rfl).symm.trans hf) |>.symm
      obtain rfl:fn=Tryd.f4:=(Option.some.inj (Tryd.func4.symm.trans hfn)).symm
      exact ⟨by kernel_rfl,fun j t ht=>by
        rw [Tryd.params4] at ht
        have h_:t ∈ [24,9,2,26]:=by have:=Array.mem_of_getElem? ht;simpa using this
        have hs_:∀ x ∈ [24,9,2,26],Tryd.prog.wantsStandIn x=false:=by
          intro x hx
          simp only [List.mem_cons,List.not_mem_nil,or_false] at hx
          rcases hx with rfl | rfl | rfl | rfl <;> kernel_rfl
        exact hs_ t h_⟩)
    (by kernel_rfl)
#print axioms card
#print axioms proved
end Go.Proofs.YtelanedlpedfcaaDoor.fnExactStandIns
namespace Go.Proofs.YtelanedlpedfcaaDoor
/-- The row, under a short name, for the claim. -/
theorem fnExactStandIns_holds:Rows.FnExactStandInsCardSaid:=fnExactStandIns.card
end Go.Proofs.YtelanedlpedfcaaDoor
