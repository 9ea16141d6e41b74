/- For all sets the program's SetSync and the reference's return the same, of its own memory, and leave what they are given. No condition. (Part 5 of 6: written by programs of this workplace and by hand, merged.) -/
import Derived.Test.YtphbgcfpcadabaaMFnExactSetSynca
import Derived.Test.YtphbgcfpcadabaaMFnExactSetSyncb
import Derived.Test.YtphbgcfpcadabaaMFnExactSetSyncd
import Derived.Test.YtphbgcfpcadabaaMFnExactSetSyncWWords
import Derived.Test.YtphbgcfpcadabaaMFnExactSetSyncWMore
import Derived.Laws.BitsLemmas
import Derived.Test.YtphbgcfpcadabaaMFnExactSetSyncc
set_option linter.unusedVariables false
set_option linter.unusedSimpArgs false

namespace Go.Proofs.Ytphbgcfpcadabaa.P
open Go.RowKit Go.Proofs.YtphbgcfpcadabaaW.PrintWords Go.Proofs.YtphbgcfpcadabaaW.PrintLast Go.Proofs.YtphbgcfpcadabaaW.PrintMore
attribute [local go_sem] max2_int min2_int max_two min_two max_three min_three max_four min_four   -- for this text's walks alone
set_option linter.unusedVariables false
set_option linter.unusedSimpArgs false

/-! ### laws_FnExactSetSync: function 5 -/
def laws_FnExactSetSync.j0:Nat→Bool→List (S100)→List (S107)→List (S100)→List (S107)→List (S56)→List (S91)→Int→Int→Int→List (S56)→List (S91)→Int→Int→Int→Option (Bool)
 | 0,_,_,_,_,_,_,_,_,_,_,_,_,_,_,_=>none
 | k+1,x63,x664000,x664001,x665000,x665001,x689000,x689001,x689002,x689003,x689004,x713000,x713001,x713002,x713003,x713004=>if x63=true then (none) else ((laws_markSetOut.f k x713000 x713001 x713002 x713003 x713004 1).bind fun bt735=>((laws_heldSetOut.f k bt735.2.1 bt735.2.2 x713002 x713003 x713004 1).bind fun t738=>(if t738<0 then (none) else (if t738=bt735.1 then ((laws_toSet.f k x664000 x664001).bind fun bt739=>((laws_toSet.f k x665000 x665001).bind fun bt745=>((impl_SetSync.f k bt739.1 bt739.2 bt745.1 bt745.2).bind fun bt751=>((laws_eqSetOut.f k bt751.1 bt751.2.1 bt751.2.2.1 bt751.2.2.2.1 bt751.2.2.2.2 x689000 x689001 x689002 x689003 x689004).bind fun t761=>(if t761=true then ((laws_heldSetOut.f k bt735.2.1 bt735.2.2 x713002 x713003 x713004 1).bind fun t762=>(if t762<0 then (none) else (if t762=bt735.1 then (some true) else (none)))) else (none)))))) else (none)))))
def laws_FnExactSetSync.f (k:Nat) (l0_0:List (S100)) (l0_1:List (S107)) (l1_0:List (S100)) (l1_1:List (S107)):Option (Bool):=(laws_szSet.f k l0_0 l0_1 1048576).bind fun t665=>(if t665<0 then (some true) else ((laws_szSet.f k l1_0 l1_1 t665).bind fun t666=>(if t666<0 then (some true) else ((laws_toSet.f k l0_0 l0_1).bind fun bt667=>((laws_toSet.f k l1_0 l1_1).bind fun bt673=>((spec_SetSync.f k bt667.1 bt667.2 bt673.1 bt673.2).bind fun bt679=>((laws_toSet.f k l0_0 l0_1).bind fun bt689=>((laws_toSet.f k l1_0 l1_1).bind fun bt696=>((impl_SetSync.f k bt689.1 bt689.2 bt696.1 bt696.2).bind fun bt703=>((laws_eqSetOut.f k bt703.1 bt703.2.1 bt703.2.2.1 bt703.2.2.2.1 bt703.2.2.2.2 bt679.1 bt679.2.1 bt679.2.2.1 bt679.2.2.2.1 bt679.2.2.2.2).bind fun t713=>(if t713=true then ((laws_toSet.f k l0_0 l0_1).bind fun bt714=>((laws_eqSet.f k bt689.1 bt689.2 bt714.1 bt714.2).bind fun t720=>(if t720=true then ((laws_toSet.f k l1_0 l1_1).bind fun bt721=>((laws_eqSet.f k bt696.1 bt696.2 bt721.1 bt721.2).bind fun t727=>(if t727=true then ((laws_markSet.f k bt689.1 bt689.2 1).bind fun bt728=>((laws_markSet.f k bt696.1 bt696.2 bt728.1).bind fun bt731=>(if bt731.1<0 then (laws_FnExactSetSync.j0 k true l0_0 l0_1 l1_0 l1_1 bt679.1 bt679.2.1 bt679.2.2.1 bt679.2.2.2.1 bt679.2.2.2.2 bt703.1 bt703.2.1 bt703.2.2.1 bt703.2.2.2.1 bt703.2.2.2.2) else ((laws_eqSetOut.f k bt703.1 bt703.2.1 bt703.2.2.1 bt703.2.2.2.1 bt703.2.2.2.2 bt679.1 bt679.2.1 bt679.2.2.1 bt679.2.2.2.1 bt679.2.2.2.2).bind fun t734=>(laws_FnExactSetSync.j0 k (!t734) l0_0 l0_1 l1_0 l1_1 bt679.1 bt679.2.1 bt679.2.2.1 bt679.2.2.2.1 bt679.2.2.2.2 bt703.1 bt703.2.1 bt703.2.2.1 bt703.2.2.2.1 bt703.2.2.2.2))))) else (none)))) else (none)))) else (none))))))))))))
theorem laws_FnExactSetSync.mono_l:∀ k,(∀ y0 y1 y2 y3 y4 y5 y6 y7 y8 y9 y10 y11 y12 y13 y14,LeO (laws_FnExactSetSync.j0 k y0 y1 y2 y3 y4 y5 y6 y7 y8 y9 y10 y11 y12 y13 y14) (laws_FnExactSetSync.j0 (k+1) y0 y1 y2 y3 y4 y5 y6 y7 y8 y9 y10 y11 y12 y13 y14))
 | 0=>fun _ _ _ _ _ _ _ _ _ _ _ _ _ _ _ r h=>by simp [laws_FnExactSetSync.j0] at h
 | k+1=>by
  have ih0:=laws_FnExactSetSync.mono_l k
  ·intro y0 y1 y2 y3 y4 y5 y6 y7 y8 y9 y10 y11 y12 y13 y14
   unfold laws_FnExactSetSync.j0
   repeat' first
   | (with_reducible exact ih0 _ _ _ _ _ _ _ _ _ _ _ _ _ _ _)
   | (with_reducible exact impl_SetSync.mono _ _ _ _ _)
   | (with_reducible exact laws_eqSet.mono _ _ _ _ _)
   | (with_reducible exact laws_eqSetOut.mono _ _ _ _ _ _ _ _ _ _ _)
   | (with_reducible exact laws_heldSetOut.mono _ _ _ _ _ _ _)
   | (with_reducible exact laws_markSet.mono _ _ _ _)
   | (with_reducible exact laws_markSetOut.mono _ _ _ _ _ _ _)
   | (with_reducible exact laws_szSet.mono _ _ _ _)
   | (with_reducible exact laws_toSet.mono _ _ _)
   | (with_reducible exact spec_SetSync.mono _ _ _ _ _)
   | (with_reducible exact LeO.refl _)
   | (with_reducible exact LeO.none _)
   | (with_reducible refine LeO.ite ?_ ?_)
   | (with_reducible refine LeO.bind ?_ (fun _=>?_))
   | exact ih0 _ _ _ _ _ _ _ _ _ _ _ _ _ _ _
   | exact impl_SetSync.mono _ _ _ _ _
   | exact laws_eqSet.mono _ _ _ _ _
   | exact laws_eqSetOut.mono _ _ _ _ _ _ _ _ _ _ _
   | exact laws_heldSetOut.mono _ _ _ _ _ _ _
   | exact laws_markSet.mono _ _ _ _
   | exact laws_markSetOut.mono _ _ _ _ _ _ _
   | exact laws_szSet.mono _ _ _ _
   | exact laws_toSet.mono _ _ _
   | exact spec_SetSync.mono _ _ _ _ _
   | exact LeO.none _
   | refine LeO.ite ?_ ?_
   | refine LeO.bind ?_ (fun _=>?_)
theorem laws_FnExactSetSync.mono:∀ a0 a1 a2 a3 k,LeO (laws_FnExactSetSync.f k a0 a1 a2 a3) (laws_FnExactSetSync.f (k+1) a0 a1 a2 a3):=by
 intro a0 a1 a2 a3 k
 have ih0:=laws_FnExactSetSync.mono_l k
 unfold laws_FnExactSetSync.f
 repeat' first
   | (with_reducible exact ih0 _ _ _ _ _ _ _ _ _ _ _ _ _ _ _)
   | (with_reducible exact impl_SetSync.mono _ _ _ _ _)
   | (with_reducible exact laws_eqSet.mono _ _ _ _ _)
   | (with_reducible exact laws_eqSetOut.mono _ _ _ _ _ _ _ _ _ _ _)
   | (with_reducible exact laws_heldSetOut.mono _ _ _ _ _ _ _)
   | (with_reducible exact laws_markSet.mono _ _ _ _)
   | (with_reducible exact laws_markSetOut.mono _ _ _ _ _ _ _)
   | (with_reducible exact laws_szSet.mono _ _ _ _)
   | (with_reducible exact laws_toSet.mono _ _ _)
   | (with_reducible exact spec_SetSync.mono _ _ _ _ _)
   | (with_reducible exact LeO.refl _)
   | (with_reducible exact LeO.none _)
   | (with_reducible refine LeO.ite ?_ ?_)
   | (with_reducible refine LeO.bind ?_ (fun _=>?_))
   | exact ih0 _ _ _ _ _ _ _ _ _ _ _ _ _ _ _
   | exact impl_SetSync.mono _ _ _ _ _
   | exact laws_eqSet.mono _ _ _ _ _
   | exact laws_eqSetOut.mono _ _ _ _ _ _ _ _ _ _ _
   | exact laws_heldSetOut.mono _ _ _ _ _ _ _
   | exact laws_markSet.mono _ _ _ _
   | exact laws_markSetOut.mono _ _ _ _ _ _ _
   | exact laws_szSet.mono _ _ _ _
   | exact laws_toSet.mono _ _ _
   | exact spec_SetSync.mono _ _ _ _ _
   | exact LeO.none _
   | refine LeO.ite ?_ ?_
   | refine LeO.bind ?_ (fun _=>?_)
set_option maxHeartbeats 8000000 in
set_option maxRecDepth 100000 in
theorem laws_FnExactSetSync.calls (k:Nat) (A0_0:Option Addr) (c0_0:Nat) (l0_0:List (S100)) (A0_1:Option Addr) (c0_1:Nat) (l0_1:List (S107)) (A1_0:Option Addr) (c1_0:Nat) (l1_0:List (S100)) (A1_1:Option Addr) (c1_1:Nat) (l1_1:List (S107)) (r:Bool) (w:World) (hr0_0:Kd.C k100 w A0_0 l0_0.length l0_0) (hc0_0:l0_0.length≤c0_0) (hr0_1:Kd.C k107 w A0_1 l0_1.length l0_1) (hc0_1:l0_1.length≤c0_1) (hr1_0:Kd.C k100 w A1_0 l1_0.length l1_0) (hc1_0:l1_0.length≤c1_0) (hr1_1:Kd.C k107 w A1_1 l1_1.length l1_1) (hc1_1:l1_1.length≤c1_1) (h:laws_FnExactSetSync.f k l0_0 l0_1 l1_0 l1_1=some r) :
  Calls Try.prog 5 #[.agg #[.slice A0_0 l0_0.length c0_0,.slice A0_1 l0_1.length c0_1],.agg #[.slice A1_0 l1_0.length c1_0,.slice A1_1 l1_1.length c1_1]] w fun e w'=>e = .returned (.bool r)∧Below w.heap.size w w':=by
 have hu32:=Try.underlying32
 have hu58:=Try.underlying58
 have hu40:=Try.underlying40
 have HR0_0:=Aside0.mk hr0_0
 have HC0_0:=Aside0.mk hc0_0
 clear hr0_0 hc0_0
 have HR0_1:=Aside0.mk hr0_1
 have HC0_1:=Aside0.mk hc0_1
 clear hr0_1 hc0_1
 have HR1_0:=Aside0.mk hr1_0
 have HC1_0:=Aside0.mk hc1_0
 clear hr1_0 hc1_0
 have HR1_1:=Aside0.mk hr1_1
 have HC1_1:=Aside0.mk hc1_1
 clear hr1_1 hc1_1
 have HB:=Aside0.mk (Below.refl w.heap.size w)
 have H:((laws_szSet.f k l0_0 l0_1 1048576).bind fun t665=>(if t665<0 then (some true) else ((laws_szSet.f k l1_0 l1_1 t665).bind fun t666=>(if t666<0 then (some true) else ((laws_toSet.f k l0_0 l0_1).bind fun bt667=>((laws_toSet.f k l1_0 l1_1).bind fun bt673=>((spec_SetSync.f k bt667.1 bt667.2 bt673.1 bt673.2).bind fun bt679=>((laws_toSet.f k l0_0 l0_1).bind fun bt689=>((laws_toSet.f k l1_0 l1_1).bind fun bt696=>((impl_SetSync.f k bt689.1 bt689.2 bt696.1 bt696.2).bind fun bt703=>((laws_eqSetOut.f k bt703.1 bt703.2.1 bt703.2.2.1 bt703.2.2.2.1 bt703.2.2.2.2 bt679.1 bt679.2.1 bt679.2.2.1 bt679.2.2.2.1 bt679.2.2.2.2).bind fun t713=>(if t713=true then ((laws_toSet.f k l0_0 l0_1).bind fun bt714=>((laws_eqSet.f k bt689.1 bt689.2 bt714.1 bt714.2).bind fun t720=>(if t720=true then ((laws_toSet.f k l1_0 l1_1).bind fun bt721=>((laws_eqSet.f k bt696.1 bt696.2 bt721.1 bt721.2).bind fun t727=>(if t727=true then ((laws_markSet.f k bt689.1 bt689.2 1).bind fun bt728=>((laws_markSet.f k bt696.1 bt696.2 bt728.1).bind fun bt731=>(if bt731.1<0 then (laws_FnExactSetSync.j0 k true l0_0 l0_1 l1_0 l1_1 bt679.1 bt679.2.1 bt679.2.2.1 bt679.2.2.2.1 bt679.2.2.2.2 bt703.1 bt703.2.1 bt703.2.2.1 bt703.2.2.2.1 bt703.2.2.2.2) else ((laws_eqSetOut.f k bt703.1 bt703.2.1 bt703.2.2.1 bt703.2.2.2.1 bt703.2.2.2.2 bt679.1 bt679.2.1 bt679.2.2.1 bt679.2.2.2.1 bt679.2.2.2.2).bind fun t734=>(laws_FnExactSetSync.j0 k (!t734) l0_0 l0_1 l1_0 l1_1 bt679.1 bt679.2.1 bt679.2.2.1 bt679.2.2.2.1 bt679.2.2.2.2 bt703.1 bt703.2.1 bt703.2.2.1 bt703.2.2.2.1 bt703.2.2.2.2))))) else (none)))) else (none)))) else (none)))))))))))))=some r:=h
 clear h
 replace H:=Option.bind_eq_some_iff.mp H
 obtain ⟨t665,A30,H⟩:=H
 replace H:(if t665<0 then (some true) else ((laws_szSet.f k l1_0 l1_1 t665).bind fun t666=>(if t666<0 then (some true) else ((laws_toSet.f k l0_0 l0_1).bind fun bt667=>((laws_toSet.f k l1_0 l1_1).bind fun bt673=>((spec_SetSync.f k bt667.1 bt667.2 bt673.1 bt673.2).bind fun bt679=>((laws_toSet.f k l0_0 l0_1).bind fun bt689=>((laws_toSet.f k l1_0 l1_1).bind fun bt696=>((impl_SetSync.f k bt689.1 bt689.2 bt696.1 bt696.2).bind fun bt703=>((laws_eqSetOut.f k bt703.1 bt703.2.1 bt703.2.2.1 bt703.2.2.2.1 bt703.2.2.2.2 bt679.1 bt679.2.1 bt679.2.2.1 bt679.2.2.2.1 bt679.2.2.2.2).bind fun t713=>(if t713=true then ((laws_toSet.f k l0_0 l0_1).bind fun bt714=>((laws_eqSet.f k bt689.1 bt689.2 bt714.1 bt714.2).bind fun t720=>(if t720=true then ((laws_toSet.f k l1_0 l1_1).bind fun bt721=>((laws_eqSet.f k bt696.1 bt696.2 bt721.1 bt721.2).bind fun t727=>(if t727=true then ((laws_markSet.f k bt689.1 bt689.2 1).bind fun bt728=>((laws_markSet.f k bt696.1 bt696.2 bt728.1).bind fun bt731=>(if bt731.1<0 then (laws_FnExactSetSync.j0 k true l0_0 l0_1 l1_0 l1_1 bt679.1 bt679.2.1 bt679.2.2.1 bt679.2.2.2.1 bt679.2.2.2.2 bt703.1 bt703.2.1 bt703.2.2.1 bt703.2.2.2.1 bt703.2.2.2.2) else ((laws_eqSetOut.f k bt703.1 bt703.2.1 bt703.2.2.1 bt703.2.2.2.1 bt703.2.2.2.2 bt679.1 bt679.2.1 bt679.2.2.1 bt679.2.2.2.1 bt679.2.2.2.2).bind fun t734=>(laws_FnExactSetSync.j0 k (!t734) l0_0 l0_1 l1_0 l1_1 bt679.1 bt679.2.1 bt679.2.2.1 bt679.2.2.2.1 bt679.2.2.2.2 bt703.1 bt703.2.1 bt703.2.2.1 bt703.2.2.2.1 bt703.2.2.2.2))))) else (none)))) else (none)))) else (none))))))))))))=some r:=H
 have A3:=Aside0.mk A30
 clear A30
 by_cases c4:t665<0
 ·rw [if_pos c4] at H
  have c4b0:decide (t665<0)=true:=decide_eq_true c4
  clear c4
  obtain rfl:=Option.some.inj H
  go_enter Try.func5,Try.ntmps5
  go_wp2_with (first | ((with_reducible refine gd_ 2 ?_);refine be_ 2 #[.slice A0_0 l0_0.length c0_0,.slice A0_1 l0_1.length c0_1] 32 ?_;intro gb663 hg w5 hbox hb;refine as4_ (below_step (z4_ HB.out) hb) (hbox) ((z7_ HB.out:w.heap.size≤gb663)) ((z7_ HB.out:w.heap.size≤gb663)) ?_;clear HB;intro HB BK663 GW663 GE663;clear hb hbox hg) | ((with_reducible refine gd_ 3 ?_);refine be_ 3 #[.slice A1_0 l1_0.length c1_0,.slice A1_1 l1_1.length c1_1] 32 ?_;intro gb664 hg w6 hbox hb;refine as7_ (blkB_ BK663.out hb) (below_step (z5_ HB.out GE663.out) hb) (hbox) ((z10_ HB.out GE663.out:w.heap.size≤gb664)) ((z10_ HB.out GE663.out:w.heap.size≤gb664)) (neL_ BK663.out hg) (neG_ BK663.out hg) ?_;clear BK663 HB;intro BK663 HB BK664 GW664 GE664 NB663_664 NB664_663;clear hb hbox hg;have hnb7:=NB663_664.out;have hnc7:=NB664_663.out;have ⟨hcz8_0,hcz8_1,hfz8_0,hfz8_1⟩:=cz2_ BK663.out) | ((with_reducible refine gc_ 12 ?_);refine gl_ (some 16) Try.func12 #[.agg #[.slice A0_0 l0_0.length c0_0,.slice A0_1 l0_1.length c0_1],.int .i64 1048576] ?_;(with_reducible refine (laws_szSet.calls k _ _ l0_0 _ _ l0_1 1048576 t665 _ ?s1 ?s2 ?s3 ?s4 A3.out).mono ?_);(case s1=>repeat (first | exact (Kd.C_below HR0_0.out HB.out) | (with_reducible refine Kd.C_alloc ?_ _) | (with_reducible refine Kd.C_drewN ?_ _) | (with_reducible refine Kd.C_drew ?_)));(case s2=>exact HC0_0.out);(case s3=>repeat (first | exact (Kd.C_below HR0_1.out HB.out) | (with_reducible refine Kd.C_alloc ?_ _) | (with_reducible refine Kd.C_drewN ?_ _) | (with_reducible refine Kd.C_drew ?_)));(case s4=>exact HC0_1.out);rintro e w9 ⟨rfl,hb⟩;refine ⟨_,rfl,?_⟩;refine as3_ (blkB_ BK663.out hb) (blkB_ BK664.out hb) (below_step (z6_ HB.out GE663.out GE664.out) hb) ?_;clear BK663 BK664 HB;intro BK663 BK664 HB;(try clear hb)))
  go_ret
  exact ⟨z8_,z6_ HB.out GE663.out GE664.out⟩
 ·rw [if_neg c4] at H
  have c4b0:decide (t665<0)=false:=decide_eq_false c4
  clear c4
  replace H:=Option.bind_eq_some_iff.mp H
  obtain ⟨t666,A100,H⟩:=H
  replace H:(if t666<0 then (some true) else ((laws_toSet.f k l0_0 l0_1).bind fun bt667=>((laws_toSet.f k l1_0 l1_1).bind fun bt673=>((spec_SetSync.f k bt667.1 bt667.2 bt673.1 bt673.2).bind fun bt679=>((laws_toSet.f k l0_0 l0_1).bind fun bt689=>((laws_toSet.f k l1_0 l1_1).bind fun bt696=>((impl_SetSync.f k bt689.1 bt689.2 bt696.1 bt696.2).bind fun bt703=>((laws_eqSetOut.f k bt703.1 bt703.2.1 bt703.2.2.1 bt703.2.2.2.1 bt703.2.2.2.2 bt679.1 bt679.2.1 bt679.2.2.1 bt679.2.2.2.1 bt679.2.2.2.2).bind fun t713=>(if t713=true then ((laws_toSet.f k l0_0 l0_1).bind fun bt714=>((laws_eqSet.f k bt689.1 bt689.2 bt714.1 bt714.2).bind fun t720=>(if t720=true then ((laws_toSet.f k l1_0 l1_1).bind fun bt721=>((laws_eqSet.f k bt696.1 bt696.2 bt721.1 bt721.2).bind fun t727=>(if t727=true then ((laws_markSet.f k bt689.1 bt689.2 1).bind fun bt728=>((laws_markSet.f k bt696.1 bt696.2 bt728.1).bind fun bt731=>(if bt731.1<0 then (laws_FnExactSetSync.j0 k true l0_0 l0_1 l1_0 l1_1 bt679.1 bt679.2.1 bt679.2.2.1 bt679.2.2.2.1 bt679.2.2.2.2 bt703.1 bt703.2.1 bt703.2.2.1 bt703.2.2.2.1 bt703.2.2.2.2) else ((laws_eqSetOut.f k bt703.1 bt703.2.1 bt703.2.2.1 bt703.2.2.2.1 bt703.2.2.2.2 bt679.1 bt679.2.1 bt679.2.2.1 bt679.2.2.2.1 bt679.2.2.2.2).bind fun t734=>(laws_FnExactSetSync.j0 k (!t734) l0_0 l0_1 l1_0 l1_1 bt679.1 bt679.2.1 bt679.2.2.1 bt679.2.2.2.1 bt679.2.2.2.2 bt703.1 bt703.2.1 bt703.2.2.1 bt703.2.2.2.1 bt703.2.2.2.2))))) else (none)))) else (none)))) else (none))))))))))=some r:=H
  have A10:=Aside0.mk A100
  clear A100
  by_cases c11:t666<0
  ·rw [if_pos c11] at H
   have c11b0:decide (t666<0)=true:=decide_eq_true c11
   clear c11
   obtain rfl:=Option.some.inj H
   go_enter Try.func5,Try.ntmps5
   go_wp2_with (first | ((with_reducible refine gd_ 2 ?_);refine be_ 2 #[.slice A0_0 l0_0.length c0_0,.slice A0_1 l0_1.length c0_1] 32 ?_;intro gb663 hg w12 hbox hb;refine as4_ (below_step (z4_ HB.out) hb) (hbox) ((z7_ HB.out:w.heap.size≤gb663)) ((z7_ HB.out:w.heap.size≤gb663)) ?_;clear HB;intro HB BK663 GW663 GE663;clear hb hbox hg) | ((with_reducible refine gd_ 3 ?_);refine be_ 3 #[.slice A1_0 l1_0.length c1_0,.slice A1_1 l1_1.length c1_1] 32 ?_;intro gb664 hg w13 hbox hb;refine as7_ (blkB_ BK663.out hb) (below_step (z5_ HB.out GE663.out) hb) (hbox) ((z10_ HB.out GE663.out:w.heap.size≤gb664)) ((z10_ HB.out GE663.out:w.heap.size≤gb664)) (neL_ BK663.out hg) (neG_ BK663.out hg) ?_;clear BK663 HB;intro BK663 HB BK664 GW664 GE664 NB663_664 NB664_663;clear hb hbox hg;have hnb14:=NB663_664.out;have hnc14:=NB664_663.out;have ⟨hcz15_0,hcz15_1,hfz15_0,hfz15_1⟩:=cz2_ BK663.out) | ((with_reducible refine gc_ 12 ?_);refine gl_ (some 16) Try.func12 #[.agg #[.slice A0_0 l0_0.length c0_0,.slice A0_1 l0_1.length c0_1],.int .i64 1048576] ?_;(with_reducible refine (laws_szSet.calls k _ _ l0_0 _ _ l0_1 1048576 t665 _ ?s1 ?s2 ?s3 ?s4 A3.out).mono ?_);(case s1=>repeat (first | exact (Kd.C_below HR0_0.out HB.out) | (with_reducible refine Kd.C_alloc ?_ _) | (with_reducible refine Kd.C_drewN ?_ _) | (with_reducible refine Kd.C_drew ?_)));(case s2=>exact HC0_0.out);(case s3=>repeat (first | exact (Kd.C_below HR0_1.out HB.out) | (with_reducible refine Kd.C_alloc ?_ _) | (with_reducible refine Kd.C_drewN ?_ _) | (with_reducible refine Kd.C_drew ?_)));(case s4=>exact HC0_1.out);rintro e w16 ⟨rfl,hb⟩;refine ⟨_,rfl,?_⟩;refine as3_ (blkB_ BK663.out hb) (blkB_ BK664.out hb) (below_step (z6_ HB.out GE663.out GE664.out) hb) ?_;clear BK663 BK664 HB;intro BK663 BK664 HB;(try clear hb);have ⟨hcz17_0,hcz17_1,hfz17_0,hfz17_1⟩:=cz2_ BK664.out) | ((with_reducible refine gc_ 12 ?_);refine gl_ (some 21) Try.func12 #[.agg #[.slice A1_0 l1_0.length c1_0,.slice A1_1 l1_1.length c1_1],.int .i64 t665] ?_;(with_reducible refine (laws_szSet.calls k _ _ l1_0 _ _ l1_1 t665 t666 _ ?s1 ?s2 ?s3 ?s4 A10.out).mono ?_);(case s1=>repeat (first | exact (Kd.C_below HR1_0.out HB.out) | (with_reducible refine Kd.C_alloc ?_ _) | (with_reducible refine Kd.C_drewN ?_ _) | (with_reducible refine Kd.C_drew ?_)));(case s2=>exact HC1_0.out);(case s3=>repeat (first | exact (Kd.C_below HR1_1.out HB.out) | (with_reducible refine Kd.C_alloc ?_ _) | (with_reducible refine Kd.C_drewN ?_ _) | (with_reducible refine Kd.C_drew ?_)));(case s4=>exact HC1_1.out);rintro e w18 ⟨rfl,hb⟩;refine ⟨_,rfl,?_⟩;refine as3_ (blkB_ BK663.out hb) (blkB_ BK664.out hb) (below_step (z6_ HB.out GE663.out GE664.out) hb) ?_;clear BK663 BK664 HB;intro BK663 BK664 HB;(try clear hb)))
   go_ret
   exact ⟨z8_,z6_ HB.out GE663.out GE664.out⟩
  ·rw [if_neg c11] at H
   have c11b0:decide (t666<0)=false:=decide_eq_false c11
   clear c11
   replace H:=Option.bind_eq_some_iff.mp H
   obtain ⟨⟨t667,t670⟩,A190,H⟩:=H
   replace H:((laws_toSet.f k l1_0 l1_1).bind fun bt673=>((spec_SetSync.f k t667 t670 bt673.1 bt673.2).bind fun bt679=>((laws_toSet.f k l0_0 l0_1).bind fun bt689=>((laws_toSet.f k l1_0 l1_1).bind fun bt696=>((impl_SetSync.f k bt689.1 bt689.2 bt696.1 bt696.2).bind fun bt703=>((laws_eqSetOut.f k bt703.1 bt703.2.1 bt703.2.2.1 bt703.2.2.2.1 bt703.2.2.2.2 bt679.1 bt679.2.1 bt679.2.2.1 bt679.2.2.2.1 bt679.2.2.2.2).bind fun t713=>(if t713=true then ((laws_toSet.f k l0_0 l0_1).bind fun bt714=>((laws_eqSet.f k bt689.1 bt689.2 bt714.1 bt714.2).bind fun t720=>(if t720=true then ((laws_toSet.f k l1_0 l1_1).bind fun bt721=>((laws_eqSet.f k bt696.1 bt696.2 bt721.1 bt721.2).bind fun t727=>(if t727=true then ((laws_markSet.f k bt689.1 bt689.2 1).bind fun bt728=>((laws_markSet.f k bt696.1 bt696.2 bt728.1).bind fun bt731=>(if bt731.1<0 then (laws_FnExactSetSync.j0 k true l0_0 l0_1 l1_0 l1_1 bt679.1 bt679.2.1 bt679.2.2.1 bt679.2.2.2.1 bt679.2.2.2.2 bt703.1 bt703.2.1 bt703.2.2.1 bt703.2.2.2.1 bt703.2.2.2.2) else ((laws_eqSetOut.f k bt703.1 bt703.2.1 bt703.2.2.1 bt703.2.2.2.1 bt703.2.2.2.2 bt679.1 bt679.2.1 bt679.2.2.1 bt679.2.2.2.1 bt679.2.2.2.2).bind fun t734=>(laws_FnExactSetSync.j0 k (!t734) l0_0 l0_1 l1_0 l1_1 bt679.1 bt679.2.1 bt679.2.2.1 bt679.2.2.2.1 bt679.2.2.2.2 bt703.1 bt703.2.1 bt703.2.2.1 bt703.2.2.2.1 bt703.2.2.2.2))))) else (none)))) else (none)))) else (none))))))))=some r:=H
   have A19:=Aside0.mk A190
   clear A190
   replace H:=Option.bind_eq_some_iff.mp H
   obtain ⟨⟨t673,t676⟩,A200,H⟩:=H
   replace H:((spec_SetSync.f k t667 t670 t673 t676).bind fun bt679=>((laws_toSet.f k l0_0 l0_1).bind fun bt689=>((laws_toSet.f k l1_0 l1_1).bind fun bt696=>((impl_SetSync.f k bt689.1 bt689.2 bt696.1 bt696.2).bind fun bt703=>((laws_eqSetOut.f k bt703.1 bt703.2.1 bt703.2.2.1 bt703.2.2.2.1 bt703.2.2.2.2 bt679.1 bt679.2.1 bt679.2.2.1 bt679.2.2.2.1 bt679.2.2.2.2).bind fun t713=>(if t713=true then ((laws_toSet.f k l0_0 l0_1).bind fun bt714=>((laws_eqSet.f k bt689.1 bt689.2 bt714.1 bt714.2).bind fun t720=>(if t720=true then ((laws_toSet.f k l1_0 l1_1).bind fun bt721=>((laws_eqSet.f k bt696.1 bt696.2 bt721.1 bt721.2).bind fun t727=>(if t727=true then ((laws_markSet.f k bt689.1 bt689.2 1).bind fun bt728=>((laws_markSet.f k bt696.1 bt696.2 bt728.1).bind fun bt731=>(if bt731.1<0 then (laws_FnExactSetSync.j0 k true l0_0 l0_1 l1_0 l1_1 bt679.1 bt679.2.1 bt679.2.2.1 bt679.2.2.2.1 bt679.2.2.2.2 bt703.1 bt703.2.1 bt703.2.2.1 bt703.2.2.2.1 bt703.2.2.2.2) else ((laws_eqSetOut.f k bt703.1 bt703.2.1 bt703.2.2.1 bt703.2.2.2.1 bt703.2.2.2.2 bt679.1 bt679.2.1 bt679.2.2.1 bt679.2.2.2.1 bt679.2.2.2.2).bind fun t734=>(laws_FnExactSetSync.j0 k (!t734) l0_0 l0_1 l1_0 l1_1 bt679.1 bt679.2.1 bt679.2.2.1 bt679.2.2.2.1 bt679.2.2.2.2 bt703.1 bt703.2.1 bt703.2.2.1 bt703.2.2.2.1 bt703.2.2.2.2))))) else (none)))) else (none)))) else (none)))))))=some r:=H
   have A20:=Aside0.mk A200
   clear A200
   replace H:=Option.bind_eq_some_iff.mp H
   obtain ⟨⟨t679,t682,t685,t686,t687⟩,A210,H⟩:=H
   replace H:((laws_toSet.f k l0_0 l0_1).bind fun bt689=>((laws_toSet.f k l1_0 l1_1).bind fun bt696=>((impl_SetSync.f k bt689.1 bt689.2 bt696.1 bt696.2).bind fun bt703=>((laws_eqSetOut.f k bt703.1 bt703.2.1 bt703.2.2.1 bt703.2.2.2.1 bt703.2.2.2.2 t679 t682 t685 t686 t687).bind fun t713=>(if t713=true then ((laws_toSet.f k l0_0 l0_1).bind fun bt714=>((laws_eqSet.f k bt689.1 bt689.2 bt714.1 bt714.2).bind fun t720=>(if t720=true then ((laws_toSet.f k l1_0 l1_1).bind fun bt721=>((laws_eqSet.f k bt696.1 bt696.2 bt721.1 bt721.2).bind fun t727=>(if t727=true then ((laws_markSet.f k bt689.1 bt689.2 1).bind fun bt728=>((laws_markSet.f k bt696.1 bt696.2 bt728.1).bind fun bt731=>(if bt731.1<0 then (laws_FnExactSetSync.j0 k true l0_0 l0_1 l1_0 l1_1 t679 t682 t685 t686 t687 bt703.1 bt703.2.1 bt703.2.2.1 bt703.2.2.2.1 bt703.2.2.2.2) else ((laws_eqSetOut.f k bt703.1 bt703.2.1 bt703.2.2.1 bt703.2.2.2.1 bt703.2.2.2.2 t679 t682 t685 t686 t687).bind fun t734=>(laws_FnExactSetSync.j0 k (!t734) l0_0 l0_1 l1_0 l1_1 t679 t682 t685 t686 t687 bt703.1 bt703.2.1 bt703.2.2.1 bt703.2.2.2.1 bt703.2.2.2.2))))) else (none)))) else (none)))) else (none))))))=some r:=H
   have A21:=Aside0.mk A210
   clear A210
   replace H:=Option.bind_eq_some_iff.mp H
   obtain ⟨⟨t689,t692⟩,A220,H⟩:=H
   replace H:((laws_toSet.f k l1_0 l1_1).bind fun bt696=>((impl_SetSync.f k t689 t692 bt696.1 bt696.2).bind fun bt703=>((laws_eqSetOut.f k bt703.1 bt703.2.1 bt703.2.2.1 bt703.2.2.2.1 bt703.2.2.2.2 t679 t682 t685 t686 t687).bind fun t713=>(if t713=true then ((laws_toSet.f k l0_0 l0_1).bind fun bt714=>((laws_eqSet.f k t689 t692 bt714.1 bt714.2).bind fun t720=>(if t720=true then ((laws_toSet.f k l1_0 l1_1).bind fun bt721=>((laws_eqSet.f k bt696.1 bt696.2 bt721.1 bt721.2).bind fun t727=>(if t727=true then ((laws_markSet.f k t689 t692 1).bind fun bt728=>((laws_markSet.f k bt696.1 bt696.2 bt728.1).bind fun bt731=>(if bt731.1<0 then (laws_FnExactSetSync.j0 k true l0_0 l0_1 l1_0 l1_1 t679 t682 t685 t686 t687 bt703.1 bt703.2.1 bt703.2.2.1 bt703.2.2.2.1 bt703.2.2.2.2) else ((laws_eqSetOut.f k bt703.1 bt703.2.1 bt703.2.2.1 bt703.2.2.2.1 bt703.2.2.2.2 t679 t682 t685 t686 t687).bind fun t734=>(laws_FnExactSetSync.j0 k (!t734) l0_0 l0_1 l1_0 l1_1 t679 t682 t685 t686 t687 bt703.1 bt703.2.1 bt703.2.2.1 bt703.2.2.2.1 bt703.2.2.2.2))))) else (none)))) else (none)))) else (none)))))=some r:=H
   have A22:=Aside0.mk A220
   clear A220
   replace H:=Option.bind_eq_some_iff.mp H
   obtain ⟨⟨t696,t699⟩,A230,H⟩:=H
   replace H:((impl_SetSync.f k t689 t692 t696 t699).bind fun bt703=>((laws_eqSetOut.f k bt703.1 bt703.2.1 bt703.2.2.1 bt703.2.2.2.1 bt703.2.2.2.2 t679 t682 t685 t686 t687).bind fun t713=>(if t713=true then ((laws_toSet.f k l0_0 l0_1).bind fun bt714=>((laws_eqSet.f k t689 t692 bt714.1 bt714.2).bind fun t720=>(if t720=true then ((laws_toSet.f k l1_0 l1_1).bind fun bt721=>((laws_eqSet.f k t696 t699 bt721.1 bt721.2).bind fun t727=>(if t727=true then ((laws_markSet.f k t689 t692 1).bind fun bt728=>((laws_markSet.f k t696 t699 bt728.1).bind fun bt731=>(if bt731.1<0 then (laws_FnExactSetSync.j0 k true l0_0 l0_1 l1_0 l1_1 t679 t682 t685 t686 t687 bt703.1 bt703.2.1 bt703.2.2.1 bt703.2.2.2.1 bt703.2.2.2.2) else ((laws_eqSetOut.f k bt703.1 bt703.2.1 bt703.2.2.1 bt703.2.2.2.1 bt703.2.2.2.2 t679 t682 t685 t686 t687).bind fun t734=>(laws_FnExactSetSync.j0 k (!t734) l0_0 l0_1 l1_0 l1_1 t679 t682 t685 t686 t687 bt703.1 bt703.2.1 bt703.2.2.1 bt703.2.2.2.1 bt703.2.2.2.2))))) else (none)))) else (none)))) else (none))))=some r:=H
   have A23:=Aside0.mk A230
   clear A230
   replace H:=Option.bind_eq_some_iff.mp H
   obtain ⟨⟨t703,t706,t709,t710,t711⟩,A240,H⟩:=H
   replace H:((laws_eqSetOut.f k t703 t706 t709 t710 t711 t679 t682 t685 t686 t687).bind fun t713=>(if t713=true then ((laws_toSet.f k l0_0 l0_1).bind fun bt714=>((laws_eqSet.f k t689 t692 bt714.1 bt714.2).bind fun t720=>(if t720=true then ((laws_toSet.f k l1_0 l1_1).bind fun bt721=>((laws_eqSet.f k t696 t699 bt721.1 bt721.2).bind fun t727=>(if t727=true then ((laws_markSet.f k t689 t692 1).bind fun bt728=>((laws_markSet.f k t696 t699 bt728.1).bind fun bt731=>(if bt731.1<0 then (laws_FnExactSetSync.j0 k true l0_0 l0_1 l1_0 l1_1 t679 t682 t685 t686 t687 t703 t706 t709 t710 t711) else ((laws_eqSetOut.f k t703 t706 t709 t710 t711 t679 t682 t685 t686 t687).bind fun t734=>(laws_FnExactSetSync.j0 k (!t734) l0_0 l0_1 l1_0 l1_1 t679 t682 t685 t686 t687 t703 t706 t709 t710 t711))))) else (none)))) else (none)))) else (none)))=some r:=H
   have A24:=Aside0.mk A240
   clear A240
   replace H:=Option.bind_eq_some_iff.mp H
   obtain ⟨t713,A250,H⟩:=H
   replace H:(if t713=true then ((laws_toSet.f k l0_0 l0_1).bind fun bt714=>((laws_eqSet.f k t689 t692 bt714.1 bt714.2).bind fun t720=>(if t720=true then ((laws_toSet.f k l1_0 l1_1).bind fun bt721=>((laws_eqSet.f k t696 t699 bt721.1 bt721.2).bind fun t727=>(if t727=true then ((laws_markSet.f k t689 t692 1).bind fun bt728=>((laws_markSet.f k t696 t699 bt728.1).bind fun bt731=>(if bt731.1<0 then (laws_FnExactSetSync.j0 k true l0_0 l0_1 l1_0 l1_1 t679 t682 t685 t686 t687 t703 t706 t709 t710 t711) else ((laws_eqSetOut.f k t703 t706 t709 t710 t711 t679 t682 t685 t686 t687).bind fun t734=>(laws_FnExactSetSync.j0 k (!t734) l0_0 l0_1 l1_0 l1_1 t679 t682 t685 t686 t687 t703 t706 t709 t710 t711))))) else (none)))) else (none)))) else (none))=some r:=H
   have A25:=Aside0.mk A250
   clear A250
   by_cases c26:t713=true
   ·subst c26
    have H1:((laws_toSet.f k l0_0 l0_1).bind fun bt714=>((laws_eqSet.f k t689 t692 bt714.1 bt714.2).bind fun t720=>(if t720=true then ((laws_toSet.f k l1_0 l1_1).bind fun bt721=>((laws_eqSet.f k t696 t699 bt721.1 bt721.2).bind fun t727=>(if t727=true then ((laws_markSet.f k t689 t692 1).bind fun bt728=>((laws_markSet.f k t696 t699 bt728.1).bind fun bt731=>(if bt731.1<0 then (laws_FnExactSetSync.j0 k true l0_0 l0_1 l1_0 l1_1 t679 t682 t685 t686 t687 t703 t706 t709 t710 t711) else ((laws_eqSetOut.f k t703 t706 t709 t710 t711 t679 t682 t685 t686 t687).bind fun t734=>(laws_FnExactSetSync.j0 k (!t734) l0_0 l0_1 l1_0 l1_1 t679 t682 t685 t686 t687 t703 t706 t709 t710 t711))))) else (none)))) else (none))))=some r:=by rw [if_pos rfl] at H;exact H
    clear H
    have H:=H1
    clear H1
    replace H:=Option.bind_eq_some_iff.mp H
    obtain ⟨⟨t714,t717⟩,A270,H⟩:=H
    replace H:((laws_eqSet.f k t689 t692 t714 t717).bind fun t720=>(if t720=true then ((laws_toSet.f k l1_0 l1_1).bind fun bt721=>((laws_eqSet.f k t696 t699 bt721.1 bt721.2).bind fun t727=>(if t727=true then ((laws_markSet.f k t689 t692 1).bind fun bt728=>((laws_markSet.f k t696 t699 bt728.1).bind fun bt731=>(if bt731.1<0 then (laws_FnExactSetSync.j0 k true l0_0 l0_1 l1_0 l1_1 t679 t682 t685 t686 t687 t703 t706 t709 t710 t711) else ((laws_eqSetOut.f k t703 t706 t709 t710 t711 t679 t682 t685 t686 t687).bind fun t734=>(laws_FnExactSetSync.j0 k (!t734) l0_0 l0_1 l1_0 l1_1 t679 t682 t685 t686 t687 t703 t706 t709 t710 t711))))) else (none)))) else (none)))=some r:=H
    have A27:=Aside0.mk A270
    clear A270
    replace H:=Option.bind_eq_some_iff.mp H
    obtain ⟨t720,A280,H⟩:=H
    replace H:(if t720=true then ((laws_toSet.f k l1_0 l1_1).bind fun bt721=>((laws_eqSet.f k t696 t699 bt721.1 bt721.2).bind fun t727=>(if t727=true then ((laws_markSet.f k t689 t692 1).bind fun bt728=>((laws_markSet.f k t696 t699 bt728.1).bind fun bt731=>(if bt731.1<0 then (laws_FnExactSetSync.j0 k true l0_0 l0_1 l1_0 l1_1 t679 t682 t685 t686 t687 t703 t706 t709 t710 t711) else ((laws_eqSetOut.f k t703 t706 t709 t710 t711 t679 t682 t685 t686 t687).bind fun t734=>(laws_FnExactSetSync.j0 k (!t734) l0_0 l0_1 l1_0 l1_1 t679 t682 t685 t686 t687 t703 t706 t709 t710 t711))))) else (none)))) else (none))=some r:=H
    have A28:=Aside0.mk A280
    clear A280
    by_cases c29:t720=true
    ·subst c29
     have H1:((laws_toSet.f k l1_0 l1_1).bind fun bt721=>((laws_eqSet.f k t696 t699 bt721.1 bt721.2).bind fun t727=>(if t727=true then ((laws_markSet.f k t689 t692 1).bind fun bt728=>((laws_markSet.f k t696 t699 bt728.1).bind fun bt731=>(if bt731.1<0 then (laws_FnExactSetSync.j0 k true l0_0 l0_1 l1_0 l1_1 t679 t682 t685 t686 t687 t703 t706 t709 t710 t711) else ((laws_eqSetOut.f k t703 t706 t709 t710 t711 t679 t682 t685 t686 t687).bind fun t734=>(laws_FnExactSetSync.j0 k (!t734) l0_0 l0_1 l1_0 l1_1 t679 t682 t685 t686 t687 t703 t706 t709 t710 t711))))) else (none))))=some r:=by rw [if_pos rfl] at H;exact H
     clear H
     have H:=H1
     clear H1
     replace H:=Option.bind_eq_some_iff.mp H
     obtain ⟨⟨t721,t724⟩,A300,H⟩:=H
     replace H:((laws_eqSet.f k t696 t699 t721 t724).bind fun t727=>(if t727=true then ((laws_markSet.f k t689 t692 1).bind fun bt728=>((laws_markSet.f k t696 t699 bt728.1).bind fun bt731=>(if bt731.1<0 then (laws_FnExactSetSync.j0 k true l0_0 l0_1 l1_0 l1_1 t679 t682 t685 t686 t687 t703 t706 t709 t710 t711) else ((laws_eqSetOut.f k t703 t706 t709 t710 t711 t679 t682 t685 t686 t687).bind fun t734=>(laws_FnExactSetSync.j0 k (!t734) l0_0 l0_1 l1_0 l1_1 t679 t682 t685 t686 t687 t703 t706 t709 t710 t711))))) else (none)))=some r:=H
     have A30:=Aside0.mk A300
     clear A300
     replace H:=Option.bind_eq_some_iff.mp H
     obtain ⟨t727,A310,H⟩:=H
     replace H:(if t727=true then ((laws_markSet.f k t689 t692 1).bind fun bt728=>((laws_markSet.f k t696 t699 bt728.1).bind fun bt731=>(if bt731.1<0 then (laws_FnExactSetSync.j0 k true l0_0 l0_1 l1_0 l1_1 t679 t682 t685 t686 t687 t703 t706 t709 t710 t711) else ((laws_eqSetOut.f k t703 t706 t709 t710 t711 t679 t682 t685 t686 t687).bind fun t734=>(laws_FnExactSetSync.j0 k (!t734) l0_0 l0_1 l1_0 l1_1 t679 t682 t685 t686 t687 t703 t706 t709 t710 t711))))) else (none))=some r:=H
     have A31:=Aside0.mk A310
     clear A310
     by_cases c32:t727=true
     ·subst c32
      have H1:((laws_markSet.f k t689 t692 1).bind fun bt728=>((laws_markSet.f k t696 t699 bt728.1).bind fun bt731=>(if bt731.1<0 then (laws_FnExactSetSync.j0 k true l0_0 l0_1 l1_0 l1_1 t679 t682 t685 t686 t687 t703 t706 t709 t710 t711) else ((laws_eqSetOut.f k t703 t706 t709 t710 t711 t679 t682 t685 t686 t687).bind fun t734=>(laws_FnExactSetSync.j0 k (!t734) l0_0 l0_1 l1_0 l1_1 t679 t682 t685 t686 t687 t703 t706 t709 t710 t711)))))=some r:=by rw [if_pos rfl] at H;exact H
      clear H
      have H:=H1
      clear H1
      replace H:=Option.bind_eq_some_iff.mp H
      obtain ⟨⟨t728,t729,t730⟩,A330,H⟩:=H
      replace H:((laws_markSet.f k t696 t699 t728).bind fun bt731=>(if bt731.1<0 then (laws_FnExactSetSync.j0 k true l0_0 l0_1 l1_0 l1_1 t679 t682 t685 t686 t687 t703 t706 t709 t710 t711) else ((laws_eqSetOut.f k t703 t706 t709 t710 t711 t679 t682 t685 t686 t687).bind fun t734=>(laws_FnExactSetSync.j0 k (!t734) l0_0 l0_1 l1_0 l1_1 t679 t682 t685 t686 t687 t703 t706 t709 t710 t711))))=some r:=H
      have A33:=Aside0.mk A330
      clear A330
      replace H:=Option.bind_eq_some_iff.mp H
      obtain ⟨⟨t731,t732,t733⟩,A340,H⟩:=H
      replace H:(if t731<0 then (laws_FnExactSetSync.j0 k true l0_0 l0_1 l1_0 l1_1 t679 t682 t685 t686 t687 t703 t706 t709 t710 t711) else ((laws_eqSetOut.f k t703 t706 t709 t710 t711 t679 t682 t685 t686 t687).bind fun t734=>(laws_FnExactSetSync.j0 k (!t734) l0_0 l0_1 l1_0 l1_1 t679 t682 t685 t686 t687 t703 t706 t709 t710 t711)))=some r:=H
      have A34:=Aside0.mk A340
      clear A340
      have HC35:=Aside0.mk H
      clear H
      go_enter Try.func5,Try.ntmps5
      try go_wp2_with (first | ((with_reducible refine gd_ 2 ?_);refine be_ 2 #[.slice A0_0 l0_0.length c0_0,.slice A0_1 l0_1.length c0_1] 32 ?_;intro gb663 hg w36 hbox hb;refine as4_ (below_step (z4_ HB.out) hb) (hbox) ((z7_ HB.out:w.heap.size≤gb663)) ((z7_ HB.out:w.heap.size≤gb663)) ?_;clear HB;intro HB BK663 GW663 GE663;clear hb hbox hg) | ((with_reducible refine gd_ 3 ?_);refine be_ 3 #[.slice A1_0 l1_0.length c1_0,.slice A1_1 l1_1.length c1_1] 32 ?_;intro gb664 hg w37 hbox hb;refine as7_ (blkB_ BK663.out hb) (below_step (z5_ HB.out GE663.out) hb) (hbox) ((z10_ HB.out GE663.out:w.heap.size≤gb664)) ((z10_ HB.out GE663.out:w.heap.size≤gb664)) (neL_ BK663.out hg) (neG_ BK663.out hg) ?_;clear BK663 HB;intro BK663 HB BK664 GW664 GE664 NB663_664 NB664_663;clear hb hbox hg;have hnb38:=NB663_664.out;have hnc38:=NB664_663.out;have ⟨hcz39_0,hcz39_1,hfz39_0,hfz39_1⟩:=cz2_ BK663.out) | ((with_reducible refine gc_ 12 ?_);refine gl_ (some 16) Try.func12 #[.agg #[.slice A0_0 l0_0.length c0_0,.slice A0_1 l0_1.length c0_1],.int .i64 1048576] ?_;(with_reducible refine (laws_szSet.calls k _ _ l0_0 _ _ l0_1 1048576 t665 _ ?s1 ?s2 ?s3 ?s4 A3.out).mono ?_);(case s1=>repeat (first | exact (Kd.C_below HR0_0.out HB.out) | (with_reducible refine Kd.C_alloc ?_ _) | (with_reducible refine Kd.C_drewN ?_ _) | (with_reducible refine Kd.C_drew ?_)));(case s2=>exact HC0_0.out);(case s3=>repeat (first | exact (Kd.C_below HR0_1.out HB.out) | (with_reducible refine Kd.C_alloc ?_ _) | (with_reducible refine Kd.C_drewN ?_ _) | (with_reducible refine Kd.C_drew ?_)));(case s4=>exact HC0_1.out);rintro e w40 ⟨rfl,hb⟩;refine ⟨_,rfl,?_⟩;refine as3_ (blkB_ BK663.out hb) (blkB_ BK664.out hb) (below_step (z6_ HB.out GE663.out GE664.out) hb) ?_;clear BK663 BK664 HB;intro BK663 BK664 HB;(try clear hb);have ⟨hcz41_0,hcz41_1,hfz41_0,hfz41_1⟩:=cz2_ BK664.out) | ((with_reducible refine gc_ 12 ?_);refine gl_ (some 21) Try.func12 #[.agg #[.slice A1_0 l1_0.length c1_0,.slice A1_1 l1_1.length c1_1],.int .i64 t665] ?_;(with_reducible refine (laws_szSet.calls k _ _ l1_0 _ _ l1_1 t665 t666 _ ?s1 ?s2 ?s3 ?s4 A10.out).mono ?_);(case s1=>repeat (first | exact (Kd.C_below HR1_0.out HB.out) | (with_reducible refine Kd.C_alloc ?_ _) | (with_reducible refine Kd.C_drewN ?_ _) | (with_reducible refine Kd.C_drew ?_)));(case s2=>exact HC1_0.out);(case s3=>repeat (first | exact (Kd.C_below HR1_1.out HB.out) | (with_reducible refine Kd.C_alloc ?_ _) | (with_reducible refine Kd.C_drewN ?_ _) | (with_reducible refine Kd.C_drew ?_)));(case s4=>exact HC1_1.out);rintro e w42 ⟨rfl,hb⟩;refine ⟨_,rfl,?_⟩;refine as3_ (blkB_ BK663.out hb) (blkB_ BK664.out hb) (below_step (z6_ HB.out GE663.out GE664.out) hb) ?_;clear BK663 BK664 HB;intro BK663 BK664 HB;(try clear hb)))
      refine as3_ (blk_drew BK663.out) (blk_drew BK664.out) (below_drew1 HB.out) ?_
      clear BK663 BK664 HB
      intro BK663 BK664 HB
      refine start_ (n:=7) (S:=fun w'=>w'.cell? ⟨gb663,0,none⟩=some (.slice A0_0 l0_0.length c0_0)∧w'.cell? ⟨gb663,1,none⟩=some (.slice A0_1 l0_1.length c0_1)∧w'.cell? ⟨gb664,0,none⟩=some (.slice A1_0 l1_0.length c1_0)∧w'.cell? ⟨gb664,1,none⟩=some (.slice A1_1 l1_1.length c1_1)) (ds:=[]) #[O,O,O,O,O,O,O] (by kernel_rfl) rfl rfl (cj2_ BK663.out (cc2_ BK664.out)) (fun hHeld=>?_)
      generalize w42.drew=w43 at BK663 BK664 HB hHeld ⊢
      refine take_ (i:=0) (N:=some 24) (v:=?_) (a':=?_) #[I,O,O,O,O,O,O] rfl rfl (by kernel_rfl) (fun _ _ _ h=>h) (Or.inl ⟨by rfl,?_⟩) hHeld ?_ ?_
      rotate_left
      ·rintro w' ⟨s0,s1,s2,s3⟩
       go_simp
       with_reducible rfl
      rotate_left
      ·simp only [Act.put,sa_,s0_,ss_,i64_w,i32_w]
       rfl
      refine take_ (i:=2) (N:=some 26) (v:=?_) (a':=?_) #[I,O,I,O,O,O,O] rfl rfl (by kernel_rfl) (fun _ _ _ h=>h) (Or.inl ⟨by rfl,?_⟩) hHeld ?_ ?_
      rotate_left
      ·rintro w' ⟨s0,s1,s2,s3⟩
       go_simp
       with_reducible rfl
      rotate_left
      ·simp only [Act.put,sa_,s0_,ss_,i64_w,i32_w]
       rfl
      refine join_ (σ:=Value × Value × Value × Value × Value × Value × Nat) 1 #[I,I,I,I,I,I,O] (fun s_=>[(25,.agg #[s_.1,s_.2.1]),(27,.agg #[s_.2.2.1,s_.2.2.2.1]),(28,.agg #[s_.2.2.2.2.1,s_.2.2.2.2.2.1,.int .i64 t685,.int .i64 t686,.int .i64 t687]),(6,.pointer (some ⟨s_.2.2.2.2.2.2,0,none⟩))]) (fun s_ w'=>(w'.cell? ⟨gb663,0,none⟩=some (.slice A0_0 l0_0.length c0_0)∧w'.cell? ⟨gb663,1,none⟩=some (.slice A0_1 l0_1.length c0_1)∧w'.cell? ⟨gb664,0,none⟩=some (.slice A1_0 l1_0.length c1_0)∧w'.cell? ⟨gb664,1,none⟩=some (.slice A1_1 l1_1.length c1_1))∧(Kd.R k56 56 w' w.heap.size (fun k_=>some k_≠(s_.2.2.1:Value).ownBlock∧some k_≠(s_.2.2.2.2.1:Value).ownBlock) s_.1 t667)∧(Kd.R k91 91 w' w.heap.size (fun k_=>some k_≠(s_.2.2.2.1:Value).ownBlock∧some k_≠(s_.2.2.2.2.2.1:Value).ownBlock) s_.2.1 t670)∧(Kd.R k56 56 w' w.heap.size (fun k_=>some k_≠(s_.1:Value).ownBlock∧some k_≠(s_.2.2.2.2.1:Value).ownBlock) s_.2.2.1 t673)∧(Kd.R k91 91 w' w.heap.size (fun k_=>some k_≠(s_.2.1:Value).ownBlock∧some k_≠(s_.2.2.2.2.2.1:Value).ownBlock) s_.2.2.2.1 t676)∧(Kd.R k56 56 w' w.heap.size (fun k_=>some k_≠(s_.1:Value).ownBlock∧some k_≠(s_.2.2.1:Value).ownBlock) s_.2.2.2.2.1 t679)∧(Kd.R k91 91 w' w.heap.size (fun k_=>some k_≠(s_.2.1:Value).ownBlock∧some k_≠(s_.2.2.2.1:Value).ownBlock) s_.2.2.2.2.2.1 t682)∧(w'.heap[gb663]? = some (.cells #[.slice A0_0 l0_0.length c0_0,.slice A0_1 l0_1.length c0_1] 32 (0,0)))∧(w'.heap[gb664]? = some (.cells #[.slice A1_0 l1_0.length c1_0,.slice A1_1 l1_1.length c1_1] 32 (0,0)))∧(w'.heap[s_.2.2.2.2.2.2]? = some (.cells #[.slice none 0 0,.slice none 0 0,.int .i64 0,.int .i64 0,.int .i64 0] 58 (0,0)))∧(w.heap.size≤s_.2.2.2.2.2.2)∧(w.heap.size≤s_.2.2.2.2.2.2)∧(gb663≠s_.2.2.2.2.2.2)∧(s_.2.2.2.2.2.2≠gb663)∧(gb664≠s_.2.2.2.2.2.2)∧(s_.2.2.2.2.2.2≠gb664)∧(Below w.heap.size w w')) ?_ ?_
      rotate_left
      ·intro hCont
       refine two_ (i:=1) (j:=5) (Ni:=some 25) (Nj:=some 6) #[I,I,I,O,O,O,O] #[I,O,I,O,O,I,O] rfl rfl rfl rfl (by kernel_rfl) (by decide) (by decide) (fun K hK=>?_) (fun K hK=>?_)
       ·skip
        refine gs_ Try.func15 #[.agg #[.slice A0_0 l0_0.length c0_0,.slice A0_1 l0_1.length c0_1]] ?_
        with_reducible refine (laws_toSet.calls k _ _ l0_0 _ _ l0_1 t667 t670 _ ?s1 ?s2 ?s3 ?s4 A19.out).mono ?_
        (case s1=>repeat (first | exact (Kd.C_below HR0_0.out HB.out) | (with_reducible refine Kd.C_alloc ?_ _) | (with_reducible refine Kd.C_drewN ?_ _) | (with_reducible refine Kd.C_drew ?_)))
        (case s2=>exact HC0_0.out)
        (case s3=>repeat (first | exact (Kd.C_below HR0_1.out HB.out) | (with_reducible refine Kd.C_alloc ?_ _) | (with_reducible refine Kd.C_drewN ?_ _) | (with_reducible refine Kd.C_drew ?_)))
        (case s4=>exact HC0_1.out)
        rintro e w44 ⟨v668,v671,rfl,ho0,ho1,hb⟩
        refine ⟨_,rfl,?_⟩
        refine as5_ (Kd.R_lower ho0 (below_size (z6_ HB.out GE663.out GE664.out))) (Kd.R_lower ho1 (below_size (z6_ HB.out GE663.out GE664.out))) (blkB_ BK663.out hb) (blkB_ BK664.out hb) (below_step (z6_ HB.out GE663.out GE664.out) hb) ?_
        clear BK663 BK664 HB
        intro HO669 HO672 BK663 BK664 HB
        (try clear hb)
        (try clear ho0)
        (try clear ho1)
        refine hK.out _ _ (cj2_ BK663.out (cc2_ BK664.out)) (fun hHeld=>?_)
        clear hK K
        refine nm_ 25 ?_
        refine two_ (i:=3) (j:=5) (Ni:=some 27) (Nj:=some 6) #[I,I,I,I,O,O,O] #[I,I,I,O,O,I,O] rfl rfl rfl rfl (by kernel_rfl) (by decide) (by decide) (fun K hK=>?_) (fun K hK=>?_)
        ·skip
         refine gs_ Try.func15 #[.agg #[.slice A1_0 l1_0.length c1_0,.slice A1_1 l1_1.length c1_1]] ?_
         with_reducible refine (laws_toSet.calls k _ _ l1_0 _ _ l1_1 t673 t676 _ ?s1 ?s2 ?s3 ?s4 A20.out).mono ?_
         (case s1=>repeat (first | exact (Kd.C_below HR1_0.out HB.out) | (with_reducible refine Kd.C_alloc ?_ _) | (with_reducible refine Kd.C_drewN ?_ _) | (with_reducible refine Kd.C_drew ?_)))
         (case s2=>exact HC1_0.out)
         (case s3=>repeat (first | exact (Kd.C_below HR1_1.out HB.out) | (with_reducible refine Kd.C_alloc ?_ _) | (with_reducible refine Kd.C_drewN ?_ _) | (with_reducible refine Kd.C_drew ?_)))
         (case s4=>exact HC1_1.out)
         rintro e w45 ⟨v674,v677,rfl,ho0,ho1,hb⟩
         refine ⟨_,rfl,?_⟩
         refine as7_ (Kd.R_elder' (z0_ HO669.out) (Kd.R_base ho0) hb) (Kd.R_elder' (z0_ HO672.out) (Kd.R_base ho1) hb) (Kd.R_lower (Kd.R_new' ho0 (Kd.R_lt (z0_ HO669.out))) (below_size (z6_ HB.out GE663.out GE664.out))) (Kd.R_lower (Kd.R_new' ho1 (Kd.R_lt (z0_ HO672.out))) (below_size (z6_ HB.out GE663.out GE664.out))) (blkB_ BK663.out hb) (blkB_ BK664.out hb) (below_step (z6_ HB.out GE663.out GE664.out) hb) ?_
         clear HO669 HO672 BK663 BK664 HB
         intro HO669 HO672 HO675 HO678 BK663 BK664 HB
         (try clear hb)
         (try clear ho0)
         (try clear ho1)
         obtain ⟨Ao46,co46,eo46⟩:=Kd.R_slice HO669.out
         (first | subst eo46 | (injection eo46 with f1_ f2_ f3_;have f4_:=f1_.symm;have f5_:=f3_.symm;clear f1_ f2_ f3_;subst f4_;subst f5_))
         obtain ⟨Ao47,co47,eo47⟩:=Kd.R_slice HO672.out
         (first | subst eo47 | (injection eo47 with f1_ f2_ f3_;have f4_:=f1_.symm;have f5_:=f3_.symm;clear f1_ f2_ f3_;subst f4_;subst f5_))
         obtain ⟨Ao48,co48,eo48⟩:=Kd.R_slice HO675.out
         (first | subst eo48 | (injection eo48 with f1_ f2_ f3_;have f4_:=f1_.symm;have f5_:=f3_.symm;clear f1_ f2_ f3_;subst f4_;subst f5_))
         obtain ⟨Ao49,co49,eo49⟩:=Kd.R_slice HO678.out
         (first | subst eo49 | (injection eo49 with f1_ f2_ f3_;have f4_:=f1_.symm;have f5_:=f3_.symm;clear f1_ f2_ f3_;subst f4_;subst f5_))
         refine hK.out _ _ (cj2_ BK663.out (cc2_ BK664.out)) (fun hHeld=>?_)
         clear hK K
         refine nm_ 27 ?_
         refine two_ (i:=4) (j:=5) (Ni:=some 28) (Nj:=some 6) #[I,I,I,I,I,O,O] #[I,I,I,I,O,I,O] rfl rfl rfl rfl (by kernel_rfl) (by decide) (by decide) (fun K hK=>?_) (fun K hK=>?_)
         ·skip
          refine gs_ Try.func24 #[.agg #[.slice Ao46 t667.length co46,.slice Ao47 t670.length co47],.agg #[.slice Ao48 t673.length co48,.slice Ao49 t676.length co49]] ?_
          with_reducible refine (spec_SetSync.calls k _ _ t667 _ _ t670 _ _ t673 _ _ t676 t679 t682 t685 t686 t687 _ ?s1 ?s2 ?s3 ?s4 ?s5 ?s6 ?s7 ?s8 A21.out).mono ?_
          (case s1=>repeat (first | exact (Kd.R_reads' HO669.out).2.2 | (with_reducible refine Kd.C_alloc ?_ _) | (with_reducible refine Kd.C_drewN ?_ _) | (with_reducible refine Kd.C_drew ?_)))
          (case s2=>exact (Kd.R_reads' HO669.out).2.1)
          (case s3=>repeat (first | exact (Kd.R_reads' HO672.out).2.2 | (with_reducible refine Kd.C_alloc ?_ _) | (with_reducible refine Kd.C_drewN ?_ _) | (with_reducible refine Kd.C_drew ?_)))
          (case s4=>exact (Kd.R_reads' HO672.out).2.1)
          (case s5=>repeat (first | exact (Kd.R_reads' HO675.out).2.2 | (with_reducible refine Kd.C_alloc ?_ _) | (with_reducible refine Kd.C_drewN ?_ _) | (with_reducible refine Kd.C_drew ?_)))
          (case s6=>exact (Kd.R_reads' HO675.out).2.1)
          (case s7=>repeat (first | exact (Kd.R_reads' HO678.out).2.2 | (with_reducible refine Kd.C_alloc ?_ _) | (with_reducible refine Kd.C_drewN ?_ _) | (with_reducible refine Kd.C_drew ?_)))
          (case s8=>exact (Kd.R_reads' HO678.out).2.1)
          rintro e w50 ⟨v680,v683,rfl,ho0,ho1,hb⟩
          refine ⟨_,rfl,?_⟩
          refine as9_ (Kd.R_elder' (z0_ HO669.out) (Kd.R_base ho0) hb) (Kd.R_elder' (z0_ HO672.out) (Kd.R_base ho1) hb) (Kd.R_elder' (z0_ HO675.out) (Kd.R_base ho0) hb) (Kd.R_elder' (z0_ HO678.out) (Kd.R_base ho1) hb) (Kd.R_lower (Kd.R_new' (Kd.R_new' ho0 (Kd.R_lt (z0_ HO669.out))) (Kd.R_lt (z0_ HO675.out))) (below_size (z6_ HB.out GE663.out GE664.out))) (Kd.R_lower (Kd.R_new' (Kd.R_new' ho1 (Kd.R_lt (z0_ HO672.out))) (Kd.R_lt (z0_ HO678.out))) (below_size (z6_ HB.out GE663.out GE664.out))) (blkB_ BK663.out hb) (blkB_ BK664.out hb) (below_step (z6_ HB.out GE663.out GE664.out) hb) ?_
          clear HO669 HO672 HO675 HO678 BK663 BK664 HB
          intro HO669 HO672 HO675 HO678 HO681 HO684 BK663 BK664 HB
          (try clear hb)
          (try clear ho0)
          (try clear ho1)
          refine hK.out _ _ (cj2_ BK663.out (cc2_ BK664.out)) (fun hHeld=>?_)
          clear hK K
          refine nm_ 28 ?_
          refine one_ (i:=5) (N:=some 6) #[I,I,I,I,I,I,O] rfl rfl (by kernel_rfl) (by decide) (fun K hK=>?_)
          refine bs_ 6 #[.slice none 0 0,.slice none 0 0,.int .i64 0,.int .i64 0,.int .i64 0] 58 ?_
          intro gb688 hg w51 hbox hb
          refine as16_ (Kd.R_below (z0_ HO669.out) hb) (Kd.R_below (z0_ HO672.out) hb) (Kd.R_below (z0_ HO675.out) hb) (Kd.R_below (z0_ HO678.out) hb) (Kd.R_below (z0_ HO681.out) hb) (Kd.R_below (z0_ HO684.out) hb) (blkB_ BK663.out hb) (blkB_ BK664.out hb) (below_step (z6_ HB.out GE663.out GE664.out) hb) (hbox) ((z23_ HB.out GE663.out GE664.out:w.heap.size≤gb688)) ((z23_ HB.out GE663.out GE664.out:w.heap.size≤gb688)) (neL_ BK663.out hg) (neG_ BK663.out hg) (neL_ BK664.out hg) (neG_ BK664.out hg) ?_
          clear HO669 HO672 HO675 HO678 HO681 HO684 BK663 BK664 HB
          intro HO669 HO672 HO675 HO678 HO681 HO684 BK663 BK664 HB BK688 GW688 GE688 NB663_688 NB688_663 NB664_688 NB688_664
          clear hb hbox hg
          refine hK.out _ _ (cj2_ BK663.out (cc2_ BK664.out)) (fun hHeld=>?_)
          clear hK K
          refine nm_ 6 ?_
          exact norm_ (z36_) (hCont (.slice Ao46 t667.length co46,.slice Ao47 t670.length co47,.slice Ao48 t673.length co48,.slice Ao49 t676.length co49,v680,v683,gb688) _ ⟨hHeld,(z21_ HO669.out),(z21_ HO672.out),(z21_ HO675.out),(z21_ HO678.out),(z21_ HO681.out),(z21_ HO684.out),(z1_ BK663.out),(z1_ BK664.out),(z1_ BK688.out),GW688.out,GE688.out,NB663_688.out,NB688_663.out,NB664_688.out,NB688_664.out,(z9_ HB.out GE663.out GE664.out GE688.out)⟩)
         ·skip
          refine bs_ 6 #[.slice none 0 0,.slice none 0 0,.int .i64 0,.int .i64 0,.int .i64 0] 58 ?_
          intro gb688 hg w46 hbox hb
          refine as14_ (Kd.R_below (z0_ HO669.out) hb) (Kd.R_below (z0_ HO672.out) hb) (Kd.R_below (z0_ HO675.out) hb) (Kd.R_below (z0_ HO678.out) hb) (blkB_ BK663.out hb) (blkB_ BK664.out hb) (below_step (z6_ HB.out GE663.out GE664.out) hb) (hbox) ((z23_ HB.out GE663.out GE664.out:w.heap.size≤gb688)) ((z23_ HB.out GE663.out GE664.out:w.heap.size≤gb688)) (neL_ BK663.out hg) (neG_ BK663.out hg) (neL_ BK664.out hg) (neG_ BK664.out hg) ?_
          clear HO669 HO672 HO675 HO678 BK663 BK664 HB
          intro HO669 HO672 HO675 HO678 BK663 BK664 HB BK688 GW688 GE688 NB663_688 NB688_663 NB664_688 NB688_664
          clear hb hbox hg
          obtain ⟨Ao47,co47,eo47⟩:=Kd.R_slice HO669.out
          (first | subst eo47 | (injection eo47 with f1_ f2_ f3_;have f4_:=f1_.symm;have f5_:=f3_.symm;clear f1_ f2_ f3_;subst f4_;subst f5_))
          obtain ⟨Ao48,co48,eo48⟩:=Kd.R_slice HO672.out
          (first | subst eo48 | (injection eo48 with f1_ f2_ f3_;have f4_:=f1_.symm;have f5_:=f3_.symm;clear f1_ f2_ f3_;subst f4_;subst f5_))
          obtain ⟨Ao49,co49,eo49⟩:=Kd.R_slice HO675.out
          (first | subst eo49 | (injection eo49 with f1_ f2_ f3_;have f4_:=f1_.symm;have f5_:=f3_.symm;clear f1_ f2_ f3_;subst f4_;subst f5_))
          obtain ⟨Ao50,co50,eo50⟩:=Kd.R_slice HO678.out
          (first | subst eo50 | (injection eo50 with f1_ f2_ f3_;have f4_:=f1_.symm;have f5_:=f3_.symm;clear f1_ f2_ f3_;subst f4_;subst f5_))
          refine hK.out _ _ (cj2_ BK663.out (cc2_ BK664.out)) (fun hHeld=>?_)
          clear hK K
          refine nm_ 6 ?_
          refine one_ (i:=4) (N:=some 28) #[I,I,I,I,I,I,O] rfl rfl (by kernel_rfl) (by decide) (fun K hK=>?_)
          refine gs_ Try.func24 #[.agg #[.slice Ao47 t667.length co47,.slice Ao48 t670.length co48],.agg #[.slice Ao49 t673.length co49,.slice Ao50 t676.length co50]] ?_
          with_reducible refine (spec_SetSync.calls k _ _ t667 _ _ t670 _ _ t673 _ _ t676 t679 t682 t685 t686 t687 _ ?s1 ?s2 ?s3 ?s4 ?s5 ?s6 ?s7 ?s8 A21.out).mono ?_
          (case s1=>repeat (first | exact (Kd.R_reads' HO669.out).2.2 | (with_reducible refine Kd.C_alloc ?_ _) | (with_reducible refine Kd.C_drewN ?_ _) | (with_reducible refine Kd.C_drew ?_)))
          (case s2=>exact (Kd.R_reads' HO669.out).2.1)
          (case s3=>repeat (first | exact (Kd.R_reads' HO672.out).2.2 | (with_reducible refine Kd.C_alloc ?_ _) | (with_reducible refine Kd.C_drewN ?_ _) | (with_reducible refine Kd.C_drew ?_)))
          (case s4=>exact (Kd.R_reads' HO672.out).2.1)
          (case s5=>repeat (first | exact (Kd.R_reads' HO675.out).2.2 | (with_reducible refine Kd.C_alloc ?_ _) | (with_reducible refine Kd.C_drewN ?_ _) | (with_reducible refine Kd.C_drew ?_)))
          (case s6=>exact (Kd.R_reads' HO675.out).2.1)
          (case s7=>repeat (first | exact (Kd.R_reads' HO678.out).2.2 | (with_reducible refine Kd.C_alloc ?_ _) | (with_reducible refine Kd.C_drewN ?_ _) | (with_reducible refine Kd.C_drew ?_)))
          (case s8=>exact (Kd.R_reads' HO678.out).2.1)
          rintro e w51 ⟨v680,v683,rfl,ho0,ho1,hb⟩
          refine ⟨_,rfl,?_⟩
          refine as10_ (Kd.R_elder' (z0_ HO669.out) (Kd.R_base ho0) hb) (Kd.R_elder' (z0_ HO672.out) (Kd.R_base ho1) hb) (Kd.R_elder' (z0_ HO675.out) (Kd.R_base ho0) hb) (Kd.R_elder' (z0_ HO678.out) (Kd.R_base ho1) hb) (Kd.R_lower (Kd.R_new' (Kd.R_new' ho0 (Kd.R_lt (z0_ HO669.out))) (Kd.R_lt (z0_ HO675.out))) (below_size (z9_ HB.out GE663.out GE664.out GE688.out))) (Kd.R_lower (Kd.R_new' (Kd.R_new' ho1 (Kd.R_lt (z0_ HO672.out))) (Kd.R_lt (z0_ HO678.out))) (below_size (z9_ HB.out GE663.out GE664.out GE688.out))) (blkB_ BK663.out hb) (blkB_ BK664.out hb) (blkB_ BK688.out hb) (below_step (z9_ HB.out GE663.out GE664.out GE688.out) hb) ?_
          clear HO669 HO672 HO675 HO678 BK663 BK664 BK688 HB
          intro HO669 HO672 HO675 HO678 HO681 HO684 BK663 BK664 BK688 HB
          (try clear hb)
          (try clear ho0)
          (try clear ho1)
          refine hK.out _ _ (cj2_ BK663.out (cc2_ BK664.out)) (fun hHeld=>?_)
          clear hK K
          refine nm_ 28 ?_
          exact norm_ (z36_) (hCont (.slice Ao47 t667.length co47,.slice Ao48 t670.length co48,.slice Ao49 t673.length co49,.slice Ao50 t676.length co50,v680,v683,gb688) _ ⟨hHeld,(z21_ HO669.out),(z21_ HO672.out),(z21_ HO675.out),(z21_ HO678.out),(z21_ HO681.out),(z21_ HO684.out),(z1_ BK663.out),(z1_ BK664.out),(z1_ BK688.out),GW688.out,GE688.out,NB663_688.out,NB688_663.out,NB664_688.out,NB688_664.out,(z9_ HB.out GE663.out GE664.out GE688.out)⟩)
        ·skip
         refine bs_ 6 #[.slice none 0 0,.slice none 0 0,.int .i64 0,.int .i64 0,.int .i64 0] 58 ?_
         intro gb688 hg w45 hbox hb
         refine as12_ (Kd.R_below (z0_ HO669.out) hb) (Kd.R_below (z0_ HO672.out) hb) (blkB_ BK663.out hb) (blkB_ BK664.out hb) (below_step (z6_ HB.out GE663.out GE664.out) hb) (hbox) ((z23_ HB.out GE663.out GE664.out:w.heap.size≤gb688)) ((z23_ HB.out GE663.out GE664.out:w.heap.size≤gb688)) (neL_ BK663.out hg) (neG_ BK663.out hg) (neL_ BK664.out hg) (neG_ BK664.out hg) ?_
         clear HO669 HO672 BK663 BK664 HB
         intro HO669 HO672 BK663 BK664 HB BK688 GW688 GE688 NB663_688 NB688_663 NB664_688 NB688_664
         clear hb hbox hg
         refine hK.out _ _ (cj2_ BK663.out (cc2_ BK664.out)) (fun hHeld=>?_)
         clear hK K
         refine nm_ 6 ?_
         refine one_ (i:=3) (N:=some 27) #[I,I,I,I,O,I,O] rfl rfl (by kernel_rfl) (by decide) (fun K hK=>?_)
         refine gs_ Try.func15 #[.agg #[.slice A1_0 l1_0.length c1_0,.slice A1_1 l1_1.length c1_1]] ?_
         with_reducible refine (laws_toSet.calls k _ _ l1_0 _ _ l1_1 t673 t676 _ ?s1 ?s2 ?s3 ?s4 A20.out).mono ?_
         (case s1=>repeat (first | exact (Kd.C_below HR1_0.out HB.out) | (with_reducible refine Kd.C_alloc ?_ _) | (with_reducible refine Kd.C_drewN ?_ _) | (with_reducible refine Kd.C_drew ?_)))
         (case s2=>exact HC1_0.out)
         (case s3=>repeat (first | exact (Kd.C_below HR1_1.out HB.out) | (with_reducible refine Kd.C_alloc ?_ _) | (with_reducible refine Kd.C_drewN ?_ _) | (with_reducible refine Kd.C_drew ?_)))
         (case s4=>exact HC1_1.out)
         rintro e w46 ⟨v674,v677,rfl,ho0,ho1,hb⟩
         refine ⟨_,rfl,?_⟩
         refine as8_ (Kd.R_elder' (z0_ HO669.out) (Kd.R_base ho0) hb) (Kd.R_elder' (z0_ HO672.out) (Kd.R_base ho1) hb) (Kd.R_lower (Kd.R_new' ho0 (Kd.R_lt (z0_ HO669.out))) (below_size (z9_ HB.out GE663.out GE664.out GE688.out))) (Kd.R_lower (Kd.R_new' ho1 (Kd.R_lt (z0_ HO672.out))) (below_size (z9_ HB.out GE663.out GE664.out GE688.out))) (blkB_ BK663.out hb) (blkB_ BK664.out hb) (blkB_ BK688.out hb) (below_step (z9_ HB.out GE663.out GE664.out GE688.out) hb) ?_
         clear HO669 HO672 BK663 BK664 BK688 HB
         intro HO669 HO672 HO675 HO678 BK663 BK664 BK688 HB
         (try clear hb)
         (try clear ho0)
         (try clear ho1)
         obtain ⟨Ao47,co47,eo47⟩:=Kd.R_slice HO669.out
         (first | subst eo47 | (injection eo47 with f1_ f2_ f3_;have f4_:=f1_.symm;have f5_:=f3_.symm;clear f1_ f2_ f3_;subst f4_;subst f5_))
         obtain ⟨Ao48,co48,eo48⟩:=Kd.R_slice HO672.out
         (first | subst eo48 | (injection eo48 with f1_ f2_ f3_;have f4_:=f1_.symm;have f5_:=f3_.symm;clear f1_ f2_ f3_;subst f4_;subst f5_))
         obtain ⟨Ao49,co49,eo49⟩:=Kd.R_slice HO675.out
         (first | subst eo49 | (injection eo49 with f1_ f2_ f3_;have f4_:=f1_.symm;have f5_:=f3_.symm;clear f1_ f2_ f3_;subst f4_;subst f5_))
         obtain ⟨Ao50,co50,eo50⟩:=Kd.R_slice HO678.out
         (first | subst eo50 | (injection eo50 with f1_ f2_ f3_;have f4_:=f1_.symm;have f5_:=f3_.symm;clear f1_ f2_ f3_;subst f4_;subst f5_))
         refine hK.out _ _ (cj2_ BK663.out (cc2_ BK664.out)) (fun hHeld=>?_)
         clear hK K
         refine nm_ 27 ?_
         refine one_ (i:=4) (N:=some 28) #[I,I,I,I,I,I,O] rfl rfl (by kernel_rfl) (by decide) (fun K hK=>?_)
         refine gs_ Try.func24 #[.agg #[.slice Ao47 t667.length co47,.slice Ao48 t670.length co48],.agg #[.slice Ao49 t673.length co49,.slice Ao50 t676.length co50]] ?_
         with_reducible refine (spec_SetSync.calls k _ _ t667 _ _ t670 _ _ t673 _ _ t676 t679 t682 t685 t686 t687 _ ?s1 ?s2 ?s3 ?s4 ?s5 ?s6 ?s7 ?s8 A21.out).mono ?_
         (case s1=>repeat (first | exact (Kd.R_reads' HO669.out).2.2 | (with_reducible refine Kd.C_alloc ?_ _) | (with_reducible refine Kd.C_drewN ?_ _) | (with_reducible refine Kd.C_drew ?_)))
         (case s2=>exact (Kd.R_reads' HO669.out).2.1)
         (case s3=>repeat (first | exact (Kd.R_reads' HO672.out).2.2 | (with_reducible refine Kd.C_alloc ?_ _) | (with_reducible refine Kd.C_drewN ?_ _) | (with_reducible refine Kd.C_drew ?_)))
         (case s4=>exact (Kd.R_reads' HO672.out).2.1)
         (case s5=>repeat (first | exact (Kd.R_reads' HO675.out).2.2 | (with_reducible refine Kd.C_alloc ?_ _) | (with_reducible refine Kd.C_drewN ?_ _) | (with_reducible refine Kd.C_drew ?_)))
         (case s6=>exact (Kd.R_reads' HO675.out).2.1)
         (case s7=>repeat (first | exact (Kd.R_reads' HO678.out).2.2 | (with_reducible refine Kd.C_alloc ?_ _) | (with_reducible refine Kd.C_drewN ?_ _) | (with_reducible refine Kd.C_drew ?_)))
         (case s8=>exact (Kd.R_reads' HO678.out).2.1)
         rintro e w51 ⟨v680,v683,rfl,ho0,ho1,hb⟩
         refine ⟨_,rfl,?_⟩
         refine as10_ (Kd.R_elder' (z0_ HO669.out) (Kd.R_base ho0) hb) (Kd.R_elder' (z0_ HO672.out) (Kd.R_base ho1) hb) (Kd.R_elder' (z0_ HO675.out) (Kd.R_base ho0) hb) (Kd.R_elder' (z0_ HO678.out) (Kd.R_base ho1) hb) (Kd.R_lower (Kd.R_new' (Kd.R_new' ho0 (Kd.R_lt (z0_ HO669.out))) (Kd.R_lt (z0_ HO675.out))) (below_size (z9_ HB.out GE663.out GE664.out GE688.out))) (Kd.R_lower (Kd.R_new' (Kd.R_new' ho1 (Kd.R_lt (z0_ HO672.out))) (Kd.R_lt (z0_ HO678.out))) (below_size (z9_ HB.out GE663.out GE664.out GE688.out))) (blkB_ BK663.out hb) (blkB_ BK664.out hb) (blkB_ BK688.out hb) (below_step (z9_ HB.out GE663.out GE664.out GE688.out) hb) ?_
         clear HO669 HO672 HO675 HO678 BK663 BK664 BK688 HB
         intro HO669 HO672 HO675 HO678 HO681 HO684 BK663 BK664 BK688 HB
         (try clear hb)
         (try clear ho0)
         (try clear ho1)
         refine hK.out _ _ (cj2_ BK663.out (cc2_ BK664.out)) (fun hHeld=>?_)
         clear hK K
         refine nm_ 28 ?_
         exact norm_ (z36_) (hCont (.slice Ao47 t667.length co47,.slice Ao48 t670.length co48,.slice Ao49 t673.length co49,.slice Ao50 t676.length co50,v680,v683,gb688) _ ⟨hHeld,(z21_ HO669.out),(z21_ HO672.out),(z21_ HO675.out),(z21_ HO678.out),(z21_ HO681.out),(z21_ HO684.out),(z1_ BK663.out),(z1_ BK664.out),(z1_ BK688.out),GW688.out,GE688.out,NB663_688.out,NB688_663.out,NB664_688.out,NB688_664.out,(z9_ HB.out GE663.out GE664.out GE688.out)⟩)
       ·skip
        refine bs_ 6 #[.slice none 0 0,.slice none 0 0,.int .i64 0,.int .i64 0,.int .i64 0] 58 ?_
        intro gb688 hg w44 hbox hb
        refine as10_ (blkB_ BK663.out hb) (blkB_ BK664.out hb) (below_step (z6_ HB.out GE663.out GE664.out) hb) (hbox) ((z23_ HB.out GE663.out GE664.out:w.heap.size≤gb688)) ((z23_ HB.out GE663.out GE664.out:w.heap.size≤gb688)) (neL_ BK663.out hg) (neG_ BK663.out hg) (neL_ BK664.out hg) (neG_ BK664.out hg) ?_
        clear BK663 BK664 HB
        intro BK663 BK664 HB BK688 GW688 GE688 NB663_688 NB688_663 NB664_688 NB688_664
        clear hb hbox hg
        refine hK.out _ _ (cj2_ BK663.out (cc2_ BK664.out)) (fun hHeld=>?_)
        clear hK K
        refine nm_ 6 ?_
        refine one_ (i:=1) (N:=some 25) #[I,I,I,O,O,I,O] rfl rfl (by kernel_rfl) (by decide) (fun K hK=>?_)
        refine gs_ Try.func15 #[.agg #[.slice A0_0 l0_0.length c0_0,.slice A0_1 l0_1.length c0_1]] ?_
        with_reducible refine (laws_toSet.calls k _ _ l0_0 _ _ l0_1 t667 t670 _ ?s1 ?s2 ?s3 ?s4 A19.out).mono ?_
        (case s1=>repeat (first | exact (Kd.C_below HR0_0.out HB.out) | (with_reducible refine Kd.C_alloc ?_ _) | (with_reducible refine Kd.C_drewN ?_ _) | (with_reducible refine Kd.C_drew ?_)))
        (case s2=>exact HC0_0.out)
        (case s3=>repeat (first | exact (Kd.C_below HR0_1.out HB.out) | (with_reducible refine Kd.C_alloc ?_ _) | (with_reducible refine Kd.C_drewN ?_ _) | (with_reducible refine Kd.C_drew ?_)))
        (case s4=>exact HC0_1.out)
        rintro e w45 ⟨v668,v671,rfl,ho0,ho1,hb⟩
        refine ⟨_,rfl,?_⟩
        refine as6_ (Kd.R_lower ho0 (below_size (z9_ HB.out GE663.out GE664.out GE688.out))) (Kd.R_lower ho1 (below_size (z9_ HB.out GE663.out GE664.out GE688.out))) (blkB_ BK663.out hb) (blkB_ BK664.out hb) (blkB_ BK688.out hb) (below_step (z9_ HB.out GE663.out GE664.out GE688.out) hb) ?_
        clear BK663 BK664 BK688 HB
        intro HO669 HO672 BK663 BK664 BK688 HB
        (try clear hb)
        (try clear ho0)
        (try clear ho1)
        refine hK.out _ _ (cj2_ BK663.out (cc2_ BK664.out)) (fun hHeld=>?_)
        clear hK K
        refine nm_ 25 ?_
        refine one_ (i:=3) (N:=some 27) #[I,I,I,I,O,I,O] rfl rfl (by kernel_rfl) (by decide) (fun K hK=>?_)
        refine gs_ Try.func15 #[.agg #[.slice A1_0 l1_0.length c1_0,.slice A1_1 l1_1.length c1_1]] ?_
        with_reducible refine (laws_toSet.calls k _ _ l1_0 _ _ l1_1 t673 t676 _ ?s1 ?s2 ?s3 ?s4 A20.out).mono ?_
        (case s1=>repeat (first | exact (Kd.C_below HR1_0.out HB.out) | (with_reducible refine Kd.C_alloc ?_ _) | (with_reducible refine Kd.C_drewN ?_ _) | (with_reducible refine Kd.C_drew ?_)))
        (case s2=>exact HC1_0.out)
        (case s3=>repeat (first | exact (Kd.C_below HR1_1.out HB.out) | (with_reducible refine Kd.C_alloc ?_ _) | (with_reducible refine Kd.C_drewN ?_ _) | (with_reducible refine Kd.C_drew ?_)))
        (case s4=>exact HC1_1.out)
        rintro e w46 ⟨v674,v677,rfl,ho0,ho1,hb⟩
        refine ⟨_,rfl,?_⟩
        refine as8_ (Kd.R_elder' (z0_ HO669.out) (Kd.R_base ho0) hb) (Kd.R_elder' (z0_ HO672.out) (Kd.R_base ho1) hb) (Kd.R_lower (Kd.R_new' ho0 (Kd.R_lt (z0_ HO669.out))) (below_size (z9_ HB.out GE663.out GE664.out GE688.out))) (Kd.R_lower (Kd.R_new' ho1 (Kd.R_lt (z0_ HO672.out))) (below_size (z9_ HB.out GE663.out GE664.out GE688.out))) (blkB_ BK663.out hb) (blkB_ BK664.out hb) (blkB_ BK688.out hb) (below_step (z9_ HB.out GE663.out GE664.out GE688.out) hb) ?_
        clear HO669 HO672 BK663 BK664 BK688 HB
        intro HO669 HO672 HO675 HO678 BK663 BK664 BK688 HB
        (try clear hb)
        (try clear ho0)
        (try clear ho1)
        obtain ⟨Ao47,co47,eo47⟩:=Kd.R_slice HO669.out
        (first | subst eo47 | (injection eo47 with f1_ f2_ f3_;have f4_:=f1_.symm;have f5_:=f3_.symm;clear f1_ f2_ f3_;subst f4_;subst f5_))
        obtain ⟨Ao48,co48,eo48⟩:=Kd.R_slice HO672.out
        (first | subst eo48 | (injection eo48 with f1_ f2_ f3_;have f4_:=f1_.symm;have f5_:=f3_.symm;clear f1_ f2_ f3_;subst f4_;subst f5_))
        obtain ⟨Ao49,co49,eo49⟩:=Kd.R_slice HO675.out
        (first | subst eo49 | (injection eo49 with f1_ f2_ f3_;have f4_:=f1_.symm;have f5_:=f3_.symm;clear f1_ f2_ f3_;subst f4_;subst f5_))
        obtain ⟨Ao50,co50,eo50⟩:=Kd.R_slice HO678.out
        (first | subst eo50 | (injection eo50 with f1_ f2_ f3_;have f4_:=f1_.symm;have f5_:=f3_.symm;clear f1_ f2_ f3_;subst f4_;subst f5_))
        refine hK.out _ _ (cj2_ BK663.out (cc2_ BK664.out)) (fun hHeld=>?_)
        clear hK K
        refine nm_ 27 ?_
        refine one_ (i:=4) (N:=some 28) #[I,I,I,I,I,I,O] rfl rfl (by kernel_rfl) (by decide) (fun K hK=>?_)
        refine gs_ Try.func24 #[.agg #[.slice Ao47 t667.length co47,.slice Ao48 t670.length co48],.agg #[.slice Ao49 t673.length co49,.slice Ao50 t676.length co50]] ?_
        with_reducible refine (spec_SetSync.calls k _ _ t667 _ _ t670 _ _ t673 _ _ t676 t679 t682 t685 t686 t687 _ ?s1 ?s2 ?s3 ?s4 ?s5 ?s6 ?s7 ?s8 A21.out).mono ?_
        (case s1=>repeat (first | exact (Kd.R_reads' HO669.out).2.2 | (with_reducible refine Kd.C_alloc ?_ _) | (with_reducible refine Kd.C_drewN ?_ _) | (with_reducible refine Kd.C_drew ?_)))
        (case s2=>exact (Kd.R_reads' HO669.out).2.1)
        (case s3=>repeat (first | exact (Kd.R_reads' HO672.out).2.2 | (with_reducible refine Kd.C_alloc ?_ _) | (with_reducible refine Kd.C_drewN ?_ _) | (with_reducible refine Kd.C_drew ?_)))
        (case s4=>exact (Kd.R_reads' HO672.out).2.1)
        (case s5=>repeat (first | exact (Kd.R_reads' HO675.out).2.2 | (with_reducible refine Kd.C_alloc ?_ _) | (with_reducible refine Kd.C_drewN ?_ _) | (with_reducible refine Kd.C_drew ?_)))
        (case s6=>exact (Kd.R_reads' HO675.out).2.1)
        (case s7=>repeat (first | exact (Kd.R_reads' HO678.out).2.2 | (with_reducible refine Kd.C_alloc ?_ _) | (with_reducible refine Kd.C_drewN ?_ _) | (with_reducible refine Kd.C_drew ?_)))
        (case s8=>exact (Kd.R_reads' HO678.out).2.1)
        rintro e w51 ⟨v680,v683,rfl,ho0,ho1,hb⟩
        refine ⟨_,rfl,?_⟩
        refine as10_ (Kd.R_elder' (z0_ HO669.out) (Kd.R_base ho0) hb) (Kd.R_elder' (z0_ HO672.out) (Kd.R_base ho1) hb) (Kd.R_elder' (z0_ HO675.out) (Kd.R_base ho0) hb) (Kd.R_elder' (z0_ HO678.out) (Kd.R_base ho1) hb) (Kd.R_lower (Kd.R_new' (Kd.R_new' ho0 (Kd.R_lt (z0_ HO669.out))) (Kd.R_lt (z0_ HO675.out))) (below_size (z9_ HB.out GE663.out GE664.out GE688.out))) (Kd.R_lower (Kd.R_new' (Kd.R_new' ho1 (Kd.R_lt (z0_ HO672.out))) (Kd.R_lt (z0_ HO678.out))) (below_size (z9_ HB.out GE663.out GE664.out GE688.out))) (blkB_ BK663.out hb) (blkB_ BK664.out hb) (blkB_ BK688.out hb) (below_step (z9_ HB.out GE663.out GE664.out GE688.out) hb) ?_
        clear HO669 HO672 HO675 HO678 BK663 BK664 BK688 HB
        intro HO669 HO672 HO675 HO678 HO681 HO684 BK663 BK664 BK688 HB
        (try clear hb)
        (try clear ho0)
        (try clear ho1)
        refine hK.out _ _ (cj2_ BK663.out (cc2_ BK664.out)) (fun hHeld=>?_)
        clear hK K
        refine nm_ 28 ?_
        exact norm_ (z36_) (hCont (.slice Ao47 t667.length co47,.slice Ao48 t670.length co48,.slice Ao49 t673.length co49,.slice Ao50 t676.length co50,v680,v683,gb688) _ ⟨hHeld,(z21_ HO669.out),(z21_ HO672.out),(z21_ HO675.out),(z21_ HO678.out),(z21_ HO681.out),(z21_ HO684.out),(z1_ BK663.out),(z1_ BK664.out),(z1_ BK688.out),GW688.out,GE688.out,NB663_688.out,NB688_663.out,NB664_688.out,NB688_664.out,(z9_ HB.out GE663.out GE664.out GE688.out)⟩)
      rintro ⟨v668,v671,v674,v677,v680,v683,gb688⟩ w52 ⟨hS_,h0_,h1_,h2_,h3_,h4_,h5_,h6_,h7_,h8_,h9_,h10_,h11_,h12_,h13_,h14_,h15_⟩
      have n0_:Aside0 (Kd.R k56 56 w52 w.heap.size (fun k_=>some k_≠(v674:Value).ownBlock∧some k_≠(v680:Value).ownBlock) v668 t667):=⟨h0_⟩
      have n1_:Aside0 (Kd.R k91 91 w52 w.heap.size (fun k_=>some k_≠(v677:Value).ownBlock∧some k_≠(v683:Value).ownBlock) v671 t670):=⟨h1_⟩
      have n2_:Aside0 (Kd.R k56 56 w52 w.heap.size (fun k_=>some k_≠(v668:Value).ownBlock∧some k_≠(v680:Value).ownBlock) v674 t673):=⟨h2_⟩
      have n3_:Aside0 (Kd.R k91 91 w52 w.heap.size (fun k_=>some k_≠(v671:Value).ownBlock∧some k_≠(v683:Value).ownBlock) v677 t676):=⟨h3_⟩
      have n4_:Aside0 (Kd.R k56 56 w52 w.heap.size (fun k_=>some k_≠(v668:Value).ownBlock∧some k_≠(v674:Value).ownBlock) v680 t679):=⟨h4_⟩
      have n5_:Aside0 (Kd.R k91 91 w52 w.heap.size (fun k_=>some k_≠(v671:Value).ownBlock∧some k_≠(v677:Value).ownBlock) v683 t682):=⟨h5_⟩
      have n6_:Aside0 (w52.heap[gb663]? = some (.cells #[.slice A0_0 l0_0.length c0_0,.slice A0_1 l0_1.length c0_1] 32 (0,0))):=⟨h6_⟩
      have n7_:Aside0 (w52.heap[gb664]? = some (.cells #[.slice A1_0 l1_0.length c1_0,.slice A1_1 l1_1.length c1_1] 32 (0,0))):=⟨h7_⟩
      have n8_:Aside0 (w52.heap[gb688]? = some (.cells #[.slice none 0 0,.slice none 0 0,.int .i64 0,.int .i64 0,.int .i64 0] 58 (0,0))):=⟨h8_⟩
      have n9_:Aside0 (w.heap.size≤gb688):=⟨h9_⟩
      have n10_:Aside0 (w.heap.size≤gb688):=⟨h10_⟩
      have n11_:Aside0 (gb663≠gb688):=⟨h11_⟩
      have n12_:Aside0 (gb688≠gb663):=⟨h12_⟩
      have n13_:Aside0 (gb664≠gb688):=⟨h13_⟩
      have n14_:Aside0 (gb688≠gb664):=⟨h14_⟩
      have n15_:Aside0 (Below w.heap.size w w52):=⟨h15_⟩
      clear BK663
      clear BK664
      clear HB
      clear h0_ h1_ h2_ h3_ h4_ h5_ h6_ h7_ h8_ h9_ h10_ h11_ h12_ h13_ h14_ h15_
      have HO669:=n0_
      have HO672:=n1_
      have HO675:=n2_
      have HO678:=n3_
      have HO681:=n4_
      have HO684:=n5_
      have BK663:=n6_
      have BK664:=n7_
      have BK688:=n8_
      have GW688:=n9_
      have GE688:=n10_
      have NB663_688:=n11_
      have NB688_663:=n12_
      have NB664_688:=n13_
      have NB688_664:=n14_
      have HB:=n15_
      clear n0_ n1_ n2_ n3_ n4_ n5_ n6_ n7_ n8_ n9_ n10_ n11_ n12_ n13_ n14_ n15_
      have hHeld:w52.cell? ⟨gb663,0,none⟩=some (.slice A0_0 l0_0.length c0_0)∧w52.cell? ⟨gb663,1,none⟩=some (.slice A0_1 l0_1.length c0_1)∧w52.cell? ⟨gb664,0,none⟩=some (.slice A1_0 l1_0.length c1_0)∧w52.cell? ⟨gb664,1,none⟩=some (.slice A1_1 l1_1.length c1_1):=hS_
      obtain ⟨Ao53,co53,eo53⟩:=Kd.R_slice HO681.out
      (first | subst eo53 | (injection eo53 with f1_ f2_ f3_;have f4_:=f1_.symm;have f5_:=f3_.symm;clear f1_ f2_ f3_;subst f4_;subst f5_))
      obtain ⟨Ao55,co55,eo55⟩:=Kd.R_slice HO684.out
      (first | subst eo55 | (injection eo55 with f1_ f2_ f3_;have f4_:=f1_.symm;have f5_:=f3_.symm;clear f1_ f2_ f3_;subst f4_;subst f5_))
      refine norm_ (a':=?_) ?_ ?_
      rotate_left
      ·simp only [putAll,Act.put,List.setIfInBounds_toArray,List.set_cons_zero,List.set_cons_succ]
       rfl
      refine one_ (i:=6) (N:=none) #[I,I,I,I,I,I,I] rfl rfl (by kernel_rfl) (by decide) (fun K hK=>?_)
      have hs54:w52.cell? ⟨gb688,0,none⟩=some (.slice none 0 0):=(blk_cell BK688.out 0).trans rfl
      have hfs54:=blk_frozen BK688.out 0
      have hns54_0:=NB663_688.out
      have hns54_1:=NB664_688.out
      have hms54_0:=NB688_663.out
      have hms54_1:=NB688_664.out
      have hs56:w52.cell? ⟨gb688,1,none⟩=some (.slice none 0 0):=(blk_cell BK688.out 1).trans rfl
      have hfs56:=blk_frozen BK688.out 1
      have hns56_0:=NB663_688.out
      have hns56_1:=NB664_688.out
      have hms56_0:=NB688_663.out
      have hms56_1:=NB688_664.out
      have hs57:w52.cell? ⟨gb688,2,none⟩=some (.int .i64 0):=(blk_cell BK688.out 2).trans rfl
      have hfs57:=blk_frozen BK688.out 2
      have hns57_0:=NB663_688.out
      have hns57_1:=NB664_688.out
      have hms57_0:=NB688_663.out
      have hms57_1:=NB688_664.out
      have hs58:w52.cell? ⟨gb688,3,none⟩=some (.int .i64 0):=(blk_cell BK688.out 3).trans rfl
      have hfs58:=blk_frozen BK688.out 3
      have hns58_0:=NB663_688.out
      have hns58_1:=NB664_688.out
      have hms58_0:=NB688_663.out
      have hms58_1:=NB688_664.out
      have hs59:w52.cell? ⟨gb688,4,none⟩=some (.int .i64 0):=(blk_cell BK688.out 4).trans rfl
      have hfs59:=blk_frozen BK688.out 4
      have hns59_0:=NB663_688.out
      have hns59_1:=NB664_688.out
      have hms59_0:=NB688_663.out
      have hms59_1:=NB688_664.out
      refine skip_ (w1:=?_) (by rfl) rfl ?_ ?_
      rotate_left
      ·go_simp
       rfl
      refine hK.out _ _ ⟨((cell_far (p:=⟨gb688,_,none⟩) NB663_688.out _).trans (((cell_far (p:=⟨gb688,_,none⟩) NB663_688.out _).trans (((cell_far (p:=⟨gb688,_,none⟩) NB663_688.out _).trans (((cell_far (p:=⟨gb688,_,none⟩) NB663_688.out _).trans (((cell_far (p:=⟨gb688,_,none⟩) NB663_688.out _).trans (hHeld.1)))))))))),((cell_far (p:=⟨gb688,_,none⟩) NB663_688.out _).trans (((cell_far (p:=⟨gb688,_,none⟩) NB663_688.out _).trans (((cell_far (p:=⟨gb688,_,none⟩) NB663_688.out _).trans (((cell_far (p:=⟨gb688,_,none⟩) NB663_688.out _).trans (((cell_far (p:=⟨gb688,_,none⟩) NB663_688.out _).trans (hHeld.2.1)))))))))),((cell_far (p:=⟨gb688,_,none⟩) NB664_688.out _).trans (((cell_far (p:=⟨gb688,_,none⟩) NB664_688.out _).trans (((cell_far (p:=⟨gb688,_,none⟩) NB664_688.out _).trans (((cell_far (p:=⟨gb688,_,none⟩) NB664_688.out _).trans (((cell_far (p:=⟨gb688,_,none⟩) NB664_688.out _).trans (hHeld.2.2.1)))))))))),((cell_far (p:=⟨gb688,_,none⟩) NB664_688.out _).trans (((cell_far (p:=⟨gb688,_,none⟩) NB664_688.out _).trans (((cell_far (p:=⟨gb688,_,none⟩) NB664_688.out _).trans (((cell_far (p:=⟨gb688,_,none⟩) NB664_688.out _).trans (((cell_far (p:=⟨gb688,_,none⟩) NB664_688.out _).trans (hHeld.2.2.2))))))))))⟩ (fun hHeld=>?_)
      clear hK K
      refine done_ (by kernel_rfl) ?_
      have hnb60:=NB663_688.out
      have hnc60:=NB688_663.out
      have ⟨hcz61_0,hcz61_1,hfz61_0,hfz61_1⟩:=cz2_ BK663.out
      try go_wp2_with (first | ((with_reducible refine gc_ 15 ?_);refine gl_ (some 30) Try.func15 #[.agg #[.slice A0_0 l0_0.length c0_0,.slice A0_1 l0_1.length c0_1]] ?_;(with_reducible refine (laws_toSet.calls k _ _ l0_0 _ _ l0_1 t689 t692 _ ?s1 ?s2 ?s3 ?s4 A22.out).mono ?_);(case s1=>exact Kd.C_below HR0_0.out (z9_ HB.out GE663.out GE664.out GE688.out));(case s2=>exact HC0_0.out);(case s3=>exact Kd.C_below HR0_1.out (z9_ HB.out GE663.out GE664.out GE688.out));(case s4=>exact HC0_1.out);rintro e w62 ⟨v690,v693,rfl,ho0,ho1,hb⟩;refine ⟨_,rfl,?_⟩;refine as12_ (Kd.R_elder' (z11_ HO669.out BK688.out) (Kd.R_base ho0) hb) (Kd.R_elder' (z11_ HO672.out BK688.out) (Kd.R_base ho1) hb) (Kd.R_elder' (z11_ HO675.out BK688.out) (Kd.R_base ho0) hb) (Kd.R_elder' (z11_ HO678.out BK688.out) (Kd.R_base ho1) hb) (Kd.R_elder' (z11_ HO681.out BK688.out) (Kd.R_base ho0) hb) (Kd.R_elder' (z11_ HO684.out BK688.out) (Kd.R_base ho1) hb) (Kd.R_lower (Kd.R_new' (Kd.R_new' (Kd.R_new' ho0 (Kd.R_lt (z11_ HO669.out BK688.out))) (Kd.R_lt (z11_ HO675.out BK688.out))) (Kd.R_lt (z11_ HO681.out BK688.out))) (below_size (z9_ HB.out GE663.out GE664.out GE688.out))) (Kd.R_lower (Kd.R_new' (Kd.R_new' (Kd.R_new' ho1 (Kd.R_lt (z11_ HO672.out BK688.out))) (Kd.R_lt (z11_ HO678.out BK688.out))) (Kd.R_lt (z11_ HO684.out BK688.out))) (below_size (z9_ HB.out GE663.out GE664.out GE688.out))) (blk_below (g:=gb663) (o:=.cells #[.slice A0_0 l0_0.length c0_0,.slice A0_1 l0_1.length c0_1] 32 (0,0)) (z28_ NB663_688.out BK663.out) hb) (blk_below (g:=gb664) (o:=.cells #[.slice A1_0 l1_0.length c1_0,.slice A1_1 l1_1.length c1_1] 32 (0,0)) (z28_ NB664_688.out BK664.out) hb) (blk_below (g:=gb688) (o:=.cells #[.slice Ao53 t679.length co53,.slice Ao55 t682.length co55,.int .i64 t685,.int .i64 t686,.int .i64 t687] 58 (0,0)) (z31_ BK688.out) hb) (below_step (z9_ HB.out GE663.out GE664.out GE688.out) hb) ?_;clear HO669 HO672 HO675 HO678 HO681 HO684 BK663 BK664 BK688 HB;intro HO669 HO672 HO675 HO678 HO681 HO684 HO691 HO694 BK663 BK664 BK688 HB;(try clear hb);(try clear hb2);(try clear hk);(try clear hi);(try clear ho0);(try clear ho1)) | ((with_reducible refine gd_ 7 ?_);refine be_ 7 #[.slice none 0 0,.slice none 0 0] 40 ?_;intro gb695 hg w63 hbox hb;refine as21_ (Kd.R_below (z0_ HO669.out) hb) (Kd.R_below (z0_ HO672.out) hb) (Kd.R_below (z0_ HO675.out) hb) (Kd.R_below (z0_ HO678.out) hb) (Kd.R_below (z0_ HO681.out) hb) (Kd.R_below (z0_ HO684.out) hb) (Kd.R_below (z0_ HO691.out) hb) (Kd.R_below (z0_ HO694.out) hb) (blkB_ BK663.out hb) (blkB_ BK664.out hb) (blkB_ BK688.out hb) (below_step (z9_ HB.out GE663.out GE664.out GE688.out) hb) (hbox) ((z38_ HB.out GE663.out GE664.out GE688.out:w.heap.size≤gb695)) ((z38_ HB.out GE663.out GE664.out GE688.out:w.heap.size≤gb695)) (neL_ BK663.out hg) (neG_ BK663.out hg) (neL_ BK664.out hg) (neG_ BK664.out hg) (neL_ BK688.out hg) (neG_ BK688.out hg) ?_;clear HO669 HO672 HO675 HO678 HO681 HO684 HO691 HO694 BK663 BK664 BK688 HB;intro HO669 HO672 HO675 HO678 HO681 HO684 HO691 HO694 BK663 BK664 BK688 HB BK695 GW695 GE695 NB663_695 NB695_663 NB664_695 NB695_664 NB688_695 NB695_688;clear hb hbox hg;obtain ⟨Ao64,co64,eo64⟩:=Kd.R_slice HO691.out;subst eo64;have hnb65:=NB695_663.out;have hnc65:=NB663_695.out;have hnb66:=NB695_664.out;have hnc66:=NB664_695.out;have hnb67:=NB695_688.out;have hnc67:=NB688_695.out;have ⟨hcz68_0,hcz68_1,hfz68_0,hfz68_1⟩:=cz2_ BK695.out;obtain ⟨Ao69,co69,eo69⟩:=Kd.R_slice HO694.out;subst eo69;have hnb70:=NB664_688.out;have hnc70:=NB688_664.out;have ⟨hcz71_0,hcz71_1,hfz71_0,hfz71_1⟩:=cz2_ BK664.out) | ((with_reducible refine gc_ 15 ?_);refine gl_ (some 32) Try.func15 #[.agg #[.slice A1_0 l1_0.length c1_0,.slice A1_1 l1_1.length c1_1]] ?_;(with_reducible refine (laws_toSet.calls k _ _ l1_0 _ _ l1_1 t696 t699 _ ?s1 ?s2 ?s3 ?s4 A23.out).mono ?_);(case s1=>exact Kd.C_below HR1_0.out (z14_ HB.out GE663.out GE664.out GE688.out GE695.out));(case s2=>exact HC1_0.out);(case s3=>exact Kd.C_below HR1_1.out (z14_ HB.out GE663.out GE664.out GE688.out GE695.out));(case s4=>exact HC1_1.out);rintro e w72 ⟨v697,v700,rfl,ho0,ho1,hb⟩;refine ⟨_,rfl,?_⟩;refine as15_ (Kd.R_elder' (z12_ HO669.out BK695.out) (Kd.R_base ho0) hb) (Kd.R_elder' (z12_ HO672.out BK695.out) (Kd.R_base ho1) hb) (Kd.R_elder' (z12_ HO675.out BK695.out) (Kd.R_base ho0) hb) (Kd.R_elder' (z12_ HO678.out BK695.out) (Kd.R_base ho1) hb) (Kd.R_elder' (z12_ HO681.out BK695.out) (Kd.R_base ho0) hb) (Kd.R_elder' (z12_ HO684.out BK695.out) (Kd.R_base ho1) hb) (Kd.R_elder' (z12_ HO691.out BK695.out) (Kd.R_base ho0) hb) (Kd.R_elder' (z12_ HO694.out BK695.out) (Kd.R_base ho1) hb) (Kd.R_lower (Kd.R_new' (Kd.R_new' (Kd.R_new' (Kd.R_new' ho0 (Kd.R_lt (z12_ HO669.out BK695.out))) (Kd.R_lt (z12_ HO675.out BK695.out))) (Kd.R_lt (z12_ HO681.out BK695.out))) (Kd.R_lt (z12_ HO691.out BK695.out))) (below_size (z14_ HB.out GE663.out GE664.out GE688.out GE695.out))) (Kd.R_lower (Kd.R_new' (Kd.R_new' (Kd.R_new' (Kd.R_new' ho1 (Kd.R_lt (z12_ HO672.out BK695.out))) (Kd.R_lt (z12_ HO678.out BK695.out))) (Kd.R_lt (z12_ HO684.out BK695.out))) (Kd.R_lt (z12_ HO694.out BK695.out))) (below_size (z14_ HB.out GE663.out GE664.out GE688.out GE695.out))) (blk_below (g:=gb663) (o:=.cells #[.slice A0_0 l0_0.length c0_0,.slice A0_1 l0_1.length c0_1] 32 (0,0)) (z27_ NB663_695.out BK663.out) hb) (blk_below (g:=gb664) (o:=.cells #[.slice A1_0 l1_0.length c1_0,.slice A1_1 l1_1.length c1_1] 32 (0,0)) (z27_ NB664_695.out BK664.out) hb) (blk_below (g:=gb688) (o:=.cells #[.slice Ao53 t679.length co53,.slice Ao55 t682.length co55,.int .i64 t685,.int .i64 t686,.int .i64 t687] 58 (0,0)) (z27_ NB688_695.out BK688.out) hb) (blk_below (g:=gb695) (o:=.cells #[.slice Ao64 t689.length co64,.slice Ao69 t692.length co69] 40 (0,0)) (z34_ BK695.out) hb) (below_step (z14_ HB.out GE663.out GE664.out GE688.out GE695.out) hb) ?_;clear HO669 HO672 HO675 HO678 HO681 HO684 HO691 HO694 BK663 BK664 BK688 BK695 HB;intro HO669 HO672 HO675 HO678 HO681 HO684 HO691 HO694 HO698 HO701 BK663 BK664 BK688 BK695 HB;(try clear hb);(try clear hb2);(try clear hk);(try clear hi);(try clear ho0);(try clear ho1)) | ((with_reducible refine gd_ 8 ?_);refine be_ 8 #[.slice none 0 0,.slice none 0 0] 40 ?_;intro gb702 hg w73 hbox hb;refine as26_ (Kd.R_below (z0_ HO669.out) hb) (Kd.R_below (z0_ HO672.out) hb) (Kd.R_below (z0_ HO675.out) hb) (Kd.R_below (z0_ HO678.out) hb) (Kd.R_below (z0_ HO681.out) hb) (Kd.R_below (z0_ HO684.out) hb) (Kd.R_below (z0_ HO691.out) hb) (Kd.R_below (z0_ HO694.out) hb) (Kd.R_below (z0_ HO698.out) hb) (Kd.R_below (z0_ HO701.out) hb) (blkB_ BK663.out hb) (blkB_ BK664.out hb) (blkB_ BK688.out hb) (blkB_ BK695.out hb) (below_step (z14_ HB.out GE663.out GE664.out GE688.out GE695.out) hb) (hbox) ((z39_ HB.out GE663.out GE664.out GE688.out GE695.out:w.heap.size≤gb702)) ((z39_ HB.out GE663.out GE664.out GE688.out GE695.out:w.heap.size≤gb702)) (neL_ BK663.out hg) (neG_ BK663.out hg) (neL_ BK664.out hg) (neG_ BK664.out hg) (neL_ BK688.out hg) (neG_ BK688.out hg) (neL_ BK695.out hg) (neG_ BK695.out hg) ?_;clear HO669 HO672 HO675 HO678 HO681 HO684 HO691 HO694 HO698 HO701 BK663 BK664 BK688 BK695 HB;intro HO669 HO672 HO675 HO678 HO681 HO684 HO691 HO694 HO698 HO701 BK663 BK664 BK688 BK695 HB BK702 GW702 GE702 NB663_702 NB702_663 NB664_702 NB702_664 NB688_702 NB702_688 NB695_702 NB702_695;clear hb hbox hg;obtain ⟨Ao74,co74,eo74⟩:=Kd.R_slice HO698.out;subst eo74;have hnb75:=NB702_663.out;have hnc75:=NB663_702.out;have hnb76:=NB702_664.out;have hnc76:=NB664_702.out;have hnb77:=NB702_688.out;have hnc77:=NB688_702.out;have hnb78:=NB702_695.out;have hnc78:=NB695_702.out;have ⟨hcz79_0,hcz79_1,hfz79_0,hfz79_1⟩:=cz2_ BK702.out;obtain ⟨Ao80,co80,eo80⟩:=Kd.R_slice HO701.out;subst eo80;have ⟨hcz81_0,hcz81_1,hfz81_0,hfz81_1⟩:=cz2_ BK695.out) | ((with_reducible refine gc_ 25 ?_);refine gl_ (some 35) Try.func25 #[.agg #[.slice Ao64 t689.length co64,.slice Ao69 t692.length co69],.agg #[.slice Ao74 t696.length co74,.slice Ao80 t699.length co80]] ?_;(with_reducible refine (impl_SetSync.calls k _ _ t689 _ _ t692 _ _ t696 _ _ t699 t703 t706 t709 t710 t711 _ ?s1 ?s2 ?s3 ?s4 ?s5 ?s6 ?s7 ?s8 A24.out).mono ?_);(case s1=>refine (Kd.R_reads' (e:=56) (base:=w.heap.size) (ok:=fun k_=>((((True∧some k_≠(v668:Value).ownBlock)∧some k_≠(v674:Value).ownBlock)∧some k_≠(.slice Ao53 t679.length co53:Value).ownBlock)∧some k_≠(.slice Ao74 t696.length co74:Value).ownBlock)) (n:=t689.length) (c:=co64) ?_).2.2;exact (z12_ HO691.out BK702.out));(case s2=>exact (Kd.R_reads' HO691.out).2.1);(case s3=>refine (Kd.R_reads' (e:=91) (base:=w.heap.size) (ok:=fun k_=>((((True∧some k_≠(v671:Value).ownBlock)∧some k_≠(v677:Value).ownBlock)∧some k_≠(.slice Ao55 t682.length co55:Value).ownBlock)∧some k_≠(.slice Ao80 t699.length co80:Value).ownBlock)) (n:=t692.length) (c:=co69) ?_).2.2;exact (z12_ HO694.out BK702.out));(case s4=>exact (Kd.R_reads' HO694.out).2.1);(case s5=>refine (Kd.R_reads' (e:=56) (base:=w.heap.size) (ok:=fun k_=>((((True∧some k_≠(v668:Value).ownBlock)∧some k_≠(v674:Value).ownBlock)∧some k_≠(.slice Ao53 t679.length co53:Value).ownBlock)∧some k_≠(.slice Ao64 t689.length co64:Value).ownBlock)) (n:=t696.length) (c:=co74) ?_).2.2;exact (z12_ HO698.out BK702.out));(case s6=>exact (Kd.R_reads' HO698.out).2.1);(case s7=>refine (Kd.R_reads' (e:=91) (base:=w.heap.size) (ok:=fun k_=>((((True∧some k_≠(v671:Value).ownBlock)∧some k_≠(v677:Value).ownBlock)∧some k_≠(.slice Ao55 t682.length co55:Value).ownBlock)∧some k_≠(.slice Ao69 t692.length co69:Value).ownBlock)) (n:=t699.length) (c:=co80) ?_).2.2;exact (z12_ HO701.out BK702.out));(case s8=>exact (Kd.R_reads' HO701.out).2.1);rintro e w82 ⟨v704,v707,rfl,ho0,ho1,hb⟩;refine ⟨_,rfl,?_⟩;refine as18_ (Kd.R_elder' (z12_ HO669.out BK702.out) (Kd.R_base ho0) hb) (Kd.R_elder' (z12_ HO672.out BK702.out) (Kd.R_base ho1) hb) (Kd.R_elder' (z12_ HO675.out BK702.out) (Kd.R_base ho0) hb) (Kd.R_elder' (z12_ HO678.out BK702.out) (Kd.R_base ho1) hb) (Kd.R_elder' (z12_ HO681.out BK702.out) (Kd.R_base ho0) hb) (Kd.R_elder' (z12_ HO684.out BK702.out) (Kd.R_base ho1) hb) (Kd.R_elder' (z12_ HO691.out BK702.out) (Kd.R_base ho0) hb) (Kd.R_elder' (z12_ HO694.out BK702.out) (Kd.R_base ho1) hb) (Kd.R_elder' (z12_ HO698.out BK702.out) (Kd.R_base ho0) hb) (Kd.R_elder' (z12_ HO701.out BK702.out) (Kd.R_base ho1) hb) (Kd.R_lower (Kd.R_new' (Kd.R_new' (Kd.R_new' (Kd.R_new' (Kd.R_new' ho0 (Kd.R_lt (z12_ HO669.out BK702.out))) (Kd.R_lt (z12_ HO675.out BK702.out))) (Kd.R_lt (z12_ HO681.out BK702.out))) (Kd.R_lt (z12_ HO691.out BK702.out))) (Kd.R_lt (z12_ HO698.out BK702.out))) (below_size (z17_ HB.out GE663.out GE664.out GE688.out GE695.out GE702.out))) (Kd.R_lower (Kd.R_new' (Kd.R_new' (Kd.R_new' (Kd.R_new' (Kd.R_new' ho1 (Kd.R_lt (z12_ HO672.out BK702.out))) (Kd.R_lt (z12_ HO678.out BK702.out))) (Kd.R_lt (z12_ HO684.out BK702.out))) (Kd.R_lt (z12_ HO694.out BK702.out))) (Kd.R_lt (z12_ HO701.out BK702.out))) (below_size (z17_ HB.out GE663.out GE664.out GE688.out GE695.out GE702.out))) (blk_below (g:=gb663) (o:=.cells #[.slice A0_0 l0_0.length c0_0,.slice A0_1 l0_1.length c0_1] 32 (0,0)) (z27_ NB663_702.out BK663.out) hb) (blk_below (g:=gb664) (o:=.cells #[.slice A1_0 l1_0.length c1_0,.slice A1_1 l1_1.length c1_1] 32 (0,0)) (z27_ NB664_702.out BK664.out) hb) (blk_below (g:=gb688) (o:=.cells #[.slice Ao53 t679.length co53,.slice Ao55 t682.length co55,.int .i64 t685,.int .i64 t686,.int .i64 t687] 58 (0,0)) (z27_ NB688_702.out BK688.out) hb) (blk_below (g:=gb695) (o:=.cells #[.slice Ao64 t689.length co64,.slice Ao69 t692.length co69] 40 (0,0)) (z27_ NB695_702.out BK695.out) hb) (blk_below (g:=gb702) (o:=.cells #[.slice Ao74 t696.length co74,.slice Ao80 t699.length co80] 40 (0,0)) (z34_ BK702.out) hb) (below_step (z17_ HB.out GE663.out GE664.out GE688.out GE695.out GE702.out) hb) ?_;clear HO669 HO672 HO675 HO678 HO681 HO684 HO691 HO694 HO698 HO701 BK663 BK664 BK688 BK695 BK702 HB;intro HO669 HO672 HO675 HO678 HO681 HO684 HO691 HO694 HO698 HO701 HO705 HO708 BK663 BK664 BK688 BK695 BK702 HB;(try clear hb);(try clear hb2);(try clear hk);(try clear hi);(try clear ho0);(try clear ho1)) | ((with_reducible refine gd_ 9 ?_);refine be_ 9 #[.slice none 0 0,.slice none 0 0,.int .i64 0,.int .i64 0,.int .i64 0] 58 ?_;intro gb712 hg w83 hbox hb;refine as31_ (Kd.R_below (z0_ HO669.out) hb) (Kd.R_below (z0_ HO672.out) hb) (Kd.R_below (z0_ HO675.out) hb) (Kd.R_below (z0_ HO678.out) hb) (Kd.R_below (z0_ HO681.out) hb) (Kd.R_below (z0_ HO684.out) hb) (Kd.R_below (z0_ HO691.out) hb) (Kd.R_below (z0_ HO694.out) hb) (Kd.R_below (z0_ HO698.out) hb) (Kd.R_below (z0_ HO701.out) hb) (Kd.R_below (z0_ HO705.out) hb) (Kd.R_below (z0_ HO708.out) hb) (blkB_ BK663.out hb) (blkB_ BK664.out hb) (blkB_ BK688.out hb) (blkB_ BK695.out hb) (blkB_ BK702.out hb) (below_step (z17_ HB.out GE663.out GE664.out GE688.out GE695.out GE702.out) hb) (hbox) ((by rw [hg];exact (below_size (by repeat (first | (with_reducible first | exact HB.out | apply below_alloc | apply pw_below_drewN | apply below_drew1 | refine below_set ?_ GE663.out | refine below_set ?_ GE664.out | refine below_set ?_ GE688.out | refine below_set ?_ GE695.out | refine below_set ?_ GE702.out) | exact HB.out))):w.heap.size≤gb712)) ((by rw [hg];exact (below_size (by repeat (first | (with_reducible first | exact HB.out | apply below_alloc | apply pw_below_drewN | apply below_drew1 | refine below_set ?_ GE663.out | refine below_set ?_ GE664.out | refine below_set ?_ GE688.out | refine below_set ?_ GE695.out | refine below_set ?_ GE702.out) | exact HB.out))):w.heap.size≤gb712)) (neL_ BK663.out hg) (neG_ BK663.out hg) (neL_ BK664.out hg) (neG_ BK664.out hg) (neL_ BK688.out hg) (neG_ BK688.out hg) (neL_ BK695.out hg) (neG_ BK695.out hg) (neL_ BK702.out hg) (neG_ BK702.out hg) ?_;clear HO669 HO672 HO675 HO678 HO681 HO684 HO691 HO694 HO698 HO701 HO705 HO708 BK663 BK664 BK688 BK695 BK702 HB;intro HO669 HO672 HO675 HO678 HO681 HO684 HO691 HO694 HO698 HO701 HO705 HO708 BK663 BK664 BK688 BK695 BK702 HB BK712 GW712 GE712 NB663_712 NB712_663 NB664_712 NB712_664 NB688_712 NB712_688 NB695_712 NB712_695 NB702_712 NB712_702;clear hb hbox hg;obtain ⟨Ao84,co84,eo84⟩:=Kd.R_slice HO705.out;subst eo84;have hnb85:=NB712_663.out;have hnc85:=NB663_712.out;have hnb86:=NB712_664.out;have hnc86:=NB664_712.out;have hnb87:=NB712_688.out;have hnc87:=NB688_712.out;have hnb88:=NB712_695.out;have hnc88:=NB695_712.out;have hnb89:=NB712_702.out;have hnc89:=NB702_712.out;have ⟨hcz90_0,hcz90_1,hcz90_2,hcz90_3,hcz90_4,hfz90_0,hfz90_1,hfz90_2,hfz90_3,hfz90_4⟩:=cz5_ BK712.out;obtain ⟨Ao91,co91,eo91⟩:=Kd.R_slice HO708.out;subst eo91;have ⟨hcz92_0,hcz92_1,hcz92_2,hcz92_3,hcz92_4,hfz92_0,hfz92_1,hfz92_2,hfz92_3,hfz92_4⟩:=cz5_ BK688.out) | ((with_reducible refine gc_ 26 ?_);refine gl_ (some 38) Try.func26 #[.agg #[.slice Ao84 t703.length co84,.slice Ao91 t706.length co91,.int .i64 t709,.int .i64 t710,.int .i64 t711],.agg #[.slice Ao53 t679.length co53,.slice Ao55 t682.length co55,.int .i64 t685,.int .i64 t686,.int .i64 t687]] ?_;(with_reducible refine (laws_eqSetOut.calls k _ _ t703 _ _ t706 t709 t710 t711 _ _ t679 _ _ t682 t685 t686 t687 true _ ?s1 ?s2 ?s3 ?s4 ?s5 ?s6 ?s7 ?s8 A25.out).mono ?_);(case s1=>refine (Kd.R_reads' (e:=56) (base:=w.heap.size) (ok:=fun k_=>(((((True∧some k_≠(v668:Value).ownBlock)∧some k_≠(v674:Value).ownBlock)∧some k_≠(.slice Ao53 t679.length co53:Value).ownBlock)∧some k_≠(.slice Ao64 t689.length co64:Value).ownBlock)∧some k_≠(.slice Ao74 t696.length co74:Value).ownBlock)) (n:=t703.length) (c:=co84) ?_).2.2;exact (z11_ HO705.out BK712.out));(case s2=>exact (Kd.R_reads' HO705.out).2.1);(case s3=>refine (Kd.R_reads' (e:=91) (base:=w.heap.size) (ok:=fun k_=>(((((True∧some k_≠(v671:Value).ownBlock)∧some k_≠(v677:Value).ownBlock)∧some k_≠(.slice Ao55 t682.length co55:Value).ownBlock)∧some k_≠(.slice Ao69 t692.length co69:Value).ownBlock)∧some k_≠(.slice Ao80 t699.length co80:Value).ownBlock)) (n:=t706.length) (c:=co91) ?_).2.2;exact (z11_ HO708.out BK712.out));(case s4=>exact (Kd.R_reads' HO708.out).2.1);(case s5=>refine (Kd.R_reads' (e:=56) (base:=w.heap.size) (ok:=fun k_=>((((some k_≠(v668:Value).ownBlock∧some k_≠(v674:Value).ownBlock)∧some k_≠(.slice Ao64 t689.length co64:Value).ownBlock)∧some k_≠(.slice Ao74 t696.length co74:Value).ownBlock)∧some k_≠(.slice Ao84 t703.length co84:Value).ownBlock)) (n:=t679.length) (c:=co53) ?_).2.2;exact (z11_ HO681.out BK712.out));(case s6=>exact (Kd.R_reads' HO681.out).2.1);(case s7=>refine (Kd.R_reads' (e:=91) (base:=w.heap.size) (ok:=fun k_=>((((some k_≠(v671:Value).ownBlock∧some k_≠(v677:Value).ownBlock)∧some k_≠(.slice Ao69 t692.length co69:Value).ownBlock)∧some k_≠(.slice Ao80 t699.length co80:Value).ownBlock)∧some k_≠(.slice Ao91 t706.length co91:Value).ownBlock)) (n:=t682.length) (c:=co55) ?_).2.2;exact (z11_ HO684.out BK712.out));(case s8=>exact (Kd.R_reads' HO684.out).2.1);rintro e w93 ⟨rfl,hb⟩;refine ⟨_,rfl,?_⟩;refine as19_ (Kd.R_below (z11_ HO669.out BK712.out) hb) (Kd.R_below (z11_ HO672.out BK712.out) hb) (Kd.R_below (z11_ HO675.out BK712.out) hb) (Kd.R_below (z11_ HO678.out BK712.out) hb) (Kd.R_below (z11_ HO681.out BK712.out) hb) (Kd.R_below (z11_ HO684.out BK712.out) hb) (Kd.R_below (z11_ HO691.out BK712.out) hb) (Kd.R_below (z11_ HO694.out BK712.out) hb) (Kd.R_below (z11_ HO698.out BK712.out) hb) (Kd.R_below (z11_ HO701.out BK712.out) hb) (Kd.R_below (z11_ HO705.out BK712.out) hb) (Kd.R_below (z11_ HO708.out BK712.out) hb) (blk_below (g:=gb663) (o:=.cells #[.slice A0_0 l0_0.length c0_0,.slice A0_1 l0_1.length c0_1] 32 (0,0)) (z28_ NB663_712.out BK663.out) hb) (blk_below (g:=gb664) (o:=.cells #[.slice A1_0 l1_0.length c1_0,.slice A1_1 l1_1.length c1_1] 32 (0,0)) (z28_ NB664_712.out BK664.out) hb) (blk_below (g:=gb688) (o:=.cells #[.slice Ao53 t679.length co53,.slice Ao55 t682.length co55,.int .i64 t685,.int .i64 t686,.int .i64 t687] 58 (0,0)) (z28_ NB688_712.out BK688.out) hb) (blk_below (g:=gb695) (o:=.cells #[.slice Ao64 t689.length co64,.slice Ao69 t692.length co69] 40 (0,0)) (z28_ NB695_712.out BK695.out) hb) (blk_below (g:=gb702) (o:=.cells #[.slice Ao74 t696.length co74,.slice Ao80 t699.length co80] 40 (0,0)) (z28_ NB702_712.out BK702.out) hb) (blk_below (g:=gb712) (o:=.cells #[.slice Ao84 t703.length co84,.slice Ao91 t706.length co91,.int .i64 t709,.int .i64 t710,.int .i64 t711] 58 (0,0)) (z31_ BK712.out) hb) (below_step (z19_ HB.out GE663.out GE664.out GE688.out GE695.out GE702.out GE712.out) hb) ?_;clear HO669 HO672 HO675 HO678 HO681 HO684 HO691 HO694 HO698 HO701 HO705 HO708 BK663 BK664 BK688 BK695 BK702 BK712 HB;intro HO669 HO672 HO675 HO678 HO681 HO684 HO691 HO694 HO698 HO701 HO705 HO708 BK663 BK664 BK688 BK695 BK702 BK712 HB;(try clear hb);(try clear hb2);(try clear hk);(try clear hi)))
      refine as19_ (Kd.R_drew HO669.out) (Kd.R_drew HO672.out) (Kd.R_drew HO675.out) (Kd.R_drew HO678.out) (Kd.R_drew HO681.out) (Kd.R_drew HO684.out) (Kd.R_drew HO691.out) (Kd.R_drew HO694.out) (Kd.R_drew HO698.out) (Kd.R_drew HO701.out) (Kd.R_drew HO705.out) (Kd.R_drew HO708.out) (blk_drew BK663.out) (blk_drew BK664.out) (blk_drew BK688.out) (blk_drew BK695.out) (blk_drew BK702.out) (blk_drew BK712.out) (below_drew1 HB.out) ?_
      clear HO669 HO672 HO675 HO678 HO681 HO684 HO691 HO694 HO698 HO701 HO705 HO708 BK663 BK664 BK688 BK695 BK702 BK712 HB
      intro HO669 HO672 HO675 HO678 HO681 HO684 HO691 HO694 HO698 HO701 HO705 HO708 BK663 BK664 BK688 BK695 BK702 BK712 HB
      refine start_ (n:=5) (S:=fun w'=>w'.cell? ⟨gb695,0,none⟩=some (.slice Ao64 t689.length co64)∧w'.cell? ⟨gb695,1,none⟩=some (.slice Ao69 t692.length co69)∧w'.cell? ⟨gb663,0,none⟩=some (.slice A0_0 l0_0.length c0_0)∧w'.cell? ⟨gb663,1,none⟩=some (.slice A0_1 l0_1.length c0_1)) (ds:=[]) #[O,O,O,O,O] (by kernel_rfl) rfl rfl (cj2_ BK695.out (cc2_ BK663.out)) (fun hHeld=>?_)
      generalize w93.drew=w94 at HO669 HO672 HO675 HO678 HO681 HO684 HO691 HO694 HO698 HO701 HO705 HO708 BK663 BK664 BK688 BK695 BK702 BK712 HB hHeld ⊢
      refine take_ (i:=0) (N:=some 40) (v:=?_) (a':=?_) #[I,O,O,O,O] rfl rfl (by kernel_rfl) (fun _ _ _ h=>h) (Or.inl ⟨by rfl,?_⟩) hHeld ?_ ?_
      rotate_left
      ·rintro w' ⟨s0,s1,s2,s3⟩
       go_simp
       with_reducible rfl
      rotate_left
      ·simp only [Act.put,sa_,s0_,ss_,i64_w,i32_w]
       rfl
      refine take_ (i:=1) (N:=some 41) (v:=?_) (a':=?_) #[I,I,O,O,O] rfl rfl (by kernel_rfl) (fun _ _ _ h=>h) (Or.inl ⟨by rfl,?_⟩) hHeld ?_ ?_
      rotate_left
      ·rintro w' ⟨s0,s1,s2,s3⟩
       go_simp
       with_reducible rfl
      rotate_left
      ·simp only [Act.put,sa_,s0_,ss_,i64_w,i32_w]
       rfl
      refine one_ (i:=2) (N:=some 42) #[I,I,I,O,O] rfl rfl (by kernel_rfl) (by decide) (fun K hK=>?_)
      refine gs_ Try.func15 #[.agg #[.slice A0_0 l0_0.length c0_0,.slice A0_1 l0_1.length c0_1]] ?_
      with_reducible refine (laws_toSet.calls k _ _ l0_0 _ _ l0_1 t714 t717 _ ?s1 ?s2 ?s3 ?s4 A27.out).mono ?_
      (case s1=>repeat (first | exact (Kd.C_below HR0_0.out HB.out) | (with_reducible refine Kd.C_alloc ?_ _) | (with_reducible refine Kd.C_drewN ?_ _) | (with_reducible refine Kd.C_drew ?_)))
      (case s2=>exact HC0_0.out)
      (case s3=>repeat (first | exact (Kd.C_below HR0_1.out HB.out) | (with_reducible refine Kd.C_alloc ?_ _) | (with_reducible refine Kd.C_drewN ?_ _) | (with_reducible refine Kd.C_drew ?_)))
      (case s4=>exact HC0_1.out)
      rintro e w95 ⟨v715,v718,rfl,ho0,ho1,hb⟩
      refine ⟨_,rfl,?_⟩
      refine as21_ (Kd.R_elder' (z0_ HO669.out) (Kd.R_base ho0) hb) (Kd.R_elder' (z0_ HO672.out) (Kd.R_base ho1) hb) (Kd.R_elder' (z0_ HO675.out) (Kd.R_base ho0) hb) (Kd.R_elder' (z0_ HO678.out) (Kd.R_base ho1) hb) (Kd.R_elder' (z0_ HO681.out) (Kd.R_base ho0) hb) (Kd.R_elder' (z0_ HO684.out) (Kd.R_base ho1) hb) (Kd.R_elder' (z0_ HO691.out) (Kd.R_base ho0) hb) (Kd.R_elder' (z0_ HO694.out) (Kd.R_base ho1) hb) (Kd.R_elder' (z0_ HO698.out) (Kd.R_base ho0) hb) (Kd.R_elder' (z0_ HO701.out) (Kd.R_base ho1) hb) (Kd.R_elder' (z0_ HO705.out) (Kd.R_base ho0) hb) (Kd.R_elder' (z0_ HO708.out) (Kd.R_base ho1) hb) (Kd.R_lower (Kd.R_new' (Kd.R_new' (Kd.R_new' (Kd.R_new' (Kd.R_new' (Kd.R_new' ho0 (Kd.R_lt (z0_ HO669.out))) (Kd.R_lt (z0_ HO675.out))) (Kd.R_lt (z0_ HO681.out))) (Kd.R_lt (z0_ HO691.out))) (Kd.R_lt (z0_ HO698.out))) (Kd.R_lt (z0_ HO705.out))) (below_size (z19_ HB.out GE663.out GE664.out GE688.out GE695.out GE702.out GE712.out))) (Kd.R_lower (Kd.R_new' (Kd.R_new' (Kd.R_new' (Kd.R_new' (Kd.R_new' (Kd.R_new' ho1 (Kd.R_lt (z0_ HO672.out))) (Kd.R_lt (z0_ HO678.out))) (Kd.R_lt (z0_ HO684.out))) (Kd.R_lt (z0_ HO694.out))) (Kd.R_lt (z0_ HO701.out))) (Kd.R_lt (z0_ HO708.out))) (below_size (z19_ HB.out GE663.out GE664.out GE688.out GE695.out GE702.out GE712.out))) (blkB_ BK663.out hb) (blkB_ BK664.out hb) (blkB_ BK688.out hb) (blkB_ BK695.out hb) (blkB_ BK702.out hb) (blkB_ BK712.out hb) (below_step (z19_ HB.out GE663.out GE664.out GE688.out GE695.out GE702.out GE712.out) hb) ?_
      clear HO669 HO672 HO675 HO678 HO681 HO684 HO691 HO694 HO698 HO701 HO705 HO708 BK663 BK664 BK688 BK695 BK702 BK712 HB
      intro HO669 HO672 HO675 HO678 HO681 HO684 HO691 HO694 HO698 HO701 HO705 HO708 HO716 HO719 BK663 BK664 BK688 BK695 BK702 BK712 HB
      (try clear hb)
      (try clear hb2)
      (try clear hk)
      (try clear hi)
      (try clear ho0)
      (try clear ho1)
      obtain ⟨Ao96,co96,eo96⟩:=Kd.R_slice HO716.out
      (first | subst eo96 | (injection eo96 with f1_ f2_ f3_;have f4_:=f1_.symm;have f5_:=f3_.symm;clear f1_ f2_ f3_;subst f4_;subst f5_))
      obtain ⟨Ao97,co97,eo97⟩:=Kd.R_slice HO719.out
      (first | subst eo97 | (injection eo97 with f1_ f2_ f3_;have f4_:=f1_.symm;have f5_:=f3_.symm;clear f1_ f2_ f3_;subst f4_;subst f5_))
      refine hK.out _ _ (cj2_ BK695.out (cc2_ BK663.out)) (fun hHeld=>?_)
      clear hK K
      refine nm_ 42 ?_
      refine one_ (i:=3) (N:=some 43) #[I,I,I,I,O] rfl rfl (by kernel_rfl) (by decide) (fun K hK=>?_)
      refine gs_ Try.func19 #[.agg #[.slice Ao64 t689.length co64,.slice Ao69 t692.length co69],.agg #[.slice Ao96 t714.length co96,.slice Ao97 t717.length co97]] ?_
      with_reducible refine (laws_eqSet.calls k _ _ t689 _ _ t692 _ _ t714 _ _ t717 true _ ?s1 ?s2 ?s3 ?s4 ?s5 ?s6 ?s7 ?s8 A28.out).mono ?_
      (case s1=>repeat (first | exact (Kd.R_reads' HO691.out).2.2 | (with_reducible refine Kd.C_alloc ?_ _) | (with_reducible refine Kd.C_drewN ?_ _) | (with_reducible refine Kd.C_drew ?_)))
      (case s2=>exact (Kd.R_reads' HO691.out).2.1)
      (case s3=>repeat (first | exact (Kd.R_reads' HO694.out).2.2 | (with_reducible refine Kd.C_alloc ?_ _) | (with_reducible refine Kd.C_drewN ?_ _) | (with_reducible refine Kd.C_drew ?_)))
      (case s4=>exact (Kd.R_reads' HO694.out).2.1)
      (case s5=>repeat (first | exact (Kd.R_reads' HO716.out).2.2 | (with_reducible refine Kd.C_alloc ?_ _) | (with_reducible refine Kd.C_drewN ?_ _) | (with_reducible refine Kd.C_drew ?_)))
      (case s6=>exact (Kd.R_reads' HO716.out).2.1)
      (case s7=>repeat (first | exact (Kd.R_reads' HO719.out).2.2 | (with_reducible refine Kd.C_alloc ?_ _) | (with_reducible refine Kd.C_drewN ?_ _) | (with_reducible refine Kd.C_drew ?_)))
      (case s8=>exact (Kd.R_reads' HO719.out).2.1)
      rintro e w98 ⟨rfl,hb⟩
      refine ⟨_,rfl,?_⟩
      refine as21_ (Kd.R_below (z0_ HO669.out) hb) (Kd.R_below (z0_ HO672.out) hb) (Kd.R_below (z0_ HO675.out) hb) (Kd.R_below (z0_ HO678.out) hb) (Kd.R_below (z0_ HO681.out) hb) (Kd.R_below (z0_ HO684.out) hb) (Kd.R_below (z0_ HO691.out) hb) (Kd.R_below (z0_ HO694.out) hb) (Kd.R_below (z0_ HO698.out) hb) (Kd.R_below (z0_ HO701.out) hb) (Kd.R_below (z0_ HO705.out) hb) (Kd.R_below (z0_ HO708.out) hb) (Kd.R_below (z0_ HO716.out) hb) (Kd.R_below (z0_ HO719.out) hb) (blkB_ BK663.out hb) (blkB_ BK664.out hb) (blkB_ BK688.out hb) (blkB_ BK695.out hb) (blkB_ BK702.out hb) (blkB_ BK712.out hb) (below_step (z19_ HB.out GE663.out GE664.out GE688.out GE695.out GE702.out GE712.out) hb) ?_
      clear HO669 HO672 HO675 HO678 HO681 HO684 HO691 HO694 HO698 HO701 HO705 HO708 HO716 HO719 BK663 BK664 BK688 BK695 BK702 BK712 HB
      intro HO669 HO672 HO675 HO678 HO681 HO684 HO691 HO694 HO698 HO701 HO705 HO708 HO716 HO719 BK663 BK664 BK688 BK695 BK702 BK712 HB
      (try clear hb)
      refine hK.out _ _ (cj2_ BK695.out (cc2_ BK663.out)) (fun hHeld=>?_)
      clear hK K
      refine nm_ 43 ?_
      refine pure_ (i:=4) (N:=some 44) (v:=?_) (a':=?_) #[I,I,I,I,I] rfl rfl (by kernel_rfl) (fun _ _ _ h=>h) (Or.inl ⟨by rfl,?_⟩) ?_ ?_
      rotate_left
      ·intro w'
       go_simp
       with_reducible rfl
      rotate_left
      ·simp only [Act.put,sa_,s0_,ss_,i64_w,i32_w]
       rfl
      refine done_ (by kernel_rfl) ?_
      try go_wp2
      refine as21_ (Kd.R_drew HO669.out) (Kd.R_drew HO672.out) (Kd.R_drew HO675.out) (Kd.R_drew HO678.out) (Kd.R_drew HO681.out) (Kd.R_drew HO684.out) (Kd.R_drew HO691.out) (Kd.R_drew HO694.out) (Kd.R_drew HO698.out) (Kd.R_drew HO701.out) (Kd.R_drew HO705.out) (Kd.R_drew HO708.out) (Kd.R_drew HO716.out) (Kd.R_drew HO719.out) (blk_drew BK663.out) (blk_drew BK664.out) (blk_drew BK688.out) (blk_drew BK695.out) (blk_drew BK702.out) (blk_drew BK712.out) (below_drew1 HB.out) ?_
      clear HO669 HO672 HO675 HO678 HO681 HO684 HO691 HO694 HO698 HO701 HO705 HO708 HO716 HO719 BK663 BK664 BK688 BK695 BK702 BK712 HB
      intro HO669 HO672 HO675 HO678 HO681 HO684 HO691 HO694 HO698 HO701 HO705 HO708 HO716 HO719 BK663 BK664 BK688 BK695 BK702 BK712 HB
      refine start_ (n:=5) (S:=fun w'=>w'.cell? ⟨gb702,0,none⟩=some (.slice Ao74 t696.length co74)∧w'.cell? ⟨gb702,1,none⟩=some (.slice Ao80 t699.length co80)∧w'.cell? ⟨gb664,0,none⟩=some (.slice A1_0 l1_0.length c1_0)∧w'.cell? ⟨gb664,1,none⟩=some (.slice A1_1 l1_1.length c1_1)) (ds:=[]) #[O,O,O,O,O] (by kernel_rfl) rfl rfl (cj2_ BK702.out (cc2_ BK664.out)) (fun hHeld=>?_)
      generalize w98.drew=w99 at HO669 HO672 HO675 HO678 HO681 HO684 HO691 HO694 HO698 HO701 HO705 HO708 HO716 HO719 BK663 BK664 BK688 BK695 BK702 BK712 HB hHeld ⊢
      refine take_ (i:=0) (N:=some 45) (v:=?_) (a':=?_) #[I,O,O,O,O] rfl rfl (by kernel_rfl) (fun _ _ _ h=>h) (Or.inl ⟨by rfl,?_⟩) hHeld ?_ ?_
      rotate_left
      ·rintro w' ⟨s0,s1,s2,s3⟩
       go_simp
       with_reducible rfl
      rotate_left
      ·simp only [Act.put,sa_,s0_,ss_,i64_w,i32_w]
       rfl
      refine take_ (i:=1) (N:=some 46) (v:=?_) (a':=?_) #[I,I,O,O,O] rfl rfl (by kernel_rfl) (fun _ _ _ h=>h) (Or.inl ⟨by rfl,?_⟩) hHeld ?_ ?_
      rotate_left
      ·rintro w' ⟨s0,s1,s2,s3⟩
       go_simp
       with_reducible rfl
      rotate_left
      ·simp only [Act.put,sa_,s0_,ss_,i64_w,i32_w]
       rfl
      refine one_ (i:=2) (N:=some 47) #[I,I,I,O,O] rfl rfl (by kernel_rfl) (by decide) (fun K hK=>?_)
      refine gs_ Try.func15 #[.agg #[.slice A1_0 l1_0.length c1_0,.slice A1_1 l1_1.length c1_1]] ?_
      with_reducible refine (laws_toSet.calls k _ _ l1_0 _ _ l1_1 t721 t724 _ ?s1 ?s2 ?s3 ?s4 A30.out).mono ?_
      (case s1=>repeat (first | exact (Kd.C_below HR1_0.out HB.out) | (with_reducible refine Kd.C_alloc ?_ _) | (with_reducible refine Kd.C_drewN ?_ _) | (with_reducible refine Kd.C_drew ?_)))
      (case s2=>exact HC1_0.out)
      (case s3=>repeat (first | exact (Kd.C_below HR1_1.out HB.out) | (with_reducible refine Kd.C_alloc ?_ _) | (with_reducible refine Kd.C_drewN ?_ _) | (with_reducible refine Kd.C_drew ?_)))
      (case s4=>exact HC1_1.out)
      rintro e w100 ⟨v722,v725,rfl,ho0,ho1,hb⟩
      refine ⟨_,rfl,?_⟩
      refine as23_ (Kd.R_elder' (z0_ HO669.out) (Kd.R_base ho0) hb) (Kd.R_elder' (z0_ HO672.out) (Kd.R_base ho1) hb) (Kd.R_elder' (z0_ HO675.out) (Kd.R_base ho0) hb) (Kd.R_elder' (z0_ HO678.out) (Kd.R_base ho1) hb) (Kd.R_elder' (z0_ HO681.out) (Kd.R_base ho0) hb) (Kd.R_elder' (z0_ HO684.out) (Kd.R_base ho1) hb) (Kd.R_elder' (z0_ HO691.out) (Kd.R_base ho0) hb) (Kd.R_elder' (z0_ HO694.out) (Kd.R_base ho1) hb) (Kd.R_elder' (z0_ HO698.out) (Kd.R_base ho0) hb) (Kd.R_elder' (z0_ HO701.out) (Kd.R_base ho1) hb) (Kd.R_elder' (z0_ HO705.out) (Kd.R_base ho0) hb) (Kd.R_elder' (z0_ HO708.out) (Kd.R_base ho1) hb) (Kd.R_elder' (z0_ HO716.out) (Kd.R_base ho0) hb) (Kd.R_elder' (z0_ HO719.out) (Kd.R_base ho1) hb) (Kd.R_lower (Kd.R_new' (Kd.R_new' (Kd.R_new' (Kd.R_new' (Kd.R_new' (Kd.R_new' (Kd.R_new' ho0 (Kd.R_lt (z0_ HO669.out))) (Kd.R_lt (z0_ HO675.out))) (Kd.R_lt (z0_ HO681.out))) (Kd.R_lt (z0_ HO691.out))) (Kd.R_lt (z0_ HO698.out))) (Kd.R_lt (z0_ HO705.out))) (Kd.R_lt (z0_ HO716.out))) (below_size (z19_ HB.out GE663.out GE664.out GE688.out GE695.out GE702.out GE712.out))) (Kd.R_lower (Kd.R_new' (Kd.R_new' (Kd.R_new' (Kd.R_new' (Kd.R_new' (Kd.R_new' (Kd.R_new' ho1 (Kd.R_lt (z0_ HO672.out))) (Kd.R_lt (z0_ HO678.out))) (Kd.R_lt (z0_ HO684.out))) (Kd.R_lt (z0_ HO694.out))) (Kd.R_lt (z0_ HO701.out))) (Kd.R_lt (z0_ HO708.out))) (Kd.R_lt (z0_ HO719.out))) (below_size (z19_ HB.out GE663.out GE664.out GE688.out GE695.out GE702.out GE712.out))) (blkB_ BK663.out hb) (blkB_ BK664.out hb) (blkB_ BK688.out hb) (blkB_ BK695.out hb) (blkB_ BK702.out hb) (blkB_ BK712.out hb) (below_step (z19_ HB.out GE663.out GE664.out GE688.out GE695.out GE702.out GE712.out) hb) ?_
      clear HO669 HO672 HO675 HO678 HO681 HO684 HO691 HO694 HO698 HO701 HO705 HO708 HO716 HO719 BK663 BK664 BK688 BK695 BK702 BK712 HB
      intro HO669 HO672 HO675 HO678 HO681 HO684 HO691 HO694 HO698 HO701 HO705 HO708 HO716 HO719 HO723 HO726 BK663 BK664 BK688 BK695 BK702 BK712 HB
      (try clear hb)
      (try clear hb2)
      (try clear hk)
      (try clear hi)
      (try clear ho0)
      (try clear ho1)
      obtain ⟨Ao101,co101,eo101⟩:=Kd.R_slice HO723.out
      (first | subst eo101 | (injection eo101 with f1_ f2_ f3_;have f4_:=f1_.symm;have f5_:=f3_.symm;clear f1_ f2_ f3_;subst f4_;subst f5_))
      obtain ⟨Ao102,co102,eo102⟩:=Kd.R_slice HO726.out
      (first | subst eo102 | (injection eo102 with f1_ f2_ f3_;have f4_:=f1_.symm;have f5_:=f3_.symm;clear f1_ f2_ f3_;subst f4_;subst f5_))
      refine hK.out _ _ (cj2_ BK702.out (cc2_ BK664.out)) (fun hHeld=>?_)
      clear hK K
      refine nm_ 47 ?_
      refine one_ (i:=3) (N:=some 48) #[I,I,I,I,O] rfl rfl (by kernel_rfl) (by decide) (fun K hK=>?_)
      refine gs_ Try.func19 #[.agg #[.slice Ao74 t696.length co74,.slice Ao80 t699.length co80],.agg #[.slice Ao101 t721.length co101,.slice Ao102 t724.length co102]] ?_
      with_reducible refine (laws_eqSet.calls k _ _ t696 _ _ t699 _ _ t721 _ _ t724 true _ ?s1 ?s2 ?s3 ?s4 ?s5 ?s6 ?s7 ?s8 A31.out).mono ?_
      (case s1=>repeat (first | exact (Kd.R_reads' HO698.out).2.2 | (with_reducible refine Kd.C_alloc ?_ _) | (with_reducible refine Kd.C_drewN ?_ _) | (with_reducible refine Kd.C_drew ?_)))
      (case s2=>exact (Kd.R_reads' HO698.out).2.1)
      (case s3=>repeat (first | exact (Kd.R_reads' HO701.out).2.2 | (with_reducible refine Kd.C_alloc ?_ _) | (with_reducible refine Kd.C_drewN ?_ _) | (with_reducible refine Kd.C_drew ?_)))
      (case s4=>exact (Kd.R_reads' HO701.out).2.1)
      (case s5=>repeat (first | exact (Kd.R_reads' HO723.out).2.2 | (with_reducible refine Kd.C_alloc ?_ _) | (with_reducible refine Kd.C_drewN ?_ _) | (with_reducible refine Kd.C_drew ?_)))
      (case s6=>exact (Kd.R_reads' HO723.out).2.1)
      (case s7=>repeat (first | exact (Kd.R_reads' HO726.out).2.2 | (with_reducible refine Kd.C_alloc ?_ _) | (with_reducible refine Kd.C_drewN ?_ _) | (with_reducible refine Kd.C_drew ?_)))
      (case s8=>exact (Kd.R_reads' HO726.out).2.1)
      rintro e w103 ⟨rfl,hb⟩
      refine ⟨_,rfl,?_⟩
      refine as23_ (Kd.R_below (z0_ HO669.out) hb) (Kd.R_below (z0_ HO672.out) hb) (Kd.R_below (z0_ HO675.out) hb) (Kd.R_below (z0_ HO678.out) hb) (Kd.R_below (z0_ HO681.out) hb) (Kd.R_below (z0_ HO684.out) hb) (Kd.R_below (z0_ HO691.out) hb) (Kd.R_below (z0_ HO694.out) hb) (Kd.R_below (z0_ HO698.out) hb) (Kd.R_below (z0_ HO701.out) hb) (Kd.R_below (z0_ HO705.out) hb) (Kd.R_below (z0_ HO708.out) hb) (Kd.R_below (z0_ HO716.out) hb) (Kd.R_below (z0_ HO719.out) hb) (Kd.R_below (z0_ HO723.out) hb) (Kd.R_below (z0_ HO726.out) hb) (blkB_ BK663.out hb) (blkB_ BK664.out hb) (blkB_ BK688.out hb) (blkB_ BK695.out hb) (blkB_ BK702.out hb) (blkB_ BK712.out hb) (below_step (z19_ HB.out GE663.out GE664.out GE688.out GE695.out GE702.out GE712.out) hb) ?_
      clear HO669 HO672 HO675 HO678 HO681 HO684 HO691 HO694 HO698 HO701 HO705 HO708 HO716 HO719 HO723 HO726 BK663 BK664 BK688 BK695 BK702 BK712 HB
      intro HO669 HO672 HO675 HO678 HO681 HO684 HO691 HO694 HO698 HO701 HO705 HO708 HO716 HO719 HO723 HO726 BK663 BK664 BK688 BK695 BK702 BK712 HB
      (try clear hb)
      refine hK.out _ _ (cj2_ BK702.out (cc2_ BK664.out)) (fun hHeld=>?_)
      clear hK K
      refine nm_ 48 ?_
      refine pure_ (i:=4) (N:=some 49) (v:=?_) (a':=?_) #[I,I,I,I,I] rfl rfl (by kernel_rfl) (fun _ _ _ h=>h) (Or.inl ⟨by rfl,?_⟩) ?_ ?_
      rotate_left
      ·intro w'
       go_simp
       with_reducible rfl
      rotate_left
      ·simp only [Act.put,sa_,s0_,ss_,i64_w,i32_w]
       rfl
      refine done_ (by kernel_rfl) ?_
      have ⟨hcz104_0,hcz104_1,hfz104_0,hfz104_1⟩:=cz2_ BK695.out
      go_upto_region 21 with (first | ((with_reducible refine gc_ 21 ?_);refine gl_ (some 52) Try.func21 #[.agg #[.slice Ao64 t689.length co64,.slice Ao69 t692.length co69],.int .i64 1] ?_;(with_reducible refine (laws_markSet.calls k (fun k_=>some k_=(.slice Ao64 t689.length co64:Value).ownBlock) (.slice Ao64 t689.length co64) t689 (fun k_=>some k_=(.slice Ao69 t692.length co69:Value).ownBlock) (.slice Ao69 t692.length co69) t692 1 t728 t729 t730 w _ ?s1 ?s2 ?s3 A33.out).mono ?_);(case s1=>repeat (first | (with_reducible first | exact HB.out | apply below_alloc | apply pw_below_drewN | apply below_drew1 | refine below_set ?_ GE663.out | refine below_set ?_ GE664.out | refine below_set ?_ GE688.out | refine below_set ?_ GE695.out | refine below_set ?_ GE702.out | refine below_set ?_ GE712.out) | exact HB.out));(case s2=>exact Kd.R_tight rfl HO691.out);(case s3=>exact Kd.R_tight rfl HO694.out);rintro e w105 ⟨rfl,hy0,hy1,hb,hkp⟩;refine ⟨_,rfl,?_⟩;refine as23_ (blk_kept (z1_ BK663.out) hkp (fun hs_=>Or.elim hs_ (fun e_=>(fun e_=>(Kd.R_ne HO691.out BK663.out (by decide)) e_) e_) (fun e_=>(fun e_=>(Kd.R_ne HO694.out BK663.out (by decide)) e_) e_))) (blk_kept (z1_ BK664.out) hkp (fun hs_=>Or.elim hs_ (fun e_=>(fun e_=>(Kd.R_ne HO691.out BK664.out (by decide)) e_) e_) (fun e_=>(fun e_=>(Kd.R_ne HO694.out BK664.out (by decide)) e_) e_))) (Kd.R_mono (ok':=fun k_=>some k_≠(v674:Value).ownBlock∧some k_≠(.slice Ao53 t679.length co53:Value).ownBlock∧some k_≠(.slice Ao64 t689.length co64:Value).ownBlock∧some k_≠(.slice Ao74 t696.length co74:Value).ownBlock∧some k_≠(.slice Ao84 t703.length co84:Value).ownBlock∧some k_≠(.slice Ao96 t714.length co96:Value).ownBlock∧some k_≠(.slice Ao101 t721.length co101:Value).ownBlock) (Kd.R_keptB ((Kd.R_apart' HO669.out (Kd.R_typed HO694.out) (by decide))) hkp (fun k_ hk_ hs_=>Or.elim hs_ (fun e_=>(hk_.1.1.1.1.1.2) e_) (fun e_=>(hk_.2) e_))) (fun k_ hk_=>⟨hk_.1.1.1.1.1.1.1.1,hk_.1.1.1.1.1.1.1.2,hk_.1.1.1.1.1.1.2,hk_.1.1.1.1.1.2,hk_.1.1.1.1.2,hk_.1.1.1.2,hk_.1.1.2⟩)) (Kd.R_mono (ok':=fun k_=>some k_≠(v677:Value).ownBlock∧some k_≠(.slice Ao55 t682.length co55:Value).ownBlock∧some k_≠(.slice Ao69 t692.length co69:Value).ownBlock∧some k_≠(.slice Ao80 t699.length co80:Value).ownBlock∧some k_≠(.slice Ao91 t706.length co91:Value).ownBlock∧some k_≠(.slice Ao97 t717.length co97:Value).ownBlock∧some k_≠(.slice Ao102 t724.length co102:Value).ownBlock) (Kd.R_keptB ((Kd.R_apart' HO672.out (Kd.R_typed HO691.out) (by decide))) hkp (fun k_ hk_ hs_=>Or.elim hs_ (fun e_=>(hk_.2) e_) (fun e_=>(hk_.1.1.1.1.1.2) e_))) (fun k_ hk_=>⟨hk_.1.1.1.1.1.1.1.1,hk_.1.1.1.1.1.1.1.2,hk_.1.1.1.1.1.1.2,hk_.1.1.1.1.1.2,hk_.1.1.1.1.2,hk_.1.1.1.2,hk_.1.1.2⟩)) (Kd.R_mono (ok':=fun k_=>some k_≠(v668:Value).ownBlock∧some k_≠(.slice Ao53 t679.length co53:Value).ownBlock∧some k_≠(.slice Ao64 t689.length co64:Value).ownBlock∧some k_≠(.slice Ao74 t696.length co74:Value).ownBlock∧some k_≠(.slice Ao84 t703.length co84:Value).ownBlock∧some k_≠(.slice Ao96 t714.length co96:Value).ownBlock∧some k_≠(.slice Ao101 t721.length co101:Value).ownBlock) (Kd.R_keptB ((Kd.R_apart' HO675.out (Kd.R_typed HO694.out) (by decide))) hkp (fun k_ hk_ hs_=>Or.elim hs_ (fun e_=>(hk_.1.1.1.1.1.2) e_) (fun e_=>(hk_.2) e_))) (fun k_ hk_=>⟨hk_.1.1.1.1.1.1.1.1,hk_.1.1.1.1.1.1.1.2,hk_.1.1.1.1.1.1.2,hk_.1.1.1.1.1.2,hk_.1.1.1.1.2,hk_.1.1.1.2,hk_.1.1.2⟩)) (Kd.R_mono (ok':=fun k_=>some k_≠(v671:Value).ownBlock∧some k_≠(.slice Ao55 t682.length co55:Value).ownBlock∧some k_≠(.slice Ao69 t692.length co69:Value).ownBlock∧some k_≠(.slice Ao80 t699.length co80:Value).ownBlock∧some k_≠(.slice Ao91 t706.length co91:Value).ownBlock∧some k_≠(.slice Ao97 t717.length co97:Value).ownBlock∧some k_≠(.slice Ao102 t724.length co102:Value).ownBlock) (Kd.R_keptB ((Kd.R_apart' HO678.out (Kd.R_typed HO691.out) (by decide))) hkp (fun k_ hk_ hs_=>Or.elim hs_ (fun e_=>(hk_.2) e_) (fun e_=>(hk_.1.1.1.1.1.2) e_))) (fun k_ hk_=>⟨hk_.1.1.1.1.1.1.1.1,hk_.1.1.1.1.1.1.1.2,hk_.1.1.1.1.1.1.2,hk_.1.1.1.1.1.2,hk_.1.1.1.1.2,hk_.1.1.1.2,hk_.1.1.2⟩)) (Kd.R_mono (ok':=fun k_=>some k_≠(v668:Value).ownBlock∧some k_≠(v674:Value).ownBlock∧some k_≠(.slice Ao64 t689.length co64:Value).ownBlock∧some k_≠(.slice Ao74 t696.length co74:Value).ownBlock∧some k_≠(.slice Ao84 t703.length co84:Value).ownBlock∧some k_≠(.slice Ao96 t714.length co96:Value).ownBlock∧some k_≠(.slice Ao101 t721.length co101:Value).ownBlock) (Kd.R_keptB ((Kd.R_apart' HO681.out (Kd.R_typed HO694.out) (by decide))) hkp (fun k_ hk_ hs_=>Or.elim hs_ (fun e_=>(hk_.1.1.1.1.1.2) e_) (fun e_=>(hk_.2) e_))) (fun k_ hk_=>⟨hk_.1.1.1.1.1.1.1.1,hk_.1.1.1.1.1.1.1.2,hk_.1.1.1.1.1.1.2,hk_.1.1.1.1.1.2,hk_.1.1.1.1.2,hk_.1.1.1.2,hk_.1.1.2⟩)) (Kd.R_mono (ok':=fun k_=>some k_≠(v671:Value).ownBlock∧some k_≠(v677:Value).ownBlock∧some k_≠(.slice Ao69 t692.length co69:Value).ownBlock∧some k_≠(.slice Ao80 t699.length co80:Value).ownBlock∧some k_≠(.slice Ao91 t706.length co91:Value).ownBlock∧some k_≠(.slice Ao97 t717.length co97:Value).ownBlock∧some k_≠(.slice Ao102 t724.length co102:Value).ownBlock) (Kd.R_keptB ((Kd.R_apart' HO684.out (Kd.R_typed HO691.out) (by decide))) hkp (fun k_ hk_ hs_=>Or.elim hs_ (fun e_=>(hk_.2) e_) (fun e_=>(hk_.1.1.1.1.1.2) e_))) (fun k_ hk_=>⟨hk_.1.1.1.1.1.1.1.1,hk_.1.1.1.1.1.1.1.2,hk_.1.1.1.1.1.1.2,hk_.1.1.1.1.1.2,hk_.1.1.1.1.2,hk_.1.1.1.2,hk_.1.1.2⟩)) (blk_kept (z1_ BK688.out) hkp (fun hs_=>Or.elim hs_ (fun e_=>(fun e_=>(Kd.R_ne HO691.out BK688.out (by decide)) e_) e_) (fun e_=>(fun e_=>(Kd.R_ne HO694.out BK688.out (by decide)) e_) e_))) (Kd.R_reok rfl hy0 (fun k_ e_=>HO691.out.1 k_ e_)) (Kd.R_reok rfl hy1 (fun k_ e_=>HO694.out.1 k_ e_)) (blk_kept (z1_ BK695.out) hkp (fun hs_=>Or.elim hs_ (fun e_=>(fun e_=>(Kd.R_ne HO691.out BK695.out (by decide)) e_) e_) (fun e_=>(fun e_=>(Kd.R_ne HO694.out BK695.out (by decide)) e_) e_))) (Kd.R_mono (ok':=fun k_=>some k_≠(v668:Value).ownBlock∧some k_≠(v674:Value).ownBlock∧some k_≠(.slice Ao53 t679.length co53:Value).ownBlock∧some k_≠(.slice Ao64 t689.length co64:Value).ownBlock∧some k_≠(.slice Ao84 t703.length co84:Value).ownBlock∧some k_≠(.slice Ao96 t714.length co96:Value).ownBlock∧some k_≠(.slice Ao101 t721.length co101:Value).ownBlock) (Kd.R_keptB ((Kd.R_apart' HO698.out (Kd.R_typed HO694.out) (by decide))) hkp (fun k_ hk_ hs_=>Or.elim hs_ (fun e_=>(hk_.1.1.1.1.2) e_) (fun e_=>(hk_.2) e_))) (fun k_ hk_=>⟨hk_.1.1.1.1.1.1.1.1.2,hk_.1.1.1.1.1.1.1.2,hk_.1.1.1.1.1.1.2,hk_.1.1.1.1.1.2,hk_.1.1.1.1.2,hk_.1.1.1.2,hk_.1.1.2⟩)) (Kd.R_mono (ok':=fun k_=>some k_≠(v671:Value).ownBlock∧some k_≠(v677:Value).ownBlock∧some k_≠(.slice Ao55 t682.length co55:Value).ownBlock∧some k_≠(.slice Ao69 t692.length co69:Value).ownBlock∧some k_≠(.slice Ao91 t706.length co91:Value).ownBlock∧some k_≠(.slice Ao97 t717.length co97:Value).ownBlock∧some k_≠(.slice Ao102 t724.length co102:Value).ownBlock) (Kd.R_keptB ((Kd.R_apart' HO701.out (Kd.R_typed HO691.out) (by decide))) hkp (fun k_ hk_ hs_=>Or.elim hs_ (fun e_=>(hk_.2) e_) (fun e_=>(hk_.1.1.1.1.2) e_))) (fun k_ hk_=>⟨hk_.1.1.1.1.1.1.1.1.2,hk_.1.1.1.1.1.1.1.2,hk_.1.1.1.1.1.1.2,hk_.1.1.1.1.1.2,hk_.1.1.1.1.2,hk_.1.1.1.2,hk_.1.1.2⟩)) (blk_kept (z1_ BK702.out) hkp (fun hs_=>Or.elim hs_ (fun e_=>(fun e_=>(Kd.R_ne HO691.out BK702.out (by decide)) e_) e_) (fun e_=>(fun e_=>(Kd.R_ne HO694.out BK702.out (by decide)) e_) e_))) (Kd.R_mono (ok':=fun k_=>some k_≠(v668:Value).ownBlock∧some k_≠(v674:Value).ownBlock∧some k_≠(.slice Ao53 t679.length co53:Value).ownBlock∧some k_≠(.slice Ao64 t689.length co64:Value).ownBlock∧some k_≠(.slice Ao74 t696.length co74:Value).ownBlock∧some k_≠(.slice Ao96 t714.length co96:Value).ownBlock∧some k_≠(.slice Ao101 t721.length co101:Value).ownBlock) (Kd.R_keptB ((Kd.R_apart' HO705.out (Kd.R_typed HO694.out) (by decide))) hkp (fun k_ hk_ hs_=>Or.elim hs_ (fun e_=>(hk_.1.1.1.1.2) e_) (fun e_=>(hk_.2) e_))) (fun k_ hk_=>⟨hk_.1.1.1.1.1.1.1.1.2,hk_.1.1.1.1.1.1.1.2,hk_.1.1.1.1.1.1.2,hk_.1.1.1.1.1.2,hk_.1.1.1.1.2,hk_.1.1.1.2,hk_.1.1.2⟩)) (Kd.R_mono (ok':=fun k_=>some k_≠(v671:Value).ownBlock∧some k_≠(v677:Value).ownBlock∧some k_≠(.slice Ao55 t682.length co55:Value).ownBlock∧some k_≠(.slice Ao69 t692.length co69:Value).ownBlock∧some k_≠(.slice Ao80 t699.length co80:Value).ownBlock∧some k_≠(.slice Ao97 t717.length co97:Value).ownBlock∧some k_≠(.slice Ao102 t724.length co102:Value).ownBlock) (Kd.R_keptB ((Kd.R_apart' HO708.out (Kd.R_typed HO691.out) (by decide))) hkp (fun k_ hk_ hs_=>Or.elim hs_ (fun e_=>(hk_.2) e_) (fun e_=>(hk_.1.1.1.1.2) e_))) (fun k_ hk_=>⟨hk_.1.1.1.1.1.1.1.1.2,hk_.1.1.1.1.1.1.1.2,hk_.1.1.1.1.1.1.2,hk_.1.1.1.1.1.2,hk_.1.1.1.1.2,hk_.1.1.1.2,hk_.1.1.2⟩)) (blk_kept (z1_ BK712.out) hkp (fun hs_=>Or.elim hs_ (fun e_=>(fun e_=>(Kd.R_ne HO691.out BK712.out (by decide)) e_) e_) (fun e_=>(fun e_=>(Kd.R_ne HO694.out BK712.out (by decide)) e_) e_))) (Kd.R_mono (ok':=fun k_=>some k_≠(v668:Value).ownBlock∧some k_≠(v674:Value).ownBlock∧some k_≠(.slice Ao53 t679.length co53:Value).ownBlock∧some k_≠(.slice Ao64 t689.length co64:Value).ownBlock∧some k_≠(.slice Ao74 t696.length co74:Value).ownBlock∧some k_≠(.slice Ao84 t703.length co84:Value).ownBlock∧some k_≠(.slice Ao101 t721.length co101:Value).ownBlock) (Kd.R_keptB ((Kd.R_apart' HO716.out (Kd.R_typed HO694.out) (by decide))) hkp (fun k_ hk_ hs_=>Or.elim hs_ (fun e_=>(hk_.1.1.1.1.2) e_) (fun e_=>(hk_.2) e_))) (fun k_ hk_=>⟨hk_.1.1.1.1.1.1.1.1.2,hk_.1.1.1.1.1.1.1.2,hk_.1.1.1.1.1.1.2,hk_.1.1.1.1.1.2,hk_.1.1.1.1.2,hk_.1.1.1.2,hk_.1.1.2⟩)) (Kd.R_mono (ok':=fun k_=>some k_≠(v671:Value).ownBlock∧some k_≠(v677:Value).ownBlock∧some k_≠(.slice Ao55 t682.length co55:Value).ownBlock∧some k_≠(.slice Ao69 t692.length co69:Value).ownBlock∧some k_≠(.slice Ao80 t699.length co80:Value).ownBlock∧some k_≠(.slice Ao91 t706.length co91:Value).ownBlock∧some k_≠(.slice Ao102 t724.length co102:Value).ownBlock) (Kd.R_keptB ((Kd.R_apart' HO719.out (Kd.R_typed HO691.out) (by decide))) hkp (fun k_ hk_ hs_=>Or.elim hs_ (fun e_=>(hk_.2) e_) (fun e_=>(hk_.1.1.1.1.2) e_))) (fun k_ hk_=>⟨hk_.1.1.1.1.1.1.1.1.2,hk_.1.1.1.1.1.1.1.2,hk_.1.1.1.1.1.1.2,hk_.1.1.1.1.1.2,hk_.1.1.1.1.2,hk_.1.1.1.2,hk_.1.1.2⟩)) (Kd.R_mono (ok':=fun k_=>some k_≠(v668:Value).ownBlock∧some k_≠(v674:Value).ownBlock∧some k_≠(.slice Ao53 t679.length co53:Value).ownBlock∧some k_≠(.slice Ao64 t689.length co64:Value).ownBlock∧some k_≠(.slice Ao74 t696.length co74:Value).ownBlock∧some k_≠(.slice Ao84 t703.length co84:Value).ownBlock∧some k_≠(.slice Ao96 t714.length co96:Value).ownBlock) (Kd.R_keptB ((Kd.R_apart' HO723.out (Kd.R_typed HO694.out) (by decide))) hkp (fun k_ hk_ hs_=>Or.elim hs_ (fun e_=>(hk_.1.1.1.1.2) e_) (fun e_=>(hk_.2) e_))) (fun k_ hk_=>⟨hk_.1.1.1.1.1.1.1.1.2,hk_.1.1.1.1.1.1.1.2,hk_.1.1.1.1.1.1.2,hk_.1.1.1.1.1.2,hk_.1.1.1.1.2,hk_.1.1.1.2,hk_.1.1.2⟩)) (Kd.R_mono (ok':=fun k_=>some k_≠(v671:Value).ownBlock∧some k_≠(v677:Value).ownBlock∧some k_≠(.slice Ao55 t682.length co55:Value).ownBlock∧some k_≠(.slice Ao69 t692.length co69:Value).ownBlock∧some k_≠(.slice Ao80 t699.length co80:Value).ownBlock∧some k_≠(.slice Ao91 t706.length co91:Value).ownBlock∧some k_≠(.slice Ao97 t717.length co97:Value).ownBlock) (Kd.R_keptB ((Kd.R_apart' HO726.out (Kd.R_typed HO691.out) (by decide))) hkp (fun k_ hk_ hs_=>Or.elim hs_ (fun e_=>(hk_.2) e_) (fun e_=>(hk_.1.1.1.1.2) e_))) (fun k_ hk_=>⟨hk_.1.1.1.1.1.1.1.1.2,hk_.1.1.1.1.1.1.1.2,hk_.1.1.1.1.1.1.2,hk_.1.1.1.1.1.2,hk_.1.1.1.1.2,hk_.1.1.1.2,hk_.1.1.2⟩)) (hb) ?_;clear BK663 BK664 HO669 HO672 HO675 HO678 HO681 HO684 BK688 HO691 HO694 BK695 HO698 HO701 BK702 HO705 HO708 BK712 HO716 HO719 HO723 HO726 HB;intro BK663 BK664 HO669 HO672 HO675 HO678 HO681 HO684 BK688 HO691 HO694 BK695 HO698 HO701 BK702 HO705 HO708 BK712 HO716 HO719 HO723 HO726 HB;(try clear hb);(try clear hkp);(try clear hy0);(try clear hy1);have ⟨hcz106_0,hcz106_1,hfz106_0,hfz106_1⟩:=cz2_ BK702.out) | ((with_reducible refine gc_ 21 ?_);refine gl_ (some 55) Try.func21 #[.agg #[.slice Ao74 t696.length co74,.slice Ao80 t699.length co80],.int .i64 t728] ?_;(with_reducible refine (laws_markSet.calls k (fun k_=>some k_=(.slice Ao74 t696.length co74:Value).ownBlock) (.slice Ao74 t696.length co74) t696 (fun k_=>some k_=(.slice Ao80 t699.length co80:Value).ownBlock) (.slice Ao80 t699.length co80) t699 t728 t731 t732 t733 w _ ?s1 ?s2 ?s3 A34.out).mono ?_);(case s1=>repeat (first | (with_reducible first | exact HB.out | apply below_alloc | apply pw_below_drewN | apply below_drew1 | refine below_set ?_ GE663.out | refine below_set ?_ GE664.out | refine below_set ?_ GE688.out | refine below_set ?_ GE695.out | refine below_set ?_ GE702.out | refine below_set ?_ GE712.out) | exact HB.out));(case s2=>exact Kd.R_tight rfl HO698.out);(case s3=>exact Kd.R_tight rfl HO701.out);rintro e w107 ⟨rfl,hy0,hy1,hb,hkp⟩;refine ⟨_,rfl,?_⟩;refine as23_ (blk_kept (z1_ BK663.out) hkp (fun hs_=>Or.elim hs_ (fun e_=>(fun e_=>(Kd.R_ne HO698.out BK663.out (by decide)) e_) e_) (fun e_=>(fun e_=>(Kd.R_ne HO701.out BK663.out (by decide)) e_) e_))) (blk_kept (z1_ BK664.out) hkp (fun hs_=>Or.elim hs_ (fun e_=>(fun e_=>(Kd.R_ne HO698.out BK664.out (by decide)) e_) e_) (fun e_=>(fun e_=>(Kd.R_ne HO701.out BK664.out (by decide)) e_) e_))) (Kd.R_mono (ok':=fun k_=>some k_≠(v674:Value).ownBlock∧some k_≠(.slice Ao53 t679.length co53:Value).ownBlock∧some k_≠(.slice Ao64 t689.length co64:Value).ownBlock∧some k_≠(.slice Ao74 t696.length co74:Value).ownBlock∧some k_≠(.slice Ao84 t703.length co84:Value).ownBlock∧some k_≠(.slice Ao96 t714.length co96:Value).ownBlock∧some k_≠(.slice Ao101 t721.length co101:Value).ownBlock) (Kd.R_keptB ((Kd.R_apart' HO669.out (Kd.R_typed HO701.out) (by decide))) hkp (fun k_ hk_ hs_=>Or.elim hs_ (fun e_=>(hk_.1.2.2.2.1) e_) (fun e_=>(hk_.2) e_))) (fun k_ hk_=>⟨hk_.1.1.1,hk_.1.1.2.1,hk_.1.1.2.2.1,hk_.1.1.2.2.2.1,hk_.1.1.2.2.2.2.1,hk_.1.1.2.2.2.2.2.1,hk_.1.1.2.2.2.2.2.2⟩)) (Kd.R_mono (ok':=fun k_=>some k_≠(v677:Value).ownBlock∧some k_≠(.slice Ao55 t682.length co55:Value).ownBlock∧some k_≠(.slice Ao69 t692.length co69:Value).ownBlock∧some k_≠(.slice Ao80 t699.length co80:Value).ownBlock∧some k_≠(.slice Ao91 t706.length co91:Value).ownBlock∧some k_≠(.slice Ao97 t717.length co97:Value).ownBlock∧some k_≠(.slice Ao102 t724.length co102:Value).ownBlock) (Kd.R_keptB ((Kd.R_apart' HO672.out (Kd.R_typed HO698.out) (by decide))) hkp (fun k_ hk_ hs_=>Or.elim hs_ (fun e_=>(hk_.2) e_) (fun e_=>(hk_.1.2.2.2.1) e_))) (fun k_ hk_=>⟨hk_.1.1.1,hk_.1.1.2.1,hk_.1.1.2.2.1,hk_.1.1.2.2.2.1,hk_.1.1.2.2.2.2.1,hk_.1.1.2.2.2.2.2.1,hk_.1.1.2.2.2.2.2.2⟩)) (Kd.R_mono (ok':=fun k_=>some k_≠(v668:Value).ownBlock∧some k_≠(.slice Ao53 t679.length co53:Value).ownBlock∧some k_≠(.slice Ao64 t689.length co64:Value).ownBlock∧some k_≠(.slice Ao74 t696.length co74:Value).ownBlock∧some k_≠(.slice Ao84 t703.length co84:Value).ownBlock∧some k_≠(.slice Ao96 t714.length co96:Value).ownBlock∧some k_≠(.slice Ao101 t721.length co101:Value).ownBlock) (Kd.R_keptB ((Kd.R_apart' HO675.out (Kd.R_typed HO701.out) (by decide))) hkp (fun k_ hk_ hs_=>Or.elim hs_ (fun e_=>(hk_.1.2.2.2.1) e_) (fun e_=>(hk_.2) e_))) (fun k_ hk_=>⟨hk_.1.1.1,hk_.1.1.2.1,hk_.1.1.2.2.1,hk_.1.1.2.2.2.1,hk_.1.1.2.2.2.2.1,hk_.1.1.2.2.2.2.2.1,hk_.1.1.2.2.2.2.2.2⟩)) (Kd.R_mono (ok':=fun k_=>some k_≠(v671:Value).ownBlock∧some k_≠(.slice Ao55 t682.length co55:Value).ownBlock∧some k_≠(.slice Ao69 t692.length co69:Value).ownBlock∧some k_≠(.slice Ao80 t699.length co80:Value).ownBlock∧some k_≠(.slice Ao91 t706.length co91:Value).ownBlock∧some k_≠(.slice Ao97 t717.length co97:Value).ownBlock∧some k_≠(.slice Ao102 t724.length co102:Value).ownBlock) (Kd.R_keptB ((Kd.R_apart' HO678.out (Kd.R_typed HO698.out) (by decide))) hkp (fun k_ hk_ hs_=>Or.elim hs_ (fun e_=>(hk_.2) e_) (fun e_=>(hk_.1.2.2.2.1) e_))) (fun k_ hk_=>⟨hk_.1.1.1,hk_.1.1.2.1,hk_.1.1.2.2.1,hk_.1.1.2.2.2.1,hk_.1.1.2.2.2.2.1,hk_.1.1.2.2.2.2.2.1,hk_.1.1.2.2.2.2.2.2⟩)) (Kd.R_mono (ok':=fun k_=>some k_≠(v668:Value).ownBlock∧some k_≠(v674:Value).ownBlock∧some k_≠(.slice Ao64 t689.length co64:Value).ownBlock∧some k_≠(.slice Ao74 t696.length co74:Value).ownBlock∧some k_≠(.slice Ao84 t703.length co84:Value).ownBlock∧some k_≠(.slice Ao96 t714.length co96:Value).ownBlock∧some k_≠(.slice Ao101 t721.length co101:Value).ownBlock) (Kd.R_keptB ((Kd.R_apart' HO681.out (Kd.R_typed HO701.out) (by decide))) hkp (fun k_ hk_ hs_=>Or.elim hs_ (fun e_=>(hk_.1.2.2.2.1) e_) (fun e_=>(hk_.2) e_))) (fun k_ hk_=>⟨hk_.1.1.1,hk_.1.1.2.1,hk_.1.1.2.2.1,hk_.1.1.2.2.2.1,hk_.1.1.2.2.2.2.1,hk_.1.1.2.2.2.2.2.1,hk_.1.1.2.2.2.2.2.2⟩)) (Kd.R_mono (ok':=fun k_=>some k_≠(v671:Value).ownBlock∧some k_≠(v677:Value).ownBlock∧some k_≠(.slice Ao69 t692.length co69:Value).ownBlock∧some k_≠(.slice Ao80 t699.length co80:Value).ownBlock∧some k_≠(.slice Ao91 t706.length co91:Value).ownBlock∧some k_≠(.slice Ao97 t717.length co97:Value).ownBlock∧some k_≠(.slice Ao102 t724.length co102:Value).ownBlock) (Kd.R_keptB ((Kd.R_apart' HO684.out (Kd.R_typed HO698.out) (by decide))) hkp (fun k_ hk_ hs_=>Or.elim hs_ (fun e_=>(hk_.2) e_) (fun e_=>(hk_.1.2.2.2.1) e_))) (fun k_ hk_=>⟨hk_.1.1.1,hk_.1.1.2.1,hk_.1.1.2.2.1,hk_.1.1.2.2.2.1,hk_.1.1.2.2.2.2.1,hk_.1.1.2.2.2.2.2.1,hk_.1.1.2.2.2.2.2.2⟩)) (blk_kept (z1_ BK688.out) hkp (fun hs_=>Or.elim hs_ (fun e_=>(fun e_=>(Kd.R_ne HO698.out BK688.out (by decide)) e_) e_) (fun e_=>(fun e_=>(Kd.R_ne HO701.out BK688.out (by decide)) e_) e_))) (Kd.R_mono (ok':=fun k_=>some k_≠(v668:Value).ownBlock∧some k_≠(v674:Value).ownBlock∧some k_≠(.slice Ao53 t679.length co53:Value).ownBlock∧some k_≠(.slice Ao74 t696.length co74:Value).ownBlock∧some k_≠(.slice Ao84 t703.length co84:Value).ownBlock∧some k_≠(.slice Ao96 t714.length co96:Value).ownBlock∧some k_≠(.slice Ao101 t721.length co101:Value).ownBlock) (Kd.R_keptB ((Kd.R_apart' HO691.out (Kd.R_typed HO701.out) (by decide))) hkp (fun k_ hk_ hs_=>Or.elim hs_ (fun e_=>(hk_.1.1.1.1.2) e_) (fun e_=>(hk_.2) e_))) (fun k_ hk_=>⟨hk_.1.1.1.1.1.1.1.1.2,hk_.1.1.1.1.1.1.1.2,hk_.1.1.1.1.1.1.2,hk_.1.1.1.1.1.2,hk_.1.1.1.1.2,hk_.1.1.1.2,hk_.1.1.2⟩)) (Kd.R_mono (ok':=fun k_=>some k_≠(v671:Value).ownBlock∧some k_≠(v677:Value).ownBlock∧some k_≠(.slice Ao55 t682.length co55:Value).ownBlock∧some k_≠(.slice Ao80 t699.length co80:Value).ownBlock∧some k_≠(.slice Ao91 t706.length co91:Value).ownBlock∧some k_≠(.slice Ao97 t717.length co97:Value).ownBlock∧some k_≠(.slice Ao102 t724.length co102:Value).ownBlock) (Kd.R_keptB ((Kd.R_apart' HO694.out (Kd.R_typed HO698.out) (by decide))) hkp (fun k_ hk_ hs_=>Or.elim hs_ (fun e_=>(hk_.2) e_) (fun e_=>(hk_.1.1.1.1.2) e_))) (fun k_ hk_=>⟨hk_.1.1.1.1.1.1.1.1.2,hk_.1.1.1.1.1.1.1.2,hk_.1.1.1.1.1.1.2,hk_.1.1.1.1.1.2,hk_.1.1.1.1.2,hk_.1.1.1.2,hk_.1.1.2⟩)) (blk_kept (z1_ BK695.out) hkp (fun hs_=>Or.elim hs_ (fun e_=>(fun e_=>(Kd.R_ne HO698.out BK695.out (by decide)) e_) e_) (fun e_=>(fun e_=>(Kd.R_ne HO701.out BK695.out (by decide)) e_) e_))) (Kd.R_reok rfl hy0 (fun k_ e_=>HO698.out.1 k_ e_)) (Kd.R_reok rfl hy1 (fun k_ e_=>HO701.out.1 k_ e_)) (blk_kept (z1_ BK702.out) hkp (fun hs_=>Or.elim hs_ (fun e_=>(fun e_=>(Kd.R_ne HO698.out BK702.out (by decide)) e_) e_) (fun e_=>(fun e_=>(Kd.R_ne HO701.out BK702.out (by decide)) e_) e_))) (Kd.R_mono (ok':=fun k_=>some k_≠(v668:Value).ownBlock∧some k_≠(v674:Value).ownBlock∧some k_≠(.slice Ao53 t679.length co53:Value).ownBlock∧some k_≠(.slice Ao64 t689.length co64:Value).ownBlock∧some k_≠(.slice Ao74 t696.length co74:Value).ownBlock∧some k_≠(.slice Ao96 t714.length co96:Value).ownBlock∧some k_≠(.slice Ao101 t721.length co101:Value).ownBlock) (Kd.R_keptB ((Kd.R_apart' HO705.out (Kd.R_typed HO701.out) (by decide))) hkp (fun k_ hk_ hs_=>Or.elim hs_ (fun e_=>(hk_.1.2.2.2.2.1) e_) (fun e_=>(hk_.2) e_))) (fun k_ hk_=>⟨hk_.1.1.1,hk_.1.1.2.1,hk_.1.1.2.2.1,hk_.1.1.2.2.2.1,hk_.1.1.2.2.2.2.1,hk_.1.1.2.2.2.2.2.1,hk_.1.1.2.2.2.2.2.2⟩)) (Kd.R_mono (ok':=fun k_=>some k_≠(v671:Value).ownBlock∧some k_≠(v677:Value).ownBlock∧some k_≠(.slice Ao55 t682.length co55:Value).ownBlock∧some k_≠(.slice Ao69 t692.length co69:Value).ownBlock∧some k_≠(.slice Ao80 t699.length co80:Value).ownBlock∧some k_≠(.slice Ao97 t717.length co97:Value).ownBlock∧some k_≠(.slice Ao102 t724.length co102:Value).ownBlock) (Kd.R_keptB ((Kd.R_apart' HO708.out (Kd.R_typed HO698.out) (by decide))) hkp (fun k_ hk_ hs_=>Or.elim hs_ (fun e_=>(hk_.2) e_) (fun e_=>(hk_.1.2.2.2.2.1) e_))) (fun k_ hk_=>⟨hk_.1.1.1,hk_.1.1.2.1,hk_.1.1.2.2.1,hk_.1.1.2.2.2.1,hk_.1.1.2.2.2.2.1,hk_.1.1.2.2.2.2.2.1,hk_.1.1.2.2.2.2.2.2⟩)) (blk_kept (z1_ BK712.out) hkp (fun hs_=>Or.elim hs_ (fun e_=>(fun e_=>(Kd.R_ne HO698.out BK712.out (by decide)) e_) e_) (fun e_=>(fun e_=>(Kd.R_ne HO701.out BK712.out (by decide)) e_) e_))) (Kd.R_mono (ok':=fun k_=>some k_≠(v668:Value).ownBlock∧some k_≠(v674:Value).ownBlock∧some k_≠(.slice Ao53 t679.length co53:Value).ownBlock∧some k_≠(.slice Ao64 t689.length co64:Value).ownBlock∧some k_≠(.slice Ao74 t696.length co74:Value).ownBlock∧some k_≠(.slice Ao84 t703.length co84:Value).ownBlock∧some k_≠(.slice Ao101 t721.length co101:Value).ownBlock) (Kd.R_keptB ((Kd.R_apart' HO716.out (Kd.R_typed HO701.out) (by decide))) hkp (fun k_ hk_ hs_=>Or.elim hs_ (fun e_=>(hk_.1.2.2.2.2.1) e_) (fun e_=>(hk_.2) e_))) (fun k_ hk_=>⟨hk_.1.1.1,hk_.1.1.2.1,hk_.1.1.2.2.1,hk_.1.1.2.2.2.1,hk_.1.1.2.2.2.2.1,hk_.1.1.2.2.2.2.2.1,hk_.1.1.2.2.2.2.2.2⟩)) (Kd.R_mono (ok':=fun k_=>some k_≠(v671:Value).ownBlock∧some k_≠(v677:Value).ownBlock∧some k_≠(.slice Ao55 t682.length co55:Value).ownBlock∧some k_≠(.slice Ao69 t692.length co69:Value).ownBlock∧some k_≠(.slice Ao80 t699.length co80:Value).ownBlock∧some k_≠(.slice Ao91 t706.length co91:Value).ownBlock∧some k_≠(.slice Ao102 t724.length co102:Value).ownBlock) (Kd.R_keptB ((Kd.R_apart' HO719.out (Kd.R_typed HO698.out) (by decide))) hkp (fun k_ hk_ hs_=>Or.elim hs_ (fun e_=>(hk_.2) e_) (fun e_=>(hk_.1.2.2.2.2.1) e_))) (fun k_ hk_=>⟨hk_.1.1.1,hk_.1.1.2.1,hk_.1.1.2.2.1,hk_.1.1.2.2.2.1,hk_.1.1.2.2.2.2.1,hk_.1.1.2.2.2.2.2.1,hk_.1.1.2.2.2.2.2.2⟩)) (Kd.R_mono (ok':=fun k_=>some k_≠(v668:Value).ownBlock∧some k_≠(v674:Value).ownBlock∧some k_≠(.slice Ao53 t679.length co53:Value).ownBlock∧some k_≠(.slice Ao64 t689.length co64:Value).ownBlock∧some k_≠(.slice Ao74 t696.length co74:Value).ownBlock∧some k_≠(.slice Ao84 t703.length co84:Value).ownBlock∧some k_≠(.slice Ao96 t714.length co96:Value).ownBlock) (Kd.R_keptB ((Kd.R_apart' HO723.out (Kd.R_typed HO701.out) (by decide))) hkp (fun k_ hk_ hs_=>Or.elim hs_ (fun e_=>(hk_.1.2.2.2.2.1) e_) (fun e_=>(hk_.2) e_))) (fun k_ hk_=>⟨hk_.1.1.1,hk_.1.1.2.1,hk_.1.1.2.2.1,hk_.1.1.2.2.2.1,hk_.1.1.2.2.2.2.1,hk_.1.1.2.2.2.2.2.1,hk_.1.1.2.2.2.2.2.2⟩)) (Kd.R_mono (ok':=fun k_=>some k_≠(v671:Value).ownBlock∧some k_≠(v677:Value).ownBlock∧some k_≠(.slice Ao55 t682.length co55:Value).ownBlock∧some k_≠(.slice Ao69 t692.length co69:Value).ownBlock∧some k_≠(.slice Ao80 t699.length co80:Value).ownBlock∧some k_≠(.slice Ao91 t706.length co91:Value).ownBlock∧some k_≠(.slice Ao97 t717.length co97:Value).ownBlock) (Kd.R_keptB ((Kd.R_apart' HO726.out (Kd.R_typed HO698.out) (by decide))) hkp (fun k_ hk_ hs_=>Or.elim hs_ (fun e_=>(hk_.2) e_) (fun e_=>(hk_.1.2.2.2.2.1) e_))) (fun k_ hk_=>⟨hk_.1.1.1,hk_.1.1.2.1,hk_.1.1.2.2.1,hk_.1.1.2.2.2.1,hk_.1.1.2.2.2.2.1,hk_.1.1.2.2.2.2.2.1,hk_.1.1.2.2.2.2.2.2⟩)) (hb) ?_;clear BK663 BK664 HO669 HO672 HO675 HO678 HO681 HO684 BK688 HO691 HO694 BK695 HO698 HO701 BK702 HO705 HO708 BK712 HO716 HO719 HO723 HO726 HB;intro BK663 BK664 HO669 HO672 HO675 HO678 HO681 HO684 BK688 HO691 HO694 BK695 HO698 HO701 BK702 HO705 HO708 BK712 HO716 HO719 HO723 HO726 HB;(try clear hb);(try clear hkp);(try clear hy0);(try clear hy1)))
      (try simp only [Act.put,sa_,s0_,ss_])
      go_cut [63] (fun v63 wc=>∃ (kq:Nat) (x63_34:Bool),v63 = .bool x63_34∧Aside0 (laws_FnExactSetSync.j0 kq x63_34 l0_0 l0_1 l1_0 l1_1 t679 t682 t685 t686 t687 t703 t706 t709 t710 t711=some r)∧Aside0 (kq≤k)∧Aside0 (Kd.R k56 56 wc w.heap.size (fun k_=>some k_≠((.slice Ao64 t689.length co64):Value).ownBlock∧some k_≠((.slice Ao74 t696.length co74):Value).ownBlock∧some k_≠((.slice Ao84 t703.length co84):Value).ownBlock) (.slice Ao53 t679.length co53) t679)∧Aside0 (Kd.R k91 91 wc w.heap.size (fun k_=>some k_≠((.slice Ao69 t692.length co69):Value).ownBlock∧some k_≠((.slice Ao80 t699.length co80):Value).ownBlock∧some k_≠((.slice Ao91 t706.length co91):Value).ownBlock) (.slice Ao55 t682.length co55) t682)∧Aside0 (Kd.R k56 56 wc w.heap.size (fun k_=>some k_≠((.slice Ao53 t679.length co53):Value).ownBlock∧some k_≠((.slice Ao74 t696.length co74):Value).ownBlock∧some k_≠((.slice Ao84 t703.length co84):Value).ownBlock) (.slice Ao64 t689.length co64) t729)∧Aside0 (Kd.R k91 91 wc w.heap.size (fun k_=>some k_≠((.slice Ao55 t682.length co55):Value).ownBlock∧some k_≠((.slice Ao80 t699.length co80):Value).ownBlock∧some k_≠((.slice Ao91 t706.length co91):Value).ownBlock) (.slice Ao69 t692.length co69) t730)∧Aside0 (Kd.R k56 56 wc w.heap.size (fun k_=>some k_≠((.slice Ao53 t679.length co53):Value).ownBlock∧some k_≠((.slice Ao64 t689.length co64):Value).ownBlock∧some k_≠((.slice Ao84 t703.length co84):Value).ownBlock) (.slice Ao74 t696.length co74) t732)∧Aside0 (Kd.R k91 91 wc w.heap.size (fun k_=>some k_≠((.slice Ao55 t682.length co55):Value).ownBlock∧some k_≠((.slice Ao69 t692.length co69):Value).ownBlock∧some k_≠((.slice Ao91 t706.length co91):Value).ownBlock) (.slice Ao80 t699.length co80) t733)∧Aside0 (Kd.R k56 56 wc w.heap.size (fun k_=>some k_≠((.slice Ao53 t679.length co53):Value).ownBlock∧some k_≠((.slice Ao64 t689.length co64):Value).ownBlock∧some k_≠((.slice Ao74 t696.length co74):Value).ownBlock) (.slice Ao84 t703.length co84) t703)∧Aside0 (Kd.R k91 91 wc w.heap.size (fun k_=>some k_≠((.slice Ao55 t682.length co55):Value).ownBlock∧some k_≠((.slice Ao69 t692.length co69):Value).ownBlock∧some k_≠((.slice Ao80 t699.length co80):Value).ownBlock) (.slice Ao91 t706.length co91) t706)∧Aside0 (wc.heap[gb663]? = some (.cells #[(.slice A0_0 l0_0.length c0_0),(.slice A0_1 l0_1.length c0_1)] 32 (0,0)))∧Aside0 (wc.heap[gb664]? = some (.cells #[(.slice A1_0 l1_0.length c1_0),(.slice A1_1 l1_1.length c1_1)] 32 (0,0)))∧Aside0 (wc.heap[gb688]? = some (.cells #[(.slice Ao53 t679.length co53),(.slice Ao55 t682.length co55),.int .i64 t685,.int .i64 t686,.int .i64 t687] 58 (0,0)))∧Aside0 (wc.heap[gb695]? = some (.cells #[(.slice Ao64 t689.length co64),(.slice Ao69 t692.length co69)] 40 (0,0)))∧Aside0 (wc.heap[gb702]? = some (.cells #[(.slice Ao74 t696.length co74),(.slice Ao80 t699.length co80)] 40 (0,0)))∧Aside0 (wc.heap[gb712]? = some (.cells #[(.slice Ao84 t703.length co84),(.slice Ao91 t706.length co91),.int .i64 t709,.int .i64 t710,.int .i64 t711] 58 (0,0)))∧Aside0 (Below w.heap.size w wc))
      case first =>
       have H:=HC35.out
       clear HC35
       by_cases c108:t731<0
       ·rw [if_pos c108] at H
        have c108b0:decide (t731<0)=true:=decide_eq_true c108
        clear c108
        (first | rw [c108b0] | (simp only [i64_w,i32_w];rw [c108b0]) | skip)
        have H':=Aside0.mk H
        clear H
        go_wp2
        go_meet
        case rel=>exact ⟨_,(true),(z3_),H',⟨by first | omega | exact Nat.le_refl _⟩,⟨z25_ HO681.out⟩,⟨z25_ HO684.out⟩,⟨z25_ HO691.out⟩,⟨z25_ HO694.out⟩,⟨z25_ HO698.out⟩,⟨z25_ HO701.out⟩,⟨z25_ HO705.out⟩,⟨z25_ HO708.out⟩,⟨z1_ BK663.out⟩,⟨z1_ BK664.out⟩,⟨z1_ BK688.out⟩,⟨z1_ BK695.out⟩,⟨z1_ BK702.out⟩,⟨z1_ BK712.out⟩,⟨z19_ HB.out GE663.out GE664.out GE688.out GE695.out GE702.out GE712.out⟩⟩
       ·rw [if_neg c108] at H
        have c108b0:decide (t731<0)=false:=decide_eq_false c108
        clear c108
        (first | rw [c108b0] | (simp only [i64_w,i32_w];rw [c108b0]) | skip)
        replace H:=Option.bind_eq_some_iff.mp H
        obtain ⟨t734,A1090,H⟩:=H
        replace H:(laws_FnExactSetSync.j0 k (!t734) l0_0 l0_1 l1_0 l1_1 t679 t682 t685 t686 t687 t703 t706 t709 t710 t711)=some r:=H
        have A109:=Aside0.mk A1090
        clear A1090
        have H':=Aside0.mk H
        clear H
        have hnb110:=NB712_663.out
        have hnc110:=NB663_712.out
        have hnb111:=NB712_664.out
        have hnc111:=NB664_712.out
        have hnb112:=NB712_688.out
        have hnc112:=NB688_712.out
        have hnb113:=NB712_695.out
        have hnc113:=NB695_712.out
        have hnb114:=NB712_702.out
        have hnc114:=NB702_712.out
        have ⟨hcz115_0,hcz115_1,hcz115_2,hcz115_3,hcz115_4,hfz115_0,hfz115_1,hfz115_2,hfz115_3,hfz115_4⟩:=cz5_ BK712.out
        have hnb116:=NB688_663.out
        have hnc116:=NB663_688.out
        have hnb117:=NB688_664.out
        have hnc117:=NB664_688.out
        have hnb118:=NB688_695.out
        have hnc118:=NB695_688.out
        have hnb119:=NB688_702.out
        have hnc119:=NB702_688.out
        have ⟨hcz120_0,hcz120_1,hcz120_2,hcz120_3,hcz120_4,hfz120_0,hfz120_1,hfz120_2,hfz120_3,hfz120_4⟩:=cz5_ BK688.out
        go_wp2_with (first | (go_at_call 26;(with_reducible refine (laws_eqSetOut.calls k _ _ t703 _ _ t706 t709 t710 t711 _ _ t679 _ _ t682 t685 t686 t687 t734 _ ?s1 ?s2 ?s3 ?s4 ?s5 ?s6 ?s7 ?s8 A109.out).mono ?_);(case s1=>repeat (first | exact (Kd.R_reads' HO705.out).2.2 | (with_reducible refine Kd.C_alloc ?_ _) | (with_reducible refine Kd.C_drewN ?_ _) | (with_reducible refine Kd.C_drew ?_)));(case s2=>exact (Kd.R_reads' HO705.out).2.1);(case s3=>repeat (first | exact (Kd.R_reads' HO708.out).2.2 | (with_reducible refine Kd.C_alloc ?_ _) | (with_reducible refine Kd.C_drewN ?_ _) | (with_reducible refine Kd.C_drew ?_)));(case s4=>exact (Kd.R_reads' HO708.out).2.1);(case s5=>repeat (first | exact (Kd.R_reads' HO681.out).2.2 | (with_reducible refine Kd.C_alloc ?_ _) | (with_reducible refine Kd.C_drewN ?_ _) | (with_reducible refine Kd.C_drew ?_)));(case s6=>exact (Kd.R_reads' HO681.out).2.1);(case s7=>repeat (first | exact (Kd.R_reads' HO684.out).2.2 | (with_reducible refine Kd.C_alloc ?_ _) | (with_reducible refine Kd.C_drewN ?_ _) | (with_reducible refine Kd.C_drew ?_)));(case s8=>exact (Kd.R_reads' HO684.out).2.1);rintro e w121 ⟨rfl,hb⟩;refine as23_ (Kd.R_below (z0_ HO669.out) hb) (Kd.R_below (z0_ HO672.out) hb) (Kd.R_below (z0_ HO675.out) hb) (Kd.R_below (z0_ HO678.out) hb) (Kd.R_below (z0_ HO681.out) hb) (Kd.R_below (z0_ HO684.out) hb) (Kd.R_below (z0_ HO691.out) hb) (Kd.R_below (z0_ HO694.out) hb) (Kd.R_below (z0_ HO698.out) hb) (Kd.R_below (z0_ HO701.out) hb) (Kd.R_below (z0_ HO705.out) hb) (Kd.R_below (z0_ HO708.out) hb) (Kd.R_below (z0_ HO716.out) hb) (Kd.R_below (z0_ HO719.out) hb) (Kd.R_below (z0_ HO723.out) hb) (Kd.R_below (z0_ HO726.out) hb) (blkB_ BK663.out hb) (blkB_ BK664.out hb) (blkB_ BK688.out hb) (blkB_ BK695.out hb) (blkB_ BK702.out hb) (blkB_ BK712.out hb) (below_step (z19_ HB.out GE663.out GE664.out GE688.out GE695.out GE702.out GE712.out) hb) ?_;clear HO669 HO672 HO675 HO678 HO681 HO684 HO691 HO694 HO698 HO701 HO705 HO708 HO716 HO719 HO723 HO726 BK663 BK664 BK688 BK695 BK702 BK712 HB;intro HO669 HO672 HO675 HO678 HO681 HO684 HO691 HO694 HO698 HO701 HO705 HO708 HO716 HO719 HO723 HO726 BK663 BK664 BK688 BK695 BK702 BK712 HB;(try clear hb)))
        go_meet
        case rel=>exact ⟨_,(!t734),(z3_),H',⟨by first | omega | exact Nat.le_refl _⟩,⟨z25_ HO681.out⟩,⟨z25_ HO684.out⟩,⟨z25_ HO691.out⟩,⟨z25_ HO694.out⟩,⟨z25_ HO698.out⟩,⟨z25_ HO701.out⟩,⟨z25_ HO705.out⟩,⟨z25_ HO708.out⟩,⟨z1_ BK663.out⟩,⟨z1_ BK664.out⟩,⟨z1_ BK688.out⟩,⟨z1_ BK695.out⟩,⟨z1_ BK702.out⟩,⟨z1_ BK712.out⟩,⟨z19_ HB.out GE663.out GE664.out GE688.out GE695.out GE702.out GE712.out⟩⟩
      case rest =>
       clear HC35
       try clear c1
       try clear c2
       try clear p2
       try clear c10
       try clear c11
       try clear c15
       try clear c19
       try clear c21
       try clear c108
       try clear c108b0
       try clear c110
       try clear c111
       try clear c112
       try clear c113
       try clear c114
       try clear c116
       try clear c117
       try clear c118
       try clear c119
       try clear hcz104_0
       try clear hcz104_1
       try clear hcz106_0
       try clear hcz106_1
       try clear hcz115_0
       try clear hcz115_1
       try clear hcz115_2
       try clear hcz115_3
       try clear hcz115_4
       try clear hcz120_0
       try clear hcz120_1
       try clear hcz120_2
       try clear hcz120_3
       try clear hcz120_4
       try clear hfz104_0
       try clear hfz104_1
       try clear hfz106_0
       try clear hfz106_1
       try clear hfz115_0
       try clear hfz115_1
       try clear hfz115_2
       try clear hfz115_3
       try clear hfz115_4
       try clear hfz120_0
       try clear hfz120_1
       try clear hfz120_2
       try clear hfz120_3
       try clear hfz120_4
       obtain ⟨kq,x63_34,rfl,HA,HJ34,HO_689000,HO_689001,HO_696000,HO_696001,HO_703000,HO_703001,HO_713000,HO_713001,BK663,BK664,BK688,BK695,BK702,BK712,HB⟩:=hcut
       have hl696000_34:=(Kd.R_reads' HO_696000.out).1
       rw [hl696000_34] at HO_696000
       (try simp only [hl696000_34])
       (try simp only [hl696000_34] at BK663)
       (try simp only [hl696000_34] at BK664)
       (try simp only [hl696000_34] at BK688)
       (try simp only [hl696000_34] at BK695)
       (try simp only [hl696000_34] at BK702)
       (try simp only [hl696000_34] at BK712)
       (try simp only [hl696000_34] at HO_689000)
       (try simp only [hl696000_34] at HO_689001)
       (try simp only [hl696000_34] at HO_696001)
       (try simp only [hl696000_34] at HO_703000)
       (try simp only [hl696000_34] at HO_703001)
       (try simp only [hl696000_34] at HO_713000)
       (try simp only [hl696000_34] at HO_713001)
       have hl696001_34:=(Kd.R_reads' HO_696001.out).1
       rw [hl696001_34] at HO_696001
       (try simp only [hl696001_34])
       (try simp only [hl696001_34] at BK663)
       (try simp only [hl696001_34] at BK664)
       (try simp only [hl696001_34] at BK688)
       (try simp only [hl696001_34] at BK695)
       (try simp only [hl696001_34] at BK702)
       (try simp only [hl696001_34] at BK712)
       (try simp only [hl696001_34] at HO_689000)
       (try simp only [hl696001_34] at HO_689001)
       (try simp only [hl696001_34] at HO_696000)
       (try simp only [hl696001_34] at HO_703000)
       (try simp only [hl696001_34] at HO_703001)
       (try simp only [hl696001_34] at HO_713000)
       (try simp only [hl696001_34] at HO_713001)
       have hl703000_34:=(Kd.R_reads' HO_703000.out).1
       rw [hl703000_34] at HO_703000
       (try simp only [hl703000_34])
       (try simp only [hl703000_34] at BK663)
       (try simp only [hl703000_34] at BK664)
       (try simp only [hl703000_34] at BK688)
       (try simp only [hl703000_34] at BK695)
       (try simp only [hl703000_34] at BK702)
       (try simp only [hl703000_34] at BK712)
       (try simp only [hl703000_34] at HO_689000)
       (try simp only [hl703000_34] at HO_689001)
       (try simp only [hl703000_34] at HO_696000)
       (try simp only [hl703000_34] at HO_696001)
       (try simp only [hl703000_34] at HO_703001)
       (try simp only [hl703000_34] at HO_713000)
       (try simp only [hl703000_34] at HO_713001)
       have hl703001_34:=(Kd.R_reads' HO_703001.out).1
       rw [hl703001_34] at HO_703001
       (try simp only [hl703001_34])
       (try simp only [hl703001_34] at BK663)
       (try simp only [hl703001_34] at BK664)
       (try simp only [hl703001_34] at BK688)
       (try simp only [hl703001_34] at BK695)
       (try simp only [hl703001_34] at BK702)
       (try simp only [hl703001_34] at BK712)
       (try simp only [hl703001_34] at HO_689000)
       (try simp only [hl703001_34] at HO_689001)
       (try simp only [hl703001_34] at HO_696000)
       (try simp only [hl703001_34] at HO_696001)
       (try simp only [hl703001_34] at HO_703000)
       (try simp only [hl703001_34] at HO_713000)
       (try simp only [hl703001_34] at HO_713001)
       cases kq with
       | zero=>exact absurd HA.out (by simp [laws_FnExactSetSync.j0])
       | succ kj34 =>
        have H:=HA.out
        clear HA
        simp only [laws_FnExactSetSync.j0] at H
        by_cases c122:x63_34=true
        ·subst c122
         have H1:(none)=some r:=by rw [if_pos rfl] at H;exact H
         clear H
         have H:=H1
         clear H1
         exact absurd H (by simp)
        ·replace c122:=Bool.eq_false_iff.mpr c122
         subst c122
         have H1:((laws_markSetOut.f kj34 t703 t706 t709 t710 t711 1).bind fun bt735=>((laws_heldSetOut.f kj34 bt735.2.1 bt735.2.2 t709 t710 t711 1).bind fun t738=>(if t738<0 then (none) else (if t738=bt735.1 then ((laws_toSet.f kj34 l0_0 l0_1).bind fun bt739=>((laws_toSet.f kj34 l1_0 l1_1).bind fun bt745=>((impl_SetSync.f kj34 bt739.1 bt739.2 bt745.1 bt745.2).bind fun bt751=>((laws_eqSetOut.f kj34 bt751.1 bt751.2.1 bt751.2.2.1 bt751.2.2.2.1 bt751.2.2.2.2 t679 t682 t685 t686 t687).bind fun t761=>(if t761=true then ((laws_heldSetOut.f kj34 bt735.2.1 bt735.2.2 t709 t710 t711 1).bind fun t762=>(if t762<0 then (none) else (if t762=bt735.1 then (some true) else (none)))) else (none)))))) else (none)))))=some r:=by rw [if_neg (show ¬ (false=true) by decide)] at H;exact H
         clear H
         have H:=H1
         clear H1
         replace H:=Option.bind_eq_some_iff.mp H
         obtain ⟨⟨t735,t736,t737⟩,A1230,H⟩:=H
         replace H:((laws_heldSetOut.f kj34 t736 t737 t709 t710 t711 1).bind fun t738=>(if t738<0 then (none) else (if t738=t735 then ((laws_toSet.f kj34 l0_0 l0_1).bind fun bt739=>((laws_toSet.f kj34 l1_0 l1_1).bind fun bt745=>((impl_SetSync.f kj34 bt739.1 bt739.2 bt745.1 bt745.2).bind fun bt751=>((laws_eqSetOut.f kj34 bt751.1 bt751.2.1 bt751.2.2.1 bt751.2.2.2.1 bt751.2.2.2.2 t679 t682 t685 t686 t687).bind fun t761=>(if t761=true then ((laws_heldSetOut.f kj34 t736 t737 t709 t710 t711 1).bind fun t762=>(if t762<0 then (none) else (if t762=t735 then (some true) else (none)))) else (none)))))) else (none))))=some r:=H
         have A123:=Aside0.mk A1230
         clear A1230
         replace H:=Option.bind_eq_some_iff.mp H
         obtain ⟨t738,A1240,H⟩:=H
         replace H:(if t738<0 then (none) else (if t738=t735 then ((laws_toSet.f kj34 l0_0 l0_1).bind fun bt739=>((laws_toSet.f kj34 l1_0 l1_1).bind fun bt745=>((impl_SetSync.f kj34 bt739.1 bt739.2 bt745.1 bt745.2).bind fun bt751=>((laws_eqSetOut.f kj34 bt751.1 bt751.2.1 bt751.2.2.1 bt751.2.2.2.1 bt751.2.2.2.2 t679 t682 t685 t686 t687).bind fun t761=>(if t761=true then ((laws_heldSetOut.f kj34 t736 t737 t709 t710 t711 1).bind fun t762=>(if t762<0 then (none) else (if t762=t735 then (some true) else (none)))) else (none)))))) else (none)))=some r:=H
         have A124:=Aside0.mk A1240
         clear A1240
         by_cases c125:t738<0
         ·rw [if_pos c125] at H
          exact absurd H (by simp)
         ·rw [if_neg c125] at H
          have c125b0:decide (t738<0)=false:=decide_eq_false c125
          clear c125
          by_cases c126:t738=t735
          ·rw [if_pos c126] at H
           have c126b0:(t738 == t735)=true:=beq_iff_eq.mpr c126
           have c126b1:(t738 != t735)=false:=bne_eq_false_iff_eq.mpr c126
           clear c126
           replace H:=Option.bind_eq_some_iff.mp H
           obtain ⟨⟨t739,t742⟩,A1270,H⟩:=H
           replace H:((laws_toSet.f kj34 l1_0 l1_1).bind fun bt745=>((impl_SetSync.f kj34 t739 t742 bt745.1 bt745.2).bind fun bt751=>((laws_eqSetOut.f kj34 bt751.1 bt751.2.1 bt751.2.2.1 bt751.2.2.2.1 bt751.2.2.2.2 t679 t682 t685 t686 t687).bind fun t761=>(if t761=true then ((laws_heldSetOut.f kj34 t736 t737 t709 t710 t711 1).bind fun t762=>(if t762<0 then (none) else (if t762=t735 then (some true) else (none)))) else (none)))))=some r:=H
           have A127:=Aside0.mk A1270
           clear A1270
           replace H:=Option.bind_eq_some_iff.mp H
           obtain ⟨⟨t745,t748⟩,A1280,H⟩:=H
           replace H:((impl_SetSync.f kj34 t739 t742 t745 t748).bind fun bt751=>((laws_eqSetOut.f kj34 bt751.1 bt751.2.1 bt751.2.2.1 bt751.2.2.2.1 bt751.2.2.2.2 t679 t682 t685 t686 t687).bind fun t761=>(if t761=true then ((laws_heldSetOut.f kj34 t736 t737 t709 t710 t711 1).bind fun t762=>(if t762<0 then (none) else (if t762=t735 then (some true) else (none)))) else (none))))=some r:=H
           have A128:=Aside0.mk A1280
           clear A1280
           replace H:=Option.bind_eq_some_iff.mp H
           obtain ⟨⟨t751,t754,t757,t758,t759⟩,A1290,H⟩:=H
           replace H:((laws_eqSetOut.f kj34 t751 t754 t757 t758 t759 t679 t682 t685 t686 t687).bind fun t761=>(if t761=true then ((laws_heldSetOut.f kj34 t736 t737 t709 t710 t711 1).bind fun t762=>(if t762<0 then (none) else (if t762=t735 then (some true) else (none)))) else (none)))=some r:=H
           have A129:=Aside0.mk A1290
           clear A1290
           replace H:=Option.bind_eq_some_iff.mp H
           obtain ⟨t761,A1300,H⟩:=H
           replace H:(if t761=true then ((laws_heldSetOut.f kj34 t736 t737 t709 t710 t711 1).bind fun t762=>(if t762<0 then (none) else (if t762=t735 then (some true) else (none)))) else (none))=some r:=H
           have A130:=Aside0.mk A1300
           clear A1300
           by_cases c131:t761=true
           ·subst c131
            have H1:((laws_heldSetOut.f kj34 t736 t737 t709 t710 t711 1).bind fun t762=>(if t762<0 then (none) else (if t762=t735 then (some true) else (none))))=some r:=by rw [if_pos rfl] at H;exact H
            clear H
            have H:=H1
            clear H1
            replace H:=Option.bind_eq_some_iff.mp H
            obtain ⟨t762,A1320,H⟩:=H
            replace H:(if t762<0 then (none) else (if t762=t735 then (some true) else (none)))=some r:=H
            have A132:=Aside0.mk A1320
            clear A1320
            by_cases c133:t762<0
            ·rw [if_pos c133] at H
             exact absurd H (by simp)
            ·rw [if_neg c133] at H
             have c133b0:decide (t762<0)=false:=decide_eq_false c133
             clear c133
             by_cases c134:t762=t735
             ·rw [if_pos c134] at H
              have c134b0:(t762 == t735)=true:=beq_iff_eq.mpr c134
              have c134b1:(t762 != t735)=false:=bne_eq_false_iff_eq.mpr c134
              clear c134
              obtain rfl:=Option.some.inj H
              have hnb135:=NB712_663.out
              have hnc135:=NB663_712.out
              have hnb136:=NB712_664.out
              have hnc136:=NB664_712.out
              have hnb137:=NB712_688.out
              have hnc137:=NB688_712.out
              have hnb138:=NB712_695.out
              have hnc138:=NB695_712.out
              have hnb139:=NB712_702.out
              have hnc139:=NB702_712.out
              have ⟨hcz140_0,hcz140_1,hcz140_2,hcz140_3,hcz140_4,hfz140_0,hfz140_1,hfz140_2,hfz140_3,hfz140_4⟩:=cz5_ BK712.out
              try go_wp2_with (first | ((with_reducible refine gc_ 27 ?_);refine gl_ (some 66) Try.func27 #[.agg #[.slice Ao84 t703.length co84,.slice Ao91 t706.length co91,.int .i64 t709,.int .i64 t710,.int .i64 t711],.int .i64 1] ?_;(with_reducible refine (laws_markSetOut.calls kj34 (fun k_=>some k_=(.slice Ao84 t703.length co84:Value).ownBlock) (.slice Ao84 t703.length co84) t703 (fun k_=>some k_=(.slice Ao91 t706.length co91:Value).ownBlock) (.slice Ao91 t706.length co91) t706 t709 t710 t711 1 t735 t736 t737 w _ ?s1 ?s2 ?s3 A123.out).mono ?_);(case s1=>repeat (first | (with_reducible first | exact HB.out | apply below_alloc | apply pw_below_drewN | apply below_drew1 | refine below_set ?_ GE663.out | refine below_set ?_ GE664.out | refine below_set ?_ GE688.out | refine below_set ?_ GE695.out | refine below_set ?_ GE702.out | refine below_set ?_ GE712.out) | exact HB.out));(case s2=>exact Kd.R_tight rfl HO_713000.out);(case s3=>exact Kd.R_tight rfl HO_713001.out);rintro e w141 ⟨rfl,hy0,hy1,hb,hkp⟩;refine ⟨_,rfl,?_⟩;refine as15_ (Kd.R_mono (ok':=fun k_=>some k_≠(.slice Ao64 t729.length co64:Value).ownBlock∧some k_≠(.slice Ao74 t732.length co74:Value).ownBlock∧some k_≠(.slice Ao84 t703.length co84:Value).ownBlock) (Kd.R_keptB ((Kd.R_apart' HO_689000.out (Kd.R_typed HO_713001.out) (by decide))) hkp (fun k_ hk_ hs_=>Or.elim hs_ (fun e_=>(hk_.1.2.2) e_) (fun e_=>(hk_.2) e_))) (fun k_ hk_=>⟨hk_.1.1.1,hk_.1.1.2.1,hk_.1.1.2.2⟩)) (Kd.R_mono (ok':=fun k_=>some k_≠(.slice Ao69 t730.length co69:Value).ownBlock∧some k_≠(.slice Ao80 t733.length co80:Value).ownBlock∧some k_≠(.slice Ao91 t706.length co91:Value).ownBlock) (Kd.R_keptB ((Kd.R_apart' HO_689001.out (Kd.R_typed HO_713000.out) (by decide))) hkp (fun k_ hk_ hs_=>Or.elim hs_ (fun e_=>(hk_.2) e_) (fun e_=>(hk_.1.2.2) e_))) (fun k_ hk_=>⟨hk_.1.1.1,hk_.1.1.2.1,hk_.1.1.2.2⟩)) (Kd.R_mono (ok':=fun k_=>some k_≠(.slice Ao53 t679.length co53:Value).ownBlock∧some k_≠(.slice Ao74 t732.length co74:Value).ownBlock∧some k_≠(.slice Ao84 t703.length co84:Value).ownBlock) (Kd.R_keptB ((Kd.R_apart' HO_696000.out (Kd.R_typed HO_713001.out) (by decide))) hkp (fun k_ hk_ hs_=>Or.elim hs_ (fun e_=>(hk_.1.2.2) e_) (fun e_=>(hk_.2) e_))) (fun k_ hk_=>⟨hk_.1.1.1,hk_.1.1.2.1,hk_.1.1.2.2⟩)) (Kd.R_mono (ok':=fun k_=>some k_≠(.slice Ao55 t682.length co55:Value).ownBlock∧some k_≠(.slice Ao80 t733.length co80:Value).ownBlock∧some k_≠(.slice Ao91 t706.length co91:Value).ownBlock) (Kd.R_keptB ((Kd.R_apart' HO_696001.out (Kd.R_typed HO_713000.out) (by decide))) hkp (fun k_ hk_ hs_=>Or.elim hs_ (fun e_=>(hk_.2) e_) (fun e_=>(hk_.1.2.2) e_))) (fun k_ hk_=>⟨hk_.1.1.1,hk_.1.1.2.1,hk_.1.1.2.2⟩)) (Kd.R_mono (ok':=fun k_=>some k_≠(.slice Ao53 t679.length co53:Value).ownBlock∧some k_≠(.slice Ao64 t729.length co64:Value).ownBlock∧some k_≠(.slice Ao84 t703.length co84:Value).ownBlock) (Kd.R_keptB ((Kd.R_apart' HO_703000.out (Kd.R_typed HO_713001.out) (by decide))) hkp (fun k_ hk_ hs_=>Or.elim hs_ (fun e_=>(hk_.1.2.2) e_) (fun e_=>(hk_.2) e_))) (fun k_ hk_=>⟨hk_.1.1.1,hk_.1.1.2.1,hk_.1.1.2.2⟩)) (Kd.R_mono (ok':=fun k_=>some k_≠(.slice Ao55 t682.length co55:Value).ownBlock∧some k_≠(.slice Ao69 t730.length co69:Value).ownBlock∧some k_≠(.slice Ao91 t706.length co91:Value).ownBlock) (Kd.R_keptB ((Kd.R_apart' HO_703001.out (Kd.R_typed HO_713000.out) (by decide))) hkp (fun k_ hk_ hs_=>Or.elim hs_ (fun e_=>(hk_.2) e_) (fun e_=>(hk_.1.2.2) e_))) (fun k_ hk_=>⟨hk_.1.1.1,hk_.1.1.2.1,hk_.1.1.2.2⟩)) (Kd.R_reok rfl hy0 (fun k_ e_=>HO_713000.out.1 k_ e_)) (Kd.R_reok rfl hy1 (fun k_ e_=>HO_713001.out.1 k_ e_)) (blk_kept (z1_ BK663.out) hkp (fun hs_=>Or.elim hs_ (fun e_=>(fun e_=>(Kd.R_ne HO_713000.out BK663.out (by decide)) e_) e_) (fun e_=>(fun e_=>(Kd.R_ne HO_713001.out BK663.out (by decide)) e_) e_))) (blk_kept (z1_ BK664.out) hkp (fun hs_=>Or.elim hs_ (fun e_=>(fun e_=>(Kd.R_ne HO_713000.out BK664.out (by decide)) e_) e_) (fun e_=>(fun e_=>(Kd.R_ne HO_713001.out BK664.out (by decide)) e_) e_))) (blk_kept (z1_ BK688.out) hkp (fun hs_=>Or.elim hs_ (fun e_=>(fun e_=>(Kd.R_ne HO_713000.out BK688.out (by decide)) e_) e_) (fun e_=>(fun e_=>(Kd.R_ne HO_713001.out BK688.out (by decide)) e_) e_))) (blk_kept (z1_ BK695.out) hkp (fun hs_=>Or.elim hs_ (fun e_=>(fun e_=>(Kd.R_ne HO_713000.out BK695.out (by decide)) e_) e_) (fun e_=>(fun e_=>(Kd.R_ne HO_713001.out BK695.out (by decide)) e_) e_))) (blk_kept (z1_ BK702.out) hkp (fun hs_=>Or.elim hs_ (fun e_=>(fun e_=>(Kd.R_ne HO_713000.out BK702.out (by decide)) e_) e_) (fun e_=>(fun e_=>(Kd.R_ne HO_713001.out BK702.out (by decide)) e_) e_))) (blk_kept (z1_ BK712.out) hkp (fun hs_=>Or.elim hs_ (fun e_=>(fun e_=>(Kd.R_ne HO_713000.out BK712.out (by decide)) e_) e_) (fun e_=>(fun e_=>(Kd.R_ne HO_713001.out BK712.out (by decide)) e_) e_))) (hb) ?_;clear HO_689000 HO_689001 HO_696000 HO_696001 HO_703000 HO_703001 HO_713000 HO_713001 BK663 BK664 BK688 BK695 BK702 BK712 HB;intro HO_689000 HO_689001 HO_696000 HO_696001 HO_703000 HO_703001 HO_713000 HO_713001 BK663 BK664 BK688 BK695 BK702 BK712 HB;(try clear hb);(try clear hkp);(try clear hy0);(try clear hy1);have ⟨hcz142_0,hcz142_1,hcz142_2,hcz142_3,hcz142_4,hfz142_0,hfz142_1,hfz142_2,hfz142_3,hfz142_4⟩:=cz5_ BK712.out) | ((with_reducible refine gc_ 28 ?_);refine goesL_ (some 69) rfl rfl Try.func28 (by kernel_rfl) rfl #[.agg #[.slice Ao84 t736.length co84,.slice Ao91 t737.length co91,.int .i64 t709,.int .i64 t710,.int .i64 t711],.int .i64 1] rfl (by (try simp only [List.map_toArray,List.map_cons,List.map_nil]);first | done | (rw [show t736.length=t703.length from (Kd.R_reads' HO_713000.out).1.symm,show t737.length=t706.length from (Kd.R_reads' HO_713001.out).1.symm] <;> rfl) | rfl | (simp only [List.length_drop,List.length_take];rfl)) ?_;(with_reducible refine (laws_heldSetOut.calls kj34 _ _ t736 _ _ t737 t709 t710 t711 1 t738 _ ?s1 ?s2 ?s3 ?s4 A124.out).mono ?_);(case s1=>repeat (first | exact (Kd.R_reads' HO_713000.out).2.2 | (with_reducible refine Kd.C_alloc ?_ _) | (with_reducible refine Kd.C_drewN ?_ _) | (with_reducible refine Kd.C_drew ?_)));(case s2=>rw [show t736.length=t703.length from (Kd.R_reads' HO_713000.out).1.symm];exact (Kd.R_reads' HO_713000.out).2.1);(case s3=>repeat (first | exact (Kd.R_reads' HO_713001.out).2.2 | (with_reducible refine Kd.C_alloc ?_ _) | (with_reducible refine Kd.C_drewN ?_ _) | (with_reducible refine Kd.C_drew ?_)));(case s4=>rw [show t737.length=t706.length from (Kd.R_reads' HO_713001.out).1.symm];exact (Kd.R_reads' HO_713001.out).2.1);rintro e w143 ⟨rfl,hb⟩;refine ⟨_,rfl,?_⟩;refine as15_ (Kd.R_below (z0_ HO_689000.out) hb) (Kd.R_below (z0_ HO_689001.out) hb) (Kd.R_below (z0_ HO_696000.out) hb) (Kd.R_below (z0_ HO_696001.out) hb) (Kd.R_below (z0_ HO_703000.out) hb) (Kd.R_below (z0_ HO_703001.out) hb) (Kd.R_below (z0_ HO_713000.out) hb) (Kd.R_below (z0_ HO_713001.out) hb) (blkB_ BK663.out hb) (blkB_ BK664.out hb) (blkB_ BK688.out hb) (blkB_ BK695.out hb) (blkB_ BK702.out hb) (blkB_ BK712.out hb) (below_step (z19_ HB.out GE663.out GE664.out GE688.out GE695.out GE702.out GE712.out) hb) ?_;clear HO_689000 HO_689001 HO_696000 HO_696001 HO_703000 HO_703001 HO_713000 HO_713001 BK663 BK664 BK688 BK695 BK702 BK712 HB;intro HO_689000 HO_689001 HO_696000 HO_696001 HO_703000 HO_703001 HO_713000 HO_713001 BK663 BK664 BK688 BK695 BK702 BK712 HB;(try clear hb)))
              refine as15_ (Kd.R_drew HO_689000.out) (Kd.R_drew HO_689001.out) (Kd.R_drew HO_696000.out) (Kd.R_drew HO_696001.out) (Kd.R_drew HO_703000.out) (Kd.R_drew HO_703001.out) (Kd.R_drew HO_713000.out) (Kd.R_drew HO_713001.out) (blk_drew BK663.out) (blk_drew BK664.out) (blk_drew BK688.out) (blk_drew BK695.out) (blk_drew BK702.out) (blk_drew BK712.out) (below_drew1 HB.out) ?_
              clear HO_689000 HO_689001 HO_696000 HO_696001 HO_703000 HO_703001 HO_713000 HO_713001 BK663 BK664 BK688 BK695 BK702 BK712 HB
              intro HO_689000 HO_689001 HO_696000 HO_696001 HO_703000 HO_703001 HO_713000 HO_713001 BK663 BK664 BK688 BK695 BK702 BK712 HB
              refine start_ (n:=7) (S:=fun w'=>w'.cell? ⟨gb663,0,none⟩=some (.slice A0_0 l0_0.length c0_0)∧w'.cell? ⟨gb663,1,none⟩=some (.slice A0_1 l0_1.length c0_1)∧w'.cell? ⟨gb664,0,none⟩=some (.slice A1_0 l1_0.length c1_0)∧w'.cell? ⟨gb664,1,none⟩=some (.slice A1_1 l1_1.length c1_1)) (ds:=[]) #[O,O,O,O,O,O,O] (by kernel_rfl) rfl rfl (cj2_ BK663.out (cc2_ BK664.out)) (fun hHeld=>?_)
              generalize w143.drew=w144 at HO_689000 HO_689001 HO_696000 HO_696001 HO_703000 HO_703001 HO_713000 HO_713001 BK663 BK664 BK688 BK695 BK702 BK712 HB hHeld ⊢
              refine take_ (i:=0) (N:=some 75) (v:=?_) (a':=?_) #[I,O,O,O,O,O,O] rfl rfl (by kernel_rfl) (fun _ _ _ h=>h) (Or.inl ⟨by rfl,?_⟩) hHeld ?_ ?_
              rotate_left
              ·rintro w' ⟨s0,s1,s2,s3⟩
               go_simp
               with_reducible rfl
              rotate_left
              ·simp only [Act.put,sa_,s0_,ss_,i64_w,i32_w]
               rfl
              refine take_ (i:=2) (N:=some 77) (v:=?_) (a':=?_) #[I,O,I,O,O,O,O] rfl rfl (by kernel_rfl) (fun _ _ _ h=>h) (Or.inl ⟨by rfl,?_⟩) hHeld ?_ ?_
              rotate_left
              ·rintro w' ⟨s0,s1,s2,s3⟩
               go_simp
               with_reducible rfl
              rotate_left
              ·simp only [Act.put,sa_,s0_,ss_,i64_w,i32_w]
               rfl
              refine join_ (σ:=Value × Value × Value × Value × Value × Value × Nat) 1 #[I,I,I,I,I,I,O] (fun s_=>[(76,.agg #[s_.1,s_.2.1]),(78,.agg #[s_.2.2.1,s_.2.2.2.1]),(79,.agg #[s_.2.2.2.2.1,s_.2.2.2.2.2.1,.int .i64 t757,.int .i64 t758,.int .i64 t759]),(13,.pointer (some ⟨s_.2.2.2.2.2.2,0,none⟩))]) (fun s_ w'=>(w'.cell? ⟨gb663,0,none⟩=some (.slice A0_0 l0_0.length c0_0)∧w'.cell? ⟨gb663,1,none⟩=some (.slice A0_1 l0_1.length c0_1)∧w'.cell? ⟨gb664,0,none⟩=some (.slice A1_0 l1_0.length c1_0)∧w'.cell? ⟨gb664,1,none⟩=some (.slice A1_1 l1_1.length c1_1))∧(Kd.R k56 56 w' w.heap.size (fun k_=>some k_≠(s_.2.2.1:Value).ownBlock∧some k_≠(s_.2.2.2.2.1:Value).ownBlock∧some k_≠(.slice Ao53 t679.length co53:Value).ownBlock∧some k_≠(.slice Ao64 t729.length co64:Value).ownBlock∧some k_≠(.slice Ao74 t732.length co74:Value).ownBlock∧some k_≠(.slice Ao84 t703.length co84:Value).ownBlock) s_.1 t739)∧(Kd.R k91 91 w' w.heap.size (fun k_=>some k_≠(s_.2.2.2.1:Value).ownBlock∧some k_≠(s_.2.2.2.2.2.1:Value).ownBlock∧some k_≠(.slice Ao55 t682.length co55:Value).ownBlock∧some k_≠(.slice Ao69 t730.length co69:Value).ownBlock∧some k_≠(.slice Ao80 t733.length co80:Value).ownBlock∧some k_≠(.slice Ao91 t706.length co91:Value).ownBlock) s_.2.1 t742)∧(Kd.R k56 56 w' w.heap.size (fun k_=>some k_≠(s_.1:Value).ownBlock∧some k_≠(s_.2.2.2.2.1:Value).ownBlock∧some k_≠(.slice Ao53 t679.length co53:Value).ownBlock∧some k_≠(.slice Ao64 t729.length co64:Value).ownBlock∧some k_≠(.slice Ao74 t732.length co74:Value).ownBlock∧some k_≠(.slice Ao84 t703.length co84:Value).ownBlock) s_.2.2.1 t745)∧(Kd.R k91 91 w' w.heap.size (fun k_=>some k_≠(s_.2.1:Value).ownBlock∧some k_≠(s_.2.2.2.2.2.1:Value).ownBlock∧some k_≠(.slice Ao55 t682.length co55:Value).ownBlock∧some k_≠(.slice Ao69 t730.length co69:Value).ownBlock∧some k_≠(.slice Ao80 t733.length co80:Value).ownBlock∧some k_≠(.slice Ao91 t706.length co91:Value).ownBlock) s_.2.2.2.1 t748)∧(Kd.R k56 56 w' w.heap.size (fun k_=>some k_≠(s_.1:Value).ownBlock∧some k_≠(s_.2.2.1:Value).ownBlock∧some k_≠(.slice Ao53 t679.length co53:Value).ownBlock∧some k_≠(.slice Ao64 t729.length co64:Value).ownBlock∧some k_≠(.slice Ao74 t732.length co74:Value).ownBlock∧some k_≠(.slice Ao84 t703.length co84:Value).ownBlock) s_.2.2.2.2.1 t751)∧(Kd.R k91 91 w' w.heap.size (fun k_=>some k_≠(s_.2.1:Value).ownBlock∧some k_≠(s_.2.2.2.1:Value).ownBlock∧some k_≠(.slice Ao55 t682.length co55:Value).ownBlock∧some k_≠(.slice Ao69 t730.length co69:Value).ownBlock∧some k_≠(.slice Ao80 t733.length co80:Value).ownBlock∧some k_≠(.slice Ao91 t706.length co91:Value).ownBlock) s_.2.2.2.2.2.1 t754)∧(Kd.R k56 56 w' w.heap.size (fun k_=>some k_≠(s_.1:Value).ownBlock∧some k_≠(s_.2.2.1:Value).ownBlock∧some k_≠(s_.2.2.2.2.1:Value).ownBlock∧some k_≠(.slice Ao64 t729.length co64:Value).ownBlock∧some k_≠(.slice Ao74 t732.length co74:Value).ownBlock∧some k_≠(.slice Ao84 t703.length co84:Value).ownBlock) (.slice Ao53 t679.length co53) t679)∧(Kd.R k91 91 w' w.heap.size (fun k_=>some k_≠(s_.2.1:Value).ownBlock∧some k_≠(s_.2.2.2.1:Value).ownBlock∧some k_≠(s_.2.2.2.2.2.1:Value).ownBlock∧some k_≠(.slice Ao69 t730.length co69:Value).ownBlock∧some k_≠(.slice Ao80 t733.length co80:Value).ownBlock∧some k_≠(.slice Ao91 t706.length co91:Value).ownBlock) (.slice Ao55 t682.length co55) t682)∧(Kd.R k56 56 w' w.heap.size (fun k_=>some k_≠(s_.1:Value).ownBlock∧some k_≠(s_.2.2.1:Value).ownBlock∧some k_≠(s_.2.2.2.2.1:Value).ownBlock∧some k_≠(.slice Ao53 t679.length co53:Value).ownBlock∧some k_≠(.slice Ao74 t732.length co74:Value).ownBlock∧some k_≠(.slice Ao84 t703.length co84:Value).ownBlock) (.slice Ao64 t729.length co64) t729)∧(Kd.R k91 91 w' w.heap.size (fun k_=>some k_≠(s_.2.1:Value).ownBlock∧some k_≠(s_.2.2.2.1:Value).ownBlock∧some k_≠(s_.2.2.2.2.2.1:Value).ownBlock∧some k_≠(.slice Ao55 t682.length co55:Value).ownBlock∧some k_≠(.slice Ao80 t733.length co80:Value).ownBlock∧some k_≠(.slice Ao91 t706.length co91:Value).ownBlock) (.slice Ao69 t730.length co69) t730)∧(Kd.R k56 56 w' w.heap.size (fun k_=>some k_≠(s_.1:Value).ownBlock∧some k_≠(s_.2.2.1:Value).ownBlock∧some k_≠(s_.2.2.2.2.1:Value).ownBlock∧some k_≠(.slice Ao53 t679.length co53:Value).ownBlock∧some k_≠(.slice Ao64 t729.length co64:Value).ownBlock∧some k_≠(.slice Ao84 t703.length co84:Value).ownBlock) (.slice Ao74 t732.length co74) t732)∧(Kd.R k91 91 w' w.heap.size (fun k_=>some k_≠(s_.2.1:Value).ownBlock∧some k_≠(s_.2.2.2.1:Value).ownBlock∧some k_≠(s_.2.2.2.2.2.1:Value).ownBlock∧some k_≠(.slice Ao55 t682.length co55:Value).ownBlock∧some k_≠(.slice Ao69 t730.length co69:Value).ownBlock∧some k_≠(.slice Ao91 t706.length co91:Value).ownBlock) (.slice Ao80 t733.length co80) t733)∧(Kd.R k56 56 w' w.heap.size (fun k_=>some k_≠(s_.1:Value).ownBlock∧some k_≠(s_.2.2.1:Value).ownBlock∧some k_≠(s_.2.2.2.2.1:Value).ownBlock∧some k_≠(.slice Ao53 t679.length co53:Value).ownBlock∧some k_≠(.slice Ao64 t729.length co64:Value).ownBlock∧some k_≠(.slice Ao74 t732.length co74:Value).ownBlock) (.slice Ao84 t703.length co84) t736)∧(Kd.R k91 91 w' w.heap.size (fun k_=>some k_≠(s_.2.1:Value).ownBlock∧some k_≠(s_.2.2.2.1:Value).ownBlock∧some k_≠(s_.2.2.2.2.2.1:Value).ownBlock∧some k_≠(.slice Ao55 t682.length co55:Value).ownBlock∧some k_≠(.slice Ao69 t730.length co69:Value).ownBlock∧some k_≠(.slice Ao80 t733.length co80:Value).ownBlock) (.slice Ao91 t706.length co91) t737)∧(w'.heap[gb663]? = some (.cells #[.slice A0_0 l0_0.length c0_0,.slice A0_1 l0_1.length c0_1] 32 (0,0)))∧(w'.heap[gb664]? = some (.cells #[.slice A1_0 l1_0.length c1_0,.slice A1_1 l1_1.length c1_1] 32 (0,0)))∧(w'.heap[gb688]? = some (.cells #[.slice Ao53 t679.length co53,.slice Ao55 t682.length co55,.int .i64 t685,.int .i64 t686,.int .i64 t687] 58 (0,0)))∧(w'.heap[gb695]? = some (.cells #[.slice Ao64 t729.length co64,.slice Ao69 t730.length co69] 40 (0,0)))∧(w'.heap[gb702]? = some (.cells #[.slice Ao74 t732.length co74,.slice Ao80 t733.length co80] 40 (0,0)))∧(w'.heap[gb712]? = some (.cells #[.slice Ao84 t703.length co84,.slice Ao91 t706.length co91,.int .i64 t709,.int .i64 t710,.int .i64 t711] 58 (0,0)))∧(w'.heap[s_.2.2.2.2.2.2]? = some (.cells #[.slice none 0 0,.slice none 0 0,.int .i64 0,.int .i64 0,.int .i64 0] 58 (0,0)))∧(w.heap.size≤s_.2.2.2.2.2.2)∧(w.heap.size≤s_.2.2.2.2.2.2)∧(gb663≠s_.2.2.2.2.2.2)∧(s_.2.2.2.2.2.2≠gb663)∧(gb664≠s_.2.2.2.2.2.2)∧(s_.2.2.2.2.2.2≠gb664)∧(gb688≠s_.2.2.2.2.2.2)∧(s_.2.2.2.2.2.2≠gb688)∧(gb695≠s_.2.2.2.2.2.2)∧(s_.2.2.2.2.2.2≠gb695)∧(gb702≠s_.2.2.2.2.2.2)∧(s_.2.2.2.2.2.2≠gb702)∧(gb712≠s_.2.2.2.2.2.2)∧(s_.2.2.2.2.2.2≠gb712)∧(Below w.heap.size w w')) ?_ ?_
              rotate_left
              ·intro hCont
               refine two_ (i:=1) (j:=5) (Ni:=some 76) (Nj:=some 13) #[I,I,I,O,O,O,O] #[I,O,I,O,O,I,O] rfl rfl rfl rfl (by kernel_rfl) (by decide) (by decide) (fun K hK=>?_) (fun K hK=>?_)
               ·skip
                refine gs_ Try.func15 #[.agg #[.slice A0_0 l0_0.length c0_0,.slice A0_1 l0_1.length c0_1]] ?_
                with_reducible refine (laws_toSet.calls kj34 _ _ l0_0 _ _ l0_1 t739 t742 _ ?s1 ?s2 ?s3 ?s4 A127.out).mono ?_
                (case s1=>repeat (first | exact (Kd.C_below HR0_0.out HB.out) | (with_reducible refine Kd.C_alloc ?_ _) | (with_reducible refine Kd.C_drewN ?_ _) | (with_reducible refine Kd.C_drew ?_)))
                (case s2=>exact HC0_0.out)
                (case s3=>repeat (first | exact (Kd.C_below HR0_1.out HB.out) | (with_reducible refine Kd.C_alloc ?_ _) | (with_reducible refine Kd.C_drewN ?_ _) | (with_reducible refine Kd.C_drew ?_)))
                (case s4=>exact HC0_1.out)
                rintro e w145 ⟨v740,v743,rfl,ho0,ho1,hb⟩
                refine ⟨_,rfl,?_⟩
                refine as17_ (Kd.R_elder' (z0_ HO_689000.out) (Kd.R_base ho0) hb) (Kd.R_elder' (z0_ HO_689001.out) (Kd.R_base ho1) hb) (Kd.R_elder' (z0_ HO_696000.out) (Kd.R_base ho0) hb) (Kd.R_elder' (z0_ HO_696001.out) (Kd.R_base ho1) hb) (Kd.R_elder' (z0_ HO_703000.out) (Kd.R_base ho0) hb) (Kd.R_elder' (z0_ HO_703001.out) (Kd.R_base ho1) hb) (Kd.R_elder' (z0_ HO_713000.out) (Kd.R_base ho0) hb) (Kd.R_elder' (z0_ HO_713001.out) (Kd.R_base ho1) hb) (Kd.R_lower (Kd.R_new' (Kd.R_new' (Kd.R_new' (Kd.R_new' ho0 (Kd.R_lt (z0_ HO_689000.out))) (Kd.R_lt (z0_ HO_696000.out))) (Kd.R_lt (z0_ HO_703000.out))) (Kd.R_lt (z0_ HO_713000.out))) (below_size (z19_ HB.out GE663.out GE664.out GE688.out GE695.out GE702.out GE712.out))) (Kd.R_lower (Kd.R_new' (Kd.R_new' (Kd.R_new' (Kd.R_new' ho1 (Kd.R_lt (z0_ HO_689001.out))) (Kd.R_lt (z0_ HO_696001.out))) (Kd.R_lt (z0_ HO_703001.out))) (Kd.R_lt (z0_ HO_713001.out))) (below_size (z19_ HB.out GE663.out GE664.out GE688.out GE695.out GE702.out GE712.out))) (blkB_ BK663.out hb) (blkB_ BK664.out hb) (blkB_ BK688.out hb) (blkB_ BK695.out hb) (blkB_ BK702.out hb) (blkB_ BK712.out hb) (below_step (z19_ HB.out GE663.out GE664.out GE688.out GE695.out GE702.out GE712.out) hb) ?_
                clear HO_689000 HO_689001 HO_696000 HO_696001 HO_703000 HO_703001 HO_713000 HO_713001 BK663 BK664 BK688 BK695 BK702 BK712 HB
                intro HO_689000 HO_689001 HO_696000 HO_696001 HO_703000 HO_703001 HO_713000 HO_713001 HO741 HO744 BK663 BK664 BK688 BK695 BK702 BK712 HB
                (try clear hb)
                (try clear hb2)
                (try clear hk)
                (try clear hi)
                (try clear ho0)
                (try clear ho1)
                refine hK.out _ _ (cj2_ BK663.out (cc2_ BK664.out)) (fun hHeld=>?_)
                clear hK K
                refine nm_ 76 ?_
                refine two_ (i:=3) (j:=5) (Ni:=some 78) (Nj:=some 13) #[I,I,I,I,O,O,O] #[I,I,I,O,O,I,O] rfl rfl rfl rfl (by kernel_rfl) (by decide) (by decide) (fun K hK=>?_) (fun K hK=>?_)
                ·skip
                 refine gs_ Try.func15 #[.agg #[.slice A1_0 l1_0.length c1_0,.slice A1_1 l1_1.length c1_1]] ?_
                 with_reducible refine (laws_toSet.calls kj34 _ _ l1_0 _ _ l1_1 t745 t748 _ ?s1 ?s2 ?s3 ?s4 A128.out).mono ?_
                 (case s1=>repeat (first | exact (Kd.C_below HR1_0.out HB.out) | (with_reducible refine Kd.C_alloc ?_ _) | (with_reducible refine Kd.C_drewN ?_ _) | (with_reducible refine Kd.C_drew ?_)))
                 (case s2=>exact HC1_0.out)
                 (case s3=>repeat (first | exact (Kd.C_below HR1_1.out HB.out) | (with_reducible refine Kd.C_alloc ?_ _) | (with_reducible refine Kd.C_drewN ?_ _) | (with_reducible refine Kd.C_drew ?_)))
                 (case s4=>exact HC1_1.out)
                 rintro e w146 ⟨v746,v749,rfl,ho0,ho1,hb⟩
                 refine ⟨_,rfl,?_⟩
                 refine as19_ (Kd.R_elder' (z0_ HO_689000.out) (Kd.R_base ho0) hb) (Kd.R_elder' (z0_ HO_689001.out) (Kd.R_base ho1) hb) (Kd.R_elder' (z0_ HO_696000.out) (Kd.R_base ho0) hb) (Kd.R_elder' (z0_ HO_696001.out) (Kd.R_base ho1) hb) (Kd.R_elder' (z0_ HO_703000.out) (Kd.R_base ho0) hb) (Kd.R_elder' (z0_ HO_703001.out) (Kd.R_base ho1) hb) (Kd.R_elder' (z0_ HO_713000.out) (Kd.R_base ho0) hb) (Kd.R_elder' (z0_ HO_713001.out) (Kd.R_base ho1) hb) (Kd.R_elder' (z0_ HO741.out) (Kd.R_base ho0) hb) (Kd.R_elder' (z0_ HO744.out) (Kd.R_base ho1) hb) (Kd.R_lower (Kd.R_new' (Kd.R_new' (Kd.R_new' (Kd.R_new' (Kd.R_new' ho0 (Kd.R_lt (z0_ HO_689000.out))) (Kd.R_lt (z0_ HO_696000.out))) (Kd.R_lt (z0_ HO_703000.out))) (Kd.R_lt (z0_ HO_713000.out))) (Kd.R_lt (z0_ HO741.out))) (below_size (z19_ HB.out GE663.out GE664.out GE688.out GE695.out GE702.out GE712.out))) (Kd.R_lower (Kd.R_new' (Kd.R_new' (Kd.R_new' (Kd.R_new' (Kd.R_new' ho1 (Kd.R_lt (z0_ HO_689001.out))) (Kd.R_lt (z0_ HO_696001.out))) (Kd.R_lt (z0_ HO_703001.out))) (Kd.R_lt (z0_ HO_713001.out))) (Kd.R_lt (z0_ HO744.out))) (below_size (z19_ HB.out GE663.out GE664.out GE688.out GE695.out GE702.out GE712.out))) (blkB_ BK663.out hb) (blkB_ BK664.out hb) (blkB_ BK688.out hb) (blkB_ BK695.out hb) (blkB_ BK702.out hb) (blkB_ BK712.out hb) (below_step (z19_ HB.out GE663.out GE664.out GE688.out GE695.out GE702.out GE712.out) hb) ?_
                 clear HO_689000 HO_689001 HO_696000 HO_696001 HO_703000 HO_703001 HO_713000 HO_713001 HO741 HO744 BK663 BK664 BK688 BK695 BK702 BK712 HB
                 intro HO_689000 HO_689001 HO_696000 HO_696001 HO_703000 HO_703001 HO_713000 HO_713001 HO741 HO744 HO747 HO750 BK663 BK664 BK688 BK695 BK702 BK712 HB
                 (try clear hb)
                 (try clear hb2)
                 (try clear hk)
                 (try clear hi)
                 (try clear ho0)
                 (try clear ho1)
                 obtain ⟨Ao147,co147,eo147⟩:=Kd.R_slice HO741.out
                 (first | subst eo147 | (injection eo147 with f1_ f2_ f3_;have f4_:=f1_.symm;have f5_:=f3_.symm;clear f1_ f2_ f3_;subst f4_;subst f5_))
                 obtain ⟨Ao148,co148,eo148⟩:=Kd.R_slice HO744.out
                 (first | subst eo148 | (injection eo148 with f1_ f2_ f3_;have f4_:=f1_.symm;have f5_:=f3_.symm;clear f1_ f2_ f3_;subst f4_;subst f5_))
                 obtain ⟨Ao149,co149,eo149⟩:=Kd.R_slice HO747.out
                 (first | subst eo149 | (injection eo149 with f1_ f2_ f3_;have f4_:=f1_.symm;have f5_:=f3_.symm;clear f1_ f2_ f3_;subst f4_;subst f5_))
                 obtain ⟨Ao150,co150,eo150⟩:=Kd.R_slice HO750.out
                 (first | subst eo150 | (injection eo150 with f1_ f2_ f3_;have f4_:=f1_.symm;have f5_:=f3_.symm;clear f1_ f2_ f3_;subst f4_;subst f5_))
                 refine hK.out _ _ (cj2_ BK663.out (cc2_ BK664.out)) (fun hHeld=>?_)
                 clear hK K
                 refine nm_ 78 ?_
                 refine two_ (i:=4) (j:=5) (Ni:=some 79) (Nj:=some 13) #[I,I,I,I,I,O,O] #[I,I,I,I,O,I,O] rfl rfl rfl rfl (by kernel_rfl) (by decide) (by decide) (fun K hK=>?_) (fun K hK=>?_)
                 ·skip
                  refine gs_ Try.func25 #[.agg #[.slice Ao147 t739.length co147,.slice Ao148 t742.length co148],.agg #[.slice Ao149 t745.length co149,.slice Ao150 t748.length co150]] ?_
                  with_reducible refine (impl_SetSync.calls kj34 _ _ t739 _ _ t742 _ _ t745 _ _ t748 t751 t754 t757 t758 t759 _ ?s1 ?s2 ?s3 ?s4 ?s5 ?s6 ?s7 ?s8 A129.out).mono ?_
                  (case s1=>repeat (first | exact (Kd.R_reads' HO741.out).2.2 | (with_reducible refine Kd.C_alloc ?_ _) | (with_reducible refine Kd.C_drewN ?_ _) | (with_reducible refine Kd.C_drew ?_)))
                  (case s2=>exact (Kd.R_reads' HO741.out).2.1)
                  (case s3=>repeat (first | exact (Kd.R_reads' HO744.out).2.2 | (with_reducible refine Kd.C_alloc ?_ _) | (with_reducible refine Kd.C_drewN ?_ _) | (with_reducible refine Kd.C_drew ?_)))
                  (case s4=>exact (Kd.R_reads' HO744.out).2.1)
                  (case s5=>repeat (first | exact (Kd.R_reads' HO747.out).2.2 | (with_reducible refine Kd.C_alloc ?_ _) | (with_reducible refine Kd.C_drewN ?_ _) | (with_reducible refine Kd.C_drew ?_)))
                  (case s6=>exact (Kd.R_reads' HO747.out).2.1)
                  (case s7=>repeat (first | exact (Kd.R_reads' HO750.out).2.2 | (with_reducible refine Kd.C_alloc ?_ _) | (with_reducible refine Kd.C_drewN ?_ _) | (with_reducible refine Kd.C_drew ?_)))
                  (case s8=>exact (Kd.R_reads' HO750.out).2.1)
                  rintro e w151 ⟨v752,v755,rfl,ho0,ho1,hb⟩
                  refine ⟨_,rfl,?_⟩
                  refine as21_ (Kd.R_elder' (z0_ HO_689000.out) (Kd.R_base ho0) hb) (Kd.R_elder' (z0_ HO_689001.out) (Kd.R_base ho1) hb) (Kd.R_elder' (z0_ HO_696000.out) (Kd.R_base ho0) hb) (Kd.R_elder' (z0_ HO_696001.out) (Kd.R_base ho1) hb) (Kd.R_elder' (z0_ HO_703000.out) (Kd.R_base ho0) hb) (Kd.R_elder' (z0_ HO_703001.out) (Kd.R_base ho1) hb) (Kd.R_elder' (z0_ HO_713000.out) (Kd.R_base ho0) hb) (Kd.R_elder' (z0_ HO_713001.out) (Kd.R_base ho1) hb) (Kd.R_elder' (z0_ HO741.out) (Kd.R_base ho0) hb) (Kd.R_elder' (z0_ HO744.out) (Kd.R_base ho1) hb) (Kd.R_elder' (z0_ HO747.out) (Kd.R_base ho0) hb) (Kd.R_elder' (z0_ HO750.out) (Kd.R_base ho1) hb) (Kd.R_lower (Kd.R_new' (Kd.R_new' (Kd.R_new' (Kd.R_new' (Kd.R_new' (Kd.R_new' ho0 (Kd.R_lt (z0_ HO_689000.out))) (Kd.R_lt (z0_ HO_696000.out))) (Kd.R_lt (z0_ HO_703000.out))) (Kd.R_lt (z0_ HO_713000.out))) (Kd.R_lt (z0_ HO741.out))) (Kd.R_lt (z0_ HO747.out))) (below_size (z19_ HB.out GE663.out GE664.out GE688.out GE695.out GE702.out GE712.out))) (Kd.R_lower (Kd.R_new' (Kd.R_new' (Kd.R_new' (Kd.R_new' (Kd.R_new' (Kd.R_new' ho1 (Kd.R_lt (z0_ HO_689001.out))) (Kd.R_lt (z0_ HO_696001.out))) (Kd.R_lt (z0_ HO_703001.out))) (Kd.R_lt (z0_ HO_713001.out))) (Kd.R_lt (z0_ HO744.out))) (Kd.R_lt (z0_ HO750.out))) (below_size (z19_ HB.out GE663.out GE664.out GE688.out GE695.out GE702.out GE712.out))) (blkB_ BK663.out hb) (blkB_ BK664.out hb) (blkB_ BK688.out hb) (blkB_ BK695.out hb) (blkB_ BK702.out hb) (blkB_ BK712.out hb) (below_step (z19_ HB.out GE663.out GE664.out GE688.out GE695.out GE702.out GE712.out) hb) ?_
                  clear HO_689000 HO_689001 HO_696000 HO_696001 HO_703000 HO_703001 HO_713000 HO_713001 HO741 HO744 HO747 HO750 BK663 BK664 BK688 BK695 BK702 BK712 HB
                  intro HO_689000 HO_689001 HO_696000 HO_696001 HO_703000 HO_703001 HO_713000 HO_713001 HO741 HO744 HO747 HO750 HO753 HO756 BK663 BK664 BK688 BK695 BK702 BK712 HB
                  (try clear hb)
                  (try clear hb2)
                  (try clear hk)
                  (try clear hi)
                  (try clear ho0)
                  (try clear ho1)
                  refine hK.out _ _ (cj2_ BK663.out (cc2_ BK664.out)) (fun hHeld=>?_)
                  clear hK K
                  refine nm_ 79 ?_
                  refine one_ (i:=5) (N:=some 13) #[I,I,I,I,I,I,O] rfl rfl (by kernel_rfl) (by decide) (fun K hK=>?_)
                  refine bs_ 13 #[.slice none 0 0,.slice none 0 0,.int .i64 0,.int .i64 0,.int .i64 0] 58 ?_
                  intro gb760 hg w152 hbox hb
                  refine as36_ (Kd.R_below (z0_ HO_689000.out) hb) (Kd.R_below (z0_ HO_689001.out) hb) (Kd.R_below (z0_ HO_696000.out) hb) (Kd.R_below (z0_ HO_696001.out) hb) (Kd.R_below (z0_ HO_703000.out) hb) (Kd.R_below (z0_ HO_703001.out) hb) (Kd.R_below (z0_ HO_713000.out) hb) (Kd.R_below (z0_ HO_713001.out) hb) (Kd.R_below (z0_ HO741.out) hb) (Kd.R_below (z0_ HO744.out) hb) (Kd.R_below (z0_ HO747.out) hb) (Kd.R_below (z0_ HO750.out) hb) (Kd.R_below (z0_ HO753.out) hb) (Kd.R_below (z0_ HO756.out) hb) (blkB_ BK663.out hb) (blkB_ BK664.out hb) (blkB_ BK688.out hb) (blkB_ BK695.out hb) (blkB_ BK702.out hb) (blkB_ BK712.out hb) (below_step (z19_ HB.out GE663.out GE664.out GE688.out GE695.out GE702.out GE712.out) hb) (hbox) ((z37_ HB.out GE663.out GE664.out GE688.out GE695.out GE702.out GE712.out:w.heap.size≤gb760)) ((z37_ HB.out GE663.out GE664.out GE688.out GE695.out GE702.out GE712.out:w.heap.size≤gb760)) (neL_ BK663.out hg) (neG_ BK663.out hg) (neL_ BK664.out hg) (neG_ BK664.out hg) (neL_ BK688.out hg) (neG_ BK688.out hg) (neL_ BK695.out hg) (neG_ BK695.out hg) (neL_ BK702.out hg) (neG_ BK702.out hg) (neL_ BK712.out hg) (neG_ BK712.out hg) ?_
                  clear HO_689000 HO_689001 HO_696000 HO_696001 HO_703000 HO_703001 HO_713000 HO_713001 HO741 HO744 HO747 HO750 HO753 HO756 BK663 BK664 BK688 BK695 BK702 BK712 HB
                  intro HO_689000 HO_689001 HO_696000 HO_696001 HO_703000 HO_703001 HO_713000 HO_713001 HO741 HO744 HO747 HO750 HO753 HO756 BK663 BK664 BK688 BK695 BK702 BK712 HB BK760 GW760 GE760 NB663_760 NB760_663 NB664_760 NB760_664 NB688_760 NB760_688 NB695_760 NB760_695 NB702_760 NB760_702 NB712_760 NB760_712
                  clear hb hbox hg
                  refine hK.out _ _ (cj2_ BK663.out (cc2_ BK664.out)) (fun hHeld=>?_)
                  clear hK K
                  refine nm_ 13 ?_
                  exact norm_ (z36_) (hCont (.slice Ao147 t739.length co147,.slice Ao148 t742.length co148,.slice Ao149 t745.length co149,.slice Ao150 t748.length co150,v752,v755,gb760) _ ⟨hHeld,(z22_ HO741.out),(z22_ HO744.out),(z22_ HO747.out),(z22_ HO750.out),(z22_ HO753.out),(z22_ HO756.out),(z15_ HO_689000.out),(z15_ HO_689001.out),(z15_ HO_696000.out),(z15_ HO_696001.out),(z15_ HO_703000.out),(z15_ HO_703001.out),(z15_ HO_713000.out),(z15_ HO_713001.out),(z1_ BK663.out),(z1_ BK664.out),(z1_ BK688.out),(z1_ BK695.out),(z1_ BK702.out),(z1_ BK712.out),(z1_ BK760.out),GW760.out,GE760.out,NB663_760.out,NB760_663.out,NB664_760.out,NB760_664.out,NB688_760.out,NB760_688.out,NB695_760.out,NB760_695.out,NB702_760.out,NB760_702.out,NB712_760.out,NB760_712.out,(z20_ HB.out GE663.out GE664.out GE688.out GE695.out GE702.out GE712.out GE760.out)⟩)
                 ·skip
                  refine bs_ 13 #[.slice none 0 0,.slice none 0 0,.int .i64 0,.int .i64 0,.int .i64 0] 58 ?_
                  intro gb760 hg w147 hbox hb
                  refine as34_ (Kd.R_below (z0_ HO_689000.out) hb) (Kd.R_below (z0_ HO_689001.out) hb) (Kd.R_below (z0_ HO_696000.out) hb) (Kd.R_below (z0_ HO_696001.out) hb) (Kd.R_below (z0_ HO_703000.out) hb) (Kd.R_below (z0_ HO_703001.out) hb) (Kd.R_below (z0_ HO_713000.out) hb) (Kd.R_below (z0_ HO_713001.out) hb) (Kd.R_below (z0_ HO741.out) hb) (Kd.R_below (z0_ HO744.out) hb) (Kd.R_below (z0_ HO747.out) hb) (Kd.R_below (z0_ HO750.out) hb) (blkB_ BK663.out hb) (blkB_ BK664.out hb) (blkB_ BK688.out hb) (blkB_ BK695.out hb) (blkB_ BK702.out hb) (blkB_ BK712.out hb) (below_step (z19_ HB.out GE663.out GE664.out GE688.out GE695.out GE702.out GE712.out) hb) (hbox) ((z37_ HB.out GE663.out GE664.out GE688.out GE695.out GE702.out GE712.out:w.heap.size≤gb760)) ((z37_ HB.out GE663.out GE664.out GE688.out GE695.out GE702.out GE712.out:w.heap.size≤gb760)) (neL_ BK663.out hg) (neG_ BK663.out hg) (neL_ BK664.out hg) (neG_ BK664.out hg) (neL_ BK688.out hg) (neG_ BK688.out hg) (neL_ BK695.out hg) (neG_ BK695.out hg) (neL_ BK702.out hg) (neG_ BK702.out hg) (neL_ BK712.out hg) (neG_ BK712.out hg) ?_
                  clear HO_689000 HO_689001 HO_696000 HO_696001 HO_703000 HO_703001 HO_713000 HO_713001 HO741 HO744 HO747 HO750 BK663 BK664 BK688 BK695 BK702 BK712 HB
                  intro HO_689000 HO_689001 HO_696000 HO_696001 HO_703000 HO_703001 HO_713000 HO_713001 HO741 HO744 HO747 HO750 BK663 BK664 BK688 BK695 BK702 BK712 HB BK760 GW760 GE760 NB663_760 NB760_663 NB664_760 NB760_664 NB688_760 NB760_688 NB695_760 NB760_695 NB702_760 NB760_702 NB712_760 NB760_712
                  clear hb hbox hg
                  obtain ⟨Ao148,co148,eo148⟩:=Kd.R_slice HO741.out
                  (first | subst eo148 | (injection eo148 with f1_ f2_ f3_;have f4_:=f1_.symm;have f5_:=f3_.symm;clear f1_ f2_ f3_;subst f4_;subst f5_))
                  obtain ⟨Ao149,co149,eo149⟩:=Kd.R_slice HO744.out
                  (first | subst eo149 | (injection eo149 with f1_ f2_ f3_;have f4_:=f1_.symm;have f5_:=f3_.symm;clear f1_ f2_ f3_;subst f4_;subst f5_))
                  obtain ⟨Ao150,co150,eo150⟩:=Kd.R_slice HO747.out
                  (first | subst eo150 | (injection eo150 with f1_ f2_ f3_;have f4_:=f1_.symm;have f5_:=f3_.symm;clear f1_ f2_ f3_;subst f4_;subst f5_))
                  obtain ⟨Ao151,co151,eo151⟩:=Kd.R_slice HO750.out
                  (first | subst eo151 | (injection eo151 with f1_ f2_ f3_;have f4_:=f1_.symm;have f5_:=f3_.symm;clear f1_ f2_ f3_;subst f4_;subst f5_))
                  refine hK.out _ _ (cj2_ BK663.out (cc2_ BK664.out)) (fun hHeld=>?_)
                  clear hK K
                  refine nm_ 13 ?_
                  refine one_ (i:=4) (N:=some 79) #[I,I,I,I,I,I,O] rfl rfl (by kernel_rfl) (by decide) (fun K hK=>?_)
                  refine gs_ Try.func25 #[.agg #[.slice Ao148 t739.length co148,.slice Ao149 t742.length co149],.agg #[.slice Ao150 t745.length co150,.slice Ao151 t748.length co151]] ?_
                  with_reducible refine (impl_SetSync.calls kj34 _ _ t739 _ _ t742 _ _ t745 _ _ t748 t751 t754 t757 t758 t759 _ ?s1 ?s2 ?s3 ?s4 ?s5 ?s6 ?s7 ?s8 A129.out).mono ?_
                  (case s1=>repeat (first | exact (Kd.R_reads' HO741.out).2.2 | (with_reducible refine Kd.C_alloc ?_ _) | (with_reducible refine Kd.C_drewN ?_ _) | (with_reducible refine Kd.C_drew ?_)))
                  (case s2=>exact (Kd.R_reads' HO741.out).2.1)
                  (case s3=>repeat (first | exact (Kd.R_reads' HO744.out).2.2 | (with_reducible refine Kd.C_alloc ?_ _) | (with_reducible refine Kd.C_drewN ?_ _) | (with_reducible refine Kd.C_drew ?_)))
                  (case s4=>exact (Kd.R_reads' HO744.out).2.1)
                  (case s5=>repeat (first | exact (Kd.R_reads' HO747.out).2.2 | (with_reducible refine Kd.C_alloc ?_ _) | (with_reducible refine Kd.C_drewN ?_ _) | (with_reducible refine Kd.C_drew ?_)))
                  (case s6=>exact (Kd.R_reads' HO747.out).2.1)
                  (case s7=>repeat (first | exact (Kd.R_reads' HO750.out).2.2 | (with_reducible refine Kd.C_alloc ?_ _) | (with_reducible refine Kd.C_drewN ?_ _) | (with_reducible refine Kd.C_drew ?_)))
                  (case s8=>exact (Kd.R_reads' HO750.out).2.1)
                  rintro e w152 ⟨v752,v755,rfl,ho0,ho1,hb⟩
                  refine ⟨_,rfl,?_⟩
                  refine as22_ (Kd.R_elder' (z0_ HO_689000.out) (Kd.R_base ho0) hb) (Kd.R_elder' (z0_ HO_689001.out) (Kd.R_base ho1) hb) (Kd.R_elder' (z0_ HO_696000.out) (Kd.R_base ho0) hb) (Kd.R_elder' (z0_ HO_696001.out) (Kd.R_base ho1) hb) (Kd.R_elder' (z0_ HO_703000.out) (Kd.R_base ho0) hb) (Kd.R_elder' (z0_ HO_703001.out) (Kd.R_base ho1) hb) (Kd.R_elder' (z0_ HO_713000.out) (Kd.R_base ho0) hb) (Kd.R_elder' (z0_ HO_713001.out) (Kd.R_base ho1) hb) (Kd.R_elder' (z0_ HO741.out) (Kd.R_base ho0) hb) (Kd.R_elder' (z0_ HO744.out) (Kd.R_base ho1) hb) (Kd.R_elder' (z0_ HO747.out) (Kd.R_base ho0) hb) (Kd.R_elder' (z0_ HO750.out) (Kd.R_base ho1) hb) (Kd.R_lower (Kd.R_new' (Kd.R_new' (Kd.R_new' (Kd.R_new' (Kd.R_new' (Kd.R_new' ho0 (Kd.R_lt (z0_ HO_689000.out))) (Kd.R_lt (z0_ HO_696000.out))) (Kd.R_lt (z0_ HO_703000.out))) (Kd.R_lt (z0_ HO_713000.out))) (Kd.R_lt (z0_ HO741.out))) (Kd.R_lt (z0_ HO747.out))) (below_size (z20_ HB.out GE663.out GE664.out GE688.out GE695.out GE702.out GE712.out GE760.out))) (Kd.R_lower (Kd.R_new' (Kd.R_new' (Kd.R_new' (Kd.R_new' (Kd.R_new' (Kd.R_new' ho1 (Kd.R_lt (z0_ HO_689001.out))) (Kd.R_lt (z0_ HO_696001.out))) (Kd.R_lt (z0_ HO_703001.out))) (Kd.R_lt (z0_ HO_713001.out))) (Kd.R_lt (z0_ HO744.out))) (Kd.R_lt (z0_ HO750.out))) (below_size (z20_ HB.out GE663.out GE664.out GE688.out GE695.out GE702.out GE712.out GE760.out))) (blkB_ BK663.out hb) (blkB_ BK664.out hb) (blkB_ BK688.out hb) (blkB_ BK695.out hb) (blkB_ BK702.out hb) (blkB_ BK712.out hb) (blkB_ BK760.out hb) (below_step (z20_ HB.out GE663.out GE664.out GE688.out GE695.out GE702.out GE712.out GE760.out) hb) ?_
                  clear HO_689000 HO_689001 HO_696000 HO_696001 HO_703000 HO_703001 HO_713000 HO_713001 HO741 HO744 HO747 HO750 BK663 BK664 BK688 BK695 BK702 BK712 BK760 HB
                  intro HO_689000 HO_689001 HO_696000 HO_696001 HO_703000 HO_703001 HO_713000 HO_713001 HO741 HO744 HO747 HO750 HO753 HO756 BK663 BK664 BK688 BK695 BK702 BK712 BK760 HB
                  (try clear hb)
                  (try clear hb2)
                  (try clear hk)
                  (try clear hi)
                  (try clear ho0)
                  (try clear ho1)
                  refine hK.out _ _ (cj2_ BK663.out (cc2_ BK664.out)) (fun hHeld=>?_)
                  clear hK K
                  refine nm_ 79 ?_
                  exact norm_ (z36_) (hCont (.slice Ao148 t739.length co148,.slice Ao149 t742.length co149,.slice Ao150 t745.length co150,.slice Ao151 t748.length co151,v752,v755,gb760) _ ⟨hHeld,(z22_ HO741.out),(z22_ HO744.out),(z22_ HO747.out),(z22_ HO750.out),(z22_ HO753.out),(z22_ HO756.out),(z15_ HO_689000.out),(z15_ HO_689001.out),(z15_ HO_696000.out),(z15_ HO_696001.out),(z15_ HO_703000.out),(z15_ HO_703001.out),(z15_ HO_713000.out),(z15_ HO_713001.out),(z1_ BK663.out),(z1_ BK664.out),(z1_ BK688.out),(z1_ BK695.out),(z1_ BK702.out),(z1_ BK712.out),(z1_ BK760.out),GW760.out,GE760.out,NB663_760.out,NB760_663.out,NB664_760.out,NB760_664.out,NB688_760.out,NB760_688.out,NB695_760.out,NB760_695.out,NB702_760.out,NB760_702.out,NB712_760.out,NB760_712.out,(z20_ HB.out GE663.out GE664.out GE688.out GE695.out GE702.out GE712.out GE760.out)⟩)
                ·skip
                 refine bs_ 13 #[.slice none 0 0,.slice none 0 0,.int .i64 0,.int .i64 0,.int .i64 0] 58 ?_
                 intro gb760 hg w146 hbox hb
                 refine as32_ (Kd.R_below (z0_ HO_689000.out) hb) (Kd.R_below (z0_ HO_689001.out) hb) (Kd.R_below (z0_ HO_696000.out) hb) (Kd.R_below (z0_ HO_696001.out) hb) (Kd.R_below (z0_ HO_703000.out) hb) (Kd.R_below (z0_ HO_703001.out) hb) (Kd.R_below (z0_ HO_713000.out) hb) (Kd.R_below (z0_ HO_713001.out) hb) (Kd.R_below (z0_ HO741.out) hb) (Kd.R_below (z0_ HO744.out) hb) (blkB_ BK663.out hb) (blkB_ BK664.out hb) (blkB_ BK688.out hb) (blkB_ BK695.out hb) (blkB_ BK702.out hb) (blkB_ BK712.out hb) (below_step (z19_ HB.out GE663.out GE664.out GE688.out GE695.out GE702.out GE712.out) hb) (hbox) ((z37_ HB.out GE663.out GE664.out GE688.out GE695.out GE702.out GE712.out:w.heap.size≤gb760)) ((z37_ HB.out GE663.out GE664.out GE688.out GE695.out GE702.out GE712.out:w.heap.size≤gb760)) (neL_ BK663.out hg) (neG_ BK663.out hg) (neL_ BK664.out hg) (neG_ BK664.out hg) (neL_ BK688.out hg) (neG_ BK688.out hg) (neL_ BK695.out hg) (neG_ BK695.out hg) (neL_ BK702.out hg) (neG_ BK702.out hg) (neL_ BK712.out hg) (neG_ BK712.out hg) ?_
                 clear HO_689000 HO_689001 HO_696000 HO_696001 HO_703000 HO_703001 HO_713000 HO_713001 HO741 HO744 BK663 BK664 BK688 BK695 BK702 BK712 HB
                 intro HO_689000 HO_689001 HO_696000 HO_696001 HO_703000 HO_703001 HO_713000 HO_713001 HO741 HO744 BK663 BK664 BK688 BK695 BK702 BK712 HB BK760 GW760 GE760 NB663_760 NB760_663 NB664_760 NB760_664 NB688_760 NB760_688 NB695_760 NB760_695 NB702_760 NB760_702 NB712_760 NB760_712
                 clear hb hbox hg
                 refine hK.out _ _ (cj2_ BK663.out (cc2_ BK664.out)) (fun hHeld=>?_)
                 clear hK K
                 refine nm_ 13 ?_
                 refine one_ (i:=3) (N:=some 78) #[I,I,I,I,O,I,O] rfl rfl (by kernel_rfl) (by decide) (fun K hK=>?_)
                 refine gs_ Try.func15 #[.agg #[.slice A1_0 l1_0.length c1_0,.slice A1_1 l1_1.length c1_1]] ?_
                 with_reducible refine (laws_toSet.calls kj34 _ _ l1_0 _ _ l1_1 t745 t748 _ ?s1 ?s2 ?s3 ?s4 A128.out).mono ?_
                 (case s1=>repeat (first | exact (Kd.C_below HR1_0.out HB.out) | (with_reducible refine Kd.C_alloc ?_ _) | (with_reducible refine Kd.C_drewN ?_ _) | (with_reducible refine Kd.C_drew ?_)))
                 (case s2=>exact HC1_0.out)
                 (case s3=>repeat (first | exact (Kd.C_below HR1_1.out HB.out) | (with_reducible refine Kd.C_alloc ?_ _) | (with_reducible refine Kd.C_drewN ?_ _) | (with_reducible refine Kd.C_drew ?_)))
                 (case s4=>exact HC1_1.out)
                 rintro e w147 ⟨v746,v749,rfl,ho0,ho1,hb⟩
                 refine ⟨_,rfl,?_⟩
                 refine as20_ (Kd.R_elder' (z0_ HO_689000.out) (Kd.R_base ho0) hb) (Kd.R_elder' (z0_ HO_689001.out) (Kd.R_base ho1) hb) (Kd.R_elder' (z0_ HO_696000.out) (Kd.R_base ho0) hb) (Kd.R_elder' (z0_ HO_696001.out) (Kd.R_base ho1) hb) (Kd.R_elder' (z0_ HO_703000.out) (Kd.R_base ho0) hb) (Kd.R_elder' (z0_ HO_703001.out) (Kd.R_base ho1) hb) (Kd.R_elder' (z0_ HO_713000.out) (Kd.R_base ho0) hb) (Kd.R_elder' (z0_ HO_713001.out) (Kd.R_base ho1) hb) (Kd.R_elder' (z0_ HO741.out) (Kd.R_base ho0) hb) (Kd.R_elder' (z0_ HO744.out) (Kd.R_base ho1) hb) (Kd.R_lower (Kd.R_new' (Kd.R_new' (Kd.R_new' (Kd.R_new' (Kd.R_new' ho0 (Kd.R_lt (z0_ HO_689000.out))) (Kd.R_lt (z0_ HO_696000.out))) (Kd.R_lt (z0_ HO_703000.out))) (Kd.R_lt (z0_ HO_713000.out))) (Kd.R_lt (z0_ HO741.out))) (below_size (z20_ HB.out GE663.out GE664.out GE688.out GE695.out GE702.out GE712.out GE760.out))) (Kd.R_lower (Kd.R_new' (Kd.R_new' (Kd.R_new' (Kd.R_new' (Kd.R_new' ho1 (Kd.R_lt (z0_ HO_689001.out))) (Kd.R_lt (z0_ HO_696001.out))) (Kd.R_lt (z0_ HO_703001.out))) (Kd.R_lt (z0_ HO_713001.out))) (Kd.R_lt (z0_ HO744.out))) (below_size (z20_ HB.out GE663.out GE664.out GE688.out GE695.out GE702.out GE712.out GE760.out))) (blkB_ BK663.out hb) (blkB_ BK664.out hb) (blkB_ BK688.out hb) (blkB_ BK695.out hb) (blkB_ BK702.out hb) (blkB_ BK712.out hb) (blkB_ BK760.out hb) (below_step (z20_ HB.out GE663.out GE664.out GE688.out GE695.out GE702.out GE712.out GE760.out) hb) ?_
                 clear HO_689000 HO_689001 HO_696000 HO_696001 HO_703000 HO_703001 HO_713000 HO_713001 HO741 HO744 BK663 BK664 BK688 BK695 BK702 BK712 BK760 HB
                 intro HO_689000 HO_689001 HO_696000 HO_696001 HO_703000 HO_703001 HO_713000 HO_713001 HO741 HO744 HO747 HO750 BK663 BK664 BK688 BK695 BK702 BK712 BK760 HB
                 (try clear hb)
                 (try clear hb2)
                 (try clear hk)
                 (try clear hi)
                 (try clear ho0)
                 (try clear ho1)
                 obtain ⟨Ao148,co148,eo148⟩:=Kd.R_slice HO741.out
                 (first | subst eo148 | (injection eo148 with f1_ f2_ f3_;have f4_:=f1_.symm;have f5_:=f3_.symm;clear f1_ f2_ f3_;subst f4_;subst f5_))
                 obtain ⟨Ao149,co149,eo149⟩:=Kd.R_slice HO744.out
                 (first | subst eo149 | (injection eo149 with f1_ f2_ f3_;have f4_:=f1_.symm;have f5_:=f3_.symm;clear f1_ f2_ f3_;subst f4_;subst f5_))
                 obtain ⟨Ao150,co150,eo150⟩:=Kd.R_slice HO747.out
                 (first | subst eo150 | (injection eo150 with f1_ f2_ f3_;have f4_:=f1_.symm;have f5_:=f3_.symm;clear f1_ f2_ f3_;subst f4_;subst f5_))
                 obtain ⟨Ao151,co151,eo151⟩:=Kd.R_slice HO750.out
                 (first | subst eo151 | (injection eo151 with f1_ f2_ f3_;have f4_:=f1_.symm;have f5_:=f3_.symm;clear f1_ f2_ f3_;subst f4_;subst f5_))
                 refine hK.out _ _ (cj2_ BK663.out (cc2_ BK664.out)) (fun hHeld=>?_)
                 clear hK K
                 refine nm_ 78 ?_
                 refine one_ (i:=4) (N:=some 79) #[I,I,I,I,I,I,O] rfl rfl (by kernel_rfl) (by decide) (fun K hK=>?_)
                 refine gs_ Try.func25 #[.agg #[.slice Ao148 t739.length co148,.slice Ao149 t742.length co149],.agg #[.slice Ao150 t745.length co150,.slice Ao151 t748.length co151]] ?_
                 with_reducible refine (impl_SetSync.calls kj34 _ _ t739 _ _ t742 _ _ t745 _ _ t748 t751 t754 t757 t758 t759 _ ?s1 ?s2 ?s3 ?s4 ?s5 ?s6 ?s7 ?s8 A129.out).mono ?_
                 (case s1=>repeat (first | exact (Kd.R_reads' HO741.out).2.2 | (with_reducible refine Kd.C_alloc ?_ _) | (with_reducible refine Kd.C_drewN ?_ _) | (with_reducible refine Kd.C_drew ?_)))
                 (case s2=>exact (Kd.R_reads' HO741.out).2.1)
                 (case s3=>repeat (first | exact (Kd.R_reads' HO744.out).2.2 | (with_reducible refine Kd.C_alloc ?_ _) | (with_reducible refine Kd.C_drewN ?_ _) | (with_reducible refine Kd.C_drew ?_)))
                 (case s4=>exact (Kd.R_reads' HO744.out).2.1)
                 (case s5=>repeat (first | exact (Kd.R_reads' HO747.out).2.2 | (with_reducible refine Kd.C_alloc ?_ _) | (with_reducible refine Kd.C_drewN ?_ _) | (with_reducible refine Kd.C_drew ?_)))
                 (case s6=>exact (Kd.R_reads' HO747.out).2.1)
                 (case s7=>repeat (first | exact (Kd.R_reads' HO750.out).2.2 | (with_reducible refine Kd.C_alloc ?_ _) | (with_reducible refine Kd.C_drewN ?_ _) | (with_reducible refine Kd.C_drew ?_)))
                 (case s8=>exact (Kd.R_reads' HO750.out).2.1)
                 rintro e w152 ⟨v752,v755,rfl,ho0,ho1,hb⟩
                 refine ⟨_,rfl,?_⟩
                 refine as22_ (Kd.R_elder' (z0_ HO_689000.out) (Kd.R_base ho0) hb) (Kd.R_elder' (z0_ HO_689001.out) (Kd.R_base ho1) hb) (Kd.R_elder' (z0_ HO_696000.out) (Kd.R_base ho0) hb) (Kd.R_elder' (z0_ HO_696001.out) (Kd.R_base ho1) hb) (Kd.R_elder' (z0_ HO_703000.out) (Kd.R_base ho0) hb) (Kd.R_elder' (z0_ HO_703001.out) (Kd.R_base ho1) hb) (Kd.R_elder' (z0_ HO_713000.out) (Kd.R_base ho0) hb) (Kd.R_elder' (z0_ HO_713001.out) (Kd.R_base ho1) hb) (Kd.R_elder' (z0_ HO741.out) (Kd.R_base ho0) hb) (Kd.R_elder' (z0_ HO744.out) (Kd.R_base ho1) hb) (Kd.R_elder' (z0_ HO747.out) (Kd.R_base ho0) hb) (Kd.R_elder' (z0_ HO750.out) (Kd.R_base ho1) hb) (Kd.R_lower (Kd.R_new' (Kd.R_new' (Kd.R_new' (Kd.R_new' (Kd.R_new' (Kd.R_new' ho0 (Kd.R_lt (z0_ HO_689000.out))) (Kd.R_lt (z0_ HO_696000.out))) (Kd.R_lt (z0_ HO_703000.out))) (Kd.R_lt (z0_ HO_713000.out))) (Kd.R_lt (z0_ HO741.out))) (Kd.R_lt (z0_ HO747.out))) (below_size (z20_ HB.out GE663.out GE664.out GE688.out GE695.out GE702.out GE712.out GE760.out))) (Kd.R_lower (Kd.R_new' (Kd.R_new' (Kd.R_new' (Kd.R_new' (Kd.R_new' (Kd.R_new' ho1 (Kd.R_lt (z0_ HO_689001.out))) (Kd.R_lt (z0_ HO_696001.out))) (Kd.R_lt (z0_ HO_703001.out))) (Kd.R_lt (z0_ HO_713001.out))) (Kd.R_lt (z0_ HO744.out))) (Kd.R_lt (z0_ HO750.out))) (below_size (z20_ HB.out GE663.out GE664.out GE688.out GE695.out GE702.out GE712.out GE760.out))) (blkB_ BK663.out hb) (blkB_ BK664.out hb) (blkB_ BK688.out hb) (blkB_ BK695.out hb) (blkB_ BK702.out hb) (blkB_ BK712.out hb) (blkB_ BK760.out hb) (below_step (z20_ HB.out GE663.out GE664.out GE688.out GE695.out GE702.out GE712.out GE760.out) hb) ?_
                 clear HO_689000 HO_689001 HO_696000 HO_696001 HO_703000 HO_703001 HO_713000 HO_713001 HO741 HO744 HO747 HO750 BK663 BK664 BK688 BK695 BK702 BK712 BK760 HB
                 intro HO_689000 HO_689001 HO_696000 HO_696001 HO_703000 HO_703001 HO_713000 HO_713001 HO741 HO744 HO747 HO750 HO753 HO756 BK663 BK664 BK688 BK695 BK702 BK712 BK760 HB
                 (try clear hb)
                 (try clear hb2)
                 (try clear hk)
                 (try clear hi)
                 (try clear ho0)
                 (try clear ho1)
                 refine hK.out _ _ (cj2_ BK663.out (cc2_ BK664.out)) (fun hHeld=>?_)
                 clear hK K
                 refine nm_ 79 ?_
                 exact norm_ (z36_) (hCont (.slice Ao148 t739.length co148,.slice Ao149 t742.length co149,.slice Ao150 t745.length co150,.slice Ao151 t748.length co151,v752,v755,gb760) _ ⟨hHeld,(z22_ HO741.out),(z22_ HO744.out),(z22_ HO747.out),(z22_ HO750.out),(z22_ HO753.out),(z22_ HO756.out),(z15_ HO_689000.out),(z15_ HO_689001.out),(z15_ HO_696000.out),(z15_ HO_696001.out),(z15_ HO_703000.out),(z15_ HO_703001.out),(z15_ HO_713000.out),(z15_ HO_713001.out),(z1_ BK663.out),(z1_ BK664.out),(z1_ BK688.out),(z1_ BK695.out),(z1_ BK702.out),(z1_ BK712.out),(z1_ BK760.out),GW760.out,GE760.out,NB663_760.out,NB760_663.out,NB664_760.out,NB760_664.out,NB688_760.out,NB760_688.out,NB695_760.out,NB760_695.out,NB702_760.out,NB760_702.out,NB712_760.out,NB760_712.out,(z20_ HB.out GE663.out GE664.out GE688.out GE695.out GE702.out GE712.out GE760.out)⟩)
               ·skip
                refine bs_ 13 #[.slice none 0 0,.slice none 0 0,.int .i64 0,.int .i64 0,.int .i64 0] 58 ?_
                intro gb760 hg w145 hbox hb
                refine as30_ (Kd.R_below (z0_ HO_689000.out) hb) (Kd.R_below (z0_ HO_689001.out) hb) (Kd.R_below (z0_ HO_696000.out) hb) (Kd.R_below (z0_ HO_696001.out) hb) (Kd.R_below (z0_ HO_703000.out) hb) (Kd.R_below (z0_ HO_703001.out) hb) (Kd.R_below (z0_ HO_713000.out) hb) (Kd.R_below (z0_ HO_713001.out) hb) (blkB_ BK663.out hb) (blkB_ BK664.out hb) (blkB_ BK688.out hb) (blkB_ BK695.out hb) (blkB_ BK702.out hb) (blkB_ BK712.out hb) (below_step (z19_ HB.out GE663.out GE664.out GE688.out GE695.out GE702.out GE712.out) hb) (hbox) ((z37_ HB.out GE663.out GE664.out GE688.out GE695.out GE702.out GE712.out:w.heap.size≤gb760)) ((z37_ HB.out GE663.out GE664.out GE688.out GE695.out GE702.out GE712.out:w.heap.size≤gb760)) (neL_ BK663.out hg) (neG_ BK663.out hg) (neL_ BK664.out hg) (neG_ BK664.out hg) (neL_ BK688.out hg) (neG_ BK688.out hg) (neL_ BK695.out hg) (neG_ BK695.out hg) (neL_ BK702.out hg) (neG_ BK702.out hg) (neL_ BK712.out hg) (neG_ BK712.out hg) ?_
                clear HO_689000 HO_689001 HO_696000 HO_696001 HO_703000 HO_703001 HO_713000 HO_713001 BK663 BK664 BK688 BK695 BK702 BK712 HB
                intro HO_689000 HO_689001 HO_696000 HO_696001 HO_703000 HO_703001 HO_713000 HO_713001 BK663 BK664 BK688 BK695 BK702 BK712 HB BK760 GW760 GE760 NB663_760 NB760_663 NB664_760 NB760_664 NB688_760 NB760_688 NB695_760 NB760_695 NB702_760 NB760_702 NB712_760 NB760_712
                clear hb hbox hg
                refine hK.out _ _ (cj2_ BK663.out (cc2_ BK664.out)) (fun hHeld=>?_)
                clear hK K
                refine nm_ 13 ?_
                refine one_ (i:=1) (N:=some 76) #[I,I,I,O,O,I,O] rfl rfl (by kernel_rfl) (by decide) (fun K hK=>?_)
                refine gs_ Try.func15 #[.agg #[.slice A0_0 l0_0.length c0_0,.slice A0_1 l0_1.length c0_1]] ?_
                with_reducible refine (laws_toSet.calls kj34 _ _ l0_0 _ _ l0_1 t739 t742 _ ?s1 ?s2 ?s3 ?s4 A127.out).mono ?_
                (case s1=>repeat (first | exact (Kd.C_below HR0_0.out HB.out) | (with_reducible refine Kd.C_alloc ?_ _) | (with_reducible refine Kd.C_drewN ?_ _) | (with_reducible refine Kd.C_drew ?_)))
                (case s2=>exact HC0_0.out)
                (case s3=>repeat (first | exact (Kd.C_below HR0_1.out HB.out) | (with_reducible refine Kd.C_alloc ?_ _) | (with_reducible refine Kd.C_drewN ?_ _) | (with_reducible refine Kd.C_drew ?_)))
                (case s4=>exact HC0_1.out)
                rintro e w146 ⟨v740,v743,rfl,ho0,ho1,hb⟩
                refine ⟨_,rfl,?_⟩
                refine as18_ (Kd.R_elder' (z0_ HO_689000.out) (Kd.R_base ho0) hb) (Kd.R_elder' (z0_ HO_689001.out) (Kd.R_base ho1) hb) (Kd.R_elder' (z0_ HO_696000.out) (Kd.R_base ho0) hb) (Kd.R_elder' (z0_ HO_696001.out) (Kd.R_base ho1) hb) (Kd.R_elder' (z0_ HO_703000.out) (Kd.R_base ho0) hb) (Kd.R_elder' (z0_ HO_703001.out) (Kd.R_base ho1) hb) (Kd.R_elder' (z0_ HO_713000.out) (Kd.R_base ho0) hb) (Kd.R_elder' (z0_ HO_713001.out) (Kd.R_base ho1) hb) (Kd.R_lower (Kd.R_new' (Kd.R_new' (Kd.R_new' (Kd.R_new' ho0 (Kd.R_lt (z0_ HO_689000.out))) (Kd.R_lt (z0_ HO_696000.out))) (Kd.R_lt (z0_ HO_703000.out))) (Kd.R_lt (z0_ HO_713000.out))) (below_size (z20_ HB.out GE663.out GE664.out GE688.out GE695.out GE702.out GE712.out GE760.out))) (Kd.R_lower (Kd.R_new' (Kd.R_new' (Kd.R_new' (Kd.R_new' ho1 (Kd.R_lt (z0_ HO_689001.out))) (Kd.R_lt (z0_ HO_696001.out))) (Kd.R_lt (z0_ HO_703001.out))) (Kd.R_lt (z0_ HO_713001.out))) (below_size (z20_ HB.out GE663.out GE664.out GE688.out GE695.out GE702.out GE712.out GE760.out))) (blkB_ BK663.out hb) (blkB_ BK664.out hb) (blkB_ BK688.out hb) (blkB_ BK695.out hb) (blkB_ BK702.out hb) (blkB_ BK712.out hb) (blkB_ BK760.out hb) (below_step (z20_ HB.out GE663.out GE664.out GE688.out GE695.out GE702.out GE712.out GE760.out) hb) ?_
                clear HO_689000 HO_689001 HO_696000 HO_696001 HO_703000 HO_703001 HO_713000 HO_713001 BK663 BK664 BK688 BK695 BK702 BK712 BK760 HB
                intro HO_689000 HO_689001 HO_696000 HO_696001 HO_703000 HO_703001 HO_713000 HO_713001 HO741 HO744 BK663 BK664 BK688 BK695 BK702 BK712 BK760 HB
                (try clear hb)
                (try clear hb2)
                (try clear hk)
                (try clear hi)
                (try clear ho0)
                (try clear ho1)
                refine hK.out _ _ (cj2_ BK663.out (cc2_ BK664.out)) (fun hHeld=>?_)
                clear hK K
                refine nm_ 76 ?_
                refine one_ (i:=3) (N:=some 78) #[I,I,I,I,O,I,O] rfl rfl (by kernel_rfl) (by decide) (fun K hK=>?_)
                refine gs_ Try.func15 #[.agg #[.slice A1_0 l1_0.length c1_0,.slice A1_1 l1_1.length c1_1]] ?_
                with_reducible refine (laws_toSet.calls kj34 _ _ l1_0 _ _ l1_1 t745 t748 _ ?s1 ?s2 ?s3 ?s4 A128.out).mono ?_
                (case s1=>repeat (first | exact (Kd.C_below HR1_0.out HB.out) | (with_reducible refine Kd.C_alloc ?_ _) | (with_reducible refine Kd.C_drewN ?_ _) | (with_reducible refine Kd.C_drew ?_)))
                (case s2=>exact HC1_0.out)
                (case s3=>repeat (first | exact (Kd.C_below HR1_1.out HB.out) | (with_reducible refine Kd.C_alloc ?_ _) | (with_reducible refine Kd.C_drewN ?_ _) | (with_reducible refine Kd.C_drew ?_)))
                (case s4=>exact HC1_1.out)
                rintro e w147 ⟨v746,v749,rfl,ho0,ho1,hb⟩
                refine ⟨_,rfl,?_⟩
                refine as20_ (Kd.R_elder' (z0_ HO_689000.out) (Kd.R_base ho0) hb) (Kd.R_elder' (z0_ HO_689001.out) (Kd.R_base ho1) hb) (Kd.R_elder' (z0_ HO_696000.out) (Kd.R_base ho0) hb) (Kd.R_elder' (z0_ HO_696001.out) (Kd.R_base ho1) hb) (Kd.R_elder' (z0_ HO_703000.out) (Kd.R_base ho0) hb) (Kd.R_elder' (z0_ HO_703001.out) (Kd.R_base ho1) hb) (Kd.R_elder' (z0_ HO_713000.out) (Kd.R_base ho0) hb) (Kd.R_elder' (z0_ HO_713001.out) (Kd.R_base ho1) hb) (Kd.R_elder' (z0_ HO741.out) (Kd.R_base ho0) hb) (Kd.R_elder' (z0_ HO744.out) (Kd.R_base ho1) hb) (Kd.R_lower (Kd.R_new' (Kd.R_new' (Kd.R_new' (Kd.R_new' (Kd.R_new' ho0 (Kd.R_lt (z0_ HO_689000.out))) (Kd.R_lt (z0_ HO_696000.out))) (Kd.R_lt (z0_ HO_703000.out))) (Kd.R_lt (z0_ HO_713000.out))) (Kd.R_lt (z0_ HO741.out))) (below_size (z20_ HB.out GE663.out GE664.out GE688.out GE695.out GE702.out GE712.out GE760.out))) (Kd.R_lower (Kd.R_new' (Kd.R_new' (Kd.R_new' (Kd.R_new' (Kd.R_new' ho1 (Kd.R_lt (z0_ HO_689001.out))) (Kd.R_lt (z0_ HO_696001.out))) (Kd.R_lt (z0_ HO_703001.out))) (Kd.R_lt (z0_ HO_713001.out))) (Kd.R_lt (z0_ HO744.out))) (below_size (z20_ HB.out GE663.out GE664.out GE688.out GE695.out GE702.out GE712.out GE760.out))) (blkB_ BK663.out hb) (blkB_ BK664.out hb) (blkB_ BK688.out hb) (blkB_ BK695.out hb) (blkB_ BK702.out hb) (blkB_ BK712.out hb) (blkB_ BK760.out hb) (below_step (z20_ HB.out GE663.out GE664.out GE688.out GE695.out GE702.out GE712.out GE760.out) hb) ?_
                clear HO_689000 HO_689001 HO_696000 HO_696001 HO_703000 HO_703001 HO_713000 HO_713001 HO741 HO744 BK663 BK664 BK688 BK695 BK702 BK712 BK760 HB
                intro HO_689000 HO_689001 HO_696000 HO_696001 HO_703000 HO_703001 HO_713000 HO_713001 HO741 HO744 HO747 HO750 BK663 BK664 BK688 BK695 BK702 BK712 BK760 HB
                (try clear hb)
                (try clear hb2)
                (try clear hk)
                (try clear hi)
                (try clear ho0)
                (try clear ho1)
                obtain ⟨Ao148,co148,eo148⟩:=Kd.R_slice HO741.out
                (first | subst eo148 | (injection eo148 with f1_ f2_ f3_;have f4_:=f1_.symm;have f5_:=f3_.symm;clear f1_ f2_ f3_;subst f4_;subst f5_))
                obtain ⟨Ao149,co149,eo149⟩:=Kd.R_slice HO744.out
                (first | subst eo149 | (injection eo149 with f1_ f2_ f3_;have f4_:=f1_.symm;have f5_:=f3_.symm;clear f1_ f2_ f3_;subst f4_;subst f5_))
                obtain ⟨Ao150,co150,eo150⟩:=Kd.R_slice HO747.out
                (first | subst eo150 | (injection eo150 with f1_ f2_ f3_;have f4_:=f1_.symm;have f5_:=f3_.symm;clear f1_ f2_ f3_;subst f4_;subst f5_))
                obtain ⟨Ao151,co151,eo151⟩:=Kd.R_slice HO750.out
                (first | subst eo151 | (injection eo151 with f1_ f2_ f3_;have f4_:=f1_.symm;have f5_:=f3_.symm;clear f1_ f2_ f3_;subst f4_;subst f5_))
                refine hK.out _ _ (cj2_ BK663.out (cc2_ BK664.out)) (fun hHeld=>?_)
                clear hK K
                refine nm_ 78 ?_
                refine one_ (i:=4) (N:=some 79) #[I,I,I,I,I,I,O] rfl rfl (by kernel_rfl) (by decide) (fun K hK=>?_)
                refine gs_ Try.func25 #[.agg #[.slice Ao148 t739.length co148,.slice Ao149 t742.length co149],.agg #[.slice Ao150 t745.length co150,.slice Ao151 t748.length co151]] ?_
                with_reducible refine (impl_SetSync.calls kj34 _ _ t739 _ _ t742 _ _ t745 _ _ t748 t751 t754 t757 t758 t759 _ ?s1 ?s2 ?s3 ?s4 ?s5 ?s6 ?s7 ?s8 A129.out).mono ?_
                (case s1=>repeat (first | exact (Kd.R_reads' HO741.out).2.2 | (with_reducible refine Kd.C_alloc ?_ _) | (with_reducible refine Kd.C_drewN ?_ _) | (with_reducible refine Kd.C_drew ?_)))
                (case s2=>exact (Kd.R_reads' HO741.out).2.1)
                (case s3=>repeat (first | exact (Kd.R_reads' HO744.out).2.2 | (with_reducible refine Kd.C_alloc ?_ _) | (with_reducible refine Kd.C_drewN ?_ _) | (with_reducible refine Kd.C_drew ?_)))
                (case s4=>exact (Kd.R_reads' HO744.out).2.1)
                (case s5=>repeat (first | exact (Kd.R_reads' HO747.out).2.2 | (with_reducible refine Kd.C_alloc ?_ _) | (with_reducible refine Kd.C_drewN ?_ _) | (with_reducible refine Kd.C_drew ?_)))
                (case s6=>exact (Kd.R_reads' HO747.out).2.1)
                (case s7=>repeat (first | exact (Kd.R_reads' HO750.out).2.2 | (with_reducible refine Kd.C_alloc ?_ _) | (with_reducible refine Kd.C_drewN ?_ _) | (with_reducible refine Kd.C_drew ?_)))
                (case s8=>exact (Kd.R_reads' HO750.out).2.1)
                rintro e w152 ⟨v752,v755,rfl,ho0,ho1,hb⟩
                refine ⟨_,rfl,?_⟩
                refine as22_ (Kd.R_elder' (z0_ HO_689000.out) (Kd.R_base ho0) hb) (Kd.R_elder' (z0_ HO_689001.out) (Kd.R_base ho1) hb) (Kd.R_elder' (z0_ HO_696000.out) (Kd.R_base ho0) hb) (Kd.R_elder' (z0_ HO_696001.out) (Kd.R_base ho1) hb) (Kd.R_elder' (z0_ HO_703000.out) (Kd.R_base ho0) hb) (Kd.R_elder' (z0_ HO_703001.out) (Kd.R_base ho1) hb) (Kd.R_elder' (z0_ HO_713000.out) (Kd.R_base ho0) hb) (Kd.R_elder' (z0_ HO_713001.out) (Kd.R_base ho1) hb) (Kd.R_elder' (z0_ HO741.out) (Kd.R_base ho0) hb) (Kd.R_elder' (z0_ HO744.out) (Kd.R_base ho1) hb) (Kd.R_elder' (z0_ HO747.out) (Kd.R_base ho0) hb) (Kd.R_elder' (z0_ HO750.out) (Kd.R_base ho1) hb) (Kd.R_lower (Kd.R_new' (Kd.R_new' (Kd.R_new' (Kd.R_new' (Kd.R_new' (Kd.R_new' ho0 (Kd.R_lt (z0_ HO_689000.out))) (Kd.R_lt (z0_ HO_696000.out))) (Kd.R_lt (z0_ HO_703000.out))) (Kd.R_lt (z0_ HO_713000.out))) (Kd.R_lt (z0_ HO741.out))) (Kd.R_lt (z0_ HO747.out))) (below_size (z20_ HB.out GE663.out GE664.out GE688.out GE695.out GE702.out GE712.out GE760.out))) (Kd.R_lower (Kd.R_new' (Kd.R_new' (Kd.R_new' (Kd.R_new' (Kd.R_new' (Kd.R_new' ho1 (Kd.R_lt (z0_ HO_689001.out))) (Kd.R_lt (z0_ HO_696001.out))) (Kd.R_lt (z0_ HO_703001.out))) (Kd.R_lt (z0_ HO_713001.out))) (Kd.R_lt (z0_ HO744.out))) (Kd.R_lt (z0_ HO750.out))) (below_size (z20_ HB.out GE663.out GE664.out GE688.out GE695.out GE702.out GE712.out GE760.out))) (blkB_ BK663.out hb) (blkB_ BK664.out hb) (blkB_ BK688.out hb) (blkB_ BK695.out hb) (blkB_ BK702.out hb) (blkB_ BK712.out hb) (blkB_ BK760.out hb) (below_step (z20_ HB.out GE663.out GE664.out GE688.out GE695.out GE702.out GE712.out GE760.out) hb) ?_
                clear HO_689000 HO_689001 HO_696000 HO_696001 HO_703000 HO_703001 HO_713000 HO_713001 HO741 HO744 HO747 HO750 BK663 BK664 BK688 BK695 BK702 BK712 BK760 HB
                intro HO_689000 HO_689001 HO_696000 HO_696001 HO_703000 HO_703001 HO_713000 HO_713001 HO741 HO744 HO747 HO750 HO753 HO756 BK663 BK664 BK688 BK695 BK702 BK712 BK760 HB
                (try clear hb)
                (try clear hb2)
                (try clear hk)
                (try clear hi)
                (try clear ho0)
                (try clear ho1)
                refine hK.out _ _ (cj2_ BK663.out (cc2_ BK664.out)) (fun hHeld=>?_)
                clear hK K
                refine nm_ 79 ?_
                exact norm_ (z36_) (hCont (.slice Ao148 t739.length co148,.slice Ao149 t742.length co149,.slice Ao150 t745.length co150,.slice Ao151 t748.length co151,v752,v755,gb760) _ ⟨hHeld,(z22_ HO741.out),(z22_ HO744.out),(z22_ HO747.out),(z22_ HO750.out),(z22_ HO753.out),(z22_ HO756.out),(z15_ HO_689000.out),(z15_ HO_689001.out),(z15_ HO_696000.out),(z15_ HO_696001.out),(z15_ HO_703000.out),(z15_ HO_703001.out),(z15_ HO_713000.out),(z15_ HO_713001.out),(z1_ BK663.out),(z1_ BK664.out),(z1_ BK688.out),(z1_ BK695.out),(z1_ BK702.out),(z1_ BK712.out),(z1_ BK760.out),GW760.out,GE760.out,NB663_760.out,NB760_663.out,NB664_760.out,NB760_664.out,NB688_760.out,NB760_688.out,NB695_760.out,NB760_695.out,NB702_760.out,NB760_702.out,NB712_760.out,NB760_712.out,(z20_ HB.out GE663.out GE664.out GE688.out GE695.out GE702.out GE712.out GE760.out)⟩)
              rintro ⟨v740,v743,v746,v749,v752,v755,gb760⟩ w153 ⟨hS_,h0_,h1_,h2_,h3_,h4_,h5_,h6_,h7_,h8_,h9_,h10_,h11_,h12_,h13_,h14_,h15_,h16_,h17_,h18_,h19_,h20_,h21_,h22_,h23_,h24_,h25_,h26_,h27_,h28_,h29_,h30_,h31_,h32_,h33_,h34_,h35_⟩
              have n0_:Aside0 (Kd.R k56 56 w153 w.heap.size (fun k_=>some k_≠(v746:Value).ownBlock∧some k_≠(v752:Value).ownBlock∧some k_≠(.slice Ao53 t679.length co53:Value).ownBlock∧some k_≠(.slice Ao64 t729.length co64:Value).ownBlock∧some k_≠(.slice Ao74 t732.length co74:Value).ownBlock∧some k_≠(.slice Ao84 t703.length co84:Value).ownBlock) v740 t739):=⟨h0_⟩
              have n1_:Aside0 (Kd.R k91 91 w153 w.heap.size (fun k_=>some k_≠(v749:Value).ownBlock∧some k_≠(v755:Value).ownBlock∧some k_≠(.slice Ao55 t682.length co55:Value).ownBlock∧some k_≠(.slice Ao69 t730.length co69:Value).ownBlock∧some k_≠(.slice Ao80 t733.length co80:Value).ownBlock∧some k_≠(.slice Ao91 t706.length co91:Value).ownBlock) v743 t742):=⟨h1_⟩
              have n2_:Aside0 (Kd.R k56 56 w153 w.heap.size (fun k_=>some k_≠(v740:Value).ownBlock∧some k_≠(v752:Value).ownBlock∧some k_≠(.slice Ao53 t679.length co53:Value).ownBlock∧some k_≠(.slice Ao64 t729.length co64:Value).ownBlock∧some k_≠(.slice Ao74 t732.length co74:Value).ownBlock∧some k_≠(.slice Ao84 t703.length co84:Value).ownBlock) v746 t745):=⟨h2_⟩
              have n3_:Aside0 (Kd.R k91 91 w153 w.heap.size (fun k_=>some k_≠(v743:Value).ownBlock∧some k_≠(v755:Value).ownBlock∧some k_≠(.slice Ao55 t682.length co55:Value).ownBlock∧some k_≠(.slice Ao69 t730.length co69:Value).ownBlock∧some k_≠(.slice Ao80 t733.length co80:Value).ownBlock∧some k_≠(.slice Ao91 t706.length co91:Value).ownBlock) v749 t748):=⟨h3_⟩
              have n4_:Aside0 (Kd.R k56 56 w153 w.heap.size (fun k_=>some k_≠(v740:Value).ownBlock∧some k_≠(v746:Value).ownBlock∧some k_≠(.slice Ao53 t679.length co53:Value).ownBlock∧some k_≠(.slice Ao64 t729.length co64:Value).ownBlock∧some k_≠(.slice Ao74 t732.length co74:Value).ownBlock∧some k_≠(.slice Ao84 t703.length co84:Value).ownBlock) v752 t751):=⟨h4_⟩
              have n5_:Aside0 (Kd.R k91 91 w153 w.heap.size (fun k_=>some k_≠(v743:Value).ownBlock∧some k_≠(v749:Value).ownBlock∧some k_≠(.slice Ao55 t682.length co55:Value).ownBlock∧some k_≠(.slice Ao69 t730.length co69:Value).ownBlock∧some k_≠(.slice Ao80 t733.length co80:Value).ownBlock∧some k_≠(.slice Ao91 t706.length co91:Value).ownBlock) v755 t754):=⟨h5_⟩
              have n6_:Aside0 (Kd.R k56 56 w153 w.heap.size (fun k_=>some k_≠(v740:Value).ownBlock∧some k_≠(v746:Value).ownBlock∧some k_≠(v752:Value).ownBlock∧some k_≠(.slice Ao64 t729.length co64:Value).ownBlock∧some k_≠(.slice Ao74 t732.length co74:Value).ownBlock∧some k_≠(.slice Ao84 t703.length co84:Value).ownBlock) (.slice Ao53 t679.length co53) t679):=⟨h6_⟩
              have n7_:Aside0 (Kd.R k91 91 w153 w.heap.size (fun k_=>some k_≠(v743:Value).ownBlock∧some k_≠(v749:Value).ownBlock∧some k_≠(v755:Value).ownBlock∧some k_≠(.slice Ao69 t730.length co69:Value).ownBlock∧some k_≠(.slice Ao80 t733.length co80:Value).ownBlock∧some k_≠(.slice Ao91 t706.length co91:Value).ownBlock) (.slice Ao55 t682.length co55) t682):=⟨h7_⟩
              have n8_:Aside0 (Kd.R k56 56 w153 w.heap.size (fun k_=>some k_≠(v740:Value).ownBlock∧some k_≠(v746:Value).ownBlock∧some k_≠(v752:Value).ownBlock∧some k_≠(.slice Ao53 t679.length co53:Value).ownBlock∧some k_≠(.slice Ao74 t732.length co74:Value).ownBlock∧some k_≠(.slice Ao84 t703.length co84:Value).ownBlock) (.slice Ao64 t729.length co64) t729):=⟨h8_⟩
              have n9_:Aside0 (Kd.R k91 91 w153 w.heap.size (fun k_=>some k_≠(v743:Value).ownBlock∧some k_≠(v749:Value).ownBlock∧some k_≠(v755:Value).ownBlock∧some k_≠(.slice Ao55 t682.length co55:Value).ownBlock∧some k_≠(.slice Ao80 t733.length co80:Value).ownBlock∧some k_≠(.slice Ao91 t706.length co91:Value).ownBlock) (.slice Ao69 t730.length co69) t730):=⟨h9_⟩
              have n10_:Aside0 (Kd.R k56 56 w153 w.heap.size (fun k_=>some k_≠(v740:Value).ownBlock∧some k_≠(v746:Value).ownBlock∧some k_≠(v752:Value).ownBlock∧some k_≠(.slice Ao53 t679.length co53:Value).ownBlock∧some k_≠(.slice Ao64 t729.length co64:Value).ownBlock∧some k_≠(.slice Ao84 t703.length co84:Value).ownBlock) (.slice Ao74 t732.length co74) t732):=⟨h10_⟩
              have n11_:Aside0 (Kd.R k91 91 w153 w.heap.size (fun k_=>some k_≠(v743:Value).ownBlock∧some k_≠(v749:Value).ownBlock∧some k_≠(v755:Value).ownBlock∧some k_≠(.slice Ao55 t682.length co55:Value).ownBlock∧some k_≠(.slice Ao69 t730.length co69:Value).ownBlock∧some k_≠(.slice Ao91 t706.length co91:Value).ownBlock) (.slice Ao80 t733.length co80) t733):=⟨h11_⟩
              have n12_:Aside0 (Kd.R k56 56 w153 w.heap.size (fun k_=>some k_≠(v740:Value).ownBlock∧some k_≠(v746:Value).ownBlock∧some k_≠(v752:Value).ownBlock∧some k_≠(.slice Ao53 t679.length co53:Value).ownBlock∧some k_≠(.slice Ao64 t729.length co64:Value).ownBlock∧some k_≠(.slice Ao74 t732.length co74:Value).ownBlock) (.slice Ao84 t703.length co84) t736):=⟨h12_⟩
              have n13_:Aside0 (Kd.R k91 91 w153 w.heap.size (fun k_=>some k_≠(v743:Value).ownBlock∧some k_≠(v749:Value).ownBlock∧some k_≠(v755:Value).ownBlock∧some k_≠(.slice Ao55 t682.length co55:Value).ownBlock∧some k_≠(.slice Ao69 t730.length co69:Value).ownBlock∧some k_≠(.slice Ao80 t733.length co80:Value).ownBlock) (.slice Ao91 t706.length co91) t737):=⟨h13_⟩
              have n14_:Aside0 (w153.heap[gb663]? = some (.cells #[.slice A0_0 l0_0.length c0_0,.slice A0_1 l0_1.length c0_1] 32 (0,0))):=⟨h14_⟩
              have n15_:Aside0 (w153.heap[gb664]? = some (.cells #[.slice A1_0 l1_0.length c1_0,.slice A1_1 l1_1.length c1_1] 32 (0,0))):=⟨h15_⟩
              have n16_:Aside0 (w153.heap[gb688]? = some (.cells #[.slice Ao53 t679.length co53,.slice Ao55 t682.length co55,.int .i64 t685,.int .i64 t686,.int .i64 t687] 58 (0,0))):=⟨h16_⟩
              have n17_:Aside0 (w153.heap[gb695]? = some (.cells #[.slice Ao64 t729.length co64,.slice Ao69 t730.length co69] 40 (0,0))):=⟨h17_⟩
              have n18_:Aside0 (w153.heap[gb702]? = some (.cells #[.slice Ao74 t732.length co74,.slice Ao80 t733.length co80] 40 (0,0))):=⟨h18_⟩
              have n19_:Aside0 (w153.heap[gb712]? = some (.cells #[.slice Ao84 t703.length co84,.slice Ao91 t706.length co91,.int .i64 t709,.int .i64 t710,.int .i64 t711] 58 (0,0))):=⟨h19_⟩
              have n20_:Aside0 (w153.heap[gb760]? = some (.cells #[.slice none 0 0,.slice none 0 0,.int .i64 0,.int .i64 0,.int .i64 0] 58 (0,0))):=⟨h20_⟩
              have n21_:Aside0 (w.heap.size≤gb760):=⟨h21_⟩
              have n22_:Aside0 (w.heap.size≤gb760):=⟨h22_⟩
              have n23_:Aside0 (gb663≠gb760):=⟨h23_⟩
              have n24_:Aside0 (gb760≠gb663):=⟨h24_⟩
              have n25_:Aside0 (gb664≠gb760):=⟨h25_⟩
              have n26_:Aside0 (gb760≠gb664):=⟨h26_⟩
              have n27_:Aside0 (gb688≠gb760):=⟨h27_⟩
              have n28_:Aside0 (gb760≠gb688):=⟨h28_⟩
              have n29_:Aside0 (gb695≠gb760):=⟨h29_⟩
              have n30_:Aside0 (gb760≠gb695):=⟨h30_⟩
              have n31_:Aside0 (gb702≠gb760):=⟨h31_⟩
              have n32_:Aside0 (gb760≠gb702):=⟨h32_⟩
              have n33_:Aside0 (gb712≠gb760):=⟨h33_⟩
              have n34_:Aside0 (gb760≠gb712):=⟨h34_⟩
              have n35_:Aside0 (Below w.heap.size w w153):=⟨h35_⟩
              clear HO_689000
              clear HO_689001
              clear HO_696000
              clear HO_696001
              clear HO_703000
              clear HO_703001
              clear HO_713000
              clear HO_713001
              clear BK663
              clear BK664
              clear BK688
              clear BK695
              clear BK702
              clear BK712
              clear HB
              clear h0_ h1_ h2_ h3_ h4_ h5_ h6_ h7_ h8_ h9_ h10_ h11_ h12_ h13_ h14_ h15_ h16_ h17_ h18_ h19_ h20_ h21_ h22_ h23_ h24_ h25_ h26_ h27_ h28_ h29_ h30_ h31_ h32_ h33_ h34_ h35_
              have HO741:=n0_
              have HO744:=n1_
              have HO747:=n2_
              have HO750:=n3_
              have HO753:=n4_
              have HO756:=n5_
              have HO_689000:=n6_
              have HO_689001:=n7_
              have HO_696000:=n8_
              have HO_696001:=n9_
              have HO_703000:=n10_
              have HO_703001:=n11_
              have HO_713000:=n12_
              have HO_713001:=n13_
              have BK663:=n14_
              have BK664:=n15_
              have BK688:=n16_
              have BK695:=n17_
              have BK702:=n18_
              have BK712:=n19_
              have BK760:=n20_
              have GW760:=n21_
              have GE760:=n22_
              have NB663_760:=n23_
              have NB760_663:=n24_
              have NB664_760:=n25_
              have NB760_664:=n26_
              have NB688_760:=n27_
              have NB760_688:=n28_
              have NB695_760:=n29_
              have NB760_695:=n30_
              have NB702_760:=n31_
              have NB760_702:=n32_
              have NB712_760:=n33_
              have NB760_712:=n34_
              have HB:=n35_
              clear n0_ n1_ n2_ n3_ n4_ n5_ n6_ n7_ n8_ n9_ n10_ n11_ n12_ n13_ n14_ n15_ n16_ n17_ n18_ n19_ n20_ n21_ n22_ n23_ n24_ n25_ n26_ n27_ n28_ n29_ n30_ n31_ n32_ n33_ n34_ n35_
              have hHeld:w153.cell? ⟨gb663,0,none⟩=some (.slice A0_0 l0_0.length c0_0)∧w153.cell? ⟨gb663,1,none⟩=some (.slice A0_1 l0_1.length c0_1)∧w153.cell? ⟨gb664,0,none⟩=some (.slice A1_0 l1_0.length c1_0)∧w153.cell? ⟨gb664,1,none⟩=some (.slice A1_1 l1_1.length c1_1):=hS_
              obtain ⟨Ao154,co154,eo154⟩:=Kd.R_slice HO753.out
              (first | subst eo154 | (injection eo154 with f1_ f2_ f3_;have f4_:=f1_.symm;have f5_:=f3_.symm;clear f1_ f2_ f3_;subst f4_;subst f5_))
              obtain ⟨Ao156,co156,eo156⟩:=Kd.R_slice HO756.out
              (first | subst eo156 | (injection eo156 with f1_ f2_ f3_;have f4_:=f1_.symm;have f5_:=f3_.symm;clear f1_ f2_ f3_;subst f4_;subst f5_))
              refine norm_ (a':=?_) ?_ ?_
              rotate_left
              ·simp only [putAll,Act.put,List.setIfInBounds_toArray,List.set_cons_zero,List.set_cons_succ]
               rfl
              refine one_ (i:=6) (N:=none) #[I,I,I,I,I,I,I] rfl rfl (by kernel_rfl) (by decide) (fun K hK=>?_)
              have hs155:w153.cell? ⟨gb760,0,none⟩=some (.slice none 0 0):=(blk_cell BK760.out 0).trans rfl
              have hfs155:=blk_frozen BK760.out 0
              have hns155_0:=NB663_760.out
              have hns155_1:=NB664_760.out
              have hns155_2:=NB688_760.out
              have hns155_3:=NB695_760.out
              have hns155_4:=NB702_760.out
              have hns155_5:=NB712_760.out
              have hms155_0:=NB760_663.out
              have hms155_1:=NB760_664.out
              have hms155_2:=NB760_688.out
              have hms155_3:=NB760_695.out
              have hms155_4:=NB760_702.out
              have hms155_5:=NB760_712.out
              have hs157:w153.cell? ⟨gb760,1,none⟩=some (.slice none 0 0):=(blk_cell BK760.out 1).trans rfl
              have hfs157:=blk_frozen BK760.out 1
              have hns157_0:=NB663_760.out
              have hns157_1:=NB664_760.out
              have hns157_2:=NB688_760.out
              have hns157_3:=NB695_760.out
              have hns157_4:=NB702_760.out
              have hns157_5:=NB712_760.out
              have hms157_0:=NB760_663.out
              have hms157_1:=NB760_664.out
              have hms157_2:=NB760_688.out
              have hms157_3:=NB760_695.out
              have hms157_4:=NB760_702.out
              have hms157_5:=NB760_712.out
              have hs158:w153.cell? ⟨gb760,2,none⟩=some (.int .i64 0):=(blk_cell BK760.out 2).trans rfl
              have hfs158:=blk_frozen BK760.out 2
              have hns158_0:=NB663_760.out
              have hns158_1:=NB664_760.out
              have hns158_2:=NB688_760.out
              have hns158_3:=NB695_760.out
              have hns158_4:=NB702_760.out
              have hns158_5:=NB712_760.out
              have hms158_0:=NB760_663.out
              have hms158_1:=NB760_664.out
              have hms158_2:=NB760_688.out
              have hms158_3:=NB760_695.out
              have hms158_4:=NB760_702.out
              have hms158_5:=NB760_712.out
              have hs159:w153.cell? ⟨gb760,3,none⟩=some (.int .i64 0):=(blk_cell BK760.out 3).trans rfl
              have hfs159:=blk_frozen BK760.out 3
              have hns159_0:=NB663_760.out
              have hns159_1:=NB664_760.out
              have hns159_2:=NB688_760.out
              have hns159_3:=NB695_760.out
              have hns159_4:=NB702_760.out
              have hns159_5:=NB712_760.out
              have hms159_0:=NB760_663.out
              have hms159_1:=NB760_664.out
              have hms159_2:=NB760_688.out
              have hms159_3:=NB760_695.out
              have hms159_4:=NB760_702.out
              have hms159_5:=NB760_712.out
              have hs160:w153.cell? ⟨gb760,4,none⟩=some (.int .i64 0):=(blk_cell BK760.out 4).trans rfl
              have hfs160:=blk_frozen BK760.out 4
              have hns160_0:=NB663_760.out
              have hns160_1:=NB664_760.out
              have hns160_2:=NB688_760.out
              have hns160_3:=NB695_760.out
              have hns160_4:=NB702_760.out
              have hns160_5:=NB712_760.out
              have hms160_0:=NB760_663.out
              have hms160_1:=NB760_664.out
              have hms160_2:=NB760_688.out
              have hms160_3:=NB760_695.out
              have hms160_4:=NB760_702.out
              have hms160_5:=NB760_712.out
              refine skip_ (w1:=?_) (by rfl) rfl ?_ ?_
              rotate_left
              ·go_simp
               rfl
              refine hK.out _ _ ⟨((cell_far (p:=⟨gb760,_,none⟩) NB663_760.out _).trans (((cell_far (p:=⟨gb760,_,none⟩) NB663_760.out _).trans (((cell_far (p:=⟨gb760,_,none⟩) NB663_760.out _).trans (((cell_far (p:=⟨gb760,_,none⟩) NB663_760.out _).trans (((cell_far (p:=⟨gb760,_,none⟩) NB663_760.out _).trans (hHeld.1)))))))))),((cell_far (p:=⟨gb760,_,none⟩) NB663_760.out _).trans (((cell_far (p:=⟨gb760,_,none⟩) NB663_760.out _).trans (((cell_far (p:=⟨gb760,_,none⟩) NB663_760.out _).trans (((cell_far (p:=⟨gb760,_,none⟩) NB663_760.out _).trans (((cell_far (p:=⟨gb760,_,none⟩) NB663_760.out _).trans (hHeld.2.1)))))))))),((cell_far (p:=⟨gb760,_,none⟩) NB664_760.out _).trans (((cell_far (p:=⟨gb760,_,none⟩) NB664_760.out _).trans (((cell_far (p:=⟨gb760,_,none⟩) NB664_760.out _).trans (((cell_far (p:=⟨gb760,_,none⟩) NB664_760.out _).trans (((cell_far (p:=⟨gb760,_,none⟩) NB664_760.out _).trans (hHeld.2.2.1)))))))))),((cell_far (p:=⟨gb760,_,none⟩) NB664_760.out _).trans (((cell_far (p:=⟨gb760,_,none⟩) NB664_760.out _).trans (((cell_far (p:=⟨gb760,_,none⟩) NB664_760.out _).trans (((cell_far (p:=⟨gb760,_,none⟩) NB664_760.out _).trans (((cell_far (p:=⟨gb760,_,none⟩) NB664_760.out _).trans (hHeld.2.2.2))))))))))⟩ (fun hHeld=>?_)
              clear hK K
              refine done_ (by kernel_rfl) ?_
              have hnb161:=NB760_663.out
              have hnc161:=NB663_760.out
              have hnb162:=NB760_664.out
              have hnc162:=NB664_760.out
              have hnb163:=NB760_688.out
              have hnc163:=NB688_760.out
              have hnb164:=NB760_695.out
              have hnc164:=NB695_760.out
              have hnb165:=NB760_702.out
              have hnc165:=NB702_760.out
              have hnb166:=NB760_712.out
              have hnc166:=NB712_760.out
              have ⟨hcz167_0,hcz167_1,hcz167_2,hcz167_3,hcz167_4,hfz167_0,hfz167_1,hfz167_2,hfz167_3,hfz167_4⟩:=cz5_ BK760.out
              have hnb168:=NB688_663.out
              have hnc168:=NB663_688.out
              have hnb169:=NB688_664.out
              have hnc169:=NB664_688.out
              have hnb170:=NB688_695.out
              have hnc170:=NB695_688.out
              have hnb171:=NB688_702.out
              have hnc171:=NB702_688.out
              have ⟨hcz172_0,hcz172_1,hcz172_2,hcz172_3,hcz172_4,hfz172_0,hfz172_1,hfz172_2,hfz172_3,hfz172_4⟩:=cz5_ BK688.out
              try go_wp2_with (first | ((with_reducible refine gc_ 26 ?_);refine gl_ (some 82) Try.func26 #[.agg #[.slice Ao154 t751.length co154,.slice Ao156 t754.length co156,.int .i64 t757,.int .i64 t758,.int .i64 t759],.agg #[.slice Ao53 t679.length co53,.slice Ao55 t682.length co55,.int .i64 t685,.int .i64 t686,.int .i64 t687]] ?_;(with_reducible refine (laws_eqSetOut.calls kj34 _ _ t751 _ _ t754 t757 t758 t759 _ _ t679 _ _ t682 t685 t686 t687 true _ ?s1 ?s2 ?s3 ?s4 ?s5 ?s6 ?s7 ?s8 A130.out).mono ?_);(case s1=>refine (Kd.R_reads' (e:=56) (base:=w.heap.size) (ok:=fun k_=>(some k_≠(v740:Value).ownBlock∧(some k_≠(v746:Value).ownBlock∧(some k_≠(.slice Ao53 t679.length co53:Value).ownBlock∧(some k_≠(.slice Ao64 t729.length co64:Value).ownBlock∧(some k_≠(.slice Ao74 t732.length co74:Value).ownBlock∧some k_≠(.slice Ao84 t703.length co84:Value).ownBlock)))))) (n:=t751.length) (c:=co154) ?_).2.2;exact (z11_ HO753.out BK760.out));(case s2=>exact (Kd.R_reads' HO753.out).2.1);(case s3=>refine (Kd.R_reads' (e:=91) (base:=w.heap.size) (ok:=fun k_=>(some k_≠(v743:Value).ownBlock∧(some k_≠(v749:Value).ownBlock∧(some k_≠(.slice Ao55 t682.length co55:Value).ownBlock∧(some k_≠(.slice Ao69 t730.length co69:Value).ownBlock∧(some k_≠(.slice Ao80 t733.length co80:Value).ownBlock∧some k_≠(.slice Ao91 t706.length co91:Value).ownBlock)))))) (n:=t754.length) (c:=co156) ?_).2.2;exact (z11_ HO756.out BK760.out));(case s4=>exact (Kd.R_reads' HO756.out).2.1);(case s5=>refine (Kd.R_reads' (e:=56) (base:=w.heap.size) (ok:=fun k_=>(some k_≠(v740:Value).ownBlock∧(some k_≠(v746:Value).ownBlock∧(some k_≠(.slice Ao154 t751.length co154:Value).ownBlock∧(some k_≠(.slice Ao64 t729.length co64:Value).ownBlock∧(some k_≠(.slice Ao74 t732.length co74:Value).ownBlock∧some k_≠(.slice Ao84 t703.length co84:Value).ownBlock)))))) (n:=t679.length) (c:=co53) ?_).2.2;exact (z11_ HO_689000.out BK760.out));(case s6=>exact (Kd.R_reads' HO_689000.out).2.1);(case s7=>refine (Kd.R_reads' (e:=91) (base:=w.heap.size) (ok:=fun k_=>(some k_≠(v743:Value).ownBlock∧(some k_≠(v749:Value).ownBlock∧(some k_≠(.slice Ao156 t754.length co156:Value).ownBlock∧(some k_≠(.slice Ao69 t730.length co69:Value).ownBlock∧(some k_≠(.slice Ao80 t733.length co80:Value).ownBlock∧some k_≠(.slice Ao91 t706.length co91:Value).ownBlock)))))) (n:=t682.length) (c:=co55) ?_).2.2;exact (z11_ HO_689001.out BK760.out));(case s8=>exact (Kd.R_reads' HO_689001.out).2.1);rintro e w173 ⟨rfl,hb⟩;refine ⟨_,rfl,?_⟩;refine as22_ (Kd.R_below (z11_ HO_689000.out BK760.out) hb) (Kd.R_below (z11_ HO_689001.out BK760.out) hb) (Kd.R_below (z11_ HO_696000.out BK760.out) hb) (Kd.R_below (z11_ HO_696001.out BK760.out) hb) (Kd.R_below (z11_ HO_703000.out BK760.out) hb) (Kd.R_below (z11_ HO_703001.out BK760.out) hb) (Kd.R_below (z11_ HO_713000.out BK760.out) hb) (Kd.R_below (z11_ HO_713001.out BK760.out) hb) (Kd.R_below (z11_ HO741.out BK760.out) hb) (Kd.R_below (z11_ HO744.out BK760.out) hb) (Kd.R_below (z11_ HO747.out BK760.out) hb) (Kd.R_below (z11_ HO750.out BK760.out) hb) (Kd.R_below (z11_ HO753.out BK760.out) hb) (Kd.R_below (z11_ HO756.out BK760.out) hb) (blk_below (g:=gb663) (o:=.cells #[.slice A0_0 l0_0.length c0_0,.slice A0_1 l0_1.length c0_1] 32 (0,0)) (z28_ NB663_760.out BK663.out) hb) (blk_below (g:=gb664) (o:=.cells #[.slice A1_0 l1_0.length c1_0,.slice A1_1 l1_1.length c1_1] 32 (0,0)) (z28_ NB664_760.out BK664.out) hb) (blk_below (g:=gb688) (o:=.cells #[.slice Ao53 t679.length co53,.slice Ao55 t682.length co55,.int .i64 t685,.int .i64 t686,.int .i64 t687] 58 (0,0)) (z28_ NB688_760.out BK688.out) hb) (blk_below (g:=gb695) (o:=.cells #[.slice Ao64 t729.length co64,.slice Ao69 t730.length co69] 40 (0,0)) (z28_ NB695_760.out BK695.out) hb) (blk_below (g:=gb702) (o:=.cells #[.slice Ao74 t732.length co74,.slice Ao80 t733.length co80] 40 (0,0)) (z28_ NB702_760.out BK702.out) hb) (blk_below (g:=gb712) (o:=.cells #[.slice Ao84 t703.length co84,.slice Ao91 t706.length co91,.int .i64 t709,.int .i64 t710,.int .i64 t711] 58 (0,0)) (z28_ NB712_760.out BK712.out) hb) (blk_below (g:=gb760) (o:=.cells #[.slice Ao154 t751.length co154,.slice Ao156 t754.length co156,.int .i64 t757,.int .i64 t758,.int .i64 t759] 58 (0,0)) (z31_ BK760.out) hb) (below_step (z20_ HB.out GE663.out GE664.out GE688.out GE695.out GE702.out GE712.out GE760.out) hb) ?_;clear HO_689000 HO_689001 HO_696000 HO_696001 HO_703000 HO_703001 HO_713000 HO_713001 HO741 HO744 HO747 HO750 HO753 HO756 BK663 BK664 BK688 BK695 BK702 BK712 BK760 HB;intro HO_689000 HO_689001 HO_696000 HO_696001 HO_703000 HO_703001 HO_713000 HO_713001 HO741 HO744 HO747 HO750 HO753 HO756 BK663 BK664 BK688 BK695 BK702 BK712 BK760 HB;(try clear hb);(try clear hb2);(try clear hk);(try clear hi);have ⟨hcz174_0,hcz174_1,hcz174_2,hcz174_3,hcz174_4,hfz174_0,hfz174_1,hfz174_2,hfz174_3,hfz174_4⟩:=cz5_ BK712.out) | ((with_reducible refine gc_ 28 ?_);refine goesL_ (some 86) rfl rfl Try.func28 (by kernel_rfl) rfl #[.agg #[.slice Ao84 t736.length co84,.slice Ao91 t737.length co91,.int .i64 t709,.int .i64 t710,.int .i64 t711],.int .i64 1] rfl (by (try simp only [List.map_toArray,List.map_cons,List.map_nil]);first | done | (rw [show t736.length=t703.length from (Kd.R_reads' HO_713000.out).1.symm,show t737.length=t706.length from (Kd.R_reads' HO_713001.out).1.symm] <;> rfl) | rfl | (simp only [List.length_drop,List.length_take];rfl)) ?_;(with_reducible refine (laws_heldSetOut.calls kj34 _ _ t736 _ _ t737 t709 t710 t711 1 t762 _ ?s1 ?s2 ?s3 ?s4 A132.out).mono ?_);(case s1=>repeat (first | exact (Kd.R_reads' HO_713000.out).2.2 | (with_reducible refine Kd.C_alloc ?_ _) | (with_reducible refine Kd.C_drewN ?_ _) | (with_reducible refine Kd.C_drew ?_)));(case s2=>rw [show t736.length=t703.length from (Kd.R_reads' HO_713000.out).1.symm];exact (Kd.R_reads' HO_713000.out).2.1);(case s3=>repeat (first | exact (Kd.R_reads' HO_713001.out).2.2 | (with_reducible refine Kd.C_alloc ?_ _) | (with_reducible refine Kd.C_drewN ?_ _) | (with_reducible refine Kd.C_drew ?_)));(case s4=>rw [show t737.length=t706.length from (Kd.R_reads' HO_713001.out).1.symm];exact (Kd.R_reads' HO_713001.out).2.1);rintro e w175 ⟨rfl,hb⟩;refine ⟨_,rfl,?_⟩;refine as22_ (Kd.R_below (z0_ HO_689000.out) hb) (Kd.R_below (z0_ HO_689001.out) hb) (Kd.R_below (z0_ HO_696000.out) hb) (Kd.R_below (z0_ HO_696001.out) hb) (Kd.R_below (z0_ HO_703000.out) hb) (Kd.R_below (z0_ HO_703001.out) hb) (Kd.R_below (z0_ HO_713000.out) hb) (Kd.R_below (z0_ HO_713001.out) hb) (Kd.R_below (z0_ HO741.out) hb) (Kd.R_below (z0_ HO744.out) hb) (Kd.R_below (z0_ HO747.out) hb) (Kd.R_below (z0_ HO750.out) hb) (Kd.R_below (z0_ HO753.out) hb) (Kd.R_below (z0_ HO756.out) hb) (blkB_ BK663.out hb) (blkB_ BK664.out hb) (blkB_ BK688.out hb) (blkB_ BK695.out hb) (blkB_ BK702.out hb) (blkB_ BK712.out hb) (blkB_ BK760.out hb) (below_step (z20_ HB.out GE663.out GE664.out GE688.out GE695.out GE702.out GE712.out GE760.out) hb) ?_;clear HO_689000 HO_689001 HO_696000 HO_696001 HO_703000 HO_703001 HO_713000 HO_713001 HO741 HO744 HO747 HO750 HO753 HO756 BK663 BK664 BK688 BK695 BK702 BK712 BK760 HB;intro HO_689000 HO_689001 HO_696000 HO_696001 HO_703000 HO_703001 HO_713000 HO_713001 HO741 HO744 HO747 HO750 HO753 HO756 BK663 BK664 BK688 BK695 BK702 BK712 BK760 HB;(try clear hb)))
              go_ret
              exact ⟨z8_,z20_ HB.out GE663.out GE664.out GE688.out GE695.out GE702.out GE712.out GE760.out⟩
             ·rw [if_neg c134] at H
              exact absurd H (by simp)
           ·replace c131:=Bool.eq_false_iff.mpr c131
            subst c131
            have H1:(none)=some r:=by rw [if_neg (show ¬ (false=true) by decide)] at H;exact H
            clear H
            have H:=H1
            clear H1
            exact absurd H (by simp)
          ·rw [if_neg c126] at H
           exact absurd H (by simp)
     ·replace c32:=Bool.eq_false_iff.mpr c32
      subst c32
      have H1:(none)=some r:=by rw [if_neg (show ¬ (false=true) by decide)] at H;exact H
      clear H
      have H:=H1
      clear H1
      exact absurd H (by simp)
    ·replace c29:=Bool.eq_false_iff.mpr c29
     subst c29
     have H1:(none)=some r:=by rw [if_neg (show ¬ (false=true) by decide)] at H;exact H
     clear H
     have H:=H1
     clear H1
     exact absurd H (by simp)
   ·replace c26:=Bool.eq_false_iff.mpr c26
    subst c26
    have H1:(none)=some r:=by rw [if_neg (show ¬ (false=true) by decide)] at H;exact H
    clear H
    have H:=H1
    clear H1
    exact absurd H (by simp)

end Go.Proofs.Ytphbgcfpcadabaa.P

namespace Go.Proofs.Ytphbgcfpcadabaa.P
open Go.RowKit Go.Proofs.Ytphbgcfpcadabaa.RO
def laws_FnExactSetSync.Pure:Prop:=∀ (x0:S32) (x1:S32),wfT32 x0→wfT32 x1→∃ k,laws_FnExactSetSync.f k x0.f0 x0.f1 x1.f0 x1.f1=some true
end Go.Proofs.Ytphbgcfpcadabaa.P

namespace Go.Proofs.Ytphbgcfpcadabaa.Q
open Go.RowKit Go.Proofs.YtphbgcfpcadabaaW.PrintWords Go.Proofs.YtphbgcfpcadabaaW.PrintMore

theorem w64 {x:Int} (h0 : -9223372036854775808≤x) (h1:x≤9223372036854775807):wrap64 x=x:=by unfold wrap64;omega
theorem u64w (n:Int):IntKind.u64.wrap n=n % 18446744073709551616:=by simp [IntKind.wrap,IntKind.bits,IntKind.signed]
theorem evIte {α:Type} {c:Prop} [Decidable c] {f g:Nat→Option α} {r:α} (h:c→Ev f r) (h':¬ c→Ev g r):Ev (fun k=>if c then f k else g k) r:=by
  by_cases hc:c
  · simp only [if_pos hc];exact h hc
  · simp only [if_neg hc];exact h' hc
theorem evPos {α:Type} {c:Prop} [Decidable c] {f g:Nat→Option α} {r:α} (hc:c) (h:Ev f r):Ev (fun k=>if c then f k else g k) r:=by
  simp only [if_pos hc];exact h
theorem evNeg {α:Type} {c:Prop} [Decidable c] {f g:Nat→Option α} {r:α} (hc:¬ c) (h:Ev g r):Ev (fun k=>if c then f k else g k) r:=by
  simp only [if_neg hc];exact h
theorem evBind1 {α β:Type} {g:Option α} {f:Nat→α→Option β} {a:α} {r:β} (h:g=some a) (k:Ev (fun n=>f n a) r):Ev (fun n=>g.bind (f n)) r:=by
  subst h;exact k
theorem dropCons {α:Type} {l:List α} {i:Nat} {a:α} {s:List α} (h:l.drop i=a :: s) (d:α):i<l.length∧l.getD i d=a∧l.drop (i+1)=s:=by
  have hl:i<l.length:=by
    have:=congrArg List.length h
    simp at this;omega
  rw [List.drop_eq_getElem_cons hl] at h
  injection h with h1 h2
  exact ⟨hl,by rw [List.getD_eq_getElem?_getD,List.getElem?_eq_getElem hl];exact h1,h2⟩
theorem dropNil {α:Type} {l:List α} {i:Nat} (h:l.drop i=[]):l.length≤i:=by
  have:=congrArg List.length h
  simp at this;omega
theorem dropNil' {α:Type} {l:List α} {i:Nat} (h:l.drop i=[]) (hi:i≤l.length):l.length=i:=by
  have:=dropNil h;omega
end Go.Proofs.Ytphbgcfpcadabaa.Q

namespace Go.Proofs.Ytphbgcfpcadabaa.P
open Go.RowKit Go.Proofs.YtphbgcfpcadabaaW.PrintWords Go.Proofs.YtphbgcfpcadabaaW.PrintLast Go.Proofs.YtphbgcfpcadabaaW.PrintMore
attribute [local go_sem] max2_int min2_int max_two min_two max_three min_three max_four min_four   -- for this text's walks alone
set_option linter.unusedVariables false
set_option linter.unusedSimpArgs false

/-! ### impl_isMany_impl_Mark: function 75 -/
def impl_isMany_impl_Mark.f (l0:List (S56)):Option (Bool):=some (decide ((l0.length:Int)>400))
end Go.Proofs.Ytphbgcfpcadabaa.P

namespace Go.Proofs.Ytphbgcfpcadabaa.Q
open Go.RowKit Go.Proofs.Ytphbgcfpcadabaa.P Go.Proofs.YtphbgcfpcadabaaW.PrintWords Go.Proofs.YtphbgcfpcadabaaW.PrintMore

abbrev Mark:=S56
def isWithin (n low high:Int):Bool:=decide (low≤n) && decide (n≤high)
def isNode (n:Int):Bool:=isWithin n 1 5
def isDot (a b:Int):Bool:=isNode a && isWithin b 1 1000000
theorem l02Is_is (n a b:Int):spec_l02Is.f n a b=some (isWithin n a b):=by
  unfold spec_l02Is.f isWithin
  split
  · rename_i h;simp [show a≤n from h]
  · rename_i h;simp [show ¬ a≤n from h]
theorem l02Node_is (n:Int):spec_l02Node.f n=some (isNode n):=by simp [spec_l02Node.f,l02Is_is,isNode]
theorem l02Dot_is (a b:Int):spec_l02Dot.f a b=some (isDot a b):=by
  simp only [spec_l02Dot.f,l02Node_is,l02Is_is,isDot,Option.bind_some]
  cases isNode a <;> simp
theorem within_is (n a b:Int):impl_within.f n a b=some (isWithin n a b):=by
  unfold impl_within.f isWithin
  split
  · rename_i h;simp [show a≤n from h]
  · rename_i h;simp [show ¬ a≤n from h]
theorem isNode_is (n:Int):impl_isNode.f n=some (isNode n):=by simp [impl_isNode.f,within_is,isNode]
theorem isDot_is (a b:Int):impl_isDot.f a b=some (isDot a b):=by
  simp only [impl_isDot.f,isNode_is,within_is,isDot,Option.bind_some]
  cases isNode a <;> simp
/-- Dots whose nodes rise from above p. -/
def okFrom:Int→List Mark→Bool
  | _,[]=>true
  | p,m :: r=>isDot m.f0 m.f1 && (decide (p<m.f0) && okFrom m.f0 r)
def seenOk (v:List Mark):Bool:=okFrom 0 v
theorem isDot_iff (a b:Int):isDot a b=true ↔ (1≤a∧a≤5)∧1≤b∧b≤1000000:=by simp [isDot,isNode,isWithin]
/-- The node ahead of place i. -/
def prevAt (l:List Mark) (i:Nat):Int:=if i=0 then 0 else (l.getD (i-1) z56).f0
theorem prevAt_succ {l:List Mark} {i:Nat} {m:Mark} (h:l.getD i z56=m):prevAt l (i+1)=m.f0:=by
  simp only [prevAt,Nat.add_sub_cancel,h]
  simp
theorem impl_seenRight_l0 (l:List Mark) (hl:l.length≤4611686018427387904):∀ (s:List Mark) (i:Nat),l.drop i=s→i≤l.length→0≤prevAt l i →
    Ev (fun k=>impl_seenRight.l0 k l l (l.length:Int) (i:Int)) (okFrom (prevAt l i) s)
  | [],i,h,hi,hp=>by
    have:=dropNil' h hi
    refine Ev.step (f:=fun _=>some true) (fun k=>?_) (Ev.now _)
    simp only [impl_seenRight.l0]
    rw [if_neg (by omega)]
  | m :: s,i,h,hi,hp=>by
    obtain ⟨h1,h2,h3⟩:=dropCons h z56
    have hr:rd_T56 l (i:Int)=m:=by simpa [rd_T56] using h2
    have ih:=fun hq=>impl_seenRight_l0 l hl s (i+1) h3 (by omega) hq
    rw [prevAt_succ h2] at ih
    by_cases hd:isDot m.f0 m.f1=true
    · have hd':=(isDot_iff _ _).1 hd
      by_cases hlt:prevAt l i<m.f0
      · have ih:=ih (by omega)
        refine Ev.step (fun k=>?_) (show Ev _ (okFrom (prevAt l i) (m :: s)) from by simp only [okFrom,hd,hlt,decide_true,Bool.true_and];exact ih)
        simp only [impl_seenRight.l0,hr,isDot_is,Option.bind_some]
        rw [if_pos (by omega),if_pos (by omega),if_pos (by omega),if_pos hd,w64 (x:=(i:Int)+1) (by omega) (by omega)]
        by_cases hi0:i=0
        · subst hi0
          rw [if_neg (by omega)];rfl
        · have hq:rd_T56 l ((i:Int)-1)=l.getD (i-1) z56:=by
            simp only [rd_T56];congr 1;omega
          rw [w64 (x:=(i:Int)-1) (by omega) (by omega),if_pos (by omega),if_pos (by omega),if_pos (by omega),hq,if_neg (by simp only [prevAt,if_neg hi0] at hlt;omega)]
          rfl
      · refine Ev.step (f:=fun _=>some false) (fun k=>?_) (show Ev _ (okFrom (prevAt l i) (m :: s)) from by simp only [okFrom,hd,hlt,decide_false,Bool.false_and,Bool.and_false];exact Ev.now _)
        have hi0:i≠0:=by
          intro e;subst e
          simp [prevAt] at hlt;omega
        have hq:rd_T56 l ((i:Int)-1)=l.getD (i-1) z56:=by
          simp only [rd_T56];congr 1;omega
        simp only [impl_seenRight.l0,hr,isDot_is,Option.bind_some]
        rw [if_pos (by omega),if_pos (by omega),if_pos (by omega),if_pos hd,w64 (x:=(i:Int)-1) (by omega) (by omega),if_pos (by omega),if_pos (by omega),if_pos (by omega),hq,
          if_pos (by simp only [prevAt,if_neg hi0] at hlt;omega)]
    · refine Ev.step (f:=fun _=>some false) (fun k=>?_) (show Ev _ (okFrom (prevAt l i) (m :: s)) from by simp only [okFrom,Bool.eq_false_iff.mpr hd,Bool.false_and];exact Ev.now _)
      simp only [impl_seenRight.l0,hr,isDot_is,Option.bind_some]
      rw [if_pos (by omega),if_pos (by omega),if_pos (by omega),if_neg hd]
theorem impl_seenRight_ev (l:List Mark) (hl:l.length≤4611686018427387904):Ev (fun k=>impl_seenRight.f k l) (seenOk l) :=
  impl_seenRight_l0 l hl l 0 rfl (by omega) (by simp [prevAt])
theorem spec_SeenRight_l0 (l:List Mark) (hl:l.length≤4611686018427387904):∀ (s:List Mark) (i:Nat),l.drop i=s→i≤l.length→(i:Int)≤prevAt l i→prevAt l i≤5 →
    Ev (fun k=>spec_SeenRight.l0 k l (i:Int)) (okFrom (prevAt l i) s)
  | [],i,h,hi,hp,hp5=>by
    have:=dropNil' h hi
    refine Ev.step (f:=fun k=>spec_SeenRight.j1 k l (i:Int) false) (fun k=>?_) (Ev.step (f:=fun _=>some true) (fun k=>?_) (Ev.now _))
    · simp only [spec_SeenRight.l0]
      rw [if_neg (by omega)]
    · simp only [spec_SeenRight.j1]
      rw [if_neg (by simp)]
      congr 1
      simp;omega
  | m :: s,i,h,hi,hp,hp5=>by
    obtain ⟨h1,h2,h3⟩:=dropCons h z56
    have hr:rd_T56 l (i:Int)=m:=by simpa [rd_T56] using h2
    have ih:=fun hq=>spec_SeenRight_l0 l hl s (i+1) h3 (by omega) hq
    rw [prevAt_succ h2] at ih
    have hj:decide ((i:Int)≤5)=true:=by simp;omega
    have hl0:∀ k,spec_SeenRight.l0 (k+1) l (i:Int)=spec_SeenRight.j1 k l (i:Int) true:=fun k=>by
      simp only [spec_SeenRight.l0]
      rw [if_pos (by omega),hj]
    by_cases hd:isDot m.f0 m.f1=true
    · have hd':=(isDot_iff _ _).1 hd
      by_cases hlt:prevAt l i<m.f0
      · have ih:=ih (by omega) (by omega)
        refine Ev.step hl0 (Ev.step (fun k=>?_) (show Ev _ (okFrom (prevAt l i) (m :: s)) from by simp only [okFrom,hd,hlt,decide_true,Bool.true_and];exact ih))
        simp only [spec_SeenRight.j1,hr,l02Dot_is,Option.bind_some]
        rw [if_pos trivial,if_pos (by omega),if_pos (by omega),if_pos hd,w64 (x:=(i:Int)+1) (by omega) (by omega)]
        by_cases hi0:i=0
        · subst hi0
          rw [if_neg (by omega)];rfl
        · have hq:rd_T56 l ((i:Int)-1)=l.getD (i-1) z56:=by
            simp only [rd_T56];congr 1;omega
          rw [w64 (x:=(i:Int)-1) (by omega) (by omega),if_pos (by omega),if_pos (by omega),if_pos (by omega),hq,if_neg (by simp only [prevAt,if_neg hi0] at hlt;omega)]
          rfl
      · refine Ev.step hl0 (Ev.step (f:=fun _=>some false) (fun k=>?_) (show Ev _ (okFrom (prevAt l i) (m :: s)) from by simp only [okFrom,hd,hlt,decide_false,Bool.false_and,Bool.and_false];exact Ev.now _))
        have hi0:i≠0:=by
          intro e;subst e
          simp [prevAt] at hlt;omega
        have hq:rd_T56 l ((i:Int)-1)=l.getD (i-1) z56:=by
          simp only [rd_T56];congr 1;omega
        simp only [spec_SeenRight.j1,hr,l02Dot_is,Option.bind_some]
        rw [if_pos trivial,if_pos (by omega),if_pos (by omega),if_pos hd,w64 (x:=(i:Int)-1) (by omega) (by omega),if_pos (by omega),if_pos (by omega),if_pos (by omega),hq,
          if_pos (by simp only [prevAt,if_neg hi0] at hlt;omega)]
    · refine Ev.step hl0 (Ev.step (f:=fun _=>some false) (fun k=>?_) (show Ev _ (okFrom (prevAt l i) (m :: s)) from by simp only [okFrom,Bool.eq_false_iff.mpr hd,Bool.false_and];exact Ev.now _))
      simp only [spec_SeenRight.j1,hr,l02Dot_is,Option.bind_some]
      rw [if_pos trivial,if_pos (by omega),if_pos (by omega),if_neg hd]
theorem spec_SeenRight_ev (l:List Mark) (hl:l.length≤4611686018427387904):Ev (fun k=>spec_SeenRight.f k l) (seenOk l) :=
  spec_SeenRight_l0 l hl l 0 rfl (by omega) (by simp [prevAt]) (by simp [prevAt])
end Go.Proofs.Ytphbgcfpcadabaa.Q

namespace Go.Proofs.Ytphbgcfpcadabaa.Q
open Go.RowKit Go.Proofs.Ytphbgcfpcadabaa.P Go.Proofs.YtphbgcfpcadabaaW.PrintWords Go.Proofs.YtphbgcfpcadabaaW.PrintMore

abbrev LMark:=S100
def toMark (m:LMark):Mark:=⟨m.f0,m.f1⟩
theorem szMarkS_is (l:List LMark) (n:Int) (h0:0≤n) (h1:n≤1048576) (hl:l.length≤9223372036854775807) :
    laws_szMarkS.f l n=some (if n<(l.length:Int) then -1 else n-(l.length:Int)):=by
  unfold laws_szMarkS.f
  rw [w64 (by omega) (by omega)]
  split
  · rw [if_pos (by omega)]
  · rw [if_neg (by omega)]
theorem toMarkS_l0 (l:List LMark) (hl:l.length≤1048576):∀ (s:List LMark) (i:Nat),l.drop i=s→i≤l.length→∀ (acc:List Mark),acc.length=l.length→acc.take i=(l.take i).map toMark →
    Ev (fun k=>laws_toMarkS.l0 k l acc (i:Int)) (l.map toMark)
  | [],i,h,hi,acc,ha,hc=>by
    have:=dropNil' h hi
    refine Ev.step (f:=fun _=>some (l.map toMark)) (fun k=>?_) (Ev.now _)
    simp only [laws_toMarkS.l0]
    rw [if_neg (by omega)]
    rw [← this,List.take_of_length_le (by omega),List.take_length] at hc
    rw [hc]
  | m :: s,i,h,hi,acc,ha,hc=>by
    obtain ⟨h1,h2,h3⟩:=dropCons h z100
    have hr:rd_T100 l (i:Int)=m:=by simpa [rd_T100] using h2
    have hm:l[i]'h1=m:=by
      rw [List.getD_eq_getElem?_getD,List.getElem?_eq_getElem h1] at h2;exact h2
    refine Ev.step (fun k=>?_) (toMarkS_l0 l hl s (i+1) h3 (by omega) (acc.set i (toMark m)) (by simpa using ha) (by
      rw [List.take_succ_eq_append_getElem (by simp;omega),List.take_succ_eq_append_getElem h1,List.map_append,List.take_set_of_le (by omega),hc]
      simp [hm]))
    simp only [laws_toMarkS.l0,laws_toMark.f,hr,Option.bind_some,Int.toNat_natCast]
    rw [if_pos (by omega),if_pos (by omega),if_pos (by omega),w64 (by omega) (by omega)]
    rfl
theorem toMarkS_ev (l:List LMark) (hl:l.length≤1048576):Ev (fun k=>laws_toMarkS.f k l) (l.map toMark):=by
  unfold laws_toMarkS.f
  refine evPos (by omega) (evPos (by omega) ?_)
  exact toMarkS_l0 l hl l 0 rfl (by omega) _ (by simp) (by simp)
theorem eqMark_refl (a b:Int):laws_eqMark.f a b a b=some true:=by simp [laws_eqMark.f]
theorem eqMarkS_l0 (l:List Mark) (hl:l.length≤4611686018427387904):∀ (s:List Mark) (i:Nat),l.drop i=s→i≤l.length →
    Ev (fun k=>laws_eqMarkS.l0 k l l (i:Int)) true
  | [],i,h,hi=>by
    have:=dropNil' h hi
    refine Ev.step (f:=fun _=>some true) (fun k=>?_) (Ev.now _)
    simp only [laws_eqMarkS.l0]
    rw [if_neg (by omega)]
  | m :: s,i,h,hi=>by
    obtain ⟨h1,h2,h3⟩:=dropCons h z56
    refine Ev.step (fun k=>?_) (eqMarkS_l0 l hl s (i+1) h3 (by omega))
    simp only [laws_eqMarkS.l0,eqMark_refl,Option.bind_some]
    rw [if_pos (by omega),if_pos (by omega),if_pos (by omega),if_pos trivial,w64 (by omega) (by omega)]
    rfl
theorem eqMarkS_ev (l:List Mark) (hl:l.length≤4611686018427387904):Ev (fun k=>laws_eqMarkS.f k l l) true:=by
  unfold laws_eqMarkS.f
  exact evPos rfl (eqMarkS_l0 l hl l 0 rfl (by omega))
end Go.Proofs.Ytphbgcfpcadabaa.Q

namespace Go.Proofs.Ytphbgcfpcadabaa.Q
open Go.RowKit Go.Proofs.Ytphbgcfpcadabaa.P Go.Proofs.YtphbgcfpcadabaaW.PrintWords Go.Proofs.YtphbgcfpcadabaaW.PrintMore

theorem getD_mid {α:Type} (pre:List α) (m:α) (s:List α) (d:α):(pre ++ m :: s).getD pre.length d=m:=by
  rw [List.getD_eq_getElem?_getD,List.getElem?_append_right (Nat.le_refl _),Nat.sub_self];rfl
theorem set_mid {α:Type} (pre:List α) (m x:α) (s:List α):(pre ++ m :: s).set pre.length x=pre ++ x :: s:=by
  rw [List.set_append_right _ _ (Nat.le_refl _),Nat.sub_self];rfl
def markL:Int→List Mark→List Mark
  | _,[]=>[]
  | n,_ :: r=>⟨n,n+1⟩ :: markL (n+2) r
theorem markMarkS_l0 (N:Int) (hN:N≤1152921504606846976):∀ (s pre:List Mark) (n:Int),0≤n→n+2*(s.length:Int)≤N→(pre.length:Int)+s.length≤N →
    Ev (fun k=>laws_markMarkS.l0 k (pre ++ s) n (pre.length:Int)) (n+2*(s.length:Int),pre ++ markL n s)
  | [],pre,n,h0,h1,h2=>by
    refine Ev.step (f:=fun _=>some (n,pre)) (fun k=>?_) (by simp [markL];exact Ev.now _)
    simp only [laws_markMarkS.l0,List.append_nil]
    rw [if_neg (by omega)]
  | m :: s,pre,n,h0,h1,h2=>by
    simp only [List.length_cons] at h1 h2
    have ih:=markMarkS_l0 N hN s (pre ++ [⟨n,n+1⟩]) (n+2) (by omega) (by omega) (by simp;omega)
    simp only [List.length_append,List.length_cons,List.length_nil,List.append_assoc,List.cons_append,List.nil_append] at ih
    refine Ev.step (fun k=>?_) (show Ev _ (n+2*((m :: s).length:Int),pre ++ markL n (m :: s)) from by
      simp only [markL,List.length_cons]
      rw [show n+2*((s.length+1:Nat):Int)=n+2+2*(s.length:Int) from by omega]
      exact ih)
    simp only [laws_markMarkS.l0,Option.bind_some,Int.toNat_natCast,rd_T56,set_mid,getD_mid]
    rw [if_pos (by simp;omega),if_pos (by omega),w64 (x:=n+1) (by omega) (by omega),w64 (x:=n+1+1) (by omega) (by omega),w64 (x:=(pre.length:Int)+1) (by omega) (by omega),show n+1+1=n+2 from by omega]
    rfl
theorem markMarkS_ev (s:List Mark) (n:Int) (h0:0≤n) (h1:n+2*(s.length:Int)≤1152921504606846976):Ev (fun k=>laws_markMarkS.f k s n) (n+2*(s.length:Int),markL n s) :=
  markMarkS_l0 1152921504606846976 (Int.le_refl _) s [] n h0 h1 (by simp;omega)
theorem heldMarkS_l0 (N:Int) (hN:N≤1152921504606846976):∀ (s pre:List Mark) (n:Int),0≤n→n+2*(s.length:Int)≤N→(pre.length:Int)+s.length≤N →
    Ev (fun k=>laws_heldMarkS.l0 k (pre ++ markL n s) n (pre.length:Int)) (n+2*(s.length:Int))
  | [],pre,n,h0,h1,h2=>by
    refine Ev.step (f:=fun _=>some n) (fun k=>?_) (by simp;exact Ev.now _)
    simp only [laws_heldMarkS.l0,markL,List.append_nil]
    rw [if_neg (by omega)]
  | m :: s,pre,n,h0,h1,h2=>by
    simp only [List.length_cons] at h1 h2
    have ih:=heldMarkS_l0 N hN s (pre ++ [⟨n,n+1⟩]) (n+2) (by omega) (by omega) (by simp;omega)
    simp only [List.length_append,List.length_cons,List.length_nil,List.append_assoc,List.cons_append,List.nil_append] at ih
    refine Ev.step (fun k=>?_) (show Ev _ (n+2*((m :: s).length:Int)) from by
      simp only [List.length_cons]
      rw [show n+2*((s.length+1:Nat):Int)=n+2+2*(s.length:Int) from by omega]
      exact ih)
    have hr:rd_T56 (pre ++ markL n (m :: s)) (pre.length:Int)=⟨n,n+1⟩:=by simp only [rd_T56,Int.toNat_natCast,markL,getD_mid]
    simp only [laws_heldMarkS.l0,hr]
    rw [if_pos (by simp [markL];omega),if_pos (by omega),w64 (x:=n+1) (by omega) (by omega),if_pos trivial,if_pos rfl,w64 (x:=n+1+1) (by omega) (by omega),w64 (x:=(pre.length:Int)+1) (by omega) (by omega),show n+1+1=n+2 from by omega]
    rfl
theorem heldMarkS_ev (s:List Mark) (n:Int) (h0:0≤n) (h1:n+2*(s.length:Int)≤1152921504606846976):Ev (fun k=>laws_heldMarkS.f k (markL n s) n) (n+2*(s.length:Int)) :=
  heldMarkS_l0 1152921504606846976 (Int.le_refl _) s [] n h0 h1 (by simp;omega)
end Go.Proofs.Ytphbgcfpcadabaa.Q

namespace Go.Proofs.Ytphbgcfpcadabaa.P
open Go.RowKit Go.Proofs.YtphbgcfpcadabaaW.PrintWords Go.Proofs.YtphbgcfpcadabaaW.PrintLast Go.Proofs.YtphbgcfpcadabaaW.PrintMore
attribute [local go_sem] max2_int min2_int max_two min_two max_three min_three max_four min_four   -- for this text's walks alone
set_option linter.unusedVariables false
set_option linter.unusedSimpArgs false

/-! ### impl_isLong_1: function 104 -/
def impl_isLong_1.f (a0:ByteArray):Option (Bool):=some (decide ((a0.size:Int)>8000))

/-! ### slices_IndexFunc_string_string_impl_isLong_1: function 112 -/
def slices_IndexFunc_string_string_impl_isLong_1.l0:Nat→List ByteArray→Int→Int→Option (Int)
 | 0,_,_,_=>none
 | k+1,x0,x7,x8=>if x8<x7 then (if 0≤x8 then (if x8<(x0.length:Int) then ((impl_isLong_1.f (rdOf ByteArray.empty x0 x8)).bind fun t826=>(if t826=true then (some x8) else (slices_IndexFunc_string_string_impl_isLong_1.l0 k x0 x7 (wrap64 (x8+1))))) else (none)) else (none)) else (some (-1))
def slices_IndexFunc_string_string_impl_isLong_1.f (k:Nat) (l0:List ByteArray)  : Option (Int):=slices_IndexFunc_string_string_impl_isLong_1.l0 k l0 (l0.length:Int) 0
theorem slices_IndexFunc_string_string_impl_isLong_1.mono_l:∀ k,(∀ y0 y1 y2,LeO (slices_IndexFunc_string_string_impl_isLong_1.l0 k y0 y1 y2) (slices_IndexFunc_string_string_impl_isLong_1.l0 (k+1) y0 y1 y2))
 | 0=>fun _ _ _ r h=>by simp [slices_IndexFunc_string_string_impl_isLong_1.l0] at h
 | k+1=>by
  have ih0:=slices_IndexFunc_string_string_impl_isLong_1.mono_l k
  ·intro y0 y1 y2
   unfold slices_IndexFunc_string_string_impl_isLong_1.l0
   repeat' first
   | (with_reducible exact ih0 _ _ _)
   | (with_reducible exact LeO.refl _)
   | (with_reducible exact LeO.none _)
   | (with_reducible refine LeO.ite ?_ ?_)
   | (with_reducible refine LeO.bind ?_ (fun _=>?_))
   | exact ih0 _ _ _
   | exact LeO.none _
   | refine LeO.ite ?_ ?_
   | refine LeO.bind ?_ (fun _=>?_)
theorem slices_IndexFunc_string_string_impl_isLong_1.mono:∀ a0 k,LeO (slices_IndexFunc_string_string_impl_isLong_1.f k a0) (slices_IndexFunc_string_string_impl_isLong_1.f (k+1) a0):=by
 intro a0 k
 have ih0:=slices_IndexFunc_string_string_impl_isLong_1.mono_l k
 unfold slices_IndexFunc_string_string_impl_isLong_1.f
 repeat' first
   | (with_reducible exact ih0 _ _ _)
   | (with_reducible exact LeO.refl _)
   | (with_reducible exact LeO.none _)
   | (with_reducible refine LeO.ite ?_ ?_)
   | (with_reducible refine LeO.bind ?_ (fun _=>?_))
   | exact ih0 _ _ _
   | exact LeO.none _
   | refine LeO.ite ?_ ?_
   | refine LeO.bind ?_ (fun _=>?_)

/-! ### slices_ContainsFunc_string_string_impl_isLong_1: function 103 -/
def slices_ContainsFunc_string_string_impl_isLong_1.f (k:Nat) (l0:List ByteArray)  : Option (Bool):=(slices_IndexFunc_string_string_impl_isLong_1.f k l0).bind fun t827=>(some (decide (t827≥0)))
theorem slices_ContainsFunc_string_string_impl_isLong_1.mono:∀ a0 k,LeO (slices_ContainsFunc_string_string_impl_isLong_1.f k a0) (slices_ContainsFunc_string_string_impl_isLong_1.f (k+1) a0):=by
 intro a0 k
 unfold slices_ContainsFunc_string_string_impl_isLong_1.f
 repeat' first
   | (with_reducible exact slices_IndexFunc_string_string_impl_isLong_1.mono _ _)
   | (with_reducible exact LeO.refl _)
   | (with_reducible exact LeO.none _)
   | (with_reducible refine LeO.ite ?_ ?_)
   | (with_reducible refine LeO.bind ?_ (fun _=>?_))
   | exact slices_IndexFunc_string_string_impl_isLong_1.mono _ _
   | exact LeO.none _
   | refine LeO.ite ?_ ?_
   | refine LeO.bind ?_ (fun _=>?_)

/-! ### impl_isLong: function 76 -/
def impl_isLong.f (k:Nat) (l0:List ByteArray):Option (Bool):=(slices_ContainsFunc_string_string_impl_isLong_1.f k l0).bind fun t828=>(some t828)
theorem impl_isLong.mono:∀ a0 k,LeO (impl_isLong.f k a0) (impl_isLong.f (k+1) a0):=by
 intro a0 k
 unfold impl_isLong.f
 repeat' first
   | (with_reducible exact slices_ContainsFunc_string_string_impl_isLong_1.mono _ _)
   | (with_reducible exact LeO.refl _)
   | (with_reducible exact LeO.none _)
   | (with_reducible refine LeO.ite ?_ ?_)
   | (with_reducible refine LeO.bind ?_ (fun _=>?_))
   | exact slices_ContainsFunc_string_string_impl_isLong_1.mono _ _
   | exact LeO.none _
   | refine LeO.ite ?_ ?_
   | refine LeO.bind ?_ (fun _=>?_)

/-! ### impl_size: function 79 -/
def impl_size.f (a0:ByteArray):Option (Int):=some (a0.size:Int)
end Go.Proofs.Ytphbgcfpcadabaa.P

namespace Go.Proofs.Ytphbgcfpcadabaa.Q
open Go.RowKit Go.Proofs.Ytphbgcfpcadabaa.P Go.Proofs.YtphbgcfpcadabaaW.PrintWords Go.Proofs.YtphbgcfpcadabaaW.PrintMore

def seenOf:List Mark→Int→Int
  | [],_=>0
  | m :: r,n=>if m.f0=n then m.f1 else seenOf r n
theorem l02Of_l0 (l:List Mark) (n:Int) (hl:l.length≤4611686018427387904):∀ (s:List Mark) (i:Nat),l.drop i=s→i≤l.length→Ev (fun k=>spec_l02Of.l0 k l n (i:Int)) (seenOf s n)
  | [],i,h,hi=>by
    have:=dropNil' h hi
    refine Ev.step (f:=fun _=>some 0) (fun k=>?_) (Ev.now _)
    simp only [spec_l02Of.l0]
    rw [if_neg (by omega)]
  | m :: s,i,h,hi=>by
    obtain ⟨h1,h2,h3⟩:=dropCons h z56
    have hr:rd_T56 l (i:Int)=m:=by simpa [rd_T56] using h2
    refine Ev.step (f:=fun k=>if m.f0=n then some m.f1 else spec_l02Of.l0 k l n ((i+1:Nat):Int)) (fun k=>?_) ?_
    · simp only [spec_l02Of.l0,hr]
      rw [if_pos (by omega),if_pos (by omega),w64 (by omega) (by omega)]
      rfl
    · simp only [seenOf]
      refine evIte (fun h=>?_) (fun h=>?_)
      · rw [if_pos h];exact Ev.now _
      · rw [if_neg h];exact l02Of_l0 l n hl s (i+1) h3 (by omega)
theorem l02Of_ev (l:List Mark) (n:Int) (hl:l.length≤4611686018427387904):Ev (fun k=>spec_l02Of.f k l n) (seenOf l n):=l02Of_l0 l n hl l 0 rfl (by omega)
theorem seenOf_l0 (l:List Mark) (n:Int) (hl:l.length≤4611686018427387904):∀ (s:List Mark) (i:Nat),l.drop i=s→i≤l.length→Ev (fun k=>impl_seenOf.l0 k n l (l.length:Int) (i:Int)) (seenOf s n)
  | [],i,h,hi=>by
    have:=dropNil' h hi
    refine Ev.step (f:=fun _=>some 0) (fun k=>?_) (Ev.now _)
    simp only [impl_seenOf.l0]
    rw [if_neg (by omega)]
  | m :: s,i,h,hi=>by
    obtain ⟨h1,h2,h3⟩:=dropCons h z56
    have hr:rd_T56 l (i:Int)=m:=by simpa [rd_T56] using h2
    refine Ev.step (f:=fun k=>if m.f0=n then some m.f1 else impl_seenOf.l0 k n l (l.length:Int) ((i+1:Nat):Int)) (fun k=>?_) ?_
    · simp only [impl_seenOf.l0,hr]
      rw [if_pos (by omega),if_pos (by omega),if_pos (by omega),w64 (by omega) (by omega)]
      rfl
    · simp only [seenOf]
      refine evIte (fun h=>?_) (fun h=>?_)
      · rw [if_pos h];exact Ev.now _
      · rw [if_neg h];exact seenOf_l0 l n hl s (i+1) h3 (by omega)
theorem seenOf_ev (l:List Mark) (n:Int) (hl:l.length≤4611686018427387904):Ev (fun k=>impl_seenOf.f k l n) (seenOf l n):=seenOf_l0 l n hl l 0 rfl (by omega)
def seenHas (l:List Mark) (a b:Int):Bool:=decide (b≤seenOf l a)
def seenHasOut (l:List Mark) (a b:Int):Bool:=seenOk l && (isDot a b && seenHas l a b)
theorem seenHas_ev (l:List Mark) (a b:Int) (hl:l.length≤4611686018427387904):Ev (fun k=>impl_seenHas.f k l a b) (seenHas l a b):=Ev.bind (seenOf_ev l a hl) (Ev.now _)
theorem spec_SeenHas_ev (l:List Mark) (a b:Int) (hl:l.length≤4611686018427387904):Ev (fun k=>spec_SeenHas.f k l a b) (seenHasOut l a b):=by
  unfold spec_SeenHas.f seenHasOut
  refine Ev.bind (spec_SeenRight_ev l hl) ?_
  cases seenOk l with
  | false=>exact evNeg (by simp) (Ev.now _)
  | true =>
    refine evPos rfl (evBind1 (l02Dot_is a b) ?_)
    cases isDot a b with
    | false=>exact evNeg (by simp) (Ev.now _)
    | true=>exact evPos rfl (Ev.bind (l02Of_ev l a hl) (Ev.now _))
/-- The join at the nodes from one on. -/
def joinFrom (a b:List Mark):Nat→Int→List Mark
  | 0,_=>[]
  | f+1,n=>(if mx (seenOf a n) (seenOf b n)>0 then [⟨n,mx (seenOf a n) (seenOf b n)⟩] else []) ++ joinFrom a b f (n+1)
def seenJoin (a b:List Mark):List Mark:=joinFrom a b 5 1
theorem l01Max_is (a b:Int):spec_l01Max.f a b=some (mx a b):=by
  unfold spec_l01Max.f mx
  by_cases h:a>b
  · rw [if_pos h,if_neg (by omega)]
  · rw [if_neg h]
    by_cases h2:a<b
    · rw [if_pos h2]
    · rw [if_neg h2,show a=b from by omega]
theorem l02Join_l0 (a b:List Mark) (ha:a.length≤4611686018427387904) (hb:b.length≤4611686018427387904):∀ (f:Nat) (n:Int),n+f=6→f≤5→∀ acc:List Mark,acc.length+f≤5→Ev (fun k=>spec_l02Join.l0 k a b acc n) (acc ++ joinFrom a b f n)
  | 0,n,hn,hf,acc,hacc=>by
    refine Ev.step (f:=fun _=>some acc) (fun k=>?_) (by simp only [joinFrom,List.append_nil];exact Ev.now _)
    simp only [spec_l02Join.l0]
    rw [if_neg (by omega)]
  | f+1,n,hn,hf,acc,hacc=>by
    refine Ev.step (fun k=>by simp only [spec_l02Join.l0];rw [if_pos (show n≤5 by omega),w64 (x:=n+1) (by omega) (by omega)]) (Ev.bind (l02Of_ev a n ha) (Ev.bind (l02Of_ev b n hb) (evBind1 (l01Max_is _ _) ?_)))
    simp only [joinFrom]
    refine evIte (fun h=>?_) (fun h=>?_)
    · rw [if_pos h,← List.append_assoc]
      exact evPos (by omega) (l02Join_l0 a b ha hb f (n+1) (by omega) (by omega) _ (by simp;omega))
    · rw [if_neg h,List.nil_append]
      exact l02Join_l0 a b ha hb f (n+1) (by omega) (by omega) _ (by omega)
theorem l02Join_ev (a b:List Mark) (ha:a.length≤4611686018427387904) (hb:b.length≤4611686018427387904):Ev (fun k=>spec_l02Join.f k a b) (seenJoin a b):=by
  have:=l02Join_l0 a b ha hb 5 1 (by omega) (by omega) [] (by simp)
  simpa [spec_l02Join.f,seenJoin] using this
theorem seenJoin_l0 (a b:List Mark) (ha:a.length≤4611686018427387904) (hb:b.length≤4611686018427387904):∀ (f:Nat) (n:Int),n+f=6→f≤5→∀ acc:List Mark,acc.length+f≤5→Ev (fun k=>impl_seenJoin.l0 k a b acc n) (acc ++ joinFrom a b f n)
  | 0,n,hn,hf,acc,hacc=>by
    refine Ev.step (f:=fun _=>some acc) (fun k=>?_) (by simp only [joinFrom,List.append_nil];exact Ev.now _)
    simp only [impl_seenJoin.l0]
    rw [if_neg (by omega)]
  | f+1,n,hn,hf,acc,hacc=>by
    refine Ev.step (fun k=>by simp only [impl_seenJoin.l0];rw [if_pos (show n≤5 by omega),w64 (x:=n+1) (by omega) (by omega)]) (Ev.bind (seenOf_ev a n ha) (Ev.bind (seenOf_ev b n hb) ?_))
    simp only [joinFrom]
    refine evIte (fun h=>?_) (fun h=>?_)
    · rw [if_pos h,← List.append_assoc]
      exact evPos (by omega) (seenJoin_l0 a b ha hb f (n+1) (by omega) (by omega) _ (by simp;omega))
    · rw [if_neg h,List.nil_append]
      exact seenJoin_l0 a b ha hb f (n+1) (by omega) (by omega) _ (by omega)
theorem seenJoin_ev (a b:List Mark) (ha:a.length≤4611686018427387904) (hb:b.length≤4611686018427387904):Ev (fun k=>impl_seenJoin.f k a b) (seenJoin a b):=by
  have:=seenJoin_l0 a b ha hb 5 1 (by omega) (by omega) [] (by simp)
  simpa [impl_seenJoin.f,seenJoin] using this
theorem joinFrom_length (a b:List Mark):∀ (f:Nat) (n:Int),(joinFrom a b f n).length≤f
  | 0,n=>by simp [joinFrom]
  | f+1,n=>by
    have:=joinFrom_length a b f (n+1)
    simp only [joinFrom]
    split <;> simp <;> omega
end Go.Proofs.Ytphbgcfpcadabaa.Q

namespace Go.Proofs.Ytphbgcfpcadabaa.Q
open Go.RowKit Go.Proofs.Ytphbgcfpcadabaa.P Go.Proofs.YtphbgcfpcadabaaW.PrintWords Go.Proofs.YtphbgcfpcadabaaW.PrintMore

abbrev Sib:=S91
def dotLess (a b c d:Int):Bool:=decide (a<c) || (decide (a=c) && decide (b<d))
def dataOk (t:ByteArray) (gone:Bool):Bool:=decide (t.size≤16) && (!gone || decide (t.toList=[]))
def sibOk (v:List Mark) (x:Sib):Bool:=isDot x.f0.f0 x.f0.f1 && (seenHas v x.f0.f0 x.f0.f1 && dataOk x.f2 x.f1)
def sibsFrom (v:List Mark):Option Sib→List Sib→Bool
  | _,[]=>true
  | none,x :: r=>sibOk v x && sibsFrom v (some x) r
  | some y,x :: r=>sibOk v x && (dotLess y.f0.f0 y.f0.f1 x.f0.f0 x.f0.f1 && sibsFrom v (some x) r)
def setOk (v:List Mark) (s:List Sib):Bool:=seenOk v && (decide (s.length≤8) && sibsFrom v none s)
/-- The sibling ahead of place i. -/
def prevSib (l:List Sib) (i:Nat):Option Sib:=if i=0 then none else some (l.getD (i-1) z91)
theorem prevSib_succ {l:List Sib} {i:Nat} {x:Sib} (h:l.getD i z91=x):prevSib l (i+1)=some x:=by
  simp only [prevSib,Nat.add_sub_cancel,h]
  simp
theorem l03Less_is (a b c d:Int):spec_l03Less.f a b c d=some (dotLess a b c d):=by
  unfold spec_l03Less.f dotLess
  by_cases h:a<c
  · rw [if_pos h];simp [h]
  · rw [if_neg h]
    by_cases h2:a=c
    · rw [if_pos h2];simp [h2]
    · rw [if_neg h2];simp [h,h2]
def cmpI (a b:Int):Int:=if a<b then -1 else if a>b then 1 else 0
theorem Compare_is (a b:Int):cmp_Compare_int64.f a b=some (cmpI a b):=by
  simp only [cmp_Compare_int64.f,cmp_isNaN_int64.f,cmpI]
  by_cases h:a<b
  · simp [h]
  · by_cases h2:a>b
    · simp [h,h2]
    · simp [h,h2]
theorem Or_ev (x y:Int):Ev (fun k=>cmp_Or_int.f k [x,y]) (if x=0 then y else x):=by
  unfold cmp_Or_int.f
  have hx:rd [x,y] 0=x:=rfl
  have hy:rd [x,y] 1=y:=rfl
  have hl:(([x,y]:List Int).length:Int)=2:=rfl
  rw [hl]
  refine Ev.step (f:=fun k=>if x=0 then cmp_Or_int.l0 k 0 [x,y] 2 1 else some x) (fun k=>?_) ?_
  · simp only [cmp_Or_int.l0,hx,hl]
    rw [if_pos (by omega),if_pos (by omega),if_pos (by omega),w64 (by omega) (by omega)]
    rfl
  · refine evIte (fun h=>?_) (fun h=>?_)
    · rw [if_pos h]
      refine Ev.step (f:=fun k=>if y=0 then cmp_Or_int.l0 k 0 [x,y] 2 2 else some y) (fun k=>?_) ?_
      · simp only [cmp_Or_int.l0,hy,hl]
        rw [if_pos (by omega),if_pos (by omega),if_pos (by omega),w64 (by omega) (by omega)]
        rfl
      · refine evIte (fun h=>?_) (fun h=>Ev.now _)
        refine Ev.step (f:=fun _=>some y) (fun k=>?_) (Ev.now _)
        simp only [cmp_Or_int.l0]
        rw [if_neg (by omega),h]
    · rw [if_neg h];exact Ev.now _
def cmpDots (a b c d:Int):Int:=if cmpI a c=0 then cmpI b d else cmpI a c
theorem compareDots_ev (a b c d:Int):Ev (fun k=>impl_compareDots.f k a b c d) (cmpDots a b c d):=by
  unfold impl_compareDots.f
  exact evBind1 (Compare_is a c) (evBind1 (Compare_is b d) (Ev.bind (Or_ev _ _) (Ev.now _)))
theorem cmpDots_ge (a b c d:Int):decide (cmpDots a b c d≥0)=!dotLess a b c d:=by
  unfold cmpDots cmpI dotLess
  by_cases h1:a<c
  · simp [h1]
  · by_cases h2:a>c
    · have:¬ a=c:=by omega
      simp [h1,h2,this]
    · have:a=c:=by omega
      subst this
      by_cases h3:b<d
      · simp [h3]
      · by_cases h4:b>d
        · simp [h3,h4]
        · simp [h3,h4]
theorem isData_is (t:ByteArray) (g:Bool):impl_isData.f t g=some (dataOk t g):=by
  unfold impl_isData.f dataOk
  by_cases h:(t.size:Int)≤16
  · have h':t.size≤16:=by omega
    rw [if_pos h]
    cases g with
    | true =>
      by_cases e:t.toList=[]
      · simp [h',e]
      · simp [h',e]
    | false=>simp [h']
  · have h':¬ t.size≤16:=by omega
    rw [if_neg h];simp [h']
theorem impl_SetRight_l0 (v:List Mark) (hv:v.length≤4611686018427387904) (l:List Sib) (hl:l.length≤1048576):∀ (s:List Sib) (i:Nat),l.drop i=s→i≤l.length →
    Ev (fun k=>impl_SetRight.l0 k l (l.length:Int) (i:Int) v l) (sibsFrom v (prevSib l i) s)
  | [],i,h,hi=>by
    have:=dropNil' h hi
    refine Ev.step (f:=fun _=>some true) (fun k=>?_) (by simp only [sibsFrom];exact Ev.now _)
    simp only [impl_SetRight.l0]
    rw [if_neg (by omega)]
  | x :: s,i,h,hi=>by
    obtain ⟨h1,h2,h3⟩:=dropCons h z91
    have hr:rd_T91 l (i:Int)=x:=by simpa [rd_T91] using h2
    have ih:=impl_SetRight_l0 v hv l hl s (i+1) h3 (by omega)
    rw [prevSib_succ h2] at ih
    have hj:∀ b:Bool,Ev (fun k=>impl_SetRight.j2 k l (l.length:Int) (i:Int) b v l) (!b && sibsFrom v (some x) s):=fun b=>by
      cases b with
      | true=>exact Ev.step (f:=fun _=>some false) (fun k=>by simp [impl_SetRight.j2]) (Ev.now _)
      | false=>exact Ev.step (fun k=>by simp only [impl_SetRight.j2];rw [if_neg (by simp),w64 (x:=(i:Int)+1) (by omega) (by omega)]) (by simpa using ih)
    have main:∀ (p:Bool) (g:Nat→Option Bool),Ev g (p && sibsFrom v (some x) s)→Ev (fun k=>(impl_isDot.f x.f0.f0 x.f0.f1).bind fun t=>if t=true then ((impl_seenHas.f k v x.f0.f0 x.f0.f1).bind fun t=>if t=true then ((impl_isData.f x.f2 x.f1).bind fun t=>if t=true then g k else impl_SetRight.j2 k l (l.length:Int) (i:Int) true v l) else impl_SetRight.j2 k l (l.length:Int) (i:Int) true v l) else impl_SetRight.j2 k l (l.length:Int) (i:Int) true v l) (sibOk v x && (p && sibsFrom v (some x) s)):=by
      intro p g hg
      unfold sibOk
      refine evBind1 (isDot_is _ _) ?_
      cases isDot x.f0.f0 x.f0.f1 with
      | false=>exact evNeg (by simp) (by simpa using hj true)
      | true =>
        refine evPos rfl (Ev.bind (seenHas_ev v _ _ hv) ?_)
        cases seenHas v x.f0.f0 x.f0.f1 with
        | false=>exact evNeg (by simp) (by simpa using hj true)
        | true =>
          refine evPos rfl (evBind1 (isData_is _ _) ?_)
          cases dataOk x.f2 x.f1 with
          | false=>exact evNeg (by simp) (by simpa using hj true)
          | true=>exact evPos rfl (by simpa using hg)
    by_cases hi0:i=0
    · have hp:prevSib l i=none:=by simp [prevSib,hi0]
      rw [hp]
      have h0:¬ ((i:Int)>0):=by omega
      refine Ev.step (fun k=>?_) (show Ev _ (sibsFrom v none (x :: s)) from by
        have:=main true _ (by simpa using hj false)
        simpa [sibsFrom] using this)
      simp only [impl_SetRight.l0,hr,if_neg h0]
      rw [if_pos (by omega),if_pos (by omega),if_pos (by omega)]
    · have hp:prevSib l i=some (l.getD (i-1) z91):=by simp [prevSib,hi0]
      rw [hp]
      generalize hy:l.getD (i-1) z91=y
      have hq:rd_T91 l ((i:Int)-1)=y:=by
        rw [← hy];simp only [rd_T91];congr 1;omega
      have h0:(i:Int)>0:=by omega
      have hw:wrap64 ((i:Int)-1)=(i:Int)-1:=w64 (by omega) (by omega)
      have hA:(0:Int)≤(i:Int)-1:=by omega
      have hB:(i:Int)-1<(l.length:Int):=by omega
      refine Ev.step (fun k=>?_) (show Ev _ (sibsFrom v (some y) (x :: s)) from by
        have:=main (dotLess y.f0.f0 y.f0.f1 x.f0.f0 x.f0.f1) (fun k=>(impl_compareDots.f k y.f0.f0 y.f0.f1 x.f0.f0 x.f0.f1).bind fun t=>impl_SetRight.j2 k l (l.length:Int) (i:Int) (decide (t≥0)) v l)
          (Ev.bind (compareDots_ev _ _ _ _) (by
            have:=hj (decide (cmpDots y.f0.f0 y.f0.f1 x.f0.f0 x.f0.f1≥0))
            rw [cmpDots_ge] at this ⊢
            simpa using this))
        simpa [sibsFrom] using this)
      simp only [impl_SetRight.l0,hr,if_pos h0,hw,if_pos hA,if_pos hB,hq]
      rw [if_pos (by omega),if_pos (by omega),if_pos (by omega)]
theorem impl_SetRight_ev (v:List Mark) (l:List Sib) (hv:v.length≤4611686018427387904) (hl:l.length≤1048576):Ev (fun k=>impl_SetRight.f k v l) (setOk v l):=by
  unfold impl_SetRight.f setOk
  refine Ev.bind (impl_seenRight_ev v hv) ?_
  cases seenOk v with
  | false=>exact evNeg (by simp) (Ev.step (f:=fun _=>some false) (fun k=>by simp [impl_SetRight.j0]) (Ev.now _))
  | true =>
    refine evPos rfl ?_
    by_cases h:l.length≤8
    · have hd:decide ((l.length:Int)>8)=false:=by simp;omega
      rw [hd]
      refine Ev.step (fun k=>by simp only [impl_SetRight.j0];rw [if_neg (by simp)]) ?_
      simpa [h,prevSib] using impl_SetRight_l0 v hv l hl l 0 rfl (by omega)
    · have hd:decide ((l.length:Int)>8)=true:=by simp;omega
      rw [hd]
      exact Ev.step (f:=fun _=>some false) (fun k=>by simp [impl_SetRight.j0]) (by simp [h];exact Ev.now _)
theorem spec_SetRight_l0 (v:List Mark) (hv:v.length≤4611686018427387904) (hk:seenOk v=true) (l:List Sib) (hl:l.length≤1048576):∀ (s:List Sib) (i:Nat),l.drop i=s→i≤l.length →
    Ev (fun k=>spec_SetRight.l0 k (i:Int) v l) (sibsFrom v (prevSib l i) s)
  | [],i,h,hi=>by
    have:=dropNil' h hi
    refine Ev.step (f:=fun _=>some true) (fun k=>?_) (by simp only [sibsFrom];exact Ev.now _)
    simp only [spec_SetRight.l0]
    rw [if_neg (by omega)]
  | x :: s,i,h,hi=>by
    obtain ⟨h1,h2,h3⟩:=dropCons h z91
    have hr:rd_T91 l (i:Int)=x:=by simpa [rd_T91] using h2
    have ih:=spec_SetRight_l0 v hv hk l hl s (i+1) h3 (by omega)
    rw [prevSib_succ h2] at ih
    have hj:∀ b:Bool,Ev (fun k=>if b=true then spec_SetRight.l0 k ((i:Int)+1) v l else some false) (b && sibsFrom v (some x) s):=fun b=>by
      cases b with
      | false=>exact evNeg (by simp) (Ev.now _)
      | true=>exact evPos rfl (by simpa using ih)
    have hi1:wrap64 ((i:Int)+1)=(i:Int)+1:=w64 (by omega) (by omega)
    have main:∀ (p:Bool) (g:Nat→Option Bool),Ev g (p && sibsFrom v (some x) s)→Ev (fun k=>(spec_SeenHas.f k v x.f0.f0 x.f0.f1).bind fun t=>if t=true then (if (x.f2.size:Int)>16 then some false else (if x.f1=true then (if x.f2.toList=([]:List UInt8) then g k else some false) else g k)) else some false) (sibOk v x && (p && sibsFrom v (some x) s)):=by
      intro p g hg
      have e:seenHasOut v x.f0.f0 x.f0.f1=(isDot x.f0.f0 x.f0.f1 && seenHas v x.f0.f0 x.f0.f1):=by simp [seenHasOut,hk]
      unfold sibOk
      rw [← Bool.and_assoc (isDot _ _),← e]
      refine Ev.bind (spec_SeenHas_ev v _ _ hv) ?_
      cases seenHasOut v x.f0.f0 x.f0.f1 with
      | false=>exact evNeg (by simp) (Ev.now _)
      | true =>
        refine evPos rfl ?_
        unfold dataOk
        by_cases hs:(x.f2.size:Int)>16
        · have hs':¬ x.f2.size≤16:=by omega
          exact evPos hs (by simpa [hs'] using Ev.now false)
        · have hs':x.f2.size≤16:=by omega
          refine evNeg hs ?_
          cases hg1:x.f1 with
          | false=>exact evNeg (by simp) (by simpa [hs'] using hg)
          | true =>
            refine evPos rfl ?_
            by_cases he:x.f2.toList=[]
            · exact evPos he (by simpa [hs',he] using hg)
            · exact evNeg he (by simpa [hs',he] using Ev.now false)
    by_cases hi0:i=0
    · have hp:prevSib l i=none:=by simp [prevSib,hi0]
      rw [hp]
      have h0:¬ ((i:Int)>0):=by omega
      refine Ev.step (fun k=>?_) (show Ev _ (sibsFrom v none (x :: s)) from by
        have:=main true (fun k=>spec_SetRight.l0 k ((i:Int)+1) v l) (by simpa using ih)
        simpa [sibsFrom] using this)
      simp only [spec_SetRight.l0,hr,if_neg h0,hi1]
      rw [if_pos (by omega),if_pos (by omega)]
    · have hp:prevSib l i=some (l.getD (i-1) z91):=by simp [prevSib,hi0]
      rw [hp]
      generalize hy:l.getD (i-1) z91=y
      have hq:rd_T91 l ((i:Int)-1)=y:=by
        rw [← hy];simp only [rd_T91];congr 1;omega
      have h0:(i:Int)>0:=by omega
      have hw:wrap64 ((i:Int)-1)=(i:Int)-1:=w64 (by omega) (by omega)
      have hA:(0:Int)≤(i:Int)-1:=by omega
      have hB:(i:Int)-1<(l.length:Int):=by omega
      refine Ev.step (fun k=>?_) (show Ev _ (sibsFrom v (some y) (x :: s)) from by
        have:=main (dotLess y.f0.f0 y.f0.f1 x.f0.f0 x.f0.f1) (fun k=>(spec_l03Less.f y.f0.f0 y.f0.f1 x.f0.f0 x.f0.f1).bind fun t=>if t=true then spec_SetRight.l0 k ((i:Int)+1) v l else some false)
          (evBind1 (l03Less_is _ _ _ _) (hj (dotLess y.f0.f0 y.f0.f1 x.f0.f0 x.f0.f1)))
        simpa [sibsFrom] using this)
      simp only [spec_SetRight.l0,hr,hi1,if_pos h0,hw,if_pos hA,if_pos hB,hq]
      rw [if_pos (by omega),if_pos (by omega)]
theorem spec_SetRight_ev (v:List Mark) (l:List Sib) (hv:v.length≤4611686018427387904) (hl:l.length≤1048576):Ev (fun k=>spec_SetRight.f k v l) (setOk v l):=by
  unfold spec_SetRight.f setOk
  refine Ev.bind (spec_SeenRight_ev v hv) ?_
  cases hk:seenOk v with
  | false=>exact evNeg (by simp) (Ev.step (f:=fun _=>some false) (fun k=>by simp [spec_SetRight.j0]) (Ev.now _))
  | true =>
    refine evPos rfl ?_
    by_cases h:l.length≤8
    · have hd:decide ((l.length:Int)>8)=false:=by simp;omega
      rw [hd]
      refine Ev.step (fun k=>by simp only [spec_SetRight.j0];rw [if_neg (by simp)]) ?_
      simpa [h,prevSib] using spec_SetRight_l0 v hv hk l hl l 0 rfl (by omega)
    · have hd:decide ((l.length:Int)>8)=true:=by simp;omega
      rw [hd]
      exact Ev.step (f:=fun _=>some false) (fun k=>by simp [spec_SetRight.j0]) (by simp [h];exact Ev.now _)
end Go.Proofs.Ytphbgcfpcadabaa.Q
