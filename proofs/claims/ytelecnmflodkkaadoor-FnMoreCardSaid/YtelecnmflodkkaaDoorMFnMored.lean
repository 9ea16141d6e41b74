/- A drawn ring with one more node: every key goes round the other nodes as before; of the first two owners none is new but the new node; and the program's RingMore, Newcomers are the reference's. No condition. (Part 4 of 5: written by programs of this workplace and by hand, merged.) -/
import Derived.Test.YtelecnmflodkkaaDoorMFnMorea
import Derived.Test.YtelecnmflodkkaaDoorMFnMorec
import Derived.Lib.SliceRun
import Derived.Test.YtelecnmflodkkaaDoorMFnMoreWWords
import Derived.Test.YtelecnmflodkkaaDoorMFnMoreWMore
import Derived.Laws.BitsLemmas
set_option linter.unusedVariables false
set_option linter.unusedSimpArgs false
set_option maxHeartbeats 8000000
set_option maxRecDepth 100000

namespace Go.Proofs.YtelecnmflodkkaaDoor.P
open Go.RowKit Go.Proofs.YtelecnmflodkkaaDoorW.PrintWords Go.Proofs.YtelecnmflodkkaaDoorW.PrintLast Go.Proofs.YtelecnmflodkkaaDoorW.PrintMore
attribute [local go_sem] max2_int min2_int max_two min_two max_three min_three max_four min_four   -- for this text's walks alone
set_option linter.unusedVariables false
set_option linter.unusedSimpArgs false

/-! ### Y29: function 56 -/
mutual
def Y29.j0:Nat→Int→Int→List (S77)→Option (List Int)
 | 0,_,_,_=>none
 | k+1,x6,x471000,x471001=>Y29.l0 k x6 ([]:List Int) (x471001.length:Int) 0 x471000 x471001
def Y29.l0:Nat→Int→List Int→Int→Int→Int→List (S77)→Option (List Int)
 | 0,_,_,_,_,_,_=>none
 | k+1,x6,x7,x20,x21,x471000,x471001=>if x21<x20 then (if (x471001.length:Int)=0 then (none) else (if 0≤(Int.tmod (wrap64 (x6+x21)) (x471001.length:Int)) then (if (Int.tmod (wrap64 (x6+x21)) (x471001.length:Int))<(x471001.length:Int) then ((Y26.f k x7 ((rd_T77 x471001 (Int.tmod (wrap64 (x6+x21)) (x471001.length:Int))).f1)).bind fun t475=>(if t475=true then (Y29.l0 k x6 x7 x20 (wrap64 (x21+1)) x471000 x471001) else (if x7.length<17592186044416 then (Y29.l0 k x6 (x7 ++ [(rd_T77 x471001 (Int.tmod (wrap64 (x6+x21)) (x471001.length:Int))).f1]) x20 (wrap64 (x21+1)) x471000 x471001) else (none)))) else (none)) else (none))) else (some x7)
end
def Y29.f (k:Nat) (a0_0:Int) (l0_1:List (S77)) (a1:ByteArray):Option (List Int):=(Y48.f k a1).bind fun t471=>((Y4.f k l0_1 t471).bind fun t473=>(if t473<0 then (Y29.j0 k 0 a0_0 l0_1) else (Y29.j0 k t473 a0_0 l0_1)))
theorem Y29.mono_l:∀ k,(∀ y0 y1 y2,LeO (Y29.j0 k y0 y1 y2) (Y29.j0 (k+1) y0 y1 y2))∧(∀ y0 y1 y2 y3 y4 y5,LeO (Y29.l0 k y0 y1 y2 y3 y4 y5) (Y29.l0 (k+1) y0 y1 y2 y3 y4 y5))
 | 0=>by refine ⟨?_,?_⟩ <;> intros <;> exact LeO.none _
 | k+1=>by
  obtain ⟨ih0,ih1⟩:=Y29.mono_l k
  have m0:=@Y48.mono
  have m1:=@Y26.mono
  have m2:=@Y4.mono
  refine ⟨?_,?_⟩
  ·intros
   unfold Y29.j0
   exact mO
  ·intros
   unfold Y29.l0
   exact mO
theorem Y29.mono:∀ a0 a1 a2 k,LeO (Y29.f k a0 a1 a2) (Y29.f (k+1) a0 a1 a2):=by
 intro a0 a1 a2 k
 have m0:=@Y48.mono
 have m1:=@Y26.mono
 have m2:=@Y4.mono
 obtain ⟨ih0,ih1⟩:=Y29.mono_l k
 unfold Y29.f
 exact mO
theorem Y29.calls (k:Nat) (a0_0:Int) (A0_1:Option Addr) (c0_1:Nat) (l0_1:List (S77)) (a1:ByteArray) (r:List Int) (w:World) (hr0_1:Kd.C k77 w A0_1 l0_1.length l0_1) (hc0_1:l0_1.length≤c0_1) (h:Y29.f k a0_0 l0_1 a1=some r) :
  Calls Tryd.prog 56 #[.agg #[.int .i64 a0_0,.slice A0_1 l0_1.length c0_1],.string a1] w fun e w'=>∃ v0_:Value,e = .returned (v0_)∧Kd.R (Kd.int .i64) 2 w' w.heap.size (fun _=>True) v0_ r∧Below w.heap.size w w':=by
 have hu24:=Tryd.underlying24
 have HR0_1:=aM hr0_1
 have HC0_1:=aM hc0_1
 clear hr0_1 hc0_1
 have HB:=aM (Below.refl w.heap.size w)
 have H:((Y48.f k a1).bind fun t471=>((Y4.f k l0_1 t471).bind fun t473=>(if t473<0 then (Y29.j0 k 0 a0_0 l0_1) else (Y29.j0 k t473 a0_0 l0_1))))=some r:=h
 clear h
 replace H:=bS H
 obtain ⟨t471,A30,H⟩:=H
 replace H:((Y4.f k l0_1 t471).bind fun t473=>(if t473<0 then (Y29.j0 k 0 a0_0 l0_1) else (Y29.j0 k t473 a0_0 l0_1)))=some r:=H
 have A3:=aM A30
 clear A30
 replace H:=bS H
 obtain ⟨t473,A40,H⟩:=H
 replace H:(if t473<0 then (Y29.j0 k 0 a0_0 l0_1) else (Y29.j0 k t473 a0_0 l0_1))=some r:=H
 have A4:=aM A40
 clear A40
 have HC5:=aM H
 clear H
 go_enter Tryd.func56,Tryd.ntmps56
 go_upto_if 17 with (first | ((with_reducible refine gd_ 2 ?_);refine be_ 2 #[.int .i64 a0_0,.slice A0_1 l0_1.length c0_1] 24 ?_;intro gb470 hg w6 hbox hb;have n0_:=aM (below_step (z5_ HB.out) hb);have n1_:=aM (hbox);have n2_:=aM ((z8_ HB.out:w.heap.size≤gb470));have n3_:=aM ((z8_ HB.out:w.heap.size≤gb470));clear HB;have HB:=n0_;have BK470:=n1_;have GW470:=n2_;have GE470:=n3_;clear n0_ n1_ n2_ n3_;clear hb hbox hg) | (go_at_call 75;(with_reducible refine (Y48.calls k a1 t471 _ A3.out).mono ?_);rintro e w' ⟨rfl,⟨nd,rfl⟩⟩;(try first | exact ⟨rfl,_,World.drewN_drewN _ _ _⟩ | exact ⟨rfl,_,Eq.trans (World.drewN_drewN _ _ _) (congrArg (World.drewN _) (Nat.add_assoc _ _ _))⟩)) | ((with_reducible refine gd_ 5 ?_);refine be_ 5 #[.int .i64 0] 2 ?_;intro gb472 hg w7 hbox hb;have n0_:=aM (blkB_ BK470.out hb);have n1_:=aM (below_step (z7_ HB.out GE470.out) hb);have n2_:=aM (hbox);have n3_:=aM ((z11_ HB.out GE470.out:w.heap.size≤gb472));have n4_:=aM ((z11_ HB.out GE470.out:w.heap.size≤gb472));have n5_:=aM (neL_ BK470.out hg);have n6_:=aM (neG_ BK470.out hg);clear BK470;clear HB;have BK470:=n0_;have HB:=n1_;have BK472:=n2_;have GW472:=n3_;have GE472:=n4_;have NB470_472:=n5_;have NB472_470:=n6_;clear n0_ n1_ n2_ n3_ n4_ n5_ n6_;clear hb hbox hg;have hnb8:=NB472_470.out;have hnc8:=NB470_472.out;have ⟨hcz9_0,hfz9_0⟩:=cz1_ BK472.out;have ⟨hcz10_0,hcz10_1,hfz10_0,hfz10_1⟩:=cz2_ BK470.out) | (go_at_call 92;(with_reducible refine (Y4.calls k _ _ l0_1 gb472 t471 t473 _ ?s1 ?s2 ?s3 A4.out).mono ?_);(case s1=>exact Kd.C_below HR0_1.out (z4_ HB.out GE470.out GE472.out));(case s2=>exact HC0_1.out);(case s3=>(with_reducible repeat (first | refine blk_drewN ?_ _ | refine blk_drew ?_ | refine blk_alloc ?_ _));refine blk_put (cs:=#[.int .i64 0]) ?_ 0 _ rfl;(with_reducible repeat (first | refine blk_drewN ?_ _ | refine blk_drew ?_ | refine blk_alloc ?_ _));exact BK472.out);rintro e w11 ⟨rfl,hb⟩;have n0_:=aM (blk_below (g:=gb470) (o:=.cells #[.int .i64 a0_0,.slice A0_1 l0_1.length c0_1] 24 (0,0)) (z44_ NB470_472.out BK470.out) hb);have n1_:=aM (blk_below (g:=gb472) (o:=.cells #[.int .i64 t471] 2 (0,0)) (z58_ BK472.out) hb);have n2_:=aM (below_step (z4_ HB.out GE470.out GE472.out) hb);clear BK470;clear BK472;clear HB;have BK470:=n0_;have BK472:=n1_;have HB:=n2_;clear n0_ n1_ n2_;(try clear hb)))
 repeat (go_quiet (first | ((with_reducible refine gd_ 2 ?_);refine be_ 2 #[.int .i64 a0_0,.slice A0_1 l0_1.length c0_1] 24 ?_;intro gb470 hg w6 hbox hb;have n0_:=aM (below_step (z5_ HB.out) hb);have n1_:=aM (hbox);have n2_:=aM ((z8_ HB.out:w.heap.size≤gb470));have n3_:=aM ((z8_ HB.out:w.heap.size≤gb470));clear HB;have HB:=n0_;have BK470:=n1_;have GW470:=n2_;have GE470:=n3_;clear n0_ n1_ n2_ n3_;clear hb hbox hg) | (go_at_call 75;(with_reducible refine (Y48.calls k a1 t471 _ A3.out).mono ?_);rintro e w' ⟨rfl,⟨nd,rfl⟩⟩;(try first | exact ⟨rfl,_,World.drewN_drewN _ _ _⟩ | exact ⟨rfl,_,Eq.trans (World.drewN_drewN _ _ _) (congrArg (World.drewN _) (Nat.add_assoc _ _ _))⟩)) | ((with_reducible refine gd_ 5 ?_);refine be_ 5 #[.int .i64 0] 2 ?_;intro gb472 hg w7 hbox hb;have n0_:=aM (blkB_ BK470.out hb);have n1_:=aM (below_step (z7_ HB.out GE470.out) hb);have n2_:=aM (hbox);have n3_:=aM ((z11_ HB.out GE470.out:w.heap.size≤gb472));have n4_:=aM ((z11_ HB.out GE470.out:w.heap.size≤gb472));have n5_:=aM (neL_ BK470.out hg);have n6_:=aM (neG_ BK470.out hg);clear BK470;clear HB;have BK470:=n0_;have HB:=n1_;have BK472:=n2_;have GW472:=n3_;have GE472:=n4_;have NB470_472:=n5_;have NB472_470:=n6_;clear n0_ n1_ n2_ n3_ n4_ n5_ n6_;clear hb hbox hg;have hnb8:=NB472_470.out;have hnc8:=NB470_472.out;have ⟨hcz9_0,hfz9_0⟩:=cz1_ BK472.out;have ⟨hcz10_0,hcz10_1,hfz10_0,hfz10_1⟩:=cz2_ BK470.out) | (go_at_call 92;(with_reducible refine (Y4.calls k _ _ l0_1 gb472 t471 t473 _ ?s1 ?s2 ?s3 A4.out).mono ?_);(case s1=>exact Kd.C_below HR0_1.out (z4_ HB.out GE470.out GE472.out));(case s2=>exact HC0_1.out);(case s3=>(with_reducible repeat (first | refine blk_drewN ?_ _ | refine blk_drew ?_ | refine blk_alloc ?_ _));refine blk_put (cs:=#[.int .i64 0]) ?_ 0 _ rfl;(with_reducible repeat (first | refine blk_drewN ?_ _ | refine blk_drew ?_ | refine blk_alloc ?_ _));exact BK472.out);rintro e w11 ⟨rfl,hb⟩;have n0_:=aM (blk_below (g:=gb470) (o:=.cells #[.int .i64 a0_0,.slice A0_1 l0_1.length c0_1] 24 (0,0)) (z44_ NB470_472.out BK470.out) hb);have n1_:=aM (blk_below (g:=gb472) (o:=.cells #[.int .i64 t471] 2 (0,0)) (z58_ BK472.out) hb);have n2_:=aM (below_step (z4_ HB.out GE470.out GE472.out) hb);clear BK470;clear BK472;clear HB;have BK470:=n0_;have BK472:=n1_;have HB:=n2_;clear n0_ n1_ n2_;(try clear hb)));go_upto_if 17 with (first | ((with_reducible refine gd_ 2 ?_);refine be_ 2 #[.int .i64 a0_0,.slice A0_1 l0_1.length c0_1] 24 ?_;intro gb470 hg w6 hbox hb;have n0_:=aM (below_step (z5_ HB.out) hb);have n1_:=aM (hbox);have n2_:=aM ((z8_ HB.out:w.heap.size≤gb470));have n3_:=aM ((z8_ HB.out:w.heap.size≤gb470));clear HB;have HB:=n0_;have BK470:=n1_;have GW470:=n2_;have GE470:=n3_;clear n0_ n1_ n2_ n3_;clear hb hbox hg) | (go_at_call 75;(with_reducible refine (Y48.calls k a1 t471 _ A3.out).mono ?_);rintro e w' ⟨rfl,⟨nd,rfl⟩⟩;(try first | exact ⟨rfl,_,World.drewN_drewN _ _ _⟩ | exact ⟨rfl,_,Eq.trans (World.drewN_drewN _ _ _) (congrArg (World.drewN _) (Nat.add_assoc _ _ _))⟩)) | ((with_reducible refine gd_ 5 ?_);refine be_ 5 #[.int .i64 0] 2 ?_;intro gb472 hg w7 hbox hb;have n0_:=aM (blkB_ BK470.out hb);have n1_:=aM (below_step (z7_ HB.out GE470.out) hb);have n2_:=aM (hbox);have n3_:=aM ((z11_ HB.out GE470.out:w.heap.size≤gb472));have n4_:=aM ((z11_ HB.out GE470.out:w.heap.size≤gb472));have n5_:=aM (neL_ BK470.out hg);have n6_:=aM (neG_ BK470.out hg);clear BK470;clear HB;have BK470:=n0_;have HB:=n1_;have BK472:=n2_;have GW472:=n3_;have GE472:=n4_;have NB470_472:=n5_;have NB472_470:=n6_;clear n0_ n1_ n2_ n3_ n4_ n5_ n6_;clear hb hbox hg;have hnb8:=NB472_470.out;have hnc8:=NB470_472.out;have ⟨hcz9_0,hfz9_0⟩:=cz1_ BK472.out;have ⟨hcz10_0,hcz10_1,hfz10_0,hfz10_1⟩:=cz2_ BK470.out) | (go_at_call 92;(with_reducible refine (Y4.calls k _ _ l0_1 gb472 t471 t473 _ ?s1 ?s2 ?s3 A4.out).mono ?_);(case s1=>exact Kd.C_below HR0_1.out (z4_ HB.out GE470.out GE472.out));(case s2=>exact HC0_1.out);(case s3=>(with_reducible repeat (first | refine blk_drewN ?_ _ | refine blk_drew ?_ | refine blk_alloc ?_ _));refine blk_put (cs:=#[.int .i64 0]) ?_ 0 _ rfl;(with_reducible repeat (first | refine blk_drewN ?_ _ | refine blk_drew ?_ | refine blk_alloc ?_ _));exact BK472.out);rintro e w11 ⟨rfl,hb⟩;have n0_:=aM (blk_below (g:=gb470) (o:=.cells #[.int .i64 a0_0,.slice A0_1 l0_1.length c0_1] 24 (0,0)) (z44_ NB470_472.out BK470.out) hb);have n1_:=aM (blk_below (g:=gb472) (o:=.cells #[.int .i64 t471] 2 (0,0)) (z58_ BK472.out) hb);have n2_:=aM (below_step (z4_ HB.out GE470.out GE472.out) hb);clear BK470;clear BK472;clear HB;have BK470:=n0_;have BK472:=n1_;have HB:=n2_;clear n0_ n1_ n2_;(try clear hb))))
 (try simp only [Act.put,sa_,s0_,ss_])
 go_cut [6] (fun v6 wc=>∃ (kq:Nat) (x6_4:Int),v6 = .int .i64 x6_4∧Aside0 (Y29.j0 kq x6_4 a0_0 l0_1=some r)∧Aside0 (kq≤k)∧Aside0 (wc.heap[gb470]? = some (.cells #[.int .i64 a0_0,(.slice A0_1 l0_1.length c0_1)] 24 (0,0)))∧Aside0 True∧Aside0 (Below w.heap.size w wc))
 case first =>
  have H:=HC5.out
  clear HC5
  by_cases c12:t473<0
  ·rw [if_pos c12] at H
   have c12b0:decide (t473<0)=true:=dE c12
   clear c12
   (first | rw [c12b0] | (simp only [i64_w,i32_w];rw [c12b0]) | skip)
   have H':=aM H
   clear H
   go_wp2
   repeat (go_quiet (fail);try go_wp2)
   go_meet
   case rel=>exact ⟨_,(0),(z2_),H',⟨by first | omega | exact Nat.le_refl _⟩,⟨z3_ BK470.out⟩,⟨trivial⟩,⟨z4_ HB.out GE470.out GE472.out⟩⟩
  ·rw [if_neg c12] at H
   have c12b0:decide (t473<0)=false:=dF c12
   clear c12
   (first | rw [c12b0] | (simp only [i64_w,i32_w];rw [c12b0]) | skip)
   have H':=aM H
   clear H
   go_wp2
   repeat (go_quiet (fail);try go_wp2)
   go_meet
   case rel=>exact ⟨_,(t473),(z2_),H',⟨by first | omega | exact Nat.le_refl _⟩,⟨z3_ BK470.out⟩,⟨trivial⟩,⟨z4_ HB.out GE470.out GE472.out⟩⟩
 case rest =>
  clear HC5
  try clear c1
  try clear p2
  try clear c5
  try clear c8
  try clear c12
  try clear c12b0
  try clear hcz10_0
  try clear hcz10_1
  try clear hcz9_0
  try clear hfz10_0
  try clear hfz10_1
  try clear hfz9_0
  obtain ⟨kq,x6_4,rfl,HA,HJ4,BK470,BK472,HB⟩:=hcut
  cases kq with
  | zero=>exact absurd HA.out (by simp [Y29.j0])
  | succ kj4 =>
   have H:=HA.out
   clear HA
   simp only [Y29.j0] at H
   have H':=aM H
   clear H
   have hnb13:=NB470_472.out
   have hnc13:=NB472_470.out
   have ⟨hcz14_0,hcz14_1,hfz14_0,hfz14_1⟩:=cz2_ BK470.out
   go_wp2
   repeat (go_quiet (fail);try go_wp2)
   go_loopg [7,21] kj4 (fun kq v7 v21 w'=>∃ (x7_2:List Int) (x21_2:Int),v21 = .int .i64 x21_2∧Aside0 (Y29.l0 kq x6_4 x7_2 (l0_1.length:Int) x21_2 a0_0 l0_1=some r)∧Aside0 (kq≤kj4)∧Aside0 (Kd.R (Kd.int .i64) 2 w' w.heap.size (fun _=>True) v7 x7_2)∧Aside0 (w'.heap[gb470]? = some (.cells #[.int .i64 a0_0,(.slice A0_1 l0_1.length c0_1)] 24 (0,0)))∧Aside0 True∧Aside0 (Below w.heap.size w w'))
   case atStart=>exact ⟨(([]:List Int)),(0),(z2_),H',⟨Nat.le_refl _⟩,⟨z26_⟩,⟨z3_ BK470.out⟩,⟨trivial⟩,⟨z4_ HB.out GE470.out GE472.out⟩⟩
   case round =>
    clear H'
    try clear c1
    try clear p2
    try clear c5
    try clear c8
    try clear c12
    try clear c12b0
    try clear c13
    try clear hcz10_0
    try clear hcz10_1
    try clear hcz14_0
    try clear hcz14_1
    try clear hcz9_0
    try clear hfz10_0
    try clear hfz10_1
    try clear hfz14_0
    try clear hfz14_1
    try clear hfz9_0
    try clear p2
    obtain ⟨x7_2,x21_2,rfl,HA,HK2,HO_7,BK470,BK472,HB⟩:=hrel
    cases gk with
    | zero=>exact absurd HA.out (by simp [Y29.l0])
    | succ k2 =>
     have H:=HA.out
     clear HA
     simp only [Y29.l0] at H
     by_cases c15:x21_2<(l0_1.length:Int)
     ·rw [if_pos c15] at H
      have c15b0:decide (x21_2<(l0_1.length:Int))=true:=dE c15
      clear c15
      by_cases c16:(l0_1.length:Int)=0
      ·rw [if_pos c16] at H
       exact nO H
      ·rw [if_neg c16] at H
       have c16b0:((l0_1.length:Int) == 0)=false:=beq_eq_false_iff_ne.mpr c16
       have c16b1:((l0_1.length:Int) != 0)=true:=bne_iff_ne.mpr c16
       have c16b2:¬ (l0_1=[]):=fun h_=>c16 (by rw [h_];rfl)
       obtain ⟨ji17,hji17⟩:∃ j_:Int,(Int.tmod (wrap64 (x6_4+x21_2)) (l0_1.length:Int))=j_:=⟨_,rfl⟩
       replace H:(if 0≤(ji17) then (if (ji17)<(l0_1.length:Int) then ((Y26.f k2 x7_2 ((rd_T77 l0_1 (ji17)).f1)).bind fun t475=>(if t475=true then (Y29.l0 k2 x6_4 x7_2 (l0_1.length:Int) (wrap64 (x21_2+1)) a0_0 l0_1) else (if x7_2.length<17592186044416 then (Y29.l0 k2 x6_4 (x7_2 ++ [(rd_T77 l0_1 (ji17)).f1]) (l0_1.length:Int) (wrap64 (x21_2+1)) a0_0 l0_1) else (none)))) else (none)) else (none))=some r:=by first | (rw [hji17] at H;exact H) | (simp only [hji17] at H ⊢;exact H)
       by_cases c18:0≤(ji17)
       ·rw [if_pos c18] at H
        have c18b0:decide (0≤(ji17))=true:=dE c18
        clear c18
        by_cases c19:(ji17)<(l0_1.length:Int)
        ·rw [if_pos c19] at H
         have c19b0:decide ((ji17)<(l0_1.length:Int))=true:=dE c19
         clear c19
         replace H:=bS H
         obtain ⟨t475,A200,H⟩:=H
         replace H:(if t475=true then (Y29.l0 k2 x6_4 x7_2 (l0_1.length:Int) (wrap64 (x21_2+1)) a0_0 l0_1) else (if x7_2.length<17592186044416 then (Y29.l0 k2 x6_4 (x7_2 ++ [(rd_T77 l0_1 (ji17)).f1]) (l0_1.length:Int) (wrap64 (x21_2+1)) a0_0 l0_1) else (none)))=some r:=H
         have A20:=aM A200
         clear A200
         by_cases c21:t475=true
         ·subst c21
          have H1:(Y29.l0 k2 x6_4 x7_2 (l0_1.length:Int) (wrap64 (x21_2+1)) a0_0 l0_1)=some r:=by rw [if_pos rfl] at H;exact H
          clear H
          have H:=H1
          clear H1
          have H':=aM H
          clear H
          have hnb22:=NB470_472.out
          have hnc22:=NB472_470.out
          have ⟨hcz23_0,hcz23_1,hfz23_0,hfz23_1⟩:=cz2_ BK470.out
          have p474:0≤((ji17):Int):=dT (z0_)
          have q474:(ji17)<(l0_1.length:Int):=dT (z0_)
          obtain ⟨ad474,e474,hx474_0,hx474_1⟩:=at_T77 HR0_1.out (ji17) p474 q474
          cases e474
          replace hx474_0:=(HB.out.cell (World.block_lt_of_cell? w _ hx474_0)).trans hx474_0
          replace hx474_1:=(HB.out.cell (World.block_lt_of_cell? w _ hx474_1)).trans hx474_1
          replace p474:=eq_true p474
          replace q474:=eq_true q474
          obtain ⟨Ao24,co24,eo24⟩:=Kd.R_slice HO_7.out
          subst eo24
          go_wp2_with (first | (go_at_call 89;(with_reducible refine (Y26.calls k2 _ _ x7_2 ((rd_T77 l0_1 (ji17)).f1) true _ ?s1 ?s2 A20.out).mono ?_);(case s1=>repeat (first | exact (Kd.R_reads' HO_7.out).2.2 | (with_reducible refine Kd.C_alloc ?_ _) | (with_reducible refine Kd.C_drewN ?_ _) | (with_reducible refine Kd.C_drew ?_)));(case s2=>exact (Kd.R_reads' HO_7.out).2.1);rintro e w' ⟨rfl,⟨nd,rfl⟩⟩;(try first | exact ⟨rfl,_,World.drewN_drewN _ _ _⟩ | exact ⟨rfl,_,Eq.trans (World.drewN_drewN _ _ _) (congrArg (World.drewN _) (Nat.add_assoc _ _ _))⟩)))
          repeat (go_quiet (first | (go_at_call 89;(with_reducible refine (Y26.calls k2 _ _ x7_2 ((rd_T77 l0_1 (ji17)).f1) true _ ?s1 ?s2 A20.out).mono ?_);(case s1=>repeat (first | exact (Kd.R_reads' HO_7.out).2.2 | (with_reducible refine Kd.C_alloc ?_ _) | (with_reducible refine Kd.C_drewN ?_ _) | (with_reducible refine Kd.C_drew ?_)));(case s2=>exact (Kd.R_reads' HO_7.out).2.1);rintro e w' ⟨rfl,⟨nd,rfl⟩⟩;(try first | exact ⟨rfl,_,World.drewN_drewN _ _ _⟩ | exact ⟨rfl,_,Eq.trans (World.drewN_drewN _ _ _) (congrArg (World.drewN _) (Nat.add_assoc _ _ _))⟩)));try go_wp2_with (first | (go_at_call 89;(with_reducible refine (Y26.calls k2 _ _ x7_2 ((rd_T77 l0_1 (ji17)).f1) true _ ?s1 ?s2 A20.out).mono ?_);(case s1=>repeat (first | exact (Kd.R_reads' HO_7.out).2.2 | (with_reducible refine Kd.C_alloc ?_ _) | (with_reducible refine Kd.C_drewN ?_ _) | (with_reducible refine Kd.C_drew ?_)));(case s2=>exact (Kd.R_reads' HO_7.out).2.1);rintro e w' ⟨rfl,⟨nd,rfl⟩⟩;(try first | exact ⟨rfl,_,World.drewN_drewN _ _ _⟩ | exact ⟨rfl,_,Eq.trans (World.drewN_drewN _ _ _) (congrArg (World.drewN _) (Nat.add_assoc _ _ _))⟩))))
          go_roundg k2
          case measure=>have:=HJ4.out;have:=HK2.out;omega
          case rel=>exact ⟨(x7_2),(wrap64 (x21_2+1)),(z2_),H',⟨z15_ HJ4.out HK2.out⟩,⟨z1_ HO_7.out⟩,⟨z3_ BK470.out⟩,⟨trivial⟩,⟨z4_ HB.out GE470.out GE472.out⟩⟩
         ·replace c21:=Bool.eq_false_iff.mpr c21
          subst c21
          have H1:(if x7_2.length<17592186044416 then (Y29.l0 k2 x6_4 (x7_2 ++ [(rd_T77 l0_1 (ji17)).f1]) (l0_1.length:Int) (wrap64 (x21_2+1)) a0_0 l0_1) else (none))=some r:=by rw [if_neg (show ¬ (false=true) by decide)] at H;exact H
          clear H
          have H:=H1
          clear H1
          by_cases c25:x7_2.length<17592186044416
          ·rw [if_pos c25] at H
           have LMc25:=aM c25
           clear c25
           obtain ⟨y476,hy476⟩:∃ y_:List Int,y_=(x7_2 ++ [(rd_T77 l0_1 (ji17)).f1]):=⟨_,rfl⟩
           replace H:(Y29.l0 k2 x6_4 y476 (l0_1.length:Int) (wrap64 (x21_2+1)) a0_0 l0_1)=some r:=by first | (rw [hy476];with_reducible exact H) | (have H2_:=(Option.bind_some _ _).symm.trans H;rw [hy476];with_reducible exact H2_) | (have H2_:=(Option.bind_some _ _).symm.trans H;with_reducible exact H2_) | with_reducible exact H | (rw [hy476];exact H) | exact H
           have Ny476:=aM hy476
           clear hy476
           have H':=aM H
           clear H
           have hnb26:=NB470_472.out
           have hnc26:=NB472_470.out
           have ⟨hcz27_0,hcz27_1,hfz27_0,hfz27_1⟩:=cz2_ BK470.out
           have p474:0≤((ji17):Int):=dT (z0_)
           have q474:(ji17)<(l0_1.length:Int):=dT (z0_)
           obtain ⟨ad474,e474,hx474_0,hx474_1⟩:=at_T77 HR0_1.out (ji17) p474 q474
           cases e474
           replace hx474_0:=(HB.out.cell (World.block_lt_of_cell? w _ hx474_0)).trans hx474_0
           replace hx474_1:=(HB.out.cell (World.block_lt_of_cell? w _ hx474_1)).trans hx474_1
           replace p474:=eq_true p474
           replace q474:=eq_true q474
           obtain ⟨Ao28,co28,eo28⟩:=Kd.R_slice HO_7.out
           subst eo28
           go_wp2_with (first | (go_at_call 89;(with_reducible refine (Y26.calls k2 _ _ x7_2 ((rd_T77 l0_1 (ji17)).f1) false _ ?s1 ?s2 A20.out).mono ?_);(case s1=>repeat (first | exact (Kd.R_reads' HO_7.out).2.2 | (with_reducible refine Kd.C_alloc ?_ _) | (with_reducible refine Kd.C_drewN ?_ _) | (with_reducible refine Kd.C_drew ?_)));(case s2=>exact (Kd.R_reads' HO_7.out).2.1);rintro e w' ⟨rfl,⟨nd,rfl⟩⟩;(try first | exact ⟨rfl,_,World.drewN_drewN _ _ _⟩ | exact ⟨rfl,_,Eq.trans (World.drewN_drewN _ _ _) (congrArg (World.drewN _) (Nat.add_assoc _ _ _))⟩)) | ((with_reducible refine gate_builtin (b:=.append) (xs:=#[.tmp 40,.tmp 42]) rfl ?_);at_builtin;refine Kd.R_append (Kd.int .i64) (w0:=w) w.heap.size rfl (.tmp 40) (.tmp 42) 37 2 (.int .i64 0) 8 rfl Tryd.underlying37 info2 rfl (by decide) (by omega) (.slice Ao28 x7_2.length co28) x7_2 ((rd_T77 l0_1 (ji17)).f1) [.int .i64 ((rd_T77 l0_1 (ji17)).f1)] (fun _=>True) (fun _=>False) rfl rfl ?aP (fun _ hk=>hk.elim) ?aF ?aO ?aB ?aS ?aL ?_;(case aP=>exact rfl);(case aB=>exact (z4_ HB.out GE470.out GE472.out));(case aF=>exact (fun _ _=>trivial));(case aO=>exact (z1_ HO_7.out));(case aS=>exact (below_size (z4_ HB.out GE470.out GE472.out)));(case aL=>have:=LMc25.out;omega);intro v477 w29 ho hb hg hat;rw [← Ny476.out] at ho;have n0_:=aM (blk_grown (g:=gb470) (o:=.cells #[.int .i64 a0_0,.slice (some ad474) l0_1.length c0_1] 24 (0,0)) (z3_ BK470.out) hg (Kd.R_ne HO_7.out BK470.out (by decide)));have n1_:=aM trivial;have n2_:=aM (hb);have n3_:=aM (ho);clear BK470;clear BK472;clear HB;clear HO_7;have BK470:=n0_;have BK472:=n1_;have HB:=n2_;have HO478:=n3_;clear n0_ n1_ n2_ n3_;clear ho hb hg hat))
           repeat (go_quiet (first | (go_at_call 89;(with_reducible refine (Y26.calls k2 _ _ x7_2 ((rd_T77 l0_1 (ji17)).f1) false _ ?s1 ?s2 A20.out).mono ?_);(case s1=>repeat (first | exact (Kd.R_reads' HO_7.out).2.2 | (with_reducible refine Kd.C_alloc ?_ _) | (with_reducible refine Kd.C_drewN ?_ _) | (with_reducible refine Kd.C_drew ?_)));(case s2=>exact (Kd.R_reads' HO_7.out).2.1);rintro e w' ⟨rfl,⟨nd,rfl⟩⟩;(try first | exact ⟨rfl,_,World.drewN_drewN _ _ _⟩ | exact ⟨rfl,_,Eq.trans (World.drewN_drewN _ _ _) (congrArg (World.drewN _) (Nat.add_assoc _ _ _))⟩)) | ((with_reducible refine gate_builtin (b:=.append) (xs:=#[.tmp 40,.tmp 42]) rfl ?_);at_builtin;refine Kd.R_append (Kd.int .i64) (w0:=w) w.heap.size rfl (.tmp 40) (.tmp 42) 37 2 (.int .i64 0) 8 rfl Tryd.underlying37 info2 rfl (by decide) (by omega) (.slice Ao28 x7_2.length co28) x7_2 ((rd_T77 l0_1 (ji17)).f1) [.int .i64 ((rd_T77 l0_1 (ji17)).f1)] (fun _=>True) (fun _=>False) rfl rfl ?aP (fun _ hk=>hk.elim) ?aF ?aO ?aB ?aS ?aL ?_;(case aP=>exact rfl);(case aB=>exact (z4_ HB.out GE470.out GE472.out));(case aF=>exact (fun _ _=>trivial));(case aO=>exact (z1_ HO_7.out));(case aS=>exact (below_size (z4_ HB.out GE470.out GE472.out)));(case aL=>have:=LMc25.out;omega);intro v477 w29 ho hb hg hat;rw [← Ny476.out] at ho;have n0_:=aM (blk_grown (g:=gb470) (o:=.cells #[.int .i64 a0_0,.slice (some ad474) l0_1.length c0_1] 24 (0,0)) (z3_ BK470.out) hg (Kd.R_ne HO_7.out BK470.out (by decide)));have n1_:=aM trivial;have n2_:=aM (hb);have n3_:=aM (ho);clear BK470;clear BK472;clear HB;clear HO_7;have BK470:=n0_;have BK472:=n1_;have HB:=n2_;have HO478:=n3_;clear n0_ n1_ n2_ n3_;clear ho hb hg hat));try go_wp2_with (first | (go_at_call 89;(with_reducible refine (Y26.calls k2 _ _ x7_2 ((rd_T77 l0_1 (ji17)).f1) false _ ?s1 ?s2 A20.out).mono ?_);(case s1=>repeat (first | exact (Kd.R_reads' HO_7.out).2.2 | (with_reducible refine Kd.C_alloc ?_ _) | (with_reducible refine Kd.C_drewN ?_ _) | (with_reducible refine Kd.C_drew ?_)));(case s2=>exact (Kd.R_reads' HO_7.out).2.1);rintro e w' ⟨rfl,⟨nd,rfl⟩⟩;(try first | exact ⟨rfl,_,World.drewN_drewN _ _ _⟩ | exact ⟨rfl,_,Eq.trans (World.drewN_drewN _ _ _) (congrArg (World.drewN _) (Nat.add_assoc _ _ _))⟩)) | ((with_reducible refine gate_builtin (b:=.append) (xs:=#[.tmp 40,.tmp 42]) rfl ?_);at_builtin;refine Kd.R_append (Kd.int .i64) (w0:=w) w.heap.size rfl (.tmp 40) (.tmp 42) 37 2 (.int .i64 0) 8 rfl Tryd.underlying37 info2 rfl (by decide) (by omega) (.slice Ao28 x7_2.length co28) x7_2 ((rd_T77 l0_1 (ji17)).f1) [.int .i64 ((rd_T77 l0_1 (ji17)).f1)] (fun _=>True) (fun _=>False) rfl rfl ?aP (fun _ hk=>hk.elim) ?aF ?aO ?aB ?aS ?aL ?_;(case aP=>exact rfl);(case aB=>exact (z4_ HB.out GE470.out GE472.out));(case aF=>exact (fun _ _=>trivial));(case aO=>exact (z1_ HO_7.out));(case aS=>exact (below_size (z4_ HB.out GE470.out GE472.out)));(case aL=>have:=LMc25.out;omega);intro v477 w29 ho hb hg hat;rw [← Ny476.out] at ho;have n0_:=aM (blk_grown (g:=gb470) (o:=.cells #[.int .i64 a0_0,.slice (some ad474) l0_1.length c0_1] 24 (0,0)) (z3_ BK470.out) hg (Kd.R_ne HO_7.out BK470.out (by decide)));have n1_:=aM trivial;have n2_:=aM (hb);have n3_:=aM (ho);clear BK470;clear BK472;clear HB;clear HO_7;have BK470:=n0_;have BK472:=n1_;have HB:=n2_;have HO478:=n3_;clear n0_ n1_ n2_ n3_;clear ho hb hg hat)))
           go_roundg k2
           case measure=>have:=HJ4.out;have:=HK2.out;omega
           case rel=>exact ⟨(y476),(wrap64 (x21_2+1)),(z2_),H',⟨z15_ HJ4.out HK2.out⟩,⟨z1_ HO478.out⟩,⟨z3_ BK470.out⟩,⟨trivial⟩,⟨z4_ HB.out GE470.out GE472.out⟩⟩
          ·rw [if_neg c25] at H
           exact nO H
        ·rw [if_neg c19] at H
         exact nO H
       ·rw [if_neg c18] at H
        exact nO H
     ·rw [if_neg c15] at H
      have c15b0:decide (x21_2<(l0_1.length:Int))=false:=dF c15
      clear c15
      obtain rfl:=sI H
      go_wp2
      repeat (go_quiet (fail);try go_wp2)
      go_ret
      exact ⟨_,z9_,z1_ HO_7.out,z4_ HB.out GE470.out GE472.out⟩


/-! ### Y75: function 85 -/
def Y75.f (k:Nat) (a0_0:Int) (l0_1:List (S77)) (a1:ByteArray) (a2:Int):Option (List Int):=(Y29.f k a0_0 l0_1 a1).bind fun t480=>(if 0≤(mn a2 (t480.length:Int)) then (if (mn a2 (t480.length:Int))≤(t480.length:Int) then (some (t480.take ((mn a2 (t480.length:Int)):Int).toNat)) else (none)) else (none))
theorem Y75.mono:∀ a0 a1 a2 a3 k,LeO (Y75.f k a0 a1 a2 a3) (Y75.f (k+1) a0 a1 a2 a3):=by
 intro a0 a1 a2 a3 k
 have m0:=@Y29.mono
 unfold Y75.f
 exact mO
theorem Y75.calls (k:Nat) (a0_0:Int) (A0_1:Option Addr) (c0_1:Nat) (l0_1:List (S77)) (a1:ByteArray) (a2:Int) (r:List Int) (w:World) (hr0_1:Kd.C k77 w A0_1 l0_1.length l0_1) (hc0_1:l0_1.length≤c0_1) (h:Y75.f k a0_0 l0_1 a1 a2=some r) :
  Calls Tryd.prog 85 #[.agg #[.int .i64 a0_0,.slice A0_1 l0_1.length c0_1],.string a1,.int .i64 a2] w fun e w'=>∃ v0_:Value,e = .returned (v0_)∧Kd.R (Kd.int .i64) 2 w' w.heap.size (fun _=>True) v0_ r∧Below w.heap.size w w':=by
 have hu24:=Tryd.underlying24
 have HR0_1:=aM hr0_1
 have HC0_1:=aM hc0_1
 clear hr0_1 hc0_1
 have HB:=aM (Below.refl w.heap.size w)
 have H:((Y29.f k a0_0 l0_1 a1).bind fun t480=>(if 0≤(mn a2 (t480.length:Int)) then (if (mn a2 (t480.length:Int))≤(t480.length:Int) then (some (t480.take ((mn a2 (t480.length:Int)):Int).toNat)) else (none)) else (none)))=some r:=h
 clear h
 replace H:=bS H
 obtain ⟨t480,A40,H⟩:=H
 replace H:(if 0≤(mn a2 (t480.length:Int)) then (if (mn a2 (t480.length:Int))≤(t480.length:Int) then (some (t480.take ((mn a2 (t480.length:Int)):Int).toNat)) else (none)) else (none))=some r:=H
 have A4:=aM A40
 clear A40
 obtain ⟨ji5,hji5⟩:∃ j_:Int,(mn a2 (t480.length:Int))=j_:=⟨_,rfl⟩
 replace H:(if 0≤(ji5) then (if (ji5)≤(t480.length:Int) then (some (t480.take ((ji5):Int).toNat)) else (none)) else (none))=some r:=by first | (rw [hji5] at H;exact H) | (simp only [hji5] at H ⊢;exact H)
 (try rw [hji5] at A4)
 have hji5_:(if (t480.length:Int)<a2 then (t480.length:Int) else a2)=ji5:=hji5
 by_cases c6:0≤(ji5)
 ·rw [if_pos c6] at H
  have c6b0:=eq_true c6
  have c6b1:decide (0≤(ji5))=true:=dE c6
  clear c6
  by_cases c7:(ji5)≤(t480.length:Int)
  ·rw [if_pos c7] at H
   have c7b0:=eq_true c7
   have c7b1:decide ((ji5)≤(t480.length:Int))=true:=dE c7
   clear c7
   obtain ⟨y483,hy483⟩:∃ y_:List Int,y_=(t480.take ((ji5):Int).toNat):=⟨_,rfl⟩
   replace H:(some y483)=some r:=by first | (rw [hy483];with_reducible exact H) | (have H2_:=(Option.bind_some _ _).symm.trans H;rw [hy483];with_reducible exact H2_) | (have H2_:=(Option.bind_some _ _).symm.trans H;with_reducible exact H2_) | with_reducible exact H | (rw [hy483];exact H) | exact H
   have Ny483:=aM hy483
   clear hy483
   obtain rfl:=sI H
   go_enter Tryd.func85,Tryd.ntmps85
   go_wp2_with (first | ((with_reducible refine gd_ 3 ?_);refine be_ 3 #[.int .i64 a0_0,.slice A0_1 l0_1.length c0_1] 24 ?_;intro gb479 hg w8 hbox hb;have n0_:=aM (below_step (z5_ HB.out) hb);have n1_:=aM (hbox);have n2_:=aM ((z8_ HB.out:w.heap.size≤gb479));have n3_:=aM ((z8_ HB.out:w.heap.size≤gb479));clear HB;have HB:=n0_;have BK479:=n1_;have GW479:=n2_;have GE479:=n3_;clear n0_ n1_ n2_ n3_;clear hb hbox hg;have ⟨hcz9_0,hcz9_1,hfz9_0,hfz9_1⟩:=cz2_ BK479.out) | ((with_reducible refine gc_ 56 ?_);refine gl_ (some 10) Tryd.func56 #[.agg #[.int .i64 a0_0,.slice A0_1 l0_1.length c0_1],.string a1] ?_;(with_reducible refine (Y29.calls k a0_0 _ _ l0_1 a1 t480 _ ?s1 ?s2 A4.out).mono ?_);(case s1=>repeat (first | exact (Kd.C_below HR0_1.out HB.out) | (with_reducible refine Kd.C_alloc ?_ _) | (with_reducible refine Kd.C_drewN ?_ _) | (with_reducible refine Kd.C_drew ?_)));(case s2=>exact HC0_1.out);rintro e w10 ⟨v481,rfl,ho0,hb⟩;refine ⟨_,rfl,?_⟩;have n0_:=aM (Kd.R_lower ho0 (below_size (z7_ HB.out GE479.out)));have n1_:=aM (blkB_ BK479.out hb);have n2_:=aM (below_step (z7_ HB.out GE479.out) hb);clear BK479;clear HB;have HO482:=n0_;have BK479:=n1_;have HB:=n2_;clear n0_ n1_ n2_;(try clear hb);(try clear ho0);obtain ⟨Ao11,co11,eo11⟩:=Kd.R_slice HO482.out;subst eo11;have q12:((ji5):Int)≤((t480.length:Int):Int):=dT (z0_);obtain ⟨i012,hi012,_,hsz12,_⟩:=info_parts info2;have hcut12:=cut_to (P:=Tryd.prog) 37 2 .i64 Tryd.underlying37 hi012 Ao11 t480.length co11 (ji5) (dT (z0_)) q12 (Kd.R_reads' HO482.out).2.1;have hr12:=Kd.R_take (m:=((ji5):Int).toNat) HO482.out (by omega);have hy12:y483.length=((ji5):Int).toNat:=(by rw [Ny483.out,List.length_take];omega);rw [← Ny483.out] at hr12;rw [← hy12] at hr12 hcut12;clear hy12 hi012 hsz12 HO482;have HO485:=aM hr12;clear hr12;replace q12:=eq_true q12))
   go_ret
   exact ⟨_,by first | rfl | (simp [errW_none,errW_some] <;> rfl) | (simp only [← hji5];first | rfl | (simp [errW_none,errW_some] <;> rfl)) | (simp [*,errW_none,errW_some] <;> rfl),z1_ HO485.out,z7_ HB.out GE479.out⟩
  ·rw [if_neg c7] at H
   exact nO H
 ·rw [if_neg c6] at H
  exact nO H


/-! ### Y69: function 87 -/
def Y69.f (l0:List Int):Option (List Int):=(some (([]:List Int):List Int)).bind fun y486=>(if y486.length+l0.length<17592186044416 then (some (y486 ++ l0)) else (none))
theorem Y69.calls (A0:Option Addr) (c0:Nat) (l0:List Int) (r:List Int) (w:World) (hr0:Kd.C (Kd.int .i64) w A0 l0.length l0) (hc0:l0.length≤c0) (h:Y69.f l0=some r) :
  Calls Tryd.prog 87 #[.slice A0 l0.length c0] w fun e w'=>∃ v0_:Value,e = .returned (v0_)∧Kd.R (Kd.int .i64) 2 w' w.heap.size (fun _=>True) v0_ r∧Below w.heap.size w w':=by
 have q_:∀ (w:World) (a:Option Addr) (n c n' c':Nat),(binOp .eql 37 (.slice a n c) (.slice none n' c')).run Tryd.prog w = .ok (.bool a.isNone) w:=fun w a n c n' c'=>Lib.run_eql_slice_nil w _ _ a n c n' c' Tryd.underlying37
 by_cases hA0_:A0=none
 ·subst hA0_
  obtain rfl:l0=[]:=by
   cases l0 with
   | nil=>rfl
   | cons a_ t_=>obtain ⟨ad_,c_,e_,_⟩:=Kd.C_get hr0 a_ 0 (by decide) (by simp);cases e_
  obtain rfl:([]:List Int)=r:=by simpa [Y69.f] using h
  clear h hr0
  go_enter Tryd.func87,Tryd.ntmps87
  go_wp2
  go_ret
  exact ⟨.slice none 0 0,rfl,Kd.R_nil _ _ _ _ _,Below.refl _ _⟩
 obtain ⟨A0,rfl⟩:=Option.ne_none_iff_exists'.1 hA0_
 clear hA0_
 have HR0:=aM hr0
 have HC0:=aM hc0
 clear hr0 hc0
 have HB:=aM (Below.refl w.heap.size w)
 have H:((some (([]:List Int):List Int)).bind fun y486=>(if y486.length+l0.length<17592186044416 then (some (y486 ++ l0)) else (none)))=some r:=h
 clear h
 obtain ⟨y486,hy486⟩:∃ y_:List Int,y_=(([]:List Int)):=⟨_,rfl⟩
 replace H:(if y486.length+l0.length<17592186044416 then (some (y486 ++ l0)) else (none))=some r:=by first | (rw [hy486];with_reducible exact H) | (have H2_:=(Option.bind_some _ _).symm.trans H;rw [hy486];with_reducible exact H2_) | (have H2_:=(Option.bind_some _ _).symm.trans H;with_reducible exact H2_) | with_reducible exact H | (rw [hy486];exact H) | exact H
 have Ny486:=aM hy486
 clear hy486
 by_cases c2:y486.length+l0.length<17592186044416
 ·rw [if_pos c2] at H
  have LMc2:=aM c2
  clear c2
  obtain ⟨y489,hy489⟩:∃ y_:List Int,y_=(y486 ++ l0):=⟨_,rfl⟩
  replace H:(some y489)=some r:=by first | (rw [hy489];with_reducible exact H) | (have H2_:=(Option.bind_some _ _).symm.trans H;rw [hy489];with_reducible exact H2_) | (have H2_:=(Option.bind_some _ _).symm.trans H;with_reducible exact H2_) | with_reducible exact H | (rw [hy489];exact H) | exact H
  have Ny489:=aM hy489
  clear hy489
  obtain rfl:=sI H
  go_enter Tryd.func87,Tryd.ntmps87
  go_wp2_with (first | ((with_reducible refine gd_ 5 ?_);refine Kd.R_lit (Kd.int .i64) _ 2 ?hg (N:=5) ?hd (xs:=([]:List Int)) (inner:=[]) (ok:=fun _=>True) (okp:=fun _=>True) ?hr ?hp (fun _ hk=>hk) trivial (Below.refl _ _) (Nat.le_refl _) (by simp) ?_;(case hd=>rfl);(case hg=>rfl);(case hr=>first | (go_simp;done) | (go_simp;rfl));(case hp=>exact (Reps.none _ _));intro v487 w3 ho4 hb hg_ hnew_;clear hg_ hnew_;(first | rw [← Ny486.out] at ho4 | (simp only [Int.reduceToNat] at ho4;rw [← Ny486.out] at ho4));have n0_:=aM (Kd.R_lower ho4 (below_size (z5_ HB.out)));have n1_:=aM (below_step (z5_ HB.out) hb);clear HB;have HO488:=n0_;have HB:=n1_;clear n0_ n1_;clear hb ho4) | ((with_reducible refine gate_builtin (b:=.append) (xs:=#[.tmp 5,.tmp 6]) rfl ?_);at_builtin;refine Kd.R_append_rows (Kd.int .i64) (w0:=w) w.heap.size rfl (.tmp 5) (.tmp 6) 37 2 (.int .i64 0) 8 rfl Tryd.underlying37 info2 rfl (by decide) (by omega) v487 y486 l0 _ _ _ (fun _=>True) (fun _=>False) rfl rfl ?aO ?aR (fun _ _ h=>h) (fun _ h=>h.elim) ?aF ?aB ?aS ?aL ?_;(case aR=>repeat (first | exact (Kd.C_below HR0.out HB.out) | (with_reducible refine Kd.C_alloc ?_ _) | (with_reducible refine Kd.C_drewN ?_ _) | (with_reducible refine Kd.C_drew ?_)));(case aB=>exact (z5_ HB.out));(case aF=>exact (fun _ _=>trivial));(case aO=>exact (z1_ HO488.out));(case aS=>exact (below_size (z5_ HB.out)));(case aL=>have:=LMc2.out;omega);intro v490 w5 ho hb hg hat;rw [← Ny489.out] at ho;have n0_:=aM (hb);have n1_:=aM (ho);clear HB;clear HO488;have HB:=n0_;have HO491:=n1_;clear n0_ n1_;clear ho hb hg hat))
  go_ret
  exact ⟨_,z9_,z1_ HO491.out,z5_ HB.out⟩
 ·rw [if_neg c2] at H
  exact nO H


/-! ### Y41: function 88 -/
def Y41.f (k:Nat) (a0:Int) (l1_0:List Int):Option (Bool):=(Y26.f k l1_0 a0).bind fun t492=>(some t492)
theorem Y41.mono:∀ a0 a1 k,LeO (Y41.f k a0 a1) (Y41.f (k+1) a0 a1):=by
 intro a0 a1 k
 have m0:=@Y26.mono
 unfold Y41.f
 exact mO
theorem Y41.calls (k:Nat) (a0:Int) (gb1:Nat) (A1_0:Option Addr) (c1_0:Nat) (l1_0:List Int) (r:Bool) (w:World) (hr1_0:Kd.C (Kd.int .i64) w A1_0 l1_0.length l1_0) (hc1_0:l1_0.length≤c1_0) (hk1:w.heap[gb1]? = some (.cells #[.slice A1_0 l1_0.length c1_0] 37 (0,0))) (h:Y41.f k a0 l1_0=some r) :
  Calls Tryd.prog 88 #[.int .i64 a0,.pointer (some ⟨gb1,0,none⟩)] w fun e w'=>e = .returned (.bool r)∧Below w.heap.size w w':=by
 have HR1_0:=aM hr1_0
 have HC1_0:=aM hc1_0
 clear hr1_0 hc1_0
 have BK61:=aM hk1
 clear hk1
 have HB:=aM (Below.refl w.heap.size w)
 have H:((Y26.f k l1_0 a0).bind fun t492=>(some t492))=some r:=h
 clear h
 replace H:=bS H
 obtain ⟨t492,A30,H⟩:=H
 replace H:(some t492)=some r:=H
 have A3:=aM A30
 clear A30
 obtain rfl:=sI H
 have ⟨hcz4_0,hfz4_0⟩:=cz1_ BK61.out
 go_enter Tryd.func88,Tryd.ntmps88
 go_wp2_with (first | ((with_reducible refine gc_ 89 ?_);refine gl_ (some 6) Tryd.func89 #[.slice A1_0 l1_0.length c1_0,.int .i64 a0] ?_;(with_reducible refine (Y26.calls k _ _ l1_0 a0 t492 _ ?s1 ?s2 A3.out).mono ?_);(case s1=>repeat (first | exact HR1_0.out | (with_reducible refine Kd.C_alloc ?_ _) | (with_reducible refine Kd.C_drewN ?_ _) | (with_reducible refine Kd.C_drew ?_)));(case s2=>exact HC1_0.out);rintro e w' ⟨rfl,⟨nd,rfl⟩⟩;refine ⟨_,rfl,?_⟩))
 go_ret
 exact ⟨z9_,by repeat (first | (with_reducible first | exact HB.out | apply below_alloc | apply pw_below_drewN | apply below_drew1 | refine below_set ?_ GE61.out) | exact HB.out)⟩


/-! ### Y7: function 113 -/
def Y7.l0:Nat→List Int→Int→Int→List Int→Option (Int)
 | 0,_,_,_,_=>none
 | k+1,x0,x7,x8,x62000=>if x8<x7 then (if 0≤x8 then (if x8<(x0.length:Int) then ((Y41.f k (rd x0 x8) x62000).bind fun t494=>(if t494=true then (some x8) else (Y7.l0 k x0 x7 (wrap64 (x8+1)) x62000))) else (none)) else (none)) else (some (-1))
def Y7.f (k:Nat) (l0:List Int) (l1_0:List Int):Option (Int):=Y7.l0 k l0 (l0.length:Int) 0 l1_0
theorem Y7.mono_l:∀ k,(∀ y0 y1 y2 y3,LeO (Y7.l0 k y0 y1 y2 y3) (Y7.l0 (k+1) y0 y1 y2 y3))
 | 0=>by intros <;> exact LeO.none _
 | k+1=>by
  have ih0:=Y7.mono_l k
  have m0:=@Y41.mono
  ·intros
   unfold Y7.l0
   exact mO
theorem Y7.mono:∀ a0 a1 k,LeO (Y7.f k a0 a1) (Y7.f (k+1) a0 a1):=by
 intro a0 a1 k
 have m0:=@Y41.mono
 have ih0:=Y7.mono_l k
 unfold Y7.f
 exact mO
theorem Y7.calls (k:Nat) (A0:Option Addr) (c0:Nat) (l0:List Int) (gb1:Nat) (A1_0:Option Addr) (c1_0:Nat) (l1_0:List Int) (r:Int) (w:World) (hr0:Kd.C (Kd.int .i64) w A0 l0.length l0) (hc0:l0.length≤c0) (hr1_0:Kd.C (Kd.int .i64) w A1_0 l1_0.length l1_0) (hc1_0:l1_0.length≤c1_0) (hk1:w.heap[gb1]? = some (.cells #[.slice A1_0 l1_0.length c1_0] 37 (0,0))) (h:Y7.f k l0 l1_0=some r) :
  Calls Tryd.prog 113 #[.slice A0 l0.length c0,.func (.func 88) #[] #[.pointer (some ⟨gb1,0,none⟩)]] w fun e w'=>e = .returned (.int .i64 r)∧Below w.heap.size w w':=by
 have HR0:=aM hr0
 have HC0:=aM hc0
 clear hr0 hc0
 have HR1_0:=aM hr1_0
 have HC1_0:=aM hc1_0
 clear hr1_0 hc1_0
 have BK61:=aM hk1
 clear hk1
 have HB:=aM (Below.refl w.heap.size w)
 have H:(Y7.l0 k l0 (l0.length:Int) 0 l1_0)=some r:=h
 clear h
 have H':=aM H
 clear H
 go_enter Tryd.func113,Tryd.ntmps113
 go_wp2
 go_loopg [8] k (fun kq v8 w'=>∃ (x8_1:Int),v8 = .int .i64 x8_1∧Aside0 (Y7.l0 kq l0 (l0.length:Int) x8_1 l1_0=some r)∧Aside0 (kq≤k)∧Aside0 (w'.heap[gb1]? = some (.cells #[(.slice A1_0 l1_0.length c1_0)] 37 (0,0)))∧Aside0 (Below w.heap.size w w'))
 case atStart=>exact ⟨(0),(z2_),H',⟨Nat.le_refl _⟩,⟨z3_ BK61.out⟩,⟨by repeat (first | (with_reducible first | exact HB.out | apply below_alloc | apply pw_below_drewN | apply below_drew1 | refine below_set ?_ GE61.out) | exact HB.out)⟩⟩
 case round =>
  clear H'
  try clear c1
  try clear p2
  obtain ⟨x8_1,rfl,HA,HK1,BK61,HB⟩:=hrel
  cases gk with
  | zero=>exact absurd HA.out (by simp [Y7.l0])
  | succ k1 =>
   have H:=HA.out
   clear HA
   simp only [Y7.l0] at H
   by_cases c3:x8_1<(l0.length:Int)
   ·rw [if_pos c3] at H
    have c3b0:decide (x8_1<(l0.length:Int))=true:=dE c3
    clear c3
    by_cases c4:0≤x8_1
    ·rw [if_pos c4] at H
     have c4b0:decide (0≤x8_1)=true:=dE c4
     clear c4
     by_cases c5:x8_1<(l0.length:Int)
     ·rw [if_pos c5] at H
      have c5b0:decide (x8_1<(l0.length:Int))=true:=dE c5
      clear c5
      replace H:=bS H
      obtain ⟨t494,A60,H⟩:=H
      replace H:(if t494=true then (some x8_1) else (Y7.l0 k1 l0 (l0.length:Int) (wrap64 (x8_1+1)) l1_0))=some r:=H
      have A6:=aM A60
      clear A60
      by_cases c7:t494=true
      ·subst c7
       have H1:(some x8_1)=some r:=by rw [if_pos rfl] at H;exact H
       clear H
       have H:=H1
       clear H1
       obtain rfl:=sI H
       have p493:0≤(x8_1:Int):=dT (z0_)
       have q493:x8_1<(l0.length:Int):=dT (z0_)
       obtain ⟨ad493,e493,hx493_0⟩:=Kd.at_int HR0.out x8_1 p493 q493
       cases e493
       replace hx493_0:=(HB.out.cell (World.block_lt_of_cell? w _ hx493_0)).trans hx493_0
       replace p493:=eq_true p493
       replace q493:=eq_true q493
       go_wp2_with (first | (go_at_call 88;(with_reducible refine (Y41.calls k1 (rd l0 x8_1) gb1 A1_0 c1_0 l1_0 true _ ?s1 ?s2 ?s3 A6.out).mono ?_);(case s1=>repeat (first | exact (Kd.C_below HR1_0.out HB.out) | (with_reducible refine Kd.C_alloc ?_ _) | (with_reducible refine Kd.C_drewN ?_ _) | (with_reducible refine Kd.C_drew ?_)));(case s2=>exact HC1_0.out);(case s3=>(with_reducible repeat (first | refine blk_drewN ?_ _ | refine blk_drew ?_ | refine blk_alloc ?_ _));exact BK61.out);rintro e w8 ⟨rfl,hb⟩;have n0_:=aM (blkB_ BK61.out hb);have n1_:=aM (below_step (by repeat (first | (with_reducible first | exact HB.out | apply below_alloc | apply pw_below_drewN | apply below_drew1 | refine below_set ?_ GE61.out) | exact HB.out)) hb);clear BK61;clear HB;have BK61:=n0_;have HB:=n1_;clear n0_ n1_;(try clear hb)))
       go_ret
       exact ⟨z9_,by repeat (first | (with_reducible first | exact HB.out | apply below_alloc | apply pw_below_drewN | apply below_drew1 | refine below_set ?_ GE61.out) | exact HB.out)⟩
      ·replace c7:=Bool.eq_false_iff.mpr c7
       subst c7
       have H1:(Y7.l0 k1 l0 (l0.length:Int) (wrap64 (x8_1+1)) l1_0)=some r:=by rw [if_neg (show ¬ (false=true) by decide)] at H;exact H
       clear H
       have H:=H1
       clear H1
       have H':=aM H
       clear H
       have p493:0≤(x8_1:Int):=dT (z0_)
       have q493:x8_1<(l0.length:Int):=dT (z0_)
       obtain ⟨ad493,e493,hx493_0⟩:=Kd.at_int HR0.out x8_1 p493 q493
       cases e493
       replace hx493_0:=(HB.out.cell (World.block_lt_of_cell? w _ hx493_0)).trans hx493_0
       replace p493:=eq_true p493
       replace q493:=eq_true q493
       go_wp2_with (first | (go_at_call 88;(with_reducible refine (Y41.calls k1 (rd l0 x8_1) gb1 A1_0 c1_0 l1_0 false _ ?s1 ?s2 ?s3 A6.out).mono ?_);(case s1=>repeat (first | exact (Kd.C_below HR1_0.out HB.out) | (with_reducible refine Kd.C_alloc ?_ _) | (with_reducible refine Kd.C_drewN ?_ _) | (with_reducible refine Kd.C_drew ?_)));(case s2=>exact HC1_0.out);(case s3=>(with_reducible repeat (first | refine blk_drewN ?_ _ | refine blk_drew ?_ | refine blk_alloc ?_ _));exact BK61.out);rintro e w9 ⟨rfl,hb⟩;have n0_:=aM (blkB_ BK61.out hb);have n1_:=aM (below_step (by repeat (first | (with_reducible first | exact HB.out | apply below_alloc | apply pw_below_drewN | apply below_drew1 | refine below_set ?_ GE61.out) | exact HB.out)) hb);clear BK61;clear HB;have BK61:=n0_;have HB:=n1_;clear n0_ n1_;(try clear hb)))
       go_roundg k1
       case measure=>have:=HK1.out;omega
       case rel=>exact ⟨(wrap64 (x8_1+1)),(z2_),H',⟨by have:=HK1.out;omega⟩,⟨z3_ BK61.out⟩,⟨by repeat (first | (with_reducible first | exact HB.out | apply below_alloc | apply pw_below_drewN | apply below_drew1 | refine below_set ?_ GE61.out) | exact HB.out)⟩⟩
     ·rw [if_neg c5] at H
      exact nO H
    ·rw [if_neg c4] at H
     exact nO H
   ·rw [if_neg c3] at H
    have c3b0:decide (x8_1<(l0.length:Int))=false:=dF c3
    clear c3
    obtain rfl:=sI H
    go_wp2
    go_ret
    exact ⟨z9_,by repeat (first | (with_reducible first | exact HB.out | apply below_alloc | apply pw_below_drewN | apply below_drew1 | refine below_set ?_ GE61.out) | exact HB.out)⟩


theorem clear_cells {base g cap:Nat} {ok:Nat→Prop}:∀ (m i:Nat) (xs:List Int) (W:World),Kd.R (Kd.int .i64) 2 W base ok (.slice (some ⟨g,0,none⟩) xs.length cap) xs→i+m≤xs.length →
  ∃ xs':List Int,xs'.length=xs.length∧xs'.take i=xs.take i∧Kd.R (Kd.int .i64) 2 (W.setCells g i (List.replicate m (.int .i64 0))) base ok (.slice (some ⟨g,0,none⟩) xs.length cap) xs'
 | 0,i,xs,W,h,hi=>⟨xs,rfl,rfl,h⟩
 | m+1,i,xs,W,h,hi=>by
  have h1:=(Kd.R_put h (i:Int) (0:Int)).1
  rw [Int.toNat_natCast] at h1
  obtain ⟨xs',a,b,c⟩:=clear_cells m (i+1) (xs.set i 0) _ (by rw [List.length_set];exact h1) (by rw [List.length_set];omega)
  rw [List.length_set] at a c
  refine ⟨xs',a,?_,c⟩
  have:=congrArg (List.take i) b
  simpa [List.take_take,List.take_set_of_le] using this
theorem kept_cells {w:World} {S:Nat→Prop} {g:Nat} (hg:S g∨w.heap.size≤g):∀ (vs:List Value) (o:Nat) (W:World),Kept w W S→Kept w (W.setCells g o vs) S
 | [],_,_,h=>h
 | v :: r,o,W,h=>kept_cells hg r (o+1) _ (Kept.setCell (p:=⟨g,o,none⟩) h hg v)
theorem below_cells {w0:World} {g:Nat} (hg:w0.heap.size≤g):∀ (vs:List Value) (o:Nat) (W:World),Below w0.heap.size w0 W→Below w0.heap.size w0 (W.setCells g o vs)
 | [],_,_,h=>h
 | v :: r,o,W,h=>below_cells hg r (o+1) _ (below_set h hg)
theorem clear_row {P:Program} {w0 w W:World} {t ty:TypeId} {ok S:Nat→Prop} {A:Option Addr} {c:Nat} {xs:List Int} {i:Int}
  (ht:P.underlying t=some (.slice 2)) (hv:∀ w,(zeroValue 2).run P w = .ok (.int .i64 0) w)
  (h:Kd.R (Kd.int .i64) 2 W w0.heap.size ok (.slice A xs.length c) xs) (hs:∀ k,ok k→S k∨w.heap.size≤k) (h0:0≤i) (hi:i≤(xs.length:Int)) (HK:Kept w W S) (HB:Below w0.heap.size w0 W) :
  ∃ (W':World) (xs':List Int),(Builtin.clear_ #[t] ty #[.slice (if c=i.toNat then A else A.map (·.add (i.toNat*1))) (xs.length-i.toNat) (c-i.toNat)]).run P W = .ok (.tuple #[]) W' ∧
   xs'.length=xs.length∧xs'.take i.toNat=xs.take i.toNat∧Kd.R (Kd.int .i64) 2 W' w0.heap.size ok (.slice A xs.length c) xs'∧Kept w W' S∧Below w0.heap.size w0 W':=by
 by_cases hlt:i.toNat<xs.length
 ·obtain ⟨g,cap,he,hb,hl,cells,hc⟩:=Kd.R_form h (by omega)
  injection he with e1 _ e2
  subst e1 e2
  have hcap:=(Kd.R_reads' h).2.1
  rw [if_neg (by omega),Option.map_some,add_plain,Nat.mul_one]
  obtain ⟨xs',a,b,r⟩:=clear_cells (xs.length-i.toNat) i.toNat xs W h (by omega)
  have hS:=hs g (h.1 g rfl)
  have hel:∀ j,j<xs.length-i.toNat→(W.cell? ⟨g,i.toNat+j,none⟩).isSome=true∧W.frozen? ⟨g,i.toNat+j,none⟩=false:=fun j hj=>by
   obtain ⟨ce,hcl,hM,hcc,hfr⟩:=Kd.R_elem h (0:Int) ((i.toNat+j:Nat):Int) (by omega) (by omega)
   have h3:=hfr 0
   have hce:∃ v,ce[0]? = some v:=by
    cases ce with
    | nil=>simp [Kd.int,Kd.scalar] at hcl
    | cons v r=>exact ⟨v,rfl⟩
   obtain ⟨v,hv0⟩:=hce
   have h4:=hcc 0 v hv0
   have es:(Kd.int .i64).sz=1:=rfl
   rw [es,Int.toNat_natCast,Nat.mul_one,Nat.add_zero] at h3 h4
   exact ⟨by rw [h4];rfl,h3⟩
  refine ⟨_,xs',Lib.run_clear_slice W t 2 ty (.int .i64 0) ht hv rfl rfl g i.toNat (xs.length-i.toNat) (c-i.toNat) (by omega) (fun j hj=>(hel j hj).1) (fun j hj=>(hel j hj).2),a,b,r,kept_cells hS _ _ _ HK,below_cells hb _ _ _ HB⟩
 ·refine ⟨W,xs,?_,rfl,rfl,h,HK,HB⟩
  rw [show xs.length-i.toNat=0 by omega]
  generalize (if c=i.toNat then A else A.map (·.add (i.toNat*1)))=A'
  cases A' <;> simp [Builtin.clear_,run_underlying ht]

/-! ### Y6: function 86 -/
def Y6.l0:Nat→List Int→Int→Int→List Int→Option (List Int)
 | 0,_,_,_,_=>none
 | k+1,x0,x5,x6,x62000=>if x6<(x0.length:Int) then (if 0≤x6 then ((Y41.f k (rd x0 x6) x62000).bind fun t500=>(if t500=true then (Y6.l0 k x0 x5 (wrap64 (x6+1)) x62000) else (if 0≤x5 then (if x5<(x0.length:Int) then (Y6.l0 k (x0.set (x5:Int).toNat (rd x0 x6)) (wrap64 (x5+1)) (wrap64 (x6+1)) x62000) else (none)) else (none)))) else (none)) else (if 0≤x5 then (if x5≤(x0.length:Int) then (some (x0.take (x5:Int).toNat)) else (none)) else (none))
def Y6.f (k:Nat) (l0:List Int) (l1_0:List Int):Option (List Int):=(Y7.f k l0 l1_0).bind fun t495=>(if t495=(-1) then (some l0) else (Y6.l0 k l0 t495 (wrap64 (t495+1)) l1_0))
theorem Y6.mono_l:∀ k,(∀ y0 y1 y2 y3,LeO (Y6.l0 k y0 y1 y2 y3) (Y6.l0 (k+1) y0 y1 y2 y3))
 | 0=>by intros <;> exact LeO.none _
 | k+1=>by
  have ih0:=Y6.mono_l k
  have m0:=@Y41.mono
  have m1:=@Y7.mono
  ·intros
   unfold Y6.l0
   exact mO
theorem Y6.mono:∀ a0 a1 k,LeO (Y6.f k a0 a1) (Y6.f (k+1) a0 a1):=by
 intro a0 a1 k
 have m0:=@Y41.mono
 have m1:=@Y7.mono
 have ih0:=Y6.mono_l k
 unfold Y6.f
 exact mO
theorem Y6.calls (k:Nat) (P0_:Nat→Prop) (u9000_:Value) (l0:List Int) (gb1:Nat) (A1_0:Option Addr) (c1_0:Nat) (l1_0:List Int) (r:List Int) (w0 w:World) (hB:Below w0.heap.size w0 w) (ho0:Kd.R (Kd.int .i64) 2 w w0.heap.size P0_ u9000_ l0) (hr1_0:∀ W_,Kept w W_ (fun k_=>P0_ k_)→Kd.C (Kd.int .i64) W_ A1_0 l1_0.length l1_0) (hc1_0:l1_0.length≤c1_0) (hk1:w.heap[gb1]? = some (.cells #[.slice A1_0 l1_0.length c1_0] 37 (0,0))) (h:Y6.f k l0 l1_0=some r) :
  Calls Tryd.prog 86 #[u9000_,.func (.func 88) #[] #[.pointer (some ⟨gb1,0,none⟩)]] w fun e w'=>∃ v0_:Value,e = .returned (v0_)∧Kd.R (Kd.int .i64) 2 w' w0.heap.size (fun k_=>(P0_ k_∨w.heap.size≤k_)) v0_ r∧Below w0.heap.size w0 w'∧Kept w w' (fun k_=>P0_ k_):=by
 have HO0:=aM (show Kd.R (Kd.int .i64) 2 w w0.heap.size (fun k_=>(P0_ k_∨w.heap.size≤k_)) u9000_ l0 from Kd.R_mono ho0 (fun k_ hk=>(.inl hk)))
 have HR1_0:=aM hr1_0
 have HC1_0:=aM hc1_0
 clear hr1_0 hc1_0
 have BK61:=aM hk1
 clear hk1
 have HK:=aM (Kept.refl w (fun k_=>P0_ k_))
 have HW0:=aM hB.size
 have HB:=aM hB
 clear hB
 have H:((Y7.f k l0 l1_0).bind fun t495=>(if t495=(-1) then (some l0) else (Y6.l0 k l0 t495 (wrap64 (t495+1)) l1_0)))=some r:=h
 clear h
 replace H:=bS H
 obtain ⟨t495,A30,H⟩:=H
 replace H:(if t495=(-1) then (some l0) else (Y6.l0 k l0 t495 (wrap64 (t495+1)) l1_0))=some r:=H
 have A3:=aM A30
 clear A30
 by_cases c4:t495=(-1)
 ·rw [if_pos c4] at H
  have c4b0:(t495 == (-1))=true:=beq_iff_eq.mpr c4
  have c4b1:(t495 != (-1))=false:=bne_eq_false_iff_eq.mpr c4
  clear c4
  obtain rfl:=sI H
  obtain ⟨Ao5,co5,eo5⟩:=Kd.R_slice HO0.out
  subst eo5
  go_enter Tryd.func86,Tryd.ntmps86
  go_wp2_with (first | ((with_reducible refine gc_ 113 ?_);refine gl_ (some 10) Tryd.func113 #[.slice Ao5 l0.length co5,.func (.func 88) #[] #[.pointer (some ⟨gb1,0,none⟩)]] ?_;(with_reducible refine (Y7.calls k _ _ l0 gb1 A1_0 c1_0 l1_0 t495 _ ?s1 ?s2 ?s3 ?s4 ?s5 A3.out).mono ?_);(case s1=>repeat (first | exact (Kd.R_reads' HO0.out).2.2 | (with_reducible refine Kd.C_alloc ?_ _) | (with_reducible refine Kd.C_drewN ?_ _) | (with_reducible refine Kd.C_drew ?_)));(case s2=>exact (Kd.R_reads' HO0.out).2.1);(case s3=>repeat (first | exact (HR1_0.out _ HK.out) | (with_reducible refine Kd.C_alloc ?_ _) | (with_reducible refine Kd.C_drewN ?_ _) | (with_reducible refine Kd.C_drew ?_)));(case s4=>exact HC1_0.out);(case s5=>(with_reducible repeat (first | refine blk_drewN ?_ _ | refine blk_drew ?_ | refine blk_alloc ?_ _));exact BK61.out);rintro e w6 ⟨rfl,hb⟩;refine ⟨_,rfl,?_⟩;have n0_:=aM (Kd.R_below (z1_ HO0.out) hb);have n1_:=aM (blkB_ BK61.out hb);have n2_:=aM (Kept.below (S:=(fun k_=>P0_ k_)) (by repeat (first | (with_reducible first | exact HK.out | apply Kept.alloc | apply Kept.drewN | apply Kept.drew | refine Kept.setCell ?_ (.inr GW61.out) _) | exact HK.out)) hb);have n3_:=aM (below_step (by repeat (first | (with_reducible first | exact HB.out | apply below_alloc | apply pw_below_drewN | apply below_drew1 | refine below_set ?_ GE61.out) | exact HB.out)) hb);clear HO0;clear BK61;clear HK;clear HB;have HO0:=n0_;have BK61:=n1_;have HK:=n2_;have HB:=n3_;clear n0_ n1_ n2_ n3_;(try clear hb)))
  go_ret
  exact ⟨_,z9_,z1_ HO0.out,by repeat (first | (with_reducible first | exact HB.out | apply below_alloc | apply pw_below_drewN | apply below_drew1 | refine below_set ?_ GE61.out) | exact HB.out),by repeat (first | (with_reducible first | exact HK.out | apply Kept.alloc | apply Kept.drewN | apply Kept.drew | refine Kept.setCell ?_ (.inr GW61.out) _) | exact HK.out)⟩
 ·rw [if_neg c4] at H
  have c4b0:(t495 == (-1))=false:=beq_eq_false_iff_ne.mpr c4
  have c4b1:(t495 != (-1))=true:=bne_iff_ne.mpr c4
  have H':=aM H
  clear H
  obtain ⟨Ao7,co7,eo7⟩:=Kd.R_slice HO0.out
  subst eo7
  go_enter Tryd.func86,Tryd.ntmps86
  go_wp2_with (first | ((with_reducible refine gc_ 113 ?_);refine gl_ (some 10) Tryd.func113 #[.slice Ao7 l0.length co7,.func (.func 88) #[] #[.pointer (some ⟨gb1,0,none⟩)]] ?_;(with_reducible refine (Y7.calls k _ _ l0 gb1 A1_0 c1_0 l1_0 t495 _ ?s1 ?s2 ?s3 ?s4 ?s5 A3.out).mono ?_);(case s1=>repeat (first | exact (Kd.R_reads' HO0.out).2.2 | (with_reducible refine Kd.C_alloc ?_ _) | (with_reducible refine Kd.C_drewN ?_ _) | (with_reducible refine Kd.C_drew ?_)));(case s2=>exact (Kd.R_reads' HO0.out).2.1);(case s3=>repeat (first | exact (HR1_0.out _ HK.out) | (with_reducible refine Kd.C_alloc ?_ _) | (with_reducible refine Kd.C_drewN ?_ _) | (with_reducible refine Kd.C_drew ?_)));(case s4=>exact HC1_0.out);(case s5=>(with_reducible repeat (first | refine blk_drewN ?_ _ | refine blk_drew ?_ | refine blk_alloc ?_ _));exact BK61.out);rintro e w8 ⟨rfl,hb⟩;refine ⟨_,rfl,?_⟩;have n0_:=aM (Kd.R_below (z1_ HO0.out) hb);have n1_:=aM (blkB_ BK61.out hb);have n2_:=aM (Kept.below (S:=(fun k_=>P0_ k_)) (by repeat (first | (with_reducible first | exact HK.out | apply Kept.alloc | apply Kept.drewN | apply Kept.drew | refine Kept.setCell ?_ (.inr GW61.out) _) | exact HK.out)) hb);have n3_:=aM (below_step (by repeat (first | (with_reducible first | exact HB.out | apply below_alloc | apply pw_below_drewN | apply below_drew1 | refine below_set ?_ GE61.out) | exact HB.out)) hb);clear HO0;clear BK61;clear HK;clear HB;have HO0:=n0_;have BK61:=n1_;have HK:=n2_;have HB:=n3_;clear n0_ n1_ n2_ n3_;(try clear hb)))
  go_loopg [5,6] k (fun kq v5 v6 w'=>∃ (x0_1:List Int) (x5_1:Int) (x6_1:Int),v5 = .int .i64 x5_1∧v6 = .int .i64 x6_1∧Aside0 (Y6.l0 kq x0_1 x5_1 x6_1 l1_0=some r)∧Aside0 (kq≤k)∧Aside0 (Kd.R (Kd.int .i64) 2 w' w0.heap.size (fun k_=>(P0_ k_∨w.heap.size≤k_)) (.slice Ao7 l0.length co7) x0_1)∧Aside0 (w'.heap[gb1]? = some (.cells #[(.slice A1_0 l1_0.length c1_0)] 37 (0,0)))∧Aside0 (Kept w w' (fun k_=>P0_ k_))∧Aside0 (Below w0.heap.size w0 w'))
  case atStart=>exact ⟨(l0),(t495),(wrap64 (t495+1)),(z2_),(z2_),H',⟨Nat.le_refl _⟩,⟨z1_ HO0.out⟩,⟨z3_ BK61.out⟩,⟨by repeat (first | (with_reducible first | exact HK.out | apply Kept.alloc | apply Kept.drewN | apply Kept.drew | refine Kept.setCell ?_ (.inr GW61.out) _) | exact HK.out)⟩,⟨by repeat (first | (with_reducible first | exact HB.out | apply below_alloc | apply pw_below_drewN | apply below_drew1 | refine below_set ?_ GE61.out) | exact HB.out)⟩⟩
  case round =>
   clear H'
   try clear c1
   try clear p2
   try clear c4
   try clear c4b0
   try clear c4b1
   try clear p6
   try clear c7
   obtain ⟨x0_1,x5_1,x6_1,rfl,rfl,HA,HK1,HO_0,BK61,HK,HB⟩:=hrel
   have hl0_1:=(Kd.R_reads' HO_0.out).1
   rw [hl0_1] at HO_0
   (try simp only [hl0_1])
   (try simp only [hl0_1] at BK61)
   cases gk with
   | zero=>exact absurd HA.out (by simp [Y6.l0])
   | succ k1 =>
    have H:=HA.out
    clear HA
    simp only [Y6.l0] at H
    by_cases c9:x6_1<(x0_1.length:Int)
    ·rw [if_pos c9] at H
     have c9b0:decide (x6_1<(x0_1.length:Int))=true:=dE c9
     clear c9
     by_cases c10:0≤x6_1
     ·rw [if_pos c10] at H
      have c10b0:decide (0≤x6_1)=true:=dE c10
      clear c10
      replace H:=bS H
      obtain ⟨t500,A110,H⟩:=H
      replace H:(if t500=true then (Y6.l0 k1 x0_1 x5_1 (wrap64 (x6_1+1)) l1_0) else (if 0≤x5_1 then (if x5_1<(x0_1.length:Int) then (Y6.l0 k1 (x0_1.set (x5_1:Int).toNat (rd x0_1 x6_1)) (wrap64 (x5_1+1)) (wrap64 (x6_1+1)) l1_0) else (none)) else (none)))=some r:=H
      have A11:=aM A110
      clear A110
      by_cases c12:t500=true
      ·subst c12
       have H1:(Y6.l0 k1 x0_1 x5_1 (wrap64 (x6_1+1)) l1_0)=some r:=by rw [if_pos rfl] at H;exact H
       clear H
       have H:=H1
       clear H1
       have H':=aM H
       clear H
       have p499:0≤(x6_1:Int):=dT (z0_)
       have q499:x6_1<(x0_1.length:Int):=dT (z0_)
       obtain ⟨ad499,e499,hx499_0⟩:=Kd.at_int (Kd.R_reads' HO_0.out).2.2 x6_1 p499 q499
       cases e499
       replace p499:=eq_true p499
       replace q499:=eq_true q499
       go_wp2_with (first | (go_at_call 88;(with_reducible refine (Y41.calls k1 (rd x0_1 x6_1) gb1 A1_0 c1_0 l1_0 true _ ?s1 ?s2 ?s3 A11.out).mono ?_);(case s1=>repeat (first | exact (HR1_0.out _ HK.out) | (with_reducible refine Kd.C_alloc ?_ _) | (with_reducible refine Kd.C_drewN ?_ _) | (with_reducible refine Kd.C_drew ?_)));(case s2=>exact HC1_0.out);(case s3=>(with_reducible repeat (first | refine blk_drewN ?_ _ | refine blk_drew ?_ | refine blk_alloc ?_ _));exact BK61.out);rintro e w13 ⟨rfl,hb⟩;have n0_:=aM (Kd.R_below (z1_ HO_0.out) hb);have n1_:=aM (blkB_ BK61.out hb);have n2_:=aM (Kept.below (S:=(fun k_=>P0_ k_)) (by repeat (first | (with_reducible first | exact HK.out | apply Kept.alloc | apply Kept.drewN | apply Kept.drew | refine Kept.setCell ?_ (.inr GW61.out) _) | exact HK.out)) hb);have n3_:=aM (below_step (by repeat (first | (with_reducible first | exact HB.out | apply below_alloc | apply pw_below_drewN | apply below_drew1 | refine below_set ?_ GE61.out) | exact HB.out)) hb);clear HO_0;clear BK61;clear HK;clear HB;have HO_0:=n0_;have BK61:=n1_;have HK:=n2_;have HB:=n3_;clear n0_ n1_ n2_ n3_;(try clear hb)))
       (try simp only [← hl0_1])
       go_roundg k1
       case measure=>have:=HK1.out;omega
       case rel=>exact ⟨(x0_1),(x5_1),(wrap64 (x6_1+1)),(z2_),(z2_),H',⟨by have:=HK1.out;omega⟩,⟨z25_ HO_0.out⟩,⟨by (try simp only [hl0_1]);(with_reducible repeat (first | refine blk_drewN ?_ _ | refine blk_drew ?_ | refine blk_alloc ?_ _));exact BK61.out⟩,⟨by repeat (first | (with_reducible first | exact HK.out | apply Kept.alloc | apply Kept.drewN | apply Kept.drew | refine Kept.setCell ?_ (.inr GW61.out) _) | exact HK.out)⟩,⟨by repeat (first | (with_reducible first | exact HB.out | apply below_alloc | apply pw_below_drewN | apply below_drew1 | refine below_set ?_ GE61.out) | exact HB.out)⟩⟩
      ·replace c12:=Bool.eq_false_iff.mpr c12
       subst c12
       have H1:(if 0≤x5_1 then (if x5_1<(x0_1.length:Int) then (Y6.l0 k1 (x0_1.set (x5_1:Int).toNat (rd x0_1 x6_1)) (wrap64 (x5_1+1)) (wrap64 (x6_1+1)) l1_0) else (none)) else (none))=some r:=by rw [if_neg (show ¬ (false=true) by decide)] at H;exact H
       clear H
       have H:=H1
       clear H1
       by_cases c14:0≤x5_1
       ·rw [if_pos c14] at H
        have c14b0:decide (0≤x5_1)=true:=dE c14
        clear c14
        by_cases c15:x5_1<(x0_1.length:Int)
        ·rw [if_pos c15] at H
         have c15b0:decide (x5_1<(x0_1.length:Int))=true:=dE c15
         clear c15
         obtain ⟨y501,hy501⟩:∃ y_:List Int,y_=(x0_1.set (x5_1:Int).toNat (rd x0_1 x6_1)):=⟨_,rfl⟩
         replace H:(Y6.l0 k1 y501 (wrap64 (x5_1+1)) (wrap64 (x6_1+1)) l1_0)=some r:=by first | (rw [hy501];with_reducible exact H) | (have H2_:=(Option.bind_some _ _).symm.trans H;rw [hy501];with_reducible exact H2_) | (have H2_:=(Option.bind_some _ _).symm.trans H;with_reducible exact H2_) | with_reducible exact H | (rw [hy501];exact H) | exact H
         have Ny501:=aM hy501
         clear hy501
         have H':=aM H
         clear H
         have p499:0≤(x6_1:Int):=dT (z0_)
         have q499:x6_1<(x0_1.length:Int):=dT (z0_)
         obtain ⟨ad499,e499,hx499_0⟩:=Kd.at_int (Kd.R_reads' HO_0.out).2.2 x6_1 p499 q499
         cases e499
         replace p499:=eq_true p499
         replace q499:=eq_true q499
         go_wp2_with (first | (go_at_call 88;(with_reducible refine (Y41.calls k1 (rd x0_1 x6_1) gb1 A1_0 c1_0 l1_0 false _ ?s1 ?s2 ?s3 A11.out).mono ?_);(case s1=>repeat (first | exact (HR1_0.out _ HK.out) | (with_reducible refine Kd.C_alloc ?_ _) | (with_reducible refine Kd.C_drewN ?_ _) | (with_reducible refine Kd.C_drew ?_)));(case s2=>exact HC1_0.out);(case s3=>(with_reducible repeat (first | refine blk_drewN ?_ _ | refine blk_drew ?_ | refine blk_alloc ?_ _));exact BK61.out);rintro e w17 ⟨rfl,hb⟩;have n0_:=aM (Kd.R_below (z1_ HO_0.out) hb);have n1_:=aM (blkB_ BK61.out hb);have n2_:=aM (Kept.below (S:=(fun k_=>P0_ k_)) (by repeat (first | (with_reducible first | exact HK.out | apply Kept.alloc | apply Kept.drewN | apply Kept.drew | refine Kept.setCell ?_ (.inr GW61.out) _) | exact HK.out)) hb);have n3_:=aM (below_step (by repeat (first | (with_reducible first | exact HB.out | apply below_alloc | apply pw_below_drewN | apply below_drew1 | refine below_set ?_ GE61.out) | exact HB.out)) hb);clear HO_0;clear BK61;clear HK;clear HB;have HO_0:=n0_;have BK61:=n1_;have HK:=n2_;have HB:=n3_;clear n0_ n1_ n2_ n3_;(try clear hb);have p16:0≤(x5_1:Int):=dT (z0_);have q16:(x5_1:Int)<((x0_1.length:Int):Int):=dT (z0_);obtain ⟨go16,co16,eo16,gb16,gl16,cl16,HG16⟩:=Kd.R_form HO_0.out (by omega);(first | cases eo16 | (injection eo16 with ea_ en_ ec_;(first | subst ea_ | (injection ea_ with ea_;subst ea_));subst ec_;clear en_));have GB16:=aM gb16;have GG16:=aM HG16;clear gb16 gl16 HG16;have HMgo16:=aM (show (P0_ go16∨w.heap.size≤go16) from (HO_0.out.1 _ rfl));(first | simp only [add_plain] at hx499_0 | skip);obtain ⟨hx16_0,hf16_0⟩:=Kd.R_celln 0 HO_0.out (x5_1:Int) p16 q16;replace p16:=eq_true p16;replace q16:=eq_true q16;obtain ⟨hy18_,hz18_⟩:=Kd.R_celln 0 HO_0.out (x5_1:Int) (dT (z0_)) (dT (z0_));have HP18:=Kd.R_putg HO_0.out (x5_1:Int) (rd x0_1 x6_1)) | ((with_reducible refine gate_store (t:=2) (p:=33) rfl ?_);refine store_event (t:=2) (p:=33) (v:=?vo_w19) (w1:=(w17.setCell ⟨go16,(x5_1:Int).toNat,none⟩ (.int .i64 (rd x0_1 x6_1)))) ?hg ?ho ?hn ?hr ?_;(case ho=>rfl);(case hg=>rfl);(case hn=>rfl);(case hr=>first | (go_simp;done) | (go_simp;rfl));intro w19 hw;have hg:w17.grownBy w19 (some go16):=(by rw [hw];exact HP18.2);have hp_:Kd.R (Kd.int .i64) 2 w19 w0.heap.size (fun k_=>(P0_ k_∨w.heap.size≤k_)) (.slice (some ⟨go16,0,none⟩) x0_1.length co7) y501:=(by rw [hw,Ny501.out];exact HP18.1);clear HP18;have n0_:=aM (hp_);have n1_:=aM (blk_grown (g:=gb1) (o:=.cells #[.slice A1_0 l1_0.length c1_0] 37 (0,0)) (z3_ BK61.out) hg (Kd.R_ne HO_0.out BK61.out (by decide)));have n2_:=aM ((by rw [hw];exact below_set (HB.out) GB16.out:Below w0.heap.size w0 w19));have n3_:=aM (Kept.of_grown (S:=(fun k_=>P0_ k_)) hg (by repeat (first | (with_reducible first | exact HK.out | apply Kept.alloc | apply Kept.drewN | apply Kept.drew | refine Kept.setCell ?_ (.inr GW61.out) _) | exact HK.out)) (fun k_ e_=>(HO_0.out.1 k_ e_)));clear HO_0;clear BK61;clear HB;clear HK;have HO_0:=n0_;have BK61:=n1_;have HB:=n2_;have HK:=n3_;clear n0_ n1_ n2_ n3_;clear hg hw hp_))
         (try simp only [← hl0_1])
         go_roundg k1
         case measure=>have:=HK1.out;omega
         case rel=>exact ⟨(y501),(wrap64 (x5_1+1)),(wrap64 (x6_1+1)),(z2_),(z2_),H',⟨by have:=HK1.out;omega⟩,⟨z25_ HO_0.out⟩,⟨by (try simp only [hl0_1]);(with_reducible repeat (first | refine blk_drewN ?_ _ | refine blk_drew ?_ | refine blk_alloc ?_ _));exact BK61.out⟩,⟨by repeat (first | (with_reducible first | exact HK.out | apply Kept.alloc | apply Kept.drewN | apply Kept.drew | refine Kept.setCell ?_ (.inr GW61.out) _) | exact HK.out)⟩,⟨by repeat (first | (with_reducible first | exact HB.out | apply below_alloc | apply pw_below_drewN | apply below_drew1 | refine below_set ?_ GE61.out) | exact HB.out)⟩⟩
        ·rw [if_neg c15] at H
         exact nO H
       ·rw [if_neg c14] at H
        exact nO H
     ·rw [if_neg c10] at H
      exact nO H
    ·rw [if_neg c9] at H
     have c9b0:decide (x6_1<(x0_1.length:Int))=false:=dF c9
     clear c9
     by_cases c20:0≤x5_1
     ·rw [if_pos c20] at H
      have c20b0:=eq_true c20
      have c20b1:decide (0≤x5_1)=true:=dE c20
      clear c20
      by_cases c21:x5_1≤(x0_1.length:Int)
      ·rw [if_pos c21] at H
       have c21b0:=eq_true c21
       have c21b1:decide (x5_1≤(x0_1.length:Int))=true:=dE c21
       clear c21
       obtain ⟨y496,hy496⟩:∃ y_:List Int,y_=(x0_1.take (x5_1:Int).toNat):=⟨_,rfl⟩
       replace H:(some y496)=some r:=by first | (rw [hy496];with_reducible exact H) | (have H2_:=(Option.bind_some _ _).symm.trans H;rw [hy496];with_reducible exact H2_) | (have H2_:=(Option.bind_some _ _).symm.trans H;with_reducible exact H2_) | with_reducible exact H | (rw [hy496];exact H) | exact H
       have Ny496:=aM hy496
       clear hy496
       obtain rfl:=sI H
       have q22:(x5_1:Int)≤((x0_1.length:Int):Int):=dT (z0_)
       obtain ⟨i022,hi022,_,hsz22,_⟩:=info_parts info2
       have hge_:(0:Int)≤x5_1:=dT (z0_)
       have hcutc_:=cut_from (P:=Tryd.prog) 37 2 .i64 Tryd.underlying37 hi022 1 hsz22 Ao7 x0_1.length co7 x5_1 hge_ q22
       obtain ⟨wz_,xz_,hclr_,hlz_,htz_,hRz_,hKz_,hBz_⟩:=clear_row (P:=Tryd.prog) (ty:=0) Tryd.underlying37 (fun _=>by kernel_rfl) HO_0.out (fun _ hk=>hk) hge_ q22 HK.out HB.out
       obtain ⟨Az_,hAz_⟩:∃ A1,A1=(if co7=(x5_1:Int).toNat then Ao7 else (Ao7:Option Addr).map (·.add ((x5_1:Int).toNat*1))):=⟨_,rfl⟩
       obtain ⟨cz_,hcz_⟩:∃ c1,c1=co7-(x5_1:Int).toNat:=⟨_,rfl⟩
       obtain ⟨nz_,hnz_⟩:∃ n1,n1=x0_1.length-(x5_1:Int).toNat:=⟨_,rfl⟩
       rw [← hAz_,← hcz_,← hnz_] at hclr_
       rw [Nat.mul_one] at hAz_
       clear hcutc_
       have hA0_:=aM hAz_
       have hc0_:=aM hcz_
       have hn0_:=aM hnz_
       clear hAz_ hcz_ hnz_
       have hcut22:=cut_to (P:=Tryd.prog) 37 2 .i64 Tryd.underlying37 hi022 Ao7 x0_1.length co7 x5_1 (dT (z0_)) q22 (Kd.R_reads' HO_0.out).2.1
       have hr22:=Kd.R_take (m:=(x5_1:Int).toNat) hRz_ (by rw [hlz_];omega)
       rw [htz_] at hr22
       have hy22:y496.length=(x5_1:Int).toNat:=(by rw [Ny496.out,List.length_take];omega)
       rw [← Ny496.out] at hr22
       rw [← hy22] at hr22 hcut22
       clear hy22 hi022 hsz22 HO_0
       have HO498:=aM hr22
       clear hr22
       replace q22:=eq_true q22
       go_wp2_with (first | ((with_reducible refine gd_ 38 ?_);refine Kd.event_run ?hg (v:=.slice Az_ nz_ cz_) (w1:=wr) ?hr ?_;(case hg=>rfl);(case hr=>first | (go_simp;done) | (go_simp;rw [hA0_.out,hc0_.out,hn0_.out];done) | (rw [hA0_.out,hc0_.out,hn0_.out];go_simp;first | done | rfl))) | ((with_reducible refine gate_builtin (b:=.clear) (xs:=#[.tmp 38]) rfl ?_);refine Kd.event_run ?hg (v:=.tuple #[]) (w1:=wz_) ?hr ?_;(case hg=>rfl);(case hr=>first | (go_simp;done) | (go_simp;rfl))))
       clear HB HK
       have HB:=aM hBz_
       have HK:=aM hKz_
       go_ret
       exact ⟨_,z9_,z1_ HO498.out,by repeat (first | (with_reducible first | exact HB.out | apply below_alloc | apply pw_below_drewN | apply below_drew1 | refine below_set ?_ GE61.out) | exact HB.out),by repeat (first | (with_reducible first | exact HK.out | apply Kept.alloc | apply Kept.drewN | apply Kept.drew | refine Kept.setCell ?_ (.inr GW61.out) _) | exact HK.out)⟩
      ·rw [if_neg c21] at H
       exact nO H
     ·rw [if_neg c20] at H
      exact nO H


/-! ### Y64: function 53 -/
def Y64.f (k:Nat) (a0_0:Int) (l0_1:List (S77)) (a1_0:Int) (l1_1:List (S77)) (a2:ByteArray) (a3:Int):Option (List Int):=(Y75.f k a0_0 l0_1 a2 a3).bind fun t1=>((Y75.f k a1_0 l1_1 a2 a3).bind fun t2=>((Y69.f t2).bind fun t3=>(Y6.f k t3 t1)))
theorem Y64.mono:∀ a0_0 l0_1 a1_0 l1_1 a2 a3 k,LeO (Y64.f k a0_0 l0_1 a1_0 l1_1 a2 a3) (Y64.f (k+1) a0_0 l0_1 a1_0 l1_1 a2 a3):=by
 intro a0_0 l0_1 a1_0 l1_1 a2 a3 k
 unfold Y64.f
 exact LeO.bind (Y75.mono _ _ _ _ _) (fun _=>LeO.bind (Y75.mono _ _ _ _ _) (fun _=>LeO.bind (LeO.refl _) (fun _=>Y6.mono _ _ _)))
theorem cz1n_ {w:World} {g:Nat} {t:TypeId} {v0:Value} (h:w.heap[g]? = some (.cells #[v0] t (0,0))):w.cell? ⟨g,0,none⟩=some v0∧w.frozen? ⟨g,0,none⟩=false:=⟨blk_cell h 0,blk_frozen h 0⟩
theorem cz2n_ {w:World} {g:Nat} {t:TypeId} {v0 v1:Value} (h:w.heap[g]? = some (.cells #[v0,v1] t (0,0))):w.cell? ⟨g,0,none⟩=some v0∧w.cell? ⟨g,1,none⟩=some v1∧w.frozen? ⟨g,0,none⟩=false∧w.frozen? ⟨g,1,none⟩=false:=⟨blk_cell h 0,blk_cell h 1,blk_frozen h 0,blk_frozen h 1⟩
theorem Y64.calls (k:Nat) (a0_0:Int) (A0_1:Option Addr) (c0_1:Nat) (l0_1:List (S77)) (a1_0:Int) (A1_1:Option Addr) (c1_1:Nat) (l1_1:List (S77)) (a2:ByteArray) (a3:Int) (r:List Int) (w:World) (hr0_1:Kd.C k77 w A0_1 l0_1.length l0_1) (hc0_1:l0_1.length≤c0_1) (hr1_1:Kd.C k77 w A1_1 l1_1.length l1_1) (hc1_1:l1_1.length≤c1_1) (h:Y64.f k a0_0 l0_1 a1_0 l1_1 a2 a3=some r) :
  Calls Tryd.prog 53 #[.agg #[.int .i64 a0_0,.slice A0_1 l0_1.length c0_1],.agg #[.int .i64 a1_0,.slice A1_1 l1_1.length c1_1],.string a2,.int .i64 a3] w fun e w'=>∃ v0_:Value,e = .returned (v0_)∧Kd.R (Kd.int .i64) 2 w' w.heap.size (fun _=>True) v0_ r∧Below w.heap.size w w':=by
 have hu_:=Tryd.underlying24
 have HRa:=aM hr0_1
 have HCa:=aM hc0_1
 have HRb:=aM hr1_1
 have HCb:=aM hc1_1
 clear hr0_1 hc0_1 hr1_1 hc1_1
 have HBo:=aM (Below.refl w.heap.size w)
 unfold Y64.f at h
 obtain ⟨t1,A1,h⟩:=Option.bind_eq_some_iff.mp h
 obtain ⟨t2,A2,h⟩:=Option.bind_eq_some_iff.mp h
 obtain ⟨t3,A3,A4⟩:=Option.bind_eq_some_iff.mp h
 clear h
 replace A1:=aM A1
 replace A2:=aM A2
 replace A3:=aM A3
 replace A4:=aM A4
 go_enter Tryd.func53,Tryd.ntmps53
 go_wp2_with (first | ((with_reducible refine gd_ 4 ?_);refine be_ 4 #[.int .i64 a0_0,.slice A0_1 l0_1.length c0_1] 24 ?_;intro ga hg w_ hbox hb;have HB:=aM (below_step HBo.out hb);have BA:=aM hbox;clear hb hbox hg) | ((with_reducible refine gd_ 5 ?_);refine be_ 5 #[.int .i64 a1_0,.slice A1_1 l1_1.length c1_1] 24 ?_;intro gb hg w_ hbox hb;have BA:=aM (blk_below BA.out hb);have HB:=aM (below_step HB.out hb);have BB:=aM hbox;have ⟨hza_0,hza_1,hza_2,hza_3⟩:=cz2n_ BA.out;clear hb hbox hg) | ((with_reducible refine gc_ 85 ?_);refine gl_ (some 13) Tryd.func85 #[.agg #[.int .i64 a0_0,.slice A0_1 l0_1.length c0_1],.string a2,.int .i64 a3] ?_;(with_reducible refine (Y75.calls k a0_0 _ _ l0_1 a2 a3 t1 _ ?s1 ?s2 A1.out).mono ?_);(case s1=>exact Kd.C_below HRa.out HB.out);(case s2=>exact HCa.out);rintro e w_ ⟨v1,rfl,ho0,hb⟩;refine ⟨_,rfl,?_⟩;clear hza_0 hza_1 hza_2 hza_3;have HO1:=aM (Kd.R_lower ho0 (below_size HB.out));have BB:=aM (blk_below BB.out hb);have HB:=aM (below_step HB.out hb);obtain ⟨Ao1,co1,eo1⟩:=Kd.R_slice HO1.out;subst eo1;clear ho0 hb) | ((with_reducible refine gd_ 9 ?_);refine be_ 9 #[.slice none 0 0] 37 ?_;intro gc hg w_ hbox hb;have HO1:=aM (Kd.R_below HO1.out hb);have hne1_:gb≠gc:=(by rw [hg];exact Nat.ne_of_lt (blk_lt BB.out));have hne2_:gc≠gb:=(fun e_=>hne1_ e_.symm);have BB:=aM (blk_below BB.out hb);have GC:=aM (show w.heap.size≤gc by rw [hg];exact below_size HB.out);have HB:=aM (below_step HB.out hb);have BC:=aM hbox;have ⟨hzc_0,hzc_1⟩:=cz1n_ BC.out;have ⟨hzb_0,hzb_1,hzb_2,hzb_3⟩:=cz2n_ BB.out;clear hb hbox hg) | ((with_reducible refine gc_ 85 ?_);refine gl_ (some 17) Tryd.func85 #[.agg #[.int .i64 a1_0,.slice A1_1 l1_1.length c1_1],.string a2,.int .i64 a3] ?_;(with_reducible refine (Y75.calls k a1_0 _ _ l1_1 a2 a3 t2 _ ?s1 ?s2 A2.out).mono ?_);(case s1=>exact Kd.C_below HRb.out (below_set HB.out GC.out));(case s2=>exact HCb.out);rintro e w_ ⟨v2,rfl,ho0,hb⟩;refine ⟨_,rfl,?_⟩;clear hzb_0 hzb_1 hzb_2 hzb_3 hzc_0 hzc_1;have HB1:=aM (below_set HB.out GC.out (j:=0) (v:=.slice Ao1 t1.length co1));have HO2:=aM (Kd.R_lower ho0 (below_size HB1.out));have HO1:=aM (Kd.R_below (Kd.R_set HO1.out BC.out (by decide) 0 (.slice Ao1 t1.length co1)) hb);have BC:=aM (blk_below (blk_put (cs':=#[.slice Ao1 t1.length co1]) BC.out 0 (.slice Ao1 t1.length co1) rfl) hb);clear HB;have HB:=aM (below_step HB1.out hb);obtain ⟨Ao2,co2,eo2⟩:=Kd.R_slice HO2.out;subst eo2;clear ho0 hb) | ((with_reducible refine gc_ 87 ?_);refine gl_ (some 18) Tryd.func87 #[.slice Ao2 t2.length co2] ?_;(with_reducible refine (Y69.calls _ _ t2 t3 _ ?s1 ?s2 A3.out).mono ?_);(case s1=>exact (Kd.R_reads' HO2.out).2.2);(case s2=>exact (Kd.R_reads' HO2.out).2.1);rintro e w_ ⟨v3,rfl,ho0,hb⟩;refine ⟨_,rfl,?_⟩;have HO3:=aM (Kd.R_lower ho0 (below_size HB.out));have HO1:=aM (Kd.R_elder' HO1.out (Kd.R_base ho0) hb);have BC:=aM (blk_below BC.out hb);have HB:=aM (below_step HB.out hb);obtain ⟨Ao3,co3,eo3⟩:=Kd.R_slice HO3.out;subst eo3;clear ho0 hb) | ((with_reducible refine gc_ 86 ?_);refine gl_ (some 20) Tryd.func86 #[.slice Ao3 t3.length co3,.func (.func 88) #[] #[.pointer (some ⟨gc,0,none⟩)]] ?_;(with_reducible refine (Y6.calls k (fun k_=>some k_=(.slice Ao3 t3.length co3:Value).ownBlock) (.slice Ao3 t3.length co3) t3 gc Ao1 co1 t1 r w _ ?s1 ?s2 ?s3 ?s4 ?s5 A4.out).mono ?_);(case s1=>exact HB.out);(case s2=>exact Kd.R_tight rfl HO3.out);(case s3=>exact fun W_ hk_=>(Kd.R_reads' (Kd.R_keptB HO1.out hk_ (fun k_ h_ hs_=>h_.2 hs_))).2.2);(case s4=>exact (Kd.R_reads' HO1.out).2.1);(case s5=>exact BC.out);rintro e w_ ⟨v4,rfl,ho0,hb,hkp⟩;refine ⟨_,rfl,?_⟩;have HO4:=aM (Kd.R_mono ho0 (fun _ _=>trivial));have HB4:=aM hb;clear ho0 hb hkp))
 go_ret
 exact ⟨_,by first | rfl | (simp;done),HO4.out,HB4.out⟩


/-! ### Y23: function 19 -/
def Y23.j0:Nat→ByteArray→Int→Bool→Int→List (S77)→Int→List (S77)→Option (List Int)
 | 0,_,_,_,_,_,_,_=>none
 | k+1,x2,x3,x22,x503000,x503001,x504000,x504001=>if x22=true then (some ([]:List Int)) else ((Y64.f k x503000 x503001 x504000 x504001 x2 x3).bind fun t507=>(some t507))
def Y23.f (k:Nat) (a0_0:Int) (l0_1:List (S77)) (a1_0:Int) (l1_1:List (S77)) (a2:ByteArray) (a3:Int):Option (List Int):=(Y53.f k a0_0 l0_1 a2).bind fun t504=>(if t504=true then ((Y16.f k a1_0 l1_1).bind fun t505=>(if t505=true then ((Y65.f a3).bind fun t506=>(Y23.j0 k a2 a3 (!t506) a0_0 l0_1 a1_0 l1_1)) else (Y23.j0 k a2 a3 true a0_0 l0_1 a1_0 l1_1))) else (Y23.j0 k a2 a3 true a0_0 l0_1 a1_0 l1_1))
theorem Y23.mono_l:∀ k,(∀ y0 y1 y2 y3 y4 y5 y6,LeO (Y23.j0 k y0 y1 y2 y3 y4 y5 y6) (Y23.j0 (k+1) y0 y1 y2 y3 y4 y5 y6))
 | 0=>by intros <;> exact LeO.none _
 | k+1=>by
  have ih0:=Y23.mono_l k
  have m0:=@Y16.mono
  have m1:=@Y53.mono
  have m2:=@Y64.mono
  ·intros
   unfold Y23.j0
   exact mO
theorem Y23.mono:∀ a0 a1 a2 a3 a4 a5 k,LeO (Y23.f k a0 a1 a2 a3 a4 a5) (Y23.f (k+1) a0 a1 a2 a3 a4 a5):=by
 intro a0 a1 a2 a3 a4 a5 k
 have m0:=@Y16.mono
 have m1:=@Y53.mono
 have m2:=@Y64.mono
 have ih0:=Y23.mono_l k
 unfold Y23.f
 exact mO
theorem Y23.calls (k:Nat) (a0_0:Int) (A0_1:Option Addr) (c0_1:Nat) (l0_1:List (S77)) (a1_0:Int) (A1_1:Option Addr) (c1_1:Nat) (l1_1:List (S77)) (a2:ByteArray) (a3:Int) (r:List Int) (w:World) (hr0_1:Kd.C k77 w A0_1 l0_1.length l0_1) (hc0_1:l0_1.length≤c0_1) (hr1_1:Kd.C k77 w A1_1 l1_1.length l1_1) (hc1_1:l1_1.length≤c1_1) (h:Y23.f k a0_0 l0_1 a1_0 l1_1 a2 a3=some r) :
  Calls Tryd.prog 19 #[.agg #[.int .i64 a0_0,.slice A0_1 l0_1.length c0_1],.agg #[.int .i64 a1_0,.slice A1_1 l1_1.length c1_1],.string a2,.int .i64 a3] w fun e w'=>∃ v0_:Value,e = .returned (v0_)∧Kd.R (Kd.int .i64) 2 w' w.heap.size (fun _=>True) v0_ r∧Below w.heap.size w w':=by
 have hu24:=Tryd.underlying24
 have HR0_1:=aM hr0_1
 have HC0_1:=aM hc0_1
 clear hr0_1 hc0_1
 have HR1_1:=aM hr1_1
 have HC1_1:=aM hc1_1
 clear hr1_1 hc1_1
 have HB:=aM (Below.refl w.heap.size w)
 have H:((Y53.f k a0_0 l0_1 a2).bind fun t504=>(if t504=true then ((Y16.f k a1_0 l1_1).bind fun t505=>(if t505=true then ((Y65.f a3).bind fun t506=>(Y23.j0 k a2 a3 (!t506) a0_0 l0_1 a1_0 l1_1)) else (Y23.j0 k a2 a3 true a0_0 l0_1 a1_0 l1_1))) else (Y23.j0 k a2 a3 true a0_0 l0_1 a1_0 l1_1)))=some r:=h
 clear h
 have HC5:=aM H
 clear H
 go_enter Tryd.func19,Tryd.ntmps19
 go_upto_region 1 with (first | ((with_reducible refine gd_ 4 ?_);refine be_ 4 #[.int .i64 a0_0,.slice A0_1 l0_1.length c0_1] 24 ?_;intro gb502 hg w6 hbox hb;have n0_:=aM (below_step (z5_ HB.out) hb);have n1_:=aM (hbox);have n2_:=aM ((z8_ HB.out:w.heap.size≤gb502));have n3_:=aM ((z8_ HB.out:w.heap.size≤gb502));clear HB;have HB:=n0_;have BK502:=n1_;have GW502:=n2_;have GE502:=n3_;clear n0_ n1_ n2_ n3_;clear hb hbox hg) | ((with_reducible refine gd_ 5 ?_);refine be_ 5 #[.int .i64 a1_0,.slice A1_1 l1_1.length c1_1] 24 ?_;intro gb503 hg w7 hbox hb;have n0_:=aM (blkB_ BK502.out hb);have n1_:=aM (below_step (z7_ HB.out GE502.out) hb);have n2_:=aM (hbox);have n3_:=aM ((z11_ HB.out GE502.out:w.heap.size≤gb503));have n4_:=aM ((z11_ HB.out GE502.out:w.heap.size≤gb503));have n5_:=aM (neL_ BK502.out hg);have n6_:=aM (neG_ BK502.out hg);clear BK502;clear HB;have BK502:=n0_;have HB:=n1_;have BK503:=n2_;have GW503:=n3_;have GE503:=n4_;have NB502_503:=n5_;have NB503_502:=n6_;clear n0_ n1_ n2_ n3_ n4_ n5_ n6_;clear hb hbox hg))
 (try simp only [Act.put,sa_,s0_,ss_])
 go_cut [22] (fun v22 wc=>∃ (kq:Nat) (x22_4:Bool),v22 = .bool x22_4∧Aside0 (Y23.j0 kq a2 a3 x22_4 a0_0 l0_1 a1_0 l1_1=some r)∧Aside0 (kq≤k)∧Aside0 (wc.heap[gb502]? = some (.cells #[.int .i64 a0_0,(.slice A0_1 l0_1.length c0_1)] 24 (0,0)))∧Aside0 (wc.heap[gb503]? = some (.cells #[.int .i64 a1_0,(.slice A1_1 l1_1.length c1_1)] 24 (0,0)))∧Aside0 (Below w.heap.size w wc))
 case first =>
  have H:=HC5.out
  clear HC5
  replace H:=bS H
  obtain ⟨t504,A80,H⟩:=H
  replace H:(if t504=true then ((Y16.f k a1_0 l1_1).bind fun t505=>(if t505=true then ((Y65.f a3).bind fun t506=>(Y23.j0 k a2 a3 (!t506) a0_0 l0_1 a1_0 l1_1)) else (Y23.j0 k a2 a3 true a0_0 l0_1 a1_0 l1_1))) else (Y23.j0 k a2 a3 true a0_0 l0_1 a1_0 l1_1))=some r:=H
  have A8:=aM A80
  clear A80
  by_cases c9:t504=true
  ·subst c9
   have H1:((Y16.f k a1_0 l1_1).bind fun t505=>(if t505=true then ((Y65.f a3).bind fun t506=>(Y23.j0 k a2 a3 (!t506) a0_0 l0_1 a1_0 l1_1)) else (Y23.j0 k a2 a3 true a0_0 l0_1 a1_0 l1_1)))=some r:=by rw [if_pos rfl] at H;exact H
   clear H
   have H:=H1
   clear H1
   replace H:=bS H
   obtain ⟨t505,A100,H⟩:=H
   replace H:(if t505=true then ((Y65.f a3).bind fun t506=>(Y23.j0 k a2 a3 (!t506) a0_0 l0_1 a1_0 l1_1)) else (Y23.j0 k a2 a3 true a0_0 l0_1 a1_0 l1_1))=some r:=H
   have A10:=aM A100
   clear A100
   by_cases c11:t505=true
   ·subst c11
    have H1:((Y65.f a3).bind fun t506=>(Y23.j0 k a2 a3 (!t506) a0_0 l0_1 a1_0 l1_1))=some r:=by rw [if_pos rfl] at H;exact H
    clear H
    have H:=H1
    clear H1
    replace H:=bS H
    obtain ⟨t506,A120,H⟩:=H
    replace H:(Y23.j0 k a2 a3 (!t506) a0_0 l0_1 a1_0 l1_1)=some r:=H
    have A12:=aM A120
    clear A120
    have H':=aM H
    clear H
    have hnb13:=NB502_503.out
    have hnc13:=NB503_502.out
    have ⟨hcz14_0,hcz14_1,hfz14_0,hfz14_1⟩:=cz2_ BK502.out
    go_wp2_with (first | ((with_reducible refine gc_ 52 ?_);refine gl_ (some 11) Tryd.func52 #[.agg #[.int .i64 a0_0,.slice A0_1 l0_1.length c0_1],.string a2] ?_;(with_reducible refine (Y53.calls k a0_0 _ _ l0_1 a2 true _ ?s1 ?s2 A8.out).mono ?_);(case s1=>repeat (first | exact (Kd.C_below HR0_1.out HB.out) | (with_reducible refine Kd.C_alloc ?_ _) | (with_reducible refine Kd.C_drewN ?_ _) | (with_reducible refine Kd.C_drew ?_)));(case s2=>exact HC0_1.out);rintro e w15 ⟨rfl,hb⟩;refine ⟨_,rfl,?_⟩;have n0_:=aM (blkB_ BK502.out hb);have n1_:=aM (blkB_ BK503.out hb);have n2_:=aM (below_step (z4_ HB.out GE502.out GE503.out) hb);clear BK502;clear BK503;clear HB;have BK502:=n0_;have BK503:=n1_;have HB:=n2_;clear n0_ n1_ n2_;(try clear hb);have ⟨hcz16_0,hcz16_1,hfz16_0,hfz16_1⟩:=cz2_ BK503.out) | (go_at_call 47;(with_reducible refine (Y16.calls k a1_0 _ _ l1_1 true _ ?s1 ?s2 A10.out).mono ?_);(case s1=>repeat (first | exact (Kd.C_below HR1_1.out HB.out) | (with_reducible refine Kd.C_alloc ?_ _) | (with_reducible refine Kd.C_drewN ?_ _) | (with_reducible refine Kd.C_drew ?_)));(case s2=>exact HC1_1.out);rintro e w17 ⟨rfl,hb⟩;have n0_:=aM (blkB_ BK502.out hb);have n1_:=aM (blkB_ BK503.out hb);have n2_:=aM (below_step (z4_ HB.out GE502.out GE503.out) hb);clear BK502;clear BK503;clear HB;have BK502:=n0_;have BK503:=n1_;have HB:=n2_;clear n0_ n1_ n2_;(try clear hb)) | (go_at_call 41;(with_reducible refine (Y65.calls a3 t506 _ A12.out).mono ?_);rintro e w' ⟨rfl,⟨nd,rfl⟩⟩))
    go_meet
    case rel=>exact ⟨_,(!t506),(z2_),H',⟨by first | omega | exact Nat.le_refl _⟩,⟨z3_ BK502.out⟩,⟨z3_ BK503.out⟩,⟨z4_ HB.out GE502.out GE503.out⟩⟩
   ·replace c11:=Bool.eq_false_iff.mpr c11
    subst c11
    have H1:(Y23.j0 k a2 a3 true a0_0 l0_1 a1_0 l1_1)=some r:=by rw [if_neg (show ¬ (false=true) by decide)] at H;exact H
    clear H
    have H:=H1
    clear H1
    have H':=aM H
    clear H
    have hnb18:=NB502_503.out
    have hnc18:=NB503_502.out
    have ⟨hcz19_0,hcz19_1,hfz19_0,hfz19_1⟩:=cz2_ BK502.out
    go_wp2_with (first | ((with_reducible refine gc_ 52 ?_);refine gl_ (some 11) Tryd.func52 #[.agg #[.int .i64 a0_0,.slice A0_1 l0_1.length c0_1],.string a2] ?_;(with_reducible refine (Y53.calls k a0_0 _ _ l0_1 a2 true _ ?s1 ?s2 A8.out).mono ?_);(case s1=>repeat (first | exact (Kd.C_below HR0_1.out HB.out) | (with_reducible refine Kd.C_alloc ?_ _) | (with_reducible refine Kd.C_drewN ?_ _) | (with_reducible refine Kd.C_drew ?_)));(case s2=>exact HC0_1.out);rintro e w20 ⟨rfl,hb⟩;refine ⟨_,rfl,?_⟩;have n0_:=aM (blkB_ BK502.out hb);have n1_:=aM (blkB_ BK503.out hb);have n2_:=aM (below_step (z4_ HB.out GE502.out GE503.out) hb);clear BK502;clear BK503;clear HB;have BK502:=n0_;have BK503:=n1_;have HB:=n2_;clear n0_ n1_ n2_;(try clear hb);have ⟨hcz21_0,hcz21_1,hfz21_0,hfz21_1⟩:=cz2_ BK503.out) | (go_at_call 47;(with_reducible refine (Y16.calls k a1_0 _ _ l1_1 false _ ?s1 ?s2 A10.out).mono ?_);(case s1=>repeat (first | exact (Kd.C_below HR1_1.out HB.out) | (with_reducible refine Kd.C_alloc ?_ _) | (with_reducible refine Kd.C_drewN ?_ _) | (with_reducible refine Kd.C_drew ?_)));(case s2=>exact HC1_1.out);rintro e w22 ⟨rfl,hb⟩;have n0_:=aM (blkB_ BK502.out hb);have n1_:=aM (blkB_ BK503.out hb);have n2_:=aM (below_step (z4_ HB.out GE502.out GE503.out) hb);clear BK502;clear BK503;clear HB;have BK502:=n0_;have BK503:=n1_;have HB:=n2_;clear n0_ n1_ n2_;(try clear hb)))
    go_meet
    case rel=>exact ⟨_,(true),(z2_),H',⟨by first | omega | exact Nat.le_refl _⟩,⟨z3_ BK502.out⟩,⟨z3_ BK503.out⟩,⟨z4_ HB.out GE502.out GE503.out⟩⟩
  ·replace c9:=Bool.eq_false_iff.mpr c9
   subst c9
   have H1:(Y23.j0 k a2 a3 true a0_0 l0_1 a1_0 l1_1)=some r:=by rw [if_neg (show ¬ (false=true) by decide)] at H;exact H
   clear H
   have H:=H1
   clear H1
   have H':=aM H
   clear H
   have hnb23:=NB502_503.out
   have hnc23:=NB503_502.out
   have ⟨hcz24_0,hcz24_1,hfz24_0,hfz24_1⟩:=cz2_ BK502.out
   go_wp2_with (first | ((with_reducible refine gc_ 52 ?_);refine gl_ (some 11) Tryd.func52 #[.agg #[.int .i64 a0_0,.slice A0_1 l0_1.length c0_1],.string a2] ?_;(with_reducible refine (Y53.calls k a0_0 _ _ l0_1 a2 false _ ?s1 ?s2 A8.out).mono ?_);(case s1=>repeat (first | exact (Kd.C_below HR0_1.out HB.out) | (with_reducible refine Kd.C_alloc ?_ _) | (with_reducible refine Kd.C_drewN ?_ _) | (with_reducible refine Kd.C_drew ?_)));(case s2=>exact HC0_1.out);rintro e w25 ⟨rfl,hb⟩;refine ⟨_,rfl,?_⟩;have n0_:=aM (blkB_ BK502.out hb);have n1_:=aM (blkB_ BK503.out hb);have n2_:=aM (below_step (z4_ HB.out GE502.out GE503.out) hb);clear BK502;clear BK503;clear HB;have BK502:=n0_;have BK503:=n1_;have HB:=n2_;clear n0_ n1_ n2_;(try clear hb)))
   go_meet
   case rel=>exact ⟨_,(true),(z2_),H',⟨by first | omega | exact Nat.le_refl _⟩,⟨z3_ BK502.out⟩,⟨z3_ BK503.out⟩,⟨z4_ HB.out GE502.out GE503.out⟩⟩
 case rest =>
  clear HC5
  try clear c1
  try clear c2
  try clear p2
  try clear c5
  try clear c9
  try clear c11
  try clear c13
  try clear c18
  try clear c19
  try clear c23
  try clear hcz14_0
  try clear hcz14_1
  try clear hcz16_0
  try clear hcz16_1
  try clear hcz19_0
  try clear hcz19_1
  try clear hcz21_0
  try clear hcz21_1
  try clear hcz24_0
  try clear hcz24_1
  try clear hfz14_0
  try clear hfz14_1
  try clear hfz16_0
  try clear hfz16_1
  try clear hfz19_0
  try clear hfz19_1
  try clear hfz21_0
  try clear hfz21_1
  try clear hfz24_0
  try clear hfz24_1
  obtain ⟨kq,x22_4,rfl,HA,HJ4,BK502,BK503,HB⟩:=hcut
  cases kq with
  | zero=>exact absurd HA.out (by simp [Y23.j0])
  | succ kj4 =>
   have H:=HA.out
   clear HA
   simp only [Y23.j0] at H
   by_cases c26:x22_4=true
   ·subst c26
    have H1:(some ([]:List Int))=some r:=by rw [if_pos rfl] at H;exact H
    clear H
    have H:=H1
    clear H1
    obtain rfl:=sI H
    go_wp2
    go_ret
    exact ⟨_,z9_,z26_,z4_ HB.out GE502.out GE503.out⟩
   ·replace c26:=Bool.eq_false_iff.mpr c26
    subst c26
    have H1:((Y64.f kj4 a0_0 l0_1 a1_0 l1_1 a2 a3).bind fun t507=>(some t507))=some r:=by rw [if_neg (show ¬ (false=true) by decide)] at H;exact H
    clear H
    have H:=H1
    clear H1
    replace H:=bS H
    obtain ⟨t507,A270,H⟩:=H
    replace H:(some t507)=some r:=H
    have A27:=aM A270
    clear A270
    obtain rfl:=sI H
    have hnb28:=NB502_503.out
    have hnc28:=NB503_502.out
    have ⟨hcz29_0,hcz29_1,hfz29_0,hfz29_1⟩:=cz2_ BK502.out
    have ⟨hcz30_0,hcz30_1,hfz30_0,hfz30_1⟩:=cz2_ BK503.out
    go_wp2_with (first | ((with_reducible refine gc_ 53 ?_);refine gl_ (some 27) Tryd.func53 #[.agg #[.int .i64 a0_0,.slice A0_1 l0_1.length c0_1],.agg #[.int .i64 a1_0,.slice A1_1 l1_1.length c1_1],.string a2,.int .i64 a3] ?_;(with_reducible refine (Y64.calls kj4 a0_0 _ _ l0_1 a1_0 _ _ l1_1 a2 a3 t507 _ ?s1 ?s2 ?s3 ?s4 A27.out).mono ?_);(case s1=>repeat (first | exact (Kd.C_below HR0_1.out HB.out) | (with_reducible refine Kd.C_alloc ?_ _) | (with_reducible refine Kd.C_drewN ?_ _) | (with_reducible refine Kd.C_drew ?_)));(case s2=>exact HC0_1.out);(case s3=>repeat (first | exact (Kd.C_below HR1_1.out HB.out) | (with_reducible refine Kd.C_alloc ?_ _) | (with_reducible refine Kd.C_drewN ?_ _) | (with_reducible refine Kd.C_drew ?_)));(case s4=>exact HC1_1.out);rintro e w31 ⟨v508,rfl,ho0,hb⟩;refine ⟨_,rfl,?_⟩;have n0_:=aM (Kd.R_lower ho0 (below_size (z4_ HB.out GE502.out GE503.out)));have n1_:=aM (blkB_ BK502.out hb);have n2_:=aM (blkB_ BK503.out hb);have n3_:=aM (below_step (z4_ HB.out GE502.out GE503.out) hb);clear BK502;clear BK503;clear HB;have HO509:=n0_;have BK502:=n1_;have BK503:=n2_;have HB:=n3_;clear n0_ n1_ n2_ n3_;(try clear hb);(try clear ho0)))
    go_ret
    exact ⟨_,z9_,z1_ HO509.out,z4_ HB.out GE502.out GE503.out⟩


/-! ### Y15: function 21 -/
mutual
def Y15.j0:Nat→ByteArray→Bool→Option (Bool)
 | 0,_,_=>none
 | k+1,x0,x12=>if x12=true then (some false) else (Y15.l0 k x0 0)
def Y15.l0:Nat→ByteArray→Int→Option (Bool)
 | 0,_,_=>none
 | k+1,x0,x3=>if x3<(x0.size:Int) then (if 0≤x3 then (if (bt x0 x3)≥97 then (if ((bt x0 x3)≤122) then (Y15.l0 k x0 (wrap64 (x3+1))) else (if x3=0 then (some false) else (if (bt x0 x3)≥48 then (if ((bt x0 x3)≤57) then (Y15.l0 k x0 (wrap64 (x3+1))) else (if (bt x0 x3)=95 then (Y15.l0 k x0 (wrap64 (x3+1))) else (some false))) else (if (bt x0 x3)=95 then (Y15.l0 k x0 (wrap64 (x3+1))) else (some false))))) else (if x3=0 then (some false) else (if (bt x0 x3)≥48 then (if ((bt x0 x3)≤57) then (Y15.l0 k x0 (wrap64 (x3+1))) else (if (bt x0 x3)=95 then (Y15.l0 k x0 (wrap64 (x3+1))) else (some false))) else (if (bt x0 x3)=95 then (Y15.l0 k x0 (wrap64 (x3+1))) else (some false))))) else (none)) else (some true)
end
def Y15.f (k:Nat) (a0:ByteArray):Option (Bool):=if (a0.size:Int)<1 then (Y15.j0 k a0 true) else (Y15.j0 k a0 (decide ((a0.size:Int)>20)))
theorem Y15.mono_l:∀ k,(∀ y0 y1,LeO (Y15.j0 k y0 y1) (Y15.j0 (k+1) y0 y1))∧(∀ y0 y1,LeO (Y15.l0 k y0 y1) (Y15.l0 (k+1) y0 y1))
 | 0=>by refine ⟨?_,?_⟩ <;> intros <;> exact LeO.none _
 | k+1=>by
  obtain ⟨ih0,ih1⟩:=Y15.mono_l k
  refine ⟨?_,?_⟩
  ·intros
   unfold Y15.j0
   exact mO
  ·intros
   unfold Y15.l0
   exact mO
theorem Y15.mono:∀ a0 k,LeO (Y15.f k a0) (Y15.f (k+1) a0):=by
 intro a0 k
 obtain ⟨ih0,ih1⟩:=Y15.mono_l k
 unfold Y15.f
 exact mO
theorem Y15.calls (k:Nat) (a0:ByteArray) (r:Bool) (w:World) (h:Y15.f k a0=some r) :
  Calls Tryd.prog 21 #[.string a0] w fun e w'=>e = .returned (.bool r)∧Drawn0 w w':=by
 have H:(if (a0.size:Int)<1 then (Y15.j0 k a0 true) else (Y15.j0 k a0 (decide ((a0.size:Int)>20))))=some r:=h
 clear h
 have HC2:=aM H
 clear H
 go_enter Tryd.func21,Tryd.ntmps21
 go_upto_region 1 with (fail)
 go_cut [12] (fun v12 wc=>∃ (kq:Nat) (x12_1:Bool),v12 = .bool x12_1∧Aside0 (Y15.j0 kq a0 x12_1=some r)∧Aside0 (kq≤k)∧Drawn0 w wc)
 case first =>
  have H:=HC2.out
  clear HC2
  by_cases c3:(a0.size:Int)<1
  ·rw [if_pos c3] at H
   have c3b0:decide ((a0.size:Int)<1)=true:=dE c3
   have c3b1:decide (a0.size<1)=true:=dE (by omega)
   clear c3
   (first | rw [c3b0] | (simp only [i64_w,i32_w];rw [c3b0]) | skip)
   have H':=aM H
   clear H
   go_wp2
   go_meet
   case rel=>exact ⟨_,(true),(z2_),H',⟨by first | omega | exact Nat.le_refl _⟩,z6_⟩
  ·rw [if_neg c3] at H
   have c3b0:decide ((a0.size:Int)<1)=false:=dF c3
   have c3b1:decide (a0.size<1)=false:=dF (by omega)
   clear c3
   (first | rw [c3b0] | (simp only [i64_w,i32_w];rw [c3b0]) | skip)
   have H':=aM H
   clear H
   go_wp2
   go_meet
   case rel=>exact ⟨_,(decide ((a0.size:Int)>20)),(z2_),H',⟨by first | omega | exact Nat.le_refl _⟩,z6_⟩
 case rest =>
  clear HC2
  try clear c2
  try clear p2
  try clear c3
  try clear c3b0
  try clear c3b1
  obtain ⟨kq,x12_1,rfl,HA,HJ1,⟨mc1,rfl⟩⟩:=hcut
  cases kq with
  | zero=>exact absurd HA.out (by simp [Y15.j0])
  | succ kj1 =>
   have H:=HA.out
   clear HA
   simp only [Y15.j0] at H
   by_cases c4:x12_1=true
   ·subst c4
    have H1:(some false)=some r:=by rw [if_pos rfl] at H;exact H
    clear H
    have H:=H1
    clear H1
    obtain rfl:=sI H
    go_wp2
    go_ret
    exact ⟨z2_,z6_⟩
   ·replace c4:=Bool.eq_false_iff.mpr c4
    subst c4
    have H1:(Y15.l0 kj1 a0 0)=some r:=by rw [if_neg (show ¬ (false=true) by decide)] at H;exact H
    clear H
    have H:=H1
    clear H1
    have H':=aM H
    clear H
    go_wp2
    go_loopg [3] kj1 (fun kq v3 w'=>∃ (x3_2:Int),v3 = .int .i64 x3_2∧Aside0 (Y15.l0 kq a0 x3_2=some r)∧Aside0 (kq≤kj1)∧Drawn0 w w')
    case atStart=>exact ⟨(0),(z2_),H',⟨Nat.le_refl _⟩,z6_⟩
    case round =>
     clear H'
     try clear c1
     try clear c2
     try clear p2
     try clear c3
     try clear c3b0
     try clear c3b1
     try clear c4
     try clear p2
     obtain ⟨x3_2,rfl,HA,HK2,⟨m2,rfl⟩⟩:=hrel
     cases gk with
     | zero=>exact absurd HA.out (by simp [Y15.l0])
     | succ k2 =>
      have H:=HA.out
      clear HA
      simp only [Y15.l0] at H
      by_cases c5:x3_2<(a0.size:Int)
      ·rw [if_pos c5] at H
       have c5b0:decide (x3_2<(a0.size:Int))=true:=dE c5
       clear c5
       by_cases c6:0≤x3_2
       ·rw [if_pos c6] at H
        have c6b0:decide (0≤x3_2)=true:=dE c6
        clear c6
        by_cases c8:(bt a0 x3_2)≥97
        ·rw [if_pos c8] at H
         have c8b0:decide (97≤(bt a0 x3_2))=true:=dE c8
         clear c8
         by_cases c9:((bt a0 x3_2)≤122)
         ·rw [if_pos c9] at H
          have c9b0:decide ((bt a0 x3_2)≤122)=true:=dE c9
          clear c9
          have H':=aM H
          clear H
          have p7:0≤(x3_2:Int):=dT (z0_)
          have q7:x3_2<(a0.size:Int):=dT (z0_)
          have hx7:=bt_at a0 x3_2
          replace p7:=eq_true p7
          replace q7:=eq_true q7
          go_wp2
          go_roundg k2
          case measure=>have:=HJ1.out;have:=HK2.out;omega
          case rel=>exact ⟨(wrap64 (x3_2+1)),(z2_),H',⟨z15_ HJ1.out HK2.out⟩,z6_⟩
         ·rw [if_neg c9] at H
          have c9b0:decide ((bt a0 x3_2)≤122)=false:=dF c9
          clear c9
          by_cases c10:x3_2=0
          ·rw [if_pos c10] at H
           have c10b0:(x3_2 == 0)=true:=beq_iff_eq.mpr c10
           have c10b1:(x3_2 != 0)=false:=bne_eq_false_iff_eq.mpr c10
           clear c10
           obtain rfl:=sI H
           have p7:0≤(x3_2:Int):=dT (z0_)
           have q7:x3_2<(a0.size:Int):=dT (z0_)
           have hx7:=bt_at a0 x3_2
           replace p7:=eq_true p7
           replace q7:=eq_true q7
           go_wp2
           go_ret
           exact ⟨z2_,z6_⟩
          ·rw [if_neg c10] at H
           have c10b0:(x3_2 == 0)=false:=beq_eq_false_iff_ne.mpr c10
           have c10b1:(x3_2 != 0)=true:=bne_iff_ne.mpr c10
           by_cases c11:(bt a0 x3_2)≥48
           ·rw [if_pos c11] at H
            have c11b0:decide (48≤(bt a0 x3_2))=true:=dE c11
            clear c11
            by_cases c12:((bt a0 x3_2)≤57)
            ·rw [if_pos c12] at H
             have c12b0:decide ((bt a0 x3_2)≤57)=true:=dE c12
             clear c12
             have H':=aM H
             clear H
             have p7:0≤(x3_2:Int):=dT (z0_)
             have q7:x3_2<(a0.size:Int):=dT (z0_)
             have hx7:=bt_at a0 x3_2
             replace p7:=eq_true p7
             replace q7:=eq_true q7
             go_wp2
             go_roundg k2
             case measure=>have:=HJ1.out;have:=HK2.out;omega
             case rel=>exact ⟨(wrap64 (x3_2+1)),(z2_),H',⟨z15_ HJ1.out HK2.out⟩,z6_⟩
            ·rw [if_neg c12] at H
             have c12b0:decide ((bt a0 x3_2)≤57)=false:=dF c12
             clear c12
             by_cases c13:(bt a0 x3_2)=95
             ·rw [if_pos c13] at H
              have c13b0:((bt a0 x3_2) == 95)=true:=beq_iff_eq.mpr c13
              have c13b1:((bt a0 x3_2) != 95)=false:=bne_eq_false_iff_eq.mpr c13
              clear c13
              have H':=aM H
              clear H
              have p7:0≤(x3_2:Int):=dT (z0_)
              have q7:x3_2<(a0.size:Int):=dT (z0_)
              have hx7:=bt_at a0 x3_2
              replace p7:=eq_true p7
              replace q7:=eq_true q7
              go_wp2
              go_roundg k2
              case measure=>have:=HJ1.out;have:=HK2.out;omega
              case rel=>exact ⟨(wrap64 (x3_2+1)),(z2_),H',⟨z15_ HJ1.out HK2.out⟩,z6_⟩
             ·rw [if_neg c13] at H
              have c13b0:((bt a0 x3_2) == 95)=false:=beq_eq_false_iff_ne.mpr c13
              have c13b1:((bt a0 x3_2) != 95)=true:=bne_iff_ne.mpr c13
              obtain rfl:=sI H
              have p7:0≤(x3_2:Int):=dT (z0_)
              have q7:x3_2<(a0.size:Int):=dT (z0_)
              have hx7:=bt_at a0 x3_2
              replace p7:=eq_true p7
              replace q7:=eq_true q7
              go_wp2
              go_ret
              exact ⟨z2_,z6_⟩
           ·rw [if_neg c11] at H
            have c11b0:decide (48≤(bt a0 x3_2))=false:=dF c11
            clear c11
            by_cases c14:(bt a0 x3_2)=95
            ·rw [if_pos c14] at H
             have c14b0:((bt a0 x3_2) == 95)=true:=beq_iff_eq.mpr c14
             have c14b1:((bt a0 x3_2) != 95)=false:=bne_eq_false_iff_eq.mpr c14
             clear c14
             have H':=aM H
             clear H
             have p7:0≤(x3_2:Int):=dT (z0_)
             have q7:x3_2<(a0.size:Int):=dT (z0_)
             have hx7:=bt_at a0 x3_2
             replace p7:=eq_true p7
             replace q7:=eq_true q7
             go_wp2
             go_roundg k2
             case measure=>have:=HJ1.out;have:=HK2.out;omega
             case rel=>exact ⟨(wrap64 (x3_2+1)),(z2_),H',⟨z15_ HJ1.out HK2.out⟩,z6_⟩
            ·rw [if_neg c14] at H
             have c14b0:((bt a0 x3_2) == 95)=false:=beq_eq_false_iff_ne.mpr c14
             have c14b1:((bt a0 x3_2) != 95)=true:=bne_iff_ne.mpr c14
             obtain rfl:=sI H
             have p7:0≤(x3_2:Int):=dT (z0_)
             have q7:x3_2<(a0.size:Int):=dT (z0_)
             have hx7:=bt_at a0 x3_2
             replace p7:=eq_true p7
             replace q7:=eq_true q7
             go_wp2
             go_ret
             exact ⟨z2_,z6_⟩
        ·rw [if_neg c8] at H
         have c8b0:decide (97≤(bt a0 x3_2))=false:=dF c8
         clear c8
         by_cases c15:x3_2=0
         ·rw [if_pos c15] at H
          have c15b0:(x3_2 == 0)=true:=beq_iff_eq.mpr c15
          have c15b1:(x3_2 != 0)=false:=bne_eq_false_iff_eq.mpr c15
          clear c15
          obtain rfl:=sI H
          have p7:0≤(x3_2:Int):=dT (z0_)
          have q7:x3_2<(a0.size:Int):=dT (z0_)
          have hx7:=bt_at a0 x3_2
          replace p7:=eq_true p7
          replace q7:=eq_true q7
          go_wp2
          go_ret
          exact ⟨z2_,z6_⟩
         ·rw [if_neg c15] at H
          have c15b0:(x3_2 == 0)=false:=beq_eq_false_iff_ne.mpr c15
          have c15b1:(x3_2 != 0)=true:=bne_iff_ne.mpr c15
          by_cases c16:(bt a0 x3_2)≥48
          ·rw [if_pos c16] at H
           have c16b0:decide (48≤(bt a0 x3_2))=true:=dE c16
           clear c16
           by_cases c17:((bt a0 x3_2)≤57)
           ·rw [if_pos c17] at H
            have c17b0:decide ((bt a0 x3_2)≤57)=true:=dE c17
            clear c17
            have H':=aM H
            clear H
            have p7:0≤(x3_2:Int):=dT (z0_)
            have q7:x3_2<(a0.size:Int):=dT (z0_)
            have hx7:=bt_at a0 x3_2
            replace p7:=eq_true p7
            replace q7:=eq_true q7
            go_wp2
            go_roundg k2
            case measure=>have:=HJ1.out;have:=HK2.out;omega
            case rel=>exact ⟨(wrap64 (x3_2+1)),(z2_),H',⟨z15_ HJ1.out HK2.out⟩,z6_⟩
           ·rw [if_neg c17] at H
            have c17b0:decide ((bt a0 x3_2)≤57)=false:=dF c17
            clear c17
            by_cases c18:(bt a0 x3_2)=95
            ·rw [if_pos c18] at H
             have c18b0:((bt a0 x3_2) == 95)=true:=beq_iff_eq.mpr c18
             have c18b1:((bt a0 x3_2) != 95)=false:=bne_eq_false_iff_eq.mpr c18
             clear c18
             have H':=aM H
             clear H
             have p7:0≤(x3_2:Int):=dT (z0_)
             have q7:x3_2<(a0.size:Int):=dT (z0_)
             have hx7:=bt_at a0 x3_2
             replace p7:=eq_true p7
             replace q7:=eq_true q7
             go_wp2
             go_roundg k2
             case measure=>have:=HJ1.out;have:=HK2.out;omega
             case rel=>exact ⟨(wrap64 (x3_2+1)),(z2_),H',⟨z15_ HJ1.out HK2.out⟩,z6_⟩
            ·rw [if_neg c18] at H
             have c18b0:((bt a0 x3_2) == 95)=false:=beq_eq_false_iff_ne.mpr c18
             have c18b1:((bt a0 x3_2) != 95)=true:=bne_iff_ne.mpr c18
             obtain rfl:=sI H
             have p7:0≤(x3_2:Int):=dT (z0_)
             have q7:x3_2<(a0.size:Int):=dT (z0_)
             have hx7:=bt_at a0 x3_2
             replace p7:=eq_true p7
             replace q7:=eq_true q7
             go_wp2
             go_ret
             exact ⟨z2_,z6_⟩
          ·rw [if_neg c16] at H
           have c16b0:decide (48≤(bt a0 x3_2))=false:=dF c16
           clear c16
           by_cases c19:(bt a0 x3_2)=95
           ·rw [if_pos c19] at H
            have c19b0:((bt a0 x3_2) == 95)=true:=beq_iff_eq.mpr c19
            have c19b1:((bt a0 x3_2) != 95)=false:=bne_eq_false_iff_eq.mpr c19
            clear c19
            have H':=aM H
            clear H
            have p7:0≤(x3_2:Int):=dT (z0_)
            have q7:x3_2<(a0.size:Int):=dT (z0_)
            have hx7:=bt_at a0 x3_2
            replace p7:=eq_true p7
            replace q7:=eq_true q7
            go_wp2
            go_roundg k2
            case measure=>have:=HJ1.out;have:=HK2.out;omega
            case rel=>exact ⟨(wrap64 (x3_2+1)),(z2_),H',⟨z15_ HJ1.out HK2.out⟩,z6_⟩
           ·rw [if_neg c19] at H
            have c19b0:((bt a0 x3_2) == 95)=false:=beq_eq_false_iff_ne.mpr c19
            have c19b1:((bt a0 x3_2) != 95)=true:=bne_iff_ne.mpr c19
            obtain rfl:=sI H
            have p7:0≤(x3_2:Int):=dT (z0_)
            have q7:x3_2<(a0.size:Int):=dT (z0_)
            have hx7:=bt_at a0 x3_2
            replace p7:=eq_true p7
            replace q7:=eq_true q7
            go_wp2
            go_ret
            exact ⟨z2_,z6_⟩
       ·rw [if_neg c6] at H
        exact nO H
      ·rw [if_neg c5] at H
       have c5b0:decide (x3_2<(a0.size:Int))=false:=dF c5
       clear c5
       obtain rfl:=sI H
       go_wp2
       go_ret
       exact ⟨z2_,z6_⟩


/-! ### Y33: function 55 -/
def Y33.l0:Nat→List Int→Int→Int→Option (Bool)
 | 0,_,_,_=>none
 | k+1,x0,x1,x5=>if x5<(x0.length:Int) then (if 0≤x5 then (if (rd x0 x5)=x1 then (some true) else (Y33.l0 k x0 x1 (wrap64 (x5+1)))) else (none)) else (some false)
def Y33.f (k:Nat) (l0:List Int) (a1:Int):Option (Bool):=Y33.l0 k l0 a1 0
theorem Y33.mono_l:∀ k,(∀ y0 y1 y2,LeO (Y33.l0 k y0 y1 y2) (Y33.l0 (k+1) y0 y1 y2))
 | 0=>by intros <;> exact LeO.none _
 | k+1=>by
  have ih0:=Y33.mono_l k
  ·intros
   unfold Y33.l0
   exact mO
theorem Y33.mono:∀ a0 a1 k,LeO (Y33.f k a0 a1) (Y33.f (k+1) a0 a1):=by
 intro a0 a1 k
 have ih0:=Y33.mono_l k
 unfold Y33.f
 exact mO
theorem Y33.calls (k:Nat) (A0:Option Addr) (c0:Nat) (l0:List Int) (a1:Int) (r:Bool) (w:World) (hr0:Kd.C (Kd.int .i64) w A0 l0.length l0) (hc0:l0.length≤c0) (h:Y33.f k l0 a1=some r) :
  Calls Tryd.prog 55 #[.slice A0 l0.length c0,.int .i64 a1] w fun e w'=>e = .returned (.bool r)∧Drawn0 w w':=by
 have HR0:=aM hr0
 have HC0:=aM hc0
 clear hr0 hc0
 have H:(Y33.l0 k l0 a1 0)=some r:=h
 clear h
 have H':=aM H
 clear H
 go_enter Tryd.func55,Tryd.ntmps55
 go_wp2
 go_loopg [5] k (fun kq v5 w'=>∃ (x5_1:Int),v5 = .int .i64 x5_1∧Aside0 (Y33.l0 kq l0 a1 x5_1=some r)∧Aside0 (kq≤k)∧Drawn0 w w')
 case atStart=>exact ⟨(0),(z2_),H',⟨Nat.le_refl _⟩,z6_⟩
 case round =>
  clear H'
  try clear p2
  obtain ⟨x5_1,rfl,HA,HK1,⟨m1,rfl⟩⟩:=hrel
  cases gk with
  | zero=>exact absurd HA.out (by simp [Y33.l0])
  | succ k1 =>
   have H:=HA.out
   clear HA
   simp only [Y33.l0] at H
   by_cases c3:x5_1<(l0.length:Int)
   ·rw [if_pos c3] at H
    have c3b0:decide (x5_1<(l0.length:Int))=true:=dE c3
    clear c3
    by_cases c4:0≤x5_1
    ·rw [if_pos c4] at H
     have c4b0:decide (0≤x5_1)=true:=dE c4
     clear c4
     by_cases c5:(rd l0 x5_1)=a1
     ·rw [if_pos c5] at H
      have c5b0:((rd l0 x5_1) == a1)=true:=beq_iff_eq.mpr c5
      have c5b1:((rd l0 x5_1) != a1)=false:=bne_eq_false_iff_eq.mpr c5
      clear c5
      obtain rfl:=sI H
      have p510:0≤(x5_1:Int):=dT (z0_)
      have q510:x5_1<(l0.length:Int):=dT (z0_)
      obtain ⟨ad510,e510,hx510_0⟩:=Kd.at_int HR0.out x5_1 p510 q510
      cases e510
      replace p510:=eq_true p510
      replace q510:=eq_true q510
      go_wp2
      go_ret
      exact ⟨z2_,z6_⟩
     ·rw [if_neg c5] at H
      have c5b0:((rd l0 x5_1) == a1)=false:=beq_eq_false_iff_ne.mpr c5
      have c5b1:((rd l0 x5_1) != a1)=true:=bne_iff_ne.mpr c5
      have H':=aM H
      clear H
      have p510:0≤(x5_1:Int):=dT (z0_)
      have q510:x5_1<(l0.length:Int):=dT (z0_)
      obtain ⟨ad510,e510,hx510_0⟩:=Kd.at_int HR0.out x5_1 p510 q510
      cases e510
      replace p510:=eq_true p510
      replace q510:=eq_true q510
      go_wp2
      go_roundg k1
      case measure=>have:=HK1.out;omega
      case rel=>exact ⟨(wrap64 (x5_1+1)),(z2_),H',⟨by have:=HK1.out;omega⟩,z6_⟩
    ·rw [if_neg c4] at H
     exact nO H
   ·rw [if_neg c3] at H
    have c3b0:decide (x5_1<(l0.length:Int))=false:=dF c3
    clear c3
    obtain rfl:=sI H
    go_wp2
    go_ret
    exact ⟨z2_,z6_⟩


/-! ### Y21: function 90 -/
mutual
def Y21.l0:Nat→Int→Int→Int→List (S77)→Option (List Int)
 | 0,_,_,_,_=>none
 | k+1,x5,x6,x512000,x512001=>if x6<(x512001.length:Int) then (if 0≤x6 then (Y21.j1 k x5 x6 (decide (((rd_T77 x512001 x6).f0)<x5)) x512000 x512001) else (none)) else (Y21.j1 k x5 x6 false x512000 x512001)
def Y21.j1:Nat→Int→Int→Bool→Int→List (S77)→Option (List Int)
 | 0,_,_,_,_,_=>none
 | k+1,x5,x6,x26,x512000,x512001=>if x26=true then (Y21.l0 k x5 (wrap64 (x6+1)) x512000 x512001) else (Y21.l1 k x6 (([]:List Int)) 0 x512000 x512001)
def Y21.l1:Nat→Int→List Int→Int→Int→List (S77)→Option (List Int)
 | 0,_,_,_,_,_=>none
 | k+1,x6,x7,x8,x512000,x512001=>if x8<(x512001.length:Int) then (if (x512001.length:Int)=0 then (none) else (if 0≤(Int.tmod (wrap64 (x6+x8)) (x512001.length:Int)) then (if (Int.tmod (wrap64 (x6+x8)) (x512001.length:Int))<(x512001.length:Int) then ((Y33.f k x7 ((rd_T77 x512001 (Int.tmod (wrap64 (x6+x8)) (x512001.length:Int))).f1)).bind fun t518=>(if t518=true then (Y21.l1 k x6 x7 (wrap64 (x8+1)) x512000 x512001) else (if x7.length<17592186044416 then (Y21.l1 k x6 (x7 ++ [(rd_T77 x512001 (Int.tmod (wrap64 (x6+x8)) (x512001.length:Int))).f1]) (wrap64 (x8+1)) x512000 x512001) else (none)))) else (none)) else (none))) else (some x7)
end
def Y21.f (k:Nat) (a0_0:Int) (l0_1:List (S77)) (a1:ByteArray):Option (List Int):=(Y38.f k a1).bind fun t512=>(Y21.l0 k t512 0 a0_0 l0_1)
theorem Y21.mono_l:∀ k,(∀ y0 y1 y2 y3,LeO (Y21.l0 k y0 y1 y2 y3) (Y21.l0 (k+1) y0 y1 y2 y3))∧(∀ y0 y1 y2 y3 y4,LeO (Y21.j1 k y0 y1 y2 y3 y4) (Y21.j1 (k+1) y0 y1 y2 y3 y4))∧(∀ y0 y1 y2 y3 y4,LeO (Y21.l1 k y0 y1 y2 y3 y4) (Y21.l1 (k+1) y0 y1 y2 y3 y4))
 | 0=>by refine ⟨?_,?_,?_⟩ <;> intros <;> exact LeO.none _
 | k+1=>by
  obtain ⟨ih0,ih1,ih2⟩:=Y21.mono_l k
  have m0:=@Y33.mono
  have m1:=@Y38.mono
  refine ⟨?_,?_,?_⟩
  ·intros
   unfold Y21.l0
   exact mO
  ·intros
   unfold Y21.j1
   exact mO
  ·intros
   unfold Y21.l1
   exact mO
theorem Y21.mono:∀ a0 a1 a2 k,LeO (Y21.f k a0 a1 a2) (Y21.f (k+1) a0 a1 a2):=by
 intro a0 a1 a2 k
 have m0:=@Y33.mono
 have m1:=@Y38.mono
 obtain ⟨ih0,ih1,ih2⟩:=Y21.mono_l k
 unfold Y21.f
 exact mO
theorem Y21.calls (k:Nat) (a0_0:Int) (A0_1:Option Addr) (c0_1:Nat) (l0_1:List (S77)) (a1:ByteArray) (r:List Int) (w:World) (hr0_1:Kd.C k77 w A0_1 l0_1.length l0_1) (hc0_1:l0_1.length≤c0_1) (h:Y21.f k a0_0 l0_1 a1=some r) :
  Calls Tryd.prog 90 #[.agg #[.int .i64 a0_0,.slice A0_1 l0_1.length c0_1],.string a1] w fun e w'=>∃ v0_:Value,e = .returned (v0_)∧Kd.R (Kd.int .i64) 2 w' w.heap.size (fun _=>True) v0_ r∧Below w.heap.size w w':=by
 have hu24:=Tryd.underlying24
 have HR0_1:=aM hr0_1
 have HC0_1:=aM hc0_1
 clear hr0_1 hc0_1
 have HB:=aM (Below.refl w.heap.size w)
 have H:((Y38.f k a1).bind fun t512=>(Y21.l0 k t512 0 a0_0 l0_1))=some r:=h
 clear h
 replace H:=bS H
 obtain ⟨t512,A30,H⟩:=H
 replace H:(Y21.l0 k t512 0 a0_0 l0_1)=some r:=H
 have A3:=aM A30
 clear A30
 have H':=aM H
 clear H
 go_enter Tryd.func90,Tryd.ntmps90
 go_wp2_with (first | ((with_reducible refine gd_ 2 ?_);refine be_ 2 #[.int .i64 a0_0,.slice A0_1 l0_1.length c0_1] 24 ?_;intro gb511 hg w4 hbox hb;have n0_:=aM (below_step (z5_ HB.out) hb);have n1_:=aM (hbox);have n2_:=aM ((z8_ HB.out:w.heap.size≤gb511));have n3_:=aM ((z8_ HB.out:w.heap.size≤gb511));clear HB;have HB:=n0_;have BK511:=n1_;have GW511:=n2_;have GE511:=n3_;clear n0_ n1_ n2_ n3_;clear hb hbox hg) | (go_at_call 73;(with_reducible refine (Y38.calls k a1 t512 _ A3.out).mono ?_);rintro e w' ⟨rfl,⟨nd,rfl⟩⟩;(try first | exact ⟨rfl,_,World.drewN_drewN _ _ _⟩ | exact ⟨rfl,_,Eq.trans (World.drewN_drewN _ _ _) (congrArg (World.drewN _) (Nat.add_assoc _ _ _))⟩)))
 repeat (go_quiet (first | ((with_reducible refine gd_ 2 ?_);refine be_ 2 #[.int .i64 a0_0,.slice A0_1 l0_1.length c0_1] 24 ?_;intro gb511 hg w4 hbox hb;have n0_:=aM (below_step (z5_ HB.out) hb);have n1_:=aM (hbox);have n2_:=aM ((z8_ HB.out:w.heap.size≤gb511));have n3_:=aM ((z8_ HB.out:w.heap.size≤gb511));clear HB;have HB:=n0_;have BK511:=n1_;have GW511:=n2_;have GE511:=n3_;clear n0_ n1_ n2_ n3_;clear hb hbox hg) | (go_at_call 73;(with_reducible refine (Y38.calls k a1 t512 _ A3.out).mono ?_);rintro e w' ⟨rfl,⟨nd,rfl⟩⟩;(try first | exact ⟨rfl,_,World.drewN_drewN _ _ _⟩ | exact ⟨rfl,_,Eq.trans (World.drewN_drewN _ _ _) (congrArg (World.drewN _) (Nat.add_assoc _ _ _))⟩)));try go_wp2_with (first | ((with_reducible refine gd_ 2 ?_);refine be_ 2 #[.int .i64 a0_0,.slice A0_1 l0_1.length c0_1] 24 ?_;intro gb511 hg w4 hbox hb;have n0_:=aM (below_step (z5_ HB.out) hb);have n1_:=aM (hbox);have n2_:=aM ((z8_ HB.out:w.heap.size≤gb511));have n3_:=aM ((z8_ HB.out:w.heap.size≤gb511));clear HB;have HB:=n0_;have BK511:=n1_;have GW511:=n2_;have GE511:=n3_;clear n0_ n1_ n2_ n3_;clear hb hbox hg) | (go_at_call 73;(with_reducible refine (Y38.calls k a1 t512 _ A3.out).mono ?_);rintro e w' ⟨rfl,⟨nd,rfl⟩⟩;(try first | exact ⟨rfl,_,World.drewN_drewN _ _ _⟩ | exact ⟨rfl,_,Eq.trans (World.drewN_drewN _ _ _) (congrArg (World.drewN _) (Nat.add_assoc _ _ _))⟩))))
 go_loopg [6] k (fun kq v6 w'=>∃ (x6_1:Int),v6 = .int .i64 x6_1∧Aside0 (Y21.l0 kq t512 x6_1 a0_0 l0_1=some r)∧Aside0 (kq≤k)∧Aside0 (w'.heap[gb511]? = some (.cells #[.int .i64 a0_0,(.slice A0_1 l0_1.length c0_1)] 24 (0,0)))∧Aside0 (Below w.heap.size w w'))
 case atStart=>exact ⟨(0),(z2_),H',⟨Nat.le_refl _⟩,⟨z3_ BK511.out⟩,⟨z7_ HB.out GE511.out⟩⟩
 case round =>
  clear H'
  try clear p2
  obtain ⟨x6_1,rfl,HA,HK1,BK511,HB⟩:=hrel
  cases gk with
  | zero=>exact absurd HA.out (by simp [Y21.l0])
  | succ k1 =>
   have H:=HA.out
   clear HA
   simp only [Y21.l0] at H
   have HC5:=aM H
   clear H
   go_upto_region 3 with (fail)
   repeat (go_quiet (fail);go_upto_region 3 with (fail))
   go_cut [26] (fun v26 wc=>∃ (kq:Nat) (x26_4:Bool),v26 = .bool x26_4∧Aside0 (Y21.j1 kq t512 x6_1 x26_4 a0_0 l0_1=some r)∧Aside0 (kq≤k1)∧Aside0 (wc.heap[gb511]? = some (.cells #[.int .i64 a0_0,(.slice A0_1 l0_1.length c0_1)] 24 (0,0)))∧Aside0 (Below w.heap.size w wc))
   case first =>
    have H:=HC5.out
    clear HC5
    by_cases c6:x6_1<(l0_1.length:Int)
    ·rw [if_pos c6] at H
     have c6b0:decide (x6_1<(l0_1.length:Int))=true:=dE c6
     clear c6
     (first | rw [c6b0] | (simp only [i64_w,i32_w];rw [c6b0]) | skip)
     by_cases c7:0≤x6_1
     ·rw [if_pos c7] at H
      have c7b0:decide (0≤x6_1)=true:=dE c7
      clear c7
      have H':=aM H
      clear H
      have ⟨hcz8_0,hcz8_1,hfz8_0,hfz8_1⟩:=cz2_ BK511.out
      have p513:0≤(x6_1:Int):=dT (z0_)
      have q513:x6_1<(l0_1.length:Int):=dT (z0_)
      obtain ⟨ad513,e513,hx513_0,hx513_1⟩:=at_T77 HR0_1.out x6_1 p513 q513
      cases e513
      replace hx513_0:=(HB.out.cell (World.block_lt_of_cell? w _ hx513_0)).trans hx513_0
      replace hx513_1:=(HB.out.cell (World.block_lt_of_cell? w _ hx513_1)).trans hx513_1
      replace p513:=eq_true p513
      replace q513:=eq_true q513
      go_wp2
      repeat (go_quiet (fail);try go_wp2)
      go_meet
      case rel=>exact ⟨_,(decide (((rd_T77 l0_1 x6_1).f0)<t512)),(z2_),H',⟨z22_ HK1.out⟩,⟨z3_ BK511.out⟩,⟨z7_ HB.out GE511.out⟩⟩
     ·rw [if_neg c7] at H
      exact nO H
    ·rw [if_neg c6] at H
     have c6b0:decide (x6_1<(l0_1.length:Int))=false:=dF c6
     clear c6
     (first | rw [c6b0] | (simp only [i64_w,i32_w];rw [c6b0]) | skip)
     have H':=aM H
     clear H
     have ⟨hcz9_0,hcz9_1,hfz9_0,hfz9_1⟩:=cz2_ BK511.out
     go_wp2
     repeat (go_quiet (fail);try go_wp2)
     go_meet
     case rel=>exact ⟨_,(false),(z2_),H',⟨z22_ HK1.out⟩,⟨z3_ BK511.out⟩,⟨z7_ HB.out GE511.out⟩⟩
   case rest =>
    clear HC5
    try clear p2
    try clear p5
    try clear q5
    try clear hx5
    try clear c6
    try clear c6b0
    try clear c7
    try clear c7b0
    try clear c9
    try clear hcz8_0
    try clear hcz8_1
    try clear hcz9_0
    try clear hcz9_1
    try clear hfz8_0
    try clear hfz8_1
    try clear hfz9_0
    try clear hfz9_1
    try clear hx513_0
    try clear hx513_1
    try clear p2
    try clear p513
    try clear q513
    obtain ⟨kq,x26_4,rfl,HA,HJ4,BK511,HB⟩:=hcut
    cases kq with
    | zero=>exact absurd HA.out (by simp [Y21.j1])
    | succ kj4 =>
     have H:=HA.out
     clear HA
     simp only [Y21.j1] at H
     by_cases c10:x26_4=true
     ·subst c10
      have H1:(Y21.l0 kj4 t512 (wrap64 (x6_1+1)) a0_0 l0_1)=some r:=by rw [if_pos rfl] at H;exact H
      clear H
      have H:=H1
      clear H1
      have H':=aM H
      clear H
      go_wp2
      repeat (go_quiet (fail);try go_wp2)
      go_roundg kj4
      case measure=>have:=HK1.out;have:=HJ4.out;omega
      case rel=>exact ⟨(wrap64 (x6_1+1)),(z2_),H',⟨z15_ HK1.out HJ4.out⟩,⟨z3_ BK511.out⟩,⟨z7_ HB.out GE511.out⟩⟩
     ·replace c10:=Bool.eq_false_iff.mpr c10
      subst c10
      have H1:(Y21.l1 kj4 x6_1 (([]:List Int)) 0 a0_0 l0_1)=some r:=by rw [if_neg (show ¬ (false=true) by decide)] at H;exact H
      clear H
      have H:=H1
      clear H1
      obtain ⟨y514,hy514⟩:∃ y_:List Int,y_=(([]:List Int)):=⟨_,rfl⟩
      replace H:(Y21.l1 kj4 x6_1 y514 0 a0_0 l0_1)=some r:=by first | (rw [hy514];with_reducible exact H) | (have H2_:=(Option.bind_some _ _).symm.trans H;rw [hy514];with_reducible exact H2_) | (have H2_:=(Option.bind_some _ _).symm.trans H;with_reducible exact H2_) | with_reducible exact H | (rw [hy514];exact H) | exact H
      have Ny514:=aM hy514
      clear hy514
      have H':=aM H
      clear H
      go_wp2_with (first | ((with_reducible refine gd_ 29 ?_);refine Kd.R_lit (Kd.int .i64) _ 2 ?hg (N:=29) ?hd (xs:=([]:List Int)) (inner:=[]) (ok:=fun _=>True) (okp:=fun _=>True) ?hr ?hp (fun _ hk=>hk) trivial (Below.refl _ _) (Nat.le_refl _) (by simp) ?_;(case hd=>rfl);(case hg=>rfl);(case hr=>first | (go_simp;done) | (go_simp;rfl));(case hp=>exact (Reps.none _ _));intro v515 w11 ho12 hb hg_ hnew_;clear hg_ hnew_;(first | rw [← Ny514.out] at ho12 | (simp only [Int.reduceToNat] at ho12;rw [← Ny514.out] at ho12));have n0_:=aM (Kd.R_lower ho12 (below_size (z7_ HB.out GE511.out)));have n1_:=aM (blkB_ BK511.out hb);have n2_:=aM (below_step (z7_ HB.out GE511.out) hb);clear BK511;clear HB;have HO516:=n0_;have BK511:=n1_;have HB:=n2_;clear n0_ n1_ n2_;clear hb ho12))
      repeat (go_quiet (first | ((with_reducible refine gd_ 29 ?_);refine Kd.R_lit (Kd.int .i64) _ 2 ?hg (N:=29) ?hd (xs:=([]:List Int)) (inner:=[]) (ok:=fun _=>True) (okp:=fun _=>True) ?hr ?hp (fun _ hk=>hk) trivial (Below.refl _ _) (Nat.le_refl _) (by simp) ?_;(case hd=>rfl);(case hg=>rfl);(case hr=>first | (go_simp;done) | (go_simp;rfl));(case hp=>exact (Reps.none _ _));intro v515 w11 ho12 hb hg_ hnew_;clear hg_ hnew_;(first | rw [← Ny514.out] at ho12 | (simp only [Int.reduceToNat] at ho12;rw [← Ny514.out] at ho12));have n0_:=aM (Kd.R_lower ho12 (below_size (z7_ HB.out GE511.out)));have n1_:=aM (blkB_ BK511.out hb);have n2_:=aM (below_step (z7_ HB.out GE511.out) hb);clear BK511;clear HB;have HO516:=n0_;have BK511:=n1_;have HB:=n2_;clear n0_ n1_ n2_;clear hb ho12));try go_wp2_with (first | ((with_reducible refine gd_ 29 ?_);refine Kd.R_lit (Kd.int .i64) _ 2 ?hg (N:=29) ?hd (xs:=([]:List Int)) (inner:=[]) (ok:=fun _=>True) (okp:=fun _=>True) ?hr ?hp (fun _ hk=>hk) trivial (Below.refl _ _) (Nat.le_refl _) (by simp) ?_;(case hd=>rfl);(case hg=>rfl);(case hr=>first | (go_simp;done) | (go_simp;rfl));(case hp=>exact (Reps.none _ _));intro v515 w11 ho12 hb hg_ hnew_;clear hg_ hnew_;(first | rw [← Ny514.out] at ho12 | (simp only [Int.reduceToNat] at ho12;rw [← Ny514.out] at ho12));have n0_:=aM (Kd.R_lower ho12 (below_size (z7_ HB.out GE511.out)));have n1_:=aM (blkB_ BK511.out hb);have n2_:=aM (below_step (z7_ HB.out GE511.out) hb);clear BK511;clear HB;have HO516:=n0_;have BK511:=n1_;have HB:=n2_;clear n0_ n1_ n2_;clear hb ho12)))
      go_loopg [7,8] kj4 (fun kq v7 v8 w'=>∃ (x7_3:List Int) (x8_3:Int),v8 = .int .i64 x8_3∧Aside0 (Y21.l1 kq x6_1 x7_3 x8_3 a0_0 l0_1=some r)∧Aside0 (kq≤kj4)∧Aside0 (Kd.R (Kd.int .i64) 2 w' w.heap.size (fun _=>True) v7 x7_3)∧Aside0 (w'.heap[gb511]? = some (.cells #[.int .i64 a0_0,(.slice A0_1 l0_1.length c0_1)] 24 (0,0)))∧Aside0 (Below w.heap.size w w'))
      case atStart=>exact ⟨(y514),(0),(z2_),H',⟨Nat.le_refl _⟩,⟨z1_ HO516.out⟩,⟨z3_ BK511.out⟩,⟨z7_ HB.out GE511.out⟩⟩
      case round =>
       clear H'
       try clear c1
       try clear p2
       try clear p5
       try clear q5
       try clear hx5
       try clear c6
       try clear c6b0
       try clear p6
       try clear c7
       try clear c7b0
       try clear c9
       try clear c10
       try clear hcz8_0
       try clear hcz8_1
       try clear hcz9_0
       try clear hcz9_1
       try clear hfz8_0
       try clear hfz8_1
       try clear hfz9_0
       try clear hfz9_1
       try clear hx513_0
       try clear hx513_1
       try clear p2
       try clear p5
       try clear p513
       try clear q5
       try clear q513
       obtain ⟨x7_3,x8_3,rfl,HA,HK3,HO_7,BK511,HB⟩:=hrel
       cases gk with
       | zero=>exact absurd HA.out (by simp [Y21.l1])
       | succ k3 =>
        have H:=HA.out
        clear HA
        simp only [Y21.l1] at H
        by_cases c13:x8_3<(l0_1.length:Int)
        ·rw [if_pos c13] at H
         have c13b0:decide (x8_3<(l0_1.length:Int))=true:=dE c13
         clear c13
         by_cases c14:(l0_1.length:Int)=0
         ·rw [if_pos c14] at H
          exact nO H
         ·rw [if_neg c14] at H
          have c14b0:((l0_1.length:Int) == 0)=false:=beq_eq_false_iff_ne.mpr c14
          have c14b1:((l0_1.length:Int) != 0)=true:=bne_iff_ne.mpr c14
          have c14b2:¬ (l0_1=[]):=fun h_=>c14 (by rw [h_];rfl)
          obtain ⟨ji15,hji15⟩:∃ j_:Int,(Int.tmod (wrap64 (x6_1+x8_3)) (l0_1.length:Int))=j_:=⟨_,rfl⟩
          replace H:(if 0≤(ji15) then (if (ji15)<(l0_1.length:Int) then ((Y33.f k3 x7_3 ((rd_T77 l0_1 (ji15)).f1)).bind fun t518=>(if t518=true then (Y21.l1 k3 x6_1 x7_3 (wrap64 (x8_3+1)) a0_0 l0_1) else (if x7_3.length<17592186044416 then (Y21.l1 k3 x6_1 (x7_3 ++ [(rd_T77 l0_1 (ji15)).f1]) (wrap64 (x8_3+1)) a0_0 l0_1) else (none)))) else (none)) else (none))=some r:=by first | (rw [hji15] at H;exact H) | (simp only [hji15] at H ⊢;exact H)
          by_cases c16:0≤(ji15)
          ·rw [if_pos c16] at H
           have c16b0:decide (0≤(ji15))=true:=dE c16
           clear c16
           by_cases c17:(ji15)<(l0_1.length:Int)
           ·rw [if_pos c17] at H
            have c17b0:decide ((ji15)<(l0_1.length:Int))=true:=dE c17
            clear c17
            replace H:=bS H
            obtain ⟨t518,A180,H⟩:=H
            replace H:(if t518=true then (Y21.l1 k3 x6_1 x7_3 (wrap64 (x8_3+1)) a0_0 l0_1) else (if x7_3.length<17592186044416 then (Y21.l1 k3 x6_1 (x7_3 ++ [(rd_T77 l0_1 (ji15)).f1]) (wrap64 (x8_3+1)) a0_0 l0_1) else (none)))=some r:=H
            have A18:=aM A180
            clear A180
            by_cases c19:t518=true
            ·subst c19
             have H1:(Y21.l1 k3 x6_1 x7_3 (wrap64 (x8_3+1)) a0_0 l0_1)=some r:=by rw [if_pos rfl] at H;exact H
             clear H
             have H:=H1
             clear H1
             have H':=aM H
             clear H
             have ⟨hcz20_0,hcz20_1,hfz20_0,hfz20_1⟩:=cz2_ BK511.out
             have p517:0≤((ji15):Int):=dT (z0_)
             have q517:(ji15)<(l0_1.length:Int):=dT (z0_)
             obtain ⟨ad517,e517,hx517_0,hx517_1⟩:=at_T77 HR0_1.out (ji15) p517 q517
             cases e517
             replace hx517_0:=(HB.out.cell (World.block_lt_of_cell? w _ hx517_0)).trans hx517_0
             replace hx517_1:=(HB.out.cell (World.block_lt_of_cell? w _ hx517_1)).trans hx517_1
             replace p517:=eq_true p517
             replace q517:=eq_true q517
             obtain ⟨Ao21,co21,eo21⟩:=Kd.R_slice HO_7.out
             subst eo21
             go_wp2_with (first | (go_at_call 55;(with_reducible refine (Y33.calls k3 _ _ x7_3 ((rd_T77 l0_1 (ji15)).f1) true _ ?s1 ?s2 A18.out).mono ?_);(case s1=>repeat (first | exact (Kd.R_reads' HO_7.out).2.2 | (with_reducible refine Kd.C_alloc ?_ _) | (with_reducible refine Kd.C_drewN ?_ _) | (with_reducible refine Kd.C_drew ?_)));(case s2=>exact (Kd.R_reads' HO_7.out).2.1);rintro e w' ⟨rfl,⟨nd,rfl⟩⟩;(try first | exact ⟨rfl,_,World.drewN_drewN _ _ _⟩ | exact ⟨rfl,_,Eq.trans (World.drewN_drewN _ _ _) (congrArg (World.drewN _) (Nat.add_assoc _ _ _))⟩)))
             repeat (go_quiet (first | (go_at_call 55;(with_reducible refine (Y33.calls k3 _ _ x7_3 ((rd_T77 l0_1 (ji15)).f1) true _ ?s1 ?s2 A18.out).mono ?_);(case s1=>repeat (first | exact (Kd.R_reads' HO_7.out).2.2 | (with_reducible refine Kd.C_alloc ?_ _) | (with_reducible refine Kd.C_drewN ?_ _) | (with_reducible refine Kd.C_drew ?_)));(case s2=>exact (Kd.R_reads' HO_7.out).2.1);rintro e w' ⟨rfl,⟨nd,rfl⟩⟩;(try first | exact ⟨rfl,_,World.drewN_drewN _ _ _⟩ | exact ⟨rfl,_,Eq.trans (World.drewN_drewN _ _ _) (congrArg (World.drewN _) (Nat.add_assoc _ _ _))⟩)));try go_wp2_with (first | (go_at_call 55;(with_reducible refine (Y33.calls k3 _ _ x7_3 ((rd_T77 l0_1 (ji15)).f1) true _ ?s1 ?s2 A18.out).mono ?_);(case s1=>repeat (first | exact (Kd.R_reads' HO_7.out).2.2 | (with_reducible refine Kd.C_alloc ?_ _) | (with_reducible refine Kd.C_drewN ?_ _) | (with_reducible refine Kd.C_drew ?_)));(case s2=>exact (Kd.R_reads' HO_7.out).2.1);rintro e w' ⟨rfl,⟨nd,rfl⟩⟩;(try first | exact ⟨rfl,_,World.drewN_drewN _ _ _⟩ | exact ⟨rfl,_,Eq.trans (World.drewN_drewN _ _ _) (congrArg (World.drewN _) (Nat.add_assoc _ _ _))⟩))))
             go_roundg k3
             case measure=>have:=HK1.out;have:=HJ4.out;have:=HK3.out;omega
             case rel=>exact ⟨(x7_3),(wrap64 (x8_3+1)),(z2_),H',⟨by have:=HK1.out;have:=HJ4.out;have:=HK3.out;omega⟩,⟨z1_ HO_7.out⟩,⟨z3_ BK511.out⟩,⟨z7_ HB.out GE511.out⟩⟩
            ·replace c19:=Bool.eq_false_iff.mpr c19
             subst c19
             have H1:(if x7_3.length<17592186044416 then (Y21.l1 k3 x6_1 (x7_3 ++ [(rd_T77 l0_1 (ji15)).f1]) (wrap64 (x8_3+1)) a0_0 l0_1) else (none))=some r:=by rw [if_neg (show ¬ (false=true) by decide)] at H;exact H
             clear H
             have H:=H1
             clear H1
             by_cases c22:x7_3.length<17592186044416
             ·rw [if_pos c22] at H
              have LMc22:=aM c22
              clear c22
              obtain ⟨y519,hy519⟩:∃ y_:List Int,y_=(x7_3 ++ [(rd_T77 l0_1 (ji15)).f1]):=⟨_,rfl⟩
              replace H:(Y21.l1 k3 x6_1 y519 (wrap64 (x8_3+1)) a0_0 l0_1)=some r:=by first | (rw [hy519];with_reducible exact H) | (have H2_:=(Option.bind_some _ _).symm.trans H;rw [hy519];with_reducible exact H2_) | (have H2_:=(Option.bind_some _ _).symm.trans H;with_reducible exact H2_) | with_reducible exact H | (rw [hy519];exact H) | exact H
              have Ny519:=aM hy519
              clear hy519
              have H':=aM H
              clear H
              have ⟨hcz23_0,hcz23_1,hfz23_0,hfz23_1⟩:=cz2_ BK511.out
              have p517:0≤((ji15):Int):=dT (z0_)
              have q517:(ji15)<(l0_1.length:Int):=dT (z0_)
              obtain ⟨ad517,e517,hx517_0,hx517_1⟩:=at_T77 HR0_1.out (ji15) p517 q517
              cases e517
              replace hx517_0:=(HB.out.cell (World.block_lt_of_cell? w _ hx517_0)).trans hx517_0
              replace hx517_1:=(HB.out.cell (World.block_lt_of_cell? w _ hx517_1)).trans hx517_1
              replace p517:=eq_true p517
              replace q517:=eq_true q517
              obtain ⟨Ao24,co24,eo24⟩:=Kd.R_slice HO_7.out
              subst eo24
              go_wp2_with (first | (go_at_call 55;(with_reducible refine (Y33.calls k3 _ _ x7_3 ((rd_T77 l0_1 (ji15)).f1) false _ ?s1 ?s2 A18.out).mono ?_);(case s1=>repeat (first | exact (Kd.R_reads' HO_7.out).2.2 | (with_reducible refine Kd.C_alloc ?_ _) | (with_reducible refine Kd.C_drewN ?_ _) | (with_reducible refine Kd.C_drew ?_)));(case s2=>exact (Kd.R_reads' HO_7.out).2.1);rintro e w' ⟨rfl,⟨nd,rfl⟩⟩;(try first | exact ⟨rfl,_,World.drewN_drewN _ _ _⟩ | exact ⟨rfl,_,Eq.trans (World.drewN_drewN _ _ _) (congrArg (World.drewN _) (Nat.add_assoc _ _ _))⟩)) | ((with_reducible refine gate_builtin (b:=.append) (xs:=#[.tmp 53,.tmp 55]) rfl ?_);at_builtin;refine Kd.R_append (Kd.int .i64) (w0:=w) w.heap.size rfl (.tmp 53) (.tmp 55) 37 2 (.int .i64 0) 8 rfl Tryd.underlying37 info2 rfl (by decide) (by omega) (.slice Ao24 x7_3.length co24) x7_3 ((rd_T77 l0_1 (ji15)).f1) [.int .i64 ((rd_T77 l0_1 (ji15)).f1)] (fun _=>True) (fun _=>False) rfl rfl ?aP (fun _ hk=>hk.elim) ?aF ?aO ?aB ?aS ?aL ?_;(case aP=>exact rfl);(case aB=>exact (z7_ HB.out GE511.out));(case aF=>exact (fun _ _=>trivial));(case aO=>exact (z1_ HO_7.out));(case aS=>exact (below_size (z7_ HB.out GE511.out)));(case aL=>have:=LMc22.out;omega);intro v520 w25 ho hb hg hat;rw [← Ny519.out] at ho;have n0_:=aM (blk_grown (g:=gb511) (o:=.cells #[.int .i64 a0_0,.slice (some ad517) l0_1.length c0_1] 24 (0,0)) (z3_ BK511.out) hg (Kd.R_ne HO_7.out BK511.out (by decide)));have n1_:=aM (hb);have n2_:=aM (ho);clear BK511;clear HB;clear HO_7;have BK511:=n0_;have HB:=n1_;have HO521:=n2_;clear n0_ n1_ n2_;clear ho hb hg hat))
              repeat (go_quiet (first | (go_at_call 55;(with_reducible refine (Y33.calls k3 _ _ x7_3 ((rd_T77 l0_1 (ji15)).f1) false _ ?s1 ?s2 A18.out).mono ?_);(case s1=>repeat (first | exact (Kd.R_reads' HO_7.out).2.2 | (with_reducible refine Kd.C_alloc ?_ _) | (with_reducible refine Kd.C_drewN ?_ _) | (with_reducible refine Kd.C_drew ?_)));(case s2=>exact (Kd.R_reads' HO_7.out).2.1);rintro e w' ⟨rfl,⟨nd,rfl⟩⟩;(try first | exact ⟨rfl,_,World.drewN_drewN _ _ _⟩ | exact ⟨rfl,_,Eq.trans (World.drewN_drewN _ _ _) (congrArg (World.drewN _) (Nat.add_assoc _ _ _))⟩)) | ((with_reducible refine gate_builtin (b:=.append) (xs:=#[.tmp 53,.tmp 55]) rfl ?_);at_builtin;refine Kd.R_append (Kd.int .i64) (w0:=w) w.heap.size rfl (.tmp 53) (.tmp 55) 37 2 (.int .i64 0) 8 rfl Tryd.underlying37 info2 rfl (by decide) (by omega) (.slice Ao24 x7_3.length co24) x7_3 ((rd_T77 l0_1 (ji15)).f1) [.int .i64 ((rd_T77 l0_1 (ji15)).f1)] (fun _=>True) (fun _=>False) rfl rfl ?aP (fun _ hk=>hk.elim) ?aF ?aO ?aB ?aS ?aL ?_;(case aP=>exact rfl);(case aB=>exact (z7_ HB.out GE511.out));(case aF=>exact (fun _ _=>trivial));(case aO=>exact (z1_ HO_7.out));(case aS=>exact (below_size (z7_ HB.out GE511.out)));(case aL=>have:=LMc22.out;omega);intro v520 w25 ho hb hg hat;rw [← Ny519.out] at ho;have n0_:=aM (blk_grown (g:=gb511) (o:=.cells #[.int .i64 a0_0,.slice (some ad517) l0_1.length c0_1] 24 (0,0)) (z3_ BK511.out) hg (Kd.R_ne HO_7.out BK511.out (by decide)));have n1_:=aM (hb);have n2_:=aM (ho);clear BK511;clear HB;clear HO_7;have BK511:=n0_;have HB:=n1_;have HO521:=n2_;clear n0_ n1_ n2_;clear ho hb hg hat));try go_wp2_with (first | (go_at_call 55;(with_reducible refine (Y33.calls k3 _ _ x7_3 ((rd_T77 l0_1 (ji15)).f1) false _ ?s1 ?s2 A18.out).mono ?_);(case s1=>repeat (first | exact (Kd.R_reads' HO_7.out).2.2 | (with_reducible refine Kd.C_alloc ?_ _) | (with_reducible refine Kd.C_drewN ?_ _) | (with_reducible refine Kd.C_drew ?_)));(case s2=>exact (Kd.R_reads' HO_7.out).2.1);rintro e w' ⟨rfl,⟨nd,rfl⟩⟩;(try first | exact ⟨rfl,_,World.drewN_drewN _ _ _⟩ | exact ⟨rfl,_,Eq.trans (World.drewN_drewN _ _ _) (congrArg (World.drewN _) (Nat.add_assoc _ _ _))⟩)) | ((with_reducible refine gate_builtin (b:=.append) (xs:=#[.tmp 53,.tmp 55]) rfl ?_);at_builtin;refine Kd.R_append (Kd.int .i64) (w0:=w) w.heap.size rfl (.tmp 53) (.tmp 55) 37 2 (.int .i64 0) 8 rfl Tryd.underlying37 info2 rfl (by decide) (by omega) (.slice Ao24 x7_3.length co24) x7_3 ((rd_T77 l0_1 (ji15)).f1) [.int .i64 ((rd_T77 l0_1 (ji15)).f1)] (fun _=>True) (fun _=>False) rfl rfl ?aP (fun _ hk=>hk.elim) ?aF ?aO ?aB ?aS ?aL ?_;(case aP=>exact rfl);(case aB=>exact (z7_ HB.out GE511.out));(case aF=>exact (fun _ _=>trivial));(case aO=>exact (z1_ HO_7.out));(case aS=>exact (below_size (z7_ HB.out GE511.out)));(case aL=>have:=LMc22.out;omega);intro v520 w25 ho hb hg hat;rw [← Ny519.out] at ho;have n0_:=aM (blk_grown (g:=gb511) (o:=.cells #[.int .i64 a0_0,.slice (some ad517) l0_1.length c0_1] 24 (0,0)) (z3_ BK511.out) hg (Kd.R_ne HO_7.out BK511.out (by decide)));have n1_:=aM (hb);have n2_:=aM (ho);clear BK511;clear HB;clear HO_7;have BK511:=n0_;have HB:=n1_;have HO521:=n2_;clear n0_ n1_ n2_;clear ho hb hg hat)))
              go_roundg k3
              case measure=>have:=HK1.out;have:=HJ4.out;have:=HK3.out;omega
              case rel=>exact ⟨(y519),(wrap64 (x8_3+1)),(z2_),H',⟨by have:=HK1.out;have:=HJ4.out;have:=HK3.out;omega⟩,⟨z1_ HO521.out⟩,⟨z3_ BK511.out⟩,⟨z7_ HB.out GE511.out⟩⟩
             ·rw [if_neg c22] at H
              exact nO H
           ·rw [if_neg c17] at H
            exact nO H
          ·rw [if_neg c16] at H
           exact nO H
        ·rw [if_neg c13] at H
         have c13b0:decide (x8_3<(l0_1.length:Int))=false:=dF c13
         clear c13
         obtain rfl:=sI H
         have ⟨hcz26_0,hcz26_1,hfz26_0,hfz26_1⟩:=cz2_ BK511.out
         go_wp2
         repeat (go_quiet (fail);try go_wp2)
         go_ret
         exact ⟨_,z9_,z1_ HO_7.out,z7_ HB.out GE511.out⟩


/-! ### Y78: function 91 -/
def Y78.f (a0:Int) (a1:Int):Option (Int):=if a0<a1 then (some a0) else (some a1)
theorem Y78.calls (a0:Int) (a1:Int) (r:Int) (w:World) (h:Y78.f a0 a1=some r) :
  Calls Tryd.prog 91 #[.int .i64 a0,.int .i64 a1] w fun e w'=>e = .returned (.int .i64 r)∧Drawn0 w w':=by
 have H:(if a0<a1 then (some a0) else (some a1))=some r:=h
 clear h
 by_cases c3:a0<a1
 ·rw [if_pos c3] at H
  have c3b0:decide (a0<a1)=true:=dE c3
  clear c3
  obtain rfl:=sI H
  go_enter Tryd.func91,Tryd.ntmps91
  go_wp2
  go_ret
  exact ⟨z2_,z6_⟩
 ·rw [if_neg c3] at H
  have c3b0:decide (a0<a1)=false:=dF c3
  clear c3
  obtain rfl:=sI H
  go_enter Tryd.func91,Tryd.ntmps91
  go_wp2
  go_ret
  exact ⟨z2_,z6_⟩


/-! ### Y57: function 54 -/
def Y57.f (k:Nat) (a0_0:Int) (l0_1:List (S77)) (a1:ByteArray) (a2:Int):Option (List Int):=(Y21.f k a0_0 l0_1 a1).bind fun t523=>((Y78.f a2 (t523.length:Int)).bind fun t526=>(if 0≤t526 then (if t526≤(t523.length:Int) then (some (t523.take (t526:Int).toNat)) else (none)) else (none)))
theorem Y57.mono:∀ a0 a1 a2 a3 k,LeO (Y57.f k a0 a1 a2 a3) (Y57.f (k+1) a0 a1 a2 a3):=by
 intro a0 a1 a2 a3 k
 have m0:=@Y21.mono
 unfold Y57.f
 exact mO
theorem Y57.calls (k:Nat) (a0_0:Int) (A0_1:Option Addr) (c0_1:Nat) (l0_1:List (S77)) (a1:ByteArray) (a2:Int) (r:List Int) (w:World) (hr0_1:Kd.C k77 w A0_1 l0_1.length l0_1) (hc0_1:l0_1.length≤c0_1) (h:Y57.f k a0_0 l0_1 a1 a2=some r) :
  Calls Tryd.prog 54 #[.agg #[.int .i64 a0_0,.slice A0_1 l0_1.length c0_1],.string a1,.int .i64 a2] w fun e w'=>∃ v0_:Value,e = .returned (v0_)∧Kd.R (Kd.int .i64) 2 w' w.heap.size (fun _=>True) v0_ r∧Below w.heap.size w w':=by
 have hu24:=Tryd.underlying24
 have HR0_1:=aM hr0_1
 have HC0_1:=aM hc0_1
 clear hr0_1 hc0_1
 have HB:=aM (Below.refl w.heap.size w)
 have H:((Y21.f k a0_0 l0_1 a1).bind fun t523=>((Y78.f a2 (t523.length:Int)).bind fun t526=>(if 0≤t526 then (if t526≤(t523.length:Int) then (some (t523.take (t526:Int).toNat)) else (none)) else (none))))=some r:=h
 clear h
 replace H:=bS H
 obtain ⟨t523,A40,H⟩:=H
 replace H:((Y78.f a2 (t523.length:Int)).bind fun t526=>(if 0≤t526 then (if t526≤(t523.length:Int) then (some (t523.take (t526:Int).toNat)) else (none)) else (none)))=some r:=H
 have A4:=aM A40
 clear A40
 replace H:=bS H
 obtain ⟨t526,A50,H⟩:=H
 replace H:(if 0≤t526 then (if t526≤(t523.length:Int) then (some (t523.take (t526:Int).toNat)) else (none)) else (none))=some r:=H
 have A5:=aM A50
 clear A50
 by_cases c6:0≤t526
 ·rw [if_pos c6] at H
  have c6b0:=eq_true c6
  have c6b1:decide (0≤t526)=true:=dE c6
  clear c6
  by_cases c7:t526≤(t523.length:Int)
  ·rw [if_pos c7] at H
   have c7b0:=eq_true c7
   have c7b1:decide (t526≤(t523.length:Int))=true:=dE c7
   clear c7
   obtain ⟨y527,hy527⟩:∃ y_:List Int,y_=(t523.take (t526:Int).toNat):=⟨_,rfl⟩
   replace H:(some y527)=some r:=by first | (rw [hy527];with_reducible exact H) | (have H2_:=(Option.bind_some _ _).symm.trans H;rw [hy527];with_reducible exact H2_) | (have H2_:=(Option.bind_some _ _).symm.trans H;with_reducible exact H2_) | with_reducible exact H | (rw [hy527];exact H) | exact H
   have Ny527:=aM hy527
   clear hy527
   obtain rfl:=sI H
   go_enter Tryd.func54,Tryd.ntmps54
   go_wp2_with (first | ((with_reducible refine gd_ 3 ?_);refine be_ 3 #[.int .i64 a0_0,.slice A0_1 l0_1.length c0_1] 24 ?_;intro gb522 hg w8 hbox hb;have n0_:=aM (below_step (z5_ HB.out) hb);have n1_:=aM (hbox);have n2_:=aM ((z8_ HB.out:w.heap.size≤gb522));have n3_:=aM ((z8_ HB.out:w.heap.size≤gb522));clear HB;have HB:=n0_;have BK522:=n1_;have GW522:=n2_;have GE522:=n3_;clear n0_ n1_ n2_ n3_;clear hb hbox hg;have ⟨hcz9_0,hcz9_1,hfz9_0,hfz9_1⟩:=cz2_ BK522.out) | ((with_reducible refine gc_ 90 ?_);refine gl_ (some 10) Tryd.func90 #[.agg #[.int .i64 a0_0,.slice A0_1 l0_1.length c0_1],.string a1] ?_;(with_reducible refine (Y21.calls k a0_0 _ _ l0_1 a1 t523 _ ?s1 ?s2 A4.out).mono ?_);(case s1=>repeat (first | exact (Kd.C_below HR0_1.out HB.out) | (with_reducible refine Kd.C_alloc ?_ _) | (with_reducible refine Kd.C_drewN ?_ _) | (with_reducible refine Kd.C_drew ?_)));(case s2=>exact HC0_1.out);rintro e w10 ⟨v524,rfl,ho0,hb⟩;refine ⟨_,rfl,?_⟩;have n0_:=aM (Kd.R_lower ho0 (below_size (z7_ HB.out GE522.out)));have n1_:=aM (blkB_ BK522.out hb);have n2_:=aM (below_step (z7_ HB.out GE522.out) hb);clear BK522;clear HB;have HO525:=n0_;have BK522:=n1_;have HB:=n2_;clear n0_ n1_ n2_;(try clear hb);(try clear ho0);obtain ⟨Ao11,co11,eo11⟩:=Kd.R_slice HO525.out;subst eo11) | ((with_reducible refine gc_ 91 ?_);refine gl_ (some 15) Tryd.func91 #[.int .i64 a2,.int .i64 (t523.length:Int)] ?_;(with_reducible refine (Y78.calls a2 (t523.length:Int) t526 _ A5.out).mono ?_);rintro e w' ⟨rfl,⟨nd,rfl⟩⟩;refine ⟨_,rfl,?_⟩;have q12:(t526:Int)≤((t523.length:Int):Int):=dT (z0_);obtain ⟨i012,hi012,_,hsz12,_⟩:=info_parts info2;have hcut12:=cut_to (P:=Tryd.prog) 37 2 .i64 Tryd.underlying37 hi012 Ao11 t523.length co11 t526 (dT (z0_)) q12 (Kd.R_reads' HO525.out).2.1;have hr12:=Kd.R_take (m:=(t526:Int).toNat) HO525.out (by omega);have hy12:y527.length=(t526:Int).toNat:=(by rw [Ny527.out,List.length_take];omega);rw [← Ny527.out] at hr12;rw [← hy12] at hr12 hcut12;clear hy12 hi012 hsz12 HO525;have HO529:=aM hr12;clear hr12;replace q12:=eq_true q12))
   go_ret
   exact ⟨_,z9_,z1_ HO529.out,z7_ HB.out GE522.out⟩
  ·rw [if_neg c7] at H
   exact nO H
 ·rw [if_neg c6] at H
  exact nO H


/-! ### Y12: function 20 -/
mutual
def Y12.j0:Nat→ByteArray→Int→List Int→Bool→Int→List (S77)→Int→List (S77)→Option (List Int)
 | 0,_,_,_,_,_,_,_,_=>none
 | k+1,x2,x3,x9,x31,x531000,x531001,x532000,x532001=>if x31=true then (some x9) else ((Y57.f k x531000 x531001 x2 x3).bind fun t539=>((Y57.f k x532000 x532001 x2 x3).bind fun t542=>(Y12.l0 k x9 t539 t542 0)))
def Y12.l0:Nat→List Int→List Int→List Int→Int→Option (List Int)
 | 0,_,_,_,_=>none
 | k+1,x9,x10,x11,x12=>if x12<(x11.length:Int) then (if 0≤x12 then ((Y33.f k x10 (rd x11 x12)).bind fun t546=>(if t546=true then (Y12.l0 k x9 x10 x11 (wrap64 (x12+1))) else (if x9.length<17592186044416 then (Y12.l0 k (x9 ++ [rd x11 x12]) x10 x11 (wrap64 (x12+1))) else (none)))) else (none)) else (some x9)
end
def Y12.f (k:Nat) (a0_0:Int) (l0_1:List (S77)) (a1_0:Int) (l1_1:List (S77)) (a2:ByteArray) (a3:Int):Option (List Int):=(some (([]:List Int):List Int)).bind fun y532=>((Y11.f k a0_0 l0_1).bind fun t535=>(if t535=true then ((Y11.f k a1_0 l1_1).bind fun t536=>(if t536=true then ((Y15.f k a2).bind fun t537=>(if t537=true then ((Y52.f a3).bind fun t538=>(Y12.j0 k a2 a3 y532 (!t538) a0_0 l0_1 a1_0 l1_1)) else (Y12.j0 k a2 a3 y532 true a0_0 l0_1 a1_0 l1_1))) else (Y12.j0 k a2 a3 y532 true a0_0 l0_1 a1_0 l1_1))) else (Y12.j0 k a2 a3 y532 true a0_0 l0_1 a1_0 l1_1)))
theorem Y12.mono_l:∀ k,(∀ y0 y1 y2 y3 y4 y5 y6 y7,LeO (Y12.j0 k y0 y1 y2 y3 y4 y5 y6 y7) (Y12.j0 (k+1) y0 y1 y2 y3 y4 y5 y6 y7))∧(∀ y0 y1 y2 y3,LeO (Y12.l0 k y0 y1 y2 y3) (Y12.l0 (k+1) y0 y1 y2 y3))
 | 0=>by refine ⟨?_,?_⟩ <;> intros <;> exact LeO.none _
 | k+1=>by
  obtain ⟨ih0,ih1⟩:=Y12.mono_l k
  have m0:=@Y15.mono
  have m1:=@Y11.mono
  have m2:=@Y33.mono
  have m3:=@Y57.mono
  refine ⟨?_,?_⟩
  ·intros
   unfold Y12.j0
   exact mO
  ·intros
   unfold Y12.l0
   exact mO
theorem Y12.mono:∀ a0 a1 a2 a3 a4 a5 k,LeO (Y12.f k a0 a1 a2 a3 a4 a5) (Y12.f (k+1) a0 a1 a2 a3 a4 a5):=by
 intro a0 a1 a2 a3 a4 a5 k
 have m0:=@Y15.mono
 have m1:=@Y11.mono
 have m2:=@Y33.mono
 have m3:=@Y57.mono
 obtain ⟨ih0,ih1⟩:=Y12.mono_l k
 unfold Y12.f
 exact mO
def Y12.T4:Bool × List (List Nat × List Nat):=(true,[([],[]),([],[]),([],[]),([0,1,2],[0,1,2]),([],[]),([],[]),([],[]),([4,5,6,3],[4,5,6]),([3,7,0,1,2,3],[3]),([7,8,0,1,2,3,4,5,6,7,8],[7])])
def Y12.B4:List Nat:=[0,0,0,7,0,0,0,127,255,511]
theorem Y12.tab4:rtab .any (opsOf Tryd.f20 4)=Y12.T4:=by kernel_rfl
theorem Y12.bits4:waitsOk Y12.T4.2 Y12.B4=true:=by kernel_rfl
theorem Y12.calls (k:Nat) (a0_0:Int) (A0_1:Option Addr) (c0_1:Nat) (l0_1:List (S77)) (a1_0:Int) (A1_1:Option Addr) (c1_1:Nat) (l1_1:List (S77)) (a2:ByteArray) (a3:Int) (r:List Int) (w:World) (hr0_1:Kd.C k77 w A0_1 l0_1.length l0_1) (hc0_1:l0_1.length≤c0_1) (hr1_1:Kd.C k77 w A1_1 l1_1.length l1_1) (hc1_1:l1_1.length≤c1_1) (h:Y12.f k a0_0 l0_1 a1_0 l1_1 a2 a3=some r) :
  Calls Tryd.prog 20 #[.agg #[.int .i64 a0_0,.slice A0_1 l0_1.length c0_1],.agg #[.int .i64 a1_0,.slice A1_1 l1_1.length c1_1],.string a2,.int .i64 a3] w fun e w'=>∃ v0_:Value,e = .returned (v0_)∧Kd.R (Kd.int .i64) 2 w' w.heap.size (fun _=>True) v0_ r∧Below w.heap.size w w':=by
 have hu24:=Tryd.underlying24
 have HR0_1:=aM hr0_1
 have HC0_1:=aM hc0_1
 clear hr0_1 hc0_1
 have HR1_1:=aM hr1_1
 have HC1_1:=aM hc1_1
 clear hr1_1 hc1_1
 have HB:=aM (Below.refl w.heap.size w)
 have H:((some (([]:List Int):List Int)).bind fun y532=>((Y11.f k a0_0 l0_1).bind fun t535=>(if t535=true then ((Y11.f k a1_0 l1_1).bind fun t536=>(if t536=true then ((Y15.f k a2).bind fun t537=>(if t537=true then ((Y52.f a3).bind fun t538=>(Y12.j0 k a2 a3 y532 (!t538) a0_0 l0_1 a1_0 l1_1)) else (Y12.j0 k a2 a3 y532 true a0_0 l0_1 a1_0 l1_1))) else (Y12.j0 k a2 a3 y532 true a0_0 l0_1 a1_0 l1_1))) else (Y12.j0 k a2 a3 y532 true a0_0 l0_1 a1_0 l1_1))))=some r:=h
 clear h
 obtain ⟨y532,hy532⟩:∃ y_:List Int,y_=(([]:List Int)):=⟨_,rfl⟩
 replace H:((Y11.f k a0_0 l0_1).bind fun t535=>(if t535=true then ((Y11.f k a1_0 l1_1).bind fun t536=>(if t536=true then ((Y15.f k a2).bind fun t537=>(if t537=true then ((Y52.f a3).bind fun t538=>(Y12.j0 k a2 a3 y532 (!t538) a0_0 l0_1 a1_0 l1_1)) else (Y12.j0 k a2 a3 y532 true a0_0 l0_1 a1_0 l1_1))) else (Y12.j0 k a2 a3 y532 true a0_0 l0_1 a1_0 l1_1))) else (Y12.j0 k a2 a3 y532 true a0_0 l0_1 a1_0 l1_1)))=some r:=by first | (rw [hy532];with_reducible exact H) | (have H2_:=(Option.bind_some _ _).symm.trans H;rw [hy532];with_reducible exact H2_) | (have H2_:=(Option.bind_some _ _).symm.trans H;with_reducible exact H2_) | with_reducible exact H | (rw [hy532];exact H) | exact H
 have Ny532:=aM hy532
 clear hy532
 have HC5:=aM H
 clear H
 go_enter Tryd.func20,Tryd.ntmps20
 go_upto_region 2 with (first | ((with_reducible refine gd_ 4 ?_);refine be_ 4 #[.int .i64 a0_0,.slice A0_1 l0_1.length c0_1] 24 ?_;intro gb530 hg w6 hbox hb;have n0_:=aM (below_step (z5_ HB.out) hb);have n1_:=aM (hbox);have n2_:=aM ((z8_ HB.out:w.heap.size≤gb530));have n3_:=aM ((z8_ HB.out:w.heap.size≤gb530));clear HB;have HB:=n0_;have BK530:=n1_;have GW530:=n2_;have GE530:=n3_;clear n0_ n1_ n2_ n3_;clear hb hbox hg) | ((with_reducible refine gd_ 5 ?_);refine be_ 5 #[.int .i64 a1_0,.slice A1_1 l1_1.length c1_1] 24 ?_;intro gb531 hg w7 hbox hb;have n0_:=aM (blkB_ BK530.out hb);have n1_:=aM (below_step (z7_ HB.out GE530.out) hb);have n2_:=aM (hbox);have n3_:=aM ((z11_ HB.out GE530.out:w.heap.size≤gb531));have n4_:=aM ((z11_ HB.out GE530.out:w.heap.size≤gb531));have n5_:=aM (neL_ BK530.out hg);have n6_:=aM (neG_ BK530.out hg);clear BK530;clear HB;have BK530:=n0_;have HB:=n1_;have BK531:=n2_;have GW531:=n3_;have GE531:=n4_;have NB530_531:=n5_;have NB531_530:=n6_;clear n0_ n1_ n2_ n3_ n4_ n5_ n6_;clear hb hbox hg) | ((with_reducible refine gd_ 13 ?_);refine Kd.R_lit (Kd.int .i64) _ 2 ?hg (N:=13) ?hd (xs:=([]:List Int)) (inner:=[]) (ok:=fun _=>True) (okp:=fun _=>True) ?hr ?hp (fun _ hk=>hk) trivial (Below.refl _ _) (Nat.le_refl _) (by simp) ?_;(case hd=>rfl);(case hg=>rfl);(case hr=>first | (go_simp;done) | (go_simp;rfl));(case hp=>exact (Reps.none _ _));intro v533 w8 ho9 hb hg_ hnew_;clear hg_ hnew_;(first | rw [← Ny532.out] at ho9 | (simp only [Int.reduceToNat] at ho9;rw [← Ny532.out] at ho9));have n0_:=aM (Kd.R_lower ho9 (below_size (z4_ HB.out GE530.out GE531.out)));have n1_:=aM (blkB_ BK530.out hb);have n2_:=aM (blkB_ BK531.out hb);have n3_:=aM (below_step (z4_ HB.out GE530.out GE531.out) hb);clear BK530;clear BK531;clear HB;have HO534:=n0_;have BK530:=n1_;have BK531:=n2_;have HB:=n3_;clear n0_ n1_ n2_ n3_;clear hb ho9))
 (try simp only [Act.put,sa_,s0_,ss_])
 go_cut [31] (fun v31 wc=>∃ (kq:Nat) (x31_4:Bool),v31 = .bool x31_4∧Aside0 (Y12.j0 kq a2 a3 y532 x31_4 a0_0 l0_1 a1_0 l1_1=some r)∧Aside0 (kq≤k)∧Aside0 (Kd.R (Kd.int .i64) 2 wc w.heap.size (fun _=>True) v533 y532)∧Aside0 (wc.heap[gb530]? = some (.cells #[.int .i64 a0_0,(.slice A0_1 l0_1.length c0_1)] 24 (0,0)))∧Aside0 (wc.heap[gb531]? = some (.cells #[.int .i64 a1_0,(.slice A1_1 l1_1.length c1_1)] 24 (0,0)))∧Aside0 (Below w.heap.size w wc))
 case first =>
  have H:=HC5.out
  clear HC5
  replace H:=bS H
  obtain ⟨t535,A100,H⟩:=H
  replace H:(if t535=true then ((Y11.f k a1_0 l1_1).bind fun t536=>(if t536=true then ((Y15.f k a2).bind fun t537=>(if t537=true then ((Y52.f a3).bind fun t538=>(Y12.j0 k a2 a3 y532 (!t538) a0_0 l0_1 a1_0 l1_1)) else (Y12.j0 k a2 a3 y532 true a0_0 l0_1 a1_0 l1_1))) else (Y12.j0 k a2 a3 y532 true a0_0 l0_1 a1_0 l1_1))) else (Y12.j0 k a2 a3 y532 true a0_0 l0_1 a1_0 l1_1))=some r:=H
  have A10:=aM A100
  clear A100
  by_cases c11:t535=true
  ·subst c11
   have H1:((Y11.f k a1_0 l1_1).bind fun t536=>(if t536=true then ((Y15.f k a2).bind fun t537=>(if t537=true then ((Y52.f a3).bind fun t538=>(Y12.j0 k a2 a3 y532 (!t538) a0_0 l0_1 a1_0 l1_1)) else (Y12.j0 k a2 a3 y532 true a0_0 l0_1 a1_0 l1_1))) else (Y12.j0 k a2 a3 y532 true a0_0 l0_1 a1_0 l1_1)))=some r:=by rw [if_pos rfl] at H;exact H
   clear H
   have H:=H1
   clear H1
   replace H:=bS H
   obtain ⟨t536,A120,H⟩:=H
   replace H:(if t536=true then ((Y15.f k a2).bind fun t537=>(if t537=true then ((Y52.f a3).bind fun t538=>(Y12.j0 k a2 a3 y532 (!t538) a0_0 l0_1 a1_0 l1_1)) else (Y12.j0 k a2 a3 y532 true a0_0 l0_1 a1_0 l1_1))) else (Y12.j0 k a2 a3 y532 true a0_0 l0_1 a1_0 l1_1))=some r:=H
   have A12:=aM A120
   clear A120
   by_cases c13:t536=true
   ·subst c13
    have H1:((Y15.f k a2).bind fun t537=>(if t537=true then ((Y52.f a3).bind fun t538=>(Y12.j0 k a2 a3 y532 (!t538) a0_0 l0_1 a1_0 l1_1)) else (Y12.j0 k a2 a3 y532 true a0_0 l0_1 a1_0 l1_1)))=some r:=by rw [if_pos rfl] at H;exact H
    clear H
    have H:=H1
    clear H1
    replace H:=bS H
    obtain ⟨t537,A140,H⟩:=H
    replace H:(if t537=true then ((Y52.f a3).bind fun t538=>(Y12.j0 k a2 a3 y532 (!t538) a0_0 l0_1 a1_0 l1_1)) else (Y12.j0 k a2 a3 y532 true a0_0 l0_1 a1_0 l1_1))=some r:=H
    have A14:=aM A140
    clear A140
    by_cases c15:t537=true
    ·subst c15
     have H1:((Y52.f a3).bind fun t538=>(Y12.j0 k a2 a3 y532 (!t538) a0_0 l0_1 a1_0 l1_1))=some r:=by rw [if_pos rfl] at H;exact H
     clear H
     have H:=H1
     clear H1
     replace H:=bS H
     obtain ⟨t538,A160,H⟩:=H
     replace H:(Y12.j0 k a2 a3 y532 (!t538) a0_0 l0_1 a1_0 l1_1)=some r:=H
     have A16:=aM A160
     clear A160
     have H':=aM H
     clear H
     have hnb17:=NB530_531.out
     have hnc17:=NB531_530.out
     have ⟨hcz18_0,hcz18_1,hfz18_0,hfz18_1⟩:=cz2_ BK530.out
     go_wp2_with (first | ((with_reducible refine gc_ 51 ?_);refine gl_ (some 15) Tryd.func51 #[.agg #[.int .i64 a0_0,.slice A0_1 l0_1.length c0_1]] ?_;(with_reducible refine (Y11.calls k a0_0 _ _ l0_1 true _ ?s1 ?s2 A10.out).mono ?_);(case s1=>repeat (first | exact (Kd.C_below HR0_1.out HB.out) | (with_reducible refine Kd.C_alloc ?_ _) | (with_reducible refine Kd.C_drewN ?_ _) | (with_reducible refine Kd.C_drew ?_)));(case s2=>exact HC0_1.out);rintro e w19 ⟨rfl,hb⟩;refine ⟨_,rfl,?_⟩;have n0_:=aM (Kd.R_below (z1_ HO534.out) hb);have n1_:=aM (blkB_ BK530.out hb);have n2_:=aM (blkB_ BK531.out hb);have n3_:=aM (below_step (z4_ HB.out GE530.out GE531.out) hb);clear HO534;clear BK530;clear BK531;clear HB;have HO534:=n0_;have BK530:=n1_;have BK531:=n2_;have HB:=n3_;clear n0_ n1_ n2_ n3_;(try clear hb);have ⟨hcz20_0,hcz20_1,hfz20_0,hfz20_1⟩:=cz2_ BK531.out) | (go_at_call 51;(with_reducible refine (Y11.calls k a1_0 _ _ l1_1 true _ ?s1 ?s2 A12.out).mono ?_);(case s1=>repeat (first | exact (Kd.C_below HR1_1.out HB.out) | (with_reducible refine Kd.C_alloc ?_ _) | (with_reducible refine Kd.C_drewN ?_ _) | (with_reducible refine Kd.C_drew ?_)));(case s2=>exact HC1_1.out);rintro e w21 ⟨rfl,hb⟩;have n0_:=aM (Kd.R_below (z1_ HO534.out) hb);have n1_:=aM (blkB_ BK530.out hb);have n2_:=aM (blkB_ BK531.out hb);have n3_:=aM (below_step (z4_ HB.out GE530.out GE531.out) hb);clear HO534;clear BK530;clear BK531;clear HB;have HO534:=n0_;have BK530:=n1_;have BK531:=n2_;have HB:=n3_;clear n0_ n1_ n2_ n3_;(try clear hb)) | (go_at_call 21;(with_reducible refine (Y15.calls k a2 true _ A14.out).mono ?_);rintro e w' ⟨rfl,⟨nd,rfl⟩⟩) | (go_at_call 38;(with_reducible refine (Y52.calls a3 t538 _ A16.out).mono ?_);rintro e w' ⟨rfl,⟨nd,rfl⟩⟩))
     go_meet
     case rel=>exact ⟨_,(!t538),(z2_),H',⟨by first | omega | exact Nat.le_refl _⟩,⟨z1_ HO534.out⟩,⟨z3_ BK530.out⟩,⟨z3_ BK531.out⟩,⟨z4_ HB.out GE530.out GE531.out⟩⟩
    ·replace c15:=Bool.eq_false_iff.mpr c15
     subst c15
     have H1:(Y12.j0 k a2 a3 y532 true a0_0 l0_1 a1_0 l1_1)=some r:=by rw [if_neg (show ¬ (false=true) by decide)] at H;exact H
     clear H
     have H:=H1
     clear H1
     have H':=aM H
     clear H
     have hnb22:=NB530_531.out
     have hnc22:=NB531_530.out
     have ⟨hcz23_0,hcz23_1,hfz23_0,hfz23_1⟩:=cz2_ BK530.out
     go_wp2_with (first | ((with_reducible refine gc_ 51 ?_);refine gl_ (some 15) Tryd.func51 #[.agg #[.int .i64 a0_0,.slice A0_1 l0_1.length c0_1]] ?_;(with_reducible refine (Y11.calls k a0_0 _ _ l0_1 true _ ?s1 ?s2 A10.out).mono ?_);(case s1=>repeat (first | exact (Kd.C_below HR0_1.out HB.out) | (with_reducible refine Kd.C_alloc ?_ _) | (with_reducible refine Kd.C_drewN ?_ _) | (with_reducible refine Kd.C_drew ?_)));(case s2=>exact HC0_1.out);rintro e w24 ⟨rfl,hb⟩;refine ⟨_,rfl,?_⟩;have n0_:=aM (Kd.R_below (z1_ HO534.out) hb);have n1_:=aM (blkB_ BK530.out hb);have n2_:=aM (blkB_ BK531.out hb);have n3_:=aM (below_step (z4_ HB.out GE530.out GE531.out) hb);clear HO534;clear BK530;clear BK531;clear HB;have HO534:=n0_;have BK530:=n1_;have BK531:=n2_;have HB:=n3_;clear n0_ n1_ n2_ n3_;(try clear hb);have ⟨hcz25_0,hcz25_1,hfz25_0,hfz25_1⟩:=cz2_ BK531.out) | (go_at_call 51;(with_reducible refine (Y11.calls k a1_0 _ _ l1_1 true _ ?s1 ?s2 A12.out).mono ?_);(case s1=>repeat (first | exact (Kd.C_below HR1_1.out HB.out) | (with_reducible refine Kd.C_alloc ?_ _) | (with_reducible refine Kd.C_drewN ?_ _) | (with_reducible refine Kd.C_drew ?_)));(case s2=>exact HC1_1.out);rintro e w26 ⟨rfl,hb⟩;have n0_:=aM (Kd.R_below (z1_ HO534.out) hb);have n1_:=aM (blkB_ BK530.out hb);have n2_:=aM (blkB_ BK531.out hb);have n3_:=aM (below_step (z4_ HB.out GE530.out GE531.out) hb);clear HO534;clear BK530;clear BK531;clear HB;have HO534:=n0_;have BK530:=n1_;have BK531:=n2_;have HB:=n3_;clear n0_ n1_ n2_ n3_;(try clear hb)) | (go_at_call 21;(with_reducible refine (Y15.calls k a2 false _ A14.out).mono ?_);rintro e w' ⟨rfl,⟨nd,rfl⟩⟩))
     go_meet
     case rel=>exact ⟨_,(true),(z2_),H',⟨by first | omega | exact Nat.le_refl _⟩,⟨z1_ HO534.out⟩,⟨z3_ BK530.out⟩,⟨z3_ BK531.out⟩,⟨z4_ HB.out GE530.out GE531.out⟩⟩
   ·replace c13:=Bool.eq_false_iff.mpr c13
    subst c13
    have H1:(Y12.j0 k a2 a3 y532 true a0_0 l0_1 a1_0 l1_1)=some r:=by rw [if_neg (show ¬ (false=true) by decide)] at H;exact H
    clear H
    have H:=H1
    clear H1
    have H':=aM H
    clear H
    have hnb27:=NB530_531.out
    have hnc27:=NB531_530.out
    have ⟨hcz28_0,hcz28_1,hfz28_0,hfz28_1⟩:=cz2_ BK530.out
    go_wp2_with (first | ((with_reducible refine gc_ 51 ?_);refine gl_ (some 15) Tryd.func51 #[.agg #[.int .i64 a0_0,.slice A0_1 l0_1.length c0_1]] ?_;(with_reducible refine (Y11.calls k a0_0 _ _ l0_1 true _ ?s1 ?s2 A10.out).mono ?_);(case s1=>repeat (first | exact (Kd.C_below HR0_1.out HB.out) | (with_reducible refine Kd.C_alloc ?_ _) | (with_reducible refine Kd.C_drewN ?_ _) | (with_reducible refine Kd.C_drew ?_)));(case s2=>exact HC0_1.out);rintro e w29 ⟨rfl,hb⟩;refine ⟨_,rfl,?_⟩;have n0_:=aM (Kd.R_below (z1_ HO534.out) hb);have n1_:=aM (blkB_ BK530.out hb);have n2_:=aM (blkB_ BK531.out hb);have n3_:=aM (below_step (z4_ HB.out GE530.out GE531.out) hb);clear HO534;clear BK530;clear BK531;clear HB;have HO534:=n0_;have BK530:=n1_;have BK531:=n2_;have HB:=n3_;clear n0_ n1_ n2_ n3_;(try clear hb);have ⟨hcz30_0,hcz30_1,hfz30_0,hfz30_1⟩:=cz2_ BK531.out) | (go_at_call 51;(with_reducible refine (Y11.calls k a1_0 _ _ l1_1 false _ ?s1 ?s2 A12.out).mono ?_);(case s1=>repeat (first | exact (Kd.C_below HR1_1.out HB.out) | (with_reducible refine Kd.C_alloc ?_ _) | (with_reducible refine Kd.C_drewN ?_ _) | (with_reducible refine Kd.C_drew ?_)));(case s2=>exact HC1_1.out);rintro e w31 ⟨rfl,hb⟩;have n0_:=aM (Kd.R_below (z1_ HO534.out) hb);have n1_:=aM (blkB_ BK530.out hb);have n2_:=aM (blkB_ BK531.out hb);have n3_:=aM (below_step (z4_ HB.out GE530.out GE531.out) hb);clear HO534;clear BK530;clear BK531;clear HB;have HO534:=n0_;have BK530:=n1_;have BK531:=n2_;have HB:=n3_;clear n0_ n1_ n2_ n3_;(try clear hb)))
    go_meet
    case rel=>exact ⟨_,(true),(z2_),H',⟨by first | omega | exact Nat.le_refl _⟩,⟨z1_ HO534.out⟩,⟨z3_ BK530.out⟩,⟨z3_ BK531.out⟩,⟨z4_ HB.out GE530.out GE531.out⟩⟩
  ·replace c11:=Bool.eq_false_iff.mpr c11
   subst c11
   have H1:(Y12.j0 k a2 a3 y532 true a0_0 l0_1 a1_0 l1_1)=some r:=by rw [if_neg (show ¬ (false=true) by decide)] at H;exact H
   clear H
   have H:=H1
   clear H1
   have H':=aM H
   clear H
   have hnb32:=NB530_531.out
   have hnc32:=NB531_530.out
   have ⟨hcz33_0,hcz33_1,hfz33_0,hfz33_1⟩:=cz2_ BK530.out
   go_wp2_with (first | ((with_reducible refine gc_ 51 ?_);refine gl_ (some 15) Tryd.func51 #[.agg #[.int .i64 a0_0,.slice A0_1 l0_1.length c0_1]] ?_;(with_reducible refine (Y11.calls k a0_0 _ _ l0_1 false _ ?s1 ?s2 A10.out).mono ?_);(case s1=>repeat (first | exact (Kd.C_below HR0_1.out HB.out) | (with_reducible refine Kd.C_alloc ?_ _) | (with_reducible refine Kd.C_drewN ?_ _) | (with_reducible refine Kd.C_drew ?_)));(case s2=>exact HC0_1.out);rintro e w34 ⟨rfl,hb⟩;refine ⟨_,rfl,?_⟩;have n0_:=aM (Kd.R_below (z1_ HO534.out) hb);have n1_:=aM (blkB_ BK530.out hb);have n2_:=aM (blkB_ BK531.out hb);have n3_:=aM (below_step (z4_ HB.out GE530.out GE531.out) hb);clear HO534;clear BK530;clear BK531;clear HB;have HO534:=n0_;have BK530:=n1_;have BK531:=n2_;have HB:=n3_;clear n0_ n1_ n2_ n3_;(try clear hb)))
   go_meet
   case rel=>exact ⟨_,(true),(z2_),H',⟨by first | omega | exact Nat.le_refl _⟩,⟨z1_ HO534.out⟩,⟨z3_ BK530.out⟩,⟨z3_ BK531.out⟩,⟨z4_ HB.out GE530.out GE531.out⟩⟩
 case rest =>
  clear HC5
  try clear c1
  try clear c2
  try clear p2
  try clear c3
  try clear c5
  try clear c11
  try clear c13
  try clear c15
  try clear c17
  try clear c20
  try clear c22
  try clear c27
  try clear c32
  try clear hcz18_0
  try clear hcz18_1
  try clear hcz20_0
  try clear hcz20_1
  try clear hcz23_0
  try clear hcz23_1
  try clear hcz25_0
  try clear hcz25_1
  try clear hcz28_0
  try clear hcz28_1
  try clear hcz30_0
  try clear hcz30_1
  try clear hcz33_0
  try clear hcz33_1
  try clear hfz18_0
  try clear hfz18_1
  try clear hfz20_0
  try clear hfz20_1
  try clear hfz23_0
  try clear hfz23_1
  try clear hfz25_0
  try clear hfz25_1
  try clear hfz28_0
  try clear hfz28_1
  try clear hfz30_0
  try clear hfz30_1
  try clear hfz33_0
  try clear hfz33_1
  obtain ⟨kq,x31_4,rfl,HA,HJ4,HO_9,BK530,BK531,HB⟩:=hcut
  cases kq with
  | zero=>exact absurd HA.out (by simp [Y12.j0])
  | succ kj4 =>
   have H:=HA.out
   clear HA
   simp only [Y12.j0] at H
   by_cases c35:x31_4=true
   ·subst c35
    have H1:(some y532)=some r:=by rw [if_pos rfl] at H;exact H
    clear H
    have H:=H1
    clear H1
    obtain rfl:=sI H
    go_wp2
    go_ret
    exact ⟨_,z9_,z1_ HO_9.out,z4_ HB.out GE530.out GE531.out⟩
   ·replace c35:=Bool.eq_false_iff.mpr c35
    subst c35
    have H1:((Y57.f kj4 a0_0 l0_1 a2 a3).bind fun t539=>((Y57.f kj4 a1_0 l1_1 a2 a3).bind fun t542=>(Y12.l0 kj4 y532 t539 t542 0)))=some r:=by rw [if_neg (show ¬ (false=true) by decide)] at H;exact H
    clear H
    have H:=H1
    clear H1
    replace H:=bS H
    obtain ⟨t539,A360,H⟩:=H
    replace H:((Y57.f kj4 a1_0 l1_1 a2 a3).bind fun t542=>(Y12.l0 kj4 y532 t539 t542 0))=some r:=H
    have A36:=aM A360
    clear A360
    replace H:=bS H
    obtain ⟨t542,A370,H⟩:=H
    replace H:(Y12.l0 kj4 y532 t539 t542 0)=some r:=H
    have A37:=aM A370
    clear A370
    have H':=aM H
    clear H
    try go_wp2
    have n0_:=aM (Kd.R_drew HO_9.out)
    have n1_:=aM (blk_drew BK530.out)
    have n2_:=aM (blk_drew BK531.out)
    have n3_:=aM (below_drew1 HB.out)
    clear HO_9
    clear BK530
    clear BK531
    clear HB
    have HO_9:=n0_
    have BK530:=n1_
    have BK531:=n2_
    have HB:=n3_
    clear n0_ n1_ n2_ n3_
    refine start_ (n:=10) (S:=fun w'=>w'.cell? ⟨gb530,0,none⟩=some (.int .i64 a0_0)∧w'.cell? ⟨gb530,1,none⟩=some (.slice A0_1 l0_1.length c0_1)∧w'.cell? ⟨gb531,0,none⟩=some (.int .i64 a1_0)∧w'.cell? ⟨gb531,1,none⟩=some (.slice A1_1 l1_1.length c1_1)) (ds:=[]) #[O,O,O,O,O,O,O,O,O,O] (by kernel_rfl) rfl rfl (cj2_ BK530.out (cc2_ BK531.out)) (fun hHeld=>?_);refine with_tabW Y12.tab4 Y12.bits4 (fun HT_ HW_=>?_)
    generalize wc.drew=w38 at HO_9 BK530 BK531 HB hHeld ⊢
    refine pu_ 1 34 #[O,I,O,O,O,O,O,O,O,O] HT_.out ?_
    refine pu_ 2 35 #[O,I,I,O,O,O,O,O,O,O] HT_.out ?_
    refine pu_ 5 38 #[O,I,I,O,O,I,O,O,O,O] HT_.out ?_
    refine pu_ 6 39 #[O,I,I,O,O,I,I,O,O,O] HT_.out ?_
    refine tk4_ 0 33 #[I,I,I,O,O,I,I,O,O,O] HT_.out HW_.out hHeld ?_
    refine tk4_ 4 37 #[I,I,I,O,I,I,I,O,O,O] HT_.out HW_.out hHeld ?_
    refine o1_ 3 36 #[I,I,I,I,I,I,I,O,O,O] HT_.out (fun K hK=>?_)
    refine gs_ Tryd.func54 #[.agg #[.int .i64 a0_0,.slice A0_1 l0_1.length c0_1],.string a2,.int .i64 a3] ?_
    with_reducible refine (Y57.calls kj4 a0_0 _ _ l0_1 a2 a3 t539 _ ?s1 ?s2 A36.out).mono ?_
    (case s1=>repeat (first | exact (Kd.C_below HR0_1.out HB.out) | (with_reducible refine Kd.C_alloc ?_ _) | (with_reducible refine Kd.C_drewN ?_ _) | (with_reducible refine Kd.C_drew ?_)))
    (case s2=>exact HC0_1.out)
    rintro e w39 ⟨v540,rfl,ho0,hb⟩
    refine ⟨_,rfl,?_⟩
    have n0_:=aM (Kd.R_elder' (z1_ HO_9.out) (Kd.R_base ho0) hb)
    have n1_:=aM (Kd.R_lower (Kd.R_new' ho0 (Kd.R_lt (z1_ HO_9.out))) (below_size (z4_ HB.out GE530.out GE531.out)))
    have n2_:=aM (blkB_ BK530.out hb)
    have n3_:=aM (blkB_ BK531.out hb)
    have n4_:=aM (below_step (z4_ HB.out GE530.out GE531.out) hb)
    clear HO_9
    clear BK530
    clear BK531
    clear HB
    have HO_9:=n0_
    have HO541:=n1_
    have BK530:=n2_
    have BK531:=n3_
    have HB:=n4_
    clear n0_ n1_ n2_ n3_ n4_
    (try clear hb)
    (try clear ho0)
    refine hK.out _ _ (cj2_ BK530.out (cc2_ BK531.out)) (fun hHeld=>?_)
    clear hK K
    refine nm_ 36 ?_
    refine o1_ 7 40 #[I,I,I,I,I,I,I,I,O,O] HT_.out (fun K hK=>?_)
    refine gs_ Tryd.func54 #[.agg #[.int .i64 a1_0,.slice A1_1 l1_1.length c1_1],.string a2,.int .i64 a3] ?_
    with_reducible refine (Y57.calls kj4 a1_0 _ _ l1_1 a2 a3 t542 _ ?s1 ?s2 A37.out).mono ?_
    (case s1=>repeat (first | exact (Kd.C_below HR1_1.out HB.out) | (with_reducible refine Kd.C_alloc ?_ _) | (with_reducible refine Kd.C_drewN ?_ _) | (with_reducible refine Kd.C_drew ?_)))
    (case s2=>exact HC1_1.out)
    rintro e w40 ⟨v543,rfl,ho0,hb⟩
    refine ⟨_,rfl,?_⟩
    have n0_:=aM (Kd.R_elder' (z1_ HO_9.out) (Kd.R_base ho0) hb)
    have n1_:=aM (Kd.R_elder' (z1_ HO541.out) (Kd.R_base ho0) hb)
    have n2_:=aM (Kd.R_lower (Kd.R_new' (Kd.R_new' ho0 (Kd.R_lt (z1_ HO_9.out))) (Kd.R_lt (z1_ HO541.out))) (below_size (z4_ HB.out GE530.out GE531.out)))
    have n3_:=aM (blkB_ BK530.out hb)
    have n4_:=aM (blkB_ BK531.out hb)
    have n5_:=aM (below_step (z4_ HB.out GE530.out GE531.out) hb)
    clear HO_9
    clear HO541
    clear BK530
    clear BK531
    clear HB
    have HO_9:=n0_
    have HO541:=n1_
    have HO544:=n2_
    have BK530:=n3_
    have BK531:=n4_
    have HB:=n5_
    clear n0_ n1_ n2_ n3_ n4_ n5_
    (try clear hb)
    (try clear ho0)
    refine hK.out _ _ (cj2_ BK530.out (cc2_ BK531.out)) (fun hHeld=>?_)
    clear hK K
    refine nm_ 40 ?_
    refine pu_ 8 10 #[I,I,I,I,I,I,I,I,I,O] HT_.out ?_
    refine pu_ 9 11 #[I,I,I,I,I,I,I,I,I,I] HT_.out ?_
    refine done_ (done_of HT_.out (by kernel_rfl)) ?_
    try go_wp2
    go_loopg [9,12] kj4 (fun kq v9 v12 w'=>∃ (x9_2:List Int) (x12_2:Int),v12 = .int .i64 x12_2∧Aside0 (Y12.l0 kq x9_2 t539 t542 x12_2=some r)∧Aside0 (kq≤kj4)∧Aside0 (Kd.R (Kd.int .i64) 2 w' w.heap.size (fun k_=>some k_≠(v540:Value).ownBlock∧some k_≠(v543:Value).ownBlock) v9 x9_2)∧Aside0 (Kd.R (Kd.int .i64) 2 w' w.heap.size (fun k_=>some k_≠(v9:Value).ownBlock∧some k_≠(v543:Value).ownBlock) v540 t539)∧Aside0 (Kd.R (Kd.int .i64) 2 w' w.heap.size (fun k_=>some k_≠(v9:Value).ownBlock∧some k_≠(v540:Value).ownBlock) v543 t542)∧Aside0 (w'.heap[gb530]? = some (.cells #[.int .i64 a0_0,(.slice A0_1 l0_1.length c0_1)] 24 (0,0)))∧Aside0 (w'.heap[gb531]? = some (.cells #[.int .i64 a1_0,(.slice A1_1 l1_1.length c1_1)] 24 (0,0)))∧Aside0 (Below w.heap.size w w'))
    case atStart=>exact ⟨(y532),(0),(z2_),H',⟨Nat.le_refl _⟩,⟨z35_ HO_9.out⟩,⟨z35_ HO541.out⟩,⟨z35_ HO544.out⟩,⟨z3_ BK530.out⟩,⟨z3_ BK531.out⟩,⟨z4_ HB.out GE530.out GE531.out⟩⟩
    case round =>
     clear H'
     try clear c1
     try clear c2
     try clear p2
     try clear c3
     try clear c5
     try clear c11
     try clear c13
     try clear c15
     try clear c17
     try clear c20
     try clear c22
     try clear c27
     try clear c32
     try clear c35
     try clear hcz18_0
     try clear hcz18_1
     try clear hcz20_0
     try clear hcz20_1
     try clear hcz23_0
     try clear hcz23_1
     try clear hcz25_0
     try clear hcz25_1
     try clear hcz28_0
     try clear hcz28_1
     try clear hcz30_0
     try clear hcz30_1
     try clear hcz33_0
     try clear hcz33_1
     try clear hfz18_0
     try clear hfz18_1
     try clear hfz20_0
     try clear hfz20_1
     try clear hfz23_0
     try clear hfz23_1
     try clear hfz25_0
     try clear hfz25_1
     try clear hfz28_0
     try clear hfz28_1
     try clear hfz30_0
     try clear hfz30_1
     try clear hfz33_0
     try clear hfz33_1
     try clear p2
     obtain ⟨x9_2,x12_2,rfl,HA,HK2,HO_9,HO_10,HO_11,BK530,BK531,HB⟩:=hrel
     cases gk with
     | zero=>exact absurd HA.out (by simp [Y12.l0])
     | succ k2 =>
      have H:=HA.out
      clear HA
      simp only [Y12.l0] at H
      by_cases c41:x12_2<(t542.length:Int)
      ·rw [if_pos c41] at H
       have c41b0:decide (x12_2<(t542.length:Int))=true:=dE c41
       clear c41
       by_cases c42:0≤x12_2
       ·rw [if_pos c42] at H
        have c42b0:decide (0≤x12_2)=true:=dE c42
        clear c42
        replace H:=bS H
        obtain ⟨t546,A430,H⟩:=H
        replace H:(if t546=true then (Y12.l0 k2 x9_2 t539 t542 (wrap64 (x12_2+1))) else (if x9_2.length<17592186044416 then (Y12.l0 k2 (x9_2 ++ [rd t542 x12_2]) t539 t542 (wrap64 (x12_2+1))) else (none)))=some r:=H
        have A43:=aM A430
        clear A430
        by_cases c44:t546=true
        ·subst c44
         have H1:(Y12.l0 k2 x9_2 t539 t542 (wrap64 (x12_2+1)))=some r:=by rw [if_pos rfl] at H;exact H
         clear H
         have H:=H1
         clear H1
         have H':=aM H
         clear H
         obtain ⟨Ao45,co45,eo45⟩:=Kd.R_slice HO_11.out
         subst eo45
         have p545:0≤(x12_2:Int):=dT (z0_)
         have q545:x12_2<(t542.length:Int):=dT (z0_)
         obtain ⟨ad545,e545,hx545_0⟩:=Kd.at_int (Kd.R_reads' HO_11.out).2.2 x12_2 p545 q545
         cases e545
         replace p545:=eq_true p545
         replace q545:=eq_true q545
         obtain ⟨Ao46,co46,eo46⟩:=Kd.R_slice HO_10.out
         subst eo46
         go_wp2_with (first | ((with_reducible refine gc_ 55 ?_);refine gl_ (some 52) Tryd.func55 #[.slice Ao46 t539.length co46,.int .i64 (rd t542 x12_2)] ?_;(with_reducible refine (Y33.calls k2 _ _ t539 (rd t542 x12_2) true _ ?s1 ?s2 A43.out).mono ?_);(case s1=>repeat (first | exact (Kd.R_reads' HO_10.out).2.2 | (with_reducible refine Kd.C_alloc ?_ _) | (with_reducible refine Kd.C_drewN ?_ _) | (with_reducible refine Kd.C_drew ?_)));(case s2=>exact (Kd.R_reads' HO_10.out).2.1);rintro e w' ⟨rfl,⟨nd,rfl⟩⟩;refine ⟨_,rfl,?_⟩))
         go_roundg k2
         case measure=>have:=HJ4.out;have:=HK2.out;omega
         case rel=>exact ⟨(x9_2),(wrap64 (x12_2+1)),(z2_),H',⟨z15_ HJ4.out HK2.out⟩,⟨z1_ HO_9.out⟩,⟨z1_ HO_10.out⟩,⟨z1_ HO_11.out⟩,⟨z3_ BK530.out⟩,⟨z3_ BK531.out⟩,⟨z4_ HB.out GE530.out GE531.out⟩⟩
        ·replace c44:=Bool.eq_false_iff.mpr c44
         subst c44
         have H1:(if x9_2.length<17592186044416 then (Y12.l0 k2 (x9_2 ++ [rd t542 x12_2]) t539 t542 (wrap64 (x12_2+1))) else (none))=some r:=by rw [if_neg (show ¬ (false=true) by decide)] at H;exact H
         clear H
         have H:=H1
         clear H1
         by_cases c47:x9_2.length<17592186044416
         ·rw [if_pos c47] at H
          have LMc47:=aM c47
          clear c47
          obtain ⟨y548,hy548⟩:∃ y_:List Int,y_=(x9_2 ++ [rd t542 x12_2]):=⟨_,rfl⟩
          replace H:(Y12.l0 k2 y548 t539 t542 (wrap64 (x12_2+1)))=some r:=by first | (rw [hy548];with_reducible exact H) | (have H2_:=(Option.bind_some _ _).symm.trans H;rw [hy548];with_reducible exact H2_) | (have H2_:=(Option.bind_some _ _).symm.trans H;with_reducible exact H2_) | with_reducible exact H | (rw [hy548];exact H) | exact H
          have Ny548:=aM hy548
          clear hy548
          have H':=aM H
          clear H
          obtain ⟨Ao48,co48,eo48⟩:=Kd.R_slice HO_11.out
          subst eo48
          have p545:0≤(x12_2:Int):=dT (z0_)
          have q545:x12_2<(t542.length:Int):=dT (z0_)
          obtain ⟨ad545,e545,hx545_0⟩:=Kd.at_int (Kd.R_reads' HO_11.out).2.2 x12_2 p545 q545
          cases e545
          replace p545:=eq_true p545
          replace q545:=eq_true q545
          obtain ⟨Ao49,co49,eo49⟩:=Kd.R_slice HO_10.out
          subst eo49
          go_wp2_with (first | ((with_reducible refine gc_ 55 ?_);refine gl_ (some 52) Tryd.func55 #[.slice Ao49 t539.length co49,.int .i64 (rd t542 x12_2)] ?_;(with_reducible refine (Y33.calls k2 _ _ t539 (rd t542 x12_2) false _ ?s1 ?s2 A43.out).mono ?_);(case s1=>repeat (first | exact (Kd.R_reads' HO_10.out).2.2 | (with_reducible refine Kd.C_alloc ?_ _) | (with_reducible refine Kd.C_drewN ?_ _) | (with_reducible refine Kd.C_drew ?_)));(case s2=>exact (Kd.R_reads' HO_10.out).2.1);rintro e w' ⟨rfl,⟨nd,rfl⟩⟩;refine ⟨_,rfl,?_⟩;have p547:0≤(x12_2:Int):=dT (z0_);have q547:x12_2<(t542.length:Int):=dT (z0_);obtain ⟨ad547,e547,hx547_0⟩:=Kd.at_int (Kd.R_reads' HO_11.out).2.2 x12_2 p547 q547;obtain rfl:ad545=ad547:=(by injection e547);replace p547:=eq_true p547;replace q547:=eq_true q547) | ((with_reducible refine gate_builtin (b:=.append) (xs:=#[.tmp 54,.tmp 59]) rfl ?_);at_builtin;refine Kd.R_append (Kd.int .i64) (w0:=w) w.heap.size rfl (.tmp 54) (.tmp 59) 37 2 (.int .i64 0) 8 rfl Tryd.underlying37 info2 rfl (by decide) (by omega) u9 x9_2 (rd t542 x12_2) [.int .i64 (rd t542 x12_2)] (fun k_=>some k_≠(.slice Ao49 t539.length co49:Value).ownBlock∧some k_≠(.slice (some ad545) t542.length co48:Value).ownBlock) (fun _=>False) rfl rfl ?aP (fun _ hk=>hk.elim) ?aF ?aO ?aB ?aS ?aL ?_;(case aP=>exact rfl);(case aB=>exact (z4_ HB.out GE530.out GE531.out));(case aF=>exact (fun k_ hk=>⟨Kd.fresh' (Kd.R_lt (z1_ HO_10.out)) k_ hk,Kd.fresh' (Kd.R_lt (z1_ HO_11.out)) k_ hk⟩));(case aO=>exact (z1_ HO_9.out));(case aS=>exact (below_size (z4_ HB.out GE530.out GE531.out)));(case aL=>have:=LMc47.out;omega);intro v549 w50 ho hb hg hat;rw [← Ny548.out] at ho;have n0_:=aM (Kd.R_after (ok:=(fun k_=>some k_≠(.slice (some ad545) t542.length co48:Value).ownBlock)) (z51_ HO_10.out) hg hat);have n1_:=aM (Kd.R_after (ok:=(fun k_=>some k_≠(.slice Ao49 t539.length co49:Value).ownBlock)) (z51_ HO_11.out) hg hat);have n2_:=aM (blk_grown (g:=gb530) (o:=.cells #[.int .i64 a0_0,.slice A0_1 l0_1.length c0_1] 24 (0,0)) (z3_ BK530.out) hg (Kd.R_ne HO_9.out BK530.out (by decide)));have n3_:=aM (blk_grown (g:=gb531) (o:=.cells #[.int .i64 a1_0,.slice A1_1 l1_1.length c1_1] 24 (0,0)) (z3_ BK531.out) hg (Kd.R_ne HO_9.out BK531.out (by decide)));have n4_:=aM (hb);have n5_:=aM (ho);clear HO_10;clear HO_11;clear BK530;clear BK531;clear HB;clear HO_9;have HO_10:=n0_;have HO_11:=n1_;have BK530:=n2_;have BK531:=n3_;have HB:=n4_;have HO550:=n5_;clear n0_ n1_ n2_ n3_ n4_ n5_;clear ho hb hg hat))
          go_roundg k2
          case measure=>have:=HJ4.out;have:=HK2.out;omega
          case rel=>exact ⟨(y548),(wrap64 (x12_2+1)),(z2_),H',⟨z15_ HJ4.out HK2.out⟩,⟨z1_ HO550.out⟩,⟨z51_ HO_10.out⟩,⟨z51_ HO_11.out⟩,⟨z3_ BK530.out⟩,⟨z3_ BK531.out⟩,⟨z4_ HB.out GE530.out GE531.out⟩⟩
         ·rw [if_neg c47] at H
          exact nO H
       ·rw [if_neg c42] at H
        exact nO H
      ·rw [if_neg c41] at H
       have c41b0:decide (x12_2<(t542.length:Int))=false:=dF c41
       clear c41
       obtain rfl:=sI H
       obtain ⟨Ao51,co51,eo51⟩:=Kd.R_slice HO_11.out
       subst eo51
       go_wp2
       go_ret
       exact ⟨_,z9_,by (with_reducible repeat (first | apply Kd.R_alloc | apply Kd.R_drewN | apply Kd.R_drew));exact Kd.R_mono HO_9.out (fun _ hk=>trivial),z4_ HB.out GE530.out GE531.out⟩


/-! ### Y72: function 22 -/
def Y72.f (k:Nat) (a0_0:Int) (l0_1:List (S77)) (a1:ByteArray):Option (List Int):=(Y53.f k a0_0 l0_1 a1).bind fun t552=>(if t552=true then ((Y29.f k a0_0 l0_1 a1).bind fun t553=>(some t553)) else (some ([]:List Int)))
theorem Y72.mono:∀ a0 a1 a2 k,LeO (Y72.f k a0 a1 a2) (Y72.f (k+1) a0 a1 a2):=by
 intro a0 a1 a2 k
 have m0:=@Y53.mono
 have m1:=@Y29.mono
 unfold Y72.f
 exact mO
theorem Y72.calls (k:Nat) (a0_0:Int) (A0_1:Option Addr) (c0_1:Nat) (l0_1:List (S77)) (a1:ByteArray) (r:List Int) (w:World) (hr0_1:Kd.C k77 w A0_1 l0_1.length l0_1) (hc0_1:l0_1.length≤c0_1) (h:Y72.f k a0_0 l0_1 a1=some r) :
  Calls Tryd.prog 22 #[.agg #[.int .i64 a0_0,.slice A0_1 l0_1.length c0_1],.string a1] w fun e w'=>∃ v0_:Value,e = .returned (v0_)∧Kd.R (Kd.int .i64) 2 w' w.heap.size (fun _=>True) v0_ r∧Below w.heap.size w w':=by
 have hu24:=Tryd.underlying24
 have HR0_1:=aM hr0_1
 have HC0_1:=aM hc0_1
 clear hr0_1 hc0_1
 have HB:=aM (Below.refl w.heap.size w)
 have H:((Y53.f k a0_0 l0_1 a1).bind fun t552=>(if t552=true then ((Y29.f k a0_0 l0_1 a1).bind fun t553=>(some t553)) else (some ([]:List Int))))=some r:=h
 clear h
 replace H:=bS H
 obtain ⟨t552,A30,H⟩:=H
 replace H:(if t552=true then ((Y29.f k a0_0 l0_1 a1).bind fun t553=>(some t553)) else (some ([]:List Int)))=some r:=H
 have A3:=aM A30
 clear A30
 by_cases c4:t552=true
 ·subst c4
  have H1:((Y29.f k a0_0 l0_1 a1).bind fun t553=>(some t553))=some r:=by rw [if_pos rfl] at H;exact H
  clear H
  have H:=H1
  clear H1
  replace H:=bS H
  obtain ⟨t553,A50,H⟩:=H
  replace H:(some t553)=some r:=H
  have A5:=aM A50
  clear A50
  obtain rfl:=sI H
  go_enter Tryd.func22,Tryd.ntmps22
  go_wp2_with (first | ((with_reducible refine gd_ 2 ?_);refine be_ 2 #[.int .i64 a0_0,.slice A0_1 l0_1.length c0_1] 24 ?_;intro gb551 hg w6 hbox hb;have n0_:=aM (below_step (z5_ HB.out) hb);have n1_:=aM (hbox);have n2_:=aM ((z8_ HB.out:w.heap.size≤gb551));have n3_:=aM ((z8_ HB.out:w.heap.size≤gb551));clear HB;have HB:=n0_;have BK551:=n1_;have GW551:=n2_;have GE551:=n3_;clear n0_ n1_ n2_ n3_;clear hb hbox hg;have ⟨hcz7_0,hcz7_1,hfz7_0,hfz7_1⟩:=cz2_ BK551.out) | ((with_reducible refine gc_ 52 ?_);refine gl_ (some 7) Tryd.func52 #[.agg #[.int .i64 a0_0,.slice A0_1 l0_1.length c0_1],.string a1] ?_;(with_reducible refine (Y53.calls k a0_0 _ _ l0_1 a1 true _ ?s1 ?s2 A3.out).mono ?_);(case s1=>repeat (first | exact (Kd.C_below HR0_1.out HB.out) | (with_reducible refine Kd.C_alloc ?_ _) | (with_reducible refine Kd.C_drewN ?_ _) | (with_reducible refine Kd.C_drew ?_)));(case s2=>exact HC0_1.out);rintro e w8 ⟨rfl,hb⟩;refine ⟨_,rfl,?_⟩;have n0_:=aM (blkB_ BK551.out hb);have n1_:=aM (below_step (z7_ HB.out GE551.out) hb);clear BK551;clear HB;have BK551:=n0_;have HB:=n1_;clear n0_ n1_;(try clear hb);have ⟨hcz9_0,hcz9_1,hfz9_0,hfz9_1⟩:=cz2_ BK551.out) | ((with_reducible refine gc_ 56 ?_);refine gl_ (some 11) Tryd.func56 #[.agg #[.int .i64 a0_0,.slice A0_1 l0_1.length c0_1],.string a1] ?_;(with_reducible refine (Y29.calls k a0_0 _ _ l0_1 a1 t553 _ ?s1 ?s2 A5.out).mono ?_);(case s1=>repeat (first | exact (Kd.C_below HR0_1.out HB.out) | (with_reducible refine Kd.C_alloc ?_ _) | (with_reducible refine Kd.C_drewN ?_ _) | (with_reducible refine Kd.C_drew ?_)));(case s2=>exact HC0_1.out);rintro e w10 ⟨v554,rfl,ho0,hb⟩;refine ⟨_,rfl,?_⟩;have n0_:=aM (Kd.R_lower ho0 (below_size (z7_ HB.out GE551.out)));have n1_:=aM (blkB_ BK551.out hb);have n2_:=aM (below_step (z7_ HB.out GE551.out) hb);clear BK551;clear HB;have HO555:=n0_;have BK551:=n1_;have HB:=n2_;clear n0_ n1_ n2_;(try clear hb);(try clear ho0)))
  go_ret
  exact ⟨_,z9_,z1_ HO555.out,z7_ HB.out GE551.out⟩
 ·replace c4:=Bool.eq_false_iff.mpr c4
  subst c4
  have H1:(some ([]:List Int))=some r:=by rw [if_neg (show ¬ (false=true) by decide)] at H;exact H
  clear H
  have H:=H1
  clear H1
  obtain rfl:=sI H
  go_enter Tryd.func22,Tryd.ntmps22
  go_wp2_with (first | ((with_reducible refine gd_ 2 ?_);refine be_ 2 #[.int .i64 a0_0,.slice A0_1 l0_1.length c0_1] 24 ?_;intro gb551 hg w11 hbox hb;have n0_:=aM (below_step (z5_ HB.out) hb);have n1_:=aM (hbox);have n2_:=aM ((z8_ HB.out:w.heap.size≤gb551));have n3_:=aM ((z8_ HB.out:w.heap.size≤gb551));clear HB;have HB:=n0_;have BK551:=n1_;have GW551:=n2_;have GE551:=n3_;clear n0_ n1_ n2_ n3_;clear hb hbox hg;have ⟨hcz12_0,hcz12_1,hfz12_0,hfz12_1⟩:=cz2_ BK551.out) | ((with_reducible refine gc_ 52 ?_);refine gl_ (some 7) Tryd.func52 #[.agg #[.int .i64 a0_0,.slice A0_1 l0_1.length c0_1],.string a1] ?_;(with_reducible refine (Y53.calls k a0_0 _ _ l0_1 a1 false _ ?s1 ?s2 A3.out).mono ?_);(case s1=>repeat (first | exact (Kd.C_below HR0_1.out HB.out) | (with_reducible refine Kd.C_alloc ?_ _) | (with_reducible refine Kd.C_drewN ?_ _) | (with_reducible refine Kd.C_drew ?_)));(case s2=>exact HC0_1.out);rintro e w13 ⟨rfl,hb⟩;refine ⟨_,rfl,?_⟩;have n0_:=aM (blkB_ BK551.out hb);have n1_:=aM (below_step (z7_ HB.out GE551.out) hb);clear BK551;clear HB;have BK551:=n0_;have HB:=n1_;clear n0_ n1_;(try clear hb)))
  go_ret
  exact ⟨_,z9_,z26_,z7_ HB.out GE551.out⟩


/-! ### Y9: function 4 -/
mutual
def Y9.j0:Nat→List Int→List Int→Bool→Option (Bool)
 | 0,_,_,_=>none
 | k+1,x0,x1,x23=>if x23=true then (some true) else ((Y59.f k x0).bind fun bt556=>((Y46.f k bt556.1 bt556.2).bind fun bt561=>((Y20.f k x1).bind fun bt567=>((Y37.f k bt556.1 bt556.2).bind fun bt579=>((Y40.f k bt561.1 bt561.2.1 bt561.2.2 bt579.1 bt579.2.1 bt579.2.2).bind fun t584=>(if t584=true then ((Y23.f k bt567.1 bt567.2.1 bt567.2.2.1 bt567.2.2.2.1 bt567.2.2.2.2.1 bt567.2.2.2.2.2).bind fun t585=>((Y12.f k bt567.1 bt567.2.1 bt567.2.2.1 bt567.2.2.2.1 bt567.2.2.2.2.1 bt567.2.2.2.2.2).bind fun t588=>((Y36.f k t585 t588).bind fun t591=>(if t591=true then (if bt561.2.2=0 then ((Y15.f k bt567.2.2.2.2.1).bind fun t592=>(Y9.j1 k bt567.2.2.2.2.1 (!t592) bt556.1 bt556.2 bt561.1 bt561.2.1 bt561.2.2)) else (Y9.j1 k bt567.2.2.2.2.1 true bt556.1 bt556.2 bt561.1 bt561.2.1 bt561.2.2)) else (none))))) else (none)))))))
def Y9.j1:Nat→ByteArray→Bool→Int→List (S77)→Int→List (S77)→Int→Option (Bool)
 | 0,_,_,_,_,_,_,_=>none
 | k+1,x9,x61,x561000,x561001,x567000,x567001,x567002=>if x61=true then (some true) else ((Y72.f k x567000 x567001 x9).bind fun t596=>(Y9.l0 k x9 (([]:List Int)) t596 0 x561000 x561001 x567000 x567001 x567002))
def Y9.l0:Nat→ByteArray→List Int→List Int→Int→Int→List (S77)→Int→List (S77)→Int→Option (Bool)
 | 0,_,_,_,_,_,_,_,_,_=>none
 | k+1,x9,x11,x12,x13,x561000,x561001,x567000,x567001,x567002=>if x13<(x12.length:Int) then (if 0≤x13 then (if (rd x12 x13)=x567000 then (Y9.l0 k x9 x11 x12 (wrap64 (x13+1)) x561000 x561001 x567000 x567001 x567002) else (if x11.length<17592186044416 then (Y9.l0 k x9 (x11 ++ [rd x12 x13]) x12 (wrap64 (x13+1)) x561000 x561001 x567000 x567001 x567002) else (none))) else (none)) else ((Y72.f k x561000 x561001 x9).bind fun t604=>((Y36.f k x11 t604).bind fun t607=>(if t607=true then (if (x12.length:Int)=(wrap64 ((x11.length:Int)+1)) then ((Y23.f k x561000 x561001 x567000 x567001 x9 2).bind fun t608=>(Y9.l1 k x9 t608 0 x561000 x561001 x567000 x567001 x567002)) else (none)) else (none))))
def Y9.l1:Nat→ByteArray→List Int→Int→Int→List (S77)→Int→List (S77)→Int→Option (Bool)
 | 0,_,_,_,_,_,_,_,_=>none
 | k+1,x9,x14,x15,x561000,x561001,x567000,x567001,x567002=>if x15<(x14.length:Int) then (if 0≤x15 then (if (rd x14 x15)=x567000 then (Y9.l1 k x9 x14 (wrap64 (x15+1)) x561000 x561001 x567000 x567001 x567002) else (none)) else (none)) else (if (x14.length:Int)≤1 then ((Y23.f k x561000 x561001 x561000 x561001 x9 2).bind fun t612=>(some ((t612.length:Int) == 0))) else (none))
end
def Y9.f (k:Nat) (l0:List Int) (l1:List Int):Option (Bool):=if (l0.length:Int)>1048576 then (Y9.j0 k l0 l1 true) else (Y9.j0 k l0 l1 (decide ((l1.length:Int)>1048576)))
theorem Y9.mono_l:∀ k,(∀ y0 y1 y2,LeO (Y9.j0 k y0 y1 y2) (Y9.j0 (k+1) y0 y1 y2))∧(∀ y0 y1 y2 y3 y4 y5 y6,LeO (Y9.j1 k y0 y1 y2 y3 y4 y5 y6) (Y9.j1 (k+1) y0 y1 y2 y3 y4 y5 y6))∧(∀ y0 y1 y2 y3 y4 y5 y6 y7 y8,LeO (Y9.l0 k y0 y1 y2 y3 y4 y5 y6 y7 y8) (Y9.l0 (k+1) y0 y1 y2 y3 y4 y5 y6 y7 y8))∧(∀ y0 y1 y2 y3 y4 y5 y6 y7,LeO (Y9.l1 k y0 y1 y2 y3 y4 y5 y6 y7) (Y9.l1 (k+1) y0 y1 y2 y3 y4 y5 y6 y7))
 | 0=>by refine ⟨?_,?_,?_,?_⟩ <;> intros <;> exact LeO.none _
 | k+1=>by
  obtain ⟨ih0,ih1,ih2,ih3⟩:=Y9.mono_l k
  have m0:=@Y23.mono
  have m1:=@Y72.mono
  have m2:=@Y46.mono
  have m3:=@Y36.mono
  have m4:=@Y40.mono
  have m5:=@Y20.mono
  have m6:=@Y59.mono
  have m7:=@Y15.mono
  have m8:=@Y12.mono
  have m9:=@Y37.mono
  refine ⟨?_,?_,?_,?_⟩
  ·intros
   unfold Y9.j0
   exact mO
  ·intros
   unfold Y9.j1
   exact mO
  ·intros
   unfold Y9.l0
   exact mO
  ·intros
   unfold Y9.l1
   exact mO
theorem Y9.mono:∀ a0 a1 k,LeO (Y9.f k a0 a1) (Y9.f (k+1) a0 a1):=by
 intro a0 a1 k
 have m0:=@Y23.mono
 have m1:=@Y72.mono
 have m2:=@Y46.mono
 have m3:=@Y36.mono
 have m4:=@Y40.mono
 have m5:=@Y20.mono
 have m6:=@Y59.mono
 have m7:=@Y15.mono
 have m8:=@Y12.mono
 have m9:=@Y37.mono
 obtain ⟨ih0,ih1,ih2,ih3⟩:=Y9.mono_l k
 unfold Y9.f
 exact mO
def Y9.T6:Bool × List (List Nat × List Nat):=(true,[([],[]),([],[]),([1],[1]),([0,2,2],[0,2]),([3],[3]),([4,3],[4]),([5],[5]),([5],[5]),([5],[5]),([5],[5]),([6,7,8,9,5,5],[5,6,7,8,9]),([5],[5]),([5],[5]),([5],[5]),([5],[5]),([11,12,13,14,10,5],[5,11,12,13,14]),([10,15,15,5],[5,10,15]),([16,5],[5,16]),([5,17],[5,17])])
def Y9.B6:List Nat:=[0,0,2,7,15,31,63,63,63,63,1023,63,63,63,63,32767,65535,131071,262143]
theorem Y9.tab6:rtab .any (opsOf Tryd.f4 6)=Y9.T6:=by kernel_rfl
theorem Y9.bits6:waitsOk Y9.T6.2 Y9.B6=true:=by kernel_rfl
def Y9.T15:Bool × List (List Nat × List Nat):=(true,[([],[]),([],[]),([0,1],[0,1]),([2],[2]),([],[]),([4],[4]),([5],[5]),([3,6],[3,6])])
def Y9.B15:List Nat:=[0,0,3,7,0,16,48,127]
theorem Y9.tab15:rtab .any (opsOf Tryd.f4 15)=Y9.T15:=by kernel_rfl
theorem Y9.bits15:waitsOk Y9.T15.2 Y9.B15=true:=by kernel_rfl
def Y9.T23:Bool × List (List Nat × List Nat):=(true,[([],[]),([],[]),([0,1],[0,1]),([2],[2]),([],[]),([4],[4]),([5],[5]),([3,6],[3,6])])
def Y9.B23:List Nat:=[0,0,3,7,0,16,48,127]
theorem Y9.tab23:rtab .any (opsOf Tryd.f4 23)=Y9.T23:=by kernel_rfl
theorem Y9.bits23:waitsOk Y9.T23.2 Y9.B23=true:=by kernel_rfl
theorem Y9.calls (k:Nat) (A0:Option Addr) (c0:Nat) (l0:List Int) (A1:Option Addr) (c1:Nat) (l1:List Int) (r:Bool) (w:World) (hr0:Kd.C (Kd.int .u8) w A0 l0.length l0) (hc0:l0.length≤c0) (hr1:Kd.C (Kd.int .u8) w A1 l1.length l1) (hc1:l1.length≤c1) (h:Y9.f k l0 l1=some r) :
  Calls Tryd.prog 4 #[.slice A0 l0.length c0,.slice A1 l1.length c1] w fun e w'=>e = .returned (.bool r)∧Below w.heap.size w w':=by
 have hu24:=Tryd.underlying24
 have hu26:=Tryd.underlying26
 have HR0:=aM hr0
 have HC0:=aM hc0
 clear hr0 hc0
 have HR1:=aM hr1
 have HC1:=aM hc1
 clear hr1 hc1
 have HB:=aM (Below.refl w.heap.size w)
 have H:(if (l0.length:Int)>1048576 then (Y9.j0 k l0 l1 true) else (Y9.j0 k l0 l1 (decide ((l1.length:Int)>1048576))))=some r:=h
 clear h
 have HC3:=aM H
 clear H
 go_enter Tryd.func4,Tryd.ntmps4
 go_upto_region 1 with (fail)
 go_cut [23] (fun v23 wc=>∃ (kq:Nat) (x23_2:Bool),v23 = .bool x23_2∧Aside0 (Y9.j0 kq l0 l1 x23_2=some r)∧Aside0 (kq≤k)∧Aside0 (Below w.heap.size w wc))
 case first=>as_aux_lemma =>
  have H:=HC3.out
  clear HC3
  by_cases c4:(l0.length:Int)>1048576
  ·rw [if_pos c4] at H
   have c4b0:decide (1048576<(l0.length:Int))=true:=dE c4
   have c4b1:decide (1048576<l0.length)=true:=dE (by omega)
   clear c4
   (first | rw [c4b0] | (simp only [i64_w,i32_w];rw [c4b0]) | skip)
   have H':=aM H
   clear H
   go_wp2
   go_meet
   case rel=>exact ⟨_,(true),(z2_),H',⟨by first | omega | exact Nat.le_refl _⟩,⟨z5_ HB.out⟩⟩
  ·rw [if_neg c4] at H
   have c4b0:decide (1048576<(l0.length:Int))=false:=dF c4
   have c4b1:decide (1048576<l0.length)=false:=dF (by omega)
   clear c4
   (first | rw [c4b0] | (simp only [i64_w,i32_w];rw [c4b0]) | skip)
   have H':=aM H
   clear H
   go_wp2
   go_meet
   case rel=>exact ⟨_,(decide ((l1.length:Int)>1048576)),(z2_),H',⟨by first | omega | exact Nat.le_refl _⟩,⟨z5_ HB.out⟩⟩
 case rest=>as_aux_lemma =>
  clear HC3
  try clear c1
  try clear p2
  try clear c4
  try clear c4b0
  try clear c4b1
  obtain ⟨kq,x23_2,rfl,HA,HJ2,HB⟩:=hcut
  cases kq with
  | zero=>exact absurd HA.out (by simp [Y9.j0])
  | succ kj2 =>
   have H:=HA.out
   clear HA
   simp only [Y9.j0] at H
   by_cases c5:x23_2=true
   ·subst c5
    have H1:(some true)=some r:=by rw [if_pos rfl] at H;exact H
    clear H
    have H:=H1
    clear H1
    obtain rfl:=sI H
    go_wp2
    go_ret
    exact ⟨z9_,z5_ HB.out⟩
   ·replace c5:=Bool.eq_false_iff.mpr c5
    subst c5
    have H1:((Y59.f kj2 l0).bind fun bt556=>((Y46.f kj2 bt556.1 bt556.2).bind fun bt561=>((Y20.f kj2 l1).bind fun bt567=>((Y37.f kj2 bt556.1 bt556.2).bind fun bt579=>((Y40.f kj2 bt561.1 bt561.2.1 bt561.2.2 bt579.1 bt579.2.1 bt579.2.2).bind fun t584=>(if t584=true then ((Y23.f kj2 bt567.1 bt567.2.1 bt567.2.2.1 bt567.2.2.2.1 bt567.2.2.2.2.1 bt567.2.2.2.2.2).bind fun t585=>((Y12.f kj2 bt567.1 bt567.2.1 bt567.2.2.1 bt567.2.2.2.1 bt567.2.2.2.2.1 bt567.2.2.2.2.2).bind fun t588=>((Y36.f kj2 t585 t588).bind fun t591=>(if t591=true then (if bt561.2.2=0 then ((Y15.f kj2 bt567.2.2.2.2.1).bind fun t592=>(Y9.j1 kj2 bt567.2.2.2.2.1 (!t592) bt556.1 bt556.2 bt561.1 bt561.2.1 bt561.2.2)) else (Y9.j1 kj2 bt567.2.2.2.2.1 true bt556.1 bt556.2 bt561.1 bt561.2.1 bt561.2.2)) else (none))))) else (none)))))))=some r:=by rw [if_neg (show ¬ (false=true) by decide)] at H;exact H
    clear H
    have H:=H1
    clear H1
    replace H:=bS H
    obtain ⟨⟨t556,t557⟩,A60,H⟩:=H
    replace H:((Y46.f kj2 t556 t557).bind fun bt561=>((Y20.f kj2 l1).bind fun bt567=>((Y37.f kj2 t556 t557).bind fun bt579=>((Y40.f kj2 bt561.1 bt561.2.1 bt561.2.2 bt579.1 bt579.2.1 bt579.2.2).bind fun t584=>(if t584=true then ((Y23.f kj2 bt567.1 bt567.2.1 bt567.2.2.1 bt567.2.2.2.1 bt567.2.2.2.2.1 bt567.2.2.2.2.2).bind fun t585=>((Y12.f kj2 bt567.1 bt567.2.1 bt567.2.2.1 bt567.2.2.2.1 bt567.2.2.2.2.1 bt567.2.2.2.2.2).bind fun t588=>((Y36.f kj2 t585 t588).bind fun t591=>(if t591=true then (if bt561.2.2=0 then ((Y15.f kj2 bt567.2.2.2.2.1).bind fun t592=>(Y9.j1 kj2 bt567.2.2.2.2.1 (!t592) t556 t557 bt561.1 bt561.2.1 bt561.2.2)) else (Y9.j1 kj2 bt567.2.2.2.2.1 true t556 t557 bt561.1 bt561.2.1 bt561.2.2)) else (none))))) else (none))))))=some r:=H
    have A6:=aM A60
    clear A60
    replace H:=bS H
    obtain ⟨⟨t561,t562,t565⟩,A70,H⟩:=H
    replace H:((Y20.f kj2 l1).bind fun bt567=>((Y37.f kj2 t556 t557).bind fun bt579=>((Y40.f kj2 t561 t562 t565 bt579.1 bt579.2.1 bt579.2.2).bind fun t584=>(if t584=true then ((Y23.f kj2 bt567.1 bt567.2.1 bt567.2.2.1 bt567.2.2.2.1 bt567.2.2.2.2.1 bt567.2.2.2.2.2).bind fun t585=>((Y12.f kj2 bt567.1 bt567.2.1 bt567.2.2.1 bt567.2.2.2.1 bt567.2.2.2.2.1 bt567.2.2.2.2.2).bind fun t588=>((Y36.f kj2 t585 t588).bind fun t591=>(if t591=true then (if t565=0 then ((Y15.f kj2 bt567.2.2.2.2.1).bind fun t592=>(Y9.j1 kj2 bt567.2.2.2.2.1 (!t592) t556 t557 t561 t562 t565)) else (Y9.j1 kj2 bt567.2.2.2.2.1 true t556 t557 t561 t562 t565)) else (none))))) else (none)))))=some r:=H
    have A7:=aM A70
    clear A70
    replace H:=bS H
    obtain ⟨⟨t567,t568,t571,t572,t575,t576⟩,A80,H⟩:=H
    replace H:((Y37.f kj2 t556 t557).bind fun bt579=>((Y40.f kj2 t561 t562 t565 bt579.1 bt579.2.1 bt579.2.2).bind fun t584=>(if t584=true then ((Y23.f kj2 t567 t568 t571 t572 t575 t576).bind fun t585=>((Y12.f kj2 t567 t568 t571 t572 t575 t576).bind fun t588=>((Y36.f kj2 t585 t588).bind fun t591=>(if t591=true then (if t565=0 then ((Y15.f kj2 t575).bind fun t592=>(Y9.j1 kj2 t575 (!t592) t556 t557 t561 t562 t565)) else (Y9.j1 kj2 t575 true t556 t557 t561 t562 t565)) else (none))))) else (none))))=some r:=H
    have A8:=aM A80
    clear A80
    replace H:=bS H
    obtain ⟨⟨t579,t580,t583⟩,A90,H⟩:=H
    replace H:((Y40.f kj2 t561 t562 t565 t579 t580 t583).bind fun t584=>(if t584=true then ((Y23.f kj2 t567 t568 t571 t572 t575 t576).bind fun t585=>((Y12.f kj2 t567 t568 t571 t572 t575 t576).bind fun t588=>((Y36.f kj2 t585 t588).bind fun t591=>(if t591=true then (if t565=0 then ((Y15.f kj2 t575).bind fun t592=>(Y9.j1 kj2 t575 (!t592) t556 t557 t561 t562 t565)) else (Y9.j1 kj2 t575 true t556 t557 t561 t562 t565)) else (none))))) else (none)))=some r:=H
    have A9:=aM A90
    clear A90
    replace H:=bS H
    obtain ⟨t584,A100,H⟩:=H
    replace H:(if t584=true then ((Y23.f kj2 t567 t568 t571 t572 t575 t576).bind fun t585=>((Y12.f kj2 t567 t568 t571 t572 t575 t576).bind fun t588=>((Y36.f kj2 t585 t588).bind fun t591=>(if t591=true then (if t565=0 then ((Y15.f kj2 t575).bind fun t592=>(Y9.j1 kj2 t575 (!t592) t556 t557 t561 t562 t565)) else (Y9.j1 kj2 t575 true t556 t557 t561 t562 t565)) else (none))))) else (none))=some r:=H
    have A10:=aM A100
    clear A100
    by_cases c11:t584=true
    ·subst c11
     have H1:((Y23.f kj2 t567 t568 t571 t572 t575 t576).bind fun t585=>((Y12.f kj2 t567 t568 t571 t572 t575 t576).bind fun t588=>((Y36.f kj2 t585 t588).bind fun t591=>(if t591=true then (if t565=0 then ((Y15.f kj2 t575).bind fun t592=>(Y9.j1 kj2 t575 (!t592) t556 t557 t561 t562 t565)) else (Y9.j1 kj2 t575 true t556 t557 t561 t562 t565)) else (none)))))=some r:=by rw [if_pos rfl] at H;exact H
     clear H
     have H:=H1
     clear H1
     replace H:=bS H
     obtain ⟨t585,A120,H⟩:=H
     replace H:((Y12.f kj2 t567 t568 t571 t572 t575 t576).bind fun t588=>((Y36.f kj2 t585 t588).bind fun t591=>(if t591=true then (if t565=0 then ((Y15.f kj2 t575).bind fun t592=>(Y9.j1 kj2 t575 (!t592) t556 t557 t561 t562 t565)) else (Y9.j1 kj2 t575 true t556 t557 t561 t562 t565)) else (none))))=some r:=H
     have A12:=aM A120
     clear A120
     replace H:=bS H
     obtain ⟨t588,A130,H⟩:=H
     replace H:((Y36.f kj2 t585 t588).bind fun t591=>(if t591=true then (if t565=0 then ((Y15.f kj2 t575).bind fun t592=>(Y9.j1 kj2 t575 (!t592) t556 t557 t561 t562 t565)) else (Y9.j1 kj2 t575 true t556 t557 t561 t562 t565)) else (none)))=some r:=H
     have A13:=aM A130
     clear A130
     replace H:=bS H
     obtain ⟨t591,A140,H⟩:=H
     replace H:(if t591=true then (if t565=0 then ((Y15.f kj2 t575).bind fun t592=>(Y9.j1 kj2 t575 (!t592) t556 t557 t561 t562 t565)) else (Y9.j1 kj2 t575 true t556 t557 t561 t562 t565)) else (none))=some r:=H
     have A14:=aM A140
     clear A140
     by_cases c15:t591=true
     ·subst c15
      have H1:(if t565=0 then ((Y15.f kj2 t575).bind fun t592=>(Y9.j1 kj2 t575 (!t592) t556 t557 t561 t562 t565)) else (Y9.j1 kj2 t575 true t556 t557 t561 t562 t565))=some r:=by rw [if_pos rfl] at H;exact H
      clear H
      have H:=H1
      clear H1
      have HC16:=aM H
      clear H
      try go_wp2_with (first | ((with_reducible refine gc_ 13 ?_);refine gl_ (some 25) Tryd.func13 #[.slice A0 l0.length c0] ?_;(with_reducible refine (Y59.calls kj2 _ _ l0 t556 t557 _ ?s1 ?s2 A6.out).mono ?_);(case s1=>repeat (first | exact (Kd.C_below HR0.out HB.out) | (with_reducible refine Kd.C_alloc ?_ _) | (with_reducible refine Kd.C_drewN ?_ _) | (with_reducible refine Kd.C_drew ?_)));(case s2=>exact HC0.out);rintro e w17 ⟨v558,rfl,ho0,hb⟩;refine ⟨_,rfl,?_⟩;have n0_:=aM (Kd.R_lower ho0 (below_size (z5_ HB.out)));have n1_:=aM (below_step (z5_ HB.out) hb);clear HB;have HO559:=n0_;have HB:=n1_;clear n0_ n1_;(try clear hb);(try clear ho0)) | ((with_reducible refine gd_ 5 ?_);(try (refine gate_guard (by rfl) ?_;dsimp only));refine be_ 5 #[.int .i64 0,.slice none 0 0] 24 ?_;intro gb560 hg w18 hbox hb;have n0_:=aM (Kd.R_below (z1_ HO559.out) hb);have n1_:=aM (below_step (z5_ HB.out) hb);have n2_:=aM (hbox);have n3_:=aM ((z8_ HB.out:w.heap.size≤gb560));have n4_:=aM ((z8_ HB.out:w.heap.size≤gb560));clear HO559;clear HB;have HO559:=n0_;have HB:=n1_;have BK560:=n2_;have GW560:=n3_;have GE560:=n4_;clear n0_ n1_ n2_ n3_ n4_;clear hb hbox hg;have ⟨hcz19_0,hcz19_1,hfz19_0,hfz19_1⟩:=cz2_ BK560.out;obtain ⟨Ao20,co20,eo20⟩:=Kd.R_slice HO559.out;subst eo20) | ((with_reducible refine gc_ 14 ?_);refine gl_ (some 27) Tryd.func14 #[.agg #[.int .i64 t556,.slice Ao20 t557.length co20]] ?_;(with_reducible refine (Y46.calls kj2 t556 _ _ t557 t561 t562 t565 _ ?s1 ?s2 A7.out).mono ?_);(case s1=>refine (Kd.R_reads' (e:=77) (base:=w.heap.size) (ok:=fun k_=>True) (n:=t557.length) (c:=co20) ?_).2.2;exact (z23_ HO559.out BK560.out));(case s2=>exact (Kd.R_reads' HO559.out).2.1);rintro e w21 ⟨v563,rfl,ho0,hb⟩;refine ⟨_,rfl,?_⟩;have n0_:=aM (Kd.R_elder' (z23_ HO559.out BK560.out) (Kd.R_base ho0) hb);have n1_:=aM (Kd.R_lower (Kd.R_new' ho0 (Kd.R_lt (z23_ HO559.out BK560.out))) (below_size (z7_ HB.out GE560.out)));have n2_:=aM (blk_below (g:=gb560) (o:=.cells #[.int .i64 t556,.slice Ao20 t557.length co20] 24 (0,0)) (z20_ BK560.out) hb);have n3_:=aM (below_step (z7_ HB.out GE560.out) hb);clear HO559;clear BK560;clear HB;have HO559:=n0_;have HO564:=n1_;have BK560:=n2_;have HB:=n3_;clear n0_ n1_ n2_ n3_;(try clear hb);(try clear hk);(try clear ho0)) | ((with_reducible refine gd_ 6 ?_);(try (refine gate_guard (by rfl) ?_;dsimp only));refine be_ 6 #[.int .i64 0,.slice none 0 0,.int .i64 0] 26 ?_;intro gb566 hg w22 hbox hb;have n0_:=aM (Kd.R_below (z1_ HO559.out) hb);have n1_:=aM (Kd.R_below (z1_ HO564.out) hb);have n2_:=aM (blkB_ BK560.out hb);have n3_:=aM (below_step (z7_ HB.out GE560.out) hb);have n4_:=aM (hbox);have n5_:=aM ((z11_ HB.out GE560.out:w.heap.size≤gb566));have n6_:=aM ((z11_ HB.out GE560.out:w.heap.size≤gb566));have n7_:=aM (neL_ BK560.out hg);have n8_:=aM (neG_ BK560.out hg);clear HO559;clear HO564;clear BK560;clear HB;have HO559:=n0_;have HO564:=n1_;have BK560:=n2_;have HB:=n3_;have BK566:=n4_;have GW566:=n5_;have GE566:=n6_;have NB560_566:=n7_;have NB566_560:=n8_;clear n0_ n1_ n2_ n3_ n4_ n5_ n6_ n7_ n8_;clear hb hbox hg;have hnb23:=NB566_560.out;have hnc23:=NB560_566.out;have ⟨hcz24_0,hcz24_1,hcz24_2,hfz24_0,hfz24_1,hfz24_2⟩:=cz3_ BK566.out;obtain ⟨Ao25,co25,eo25⟩:=Kd.R_slice HO564.out;subst eo25) | ((with_reducible refine gc_ 15 ?_);refine gl_ (some 30) Tryd.func15 #[.slice A1 l1.length c1] ?_;(with_reducible refine (Y20.calls kj2 _ _ l1 t567 t568 t571 t572 t575 t576 _ ?s1 ?s2 A8.out).mono ?_);(case s1=>exact Kd.C_below HR1.out (z4_ HB.out GE560.out GE566.out));(case s2=>exact HC1.out);rintro e w26 ⟨v569,v573,rfl,ho0,ho1,hb⟩;refine ⟨_,rfl,?_⟩;have n0_:=aM (Kd.R_mono (Kd.R_told (Kd.R_told (Kd.R_old (z43_ HO559.out BK566.out) hb) (Kd.R_base ho0)) (Kd.R_base ho1)) (fun _ h_=>h_.1));have n1_:=aM (Kd.R_mono (Kd.R_told (Kd.R_told (Kd.R_old (z43_ HO564.out BK566.out) hb) (Kd.R_base ho0)) (Kd.R_base ho1)) (fun _ h_=>h_.1));have n2_:=aM (Kd.R_lower (Kd.R_new' (Kd.R_new' ho0 (Kd.R_lt (z43_ HO559.out BK566.out))) (Kd.R_lt (z43_ HO564.out BK566.out))) (below_size (z4_ HB.out GE560.out GE566.out)));have n3_:=aM (Kd.R_lower (Kd.R_new' (Kd.R_new' ho1 (Kd.R_lt (z43_ HO559.out BK566.out))) (Kd.R_lt (z43_ HO564.out BK566.out))) (below_size (z4_ HB.out GE560.out GE566.out)));have n4_:=aM (blk_below (g:=gb560) (o:=.cells #[.int .i64 t556,.slice Ao20 t557.length co20] 24 (0,0)) (by (with_reducible repeat (first | refine blk_drewN ?_ _ | refine blk_drew ?_ | refine blk_alloc ?_ _));refine blk_far ?_ NB560_566.out _;(with_reducible repeat (first | refine blk_drewN ?_ _ | refine blk_drew ?_ | refine blk_alloc ?_ _));refine blk_far ?_ NB560_566.out _;(with_reducible repeat (first | refine blk_drewN ?_ _ | refine blk_drew ?_ | refine blk_alloc ?_ _));refine blk_far ?_ NB560_566.out _;(with_reducible repeat (first | refine blk_drewN ?_ _ | refine blk_drew ?_ | refine blk_alloc ?_ _));exact BK560.out) hb);have n5_:=aM (blk_below (g:=gb566) (o:=.cells #[.int .i64 t561,.slice Ao25 t562.length co25,.int .i64 t565] 26 (0,0)) (z33_ BK566.out) hb);have n6_:=aM (below_step (z4_ HB.out GE560.out GE566.out) hb);clear HO559;clear HO564;clear BK560;clear BK566;clear HB;have HO559:=n0_;have HO564:=n1_;have HO570:=n2_;have HO574:=n3_;have BK560:=n4_;have BK566:=n5_;have HB:=n6_;clear n0_ n1_ n2_ n3_ n4_ n5_ n6_;(try clear hb);(try clear hk);(try clear ho0);(try clear ho1)) | ((with_reducible refine gd_ 7 ?_);(try (refine gate_guard (by rfl) ?_;dsimp only));refine be_ 7 #[.int .i64 0,.slice none 0 0] 24 ?_;intro gb577 hg w27 hbox hb;have n0_:=aM (Kd.R_below (z1_ HO559.out) hb);have n1_:=aM (Kd.R_below (z1_ HO564.out) hb);have n2_:=aM (Kd.R_below (z1_ HO570.out) hb);have n3_:=aM (Kd.R_below (z1_ HO574.out) hb);have n4_:=aM (blkB_ BK560.out hb);have n5_:=aM (blkB_ BK566.out hb);have n6_:=aM (below_step (z4_ HB.out GE560.out GE566.out) hb);have n7_:=aM (hbox);have n8_:=aM ((z30_ HB.out GE560.out GE566.out:w.heap.size≤gb577));have n9_:=aM ((z30_ HB.out GE560.out GE566.out:w.heap.size≤gb577));have n10_:=aM (neL_ BK560.out hg);have n11_:=aM (neG_ BK560.out hg);have n12_:=aM (neL_ BK566.out hg);have n13_:=aM (neG_ BK566.out hg);clear HO559;clear HO564;clear HO570;clear HO574;clear BK560;clear BK566;clear HB;have HO559:=n0_;have HO564:=n1_;have HO570:=n2_;have HO574:=n3_;have BK560:=n4_;have BK566:=n5_;have HB:=n6_;have BK577:=n7_;have GW577:=n8_;have GE577:=n9_;have NB560_577:=n10_;have NB577_560:=n11_;have NB566_577:=n12_;have NB577_566:=n13_;clear n0_ n1_ n2_ n3_ n4_ n5_ n6_ n7_ n8_ n9_ n10_ n11_ n12_ n13_;clear hb hbox hg) | ((with_reducible refine gd_ 8 ?_);(try (refine gate_guard (by rfl) ?_;dsimp only));refine be_ 8 #[.int .i64 0,.slice none 0 0] 24 ?_;intro gb578 hg w28 hbox hb;have n0_:=aM (Kd.R_below (z1_ HO559.out) hb);have n1_:=aM (Kd.R_below (z1_ HO564.out) hb);have n2_:=aM (Kd.R_below (z1_ HO570.out) hb);have n3_:=aM (Kd.R_below (z1_ HO574.out) hb);have n4_:=aM (blkB_ BK560.out hb);have n5_:=aM (blkB_ BK566.out hb);have n6_:=aM (blkB_ BK577.out hb);have n7_:=aM (below_step (z13_ HB.out GE560.out GE566.out GE577.out) hb);have n8_:=aM (hbox);have n9_:=aM ((by rw [hg];exact (below_size (by repeat (first | (with_reducible first | exact HB.out | apply below_alloc | apply pw_below_drewN | apply below_drew1 | refine below_set ?_ GE560.out | refine below_set ?_ GE566.out | refine below_set ?_ GE577.out) | exact HB.out))):w.heap.size≤gb578));have n10_:=aM ((by rw [hg];exact (below_size (by repeat (first | (with_reducible first | exact HB.out | apply below_alloc | apply pw_below_drewN | apply below_drew1 | refine below_set ?_ GE560.out | refine below_set ?_ GE566.out | refine below_set ?_ GE577.out) | exact HB.out))):w.heap.size≤gb578));have n11_:=aM (neL_ BK560.out hg);have n12_:=aM (neG_ BK560.out hg);have n13_:=aM (neL_ BK566.out hg);have n14_:=aM (neG_ BK566.out hg);have n15_:=aM (neL_ BK577.out hg);have n16_:=aM (neG_ BK577.out hg);clear HO559;clear HO564;clear HO570;clear HO574;clear BK560;clear BK566;clear BK577;clear HB;have HO559:=n0_;have HO564:=n1_;have HO570:=n2_;have HO574:=n3_;have BK560:=n4_;have BK566:=n5_;have BK577:=n6_;have HB:=n7_;have BK578:=n8_;have GW578:=n9_;have GE578:=n10_;have NB560_578:=n11_;have NB578_560:=n12_;have NB566_578:=n13_;have NB578_566:=n14_;have NB577_578:=n15_;have NB578_577:=n16_;clear n0_ n1_ n2_ n3_ n4_ n5_ n6_ n7_ n8_ n9_ n10_ n11_ n12_ n13_ n14_ n15_ n16_;clear hb hbox hg;have hnb29:=NB577_560.out;have hnc29:=NB560_577.out;have hnb30:=NB577_566.out;have hnc30:=NB566_577.out;have hnb31:=NB577_578.out;have hnc31:=NB578_577.out;have ⟨hcz32_0,hcz32_1,hfz32_0,hfz32_1⟩:=cz2_ BK577.out;obtain ⟨Ao33,co33,eo33⟩:=Kd.R_slice HO570.out;subst eo33;have hnb34:=NB578_560.out;have hnc34:=NB560_578.out;have hnb35:=NB578_566.out;have hnc35:=NB566_578.out;have ⟨hcz36_0,hcz36_1,hfz36_0,hfz36_1⟩:=cz2_ BK578.out;obtain ⟨Ao37,co37,eo37⟩:=Kd.R_slice HO574.out;subst eo37))
      have n0_:Aside0 (Kd.R k77 77 ((((w28.setCell ⟨gb577,0,none⟩ (.int .i64 t567)).setCell ⟨gb577,1,none⟩ (.slice Ao33 t568.length co33)).setCell ⟨gb578,0,none⟩ (.int .i64 t571)).setCell ⟨gb578,1,none⟩ (.slice Ao37 t572.length co37)) w.heap.size (fun k_=>some k_≠(.slice Ao25 t562.length co25:Value).ownBlock∧some k_≠(.slice Ao33 t568.length co33:Value).ownBlock∧some k_≠(.slice Ao37 t572.length co37:Value).ownBlock) (.slice Ao20 t557.length co20) t557):=⟨by (with_reducible repeat (first | apply Kd.R_alloc | apply Kd.R_drewN | apply Kd.R_drew));exact Kd.R_mono (rf2_ (Kd.R_far (p:=⟨gb577,1,none⟩) (Kd.R_far (p:=⟨gb577,0,none⟩) (Kd.R_types (Kd.R_types HO559.out BK577.out (by decide)) BK578.out (by decide)) (fun _ hk=>hk.1.2) (.int .i64 t567)) (fun _ hk=>hk.1.2) (.slice Ao33 t568.length co33)) (fun _ hk=>hk.2)) (fun _ hk=>⟨hk.1.1.1.1.2,⟨hk.1.1.1.2,hk.1.1.2⟩⟩)⟩
      have n1_:Aside0 (Kd.R k77 77 ((((w28.setCell ⟨gb577,0,none⟩ (.int .i64 t567)).setCell ⟨gb577,1,none⟩ (.slice Ao33 t568.length co33)).setCell ⟨gb578,0,none⟩ (.int .i64 t571)).setCell ⟨gb578,1,none⟩ (.slice Ao37 t572.length co37)) w.heap.size (fun k_=>some k_≠(.slice Ao20 t557.length co20:Value).ownBlock∧some k_≠(.slice Ao33 t568.length co33:Value).ownBlock∧some k_≠(.slice Ao37 t572.length co37:Value).ownBlock) (.slice Ao25 t562.length co25) t562):=⟨by (with_reducible repeat (first | apply Kd.R_alloc | apply Kd.R_drewN | apply Kd.R_drew));exact Kd.R_mono (rf2_ (Kd.R_far (p:=⟨gb577,1,none⟩) (Kd.R_far (p:=⟨gb577,0,none⟩) (Kd.R_types (Kd.R_types HO564.out BK577.out (by decide)) BK578.out (by decide)) (fun _ hk=>hk.1.2) (.int .i64 t567)) (fun _ hk=>hk.1.2) (.slice Ao33 t568.length co33)) (fun _ hk=>hk.2)) (fun _ hk=>⟨hk.1.1.1.1.2,⟨hk.1.1.1.2,hk.1.1.2⟩⟩)⟩
      have n2_:Aside0 (Kd.R k77 77 ((((w28.setCell ⟨gb577,0,none⟩ (.int .i64 t567)).setCell ⟨gb577,1,none⟩ (.slice Ao33 t568.length co33)).setCell ⟨gb578,0,none⟩ (.int .i64 t571)).setCell ⟨gb578,1,none⟩ (.slice Ao37 t572.length co37)) w.heap.size (fun k_=>some k_≠(.slice Ao20 t557.length co20:Value).ownBlock∧some k_≠(.slice Ao25 t562.length co25:Value).ownBlock∧some k_≠(.slice Ao37 t572.length co37:Value).ownBlock) (.slice Ao33 t568.length co33) t568):=⟨by (with_reducible repeat (first | apply Kd.R_alloc | apply Kd.R_drewN | apply Kd.R_drew));exact Kd.R_mono (rf2_ (Kd.R_far (p:=⟨gb577,1,none⟩) (Kd.R_far (p:=⟨gb577,0,none⟩) (Kd.R_types (Kd.R_types HO570.out BK577.out (by decide)) BK578.out (by decide)) (fun _ hk=>hk.1.2) (.int .i64 t567)) (fun _ hk=>hk.1.2) (.slice Ao33 t568.length co33)) (fun _ hk=>hk.2)) (fun _ hk=>⟨hk.1.1.1.2,⟨hk.1.1.2,hk.1.1.1.1⟩⟩)⟩
      have n3_:Aside0 (Kd.R k77 77 ((((w28.setCell ⟨gb577,0,none⟩ (.int .i64 t567)).setCell ⟨gb577,1,none⟩ (.slice Ao33 t568.length co33)).setCell ⟨gb578,0,none⟩ (.int .i64 t571)).setCell ⟨gb578,1,none⟩ (.slice Ao37 t572.length co37)) w.heap.size (fun k_=>some k_≠(.slice Ao20 t557.length co20:Value).ownBlock∧some k_≠(.slice Ao25 t562.length co25:Value).ownBlock∧some k_≠(.slice Ao33 t568.length co33:Value).ownBlock) (.slice Ao37 t572.length co37) t572):=⟨by (with_reducible repeat (first | apply Kd.R_alloc | apply Kd.R_drewN | apply Kd.R_drew));exact Kd.R_mono (rf2_ (Kd.R_far (p:=⟨gb577,1,none⟩) (Kd.R_far (p:=⟨gb577,0,none⟩) (Kd.R_types (Kd.R_types HO574.out BK577.out (by decide)) BK578.out (by decide)) (fun _ hk=>hk.1.2) (.int .i64 t567)) (fun _ hk=>hk.1.2) (.slice Ao33 t568.length co33)) (fun _ hk=>hk.2)) (fun _ hk=>⟨hk.1.1.1.2,⟨hk.1.1.2,hk.1.1.1.1⟩⟩)⟩
      have n4_:Aside0 (((((w28.setCell ⟨gb577,0,none⟩ (.int .i64 t567)).setCell ⟨gb577,1,none⟩ (.slice Ao33 t568.length co33)).setCell ⟨gb578,0,none⟩ (.int .i64 t571)).setCell ⟨gb578,1,none⟩ (.slice Ao37 t572.length co37)).heap[gb560]? = some (.cells #[.int .i64 t556,.slice Ao20 t557.length co20] 24 (0,0))):=⟨by (with_reducible repeat (first | refine blk_drewN ?_ _ | refine blk_drew ?_ | refine blk_alloc ?_ _));refine blk_far ?_ NB560_578.out _;(with_reducible repeat (first | refine blk_drewN ?_ _ | refine blk_drew ?_ | refine blk_alloc ?_ _));refine blk_far ?_ NB560_578.out _;(with_reducible repeat (first | refine blk_drewN ?_ _ | refine blk_drew ?_ | refine blk_alloc ?_ _));refine blk_far ?_ NB560_577.out _;(with_reducible repeat (first | refine blk_drewN ?_ _ | refine blk_drew ?_ | refine blk_alloc ?_ _));refine blk_far ?_ NB560_577.out _;(with_reducible repeat (first | refine blk_drewN ?_ _ | refine blk_drew ?_ | refine blk_alloc ?_ _));exact BK560.out⟩
      have n5_:Aside0 (((((w28.setCell ⟨gb577,0,none⟩ (.int .i64 t567)).setCell ⟨gb577,1,none⟩ (.slice Ao33 t568.length co33)).setCell ⟨gb578,0,none⟩ (.int .i64 t571)).setCell ⟨gb578,1,none⟩ (.slice Ao37 t572.length co37)).heap[gb566]? = some (.cells #[.int .i64 t561,.slice Ao25 t562.length co25,.int .i64 t565] 26 (0,0))):=⟨by (with_reducible repeat (first | refine blk_drewN ?_ _ | refine blk_drew ?_ | refine blk_alloc ?_ _));refine blk_far ?_ NB566_578.out _;(with_reducible repeat (first | refine blk_drewN ?_ _ | refine blk_drew ?_ | refine blk_alloc ?_ _));refine blk_far ?_ NB566_578.out _;(with_reducible repeat (first | refine blk_drewN ?_ _ | refine blk_drew ?_ | refine blk_alloc ?_ _));refine blk_far ?_ NB566_577.out _;(with_reducible repeat (first | refine blk_drewN ?_ _ | refine blk_drew ?_ | refine blk_alloc ?_ _));refine blk_far ?_ NB566_577.out _;(with_reducible repeat (first | refine blk_drewN ?_ _ | refine blk_drew ?_ | refine blk_alloc ?_ _));exact BK566.out⟩
      have n6_:Aside0 (((((w28.setCell ⟨gb577,0,none⟩ (.int .i64 t567)).setCell ⟨gb577,1,none⟩ (.slice Ao33 t568.length co33)).setCell ⟨gb578,0,none⟩ (.int .i64 t571)).setCell ⟨gb578,1,none⟩ (.slice Ao37 t572.length co37)).heap[gb577]? = some (.cells #[.int .i64 t567,.slice Ao33 t568.length co33] 24 (0,0))):=⟨by (with_reducible repeat (first | refine blk_drewN ?_ _ | refine blk_drew ?_ | refine blk_alloc ?_ _));refine blk_far ?_ NB577_578.out _;(with_reducible repeat (first | refine blk_drewN ?_ _ | refine blk_drew ?_ | refine blk_alloc ?_ _));refine blk_far ?_ NB577_578.out _;(with_reducible repeat (first | refine blk_drewN ?_ _ | refine blk_drew ?_ | refine blk_alloc ?_ _));apply put2_;(with_reducible repeat (first | refine blk_drewN ?_ _ | refine blk_drew ?_ | refine blk_alloc ?_ _));exact BK577.out⟩
      have n7_:Aside0 (((((w28.setCell ⟨gb577,0,none⟩ (.int .i64 t567)).setCell ⟨gb577,1,none⟩ (.slice Ao33 t568.length co33)).setCell ⟨gb578,0,none⟩ (.int .i64 t571)).setCell ⟨gb578,1,none⟩ (.slice Ao37 t572.length co37)).heap[gb578]? = some (.cells #[.int .i64 t571,.slice Ao37 t572.length co37] 24 (0,0))):=⟨by (with_reducible repeat (first | refine blk_drewN ?_ _ | refine blk_drew ?_ | refine blk_alloc ?_ _));apply put2_;(with_reducible repeat (first | refine blk_drewN ?_ _ | refine blk_drew ?_ | refine blk_alloc ?_ _));refine blk_far ?_ NB578_577.out _;(with_reducible repeat (first | refine blk_drewN ?_ _ | refine blk_drew ?_ | refine blk_alloc ?_ _));refine blk_far ?_ NB578_577.out _;(with_reducible repeat (first | refine blk_drewN ?_ _ | refine blk_drew ?_ | refine blk_alloc ?_ _));exact BK578.out⟩
      have n8_:Aside0 (Below w.heap.size w ((((w28.setCell ⟨gb577,0,none⟩ (.int .i64 t567)).setCell ⟨gb577,1,none⟩ (.slice Ao33 t568.length co33)).setCell ⟨gb578,0,none⟩ (.int .i64 t571)).setCell ⟨gb578,1,none⟩ (.slice Ao37 t572.length co37))):=⟨z14_ HB.out GE560.out GE566.out GE577.out GE578.out⟩
      (try clear HO559)
      (try clear HO564)
      (try clear HO570)
      (try clear HO574)
      (try clear BK560)
      (try clear BK566)
      (try clear BK577)
      (try clear BK578)
      (try clear HB)
      generalize ((((w28.setCell ⟨gb577,0,none⟩ (.int .i64 t567)).setCell ⟨gb577,1,none⟩ (.slice Ao33 t568.length co33)).setCell ⟨gb578,0,none⟩ (.int .i64 t571)).setCell ⟨gb578,1,none⟩ (.slice Ao37 t572.length co37))=w38 at n0_ n1_ n2_ n3_ n4_ n5_ n6_ n7_ n8_ ⊢
      have HO559:=n0_
      have HO564:=n1_
      have HO570:=n2_
      have HO574:=n3_
      have BK560:=n4_
      have BK566:=n5_
      have BK577:=n6_
      have BK578:=n7_
      have HB:=n8_
      clear n0_ n1_ n2_ n3_ n4_ n5_ n6_ n7_ n8_
      have n0_:=aM (Kd.R_drew HO559.out)
      have n1_:=aM (Kd.R_drew HO564.out)
      have n2_:=aM (Kd.R_drew HO570.out)
      have n3_:=aM (Kd.R_drew HO574.out)
      have n4_:=aM (blk_drew BK560.out)
      have n5_:=aM (blk_drew BK566.out)
      have n6_:=aM (blk_drew BK577.out)
      have n7_:=aM (blk_drew BK578.out)
      have n8_:=aM (below_drew1 HB.out)
      clear HO559
      clear HO564
      clear HO570
      clear HO574
      clear BK560
      clear BK566
      clear BK577
      clear BK578
      clear HB
      have HO559:=n0_
      have HO564:=n1_
      have HO570:=n2_
      have HO574:=n3_
      have BK560:=n4_
      have BK566:=n5_
      have BK577:=n6_
      have BK578:=n7_
      have HB:=n8_
      clear n0_ n1_ n2_ n3_ n4_ n5_ n6_ n7_ n8_
      refine start_ (n:=19) (S:=fun w'=>w'.cell? ⟨gb566,0,none⟩=some (.int .i64 t561)∧w'.cell? ⟨gb566,1,none⟩=some (.slice Ao25 t562.length co25)∧w'.cell? ⟨gb566,2,none⟩=some (.int .i64 t565)∧w'.cell? ⟨gb560,0,none⟩=some (.int .i64 t556)∧w'.cell? ⟨gb560,1,none⟩=some (.slice Ao20 t557.length co20)∧w'.cell? ⟨gb577,0,none⟩=some (.int .i64 t567)∧w'.cell? ⟨gb577,1,none⟩=some (.slice Ao33 t568.length co33)∧w'.cell? ⟨gb578,0,none⟩=some (.int .i64 t571)∧w'.cell? ⟨gb578,1,none⟩=some (.slice Ao37 t572.length co37)) (ds:=[]) #[O,O,O,O,O,O,O,O,O,O,O,O,O,O,O,O,O,O,O] (by kernel_rfl) rfl rfl (cj3_ BK566.out (cj2_ BK560.out (cj2_ BK577.out (cc2_ BK578.out)))) (fun hHeld=>?_);refine with_tabW Y9.tab6 Y9.bits6 (fun HT_ HW_=>?_)
      generalize w38.drew=w39 at HO559 HO564 HO570 HO574 BK560 BK566 BK577 BK578 HB hHeld ⊢
      refine tk9_ 0 35 #[I,O,O,O,O,O,O,O,O,O,O,O,O,O,O,O,O,O,O] HT_.out HW_.out hHeld ?_
      refine tk9_ 1 36 #[I,I,O,O,O,O,O,O,O,O,O,O,O,O,O,O,O,O,O] HT_.out HW_.out hHeld ?_
      refine o1_ 2 37 #[I,I,I,O,O,O,O,O,O,O,O,O,O,O,O,O,O,O,O] HT_.out (fun K hK=>?_)
      refine gs_ Tryd.func17 #[.agg #[.int .i64 t556,.slice Ao20 t557.length co20]] ?_
      with_reducible refine (Y37.calls kj2 t556 _ _ t557 t579 t580 t583 _ ?s1 ?s2 A9.out).mono ?_
      (case s1=>repeat (first | exact (Kd.R_reads' HO559.out).2.2 | (with_reducible refine Kd.C_alloc ?_ _) | (with_reducible refine Kd.C_drewN ?_ _) | (with_reducible refine Kd.C_drew ?_)))
      (case s2=>exact (Kd.R_reads' HO559.out).2.1)
      rintro e w40 ⟨v581,rfl,ho0,hb⟩
      refine ⟨_,rfl,?_⟩
      have n0_:=aM (Kd.R_elder' (z1_ HO559.out) (Kd.R_base ho0) hb)
      have n1_:=aM (Kd.R_elder' (z1_ HO564.out) (Kd.R_base ho0) hb)
      have n2_:=aM (Kd.R_elder' (z1_ HO570.out) (Kd.R_base ho0) hb)
      have n3_:=aM (Kd.R_elder' (z1_ HO574.out) (Kd.R_base ho0) hb)
      have n4_:=aM (Kd.R_lower (Kd.R_new' (Kd.R_new' (Kd.R_new' (Kd.R_new' ho0 (Kd.R_lt (z1_ HO559.out))) (Kd.R_lt (z1_ HO564.out))) (Kd.R_lt (z1_ HO570.out))) (Kd.R_lt (z1_ HO574.out))) (below_size (z14_ HB.out GE560.out GE566.out GE577.out GE578.out)))
      have n5_:=aM (blkB_ BK560.out hb)
      have n6_:=aM (blkB_ BK566.out hb)
      have n7_:=aM (blkB_ BK577.out hb)
      have n8_:=aM (blkB_ BK578.out hb)
      have n9_:=aM (below_step (z14_ HB.out GE560.out GE566.out GE577.out GE578.out) hb)
      clear HO559
      clear HO564
      clear HO570
      clear HO574
      clear BK560
      clear BK566
      clear BK577
      clear BK578
      clear HB
      have HO559:=n0_
      have HO564:=n1_
      have HO570:=n2_
      have HO574:=n3_
      have HO582:=n4_
      have BK560:=n5_
      have BK566:=n6_
      have BK577:=n7_
      have BK578:=n8_
      have HB:=n9_
      clear n0_ n1_ n2_ n3_ n4_ n5_ n6_ n7_ n8_ n9_
      (try clear hb)
      (try clear ho0)
      obtain ⟨Ao41,co41,eo41⟩:=Kd.R_slice HO582.out
      (first | subst eo41 | (injection eo41 with f1_ f2_ f3_;have f4_:=f1_.symm;have f5_:=f3_.symm;clear f1_ f2_ f3_;subst f4_;subst f5_))
      refine hK.out _ _ (cj3_ BK566.out (cj2_ BK560.out (cj2_ BK577.out (cc2_ BK578.out)))) (fun hHeld=>?_)
      clear hK K
      refine nm_ 37 ?_
      refine o1_ 3 38 #[I,I,I,I,O,O,O,O,O,O,O,O,O,O,O,O,O,O,O] HT_.out (fun K hK=>?_)
      refine gs_ Tryd.func16 #[.agg #[.int .i64 t561,.slice Ao25 t562.length co25,.int .i64 t565],.agg #[.int .i64 t579,.slice Ao41 t580.length co41,.int .i64 t583]] ?_
      with_reducible refine (Y40.calls kj2 t561 _ _ t562 t565 t579 _ _ t580 t583 true _ ?s1 ?s2 ?s3 ?s4 A10.out).mono ?_
      (case s1=>repeat (first | exact (Kd.R_reads' HO564.out).2.2 | (with_reducible refine Kd.C_alloc ?_ _) | (with_reducible refine Kd.C_drewN ?_ _) | (with_reducible refine Kd.C_drew ?_)))
      (case s2=>exact (Kd.R_reads' HO564.out).2.1)
      (case s3=>repeat (first | exact (Kd.R_reads' HO582.out).2.2 | (with_reducible refine Kd.C_alloc ?_ _) | (with_reducible refine Kd.C_drewN ?_ _) | (with_reducible refine Kd.C_drew ?_)))
      (case s4=>exact (Kd.R_reads' HO582.out).2.1)
      rintro e w42 ⟨rfl,hb⟩
      refine ⟨_,rfl,?_⟩
      have n0_:=aM (Kd.R_below (z1_ HO559.out) hb)
      have n1_:=aM (Kd.R_below (z1_ HO564.out) hb)
      have n2_:=aM (Kd.R_below (z1_ HO570.out) hb)
      have n3_:=aM (Kd.R_below (z1_ HO574.out) hb)
      have n4_:=aM (Kd.R_below (z1_ HO582.out) hb)
      have n5_:=aM (blkB_ BK560.out hb)
      have n6_:=aM (blkB_ BK566.out hb)
      have n7_:=aM (blkB_ BK577.out hb)
      have n8_:=aM (blkB_ BK578.out hb)
      have n9_:=aM (below_step (z14_ HB.out GE560.out GE566.out GE577.out GE578.out) hb)
      clear HO559
      clear HO564
      clear HO570
      clear HO574
      clear HO582
      clear BK560
      clear BK566
      clear BK577
      clear BK578
      clear HB
      have HO559:=n0_
      have HO564:=n1_
      have HO570:=n2_
      have HO574:=n3_
      have HO582:=n4_
      have BK560:=n5_
      have BK566:=n6_
      have BK577:=n7_
      have BK578:=n8_
      have HB:=n9_
      clear n0_ n1_ n2_ n3_ n4_ n5_ n6_ n7_ n8_ n9_
      (try clear hb)
      refine hK.out _ _ (cj3_ BK566.out (cj2_ BK560.out (cj2_ BK577.out (cc2_ BK578.out)))) (fun hHeld=>?_)
      clear hK K
      refine nm_ 38 ?_
      refine pu_ 4 39 #[I,I,I,I,I,O,O,O,O,O,O,O,O,O,O,O,O,O,O] HT_.out ?_
      refine pu_ 5 40 #[I,I,I,I,I,I,O,O,O,O,O,O,O,O,O,O,O,O,O] HT_.out ?_
      refine pu_ 8 43 #[I,I,I,I,I,I,O,O,I,O,O,O,O,O,O,O,O,O,O] HT_.out ?_
      refine pu_ 9 44 #[I,I,I,I,I,I,O,O,I,I,O,O,O,O,O,O,O,O,O] HT_.out ?_
      refine pu_ 13 48 #[I,I,I,I,I,I,O,O,I,I,O,O,O,I,O,O,O,O,O] HT_.out ?_
      refine pu_ 14 49 #[I,I,I,I,I,I,O,O,I,I,O,O,O,I,I,O,O,O,O] HT_.out ?_
      refine tk9_ 6 41 #[I,I,I,I,I,I,I,O,I,I,O,O,O,I,I,O,O,O,O] HT_.out HW_.out hHeld ?_
      refine tk9_ 7 42 #[I,I,I,I,I,I,I,I,I,I,O,O,O,I,I,O,O,O,O] HT_.out HW_.out hHeld ?_
      refine tk9_ 11 46 #[I,I,I,I,I,I,I,I,I,I,O,I,O,I,I,O,O,O,O] HT_.out HW_.out hHeld ?_
      refine tk9_ 12 47 #[I,I,I,I,I,I,I,I,I,I,O,I,I,I,I,O,O,O,O] HT_.out HW_.out hHeld ?_
      refine o1_ 10 45 #[I,I,I,I,I,I,I,I,I,I,I,I,I,I,I,O,O,O,O] HT_.out (fun K hK=>?_)
      refine gs_ Tryd.func19 #[.agg #[.int .i64 t567,.slice Ao33 t568.length co33],.agg #[.int .i64 t571,.slice Ao37 t572.length co37],.string t575,.int .i64 t576] ?_
      with_reducible refine (Y23.calls kj2 t567 _ _ t568 t571 _ _ t572 t575 t576 t585 _ ?s1 ?s2 ?s3 ?s4 A12.out).mono ?_
      (case s1=>repeat (first | exact (Kd.R_reads' HO570.out).2.2 | (with_reducible refine Kd.C_alloc ?_ _) | (with_reducible refine Kd.C_drewN ?_ _) | (with_reducible refine Kd.C_drew ?_)))
      (case s2=>exact (Kd.R_reads' HO570.out).2.1)
      (case s3=>repeat (first | exact (Kd.R_reads' HO574.out).2.2 | (with_reducible refine Kd.C_alloc ?_ _) | (with_reducible refine Kd.C_drewN ?_ _) | (with_reducible refine Kd.C_drew ?_)))
      (case s4=>exact (Kd.R_reads' HO574.out).2.1)
      rintro e w43 ⟨v586,rfl,ho0,hb⟩
      refine ⟨_,rfl,?_⟩
      have n0_:=aM (Kd.R_below (z1_ HO559.out) hb)
      have n1_:=aM (Kd.R_below (z1_ HO564.out) hb)
      have n2_:=aM (Kd.R_below (z1_ HO570.out) hb)
      have n3_:=aM (Kd.R_below (z1_ HO574.out) hb)
      have n4_:=aM (Kd.R_below (z1_ HO582.out) hb)
      have n5_:=aM (Kd.R_lower ho0 (below_size (z14_ HB.out GE560.out GE566.out GE577.out GE578.out)))
      have n6_:=aM (blkB_ BK560.out hb)
      have n7_:=aM (blkB_ BK566.out hb)
      have n8_:=aM (blkB_ BK577.out hb)
      have n9_:=aM (blkB_ BK578.out hb)
      have n10_:=aM (below_step (z14_ HB.out GE560.out GE566.out GE577.out GE578.out) hb)
      clear HO559
      clear HO564
      clear HO570
      clear HO574
      clear HO582
      clear BK560
      clear BK566
      clear BK577
      clear BK578
      clear HB
      have HO559:=n0_
      have HO564:=n1_
      have HO570:=n2_
      have HO574:=n3_
      have HO582:=n4_
      have HO587:=n5_
      have BK560:=n6_
      have BK566:=n7_
      have BK577:=n8_
      have BK578:=n9_
      have HB:=n10_
      clear n0_ n1_ n2_ n3_ n4_ n5_ n6_ n7_ n8_ n9_ n10_
      (try clear hb)
      (try clear ho0)
      refine hK.out _ _ (cj3_ BK566.out (cj2_ BK560.out (cj2_ BK577.out (cc2_ BK578.out)))) (fun hHeld=>?_)
      clear hK K
      refine nm_ 45 ?_
      refine o1_ 15 50 #[I,I,I,I,I,I,I,I,I,I,I,I,I,I,I,I,O,O,O] HT_.out (fun K hK=>?_)
      refine gs_ Tryd.func20 #[.agg #[.int .i64 t567,.slice Ao33 t568.length co33],.agg #[.int .i64 t571,.slice Ao37 t572.length co37],.string t575,.int .i64 t576] ?_
      with_reducible refine (Y12.calls kj2 t567 _ _ t568 t571 _ _ t572 t575 t576 t588 _ ?s1 ?s2 ?s3 ?s4 A13.out).mono ?_
      (case s1=>repeat (first | exact (Kd.R_reads' HO570.out).2.2 | (with_reducible refine Kd.C_alloc ?_ _) | (with_reducible refine Kd.C_drewN ?_ _) | (with_reducible refine Kd.C_drew ?_)))
      (case s2=>exact (Kd.R_reads' HO570.out).2.1)
      (case s3=>repeat (first | exact (Kd.R_reads' HO574.out).2.2 | (with_reducible refine Kd.C_alloc ?_ _) | (with_reducible refine Kd.C_drewN ?_ _) | (with_reducible refine Kd.C_drew ?_)))
      (case s4=>exact (Kd.R_reads' HO574.out).2.1)
      rintro e w44 ⟨v589,rfl,ho0,hb⟩
      refine ⟨_,rfl,?_⟩
      have n0_:=aM (Kd.R_below (z1_ HO559.out) hb)
      have n1_:=aM (Kd.R_below (z1_ HO564.out) hb)
      have n2_:=aM (Kd.R_below (z1_ HO570.out) hb)
      have n3_:=aM (Kd.R_below (z1_ HO574.out) hb)
      have n4_:=aM (Kd.R_below (z1_ HO582.out) hb)
      have n5_:=aM (Kd.R_elder' (z1_ HO587.out) (Kd.R_base ho0) hb)
      have n6_:=aM (Kd.R_lower (Kd.R_new' ho0 (Kd.R_lt (z1_ HO587.out))) (below_size (z14_ HB.out GE560.out GE566.out GE577.out GE578.out)))
      have n7_:=aM (blkB_ BK560.out hb)
      have n8_:=aM (blkB_ BK566.out hb)
      have n9_:=aM (blkB_ BK577.out hb)
      have n10_:=aM (blkB_ BK578.out hb)
      have n11_:=aM (below_step (z14_ HB.out GE560.out GE566.out GE577.out GE578.out) hb)
      clear HO559
      clear HO564
      clear HO570
      clear HO574
      clear HO582
      clear HO587
      clear BK560
      clear BK566
      clear BK577
      clear BK578
      clear HB
      have HO559:=n0_
      have HO564:=n1_
      have HO570:=n2_
      have HO574:=n3_
      have HO582:=n4_
      have HO587:=n5_
      have HO590:=n6_
      have BK560:=n7_
      have BK566:=n8_
      have BK577:=n9_
      have BK578:=n10_
      have HB:=n11_
      clear n0_ n1_ n2_ n3_ n4_ n5_ n6_ n7_ n8_ n9_ n10_ n11_
      (try clear hb)
      (try clear ho0)
      obtain ⟨Ao45,co45,eo45⟩:=Kd.R_slice HO587.out
      (first | subst eo45 | (injection eo45 with f1_ f2_ f3_;have f4_:=f1_.symm;have f5_:=f3_.symm;clear f1_ f2_ f3_;subst f4_;subst f5_))
      obtain ⟨Ao46,co46,eo46⟩:=Kd.R_slice HO590.out
      (first | subst eo46 | (injection eo46 with f1_ f2_ f3_;have f4_:=f1_.symm;have f5_:=f3_.symm;clear f1_ f2_ f3_;subst f4_;subst f5_))
      refine hK.out _ _ (cj3_ BK566.out (cj2_ BK560.out (cj2_ BK577.out (cc2_ BK578.out)))) (fun hHeld=>?_)
      clear hK K
      refine nm_ 50 ?_
      refine o1_ 16 51 #[I,I,I,I,I,I,I,I,I,I,I,I,I,I,I,I,I,O,O] HT_.out (fun K hK=>?_)
      refine gs_ Tryd.func18 #[.slice Ao45 t585.length co45,.slice Ao46 t588.length co46] ?_
      with_reducible refine (Y36.calls kj2 _ _ t585 _ _ t588 true _ ?s1 ?s2 ?s3 ?s4 A14.out).mono ?_
      (case s1=>repeat (first | exact (Kd.R_reads' HO587.out).2.2 | (with_reducible refine Kd.C_alloc ?_ _) | (with_reducible refine Kd.C_drewN ?_ _) | (with_reducible refine Kd.C_drew ?_)))
      (case s2=>exact (Kd.R_reads' HO587.out).2.1)
      (case s3=>repeat (first | exact (Kd.R_reads' HO590.out).2.2 | (with_reducible refine Kd.C_alloc ?_ _) | (with_reducible refine Kd.C_drewN ?_ _) | (with_reducible refine Kd.C_drew ?_)))
      (case s4=>exact (Kd.R_reads' HO590.out).2.1)
      rintro e w' ⟨rfl,⟨nd,rfl⟩⟩
      refine ⟨_,rfl,?_⟩
      refine hK.out _ _ (cj3_ BK566.out (cj2_ BK560.out (cj2_ BK577.out (cc2_ BK578.out)))) (fun hHeld=>?_)
      clear hK K
      refine nm_ 51 ?_
      refine pu_ 17 52 #[I,I,I,I,I,I,I,I,I,I,I,I,I,I,I,I,I,I,O] HT_.out ?_
      refine pu_ 18 53 #[I,I,I,I,I,I,I,I,I,I,I,I,I,I,I,I,I,I,I] HT_.out ?_
      refine done_ (done_of HT_.out (by kernel_rfl)) ?_
      go_upto_region 8 with (fail)
      go_cut [61] (fun v61 wc=>∃ (kq:Nat) (x61_15:Bool),v61 = .bool x61_15∧Aside0 (Y9.j1 kq t575 x61_15 t556 t557 t561 t562 t565=some r)∧Aside0 (kq≤kj2)∧Aside0 (Kd.R k77 77 wc w.heap.size (fun k_=>some k_≠((.slice Ao25 t562.length co25):Value).ownBlock∧some k_≠((.slice Ao33 t568.length co33):Value).ownBlock∧some k_≠((.slice Ao37 t572.length co37):Value).ownBlock) (.slice Ao20 t557.length co20) t557)∧Aside0 (Kd.R k77 77 wc w.heap.size (fun k_=>some k_≠((.slice Ao20 t557.length co20):Value).ownBlock∧some k_≠((.slice Ao33 t568.length co33):Value).ownBlock∧some k_≠((.slice Ao37 t572.length co37):Value).ownBlock) (.slice Ao25 t562.length co25) t562)∧Aside0 (Kd.R k77 77 wc w.heap.size (fun k_=>some k_≠((.slice Ao20 t557.length co20):Value).ownBlock∧some k_≠((.slice Ao25 t562.length co25):Value).ownBlock∧some k_≠((.slice Ao37 t572.length co37):Value).ownBlock) (.slice Ao33 t568.length co33) t568)∧Aside0 (Kd.R k77 77 wc w.heap.size (fun k_=>some k_≠((.slice Ao20 t557.length co20):Value).ownBlock∧some k_≠((.slice Ao25 t562.length co25):Value).ownBlock∧some k_≠((.slice Ao33 t568.length co33):Value).ownBlock) (.slice Ao37 t572.length co37) t572)∧Aside0 (wc.heap[gb560]? = some (.cells #[.int .i64 t556,(.slice Ao20 t557.length co20)] 24 (0,0)))∧Aside0 (wc.heap[gb566]? = some (.cells #[.int .i64 t561,(.slice Ao25 t562.length co25),.int .i64 t565] 26 (0,0)))∧Aside0 (wc.heap[gb577]? = some (.cells #[.int .i64 t567,(.slice Ao33 t568.length co33)] 24 (0,0)))∧Aside0 (wc.heap[gb578]? = some (.cells #[.int .i64 t571,(.slice Ao37 t572.length co37)] 24 (0,0)))∧Aside0 (Below w.heap.size w wc))
      case first=>as_aux_lemma =>
       have H:=HC16.out
       clear HC16
       by_cases c47:t565=0
       ·rw [if_pos c47] at H
        have c47b0:(t565 == 0)=true:=beq_iff_eq.mpr c47
        have c47b1:(t565 != 0)=false:=bne_eq_false_iff_eq.mpr c47
        clear c47
        (first | rw [c47b0] | (simp only [i64_w,i32_w];rw [c47b0]) | skip)
        replace H:=bS H
        obtain ⟨t592,A480,H⟩:=H
        replace H:(Y9.j1 kj2 t575 (!t592) t556 t557 t561 t562 t565)=some r:=H
        have A48:=aM A480
        clear A480
        have H':=aM H
        clear H
        have hnb49:=NB566_560.out
        have hnc49:=NB560_566.out
        have hnb50:=NB566_577.out
        have hnc50:=NB577_566.out
        have hnb51:=NB566_578.out
        have hnc51:=NB578_566.out
        have ⟨hcz52_0,hcz52_1,hcz52_2,hfz52_0,hfz52_1,hfz52_2⟩:=cz3_ BK566.out
        go_wp2_with (first | (go_at_call 21;(with_reducible refine (Y15.calls kj2 t575 t592 _ A48.out).mono ?_);rintro e w' ⟨rfl,⟨nd,rfl⟩⟩))
        go_meet
        case rel=>exact ⟨_,(!t592),(z2_),H',⟨z22_ HJ2.out⟩,⟨z32_ HO559.out⟩,⟨z32_ HO564.out⟩,⟨z32_ HO570.out⟩,⟨z32_ HO574.out⟩,⟨z3_ BK560.out⟩,⟨z3_ BK566.out⟩,⟨z3_ BK577.out⟩,⟨z3_ BK578.out⟩,⟨z14_ HB.out GE560.out GE566.out GE577.out GE578.out⟩⟩
       ·rw [if_neg c47] at H
        have c47b0:(t565 == 0)=false:=beq_eq_false_iff_ne.mpr c47
        have c47b1:(t565 != 0)=true:=bne_iff_ne.mpr c47
        (first | rw [c47b0] | (simp only [i64_w,i32_w];rw [c47b0]) | skip)
        have H':=aM H
        clear H
        have hnb53:=NB566_560.out
        have hnc53:=NB560_566.out
        have hnb54:=NB566_577.out
        have hnc54:=NB577_566.out
        have hnb55:=NB566_578.out
        have hnc55:=NB578_566.out
        have ⟨hcz56_0,hcz56_1,hcz56_2,hfz56_0,hfz56_1,hfz56_2⟩:=cz3_ BK566.out
        go_wp2
        go_meet
        case rel=>exact ⟨_,(true),(z2_),H',⟨z22_ HJ2.out⟩,⟨z32_ HO559.out⟩,⟨z32_ HO564.out⟩,⟨z32_ HO570.out⟩,⟨z32_ HO574.out⟩,⟨z3_ BK560.out⟩,⟨z3_ BK566.out⟩,⟨z3_ BK577.out⟩,⟨z3_ BK578.out⟩,⟨z14_ HB.out GE560.out GE566.out GE577.out GE578.out⟩⟩
      case rest=>as_aux_lemma =>
       clear HC16
       try clear c1
       try clear c2
       try clear p2
       try clear c3
       try clear c4
       try clear c4b0
       try clear c4b1
       try clear c5
       try clear c11
       try clear c13
       try clear c14
       try clear c15
       try clear c16
       try clear c17
       try clear c18
       try clear c19
       try clear c20
       try clear c23
       try clear c29
       try clear c30
       try clear c31
       try clear c34
       try clear c35
       try clear c47
       try clear c47b0
       try clear c47b1
       try clear c49
       try clear c50
       try clear c51
       try clear c53
       try clear c54
       try clear c55
       try clear hcz19_0
       try clear hcz19_1
       try clear hcz24_0
       try clear hcz24_1
       try clear hcz24_2
       try clear hcz32_0
       try clear hcz32_1
       try clear hcz36_0
       try clear hcz36_1
       try clear hcz52_0
       try clear hcz52_1
       try clear hcz52_2
       try clear hcz56_0
       try clear hcz56_1
       try clear hcz56_2
       try clear hfz19_0
       try clear hfz19_1
       try clear hfz24_0
       try clear hfz24_1
       try clear hfz24_2
       try clear hfz32_0
       try clear hfz32_1
       try clear hfz36_0
       try clear hfz36_1
       try clear hfz52_0
       try clear hfz52_1
       try clear hfz52_2
       try clear hfz56_0
       try clear hfz56_1
       try clear hfz56_2
       try clear p2
       obtain ⟨kq,x61_15,rfl,HA,HJ15,HO_561001,HO_567001,HO_578001,HO_579001,BK560,BK566,BK577,BK578,HB⟩:=hcut
       cases kq with
       | zero=>exact absurd HA.out (by simp [Y9.j1])
       | succ kj15 =>
        have H:=HA.out
        clear HA
        simp only [Y9.j1] at H
        by_cases c57:x61_15=true
        ·subst c57
         have H1:(some true)=some r:=by rw [if_pos rfl] at H;exact H
         clear H
         have H:=H1
         clear H1
         obtain rfl:=sI H
         go_wp2
         go_ret
         exact ⟨z9_,z14_ HB.out GE560.out GE566.out GE577.out GE578.out⟩
        ·replace c57:=Bool.eq_false_iff.mpr c57
         subst c57
         have H1:((Y72.f kj15 t561 t562 t575).bind fun t596=>(Y9.l0 kj15 t575 (([]:List Int)) t596 0 t556 t557 t561 t562 t565))=some r:=by rw [if_neg (show ¬ (false=true) by decide)] at H;exact H
         clear H
         have H:=H1
         clear H1
         obtain ⟨y593,hy593⟩:∃ y_:List Int,y_=(([]:List Int)):=⟨_,rfl⟩
         replace H:((Y72.f kj15 t561 t562 t575).bind fun t596=>(Y9.l0 kj15 t575 y593 t596 0 t556 t557 t561 t562 t565))=some r:=by first | (rw [hy593];with_reducible exact H) | (have H2_:=(Option.bind_some _ _).symm.trans H;rw [hy593];with_reducible exact H2_) | (have H2_:=(Option.bind_some _ _).symm.trans H;with_reducible exact H2_) | with_reducible exact H | (rw [hy593];exact H) | exact H
         have Ny593:=aM hy593
         clear hy593
         replace H:=bS H
         obtain ⟨t596,A580,H⟩:=H
         replace H:(Y9.l0 kj15 t575 y593 t596 0 t556 t557 t561 t562 t565)=some r:=H
         have A58:=aM A580
         clear A580
         have H':=aM H
         clear H
         go_wp2_with (first | ((with_reducible refine gd_ 62 ?_);(try (refine gate_guard (by rfl) ?_;dsimp only));refine Kd.R_lit (Kd.int .i64) _ 2 ?hg (N:=62) ?hd (xs:=([]:List Int)) (inner:=[]) (ok:=fun _=>True) (okp:=fun _=>True) ?hr ?hp (fun _ hk=>hk) trivial (Below.refl _ _) (Nat.le_refl _) (by simp) ?_;(case hd=>rfl);(case hg=>rfl);(case hr=>first | (go_simp;done) | (go_simp;rfl));(case hp=>exact (Reps.none _ _));intro v594 w59 ho60 hb hg_ hnew_;clear hg_ hnew_;(first | rw [← Ny593.out] at ho60 | (simp only [Int.reduceToNat] at ho60;rw [← Ny593.out] at ho60));have n0_:=aM (Kd.R_below (z1_ HO_561001.out) hb);have n1_:=aM (Kd.R_below (z1_ HO_567001.out) hb);have n2_:=aM (Kd.R_below (z1_ HO_578001.out) hb);have n3_:=aM (Kd.R_below (z1_ HO_579001.out) hb);have n4_:=aM (Kd.R_lower ho60 (below_size (z14_ HB.out GE560.out GE566.out GE577.out GE578.out)));have n5_:=aM (blkB_ BK560.out hb);have n6_:=aM (blkB_ BK566.out hb);have n7_:=aM (blkB_ BK577.out hb);have n8_:=aM (blkB_ BK578.out hb);have n9_:=aM (below_step (z14_ HB.out GE560.out GE566.out GE577.out GE578.out) hb);clear HO_561001;clear HO_567001;clear HO_578001;clear HO_579001;clear BK560;clear BK566;clear BK577;clear BK578;clear HB;have HO_561001:=n0_;have HO_567001:=n1_;have HO_578001:=n2_;have HO_579001:=n3_;have HO595:=n4_;have BK560:=n5_;have BK566:=n6_;have BK577:=n7_;have BK578:=n8_;have HB:=n9_;clear n0_ n1_ n2_ n3_ n4_ n5_ n6_ n7_ n8_ n9_;clear hb ho60;have hnb61:=NB566_560.out;have hnc61:=NB560_566.out;have hnb62:=NB566_577.out;have hnc62:=NB577_566.out;have hnb63:=NB566_578.out;have hnc63:=NB578_566.out;have ⟨hcz64_0,hcz64_1,hcz64_2,hfz64_0,hfz64_1,hfz64_2⟩:=cz3_ BK566.out) | ((with_reducible refine gc_ 22 ?_);refine gl_ (some 66) Tryd.func22 #[.agg #[.int .i64 t561,.slice Ao25 t562.length co25],.string t575] ?_;(with_reducible refine (Y72.calls kj15 t561 _ _ t562 t575 t596 _ ?s1 ?s2 A58.out).mono ?_);(case s1=>repeat (first | exact (Kd.R_reads' HO_567001.out).2.2 | (with_reducible refine Kd.C_alloc ?_ _) | (with_reducible refine Kd.C_drewN ?_ _) | (with_reducible refine Kd.C_drew ?_)));(case s2=>exact (Kd.R_reads' HO_567001.out).2.1);rintro e w65 ⟨v597,rfl,ho0,hb⟩;refine ⟨_,rfl,?_⟩;have n0_:=aM (Kd.R_below (z1_ HO_561001.out) hb);have n1_:=aM (Kd.R_below (z1_ HO_567001.out) hb);have n2_:=aM (Kd.R_below (z1_ HO_578001.out) hb);have n3_:=aM (Kd.R_below (z1_ HO_579001.out) hb);have n4_:=aM (Kd.R_elder' (z1_ HO595.out) (Kd.R_base ho0) hb);have n5_:=aM (Kd.R_lower (Kd.R_new' ho0 (Kd.R_lt (z1_ HO595.out))) (below_size (z14_ HB.out GE560.out GE566.out GE577.out GE578.out)));have n6_:=aM (blkB_ BK560.out hb);have n7_:=aM (blkB_ BK566.out hb);have n8_:=aM (blkB_ BK577.out hb);have n9_:=aM (blkB_ BK578.out hb);have n10_:=aM (below_step (z14_ HB.out GE560.out GE566.out GE577.out GE578.out) hb);clear HO_561001;clear HO_567001;clear HO_578001;clear HO_579001;clear HO595;clear BK560;clear BK566;clear BK577;clear BK578;clear HB;have HO_561001:=n0_;have HO_567001:=n1_;have HO_578001:=n2_;have HO_579001:=n3_;have HO595:=n4_;have HO598:=n5_;have BK560:=n6_;have BK566:=n7_;have BK577:=n8_;have BK578:=n9_;have HB:=n10_;clear n0_ n1_ n2_ n3_ n4_ n5_ n6_ n7_ n8_ n9_ n10_;(try clear hb);(try clear ho0)))
         go_loopg [11,13] kj15 (fun kq v11 v13 w'=>∃ (x11_3:List Int) (x13_3:Int),v13 = .int .i64 x13_3∧Aside0 (Y9.l0 kq t575 x11_3 t596 x13_3 t556 t557 t561 t562 t565=some r)∧Aside0 (kq≤kj15)∧Aside0 (Kd.R (Kd.int .i64) 2 w' w.heap.size (fun k_=>some k_≠(v597:Value).ownBlock) v11 x11_3)∧Aside0 (Kd.R (Kd.int .i64) 2 w' w.heap.size (fun k_=>some k_≠(v11:Value).ownBlock) v597 t596)∧Aside0 (Kd.R k77 77 w' w.heap.size (fun k_=>some k_≠((.slice Ao25 t562.length co25):Value).ownBlock∧some k_≠((.slice Ao33 t568.length co33):Value).ownBlock∧some k_≠((.slice Ao37 t572.length co37):Value).ownBlock) (.slice Ao20 t557.length co20) t557)∧Aside0 (Kd.R k77 77 w' w.heap.size (fun k_=>some k_≠((.slice Ao20 t557.length co20):Value).ownBlock∧some k_≠((.slice Ao33 t568.length co33):Value).ownBlock∧some k_≠((.slice Ao37 t572.length co37):Value).ownBlock) (.slice Ao25 t562.length co25) t562)∧Aside0 (Kd.R k77 77 w' w.heap.size (fun k_=>some k_≠((.slice Ao20 t557.length co20):Value).ownBlock∧some k_≠((.slice Ao25 t562.length co25):Value).ownBlock∧some k_≠((.slice Ao37 t572.length co37):Value).ownBlock) (.slice Ao33 t568.length co33) t568)∧Aside0 (Kd.R k77 77 w' w.heap.size (fun k_=>some k_≠((.slice Ao20 t557.length co20):Value).ownBlock∧some k_≠((.slice Ao25 t562.length co25):Value).ownBlock∧some k_≠((.slice Ao33 t568.length co33):Value).ownBlock) (.slice Ao37 t572.length co37) t572)∧Aside0 (w'.heap[gb560]? = some (.cells #[.int .i64 t556,(.slice Ao20 t557.length co20)] 24 (0,0)))∧Aside0 (w'.heap[gb566]? = some (.cells #[.int .i64 t561,(.slice Ao25 t562.length co25),.int .i64 t565] 26 (0,0)))∧Aside0 (w'.heap[gb577]? = some (.cells #[.int .i64 t567,(.slice Ao33 t568.length co33)] 24 (0,0)))∧Aside0 (w'.heap[gb578]? = some (.cells #[.int .i64 t571,(.slice Ao37 t572.length co37)] 24 (0,0)))∧Aside0 (Below w.heap.size w w'))
         case atStart=>exact ⟨(y593),(0),(z2_),H',⟨Nat.le_refl _⟩,⟨z46_ HO595.out⟩,⟨z46_ HO598.out⟩,⟨z1_ HO_561001.out⟩,⟨z1_ HO_567001.out⟩,⟨z1_ HO_578001.out⟩,⟨z1_ HO_579001.out⟩,⟨z3_ BK560.out⟩,⟨z3_ BK566.out⟩,⟨z3_ BK577.out⟩,⟨z3_ BK578.out⟩,⟨z14_ HB.out GE560.out GE566.out GE577.out GE578.out⟩⟩
         case round=>as_aux_lemma =>
          clear H'
          try clear c1
          try clear c2
          try clear p2
          try clear c3
          try clear c4
          try clear c4b0
          try clear c4b1
          try clear c5
          try clear c6
          try clear c11
          try clear c13
          try clear c14
          try clear c15
          try clear c16
          try clear c17
          try clear c18
          try clear c19
          try clear c20
          try clear c22
          try clear c23
          try clear c29
          try clear c30
          try clear c31
          try clear c34
          try clear c35
          try clear c47
          try clear c47b0
          try clear c47b1
          try clear c49
          try clear c50
          try clear c51
          try clear c53
          try clear c54
          try clear c55
          try clear c57
          try clear c61
          try clear c62
          try clear c63
          try clear hcz19_0
          try clear hcz19_1
          try clear hcz24_0
          try clear hcz24_1
          try clear hcz24_2
          try clear hcz32_0
          try clear hcz32_1
          try clear hcz36_0
          try clear hcz36_1
          try clear hcz52_0
          try clear hcz52_1
          try clear hcz52_2
          try clear hcz56_0
          try clear hcz56_1
          try clear hcz56_2
          try clear hcz64_0
          try clear hcz64_1
          try clear hcz64_2
          try clear hfz19_0
          try clear hfz19_1
          try clear hfz24_0
          try clear hfz24_1
          try clear hfz24_2
          try clear hfz32_0
          try clear hfz32_1
          try clear hfz36_0
          try clear hfz36_1
          try clear hfz52_0
          try clear hfz52_1
          try clear hfz52_2
          try clear hfz56_0
          try clear hfz56_1
          try clear hfz56_2
          try clear hfz64_0
          try clear hfz64_1
          try clear hfz64_2
          try clear p2
          obtain ⟨x11_3,x13_3,rfl,HA,HK3,HO_11,HO_12,HO_561001,HO_567001,HO_578001,HO_579001,BK560,BK566,BK577,BK578,HB⟩:=hrel
          cases gk with
          | zero=>exact absurd HA.out (by simp [Y9.l0])
          | succ k3 =>
           have H:=HA.out
           clear HA
           simp only [Y9.l0] at H
           by_cases c66:x13_3<(t596.length:Int)
           ·rw [if_pos c66] at H
            have c66b0:decide (x13_3<(t596.length:Int))=true:=dE c66
            clear c66
            by_cases c67:0≤x13_3
            ·rw [if_pos c67] at H
             have c67b0:decide (0≤x13_3)=true:=dE c67
             clear c67
             by_cases c68:(rd t596 x13_3)=t561
             ·rw [if_pos c68] at H
              have c68b0:((rd t596 x13_3) == t561)=true:=beq_iff_eq.mpr c68
              have c68b1:((rd t596 x13_3) != t561)=false:=bne_eq_false_iff_eq.mpr c68
              clear c68
              have H':=aM H
              clear H
              obtain ⟨Ao69,co69,eo69⟩:=Kd.R_slice HO_12.out
              subst eo69
              try go_wp2
              have n0_:=aM (Kd.R_drew HO_11.out)
              have n1_:=aM (Kd.R_drew HO_12.out)
              have n2_:=aM (Kd.R_drew HO_561001.out)
              have n3_:=aM (Kd.R_drew HO_567001.out)
              have n4_:=aM (Kd.R_drew HO_578001.out)
              have n5_:=aM (Kd.R_drew HO_579001.out)
              have n6_:=aM (blk_drew BK560.out)
              have n7_:=aM (blk_drew BK566.out)
              have n8_:=aM (blk_drew BK577.out)
              have n9_:=aM (blk_drew BK578.out)
              have n10_:=aM (below_drew1 HB.out)
              clear HO_11
              clear HO_12
              clear HO_561001
              clear HO_567001
              clear HO_578001
              clear HO_579001
              clear BK560
              clear BK566
              clear BK577
              clear BK578
              clear HB
              have HO_11:=n0_
              have HO_12:=n1_
              have HO_561001:=n2_
              have HO_567001:=n3_
              have HO_578001:=n4_
              have HO_579001:=n5_
              have BK560:=n6_
              have BK566:=n7_
              have BK577:=n8_
              have BK578:=n9_
              have HB:=n10_
              clear n0_ n1_ n2_ n3_ n4_ n5_ n6_ n7_ n8_ n9_ n10_
              have p599:0≤(x13_3:Int):=dT (z0_)
              have q599:x13_3<(t596.length:Int):=dT (z0_)
              obtain ⟨ad599,e599,hx599_0⟩:=Kd.at_int (Kd.R_reads' HO_12.out).2.2 x13_3 p599 q599
              cases e599
              replace p599:=eq_true p599
              replace q599:=eq_true q599
              refine start_ (n:=8) (S:=fun w'=>w'.cell? ⟨gb566,0,none⟩=some (.int .i64 t561)∧w'.cell? ⟨gb566,1,none⟩=some (.slice Ao25 t562.length co25)∧w'.cell? ⟨gb566,2,none⟩=some (.int .i64 t565)∧w'.cell? (ad599.add (x13_3).toNat)=some (.int .i64 (rd t596 x13_3))) (ds:=[]) #[O,O,O,O,O,O,O,O] (by kernel_rfl) rfl rfl (cj3_ BK566.out hx599_0) (fun hHeld=>?_);refine with_tabW Y9.tab15 Y9.bits15 (fun HT_ HW_=>?_)
              generalize wr.drew=w70 at HO_11 HO_12 HO_561001 HO_567001 HO_578001 HO_579001 BK560 BK566 BK577 BK578 HB hx599_0 hHeld ⊢
              refine pu_ 0 73 #[I,O,O,O,O,O,O,O] HT_.out ?_
              refine pu_ 1 74 #[I,I,O,O,O,O,O,O] HT_.out ?_
              refine pu_ 2 75 #[I,I,I,O,O,O,O,O] HT_.out ?_
              refine pu_ 4 77 #[I,I,I,O,I,O,O,O] HT_.out ?_
              refine pu_ 5 78 #[I,I,I,O,I,I,O,O] HT_.out ?_
              refine tk4_ 3 76 #[I,I,I,I,I,I,O,O] HT_.out HW_.out hHeld ?_
              refine tk4_ 6 79 #[I,I,I,I,I,I,I,O] HT_.out HW_.out hHeld ?_
              refine pu_ 7 80 #[I,I,I,I,I,I,I,I] HT_.out ?_
              refine done_ (done_of HT_.out (by kernel_rfl)) ?_
              try go_wp2
              go_roundg k3
              case measure=>have:=HJ2.out;have:=HJ15.out;have:=HK3.out;omega
              case rel=>exact ⟨(x11_3),(wrap64 (x13_3+1)),(z2_),H',⟨by have:=HJ2.out;have:=HJ15.out;have:=HK3.out;omega⟩,⟨z1_ HO_11.out⟩,⟨z1_ HO_12.out⟩,⟨z1_ HO_561001.out⟩,⟨z1_ HO_567001.out⟩,⟨z1_ HO_578001.out⟩,⟨z1_ HO_579001.out⟩,⟨z3_ BK560.out⟩,⟨z3_ BK566.out⟩,⟨z3_ BK577.out⟩,⟨z3_ BK578.out⟩,⟨z14_ HB.out GE560.out GE566.out GE577.out GE578.out⟩⟩
             ·rw [if_neg c68] at H
              have c68b0:((rd t596 x13_3) == t561)=false:=beq_eq_false_iff_ne.mpr c68
              have c68b1:((rd t596 x13_3) != t561)=true:=bne_iff_ne.mpr c68
              by_cases c71:x11_3.length<17592186044416
              ·rw [if_pos c71] at H
               have LMc71:=aM c71
               clear c71
               obtain ⟨y601,hy601⟩:∃ y_:List Int,y_=(x11_3 ++ [rd t596 x13_3]):=⟨_,rfl⟩
               replace H:(Y9.l0 k3 t575 y601 t596 (wrap64 (x13_3+1)) t556 t557 t561 t562 t565)=some r:=by first | (rw [hy601];with_reducible exact H) | (have H2_:=(Option.bind_some _ _).symm.trans H;rw [hy601];with_reducible exact H2_) | (have H2_:=(Option.bind_some _ _).symm.trans H;with_reducible exact H2_) | with_reducible exact H | (rw [hy601];exact H) | exact H
               have Ny601:=aM hy601
               clear hy601
               have H':=aM H
               clear H
               obtain ⟨Ao72,co72,eo72⟩:=Kd.R_slice HO_12.out
               subst eo72
               try go_wp2
               have n0_:=aM (Kd.R_drew HO_11.out)
               have n1_:=aM (Kd.R_drew HO_12.out)
               have n2_:=aM (Kd.R_drew HO_561001.out)
               have n3_:=aM (Kd.R_drew HO_567001.out)
               have n4_:=aM (Kd.R_drew HO_578001.out)
               have n5_:=aM (Kd.R_drew HO_579001.out)
               have n6_:=aM (blk_drew BK560.out)
               have n7_:=aM (blk_drew BK566.out)
               have n8_:=aM (blk_drew BK577.out)
               have n9_:=aM (blk_drew BK578.out)
               have n10_:=aM (below_drew1 HB.out)
               clear HO_11
               clear HO_12
               clear HO_561001
               clear HO_567001
               clear HO_578001
               clear HO_579001
               clear BK560
               clear BK566
               clear BK577
               clear BK578
               clear HB
               have HO_11:=n0_
               have HO_12:=n1_
               have HO_561001:=n2_
               have HO_567001:=n3_
               have HO_578001:=n4_
               have HO_579001:=n5_
               have BK560:=n6_
               have BK566:=n7_
               have BK577:=n8_
               have BK578:=n9_
               have HB:=n10_
               clear n0_ n1_ n2_ n3_ n4_ n5_ n6_ n7_ n8_ n9_ n10_
               have p599:0≤(x13_3:Int):=dT (z0_)
               have q599:x13_3<(t596.length:Int):=dT (z0_)
               obtain ⟨ad599,e599,hx599_0⟩:=Kd.at_int (Kd.R_reads' HO_12.out).2.2 x13_3 p599 q599
               cases e599
               replace p599:=eq_true p599
               replace q599:=eq_true q599
               refine start_ (n:=8) (S:=fun w'=>w'.cell? ⟨gb566,0,none⟩=some (.int .i64 t561)∧w'.cell? ⟨gb566,1,none⟩=some (.slice Ao25 t562.length co25)∧w'.cell? ⟨gb566,2,none⟩=some (.int .i64 t565)∧w'.cell? (ad599.add (x13_3).toNat)=some (.int .i64 (rd t596 x13_3))) (ds:=[]) #[O,O,O,O,O,O,O,O] (by kernel_rfl) rfl rfl (cj3_ BK566.out hx599_0) (fun hHeld=>?_);refine with_tabW Y9.tab15 Y9.bits15 (fun HT_ HW_=>?_)
               generalize wr.drew=w73 at HO_11 HO_12 HO_561001 HO_567001 HO_578001 HO_579001 BK560 BK566 BK577 BK578 HB hx599_0 hHeld ⊢
               refine pu_ 0 73 #[I,O,O,O,O,O,O,O] HT_.out ?_
               refine pu_ 1 74 #[I,I,O,O,O,O,O,O] HT_.out ?_
               refine pu_ 2 75 #[I,I,I,O,O,O,O,O] HT_.out ?_
               refine pu_ 4 77 #[I,I,I,O,I,O,O,O] HT_.out ?_
               refine pu_ 5 78 #[I,I,I,O,I,I,O,O] HT_.out ?_
               refine tk4_ 3 76 #[I,I,I,I,I,I,O,O] HT_.out HW_.out hHeld ?_
               refine tk4_ 6 79 #[I,I,I,I,I,I,I,O] HT_.out HW_.out hHeld ?_
               refine pu_ 7 80 #[I,I,I,I,I,I,I,I] HT_.out ?_
               refine done_ (done_of HT_.out (by kernel_rfl)) ?_
               have p600:0≤(x13_3:Int):=dT (z0_)
               have q600:x13_3<(t596.length:Int):=dT (z0_)
               obtain ⟨ad600,e600,hx600_0⟩:=Kd.at_int (Kd.R_reads' HO_12.out).2.2 x13_3 p600 q600
               obtain rfl:ad599=ad600:=(by injection e600)
               replace p600:=eq_true p600
               replace q600:=eq_true q600
               try go_wp2_with (first | ((with_reducible refine gate_builtin (b:=.append) (xs:=#[.tmp 81,.tmp 86]) rfl ?_);(try (refine gate_guard (by rfl) ?_;dsimp only));at_builtin;refine Kd.R_append (Kd.int .i64) (w0:=w) w.heap.size rfl (.tmp 81) (.tmp 86) 37 2 (.int .i64 0) 8 rfl Tryd.underlying37 info2 rfl (by decide) (by omega) u11 x11_3 (rd t596 x13_3) [.int .i64 (rd t596 x13_3)] (fun k_=>some k_≠(.slice (some ad599) t596.length co72:Value).ownBlock) (fun _=>False) rfl rfl ?aP (fun _ hk=>hk.elim) ?aF ?aO ?aB ?aS ?aL ?_;(case aP=>exact rfl);(case aB=>exact (z14_ HB.out GE560.out GE566.out GE577.out GE578.out));(case aF=>exact (fun k_ hk=>Kd.fresh' (Kd.R_lt (z1_ HO_12.out)) k_ hk));(case aO=>exact (z1_ HO_11.out));(case aS=>exact (below_size (z14_ HB.out GE560.out GE566.out GE577.out GE578.out)));(case aL=>have:=LMc71.out;omega);intro v602 w74 ho hb hg hat;rw [← Ny601.out] at ho;have n0_:=aM (Kd.R_after (ok:=(fun _=>True)) (by (with_reducible repeat (first | apply Kd.R_alloc | apply Kd.R_drewN | apply Kd.R_drew));exact Kd.R_mono HO_12.out (fun _ hk=>⟨trivial,hk⟩)) hg hat);have n1_:=aM (Kd.R_over' (z1_ HO_561001.out) (Kd.R_typed (z1_ HO_11.out)) (by decide) hg);have n2_:=aM (Kd.R_over' (z1_ HO_567001.out) (Kd.R_typed (z1_ HO_11.out)) (by decide) hg);have n3_:=aM (Kd.R_over' (z1_ HO_578001.out) (Kd.R_typed (z1_ HO_11.out)) (by decide) hg);have n4_:=aM (Kd.R_over' (z1_ HO_579001.out) (Kd.R_typed (z1_ HO_11.out)) (by decide) hg);have n5_:=aM (blk_grown (g:=gb560) (o:=.cells #[.int .i64 t556,.slice Ao20 t557.length co20] 24 (0,0)) (z3_ BK560.out) hg (Kd.R_ne HO_11.out BK560.out (by decide)));have n6_:=aM (blk_grown (g:=gb566) (o:=.cells #[.int .i64 t561,.slice Ao25 t562.length co25,.int .i64 t565] 26 (0,0)) (z3_ BK566.out) hg (Kd.R_ne HO_11.out BK566.out (by decide)));have n7_:=aM (blk_grown (g:=gb577) (o:=.cells #[.int .i64 t567,.slice Ao33 t568.length co33] 24 (0,0)) (z3_ BK577.out) hg (Kd.R_ne HO_11.out BK577.out (by decide)));have n8_:=aM (blk_grown (g:=gb578) (o:=.cells #[.int .i64 t571,.slice Ao37 t572.length co37] 24 (0,0)) (z3_ BK578.out) hg (Kd.R_ne HO_11.out BK578.out (by decide)));have n9_:=aM (hb);have n10_:=aM (ho);clear HO_12;clear HO_561001;clear HO_567001;clear HO_578001;clear HO_579001;clear BK560;clear BK566;clear BK577;clear BK578;clear HB;clear HO_11;have HO_12:=n0_;have HO_561001:=n1_;have HO_567001:=n2_;have HO_578001:=n3_;have HO_579001:=n4_;have BK560:=n5_;have BK566:=n6_;have BK577:=n7_;have BK578:=n8_;have HB:=n9_;have HO603:=n10_;clear n0_ n1_ n2_ n3_ n4_ n5_ n6_ n7_ n8_ n9_ n10_;clear ho hb hg hat))
               go_roundg k3
               case measure=>have:=HJ2.out;have:=HJ15.out;have:=HK3.out;omega
               case rel=>exact ⟨(y601),(wrap64 (x13_3+1)),(z2_),H',⟨by have:=HJ2.out;have:=HJ15.out;have:=HK3.out;omega⟩,⟨z1_ HO603.out⟩,⟨z46_ HO_12.out⟩,⟨z1_ HO_561001.out⟩,⟨z1_ HO_567001.out⟩,⟨z1_ HO_578001.out⟩,⟨z1_ HO_579001.out⟩,⟨z3_ BK560.out⟩,⟨z3_ BK566.out⟩,⟨z3_ BK577.out⟩,⟨z3_ BK578.out⟩,⟨z14_ HB.out GE560.out GE566.out GE577.out GE578.out⟩⟩
              ·rw [if_neg c71] at H
               exact nO H
            ·rw [if_neg c67] at H
             exact nO H
           ·rw [if_neg c66] at H
            have c66b0:decide (x13_3<(t596.length:Int))=false:=dF c66
            clear c66
            replace H:=bS H
            obtain ⟨t604,A750,H⟩:=H
            replace H:((Y36.f k3 x11_3 t604).bind fun t607=>(if t607=true then (if (t596.length:Int)=(wrap64 ((x11_3.length:Int)+1)) then ((Y23.f k3 t556 t557 t561 t562 t575 2).bind fun t608=>(Y9.l1 k3 t575 t608 0 t556 t557 t561 t562 t565)) else (none)) else (none)))=some r:=H
            have A75:=aM A750
            clear A750
            replace H:=bS H
            obtain ⟨t607,A760,H⟩:=H
            replace H:(if t607=true then (if (t596.length:Int)=(wrap64 ((x11_3.length:Int)+1)) then ((Y23.f k3 t556 t557 t561 t562 t575 2).bind fun t608=>(Y9.l1 k3 t575 t608 0 t556 t557 t561 t562 t565)) else (none)) else (none))=some r:=H
            have A76:=aM A760
            clear A760
            by_cases c77:t607=true
            ·subst c77
             have H1:(if (t596.length:Int)=(wrap64 ((x11_3.length:Int)+1)) then ((Y23.f k3 t556 t557 t561 t562 t575 2).bind fun t608=>(Y9.l1 k3 t575 t608 0 t556 t557 t561 t562 t565)) else (none))=some r:=by rw [if_pos rfl] at H;exact H
             clear H
             have H:=H1
             clear H1
             by_cases c78:(t596.length:Int)=(wrap64 ((x11_3.length:Int)+1))
             ·rw [if_pos c78] at H
              have c78b0:((t596.length:Int) == (wrap64 ((x11_3.length:Int)+1)))=true:=beq_iff_eq.mpr c78
              have c78b1:((t596.length:Int) != (wrap64 ((x11_3.length:Int)+1)))=false:=bne_eq_false_iff_eq.mpr c78
              clear c78
              replace H:=bS H
              obtain ⟨t608,A790,H⟩:=H
              replace H:(Y9.l1 k3 t575 t608 0 t556 t557 t561 t562 t565)=some r:=H
              have A79:=aM A790
              clear A790
              have H':=aM H
              clear H
              obtain ⟨Ao80,co80,eo80⟩:=Kd.R_slice HO_12.out
              subst eo80
              have hnb81:=NB560_566.out
              have hnc81:=NB566_560.out
              have hnb82:=NB560_577.out
              have hnc82:=NB577_560.out
              have hnb83:=NB560_578.out
              have hnc83:=NB578_560.out
              have ⟨hcz84_0,hcz84_1,hfz84_0,hfz84_1⟩:=cz2_ BK560.out
              go_wp2_with (first | ((with_reducible refine gc_ 22 ?_);refine gl_ (some 91) Tryd.func22 #[.agg #[.int .i64 t556,.slice Ao20 t557.length co20],.string t575] ?_;(with_reducible refine (Y72.calls k3 t556 _ _ t557 t575 t604 _ ?s1 ?s2 A75.out).mono ?_);(case s1=>repeat (first | exact (Kd.R_reads' HO_561001.out).2.2 | (with_reducible refine Kd.C_alloc ?_ _) | (with_reducible refine Kd.C_drewN ?_ _) | (with_reducible refine Kd.C_drew ?_)));(case s2=>exact (Kd.R_reads' HO_561001.out).2.1);rintro e w85 ⟨v605,rfl,ho0,hb⟩;refine ⟨_,rfl,?_⟩;have n0_:=aM (Kd.R_elder' (z1_ HO_11.out) (Kd.R_base ho0) hb);have n1_:=aM (Kd.R_elder' (z1_ HO_12.out) (Kd.R_base ho0) hb);have n2_:=aM (Kd.R_below (z1_ HO_561001.out) hb);have n3_:=aM (Kd.R_below (z1_ HO_567001.out) hb);have n4_:=aM (Kd.R_below (z1_ HO_578001.out) hb);have n5_:=aM (Kd.R_below (z1_ HO_579001.out) hb);have n6_:=aM (Kd.R_lower (Kd.R_new' (Kd.R_new' ho0 (Kd.R_lt (z1_ HO_11.out))) (Kd.R_lt (z1_ HO_12.out))) (below_size (z14_ HB.out GE560.out GE566.out GE577.out GE578.out)));have n7_:=aM (blkB_ BK560.out hb);have n8_:=aM (blkB_ BK566.out hb);have n9_:=aM (blkB_ BK577.out hb);have n10_:=aM (blkB_ BK578.out hb);have n11_:=aM (below_step (z14_ HB.out GE560.out GE566.out GE577.out GE578.out) hb);clear HO_11;clear HO_12;clear HO_561001;clear HO_567001;clear HO_578001;clear HO_579001;clear BK560;clear BK566;clear BK577;clear BK578;clear HB;have HO_11:=n0_;have HO_12:=n1_;have HO_561001:=n2_;have HO_567001:=n3_;have HO_578001:=n4_;have HO_579001:=n5_;have HO606:=n6_;have BK560:=n7_;have BK566:=n8_;have BK577:=n9_;have BK578:=n10_;have HB:=n11_;clear n0_ n1_ n2_ n3_ n4_ n5_ n6_ n7_ n8_ n9_ n10_ n11_;(try clear hb);(try clear ho0);obtain ⟨Ao86,co86,eo86⟩:=Kd.R_slice HO_11.out;subst eo86;obtain ⟨Ao87,co87,eo87⟩:=Kd.R_slice HO606.out;subst eo87) | ((with_reducible refine gc_ 18 ?_);refine gl_ (some 92) Tryd.func18 #[.slice Ao86 x11_3.length co86,.slice Ao87 t604.length co87] ?_;(with_reducible refine (Y36.calls k3 _ _ x11_3 _ _ t604 true _ ?s1 ?s2 ?s3 ?s4 A76.out).mono ?_);(case s1=>repeat (first | exact (Kd.R_reads' HO_11.out).2.2 | (with_reducible refine Kd.C_alloc ?_ _) | (with_reducible refine Kd.C_drewN ?_ _) | (with_reducible refine Kd.C_drew ?_)));(case s2=>exact (Kd.R_reads' HO_11.out).2.1);(case s3=>repeat (first | exact (Kd.R_reads' HO606.out).2.2 | (with_reducible refine Kd.C_alloc ?_ _) | (with_reducible refine Kd.C_drewN ?_ _) | (with_reducible refine Kd.C_drew ?_)));(case s4=>exact (Kd.R_reads' HO606.out).2.1);rintro e w' ⟨rfl,⟨nd,rfl⟩⟩;refine ⟨_,rfl,?_⟩;have ⟨hcz88_0,hcz88_1,hfz88_0,hfz88_1⟩:=cz2_ BK560.out;have hnb89:=NB566_577.out;have hnc89:=NB577_566.out;have hnb90:=NB566_578.out;have hnc90:=NB578_566.out;have ⟨hcz91_0,hcz91_1,hcz91_2,hfz91_0,hfz91_1,hfz91_2⟩:=cz3_ BK566.out) | ((with_reducible refine gc_ 19 ?_);refine gl_ (some 106) Tryd.func19 #[.agg #[.int .i64 t556,.slice Ao20 t557.length co20],.agg #[.int .i64 t561,.slice Ao25 t562.length co25],.string t575,.int .i64 2] ?_;(with_reducible refine (Y23.calls k3 t556 _ _ t557 t561 _ _ t562 t575 2 t608 _ ?s1 ?s2 ?s3 ?s4 A79.out).mono ?_);(case s1=>repeat (first | exact (Kd.R_reads' HO_561001.out).2.2 | (with_reducible refine Kd.C_alloc ?_ _) | (with_reducible refine Kd.C_drewN ?_ _) | (with_reducible refine Kd.C_drew ?_)));(case s2=>exact (Kd.R_reads' HO_561001.out).2.1);(case s3=>repeat (first | exact (Kd.R_reads' HO_567001.out).2.2 | (with_reducible refine Kd.C_alloc ?_ _) | (with_reducible refine Kd.C_drewN ?_ _) | (with_reducible refine Kd.C_drew ?_)));(case s4=>exact (Kd.R_reads' HO_567001.out).2.1);rintro e w92 ⟨v609,rfl,ho0,hb⟩;refine ⟨_,rfl,?_⟩;have n0_:=aM (Kd.R_elder' (z1_ HO_11.out) (Kd.R_base ho0) hb);have n1_:=aM (Kd.R_elder' (z1_ HO_12.out) (Kd.R_base ho0) hb);have n2_:=aM (Kd.R_below (z1_ HO_561001.out) hb);have n3_:=aM (Kd.R_below (z1_ HO_567001.out) hb);have n4_:=aM (Kd.R_below (z1_ HO_578001.out) hb);have n5_:=aM (Kd.R_below (z1_ HO_579001.out) hb);have n6_:=aM (Kd.R_elder' (z1_ HO606.out) (Kd.R_base ho0) hb);have n7_:=aM (Kd.R_lower (Kd.R_new' (Kd.R_new' (Kd.R_new' ho0 (Kd.R_lt (z1_ HO_11.out))) (Kd.R_lt (z1_ HO_12.out))) (Kd.R_lt (z1_ HO606.out))) (below_size (z14_ HB.out GE560.out GE566.out GE577.out GE578.out)));have n8_:=aM (blkB_ BK560.out hb);have n9_:=aM (blkB_ BK566.out hb);have n10_:=aM (blkB_ BK577.out hb);have n11_:=aM (blkB_ BK578.out hb);have n12_:=aM (below_step (z14_ HB.out GE560.out GE566.out GE577.out GE578.out) hb);clear HO_11;clear HO_12;clear HO_561001;clear HO_567001;clear HO_578001;clear HO_579001;clear HO606;clear BK560;clear BK566;clear BK577;clear BK578;clear HB;have HO_11:=n0_;have HO_12:=n1_;have HO_561001:=n2_;have HO_567001:=n3_;have HO_578001:=n4_;have HO_579001:=n5_;have HO606:=n6_;have HO610:=n7_;have BK560:=n8_;have BK566:=n9_;have BK577:=n10_;have BK578:=n11_;have HB:=n12_;clear n0_ n1_ n2_ n3_ n4_ n5_ n6_ n7_ n8_ n9_ n10_ n11_ n12_;(try clear hb);(try clear ho0)))
              go_loopg [15] k3 (fun kq v15 w'=>∃ (x15_4:Int),v15 = .int .i64 x15_4∧Aside0 (Y9.l1 kq t575 t608 x15_4 t556 t557 t561 t562 t565=some r)∧Aside0 (kq≤k3)∧Aside0 (Kd.R (Kd.int .i64) 2 w' w.heap.size (fun _=>True) v609 t608)∧Aside0 (Kd.R k77 77 w' w.heap.size (fun k_=>some k_≠((.slice Ao25 t562.length co25):Value).ownBlock∧some k_≠((.slice Ao33 t568.length co33):Value).ownBlock∧some k_≠((.slice Ao37 t572.length co37):Value).ownBlock) (.slice Ao20 t557.length co20) t557)∧Aside0 (Kd.R k77 77 w' w.heap.size (fun k_=>some k_≠((.slice Ao20 t557.length co20):Value).ownBlock∧some k_≠((.slice Ao33 t568.length co33):Value).ownBlock∧some k_≠((.slice Ao37 t572.length co37):Value).ownBlock) (.slice Ao25 t562.length co25) t562)∧Aside0 (Kd.R k77 77 w' w.heap.size (fun k_=>some k_≠((.slice Ao20 t557.length co20):Value).ownBlock∧some k_≠((.slice Ao25 t562.length co25):Value).ownBlock∧some k_≠((.slice Ao37 t572.length co37):Value).ownBlock) (.slice Ao33 t568.length co33) t568)∧Aside0 (Kd.R k77 77 w' w.heap.size (fun k_=>some k_≠((.slice Ao20 t557.length co20):Value).ownBlock∧some k_≠((.slice Ao25 t562.length co25):Value).ownBlock∧some k_≠((.slice Ao33 t568.length co33):Value).ownBlock) (.slice Ao37 t572.length co37) t572)∧Aside0 (w'.heap[gb560]? = some (.cells #[.int .i64 t556,(.slice Ao20 t557.length co20)] 24 (0,0)))∧Aside0 (w'.heap[gb566]? = some (.cells #[.int .i64 t561,(.slice Ao25 t562.length co25),.int .i64 t565] 26 (0,0)))∧Aside0 (w'.heap[gb577]? = some (.cells #[.int .i64 t567,(.slice Ao33 t568.length co33)] 24 (0,0)))∧Aside0 (w'.heap[gb578]? = some (.cells #[.int .i64 t571,(.slice Ao37 t572.length co37)] 24 (0,0)))∧Aside0 (Below w.heap.size w w'))
              case atStart=>exact ⟨(0),(z2_),H',⟨Nat.le_refl _⟩,⟨by (with_reducible repeat (first | apply Kd.R_alloc | apply Kd.R_drewN | apply Kd.R_drew));exact Kd.R_mono HO610.out (fun _ hk=>trivial)⟩,⟨z1_ HO_561001.out⟩,⟨z1_ HO_567001.out⟩,⟨z1_ HO_578001.out⟩,⟨z1_ HO_579001.out⟩,⟨z3_ BK560.out⟩,⟨z3_ BK566.out⟩,⟨z3_ BK577.out⟩,⟨z3_ BK578.out⟩,⟨z14_ HB.out GE560.out GE566.out GE577.out GE578.out⟩⟩
              case round=>as_aux_lemma =>
               clear H'
               try clear c1
               try clear c2
               try clear p2
               try clear c3
               try clear c4
               try clear c4b0
               try clear c4b1
               try clear c5
               try clear p5
               try clear q5
               try clear hx5
               try clear c6
               try clear p6
               try clear q6
               try clear hx6
               try clear c7
               try clear c8
               try clear c9
               try clear c11
               try clear c13
               try clear c14
               try clear c15
               try clear c16
               try clear c17
               try clear c18
               try clear c19
               try clear c20
               try clear c22
               try clear c23
               try clear c29
               try clear c30
               try clear c31
               try clear c34
               try clear c35
               try clear c47
               try clear c47b0
               try clear c47b1
               try clear c49
               try clear c50
               try clear c51
               try clear c53
               try clear c54
               try clear c55
               try clear c57
               try clear p59
               try clear q59
               try clear hx59
               try clear p60
               try clear q60
               try clear hx60
               try clear c61
               try clear c62
               try clear c63
               try clear p64
               try clear c66
               try clear c66b0
               try clear c67
               try clear c67b0
               try clear c68
               try clear c68b0
               try clear c68b1
               try clear c71
               try clear c77
               try clear c78
               try clear c78b0
               try clear c78b1
               try clear c81
               try clear c82
               try clear c83
               try clear c89
               try clear c90
               try clear hcz19_0
               try clear hcz19_1
               try clear hcz24_0
               try clear hcz24_1
               try clear hcz24_2
               try clear hcz32_0
               try clear hcz32_1
               try clear hcz36_0
               try clear hcz36_1
               try clear hcz52_0
               try clear hcz52_1
               try clear hcz52_2
               try clear hcz56_0
               try clear hcz56_1
               try clear hcz56_2
               try clear hcz64_0
               try clear hcz64_1
               try clear hcz64_2
               try clear hcz84_0
               try clear hcz84_1
               try clear hcz88_0
               try clear hcz88_1
               try clear hcz91_0
               try clear hcz91_1
               try clear hcz91_2
               try clear hfz19_0
               try clear hfz19_1
               try clear hfz24_0
               try clear hfz24_1
               try clear hfz24_2
               try clear hfz32_0
               try clear hfz32_1
               try clear hfz36_0
               try clear hfz36_1
               try clear hfz52_0
               try clear hfz52_1
               try clear hfz52_2
               try clear hfz56_0
               try clear hfz56_1
               try clear hfz56_2
               try clear hfz64_0
               try clear hfz64_1
               try clear hfz64_2
               try clear hfz84_0
               try clear hfz84_1
               try clear hfz88_0
               try clear hfz88_1
               try clear hfz91_0
               try clear hfz91_1
               try clear hfz91_2
               try clear hx599_0
               try clear hx600_0
               try clear p2
               try clear p599
               try clear p600
               try clear q599
               try clear q600
               obtain ⟨x15_4,rfl,HA,HK4,HO_14,HO_561001,HO_567001,HO_578001,HO_579001,BK560,BK566,BK577,BK578,HB⟩:=hrel
               cases gk with
               | zero=>exact absurd HA.out (by simp [Y9.l1])
               | succ k4 =>
                have H:=HA.out
                clear HA
                simp only [Y9.l1] at H
                by_cases c93:x15_4<(t608.length:Int)
                ·rw [if_pos c93] at H
                 have c93b0:decide (x15_4<(t608.length:Int))=true:=dE c93
                 clear c93
                 by_cases c94:0≤x15_4
                 ·rw [if_pos c94] at H
                  have c94b0:decide (0≤x15_4)=true:=dE c94
                  clear c94
                  by_cases c95:(rd t608 x15_4)=t561
                  ·rw [if_pos c95] at H
                   have c95b0:((rd t608 x15_4) == t561)=true:=beq_iff_eq.mpr c95
                   have c95b1:((rd t608 x15_4) != t561)=false:=bne_eq_false_iff_eq.mpr c95
                   clear c95
                   have H':=aM H
                   clear H
                   obtain ⟨Ao96,co96,eo96⟩:=Kd.R_slice HO_14.out
                   subst eo96
                   try go_wp2
                   have n0_:=aM (Kd.R_drew HO_14.out)
                   have n1_:=aM (Kd.R_drew HO_561001.out)
                   have n2_:=aM (Kd.R_drew HO_567001.out)
                   have n3_:=aM (Kd.R_drew HO_578001.out)
                   have n4_:=aM (Kd.R_drew HO_579001.out)
                   have n5_:=aM (blk_drew BK560.out)
                   have n6_:=aM (blk_drew BK566.out)
                   have n7_:=aM (blk_drew BK577.out)
                   have n8_:=aM (blk_drew BK578.out)
                   have n9_:=aM (below_drew1 HB.out)
                   clear HO_14
                   clear HO_561001
                   clear HO_567001
                   clear HO_578001
                   clear HO_579001
                   clear BK560
                   clear BK566
                   clear BK577
                   clear BK578
                   clear HB
                   have HO_14:=n0_
                   have HO_561001:=n1_
                   have HO_567001:=n2_
                   have HO_578001:=n3_
                   have HO_579001:=n4_
                   have BK560:=n5_
                   have BK566:=n6_
                   have BK577:=n7_
                   have BK578:=n8_
                   have HB:=n9_
                   clear n0_ n1_ n2_ n3_ n4_ n5_ n6_ n7_ n8_ n9_
                   have p611:0≤(x15_4:Int):=dT (z0_)
                   have q611:x15_4<(t608.length:Int):=dT (z0_)
                   obtain ⟨ad611,e611,hx611_0⟩:=Kd.at_int (Kd.R_reads' HO_14.out).2.2 x15_4 p611 q611
                   cases e611
                   replace p611:=eq_true p611
                   replace q611:=eq_true q611
                   refine start_ (n:=8) (S:=fun w'=>w'.cell? ⟨gb566,0,none⟩=some (.int .i64 t561)∧w'.cell? ⟨gb566,1,none⟩=some (.slice Ao25 t562.length co25)∧w'.cell? ⟨gb566,2,none⟩=some (.int .i64 t565)∧w'.cell? (ad611.add (x15_4).toNat)=some (.int .i64 (rd t608 x15_4))) (ds:=[]) #[O,O,O,O,O,O,O,O] (by kernel_rfl) rfl rfl (cj3_ BK566.out hx611_0) (fun hHeld=>?_);refine with_tabW Y9.tab23 Y9.bits23 (fun HT_ HW_=>?_)
                   generalize wr.drew=w97 at HO_14 HO_561001 HO_567001 HO_578001 HO_579001 BK560 BK566 BK577 BK578 HB hx611_0 hHeld ⊢
                   refine pu_ 0 113 #[I,O,O,O,O,O,O,O] HT_.out ?_
                   refine pu_ 1 114 #[I,I,O,O,O,O,O,O] HT_.out ?_
                   refine pu_ 2 115 #[I,I,I,O,O,O,O,O] HT_.out ?_
                   refine pu_ 4 117 #[I,I,I,O,I,O,O,O] HT_.out ?_
                   refine pu_ 5 118 #[I,I,I,O,I,I,O,O] HT_.out ?_
                   refine tk4_ 3 116 #[I,I,I,I,I,I,O,O] HT_.out HW_.out hHeld ?_
                   refine tk4_ 6 119 #[I,I,I,I,I,I,I,O] HT_.out HW_.out hHeld ?_
                   refine pu_ 7 120 #[I,I,I,I,I,I,I,I] HT_.out ?_
                   refine done_ (done_of HT_.out (by kernel_rfl)) ?_
                   try go_wp2
                   go_roundg k4
                   case measure=>have:=HJ2.out;have:=HJ15.out;have:=HK3.out;have:=HK4.out;omega
                   case rel=>exact ⟨(wrap64 (x15_4+1)),(z2_),H',⟨by have:=HJ2.out;have:=HJ15.out;have:=HK3.out;have:=HK4.out;omega⟩,⟨z1_ HO_14.out⟩,⟨z1_ HO_561001.out⟩,⟨z1_ HO_567001.out⟩,⟨z1_ HO_578001.out⟩,⟨z1_ HO_579001.out⟩,⟨z3_ BK560.out⟩,⟨z3_ BK566.out⟩,⟨z3_ BK577.out⟩,⟨z3_ BK578.out⟩,⟨z14_ HB.out GE560.out GE566.out GE577.out GE578.out⟩⟩
                  ·rw [if_neg c95] at H
                   exact nO H
                 ·rw [if_neg c94] at H
                  exact nO H
                ·rw [if_neg c93] at H
                 have c93b0:decide (x15_4<(t608.length:Int))=false:=dF c93
                 clear c93
                 by_cases c98:(t608.length:Int)≤1
                 ·rw [if_pos c98] at H
                  have c98b0:decide ((t608.length:Int)≤1)=true:=dE c98
                  have c98b1:decide (t608.length≤1)=true:=dE (by omega)
                  clear c98
                  replace H:=bS H
                  obtain ⟨t612,A990,H⟩:=H
                  replace H:(some ((t612.length:Int) == 0))=some r:=H
                  have A99:=aM A990
                  clear A990
                  obtain rfl:=sI H
                  obtain ⟨Ao100,co100,eo100⟩:=Kd.R_slice HO_14.out
                  subst eo100
                  have hnb101:=NB560_566.out
                  have hnc101:=NB566_560.out
                  have hnb102:=NB560_577.out
                  have hnc102:=NB577_560.out
                  have hnb103:=NB560_578.out
                  have hnc103:=NB578_560.out
                  have ⟨hcz104_0,hcz104_1,hfz104_0,hfz104_1⟩:=cz2_ BK560.out
                  go_wp2_with (first | (go_at_call 19;(with_reducible refine (Y23.calls k4 t556 _ _ t557 t556 _ _ t557 t575 2 t612 _ ?s1 ?s2 ?s3 ?s4 A99.out).mono ?_);(case s1=>repeat (first | exact (Kd.R_reads' HO_561001.out).2.2 | (with_reducible refine Kd.C_alloc ?_ _) | (with_reducible refine Kd.C_drewN ?_ _) | (with_reducible refine Kd.C_drew ?_)));(case s2=>exact (Kd.R_reads' HO_561001.out).2.1);(case s3=>repeat (first | exact (Kd.R_reads' HO_561001.out).2.2 | (with_reducible refine Kd.C_alloc ?_ _) | (with_reducible refine Kd.C_drewN ?_ _) | (with_reducible refine Kd.C_drew ?_)));(case s4=>exact (Kd.R_reads' HO_561001.out).2.1);rintro e w105 ⟨v613,rfl,ho0,hb⟩;have n0_:=aM (Kd.R_elder' (z1_ HO_14.out) (Kd.R_base ho0) hb);have n1_:=aM (Kd.R_below (z1_ HO_561001.out) hb);have n2_:=aM (Kd.R_below (z1_ HO_567001.out) hb);have n3_:=aM (Kd.R_below (z1_ HO_578001.out) hb);have n4_:=aM (Kd.R_below (z1_ HO_579001.out) hb);have n5_:=aM (Kd.R_lower (Kd.R_new' ho0 (Kd.R_lt (z1_ HO_14.out))) (below_size (z14_ HB.out GE560.out GE566.out GE577.out GE578.out)));have n6_:=aM (blkB_ BK560.out hb);have n7_:=aM (blkB_ BK566.out hb);have n8_:=aM (blkB_ BK577.out hb);have n9_:=aM (blkB_ BK578.out hb);have n10_:=aM (below_step (z14_ HB.out GE560.out GE566.out GE577.out GE578.out) hb);clear HO_14;clear HO_561001;clear HO_567001;clear HO_578001;clear HO_579001;clear BK560;clear BK566;clear BK577;clear BK578;clear HB;have HO_14:=n0_;have HO_561001:=n1_;have HO_567001:=n2_;have HO_578001:=n3_;have HO_579001:=n4_;have HO614:=n5_;have BK560:=n6_;have BK566:=n7_;have BK577:=n8_;have BK578:=n9_;have HB:=n10_;clear n0_ n1_ n2_ n3_ n4_ n5_ n6_ n7_ n8_ n9_ n10_;(try clear hb);(try clear ho0);obtain ⟨Ao106,co106,eo106⟩:=Kd.R_slice HO614.out;subst eo106))
                  go_ret
                  exact ⟨z9_,z14_ HB.out GE560.out GE566.out GE577.out GE578.out⟩
                 ·rw [if_neg c98] at H
                  exact nO H
             ·rw [if_neg c78] at H
              exact nO H
            ·replace c77:=Bool.eq_false_iff.mpr c77
             subst c77
             have H1:(none)=some r:=by rw [if_neg (show ¬ (false=true) by decide)] at H;exact H
             clear H
             have H:=H1
             clear H1
             exact nO H
     ·replace c15:=Bool.eq_false_iff.mpr c15
      subst c15
      have H1:(none)=some r:=by rw [if_neg (show ¬ (false=true) by decide)] at H;exact H
      clear H
      have H:=H1
      clear H1
      exact nO H
    ·replace c11:=Bool.eq_false_iff.mpr c11
     subst c11
     have H1:(none)=some r:=by rw [if_neg (show ¬ (false=true) by decide)] at H;exact H
     clear H
     have H:=H1
     clear H1
     exact nO H

end Go.Proofs.YtelecnmflodkkaaDoor.P

namespace Go.Proofs.YtelecnmflodkkaaDoor.P
open Go.RowKit
def Y9.Pure:Prop:=∀ (x0:List Int) (x1:List Int),(x0.length≤maxLen∧∀ y_ ∈ x0,(Lit.int .u8 y_).wf=true)→(x1.length≤maxLen∧∀ y_ ∈ x1,(Lit.int .u8 y_).wf=true)→∃ k,Y9.f k x0 x1=some true
end Go.Proofs.YtelecnmflodkkaaDoor.P

namespace Go.Proofs.YtelecnmflodkkaaDoor.Q
open Go.RowKit Go.Proofs.YtelecnmflodkkaaDoorW.PrintWords Go.Proofs.YtelecnmflodkkaaDoorW.PrintMore

theorem w64 {x:Int} (h0 : -9223372036854775808≤x) (h1:x≤9223372036854775807):wrap64 x=x:=by unfold wrap64;omega
theorem u64w (n:Int):IntKind.u64.wrap n=n % 18446744073709551616:=by simp [IntKind.wrap,IntKind.bits,IntKind.signed]
theorem evIte {α:Type} {c:Prop} [Decidable c] {f g:Nat→Option α} {r:α} (h:c→Ev f r) (h':¬ c→Ev g r):Ev (fun k=>if c then f k else g k) r:=by
  by_cases hc:c
  · simp only [if_pos hc];exact h hc
  · simp only [if_neg hc];exact h' hc
theorem evPos {α:Type} {c:Prop} [Decidable c] {f g:Nat→Option α} {r:α} (hc:c) (h:Ev f r):Ev (fun k=>if c then f k else g k) r:=by
  simp only [if_pos hc];exact h
theorem evNeg {α:Type} {c:Prop} [Decidable c] {f g:Nat→Option α} {r:α} (hc:¬ c) (h:Ev g r):Ev (fun k=>if c then f k else g k) r:=by
  simp only [if_neg hc];exact h
theorem evBind1 {α β:Type} {g:Option α} {f:Nat→α→Option β} {a:α} {r:β} (h:g=some a) (k:Ev (fun n=>f n a) r):Ev (fun n=>g.bind (f n)) r:=by
  subst h;exact k
theorem dropCons {α:Type} {l:List α} {i:Nat} {a:α} {s:List α} (h:l.drop i=a :: s) (d:α):i<l.length∧l.getD i d=a∧l.drop (i+1)=s:=by
  have hl:i<l.length:=by
    have:=congrArg List.length h
    simp at this;omega
  rw [List.drop_eq_getElem_cons hl] at h
  injection h with h1 h2
  exact ⟨hl,by rw [List.getD_eq_getElem?_getD,List.getElem?_eq_getElem hl];exact h1,h2⟩
theorem dropNil {α:Type} {l:List α} {i:Nat} (h:l.drop i=[]):l.length≤i:=by
  have:=congrArg List.length h
  simp at this;omega
theorem dropNil' {α:Type} {l:List α} {i:Nat} (h:l.drop i=[]) (hi:i≤l.length):l.length=i:=by
  have:=dropNil h;omega
theorem wraps_i64 (n:Int) (h₀:0≤n) (h₁:n<2 ^ 63):IntKind.i64.wrap n=n:=by rw [IntKind.wrap_i64];omega
end Go.Proofs.YtelecnmflodkkaaDoor.Q

namespace Go.Proofs.YtelecnmflodkkaaDoor.Q
open Go.RowKit Go.Proofs.YtelecnmflodkkaaDoor.P Go.Proofs.YtelecnmflodkkaaDoorW.PrintWords Go.Proofs.YtelecnmflodkkaaDoorW.PrintMore

def isWithin (n low high:Int):Bool:=decide (low≤n) && decide (n≤high)
def isNode (n:Int):Bool:=isWithin n 1 5
theorem l02Is_is (n a b:Int):Y81.f n a b=some (isWithin n a b):=by
  unfold Y81.f isWithin
  split
  · rename_i h;simp [show a≤n from h]
  · rename_i h;simp [show ¬ a≤n from h]
theorem l02Node_is (n:Int):Y52.f n=some (isNode n):=by simp [Y52.f,l02Is_is,isNode]
theorem within_is (n a b:Int):Y58.f n a b=some (isWithin n a b):=by
  unfold Y58.f isWithin
  split
  · rename_i h;simp [show a≤n from h]
  · rename_i h;simp [show ¬ a≤n from h]
theorem isNode_is (n:Int):Y65.f n=some (isNode n):=by simp [Y65.f,within_is,isNode]
theorem isNode_iff (n:Int):isNode n=true ↔ 1≤n∧n≤5:=by simp [isNode,isWithin]
end Go.Proofs.YtelecnmflodkkaaDoor.Q

namespace Go.Proofs.YtelecnmflodkkaaDoor.P
open Go.RowKit Go.Proofs.YtelecnmflodkkaaDoorW.PrintWords Go.Proofs.YtelecnmflodkkaaDoorW.PrintLast Go.Proofs.YtelecnmflodkkaaDoorW.PrintMore
attribute [local go_sem] max2_int min2_int max_two min_two max_three min_three max_four min_four   -- for this text's walks alone
set_option linter.unusedVariables false
set_option linter.unusedSimpArgs false

/-! ### Y90: function 57 -/
def Y90.f (l0:List (S116)) (a1:Int):Option (Int):=if (wrap64 (a1-(l0.length:Int)))<0 then (some (-1)) else (some (wrap64 (a1-(l0.length:Int))))

/-! ### Y91: function 94 -/
def Y91.f (a0_0:Int) (a0_1:Int):Option (Int × Int):=some (a0_0,a0_1)

/-! ### Y62: function 58 -/
def Y62.l0:Nat→List (S116)→List (S77)→Int→Option ((List (S77)))
 | 0,_,_,_=>none
 | k+1,x0,x3,x4=>if x4<(x0.length:Int) then (if 0≤x4 then ((Y91.f ((rd_T116 x0 x4).f0) ((rd_T116 x0 x4).f1)).bind fun bt624=>(if x4<(x3.length:Int) then (Y62.l0 k x0 (x3.set (x4:Int).toNat (⟨bt624.1,bt624.2⟩:S77)) (wrap64 (x4+1))) else (none))) else (none)) else (some x3)
def Y62.f (k:Nat) (l0:List (S116)):Option ((List (S77))):=if 0≤(l0.length:Int) then (if ((l0.length:Int):Int).toNat≤17592186044416 then (Y62.l0 k l0 (List.replicate ((l0.length:Int):Int).toNat z77) 0) else (none)) else (none)
theorem Y62.mono_l:∀ k,(∀ y0 y1 y2,LeO (Y62.l0 k y0 y1 y2) (Y62.l0 (k+1) y0 y1 y2))
 | 0=>by intros <;> exact LeO.none _
 | k+1=>by
  have ih0:=Y62.mono_l k
  ·intros
   unfold Y62.l0
   exact mO
theorem Y62.mono:∀ a0 k,LeO (Y62.f k a0) (Y62.f (k+1) a0):=by
 intro a0 k
 have ih0:=Y62.mono_l k
 unfold Y62.f
 exact mO

/-! ### Y92: function 95 -/
def Y92.f (a0_0:Int) (a0_1:Int) (a1_0:Int) (a1_1:Int):Option (Bool):=if a0_0=a1_0 then (if a0_1=a1_1 then (some true) else (none)) else (none)

/-! ### Y63: function 59 -/
def Y63.l0:Nat→List (S77)→List (S77)→Int→Option (Bool)
 | 0,_,_,_=>none
 | k+1,x0,x1,x5=>if x5<(x0.length:Int) then (if 0≤x5 then (if x5<(x1.length:Int) then ((Y92.f ((rd_T77 x0 x5).f0) ((rd_T77 x0 x5).f1) ((rd_T77 x1 x5).f0) ((rd_T77 x1 x5).f1)).bind fun t259=>(if t259=true then (Y63.l0 k x0 x1 (wrap64 (x5+1))) else (none))) else (none)) else (none)) else (some true)
def Y63.f (k:Nat) (l0:List (S77)) (l1:List (S77)):Option (Bool):=if (l0.length:Int)=(l1.length:Int) then (Y63.l0 k l0 l1 0) else (none)
theorem Y63.mono_l:∀ k,(∀ y0 y1 y2,LeO (Y63.l0 k y0 y1 y2) (Y63.l0 (k+1) y0 y1 y2))
 | 0=>by intros <;> exact LeO.none _
 | k+1=>by
  have ih0:=Y63.mono_l k
  ·intros
   unfold Y63.l0
   exact mO
theorem Y63.mono:∀ a0 a1 k,LeO (Y63.f k a0 a1) (Y63.f (k+1) a0 a1):=by
 intro a0 a1 k
 have ih0:=Y63.mono_l k
 unfold Y63.f
 exact mO

/-! ### Y54: function 60 -/
def Y54.l0:Nat→List (S77)→Int→Int→Option (Int × (List (S77)))
 | 0,_,_,_=>none
 | k+1,x0,x1,x5=>if x5<(x0.length:Int) then (if 0≤x5 then ((some (x0.set (x5:Int).toNat (⟨x1,(rd_T77 x0 x5).f1⟩:S77):List (S77))).bind fun y266=>(Y54.l0 k (y266.set (x5:Int).toNat (⟨(rd_T77 y266 x5).f0,wrap64 (x1+1)⟩:S77)) (wrap64 ((wrap64 (x1+1))+1)) (wrap64 (x5+1)))) else (none)) else (some (x1,x0))
def Y54.f (k:Nat) (l0:List (S77)) (a1:Int):Option (Int × (List (S77))):=Y54.l0 k l0 a1 0
theorem Y54.mono_l:∀ k,(∀ y0 y1 y2,LeO (Y54.l0 k y0 y1 y2) (Y54.l0 (k+1) y0 y1 y2))
 | 0=>by intros <;> exact LeO.none _
 | k+1=>by
  have ih0:=Y54.mono_l k
  ·intros
   unfold Y54.l0
   exact mO
theorem Y54.mono:∀ a0 a1 k,LeO (Y54.f k a0 a1) (Y54.f (k+1) a0 a1):=by
 intro a0 a1 k
 have ih0:=Y54.mono_l k
 unfold Y54.f
 exact mO

/-! ### Y55: function 81 -/
def Y55.l0:Nat→List (S77)→Int→Int→Option (Int)
 | 0,_,_,_=>none
 | k+1,x0,x1,x5=>if x5<(x0.length:Int) then (if 0≤x5 then (if ((rd_T77 x0 x5).f0)=x1 then (if ((rd_T77 x0 x5).f1)=(wrap64 (x1+1)) then (Y55.l0 k x0 (wrap64 ((wrap64 (x1+1))+1)) (wrap64 (x5+1))) else (none)) else (none)) else (none)) else (some x1)
def Y55.f (k:Nat) (l0:List (S77)) (a1:Int):Option (Int):=Y55.l0 k l0 a1 0
theorem Y55.mono_l:∀ k,(∀ y0 y1 y2,LeO (Y55.l0 k y0 y1 y2) (Y55.l0 (k+1) y0 y1 y2))
 | 0=>by intros <;> exact LeO.none _
 | k+1=>by
  have ih0:=Y55.mono_l k
  ·intros
   unfold Y55.l0
   exact mO
theorem Y55.mono:∀ a0 a1 k,LeO (Y55.f k a0 a1) (Y55.f (k+1) a0 a1):=by
 intro a0 a1 k
 have ih0:=Y55.mono_l k
 unfold Y55.f
 exact mO

/-! ### Y93: function 23 -/
def Y93.f (a0_0:Int) (l0_1:List (S116)) (a1:Int):Option (Int):=(Y90.f l0_1 a1).bind fun t616=>(if t616<0 then (some (-1)) else (some t616))

/-! ### Y89: function 24 -/
def Y89.f (k:Nat) (a0_0:Int) (l0_1:List (S116)):Option (Int × (List (S77))):=(Y62.f k l0_1).bind fun t630=>(some (a0_0,t630))
theorem Y89.mono:∀ a0 a1 k,LeO (Y89.f k a0 a1) (Y89.f (k+1) a0 a1):=by
 intro a0 a1 k
 have m0:=@Y62.mono
 unfold Y89.f
 exact mO

/-! ### Y87: function 26 -/
def Y87.f (k:Nat) (a0_0:Int) (l0_1:List (S77)) (a1_0:Int) (l1_1:List (S77)):Option (Bool):=if a0_0=a1_0 then ((Y63.f k l0_1 l1_1).bind fun t262=>(if t262=true then (some true) else (none))) else (none)
theorem Y87.mono:∀ a0 a1 a2 a3 k,LeO (Y87.f k a0 a1 a2 a3) (Y87.f (k+1) a0 a1 a2 a3):=by
 intro a0 a1 a2 a3 k
 have m0:=@Y63.mono
 unfold Y87.f
 exact mO

/-! ### Y88: function 10 -/
def Y88.f (k:Nat) (a0_0:Int) (l0_1:List (S77)) (a0_2:Int) (a1_0:Int) (l1_1:List (S77)) (a1_2:Int):Option (Bool):=(Y87.f k a0_0 l0_1 a1_0 l1_1).bind fun t265=>(if t265=true then (if a0_2=a1_2 then (some true) else (none)) else (none))
theorem Y88.mono:∀ a0 a1 a2 a3 a4 a5 k,LeO (Y88.f k a0 a1 a2 a3 a4 a5) (Y88.f (k+1) a0 a1 a2 a3 a4 a5):=by
 intro a0 a1 a2 a3 a4 a5 k
 have m0:=@Y87.mono
 unfold Y88.f
 exact mO

/-! ### Y79: function 27 -/
def Y79.f (k:Nat) (a0_0:Int) (l0_1:List (S77)) (a1:Int):Option (Int × (List (S77))):=(Y54.f k l0_1 a1).bind fun bt269=>(some (bt269.1,bt269.2))
theorem Y79.mono:∀ a0 a1 a2 k,LeO (Y79.f k a0 a1 a2) (Y79.f (k+1) a0 a1 a2):=by
 intro a0 a1 a2 k
 have m0:=@Y54.mono
 unfold Y79.f
 exact mO

/-! ### Y80: function 44 -/
def Y80.f (k:Nat) (a0_0:Int) (l0_1:List (S77)) (a1:Int):Option (Int):=(Y55.f k l0_1 a1).bind fun t277=>(if t277<0 then (none) else (some t277))
theorem Y80.mono:∀ a0 a1 a2 k,LeO (Y80.f k a0 a1 a2) (Y80.f (k+1) a0 a1 a2):=by
 intro a0 a1 a2 k
 have m0:=@Y55.mono
 unfold Y80.f
 exact mO

/-! ### Y83: function 11 -/
def Y83.f (k:Nat) (a0_0:Int) (l0_1:List (S77)) (a0_2:Int) (a1:Int):Option (Int × (List (S77))):=(Y79.f k a0_0 l0_1 a1).bind fun bt272=>(some (bt272.1,bt272.2))
theorem Y83.mono:∀ a0 a1 a2 a3 k,LeO (Y83.f k a0 a1 a2 a3) (Y83.f (k+1) a0 a1 a2 a3):=by
 intro a0 a1 a2 a3 k
 have m0:=@Y79.mono
 unfold Y83.f
 exact mO
end Go.Proofs.YtelecnmflodkkaaDoor.P
