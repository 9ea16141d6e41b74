/- For all numbers the program's WorldNew and the reference's return the same, of memory of its own. No condition. (Part 3 of 4: written by programs of this workplace and by hand, merged.) -/
import Derived.Test.YtelecnmflodkkaaGreatDoorMFnExactWorldNewa
import Derived.Test.YtelecnmflodkkaaGreatDoorMFnExactWorldNewb
set_option linter.unusedVariables false
set_option linter.unusedSimpArgs false
set_option maxHeartbeats 8000000
set_option maxRecDepth 100000

namespace Go.Proofs.YtelecnmflodkkaaGreatDoor.P
open Go.RowKit Go.Proofs.YtelecnmflodkkaaGreatDoorW.PrintWords Go.Proofs.YtelecnmflodkkaaGreatDoorW.PrintLast Go.Proofs.YtelecnmflodkkaaGreatDoorW.PrintMore
attribute [local go_sem] max2_int min2_int max_two min_two max_three min_three max_four min_four   -- for this text's walks alone
set_option linter.unusedVariables false
set_option linter.unusedSimpArgs false

/-! ### Y10: function 43 -/
mutual
def Y10.l0:Nat→Int→Int→Int→Int→List (S78)→Option (Int × (List (S78)))
 | 0,_,_,_,_,_=>none
 | k+1,x0,x1,x6,x325000,x325001=>if x6≤x0 then (Y10.l1 k x0 x1 x6 1 x325000 x325001) else ((Y12.f k x325001).bind fun t325=>(some (x325000,t325)))
def Y10.l1:Nat→Int→Int→Int→Int→Int→List (S78)→Option (Int × (List (S78)))
 | 0,_,_,_,_,_,_=>none
 | k+1,x0,x1,x6,x7,x325000,x325001=>if x7≤x1 then ((Y67.f k x6).bind fun t326=>(if t326.size+1≤9223372036854775807 then ((Y67.f k x7).bind fun t327=>(if (t326.size+1)+t327.size≤9223372036854775807 then ((Y60.f k ((t326 ++ (⟨#[45]⟩:ByteArray)) ++ t327)).bind fun t328=>(if x325001.length<8796093022208 then (Y10.l1 k x0 x1 x6 (wrap64 (x7+1)) x325000 (x325001 ++ [(⟨t328,x6⟩:S78)])) else (none))) else (none))) else (none))) else (Y10.l0 k x0 x1 (wrap64 (x6+1)) x325000 x325001)
end
def Y10.f (k:Nat) (a0:Int) (a1:Int):Option (Int × (List (S78))):=Y10.l0 k a0 a1 1 a0 ([]:List (S78))
theorem Y10.mono_l:∀ k,(∀ y0 y1 y2 y3 y4,LeO (Y10.l0 k y0 y1 y2 y3 y4) (Y10.l0 (k+1) y0 y1 y2 y3 y4))∧(∀ y0 y1 y2 y3 y4 y5,LeO (Y10.l1 k y0 y1 y2 y3 y4 y5) (Y10.l1 (k+1) y0 y1 y2 y3 y4 y5))
 | 0=>by refine ⟨?_,?_⟩ <;> intros <;> exact LeO.none _
 | k+1=>by
  obtain ⟨ih0,ih1⟩:=Y10.mono_l k
  have m0:=@Y67.mono
  have m1:=@Y60.mono
  have m2:=@Y12.mono
  refine ⟨?_,?_⟩
  ·intros
   unfold Y10.l0
   exact mO
  ·intros
   unfold Y10.l1
   exact mO
theorem Y10.mono:∀ a0 a1 k,LeO (Y10.f k a0 a1) (Y10.f (k+1) a0 a1):=by
 intro a0 a1 k
 have m0:=@Y67.mono
 have m1:=@Y60.mono
 have m2:=@Y12.mono
 obtain ⟨ih0,ih1⟩:=Y10.mono_l k
 unfold Y10.f
 exact mO
def Y10.T8:Bool × List (List Nat × List Nat):=(true,[([],[]),([0],[0]),([],[]),([2],[2]),([3],[3]),([],[]),([5,3],[5]),([4,6],[4,6]),([7,6],[7]),([],[]),([8,9],[8,9]),([10],[10]),([1,11,8],[1,11]),([0,1,2,3,4,5,6,7,8,9,10,11,12],[]),([13,12,12,0,1,2,3,4,5,6,7,8,9,10,11,12],[12,13])])
def Y10.B8:List Nat:=[0,1,0,4,12,0,44,124,252,0,1020,2044,4095,8191,16383]
theorem Y10.tab8:rtab .any (opsOf Tryz.f43 8)=Y10.T8:=by kernel_rfl
theorem Y10.bits8:waitsOk Y10.T8.2 Y10.B8=true:=by kernel_rfl
theorem Y10.calls (k:Nat) (a0:Int) (a1:Int) (r1:Int) (r2:List (S78)) (w:World) (h:Y10.f k a0 a1=some (r1,r2)) :
  Calls Tryz.prog 43 #[.int .i64 a0,.int .i64 a1] w fun e w'=>∃ v1_:Value,e = .returned (.agg #[.int .i64 r1,v1_])∧Kd.R k78 78 w' w.heap.size (fun _=>True) v1_ r2∧Below w.heap.size w w':=by
 have hu27:=Tryz.underlying27
 have hu78:=Tryz.underlying78
 have HB:=aM (Below.refl w.heap.size w)
 have H:(Y10.l0 k a0 a1 1 a0 ([]:List (S78)))=some (r1,r2):=h
 clear h
 have H':=aM H
 clear H
 go_enter Tryz.func43,Tryz.ntmps43
 go_wp2_with (first | ((with_reducible refine gd_ 4 ?_);refine be_ 4 #[.int .i64 0,.slice none 0 0] 27 ?_;intro gb323 hg w3 hbox hb;have n0_:=aM (below_step (z3_ HB.out) hb);have n1_:=aM (hbox);have n2_:=aM ((z9_ HB.out:w.heap.size≤gb323));have n3_:=aM ((z9_ HB.out:w.heap.size≤gb323));clear HB;have HB:=n0_;have BK323:=n1_;have GW323:=n2_;have GE323:=n3_;clear n0_ n1_ n2_ n3_;clear hb hbox hg) | ((with_reducible refine gd_ 5 ?_);refine be_ 5 #[.int .i64 0,.slice none 0 0] 27 ?_;intro gb324 hg w4 hbox hb;have n0_:=aM (blkB_ BK323.out hb);have n1_:=aM (below_step (z7_ HB.out GE323.out) hb);have n2_:=aM (hbox);have n3_:=aM ((z11_ HB.out GE323.out:w.heap.size≤gb324));have n4_:=aM ((z11_ HB.out GE323.out:w.heap.size≤gb324));have n5_:=aM (neL_ BK323.out hg);have n6_:=aM (neG_ BK323.out hg);clear BK323;clear HB;have BK323:=n0_;have HB:=n1_;have BK324:=n2_;have GW324:=n3_;have GE324:=n4_;have NB323_324:=n5_;have NB324_323:=n6_;clear n0_ n1_ n2_ n3_ n4_ n5_ n6_;clear hb hbox hg;have hnb5:=NB324_323.out;have hnc5:=NB323_324.out;have ⟨hcz6_0,hcz6_1,hfz6_0,hfz6_1⟩:=cz2_ BK324.out))
 go_loopg [6] k (fun kq v6 w'=>∃ (x6_1:Int) (x325001_1:List (S78)) (u325001:Value),v6 = .int .i64 x6_1∧Aside0 (Y10.l0 kq a0 a1 x6_1 a0 x325001_1=some (r1,r2))∧Aside0 (kq≤k)∧Aside0 (Kd.R k78 78 w' w.heap.size (fun _=>True) u325001 x325001_1)∧Aside0 (w'.heap[gb323]? = some (.cells #[.int .i64 0,(.slice none 0 0)] 27 (0,0)))∧Aside0 (w'.heap[gb324]? = some (.cells #[.int .i64 a0,u325001] 27 (0,0)))∧Aside0 (Below w.heap.size w w'))
 case atStart=>exact ⟨(1),(([]:List (S78))),(.slice none 0 0),(z1_),H',⟨Nat.le_refl _⟩,⟨z13_⟩,⟨z34_ NB323_324.out BK323.out⟩,⟨z33_ BK324.out⟩,⟨z8_ HB.out GE323.out GE324.out⟩⟩
 case round =>
  clear H'
  try clear p2
  try clear c4
  try clear c5
  try clear hcz6_0
  try clear hcz6_1
  try clear hfz6_0
  try clear hfz6_1
  obtain ⟨x6_1,x325001_1,u325001,rfl,HA,HK1,HO_325001,BK323,BK324,HB⟩:=hrel
  cases gk with
  | zero=>exact absurd HA.out (by simp [Y10.l0])
  | succ k1 =>
   have H:=HA.out
   clear HA
   simp only [Y10.l0] at H
   by_cases c7:x6_1≤a0
   ·rw [if_pos c7] at H
    have c7b0:decide (x6_1≤a0)=true:=dE c7
    clear c7
    have H':=aM H
    clear H
    go_wp2
    go_loopg [7] k1 (fun kq v7 w'=>∃ (x7_2:Int) (x325001_2:List (S78)) (u325001:Value),v7 = .int .i64 x7_2∧Aside0 (Y10.l1 kq a0 a1 x6_1 x7_2 a0 x325001_2=some (r1,r2))∧Aside0 (kq≤k1)∧Aside0 (Kd.R k78 78 w' w.heap.size (fun _=>True) u325001 x325001_2)∧Aside0 (w'.heap[gb323]? = some (.cells #[.int .i64 0,(.slice none 0 0)] 27 (0,0)))∧Aside0 (w'.heap[gb324]? = some (.cells #[.int .i64 a0,u325001] 27 (0,0)))∧Aside0 (Below w.heap.size w w'))
    case atStart=>exact ⟨(1),(x325001_1),(u325001),(z1_),H',⟨Nat.le_refl _⟩,⟨z0_ HO_325001.out⟩,⟨z4_ BK323.out⟩,⟨z4_ BK324.out⟩,⟨z8_ HB.out GE323.out GE324.out⟩⟩
    case round =>
     clear H'
     try clear p2
     try clear c4
     try clear c5
     try clear c7
     try clear c7b0
     try clear hcz6_0
     try clear hcz6_1
     try clear hfz6_0
     try clear hfz6_1
     try clear p2
     obtain ⟨x7_2,x325001_2,u325001,rfl,HA,HK2,HO_325001,BK323,BK324,HB⟩:=hrel
     cases gk with
     | zero=>exact absurd HA.out (by simp [Y10.l1])
     | succ k2 =>
      have H:=HA.out
      clear HA
      simp only [Y10.l1] at H
      by_cases c8:x7_2≤a1
      ·rw [if_pos c8] at H
       have c8b0:decide (x7_2≤a1)=true:=dE c8
       clear c8
       replace H:=bS H
       obtain ⟨t326,A90,H⟩:=H
       replace H:(if t326.size+1≤9223372036854775807 then ((Y67.f k2 x7_2).bind fun t327=>(if (t326.size+1)+t327.size≤9223372036854775807 then ((Y60.f k2 ((t326 ++ (⟨#[45]⟩:ByteArray)) ++ t327)).bind fun t328=>(if x325001_2.length<8796093022208 then (Y10.l1 k2 a0 a1 x6_1 (wrap64 (x7_2+1)) a0 (x325001_2 ++ [(⟨t328,x6_1⟩:S78)])) else (none))) else (none))) else (none))=some (r1,r2):=H
       have A9:=aM A90
       clear A90
       by_cases c10:t326.size+1≤9223372036854775807
       ·rw [if_pos c10] at H
        have c10b0:=eq_true c10
        have c10b1:decide (t326.size+1≤9223372036854775807)=true:=dE c10
        try have c10b2:(9223372036854775807<t326.size+1)=False:=eq_false (Nat.not_lt.2 c10)
        replace H:=bS H
        obtain ⟨t327,A110,H⟩:=H
        replace H:(if (t326.size+1)+t327.size≤9223372036854775807 then ((Y60.f k2 ((t326 ++ (⟨#[45]⟩:ByteArray)) ++ t327)).bind fun t328=>(if x325001_2.length<8796093022208 then (Y10.l1 k2 a0 a1 x6_1 (wrap64 (x7_2+1)) a0 (x325001_2 ++ [(⟨t328,x6_1⟩:S78)])) else (none))) else (none))=some (r1,r2):=H
        have A11:=aM A110
        clear A110
        by_cases c12:(t326.size+1)+t327.size≤9223372036854775807
        ·rw [if_pos c12] at H
         have c12b0:=eq_true c12
         have c12b1:decide ((t326.size+1)+t327.size≤9223372036854775807)=true:=dE c12
         try have c12b2:(9223372036854775807<(t326.size+1)+t327.size)=False:=eq_false (Nat.not_lt.2 c12)
         replace H:=bS H
         obtain ⟨t328,A130,H⟩:=H
         replace H:(if x325001_2.length<8796093022208 then (Y10.l1 k2 a0 a1 x6_1 (wrap64 (x7_2+1)) a0 (x325001_2 ++ [(⟨t328,x6_1⟩:S78)])) else (none))=some (r1,r2):=H
         have A13:=aM A130
         clear A130
         by_cases c14:x325001_2.length<8796093022208
         ·rw [if_pos c14] at H
          have LMc14:=aM c14
          clear c14
          obtain ⟨y329,hy329⟩:∃ y_:List (S78),y_=(x325001_2 ++ [(⟨t328,x6_1⟩:S78)]):=⟨_,rfl⟩
          replace H:(Y10.l1 k2 a0 a1 x6_1 (wrap64 (x7_2+1)) a0 y329)=some (r1,r2):=by first | (rw [hy329];with_reducible exact H) | (have H2_:=(Option.bind_some _ _).symm.trans H;rw [hy329];with_reducible exact H2_) | (have H2_:=(Option.bind_some _ _).symm.trans H;with_reducible exact H2_) | with_reducible exact H | (rw [hy329];exact H) | exact H
          have Ny329:=aM hy329
          clear hy329
          have H':=aM H
          clear H
          try go_wp2
          have n0_:=aM (Kd.R_drew HO_325001.out)
          have n1_:=aM (blk_drew BK323.out)
          have n2_:=aM (blk_drew BK324.out)
          have n3_:=aM (below_drew1 HB.out)
          clear HO_325001
          clear BK323
          clear BK324
          clear HB
          have HO_325001:=n0_
          have BK323:=n1_
          have BK324:=n2_
          have HB:=n3_
          clear n0_ n1_ n2_ n3_
          refine start_ (n:=15) (S:=fun w'=>w'.cell? ⟨gb324,0,none⟩=some (.int .i64 a0)∧w'.cell? ⟨gb324,1,none⟩=some (u325001)) (ds:=[14]) #[O,O,O,O,O,O,O,O,O,O,O,O,O,O,O] (by kernel_rfl) rfl rfl (cc2_ BK324.out) (fun hHeld=>?_);refine with_tabW Y10.tab8 Y10.bits8 (fun HT_ HW_=>?_)
          generalize wr.drew=w15 at HO_325001 BK323 BK324 HB hHeld ⊢
          refine pu_ 0 20 #[I,O,O,O,O,O,O,O,O,O,O,O,O,O,O] HT_.out ?_
          refine pu_ 2 22 #[I,O,I,O,O,O,O,O,O,O,O,O,O,O,O] HT_.out ?_
          refine pu_ 5 25 #[I,O,I,O,O,I,O,O,O,O,O,O,O,O,O] HT_.out ?_
          refine pu_ 9 29 #[I,O,I,O,O,I,O,O,O,I,O,O,O,O,O] HT_.out ?_
          refine tk2_ 1 21 #[I,I,I,O,O,I,O,O,O,I,O,O,O,O,O] HT_.out HW_.out hHeld ?_
          refine o1_ 3 23 #[I,I,I,I,O,I,O,O,O,I,O,O,O,O,O] HT_.out (fun K hK=>?_)
          refine gs_ Tryz.func70 #[.int .i64 x6_1] ?_
          with_reducible refine (Y67.calls k2 x6_1 t326 _ A9.out).mono ?_
          rintro e w' ⟨rfl,⟨nd,rfl⟩⟩
          refine ⟨_,rfl,?_⟩
          refine hK.out _ _ (cc2_ BK324.out) (fun hHeld=>?_)
          clear hK K
          refine nm_ 23 ?_
          refine pu_ 4 24 #[I,I,I,I,I,I,O,O,O,I,O,O,O,O,O] HT_.out ?_
          refine o1_ 6 26 #[I,I,I,I,I,I,I,O,O,I,O,O,O,O,O] HT_.out (fun K hK=>?_)
          refine gs_ Tryz.func70 #[.int .i64 x7_2] ?_
          with_reducible refine (Y67.calls k2 x7_2 t327 _ A11.out).mono ?_
          rintro e w' ⟨rfl,⟨nd,rfl⟩⟩
          refine ⟨_,rfl,?_⟩
          refine hK.out _ _ (cc2_ BK324.out) (fun hHeld=>?_)
          clear hK K
          refine nm_ 26 ?_
          refine pu_ 7 27 #[I,I,I,I,I,I,I,I,O,I,O,O,O,O,O] HT_.out ?_
          refine o1_ 8 28 #[I,I,I,I,I,I,I,I,I,I,O,O,O,O,O] HT_.out (fun K hK=>?_)
          refine gs_ Tryz.func54 #[.string ((t326 ++ (⟨#[45]⟩:ByteArray)) ++ t327)] ?_
          with_reducible refine (Y60.calls k2 ((t326 ++ (⟨#[45]⟩:ByteArray)) ++ t327) t328 _ A13.out).mono ?_
          rintro e w' ⟨rfl,⟨nd,rfl⟩⟩
          refine ⟨_,rfl,?_⟩
          refine hK.out _ _ (cc2_ BK324.out) (fun hHeld=>?_)
          clear hK K
          refine nm_ 28 ?_
          refine pu_ 10 30 #[I,I,I,I,I,I,I,I,I,I,I,O,O,O,O] HT_.out ?_
          refine o1_ 11 31 #[I,I,I,I,I,I,I,I,I,I,I,I,O,O,O] HT_.out (fun K hK=>?_)
          refine value_ (w1:=?_) (v:=?_) (by rfl) rfl ?_ ?_
          rotate_left 2
          ·go_simp
           constructor
           ·rfl
           ·rfl
          refine hK.out _ _ (cc2_ (blk_alloc BK324.out _)) (fun hHeld=>?_)
          clear hK K
          refine nm_ 31 ?_
          refine o1_ 12 32 #[I,I,I,I,I,I,I,I,I,I,I,I,I,O,O] HT_.out (fun K hK=>?_)
          refine Kd.R_append_step k78 (w0:=w) w.heap.size (by rfl) (.tmp 21) (.tmp 31) 25 78 (.agg #[(.int .i64 0),(.int .i64 0)]) 16 rfl Tryz.underlying25 info78 rfl (by decide) (by omega) u325001 x325001_2 (⟨t328,x6_1⟩:S78) [.int .i64 t328,.int .i64 x6_1] (fun _=>True) (fun _=>False) rfl rfl ?aP (fun _ hk=>hk.elim) ?aF ?aO ?aB ?aS ?aL ?_
          (case aP=>exact k78_mkM _ _ _ (⟨t328,x6_1⟩:S78))
          (case aB=>exact (z8_ HB.out GE323.out GE324.out))
          (case aF=>exact (fun _ _=>trivial))
          (case aO=>exact (z0_ HO_325001.out))
          (case aS=>exact (below_size (z8_ HB.out GE323.out GE324.out)))
          (case aL=>have:=LMc14.out;omega)
          intro v330 w16 ho hb hg hat
          rw [← Ny329.out] at ho
          have n0_:=aM (blk_grown (g:=gb323) (o:=.cells #[.int .i64 0,.slice none 0 0] 27 (0,0)) (z4_ BK323.out) hg (Kd.R_ne HO_325001.out BK323.out (by decide)))
          have n1_:=aM (blk_grown (g:=gb324) (o:=.cells #[.int .i64 a0,u325001] 27 (0,0)) (z4_ BK324.out) hg (Kd.R_ne HO_325001.out BK324.out (by decide)))
          have n2_:=aM (hb)
          have n3_:=aM (ho)
          clear BK323
          clear BK324
          clear HB
          clear HO_325001
          have BK323:=n0_
          have BK324:=n1_
          have HB:=n2_
          have HO331:=n3_
          clear n0_ n1_ n2_ n3_
          clear ho hb hg hat
          obtain ⟨Ao17,co17,eo17⟩:=Kd.R_slice HO331.out
          (first | subst eo17 | (injection eo17 with f1_ f2_ f3_;have f4_:=f1_.symm;have f5_:=f3_.symm;clear f1_ f2_ f3_;subst f4_;subst f5_))
          refine hK.out _ _ (cc2_ BK324.out) (fun hHeld=>?_)
          clear hK K
          refine nm_ 32 ?_
          refine pu_ 13 33 #[I,I,I,I,I,I,I,I,I,I,I,I,I,I,O] HT_.out ?_
          refine last_ (i:=14) (N:=none) #[I,I,I,I,I,I,I,I,I,I,I,I,I,I,I] rfl rfl (one_of HT_.out (by kernel_rfl)) (by decide) (fun K hK=>?_)
          have hs18:w16.cell? ⟨gb324,1,none⟩=some (u325001):=(blk_cell BK324.out 1).trans rfl
          have hfs18:=blk_frozen BK324.out 1
          have hns18_0:=NB323_324.out
          have hms18_0:=NB324_323.out
          refine skip_ (w1:=?_) (by rfl) rfl ?_ ?_
          rotate_left
          ·go_simp
           rfl
          refine hK.out _ _ ?_
          clear hK K
          refine done_ (done_of HT_.out (by kernel_rfl)) ?_
          try go_wp2
          go_roundg k2
          case measure=>have:=HK1.out;have:=HK2.out;omega
          case rel=>exact ⟨(wrap64 (x7_2+1)),(y329),(.slice Ao17 y329.length co17),(z1_),H',⟨by have:=HK1.out;have:=HK2.out;omega⟩,⟨by (with_reducible repeat (first | apply Kd.R_alloc | apply Kd.R_drewN | apply Kd.R_drew));exact Kd.R_mono (Kd.R_far (p:=⟨gb324,1,none⟩) (Kd.R_types HO331.out BK324.out (by decide)) (fun _ hk=>hk.2) (.slice Ao17 y329.length co17)) (fun _ hk=>trivial)⟩,⟨z35_ NB323_324.out BK323.out⟩,⟨by (with_reducible repeat (first | refine blk_drewN ?_ _ | refine blk_drew ?_ | refine blk_alloc ?_ _));refine blk_put (cs:=#[.int .i64 a0,u325001]) ?_ 1 _ rfl;(with_reducible repeat (first | refine blk_drewN ?_ _ | refine blk_drew ?_ | refine blk_alloc ?_ _));exact BK324.out⟩,⟨z8_ HB.out GE323.out GE324.out⟩⟩
         ·rw [if_neg c14] at H
          exact nO H
        ·rw [if_neg c12] at H
         exact nO H
       ·rw [if_neg c10] at H
        exact nO H
      ·rw [if_neg c8] at H
       have c8b0:decide (x7_2≤a1)=false:=dF c8
       clear c8
       have H':=aM H
       clear H
       go_wp2
       go_roundg k2
       case measure=>have:=HK1.out;have:=HK2.out;omega
       case rel=>exact ⟨(wrap64 (x6_1+1)),(x325001_2),(u325001),(z1_),H',⟨by have:=HK1.out;have:=HK2.out;omega⟩,⟨z0_ HO_325001.out⟩,⟨z4_ BK323.out⟩,⟨z4_ BK324.out⟩,⟨z8_ HB.out GE323.out GE324.out⟩⟩
   ·rw [if_neg c7] at H
    have c7b0:decide (x6_1≤a0)=false:=dF c7
    clear c7
    replace H:=bS H
    obtain ⟨t325,A190,H⟩:=H
    replace H:(some (a0,t325))=some (r1,r2):=H
    have A19:=aM A190
    clear A190
    simp only [Option.some.injEq,Prod.mk.injEq] at H
    obtain ⟨rfl,rfl⟩:=H
    have hnb20:=NB324_323.out
    have hnc20:=NB323_324.out
    have ⟨hcz21_0,hcz21_1,hfz21_0,hfz21_1⟩:=cz2_ BK324.out
    obtain ⟨Ao22,co22,eo22⟩:=Kd.R_slice HO_325001.out
    subst eo22
    go_wp2_with (first | ((with_reducible refine gc_ 71 ?_);refine gl_ (some 36) Tryz.func71 #[.slice Ao22 x325001_1.length co22,.func (.func 72) #[] #[]] ?_;(with_reducible refine (Y12.calls k1 (fun k_=>some k_=(.slice Ao22 x325001_1.length co22:Value).ownBlock) (.slice Ao22 x325001_1.length co22) x325001_1  t325 w _ ?s1 ?s2 A19.out).mono ?_);(case s1=>repeat (first | (with_reducible first | exact HB.out | apply below_alloc | apply pw_below_drewN | apply below_drew1 | refine below_set ?_ GE323.out | refine below_set ?_ GE324.out) | exact HB.out));(case s2=>exact Kd.R_tight rfl HO_325001.out);rintro e w23 ⟨rfl,hy0,hb,hkp⟩;refine ⟨_,rfl,?_⟩;have n0_:=aM (Kd.R_reok rfl hy0 (fun k_ e_=>HO_325001.out.1 k_ e_));have n1_:=aM (blk_kept (z4_ BK323.out) hkp (fun hs_=>(fun e_=>(Kd.R_ne HO_325001.out BK323.out (by decide)) e_) hs_));have n2_:=aM (blk_kept (z4_ BK324.out) hkp (fun hs_=>(fun e_=>(Kd.R_ne HO_325001.out BK324.out (by decide)) e_) hs_));have n3_:=aM (hb);clear HO_325001;clear BK323;clear BK324;clear HB;have HO_325001:=n0_;have BK323:=n1_;have BK324:=n2_;have HB:=n3_;clear n0_ n1_ n2_ n3_;(try clear hb);(try clear hkp);(try clear hy0);have ⟨hcz24_0,hcz24_1,hfz24_0,hfz24_1⟩:=cz2_ BK324.out;have ⟨hcz25_0,hcz25_1,hfz25_0,hfz25_1⟩:=cz2_ BK323.out))
    refine bodyPost_ret (results_cell_row rfl _ _ gb323 27 #[.int .i64 a0,.slice Ao22 x325001_1.length co22] (0,0) _ rfl (z33_ BK323.out) Tryz.underlying27 rfl (by kernel_rfl)) rfl ?_
    exact ⟨_,z10_,by (with_reducible repeat (first | apply Kd.R_alloc | apply Kd.R_drewN | apply Kd.R_drew));exact Kd.R_mono (rf2_ (Kd.R_types HO_325001.out BK323.out (by decide)) (fun _ hk=>hk.2)) (fun _ hk=>trivial),z8_ HB.out GE323.out GE324.out⟩


/-! ### Y8: function 59 -/
mutual
def Y8.j0:Nat→Int→Int→Int→Int→Bool→Option (Int × (List (S78)) × (List (S115)) × List Int × Int × Int × Int × Int × Int × Int)
 | 0,_,_,_,_,_=>none
 | k+1,x0,x1,x2,x3,x31=>if x31=true then (some (0,([]:List (S78)),([]:List (S115)),([]:List Int),0,0,0,0,0,1)) else ((Y10.f k x0 4).bind fun bt822=>(Y8.l0 k x0 1 bt822.1 bt822.2 ([]:List (S115)) x1 x2 x3))
def Y8.l0:Nat→Int→Int→Int→List (S78)→List (S115)→Int→Int→Int→Option (Int × (List (S78)) × (List (S115)) × List Int × Int × Int × Int × Int × Int × Int)
 | 0,_,_,_,_,_,_,_,_=>none
 | k+1,x0,x10,x827000,x827001,x827002,x827004,x827005,x827006=>if x10≤x0 then (if x827002.length<2513169434916 then (Y8.l0 k x0 (wrap64 (x10+1)) x827000 x827001 (x827002 ++ [(⟨x10,0,(⟨#[]⟩:ByteArray),0⟩:S115)]) x827004 x827005 x827006) else (none)) else (some (x827000,x827001,x827002,([]:List Int),x827004,x827005,x827006,0,0,0))
end
def Y8.f (k:Nat) (a0:Int) (a1:Int) (a2:Int) (a3:Int):Option (Int × (List (S78)) × (List (S115)) × List Int × Int × Int × Int × Int × Int × Int):=(Y76.f a0).bind fun t818=>(if t818=true then ((Y37.f a1 1 a0).bind fun t819=>(if t819=true then ((Y37.f a2 1 a1).bind fun t820=>(if t820=true then ((Y37.f a3 1 a1).bind fun t821=>(Y8.j0 k a0 a1 a2 a3 (!t821))) else (Y8.j0 k a0 a1 a2 a3 true))) else (Y8.j0 k a0 a1 a2 a3 true))) else (Y8.j0 k a0 a1 a2 a3 true))
theorem Y8.mono_l:∀ k,(∀ y0 y1 y2 y3 y4,LeO (Y8.j0 k y0 y1 y2 y3 y4) (Y8.j0 (k+1) y0 y1 y2 y3 y4))∧(∀ y0 y1 y2 y3 y4 y5 y6 y7,LeO (Y8.l0 k y0 y1 y2 y3 y4 y5 y6 y7) (Y8.l0 (k+1) y0 y1 y2 y3 y4 y5 y6 y7))
 | 0=>by refine ⟨?_,?_⟩ <;> intros <;> exact LeO.none _
 | k+1=>by
  obtain ⟨ih0,ih1⟩:=Y8.mono_l k
  have m0:=@Y10.mono
  refine ⟨?_,?_⟩
  ·intros
   unfold Y8.j0
   exact mO
  ·intros
   unfold Y8.l0
   exact mO
theorem Y8.mono:∀ a0 a1 a2 a3 k,LeO (Y8.f k a0 a1 a2 a3) (Y8.f (k+1) a0 a1 a2 a3):=by
 intro a0 a1 a2 a3 k
 have m0:=@Y10.mono
 obtain ⟨ih0,ih1⟩:=Y8.mono_l k
 unfold Y8.f
 exact mO
theorem Y8.calls (k:Nat) (a0:Int) (a1:Int) (a2:Int) (a3:Int) (r1:Int) (r2:List (S78)) (r3:List (S115)) (r4:List Int) (r5:Int) (r6:Int) (r7:Int) (r8:Int) (r9:Int) (r10:Int) (w:World) (h:Y8.f k a0 a1 a2 a3=some (r1,r2,r3,r4,r5,r6,r7,r8,r9,r10)) :
  Calls Tryz.prog 59 #[.int .i64 a0,.int .i64 a1,.int .i64 a2,.int .i64 a3] w fun e w'=>∃ v1_ v2_ v3_:Value,e = .returned (.agg #[.int .i64 r1,v1_,v2_,v3_,.int .i64 r5,.int .i64 r6,.int .i64 r7,.slice none 0 0,.slice none 0 0,.int .i64 r10])∧Kd.R k78 78 w' w.heap.size (fun _=>True) v1_ r2∧Kd.R k115 115 w' w.heap.size (fun _=>True) v2_ r3∧Kd.R (Kd.int .i64) 2 w' w.heap.size (fun _=>True) v3_ r4∧Below w.heap.size w w':=by
 have hu91:=Tryz.underlying91
 have hu50:=Tryz.underlying50
 have hu115:=Tryz.underlying115
 have HB:=aM (Below.refl w.heap.size w)
 have H:((Y76.f a0).bind fun t818=>(if t818=true then ((Y37.f a1 1 a0).bind fun t819=>(if t819=true then ((Y37.f a2 1 a1).bind fun t820=>(if t820=true then ((Y37.f a3 1 a1).bind fun t821=>(Y8.j0 k a0 a1 a2 a3 (!t821))) else (Y8.j0 k a0 a1 a2 a3 true))) else (Y8.j0 k a0 a1 a2 a3 true))) else (Y8.j0 k a0 a1 a2 a3 true)))=some (r1,r2,r3,r4,r5,r6,r7,r8,r9,r10):=h
 clear h
 have HC5:=aM H
 clear H
 go_enter Tryz.func59,Tryz.ntmps59
 go_upto_region 1 with (first | ((with_reducible refine gd_ 8 ?_);refine be_ 8 #[.int .i64 0,.slice none 0 0,.slice none 0 0,.slice none 0 0,.int .i64 0,.int .i64 0,.int .i64 0,.slice none 0 0,.slice none 0 0,.int .i64 0] 91 ?_;intro gb817 hg w6 hbox hb;have n0_:=aM (below_step (z3_ HB.out) hb);have n1_:=aM (hbox);have n2_:=aM ((z9_ HB.out:w.heap.size≤gb817));have n3_:=aM ((z9_ HB.out:w.heap.size≤gb817));clear HB;have HB:=n0_;have BK817:=n1_;have GW817:=n2_;have GE817:=n3_;clear n0_ n1_ n2_ n3_;clear hb hbox hg))
 (try simp only [Act.put,sa_,s0_,ss_])
 go_cut [31] (fun v31 wc=>∃ (kq:Nat) (x31_4:Bool),v31 = .bool x31_4∧Aside0 (Y8.j0 kq a0 a1 a2 a3 x31_4=some (r1,r2,r3,r4,r5,r6,r7,r8,r9,r10))∧Aside0 (kq≤k)∧Aside0 (wc.heap[gb817]? = some (.cells #[.int .i64 0,(.slice none 0 0),(.slice none 0 0),(.slice none 0 0),.int .i64 0,.int .i64 0,.int .i64 0,.slice none 0 0,.slice none 0 0,.int .i64 0] 91 (0,0)))∧Aside0 (Below w.heap.size w wc))
 case first =>
  have H:=HC5.out
  clear HC5
  replace H:=bS H
  obtain ⟨t818,A70,H⟩:=H
  replace H:(if t818=true then ((Y37.f a1 1 a0).bind fun t819=>(if t819=true then ((Y37.f a2 1 a1).bind fun t820=>(if t820=true then ((Y37.f a3 1 a1).bind fun t821=>(Y8.j0 k a0 a1 a2 a3 (!t821))) else (Y8.j0 k a0 a1 a2 a3 true))) else (Y8.j0 k a0 a1 a2 a3 true))) else (Y8.j0 k a0 a1 a2 a3 true))=some (r1,r2,r3,r4,r5,r6,r7,r8,r9,r10):=H
  have A7:=aM A70
  clear A70
  by_cases c8:t818=true
  ·subst c8
   have H1:((Y37.f a1 1 a0).bind fun t819=>(if t819=true then ((Y37.f a2 1 a1).bind fun t820=>(if t820=true then ((Y37.f a3 1 a1).bind fun t821=>(Y8.j0 k a0 a1 a2 a3 (!t821))) else (Y8.j0 k a0 a1 a2 a3 true))) else (Y8.j0 k a0 a1 a2 a3 true)))=some (r1,r2,r3,r4,r5,r6,r7,r8,r9,r10):=by rw [if_pos rfl] at H;exact H
   clear H
   have H:=H1
   clear H1
   replace H:=bS H
   obtain ⟨t819,A90,H⟩:=H
   replace H:(if t819=true then ((Y37.f a2 1 a1).bind fun t820=>(if t820=true then ((Y37.f a3 1 a1).bind fun t821=>(Y8.j0 k a0 a1 a2 a3 (!t821))) else (Y8.j0 k a0 a1 a2 a3 true))) else (Y8.j0 k a0 a1 a2 a3 true))=some (r1,r2,r3,r4,r5,r6,r7,r8,r9,r10):=H
   have A9:=aM A90
   clear A90
   by_cases c10:t819=true
   ·subst c10
    have H1:((Y37.f a2 1 a1).bind fun t820=>(if t820=true then ((Y37.f a3 1 a1).bind fun t821=>(Y8.j0 k a0 a1 a2 a3 (!t821))) else (Y8.j0 k a0 a1 a2 a3 true)))=some (r1,r2,r3,r4,r5,r6,r7,r8,r9,r10):=by rw [if_pos rfl] at H;exact H
    clear H
    have H:=H1
    clear H1
    replace H:=bS H
    obtain ⟨t820,A110,H⟩:=H
    replace H:(if t820=true then ((Y37.f a3 1 a1).bind fun t821=>(Y8.j0 k a0 a1 a2 a3 (!t821))) else (Y8.j0 k a0 a1 a2 a3 true))=some (r1,r2,r3,r4,r5,r6,r7,r8,r9,r10):=H
    have A11:=aM A110
    clear A110
    by_cases c12:t820=true
    ·subst c12
     have H1:((Y37.f a3 1 a1).bind fun t821=>(Y8.j0 k a0 a1 a2 a3 (!t821)))=some (r1,r2,r3,r4,r5,r6,r7,r8,r9,r10):=by rw [if_pos rfl] at H;exact H
     clear H
     have H:=H1
     clear H1
     replace H:=bS H
     obtain ⟨t821,A130,H⟩:=H
     replace H:(Y8.j0 k a0 a1 a2 a3 (!t821))=some (r1,r2,r3,r4,r5,r6,r7,r8,r9,r10):=H
     have A13:=aM A130
     clear A130
     have H':=aM H
     clear H
     go_wp2_with (first | ((with_reducible refine gc_ 38 ?_);refine gl_ (some 12) Tryz.func38 #[.int .i64 a0] ?_;(with_reducible refine (Y76.calls a0 true _ A7.out).mono ?_);rintro e w' ⟨rfl,⟨nd,rfl⟩⟩;refine ⟨_,rfl,?_⟩) | (go_at_call 42;(with_reducible refine (Y37.calls a1 1 a0 true _ A9.out).mono ?_);rintro e w' ⟨rfl,⟨nd,rfl⟩⟩) | (go_at_call 42;(with_reducible refine (Y37.calls a2 1 a1 true _ A11.out).mono ?_);rintro e w' ⟨rfl,⟨nd,rfl⟩⟩) | (go_at_call 42;(with_reducible refine (Y37.calls a3 1 a1 t821 _ A13.out).mono ?_);rintro e w' ⟨rfl,⟨nd,rfl⟩⟩))
     go_meet
     case rel=>exact ⟨_,(!t821),(z1_),H',⟨by first | omega | exact Nat.le_refl _⟩,⟨z4_ BK817.out⟩,⟨z7_ HB.out GE817.out⟩⟩
    ·replace c12:=Bool.eq_false_iff.mpr c12
     subst c12
     have H1:(Y8.j0 k a0 a1 a2 a3 true)=some (r1,r2,r3,r4,r5,r6,r7,r8,r9,r10):=by rw [if_neg (show ¬ (false=true) by decide)] at H;exact H
     clear H
     have H:=H1
     clear H1
     have H':=aM H
     clear H
     go_wp2_with (first | ((with_reducible refine gc_ 38 ?_);refine gl_ (some 12) Tryz.func38 #[.int .i64 a0] ?_;(with_reducible refine (Y76.calls a0 true _ A7.out).mono ?_);rintro e w' ⟨rfl,⟨nd,rfl⟩⟩;refine ⟨_,rfl,?_⟩) | (go_at_call 42;(with_reducible refine (Y37.calls a1 1 a0 true _ A9.out).mono ?_);rintro e w' ⟨rfl,⟨nd,rfl⟩⟩) | (go_at_call 42;(with_reducible refine (Y37.calls a2 1 a1 false _ A11.out).mono ?_);rintro e w' ⟨rfl,⟨nd,rfl⟩⟩))
     go_meet
     case rel=>exact ⟨_,(true),(z1_),H',⟨by first | omega | exact Nat.le_refl _⟩,⟨z4_ BK817.out⟩,⟨z7_ HB.out GE817.out⟩⟩
   ·replace c10:=Bool.eq_false_iff.mpr c10
    subst c10
    have H1:(Y8.j0 k a0 a1 a2 a3 true)=some (r1,r2,r3,r4,r5,r6,r7,r8,r9,r10):=by rw [if_neg (show ¬ (false=true) by decide)] at H;exact H
    clear H
    have H:=H1
    clear H1
    have H':=aM H
    clear H
    go_wp2_with (first | ((with_reducible refine gc_ 38 ?_);refine gl_ (some 12) Tryz.func38 #[.int .i64 a0] ?_;(with_reducible refine (Y76.calls a0 true _ A7.out).mono ?_);rintro e w' ⟨rfl,⟨nd,rfl⟩⟩;refine ⟨_,rfl,?_⟩) | (go_at_call 42;(with_reducible refine (Y37.calls a1 1 a0 false _ A9.out).mono ?_);rintro e w' ⟨rfl,⟨nd,rfl⟩⟩))
    go_meet
    case rel=>exact ⟨_,(true),(z1_),H',⟨by first | omega | exact Nat.le_refl _⟩,⟨z4_ BK817.out⟩,⟨z7_ HB.out GE817.out⟩⟩
  ·replace c8:=Bool.eq_false_iff.mpr c8
   subst c8
   have H1:(Y8.j0 k a0 a1 a2 a3 true)=some (r1,r2,r3,r4,r5,r6,r7,r8,r9,r10):=by rw [if_neg (show ¬ (false=true) by decide)] at H;exact H
   clear H
   have H:=H1
   clear H1
   have H':=aM H
   clear H
   go_wp2_with (first | ((with_reducible refine gc_ 38 ?_);refine gl_ (some 12) Tryz.func38 #[.int .i64 a0] ?_;(with_reducible refine (Y76.calls a0 false _ A7.out).mono ?_);rintro e w' ⟨rfl,⟨nd,rfl⟩⟩;refine ⟨_,rfl,?_⟩))
   go_meet
   case rel=>exact ⟨_,(true),(z1_),H',⟨by first | omega | exact Nat.le_refl _⟩,⟨z4_ BK817.out⟩,⟨z7_ HB.out GE817.out⟩⟩
 case rest =>
  clear HC5
  try clear c1
  try clear p2
  try clear c3
  try clear c5
  try clear c8
  try clear c10
  try clear c12
  obtain ⟨kq,x31_4,rfl,HA,HJ4,BK817,HB⟩:=hcut
  cases kq with
  | zero=>exact absurd HA.out (by simp [Y8.j0])
  | succ kj4 =>
   have H:=HA.out
   clear HA
   simp only [Y8.j0] at H
   by_cases c14:x31_4=true
   ·subst c14
    have H1:(some (0,([]:List (S78)),([]:List (S115)),([]:List Int),0,0,0,0,0,1))=some (r1,r2,r3,r4,r5,r6,r7,r8,r9,r10):=by rw [if_pos rfl] at H;exact H
    clear H
    have H:=H1
    clear H1
    simp only [Option.some.injEq,Prod.mk.injEq] at H
    obtain ⟨rfl,rfl,rfl,rfl,rfl,rfl,rfl,rfl,rfl,rfl⟩:=H
    have ⟨hcz15_0,hcz15_1,hcz15_2,hcz15_3,hcz15_4,hcz15_5,hcz15_6,hcz15_7,hcz15_8,hcz15_9,hfz15_0,hfz15_1,hfz15_2,hfz15_3,hfz15_4,hfz15_5,hfz15_6,hfz15_7,hfz15_8,hfz15_9⟩:=cz10_ BK817.out
    go_wp2
    refine bodyPost_ret (results_cell_row rfl _ _ gb817 91 #[.int .i64 0,.slice none 0 0,.slice none 0 0,.slice none 0 0,.int .i64 0,.int .i64 0,.int .i64 0,.slice none 0 0,.slice none 0 0,.int .i64 1] (0,0) _ rfl (z29_ BK817.out) Tryz.underlying91 rfl (by kernel_rfl)) rfl ?_
    exact ⟨_,_,_,z10_,z13_,z13_,z13_,z7_ HB.out GE817.out⟩
   ·replace c14:=Bool.eq_false_iff.mpr c14
    subst c14
    have H1:((Y10.f kj4 a0 4).bind fun bt822=>(Y8.l0 kj4 a0 1 bt822.1 bt822.2 ([]:List (S115)) a1 a2 a3))=some (r1,r2,r3,r4,r5,r6,r7,r8,r9,r10):=by rw [if_neg (show ¬ (false=true) by decide)] at H;exact H
    clear H
    have H:=H1
    clear H1
    replace H:=bS H
    obtain ⟨⟨t822,t823⟩,A160,H⟩:=H
    replace H:(Y8.l0 kj4 a0 1 t822 t823 ([]:List (S115)) a1 a2 a3)=some (r1,r2,r3,r4,r5,r6,r7,r8,r9,r10):=H
    have A16:=aM A160
    clear A160
    have H':=aM H
    clear H
    go_wp2_with (first | ((with_reducible refine gc_ 43 ?_);refine gl_ (some 34) Tryz.func43 #[.int .i64 a0,.int .i64 4] ?_;(with_reducible refine (Y10.calls kj4 a0 4 t822 t823 _ A16.out).mono ?_);rintro e w17 ⟨v824,rfl,ho0,hb⟩;refine ⟨_,rfl,?_⟩;have n0_:=aM (Kd.R_lower ho0 (below_size (z7_ HB.out GE817.out)));have n1_:=aM (blkB_ BK817.out hb);have n2_:=aM (below_step (z7_ HB.out GE817.out) hb);clear BK817;clear HB;have HO825:=n0_;have BK817:=n1_;have HB:=n2_;clear n0_ n1_ n2_;(try clear hb);(try clear ho0);obtain ⟨Ao18,co18,eo18⟩:=Kd.R_slice HO825.out;subst eo18) | ((with_reducible refine gd_ 9 ?_);refine be_ 9 #[.int .i64 0,.slice none 0 0,.slice none 0 0,.slice none 0 0,.int .i64 0,.int .i64 0,.int .i64 0] 50 ?_;intro gb826 hg w19 hbox hb;have n0_:=aM (Kd.R_below (z0_ HO825.out) hb);have n1_:=aM (blkB_ BK817.out hb);have n2_:=aM (below_step (z7_ HB.out GE817.out) hb);have n3_:=aM (hbox);have n4_:=aM ((z11_ HB.out GE817.out:w.heap.size≤gb826));have n5_:=aM ((z11_ HB.out GE817.out:w.heap.size≤gb826));have n6_:=aM (neL_ BK817.out hg);have n7_:=aM (neG_ BK817.out hg);clear HO825;clear BK817;clear HB;have HO825:=n0_;have BK817:=n1_;have HB:=n2_;have BK826:=n3_;have GW826:=n4_;have GE826:=n5_;have NB817_826:=n6_;have NB826_817:=n7_;clear n0_ n1_ n2_ n3_ n4_ n5_ n6_ n7_;clear hb hbox hg;have hnb20:=NB826_817.out;have hnc20:=NB817_826.out;have ⟨hcz21_0,hcz21_1,hcz21_2,hcz21_3,hcz21_4,hcz21_5,hcz21_6,hfz21_0,hfz21_1,hfz21_2,hfz21_3,hfz21_4,hfz21_5,hfz21_6⟩:=cz7_ BK826.out))
    go_loopg [10] kj4 (fun kq v10 w'=>∃ (x10_2:Int) (x827002_2:List (S115)) (u827002:Value),v10 = .int .i64 x10_2∧Aside0 (Y8.l0 kq a0 x10_2 t822 t823 x827002_2 a1 a2 a3=some (r1,r2,r3,r4,r5,r6,r7,r8,r9,r10))∧Aside0 (kq≤kj4)∧Aside0 (Kd.R k78 78 w' w.heap.size (fun _=>True) (.slice Ao18 t823.length co18) t823)∧Aside0 (Kd.R k115 115 w' w.heap.size (fun _=>True) u827002 x827002_2)∧Aside0 (w'.heap[gb817]? = some (.cells #[.int .i64 0,(.slice none 0 0),(.slice none 0 0),(.slice none 0 0),.int .i64 0,.int .i64 0,.int .i64 0,.slice none 0 0,.slice none 0 0,.int .i64 0] 91 (0,0)))∧Aside0 (w'.heap[gb826]? = some (.cells #[.int .i64 t822,(.slice Ao18 t823.length co18),u827002,(.slice none 0 0),.int .i64 a1,.int .i64 a2,.int .i64 a3] 50 (0,0)))∧Aside0 (Below w.heap.size w w'))
    case atStart=>exact ⟨(1),(([]:List (S115))),(.slice none 0 0),(z1_),H',⟨Nat.le_refl _⟩,⟨by (with_reducible repeat (first | apply Kd.R_alloc | apply Kd.R_drewN | apply Kd.R_drew));exact Kd.R_mono (rf7_ (Kd.R_types HO825.out BK826.out (by decide)) (fun _ hk=>hk.2)) (fun _ hk=>trivial)⟩,⟨z13_⟩,⟨by (with_reducible repeat (first | refine blk_drewN ?_ _ | refine blk_drew ?_ | refine blk_alloc ?_ _));refine blk_far ?_ NB817_826.out _;(with_reducible repeat (first | refine blk_drewN ?_ _ | refine blk_drew ?_ | refine blk_alloc ?_ _));refine blk_far ?_ NB817_826.out _;(with_reducible repeat (first | refine blk_drewN ?_ _ | refine blk_drew ?_ | refine blk_alloc ?_ _));refine blk_far ?_ NB817_826.out _;(with_reducible repeat (first | refine blk_drewN ?_ _ | refine blk_drew ?_ | refine blk_alloc ?_ _));refine blk_far ?_ NB817_826.out _;(with_reducible repeat (first | refine blk_drewN ?_ _ | refine blk_drew ?_ | refine blk_alloc ?_ _));refine blk_far ?_ NB817_826.out _;(with_reducible repeat (first | refine blk_drewN ?_ _ | refine blk_drew ?_ | refine blk_alloc ?_ _));refine blk_far ?_ NB817_826.out _;(with_reducible repeat (first | refine blk_drewN ?_ _ | refine blk_drew ?_ | refine blk_alloc ?_ _));refine blk_far ?_ NB817_826.out _;(with_reducible repeat (first | refine blk_drewN ?_ _ | refine blk_drew ?_ | refine blk_alloc ?_ _));exact BK817.out⟩,⟨by (with_reducible repeat (first | refine blk_drewN ?_ _ | refine blk_drew ?_ | refine blk_alloc ?_ _));apply put7_;(with_reducible repeat (first | refine blk_drewN ?_ _ | refine blk_drew ?_ | refine blk_alloc ?_ _));exact BK826.out⟩,⟨z8_ HB.out GE817.out GE826.out⟩⟩
    case round =>
     clear H'
     try clear c1
     try clear c2
     try clear p2
     try clear c3
     try clear c4
     try clear c5
     try clear c8
     try clear c10
     try clear c12
     try clear c14
     try clear c20
     try clear hcz15_0
     try clear hcz15_1
     try clear hcz15_2
     try clear hcz15_3
     try clear hcz15_4
     try clear hcz15_5
     try clear hcz15_6
     try clear hcz15_7
     try clear hcz15_8
     try clear hcz15_9
     try clear hcz21_0
     try clear hcz21_1
     try clear hcz21_2
     try clear hcz21_3
     try clear hcz21_4
     try clear hcz21_5
     try clear hcz21_6
     try clear hfz15_0
     try clear hfz15_1
     try clear hfz15_2
     try clear hfz15_3
     try clear hfz15_4
     try clear hfz15_5
     try clear hfz15_6
     try clear hfz15_7
     try clear hfz15_8
     try clear hfz15_9
     try clear hfz21_0
     try clear hfz21_1
     try clear hfz21_2
     try clear hfz21_3
     try clear hfz21_4
     try clear hfz21_5
     try clear hfz21_6
     try clear p2
     obtain ⟨x10_2,x827002_2,u827002,rfl,HA,HK2,HO_827001,HO_827002,BK817,BK826,HB⟩:=hrel
     cases gk with
     | zero=>exact absurd HA.out (by simp [Y8.l0])
     | succ k2 =>
      have H:=HA.out
      clear HA
      simp only [Y8.l0] at H
      by_cases c22:x10_2≤a0
      ·rw [if_pos c22] at H
       have c22b0:decide (x10_2≤a0)=true:=dE c22
       clear c22
       by_cases c23:x827002_2.length<2513169434916
       ·rw [if_pos c23] at H
        have LMc23:=aM c23
        clear c23
        obtain ⟨y827,hy827⟩:∃ y_:List (S115),y_=(x827002_2 ++ [(⟨x10_2,0,(⟨#[]⟩:ByteArray),0⟩:S115)]):=⟨_,rfl⟩
        replace H:(Y8.l0 k2 a0 (wrap64 (x10_2+1)) t822 t823 y827 a1 a2 a3)=some (r1,r2,r3,r4,r5,r6,r7,r8,r9,r10):=by first | (rw [hy827];with_reducible exact H) | (have H2_:=(Option.bind_some _ _).symm.trans H;rw [hy827];with_reducible exact H2_) | (have H2_:=(Option.bind_some _ _).symm.trans H;with_reducible exact H2_) | with_reducible exact H | (rw [hy827];exact H) | exact H
        have Ny827:=aM hy827
        clear hy827
        have H':=aM H
        clear H
        have hnb24:=NB826_817.out
        have hnc24:=NB817_826.out
        have ⟨hcz25_0,hcz25_1,hcz25_2,hcz25_3,hcz25_4,hcz25_5,hcz25_6,hfz25_0,hfz25_1,hfz25_2,hfz25_3,hfz25_4,hfz25_5,hfz25_6⟩:=cz7_ BK826.out
        go_wp2_with (first | ((with_reducible refine gate_builtin (b:=.append) (xs:=#[.tmp 45,.tmp 48]) rfl ?_);at_builtin;refine Kd.R_append k115 (w0:=w) w.heap.size rfl (.tmp 45) (.tmp 48) 48 115 (.agg #[(.int .i64 0),(.slice none 0 0),(.string ⟨#[]⟩),(.int .i64 0)]) 56 rfl Tryz.underlying48 info115 rfl (by decide) (by omega) u827002 x827002_2 (⟨x10_2,0,(⟨#[]⟩:ByteArray),0⟩:S115) [.int .i64 x10_2,.slice none 0 0,.string (⟨#[]⟩:ByteArray),.int .i64 0] (fun _=>True) (fun _=>False) rfl rfl ?aP (fun _ hk=>hk.elim) ?aF ?aO ?aB ?aS ?aL ?_;(case aP=>exact k115_mkM _ _ _ (⟨x10_2,0,(⟨#[]⟩:ByteArray),0⟩:S115));(case aB=>exact (z8_ HB.out GE817.out GE826.out));(case aF=>exact (fun _ _=>trivial));(case aO=>exact (z0_ HO_827002.out));(case aS=>exact (below_size (z8_ HB.out GE817.out GE826.out)));(case aL=>have:=LMc23.out;omega);intro v828 w26 ho hb hg hat;rw [← Ny827.out] at ho;have n0_:=aM (Kd.R_over' (z0_ HO_827001.out) (Kd.R_typed (z0_ HO_827002.out)) (by decide) hg);have n1_:=aM (blk_grown (g:=gb817) (o:=.cells #[.int .i64 0,.slice none 0 0,.slice none 0 0,.slice none 0 0,.int .i64 0,.int .i64 0,.int .i64 0,.slice none 0 0,.slice none 0 0,.int .i64 0] 91 (0,0)) (z4_ BK817.out) hg (Kd.R_ne HO_827002.out BK817.out (by decide)));have n2_:=aM (blk_grown (g:=gb826) (o:=.cells #[.int .i64 t822,.slice Ao18 t823.length co18,u827002,.slice none 0 0,.int .i64 a1,.int .i64 a2,.int .i64 a3] 50 (0,0)) (z4_ BK826.out) hg (Kd.R_ne HO_827002.out BK826.out (by decide)));have n3_:=aM (hb);have n4_:=aM (ho);clear HO_827001;clear BK817;clear BK826;clear HB;clear HO_827002;have HO_827001:=n0_;have BK817:=n1_;have BK826:=n2_;have HB:=n3_;have HO829:=n4_;clear n0_ n1_ n2_ n3_ n4_;clear ho hb hg hat;obtain ⟨Ao27,co27,eo27⟩:=Kd.R_slice HO829.out;subst eo27;have ⟨hcz28_0,hcz28_1,hcz28_2,hcz28_3,hcz28_4,hcz28_5,hcz28_6,hfz28_0,hfz28_1,hfz28_2,hfz28_3,hfz28_4,hfz28_5,hfz28_6⟩:=cz7_ BK826.out))
        go_roundg k2
        case measure=>have:=HJ4.out;have:=HK2.out;omega
        case rel=>exact ⟨(wrap64 (x10_2+1)),(y827),(.slice Ao27 y827.length co27),(z1_),H',⟨by have:=HJ4.out;have:=HK2.out;omega⟩,⟨by (with_reducible repeat (first | apply Kd.R_alloc | apply Kd.R_drewN | apply Kd.R_drew));exact Kd.R_mono (Kd.R_far (p:=⟨gb826,2,none⟩) (Kd.R_types HO_827001.out BK826.out (by decide)) (fun _ hk=>hk.2) (.slice Ao27 y827.length co27)) (fun _ hk=>trivial)⟩,⟨by (with_reducible repeat (first | apply Kd.R_alloc | apply Kd.R_drewN | apply Kd.R_drew));exact Kd.R_mono (Kd.R_far (p:=⟨gb826,2,none⟩) (Kd.R_types HO829.out BK826.out (by decide)) (fun _ hk=>hk.2) (.slice Ao27 y827.length co27)) (fun _ hk=>trivial)⟩,⟨z35_ NB817_826.out BK817.out⟩,⟨by (with_reducible repeat (first | refine blk_drewN ?_ _ | refine blk_drew ?_ | refine blk_alloc ?_ _));refine blk_put (cs:=#[.int .i64 t822,.slice Ao18 t823.length co18,u827002,.slice none 0 0,.int .i64 a1,.int .i64 a2,.int .i64 a3]) ?_ 2 _ rfl;(with_reducible repeat (first | refine blk_drewN ?_ _ | refine blk_drew ?_ | refine blk_alloc ?_ _));exact BK826.out⟩,⟨z8_ HB.out GE817.out GE826.out⟩⟩
       ·rw [if_neg c23] at H
        exact nO H
      ·rw [if_neg c22] at H
       have c22b0:decide (x10_2≤a0)=false:=dF c22
       clear c22
       simp only [Option.some.injEq,Prod.mk.injEq] at H
       obtain ⟨rfl,rfl,rfl,rfl,rfl,rfl,rfl,rfl,rfl,rfl⟩:=H
       have hnb29:=NB826_817.out
       have hnc29:=NB817_826.out
       have ⟨hcz30_0,hcz30_1,hcz30_2,hcz30_3,hcz30_4,hcz30_5,hcz30_6,hfz30_0,hfz30_1,hfz30_2,hfz30_3,hfz30_4,hfz30_5,hfz30_6⟩:=cz7_ BK826.out
       obtain ⟨Ao31,co31,eo31⟩:=Kd.R_slice HO_827002.out
       subst eo31
       have ⟨hcz32_0,hcz32_1,hcz32_2,hcz32_3,hcz32_4,hcz32_5,hcz32_6,hcz32_7,hcz32_8,hcz32_9,hfz32_0,hfz32_1,hfz32_2,hfz32_3,hfz32_4,hfz32_5,hfz32_6,hfz32_7,hfz32_8,hfz32_9⟩:=cz10_ BK817.out
       go_wp2
       refine bodyPost_ret (results_cell_row rfl _ _ gb817 91 #[.int .i64 t822,.slice Ao18 t823.length co18,.slice Ao31 x827002_2.length co31,.slice none 0 0,.int .i64 a1,.int .i64 a2,.int .i64 a3,.slice none 0 0,.slice none 0 0,.int .i64 0] (0,0) _ rfl (z29_ BK817.out) Tryz.underlying91 rfl (by kernel_rfl)) rfl ?_
       exact ⟨_,_,_,z10_,z26_ HO_827001.out BK817.out,z26_ HO_827002.out BK817.out,z13_,z8_ HB.out GE817.out GE826.out⟩


/-! ### Y53: function 26 -/
def Y53.f (k:Nat) (a0:Int) (a1:Int) (a2:Int) (a3:Int):Option (Int × (List (S78)) × (List (S115)) × List Int × Int × Int × Int × List Int × Int × Int × Int × Int × Int × Int):=(Y8.f k a0 a1 a2 a3).bind fun bt831=>(if bt831.2.2.2.2.2.2.2.2.2=0 then (some (bt831.1,bt831.2.1,bt831.2.2.1,bt831.2.2.2.1,bt831.2.2.2.2.1,bt831.2.2.2.2.2.1,bt831.2.2.2.2.2.2.1,([]:List Int),0,0,0,0,0,0)) else (some (0,([]:List (S78)),([]:List (S115)),([]:List Int),0,0,0,([]:List Int),0,0,0,0,0,bt831.2.2.2.2.2.2.2.2.2)))
theorem Y53.mono:∀ a0 a1 a2 a3 k,LeO (Y53.f k a0 a1 a2 a3) (Y53.f (k+1) a0 a1 a2 a3):=by
 intro a0 a1 a2 a3 k
 have m0:=@Y8.mono
 unfold Y53.f
 exact mO
theorem Y53.calls (k:Nat) (a0:Int) (a1:Int) (a2:Int) (a3:Int) (r1:Int) (r2:List (S78)) (r3:List (S115)) (r4:List Int) (r5:Int) (r6:Int) (r7:Int) (r8:List Int) (r9:Int) (r10:Int) (r11:Int) (r12:Int) (r13:Int) (r14:Int) (w:World) (h:Y53.f k a0 a1 a2 a3=some (r1,r2,r3,r4,r5,r6,r7,r8,r9,r10,r11,r12,r13,r14)) :
  Calls Tryz.prog 26 #[.int .i64 a0,.int .i64 a1,.int .i64 a2,.int .i64 a3] w fun e w'=>∃ v1_ v2_ v3_ v7_:Value,e = .returned (.agg #[.int .i64 r1,v1_,v2_,v3_,.int .i64 r5,.int .i64 r6,.int .i64 r7,v7_,.slice none 0 0,.slice none 0 0,.slice none 0 0,.slice none 0 0,.int .i64 r13,.int .i64 r14])∧Kd.R k78 78 w' w.heap.size (fun _=>True) v1_ r2∧Kd.R k115 115 w' w.heap.size (fun _=>True) v2_ r3∧Kd.R (Kd.int .i64) 2 w' w.heap.size (fun k_=>some k_≠(v7_:Value).ownBlock) v3_ r4∧Kd.R (Kd.int .i64) 2 w' w.heap.size (fun k_=>some k_≠(v3_:Value).ownBlock) v7_ r8∧Below w.heap.size w w':=by
 have hu58:=Tryz.underlying58
 have hu91:=Tryz.underlying91
 have hu50:=Tryz.underlying50
 have hu56:=Tryz.underlying56
 have HB:=aM (Below.refl w.heap.size w)
 have H:((Y8.f k a0 a1 a2 a3).bind fun bt831=>(if bt831.2.2.2.2.2.2.2.2.2=0 then (some (bt831.1,bt831.2.1,bt831.2.2.1,bt831.2.2.2.1,bt831.2.2.2.2.1,bt831.2.2.2.2.2.1,bt831.2.2.2.2.2.2.1,([]:List Int),0,0,0,0,0,0)) else (some (0,([]:List (S78)),([]:List (S115)),([]:List Int),0,0,0,([]:List Int),0,0,0,0,0,bt831.2.2.2.2.2.2.2.2.2))))=some (r1,r2,r3,r4,r5,r6,r7,r8,r9,r10,r11,r12,r13,r14):=h
 clear h
 replace H:=bS H
 obtain ⟨⟨t831,t832,t835,t838,t841,t842,t843,t844,t845,t846⟩,A50,H⟩:=H
 replace H:(if t846=0 then (some (t831,t832,t835,t838,t841,t842,t843,([]:List Int),0,0,0,0,0,0)) else (some (0,([]:List (S78)),([]:List (S115)),([]:List Int),0,0,0,([]:List Int),0,0,0,0,0,t846)))=some (r1,r2,r3,r4,r5,r6,r7,r8,r9,r10,r11,r12,r13,r14):=H
 have A5:=aM A50
 clear A50
 by_cases c6:t846=0
 ·rw [if_pos c6] at H
  have c6b0:(t846 == 0)=true:=beq_iff_eq.mpr c6
  have c6b1:(t846 != 0)=false:=bne_eq_false_iff_eq.mpr c6
  clear c6
  simp only [Option.some.injEq,Prod.mk.injEq] at H
  obtain ⟨rfl,rfl,rfl,rfl,rfl,rfl,rfl,rfl,rfl,rfl,rfl,rfl,rfl,rfl⟩:=H
  go_enter Tryz.func26,Tryz.ntmps26
  go_wp2_with (first | ((with_reducible refine gd_ 8 ?_);refine be_ 8 #[.int .i64 0,.slice none 0 0,.slice none 0 0,.slice none 0 0,.int .i64 0,.int .i64 0,.int .i64 0,.slice none 0 0,.slice none 0 0,.slice none 0 0,.slice none 0 0,.slice none 0 0,.int .i64 0,.int .i64 0] 58 ?_;intro gb830 hg w7 hbox hb;have n0_:=aM (below_step (z3_ HB.out) hb);have n1_:=aM (hbox);have n2_:=aM ((z9_ HB.out:w.heap.size≤gb830));have n3_:=aM ((z9_ HB.out:w.heap.size≤gb830));clear HB;have HB:=n0_;have BK830:=n1_;have GW830:=n2_;have GE830:=n3_;clear n0_ n1_ n2_ n3_;clear hb hbox hg) | ((with_reducible refine gc_ 59 ?_);refine gl_ (some 14) Tryz.func59 #[.int .i64 a0,.int .i64 a1,.int .i64 a2,.int .i64 a3] ?_;(with_reducible refine (Y8.calls k a0 a1 a2 a3 t831 t832 t835 t838 t841 t842 t843 t844 t845 t846 _ A5.out).mono ?_);rintro e w8 ⟨v833,v836,v839,rfl,ho0,ho1,ho2,hb⟩;refine ⟨_,rfl,?_⟩;have n0_:=aM (Kd.R_lower ho0 (below_size (z7_ HB.out GE830.out)));have n1_:=aM (Kd.R_lower ho1 (below_size (z7_ HB.out GE830.out)));have n2_:=aM (Kd.R_lower ho2 (below_size (z7_ HB.out GE830.out)));have n3_:=aM (blkB_ BK830.out hb);have n4_:=aM (below_step (z7_ HB.out GE830.out) hb);clear BK830;clear HB;have HO834:=n0_;have HO837:=n1_;have HO840:=n2_;have BK830:=n3_;have HB:=n4_;clear n0_ n1_ n2_ n3_ n4_;(try clear hb);(try clear ho0);(try clear ho1);(try clear ho2)) | ((with_reducible refine gd_ 9 ?_);refine be_ 9 #[.int .i64 0,.slice none 0 0,.slice none 0 0,.slice none 0 0,.int .i64 0,.int .i64 0,.int .i64 0,.slice none 0 0,.slice none 0 0,.int .i64 0] 91 ?_;intro gb847 hg w9 hbox hb;have n0_:=aM (Kd.R_below (z0_ HO834.out) hb);have n1_:=aM (Kd.R_below (z0_ HO837.out) hb);have n2_:=aM (Kd.R_below (z0_ HO840.out) hb);have n3_:=aM (blkB_ BK830.out hb);have n4_:=aM (below_step (z7_ HB.out GE830.out) hb);have n5_:=aM (hbox);have n6_:=aM ((z11_ HB.out GE830.out:w.heap.size≤gb847));have n7_:=aM ((z11_ HB.out GE830.out:w.heap.size≤gb847));have n8_:=aM (neL_ BK830.out hg);have n9_:=aM (neG_ BK830.out hg);clear HO834;clear HO837;clear HO840;clear BK830;clear HB;have HO834:=n0_;have HO837:=n1_;have HO840:=n2_;have BK830:=n3_;have HB:=n4_;have BK847:=n5_;have GW847:=n6_;have GE847:=n7_;have NB830_847:=n8_;have NB847_830:=n9_;clear n0_ n1_ n2_ n3_ n4_ n5_ n6_ n7_ n8_ n9_;clear hb hbox hg;have hnb10:=NB847_830.out;have hnc10:=NB830_847.out;have ⟨hcz11_0,hcz11_1,hcz11_2,hcz11_3,hcz11_4,hcz11_5,hcz11_6,hcz11_7,hcz11_8,hcz11_9,hfz11_0,hfz11_1,hfz11_2,hfz11_3,hfz11_4,hfz11_5,hfz11_6,hfz11_7,hfz11_8,hfz11_9⟩:=cz10_ BK847.out;obtain ⟨Ao12,co12,eo12⟩:=Kd.R_slice HO834.out;subst eo12;obtain ⟨Ao13,co13,eo13⟩:=Kd.R_slice HO837.out;subst eo13;obtain ⟨Ao14,co14,eo14⟩:=Kd.R_slice HO840.out;subst eo14;have hcz15_0:w9.cell? ⟨gb830,0,none⟩=some (.int .i64 0):=(blk_cell BK830.out 0).trans rfl;have hcz15_1:w9.cell? ⟨gb830,1,none⟩=some (.slice none 0 0):=(blk_cell BK830.out 1).trans rfl;have hcz15_2:w9.cell? ⟨gb830,2,none⟩=some (.slice none 0 0):=(blk_cell BK830.out 2).trans rfl;have hcz15_3:w9.cell? ⟨gb830,3,none⟩=some (.slice none 0 0):=(blk_cell BK830.out 3).trans rfl;have hcz15_4:w9.cell? ⟨gb830,4,none⟩=some (.int .i64 0):=(blk_cell BK830.out 4).trans rfl;have hcz15_5:w9.cell? ⟨gb830,5,none⟩=some (.int .i64 0):=(blk_cell BK830.out 5).trans rfl;have hcz15_6:w9.cell? ⟨gb830,6,none⟩=some (.int .i64 0):=(blk_cell BK830.out 6).trans rfl;have hcz15_7:w9.cell? ⟨gb830,7,none⟩=some (.slice none 0 0):=(blk_cell BK830.out 7).trans rfl;have hcz15_8:w9.cell? ⟨gb830,8,none⟩=some (.slice none 0 0):=(blk_cell BK830.out 8).trans rfl;have hcz15_9:w9.cell? ⟨gb830,9,none⟩=some (.slice none 0 0):=(blk_cell BK830.out 9).trans rfl;have hcz15_10:w9.cell? ⟨gb830,10,none⟩=some (.slice none 0 0):=(blk_cell BK830.out 10).trans rfl;have hcz15_11:w9.cell? ⟨gb830,11,none⟩=some (.slice none 0 0):=(blk_cell BK830.out 11).trans rfl;have hcz15_12:w9.cell? ⟨gb830,12,none⟩=some (.int .i64 0):=(blk_cell BK830.out 12).trans rfl;have hcz15_13:w9.cell? ⟨gb830,13,none⟩=some (.int .i64 0):=(blk_cell BK830.out 13).trans rfl;have hfz15_0:=blk_frozen BK830.out 0;have hfz15_1:=blk_frozen BK830.out 1;have hfz15_2:=blk_frozen BK830.out 2;have hfz15_3:=blk_frozen BK830.out 3;have hfz15_4:=blk_frozen BK830.out 4;have hfz15_5:=blk_frozen BK830.out 5;have hfz15_6:=blk_frozen BK830.out 6;have hfz15_7:=blk_frozen BK830.out 7;have hfz15_8:=blk_frozen BK830.out 8;have hfz15_9:=blk_frozen BK830.out 9;have hfz15_10:=blk_frozen BK830.out 10;have hfz15_11:=blk_frozen BK830.out 11;have hfz15_12:=blk_frozen BK830.out 12;have hfz15_13:=blk_frozen BK830.out 13))
  refine bodyPost_ret (results_cell_row rfl _ _ gb830 58 #[.int .i64 t831,.slice Ao12 t832.length co12,.slice Ao13 t835.length co13,.slice Ao14 t838.length co14,.int .i64 t841,.int .i64 t842,.int .i64 t843,.slice none 0 0,.slice none 0 0,.slice none 0 0,.slice none 0 0,.slice none 0 0,.int .i64 0,.int .i64 0] (0,0) _ rfl (by (with_reducible repeat (first | refine blk_drewN ?_ _ | refine blk_drew ?_ | refine blk_alloc ?_ _));refine blk_put (cs:=#[.int .i64 t831,.slice Ao12 t832.length co12,.slice Ao13 t835.length co13,.slice Ao14 t838.length co14,.int .i64 t841,.int .i64 t842,.int .i64 t843,.slice none 0 0,.slice none 0 0,.slice none 0 0,.slice none 0 0,.slice none 0 0,.int .i64 0,.int .i64 0]) ?_ 13 _ rfl;(with_reducible repeat (first | refine blk_drewN ?_ _ | refine blk_drew ?_ | refine blk_alloc ?_ _));refine blk_put (cs:=#[.int .i64 t831,.slice Ao12 t832.length co12,.slice Ao13 t835.length co13,.slice Ao14 t838.length co14,.int .i64 t841,.int .i64 t842,.int .i64 t843,.slice none 0 0,.slice none 0 0,.slice none 0 0,.slice none 0 0,.slice none 0 0,.int .i64 0,.int .i64 0]) ?_ 12 _ rfl;(with_reducible repeat (first | refine blk_drewN ?_ _ | refine blk_drew ?_ | refine blk_alloc ?_ _));refine blk_put (cs:=#[.int .i64 t831,.slice Ao12 t832.length co12,.slice Ao13 t835.length co13,.slice Ao14 t838.length co14,.int .i64 t841,.int .i64 t842,.int .i64 t843,.slice none 0 0,.slice none 0 0,.slice none 0 0,.slice none 0 0,.slice none 0 0,.int .i64 0,.int .i64 0]) ?_ 11 _ rfl;(with_reducible repeat (first | refine blk_drewN ?_ _ | refine blk_drew ?_ | refine blk_alloc ?_ _));refine blk_put (cs:=#[.int .i64 t831,.slice Ao12 t832.length co12,.slice Ao13 t835.length co13,.slice Ao14 t838.length co14,.int .i64 t841,.int .i64 t842,.int .i64 t843,.slice none 0 0,.slice none 0 0,.slice none 0 0,.slice none 0 0,.slice none 0 0,.int .i64 0,.int .i64 0]) ?_ 10 _ rfl;(with_reducible repeat (first | refine blk_drewN ?_ _ | refine blk_drew ?_ | refine blk_alloc ?_ _));refine blk_put (cs:=#[.int .i64 t831,.slice Ao12 t832.length co12,.slice Ao13 t835.length co13,.slice Ao14 t838.length co14,.int .i64 t841,.int .i64 t842,.int .i64 t843,.slice none 0 0,.slice none 0 0,.slice none 0 0,.slice none 0 0,.slice none 0 0,.int .i64 0,.int .i64 0]) ?_ 9 _ rfl;(with_reducible repeat (first | refine blk_drewN ?_ _ | refine blk_drew ?_ | refine blk_alloc ?_ _));refine blk_put (cs:=#[.int .i64 t831,.slice Ao12 t832.length co12,.slice Ao13 t835.length co13,.slice Ao14 t838.length co14,.int .i64 t841,.int .i64 t842,.int .i64 t843,.slice none 0 0,.slice none 0 0,.slice none 0 0,.slice none 0 0,.slice none 0 0,.int .i64 0,.int .i64 0]) ?_ 8 _ rfl;(with_reducible repeat (first | refine blk_drewN ?_ _ | refine blk_drew ?_ | refine blk_alloc ?_ _));refine blk_put (cs:=#[.int .i64 t831,.slice Ao12 t832.length co12,.slice Ao13 t835.length co13,.slice Ao14 t838.length co14,.int .i64 t841,.int .i64 t842,.int .i64 t843,.slice none 0 0,.slice none 0 0,.slice none 0 0,.slice none 0 0,.slice none 0 0,.int .i64 0,.int .i64 0]) ?_ 7 _ rfl;(with_reducible repeat (first | refine blk_drewN ?_ _ | refine blk_drew ?_ | refine blk_alloc ?_ _));refine blk_put (cs:=#[.int .i64 t831,.slice Ao12 t832.length co12,.slice Ao13 t835.length co13,.slice Ao14 t838.length co14,.int .i64 t841,.int .i64 t842,.int .i64 0,.slice none 0 0,.slice none 0 0,.slice none 0 0,.slice none 0 0,.slice none 0 0,.int .i64 0,.int .i64 0]) ?_ 6 _ rfl;(with_reducible repeat (first | refine blk_drewN ?_ _ | refine blk_drew ?_ | refine blk_alloc ?_ _));refine blk_put (cs:=#[.int .i64 t831,.slice Ao12 t832.length co12,.slice Ao13 t835.length co13,.slice Ao14 t838.length co14,.int .i64 t841,.int .i64 0,.int .i64 0,.slice none 0 0,.slice none 0 0,.slice none 0 0,.slice none 0 0,.slice none 0 0,.int .i64 0,.int .i64 0]) ?_ 5 _ rfl;(with_reducible repeat (first | refine blk_drewN ?_ _ | refine blk_drew ?_ | refine blk_alloc ?_ _));refine blk_put (cs:=#[.int .i64 t831,.slice Ao12 t832.length co12,.slice Ao13 t835.length co13,.slice Ao14 t838.length co14,.int .i64 0,.int .i64 0,.int .i64 0,.slice none 0 0,.slice none 0 0,.slice none 0 0,.slice none 0 0,.slice none 0 0,.int .i64 0,.int .i64 0]) ?_ 4 _ rfl;(with_reducible repeat (first | refine blk_drewN ?_ _ | refine blk_drew ?_ | refine blk_alloc ?_ _));refine blk_put (cs:=#[.int .i64 t831,.slice Ao12 t832.length co12,.slice Ao13 t835.length co13,.slice none 0 0,.int .i64 0,.int .i64 0,.int .i64 0,.slice none 0 0,.slice none 0 0,.slice none 0 0,.slice none 0 0,.slice none 0 0,.int .i64 0,.int .i64 0]) ?_ 3 _ rfl;(with_reducible repeat (first | refine blk_drewN ?_ _ | refine blk_drew ?_ | refine blk_alloc ?_ _));refine blk_put (cs:=#[.int .i64 t831,.slice Ao12 t832.length co12,.slice none 0 0,.slice none 0 0,.int .i64 0,.int .i64 0,.int .i64 0,.slice none 0 0,.slice none 0 0,.slice none 0 0,.slice none 0 0,.slice none 0 0,.int .i64 0,.int .i64 0]) ?_ 2 _ rfl;(with_reducible repeat (first | refine blk_drewN ?_ _ | refine blk_drew ?_ | refine blk_alloc ?_ _));refine blk_put (cs:=#[.int .i64 t831,.slice none 0 0,.slice none 0 0,.slice none 0 0,.int .i64 0,.int .i64 0,.int .i64 0,.slice none 0 0,.slice none 0 0,.slice none 0 0,.slice none 0 0,.slice none 0 0,.int .i64 0,.int .i64 0]) ?_ 1 _ rfl;(with_reducible repeat (first | refine blk_drewN ?_ _ | refine blk_drew ?_ | refine blk_alloc ?_ _));refine blk_put (cs:=#[.int .i64 0,.slice none 0 0,.slice none 0 0,.slice none 0 0,.int .i64 0,.int .i64 0,.int .i64 0,.slice none 0 0,.slice none 0 0,.slice none 0 0,.slice none 0 0,.slice none 0 0,.int .i64 0,.int .i64 0]) ?_ 0 _ rfl;(with_reducible repeat (first | refine blk_drewN ?_ _ | refine blk_drew ?_ | refine blk_alloc ?_ _));refine blk_far ?_ NB830_847.out _;(with_reducible repeat (first | refine blk_drewN ?_ _ | refine blk_drew ?_ | refine blk_alloc ?_ _));refine blk_far ?_ NB830_847.out _;(with_reducible repeat (first | refine blk_drewN ?_ _ | refine blk_drew ?_ | refine blk_alloc ?_ _));refine blk_far ?_ NB830_847.out _;(with_reducible repeat (first | refine blk_drewN ?_ _ | refine blk_drew ?_ | refine blk_alloc ?_ _));refine blk_far ?_ NB830_847.out _;(with_reducible repeat (first | refine blk_drewN ?_ _ | refine blk_drew ?_ | refine blk_alloc ?_ _));refine blk_far ?_ NB830_847.out _;(with_reducible repeat (first | refine blk_drewN ?_ _ | refine blk_drew ?_ | refine blk_alloc ?_ _));refine blk_far ?_ NB830_847.out _;(with_reducible repeat (first | refine blk_drewN ?_ _ | refine blk_drew ?_ | refine blk_alloc ?_ _));refine blk_far ?_ NB830_847.out _;(with_reducible repeat (first | refine blk_drewN ?_ _ | refine blk_drew ?_ | refine blk_alloc ?_ _));refine blk_far ?_ NB830_847.out _;(with_reducible repeat (first | refine blk_drewN ?_ _ | refine blk_drew ?_ | refine blk_alloc ?_ _));refine blk_far ?_ NB830_847.out _;(with_reducible repeat (first | refine blk_drewN ?_ _ | refine blk_drew ?_ | refine blk_alloc ?_ _));refine blk_far ?_ NB830_847.out _;(with_reducible repeat (first | refine blk_drewN ?_ _ | refine blk_drew ?_ | refine blk_alloc ?_ _));exact BK830.out) Tryz.underlying58 rfl (by kernel_rfl)) rfl ?_
  exact ⟨_,_,_,_,z10_,by (with_reducible repeat (first | apply Kd.R_alloc | apply Kd.R_drewN | apply Kd.R_drew));exact Kd.R_mono (Kd.R_far (p:=⟨gb830,13,none⟩) (Kd.R_far (p:=⟨gb830,12,none⟩) (rf12_ (Kd.R_far (p:=⟨gb847,9,none⟩) (Kd.R_far (p:=⟨gb847,8,none⟩) (Kd.R_far (p:=⟨gb847,7,none⟩) (Kd.R_far (p:=⟨gb847,6,none⟩) (Kd.R_far (p:=⟨gb847,5,none⟩) (Kd.R_far (p:=⟨gb847,4,none⟩) (Kd.R_far (p:=⟨gb847,3,none⟩) (Kd.R_far (p:=⟨gb847,2,none⟩) (Kd.R_far (p:=⟨gb847,1,none⟩) (Kd.R_far (p:=⟨gb847,0,none⟩) (Kd.R_types (Kd.R_types HO834.out BK847.out (by decide)) BK830.out (by decide)) (fun _ hk=>hk.1.2) (.int .i64 t831)) (fun _ hk=>hk.1.2) (.slice Ao12 t832.length co12)) (fun _ hk=>hk.1.2) (.slice Ao13 t835.length co13)) (fun _ hk=>hk.1.2) (.slice Ao14 t838.length co14)) (fun _ hk=>hk.1.2) (.int .i64 t841)) (fun _ hk=>hk.1.2) (.int .i64 t842)) (fun _ hk=>hk.1.2) (.int .i64 t843)) (fun _ hk=>hk.1.2) (.slice none 0 0)) (fun _ hk=>hk.1.2) (.slice none 0 0)) (fun _ hk=>hk.1.2) (.int .i64 t846)) (fun _ hk=>hk.2)) (fun _ hk=>hk.2) (.int .i64 0)) (fun _ hk=>hk.2) (.int .i64 0)) (fun _ hk=>trivial),by (with_reducible repeat (first | apply Kd.R_alloc | apply Kd.R_drewN | apply Kd.R_drew));exact Kd.R_mono (Kd.R_far (p:=⟨gb830,13,none⟩) (Kd.R_far (p:=⟨gb830,12,none⟩) (rf12_ (Kd.R_far (p:=⟨gb847,9,none⟩) (Kd.R_far (p:=⟨gb847,8,none⟩) (Kd.R_far (p:=⟨gb847,7,none⟩) (Kd.R_far (p:=⟨gb847,6,none⟩) (Kd.R_far (p:=⟨gb847,5,none⟩) (Kd.R_far (p:=⟨gb847,4,none⟩) (Kd.R_far (p:=⟨gb847,3,none⟩) (Kd.R_far (p:=⟨gb847,2,none⟩) (Kd.R_far (p:=⟨gb847,1,none⟩) (Kd.R_far (p:=⟨gb847,0,none⟩) (Kd.R_types (Kd.R_types HO837.out BK847.out (by decide)) BK830.out (by decide)) (fun _ hk=>hk.1.2) (.int .i64 t831)) (fun _ hk=>hk.1.2) (.slice Ao12 t832.length co12)) (fun _ hk=>hk.1.2) (.slice Ao13 t835.length co13)) (fun _ hk=>hk.1.2) (.slice Ao14 t838.length co14)) (fun _ hk=>hk.1.2) (.int .i64 t841)) (fun _ hk=>hk.1.2) (.int .i64 t842)) (fun _ hk=>hk.1.2) (.int .i64 t843)) (fun _ hk=>hk.1.2) (.slice none 0 0)) (fun _ hk=>hk.1.2) (.slice none 0 0)) (fun _ hk=>hk.1.2) (.int .i64 t846)) (fun _ hk=>hk.2)) (fun _ hk=>hk.2) (.int .i64 0)) (fun _ hk=>hk.2) (.int .i64 0)) (fun _ hk=>trivial),by (with_reducible repeat (first | apply Kd.R_alloc | apply Kd.R_drewN | apply Kd.R_drew));exact Kd.R_mono (Kd.R_far (p:=⟨gb830,13,none⟩) (Kd.R_far (p:=⟨gb830,12,none⟩) (rf12_ (Kd.R_far (p:=⟨gb847,9,none⟩) (Kd.R_far (p:=⟨gb847,8,none⟩) (Kd.R_far (p:=⟨gb847,7,none⟩) (Kd.R_far (p:=⟨gb847,6,none⟩) (Kd.R_far (p:=⟨gb847,5,none⟩) (Kd.R_far (p:=⟨gb847,4,none⟩) (Kd.R_far (p:=⟨gb847,3,none⟩) (Kd.R_far (p:=⟨gb847,2,none⟩) (Kd.R_far (p:=⟨gb847,1,none⟩) (Kd.R_far (p:=⟨gb847,0,none⟩) (Kd.R_types (Kd.R_types HO840.out BK847.out (by decide)) BK830.out (by decide)) (fun _ hk=>hk.1.2) (.int .i64 t831)) (fun _ hk=>hk.1.2) (.slice Ao12 t832.length co12)) (fun _ hk=>hk.1.2) (.slice Ao13 t835.length co13)) (fun _ hk=>hk.1.2) (.slice Ao14 t838.length co14)) (fun _ hk=>hk.1.2) (.int .i64 t841)) (fun _ hk=>hk.1.2) (.int .i64 t842)) (fun _ hk=>hk.1.2) (.int .i64 t843)) (fun _ hk=>hk.1.2) (.slice none 0 0)) (fun _ hk=>hk.1.2) (.slice none 0 0)) (fun _ hk=>hk.1.2) (.int .i64 t846)) (fun _ hk=>hk.2)) (fun _ hk=>hk.2) (.int .i64 0)) (fun _ hk=>hk.2) (.int .i64 0)) (fun _ hk=>(by simp [Value.ownBlock])),z13_,z8_ HB.out GE830.out GE847.out⟩
 ·rw [if_neg c6] at H
  have c6b0:(t846 == 0)=false:=beq_eq_false_iff_ne.mpr c6
  have c6b1:(t846 != 0)=true:=bne_iff_ne.mpr c6
  simp only [Option.some.injEq,Prod.mk.injEq] at H
  obtain ⟨rfl,rfl,rfl,rfl,rfl,rfl,rfl,rfl,rfl,rfl,rfl,rfl,rfl,rfl⟩:=H
  go_enter Tryz.func26,Tryz.ntmps26
  go_wp2_with (first | ((with_reducible refine gd_ 8 ?_);refine be_ 8 #[.int .i64 0,.slice none 0 0,.slice none 0 0,.slice none 0 0,.int .i64 0,.int .i64 0,.int .i64 0,.slice none 0 0,.slice none 0 0,.slice none 0 0,.slice none 0 0,.slice none 0 0,.int .i64 0,.int .i64 0] 58 ?_;intro gb830 hg w16 hbox hb;have n0_:=aM (below_step (z3_ HB.out) hb);have n1_:=aM (hbox);have n2_:=aM ((z9_ HB.out:w.heap.size≤gb830));have n3_:=aM ((z9_ HB.out:w.heap.size≤gb830));clear HB;have HB:=n0_;have BK830:=n1_;have GW830:=n2_;have GE830:=n3_;clear n0_ n1_ n2_ n3_;clear hb hbox hg) | ((with_reducible refine gc_ 59 ?_);refine gl_ (some 14) Tryz.func59 #[.int .i64 a0,.int .i64 a1,.int .i64 a2,.int .i64 a3] ?_;(with_reducible refine (Y8.calls k a0 a1 a2 a3 t831 t832 t835 t838 t841 t842 t843 t844 t845 t846 _ A5.out).mono ?_);rintro e w17 ⟨v833,v836,v839,rfl,ho0,ho1,ho2,hb⟩;refine ⟨_,rfl,?_⟩;have n0_:=aM (Kd.R_lower ho0 (below_size (z7_ HB.out GE830.out)));have n1_:=aM (Kd.R_lower ho1 (below_size (z7_ HB.out GE830.out)));have n2_:=aM (Kd.R_lower ho2 (below_size (z7_ HB.out GE830.out)));have n3_:=aM (blkB_ BK830.out hb);have n4_:=aM (below_step (z7_ HB.out GE830.out) hb);clear BK830;clear HB;have HO834:=n0_;have HO837:=n1_;have HO840:=n2_;have BK830:=n3_;have HB:=n4_;clear n0_ n1_ n2_ n3_ n4_;(try clear hb);(try clear ho0);(try clear ho1);(try clear ho2)) | ((with_reducible refine gd_ 9 ?_);refine be_ 9 #[.int .i64 0,.slice none 0 0,.slice none 0 0,.slice none 0 0,.int .i64 0,.int .i64 0,.int .i64 0,.slice none 0 0,.slice none 0 0,.int .i64 0] 91 ?_;intro gb847 hg w18 hbox hb;have n0_:=aM (Kd.R_below (z0_ HO834.out) hb);have n1_:=aM (Kd.R_below (z0_ HO837.out) hb);have n2_:=aM (Kd.R_below (z0_ HO840.out) hb);have n3_:=aM (blkB_ BK830.out hb);have n4_:=aM (below_step (z7_ HB.out GE830.out) hb);have n5_:=aM (hbox);have n6_:=aM ((z11_ HB.out GE830.out:w.heap.size≤gb847));have n7_:=aM ((z11_ HB.out GE830.out:w.heap.size≤gb847));have n8_:=aM (neL_ BK830.out hg);have n9_:=aM (neG_ BK830.out hg);clear HO834;clear HO837;clear HO840;clear BK830;clear HB;have HO834:=n0_;have HO837:=n1_;have HO840:=n2_;have BK830:=n3_;have HB:=n4_;have BK847:=n5_;have GW847:=n6_;have GE847:=n7_;have NB830_847:=n8_;have NB847_830:=n9_;clear n0_ n1_ n2_ n3_ n4_ n5_ n6_ n7_ n8_ n9_;clear hb hbox hg;have hnb19:=NB847_830.out;have hnc19:=NB830_847.out;have ⟨hcz20_0,hcz20_1,hcz20_2,hcz20_3,hcz20_4,hcz20_5,hcz20_6,hcz20_7,hcz20_8,hcz20_9,hfz20_0,hfz20_1,hfz20_2,hfz20_3,hfz20_4,hfz20_5,hfz20_6,hfz20_7,hfz20_8,hfz20_9⟩:=cz10_ BK847.out;obtain ⟨Ao21,co21,eo21⟩:=Kd.R_slice HO834.out;subst eo21;obtain ⟨Ao22,co22,eo22⟩:=Kd.R_slice HO837.out;subst eo22;obtain ⟨Ao23,co23,eo23⟩:=Kd.R_slice HO840.out;subst eo23;have hcz24_0:w18.cell? ⟨gb830,0,none⟩=some (.int .i64 0):=(blk_cell BK830.out 0).trans rfl;have hcz24_1:w18.cell? ⟨gb830,1,none⟩=some (.slice none 0 0):=(blk_cell BK830.out 1).trans rfl;have hcz24_2:w18.cell? ⟨gb830,2,none⟩=some (.slice none 0 0):=(blk_cell BK830.out 2).trans rfl;have hcz24_3:w18.cell? ⟨gb830,3,none⟩=some (.slice none 0 0):=(blk_cell BK830.out 3).trans rfl;have hcz24_4:w18.cell? ⟨gb830,4,none⟩=some (.int .i64 0):=(blk_cell BK830.out 4).trans rfl;have hcz24_5:w18.cell? ⟨gb830,5,none⟩=some (.int .i64 0):=(blk_cell BK830.out 5).trans rfl;have hcz24_6:w18.cell? ⟨gb830,6,none⟩=some (.int .i64 0):=(blk_cell BK830.out 6).trans rfl;have hcz24_7:w18.cell? ⟨gb830,7,none⟩=some (.slice none 0 0):=(blk_cell BK830.out 7).trans rfl;have hcz24_8:w18.cell? ⟨gb830,8,none⟩=some (.slice none 0 0):=(blk_cell BK830.out 8).trans rfl;have hcz24_9:w18.cell? ⟨gb830,9,none⟩=some (.slice none 0 0):=(blk_cell BK830.out 9).trans rfl;have hcz24_10:w18.cell? ⟨gb830,10,none⟩=some (.slice none 0 0):=(blk_cell BK830.out 10).trans rfl;have hcz24_11:w18.cell? ⟨gb830,11,none⟩=some (.slice none 0 0):=(blk_cell BK830.out 11).trans rfl;have hcz24_12:w18.cell? ⟨gb830,12,none⟩=some (.int .i64 0):=(blk_cell BK830.out 12).trans rfl;have hcz24_13:w18.cell? ⟨gb830,13,none⟩=some (.int .i64 0):=(blk_cell BK830.out 13).trans rfl;have hfz24_0:=blk_frozen BK830.out 0;have hfz24_1:=blk_frozen BK830.out 1;have hfz24_2:=blk_frozen BK830.out 2;have hfz24_3:=blk_frozen BK830.out 3;have hfz24_4:=blk_frozen BK830.out 4;have hfz24_5:=blk_frozen BK830.out 5;have hfz24_6:=blk_frozen BK830.out 6;have hfz24_7:=blk_frozen BK830.out 7;have hfz24_8:=blk_frozen BK830.out 8;have hfz24_9:=blk_frozen BK830.out 9;have hfz24_10:=blk_frozen BK830.out 10;have hfz24_11:=blk_frozen BK830.out 11;have hfz24_12:=blk_frozen BK830.out 12;have hfz24_13:=blk_frozen BK830.out 13))
  refine bodyPost_ret (results_cell_row rfl _ _ gb830 58 #[.int .i64 0,.slice none 0 0,.slice none 0 0,.slice none 0 0,.int .i64 0,.int .i64 0,.int .i64 0,.slice none 0 0,.slice none 0 0,.slice none 0 0,.slice none 0 0,.slice none 0 0,.int .i64 0,.int .i64 t846] (0,0) _ rfl (by (with_reducible repeat (first | refine blk_drewN ?_ _ | refine blk_drew ?_ | refine blk_alloc ?_ _));refine blk_put (cs:=#[.int .i64 0,.slice none 0 0,.slice none 0 0,.slice none 0 0,.int .i64 0,.int .i64 0,.int .i64 0,.slice none 0 0,.slice none 0 0,.slice none 0 0,.slice none 0 0,.slice none 0 0,.int .i64 0,.int .i64 0]) ?_ 13 _ rfl;(with_reducible repeat (first | refine blk_drewN ?_ _ | refine blk_drew ?_ | refine blk_alloc ?_ _));refine blk_put (cs:=#[.int .i64 0,.slice none 0 0,.slice none 0 0,.slice none 0 0,.int .i64 0,.int .i64 0,.int .i64 0,.slice none 0 0,.slice none 0 0,.slice none 0 0,.slice none 0 0,.slice none 0 0,.int .i64 0,.int .i64 0]) ?_ 12 _ rfl;(with_reducible repeat (first | refine blk_drewN ?_ _ | refine blk_drew ?_ | refine blk_alloc ?_ _));refine blk_put (cs:=#[.int .i64 0,.slice none 0 0,.slice none 0 0,.slice none 0 0,.int .i64 0,.int .i64 0,.int .i64 0,.slice none 0 0,.slice none 0 0,.slice none 0 0,.slice none 0 0,.slice none 0 0,.int .i64 0,.int .i64 0]) ?_ 11 _ rfl;(with_reducible repeat (first | refine blk_drewN ?_ _ | refine blk_drew ?_ | refine blk_alloc ?_ _));refine blk_put (cs:=#[.int .i64 0,.slice none 0 0,.slice none 0 0,.slice none 0 0,.int .i64 0,.int .i64 0,.int .i64 0,.slice none 0 0,.slice none 0 0,.slice none 0 0,.slice none 0 0,.slice none 0 0,.int .i64 0,.int .i64 0]) ?_ 10 _ rfl;(with_reducible repeat (first | refine blk_drewN ?_ _ | refine blk_drew ?_ | refine blk_alloc ?_ _));refine blk_put (cs:=#[.int .i64 0,.slice none 0 0,.slice none 0 0,.slice none 0 0,.int .i64 0,.int .i64 0,.int .i64 0,.slice none 0 0,.slice none 0 0,.slice none 0 0,.slice none 0 0,.slice none 0 0,.int .i64 0,.int .i64 0]) ?_ 9 _ rfl;(with_reducible repeat (first | refine blk_drewN ?_ _ | refine blk_drew ?_ | refine blk_alloc ?_ _));refine blk_put (cs:=#[.int .i64 0,.slice none 0 0,.slice none 0 0,.slice none 0 0,.int .i64 0,.int .i64 0,.int .i64 0,.slice none 0 0,.slice none 0 0,.slice none 0 0,.slice none 0 0,.slice none 0 0,.int .i64 0,.int .i64 0]) ?_ 8 _ rfl;(with_reducible repeat (first | refine blk_drewN ?_ _ | refine blk_drew ?_ | refine blk_alloc ?_ _));refine blk_put (cs:=#[.int .i64 0,.slice none 0 0,.slice none 0 0,.slice none 0 0,.int .i64 0,.int .i64 0,.int .i64 0,.slice none 0 0,.slice none 0 0,.slice none 0 0,.slice none 0 0,.slice none 0 0,.int .i64 0,.int .i64 0]) ?_ 7 _ rfl;(with_reducible repeat (first | refine blk_drewN ?_ _ | refine blk_drew ?_ | refine blk_alloc ?_ _));refine blk_put (cs:=#[.int .i64 0,.slice none 0 0,.slice none 0 0,.slice none 0 0,.int .i64 0,.int .i64 0,.int .i64 0,.slice none 0 0,.slice none 0 0,.slice none 0 0,.slice none 0 0,.slice none 0 0,.int .i64 0,.int .i64 0]) ?_ 6 _ rfl;(with_reducible repeat (first | refine blk_drewN ?_ _ | refine blk_drew ?_ | refine blk_alloc ?_ _));refine blk_put (cs:=#[.int .i64 0,.slice none 0 0,.slice none 0 0,.slice none 0 0,.int .i64 0,.int .i64 0,.int .i64 0,.slice none 0 0,.slice none 0 0,.slice none 0 0,.slice none 0 0,.slice none 0 0,.int .i64 0,.int .i64 0]) ?_ 5 _ rfl;(with_reducible repeat (first | refine blk_drewN ?_ _ | refine blk_drew ?_ | refine blk_alloc ?_ _));refine blk_put (cs:=#[.int .i64 0,.slice none 0 0,.slice none 0 0,.slice none 0 0,.int .i64 0,.int .i64 0,.int .i64 0,.slice none 0 0,.slice none 0 0,.slice none 0 0,.slice none 0 0,.slice none 0 0,.int .i64 0,.int .i64 0]) ?_ 4 _ rfl;(with_reducible repeat (first | refine blk_drewN ?_ _ | refine blk_drew ?_ | refine blk_alloc ?_ _));refine blk_put (cs:=#[.int .i64 0,.slice none 0 0,.slice none 0 0,.slice none 0 0,.int .i64 0,.int .i64 0,.int .i64 0,.slice none 0 0,.slice none 0 0,.slice none 0 0,.slice none 0 0,.slice none 0 0,.int .i64 0,.int .i64 0]) ?_ 3 _ rfl;(with_reducible repeat (first | refine blk_drewN ?_ _ | refine blk_drew ?_ | refine blk_alloc ?_ _));refine blk_put (cs:=#[.int .i64 0,.slice none 0 0,.slice none 0 0,.slice none 0 0,.int .i64 0,.int .i64 0,.int .i64 0,.slice none 0 0,.slice none 0 0,.slice none 0 0,.slice none 0 0,.slice none 0 0,.int .i64 0,.int .i64 0]) ?_ 2 _ rfl;(with_reducible repeat (first | refine blk_drewN ?_ _ | refine blk_drew ?_ | refine blk_alloc ?_ _));refine blk_put (cs:=#[.int .i64 0,.slice none 0 0,.slice none 0 0,.slice none 0 0,.int .i64 0,.int .i64 0,.int .i64 0,.slice none 0 0,.slice none 0 0,.slice none 0 0,.slice none 0 0,.slice none 0 0,.int .i64 0,.int .i64 0]) ?_ 1 _ rfl;(with_reducible repeat (first | refine blk_drewN ?_ _ | refine blk_drew ?_ | refine blk_alloc ?_ _));refine blk_put (cs:=#[.int .i64 0,.slice none 0 0,.slice none 0 0,.slice none 0 0,.int .i64 0,.int .i64 0,.int .i64 0,.slice none 0 0,.slice none 0 0,.slice none 0 0,.slice none 0 0,.slice none 0 0,.int .i64 0,.int .i64 0]) ?_ 0 _ rfl;(with_reducible repeat (first | refine blk_drewN ?_ _ | refine blk_drew ?_ | refine blk_alloc ?_ _));refine blk_far ?_ NB830_847.out _;(with_reducible repeat (first | refine blk_drewN ?_ _ | refine blk_drew ?_ | refine blk_alloc ?_ _));refine blk_far ?_ NB830_847.out _;(with_reducible repeat (first | refine blk_drewN ?_ _ | refine blk_drew ?_ | refine blk_alloc ?_ _));refine blk_far ?_ NB830_847.out _;(with_reducible repeat (first | refine blk_drewN ?_ _ | refine blk_drew ?_ | refine blk_alloc ?_ _));refine blk_far ?_ NB830_847.out _;(with_reducible repeat (first | refine blk_drewN ?_ _ | refine blk_drew ?_ | refine blk_alloc ?_ _));refine blk_far ?_ NB830_847.out _;(with_reducible repeat (first | refine blk_drewN ?_ _ | refine blk_drew ?_ | refine blk_alloc ?_ _));refine blk_far ?_ NB830_847.out _;(with_reducible repeat (first | refine blk_drewN ?_ _ | refine blk_drew ?_ | refine blk_alloc ?_ _));refine blk_far ?_ NB830_847.out _;(with_reducible repeat (first | refine blk_drewN ?_ _ | refine blk_drew ?_ | refine blk_alloc ?_ _));refine blk_far ?_ NB830_847.out _;(with_reducible repeat (first | refine blk_drewN ?_ _ | refine blk_drew ?_ | refine blk_alloc ?_ _));refine blk_far ?_ NB830_847.out _;(with_reducible repeat (first | refine blk_drewN ?_ _ | refine blk_drew ?_ | refine blk_alloc ?_ _));refine blk_far ?_ NB830_847.out _;(with_reducible repeat (first | refine blk_drewN ?_ _ | refine blk_drew ?_ | refine blk_alloc ?_ _));exact BK830.out) Tryz.underlying58 rfl (by kernel_rfl)) rfl ?_
  exact ⟨_,_,_,_,z10_,z13_,z13_,z13_,z13_,z8_ HB.out GE830.out GE847.out⟩


/-! ### Y22: function 82 -/
def Y22.l0:Nat→List Int→List Int→Int→Option (Bool)
 | 0,_,_,_=>none
 | k+1,x0,x1,x5=>if x5<(x0.length:Int) then (if 0≤x5 then (if x5<(x1.length:Int) then (if (rd x0 x5)=(rd x1 x5) then (Y22.l0 k x0 x1 (wrap64 (x5+1))) else (none)) else (none)) else (none)) else (some true)
def Y22.f (k:Nat) (l0:List Int) (l1:List Int):Option (Bool):=if (l0.length:Int)=(l1.length:Int) then (Y22.l0 k l0 l1 0) else (none)
theorem Y22.mono_l:∀ k,(∀ y0 y1 y2,LeO (Y22.l0 k y0 y1 y2) (Y22.l0 (k+1) y0 y1 y2))
 | 0=>by intros <;> exact LeO.none _
 | k+1=>by
  have ih0:=Y22.mono_l k
  ·intros
   unfold Y22.l0
   exact mO
theorem Y22.mono:∀ a0 a1 k,LeO (Y22.f k a0 a1) (Y22.f (k+1) a0 a1):=by
 intro a0 a1 k
 have ih0:=Y22.mono_l k
 unfold Y22.f
 exact mO
theorem Y22.calls (k:Nat) (A0:Option Addr) (c0:Nat) (l0:List Int) (A1:Option Addr) (c1:Nat) (l1:List Int) (r:Bool) (w:World) (hr0:Kd.C (Kd.int .i64) w A0 l0.length l0) (hc0:l0.length≤c0) (hr1:Kd.C (Kd.int .i64) w A1 l1.length l1) (hc1:l1.length≤c1) (h:Y22.f k l0 l1=some r) :
  Calls Tryz.prog 82 #[.slice A0 l0.length c0,.slice A1 l1.length c1] w fun e w'=>e = .returned (.bool r)∧Drawn0 w w':=by
 have HR0:=aM hr0
 have HC0:=aM hc0
 clear hr0 hc0
 have HR1:=aM hr1
 have HC1:=aM hc1
 clear hr1 hc1
 have H:(if (l0.length:Int)=(l1.length:Int) then (Y22.l0 k l0 l1 0) else (none))=some r:=h
 clear h
 by_cases c3:(l0.length:Int)=(l1.length:Int)
 ·rw [if_pos c3] at H
  have c3b0:((l0.length:Int) == (l1.length:Int))=true:=beq_iff_eq.mpr c3
  have c3b1:((l0.length:Int) != (l1.length:Int))=false:=bne_eq_false_iff_eq.mpr c3
  have c3b2:(l0.length == l1.length)=true:=by first | simpa using c3 | (simp at c3 ⊢;omega)
  clear c3
  have H':=aM H
  clear H
  go_enter Tryz.func82,Tryz.ntmps82
  go_wp2
  repeat (go_quiet (fail);try go_wp2)
  go_loopg [5] k (fun kq v5 w'=>∃ (x5_1:Int),v5 = .int .i64 x5_1∧Aside0 (Y22.l0 kq l0 l1 x5_1=some r)∧Aside0 (kq≤k)∧Drawn0 w w')
  case atStart=>exact ⟨(0),(z1_),H',⟨Nat.le_refl _⟩,z5_⟩
  case round =>
   clear H'
   try clear c1
   try clear p2
   try clear c3
   try clear c3b0
   try clear c3b1
   try clear c3b2
   obtain ⟨x5_1,rfl,HA,HK1,⟨m1,rfl⟩⟩:=hrel
   cases gk with
   | zero=>exact absurd HA.out (by simp [Y22.l0])
   | succ k1 =>
    have H:=HA.out
    clear HA
    simp only [Y22.l0] at H
    by_cases c4:x5_1<(l0.length:Int)
    ·rw [if_pos c4] at H
     have c4b0:decide (x5_1<(l0.length:Int))=true:=dE c4
     clear c4
     by_cases c5:0≤x5_1
     ·rw [if_pos c5] at H
      have c5b0:decide (0≤x5_1)=true:=dE c5
      clear c5
      by_cases c6:x5_1<(l1.length:Int)
      ·rw [if_pos c6] at H
       have c6b0:decide (x5_1<(l1.length:Int))=true:=dE c6
       clear c6
       by_cases c7:(rd l0 x5_1)=(rd l1 x5_1)
       ·rw [if_pos c7] at H
        have c7b0:((rd l0 x5_1) == (rd l1 x5_1))=true:=beq_iff_eq.mpr c7
        have c7b1:((rd l0 x5_1) != (rd l1 x5_1))=false:=bne_eq_false_iff_eq.mpr c7
        clear c7
        have H':=aM H
        clear H
        have p848:0≤(x5_1:Int):=dT (z2_)
        have q848:x5_1<(l0.length:Int):=dT (z2_)
        obtain ⟨ad848,e848,hx848_0⟩:=Kd.at_int HR0.out x5_1 p848 q848
        cases e848
        replace p848:=eq_true p848
        replace q848:=eq_true q848
        have p849:0≤(x5_1:Int):=dT (z2_)
        have q849:x5_1<(l1.length:Int):=dT (z2_)
        obtain ⟨ad849,e849,hx849_0⟩:=Kd.at_int HR1.out x5_1 p849 q849
        cases e849
        replace p849:=eq_true p849
        replace q849:=eq_true q849
        go_wp2
        repeat (go_quiet (fail);try go_wp2)
        go_roundg k1
        case measure=>have:=HK1.out;omega
        case rel=>exact ⟨(wrap64 (x5_1+1)),(z1_),H',⟨by have:=HK1.out;omega⟩,z5_⟩
       ·rw [if_neg c7] at H
        exact nO H
      ·rw [if_neg c6] at H
       exact nO H
     ·rw [if_neg c5] at H
      exact nO H
    ·rw [if_neg c4] at H
     have c4b0:decide (x5_1<(l0.length:Int))=false:=dF c4
     clear c4
     obtain rfl:=sI H
     go_wp2
     repeat (go_quiet (fail);try go_wp2)
     go_ret
     exact ⟨z1_,z5_⟩
 ·rw [if_neg c3] at H
  exact nO H


/-! ### Y79: function 157 -/
def Y79.f (a0_0:Int) (a0_1:Int) (a1_0:Int) (a1_1:Int):Option (Bool):=if a0_0=a1_0 then (if a0_1=a1_1 then (some true) else (none)) else (none)
theorem Y79.calls (a0_0:Int) (a0_1:Int) (a1_0:Int) (a1_1:Int) (r:Bool) (w:World) (h:Y79.f a0_0 a0_1 a1_0 a1_1=some r) :
  Calls Tryz.prog 157 #[.agg #[.int .i64 a0_0,.int .i64 a0_1],.agg #[.int .i64 a1_0,.int .i64 a1_1]] w fun e w'=>e = .returned (.bool r)∧Below w.heap.size w w':=by
 have hu78:=Tryz.underlying78
 have HB:=aM (Below.refl w.heap.size w)
 have H:(if a0_0=a1_0 then (if a0_1=a1_1 then (some true) else (none)) else (none))=some r:=h
 clear h
 by_cases c3:a0_0=a1_0
 ·rw [if_pos c3] at H
  have c3b0:(a0_0 == a1_0)=true:=beq_iff_eq.mpr c3
  have c3b1:(a0_0 != a1_0)=false:=bne_eq_false_iff_eq.mpr c3
  clear c3
  by_cases c4:a0_1=a1_1
  ·rw [if_pos c4] at H
   have c4b0:(a0_1 == a1_1)=true:=beq_iff_eq.mpr c4
   have c4b1:(a0_1 != a1_1)=false:=bne_eq_false_iff_eq.mpr c4
   clear c4
   obtain rfl:=sI H
   go_enter Tryz.func157,Tryz.ntmps157
   go_wp2_with (first | ((with_reducible refine gd_ 2 ?_);refine be_ 2 #[.int .i64 a0_0,.int .i64 a0_1] 78 ?_;intro gb850 hg w5 hbox hb;have n0_:=aM (below_step (z3_ HB.out) hb);have n1_:=aM (hbox);have n2_:=aM ((z9_ HB.out:w.heap.size≤gb850));have n3_:=aM ((z9_ HB.out:w.heap.size≤gb850));clear HB;have HB:=n0_;have BK850:=n1_;have GW850:=n2_;have GE850:=n3_;clear n0_ n1_ n2_ n3_;clear hb hbox hg) | ((with_reducible refine gd_ 3 ?_);refine be_ 3 #[.int .i64 a1_0,.int .i64 a1_1] 78 ?_;intro gb851 hg w6 hbox hb;have n0_:=aM (blkB_ BK850.out hb);have n1_:=aM (below_step (z7_ HB.out GE850.out) hb);have n2_:=aM (hbox);have n3_:=aM ((z11_ HB.out GE850.out:w.heap.size≤gb851));have n4_:=aM ((z11_ HB.out GE850.out:w.heap.size≤gb851));have n5_:=aM (neL_ BK850.out hg);have n6_:=aM (neG_ BK850.out hg);clear BK850;clear HB;have BK850:=n0_;have HB:=n1_;have BK851:=n2_;have GW851:=n3_;have GE851:=n4_;have NB850_851:=n5_;have NB851_850:=n6_;clear n0_ n1_ n2_ n3_ n4_ n5_ n6_;clear hb hbox hg;have hnb7:=NB850_851.out;have hnc7:=NB851_850.out;have ⟨hcz8_0,hcz8_1,hfz8_0,hfz8_1⟩:=cz2_ BK850.out;have ⟨hcz9_0,hcz9_1,hfz9_0,hfz9_1⟩:=cz2_ BK851.out))
   go_ret
   exact ⟨z10_,z8_ HB.out GE850.out GE851.out⟩
  ·rw [if_neg c4] at H
   exact nO H
 ·rw [if_neg c3] at H
  exact nO H


/-! ### Y21: function 137 -/
def Y21.l0:Nat→List (S78)→List (S78)→Int→Option (Bool)
 | 0,_,_,_=>none
 | k+1,x0,x1,x5=>if x5<(x0.length:Int) then (if 0≤x5 then (if x5<(x1.length:Int) then ((Y79.f ((rd_T78 x0 x5).f0) ((rd_T78 x0 x5).f1) ((rd_T78 x1 x5).f0) ((rd_T78 x1 x5).f1)).bind fun t854=>(if t854=true then (Y21.l0 k x0 x1 (wrap64 (x5+1))) else (none))) else (none)) else (none)) else (some true)
def Y21.f (k:Nat) (l0:List (S78)) (l1:List (S78)):Option (Bool):=if (l0.length:Int)=(l1.length:Int) then (Y21.l0 k l0 l1 0) else (none)
theorem Y21.mono_l:∀ k,(∀ y0 y1 y2,LeO (Y21.l0 k y0 y1 y2) (Y21.l0 (k+1) y0 y1 y2))
 | 0=>by intros <;> exact LeO.none _
 | k+1=>by
  have ih0:=Y21.mono_l k
  ·intros
   unfold Y21.l0
   exact mO
theorem Y21.mono:∀ a0 a1 k,LeO (Y21.f k a0 a1) (Y21.f (k+1) a0 a1):=by
 intro a0 a1 k
 have ih0:=Y21.mono_l k
 unfold Y21.f
 exact mO
def Y21.T6:Bool × List (List Nat × List Nat):=(true,[([],[]),([],[]),([0,1],[0,1]),([2],[2]),([],[]),([],[]),([4,5],[4,5]),([6],[6]),([3,7],[3,7]),([8],[8])])
def Y21.B6:List Nat:=[0,0,3,7,0,0,48,112,255,511]
theorem Y21.tab6:rtab .any (opsOf Tryz.f137 6)=Y21.T6:=by kernel_rfl
theorem Y21.bits6:waitsOk Y21.T6.2 Y21.B6=true:=by kernel_rfl
theorem Y21.calls (k:Nat) (A0:Option Addr) (c0:Nat) (l0:List (S78)) (A1:Option Addr) (c1:Nat) (l1:List (S78)) (r:Bool) (w:World) (hr0:Kd.C k78 w A0 l0.length l0) (hc0:l0.length≤c0) (hr1:Kd.C k78 w A1 l1.length l1) (hc1:l1.length≤c1) (h:Y21.f k l0 l1=some r) :
  Calls Tryz.prog 137 #[.slice A0 l0.length c0,.slice A1 l1.length c1] w fun e w'=>e = .returned (.bool r)∧Below w.heap.size w w':=by
 have hu78:=Tryz.underlying78
 have HR0:=aM hr0
 have HC0:=aM hc0
 clear hr0 hc0
 have HR1:=aM hr1
 have HC1:=aM hc1
 clear hr1 hc1
 have HB:=aM (Below.refl w.heap.size w)
 have H:(if (l0.length:Int)=(l1.length:Int) then (Y21.l0 k l0 l1 0) else (none))=some r:=h
 clear h
 by_cases c3:(l0.length:Int)=(l1.length:Int)
 ·rw [if_pos c3] at H
  have c3b0:((l0.length:Int) == (l1.length:Int))=true:=beq_iff_eq.mpr c3
  have c3b1:((l0.length:Int) != (l1.length:Int))=false:=bne_eq_false_iff_eq.mpr c3
  have c3b2:(l0.length == l1.length)=true:=by first | simpa using c3 | (simp at c3 ⊢;omega)
  clear c3
  have H':=aM H
  clear H
  go_enter Tryz.func137,Tryz.ntmps137
  go_wp2
  go_loopg [5] k (fun kq v5 w'=>∃ (x5_1:Int),v5 = .int .i64 x5_1∧Aside0 (Y21.l0 kq l0 l1 x5_1=some r)∧Aside0 (kq≤k)∧Aside0 (Below w.heap.size w w'))
  case atStart=>exact ⟨(0),(z1_),H',⟨Nat.le_refl _⟩,⟨z3_ HB.out⟩⟩
  case round =>
   clear H'
   try clear c1
   try clear p2
   try clear c3
   try clear c3b0
   try clear c3b1
   try clear c3b2
   obtain ⟨x5_1,rfl,HA,HK1,HB⟩:=hrel
   cases gk with
   | zero=>exact absurd HA.out (by simp [Y21.l0])
   | succ k1 =>
    have H:=HA.out
    clear HA
    simp only [Y21.l0] at H
    by_cases c4:x5_1<(l0.length:Int)
    ·rw [if_pos c4] at H
     have c4b0:decide (x5_1<(l0.length:Int))=true:=dE c4
     clear c4
     by_cases c5:0≤x5_1
     ·rw [if_pos c5] at H
      have c5b0:decide (0≤x5_1)=true:=dE c5
      clear c5
      by_cases c6:x5_1<(l1.length:Int)
      ·rw [if_pos c6] at H
       have c6b0:decide (x5_1<(l1.length:Int))=true:=dE c6
       clear c6
       replace H:=bS H
       obtain ⟨t854,A70,H⟩:=H
       replace H:(if t854=true then (Y21.l0 k1 l0 l1 (wrap64 (x5_1+1))) else (none))=some r:=H
       have A7:=aM A70
       clear A70
       by_cases c8:t854=true
       ·subst c8
        have H1:(Y21.l0 k1 l0 l1 (wrap64 (x5_1+1)))=some r:=by rw [if_pos rfl] at H;exact H
        clear H
        have H:=H1
        clear H1
        have H':=aM H
        clear H
        try go_wp2
        have n0_:=aM (below_drew1 HB.out)
        clear HB
        have HB:=n0_
        clear n0_
        have p852:0≤(x5_1:Int):=dT (z2_)
        have q852:x5_1<(l0.length:Int):=dT (z2_)
        obtain ⟨ad852,e852,hx852_0,hx852_1⟩:=at_T78 HR0.out x5_1 p852 q852
        have hw852_1:=hx852_1
        have hw852_0:=hx852_0
        cases e852
        replace hx852_0:=(HB.out.cell (World.block_lt_of_cell? w _ hx852_0)).trans hx852_0
        replace hx852_1:=(HB.out.cell (World.block_lt_of_cell? w _ hx852_1)).trans hx852_1
        replace p852:=eq_true p852
        replace q852:=eq_true q852
        have p853:0≤(x5_1:Int):=dT (z2_)
        have q853:x5_1<(l1.length:Int):=dT (z2_)
        obtain ⟨ad853,e853,hx853_0,hx853_1⟩:=at_T78 HR1.out x5_1 p853 q853
        have hw853_1:=hx853_1
        have hw853_0:=hx853_0
        cases e853
        replace hx853_0:=(HB.out.cell (World.block_lt_of_cell? w _ hx853_0)).trans hx853_0
        replace hx853_1:=(HB.out.cell (World.block_lt_of_cell? w _ hx853_1)).trans hx853_1
        replace p853:=eq_true p853
        replace q853:=eq_true q853
        refine start_ (n:=10) (S:=fun w'=>w'.cell? (ad852.add ((x5_1).toNat*2))=some (.int .i64 ((rd_T78 l0 x5_1).f0))∧w'.cell? ⟨(ad852.add ((x5_1).toNat*2)).block,(ad852.add ((x5_1).toNat*2)).off+1,none⟩=some (.int .i64 ((rd_T78 l0 x5_1).f1))∧w'.cell? (ad853.add ((x5_1).toNat*2))=some (.int .i64 ((rd_T78 l1 x5_1).f0))∧w'.cell? ⟨(ad853.add ((x5_1).toNat*2)).block,(ad853.add ((x5_1).toNat*2)).off+1,none⟩=some (.int .i64 ((rd_T78 l1 x5_1).f1))) (ds:=[]) #[O,O,O,O,O,O,O,O,O,O] (by kernel_rfl) rfl rfl ⟨((HB.out.cell (World.block_lt_of_cell? w _ hw852_0)).trans hw852_0),((HB.out.cell (World.block_lt_of_cell? w _ hw852_1)).trans hw852_1),((HB.out.cell (World.block_lt_of_cell? w _ hw853_0)).trans hw853_0),((HB.out.cell (World.block_lt_of_cell? w _ hw853_1)).trans hw853_1)⟩ (fun hHeld=>?_);refine with_tabW Y21.tab6 Y21.bits6 (fun HT_ HW_=>?_)
        generalize wr.drew=w9 at HB hx852_0 hx852_1 hx853_0 hx853_1 hHeld ⊢
        refine pu_ 0 17 #[I,O,O,O,O,O,O,O,O,O] HT_.out ?_
        refine pu_ 1 18 #[I,I,O,O,O,O,O,O,O,O] HT_.out ?_
        refine pu_ 2 19 #[I,I,I,O,O,O,O,O,O,O] HT_.out ?_
        refine pu_ 4 21 #[I,I,I,O,I,O,O,O,O,O] HT_.out ?_
        refine pu_ 5 22 #[I,I,I,O,I,I,O,O,O,O] HT_.out ?_
        refine pu_ 6 23 #[I,I,I,O,I,I,I,O,O,O] HT_.out ?_
        refine tk4_ 3 20 #[I,I,I,I,I,I,I,O,O,O] HT_.out HW_.out hHeld ?_
        refine tk4_ 7 24 #[I,I,I,I,I,I,I,I,O,O] HT_.out HW_.out hHeld ?_
        refine o1_ 8 25 #[I,I,I,I,I,I,I,I,I,O] HT_.out (fun K hK=>?_)
        refine gs_ Tryz.func157 #[.agg #[.int .i64 ((rd_T78 l0 x5_1).f0),.int .i64 ((rd_T78 l0 x5_1).f1)],.agg #[.int .i64 ((rd_T78 l1 x5_1).f0),.int .i64 ((rd_T78 l1 x5_1).f1)]] ?_
        with_reducible refine (Y79.calls ((rd_T78 l0 x5_1).f0) ((rd_T78 l0 x5_1).f1) ((rd_T78 l1 x5_1).f0) ((rd_T78 l1 x5_1).f1) true _ A7.out).mono ?_
        rintro e w10 ⟨rfl,hb⟩
        refine ⟨_,rfl,?_⟩
        have n0_:=aM (below_step (z3_ HB.out) hb)
        clear HB
        have HB:=n0_
        clear n0_
        (try clear hb)
        refine hK.out _ _ ⟨((HB.out.cell (World.block_lt_of_cell? w _ hw852_0)).trans hw852_0),((HB.out.cell (World.block_lt_of_cell? w _ hw852_1)).trans hw852_1),((HB.out.cell (World.block_lt_of_cell? w _ hw853_0)).trans hw853_0),((HB.out.cell (World.block_lt_of_cell? w _ hw853_1)).trans hw853_1)⟩ (fun hHeld=>?_)
        clear hK K
        refine nm_ 25 ?_
        refine pu_ 9 26 #[I,I,I,I,I,I,I,I,I,I] HT_.out ?_
        refine done_ (done_of HT_.out (by kernel_rfl)) ?_
        try go_wp2
        go_roundg k1
        case measure=>have:=HK1.out;omega
        case rel=>exact ⟨(wrap64 (x5_1+1)),(z1_),H',⟨by have:=HK1.out;omega⟩,⟨z3_ HB.out⟩⟩
       ·replace c8:=Bool.eq_false_iff.mpr c8
        subst c8
        have H1:(none)=some r:=by rw [if_neg (show ¬ (false=true) by decide)] at H;exact H
        clear H
        have H:=H1
        clear H1
        exact nO H
      ·rw [if_neg c6] at H
       exact nO H
     ·rw [if_neg c5] at H
      exact nO H
    ·rw [if_neg c4] at H
     have c4b0:decide (x5_1<(l0.length:Int))=false:=dF c4
     clear c4
     obtain rfl:=sI H
     go_wp2
     go_ret
     exact ⟨z10_,z3_ HB.out⟩
 ·rw [if_neg c3] at H
  exact nO H


/-! ### Y77: function 107 -/
def Y77.f (k:Nat) (a0_0:Int) (l0_1:List (S78)) (a1_0:Int) (l1_1:List (S78)):Option (Bool):=if a0_0=a1_0 then ((Y21.f k l0_1 l1_1).bind fun t857=>(if t857=true then (some true) else (none))) else (none)
theorem Y77.mono:∀ a0 a1 a2 a3 k,LeO (Y77.f k a0 a1 a2 a3) (Y77.f (k+1) a0 a1 a2 a3):=by
 intro a0 a1 a2 a3 k
 have m0:=@Y21.mono
 unfold Y77.f
 exact mO
theorem Y77.calls (k:Nat) (a0_0:Int) (A0_1:Option Addr) (c0_1:Nat) (l0_1:List (S78)) (a1_0:Int) (A1_1:Option Addr) (c1_1:Nat) (l1_1:List (S78)) (r:Bool) (w:World) (hr0_1:Kd.C k78 w A0_1 l0_1.length l0_1) (hc0_1:l0_1.length≤c0_1) (hr1_1:Kd.C k78 w A1_1 l1_1.length l1_1) (hc1_1:l1_1.length≤c1_1) (h:Y77.f k a0_0 l0_1 a1_0 l1_1=some r) :
  Calls Tryz.prog 107 #[.agg #[.int .i64 a0_0,.slice A0_1 l0_1.length c0_1],.agg #[.int .i64 a1_0,.slice A1_1 l1_1.length c1_1]] w fun e w'=>e = .returned (.bool r)∧Below w.heap.size w w':=by
 have hu27:=Tryz.underlying27
 have HR0_1:=aM hr0_1
 have HC0_1:=aM hc0_1
 clear hr0_1 hc0_1
 have HR1_1:=aM hr1_1
 have HC1_1:=aM hc1_1
 clear hr1_1 hc1_1
 have HB:=aM (Below.refl w.heap.size w)
 have H:(if a0_0=a1_0 then ((Y21.f k l0_1 l1_1).bind fun t857=>(if t857=true then (some true) else (none))) else (none))=some r:=h
 clear h
 by_cases c3:a0_0=a1_0
 ·rw [if_pos c3] at H
  have c3b0:(a0_0 == a1_0)=true:=beq_iff_eq.mpr c3
  have c3b1:(a0_0 != a1_0)=false:=bne_eq_false_iff_eq.mpr c3
  clear c3
  replace H:=bS H
  obtain ⟨t857,A40,H⟩:=H
  replace H:(if t857=true then (some true) else (none))=some r:=H
  have A4:=aM A40
  clear A40
  by_cases c5:t857=true
  ·subst c5
   have H1:(some true)=some r:=by rw [if_pos rfl] at H;exact H
   clear H
   have H:=H1
   clear H1
   obtain rfl:=sI H
   go_enter Tryz.func107,Tryz.ntmps107
   go_wp2_with (first | ((with_reducible refine gd_ 2 ?_);refine be_ 2 #[.int .i64 a0_0,.slice A0_1 l0_1.length c0_1] 27 ?_;intro gb855 hg w6 hbox hb;have n0_:=aM (below_step (z3_ HB.out) hb);have n1_:=aM (hbox);have n2_:=aM ((z9_ HB.out:w.heap.size≤gb855));have n3_:=aM ((z9_ HB.out:w.heap.size≤gb855));clear HB;have HB:=n0_;have BK855:=n1_;have GW855:=n2_;have GE855:=n3_;clear n0_ n1_ n2_ n3_;clear hb hbox hg) | ((with_reducible refine gd_ 3 ?_);refine be_ 3 #[.int .i64 a1_0,.slice A1_1 l1_1.length c1_1] 27 ?_;intro gb856 hg w7 hbox hb;have n0_:=aM (blkB_ BK855.out hb);have n1_:=aM (below_step (z7_ HB.out GE855.out) hb);have n2_:=aM (hbox);have n3_:=aM ((z11_ HB.out GE855.out:w.heap.size≤gb856));have n4_:=aM ((z11_ HB.out GE855.out:w.heap.size≤gb856));have n5_:=aM (neL_ BK855.out hg);have n6_:=aM (neG_ BK855.out hg);clear BK855;clear HB;have BK855:=n0_;have HB:=n1_;have BK856:=n2_;have GW856:=n3_;have GE856:=n4_;have NB855_856:=n5_;have NB856_855:=n6_;clear n0_ n1_ n2_ n3_ n4_ n5_ n6_;clear hb hbox hg;have hnb8:=NB855_856.out;have hnc8:=NB856_855.out;have ⟨hcz9_0,hcz9_1,hfz9_0,hfz9_1⟩:=cz2_ BK855.out;have ⟨hcz10_0,hcz10_1,hfz10_0,hfz10_1⟩:=cz2_ BK856.out) | ((with_reducible refine gc_ 137 ?_);refine gl_ (some 14) Tryz.func137 #[.slice A0_1 l0_1.length c0_1,.slice A1_1 l1_1.length c1_1] ?_;(with_reducible refine (Y21.calls k _ _ l0_1 _ _ l1_1 true _ ?s1 ?s2 ?s3 ?s4 A4.out).mono ?_);(case s1=>repeat (first | exact (Kd.C_below HR0_1.out HB.out) | (with_reducible refine Kd.C_alloc ?_ _) | (with_reducible refine Kd.C_drewN ?_ _) | (with_reducible refine Kd.C_drew ?_)));(case s2=>exact HC0_1.out);(case s3=>repeat (first | exact (Kd.C_below HR1_1.out HB.out) | (with_reducible refine Kd.C_alloc ?_ _) | (with_reducible refine Kd.C_drewN ?_ _) | (with_reducible refine Kd.C_drew ?_)));(case s4=>exact HC1_1.out);rintro e w11 ⟨rfl,hb⟩;refine ⟨_,rfl,?_⟩;have n0_:=aM (blkB_ BK855.out hb);have n1_:=aM (blkB_ BK856.out hb);have n2_:=aM (below_step (z8_ HB.out GE855.out GE856.out) hb);clear BK855;clear BK856;clear HB;have BK855:=n0_;have BK856:=n1_;have HB:=n2_;clear n0_ n1_ n2_;(try clear hb)))
   go_ret
   exact ⟨z10_,z8_ HB.out GE855.out GE856.out⟩
  ·replace c5:=Bool.eq_false_iff.mpr c5
   subst c5
   have H1:(none)=some r:=by rw [if_neg (show ¬ (false=true) by decide)] at H;exact H
   clear H
   have H:=H1
   clear H1
   exact nO H
 ·rw [if_neg c3] at H
  exact nO H


/-! ### Y49: function 158 -/
def Y49.l0:Nat→Int→Option (Bool)
 | 0,_=>none
 | k+1,x5=>if x5<0 then (none) else (some true)
def Y49.f (k:Nat) (a0:Int) (a1:Int):Option (Bool):=if 0=0 then (Y49.l0 k 0) else (none)
theorem Y49.mono_l:∀ k,(∀ y0,LeO (Y49.l0 k y0) (Y49.l0 (k+1) y0))
 | 0=>by intros <;> exact LeO.none _
 | k+1=>by
  have ih0:=Y49.mono_l k
  ·intros
   unfold Y49.l0
   exact mO
theorem Y49.mono:∀ a0 a1 k,LeO (Y49.f k a0 a1) (Y49.f (k+1) a0 a1):=by
 intro a0 a1 k
 have ih0:=Y49.mono_l k
 unfold Y49.f
 exact mO
theorem Y49.calls (k:Nat) (a0:Int) (a1:Int) (r:Bool) (w:World) (h:Y49.f k a0 a1=some r) :
  Calls Tryz.prog 158 #[.slice none 0 0,.slice none 0 0] w fun e w'=>e = .returned (.bool r)∧Drawn0 w w':=by
 have H:(if 0=0 then (Y49.l0 k 0) else (none))=some r:=h
 clear h
 by_cases c3:0=0
 ·rw [if_pos c3] at H
  have c3b0:(0 == 0)=true:=beq_iff_eq.mpr c3
  have c3b1:(0 != 0)=false:=bne_eq_false_iff_eq.mpr c3
  clear c3
  have H':=aM H
  clear H
  go_enter Tryz.func158,Tryz.ntmps158
  go_wp2
  go_loopg [5] k (fun kq v5 w'=>∃ (x5_1:Int),v5 = .int .i64 x5_1∧Aside0 (Y49.l0 kq x5_1=some r)∧Aside0 (kq≤k)∧Drawn0 w w')
  case atStart=>exact ⟨(0),(z1_),H',⟨Nat.le_refl _⟩,z5_⟩
  case round =>
   clear H'
   try clear c1
   try clear p2
   try clear c3
   try clear c3b0
   try clear c3b1
   obtain ⟨x5_1,rfl,HA,HK1,⟨m1,rfl⟩⟩:=hrel
   cases gk with
   | zero=>exact absurd HA.out (by simp [Y49.l0])
   | succ k1 =>
    have H:=HA.out
    clear HA
    simp only [Y49.l0] at H
    by_cases c4:x5_1<0
    ·rw [if_pos c4] at H
     exact nO H
    ·rw [if_neg c4] at H
     have c4b0:decide (x5_1<0)=false:=dF c4
     clear c4
     obtain rfl:=sI H
     go_wp2
     go_ret
     exact ⟨z1_,z5_⟩
 ·rw [if_neg c3] at H
  exact nO H


/-! ### Y74: function 138 -/
def Y74.f (k:Nat) (a0_0:Int) (a0_1:Int) (a0_2:ByteArray) (a0_3:Int) (a1_0:Int) (a1_1:Int) (a1_2:ByteArray) (a1_3:Int):Option (Bool):=if a0_0=a1_0 then ((Y49.f k a0_1 a1_1).bind fun t860=>(if t860=true then (if a0_2.toList=a1_2.toList then (if a0_3=a1_3 then (some true) else (none)) else (none)) else (none))) else (none)
theorem Y74.mono:∀ a0 a1 a2 a3 a4 a5 a6 a7 k,LeO (Y74.f k a0 a1 a2 a3 a4 a5 a6 a7) (Y74.f (k+1) a0 a1 a2 a3 a4 a5 a6 a7):=by
 intro a0 a1 a2 a3 a4 a5 a6 a7 k
 have m0:=@Y49.mono
 unfold Y74.f
 exact mO
theorem Y74.calls (k:Nat) (a0_0:Int) (a0_1:Int) (a0_2:ByteArray) (a0_3:Int) (a1_0:Int) (a1_1:Int) (a1_2:ByteArray) (a1_3:Int) (r:Bool) (w:World) (h:Y74.f k a0_0 a0_1 a0_2 a0_3 a1_0 a1_1 a1_2 a1_3=some r) :
  Calls Tryz.prog 138 #[.agg #[.int .i64 a0_0,.slice none 0 0,.string a0_2,.int .i64 a0_3],.agg #[.int .i64 a1_0,.slice none 0 0,.string a1_2,.int .i64 a1_3]] w fun e w'=>e = .returned (.bool r)∧Below w.heap.size w w':=by
 have hu115:=Tryz.underlying115
 have HB:=aM (Below.refl w.heap.size w)
 have H:(if a0_0=a1_0 then ((Y49.f k a0_1 a1_1).bind fun t860=>(if t860=true then (if a0_2.toList=a1_2.toList then (if a0_3=a1_3 then (some true) else (none)) else (none)) else (none))) else (none))=some r:=h
 clear h
 by_cases c3:a0_0=a1_0
 ·rw [if_pos c3] at H
  have c3b0:(a0_0 == a1_0)=true:=beq_iff_eq.mpr c3
  have c3b1:(a0_0 != a1_0)=false:=bne_eq_false_iff_eq.mpr c3
  clear c3
  replace H:=bS H
  obtain ⟨t860,A40,H⟩:=H
  replace H:(if t860=true then (if a0_2.toList=a1_2.toList then (if a0_3=a1_3 then (some true) else (none)) else (none)) else (none))=some r:=H
  have A4:=aM A40
  clear A40
  by_cases c5:t860=true
  ·subst c5
   have H1:(if a0_2.toList=a1_2.toList then (if a0_3=a1_3 then (some true) else (none)) else (none))=some r:=by rw [if_pos rfl] at H;exact H
   clear H
   have H:=H1
   clear H1
   by_cases c6:a0_2.toList=a1_2.toList
   ·rw [if_pos c6] at H
    have c6b0:(a0_2.toList == a1_2.toList)=true:=beq_iff_eq.mpr c6
    have c6b1:(a0_2.toList != a1_2.toList)=false:=bne_eq_false_iff_eq.mpr c6
    clear c6
    by_cases c7:a0_3=a1_3
    ·rw [if_pos c7] at H
     have c7b0:(a0_3 == a1_3)=true:=beq_iff_eq.mpr c7
     have c7b1:(a0_3 != a1_3)=false:=bne_eq_false_iff_eq.mpr c7
     clear c7
     obtain rfl:=sI H
     go_enter Tryz.func138,Tryz.ntmps138
     go_wp2_with (first | ((with_reducible refine gd_ 2 ?_);refine be_ 2 #[.int .i64 a0_0,.slice none 0 0,.string a0_2,.int .i64 a0_3] 115 ?_;intro gb858 hg w8 hbox hb;have n0_:=aM (below_step (z3_ HB.out) hb);have n1_:=aM (hbox);have n2_:=aM ((z9_ HB.out:w.heap.size≤gb858));have n3_:=aM ((z9_ HB.out:w.heap.size≤gb858));clear HB;have HB:=n0_;have BK858:=n1_;have GW858:=n2_;have GE858:=n3_;clear n0_ n1_ n2_ n3_;clear hb hbox hg) | ((with_reducible refine gd_ 3 ?_);refine be_ 3 #[.int .i64 a1_0,.slice none 0 0,.string a1_2,.int .i64 a1_3] 115 ?_;intro gb859 hg w9 hbox hb;have n0_:=aM (blkB_ BK858.out hb);have n1_:=aM (below_step (z7_ HB.out GE858.out) hb);have n2_:=aM (hbox);have n3_:=aM ((z11_ HB.out GE858.out:w.heap.size≤gb859));have n4_:=aM ((z11_ HB.out GE858.out:w.heap.size≤gb859));have n5_:=aM (neL_ BK858.out hg);have n6_:=aM (neG_ BK858.out hg);clear BK858;clear HB;have BK858:=n0_;have HB:=n1_;have BK859:=n2_;have GW859:=n3_;have GE859:=n4_;have NB858_859:=n5_;have NB859_858:=n6_;clear n0_ n1_ n2_ n3_ n4_ n5_ n6_;clear hb hbox hg;have hnb10:=NB858_859.out;have hnc10:=NB859_858.out;have ⟨hcz11_0,hcz11_1,hcz11_2,hcz11_3,hfz11_0,hfz11_1,hfz11_2,hfz11_3⟩:=cz4_ BK858.out;have ⟨hcz12_0,hcz12_1,hcz12_2,hcz12_3,hfz12_0,hfz12_1,hfz12_2,hfz12_3⟩:=cz4_ BK859.out) | ((with_reducible refine gc_ 158 ?_);refine gl_ (some 14) Tryz.func158 #[.slice none 0 0,.slice none 0 0] ?_;(with_reducible refine (Y49.calls k a0_1 a1_1 true _ A4.out).mono ?_);rintro e w' ⟨rfl,⟨nd,rfl⟩⟩;refine ⟨_,rfl,?_⟩))
     go_ret
     exact ⟨z10_,z8_ HB.out GE858.out GE859.out⟩
    ·rw [if_neg c7] at H
     exact nO H
   ·rw [if_neg c6] at H
    exact nO H
  ·replace c5:=Bool.eq_false_iff.mpr c5
   subst c5
   have H1:(none)=some r:=by rw [if_neg (show ¬ (false=true) by decide)] at H;exact H
   clear H
   have H:=H1
   clear H1
   exact nO H
 ·rw [if_neg c3] at H
  exact nO H


/-! ### Y15: function 108 -/
def Y15.l0:Nat→List (S115)→List (S115)→Int→Option (Bool)
 | 0,_,_,_=>none
 | k+1,x0,x1,x5=>if x5<(x0.length:Int) then (if 0≤x5 then (if x5<(x1.length:Int) then ((Y74.f k ((rd_T115 x0 x5).f0) ((rd_T115 x0 x5).f1) ((rd_T115 x0 x5).f2) ((rd_T115 x0 x5).f3) ((rd_T115 x1 x5).f0) ((rd_T115 x1 x5).f1) ((rd_T115 x1 x5).f2) ((rd_T115 x1 x5).f3)).bind fun t863=>(if t863=true then (Y15.l0 k x0 x1 (wrap64 (x5+1))) else (none))) else (none)) else (none)) else (some true)
def Y15.f (k:Nat) (l0:List (S115)) (l1:List (S115)):Option (Bool):=if (l0.length:Int)=(l1.length:Int) then (Y15.l0 k l0 l1 0) else (none)
theorem Y15.mono_l:∀ k,(∀ y0 y1 y2,LeO (Y15.l0 k y0 y1 y2) (Y15.l0 (k+1) y0 y1 y2))
 | 0=>by intros <;> exact LeO.none _
 | k+1=>by
  have ih0:=Y15.mono_l k
  have m0:=@Y74.mono
  ·intros
   unfold Y15.l0
   exact mO
theorem Y15.mono:∀ a0 a1 k,LeO (Y15.f k a0 a1) (Y15.f (k+1) a0 a1):=by
 intro a0 a1 k
 have m0:=@Y74.mono
 have ih0:=Y15.mono_l k
 unfold Y15.f
 exact mO
def Y15.T6:Bool × List (List Nat × List Nat):=(true,[([],[]),([],[]),([0,1],[0,1]),([2],[2]),([],[]),([],[]),([4,5],[4,5]),([6],[6]),([3,7],[3,7]),([8],[8])])
def Y15.B6:List Nat:=[0,0,3,7,0,0,48,112,255,511]
theorem Y15.tab6:rtab .any (opsOf Tryz.f108 6)=Y15.T6:=by kernel_rfl
theorem Y15.bits6:waitsOk Y15.T6.2 Y15.B6=true:=by kernel_rfl
theorem Y15.calls (k:Nat) (A0:Option Addr) (c0:Nat) (l0:List (S115)) (A1:Option Addr) (c1:Nat) (l1:List (S115)) (r:Bool) (w:World) (hr0:Kd.C k115 w A0 l0.length l0) (hc0:l0.length≤c0) (hr1:Kd.C k115 w A1 l1.length l1) (hc1:l1.length≤c1) (h:Y15.f k l0 l1=some r) :
  Calls Tryz.prog 108 #[.slice A0 l0.length c0,.slice A1 l1.length c1] w fun e w'=>e = .returned (.bool r)∧Below w.heap.size w w':=by
 have hu115:=Tryz.underlying115
 have HR0:=aM hr0
 have HC0:=aM hc0
 clear hr0 hc0
 have HR1:=aM hr1
 have HC1:=aM hc1
 clear hr1 hc1
 have HB:=aM (Below.refl w.heap.size w)
 have H:(if (l0.length:Int)=(l1.length:Int) then (Y15.l0 k l0 l1 0) else (none))=some r:=h
 clear h
 by_cases c3:(l0.length:Int)=(l1.length:Int)
 ·rw [if_pos c3] at H
  have c3b0:((l0.length:Int) == (l1.length:Int))=true:=beq_iff_eq.mpr c3
  have c3b1:((l0.length:Int) != (l1.length:Int))=false:=bne_eq_false_iff_eq.mpr c3
  have c3b2:(l0.length == l1.length)=true:=by first | simpa using c3 | (simp at c3 ⊢;omega)
  clear c3
  have H':=aM H
  clear H
  go_enter Tryz.func108,Tryz.ntmps108
  go_wp2
  go_loopg [5] k (fun kq v5 w'=>∃ (x5_1:Int),v5 = .int .i64 x5_1∧Aside0 (Y15.l0 kq l0 l1 x5_1=some r)∧Aside0 (kq≤k)∧Aside0 (Below w.heap.size w w'))
  case atStart=>exact ⟨(0),(z1_),H',⟨Nat.le_refl _⟩,⟨z3_ HB.out⟩⟩
  case round =>
   clear H'
   try clear c1
   try clear p2
   try clear c3
   try clear c3b0
   try clear c3b1
   try clear c3b2
   obtain ⟨x5_1,rfl,HA,HK1,HB⟩:=hrel
   cases gk with
   | zero=>exact absurd HA.out (by simp [Y15.l0])
   | succ k1 =>
    have H:=HA.out
    clear HA
    simp only [Y15.l0] at H
    by_cases c4:x5_1<(l0.length:Int)
    ·rw [if_pos c4] at H
     have c4b0:decide (x5_1<(l0.length:Int))=true:=dE c4
     clear c4
     by_cases c5:0≤x5_1
     ·rw [if_pos c5] at H
      have c5b0:decide (0≤x5_1)=true:=dE c5
      clear c5
      by_cases c6:x5_1<(l1.length:Int)
      ·rw [if_pos c6] at H
       have c6b0:decide (x5_1<(l1.length:Int))=true:=dE c6
       clear c6
       replace H:=bS H
       obtain ⟨t863,A70,H⟩:=H
       replace H:(if t863=true then (Y15.l0 k1 l0 l1 (wrap64 (x5_1+1))) else (none))=some r:=H
       have A7:=aM A70
       clear A70
       by_cases c8:t863=true
       ·subst c8
        have H1:(Y15.l0 k1 l0 l1 (wrap64 (x5_1+1)))=some r:=by rw [if_pos rfl] at H;exact H
        clear H
        have H:=H1
        clear H1
        have H':=aM H
        clear H
        try go_wp2
        have n0_:=aM (below_drew1 HB.out)
        clear HB
        have HB:=n0_
        clear n0_
        have p861:0≤(x5_1:Int):=dT (z2_)
        have q861:x5_1<(l0.length:Int):=dT (z2_)
        obtain ⟨ad861,e861,hx861_0,hx861_1,hx861_2,hx861_3⟩:=at_T115 HR0.out x5_1 p861 q861
        have hw861_3:=hx861_3
        have hw861_2:=hx861_2
        have hw861_1:=hx861_1
        have hw861_0:=hx861_0
        cases e861
        replace hx861_0:=(HB.out.cell (World.block_lt_of_cell? w _ hx861_0)).trans hx861_0
        replace hx861_1:=(HB.out.cell (World.block_lt_of_cell? w _ hx861_1)).trans hx861_1
        replace hx861_2:=(HB.out.cell (World.block_lt_of_cell? w _ hx861_2)).trans hx861_2
        replace hx861_3:=(HB.out.cell (World.block_lt_of_cell? w _ hx861_3)).trans hx861_3
        replace p861:=eq_true p861
        replace q861:=eq_true q861
        have p862:0≤(x5_1:Int):=dT (z2_)
        have q862:x5_1<(l1.length:Int):=dT (z2_)
        obtain ⟨ad862,e862,hx862_0,hx862_1,hx862_2,hx862_3⟩:=at_T115 HR1.out x5_1 p862 q862
        have hw862_3:=hx862_3
        have hw862_2:=hx862_2
        have hw862_1:=hx862_1
        have hw862_0:=hx862_0
        cases e862
        replace hx862_0:=(HB.out.cell (World.block_lt_of_cell? w _ hx862_0)).trans hx862_0
        replace hx862_1:=(HB.out.cell (World.block_lt_of_cell? w _ hx862_1)).trans hx862_1
        replace hx862_2:=(HB.out.cell (World.block_lt_of_cell? w _ hx862_2)).trans hx862_2
        replace hx862_3:=(HB.out.cell (World.block_lt_of_cell? w _ hx862_3)).trans hx862_3
        replace p862:=eq_true p862
        replace q862:=eq_true q862
        refine start_ (n:=10) (S:=fun w'=>w'.cell? (ad861.add ((x5_1).toNat*4))=some (.int .i64 ((rd_T115 l0 x5_1).f0))∧w'.cell? ⟨(ad861.add ((x5_1).toNat*4)).block,(ad861.add ((x5_1).toNat*4)).off+1,none⟩=some (.slice none 0 0)∧w'.cell? ⟨(ad861.add ((x5_1).toNat*4)).block,(ad861.add ((x5_1).toNat*4)).off+2,none⟩=some (.string ((rd_T115 l0 x5_1).f2))∧w'.cell? ⟨(ad861.add ((x5_1).toNat*4)).block,(ad861.add ((x5_1).toNat*4)).off+3,none⟩=some (.int .i64 ((rd_T115 l0 x5_1).f3))∧w'.cell? (ad862.add ((x5_1).toNat*4))=some (.int .i64 ((rd_T115 l1 x5_1).f0))∧w'.cell? ⟨(ad862.add ((x5_1).toNat*4)).block,(ad862.add ((x5_1).toNat*4)).off+1,none⟩=some (.slice none 0 0)∧w'.cell? ⟨(ad862.add ((x5_1).toNat*4)).block,(ad862.add ((x5_1).toNat*4)).off+2,none⟩=some (.string ((rd_T115 l1 x5_1).f2))∧w'.cell? ⟨(ad862.add ((x5_1).toNat*4)).block,(ad862.add ((x5_1).toNat*4)).off+3,none⟩=some (.int .i64 ((rd_T115 l1 x5_1).f3))) (ds:=[]) #[O,O,O,O,O,O,O,O,O,O] (by kernel_rfl) rfl rfl ⟨((HB.out.cell (World.block_lt_of_cell? w _ hw861_0)).trans hw861_0),((HB.out.cell (World.block_lt_of_cell? w _ hw861_1)).trans hw861_1),((HB.out.cell (World.block_lt_of_cell? w _ hw861_2)).trans hw861_2),((HB.out.cell (World.block_lt_of_cell? w _ hw861_3)).trans hw861_3),((HB.out.cell (World.block_lt_of_cell? w _ hw862_0)).trans hw862_0),((HB.out.cell (World.block_lt_of_cell? w _ hw862_1)).trans hw862_1),((HB.out.cell (World.block_lt_of_cell? w _ hw862_2)).trans hw862_2),((HB.out.cell (World.block_lt_of_cell? w _ hw862_3)).trans hw862_3)⟩ (fun hHeld=>?_);refine with_tabW Y15.tab6 Y15.bits6 (fun HT_ HW_=>?_)
        generalize wr.drew=w9 at HB hx861_0 hx861_1 hx861_2 hx861_3 hx862_0 hx862_1 hx862_2 hx862_3 hHeld ⊢
        refine pu_ 0 17 #[I,O,O,O,O,O,O,O,O,O] HT_.out ?_
        refine pu_ 1 18 #[I,I,O,O,O,O,O,O,O,O] HT_.out ?_
        refine pu_ 2 19 #[I,I,I,O,O,O,O,O,O,O] HT_.out ?_
        refine pu_ 4 21 #[I,I,I,O,I,O,O,O,O,O] HT_.out ?_
        refine pu_ 5 22 #[I,I,I,O,I,I,O,O,O,O] HT_.out ?_
        refine pu_ 6 23 #[I,I,I,O,I,I,I,O,O,O] HT_.out ?_
        refine tk8_ 3 20 #[I,I,I,I,I,I,I,O,O,O] HT_.out HW_.out hHeld ?_
        refine tk8_ 7 24 #[I,I,I,I,I,I,I,I,O,O] HT_.out HW_.out hHeld ?_
        refine o1_ 8 25 #[I,I,I,I,I,I,I,I,I,O] HT_.out (fun K hK=>?_)
        refine gs_ Tryz.func138 #[.agg #[.int .i64 ((rd_T115 l0 x5_1).f0),.slice none 0 0,.string ((rd_T115 l0 x5_1).f2),.int .i64 ((rd_T115 l0 x5_1).f3)],.agg #[.int .i64 ((rd_T115 l1 x5_1).f0),.slice none 0 0,.string ((rd_T115 l1 x5_1).f2),.int .i64 ((rd_T115 l1 x5_1).f3)]] ?_
        with_reducible refine (Y74.calls k1 ((rd_T115 l0 x5_1).f0) ((rd_T115 l0 x5_1).f1) ((rd_T115 l0 x5_1).f2) ((rd_T115 l0 x5_1).f3) ((rd_T115 l1 x5_1).f0) ((rd_T115 l1 x5_1).f1) ((rd_T115 l1 x5_1).f2) ((rd_T115 l1 x5_1).f3) true _ A7.out).mono ?_
        rintro e w10 ⟨rfl,hb⟩
        refine ⟨_,rfl,?_⟩
        have n0_:=aM (below_step (z3_ HB.out) hb)
        clear HB
        have HB:=n0_
        clear n0_
        (try clear hb)
        refine hK.out _ _ ⟨((HB.out.cell (World.block_lt_of_cell? w _ hw861_0)).trans hw861_0),((HB.out.cell (World.block_lt_of_cell? w _ hw861_1)).trans hw861_1),((HB.out.cell (World.block_lt_of_cell? w _ hw861_2)).trans hw861_2),((HB.out.cell (World.block_lt_of_cell? w _ hw861_3)).trans hw861_3),((HB.out.cell (World.block_lt_of_cell? w _ hw862_0)).trans hw862_0),((HB.out.cell (World.block_lt_of_cell? w _ hw862_1)).trans hw862_1),((HB.out.cell (World.block_lt_of_cell? w _ hw862_2)).trans hw862_2),((HB.out.cell (World.block_lt_of_cell? w _ hw862_3)).trans hw862_3)⟩ (fun hHeld=>?_)
        clear hK K
        refine nm_ 25 ?_
        refine pu_ 9 26 #[I,I,I,I,I,I,I,I,I,I] HT_.out ?_
        refine done_ (done_of HT_.out (by kernel_rfl)) ?_
        try go_wp2
        go_roundg k1
        case measure=>have:=HK1.out;omega
        case rel=>exact ⟨(wrap64 (x5_1+1)),(z1_),H',⟨by have:=HK1.out;omega⟩,⟨z3_ HB.out⟩⟩
       ·replace c8:=Bool.eq_false_iff.mpr c8
        subst c8
        have H1:(none)=some r:=by rw [if_neg (show ¬ (false=true) by decide)] at H;exact H
        clear H
        have H:=H1
        clear H1
        exact nO H
      ·rw [if_neg c6] at H
       exact nO H
     ·rw [if_neg c5] at H
      exact nO H
    ·rw [if_neg c4] at H
     have c4b0:decide (x5_1<(l0.length:Int))=false:=dF c4
     clear c4
     obtain rfl:=sI H
     go_wp2
     go_ret
     exact ⟨z10_,z3_ HB.out⟩
 ·rw [if_neg c3] at H
  exact nO H


/-! ### Y64: function 81 -/
def Y64.f (k:Nat) (a0_0:Int) (l0_1:List (S78)) (l0_2:List (S115)) (l0_3:List Int) (a0_4:Int) (a0_5:Int) (a0_6:Int) (a1_0:Int) (l1_1:List (S78)) (l1_2:List (S115)) (l1_3:List Int) (a1_4:Int) (a1_5:Int) (a1_6:Int):Option (Bool):=(Y77.f k a0_0 l0_1 a1_0 l1_1).bind fun t866=>(if t866=true then ((Y15.f k l0_2 l1_2).bind fun t867=>(if t867=true then ((Y22.f k l0_3 l1_3).bind fun t868=>(if t868=true then (if a0_4=a1_4 then (if a0_5=a1_5 then (if a0_6=a1_6 then (some true) else (none)) else (none)) else (none)) else (none))) else (none))) else (none))
theorem Y64.mono:∀ a0 a1 a2 a3 a4 a5 a6 a7 a8 a9 a10 a11 a12 a13 k,LeO (Y64.f k a0 a1 a2 a3 a4 a5 a6 a7 a8 a9 a10 a11 a12 a13) (Y64.f (k+1) a0 a1 a2 a3 a4 a5 a6 a7 a8 a9 a10 a11 a12 a13):=by
 intro a0 a1 a2 a3 a4 a5 a6 a7 a8 a9 a10 a11 a12 a13 k
 have m0:=@Y22.mono
 have m1:=@Y77.mono
 have m2:=@Y15.mono
 unfold Y64.f
 exact mO
theorem Y64.calls (k:Nat) (a0_0:Int) (A0_1:Option Addr) (c0_1:Nat) (l0_1:List (S78)) (A0_2:Option Addr) (c0_2:Nat) (l0_2:List (S115)) (A0_3:Option Addr) (c0_3:Nat) (l0_3:List Int) (a0_4:Int) (a0_5:Int) (a0_6:Int) (a1_0:Int) (A1_1:Option Addr) (c1_1:Nat) (l1_1:List (S78)) (A1_2:Option Addr) (c1_2:Nat) (l1_2:List (S115)) (A1_3:Option Addr) (c1_3:Nat) (l1_3:List Int) (a1_4:Int) (a1_5:Int) (a1_6:Int) (r:Bool) (w:World) (hr0_1:Kd.C k78 w A0_1 l0_1.length l0_1) (hc0_1:l0_1.length≤c0_1) (hr0_2:Kd.C k115 w A0_2 l0_2.length l0_2) (hc0_2:l0_2.length≤c0_2) (hr0_3:Kd.C (Kd.int .i64) w A0_3 l0_3.length l0_3) (hc0_3:l0_3.length≤c0_3) (hr1_1:Kd.C k78 w A1_1 l1_1.length l1_1) (hc1_1:l1_1.length≤c1_1) (hr1_2:Kd.C k115 w A1_2 l1_2.length l1_2) (hc1_2:l1_2.length≤c1_2) (hr1_3:Kd.C (Kd.int .i64) w A1_3 l1_3.length l1_3) (hc1_3:l1_3.length≤c1_3) (h:Y64.f k a0_0 l0_1 l0_2 l0_3 a0_4 a0_5 a0_6 a1_0 l1_1 l1_2 l1_3 a1_4 a1_5 a1_6=some r) :
  Calls Tryz.prog 81 #[.agg #[.int .i64 a0_0,.slice A0_1 l0_1.length c0_1,.slice A0_2 l0_2.length c0_2,.slice A0_3 l0_3.length c0_3,.int .i64 a0_4,.int .i64 a0_5,.int .i64 a0_6],.agg #[.int .i64 a1_0,.slice A1_1 l1_1.length c1_1,.slice A1_2 l1_2.length c1_2,.slice A1_3 l1_3.length c1_3,.int .i64 a1_4,.int .i64 a1_5,.int .i64 a1_6]] w fun e w'=>e = .returned (.bool r)∧Below w.heap.size w w':=by
 have hu50:=Tryz.underlying50
 have hu27:=Tryz.underlying27
 have HR0_1:=aM hr0_1
 have HC0_1:=aM hc0_1
 clear hr0_1 hc0_1
 have HR0_2:=aM hr0_2
 have HC0_2:=aM hc0_2
 clear hr0_2 hc0_2
 have HR0_3:=aM hr0_3
 have HC0_3:=aM hc0_3
 clear hr0_3 hc0_3
 have HR1_1:=aM hr1_1
 have HC1_1:=aM hc1_1
 clear hr1_1 hc1_1
 have HR1_2:=aM hr1_2
 have HC1_2:=aM hc1_2
 clear hr1_2 hc1_2
 have HR1_3:=aM hr1_3
 have HC1_3:=aM hc1_3
 clear hr1_3 hc1_3
 have HB:=aM (Below.refl w.heap.size w)
 have H:((Y77.f k a0_0 l0_1 a1_0 l1_1).bind fun t866=>(if t866=true then ((Y15.f k l0_2 l1_2).bind fun t867=>(if t867=true then ((Y22.f k l0_3 l1_3).bind fun t868=>(if t868=true then (if a0_4=a1_4 then (if a0_5=a1_5 then (if a0_6=a1_6 then (some true) else (none)) else (none)) else (none)) else (none))) else (none))) else (none)))=some r:=h
 clear h
 replace H:=bS H
 obtain ⟨t866,A30,H⟩:=H
 replace H:(if t866=true then ((Y15.f k l0_2 l1_2).bind fun t867=>(if t867=true then ((Y22.f k l0_3 l1_3).bind fun t868=>(if t868=true then (if a0_4=a1_4 then (if a0_5=a1_5 then (if a0_6=a1_6 then (some true) else (none)) else (none)) else (none)) else (none))) else (none))) else (none))=some r:=H
 have A3:=aM A30
 clear A30
 by_cases c4:t866=true
 ·subst c4
  have H1:((Y15.f k l0_2 l1_2).bind fun t867=>(if t867=true then ((Y22.f k l0_3 l1_3).bind fun t868=>(if t868=true then (if a0_4=a1_4 then (if a0_5=a1_5 then (if a0_6=a1_6 then (some true) else (none)) else (none)) else (none)) else (none))) else (none)))=some r:=by rw [if_pos rfl] at H;exact H
  clear H
  have H:=H1
  clear H1
  replace H:=bS H
  obtain ⟨t867,A50,H⟩:=H
  replace H:(if t867=true then ((Y22.f k l0_3 l1_3).bind fun t868=>(if t868=true then (if a0_4=a1_4 then (if a0_5=a1_5 then (if a0_6=a1_6 then (some true) else (none)) else (none)) else (none)) else (none))) else (none))=some r:=H
  have A5:=aM A50
  clear A50
  by_cases c6:t867=true
  ·subst c6
   have H1:((Y22.f k l0_3 l1_3).bind fun t868=>(if t868=true then (if a0_4=a1_4 then (if a0_5=a1_5 then (if a0_6=a1_6 then (some true) else (none)) else (none)) else (none)) else (none)))=some r:=by rw [if_pos rfl] at H;exact H
   clear H
   have H:=H1
   clear H1
   replace H:=bS H
   obtain ⟨t868,A70,H⟩:=H
   replace H:(if t868=true then (if a0_4=a1_4 then (if a0_5=a1_5 then (if a0_6=a1_6 then (some true) else (none)) else (none)) else (none)) else (none))=some r:=H
   have A7:=aM A70
   clear A70
   by_cases c8:t868=true
   ·subst c8
    have H1:(if a0_4=a1_4 then (if a0_5=a1_5 then (if a0_6=a1_6 then (some true) else (none)) else (none)) else (none))=some r:=by rw [if_pos rfl] at H;exact H
    clear H
    have H:=H1
    clear H1
    by_cases c9:a0_4=a1_4
    ·rw [if_pos c9] at H
     have c9b0:(a0_4 == a1_4)=true:=beq_iff_eq.mpr c9
     have c9b1:(a0_4 != a1_4)=false:=bne_eq_false_iff_eq.mpr c9
     clear c9
     by_cases c10:a0_5=a1_5
     ·rw [if_pos c10] at H
      have c10b0:(a0_5 == a1_5)=true:=beq_iff_eq.mpr c10
      have c10b1:(a0_5 != a1_5)=false:=bne_eq_false_iff_eq.mpr c10
      clear c10
      by_cases c11:a0_6=a1_6
      ·rw [if_pos c11] at H
       have c11b0:(a0_6 == a1_6)=true:=beq_iff_eq.mpr c11
       have c11b1:(a0_6 != a1_6)=false:=bne_eq_false_iff_eq.mpr c11
       clear c11
       obtain rfl:=sI H
       go_enter Tryz.func81,Tryz.ntmps81
       go_wp2_with (first | ((with_reducible refine gd_ 2 ?_);refine be_ 2 #[.int .i64 a0_0,.slice A0_1 l0_1.length c0_1,.slice A0_2 l0_2.length c0_2,.slice A0_3 l0_3.length c0_3,.int .i64 a0_4,.int .i64 a0_5,.int .i64 a0_6] 50 ?_;intro gb864 hg w12 hbox hb;have n0_:=aM (below_step (z3_ HB.out) hb);have n1_:=aM (hbox);have n2_:=aM ((z9_ HB.out:w.heap.size≤gb864));have n3_:=aM ((z9_ HB.out:w.heap.size≤gb864));clear HB;have HB:=n0_;have BK864:=n1_;have GW864:=n2_;have GE864:=n3_;clear n0_ n1_ n2_ n3_;clear hb hbox hg) | ((with_reducible refine gd_ 3 ?_);refine be_ 3 #[.int .i64 a1_0,.slice A1_1 l1_1.length c1_1,.slice A1_2 l1_2.length c1_2,.slice A1_3 l1_3.length c1_3,.int .i64 a1_4,.int .i64 a1_5,.int .i64 a1_6] 50 ?_;intro gb865 hg w13 hbox hb;have n0_:=aM (blkB_ BK864.out hb);have n1_:=aM (below_step (z7_ HB.out GE864.out) hb);have n2_:=aM (hbox);have n3_:=aM ((z11_ HB.out GE864.out:w.heap.size≤gb865));have n4_:=aM ((z11_ HB.out GE864.out:w.heap.size≤gb865));have n5_:=aM (neL_ BK864.out hg);have n6_:=aM (neG_ BK864.out hg);clear BK864;clear HB;have BK864:=n0_;have HB:=n1_;have BK865:=n2_;have GW865:=n3_;have GE865:=n4_;have NB864_865:=n5_;have NB865_864:=n6_;clear n0_ n1_ n2_ n3_ n4_ n5_ n6_;clear hb hbox hg;have hnb14:=NB864_865.out;have hnc14:=NB865_864.out;have ⟨hcz15_0,hcz15_1,hcz15_2,hcz15_3,hcz15_4,hcz15_5,hcz15_6,hfz15_0,hfz15_1,hfz15_2,hfz15_3,hfz15_4,hfz15_5,hfz15_6⟩:=cz7_ BK864.out;have ⟨hcz16_0,hcz16_1,hcz16_2,hcz16_3,hcz16_4,hcz16_5,hcz16_6,hfz16_0,hfz16_1,hfz16_2,hfz16_3,hfz16_4,hfz16_5,hfz16_6⟩:=cz7_ BK865.out) | ((with_reducible refine gc_ 107 ?_);refine gl_ (some 9) Tryz.func107 #[.agg #[.int .i64 a0_0,.slice A0_1 l0_1.length c0_1],.agg #[.int .i64 a1_0,.slice A1_1 l1_1.length c1_1]] ?_;(with_reducible refine (Y77.calls k a0_0 _ _ l0_1 a1_0 _ _ l1_1 true _ ?s1 ?s2 ?s3 ?s4 A3.out).mono ?_);(case s1=>repeat (first | exact (Kd.C_below HR0_1.out HB.out) | (with_reducible refine Kd.C_alloc ?_ _) | (with_reducible refine Kd.C_drewN ?_ _) | (with_reducible refine Kd.C_drew ?_)));(case s2=>exact HC0_1.out);(case s3=>repeat (first | exact (Kd.C_below HR1_1.out HB.out) | (with_reducible refine Kd.C_alloc ?_ _) | (with_reducible refine Kd.C_drewN ?_ _) | (with_reducible refine Kd.C_drew ?_)));(case s4=>exact HC1_1.out);rintro e w17 ⟨rfl,hb⟩;refine ⟨_,rfl,?_⟩;have n0_:=aM (blkB_ BK864.out hb);have n1_:=aM (blkB_ BK865.out hb);have n2_:=aM (below_step (z8_ HB.out GE864.out GE865.out) hb);clear BK864;clear BK865;clear HB;have BK864:=n0_;have BK865:=n1_;have HB:=n2_;clear n0_ n1_ n2_;(try clear hb);have ⟨hcz18_0,hcz18_1,hcz18_2,hcz18_3,hcz18_4,hcz18_5,hcz18_6,hfz18_0,hfz18_1,hfz18_2,hfz18_3,hfz18_4,hfz18_5,hfz18_6⟩:=cz7_ BK864.out;have ⟨hcz19_0,hcz19_1,hcz19_2,hcz19_3,hcz19_4,hcz19_5,hcz19_6,hfz19_0,hfz19_1,hfz19_2,hfz19_3,hfz19_4,hfz19_5,hfz19_6⟩:=cz7_ BK865.out) | ((with_reducible refine gc_ 108 ?_);refine gl_ (some 15) Tryz.func108 #[.slice A0_2 l0_2.length c0_2,.slice A1_2 l1_2.length c1_2] ?_;(with_reducible refine (Y15.calls k _ _ l0_2 _ _ l1_2 true _ ?s1 ?s2 ?s3 ?s4 A5.out).mono ?_);(case s1=>repeat (first | exact (Kd.C_below HR0_2.out HB.out) | (with_reducible refine Kd.C_alloc ?_ _) | (with_reducible refine Kd.C_drewN ?_ _) | (with_reducible refine Kd.C_drew ?_)));(case s2=>exact HC0_2.out);(case s3=>repeat (first | exact (Kd.C_below HR1_2.out HB.out) | (with_reducible refine Kd.C_alloc ?_ _) | (with_reducible refine Kd.C_drewN ?_ _) | (with_reducible refine Kd.C_drew ?_)));(case s4=>exact HC1_2.out);rintro e w20 ⟨rfl,hb⟩;refine ⟨_,rfl,?_⟩;have n0_:=aM (blkB_ BK864.out hb);have n1_:=aM (blkB_ BK865.out hb);have n2_:=aM (below_step (z8_ HB.out GE864.out GE865.out) hb);clear BK864;clear BK865;clear HB;have BK864:=n0_;have BK865:=n1_;have HB:=n2_;clear n0_ n1_ n2_;(try clear hb);have ⟨hcz21_0,hcz21_1,hcz21_2,hcz21_3,hcz21_4,hcz21_5,hcz21_6,hfz21_0,hfz21_1,hfz21_2,hfz21_3,hfz21_4,hfz21_5,hfz21_6⟩:=cz7_ BK864.out;have ⟨hcz22_0,hcz22_1,hcz22_2,hcz22_3,hcz22_4,hcz22_5,hcz22_6,hfz22_0,hfz22_1,hfz22_2,hfz22_3,hfz22_4,hfz22_5,hfz22_6⟩:=cz7_ BK865.out) | ((with_reducible refine gc_ 82 ?_);refine gl_ (some 21) Tryz.func82 #[.slice A0_3 l0_3.length c0_3,.slice A1_3 l1_3.length c1_3] ?_;(with_reducible refine (Y22.calls k _ _ l0_3 _ _ l1_3 true _ ?s1 ?s2 ?s3 ?s4 A7.out).mono ?_);(case s1=>repeat (first | exact (Kd.C_below HR0_3.out HB.out) | (with_reducible refine Kd.C_alloc ?_ _) | (with_reducible refine Kd.C_drewN ?_ _) | (with_reducible refine Kd.C_drew ?_)));(case s2=>exact HC0_3.out);(case s3=>repeat (first | exact (Kd.C_below HR1_3.out HB.out) | (with_reducible refine Kd.C_alloc ?_ _) | (with_reducible refine Kd.C_drewN ?_ _) | (with_reducible refine Kd.C_drew ?_)));(case s4=>exact HC1_3.out);rintro e w' ⟨rfl,⟨nd,rfl⟩⟩;refine ⟨_,rfl,?_⟩))
       go_ret
       exact ⟨z10_,z8_ HB.out GE864.out GE865.out⟩
      ·rw [if_neg c11] at H
       exact nO H
     ·rw [if_neg c10] at H
      exact nO H
    ·rw [if_neg c9] at H
     exact nO H
   ·replace c8:=Bool.eq_false_iff.mpr c8
    subst c8
    have H1:(none)=some r:=by rw [if_neg (show ¬ (false=true) by decide)] at H;exact H
    clear H
    have H:=H1
    clear H1
    exact nO H
  ·replace c6:=Bool.eq_false_iff.mpr c6
   subst c6
   have H1:(none)=some r:=by rw [if_neg (show ¬ (false=true) by decide)] at H;exact H
   clear H
   have H:=H1
   clear H1
   exact nO H
 ·replace c4:=Bool.eq_false_iff.mpr c4
  subst c4
  have H1:(none)=some r:=by rw [if_neg (show ¬ (false=true) by decide)] at H;exact H
  clear H
  have H:=H1
  clear H1
  exact nO H


/-! ### Y47: function 83 -/
def Y47.l0:Nat→Int→Option (Bool)
 | 0,_=>none
 | k+1,x5=>if x5<0 then (none) else (some true)
def Y47.f (k:Nat) (a0:Int) (a1:Int):Option (Bool):=if 0=0 then (Y47.l0 k 0) else (none)
theorem Y47.mono_l:∀ k,(∀ y0,LeO (Y47.l0 k y0) (Y47.l0 (k+1) y0))
 | 0=>by intros <;> exact LeO.none _
 | k+1=>by
  have ih0:=Y47.mono_l k
  ·intros
   unfold Y47.l0
   exact mO
theorem Y47.mono:∀ a0 a1 k,LeO (Y47.f k a0 a1) (Y47.f (k+1) a0 a1):=by
 intro a0 a1 k
 have ih0:=Y47.mono_l k
 unfold Y47.f
 exact mO
theorem Y47.calls (k:Nat) (a0:Int) (a1:Int) (r:Bool) (w:World) (h:Y47.f k a0 a1=some r) :
  Calls Tryz.prog 83 #[.slice none 0 0,.slice none 0 0] w fun e w'=>e = .returned (.bool r)∧Drawn0 w w':=by
 have H:(if 0=0 then (Y47.l0 k 0) else (none))=some r:=h
 clear h
 by_cases c3:0=0
 ·rw [if_pos c3] at H
  have c3b0:(0 == 0)=true:=beq_iff_eq.mpr c3
  have c3b1:(0 != 0)=false:=bne_eq_false_iff_eq.mpr c3
  clear c3
  have H':=aM H
  clear H
  go_enter Tryz.func83,Tryz.ntmps83
  go_wp2
  go_loopg [5] k (fun kq v5 w'=>∃ (x5_1:Int),v5 = .int .i64 x5_1∧Aside0 (Y47.l0 kq x5_1=some r)∧Aside0 (kq≤k)∧Drawn0 w w')
  case atStart=>exact ⟨(0),(z1_),H',⟨Nat.le_refl _⟩,z5_⟩
  case round =>
   clear H'
   try clear p2
   try clear c3
   try clear c3b0
   try clear c3b1
   obtain ⟨x5_1,rfl,HA,HK1,⟨m1,rfl⟩⟩:=hrel
   cases gk with
   | zero=>exact absurd HA.out (by simp [Y47.l0])
   | succ k1 =>
    have H:=HA.out
    clear HA
    simp only [Y47.l0] at H
    by_cases c4:x5_1<0
    ·rw [if_pos c4] at H
     exact nO H
    ·rw [if_neg c4] at H
     have c4b0:decide (x5_1<0)=false:=dF c4
     clear c4
     obtain rfl:=sI H
     go_wp2
     go_ret
     exact ⟨z1_,z5_⟩
 ·rw [if_neg c3] at H
  exact nO H


/-! ### Y45: function 84 -/
def Y45.l0:Nat→Int→Option (Bool)
 | 0,_=>none
 | k+1,x5=>if x5<0 then (none) else (some true)
def Y45.f (k:Nat) (a0:Int) (a1:Int):Option (Bool):=if 0=0 then (Y45.l0 k 0) else (none)
theorem Y45.mono_l:∀ k,(∀ y0,LeO (Y45.l0 k y0) (Y45.l0 (k+1) y0))
 | 0=>by intros <;> exact LeO.none _
 | k+1=>by
  have ih0:=Y45.mono_l k
  ·intros
   unfold Y45.l0
   exact mO
theorem Y45.mono:∀ a0 a1 k,LeO (Y45.f k a0 a1) (Y45.f (k+1) a0 a1):=by
 intro a0 a1 k
 have ih0:=Y45.mono_l k
 unfold Y45.f
 exact mO
theorem Y45.calls (k:Nat) (a0:Int) (a1:Int) (r:Bool) (w:World) (h:Y45.f k a0 a1=some r) :
  Calls Tryz.prog 84 #[.slice none 0 0,.slice none 0 0] w fun e w'=>e = .returned (.bool r)∧Drawn0 w w':=by
 have H:(if 0=0 then (Y45.l0 k 0) else (none))=some r:=h
 clear h
 by_cases c3:0=0
 ·rw [if_pos c3] at H
  have c3b0:(0 == 0)=true:=beq_iff_eq.mpr c3
  have c3b1:(0 != 0)=false:=bne_eq_false_iff_eq.mpr c3
  clear c3
  have H':=aM H
  clear H
  go_enter Tryz.func84,Tryz.ntmps84
  go_wp2
  go_loopg [5] k (fun kq v5 w'=>∃ (x5_1:Int),v5 = .int .i64 x5_1∧Aside0 (Y45.l0 kq x5_1=some r)∧Aside0 (kq≤k)∧Drawn0 w w')
  case atStart=>exact ⟨(0),(z1_),H',⟨Nat.le_refl _⟩,z5_⟩
  case round =>
   clear H'
   try clear p2
   try clear c3
   try clear c3b0
   try clear c3b1
   obtain ⟨x5_1,rfl,HA,HK1,⟨m1,rfl⟩⟩:=hrel
   cases gk with
   | zero=>exact absurd HA.out (by simp [Y45.l0])
   | succ k1 =>
    have H:=HA.out
    clear HA
    simp only [Y45.l0] at H
    by_cases c4:x5_1<0
    ·rw [if_pos c4] at H
     exact nO H
    ·rw [if_neg c4] at H
     have c4b0:decide (x5_1<0)=false:=dF c4
     clear c4
     obtain rfl:=sI H
     go_wp2
     go_ret
     exact ⟨z1_,z5_⟩
 ·rw [if_neg c3] at H
  exact nO H


/-! ### Y38: function 85 -/
def Y38.l0:Nat→Int→Option (Bool)
 | 0,_=>none
 | k+1,x5=>if x5<0 then (none) else (some true)
def Y38.f (k:Nat) (a0:Int) (a1:Int):Option (Bool):=if 0=0 then (Y38.l0 k 0) else (none)
theorem Y38.mono_l:∀ k,(∀ y0,LeO (Y38.l0 k y0) (Y38.l0 (k+1) y0))
 | 0=>by intros <;> exact LeO.none _
 | k+1=>by
  have ih0:=Y38.mono_l k
  ·intros
   unfold Y38.l0
   exact mO
theorem Y38.mono:∀ a0 a1 k,LeO (Y38.f k a0 a1) (Y38.f (k+1) a0 a1):=by
 intro a0 a1 k
 have ih0:=Y38.mono_l k
 unfold Y38.f
 exact mO
theorem Y38.calls (k:Nat) (a0:Int) (a1:Int) (r:Bool) (w:World) (h:Y38.f k a0 a1=some r) :
  Calls Tryz.prog 85 #[.slice none 0 0,.slice none 0 0] w fun e w'=>e = .returned (.bool r)∧Drawn0 w w':=by
 have H:(if 0=0 then (Y38.l0 k 0) else (none))=some r:=h
 clear h
 by_cases c3:0=0
 ·rw [if_pos c3] at H
  have c3b0:(0 == 0)=true:=beq_iff_eq.mpr c3
  have c3b1:(0 != 0)=false:=bne_eq_false_iff_eq.mpr c3
  clear c3
  have H':=aM H
  clear H
  go_enter Tryz.func85,Tryz.ntmps85
  go_wp2
  go_loopg [5] k (fun kq v5 w'=>∃ (x5_1:Int),v5 = .int .i64 x5_1∧Aside0 (Y38.l0 kq x5_1=some r)∧Aside0 (kq≤k)∧Drawn0 w w')
  case atStart=>exact ⟨(0),(z1_),H',⟨Nat.le_refl _⟩,z5_⟩
  case round =>
   clear H'
   try clear p2
   try clear c3
   try clear c3b0
   try clear c3b1
   obtain ⟨x5_1,rfl,HA,HK1,⟨m1,rfl⟩⟩:=hrel
   cases gk with
   | zero=>exact absurd HA.out (by simp [Y38.l0])
   | succ k1 =>
    have H:=HA.out
    clear HA
    simp only [Y38.l0] at H
    by_cases c4:x5_1<0
    ·rw [if_pos c4] at H
     exact nO H
    ·rw [if_neg c4] at H
     have c4b0:decide (x5_1<0)=false:=dF c4
     clear c4
     obtain rfl:=sI H
     go_wp2
     go_ret
     exact ⟨z1_,z5_⟩
 ·rw [if_neg c3] at H
  exact nO H


/-! ### Y24: function 86 -/
def Y24.l0:Nat→Int→Option (Bool)
 | 0,_=>none
 | k+1,x5=>if x5<0 then (none) else (some true)
def Y24.f (k:Nat) (a0:Int) (a1:Int):Option (Bool):=if 0=0 then (Y24.l0 k 0) else (none)
theorem Y24.mono_l:∀ k,(∀ y0,LeO (Y24.l0 k y0) (Y24.l0 (k+1) y0))
 | 0=>by intros <;> exact LeO.none _
 | k+1=>by
  have ih0:=Y24.mono_l k
  ·intros
   unfold Y24.l0
   exact mO
theorem Y24.mono:∀ a0 a1 k,LeO (Y24.f k a0 a1) (Y24.f (k+1) a0 a1):=by
 intro a0 a1 k
 have ih0:=Y24.mono_l k
 unfold Y24.f
 exact mO
theorem Y24.calls (k:Nat) (a0:Int) (a1:Int) (r:Bool) (w:World) (h:Y24.f k a0 a1=some r) :
  Calls Tryz.prog 86 #[.slice none 0 0,.slice none 0 0] w fun e w'=>e = .returned (.bool r)∧Drawn0 w w':=by
 have H:(if 0=0 then (Y24.l0 k 0) else (none))=some r:=h
 clear h
 by_cases c3:0=0
 ·rw [if_pos c3] at H
  have c3b0:(0 == 0)=true:=beq_iff_eq.mpr c3
  have c3b1:(0 != 0)=false:=bne_eq_false_iff_eq.mpr c3
  clear c3
  have H':=aM H
  clear H
  go_enter Tryz.func86,Tryz.ntmps86
  go_wp2
  go_loopg [5] k (fun kq v5 w'=>∃ (x5_1:Int),v5 = .int .i64 x5_1∧Aside0 (Y24.l0 kq x5_1=some r)∧Aside0 (kq≤k)∧Drawn0 w w')
  case atStart=>exact ⟨(0),(z1_),H',⟨Nat.le_refl _⟩,z5_⟩
  case round =>
   clear H'
   try clear p2
   try clear c3
   try clear c3b0
   try clear c3b1
   obtain ⟨x5_1,rfl,HA,HK1,⟨m1,rfl⟩⟩:=hrel
   cases gk with
   | zero=>exact absurd HA.out (by simp [Y24.l0])
   | succ k1 =>
    have H:=HA.out
    clear HA
    simp only [Y24.l0] at H
    by_cases c4:x5_1<0
    ·rw [if_pos c4] at H
     exact nO H
    ·rw [if_neg c4] at H
     have c4b0:decide (x5_1<0)=false:=dF c4
     clear c4
     obtain rfl:=sI H
     go_wp2
     go_ret
     exact ⟨z1_,z5_⟩
 ·rw [if_neg c3] at H
  exact nO H


/-! ### Y75: function 60 -/
def Y75.f (k:Nat) (a0_0:Int) (l0_1:List (S78)) (l0_2:List (S115)) (l0_3:List Int) (a0_4:Int) (a0_5:Int) (a0_6:Int) (l0_7:List Int) (a0_8:Int) (a0_9:Int) (a0_10:Int) (a0_11:Int) (a1_0:Int) (l1_1:List (S78)) (l1_2:List (S115)) (l1_3:List Int) (a1_4:Int) (a1_5:Int) (a1_6:Int) (l1_7:List Int) (a1_8:Int) (a1_9:Int) (a1_10:Int) (a1_11:Int):Option (Bool):=(Y64.f k a0_0 l0_1 l0_2 l0_3 a0_4 a0_5 a0_6 a1_0 l1_1 l1_2 l1_3 a1_4 a1_5 a1_6).bind fun t871=>(if t871=true then ((Y22.f k l0_7 l1_7).bind fun t872=>(if t872=true then ((Y47.f k a0_8 a1_8).bind fun t873=>(if t873=true then ((Y45.f k a0_9 a1_9).bind fun t874=>(if t874=true then ((Y38.f k a0_10 a1_10).bind fun t875=>(if t875=true then ((Y24.f k a0_11 a1_11).bind fun t876=>(if t876=true then (some true) else (none))) else (none))) else (none))) else (none))) else (none))) else (none))
theorem Y75.mono:∀ a0 a1 a2 a3 a4 a5 a6 a7 a8 a9 a10 a11 a12 a13 a14 a15 a16 a17 a18 a19 a20 a21 a22 a23 k,LeO (Y75.f k a0 a1 a2 a3 a4 a5 a6 a7 a8 a9 a10 a11 a12 a13 a14 a15 a16 a17 a18 a19 a20 a21 a22 a23) (Y75.f (k+1) a0 a1 a2 a3 a4 a5 a6 a7 a8 a9 a10 a11 a12 a13 a14 a15 a16 a17 a18 a19 a20 a21 a22 a23):=by
 intro a0 a1 a2 a3 a4 a5 a6 a7 a8 a9 a10 a11 a12 a13 a14 a15 a16 a17 a18 a19 a20 a21 a22 a23 k
 have m0:=@Y64.mono
 have m1:=@Y24.mono
 have m2:=@Y22.mono
 have m3:=@Y47.mono
 have m4:=@Y45.mono
 have m5:=@Y38.mono
 unfold Y75.f
 exact mO
theorem Y75.calls (k:Nat) (a0_0:Int) (A0_1:Option Addr) (c0_1:Nat) (l0_1:List (S78)) (A0_2:Option Addr) (c0_2:Nat) (l0_2:List (S115)) (A0_3:Option Addr) (c0_3:Nat) (l0_3:List Int) (a0_4:Int) (a0_5:Int) (a0_6:Int) (A0_7:Option Addr) (c0_7:Nat) (l0_7:List Int) (a0_8:Int) (a0_9:Int) (a0_10:Int) (a0_11:Int) (a1_0:Int) (A1_1:Option Addr) (c1_1:Nat) (l1_1:List (S78)) (A1_2:Option Addr) (c1_2:Nat) (l1_2:List (S115)) (A1_3:Option Addr) (c1_3:Nat) (l1_3:List Int) (a1_4:Int) (a1_5:Int) (a1_6:Int) (A1_7:Option Addr) (c1_7:Nat) (l1_7:List Int) (a1_8:Int) (a1_9:Int) (a1_10:Int) (a1_11:Int) (r:Bool) (w:World) (hr0_1:Kd.C k78 w A0_1 l0_1.length l0_1) (hc0_1:l0_1.length≤c0_1) (hr0_2:Kd.C k115 w A0_2 l0_2.length l0_2) (hc0_2:l0_2.length≤c0_2) (hr0_3:Kd.C (Kd.int .i64) w A0_3 l0_3.length l0_3) (hc0_3:l0_3.length≤c0_3) (hr0_7:Kd.C (Kd.int .i64) w A0_7 l0_7.length l0_7) (hc0_7:l0_7.length≤c0_7) (hr1_1:Kd.C k78 w A1_1 l1_1.length l1_1) (hc1_1:l1_1.length≤c1_1) (hr1_2:Kd.C k115 w A1_2 l1_2.length l1_2) (hc1_2:l1_2.length≤c1_2) (hr1_3:Kd.C (Kd.int .i64) w A1_3 l1_3.length l1_3) (hc1_3:l1_3.length≤c1_3) (hr1_7:Kd.C (Kd.int .i64) w A1_7 l1_7.length l1_7) (hc1_7:l1_7.length≤c1_7) (h:Y75.f k a0_0 l0_1 l0_2 l0_3 a0_4 a0_5 a0_6 l0_7 a0_8 a0_9 a0_10 a0_11 a1_0 l1_1 l1_2 l1_3 a1_4 a1_5 a1_6 l1_7 a1_8 a1_9 a1_10 a1_11=some r) :
  Calls Tryz.prog 60 #[.agg #[.int .i64 a0_0,.slice A0_1 l0_1.length c0_1,.slice A0_2 l0_2.length c0_2,.slice A0_3 l0_3.length c0_3,.int .i64 a0_4,.int .i64 a0_5,.int .i64 a0_6,.slice A0_7 l0_7.length c0_7,.slice none 0 0,.slice none 0 0,.slice none 0 0,.slice none 0 0],.agg #[.int .i64 a1_0,.slice A1_1 l1_1.length c1_1,.slice A1_2 l1_2.length c1_2,.slice A1_3 l1_3.length c1_3,.int .i64 a1_4,.int .i64 a1_5,.int .i64 a1_6,.slice A1_7 l1_7.length c1_7,.slice none 0 0,.slice none 0 0,.slice none 0 0,.slice none 0 0]] w fun e w'=>e = .returned (.bool r)∧Below w.heap.size w w':=by
 have hu56:=Tryz.underlying56
 have hu50:=Tryz.underlying50
 have HR0_1:=aM hr0_1
 have HC0_1:=aM hc0_1
 clear hr0_1 hc0_1
 have HR0_2:=aM hr0_2
 have HC0_2:=aM hc0_2
 clear hr0_2 hc0_2
 have HR0_3:=aM hr0_3
 have HC0_3:=aM hc0_3
 clear hr0_3 hc0_3
 have HR0_7:=aM hr0_7
 have HC0_7:=aM hc0_7
 clear hr0_7 hc0_7
 have HR1_1:=aM hr1_1
 have HC1_1:=aM hc1_1
 clear hr1_1 hc1_1
 have HR1_2:=aM hr1_2
 have HC1_2:=aM hc1_2
 clear hr1_2 hc1_2
 have HR1_3:=aM hr1_3
 have HC1_3:=aM hc1_3
 clear hr1_3 hc1_3
 have HR1_7:=aM hr1_7
 have HC1_7:=aM hc1_7
 clear hr1_7 hc1_7
 have HB:=aM (Below.refl w.heap.size w)
 have H:((Y64.f k a0_0 l0_1 l0_2 l0_3 a0_4 a0_5 a0_6 a1_0 l1_1 l1_2 l1_3 a1_4 a1_5 a1_6).bind fun t871=>(if t871=true then ((Y22.f k l0_7 l1_7).bind fun t872=>(if t872=true then ((Y47.f k a0_8 a1_8).bind fun t873=>(if t873=true then ((Y45.f k a0_9 a1_9).bind fun t874=>(if t874=true then ((Y38.f k a0_10 a1_10).bind fun t875=>(if t875=true then ((Y24.f k a0_11 a1_11).bind fun t876=>(if t876=true then (some true) else (none))) else (none))) else (none))) else (none))) else (none))) else (none)))=some r:=h
 clear h
 replace H:=bS H
 obtain ⟨t871,A30,H⟩:=H
 replace H:(if t871=true then ((Y22.f k l0_7 l1_7).bind fun t872=>(if t872=true then ((Y47.f k a0_8 a1_8).bind fun t873=>(if t873=true then ((Y45.f k a0_9 a1_9).bind fun t874=>(if t874=true then ((Y38.f k a0_10 a1_10).bind fun t875=>(if t875=true then ((Y24.f k a0_11 a1_11).bind fun t876=>(if t876=true then (some true) else (none))) else (none))) else (none))) else (none))) else (none))) else (none))=some r:=H
 have A3:=aM A30
 clear A30
 by_cases c4:t871=true
 ·subst c4
  have H1:((Y22.f k l0_7 l1_7).bind fun t872=>(if t872=true then ((Y47.f k a0_8 a1_8).bind fun t873=>(if t873=true then ((Y45.f k a0_9 a1_9).bind fun t874=>(if t874=true then ((Y38.f k a0_10 a1_10).bind fun t875=>(if t875=true then ((Y24.f k a0_11 a1_11).bind fun t876=>(if t876=true then (some true) else (none))) else (none))) else (none))) else (none))) else (none)))=some r:=by rw [if_pos rfl] at H;exact H
  clear H
  have H:=H1
  clear H1
  replace H:=bS H
  obtain ⟨t872,A50,H⟩:=H
  replace H:(if t872=true then ((Y47.f k a0_8 a1_8).bind fun t873=>(if t873=true then ((Y45.f k a0_9 a1_9).bind fun t874=>(if t874=true then ((Y38.f k a0_10 a1_10).bind fun t875=>(if t875=true then ((Y24.f k a0_11 a1_11).bind fun t876=>(if t876=true then (some true) else (none))) else (none))) else (none))) else (none))) else (none))=some r:=H
  have A5:=aM A50
  clear A50
  by_cases c6:t872=true
  ·subst c6
   have H1:((Y47.f k a0_8 a1_8).bind fun t873=>(if t873=true then ((Y45.f k a0_9 a1_9).bind fun t874=>(if t874=true then ((Y38.f k a0_10 a1_10).bind fun t875=>(if t875=true then ((Y24.f k a0_11 a1_11).bind fun t876=>(if t876=true then (some true) else (none))) else (none))) else (none))) else (none)))=some r:=by rw [if_pos rfl] at H;exact H
   clear H
   have H:=H1
   clear H1
   replace H:=bS H
   obtain ⟨t873,A70,H⟩:=H
   replace H:(if t873=true then ((Y45.f k a0_9 a1_9).bind fun t874=>(if t874=true then ((Y38.f k a0_10 a1_10).bind fun t875=>(if t875=true then ((Y24.f k a0_11 a1_11).bind fun t876=>(if t876=true then (some true) else (none))) else (none))) else (none))) else (none))=some r:=H
   have A7:=aM A70
   clear A70
   by_cases c8:t873=true
   ·subst c8
    have H1:((Y45.f k a0_9 a1_9).bind fun t874=>(if t874=true then ((Y38.f k a0_10 a1_10).bind fun t875=>(if t875=true then ((Y24.f k a0_11 a1_11).bind fun t876=>(if t876=true then (some true) else (none))) else (none))) else (none)))=some r:=by rw [if_pos rfl] at H;exact H
    clear H
    have H:=H1
    clear H1
    replace H:=bS H
    obtain ⟨t874,A90,H⟩:=H
    replace H:(if t874=true then ((Y38.f k a0_10 a1_10).bind fun t875=>(if t875=true then ((Y24.f k a0_11 a1_11).bind fun t876=>(if t876=true then (some true) else (none))) else (none))) else (none))=some r:=H
    have A9:=aM A90
    clear A90
    by_cases c10:t874=true
    ·subst c10
     have H1:((Y38.f k a0_10 a1_10).bind fun t875=>(if t875=true then ((Y24.f k a0_11 a1_11).bind fun t876=>(if t876=true then (some true) else (none))) else (none)))=some r:=by rw [if_pos rfl] at H;exact H
     clear H
     have H:=H1
     clear H1
     replace H:=bS H
     obtain ⟨t875,A110,H⟩:=H
     replace H:(if t875=true then ((Y24.f k a0_11 a1_11).bind fun t876=>(if t876=true then (some true) else (none))) else (none))=some r:=H
     have A11:=aM A110
     clear A110
     by_cases c12:t875=true
     ·subst c12
      have H1:((Y24.f k a0_11 a1_11).bind fun t876=>(if t876=true then (some true) else (none)))=some r:=by rw [if_pos rfl] at H;exact H
      clear H
      have H:=H1
      clear H1
      replace H:=bS H
      obtain ⟨t876,A130,H⟩:=H
      replace H:(if t876=true then (some true) else (none))=some r:=H
      have A13:=aM A130
      clear A130
      by_cases c14:t876=true
      ·subst c14
       have H1:(some true)=some r:=by rw [if_pos rfl] at H;exact H
       clear H
       have H:=H1
       clear H1
       obtain rfl:=sI H
       go_enter Tryz.func60,Tryz.ntmps60
       go_wp2_with (first | ((with_reducible refine gd_ 2 ?_);refine be_ 2 #[.int .i64 a0_0,.slice A0_1 l0_1.length c0_1,.slice A0_2 l0_2.length c0_2,.slice A0_3 l0_3.length c0_3,.int .i64 a0_4,.int .i64 a0_5,.int .i64 a0_6,.slice A0_7 l0_7.length c0_7,.slice none 0 0,.slice none 0 0,.slice none 0 0,.slice none 0 0] 56 ?_;intro gb869 hg w15 hbox hb;have n0_:=aM (below_step (z3_ HB.out) hb);have n1_:=aM (hbox);have n2_:=aM ((z9_ HB.out:w.heap.size≤gb869));have n3_:=aM ((z9_ HB.out:w.heap.size≤gb869));clear HB;have HB:=n0_;have BK869:=n1_;have GW869:=n2_;have GE869:=n3_;clear n0_ n1_ n2_ n3_;clear hb hbox hg) | ((with_reducible refine gd_ 3 ?_);refine be_ 3 #[.int .i64 a1_0,.slice A1_1 l1_1.length c1_1,.slice A1_2 l1_2.length c1_2,.slice A1_3 l1_3.length c1_3,.int .i64 a1_4,.int .i64 a1_5,.int .i64 a1_6,.slice A1_7 l1_7.length c1_7,.slice none 0 0,.slice none 0 0,.slice none 0 0,.slice none 0 0] 56 ?_;intro gb870 hg w16 hbox hb;have n0_:=aM (blkB_ BK869.out hb);have n1_:=aM (below_step (z7_ HB.out GE869.out) hb);have n2_:=aM (hbox);have n3_:=aM ((z11_ HB.out GE869.out:w.heap.size≤gb870));have n4_:=aM ((z11_ HB.out GE869.out:w.heap.size≤gb870));have n5_:=aM (neL_ BK869.out hg);have n6_:=aM (neG_ BK869.out hg);clear BK869;clear HB;have BK869:=n0_;have HB:=n1_;have BK870:=n2_;have GW870:=n3_;have GE870:=n4_;have NB869_870:=n5_;have NB870_869:=n6_;clear n0_ n1_ n2_ n3_ n4_ n5_ n6_;clear hb hbox hg;have hnb17:=NB869_870.out;have hnc17:=NB870_869.out;have ⟨hcz18_0,hcz18_1,hcz18_2,hcz18_3,hcz18_4,hcz18_5,hcz18_6,hcz18_7,hcz18_8,hcz18_9,hcz18_10,hcz18_11,hfz18_0,hfz18_1,hfz18_2,hfz18_3,hfz18_4,hfz18_5,hfz18_6,hfz18_7,hfz18_8,hfz18_9,hfz18_10,hfz18_11⟩:=cz12_ BK869.out;have ⟨hcz19_0,hcz19_1,hcz19_2,hcz19_3,hcz19_4,hcz19_5,hcz19_6,hcz19_7,hcz19_8,hcz19_9,hcz19_10,hcz19_11,hfz19_0,hfz19_1,hfz19_2,hfz19_3,hfz19_4,hfz19_5,hfz19_6,hfz19_7,hfz19_8,hfz19_9,hfz19_10,hfz19_11⟩:=cz12_ BK870.out) | ((with_reducible refine gc_ 81 ?_);refine gl_ (some 9) Tryz.func81 #[.agg #[.int .i64 a0_0,.slice A0_1 l0_1.length c0_1,.slice A0_2 l0_2.length c0_2,.slice A0_3 l0_3.length c0_3,.int .i64 a0_4,.int .i64 a0_5,.int .i64 a0_6],.agg #[.int .i64 a1_0,.slice A1_1 l1_1.length c1_1,.slice A1_2 l1_2.length c1_2,.slice A1_3 l1_3.length c1_3,.int .i64 a1_4,.int .i64 a1_5,.int .i64 a1_6]] ?_;(with_reducible refine (Y64.calls k a0_0 _ _ l0_1 _ _ l0_2 _ _ l0_3 a0_4 a0_5 a0_6 a1_0 _ _ l1_1 _ _ l1_2 _ _ l1_3 a1_4 a1_5 a1_6 true _ ?s1 ?s2 ?s3 ?s4 ?s5 ?s6 ?s7 ?s8 ?s9 ?s10 ?s11 ?s12 A3.out).mono ?_);(case s1=>repeat (first | exact (Kd.C_below HR0_1.out HB.out) | (with_reducible refine Kd.C_alloc ?_ _) | (with_reducible refine Kd.C_drewN ?_ _) | (with_reducible refine Kd.C_drew ?_)));(case s2=>exact HC0_1.out);(case s3=>repeat (first | exact (Kd.C_below HR0_2.out HB.out) | (with_reducible refine Kd.C_alloc ?_ _) | (with_reducible refine Kd.C_drewN ?_ _) | (with_reducible refine Kd.C_drew ?_)));(case s4=>exact HC0_2.out);(case s5=>repeat (first | exact (Kd.C_below HR0_3.out HB.out) | (with_reducible refine Kd.C_alloc ?_ _) | (with_reducible refine Kd.C_drewN ?_ _) | (with_reducible refine Kd.C_drew ?_)));(case s6=>exact HC0_3.out);(case s7=>repeat (first | exact (Kd.C_below HR1_1.out HB.out) | (with_reducible refine Kd.C_alloc ?_ _) | (with_reducible refine Kd.C_drewN ?_ _) | (with_reducible refine Kd.C_drew ?_)));(case s8=>exact HC1_1.out);(case s9=>repeat (first | exact (Kd.C_below HR1_2.out HB.out) | (with_reducible refine Kd.C_alloc ?_ _) | (with_reducible refine Kd.C_drewN ?_ _) | (with_reducible refine Kd.C_drew ?_)));(case s10=>exact HC1_2.out);(case s11=>repeat (first | exact (Kd.C_below HR1_3.out HB.out) | (with_reducible refine Kd.C_alloc ?_ _) | (with_reducible refine Kd.C_drewN ?_ _) | (with_reducible refine Kd.C_drew ?_)));(case s12=>exact HC1_3.out);rintro e w20 ⟨rfl,hb⟩;refine ⟨_,rfl,?_⟩;have n0_:=aM (blkB_ BK869.out hb);have n1_:=aM (blkB_ BK870.out hb);have n2_:=aM (below_step (z8_ HB.out GE869.out GE870.out) hb);clear BK869;clear BK870;clear HB;have BK869:=n0_;have BK870:=n1_;have HB:=n2_;clear n0_ n1_ n2_;(try clear hb);have ⟨hcz21_0,hcz21_1,hcz21_2,hcz21_3,hcz21_4,hcz21_5,hcz21_6,hcz21_7,hcz21_8,hcz21_9,hcz21_10,hcz21_11,hfz21_0,hfz21_1,hfz21_2,hfz21_3,hfz21_4,hfz21_5,hfz21_6,hfz21_7,hfz21_8,hfz21_9,hfz21_10,hfz21_11⟩:=cz12_ BK869.out;have ⟨hcz22_0,hcz22_1,hcz22_2,hcz22_3,hcz22_4,hcz22_5,hcz22_6,hcz22_7,hcz22_8,hcz22_9,hcz22_10,hcz22_11,hfz22_0,hfz22_1,hfz22_2,hfz22_3,hfz22_4,hfz22_5,hfz22_6,hfz22_7,hfz22_8,hfz22_9,hfz22_10,hfz22_11⟩:=cz12_ BK870.out) | ((with_reducible refine gc_ 82 ?_);refine gl_ (some 15) Tryz.func82 #[.slice A0_7 l0_7.length c0_7,.slice A1_7 l1_7.length c1_7] ?_;(with_reducible refine (Y22.calls k _ _ l0_7 _ _ l1_7 true _ ?s1 ?s2 ?s3 ?s4 A5.out).mono ?_);(case s1=>repeat (first | exact (Kd.C_below HR0_7.out HB.out) | (with_reducible refine Kd.C_alloc ?_ _) | (with_reducible refine Kd.C_drewN ?_ _) | (with_reducible refine Kd.C_drew ?_)));(case s2=>exact HC0_7.out);(case s3=>repeat (first | exact (Kd.C_below HR1_7.out HB.out) | (with_reducible refine Kd.C_alloc ?_ _) | (with_reducible refine Kd.C_drewN ?_ _) | (with_reducible refine Kd.C_drew ?_)));(case s4=>exact HC1_7.out);rintro e w' ⟨rfl,⟨nd,rfl⟩⟩;refine ⟨_,rfl,?_⟩) | ((with_reducible refine gc_ 83 ?_);refine gl_ (some 21) Tryz.func83 #[.slice none 0 0,.slice none 0 0] ?_;(with_reducible refine (Y47.calls k a0_8 a1_8 true _ A7.out).mono ?_);rintro e w' ⟨rfl,⟨nd,rfl⟩⟩;refine ⟨_,rfl,?_⟩) | ((with_reducible refine gc_ 84 ?_);refine gl_ (some 27) Tryz.func84 #[.slice none 0 0,.slice none 0 0] ?_;(with_reducible refine (Y45.calls k a0_9 a1_9 true _ A9.out).mono ?_);rintro e w' ⟨rfl,⟨nd,rfl⟩⟩;refine ⟨_,rfl,?_⟩) | ((with_reducible refine gc_ 85 ?_);refine gl_ (some 33) Tryz.func85 #[.slice none 0 0,.slice none 0 0] ?_;(with_reducible refine (Y38.calls k a0_10 a1_10 true _ A11.out).mono ?_);rintro e w' ⟨rfl,⟨nd,rfl⟩⟩;refine ⟨_,rfl,?_⟩) | ((with_reducible refine gc_ 86 ?_);refine gl_ (some 39) Tryz.func86 #[.slice none 0 0,.slice none 0 0] ?_;(with_reducible refine (Y24.calls k a0_11 a1_11 true _ A13.out).mono ?_);rintro e w' ⟨rfl,⟨nd,rfl⟩⟩;refine ⟨_,rfl,?_⟩))
       go_ret
       exact ⟨z10_,z8_ HB.out GE869.out GE870.out⟩
      ·replace c14:=Bool.eq_false_iff.mpr c14
       subst c14
       have H1:(none)=some r:=by rw [if_neg (show ¬ (false=true) by decide)] at H;exact H
       clear H
       have H:=H1
       clear H1
       exact nO H
     ·replace c12:=Bool.eq_false_iff.mpr c12
      subst c12
      have H1:(none)=some r:=by rw [if_neg (show ¬ (false=true) by decide)] at H;exact H
      clear H
      have H:=H1
      clear H1
      exact nO H
    ·replace c10:=Bool.eq_false_iff.mpr c10
     subst c10
     have H1:(none)=some r:=by rw [if_neg (show ¬ (false=true) by decide)] at H;exact H
     clear H
     have H:=H1
     clear H1
     exact nO H
   ·replace c8:=Bool.eq_false_iff.mpr c8
    subst c8
    have H1:(none)=some r:=by rw [if_neg (show ¬ (false=true) by decide)] at H;exact H
    clear H
    have H:=H1
    clear H1
    exact nO H
  ·replace c6:=Bool.eq_false_iff.mpr c6
   subst c6
   have H1:(none)=some r:=by rw [if_neg (show ¬ (false=true) by decide)] at H;exact H
   clear H
   have H:=H1
   clear H1
   exact nO H
 ·replace c4:=Bool.eq_false_iff.mpr c4
  subst c4
  have H1:(none)=some r:=by rw [if_neg (show ¬ (false=true) by decide)] at H;exact H
  clear H
  have H:=H1
  clear H1
  exact nO H


/-! ### Y42: function 27 -/
def Y42.f (k:Nat) (a0_0:Int) (l0_1:List (S78)) (l0_2:List (S115)) (l0_3:List Int) (a0_4:Int) (a0_5:Int) (a0_6:Int) (l0_7:List Int) (a0_8:Int) (a0_9:Int) (a0_10:Int) (a0_11:Int) (a0_12:Int) (a0_13:Int) (a1_0:Int) (l1_1:List (S78)) (l1_2:List (S115)) (l1_3:List Int) (a1_4:Int) (a1_5:Int) (a1_6:Int) (l1_7:List Int) (a1_8:Int) (a1_9:Int) (a1_10:Int) (a1_11:Int) (a1_12:Int) (a1_13:Int):Option (Bool):=(Y75.f k a0_0 l0_1 l0_2 l0_3 a0_4 a0_5 a0_6 l0_7 a0_8 a0_9 a0_10 a0_11 a1_0 l1_1 l1_2 l1_3 a1_4 a1_5 a1_6 l1_7 a1_8 a1_9 a1_10 a1_11).bind fun t879=>(if t879=true then (if a0_12=a1_12 then (if a0_13=a1_13 then (some true) else (none)) else (none)) else (none))
theorem Y42.mono:∀ a0 a1 a2 a3 a4 a5 a6 a7 a8 a9 a10 a11 a12 a13 a14 a15 a16 a17 a18 a19 a20 a21 a22 a23 a24 a25 a26 a27 k,LeO (Y42.f k a0 a1 a2 a3 a4 a5 a6 a7 a8 a9 a10 a11 a12 a13 a14 a15 a16 a17 a18 a19 a20 a21 a22 a23 a24 a25 a26 a27) (Y42.f (k+1) a0 a1 a2 a3 a4 a5 a6 a7 a8 a9 a10 a11 a12 a13 a14 a15 a16 a17 a18 a19 a20 a21 a22 a23 a24 a25 a26 a27):=by
 intro a0 a1 a2 a3 a4 a5 a6 a7 a8 a9 a10 a11 a12 a13 a14 a15 a16 a17 a18 a19 a20 a21 a22 a23 a24 a25 a26 a27 k
 have m0:=@Y75.mono
 unfold Y42.f
 exact mO
theorem Y42.calls (k:Nat) (a0_0:Int) (A0_1:Option Addr) (c0_1:Nat) (l0_1:List (S78)) (A0_2:Option Addr) (c0_2:Nat) (l0_2:List (S115)) (A0_3:Option Addr) (c0_3:Nat) (l0_3:List Int) (a0_4:Int) (a0_5:Int) (a0_6:Int) (A0_7:Option Addr) (c0_7:Nat) (l0_7:List Int) (a0_8:Int) (a0_9:Int) (a0_10:Int) (a0_11:Int) (a0_12:Int) (a0_13:Int) (a1_0:Int) (A1_1:Option Addr) (c1_1:Nat) (l1_1:List (S78)) (A1_2:Option Addr) (c1_2:Nat) (l1_2:List (S115)) (A1_3:Option Addr) (c1_3:Nat) (l1_3:List Int) (a1_4:Int) (a1_5:Int) (a1_6:Int) (A1_7:Option Addr) (c1_7:Nat) (l1_7:List Int) (a1_8:Int) (a1_9:Int) (a1_10:Int) (a1_11:Int) (a1_12:Int) (a1_13:Int) (r:Bool) (w:World) (hr0_1:Kd.C k78 w A0_1 l0_1.length l0_1) (hc0_1:l0_1.length≤c0_1) (hr0_2:Kd.C k115 w A0_2 l0_2.length l0_2) (hc0_2:l0_2.length≤c0_2) (hr0_3:Kd.C (Kd.int .i64) w A0_3 l0_3.length l0_3) (hc0_3:l0_3.length≤c0_3) (hr0_7:Kd.C (Kd.int .i64) w A0_7 l0_7.length l0_7) (hc0_7:l0_7.length≤c0_7) (hr1_1:Kd.C k78 w A1_1 l1_1.length l1_1) (hc1_1:l1_1.length≤c1_1) (hr1_2:Kd.C k115 w A1_2 l1_2.length l1_2) (hc1_2:l1_2.length≤c1_2) (hr1_3:Kd.C (Kd.int .i64) w A1_3 l1_3.length l1_3) (hc1_3:l1_3.length≤c1_3) (hr1_7:Kd.C (Kd.int .i64) w A1_7 l1_7.length l1_7) (hc1_7:l1_7.length≤c1_7) (h:Y42.f k a0_0 l0_1 l0_2 l0_3 a0_4 a0_5 a0_6 l0_7 a0_8 a0_9 a0_10 a0_11 a0_12 a0_13 a1_0 l1_1 l1_2 l1_3 a1_4 a1_5 a1_6 l1_7 a1_8 a1_9 a1_10 a1_11 a1_12 a1_13=some r) :
  Calls Tryz.prog 27 #[.agg #[.int .i64 a0_0,.slice A0_1 l0_1.length c0_1,.slice A0_2 l0_2.length c0_2,.slice A0_3 l0_3.length c0_3,.int .i64 a0_4,.int .i64 a0_5,.int .i64 a0_6,.slice A0_7 l0_7.length c0_7,.slice none 0 0,.slice none 0 0,.slice none 0 0,.slice none 0 0,.int .i64 a0_12,.int .i64 a0_13],.agg #[.int .i64 a1_0,.slice A1_1 l1_1.length c1_1,.slice A1_2 l1_2.length c1_2,.slice A1_3 l1_3.length c1_3,.int .i64 a1_4,.int .i64 a1_5,.int .i64 a1_6,.slice A1_7 l1_7.length c1_7,.slice none 0 0,.slice none 0 0,.slice none 0 0,.slice none 0 0,.int .i64 a1_12,.int .i64 a1_13]] w fun e w'=>e = .returned (.bool r)∧Below w.heap.size w w':=by
 have hu58:=Tryz.underlying58
 have hu56:=Tryz.underlying56
 have HR0_1:=aM hr0_1
 have HC0_1:=aM hc0_1
 clear hr0_1 hc0_1
 have HR0_2:=aM hr0_2
 have HC0_2:=aM hc0_2
 clear hr0_2 hc0_2
 have HR0_3:=aM hr0_3
 have HC0_3:=aM hc0_3
 clear hr0_3 hc0_3
 have HR0_7:=aM hr0_7
 have HC0_7:=aM hc0_7
 clear hr0_7 hc0_7
 have HR1_1:=aM hr1_1
 have HC1_1:=aM hc1_1
 clear hr1_1 hc1_1
 have HR1_2:=aM hr1_2
 have HC1_2:=aM hc1_2
 clear hr1_2 hc1_2
 have HR1_3:=aM hr1_3
 have HC1_3:=aM hc1_3
 clear hr1_3 hc1_3
 have HR1_7:=aM hr1_7
 have HC1_7:=aM hc1_7
 clear hr1_7 hc1_7
 have HB:=aM (Below.refl w.heap.size w)
 have H:((Y75.f k a0_0 l0_1 l0_2 l0_3 a0_4 a0_5 a0_6 l0_7 a0_8 a0_9 a0_10 a0_11 a1_0 l1_1 l1_2 l1_3 a1_4 a1_5 a1_6 l1_7 a1_8 a1_9 a1_10 a1_11).bind fun t879=>(if t879=true then (if a0_12=a1_12 then (if a0_13=a1_13 then (some true) else (none)) else (none)) else (none)))=some r:=h
 clear h
 replace H:=bS H
 obtain ⟨t879,A30,H⟩:=H
 replace H:(if t879=true then (if a0_12=a1_12 then (if a0_13=a1_13 then (some true) else (none)) else (none)) else (none))=some r:=H
 have A3:=aM A30
 clear A30
 by_cases c4:t879=true
 ·subst c4
  have H1:(if a0_12=a1_12 then (if a0_13=a1_13 then (some true) else (none)) else (none))=some r:=by rw [if_pos rfl] at H;exact H
  clear H
  have H:=H1
  clear H1
  by_cases c5:a0_12=a1_12
  ·rw [if_pos c5] at H
   have c5b0:(a0_12 == a1_12)=true:=beq_iff_eq.mpr c5
   have c5b1:(a0_12 != a1_12)=false:=bne_eq_false_iff_eq.mpr c5
   clear c5
   by_cases c6:a0_13=a1_13
   ·rw [if_pos c6] at H
    have c6b0:(a0_13 == a1_13)=true:=beq_iff_eq.mpr c6
    have c6b1:(a0_13 != a1_13)=false:=bne_eq_false_iff_eq.mpr c6
    clear c6
    obtain rfl:=sI H
    go_enter Tryz.func27,Tryz.ntmps27
    go_wp2_with (first | ((with_reducible refine gd_ 2 ?_);refine be_ 2 #[.int .i64 a0_0,.slice A0_1 l0_1.length c0_1,.slice A0_2 l0_2.length c0_2,.slice A0_3 l0_3.length c0_3,.int .i64 a0_4,.int .i64 a0_5,.int .i64 a0_6,.slice A0_7 l0_7.length c0_7,.slice none 0 0,.slice none 0 0,.slice none 0 0,.slice none 0 0,.int .i64 a0_12,.int .i64 a0_13] 58 ?_;intro gb877 hg w7 hbox hb;have n0_:=aM (below_step (z3_ HB.out) hb);have n1_:=aM (hbox);have n2_:=aM ((z9_ HB.out:w.heap.size≤gb877));have n3_:=aM ((z9_ HB.out:w.heap.size≤gb877));clear HB;have HB:=n0_;have BK877:=n1_;have GW877:=n2_;have GE877:=n3_;clear n0_ n1_ n2_ n3_;clear hb hbox hg) | ((with_reducible refine gd_ 3 ?_);refine be_ 3 #[.int .i64 a1_0,.slice A1_1 l1_1.length c1_1,.slice A1_2 l1_2.length c1_2,.slice A1_3 l1_3.length c1_3,.int .i64 a1_4,.int .i64 a1_5,.int .i64 a1_6,.slice A1_7 l1_7.length c1_7,.slice none 0 0,.slice none 0 0,.slice none 0 0,.slice none 0 0,.int .i64 a1_12,.int .i64 a1_13] 58 ?_;intro gb878 hg w8 hbox hb;have n0_:=aM (blkB_ BK877.out hb);have n1_:=aM (below_step (z7_ HB.out GE877.out) hb);have n2_:=aM (hbox);have n3_:=aM ((z11_ HB.out GE877.out:w.heap.size≤gb878));have n4_:=aM ((z11_ HB.out GE877.out:w.heap.size≤gb878));have n5_:=aM (neL_ BK877.out hg);have n6_:=aM (neG_ BK877.out hg);clear BK877;clear HB;have BK877:=n0_;have HB:=n1_;have BK878:=n2_;have GW878:=n3_;have GE878:=n4_;have NB877_878:=n5_;have NB878_877:=n6_;clear n0_ n1_ n2_ n3_ n4_ n5_ n6_;clear hb hbox hg;have hnb9:=NB877_878.out;have hnc9:=NB878_877.out;have hcz10_0:w8.cell? ⟨gb877,0,none⟩=some (.int .i64 a0_0):=(blk_cell BK877.out 0).trans rfl;have hcz10_1:w8.cell? ⟨gb877,1,none⟩=some (.slice A0_1 l0_1.length c0_1):=(blk_cell BK877.out 1).trans rfl;have hcz10_2:w8.cell? ⟨gb877,2,none⟩=some (.slice A0_2 l0_2.length c0_2):=(blk_cell BK877.out 2).trans rfl;have hcz10_3:w8.cell? ⟨gb877,3,none⟩=some (.slice A0_3 l0_3.length c0_3):=(blk_cell BK877.out 3).trans rfl;have hcz10_4:w8.cell? ⟨gb877,4,none⟩=some (.int .i64 a0_4):=(blk_cell BK877.out 4).trans rfl;have hcz10_5:w8.cell? ⟨gb877,5,none⟩=some (.int .i64 a0_5):=(blk_cell BK877.out 5).trans rfl;have hcz10_6:w8.cell? ⟨gb877,6,none⟩=some (.int .i64 a0_6):=(blk_cell BK877.out 6).trans rfl;have hcz10_7:w8.cell? ⟨gb877,7,none⟩=some (.slice A0_7 l0_7.length c0_7):=(blk_cell BK877.out 7).trans rfl;have hcz10_8:w8.cell? ⟨gb877,8,none⟩=some (.slice none 0 0):=(blk_cell BK877.out 8).trans rfl;have hcz10_9:w8.cell? ⟨gb877,9,none⟩=some (.slice none 0 0):=(blk_cell BK877.out 9).trans rfl;have hcz10_10:w8.cell? ⟨gb877,10,none⟩=some (.slice none 0 0):=(blk_cell BK877.out 10).trans rfl;have hcz10_11:w8.cell? ⟨gb877,11,none⟩=some (.slice none 0 0):=(blk_cell BK877.out 11).trans rfl;have hcz10_12:w8.cell? ⟨gb877,12,none⟩=some (.int .i64 a0_12):=(blk_cell BK877.out 12).trans rfl;have hcz10_13:w8.cell? ⟨gb877,13,none⟩=some (.int .i64 a0_13):=(blk_cell BK877.out 13).trans rfl;have hfz10_0:=blk_frozen BK877.out 0;have hfz10_1:=blk_frozen BK877.out 1;have hfz10_2:=blk_frozen BK877.out 2;have hfz10_3:=blk_frozen BK877.out 3;have hfz10_4:=blk_frozen BK877.out 4;have hfz10_5:=blk_frozen BK877.out 5;have hfz10_6:=blk_frozen BK877.out 6;have hfz10_7:=blk_frozen BK877.out 7;have hfz10_8:=blk_frozen BK877.out 8;have hfz10_9:=blk_frozen BK877.out 9;have hfz10_10:=blk_frozen BK877.out 10;have hfz10_11:=blk_frozen BK877.out 11;have hfz10_12:=blk_frozen BK877.out 12;have hfz10_13:=blk_frozen BK877.out 13;have hcz11_0:w8.cell? ⟨gb878,0,none⟩=some (.int .i64 a1_0):=(blk_cell BK878.out 0).trans rfl;have hcz11_1:w8.cell? ⟨gb878,1,none⟩=some (.slice A1_1 l1_1.length c1_1):=(blk_cell BK878.out 1).trans rfl;have hcz11_2:w8.cell? ⟨gb878,2,none⟩=some (.slice A1_2 l1_2.length c1_2):=(blk_cell BK878.out 2).trans rfl;have hcz11_3:w8.cell? ⟨gb878,3,none⟩=some (.slice A1_3 l1_3.length c1_3):=(blk_cell BK878.out 3).trans rfl;have hcz11_4:w8.cell? ⟨gb878,4,none⟩=some (.int .i64 a1_4):=(blk_cell BK878.out 4).trans rfl;have hcz11_5:w8.cell? ⟨gb878,5,none⟩=some (.int .i64 a1_5):=(blk_cell BK878.out 5).trans rfl;have hcz11_6:w8.cell? ⟨gb878,6,none⟩=some (.int .i64 a1_6):=(blk_cell BK878.out 6).trans rfl;have hcz11_7:w8.cell? ⟨gb878,7,none⟩=some (.slice A1_7 l1_7.length c1_7):=(blk_cell BK878.out 7).trans rfl;have hcz11_8:w8.cell? ⟨gb878,8,none⟩=some (.slice none 0 0):=(blk_cell BK878.out 8).trans rfl;have hcz11_9:w8.cell? ⟨gb878,9,none⟩=some (.slice none 0 0):=(blk_cell BK878.out 9).trans rfl;have hcz11_10:w8.cell? ⟨gb878,10,none⟩=some (.slice none 0 0):=(blk_cell BK878.out 10).trans rfl;have hcz11_11:w8.cell? ⟨gb878,11,none⟩=some (.slice none 0 0):=(blk_cell BK878.out 11).trans rfl;have hcz11_12:w8.cell? ⟨gb878,12,none⟩=some (.int .i64 a1_12):=(blk_cell BK878.out 12).trans rfl;have hcz11_13:w8.cell? ⟨gb878,13,none⟩=some (.int .i64 a1_13):=(blk_cell BK878.out 13).trans rfl;have hfz11_0:=blk_frozen BK878.out 0;have hfz11_1:=blk_frozen BK878.out 1;have hfz11_2:=blk_frozen BK878.out 2;have hfz11_3:=blk_frozen BK878.out 3;have hfz11_4:=blk_frozen BK878.out 4;have hfz11_5:=blk_frozen BK878.out 5;have hfz11_6:=blk_frozen BK878.out 6;have hfz11_7:=blk_frozen BK878.out 7;have hfz11_8:=blk_frozen BK878.out 8;have hfz11_9:=blk_frozen BK878.out 9;have hfz11_10:=blk_frozen BK878.out 10;have hfz11_11:=blk_frozen BK878.out 11;have hfz11_12:=blk_frozen BK878.out 12;have hfz11_13:=blk_frozen BK878.out 13) | ((with_reducible refine gc_ 60 ?_);refine gl_ (some 9) Tryz.func60 #[.agg #[.int .i64 a0_0,.slice A0_1 l0_1.length c0_1,.slice A0_2 l0_2.length c0_2,.slice A0_3 l0_3.length c0_3,.int .i64 a0_4,.int .i64 a0_5,.int .i64 a0_6,.slice A0_7 l0_7.length c0_7,.slice none 0 0,.slice none 0 0,.slice none 0 0,.slice none 0 0],.agg #[.int .i64 a1_0,.slice A1_1 l1_1.length c1_1,.slice A1_2 l1_2.length c1_2,.slice A1_3 l1_3.length c1_3,.int .i64 a1_4,.int .i64 a1_5,.int .i64 a1_6,.slice A1_7 l1_7.length c1_7,.slice none 0 0,.slice none 0 0,.slice none 0 0,.slice none 0 0]] ?_;(with_reducible refine (Y75.calls k a0_0 _ _ l0_1 _ _ l0_2 _ _ l0_3 a0_4 a0_5 a0_6 _ _ l0_7 a0_8 a0_9 a0_10 a0_11 a1_0 _ _ l1_1 _ _ l1_2 _ _ l1_3 a1_4 a1_5 a1_6 _ _ l1_7 a1_8 a1_9 a1_10 a1_11 true _ ?s1 ?s2 ?s3 ?s4 ?s5 ?s6 ?s7 ?s8 ?s9 ?s10 ?s11 ?s12 ?s13 ?s14 ?s15 ?s16 A3.out).mono ?_);(case s1=>repeat (first | exact (Kd.C_below HR0_1.out HB.out) | (with_reducible refine Kd.C_alloc ?_ _) | (with_reducible refine Kd.C_drewN ?_ _) | (with_reducible refine Kd.C_drew ?_)));(case s2=>exact HC0_1.out);(case s3=>repeat (first | exact (Kd.C_below HR0_2.out HB.out) | (with_reducible refine Kd.C_alloc ?_ _) | (with_reducible refine Kd.C_drewN ?_ _) | (with_reducible refine Kd.C_drew ?_)));(case s4=>exact HC0_2.out);(case s5=>repeat (first | exact (Kd.C_below HR0_3.out HB.out) | (with_reducible refine Kd.C_alloc ?_ _) | (with_reducible refine Kd.C_drewN ?_ _) | (with_reducible refine Kd.C_drew ?_)));(case s6=>exact HC0_3.out);(case s7=>repeat (first | exact (Kd.C_below HR0_7.out HB.out) | (with_reducible refine Kd.C_alloc ?_ _) | (with_reducible refine Kd.C_drewN ?_ _) | (with_reducible refine Kd.C_drew ?_)));(case s8=>exact HC0_7.out);(case s9=>repeat (first | exact (Kd.C_below HR1_1.out HB.out) | (with_reducible refine Kd.C_alloc ?_ _) | (with_reducible refine Kd.C_drewN ?_ _) | (with_reducible refine Kd.C_drew ?_)));(case s10=>exact HC1_1.out);(case s11=>repeat (first | exact (Kd.C_below HR1_2.out HB.out) | (with_reducible refine Kd.C_alloc ?_ _) | (with_reducible refine Kd.C_drewN ?_ _) | (with_reducible refine Kd.C_drew ?_)));(case s12=>exact HC1_2.out);(case s13=>repeat (first | exact (Kd.C_below HR1_3.out HB.out) | (with_reducible refine Kd.C_alloc ?_ _) | (with_reducible refine Kd.C_drewN ?_ _) | (with_reducible refine Kd.C_drew ?_)));(case s14=>exact HC1_3.out);(case s15=>repeat (first | exact (Kd.C_below HR1_7.out HB.out) | (with_reducible refine Kd.C_alloc ?_ _) | (with_reducible refine Kd.C_drewN ?_ _) | (with_reducible refine Kd.C_drew ?_)));(case s16=>exact HC1_7.out);rintro e w12 ⟨rfl,hb⟩;refine ⟨_,rfl,?_⟩;have n0_:=aM (blkB_ BK877.out hb);have n1_:=aM (blkB_ BK878.out hb);have n2_:=aM (below_step (z8_ HB.out GE877.out GE878.out) hb);clear BK877;clear BK878;clear HB;have BK877:=n0_;have BK878:=n1_;have HB:=n2_;clear n0_ n1_ n2_;(try clear hb);have hcz13_0:w12.cell? ⟨gb877,0,none⟩=some (.int .i64 a0_0):=(blk_cell BK877.out 0).trans rfl;have hcz13_1:w12.cell? ⟨gb877,1,none⟩=some (.slice A0_1 l0_1.length c0_1):=(blk_cell BK877.out 1).trans rfl;have hcz13_2:w12.cell? ⟨gb877,2,none⟩=some (.slice A0_2 l0_2.length c0_2):=(blk_cell BK877.out 2).trans rfl;have hcz13_3:w12.cell? ⟨gb877,3,none⟩=some (.slice A0_3 l0_3.length c0_3):=(blk_cell BK877.out 3).trans rfl;have hcz13_4:w12.cell? ⟨gb877,4,none⟩=some (.int .i64 a0_4):=(blk_cell BK877.out 4).trans rfl;have hcz13_5:w12.cell? ⟨gb877,5,none⟩=some (.int .i64 a0_5):=(blk_cell BK877.out 5).trans rfl;have hcz13_6:w12.cell? ⟨gb877,6,none⟩=some (.int .i64 a0_6):=(blk_cell BK877.out 6).trans rfl;have hcz13_7:w12.cell? ⟨gb877,7,none⟩=some (.slice A0_7 l0_7.length c0_7):=(blk_cell BK877.out 7).trans rfl;have hcz13_8:w12.cell? ⟨gb877,8,none⟩=some (.slice none 0 0):=(blk_cell BK877.out 8).trans rfl;have hcz13_9:w12.cell? ⟨gb877,9,none⟩=some (.slice none 0 0):=(blk_cell BK877.out 9).trans rfl;have hcz13_10:w12.cell? ⟨gb877,10,none⟩=some (.slice none 0 0):=(blk_cell BK877.out 10).trans rfl;have hcz13_11:w12.cell? ⟨gb877,11,none⟩=some (.slice none 0 0):=(blk_cell BK877.out 11).trans rfl;have hcz13_12:w12.cell? ⟨gb877,12,none⟩=some (.int .i64 a0_12):=(blk_cell BK877.out 12).trans rfl;have hcz13_13:w12.cell? ⟨gb877,13,none⟩=some (.int .i64 a0_13):=(blk_cell BK877.out 13).trans rfl;have hfz13_0:=blk_frozen BK877.out 0;have hfz13_1:=blk_frozen BK877.out 1;have hfz13_2:=blk_frozen BK877.out 2;have hfz13_3:=blk_frozen BK877.out 3;have hfz13_4:=blk_frozen BK877.out 4;have hfz13_5:=blk_frozen BK877.out 5;have hfz13_6:=blk_frozen BK877.out 6;have hfz13_7:=blk_frozen BK877.out 7;have hfz13_8:=blk_frozen BK877.out 8;have hfz13_9:=blk_frozen BK877.out 9;have hfz13_10:=blk_frozen BK877.out 10;have hfz13_11:=blk_frozen BK877.out 11;have hfz13_12:=blk_frozen BK877.out 12;have hfz13_13:=blk_frozen BK877.out 13;have hcz14_0:w12.cell? ⟨gb878,0,none⟩=some (.int .i64 a1_0):=(blk_cell BK878.out 0).trans rfl;have hcz14_1:w12.cell? ⟨gb878,1,none⟩=some (.slice A1_1 l1_1.length c1_1):=(blk_cell BK878.out 1).trans rfl;have hcz14_2:w12.cell? ⟨gb878,2,none⟩=some (.slice A1_2 l1_2.length c1_2):=(blk_cell BK878.out 2).trans rfl;have hcz14_3:w12.cell? ⟨gb878,3,none⟩=some (.slice A1_3 l1_3.length c1_3):=(blk_cell BK878.out 3).trans rfl;have hcz14_4:w12.cell? ⟨gb878,4,none⟩=some (.int .i64 a1_4):=(blk_cell BK878.out 4).trans rfl;have hcz14_5:w12.cell? ⟨gb878,5,none⟩=some (.int .i64 a1_5):=(blk_cell BK878.out 5).trans rfl;have hcz14_6:w12.cell? ⟨gb878,6,none⟩=some (.int .i64 a1_6):=(blk_cell BK878.out 6).trans rfl;have hcz14_7:w12.cell? ⟨gb878,7,none⟩=some (.slice A1_7 l1_7.length c1_7):=(blk_cell BK878.out 7).trans rfl;have hcz14_8:w12.cell? ⟨gb878,8,none⟩=some (.slice none 0 0):=(blk_cell BK878.out 8).trans rfl;have hcz14_9:w12.cell? ⟨gb878,9,none⟩=some (.slice none 0 0):=(blk_cell BK878.out 9).trans rfl;have hcz14_10:w12.cell? ⟨gb878,10,none⟩=some (.slice none 0 0):=(blk_cell BK878.out 10).trans rfl;have hcz14_11:w12.cell? ⟨gb878,11,none⟩=some (.slice none 0 0):=(blk_cell BK878.out 11).trans rfl;have hcz14_12:w12.cell? ⟨gb878,12,none⟩=some (.int .i64 a1_12):=(blk_cell BK878.out 12).trans rfl;have hcz14_13:w12.cell? ⟨gb878,13,none⟩=some (.int .i64 a1_13):=(blk_cell BK878.out 13).trans rfl;have hfz14_0:=blk_frozen BK878.out 0;have hfz14_1:=blk_frozen BK878.out 1;have hfz14_2:=blk_frozen BK878.out 2;have hfz14_3:=blk_frozen BK878.out 3;have hfz14_4:=blk_frozen BK878.out 4;have hfz14_5:=blk_frozen BK878.out 5;have hfz14_6:=blk_frozen BK878.out 6;have hfz14_7:=blk_frozen BK878.out 7;have hfz14_8:=blk_frozen BK878.out 8;have hfz14_9:=blk_frozen BK878.out 9;have hfz14_10:=blk_frozen BK878.out 10;have hfz14_11:=blk_frozen BK878.out 11;have hfz14_12:=blk_frozen BK878.out 12;have hfz14_13:=blk_frozen BK878.out 13))
    go_ret
    exact ⟨z10_,z8_ HB.out GE877.out GE878.out⟩
   ·rw [if_neg c6] at H
    exact nO H
  ·rw [if_neg c5] at H
   exact nO H
 ·replace c4:=Bool.eq_false_iff.mpr c4
  subst c4
  have H1:(none)=some r:=by rw [if_neg (show ¬ (false=true) by decide)] at H;exact H
  clear H
  have H:=H1
  clear H1
  exact nO H


/-! ### Y17: function 88 -/
def Y17.l0:Nat→List Int→Int→Int→Option (Int × List Int)
 | 0,_,_,_=>none
 | k+1,x0,x1,x5=>if x5<(x0.length:Int) then (if 0≤x5 then (Y17.l0 k (x0.set (x5:Int).toNat x1) (wrap64 (x1+1)) (wrap64 (x5+1))) else (none)) else (some (x1,x0))
def Y17.f (k:Nat) (l0:List Int) (a1:Int):Option (Int × List Int):=Y17.l0 k l0 a1 0
theorem Y17.mono_l:∀ k,(∀ y0 y1 y2,LeO (Y17.l0 k y0 y1 y2) (Y17.l0 (k+1) y0 y1 y2))
 | 0=>by intros <;> exact LeO.none _
 | k+1=>by
  have ih0:=Y17.mono_l k
  ·intros
   unfold Y17.l0
   exact mO
theorem Y17.mono:∀ a0 a1 k,LeO (Y17.f k a0 a1) (Y17.f (k+1) a0 a1):=by
 intro a0 a1 k
 have ih0:=Y17.mono_l k
 unfold Y17.f
 exact mO
theorem Y17.calls (k:Nat) (P0_:Nat→Prop) (u9000_:Value) (l0:List Int) (a1:Int) (r1:Int) (r2:List Int) (w0 w:World) (hB:Below w0.heap.size w0 w) (ho0:Kd.R (Kd.int .i64) 2 w w0.heap.size P0_ u9000_ l0) (h:Y17.f k l0 a1=some (r1,r2)) :
  Calls Tryz.prog 88 #[u9000_,.int .i64 a1] w fun e w'=>e = .returned (.int .i64 r1)∧Kd.R (Kd.int .i64) 2 w' w0.heap.size (fun k_=>(P0_ k_∨w.heap.size≤k_)) u9000_ r2∧Below w0.heap.size w0 w'∧Kept w w' (fun k_=>P0_ k_):=by
 have HO0:=aM (show Kd.R (Kd.int .i64) 2 w w0.heap.size (fun k_=>(P0_ k_∨w.heap.size≤k_)) u9000_ l0 from Kd.R_mono ho0 (fun k_ hk=>(.inl hk)))
 have HK:=aM (Kept.refl w (fun k_=>P0_ k_))
 have HW0:=aM hB.size
 have HB:=aM hB
 clear hB
 have H:(Y17.l0 k l0 a1 0)=some (r1,r2):=h
 clear h
 have H':=aM H
 clear H
 go_enter Tryz.func88,Tryz.ntmps88
 go_wp2
 go_loopg [1,5] k (fun kq v1 v5 w'=>∃ (x0_1:List Int) (x1_1:Int) (x5_1:Int),v1 = .int .i64 x1_1∧v5 = .int .i64 x5_1∧Aside0 (Y17.l0 kq x0_1 x1_1 x5_1=some (r1,r2))∧Aside0 (kq≤k)∧Aside0 (Kd.R (Kd.int .i64) 2 w' w0.heap.size (fun k_=>(P0_ k_∨w.heap.size≤k_)) u9000_ x0_1)∧Aside0 (Kept w w' (fun k_=>P0_ k_))∧Aside0 (Below w0.heap.size w0 w'))
 case atStart=>exact ⟨(l0),(a1),(0),(z1_),(z1_),H',⟨Nat.le_refl _⟩,⟨z0_ HO0.out⟩,⟨z6_ HK.out⟩,⟨z3_ HB.out⟩⟩
 case round =>
  clear H'
  try clear p2
  obtain ⟨x0_1,x1_1,x5_1,rfl,rfl,HA,HK1,HO_0,HK,HB⟩:=hrel
  cases gk with
  | zero=>exact absurd HA.out (by simp [Y17.l0])
  | succ k1 =>
   have H:=HA.out
   clear HA
   simp only [Y17.l0] at H
   by_cases c3:x5_1<(x0_1.length:Int)
   ·rw [if_pos c3] at H
    have c3b0:decide (x5_1<(x0_1.length:Int))=true:=dE c3
    clear c3
    by_cases c4:0≤x5_1
    ·rw [if_pos c4] at H
     have c4b0:decide (0≤x5_1)=true:=dE c4
     clear c4
     obtain ⟨y880,hy880⟩:∃ y_:List Int,y_=(x0_1.set (x5_1:Int).toNat x1_1):=⟨_,rfl⟩
     replace H:(Y17.l0 k1 y880 (wrap64 (x1_1+1)) (wrap64 (x5_1+1)))=some (r1,r2):=by first | (rw [hy880];with_reducible exact H) | (have H2_:=(Option.bind_some _ _).symm.trans H;rw [hy880];with_reducible exact H2_) | (have H2_:=(Option.bind_some _ _).symm.trans H;with_reducible exact H2_) | with_reducible exact H | (rw [hy880];exact H) | exact H
     have Ny880:=aM hy880
     clear hy880
     have H':=aM H
     clear H
     obtain ⟨Ao6,co6,eo6⟩:=Kd.R_slice HO_0.out
     subst eo6
     have p5:0≤(x5_1:Int):=dT (z2_)
     have q5:(x5_1:Int)<((x0_1.length:Int):Int):=dT (z2_)
     obtain ⟨go5,co5,eo5,gb5,gl5,cl5,HG5⟩:=Kd.R_form HO_0.out (by omega)
     (first | cases eo5 | (injection eo5 with ea_ en_ ec_;(first | subst ea_ | (injection ea_ with ea_;subst ea_));subst ec_;clear en_))
     have GB5:=aM gb5
     have GG5:=aM HG5
     clear gb5 gl5 HG5
     have HMgo5:=aM (show (P0_ go5∨w.heap.size≤go5) from (HO_0.out.1 _ rfl))
     obtain ⟨hx5_0,hf5_0⟩:=Kd.R_celln 0 HO_0.out (x5_1:Int) p5 q5
     replace p5:=eq_true p5
     replace q5:=eq_true q5
     have HP7:=Kd.R_putg HO_0.out (x5_1:Int) x1_1
     go_wp2_with (first | ((with_reducible refine gate_store (t:=2) (p:=15) rfl ?_);refine store_event (t:=2) (p:=15) (v:=?vo_w8) (w1:=(wr.setCell ⟨go5,(x5_1:Int).toNat,none⟩ (.int .i64 x1_1))) ?hg ?ho ?hn ?hr ?_;(case ho=>rfl);(case hg=>rfl);(case hn=>rfl);(case hr=>first | (go_simp;done) | (go_simp;rfl));intro w8 hw;have hg:wr.grownBy w8 (some go5):=(by rw [hw];exact HP7.2);have hp_:Kd.R (Kd.int .i64) 2 w8 w0.heap.size (fun k_=>(P0_ k_∨w.heap.size≤k_)) (.slice (some ⟨go5,0,none⟩) x0_1.length co6) y880:=(by rw [hw,Ny880.out];exact HP7.1);clear HP7;have n0_:=aM (hp_);have n1_:=aM ((by rw [hw];exact below_set (HB.out) GB5.out:Below w0.heap.size w0 w8));have n2_:=aM (Kept.of_grown (S:=(fun k_=>P0_ k_)) hg (z6_ HK.out) (fun k_ e_=>(HO_0.out.1 k_ e_)));clear HO_0;clear HB;clear HK;have HO_0:=n0_;have HB:=n1_;have HK:=n2_;clear n0_ n1_ n2_;clear hg hw hp_))
     go_roundg k1
     case measure=>have:=HK1.out;omega
     case rel=>exact ⟨(y880),(wrap64 (x1_1+1)),(wrap64 (x5_1+1)),(z1_),(z1_),H',⟨by have:=HK1.out;omega⟩,⟨z0_ HO_0.out⟩,⟨z6_ HK.out⟩,⟨z3_ HB.out⟩⟩
    ·rw [if_neg c4] at H
     exact nO H
   ·rw [if_neg c3] at H
    have c3b0:decide (x5_1<(x0_1.length:Int))=false:=dF c3
    clear c3
    simp only [Option.some.injEq,Prod.mk.injEq] at H
    obtain ⟨rfl,rfl⟩:=H
    obtain ⟨Ao9,co9,eo9⟩:=Kd.R_slice HO_0.out
    subst eo9
    go_wp2
    go_ret
    exact ⟨z10_,z0_ HO_0.out,z3_ HB.out,z6_ HK.out⟩


/-! ### Y28: function 144 -/
def Y28.l0:Nat→List (S78)→Int→Int→Option (Int × (List (S78)))
 | 0,_,_,_=>none
 | k+1,x0,x1,x5=>if x5<(x0.length:Int) then (if 0≤x5 then ((some (x0.set (x5:Int).toNat (⟨x1,(rd_T78 x0 x5).f1⟩:S78):List (S78))).bind fun y881=>(Y28.l0 k (y881.set (x5:Int).toNat (⟨(rd_T78 y881 x5).f0,wrap64 (x1+1)⟩:S78)) (wrap64 ((wrap64 (x1+1))+1)) (wrap64 (x5+1)))) else (none)) else (some (x1,x0))
def Y28.f (k:Nat) (l0:List (S78)) (a1:Int):Option (Int × (List (S78))):=Y28.l0 k l0 a1 0
theorem Y28.mono_l:∀ k,(∀ y0 y1 y2,LeO (Y28.l0 k y0 y1 y2) (Y28.l0 (k+1) y0 y1 y2))
 | 0=>by intros <;> exact LeO.none _
 | k+1=>by
  have ih0:=Y28.mono_l k
  ·intros
   unfold Y28.l0
   exact mO
theorem Y28.mono:∀ a0 a1 k,LeO (Y28.f k a0 a1) (Y28.f (k+1) a0 a1):=by
 intro a0 a1 k
 have ih0:=Y28.mono_l k
 unfold Y28.f
 exact mO
theorem Y28.calls (k:Nat) (P0_:Nat→Prop) (u9000_:Value) (l0:List (S78)) (a1:Int) (r1:Int) (r2:List (S78)) (w0 w:World) (hB:Below w0.heap.size w0 w) (ho0:Kd.R k78 78 w w0.heap.size P0_ u9000_ l0) (h:Y28.f k l0 a1=some (r1,r2)) :
  Calls Tryz.prog 144 #[u9000_,.int .i64 a1] w fun e w'=>e = .returned (.int .i64 r1)∧Kd.R k78 78 w' w0.heap.size (fun k_=>(P0_ k_∨w.heap.size≤k_)) u9000_ r2∧Below w0.heap.size w0 w'∧Kept w w' (fun k_=>P0_ k_):=by
 have HO0:=aM (show Kd.R k78 78 w w0.heap.size (fun k_=>(P0_ k_∨w.heap.size≤k_)) u9000_ l0 from Kd.R_mono ho0 (fun k_ hk=>(.inl hk)))
 have HK:=aM (Kept.refl w (fun k_=>P0_ k_))
 have HW0:=aM hB.size
 have HB:=aM hB
 clear hB
 have H:(Y28.l0 k l0 a1 0)=some (r1,r2):=h
 clear h
 have H':=aM H
 clear H
 go_enter Tryz.func144,Tryz.ntmps144
 go_wp2
 go_loopg [1,5] k (fun kq v1 v5 w'=>∃ (x0_1:List (S78)) (x1_1:Int) (x5_1:Int),v1 = .int .i64 x1_1∧v5 = .int .i64 x5_1∧Aside0 (Y28.l0 kq x0_1 x1_1 x5_1=some (r1,r2))∧Aside0 (kq≤k)∧Aside0 (Kd.R k78 78 w' w0.heap.size (fun k_=>(P0_ k_∨w.heap.size≤k_)) u9000_ x0_1)∧Aside0 (Kept w w' (fun k_=>P0_ k_))∧Aside0 (Below w0.heap.size w0 w'))
 case atStart=>exact ⟨(l0),(a1),(0),(z1_),(z1_),H',⟨Nat.le_refl _⟩,⟨z0_ HO0.out⟩,⟨z6_ HK.out⟩,⟨z3_ HB.out⟩⟩
 case round =>
  clear H'
  try clear c1
  try clear p2
  obtain ⟨x0_1,x1_1,x5_1,rfl,rfl,HA,HK1,HO_0,HK,HB⟩:=hrel
  cases gk with
  | zero=>exact absurd HA.out (by simp [Y28.l0])
  | succ k1 =>
   have H:=HA.out
   clear HA
   simp only [Y28.l0] at H
   by_cases c3:x5_1<(x0_1.length:Int)
   ·rw [if_pos c3] at H
    have c3b0:decide (x5_1<(x0_1.length:Int))=true:=dE c3
    clear c3
    by_cases c4:0≤x5_1
    ·rw [if_pos c4] at H
     have c4b0:decide (0≤x5_1)=true:=dE c4
     clear c4
     obtain ⟨y881,hy881⟩:∃ y_:List (S78),y_=(x0_1.set (x5_1:Int).toNat (⟨x1_1,(rd_T78 x0_1 x5_1).f1⟩:S78)):=⟨_,rfl⟩
     replace H:(Y28.l0 k1 (y881.set (x5_1:Int).toNat (⟨(rd_T78 y881 x5_1).f0,wrap64 (x1_1+1)⟩:S78)) (wrap64 ((wrap64 (x1_1+1))+1)) (wrap64 (x5_1+1)))=some (r1,r2):=by first | (rw [hy881];with_reducible exact H) | (have H2_:=(Option.bind_some _ _).symm.trans H;rw [hy881];with_reducible exact H2_) | (have H2_:=(Option.bind_some _ _).symm.trans H;with_reducible exact H2_) | with_reducible exact H | (rw [hy881];exact H) | exact H
     have Ny881:=aM hy881
     clear hy881
     obtain ⟨y882,hy882⟩:∃ y_:List (S78),y_=(y881.set (x5_1:Int).toNat (⟨(rd_T78 y881 x5_1).f0,wrap64 (x1_1+1)⟩:S78)):=⟨_,rfl⟩
     replace H:(Y28.l0 k1 y882 (wrap64 ((wrap64 (x1_1+1))+1)) (wrap64 (x5_1+1)))=some (r1,r2):=by first | (rw [hy882];with_reducible exact H) | (have H2_:=(Option.bind_some _ _).symm.trans H;rw [hy882];with_reducible exact H2_) | (have H2_:=(Option.bind_some _ _).symm.trans H;with_reducible exact H2_) | with_reducible exact H | (rw [hy882];exact H) | exact H
     have Ny882:=aM hy882
     clear hy882
     have H':=aM H
     clear H
     obtain ⟨Ao7,co7,eo7⟩:=Kd.R_slice HO_0.out
     subst eo7
     have p5:0≤(x5_1:Int):=dT (z2_)
     have q5:(x5_1:Int)<((x0_1.length:Int):Int):=dT (z2_)
     obtain ⟨go5,co5,eo5,gb5,gl5,cl5,HG5⟩:=Kd.R_form HO_0.out (by omega)
     (first | cases eo5 | (injection eo5 with ea_ en_ ec_;(first | subst ea_ | (injection ea_ with ea_;subst ea_));subst ec_;clear en_))
     have GB5:=aM gb5
     have GG5:=aM HG5
     clear gb5 gl5 HG5
     have HMgo5:=aM (show (P0_ go5∨w.heap.size≤go5) from (HO_0.out.1 _ rfl))
     obtain ⟨ce5,hcl5,hM5,hcc5,hfr5⟩:=Kd.R_elem HO_0.out z78 (x5_1:Int) p5 q5
     obtain rfl:=k78_openM hM5
     have hx5_0:wr.cell? ⟨go5,(x5_1:Int).toNat*2,none⟩=some (.int .i64 ((rd_T78 x0_1 x5_1).f0)):=hcc5 0 _ rfl
     have hx5_1:wr.cell? ⟨go5,(x5_1:Int).toNat*2+1,none⟩=some (.int .i64 ((rd_T78 x0_1 x5_1).f1)):=hcc5 1 _ rfl
     have hf5_0:wr.frozen? ⟨go5,(x5_1:Int).toNat*2,none⟩=false:=hfr5 0
     have hf5_1:wr.frozen? ⟨go5,(x5_1:Int).toNat*2+1,none⟩=false:=hfr5 1
     clear hcl5 hcc5 hfr5 hM5
     replace p5:=eq_true p5
     replace q5:=eq_true q5
     have HX8:=aM (show Kd.R k78 78 wr w0.heap.size (fun k_=>(P0_ k_∨w.heap.size≤k_)) (.slice (some ⟨go5,0,none⟩) x0_1.length co7) x0_1 from (z0_ HO_0.out))
     obtain ⟨ce8,hcl8,hM8,hcc8,hfr8⟩:=Kd.R_elem HX8.out z78 (x5_1:Int) (dT (z2_)) (z19_ HO_0.out)
     obtain rfl:=k78_openM hM8
     have HP8:=Kd.R_seg HX8.out (x5_1:Int) (dT (z2_)) (z19_ HO_0.out) (seg:=[.int .i64 x1_1]) (j:=0) hcl8 hcc8 (show 1≤2 from by decide) (x':=(⟨x1_1,(rd_T78 x0_1 x5_1).f1⟩:S78)) (k78_mkM _ _ _ (⟨x1_1,(rd_T78 x0_1 x5_1).f1⟩:S78) ) (fun _ hk=>hk)
     have hx8_0:=hcc8 0 _ rfl
     (try simp only [show (k78).sz=2 from rfl,Nat.mul_one,Nat.add_zero] at hx8_0)
     have hf8_0:=hfr8 0
     (try simp only [show (k78).sz=2 from rfl,Nat.mul_one,Nat.add_zero] at hf8_0)
     clear hcl8 hcc8 hfr8 hM8
     go_wp2_with (first | ((with_reducible refine gate_store (t:=2) (p:=16) rfl ?_);refine store_event (t:=2) (p:=16) (v:=?vo_w9) (w1:=(wr.setCell ⟨go5,(x5_1:Int).toNat*2,none⟩ (.int .i64 x1_1))) ?hg ?ho ?hn ?hr ?_;(case ho=>rfl);(case hg=>rfl);(case hn=>rfl);(case hr=>first | (go_simp;done) | (go_simp;rfl));intro w9 hw;have hg:wr.grownBy w9 (some go5):=(by rw [hw];exact HP8.2);have hp_:Kd.R k78 78 w9 w0.heap.size (fun k_=>(P0_ k_∨w.heap.size≤k_)) (.slice (some ⟨go5,0,none⟩) x0_1.length co7) y881:=(by rw [hw,Ny881.out];exact HP8.1);clear HP8;have n0_:=aM (hp_);have n1_:=aM ((by rw [hw];exact below_set (HB.out) GB5.out:Below w0.heap.size w0 w9));have n2_:=aM (Kept.of_grown (S:=(fun k_=>P0_ k_)) hg (z6_ HK.out) (fun k_ e_=>(HO_0.out.1 k_ e_)));clear HO_0;clear HB;clear HK;have HO_0:=n0_;have HB:=n1_;have HK:=n2_;clear n0_ n1_ n2_;clear hg hw hp_;have p6:0≤(x5_1:Int):=dT (z2_);have q6:(x5_1:Int)<((x0_1.length:Int):Int):=dT (z2_);obtain ⟨ce6,hcl6,hM6,hcc6,hfr6⟩:=Kd.R_elem HO_0.out z78 (x5_1:Int) p6 q6;obtain rfl:=k78_openM hM6;have hx6_0:w9.cell? ⟨go5,(x5_1:Int).toNat*2,none⟩=some (.int .i64 ((rd_T78 y881 x5_1).f0)):=hcc6 0 _ rfl;have hx6_1:w9.cell? ⟨go5,(x5_1:Int).toNat*2+1,none⟩=some (.int .i64 ((rd_T78 y881 x5_1).f1)):=hcc6 1 _ rfl;have hf6_0:w9.frozen? ⟨go5,(x5_1:Int).toNat*2,none⟩=false:=hfr6 0;have hf6_1:w9.frozen? ⟨go5,(x5_1:Int).toNat*2+1,none⟩=false:=hfr6 1;clear hcl6 hcc6 hfr6 hM6;replace p6:=eq_true p6;replace q6:=eq_true q6;have HX10:=aM (show Kd.R k78 78 w9 w0.heap.size (fun k_=>(P0_ k_∨w.heap.size≤k_)) (.slice (some ⟨go5,0,none⟩) x0_1.length co7) y881 from (z0_ HO_0.out));obtain ⟨ce10,hcl10,hM10,hcc10,hfr10⟩:=Kd.R_elem HX10.out z78 (x5_1:Int) (dT (z2_)) (z19_ HO_0.out);obtain rfl:=k78_openM hM10;have HP10:=Kd.R_seg HX10.out (x5_1:Int) (dT (z2_)) (z19_ HO_0.out) (seg:=[.int .i64 (wrap64 (x1_1+1))]) (j:=1) hcl10 hcc10 (show 2≤2 from by decide) (x':=(⟨(rd_T78 y881 x5_1).f0,wrap64 (x1_1+1)⟩:S78)) (k78_mkM _ _ _ (⟨(rd_T78 y881 x5_1).f0,wrap64 (x1_1+1)⟩:S78) ) (fun _ hk=>hk);have hx10_1:=hcc10 1 _ rfl;(try simp only [show (k78).sz=2 from rfl,Nat.mul_one,Nat.add_zero] at hx10_1);have hf10_1:=hfr10 1;(try simp only [show (k78).sz=2 from rfl,Nat.mul_one,Nat.add_zero] at hf10_1);clear hcl10 hcc10 hfr10 hM10) | ((with_reducible refine gate_store (t:=2) (p:=23) rfl ?_);refine store_event (t:=2) (p:=23) (v:=?vo_w11) (w1:=(w9.setCell ⟨go5,(x5_1:Int).toNat*2+1,none⟩ (.int .i64 (wrap64 (x1_1+1))))) ?hg ?ho ?hn ?hr ?_;(case ho=>rfl);(case hg=>rfl);(case hn=>rfl);(case hr=>first | (go_simp;done) | (go_simp;rfl));intro w11 hw;have hg:w9.grownBy w11 (some go5):=(by rw [hw];exact HP10.2);have hp_:Kd.R k78 78 w11 w0.heap.size (fun k_=>(P0_ k_∨w.heap.size≤k_)) (.slice (some ⟨go5,0,none⟩) x0_1.length co7) y882:=(by rw [hw,Ny882.out];exact HP10.1);clear HP10;have n0_:=aM (hp_);have n1_:=aM ((by rw [hw];exact below_set (HB.out) GB5.out:Below w0.heap.size w0 w11));have n2_:=aM (Kept.of_grown (S:=(fun k_=>P0_ k_)) hg (z6_ HK.out) (fun k_ e_=>(HO_0.out.1 k_ e_)));clear HO_0;clear HB;clear HK;have HO_0:=n0_;have HB:=n1_;have HK:=n2_;clear n0_ n1_ n2_;clear hg hw hp_))
     go_roundg k1
     case measure=>have:=HK1.out;omega
     case rel=>exact ⟨(y882),(wrap64 ((wrap64 (x1_1+1))+1)),(wrap64 (x5_1+1)),(z1_),(z1_),H',⟨by have:=HK1.out;omega⟩,⟨z0_ HO_0.out⟩,⟨z6_ HK.out⟩,⟨z3_ HB.out⟩⟩
    ·rw [if_neg c4] at H
     exact nO H
   ·rw [if_neg c3] at H
    have c3b0:decide (x5_1<(x0_1.length:Int))=false:=dF c3
    clear c3
    simp only [Option.some.injEq,Prod.mk.injEq] at H
    obtain ⟨rfl,rfl⟩:=H
    obtain ⟨Ao12,co12,eo12⟩:=Kd.R_slice HO_0.out
    subst eo12
    go_wp2
    go_ret
    exact ⟨z10_,z0_ HO_0.out,z3_ HB.out,z6_ HK.out⟩


/-! ### Y71: function 113 -/
def Y71.f (k:Nat) (a0_0:Int) (l0_1:List (S78)) (a1:Int):Option (Int × (List (S78))):=(Y28.f k l0_1 a1).bind fun bt884=>(some (bt884.1,bt884.2))
theorem Y71.mono:∀ a0 a1 a2 k,LeO (Y71.f k a0 a1 a2) (Y71.f (k+1) a0 a1 a2):=by
 intro a0 a1 a2 k
 have m0:=@Y28.mono
 unfold Y71.f
 exact mO
theorem Y71.calls (k:Nat) (a0_0:Int) (P0_1_:Nat→Prop) (u9000_:Value) (l0_1:List (S78)) (a1:Int) (r1:Int) (r2:List (S78)) (w0 w:World) (hB:Below w0.heap.size w0 w) (ho0_1:Kd.R k78 78 w w0.heap.size P0_1_ u9000_ l0_1) (h:Y71.f k a0_0 l0_1 a1=some (r1,r2)) :
  Calls Tryz.prog 113 #[.agg #[.int .i64 a0_0,u9000_],.int .i64 a1] w fun e w'=>e = .returned (.int .i64 r1)∧Kd.R k78 78 w' w0.heap.size (fun k_=>(P0_1_ k_∨w.heap.size≤k_)) u9000_ r2∧Below w0.heap.size w0 w'∧Kept w w' (fun k_=>P0_1_ k_):=by
 have hu27:=Tryz.underlying27
 have HO0_1:=aM (show Kd.R k78 78 w w0.heap.size (fun k_=>(P0_1_ k_∨w.heap.size≤k_)) u9000_ l0_1 from Kd.R_mono ho0_1 (fun k_ hk=>(.inl hk)))
 have HK:=aM (Kept.refl w (fun k_=>P0_1_ k_))
 have HW0:=aM hB.size
 have HB:=aM hB
 clear hB
 have H:((Y28.f k l0_1 a1).bind fun bt884=>(some (bt884.1,bt884.2)))=some (r1,r2):=h
 clear h
 replace H:=bS H
 obtain ⟨⟨t884,t885⟩,A30,H⟩:=H
 replace H:(some (t884,t885))=some (r1,r2):=H
 have A3:=aM A30
 clear A30
 simp only [Option.some.injEq,Prod.mk.injEq] at H
 obtain ⟨rfl,rfl⟩:=H
 obtain ⟨Ao4,co4,eo4⟩:=Kd.R_slice HO0_1.out
 subst eo4
 go_enter Tryz.func113,Tryz.ntmps113
 go_wp2_with (first | ((with_reducible refine gd_ 2 ?_);refine be_ 2 #[.int .i64 a0_0,.slice Ao4 l0_1.length co4] 27 ?_;intro gb883 hg w5 hbox hb;have n0_:=aM (Kd.R_below (z0_ HO0_1.out) hb);have n1_:=aM (Kept.below (S:=(fun k_=>P0_1_ k_)) (z6_ HK.out) hb);have n2_:=aM (below_step (z3_ HB.out) hb);have n3_:=aM (hbox);have n4_:=aM ((by rw [hg];exact (by first | exact HK.out.1 | exact (show Kept w _ (fun k_=>P0_1_ k_) from by repeat (first | (with_reducible first | exact HK.out | apply Kept.alloc | apply Kept.drewN | apply Kept.drew) | exact HK.out)).1):w.heap.size≤gb883));have n5_:=aM ((z9_ HB.out:w0.heap.size≤gb883));clear HO0_1;clear HK;clear HB;have HO0_1:=n0_;have HK:=n1_;have HB:=n2_;have BK883:=n3_;have GW883:=n4_;have GE883:=n5_;clear n0_ n1_ n2_ n3_ n4_ n5_;clear hb hbox hg;have ⟨hcz6_0,hcz6_1,hfz6_0,hfz6_1⟩:=cz2_ BK883.out) | ((with_reducible refine gc_ 144 ?_);refine gl_ (some 8) Tryz.func144 #[.slice Ao4 l0_1.length co4,.int .i64 a1] ?_;(with_reducible refine (Y28.calls k (fun k_=>some k_=(.slice Ao4 l0_1.length co4:Value).ownBlock) (.slice Ao4 l0_1.length co4) l0_1 a1 t884 t885 w0 _ ?s1 ?s2 A3.out).mono ?_);(case s1=>repeat (first | (with_reducible first | exact HB.out | apply below_alloc | apply pw_below_drewN | apply below_drew1 | refine below_set ?_ GE883.out) | exact HB.out));(case s2=>exact Kd.R_tight rfl HO0_1.out);rintro e w7 ⟨rfl,hy0,hb,hkp⟩;refine ⟨_,rfl,?_⟩;have n0_:=aM (Kd.R_reok rfl hy0 (fun k_ e_=>HO0_1.out.1 k_ e_));have n1_:=aM (blk_kept (z4_ BK883.out) hkp (fun hs_=>(fun e_=>(Kd.R_ne HO0_1.out BK883.out (by decide)) e_) hs_));have n2_:=aM (Kept.then_ (S:=(fun k_=>P0_1_ k_)) (z18_ HK.out GW883.out) hkp (fun k_ hs_=>(fun e_=>(HO0_1.out.1 k_ e_.symm)) hs_));have n3_:=aM (hb);clear HO0_1;clear BK883;clear HK;clear HB;have HO0_1:=n0_;have BK883:=n1_;have HK:=n2_;have HB:=n3_;clear n0_ n1_ n2_ n3_;(try clear hb);(try clear hkp);(try clear hy0)))
 go_ret
 exact ⟨z10_,z0_ HO0_1.out,z7_ HB.out GE883.out,z18_ HK.out GW883.out⟩


/-! ### Y16: function 115 -/
def Y16.l0:Nat→Int→ByteArray→Option (ByteArray)
 | 0,_,_=>none
 | k+1,x0,x3=>if x0>0 then ((some (([(wrap64 (48+(Int.tmod x0 10))) % 256]:List Int):List Int)).bind fun y886=>(if (strOfNums y886).size+x3.size≤9223372036854775807 then (Y16.l0 k (wrap64 (Int.tdiv x0 10)) ((strOfNums y886) ++ x3)) else (none))) else (if 1+x3.size≤9223372036854775807 then (some ((⟨#[109]⟩:ByteArray) ++ x3)) else (none))
def Y16.f (k:Nat) (a0:Int):Option (ByteArray):=if a0≤0 then (some (⟨#[109,48]⟩:ByteArray)) else (Y16.l0 k a0 (⟨#[]⟩:ByteArray))
theorem Y16.mono_l:∀ k,(∀ y0 y1,LeO (Y16.l0 k y0 y1) (Y16.l0 (k+1) y0 y1))
 | 0=>by intros <;> exact LeO.none _
 | k+1=>by
  have ih0:=Y16.mono_l k
  ·intros
   unfold Y16.l0
   exact mO
theorem Y16.mono:∀ a0 k,LeO (Y16.f k a0) (Y16.f (k+1) a0):=by
 intro a0 k
 have ih0:=Y16.mono_l k
 unfold Y16.f
 exact mO
theorem Y16.calls (k:Nat) (a0:Int) (r:ByteArray) (w:World) (h:Y16.f k a0=some r) :
  Calls Tryz.prog 115 #[.int .i64 a0] w fun e w'=>e = .returned (.string r)∧Below w.heap.size w w':=by
 have HB:=aM (Below.refl w.heap.size w)
 have H:(if a0≤0 then (some (⟨#[109,48]⟩:ByteArray)) else (Y16.l0 k a0 (⟨#[]⟩:ByteArray)))=some r:=h
 clear h
 by_cases c2:a0≤0
 ·rw [if_pos c2] at H
  have c2b0:decide (a0≤0)=true:=dE c2
  clear c2
  obtain rfl:=sI H
  go_enter Tryz.func115,Tryz.ntmps115
  go_wp2
  go_ret
  exact ⟨z10_,z3_ HB.out⟩
 ·rw [if_neg c2] at H
  have c2b0:decide (a0≤0)=false:=dF c2
  clear c2
  have H':=aM H
  clear H
  go_enter Tryz.func115,Tryz.ntmps115
  go_wp2
  go_loopg [0,3] k (fun kq v0 v3 w'=>∃ (x0_1:Int) (x3_1:ByteArray),v0 = .int .i64 x0_1∧v3 = .string x3_1∧Aside0 (Y16.l0 kq x0_1 x3_1=some r)∧Aside0 (kq≤k)∧Aside0 (Below w.heap.size w w'))
  case atStart=>exact ⟨(a0),((⟨#[]⟩:ByteArray)),(z1_),(z1_),H',⟨Nat.le_refl _⟩,⟨z3_ HB.out⟩⟩
  case round =>
   clear H'
   try clear c1
   try clear c2
   try clear c2b0
   try clear p2
   obtain ⟨x0_1,x3_1,rfl,rfl,HA,HK1,HB⟩:=hrel
   cases gk with
   | zero=>exact absurd HA.out (by simp [Y16.l0])
   | succ k1 =>
    have H:=HA.out
    clear HA
    simp only [Y16.l0] at H
    by_cases c3:x0_1>0
    ·rw [if_pos c3] at H
     have c3b0:decide (0<x0_1)=true:=dE c3
     clear c3
     obtain ⟨y886,hy886⟩:∃ y_:List Int,y_=(([(wrap64 (48+(Int.tmod x0_1 10))) % 256]:List Int)):=⟨_,rfl⟩
     replace H:(if (strOfNums y886).size+x3_1.size≤9223372036854775807 then (Y16.l0 k1 (wrap64 (Int.tdiv x0_1 10)) ((strOfNums y886) ++ x3_1)) else (none))=some r:=by first | (rw [hy886];with_reducible exact H) | (have H2_:=(Option.bind_some _ _).symm.trans H;rw [hy886];with_reducible exact H2_) | (have H2_:=(Option.bind_some _ _).symm.trans H;with_reducible exact H2_) | with_reducible exact H | (rw [hy886];exact H) | exact H
     have Ny886:=aM hy886
     clear hy886
     by_cases c4:(strOfNums y886).size+x3_1.size≤9223372036854775807
     ·rw [if_pos c4] at H
      have c4b0:=eq_true c4
      have c4b1:decide ((strOfNums y886).size+x3_1.size≤9223372036854775807)=true:=dE c4
      try have c4b2:(9223372036854775807<(strOfNums y886).size+x3_1.size)=False:=eq_false (Nat.not_lt.2 c4)
      have H':=aM H
      clear H
      go_wp2_with (first | ((with_reducible refine gd_ 12 ?_);refine Kd.R_lit (Kd.int .u8) _ 5 ?hg (N:=12) ?hd (xs:=([(wrap64 (48+(Int.tmod x0_1 10))) % 256]:List Int)) (inner:=[.int .u8 ((wrap64 (48+(Int.tmod x0_1 10))) % 256)]) (ok:=fun _=>True) (okp:=fun _=>True) ?hr ?hp (fun _ hk=>hk) trivial (Below.refl _ _) (Nat.le_refl _) (by simp) ?_;(case hd=>rfl);(case hg=>rfl);(case hr=>first | (go_simp;done) | (go_simp;rfl));(case hp=>exact (Reps.one (show Kd.M (Kd.int .u8) _ _ _ ((wrap64 (48+(Int.tmod x0_1 10))) % 256) [.int .u8 ((wrap64 (48+(Int.tmod x0_1 10))) % 256)] from rfl) (Reps.none _ _)));intro v887 w5 ho6 hb hg_ hnew_;clear hg_ hnew_;(first | rw [← Ny886.out] at ho6 | (simp only [Int.reduceToNat] at ho6;rw [← Ny886.out] at ho6));have n0_:=aM (Kd.R_lower ho6 (below_size (z3_ HB.out)));have n1_:=aM (below_step (z3_ HB.out) hb);clear HB;have HO888:=n0_;have HB:=n1_;clear n0_ n1_;clear hb ho6;have hcv7:=own_string (P:=Tryz.prog) Tryz.underlying22 Tryz.underlying5 Tryz.underlying9 (Kd.own_of_R HO888.out)))
      go_roundg k1
      case measure=>have:=HK1.out;omega
      case rel=>exact ⟨(wrap64 (Int.tdiv x0_1 10)),((strOfNums y886) ++ x3_1),(z1_),(z1_),H',⟨by have:=HK1.out;omega⟩,⟨z3_ HB.out⟩⟩
     ·rw [if_neg c4] at H
      exact nO H
    ·rw [if_neg c3] at H
     have c3b0:decide (0<x0_1)=false:=dF c3
     clear c3
     by_cases c8:1+x3_1.size≤9223372036854775807
     ·rw [if_pos c8] at H
      have c8b0:=eq_true c8
      have c8b1:decide (1+x3_1.size≤9223372036854775807)=true:=dE c8
      try have c8b2:(9223372036854775807<1+x3_1.size)=False:=eq_false (Nat.not_lt.2 c8)
      obtain rfl:=sI H
      go_wp2
      go_ret
      exact ⟨z10_,z3_ HB.out⟩
     ·rw [if_neg c8] at H
      exact nO H


/-! ### Y30: function 145 -/
def Y30.l0:Nat→Int→Int→Option (Int)
 | 0,_,_=>none
 | k+1,x1,x5=>if x5<0 then (none) else (some x1)
def Y30.f (k:Nat) (a0:Int) (a1:Int):Option (Int):=Y30.l0 k a1 0
theorem Y30.mono_l:∀ k,(∀ y0 y1,LeO (Y30.l0 k y0 y1) (Y30.l0 (k+1) y0 y1))
 | 0=>by intros <;> exact LeO.none _
 | k+1=>by
  have ih0:=Y30.mono_l k
  ·intros
   unfold Y30.l0
   exact mO
theorem Y30.mono:∀ a0 a1 k,LeO (Y30.f k a0 a1) (Y30.f (k+1) a0 a1):=by
 intro a0 a1 k
 have ih0:=Y30.mono_l k
 unfold Y30.f
 exact mO
theorem Y30.calls (k:Nat) (a0:Int) (a1:Int) (r:Int) (w:World) (h:Y30.f k a0 a1=some r) :
  Calls Tryz.prog 145 #[.slice none 0 0,.int .i64 a1] w fun e w'=>e = .returned (.int .i64 r)∧Drawn0 w w':=by
 have H:(Y30.l0 k a1 0)=some r:=h
 clear h
 have H':=aM H
 clear H
 go_enter Tryz.func145,Tryz.ntmps145
 go_wp2
 go_loopg [1,5] k (fun kq v1 v5 w'=>∃ (x1_1:Int) (x5_1:Int),v1 = .int .i64 x1_1∧v5 = .int .i64 x5_1∧Aside0 (Y30.l0 kq x1_1 x5_1=some r)∧Aside0 (kq≤k)∧Drawn0 w w')
 case atStart=>exact ⟨(a1),(0),(z1_),(z1_),H',⟨Nat.le_refl _⟩,z5_⟩
 case round =>
  clear H'
  try clear c1
  try clear p2
  obtain ⟨x1_1,x5_1,rfl,rfl,HA,HK1,⟨m1,rfl⟩⟩:=hrel
  cases gk with
  | zero=>exact absurd HA.out (by simp [Y30.l0])
  | succ k1 =>
   have H:=HA.out
   clear HA
   simp only [Y30.l0] at H
   by_cases c3:x5_1<0
   ·rw [if_pos c3] at H
    exact nO H
   ·rw [if_neg c3] at H
    have c3b0:decide (x5_1<0)=false:=dF c3
    clear c3
    obtain rfl:=sI H
    go_wp2
    go_ret
    exact ⟨z1_,z5_⟩


/-! ### Y19: function 114 -/
def Y19.l0:Nat→List (S115)→Int→Int→Option (Int × (List (S115)))
 | 0,_,_,_=>none
 | k+1,x0,x1,x5=>if x5<(x0.length:Int) then (if 0≤x5 then ((some (x0.set (x5:Int).toNat (⟨x1,(rd_T115 x0 x5).f1,(rd_T115 x0 x5).f2,(rd_T115 x0 x5).f3⟩:S115):List (S115))).bind fun y889=>((Y30.f k ((rd_T115 y889 x5).f1) (wrap64 (x1+1))).bind fun t891=>((Y16.f k t891).bind fun t892=>((some (y889.set (x5:Int).toNat (⟨(rd_T115 y889 x5).f0,(rd_T115 y889 x5).f1,t892,(rd_T115 y889 x5).f3⟩:S115):List (S115))).bind fun y893=>(Y19.l0 k (y893.set (x5:Int).toNat (⟨(rd_T115 y893 x5).f0,(rd_T115 y893 x5).f1,(rd_T115 y893 x5).f2,wrap64 (t891+1)⟩:S115)) (wrap64 ((wrap64 (t891+1))+1)) (wrap64 (x5+1))))))) else (none)) else (some (x1,x0))
def Y19.f (k:Nat) (l0:List (S115)) (a1:Int):Option (Int × (List (S115))):=Y19.l0 k l0 a1 0
theorem Y19.mono_l:∀ k,(∀ y0 y1 y2,LeO (Y19.l0 k y0 y1 y2) (Y19.l0 (k+1) y0 y1 y2))
 | 0=>by intros <;> exact LeO.none _
 | k+1=>by
  have ih0:=Y19.mono_l k
  have m0:=@Y30.mono
  have m1:=@Y16.mono
  ·intros
   unfold Y19.l0
   exact mO
theorem Y19.mono:∀ a0 a1 k,LeO (Y19.f k a0 a1) (Y19.f (k+1) a0 a1):=by
 intro a0 a1 k
 have m0:=@Y30.mono
 have m1:=@Y16.mono
 have ih0:=Y19.mono_l k
 unfold Y19.f
 exact mO
theorem Y19.calls (k:Nat) (P0_:Nat→Prop) (u9000_:Value) (l0:List (S115)) (a1:Int) (r1:Int) (r2:List (S115)) (w0 w:World) (hB:Below w0.heap.size w0 w) (ho0:Kd.R k115 115 w w0.heap.size P0_ u9000_ l0) (h:Y19.f k l0 a1=some (r1,r2)) :
  Calls Tryz.prog 114 #[u9000_,.int .i64 a1] w fun e w'=>e = .returned (.int .i64 r1)∧Kd.R k115 115 w' w0.heap.size (fun k_=>(P0_ k_∨w.heap.size≤k_)) u9000_ r2∧Below w0.heap.size w0 w'∧Kept w w' (fun k_=>P0_ k_):=by
 have HO0:=aM (show Kd.R k115 115 w w0.heap.size (fun k_=>(P0_ k_∨w.heap.size≤k_)) u9000_ l0 from Kd.R_mono ho0 (fun k_ hk=>(.inl hk)))
 have HK:=aM (Kept.refl w (fun k_=>P0_ k_))
 have HW0:=aM hB.size
 have HB:=aM hB
 clear hB
 have H:(Y19.l0 k l0 a1 0)=some (r1,r2):=h
 clear h
 have H':=aM H
 clear H
 go_enter Tryz.func114,Tryz.ntmps114
 go_wp2
 go_loopg [1,5] k (fun kq v1 v5 w'=>∃ (x0_1:List (S115)) (x1_1:Int) (x5_1:Int),v1 = .int .i64 x1_1∧v5 = .int .i64 x5_1∧Aside0 (Y19.l0 kq x0_1 x1_1 x5_1=some (r1,r2))∧Aside0 (kq≤k)∧Aside0 (Kd.R k115 115 w' w0.heap.size (fun k_=>(P0_ k_∨w.heap.size≤k_)) u9000_ x0_1)∧Aside0 (Kept w w' (fun k_=>P0_ k_))∧Aside0 (Below w0.heap.size w0 w'))
 case atStart=>exact ⟨(l0),(a1),(0),(z1_),(z1_),H',⟨Nat.le_refl _⟩,⟨z0_ HO0.out⟩,⟨z6_ HK.out⟩,⟨z3_ HB.out⟩⟩
 case round =>
  clear H'
  try clear c1
  try clear p2
  obtain ⟨x0_1,x1_1,x5_1,rfl,rfl,HA,HK1,HO_0,HK,HB⟩:=hrel
  cases gk with
  | zero=>exact absurd HA.out (by simp [Y19.l0])
  | succ k1 =>
   have H:=HA.out
   clear HA
   simp only [Y19.l0] at H
   by_cases c3:x5_1<(x0_1.length:Int)
   ·rw [if_pos c3] at H
    have c3b0:decide (x5_1<(x0_1.length:Int))=true:=dE c3
    clear c3
    by_cases c4:0≤x5_1
    ·rw [if_pos c4] at H
     have c4b0:decide (0≤x5_1)=true:=dE c4
     clear c4
     obtain ⟨y889,hy889⟩:∃ y_:List (S115),y_=(x0_1.set (x5_1:Int).toNat (⟨x1_1,(rd_T115 x0_1 x5_1).f1,(rd_T115 x0_1 x5_1).f2,(rd_T115 x0_1 x5_1).f3⟩:S115)):=⟨_,rfl⟩
     replace H:((Y30.f k1 ((rd_T115 y889 x5_1).f1) (wrap64 (x1_1+1))).bind fun t891=>((Y16.f k1 t891).bind fun t892=>((some (y889.set (x5_1:Int).toNat (⟨(rd_T115 y889 x5_1).f0,(rd_T115 y889 x5_1).f1,t892,(rd_T115 y889 x5_1).f3⟩:S115):List (S115))).bind fun y893=>(Y19.l0 k1 (y893.set (x5_1:Int).toNat (⟨(rd_T115 y893 x5_1).f0,(rd_T115 y893 x5_1).f1,(rd_T115 y893 x5_1).f2,wrap64 (t891+1)⟩:S115)) (wrap64 ((wrap64 (t891+1))+1)) (wrap64 (x5_1+1))))))=some (r1,r2):=by first | (rw [hy889];with_reducible exact H) | (have H2_:=(Option.bind_some _ _).symm.trans H;rw [hy889];with_reducible exact H2_) | (have H2_:=(Option.bind_some _ _).symm.trans H;with_reducible exact H2_) | with_reducible exact H | (rw [hy889];exact H) | exact H
     have Ny889:=aM hy889
     clear hy889
     replace H:=bS H
     obtain ⟨t891,A60,H⟩:=H
     replace H:((Y16.f k1 t891).bind fun t892=>((some (y889.set (x5_1:Int).toNat (⟨(rd_T115 y889 x5_1).f0,(rd_T115 y889 x5_1).f1,t892,(rd_T115 y889 x5_1).f3⟩:S115):List (S115))).bind fun y893=>(Y19.l0 k1 (y893.set (x5_1:Int).toNat (⟨(rd_T115 y893 x5_1).f0,(rd_T115 y893 x5_1).f1,(rd_T115 y893 x5_1).f2,wrap64 (t891+1)⟩:S115)) (wrap64 ((wrap64 (t891+1))+1)) (wrap64 (x5_1+1)))))=some (r1,r2):=H
     have A6:=aM A60
     clear A60
     replace H:=bS H
     obtain ⟨t892,A70,H⟩:=H
     replace H:((some (y889.set (x5_1:Int).toNat (⟨(rd_T115 y889 x5_1).f0,(rd_T115 y889 x5_1).f1,t892,(rd_T115 y889 x5_1).f3⟩:S115):List (S115))).bind fun y893=>(Y19.l0 k1 (y893.set (x5_1:Int).toNat (⟨(rd_T115 y893 x5_1).f0,(rd_T115 y893 x5_1).f1,(rd_T115 y893 x5_1).f2,wrap64 (t891+1)⟩:S115)) (wrap64 ((wrap64 (t891+1))+1)) (wrap64 (x5_1+1))))=some (r1,r2):=H
     have A7:=aM A70
     clear A70
     obtain ⟨y893,hy893⟩:∃ y_:List (S115),y_=(y889.set (x5_1:Int).toNat (⟨(rd_T115 y889 x5_1).f0,(rd_T115 y889 x5_1).f1,t892,(rd_T115 y889 x5_1).f3⟩:S115)):=⟨_,rfl⟩
     replace H:(Y19.l0 k1 (y893.set (x5_1:Int).toNat (⟨(rd_T115 y893 x5_1).f0,(rd_T115 y893 x5_1).f1,(rd_T115 y893 x5_1).f2,wrap64 (t891+1)⟩:S115)) (wrap64 ((wrap64 (t891+1))+1)) (wrap64 (x5_1+1)))=some (r1,r2):=by first | (rw [hy893];with_reducible exact H) | (have H2_:=(Option.bind_some _ _).symm.trans H;rw [hy893];with_reducible exact H2_) | (have H2_:=(Option.bind_some _ _).symm.trans H;with_reducible exact H2_) | with_reducible exact H | (rw [hy893];exact H) | exact H
     have Ny893:=aM hy893
     clear hy893
     obtain ⟨y894,hy894⟩:∃ y_:List (S115),y_=(y893.set (x5_1:Int).toNat (⟨(rd_T115 y893 x5_1).f0,(rd_T115 y893 x5_1).f1,(rd_T115 y893 x5_1).f2,wrap64 (t891+1)⟩:S115)):=⟨_,rfl⟩
     replace H:(Y19.l0 k1 y894 (wrap64 ((wrap64 (t891+1))+1)) (wrap64 (x5_1+1)))=some (r1,r2):=by first | (rw [hy894];with_reducible exact H) | (have H2_:=(Option.bind_some _ _).symm.trans H;rw [hy894];with_reducible exact H2_) | (have H2_:=(Option.bind_some _ _).symm.trans H;with_reducible exact H2_) | with_reducible exact H | (rw [hy894];exact H) | exact H
     have Ny894:=aM hy894
     clear hy894
     have H':=aM H
     clear H
     obtain ⟨Ao10,co10,eo10⟩:=Kd.R_slice HO_0.out
     subst eo10
     have p5:0≤(x5_1:Int):=dT (z2_)
     have q5:(x5_1:Int)<((x0_1.length:Int):Int):=dT (z2_)
     obtain ⟨go5,co5,eo5,gb5,gl5,cl5,HG5⟩:=Kd.R_form HO_0.out (by omega)
     (first | cases eo5 | (injection eo5 with ea_ en_ ec_;(first | subst ea_ | (injection ea_ with ea_;subst ea_));subst ec_;clear en_))
     have GB5:=aM gb5
     have GG5:=aM HG5
     clear gb5 gl5 HG5
     have HMgo5:=aM (show (P0_ go5∨w.heap.size≤go5) from (HO_0.out.1 _ rfl))
     obtain ⟨ce5,hcl5,hM5,hcc5,hfr5⟩:=Kd.R_elem HO_0.out z115 (x5_1:Int) p5 q5
     obtain rfl:=k115_openM hM5
     have hx5_0:wr.cell? ⟨go5,(x5_1:Int).toNat*4,none⟩=some (.int .i64 ((rd_T115 x0_1 x5_1).f0)):=hcc5 0 _ rfl
     have hx5_1:wr.cell? ⟨go5,(x5_1:Int).toNat*4+1,none⟩=some (.slice none 0 0):=hcc5 1 _ rfl
     have hx5_2:wr.cell? ⟨go5,(x5_1:Int).toNat*4+2,none⟩=some (.string ((rd_T115 x0_1 x5_1).f2)):=hcc5 2 _ rfl
     have hx5_3:wr.cell? ⟨go5,(x5_1:Int).toNat*4+3,none⟩=some (.int .i64 ((rd_T115 x0_1 x5_1).f3)):=hcc5 3 _ rfl
     have hf5_0:wr.frozen? ⟨go5,(x5_1:Int).toNat*4,none⟩=false:=hfr5 0
     have hf5_1:wr.frozen? ⟨go5,(x5_1:Int).toNat*4+1,none⟩=false:=hfr5 1
     have hf5_2:wr.frozen? ⟨go5,(x5_1:Int).toNat*4+2,none⟩=false:=hfr5 2
     have hf5_3:wr.frozen? ⟨go5,(x5_1:Int).toNat*4+3,none⟩=false:=hfr5 3
     clear hcl5 hcc5 hfr5 hM5
     replace p5:=eq_true p5
     replace q5:=eq_true q5
     have HX11:=aM (show Kd.R k115 115 wr w0.heap.size (fun k_=>(P0_ k_∨w.heap.size≤k_)) (.slice (some ⟨go5,0,none⟩) x0_1.length co10) x0_1 from (z0_ HO_0.out))
     obtain ⟨ce11,hcl11,hM11,hcc11,hfr11⟩:=Kd.R_elem HX11.out z115 (x5_1:Int) (dT (z2_)) (z19_ HO_0.out)
     obtain rfl:=k115_openM hM11
     have HP11:=Kd.R_seg HX11.out (x5_1:Int) (dT (z2_)) (z19_ HO_0.out) (seg:=[.int .i64 x1_1]) (j:=0) hcl11 hcc11 (show 1≤4 from by decide) (x':=(⟨x1_1,(rd_T115 x0_1 x5_1).f1,(rd_T115 x0_1 x5_1).f2,(rd_T115 x0_1 x5_1).f3⟩:S115)) (k115_mkM _ _ _ (⟨x1_1,(rd_T115 x0_1 x5_1).f1,(rd_T115 x0_1 x5_1).f2,(rd_T115 x0_1 x5_1).f3⟩:S115) ) (fun _ hk=>hk)
     have hx11_0:=hcc11 0 _ rfl
     (try simp only [show (k115).sz=4 from rfl,Nat.mul_one,Nat.add_zero] at hx11_0)
     have hf11_0:=hfr11 0
     (try simp only [show (k115).sz=4 from rfl,Nat.mul_one,Nat.add_zero] at hf11_0)
     clear hcl11 hcc11 hfr11 hM11
     go_wp2_with (first | ((with_reducible refine gate_store (t:=2) (p:=16) rfl ?_);refine store_event (t:=2) (p:=16) (v:=?vo_w12) (w1:=(wr.setCell ⟨go5,(x5_1:Int).toNat*4,none⟩ (.int .i64 x1_1))) ?hg ?ho ?hn ?hr ?_;(case ho=>rfl);(case hg=>rfl);(case hn=>rfl);(case hr=>first | (go_simp;done) | (go_simp;rfl));intro w12 hw;have hg:wr.grownBy w12 (some go5):=(by rw [hw];exact HP11.2);have hp_:Kd.R k115 115 w12 w0.heap.size (fun k_=>(P0_ k_∨w.heap.size≤k_)) (.slice (some ⟨go5,0,none⟩) x0_1.length co10) y889:=(by rw [hw,Ny889.out];exact HP11.1);clear HP11;have n0_:=aM (hp_);have n1_:=aM ((by rw [hw];exact below_set (HB.out) GB5.out:Below w0.heap.size w0 w12));have n2_:=aM (Kept.of_grown (S:=(fun k_=>P0_ k_)) hg (z6_ HK.out) (fun k_ e_=>(HO_0.out.1 k_ e_)));clear HO_0;clear HB;clear HK;have HO_0:=n0_;have HB:=n1_;have HK:=n2_;clear n0_ n1_ n2_;clear hg hw hp_;have p890:0≤(x5_1:Int):=dT (z2_);have q890:x5_1<(y889.length:Int):=(by have h_:(x5_1:Int)<((x0_1.length:Int):Int):=dT (by first | (with_reducible assumption) | assumption);first | (have e_:=(Kd.R_reads' HO_0.out).1;omega) | simpa only [Ny889.out,List.length_set] using h_);have ql890:((x5_1:Int)<((x0_1.length:Int):Int))=True:=eq_true (dT (z2_));obtain ⟨ad890,e890,hx890_0,hx890_1,hx890_2,hx890_3⟩:=at_T115 (Kd.R_reads' HO_0.out).2.2 x5_1 p890 q890;obtain rfl:(⟨go5,0,none⟩:Addr)=ad890:=(by injection e890);(first | simp only [add_plain] at hx890_0 | simp only [add_at] at hx890_0 | simp only [Addr.add,Nat.zero_add] at hx890_0 | skip);(first | simp only [add_plain] at hx890_1 | simp only [add_at] at hx890_1 | simp only [Addr.add,Nat.zero_add] at hx890_1 | skip);(first | simp only [add_plain] at hx890_2 | simp only [add_at] at hx890_2 | simp only [Addr.add,Nat.zero_add] at hx890_2 | skip);(first | simp only [add_plain] at hx890_3 | simp only [add_at] at hx890_3 | simp only [Addr.add,Nat.zero_add] at hx890_3 | skip);replace p890:=eq_true p890;replace q890:=eq_true q890) | ((with_reducible refine gc_ 145 ?_);refine gl_ (some 25) Tryz.func145 #[.slice none 0 0,.int .i64 (wrap64 (x1_1+1))] ?_;(with_reducible refine (Y30.calls k1 ((rd_T115 y889 x5_1).f1) (wrap64 (x1_1+1)) t891 _ A6.out).mono ?_);rintro e w' ⟨rfl,⟨nd,rfl⟩⟩;refine ⟨_,rfl,?_⟩;(try (rw [drewN_self w12];generalize hq_:World.drewN w12 _=w12;have n0_:Aside0 (Kd.R k115 115 w12 w0.heap.size (fun k_=>(P0_ k_∨w.heap.size≤k_)) (.slice (some ⟨go5,0,none⟩) x0_1.length co10) y889):=⟨by rw [← hq_];exact (by (with_reducible repeat (first | apply Kd.R_alloc | apply Kd.R_drewN | apply Kd.R_drew));exact HO_0.out)⟩;have n1_:Aside0 (Kept w w12 (fun k_=>P0_ k_)):=⟨by rw [← hq_];exact (by repeat (first | (with_reducible first | exact HK.out | apply Kept.alloc | apply Kept.drewN | apply Kept.drew) | exact HK.out))⟩;have n2_:Aside0 (Below w0.heap.size w0 w12):=⟨by rw [← hq_];exact (by repeat (first | (with_reducible first | exact HB.out | apply below_alloc | apply pw_below_drewN | apply below_drew1) | exact HB.out))⟩;clear HO_0 HK HB hq_;have HO_0:=n0_;have HK:=n1_;have HB:=n2_;clear n0_ n1_ n2_))) | ((with_reducible refine gc_ 115 ?_);refine gl_ (some 29) Tryz.func115 #[.int .i64 t891] ?_;(with_reducible refine (Y16.calls k1 t891 t892 _ A7.out).mono ?_);rintro e w13 ⟨rfl,hb⟩;refine ⟨_,rfl,?_⟩;have n0_:=aM (Kd.R_below (z0_ HO_0.out) hb);have n1_:=aM (Kept.below (S:=(fun k_=>P0_ k_)) (z6_ HK.out) hb);have n2_:=aM (below_step (z3_ HB.out) hb);clear HO_0;clear HK;clear HB;have HO_0:=n0_;have HK:=n1_;have HB:=n2_;clear n0_ n1_ n2_;(try clear hb);have p8:0≤(x5_1:Int):=dT (z2_);have q8:(x5_1:Int)<((x0_1.length:Int):Int):=dT (z2_);obtain ⟨ce8,hcl8,hM8,hcc8,hfr8⟩:=Kd.R_elem HO_0.out z115 (x5_1:Int) p8 q8;obtain rfl:=k115_openM hM8;have hx8_0:w13.cell? ⟨go5,(x5_1:Int).toNat*4,none⟩=some (.int .i64 ((rd_T115 y889 x5_1).f0)):=hcc8 0 _ rfl;have hx8_1:w13.cell? ⟨go5,(x5_1:Int).toNat*4+1,none⟩=some (.slice none 0 0):=hcc8 1 _ rfl;have hx8_2:w13.cell? ⟨go5,(x5_1:Int).toNat*4+2,none⟩=some (.string ((rd_T115 y889 x5_1).f2)):=hcc8 2 _ rfl;have hx8_3:w13.cell? ⟨go5,(x5_1:Int).toNat*4+3,none⟩=some (.int .i64 ((rd_T115 y889 x5_1).f3)):=hcc8 3 _ rfl;have hf8_0:w13.frozen? ⟨go5,(x5_1:Int).toNat*4,none⟩=false:=hfr8 0;have hf8_1:w13.frozen? ⟨go5,(x5_1:Int).toNat*4+1,none⟩=false:=hfr8 1;have hf8_2:w13.frozen? ⟨go5,(x5_1:Int).toNat*4+2,none⟩=false:=hfr8 2;have hf8_3:w13.frozen? ⟨go5,(x5_1:Int).toNat*4+3,none⟩=false:=hfr8 3;clear hcl8 hcc8 hfr8 hM8;replace p8:=eq_true p8;replace q8:=eq_true q8;have HX14:=aM (show Kd.R k115 115 w13 w0.heap.size (fun k_=>(P0_ k_∨w.heap.size≤k_)) (.slice (some ⟨go5,0,none⟩) x0_1.length co10) y889 from (z0_ HO_0.out));obtain ⟨ce14,hcl14,hM14,hcc14,hfr14⟩:=Kd.R_elem HX14.out z115 (x5_1:Int) (dT (z2_)) (z19_ HO_0.out);obtain rfl:=k115_openM hM14;have HP14:=Kd.R_seg HX14.out (x5_1:Int) (dT (z2_)) (z19_ HO_0.out) (seg:=[.string t892]) (j:=2) hcl14 hcc14 (show 3≤4 from by decide) (x':=(⟨(rd_T115 y889 x5_1).f0,(rd_T115 y889 x5_1).f1,t892,(rd_T115 y889 x5_1).f3⟩:S115)) (k115_mkM _ _ _ (⟨(rd_T115 y889 x5_1).f0,(rd_T115 y889 x5_1).f1,t892,(rd_T115 y889 x5_1).f3⟩:S115) ) (fun _ hk=>hk);have hx14_2:=hcc14 2 _ rfl;(try simp only [show (k115).sz=4 from rfl,Nat.mul_one,Nat.add_zero] at hx14_2);have hf14_2:=hfr14 2;(try simp only [show (k115).sz=4 from rfl,Nat.mul_one,Nat.add_zero] at hf14_2);clear hcl14 hcc14 hfr14 hM14) | ((with_reducible refine gate_store (t:=9) (p:=31) rfl ?_);refine store_event (t:=9) (p:=31) (v:=?vo_w15) (w1:=(w13.setCell ⟨go5,(x5_1:Int).toNat*4+2,none⟩ (.string t892))) ?hg ?ho ?hn ?hr ?_;(case ho=>rfl);(case hg=>rfl);(case hn=>rfl);(case hr=>first | (go_simp;done) | (go_simp;rfl));intro w15 hw;have hg:w13.grownBy w15 (some go5):=(by rw [hw];exact HP14.2);have hp_:Kd.R k115 115 w15 w0.heap.size (fun k_=>(P0_ k_∨w.heap.size≤k_)) (.slice (some ⟨go5,0,none⟩) x0_1.length co10) y893:=(by rw [hw,Ny893.out];exact HP14.1);clear HP14;have n0_:=aM (hp_);have n1_:=aM ((by rw [hw];exact below_set (HB.out) GB5.out:Below w0.heap.size w0 w15));have n2_:=aM (Kept.of_grown (S:=(fun k_=>P0_ k_)) hg (z6_ HK.out) (fun k_ e_=>(HO_0.out.1 k_ e_)));clear HO_0;clear HB;clear HK;have HO_0:=n0_;have HB:=n1_;have HK:=n2_;clear n0_ n1_ n2_;clear hg hw hp_;have p9:0≤(x5_1:Int):=dT (z2_);have q9:(x5_1:Int)<((x0_1.length:Int):Int):=dT (z2_);obtain ⟨ce9,hcl9,hM9,hcc9,hfr9⟩:=Kd.R_elem HO_0.out z115 (x5_1:Int) p9 q9;obtain rfl:=k115_openM hM9;have hx9_0:w15.cell? ⟨go5,(x5_1:Int).toNat*4,none⟩=some (.int .i64 ((rd_T115 y893 x5_1).f0)):=hcc9 0 _ rfl;have hx9_1:w15.cell? ⟨go5,(x5_1:Int).toNat*4+1,none⟩=some (.slice none 0 0):=hcc9 1 _ rfl;have hx9_2:w15.cell? ⟨go5,(x5_1:Int).toNat*4+2,none⟩=some (.string ((rd_T115 y893 x5_1).f2)):=hcc9 2 _ rfl;have hx9_3:w15.cell? ⟨go5,(x5_1:Int).toNat*4+3,none⟩=some (.int .i64 ((rd_T115 y893 x5_1).f3)):=hcc9 3 _ rfl;have hf9_0:w15.frozen? ⟨go5,(x5_1:Int).toNat*4,none⟩=false:=hfr9 0;have hf9_1:w15.frozen? ⟨go5,(x5_1:Int).toNat*4+1,none⟩=false:=hfr9 1;have hf9_2:w15.frozen? ⟨go5,(x5_1:Int).toNat*4+2,none⟩=false:=hfr9 2;have hf9_3:w15.frozen? ⟨go5,(x5_1:Int).toNat*4+3,none⟩=false:=hfr9 3;clear hcl9 hcc9 hfr9 hM9;replace p9:=eq_true p9;replace q9:=eq_true q9;have HX16:=aM (show Kd.R k115 115 w15 w0.heap.size (fun k_=>(P0_ k_∨w.heap.size≤k_)) (.slice (some ⟨go5,0,none⟩) x0_1.length co10) y893 from (z0_ HO_0.out));obtain ⟨ce16,hcl16,hM16,hcc16,hfr16⟩:=Kd.R_elem HX16.out z115 (x5_1:Int) (dT (z2_)) (z19_ HO_0.out);obtain rfl:=k115_openM hM16;have HP16:=Kd.R_seg HX16.out (x5_1:Int) (dT (z2_)) (z19_ HO_0.out) (seg:=[.int .i64 (wrap64 (t891+1))]) (j:=3) hcl16 hcc16 (show 4≤4 from by decide) (x':=(⟨(rd_T115 y893 x5_1).f0,(rd_T115 y893 x5_1).f1,(rd_T115 y893 x5_1).f2,wrap64 (t891+1)⟩:S115)) (k115_mkM _ _ _ (⟨(rd_T115 y893 x5_1).f0,(rd_T115 y893 x5_1).f1,(rd_T115 y893 x5_1).f2,wrap64 (t891+1)⟩:S115) ) (fun _ hk=>hk);have hx16_3:=hcc16 3 _ rfl;(try simp only [show (k115).sz=4 from rfl,Nat.mul_one,Nat.add_zero] at hx16_3);have hf16_3:=hfr16 3;(try simp only [show (k115).sz=4 from rfl,Nat.mul_one,Nat.add_zero] at hf16_3);clear hcl16 hcc16 hfr16 hM16) | ((with_reducible refine gate_store (t:=2) (p:=38) rfl ?_);refine store_event (t:=2) (p:=38) (v:=?vo_w17) (w1:=(w15.setCell ⟨go5,(x5_1:Int).toNat*4+3,none⟩ (.int .i64 (wrap64 (t891+1))))) ?hg ?ho ?hn ?hr ?_;(case ho=>rfl);(case hg=>rfl);(case hn=>rfl);(case hr=>first | (go_simp;done) | (go_simp;rfl));intro w17 hw;have hg:w15.grownBy w17 (some go5):=(by rw [hw];exact HP16.2);have hp_:Kd.R k115 115 w17 w0.heap.size (fun k_=>(P0_ k_∨w.heap.size≤k_)) (.slice (some ⟨go5,0,none⟩) x0_1.length co10) y894:=(by rw [hw,Ny894.out];exact HP16.1);clear HP16;have n0_:=aM (hp_);have n1_:=aM ((by rw [hw];exact below_set (HB.out) GB5.out:Below w0.heap.size w0 w17));have n2_:=aM (Kept.of_grown (S:=(fun k_=>P0_ k_)) hg (z6_ HK.out) (fun k_ e_=>(HO_0.out.1 k_ e_)));clear HO_0;clear HB;clear HK;have HO_0:=n0_;have HB:=n1_;have HK:=n2_;clear n0_ n1_ n2_;clear hg hw hp_))
     go_roundg k1
     case measure=>have:=HK1.out;omega
     case rel=>exact ⟨(y894),(wrap64 ((wrap64 (t891+1))+1)),(wrap64 (x5_1+1)),(z1_),(z1_),H',⟨by have:=HK1.out;omega⟩,⟨z0_ HO_0.out⟩,⟨z6_ HK.out⟩,⟨z3_ HB.out⟩⟩
    ·rw [if_neg c4] at H
     exact nO H
   ·rw [if_neg c3] at H
    have c3b0:decide (x5_1<(x0_1.length:Int))=false:=dF c3
    clear c3
    simp only [Option.some.injEq,Prod.mk.injEq] at H
    obtain ⟨rfl,rfl⟩:=H
    obtain ⟨Ao18,co18,eo18⟩:=Kd.R_slice HO_0.out
    subst eo18
    go_wp2
    go_ret
    exact ⟨z10_,z0_ HO_0.out,z3_ HB.out,z6_ HK.out⟩


/-! ### Y61: function 87 -/
def Y61.f (k:Nat) (a0_0:Int) (l0_1:List (S78)) (l0_2:List (S115)) (l0_3:List Int) (a0_4:Int) (a0_5:Int) (a0_6:Int) (a1:Int):Option (Int × (List (S78)) × (List (S115)) × List Int):=(Y71.f k a0_0 l0_1 a1).bind fun bt896=>((Y19.f k l0_2 bt896.1).bind fun bt898=>((Y17.f k l0_3 bt898.1).bind fun bt900=>(some (bt900.1,bt896.2,bt898.2,bt900.2))))
theorem Y61.mono:∀ a0 a1 a2 a3 a4 a5 a6 a7 k,LeO (Y61.f k a0 a1 a2 a3 a4 a5 a6 a7) (Y61.f (k+1) a0 a1 a2 a3 a4 a5 a6 a7):=by
 intro a0 a1 a2 a3 a4 a5 a6 a7 k
 have m0:=@Y17.mono
 have m1:=@Y71.mono
 have m2:=@Y19.mono
 unfold Y61.f
 exact mO
theorem Y61.calls (k:Nat) (a0_0:Int) (P0_1_:Nat→Prop) (u9000_:Value) (l0_1:List (S78)) (P0_2_:Nat→Prop) (u9001_:Value) (l0_2:List (S115)) (P0_3_:Nat→Prop) (u9002_:Value) (l0_3:List Int) (a0_4:Int) (a0_5:Int) (a0_6:Int) (a1:Int) (r1:Int) (r2:List (S78)) (r3:List (S115)) (r4:List Int) (w0 w:World) (hB:Below w0.heap.size w0 w) (ho0_1:Kd.R k78 78 w w0.heap.size P0_1_ u9000_ l0_1) (ho0_2:Kd.R k115 115 w w0.heap.size P0_2_ u9001_ l0_2) (ho0_3:Kd.R (Kd.int .i64) 2 w w0.heap.size P0_3_ u9002_ l0_3) (h:Y61.f k a0_0 l0_1 l0_2 l0_3 a0_4 a0_5 a0_6 a1=some (r1,r2,r3,r4)) :
  Calls Tryz.prog 87 #[.agg #[.int .i64 a0_0,u9000_,u9001_,u9002_,.int .i64 a0_4,.int .i64 a0_5,.int .i64 a0_6],.int .i64 a1] w fun e w'=>e = .returned (.int .i64 r1)∧Kd.R k78 78 w' w0.heap.size (fun k_=>((P0_1_ k_∨P0_2_ k_∨P0_3_ k_)∨w.heap.size≤k_)) u9000_ r2∧Kd.R k115 115 w' w0.heap.size (fun k_=>((P0_1_ k_∨P0_2_ k_∨P0_3_ k_)∨w.heap.size≤k_)) u9001_ r3∧Kd.R (Kd.int .i64) 2 w' w0.heap.size (fun k_=>((P0_1_ k_∨P0_2_ k_∨P0_3_ k_)∨w.heap.size≤k_)) u9002_ r4∧Below w0.heap.size w0 w'∧Kept w w' (fun k_=>P0_1_ k_∨P0_2_ k_∨P0_3_ k_):=by
 have hu50:=Tryz.underlying50
 have hu27:=Tryz.underlying27
 have HO0_1:=aM (show Kd.R k78 78 w w0.heap.size (fun k_=>((P0_1_ k_∨P0_2_ k_∨P0_3_ k_)∨w.heap.size≤k_)) u9000_ l0_1 from Kd.R_mono ho0_1 (fun k_ hk=>(.inl (.inl hk))))
 have HO0_2:=aM (show Kd.R k115 115 w w0.heap.size (fun k_=>((P0_1_ k_∨P0_2_ k_∨P0_3_ k_)∨w.heap.size≤k_)) u9001_ l0_2 from Kd.R_mono ho0_2 (fun k_ hk=>(.inl (.inr (.inl hk)))))
 have HO0_3:=aM (show Kd.R (Kd.int .i64) 2 w w0.heap.size (fun k_=>((P0_1_ k_∨P0_2_ k_∨P0_3_ k_)∨w.heap.size≤k_)) u9002_ l0_3 from Kd.R_mono ho0_3 (fun k_ hk=>(.inl (.inr (.inr hk)))))
 have HK:=aM (Kept.refl w (fun k_=>P0_1_ k_∨P0_2_ k_∨P0_3_ k_))
 have HW0:=aM hB.size
 have HB:=aM hB
 clear hB
 have H:((Y71.f k a0_0 l0_1 a1).bind fun bt896=>((Y19.f k l0_2 bt896.1).bind fun bt898=>((Y17.f k l0_3 bt898.1).bind fun bt900=>(some (bt900.1,bt896.2,bt898.2,bt900.2)))))=some (r1,r2,r3,r4):=h
 clear h
 replace H:=bS H
 obtain ⟨⟨t896,t897⟩,A30,H⟩:=H
 replace H:((Y19.f k l0_2 t896).bind fun bt898=>((Y17.f k l0_3 bt898.1).bind fun bt900=>(some (bt900.1,t897,bt898.2,bt900.2))))=some (r1,r2,r3,r4):=H
 have A3:=aM A30
 clear A30
 replace H:=bS H
 obtain ⟨⟨t898,t899⟩,A40,H⟩:=H
 replace H:((Y17.f k l0_3 t898).bind fun bt900=>(some (bt900.1,t897,t899,bt900.2)))=some (r1,r2,r3,r4):=H
 have A4:=aM A40
 clear A40
 replace H:=bS H
 obtain ⟨⟨t900,t901⟩,A50,H⟩:=H
 replace H:(some (t900,t897,t899,t901))=some (r1,r2,r3,r4):=H
 have A5:=aM A50
 clear A50
 simp only [Option.some.injEq,Prod.mk.injEq] at H
 obtain ⟨rfl,rfl,rfl,rfl⟩:=H
 obtain ⟨Ao6,co6,eo6⟩:=Kd.R_slice HO0_1.out
 subst eo6
 obtain ⟨Ao7,co7,eo7⟩:=Kd.R_slice HO0_2.out
 subst eo7
 obtain ⟨Ao8,co8,eo8⟩:=Kd.R_slice HO0_3.out
 subst eo8
 go_enter Tryz.func87,Tryz.ntmps87
 go_wp2_with (first | ((with_reducible refine gd_ 2 ?_);refine be_ 2 #[.int .i64 a0_0,.slice Ao6 l0_1.length co6,.slice Ao7 l0_2.length co7,.slice Ao8 l0_3.length co8,.int .i64 a0_4,.int .i64 a0_5,.int .i64 a0_6] 50 ?_;intro gb895 hg w9 hbox hb;have n0_:=aM (Kd.R_below (z0_ HO0_1.out) hb);have n1_:=aM (Kd.R_below (z0_ HO0_2.out) hb);have n2_:=aM (Kd.R_below (z0_ HO0_3.out) hb);have n3_:=aM (Kept.below (S:=(fun k_=>P0_1_ k_∨P0_2_ k_∨P0_3_ k_)) (z6_ HK.out) hb);have n4_:=aM (below_step (z3_ HB.out) hb);have n5_:=aM (hbox);have n6_:=aM ((by rw [hg];exact (by first | exact HK.out.1 | exact (show Kept w _ (fun k_=>P0_1_ k_∨P0_2_ k_∨P0_3_ k_) from by repeat (first | (with_reducible first | exact HK.out | apply Kept.alloc | apply Kept.drewN | apply Kept.drew) | exact HK.out)).1):w.heap.size≤gb895));have n7_:=aM ((z9_ HB.out:w0.heap.size≤gb895));clear HO0_1;clear HO0_2;clear HO0_3;clear HK;clear HB;have HO0_1:=n0_;have HO0_2:=n1_;have HO0_3:=n2_;have HK:=n3_;have HB:=n4_;have BK895:=n5_;have GW895:=n6_;have GE895:=n7_;clear n0_ n1_ n2_ n3_ n4_ n5_ n6_ n7_;clear hb hbox hg;have ⟨hcz10_0,hcz10_1,hcz10_2,hcz10_3,hcz10_4,hcz10_5,hcz10_6,hfz10_0,hfz10_1,hfz10_2,hfz10_3,hfz10_4,hfz10_5,hfz10_6⟩:=cz7_ BK895.out) | ((with_reducible refine gc_ 113 ?_);refine gl_ (some 8) Tryz.func113 #[.agg #[.int .i64 a0_0,.slice Ao6 l0_1.length co6],.int .i64 a1] ?_;(with_reducible refine (Y71.calls k a0_0 (fun k_=>some k_=(.slice Ao6 l0_1.length co6:Value).ownBlock) (.slice Ao6 l0_1.length co6) l0_1 a1 t896 t897 w0 _ ?s1 ?s2 A3.out).mono ?_);(case s1=>repeat (first | (with_reducible first | exact HB.out | apply below_alloc | apply pw_below_drewN | apply below_drew1 | refine below_set ?_ GE895.out) | exact HB.out));(case s2=>exact Kd.R_tight rfl HO0_1.out);rintro e w11 ⟨rfl,hy0,hb,hkp⟩;refine ⟨_,rfl,?_⟩;have n0_:=aM (Kd.R_reok rfl hy0 (fun k_ e_=>HO0_1.out.1 k_ e_));have n1_:=aM (Kd.R_mono (ok':=fun k_=>((P0_1_ k_∨P0_2_ k_∨P0_3_ k_)∨w.heap.size≤k_)) (Kd.R_keptB ((Kd.R_apart' HO0_2.out (Kd.R_typed HO0_1.out) (by decide))) hkp (fun k_ hk_ hs_=>(hk_.2) hs_)) (fun k_ hk_=>hk_.1.1));have n2_:=aM (Kd.R_mono (ok':=fun k_=>((P0_1_ k_∨P0_2_ k_∨P0_3_ k_)∨w.heap.size≤k_)) (Kd.R_keptB ((Kd.R_apart' HO0_3.out (Kd.R_typed HO0_1.out) (by decide))) hkp (fun k_ hk_ hs_=>(hk_.2) hs_)) (fun k_ hk_=>hk_.1.1));have n3_:=aM (blk_kept (z4_ BK895.out) hkp (fun hs_=>(fun e_=>(Kd.R_ne HO0_1.out BK895.out (by decide)) e_) hs_));have n4_:=aM (Kept.then_ (S:=(fun k_=>P0_1_ k_∨P0_2_ k_∨P0_3_ k_)) (z18_ HK.out GW895.out) hkp (fun k_ hs_=>(fun e_=>(HO0_1.out.1 k_ e_.symm)) hs_));have n5_:=aM (hb);clear HO0_1;clear HO0_2;clear HO0_3;clear BK895;clear HK;clear HB;have HO0_1:=n0_;have HO0_2:=n1_;have HO0_3:=n2_;have BK895:=n3_;have HK:=n4_;have HB:=n5_;clear n0_ n1_ n2_ n3_ n4_ n5_;(try clear hb);(try clear hkp);(try clear hy0);have ⟨hcz12_0,hcz12_1,hcz12_2,hcz12_3,hcz12_4,hcz12_5,hcz12_6,hfz12_0,hfz12_1,hfz12_2,hfz12_3,hfz12_4,hfz12_5,hfz12_6⟩:=cz7_ BK895.out) | ((with_reducible refine gc_ 114 ?_);refine gl_ (some 12) Tryz.func114 #[.slice Ao7 l0_2.length co7,.int .i64 t896] ?_;(with_reducible refine (Y19.calls k (fun k_=>some k_=(.slice Ao7 l0_2.length co7:Value).ownBlock) (.slice Ao7 l0_2.length co7) l0_2 t896 t898 t899 w0 _ ?s1 ?s2 A4.out).mono ?_);(case s1=>repeat (first | (with_reducible first | exact HB.out | apply below_alloc | apply pw_below_drewN | apply below_drew1 | refine below_set ?_ GE895.out) | exact HB.out));(case s2=>exact Kd.R_tight rfl HO0_2.out);rintro e w13 ⟨rfl,hy0,hb,hkp⟩;refine ⟨_,rfl,?_⟩;have n0_:=aM (Kd.R_mono (ok':=fun k_=>((P0_1_ k_∨P0_2_ k_∨P0_3_ k_)∨w.heap.size≤k_)) (Kd.R_keptB ((Kd.R_apart' HO0_1.out (Kd.R_typed HO0_2.out) (by decide))) hkp (fun k_ hk_ hs_=>(hk_.2) hs_)) (fun k_ hk_=>hk_.1.1));have n1_:=aM (Kd.R_reok rfl hy0 (fun k_ e_=>HO0_2.out.1 k_ e_));have n2_:=aM (Kd.R_mono (ok':=fun k_=>((P0_1_ k_∨P0_2_ k_∨P0_3_ k_)∨w.heap.size≤k_)) (Kd.R_keptB ((Kd.R_apart' HO0_3.out (Kd.R_typed HO0_2.out) (by decide))) hkp (fun k_ hk_ hs_=>(hk_.2) hs_)) (fun k_ hk_=>hk_.1.1));have n3_:=aM (blk_kept (z4_ BK895.out) hkp (fun hs_=>(fun e_=>(Kd.R_ne HO0_2.out BK895.out (by decide)) e_) hs_));have n4_:=aM (Kept.then_ (S:=(fun k_=>P0_1_ k_∨P0_2_ k_∨P0_3_ k_)) (z18_ HK.out GW895.out) hkp (fun k_ hs_=>(fun e_=>(HO0_2.out.1 k_ e_.symm)) hs_));have n5_:=aM (hb);clear HO0_1;clear HO0_2;clear HO0_3;clear BK895;clear HK;clear HB;have HO0_1:=n0_;have HO0_2:=n1_;have HO0_3:=n2_;have BK895:=n3_;have HK:=n4_;have HB:=n5_;clear n0_ n1_ n2_ n3_ n4_ n5_;(try clear hb);(try clear hkp);(try clear hy0);have ⟨hcz14_0,hcz14_1,hcz14_2,hcz14_3,hcz14_4,hcz14_5,hcz14_6,hfz14_0,hfz14_1,hfz14_2,hfz14_3,hfz14_4,hfz14_5,hfz14_6⟩:=cz7_ BK895.out) | ((with_reducible refine gc_ 88 ?_);refine gl_ (some 16) Tryz.func88 #[.slice Ao8 l0_3.length co8,.int .i64 t898] ?_;(with_reducible refine (Y17.calls k (fun k_=>some k_=(.slice Ao8 l0_3.length co8:Value).ownBlock) (.slice Ao8 l0_3.length co8) l0_3 t898 t900 t901 w0 _ ?s1 ?s2 A5.out).mono ?_);(case s1=>repeat (first | (with_reducible first | exact HB.out | apply below_alloc | apply pw_below_drewN | apply below_drew1 | refine below_set ?_ GE895.out) | exact HB.out));(case s2=>exact Kd.R_tight rfl HO0_3.out);rintro e w15 ⟨rfl,hy0,hb,hkp⟩;refine ⟨_,rfl,?_⟩;have n0_:=aM (Kd.R_mono (ok':=fun k_=>((P0_1_ k_∨P0_2_ k_∨P0_3_ k_)∨w.heap.size≤k_)) (Kd.R_keptB ((Kd.R_apart' HO0_1.out (Kd.R_typed HO0_3.out) (by decide))) hkp (fun k_ hk_ hs_=>(hk_.2) hs_)) (fun k_ hk_=>hk_.1.1));have n1_:=aM (Kd.R_mono (ok':=fun k_=>((P0_1_ k_∨P0_2_ k_∨P0_3_ k_)∨w.heap.size≤k_)) (Kd.R_keptB ((Kd.R_apart' HO0_2.out (Kd.R_typed HO0_3.out) (by decide))) hkp (fun k_ hk_ hs_=>(hk_.2) hs_)) (fun k_ hk_=>hk_.1.1));have n2_:=aM (Kd.R_reok rfl hy0 (fun k_ e_=>HO0_3.out.1 k_ e_));have n3_:=aM (blk_kept (z4_ BK895.out) hkp (fun hs_=>(fun e_=>(Kd.R_ne HO0_3.out BK895.out (by decide)) e_) hs_));have n4_:=aM (Kept.then_ (S:=(fun k_=>P0_1_ k_∨P0_2_ k_∨P0_3_ k_)) (z18_ HK.out GW895.out) hkp (fun k_ hs_=>(fun e_=>(HO0_3.out.1 k_ e_.symm)) hs_));have n5_:=aM (hb);clear HO0_1;clear HO0_2;clear HO0_3;clear BK895;clear HK;clear HB;have HO0_1:=n0_;have HO0_2:=n1_;have HO0_3:=n2_;have BK895:=n3_;have HK:=n4_;have HB:=n5_;clear n0_ n1_ n2_ n3_ n4_ n5_;(try clear hb);(try clear hkp);(try clear hy0)))
 go_ret
 exact ⟨z10_,z0_ HO0_1.out,z0_ HO0_2.out,z0_ HO0_3.out,z7_ HB.out GE895.out,z18_ HK.out GW895.out⟩


/-! ### Y40: function 89 -/
def Y40.l0:Nat→Int→Int→Option (Int)
 | 0,_,_=>none
 | k+1,x1,x5=>if x5<0 then (none) else (some x1)
def Y40.f (k:Nat) (a0:Int) (a1:Int):Option (Int):=Y40.l0 k a1 0
theorem Y40.mono_l:∀ k,(∀ y0 y1,LeO (Y40.l0 k y0 y1) (Y40.l0 (k+1) y0 y1))
 | 0=>by intros <;> exact LeO.none _
 | k+1=>by
  have ih0:=Y40.mono_l k
  ·intros
   unfold Y40.l0
   exact mO
theorem Y40.mono:∀ a0 a1 k,LeO (Y40.f k a0 a1) (Y40.f (k+1) a0 a1):=by
 intro a0 a1 k
 have ih0:=Y40.mono_l k
 unfold Y40.f
 exact mO
theorem Y40.calls (k:Nat) (a0:Int) (a1:Int) (r:Int) (w:World) (h:Y40.f k a0 a1=some r) :
  Calls Tryz.prog 89 #[.slice none 0 0,.int .i64 a1] w fun e w'=>e = .returned (.int .i64 r)∧Drawn0 w w':=by
 have H:(Y40.l0 k a1 0)=some r:=h
 clear h
 have H':=aM H
 clear H
 go_enter Tryz.func89,Tryz.ntmps89
 go_wp2
 go_loopg [1,5] k (fun kq v1 v5 w'=>∃ (x1_1:Int) (x5_1:Int),v1 = .int .i64 x1_1∧v5 = .int .i64 x5_1∧Aside0 (Y40.l0 kq x1_1 x5_1=some r)∧Aside0 (kq≤k)∧Drawn0 w w')
 case atStart=>exact ⟨(a1),(0),(z1_),(z1_),H',⟨Nat.le_refl _⟩,z5_⟩
 case round =>
  clear H'
  try clear p2
  obtain ⟨x1_1,x5_1,rfl,rfl,HA,HK1,⟨m1,rfl⟩⟩:=hrel
  cases gk with
  | zero=>exact absurd HA.out (by simp [Y40.l0])
  | succ k1 =>
   have H:=HA.out
   clear HA
   simp only [Y40.l0] at H
   by_cases c3:x5_1<0
   ·rw [if_pos c3] at H
    exact nO H
   ·rw [if_neg c3] at H
    have c3b0:decide (x5_1<0)=false:=dF c3
    clear c3
    obtain rfl:=sI H
    go_wp2
    go_ret
    exact ⟨z1_,z5_⟩


/-! ### Y34: function 90 -/
def Y34.l0:Nat→Int→Int→Option (Int)
 | 0,_,_=>none
 | k+1,x1,x5=>if x5<0 then (none) else (some x1)
def Y34.f (k:Nat) (a0:Int) (a1:Int):Option (Int):=Y34.l0 k a1 0
theorem Y34.mono_l:∀ k,(∀ y0 y1,LeO (Y34.l0 k y0 y1) (Y34.l0 (k+1) y0 y1))
 | 0=>by intros <;> exact LeO.none _
 | k+1=>by
  have ih0:=Y34.mono_l k
  ·intros
   unfold Y34.l0
   exact mO
theorem Y34.mono:∀ a0 a1 k,LeO (Y34.f k a0 a1) (Y34.f (k+1) a0 a1):=by
 intro a0 a1 k
 have ih0:=Y34.mono_l k
 unfold Y34.f
 exact mO
theorem Y34.calls (k:Nat) (a0:Int) (a1:Int) (r:Int) (w:World) (h:Y34.f k a0 a1=some r) :
  Calls Tryz.prog 90 #[.slice none 0 0,.int .i64 a1] w fun e w'=>e = .returned (.int .i64 r)∧Drawn0 w w':=by
 have H:(Y34.l0 k a1 0)=some r:=h
 clear h
 have H':=aM H
 clear H
 go_enter Tryz.func90,Tryz.ntmps90
 go_wp2
 go_loopg [1,5] k (fun kq v1 v5 w'=>∃ (x1_1:Int) (x5_1:Int),v1 = .int .i64 x1_1∧v5 = .int .i64 x5_1∧Aside0 (Y34.l0 kq x1_1 x5_1=some r)∧Aside0 (kq≤k)∧Drawn0 w w')
 case atStart=>exact ⟨(a1),(0),(z1_),(z1_),H',⟨Nat.le_refl _⟩,z5_⟩
 case round =>
  clear H'
  try clear p2
  obtain ⟨x1_1,x5_1,rfl,rfl,HA,HK1,⟨m1,rfl⟩⟩:=hrel
  cases gk with
  | zero=>exact absurd HA.out (by simp [Y34.l0])
  | succ k1 =>
   have H:=HA.out
   clear HA
   simp only [Y34.l0] at H
   by_cases c3:x5_1<0
   ·rw [if_pos c3] at H
    exact nO H
   ·rw [if_neg c3] at H
    have c3b0:decide (x5_1<0)=false:=dF c3
    clear c3
    obtain rfl:=sI H
    go_wp2
    go_ret
    exact ⟨z1_,z5_⟩


/-! ### Y31: function 91 -/
def Y31.l0:Nat→Int→Int→Option (Int)
 | 0,_,_=>none
 | k+1,x1,x5=>if x5<0 then (none) else (some x1)
def Y31.f (k:Nat) (a0:Int) (a1:Int):Option (Int):=Y31.l0 k a1 0
theorem Y31.mono_l:∀ k,(∀ y0 y1,LeO (Y31.l0 k y0 y1) (Y31.l0 (k+1) y0 y1))
 | 0=>by intros <;> exact LeO.none _
 | k+1=>by
  have ih0:=Y31.mono_l k
  ·intros
   unfold Y31.l0
   exact mO
theorem Y31.mono:∀ a0 a1 k,LeO (Y31.f k a0 a1) (Y31.f (k+1) a0 a1):=by
 intro a0 a1 k
 have ih0:=Y31.mono_l k
 unfold Y31.f
 exact mO
theorem Y31.calls (k:Nat) (a0:Int) (a1:Int) (r:Int) (w:World) (h:Y31.f k a0 a1=some r) :
  Calls Tryz.prog 91 #[.slice none 0 0,.int .i64 a1] w fun e w'=>e = .returned (.int .i64 r)∧Drawn0 w w':=by
 have H:(Y31.l0 k a1 0)=some r:=h
 clear h
 have H':=aM H
 clear H
 go_enter Tryz.func91,Tryz.ntmps91
 go_wp2
 go_loopg [1,5] k (fun kq v1 v5 w'=>∃ (x1_1:Int) (x5_1:Int),v1 = .int .i64 x1_1∧v5 = .int .i64 x5_1∧Aside0 (Y31.l0 kq x1_1 x5_1=some r)∧Aside0 (kq≤k)∧Drawn0 w w')
 case atStart=>exact ⟨(a1),(0),(z1_),(z1_),H',⟨Nat.le_refl _⟩,z5_⟩
 case round =>
  clear H'
  try clear p2
  obtain ⟨x1_1,x5_1,rfl,rfl,HA,HK1,⟨m1,rfl⟩⟩:=hrel
  cases gk with
  | zero=>exact absurd HA.out (by simp [Y31.l0])
  | succ k1 =>
   have H:=HA.out
   clear HA
   simp only [Y31.l0] at H
   by_cases c3:x5_1<0
   ·rw [if_pos c3] at H
    exact nO H
   ·rw [if_neg c3] at H
    have c3b0:decide (x5_1<0)=false:=dF c3
    clear c3
    obtain rfl:=sI H
    go_wp2
    go_ret
    exact ⟨z1_,z5_⟩


/-! ### Y26: function 92 -/
def Y26.l0:Nat→Int→Int→Option (Int)
 | 0,_,_=>none
 | k+1,x1,x5=>if x5<0 then (none) else (some x1)
def Y26.f (k:Nat) (a0:Int) (a1:Int):Option (Int):=Y26.l0 k a1 0
theorem Y26.mono_l:∀ k,(∀ y0 y1,LeO (Y26.l0 k y0 y1) (Y26.l0 (k+1) y0 y1))
 | 0=>by intros <;> exact LeO.none _
 | k+1=>by
  have ih0:=Y26.mono_l k
  ·intros
   unfold Y26.l0
   exact mO
theorem Y26.mono:∀ a0 a1 k,LeO (Y26.f k a0 a1) (Y26.f (k+1) a0 a1):=by
 intro a0 a1 k
 have ih0:=Y26.mono_l k
 unfold Y26.f
 exact mO
theorem Y26.calls (k:Nat) (a0:Int) (a1:Int) (r:Int) (w:World) (h:Y26.f k a0 a1=some r) :
  Calls Tryz.prog 92 #[.slice none 0 0,.int .i64 a1] w fun e w'=>e = .returned (.int .i64 r)∧Drawn0 w w':=by
 have H:(Y26.l0 k a1 0)=some r:=h
 clear h
 have H':=aM H
 clear H
 go_enter Tryz.func92,Tryz.ntmps92
 go_wp2
 go_loopg [1,5] k (fun kq v1 v5 w'=>∃ (x1_1:Int) (x5_1:Int),v1 = .int .i64 x1_1∧v5 = .int .i64 x5_1∧Aside0 (Y26.l0 kq x1_1 x5_1=some r)∧Aside0 (kq≤k)∧Drawn0 w w')
 case atStart=>exact ⟨(a1),(0),(z1_),(z1_),H',⟨Nat.le_refl _⟩,z5_⟩
 case round =>
  clear H'
  try clear p2
  obtain ⟨x1_1,x5_1,rfl,rfl,HA,HK1,⟨m1,rfl⟩⟩:=hrel
  cases gk with
  | zero=>exact absurd HA.out (by simp [Y26.l0])
  | succ k1 =>
   have H:=HA.out
   clear HA
   simp only [Y26.l0] at H
   by_cases c3:x5_1<0
   ·rw [if_pos c3] at H
    exact nO H
   ·rw [if_neg c3] at H
    have c3b0:decide (x5_1<0)=false:=dF c3
    clear c3
    obtain rfl:=sI H
    go_wp2
    go_ret
    exact ⟨z1_,z5_⟩


/-! ### Y65: function 61 -/
def Y65.f (k:Nat) (a0_0:Int) (l0_1:List (S78)) (l0_2:List (S115)) (l0_3:List Int) (a0_4:Int) (a0_5:Int) (a0_6:Int) (l0_7:List Int) (a0_8:Int) (a0_9:Int) (a0_10:Int) (a0_11:Int) (a1:Int):Option (Int × (List (S78)) × (List (S115)) × List Int × List Int):=(Y61.f k a0_0 l0_1 l0_2 l0_3 a0_4 a0_5 a0_6 a1).bind fun bt903=>((Y17.f k l0_7 bt903.1).bind fun bt907=>((Y40.f k a0_8 bt907.1).bind fun t909=>((Y34.f k a0_9 t909).bind fun t910=>((Y31.f k a0_10 t910).bind fun t911=>((Y26.f k a0_11 t911).bind fun t912=>(some (t912,bt903.2.1,bt903.2.2.1,bt903.2.2.2,bt907.2)))))))
theorem Y65.mono:∀ a0 a1 a2 a3 a4 a5 a6 a7 a8 a9 a10 a11 a12 k,LeO (Y65.f k a0 a1 a2 a3 a4 a5 a6 a7 a8 a9 a10 a11 a12) (Y65.f (k+1) a0 a1 a2 a3 a4 a5 a6 a7 a8 a9 a10 a11 a12):=by
 intro a0 a1 a2 a3 a4 a5 a6 a7 a8 a9 a10 a11 a12 k
 have m0:=@Y61.mono
 have m1:=@Y26.mono
 have m2:=@Y17.mono
 have m3:=@Y40.mono
 have m4:=@Y34.mono
 have m5:=@Y31.mono
 unfold Y65.f
 exact mO
theorem Y65.calls (k:Nat) (a0_0:Int) (P0_1_:Nat→Prop) (u9000_:Value) (l0_1:List (S78)) (P0_2_:Nat→Prop) (u9001_:Value) (l0_2:List (S115)) (P0_3_:Nat→Prop) (u9002_:Value) (l0_3:List Int) (a0_4:Int) (a0_5:Int) (a0_6:Int) (P0_7_:Nat→Prop) (u9003_:Value) (l0_7:List Int) (a0_8:Int) (a0_9:Int) (a0_10:Int) (a0_11:Int) (a1:Int) (r1:Int) (r2:List (S78)) (r3:List (S115)) (r4:List Int) (r5:List Int) (w0 w:World) (hB:Below w0.heap.size w0 w) (ho0_1:Kd.R k78 78 w w0.heap.size P0_1_ u9000_ l0_1) (ho0_2:Kd.R k115 115 w w0.heap.size P0_2_ u9001_ l0_2) (ho0_3:Kd.R (Kd.int .i64) 2 w w0.heap.size P0_3_ u9002_ l0_3) (hp0_3_0_7:∀ k_,P0_3_ k_→¬ P0_7_ k_) (ho0_7:Kd.R (Kd.int .i64) 2 w w0.heap.size P0_7_ u9003_ l0_7) (hp0_7_0_3:∀ k_,P0_7_ k_→¬ P0_3_ k_) (h:Y65.f k a0_0 l0_1 l0_2 l0_3 a0_4 a0_5 a0_6 l0_7 a0_8 a0_9 a0_10 a0_11 a1=some (r1,r2,r3,r4,r5)) :
  Calls Tryz.prog 61 #[.agg #[.int .i64 a0_0,u9000_,u9001_,u9002_,.int .i64 a0_4,.int .i64 a0_5,.int .i64 a0_6,u9003_,.slice none 0 0,.slice none 0 0,.slice none 0 0,.slice none 0 0],.int .i64 a1] w fun e w'=>e = .returned (.int .i64 r1)∧Kd.R k78 78 w' w0.heap.size (fun k_=>((P0_1_ k_∨P0_2_ k_∨P0_3_ k_∨P0_7_ k_)∨w.heap.size≤k_)) u9000_ r2∧Kd.R k115 115 w' w0.heap.size (fun k_=>((P0_1_ k_∨P0_2_ k_∨P0_3_ k_∨P0_7_ k_)∨w.heap.size≤k_)) u9001_ r3∧Kd.R (Kd.int .i64) 2 w' w0.heap.size (fun k_=>((P0_1_ k_∨P0_2_ k_∨P0_3_ k_∨P0_7_ k_)∨w.heap.size≤k_)) u9002_ r4∧Kd.R (Kd.int .i64) 2 w' w0.heap.size (fun k_=>((P0_1_ k_∨P0_2_ k_∨P0_3_ k_∨P0_7_ k_)∨w.heap.size≤k_)) u9003_ r5∧Below w0.heap.size w0 w'∧Kept w w' (fun k_=>P0_1_ k_∨P0_2_ k_∨P0_3_ k_∨P0_7_ k_):=by
 have hu56:=Tryz.underlying56
 have hu50:=Tryz.underlying50
 have HO0_1:=aM (show Kd.R k78 78 w w0.heap.size (fun k_=>((P0_1_ k_∨P0_2_ k_∨P0_3_ k_∨P0_7_ k_)∨w.heap.size≤k_)) u9000_ l0_1 from Kd.R_mono ho0_1 (fun k_ hk=>(.inl (.inl hk))))
 have HO0_2:=aM (show Kd.R k115 115 w w0.heap.size (fun k_=>((P0_1_ k_∨P0_2_ k_∨P0_3_ k_∨P0_7_ k_)∨w.heap.size≤k_)) u9001_ l0_2 from Kd.R_mono ho0_2 (fun k_ hk=>(.inl (.inr (.inl hk)))))
 have HO0_3:=aM (show Kd.R (Kd.int .i64) 2 w w0.heap.size (fun k_=>((P0_1_ k_∨P0_2_ k_∨P0_3_ k_∨P0_7_ k_)∨w.heap.size≤k_)∧some k_≠(u9003_:Value).ownBlock) u9002_ l0_3 from Kd.R_mono ho0_3 (fun k_ hk=>⟨(.inl (.inr (.inr (.inl hk)))),fun e_=>hp0_3_0_7 k_ hk (ho0_7.1 k_ e_.symm)⟩))
 have HO0_7:=aM (show Kd.R (Kd.int .i64) 2 w w0.heap.size (fun k_=>((P0_1_ k_∨P0_2_ k_∨P0_3_ k_∨P0_7_ k_)∨w.heap.size≤k_)∧some k_≠(u9002_:Value).ownBlock) u9003_ l0_7 from Kd.R_mono ho0_7 (fun k_ hk=>⟨(.inl (.inr (.inr (.inr hk)))),fun e_=>hp0_7_0_3 k_ hk (ho0_3.1 k_ e_.symm)⟩))
 have HK:=aM (Kept.refl w (fun k_=>P0_1_ k_∨P0_2_ k_∨P0_3_ k_∨P0_7_ k_))
 have HW0:=aM hB.size
 have HB:=aM hB
 clear hB
 have H:((Y61.f k a0_0 l0_1 l0_2 l0_3 a0_4 a0_5 a0_6 a1).bind fun bt903=>((Y17.f k l0_7 bt903.1).bind fun bt907=>((Y40.f k a0_8 bt907.1).bind fun t909=>((Y34.f k a0_9 t909).bind fun t910=>((Y31.f k a0_10 t910).bind fun t911=>((Y26.f k a0_11 t911).bind fun t912=>(some (t912,bt903.2.1,bt903.2.2.1,bt903.2.2.2,bt907.2))))))))=some (r1,r2,r3,r4,r5):=h
 clear h
 replace H:=bS H
 obtain ⟨⟨t903,t904,t905,t906⟩,A30,H⟩:=H
 replace H:((Y17.f k l0_7 t903).bind fun bt907=>((Y40.f k a0_8 bt907.1).bind fun t909=>((Y34.f k a0_9 t909).bind fun t910=>((Y31.f k a0_10 t910).bind fun t911=>((Y26.f k a0_11 t911).bind fun t912=>(some (t912,t904,t905,t906,bt907.2)))))))=some (r1,r2,r3,r4,r5):=H
 have A3:=aM A30
 clear A30
 replace H:=bS H
 obtain ⟨⟨t907,t908⟩,A40,H⟩:=H
 replace H:((Y40.f k a0_8 t907).bind fun t909=>((Y34.f k a0_9 t909).bind fun t910=>((Y31.f k a0_10 t910).bind fun t911=>((Y26.f k a0_11 t911).bind fun t912=>(some (t912,t904,t905,t906,t908))))))=some (r1,r2,r3,r4,r5):=H
 have A4:=aM A40
 clear A40
 replace H:=bS H
 obtain ⟨t909,A50,H⟩:=H
 replace H:((Y34.f k a0_9 t909).bind fun t910=>((Y31.f k a0_10 t910).bind fun t911=>((Y26.f k a0_11 t911).bind fun t912=>(some (t912,t904,t905,t906,t908)))))=some (r1,r2,r3,r4,r5):=H
 have A5:=aM A50
 clear A50
 replace H:=bS H
 obtain ⟨t910,A60,H⟩:=H
 replace H:((Y31.f k a0_10 t910).bind fun t911=>((Y26.f k a0_11 t911).bind fun t912=>(some (t912,t904,t905,t906,t908))))=some (r1,r2,r3,r4,r5):=H
 have A6:=aM A60
 clear A60
 replace H:=bS H
 obtain ⟨t911,A70,H⟩:=H
 replace H:((Y26.f k a0_11 t911).bind fun t912=>(some (t912,t904,t905,t906,t908)))=some (r1,r2,r3,r4,r5):=H
 have A7:=aM A70
 clear A70
 replace H:=bS H
 obtain ⟨t912,A80,H⟩:=H
 replace H:(some (t912,t904,t905,t906,t908))=some (r1,r2,r3,r4,r5):=H
 have A8:=aM A80
 clear A80
 simp only [Option.some.injEq,Prod.mk.injEq] at H
 obtain ⟨rfl,rfl,rfl,rfl,rfl⟩:=H
 obtain ⟨Ao9,co9,eo9⟩:=Kd.R_slice HO0_1.out
 subst eo9
 obtain ⟨Ao10,co10,eo10⟩:=Kd.R_slice HO0_2.out
 subst eo10
 obtain ⟨Ao11,co11,eo11⟩:=Kd.R_slice HO0_3.out
 subst eo11
 obtain ⟨Ao12,co12,eo12⟩:=Kd.R_slice HO0_7.out
 subst eo12
 go_enter Tryz.func61,Tryz.ntmps61
 go_wp2_with (first | ((with_reducible refine gd_ 2 ?_);refine be_ 2 #[.int .i64 a0_0,.slice Ao9 l0_1.length co9,.slice Ao10 l0_2.length co10,.slice Ao11 l0_3.length co11,.int .i64 a0_4,.int .i64 a0_5,.int .i64 a0_6,.slice Ao12 l0_7.length co12,.slice none 0 0,.slice none 0 0,.slice none 0 0,.slice none 0 0] 56 ?_;intro gb902 hg w13 hbox hb;have n0_:=aM (Kd.R_below (z0_ HO0_1.out) hb);have n1_:=aM (Kd.R_below (z0_ HO0_2.out) hb);have n2_:=aM (Kd.R_below (z0_ HO0_3.out) hb);have n3_:=aM (Kd.R_below (z0_ HO0_7.out) hb);have n4_:=aM (Kept.below (S:=(fun k_=>P0_1_ k_∨P0_2_ k_∨P0_3_ k_∨P0_7_ k_)) (z6_ HK.out) hb);have n5_:=aM (below_step (z3_ HB.out) hb);have n6_:=aM (hbox);have n7_:=aM ((by rw [hg];exact (by first | exact HK.out.1 | exact (show Kept w _ (fun k_=>P0_1_ k_∨P0_2_ k_∨P0_3_ k_∨P0_7_ k_) from by repeat (first | (with_reducible first | exact HK.out | apply Kept.alloc | apply Kept.drewN | apply Kept.drew) | exact HK.out)).1):w.heap.size≤gb902));have n8_:=aM ((z9_ HB.out:w0.heap.size≤gb902));clear HO0_1;clear HO0_2;clear HO0_3;clear HO0_7;clear HK;clear HB;have HO0_1:=n0_;have HO0_2:=n1_;have HO0_3:=n2_;have HO0_7:=n3_;have HK:=n4_;have HB:=n5_;have BK902:=n6_;have GW902:=n7_;have GE902:=n8_;clear n0_ n1_ n2_ n3_ n4_ n5_ n6_ n7_ n8_;clear hb hbox hg;have ⟨hcz14_0,hcz14_1,hcz14_2,hcz14_3,hcz14_4,hcz14_5,hcz14_6,hcz14_7,hcz14_8,hcz14_9,hcz14_10,hcz14_11,hfz14_0,hfz14_1,hfz14_2,hfz14_3,hfz14_4,hfz14_5,hfz14_6,hfz14_7,hfz14_8,hfz14_9,hfz14_10,hfz14_11⟩:=cz12_ BK902.out) | ((with_reducible refine gc_ 87 ?_);refine gl_ (some 8) Tryz.func87 #[.agg #[.int .i64 a0_0,.slice Ao9 l0_1.length co9,.slice Ao10 l0_2.length co10,.slice Ao11 l0_3.length co11,.int .i64 a0_4,.int .i64 a0_5,.int .i64 a0_6],.int .i64 a1] ?_;(with_reducible refine (Y61.calls k a0_0 (fun k_=>some k_=(.slice Ao9 l0_1.length co9:Value).ownBlock) (.slice Ao9 l0_1.length co9) l0_1 (fun k_=>some k_=(.slice Ao10 l0_2.length co10:Value).ownBlock) (.slice Ao10 l0_2.length co10) l0_2 (fun k_=>some k_=(.slice Ao11 l0_3.length co11:Value).ownBlock) (.slice Ao11 l0_3.length co11) l0_3 a0_4 a0_5 a0_6 a1 t903 t904 t905 t906 w0 _ ?s1 ?s2 ?s3 ?s4 A3.out).mono ?_);(case s1=>repeat (first | (with_reducible first | exact HB.out | apply below_alloc | apply pw_below_drewN | apply below_drew1 | refine below_set ?_ GE902.out) | exact HB.out));(case s2=>exact Kd.R_tight rfl HO0_1.out);(case s3=>exact Kd.R_tight rfl HO0_2.out);(case s4=>exact Kd.R_tight rfl HO0_3.out);rintro e w15 ⟨rfl,hy0,hy1,hy2,hb,hkp⟩;refine ⟨_,rfl,?_⟩;have n0_:=aM (Kd.R_reok rfl hy0 (fun k_ e_=>HO0_1.out.1 k_ e_));have n1_:=aM (Kd.R_reok rfl hy1 (fun k_ e_=>HO0_2.out.1 k_ e_));have n2_:=aM (Kd.R_reok rfl hy2 (fun k_ e_=>HO0_3.out.1 k_ e_));have n3_:=aM (Kd.R_mono (ok':=fun k_=>((P0_1_ k_∨P0_2_ k_∨P0_3_ k_∨P0_7_ k_)∨w.heap.size≤k_)∧some k_≠(.slice Ao11 l0_3.length co11:Value).ownBlock) (Kd.R_keptB ((Kd.R_apart' (Kd.R_apart' HO0_7.out (Kd.R_typed HO0_1.out) (by decide)) (Kd.R_typed HO0_2.out) (by decide))) hkp (fun k_ hk_ hs_=>Or.elim hs_ (fun e_=>(hk_.1.2) e_) (fun e_=>Or.elim e_ (fun e_=>(hk_.2) e_) (fun e_=>(hk_.1.1.2) e_)))) (fun k_ hk_=>⟨hk_.1.1.1.1,hk_.1.1.1.2⟩));have n4_:=aM (blk_kept (z4_ BK902.out) hkp (fun hs_=>Or.elim hs_ (fun e_=>(fun e_=>(Kd.R_ne HO0_1.out BK902.out (by decide)) e_) e_) (fun e_=>Or.elim e_ (fun e_=>(fun e_=>(Kd.R_ne HO0_2.out BK902.out (by decide)) e_) e_) (fun e_=>(fun e_=>(Kd.R_ne HO0_3.out BK902.out (by decide)) e_) e_))));have n5_:=aM (Kept.then_ (S:=(fun k_=>P0_1_ k_∨P0_2_ k_∨P0_3_ k_∨P0_7_ k_)) (z18_ HK.out GW902.out) hkp (fun k_ hs_=>Or.elim hs_ (fun e_=>(fun e_=>(HO0_1.out.1 k_ e_.symm)) e_) (fun e_=>Or.elim e_ (fun e_=>(fun e_=>(HO0_2.out.1 k_ e_.symm)) e_) (fun e_=>(fun e_=>(HO0_3.out.1 k_ e_.symm).1) e_))));have n6_:=aM (hb);clear HO0_1;clear HO0_2;clear HO0_3;clear HO0_7;clear BK902;clear HK;clear HB;have HO0_1:=n0_;have HO0_2:=n1_;have HO0_3:=n2_;have HO0_7:=n3_;have BK902:=n4_;have HK:=n5_;have HB:=n6_;clear n0_ n1_ n2_ n3_ n4_ n5_ n6_;(try clear hb);(try clear hkp);(try clear hy0);(try clear hy1);(try clear hy2);have ⟨hcz16_0,hcz16_1,hcz16_2,hcz16_3,hcz16_4,hcz16_5,hcz16_6,hcz16_7,hcz16_8,hcz16_9,hcz16_10,hcz16_11,hfz16_0,hfz16_1,hfz16_2,hfz16_3,hfz16_4,hfz16_5,hfz16_6,hfz16_7,hfz16_8,hfz16_9,hfz16_10,hfz16_11⟩:=cz12_ BK902.out) | ((with_reducible refine gc_ 88 ?_);refine gl_ (some 12) Tryz.func88 #[.slice Ao12 l0_7.length co12,.int .i64 t903] ?_;(with_reducible refine (Y17.calls k (fun k_=>some k_=(.slice Ao12 l0_7.length co12:Value).ownBlock) (.slice Ao12 l0_7.length co12) l0_7 t903 t907 t908 w0 _ ?s1 ?s2 A4.out).mono ?_);(case s1=>repeat (first | (with_reducible first | exact HB.out | apply below_alloc | apply pw_below_drewN | apply below_drew1 | refine below_set ?_ GE902.out) | exact HB.out));(case s2=>exact Kd.R_tight rfl HO0_7.out);rintro e w17 ⟨rfl,hy0,hb,hkp⟩;refine ⟨_,rfl,?_⟩;have n0_:=aM (Kd.R_mono (ok':=fun k_=>((P0_1_ k_∨P0_2_ k_∨P0_3_ k_∨P0_7_ k_)∨w.heap.size≤k_)) (Kd.R_keptB ((Kd.R_apart' HO0_1.out (Kd.R_typed HO0_7.out) (by decide))) hkp (fun k_ hk_ hs_=>(hk_.2) hs_)) (fun k_ hk_=>hk_.1.1));have n1_:=aM (Kd.R_mono (ok':=fun k_=>((P0_1_ k_∨P0_2_ k_∨P0_3_ k_∨P0_7_ k_)∨w.heap.size≤k_)) (Kd.R_keptB ((Kd.R_apart' HO0_2.out (Kd.R_typed HO0_7.out) (by decide))) hkp (fun k_ hk_ hs_=>(hk_.2) hs_)) (fun k_ hk_=>hk_.1.1));have n2_:=aM (Kd.R_mono (ok':=fun k_=>((P0_1_ k_∨P0_2_ k_∨P0_3_ k_∨P0_7_ k_)∨w.heap.size≤k_)∧some k_≠(.slice Ao12 l0_7.length co12:Value).ownBlock) (Kd.R_keptB (HO0_3.out) hkp (fun k_ hk_ hs_=>(hk_.2) hs_)) (fun k_ hk_=>⟨hk_.1.1,hk_.1.2⟩));have n3_:=aM (Kd.R_reok rfl hy0 (fun k_ e_=>HO0_7.out.1 k_ e_));have n4_:=aM (blk_kept (z4_ BK902.out) hkp (fun hs_=>(fun e_=>(Kd.R_ne HO0_7.out BK902.out (by decide)) e_) hs_));have n5_:=aM (Kept.then_ (S:=(fun k_=>P0_1_ k_∨P0_2_ k_∨P0_3_ k_∨P0_7_ k_)) (z18_ HK.out GW902.out) hkp (fun k_ hs_=>(fun e_=>(HO0_7.out.1 k_ e_.symm).1) hs_));have n6_:=aM (hb);clear HO0_1;clear HO0_2;clear HO0_3;clear HO0_7;clear BK902;clear HK;clear HB;have HO0_1:=n0_;have HO0_2:=n1_;have HO0_3:=n2_;have HO0_7:=n3_;have BK902:=n4_;have HK:=n5_;have HB:=n6_;clear n0_ n1_ n2_ n3_ n4_ n5_ n6_;(try clear hb);(try clear hkp);(try clear hy0);have ⟨hcz18_0,hcz18_1,hcz18_2,hcz18_3,hcz18_4,hcz18_5,hcz18_6,hcz18_7,hcz18_8,hcz18_9,hcz18_10,hcz18_11,hfz18_0,hfz18_1,hfz18_2,hfz18_3,hfz18_4,hfz18_5,hfz18_6,hfz18_7,hfz18_8,hfz18_9,hfz18_10,hfz18_11⟩:=cz12_ BK902.out) | ((with_reducible refine gc_ 89 ?_);refine gl_ (some 16) Tryz.func89 #[.slice none 0 0,.int .i64 t907] ?_;(with_reducible refine (Y40.calls k a0_8 t907 t909 _ A5.out).mono ?_);rintro e w' ⟨rfl,⟨nd,rfl⟩⟩;refine ⟨_,rfl,?_⟩) | ((with_reducible refine gc_ 90 ?_);refine gl_ (some 20) Tryz.func90 #[.slice none 0 0,.int .i64 t909] ?_;(with_reducible refine (Y34.calls k a0_9 t909 t910 _ A6.out).mono ?_);rintro e w' ⟨rfl,⟨nd,rfl⟩⟩;refine ⟨_,rfl,?_⟩) | ((with_reducible refine gc_ 91 ?_);refine gl_ (some 24) Tryz.func91 #[.slice none 0 0,.int .i64 t910] ?_;(with_reducible refine (Y31.calls k a0_10 t910 t911 _ A7.out).mono ?_);rintro e w' ⟨rfl,⟨nd,rfl⟩⟩;refine ⟨_,rfl,?_⟩) | ((with_reducible refine gc_ 92 ?_);refine gl_ (some 28) Tryz.func92 #[.slice none 0 0,.int .i64 t911] ?_;(with_reducible refine (Y26.calls k a0_11 t911 t912 _ A8.out).mono ?_);rintro e w' ⟨rfl,⟨nd,rfl⟩⟩;refine ⟨_,rfl,?_⟩))
 go_ret
 exact ⟨z10_,z0_ HO0_1.out,z0_ HO0_2.out,z38_ HO0_3.out,z38_ HO0_7.out,z7_ HB.out GE902.out,z18_ HK.out GW902.out⟩


/-! ### Y54: function 28 -/
def Y54.f (k:Nat) (a0_0:Int) (l0_1:List (S78)) (l0_2:List (S115)) (l0_3:List Int) (a0_4:Int) (a0_5:Int) (a0_6:Int) (l0_7:List Int) (a0_8:Int) (a0_9:Int) (a0_10:Int) (a0_11:Int) (a0_12:Int) (a0_13:Int) (a1:Int):Option (Int × (List (S78)) × (List (S115)) × List Int × List Int):=(Y65.f k a0_0 l0_1 l0_2 l0_3 a0_4 a0_5 a0_6 l0_7 a0_8 a0_9 a0_10 a0_11 a1).bind fun bt914=>(some (bt914.1,bt914.2.1,bt914.2.2.1,bt914.2.2.2.1,bt914.2.2.2.2))
theorem Y54.mono:∀ a0 a1 a2 a3 a4 a5 a6 a7 a8 a9 a10 a11 a12 a13 a14 k,LeO (Y54.f k a0 a1 a2 a3 a4 a5 a6 a7 a8 a9 a10 a11 a12 a13 a14) (Y54.f (k+1) a0 a1 a2 a3 a4 a5 a6 a7 a8 a9 a10 a11 a12 a13 a14):=by
 intro a0 a1 a2 a3 a4 a5 a6 a7 a8 a9 a10 a11 a12 a13 a14 k
 have m0:=@Y65.mono
 unfold Y54.f
 exact mO
theorem Y54.calls (k:Nat) (a0_0:Int) (P0_1_:Nat→Prop) (u9000_:Value) (l0_1:List (S78)) (P0_2_:Nat→Prop) (u9001_:Value) (l0_2:List (S115)) (P0_3_:Nat→Prop) (u9002_:Value) (l0_3:List Int) (a0_4:Int) (a0_5:Int) (a0_6:Int) (P0_7_:Nat→Prop) (u9003_:Value) (l0_7:List Int) (a0_8:Int) (a0_9:Int) (a0_10:Int) (a0_11:Int) (a0_12:Int) (a0_13:Int) (a1:Int) (r1:Int) (r2:List (S78)) (r3:List (S115)) (r4:List Int) (r5:List Int) (w0 w:World) (hB:Below w0.heap.size w0 w) (ho0_1:Kd.R k78 78 w w0.heap.size P0_1_ u9000_ l0_1) (ho0_2:Kd.R k115 115 w w0.heap.size P0_2_ u9001_ l0_2) (ho0_3:Kd.R (Kd.int .i64) 2 w w0.heap.size P0_3_ u9002_ l0_3) (hp0_3_0_7:∀ k_,P0_3_ k_→¬ P0_7_ k_) (ho0_7:Kd.R (Kd.int .i64) 2 w w0.heap.size P0_7_ u9003_ l0_7) (hp0_7_0_3:∀ k_,P0_7_ k_→¬ P0_3_ k_) (h:Y54.f k a0_0 l0_1 l0_2 l0_3 a0_4 a0_5 a0_6 l0_7 a0_8 a0_9 a0_10 a0_11 a0_12 a0_13 a1=some (r1,r2,r3,r4,r5)) :
  Calls Tryz.prog 28 #[.agg #[.int .i64 a0_0,u9000_,u9001_,u9002_,.int .i64 a0_4,.int .i64 a0_5,.int .i64 a0_6,u9003_,.slice none 0 0,.slice none 0 0,.slice none 0 0,.slice none 0 0,.int .i64 a0_12,.int .i64 a0_13],.int .i64 a1] w fun e w'=>e = .returned (.int .i64 r1)∧Kd.R k78 78 w' w0.heap.size (fun k_=>((P0_1_ k_∨P0_2_ k_∨P0_3_ k_∨P0_7_ k_)∨w.heap.size≤k_)) u9000_ r2∧Kd.R k115 115 w' w0.heap.size (fun k_=>((P0_1_ k_∨P0_2_ k_∨P0_3_ k_∨P0_7_ k_)∨w.heap.size≤k_)) u9001_ r3∧Kd.R (Kd.int .i64) 2 w' w0.heap.size (fun k_=>((P0_1_ k_∨P0_2_ k_∨P0_3_ k_∨P0_7_ k_)∨w.heap.size≤k_)) u9002_ r4∧Kd.R (Kd.int .i64) 2 w' w0.heap.size (fun k_=>((P0_1_ k_∨P0_2_ k_∨P0_3_ k_∨P0_7_ k_)∨w.heap.size≤k_)) u9003_ r5∧Below w0.heap.size w0 w'∧Kept w w' (fun k_=>P0_1_ k_∨P0_2_ k_∨P0_3_ k_∨P0_7_ k_):=by
 have hu58:=Tryz.underlying58
 have hu56:=Tryz.underlying56
 have HO0_1:=aM (show Kd.R k78 78 w w0.heap.size (fun k_=>((P0_1_ k_∨P0_2_ k_∨P0_3_ k_∨P0_7_ k_)∨w.heap.size≤k_)) u9000_ l0_1 from Kd.R_mono ho0_1 (fun k_ hk=>(.inl (.inl hk))))
 have HO0_2:=aM (show Kd.R k115 115 w w0.heap.size (fun k_=>((P0_1_ k_∨P0_2_ k_∨P0_3_ k_∨P0_7_ k_)∨w.heap.size≤k_)) u9001_ l0_2 from Kd.R_mono ho0_2 (fun k_ hk=>(.inl (.inr (.inl hk)))))
 have HO0_3:=aM (show Kd.R (Kd.int .i64) 2 w w0.heap.size (fun k_=>((P0_1_ k_∨P0_2_ k_∨P0_3_ k_∨P0_7_ k_)∨w.heap.size≤k_)∧some k_≠(u9003_:Value).ownBlock) u9002_ l0_3 from Kd.R_mono ho0_3 (fun k_ hk=>⟨(.inl (.inr (.inr (.inl hk)))),fun e_=>hp0_3_0_7 k_ hk (ho0_7.1 k_ e_.symm)⟩))
 have HO0_7:=aM (show Kd.R (Kd.int .i64) 2 w w0.heap.size (fun k_=>((P0_1_ k_∨P0_2_ k_∨P0_3_ k_∨P0_7_ k_)∨w.heap.size≤k_)∧some k_≠(u9002_:Value).ownBlock) u9003_ l0_7 from Kd.R_mono ho0_7 (fun k_ hk=>⟨(.inl (.inr (.inr (.inr hk)))),fun e_=>hp0_7_0_3 k_ hk (ho0_3.1 k_ e_.symm)⟩))
 have HK:=aM (Kept.refl w (fun k_=>P0_1_ k_∨P0_2_ k_∨P0_3_ k_∨P0_7_ k_))
 have HW0:=aM hB.size
 have HB:=aM hB
 clear hB
 have H:((Y65.f k a0_0 l0_1 l0_2 l0_3 a0_4 a0_5 a0_6 l0_7 a0_8 a0_9 a0_10 a0_11 a1).bind fun bt914=>(some (bt914.1,bt914.2.1,bt914.2.2.1,bt914.2.2.2.1,bt914.2.2.2.2)))=some (r1,r2,r3,r4,r5):=h
 clear h
 replace H:=bS H
 obtain ⟨⟨t914,t915,t916,t917,t918⟩,A30,H⟩:=H
 replace H:(some (t914,t915,t916,t917,t918))=some (r1,r2,r3,r4,r5):=H
 have A3:=aM A30
 clear A30
 simp only [Option.some.injEq,Prod.mk.injEq] at H
 obtain ⟨rfl,rfl,rfl,rfl,rfl⟩:=H
 obtain ⟨Ao4,co4,eo4⟩:=Kd.R_slice HO0_1.out
 subst eo4
 obtain ⟨Ao5,co5,eo5⟩:=Kd.R_slice HO0_2.out
 subst eo5
 obtain ⟨Ao6,co6,eo6⟩:=Kd.R_slice HO0_3.out
 subst eo6
 obtain ⟨Ao7,co7,eo7⟩:=Kd.R_slice HO0_7.out
 subst eo7
 go_enter Tryz.func28,Tryz.ntmps28
 go_wp2_with (first | ((with_reducible refine gd_ 2 ?_);refine be_ 2 #[.int .i64 a0_0,.slice Ao4 l0_1.length co4,.slice Ao5 l0_2.length co5,.slice Ao6 l0_3.length co6,.int .i64 a0_4,.int .i64 a0_5,.int .i64 a0_6,.slice Ao7 l0_7.length co7,.slice none 0 0,.slice none 0 0,.slice none 0 0,.slice none 0 0,.int .i64 a0_12,.int .i64 a0_13] 58 ?_;intro gb913 hg w8 hbox hb;have n0_:=aM (Kd.R_below (z0_ HO0_1.out) hb);have n1_:=aM (Kd.R_below (z0_ HO0_2.out) hb);have n2_:=aM (Kd.R_below (z0_ HO0_3.out) hb);have n3_:=aM (Kd.R_below (z0_ HO0_7.out) hb);have n4_:=aM (Kept.below (S:=(fun k_=>P0_1_ k_∨P0_2_ k_∨P0_3_ k_∨P0_7_ k_)) (z6_ HK.out) hb);have n5_:=aM (below_step (z3_ HB.out) hb);have n6_:=aM (hbox);have n7_:=aM ((by rw [hg];exact (by first | exact HK.out.1 | exact (show Kept w _ (fun k_=>P0_1_ k_∨P0_2_ k_∨P0_3_ k_∨P0_7_ k_) from by repeat (first | (with_reducible first | exact HK.out | apply Kept.alloc | apply Kept.drewN | apply Kept.drew) | exact HK.out)).1):w.heap.size≤gb913));have n8_:=aM ((z9_ HB.out:w0.heap.size≤gb913));clear HO0_1;clear HO0_2;clear HO0_3;clear HO0_7;clear HK;clear HB;have HO0_1:=n0_;have HO0_2:=n1_;have HO0_3:=n2_;have HO0_7:=n3_;have HK:=n4_;have HB:=n5_;have BK913:=n6_;have GW913:=n7_;have GE913:=n8_;clear n0_ n1_ n2_ n3_ n4_ n5_ n6_ n7_ n8_;clear hb hbox hg;have hcz9_0:w8.cell? ⟨gb913,0,none⟩=some (.int .i64 a0_0):=(blk_cell BK913.out 0).trans rfl;have hcz9_1:w8.cell? ⟨gb913,1,none⟩=some (.slice Ao4 l0_1.length co4):=(blk_cell BK913.out 1).trans rfl;have hcz9_2:w8.cell? ⟨gb913,2,none⟩=some (.slice Ao5 l0_2.length co5):=(blk_cell BK913.out 2).trans rfl;have hcz9_3:w8.cell? ⟨gb913,3,none⟩=some (.slice Ao6 l0_3.length co6):=(blk_cell BK913.out 3).trans rfl;have hcz9_4:w8.cell? ⟨gb913,4,none⟩=some (.int .i64 a0_4):=(blk_cell BK913.out 4).trans rfl;have hcz9_5:w8.cell? ⟨gb913,5,none⟩=some (.int .i64 a0_5):=(blk_cell BK913.out 5).trans rfl;have hcz9_6:w8.cell? ⟨gb913,6,none⟩=some (.int .i64 a0_6):=(blk_cell BK913.out 6).trans rfl;have hcz9_7:w8.cell? ⟨gb913,7,none⟩=some (.slice Ao7 l0_7.length co7):=(blk_cell BK913.out 7).trans rfl;have hcz9_8:w8.cell? ⟨gb913,8,none⟩=some (.slice none 0 0):=(blk_cell BK913.out 8).trans rfl;have hcz9_9:w8.cell? ⟨gb913,9,none⟩=some (.slice none 0 0):=(blk_cell BK913.out 9).trans rfl;have hcz9_10:w8.cell? ⟨gb913,10,none⟩=some (.slice none 0 0):=(blk_cell BK913.out 10).trans rfl;have hcz9_11:w8.cell? ⟨gb913,11,none⟩=some (.slice none 0 0):=(blk_cell BK913.out 11).trans rfl;have hcz9_12:w8.cell? ⟨gb913,12,none⟩=some (.int .i64 a0_12):=(blk_cell BK913.out 12).trans rfl;have hcz9_13:w8.cell? ⟨gb913,13,none⟩=some (.int .i64 a0_13):=(blk_cell BK913.out 13).trans rfl;have hfz9_0:=blk_frozen BK913.out 0;have hfz9_1:=blk_frozen BK913.out 1;have hfz9_2:=blk_frozen BK913.out 2;have hfz9_3:=blk_frozen BK913.out 3;have hfz9_4:=blk_frozen BK913.out 4;have hfz9_5:=blk_frozen BK913.out 5;have hfz9_6:=blk_frozen BK913.out 6;have hfz9_7:=blk_frozen BK913.out 7;have hfz9_8:=blk_frozen BK913.out 8;have hfz9_9:=blk_frozen BK913.out 9;have hfz9_10:=blk_frozen BK913.out 10;have hfz9_11:=blk_frozen BK913.out 11;have hfz9_12:=blk_frozen BK913.out 12;have hfz9_13:=blk_frozen BK913.out 13) | ((with_reducible refine gc_ 61 ?_);refine gl_ (some 8) Tryz.func61 #[.agg #[.int .i64 a0_0,.slice Ao4 l0_1.length co4,.slice Ao5 l0_2.length co5,.slice Ao6 l0_3.length co6,.int .i64 a0_4,.int .i64 a0_5,.int .i64 a0_6,.slice Ao7 l0_7.length co7,.slice none 0 0,.slice none 0 0,.slice none 0 0,.slice none 0 0],.int .i64 a1] ?_;(with_reducible refine (Y65.calls k a0_0 (fun k_=>some k_=(.slice Ao4 l0_1.length co4:Value).ownBlock) (.slice Ao4 l0_1.length co4) l0_1 (fun k_=>some k_=(.slice Ao5 l0_2.length co5:Value).ownBlock) (.slice Ao5 l0_2.length co5) l0_2 (fun k_=>some k_=(.slice Ao6 l0_3.length co6:Value).ownBlock) (.slice Ao6 l0_3.length co6) l0_3 a0_4 a0_5 a0_6 (fun k_=>some k_=(.slice Ao7 l0_7.length co7:Value).ownBlock) (.slice Ao7 l0_7.length co7) l0_7 a0_8 a0_9 a0_10 a0_11 a1 t914 t915 t916 t917 t918 w0 _ ?s1 ?s2 ?s3 ?s4 ?s5 ?s6 ?s7 A3.out).mono ?_);(case s1=>repeat (first | (with_reducible first | exact HB.out | apply below_alloc | apply pw_below_drewN | apply below_drew1 | refine below_set ?_ GE913.out) | exact HB.out));(case s2=>exact Kd.R_tight rfl HO0_1.out);(case s3=>exact Kd.R_tight rfl HO0_2.out);(case s4=>exact Kd.R_tight rfl HO0_3.out);(case s5=>exact fun k_ e_=>(HO0_3.out.1 k_ e_.symm).2);(case s6=>exact Kd.R_tight rfl HO0_7.out);(case s7=>exact fun k_ e_=>(HO0_7.out.1 k_ e_.symm).2);rintro e w10 ⟨rfl,hy0,hy1,hy2,hy3,hb,hkp⟩;refine ⟨_,rfl,?_⟩;have n0_:=aM (Kd.R_reok rfl hy0 (fun k_ e_=>HO0_1.out.1 k_ e_));have n1_:=aM (Kd.R_reok rfl hy1 (fun k_ e_=>HO0_2.out.1 k_ e_));have n2_:=aM (Kd.R_reok rfl hy2 (fun k_ e_=>HO0_3.out.1 k_ e_));have n3_:=aM (Kd.R_reok rfl hy3 (fun k_ e_=>HO0_7.out.1 k_ e_));have n4_:=aM (blk_kept (z4_ BK913.out) hkp (fun hs_=>Or.elim hs_ (fun e_=>(fun e_=>(Kd.R_ne HO0_1.out BK913.out (by decide)) e_) e_) (fun e_=>Or.elim e_ (fun e_=>(fun e_=>(Kd.R_ne HO0_2.out BK913.out (by decide)) e_) e_) (fun e_=>Or.elim e_ (fun e_=>(fun e_=>(Kd.R_ne HO0_3.out BK913.out (by decide)) e_) e_) (fun e_=>(fun e_=>(Kd.R_ne HO0_7.out BK913.out (by decide)) e_) e_)))));have n5_:=aM (Kept.then_ (S:=(fun k_=>P0_1_ k_∨P0_2_ k_∨P0_3_ k_∨P0_7_ k_)) (z18_ HK.out GW913.out) hkp (fun k_ hs_=>Or.elim hs_ (fun e_=>(fun e_=>(HO0_1.out.1 k_ e_.symm)) e_) (fun e_=>Or.elim e_ (fun e_=>(fun e_=>(HO0_2.out.1 k_ e_.symm)) e_) (fun e_=>Or.elim e_ (fun e_=>(fun e_=>(HO0_3.out.1 k_ e_.symm).1) e_) (fun e_=>(fun e_=>(HO0_7.out.1 k_ e_.symm).1) e_)))));have n6_:=aM (hb);clear HO0_1;clear HO0_2;clear HO0_3;clear HO0_7;clear BK913;clear HK;clear HB;have HO0_1:=n0_;have HO0_2:=n1_;have HO0_3:=n2_;have HO0_7:=n3_;have BK913:=n4_;have HK:=n5_;have HB:=n6_;clear n0_ n1_ n2_ n3_ n4_ n5_ n6_;(try clear hb);(try clear hkp);(try clear hy0);(try clear hy1);(try clear hy2);(try clear hy3)))
 go_ret
 exact ⟨z10_,z0_ HO0_1.out,z0_ HO0_2.out,z38_ HO0_3.out,z38_ HO0_7.out,z7_ HB.out GE913.out,z18_ HK.out GW913.out⟩


/-! ### Y20: function 94 -/
def Y20.l0:Nat→List Int→Int→Int→Option (Int)
 | 0,_,_,_=>none
 | k+1,x0,x1,x5=>if x5<(x0.length:Int) then (if 0≤x5 then (if (rd x0 x5)=x1 then (Y20.l0 k x0 (wrap64 (x1+1)) (wrap64 (x5+1))) else (none)) else (none)) else (some x1)
def Y20.f (k:Nat) (l0:List Int) (a1:Int):Option (Int):=Y20.l0 k l0 a1 0
theorem Y20.mono_l:∀ k,(∀ y0 y1 y2,LeO (Y20.l0 k y0 y1 y2) (Y20.l0 (k+1) y0 y1 y2))
 | 0=>by intros <;> exact LeO.none _
 | k+1=>by
  have ih0:=Y20.mono_l k
  ·intros
   unfold Y20.l0
   exact mO
theorem Y20.mono:∀ a0 a1 k,LeO (Y20.f k a0 a1) (Y20.f (k+1) a0 a1):=by
 intro a0 a1 k
 have ih0:=Y20.mono_l k
 unfold Y20.f
 exact mO
theorem Y20.calls (k:Nat) (A0:Option Addr) (c0:Nat) (l0:List Int) (a1:Int) (r:Int) (w:World) (hr0:Kd.C (Kd.int .i64) w A0 l0.length l0) (hc0:l0.length≤c0) (h:Y20.f k l0 a1=some r) :
  Calls Tryz.prog 94 #[.slice A0 l0.length c0,.int .i64 a1] w fun e w'=>e = .returned (.int .i64 r)∧Drawn0 w w':=by
 have HR0:=aM hr0
 have HC0:=aM hc0
 clear hr0 hc0
 have H:(Y20.l0 k l0 a1 0)=some r:=h
 clear h
 have H':=aM H
 clear H
 go_enter Tryz.func94,Tryz.ntmps94
 go_wp2
 go_loopg [1,5] k (fun kq v1 v5 w'=>∃ (x1_1:Int) (x5_1:Int),v1 = .int .i64 x1_1∧v5 = .int .i64 x5_1∧Aside0 (Y20.l0 kq l0 x1_1 x5_1=some r)∧Aside0 (kq≤k)∧Drawn0 w w')
 case atStart=>exact ⟨(a1),(0),(z1_),(z1_),H',⟨Nat.le_refl _⟩,z5_⟩
 case round =>
  clear H'
  try clear p2
  obtain ⟨x1_1,x5_1,rfl,rfl,HA,HK1,⟨m1,rfl⟩⟩:=hrel
  cases gk with
  | zero=>exact absurd HA.out (by simp [Y20.l0])
  | succ k1 =>
   have H:=HA.out
   clear HA
   simp only [Y20.l0] at H
   by_cases c3:x5_1<(l0.length:Int)
   ·rw [if_pos c3] at H
    have c3b0:decide (x5_1<(l0.length:Int))=true:=dE c3
    clear c3
    by_cases c4:0≤x5_1
    ·rw [if_pos c4] at H
     have c4b0:decide (0≤x5_1)=true:=dE c4
     clear c4
     by_cases c5:(rd l0 x5_1)=x1_1
     ·rw [if_pos c5] at H
      have c5b0:((rd l0 x5_1) == x1_1)=true:=beq_iff_eq.mpr c5
      have c5b1:((rd l0 x5_1) != x1_1)=false:=bne_eq_false_iff_eq.mpr c5
      clear c5
      have H':=aM H
      clear H
      have p919:0≤(x5_1:Int):=dT (z2_)
      have q919:x5_1<(l0.length:Int):=dT (z2_)
      obtain ⟨ad919,e919,hx919_0⟩:=Kd.at_int HR0.out x5_1 p919 q919
      cases e919
      replace p919:=eq_true p919
      replace q919:=eq_true q919
      go_wp2
      go_roundg k1
      case measure=>have:=HK1.out;omega
      case rel=>exact ⟨(wrap64 (x1_1+1)),(wrap64 (x5_1+1)),(z1_),(z1_),H',⟨by have:=HK1.out;omega⟩,z5_⟩
     ·rw [if_neg c5] at H
      exact nO H
    ·rw [if_neg c4] at H
     exact nO H
   ·rw [if_neg c3] at H
    have c3b0:decide (x5_1<(l0.length:Int))=false:=dF c3
    clear c3
    obtain rfl:=sI H
    go_wp2
    go_ret
    exact ⟨z1_,z5_⟩


/-! ### Y29: function 146 -/
def Y29.l0:Nat→List (S78)→Int→Int→Option (Int)
 | 0,_,_,_=>none
 | k+1,x0,x1,x5=>if x5<(x0.length:Int) then (if 0≤x5 then (if ((rd_T78 x0 x5).f0)=x1 then (if ((rd_T78 x0 x5).f1)=(wrap64 (x1+1)) then (Y29.l0 k x0 (wrap64 ((wrap64 (x1+1))+1)) (wrap64 (x5+1))) else (none)) else (none)) else (none)) else (some x1)
def Y29.f (k:Nat) (l0:List (S78)) (a1:Int):Option (Int):=Y29.l0 k l0 a1 0
theorem Y29.mono_l:∀ k,(∀ y0 y1 y2,LeO (Y29.l0 k y0 y1 y2) (Y29.l0 (k+1) y0 y1 y2))
 | 0=>by intros <;> exact LeO.none _
 | k+1=>by
  have ih0:=Y29.mono_l k
  ·intros
   unfold Y29.l0
   exact mO
theorem Y29.mono:∀ a0 a1 k,LeO (Y29.f k a0 a1) (Y29.f (k+1) a0 a1):=by
 intro a0 a1 k
 have ih0:=Y29.mono_l k
 unfold Y29.f
 exact mO
theorem Y29.calls (k:Nat) (A0:Option Addr) (c0:Nat) (l0:List (S78)) (a1:Int) (r:Int) (w:World) (hr0:Kd.C k78 w A0 l0.length l0) (hc0:l0.length≤c0) (h:Y29.f k l0 a1=some r) :
  Calls Tryz.prog 146 #[.slice A0 l0.length c0,.int .i64 a1] w fun e w'=>e = .returned (.int .i64 r)∧Drawn0 w w':=by
 have HR0:=aM hr0
 have HC0:=aM hc0
 clear hr0 hc0
 have H:(Y29.l0 k l0 a1 0)=some r:=h
 clear h
 have H':=aM H
 clear H
 go_enter Tryz.func146,Tryz.ntmps146
 go_wp2
 go_loopg [1,5] k (fun kq v1 v5 w'=>∃ (x1_1:Int) (x5_1:Int),v1 = .int .i64 x1_1∧v5 = .int .i64 x5_1∧Aside0 (Y29.l0 kq l0 x1_1 x5_1=some r)∧Aside0 (kq≤k)∧Drawn0 w w')
 case atStart=>exact ⟨(a1),(0),(z1_),(z1_),H',⟨Nat.le_refl _⟩,z5_⟩
 case round =>
  clear H'
  try clear c1
  try clear p2
  obtain ⟨x1_1,x5_1,rfl,rfl,HA,HK1,⟨m1,rfl⟩⟩:=hrel
  cases gk with
  | zero=>exact absurd HA.out (by simp [Y29.l0])
  | succ k1 =>
   have H:=HA.out
   clear HA
   simp only [Y29.l0] at H
   by_cases c3:x5_1<(l0.length:Int)
   ·rw [if_pos c3] at H
    have c3b0:decide (x5_1<(l0.length:Int))=true:=dE c3
    clear c3
    by_cases c4:0≤x5_1
    ·rw [if_pos c4] at H
     have c4b0:decide (0≤x5_1)=true:=dE c4
     clear c4
     by_cases c5:((rd_T78 l0 x5_1).f0)=x1_1
     ·rw [if_pos c5] at H
      have c5b0:(((rd_T78 l0 x5_1).f0) == x1_1)=true:=beq_iff_eq.mpr c5
      have c5b1:(((rd_T78 l0 x5_1).f0) != x1_1)=false:=bne_eq_false_iff_eq.mpr c5
      clear c5
      by_cases c6:((rd_T78 l0 x5_1).f1)=(wrap64 (x1_1+1))
      ·rw [if_pos c6] at H
       have c6b0:(((rd_T78 l0 x5_1).f1) == (wrap64 (x1_1+1)))=true:=beq_iff_eq.mpr c6
       have c6b1:(((rd_T78 l0 x5_1).f1) != (wrap64 (x1_1+1)))=false:=bne_eq_false_iff_eq.mpr c6
       clear c6
       have H':=aM H
       clear H
       have p920:0≤(x5_1:Int):=dT (z2_)
       have q920:x5_1<(l0.length:Int):=dT (z2_)
       obtain ⟨ad920,e920,hx920_0,hx920_1⟩:=at_T78 HR0.out x5_1 p920 q920
       cases e920
       replace p920:=eq_true p920
       replace q920:=eq_true q920
       have p921:0≤(x5_1:Int):=dT (z2_)
       have q921:x5_1<(l0.length:Int):=dT (z2_)
       obtain ⟨ad921,e921,hx921_0,hx921_1⟩:=at_T78 HR0.out x5_1 p921 q921
       obtain rfl:ad920=ad921:=(by injection e921)
       replace p921:=eq_true p921
       replace q921:=eq_true q921
       go_wp2
       go_roundg k1
       case measure=>have:=HK1.out;omega
       case rel=>exact ⟨(wrap64 ((wrap64 (x1_1+1))+1)),(wrap64 (x5_1+1)),(z1_),(z1_),H',⟨by have:=HK1.out;omega⟩,z5_⟩
      ·rw [if_neg c6] at H
       exact nO H
     ·rw [if_neg c5] at H
      exact nO H
    ·rw [if_neg c4] at H
     exact nO H
   ·rw [if_neg c3] at H
    have c3b0:decide (x5_1<(l0.length:Int))=false:=dF c3
    clear c3
    obtain rfl:=sI H
    go_wp2
    go_ret
    exact ⟨z1_,z5_⟩


/-! ### Y72: function 120 -/
def Y72.f (k:Nat) (a0_0:Int) (l0_1:List (S78)) (a1:Int):Option (Int):=(Y29.f k l0_1 a1).bind fun t923=>(if t923<0 then (none) else (some t923))
theorem Y72.mono:∀ a0 a1 a2 k,LeO (Y72.f k a0 a1 a2) (Y72.f (k+1) a0 a1 a2):=by
 intro a0 a1 a2 k
 have m0:=@Y29.mono
 unfold Y72.f
 exact mO
theorem Y72.calls (k:Nat) (a0_0:Int) (A0_1:Option Addr) (c0_1:Nat) (l0_1:List (S78)) (a1:Int) (r:Int) (w:World) (hr0_1:Kd.C k78 w A0_1 l0_1.length l0_1) (hc0_1:l0_1.length≤c0_1) (h:Y72.f k a0_0 l0_1 a1=some r) :
  Calls Tryz.prog 120 #[.agg #[.int .i64 a0_0,.slice A0_1 l0_1.length c0_1],.int .i64 a1] w fun e w'=>e = .returned (.int .i64 r)∧Below w.heap.size w w':=by
 have hu27:=Tryz.underlying27
 have HR0_1:=aM hr0_1
 have HC0_1:=aM hc0_1
 clear hr0_1 hc0_1
 have HB:=aM (Below.refl w.heap.size w)
 have H:((Y29.f k l0_1 a1).bind fun t923=>(if t923<0 then (none) else (some t923)))=some r:=h
 clear h
 replace H:=bS H
 obtain ⟨t923,A30,H⟩:=H
 replace H:(if t923<0 then (none) else (some t923))=some r:=H
 have A3:=aM A30
 clear A30
 by_cases c4:t923<0
 ·rw [if_pos c4] at H
  exact nO H
 ·rw [if_neg c4] at H
  have c4b0:decide (t923<0)=false:=dF c4
  clear c4
  obtain rfl:=sI H
  go_enter Tryz.func120,Tryz.ntmps120
  go_wp2_with (first | ((with_reducible refine gd_ 2 ?_);refine be_ 2 #[.int .i64 a0_0,.slice A0_1 l0_1.length c0_1] 27 ?_;intro gb922 hg w5 hbox hb;have n0_:=aM (below_step (z3_ HB.out) hb);have n1_:=aM (hbox);have n2_:=aM ((z9_ HB.out:w.heap.size≤gb922));have n3_:=aM ((z9_ HB.out:w.heap.size≤gb922));clear HB;have HB:=n0_;have BK922:=n1_;have GW922:=n2_;have GE922:=n3_;clear n0_ n1_ n2_ n3_;clear hb hbox hg;have ⟨hcz6_0,hcz6_1,hfz6_0,hfz6_1⟩:=cz2_ BK922.out) | ((with_reducible refine gc_ 146 ?_);refine gl_ (some 8) Tryz.func146 #[.slice A0_1 l0_1.length c0_1,.int .i64 a1] ?_;(with_reducible refine (Y29.calls k _ _ l0_1 a1 t923 _ ?s1 ?s2 A3.out).mono ?_);(case s1=>repeat (first | exact (Kd.C_below HR0_1.out HB.out) | (with_reducible refine Kd.C_alloc ?_ _) | (with_reducible refine Kd.C_drewN ?_ _) | (with_reducible refine Kd.C_drew ?_)));(case s2=>exact HC0_1.out);rintro e w' ⟨rfl,⟨nd,rfl⟩⟩;refine ⟨_,rfl,?_⟩))
  go_ret
  exact ⟨z10_,z7_ HB.out GE922.out⟩


/-! ### Y33: function 147 -/
def Y33.l0:Nat→Int→Int→Option (Int)
 | 0,_,_=>none
 | k+1,x1,x5=>if x5<0 then (none) else (some x1)
def Y33.f (k:Nat) (a0:Int) (a1:Int):Option (Int):=Y33.l0 k a1 0
theorem Y33.mono_l:∀ k,(∀ y0 y1,LeO (Y33.l0 k y0 y1) (Y33.l0 (k+1) y0 y1))
 | 0=>by intros <;> exact LeO.none _
 | k+1=>by
  have ih0:=Y33.mono_l k
  ·intros
   unfold Y33.l0
   exact mO
theorem Y33.mono:∀ a0 a1 k,LeO (Y33.f k a0 a1) (Y33.f (k+1) a0 a1):=by
 intro a0 a1 k
 have ih0:=Y33.mono_l k
 unfold Y33.f
 exact mO
theorem Y33.calls (k:Nat) (a0:Int) (a1:Int) (r:Int) (w:World) (h:Y33.f k a0 a1=some r) :
  Calls Tryz.prog 147 #[.slice none 0 0,.int .i64 a1] w fun e w'=>e = .returned (.int .i64 r)∧Drawn0 w w':=by
 have H:(Y33.l0 k a1 0)=some r:=h
 clear h
 have H':=aM H
 clear H
 go_enter Tryz.func147,Tryz.ntmps147
 go_wp2
 go_loopg [1,5] k (fun kq v1 v5 w'=>∃ (x1_1:Int) (x5_1:Int),v1 = .int .i64 x1_1∧v5 = .int .i64 x5_1∧Aside0 (Y33.l0 kq x1_1 x5_1=some r)∧Aside0 (kq≤k)∧Drawn0 w w')
 case atStart=>exact ⟨(a1),(0),(z1_),(z1_),H',⟨Nat.le_refl _⟩,z5_⟩
 case round =>
  clear H'
  try clear c1
  try clear p2
  obtain ⟨x1_1,x5_1,rfl,rfl,HA,HK1,⟨m1,rfl⟩⟩:=hrel
  cases gk with
  | zero=>exact absurd HA.out (by simp [Y33.l0])
  | succ k1 =>
   have H:=HA.out
   clear HA
   simp only [Y33.l0] at H
   by_cases c3:x5_1<0
   ·rw [if_pos c3] at H
    exact nO H
   ·rw [if_neg c3] at H
    have c3b0:decide (x5_1<0)=false:=dF c3
    clear c3
    obtain rfl:=sI H
    go_wp2
    go_ret
    exact ⟨z1_,z5_⟩


/-! ### Y11: function 121 -/
def Y11.l0:Nat→List (S115)→Int→Int→Option (Int)
 | 0,_,_,_=>none
 | k+1,x0,x1,x5=>if x5<(x0.length:Int) then (if 0≤x5 then (if ((rd_T115 x0 x5).f0)=x1 then ((Y33.f k ((rd_T115 x0 x5).f1) (wrap64 (x1+1))).bind fun t926=>(if t926<0 then (none) else ((Y16.f k t926).bind fun t928=>(if ((rd_T115 x0 x5).f2).toList=t928.toList then (if ((rd_T115 x0 x5).f3)=(wrap64 (t926+1)) then (Y11.l0 k x0 (wrap64 ((wrap64 (t926+1))+1)) (wrap64 (x5+1))) else (none)) else (none))))) else (none)) else (none)) else (some x1)
def Y11.f (k:Nat) (l0:List (S115)) (a1:Int):Option (Int):=Y11.l0 k l0 a1 0
theorem Y11.mono_l:∀ k,(∀ y0 y1 y2,LeO (Y11.l0 k y0 y1 y2) (Y11.l0 (k+1) y0 y1 y2))
 | 0=>by intros <;> exact LeO.none _
 | k+1=>by
  have ih0:=Y11.mono_l k
  have m0:=@Y33.mono
  have m1:=@Y16.mono
  ·intros
   unfold Y11.l0
   exact mO
theorem Y11.mono:∀ a0 a1 k,LeO (Y11.f k a0 a1) (Y11.f (k+1) a0 a1):=by
 intro a0 a1 k
 have m0:=@Y33.mono
 have m1:=@Y16.mono
 have ih0:=Y11.mono_l k
 unfold Y11.f
 exact mO
def Y11.T10:Bool × List (List Nat × List Nat):=(true,[([],[]),([],[]),([0,1],[0,1]),([2],[2]),([3],[3]),([],[]),([5],[5]),([4,6],[4,6])])
def Y11.B10:List Nat:=[0,0,3,7,15,0,32,127]
theorem Y11.tab10:rtab .any (opsOf Tryz.f121 10)=Y11.T10:=by kernel_rfl
theorem Y11.bits10:waitsOk Y11.T10.2 Y11.B10=true:=by kernel_rfl
theorem Y11.calls (k:Nat) (A0:Option Addr) (c0:Nat) (l0:List (S115)) (a1:Int) (r:Int) (w:World) (hr0:Kd.C k115 w A0 l0.length l0) (hc0:l0.length≤c0) (h:Y11.f k l0 a1=some r) :
  Calls Tryz.prog 121 #[.slice A0 l0.length c0,.int .i64 a1] w fun e w'=>e = .returned (.int .i64 r)∧Below w.heap.size w w':=by
 have HR0:=aM hr0
 have HC0:=aM hc0
 clear hr0 hc0
 have HB:=aM (Below.refl w.heap.size w)
 have H:(Y11.l0 k l0 a1 0)=some r:=h
 clear h
 have H':=aM H
 clear H
 go_enter Tryz.func121,Tryz.ntmps121
 go_wp2
 go_loopg [1,5] k (fun kq v1 v5 w'=>∃ (x1_1:Int) (x5_1:Int),v1 = .int .i64 x1_1∧v5 = .int .i64 x5_1∧Aside0 (Y11.l0 kq l0 x1_1 x5_1=some r)∧Aside0 (kq≤k)∧Aside0 (Below w.heap.size w w'))
 case atStart=>exact ⟨(a1),(0),(z1_),(z1_),H',⟨Nat.le_refl _⟩,⟨z3_ HB.out⟩⟩
 case round =>
  clear H'
  try clear c1
  try clear p2
  obtain ⟨x1_1,x5_1,rfl,rfl,HA,HK1,HB⟩:=hrel
  cases gk with
  | zero=>exact absurd HA.out (by simp [Y11.l0])
  | succ k1 =>
   have H:=HA.out
   clear HA
   simp only [Y11.l0] at H
   by_cases c3:x5_1<(l0.length:Int)
   ·rw [if_pos c3] at H
    have c3b0:decide (x5_1<(l0.length:Int))=true:=dE c3
    clear c3
    by_cases c4:0≤x5_1
    ·rw [if_pos c4] at H
     have c4b0:decide (0≤x5_1)=true:=dE c4
     clear c4
     by_cases c5:((rd_T115 l0 x5_1).f0)=x1_1
     ·rw [if_pos c5] at H
      have c5b0:(((rd_T115 l0 x5_1).f0) == x1_1)=true:=beq_iff_eq.mpr c5
      have c5b1:(((rd_T115 l0 x5_1).f0) != x1_1)=false:=bne_eq_false_iff_eq.mpr c5
      clear c5
      replace H:=bS H
      obtain ⟨t926,A60,H⟩:=H
      replace H:(if t926<0 then (none) else ((Y16.f k1 t926).bind fun t928=>(if ((rd_T115 l0 x5_1).f2).toList=t928.toList then (if ((rd_T115 l0 x5_1).f3)=(wrap64 (t926+1)) then (Y11.l0 k1 l0 (wrap64 ((wrap64 (t926+1))+1)) (wrap64 (x5_1+1))) else (none)) else (none))))=some r:=H
      have A6:=aM A60
      clear A60
      by_cases c7:t926<0
      ·rw [if_pos c7] at H
       exact nO H
      ·rw [if_neg c7] at H
       have c7b0:decide (t926<0)=false:=dF c7
       clear c7
       replace H:=bS H
       obtain ⟨t928,A80,H⟩:=H
       replace H:(if ((rd_T115 l0 x5_1).f2).toList=t928.toList then (if ((rd_T115 l0 x5_1).f3)=(wrap64 (t926+1)) then (Y11.l0 k1 l0 (wrap64 ((wrap64 (t926+1))+1)) (wrap64 (x5_1+1))) else (none)) else (none))=some r:=H
       have A8:=aM A80
       clear A80
       by_cases c9:((rd_T115 l0 x5_1).f2).toList=t928.toList
       ·rw [if_pos c9] at H
        have c9b0:(((rd_T115 l0 x5_1).f2).toList == t928.toList)=true:=beq_iff_eq.mpr c9
        have c9b1:(((rd_T115 l0 x5_1).f2).toList != t928.toList)=false:=bne_eq_false_iff_eq.mpr c9
        clear c9
        by_cases c10:((rd_T115 l0 x5_1).f3)=(wrap64 (t926+1))
        ·rw [if_pos c10] at H
         have c10b0:(((rd_T115 l0 x5_1).f3) == (wrap64 (t926+1)))=true:=beq_iff_eq.mpr c10
         have c10b1:(((rd_T115 l0 x5_1).f3) != (wrap64 (t926+1)))=false:=bne_eq_false_iff_eq.mpr c10
         clear c10
         have H':=aM H
         clear H
         have p924:0≤(x5_1:Int):=dT (z2_)
         have q924:x5_1<(l0.length:Int):=dT (z2_)
         obtain ⟨ad924,e924,hx924_0,hx924_1,hx924_2,hx924_3⟩:=at_T115 HR0.out x5_1 p924 q924
         cases e924
         replace hx924_0:=(HB.out.cell (World.block_lt_of_cell? w _ hx924_0)).trans hx924_0
         replace hx924_1:=(HB.out.cell (World.block_lt_of_cell? w _ hx924_1)).trans hx924_1
         replace hx924_2:=(HB.out.cell (World.block_lt_of_cell? w _ hx924_2)).trans hx924_2
         replace hx924_3:=(HB.out.cell (World.block_lt_of_cell? w _ hx924_3)).trans hx924_3
         replace p924:=eq_true p924
         replace q924:=eq_true q924
         have p925:0≤(x5_1:Int):=dT (z2_)
         have q925:x5_1<(l0.length:Int):=dT (z2_)
         obtain ⟨ad925,e925,hx925_0,hx925_1,hx925_2,hx925_3⟩:=at_T115 HR0.out x5_1 p925 q925
         obtain rfl:ad924=ad925:=(by injection e925)
         replace hx925_0:=(HB.out.cell (World.block_lt_of_cell? w _ hx925_0)).trans hx925_0
         replace hx925_1:=(HB.out.cell (World.block_lt_of_cell? w _ hx925_1)).trans hx925_1
         replace hx925_2:=(HB.out.cell (World.block_lt_of_cell? w _ hx925_2)).trans hx925_2
         replace hx925_3:=(HB.out.cell (World.block_lt_of_cell? w _ hx925_3)).trans hx925_3
         replace p925:=eq_true p925
         replace q925:=eq_true q925
         try go_wp2_with (first | ((with_reducible refine gc_ 147 ?_);refine gl_ (some 27) Tryz.func147 #[.slice none 0 0,.int .i64 (wrap64 (x1_1+1))] ?_;(with_reducible refine (Y33.calls k1 ((rd_T115 l0 x5_1).f1) (wrap64 (x1_1+1)) t926 _ A6.out).mono ?_);rintro e w' ⟨rfl,⟨nd,rfl⟩⟩;refine ⟨_,rfl,?_⟩))
         (try (rw [drewN_self wr];generalize hq_:World.drewN wr _=wr;have n0_:Aside0 (Below w.heap.size w wr):=⟨by rw [← hq_];exact (by repeat (first | (with_reducible first | exact HB.out | apply below_alloc | apply pw_below_drewN | apply below_drew1) | exact HB.out))⟩;clear HB hq_;have HB:=n0_;clear n0_))
         have n0_:=aM (below_drew1 HB.out)
         clear HB
         have HB:=n0_
         clear n0_
         have p927:0≤(x5_1:Int):=dT (z2_)
         have q927:x5_1<(l0.length:Int):=dT (z2_)
         obtain ⟨ad927,e927,hx927_0,hx927_1,hx927_2,hx927_3⟩:=at_T115 HR0.out x5_1 p927 q927
         have hw927_3:=hx927_3
         have hw927_2:=hx927_2
         have hw927_1:=hx927_1
         have hw927_0:=hx927_0
         obtain rfl:ad924=ad927:=(by injection e927)
         replace hx927_0:=(HB.out.cell (World.block_lt_of_cell? w _ hx927_0)).trans hx927_0
         replace hx927_1:=(HB.out.cell (World.block_lt_of_cell? w _ hx927_1)).trans hx927_1
         replace hx927_2:=(HB.out.cell (World.block_lt_of_cell? w _ hx927_2)).trans hx927_2
         replace hx927_3:=(HB.out.cell (World.block_lt_of_cell? w _ hx927_3)).trans hx927_3
         replace p927:=eq_true p927
         replace q927:=eq_true q927
         refine start_ (n:=8) (S:=fun w'=>w'.cell? (ad924.add ((x5_1).toNat*4))=some (.int .i64 ((rd_T115 l0 x5_1).f0))∧w'.cell? ⟨(ad924.add ((x5_1).toNat*4)).block,(ad924.add ((x5_1).toNat*4)).off+1,none⟩=some (.slice none 0 0)∧w'.cell? ⟨(ad924.add ((x5_1).toNat*4)).block,(ad924.add ((x5_1).toNat*4)).off+2,none⟩=some (.string ((rd_T115 l0 x5_1).f2))∧w'.cell? ⟨(ad924.add ((x5_1).toNat*4)).block,(ad924.add ((x5_1).toNat*4)).off+3,none⟩=some (.int .i64 ((rd_T115 l0 x5_1).f3))) (ds:=[]) #[O,O,O,O,O,O,O,O] (by kernel_rfl) rfl rfl ⟨((HB.out.cell (World.block_lt_of_cell? w _ hw927_0)).trans hw927_0),((HB.out.cell (World.block_lt_of_cell? w _ hw927_1)).trans hw927_1),((HB.out.cell (World.block_lt_of_cell? w _ hw927_2)).trans hw927_2),((HB.out.cell (World.block_lt_of_cell? w _ hw927_3)).trans hw927_3)⟩ (fun hHeld=>?_);refine with_tabW Y11.tab10 Y11.bits10 (fun HT_ HW_=>?_)
         generalize wr.drew=w11 at HB hx927_0 hx927_1 hx927_2 hx927_3 hHeld ⊢
         refine pu_ 0 30 #[I,O,O,O,O,O,O,O] HT_.out ?_
         refine pu_ 1 31 #[I,I,O,O,O,O,O,O] HT_.out ?_
         refine pu_ 2 32 #[I,I,I,O,O,O,O,O] HT_.out ?_
         refine pu_ 3 33 #[I,I,I,I,O,O,O,O] HT_.out ?_
         refine pu_ 5 35 #[I,I,I,I,O,I,O,O] HT_.out ?_
         refine tk4_ 4 34 #[I,I,I,I,I,I,O,O] HT_.out HW_.out hHeld ?_
         refine o1_ 6 36 #[I,I,I,I,I,I,I,O] HT_.out (fun K hK=>?_)
         refine gs_ Tryz.func115 #[.int .i64 t926] ?_
         with_reducible refine (Y16.calls k1 t926 t928 _ A8.out).mono ?_
         rintro e w12 ⟨rfl,hb⟩
         refine ⟨_,rfl,?_⟩
         have n0_:=aM (below_step (z3_ HB.out) hb)
         clear HB
         have HB:=n0_
         clear n0_
         (try clear hb)
         refine hK.out _ _ ⟨((HB.out.cell (World.block_lt_of_cell? w _ hw927_0)).trans hw927_0),((HB.out.cell (World.block_lt_of_cell? w _ hw927_1)).trans hw927_1),((HB.out.cell (World.block_lt_of_cell? w _ hw927_2)).trans hw927_2),((HB.out.cell (World.block_lt_of_cell? w _ hw927_3)).trans hw927_3)⟩ (fun hHeld=>?_)
         clear hK K
         refine nm_ 36 ?_
         refine pu_ 7 37 #[I,I,I,I,I,I,I,I] HT_.out ?_
         refine done_ (done_of HT_.out (by kernel_rfl)) ?_
         have p929:0≤(x5_1:Int):=dT (z2_)
         have q929:x5_1<(l0.length:Int):=dT (z2_)
         obtain ⟨ad929,e929,hx929_0,hx929_1,hx929_2,hx929_3⟩:=at_T115 HR0.out x5_1 p929 q929
         obtain rfl:ad924=ad929:=(by injection e929)
         replace hx929_0:=(HB.out.cell (World.block_lt_of_cell? w _ hx929_0)).trans hx929_0
         replace hx929_1:=(HB.out.cell (World.block_lt_of_cell? w _ hx929_1)).trans hx929_1
         replace hx929_2:=(HB.out.cell (World.block_lt_of_cell? w _ hx929_2)).trans hx929_2
         replace hx929_3:=(HB.out.cell (World.block_lt_of_cell? w _ hx929_3)).trans hx929_3
         replace p929:=eq_true p929
         replace q929:=eq_true q929
         try go_wp2
         go_roundg k1
         case measure=>have:=HK1.out;omega
         case rel=>exact ⟨(wrap64 ((wrap64 (t926+1))+1)),(wrap64 (x5_1+1)),(z1_),(z1_),H',⟨by have:=HK1.out;omega⟩,⟨z3_ HB.out⟩⟩
        ·rw [if_neg c10] at H
         exact nO H
       ·rw [if_neg c9] at H
        exact nO H
     ·rw [if_neg c5] at H
      exact nO H
    ·rw [if_neg c4] at H
     exact nO H
   ·rw [if_neg c3] at H
    have c3b0:decide (x5_1<(l0.length:Int))=false:=dF c3
    clear c3
    obtain rfl:=sI H
    go_wp2
    go_ret
    exact ⟨z10_,z3_ HB.out⟩


/-! ### Y62: function 93 -/
def Y62.f (k:Nat) (a0_0:Int) (l0_1:List (S78)) (l0_2:List (S115)) (l0_3:List Int) (a0_4:Int) (a0_5:Int) (a0_6:Int) (a1:Int):Option (Int):=(Y72.f k a0_0 l0_1 a1).bind fun t931=>(if t931<0 then (none) else ((Y11.f k l0_2 t931).bind fun t932=>(if t932<0 then (none) else ((Y20.f k l0_3 t932).bind fun t933=>(if t933<0 then (none) else (some t933))))))
theorem Y62.mono:∀ a0 a1 a2 a3 a4 a5 a6 a7 k,LeO (Y62.f k a0 a1 a2 a3 a4 a5 a6 a7) (Y62.f (k+1) a0 a1 a2 a3 a4 a5 a6 a7):=by
 intro a0 a1 a2 a3 a4 a5 a6 a7 k
 have m0:=@Y20.mono
 have m1:=@Y72.mono
 have m2:=@Y11.mono
 unfold Y62.f
 exact mO
theorem Y62.calls (k:Nat) (a0_0:Int) (A0_1:Option Addr) (c0_1:Nat) (l0_1:List (S78)) (A0_2:Option Addr) (c0_2:Nat) (l0_2:List (S115)) (A0_3:Option Addr) (c0_3:Nat) (l0_3:List Int) (a0_4:Int) (a0_5:Int) (a0_6:Int) (a1:Int) (r:Int) (w:World) (hr0_1:Kd.C k78 w A0_1 l0_1.length l0_1) (hc0_1:l0_1.length≤c0_1) (hr0_2:Kd.C k115 w A0_2 l0_2.length l0_2) (hc0_2:l0_2.length≤c0_2) (hr0_3:Kd.C (Kd.int .i64) w A0_3 l0_3.length l0_3) (hc0_3:l0_3.length≤c0_3) (h:Y62.f k a0_0 l0_1 l0_2 l0_3 a0_4 a0_5 a0_6 a1=some r) :
  Calls Tryz.prog 93 #[.agg #[.int .i64 a0_0,.slice A0_1 l0_1.length c0_1,.slice A0_2 l0_2.length c0_2,.slice A0_3 l0_3.length c0_3,.int .i64 a0_4,.int .i64 a0_5,.int .i64 a0_6],.int .i64 a1] w fun e w'=>e = .returned (.int .i64 r)∧Below w.heap.size w w':=by
 have hu50:=Tryz.underlying50
 have hu27:=Tryz.underlying27
 have HR0_1:=aM hr0_1
 have HC0_1:=aM hc0_1
 clear hr0_1 hc0_1
 have HR0_2:=aM hr0_2
 have HC0_2:=aM hc0_2
 clear hr0_2 hc0_2
 have HR0_3:=aM hr0_3
 have HC0_3:=aM hc0_3
 clear hr0_3 hc0_3
 have HB:=aM (Below.refl w.heap.size w)
 have H:((Y72.f k a0_0 l0_1 a1).bind fun t931=>(if t931<0 then (none) else ((Y11.f k l0_2 t931).bind fun t932=>(if t932<0 then (none) else ((Y20.f k l0_3 t932).bind fun t933=>(if t933<0 then (none) else (some t933)))))))=some r:=h
 clear h
 replace H:=bS H
 obtain ⟨t931,A30,H⟩:=H
 replace H:(if t931<0 then (none) else ((Y11.f k l0_2 t931).bind fun t932=>(if t932<0 then (none) else ((Y20.f k l0_3 t932).bind fun t933=>(if t933<0 then (none) else (some t933))))))=some r:=H
 have A3:=aM A30
 clear A30
 by_cases c4:t931<0
 ·rw [if_pos c4] at H
  exact nO H
 ·rw [if_neg c4] at H
  have c4b0:decide (t931<0)=false:=dF c4
  clear c4
  replace H:=bS H
  obtain ⟨t932,A50,H⟩:=H
  replace H:(if t932<0 then (none) else ((Y20.f k l0_3 t932).bind fun t933=>(if t933<0 then (none) else (some t933))))=some r:=H
  have A5:=aM A50
  clear A50
  by_cases c6:t932<0
  ·rw [if_pos c6] at H
   exact nO H
  ·rw [if_neg c6] at H
   have c6b0:decide (t932<0)=false:=dF c6
   clear c6
   replace H:=bS H
   obtain ⟨t933,A70,H⟩:=H
   replace H:(if t933<0 then (none) else (some t933))=some r:=H
   have A7:=aM A70
   clear A70
   by_cases c8:t933<0
   ·rw [if_pos c8] at H
    exact nO H
   ·rw [if_neg c8] at H
    have c8b0:decide (t933<0)=false:=dF c8
    clear c8
    obtain rfl:=sI H
    go_enter Tryz.func93,Tryz.ntmps93
    go_wp2_with (first | ((with_reducible refine gd_ 2 ?_);refine be_ 2 #[.int .i64 a0_0,.slice A0_1 l0_1.length c0_1,.slice A0_2 l0_2.length c0_2,.slice A0_3 l0_3.length c0_3,.int .i64 a0_4,.int .i64 a0_5,.int .i64 a0_6] 50 ?_;intro gb930 hg w9 hbox hb;have n0_:=aM (below_step (z3_ HB.out) hb);have n1_:=aM (hbox);have n2_:=aM ((z9_ HB.out:w.heap.size≤gb930));have n3_:=aM ((z9_ HB.out:w.heap.size≤gb930));clear HB;have HB:=n0_;have BK930:=n1_;have GW930:=n2_;have GE930:=n3_;clear n0_ n1_ n2_ n3_;clear hb hbox hg;have ⟨hcz10_0,hcz10_1,hcz10_2,hcz10_3,hcz10_4,hcz10_5,hcz10_6,hfz10_0,hfz10_1,hfz10_2,hfz10_3,hfz10_4,hfz10_5,hfz10_6⟩:=cz7_ BK930.out) | ((with_reducible refine gc_ 120 ?_);refine gl_ (some 8) Tryz.func120 #[.agg #[.int .i64 a0_0,.slice A0_1 l0_1.length c0_1],.int .i64 a1] ?_;(with_reducible refine (Y72.calls k a0_0 _ _ l0_1 a1 t931 _ ?s1 ?s2 A3.out).mono ?_);(case s1=>repeat (first | exact (Kd.C_below HR0_1.out HB.out) | (with_reducible refine Kd.C_alloc ?_ _) | (with_reducible refine Kd.C_drewN ?_ _) | (with_reducible refine Kd.C_drew ?_)));(case s2=>exact HC0_1.out);rintro e w11 ⟨rfl,hb⟩;refine ⟨_,rfl,?_⟩;have n0_:=aM (blkB_ BK930.out hb);have n1_:=aM (below_step (z7_ HB.out GE930.out) hb);clear BK930;clear HB;have BK930:=n0_;have HB:=n1_;clear n0_ n1_;(try clear hb);have ⟨hcz12_0,hcz12_1,hcz12_2,hcz12_3,hcz12_4,hcz12_5,hcz12_6,hfz12_0,hfz12_1,hfz12_2,hfz12_3,hfz12_4,hfz12_5,hfz12_6⟩:=cz7_ BK930.out) | ((with_reducible refine gc_ 121 ?_);refine gl_ (some 14) Tryz.func121 #[.slice A0_2 l0_2.length c0_2,.int .i64 t931] ?_;(with_reducible refine (Y11.calls k _ _ l0_2 t931 t932 _ ?s1 ?s2 A5.out).mono ?_);(case s1=>repeat (first | exact (Kd.C_below HR0_2.out HB.out) | (with_reducible refine Kd.C_alloc ?_ _) | (with_reducible refine Kd.C_drewN ?_ _) | (with_reducible refine Kd.C_drew ?_)));(case s2=>exact HC0_2.out);rintro e w13 ⟨rfl,hb⟩;refine ⟨_,rfl,?_⟩;have n0_:=aM (blkB_ BK930.out hb);have n1_:=aM (below_step (z7_ HB.out GE930.out) hb);clear BK930;clear HB;have BK930:=n0_;have HB:=n1_;clear n0_ n1_;(try clear hb);have ⟨hcz14_0,hcz14_1,hcz14_2,hcz14_3,hcz14_4,hcz14_5,hcz14_6,hfz14_0,hfz14_1,hfz14_2,hfz14_3,hfz14_4,hfz14_5,hfz14_6⟩:=cz7_ BK930.out) | ((with_reducible refine gc_ 94 ?_);refine gl_ (some 20) Tryz.func94 #[.slice A0_3 l0_3.length c0_3,.int .i64 t932] ?_;(with_reducible refine (Y20.calls k _ _ l0_3 t932 t933 _ ?s1 ?s2 A7.out).mono ?_);(case s1=>repeat (first | exact (Kd.C_below HR0_3.out HB.out) | (with_reducible refine Kd.C_alloc ?_ _) | (with_reducible refine Kd.C_drewN ?_ _) | (with_reducible refine Kd.C_drew ?_)));(case s2=>exact HC0_3.out);rintro e w' ⟨rfl,⟨nd,rfl⟩⟩;refine ⟨_,rfl,?_⟩))
    go_ret
    exact ⟨z10_,z7_ HB.out GE930.out⟩


/-! ### Y41: function 95 -/
def Y41.l0:Nat→Int→Int→Option (Int)
 | 0,_,_=>none
 | k+1,x1,x5=>if x5<0 then (none) else (some x1)
def Y41.f (k:Nat) (a0:Int) (a1:Int):Option (Int):=Y41.l0 k a1 0
theorem Y41.mono_l:∀ k,(∀ y0 y1,LeO (Y41.l0 k y0 y1) (Y41.l0 (k+1) y0 y1))
 | 0=>by intros <;> exact LeO.none _
 | k+1=>by
  have ih0:=Y41.mono_l k
  ·intros
   unfold Y41.l0
   exact mO
theorem Y41.mono:∀ a0 a1 k,LeO (Y41.f k a0 a1) (Y41.f (k+1) a0 a1):=by
 intro a0 a1 k
 have ih0:=Y41.mono_l k
 unfold Y41.f
 exact mO
theorem Y41.calls (k:Nat) (a0:Int) (a1:Int) (r:Int) (w:World) (h:Y41.f k a0 a1=some r) :
  Calls Tryz.prog 95 #[.slice none 0 0,.int .i64 a1] w fun e w'=>e = .returned (.int .i64 r)∧Drawn0 w w':=by
 have H:(Y41.l0 k a1 0)=some r:=h
 clear h
 have H':=aM H
 clear H
 go_enter Tryz.func95,Tryz.ntmps95
 go_wp2
 go_loopg [1,5] k (fun kq v1 v5 w'=>∃ (x1_1:Int) (x5_1:Int),v1 = .int .i64 x1_1∧v5 = .int .i64 x5_1∧Aside0 (Y41.l0 kq x1_1 x5_1=some r)∧Aside0 (kq≤k)∧Drawn0 w w')
 case atStart=>exact ⟨(a1),(0),(z1_),(z1_),H',⟨Nat.le_refl _⟩,z5_⟩
 case round =>
  clear H'
  try clear p2
  obtain ⟨x1_1,x5_1,rfl,rfl,HA,HK1,⟨m1,rfl⟩⟩:=hrel
  cases gk with
  | zero=>exact absurd HA.out (by simp [Y41.l0])
  | succ k1 =>
   have H:=HA.out
   clear HA
   simp only [Y41.l0] at H
   by_cases c3:x5_1<0
   ·rw [if_pos c3] at H
    exact nO H
   ·rw [if_neg c3] at H
    have c3b0:decide (x5_1<0)=false:=dF c3
    clear c3
    obtain rfl:=sI H
    go_wp2
    go_ret
    exact ⟨z1_,z5_⟩

end Go.Proofs.YtelecnmflodkkaaGreatDoor.P
